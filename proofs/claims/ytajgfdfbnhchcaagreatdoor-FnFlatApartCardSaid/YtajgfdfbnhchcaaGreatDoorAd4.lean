/- Lemmas of the proof. No conditions. -/
import Derived.Test.YtajgfdfbnhchcaaGreatDoorAd3
set_option maxRecDepth 100000
set_option maxHeartbeats 4000000
set_option linter.unusedVariables false
set_option linter.unusedSimpArgs false
open Go.Proofs.Tryz
namespace Go.Lg
open Go Go.Ev
section
variable {E:dA}{X:dM}{Γ:ij}{l:Kn}{L L' R:bE}{K:KO}{x y o:Operand}{t t2:TypeId}{s:St}{b e i:Nat}{enc:ak UInt8 1}{z u:List UInt8}{k:IntKind}
theorem WO.ale [ht:TT E t e 1 UInt8 enc](hx:Ev l x (.slice (some ⟨b,0,none⟩) z.length eH))(ho:Ev l o (.int k (i:Int)))(hm:It.box b (ai z) e false∈L)(hj:i<z.length)
  (h:∀m,K (.slice (some ⟨b,i,none⟩) (z.length-i) (eH+i)) L m m (λc=>c=b) Z):WO E X Γ l (.slice t x (some o) none none) L K:=λtm s hl hi=>by
 obtain⟨zz,hr,_⟩:=ht.h;obtain⟨hu,ii,z1,J0,ua,ZC,J2,hi5,hi6,hi7⟩:=hr.h;have iW:size E e=some 1:=by unfold size;rw[J0];simp[ua]
 have h1:=hi.may hm (b:=b) (by simp[It.aY]);have hg:s.heap.get b=some (.cells (ai z) e false):=hi.it _ hm;have alf:V9 l z.length (some o) none i z.length:=⟨.inr ⟨o,k,rfl,ho⟩,.inl ⟨rfl,rfl⟩,ag⟩;refine fS.pure (v:=.slice (some ⟨b,i,none⟩) (z.length-i) (eH+i)) (s':=s.aV b) (λcall=>?_) ⟨L,(λc=>c=b),Z,hi.aV h1,cX h1.1 rfl,by rw[cw];exact h _⟩;show kj E s t (aM tm x) (dB (aM tm) (some o)) (dB (aM tm) none) none=_;rw[hx.eval hl];unfold kj;rw[hu];show eg (Ii (some ⟨b,0,none⟩)) (ob (size E e) λsz=>bo (Nat.ble eH eH) (bo (nO (dB (aM tm) (some o)) (dB (aM tm) none) none) (nP (some ⟨b,0,none⟩) eH s) (iE e sz (some ⟨b,0,none⟩) z.length eH (dB (aM tm) (some o)) (dB (aM tm) none) none s)) _)=_;rw[iW];show iE e 1 (some ⟨b,0,none⟩) z.length eH (dB (aM tm) (some o)) (dB (aM tm) none) none s=_;unfold iE;show s.row b (λc' e' w s=>eg (bo w true (Nat.beq 1 1)&&Nat.beq e' e&&Nat.beq 0 (Nat.mul (Nat.sub eH eH) 1)&&Nat.ble (Nat.add 0 (Nat.mul z.length 1)) (ek c')) (bounds z.length z.length (dB (aM tm) (some o)) (dB (aM tm) none) none λl h _=>_))=_;unfold St.row St.look;rw[hg];simp only[cr];rw[show Nat.mul (Nat.sub eH eH) 1=0 by show(eH-eH)*1=0;omega,dh,bh,lL,il (show Nat.add 0 (Nat.mul z.length 1)<=z.length*1 by show 0+z.length*1<=_;omega)];rw[lL];show bounds z.length z.length _ _ none _=_;rw[pM alf hl (cA _)];show bo (Nat.beq i 0||Nat.ble (Nat.succ i) z.length) (aL (Value.slice (some ⟨b,0+i*1,none⟩) (z.length-i) (eH+i)) (s.aV b)) _=_;rw[il (show Nat.succ i<=z.length from hj),Bool.or_true,z7,nF];rfl
theorem WO.aik {c:Nat}[ht:TT E t e 1 UInt8 enc](he:∀c,ak.cells c=[bv c])(hx:Ev l x (.slice (some ⟨b,i,none⟩) (z.length-i) c))(hy:Ev l y (sv u))(hu:yQ (.box b (ai z) e false) (.box b (ai (z.take i++u++z.drop (i+u.length))) e false) L L')(hj:i+u.length<=z.length)
  (h:∀m,K (iv (u.length:Int)) L' m m (λc=>c=b) (λc=>c=b)):WO E X Γ l (.call ⟨.builtin .copy,⟨[x,y]⟩,⟨[t,t2]⟩⟩) L K:=λtm s hl hi=>by
 obtain⟨zz,hr,_⟩:=ht.h;obtain⟨UI,ii,z1,J0,ua,ZC,J2,hi5,hi6,hi7⟩:=hr.h;have iW:size E e=some 1:=by unfold size;rw[J0];simp[ua]
 obtain⟨R,p1,p2⟩:=hu.cR;have hm:It.box b (ai z) e false∈L:=p1.mem_iff.2 (by simp);have h1:=hi.may hm (b:=b) (by simp[It.aY]);have hg:s.heap.get b=some (.cells (ai z) e false):=hi.it _ hm;have hrd:=hi.aV h1;have dK:fP i (strCells u) (ai z)=some (ai (z.take i++u++z.drop (i+u.length))):=by
  rw[pA u he,xw _ _ _ (by rw[bh,bh];omega),nc,nc,<-pK,<-su,bh];simp
 have hlu:(strCells u).length=u.length:=by rw[pA u he,bh,z7]
 refine fS.pure (v:=iv (u.length:Int)) (s':=(s.aV b).put b (some (.cells (ai (z.take i++u++z.drop (i+u.length))) e false))) (λcall=>?_) ⟨L',(λc=>c=b),(λc=>c=b),hrd.put hu rfl rfl (by show T.get (St.heap _) b=_;simp),(kJ.trans (cX h1.1 rfl) (jZ (by simpa using h1.1) rfl rfl)),by rw[dZ,cw];exact h _⟩;show copyV E s [t,t2] (aM tm x) (aM tm y)=_;rw[hx.eval hl,hy.eval hl];show Ev.elemOf E (jb [t,t2] 0) (λe=>ob (size E e) λsz=>Kr s sz (sv u) λk new s=>Aa sz b i (z.length-i) k new s)=_;unfold Ev.elemOf;show ob (some t) _=_;rw[cr,UI];show ob (size E e) _=_;rw[iW];show eg (Nat.beq 1 1) (Aa 1 b i (z.length-i) (ek u) (strCells u) s)=_;rw[dh];show Aa 1 b i (z.length-i) u.length (strCells u) s=_;unfold Aa;have BR:jv (strCells u)=true:=by rw[pA u he];exact(mv _).2 (Ar _)
 have RV:CN u.length (z.length-i)=u.length:=by
  show bo (Nat.ble u.length (z.length-i)) u.length (z.length-i)=_;rw[il ag];rfl
 have htk:iS (Nat.mul u.length 1) (strCells u)=some (strCells u):=by
  have:=sw (cs:=strCells u) (o:=0) (m:=u.length) (c:=strCells u) (by rw[CB];exact qG ag) hlu;rw[show Nat.mul u.length 1=u.length from z7 _];exact this
 rw[BR,eD,RV,htk,cr];unfold St.row St.look;rw[hg];simp only[cr];rw[dK];rfl
end
end Go.Lg
namespace Go.Pl
open Go Go.Ev Go.Lg Go.Proofs
section
variable {st:ar}{s:aA}
theorem eb.of {t:bX}(h:fg st t=true):eb t:=by
 unfold fg at h;simp only[bU,bQ,fR] at h;obtain⟨⟨⟨h1,h2⟩,h3⟩,_⟩:=h;exact⟨h3,h1,by have:=Pg.fq t.many;omega⟩
def B0 (st:ar)(s:aA):Bool:=decide (s=[])||match eP s with
 |none=>false
 |some n=>fg st n.aS
theorem Er (st:ar)(t:bX):oz st t=(fg st t&&(iq st t).all (B0 st)):=rfl
theorem Mm (h:decide (s=[])=true):B0 st s=true:=by unfold B0;rw[h];rfl
theorem Ty (h:decide (s=[])=false)(hn:eP s=none):B0 st s=false:=by unfold B0;rw[h,hn];rfl
theorem HA {n:iG}(h:decide (s=[])=false)(hn:eP s=some n):B0 st s=fg st n.aS:=by unfold B0;rw[h,hn];rfl
theorem Lt (s:St)(v:SA)(st:ar)(h:dv 100000 st)(t:bX)(hr:cK s v st):bP 119 [fD v st,tv t] s (iH v) (.bool (oz st t)):=by
 have tL:=Rd.Eg hr;have uj:=Rd.off hr;have uq:=Rd.Cr hr;cases fF:fg st t with
 |false=>
  have hn:(!fg st t)=true:=by rw[fF];rfl
  rw[Er,fF,Kj];refine aU f119 ?_;(repeat' (first|refine' a7|refine' OE|refine' aw|fail))
  (refine' ax);rfl
 |true=>
  have hn:(!fg st t)=false:=by rw[fF];rfl
  have ht:=eb.of fF;obtain⟨hl,du⟩:=lj h ht;have hm:=ht.mn;rw[Er,fF,yf];refine aU f119 ?_;(repeat' (first|refine' a7|refine' OE|refine' aeh|refine' aw|fail))
  generalize iq st t=w at *
  refine W.bN (λk l L=>∃(i bs bt:Nat),Le [(2,bc bs),(3,bc bt),(5,.slice gx w.length gy),(6,iv i)] l/\cz [.aN (.slice gx w.length gy) 9 1 (ai w),.box bs (rP v st) 81 false,.box bt (hU t) 85 false] L/\k=w.length-i/\i<=w.length/\w.all (B0 st)=(w.drop i).all (B0 st))
   (λl L=>w.all (B0 st)=true) w.length ⟨0,_,_,bk,au,ag,ag,rfl⟩ ?_ ?_
  .rintro k l L ⟨i,bs,bt,jG,hL,rfl,h1,h2⟩;refine W.le ?_ jG hL;clear jG hL;by_cases hi:i<w.length
   .have Q7:=du _ (aJ hi ak.ah);rw[drop_cons hi,List.all_cons] at h2;cases XZ:eP (w.getD i ak.ah) with
    |none=>
     have hng:∀s,bP 123 [sv (w.getD i ak.ah)] s [] (ve none):=λs=>by
      have:=tM s _ (show(w.getD i ak.ah).length<=100000 by omega);rwa [XZ] at this
     (repeat' (first|refine' a7|((with_reducible apply WO.bI);exact aE;(first|exact λs=>hng s);intro _ _ _ _)|refine' aw|fail))
     all_goals try exact pq
     .refine⟨_,?_,i+1,_,_,bk,au,rfl,ag,by rw[h2,Mm hc];rfl⟩;omega
     .have hn:w.all (B0 st)=false:=by rw[h2,Ty hc XZ];rfl
      rw[hn];(refine' ax);rfl
    |some n=>
     have hng:∀s,bP 123 [sv (w.getD i ak.ah)] s [] (ve (some n)):=λs=>by
      have:=tM s _ (show(w.getD i ak.ah).length<=100000 by omega);rwa [XZ] at this
     (repeat' (first|refine' a7|((with_reducible apply WO.bI);exact aE;(first|exact λs=>hng s);intro _ _ _ _)|refine' OE|refine' aw|fail))
     all_goals try exact pq
     .refine⟨_,?_,i+1,_,_,bk,au,rfl,ag,by rw[h2,Mm hc];rfl⟩;omega
     .have j3:fg st n.aS=false:=j3;have hn:w.all (B0 st)=false:=by rw[h2,HA (by assumption) XZ,j3];rfl
      rw[hn];(refine' ax);rfl
     .have j3:fg st n.aS=true:=j3;refine⟨_,?_,i+1,_,_,bk,au,rfl,ag,by rw[h2,HA (by assumption) XZ,j3];rfl⟩;omega
   .have fE:i=w.length:=by omega
    subst fE;rw[iD] at h2;(refine' cU)
    all_goals first|(exfalso;omega;done)|exact h2
  .rintro l L h1;refine aq ?_;refine W.le ?_ (Le.nil _) (cz.nil _);(refine' cU)
   (refine' ax)
   exact fI Value.bool h1.symm
end
structure j5 (n:iG):Prop where
 tr:eb n.aS
 sz:0<=n.size/\n.size<=10000
theorem j5.of {n:iG}(h:ez n=true):j5 n:=by
 obtain⟨_,h1,_,h2,h3,h4,_⟩:=Pg.lb h;exact⟨⟨h4,h2,by have:=Pg.fq n.aS.many;omega⟩,ag⟩
theorem j5.no:j5 bu:=⟨⟨by decide,by decide,by decide⟩,by decide⟩
theorem Es (many:Int):∀(L:List aA)(k:Nat)(out z:aA),pb many k L out=some z->(∀s∈L,s.length<=3000)->z.length<=out.length+L.length*3000
 |[],k,out,z,h,_=>by cases h;simp
 |s::L,k,out,z,h,hs=>by
  rw[pb] at h;split at h
  .cases h
  .have:=Es many L (k+1) _ z h (λx hx=>hs x (by simp[hx]));have:=hs s (by simp);rw[bJ] at *
   rw[cY];omega
theorem X0 {st:ar}(h:dv 100000 st){t:bX}(ht:eb t):((oA st t).getD []).length<=50000:=by
 obtain⟨h1,h2⟩:=lj h ht;have hm:=ht.mn;cases hb:oA st t with
 |none=>simp
 |some z=>
  have:=Es t.many _ 0 [] z hb h2;rw[h1] at this;simp at this⊢;omega
theorem lZ (s:St)(v:SA)(st:ar)(h:dv 100000 st)(n:iG)(hr:cK s v st):kr a8 bj 171 [fD v st,nv n] s (iH v) 200 ((bK st n).getD []) (bK st n).isSome:=by
 have tL:=Rd.Eg hr;have uj:=Rd.off hr;have uq:=Rd.Cr hr;by_cases hc:(!ez n||decide (n.kind≠2)||!fg st n.aS)=true
 .have he:bK st n=none:=by unfold bK;rw[if_pos hc]
  rw[he];refine aU f171 ?_;(repeat' (first|refine' a7|refine' OB|refine' OE|refine' aw|fail))
  all_goals first|((refine' fp)<;>rfl)|(exfalso;simp_all;done)
 .have vy:ez n=true/\n.kind=2/\fg st n.aS=true:=by simpa[and_assoc] using hc
  obtain⟨k1,k2,k3⟩:=vy;have g1:(!ez n)=false:=by rw[k1];rfl
  have g2:(!decide (n.kind=2))=false:=by simp[k2]
  have g3:(!fg st n.aS)=false:=by rw[k3];rfl
  have ht:=eb.of k3;have uv:=(j5.of k1).sz;have anu:=(Pg.lb k1).2.1;have O8:=X0 h ht;have he:bK st n=match oA st n.aS with
    |none=>none
    |some s=>if(s.length:Int)≠n.size then none else iL s:=by unfold bK;rw[if_neg hc];rfl
  refine aU f171 ?_;(repeat' (first|refine' a7|refine' OB|refine' OE|((with_reducible apply WO.mj);exact aE;(first|exact λs hr=>Mh s _ _ (by assumption) _ (by assumption) hr|exact λs hr=>Mh s _ _ (by assumption) ⟨⟨_,_,_,_,_⟩,_,_⟩ (by assumption) hr);exact eC;intro _ _ _ _)|((with_reducible apply WO.yS);exact aE;(first|exact λs=>FP s _ ag);intro _ _ abh abi _ _)|refine' aw|fail))
  .obtain⟨z,hz⟩:=ju.1 um;rw[hz] at he j3;rw[he];simp only;rw[if_pos (show(z.length:Int)≠n.size from j3)];(refine' fp)<;>rfl
  .obtain⟨z,hz⟩:=ju.1 um;rw[hz] at he j3;rw[he];simp only;rw[if_neg (λhx:(z.length:Int)≠n.size=>hx j3)];(refine' fp)<;>rw[hz]<;>rfl
  .have hz:oA st n.aS=none:=by cases hb:oA st n.aS<;>simp_all
   rw[hz] at he;rw[he];(refine' fp)<;>rfl
theorem DJ (s:St)(v:SA)(st:ar)(h:dv 100000 st)(n:iG)(hn:j5 n)(hr:cK s v st):bP 80 [fD v st,nv n] s (iH v) (sv (bA st n)):=by
 have tL:=Rd.Eg hr;have uj:=Rd.off hr;have uq:=Rd.Cr hr;have ht:=hn.tr;have iW:=hn.sz;obtain⟨hl,du⟩:=lj h ht;have hm:=ht.mn;refine aU f80 ?_;(refine' Xl)
 unfold bA;generalize iq st n.aS=w at *
 refine W.bN (λk l L=>∃(i bt:Nat)(z:aA),Le [(3,bc bt),(6,.slice gx w.length gy),(5,sv z),(7,iv i)] l/\cz [.aN (.slice gx w.length gy) 9 1 (ai w),.box bt (xx n) 130 false] L/\k=w.length-i/\i<=w.length/\z.length<=i*3012/\qd n.size 0 w []=qd n.size i (w.drop i) z)
  (λl L=>Le [(5,sv (qd n.size 0 w []))] l/\cz [] L) w.length ⟨0,_,[],bk,au,ag,ag,by simp,rfl⟩ ?_ ?_
 .rintro k l L ⟨i,bt,z,jG,hL,rfl,h1,h2,h3⟩;refine W.le ?_ jG hL;clear jG hL;by_cases hi:i<w.length
  .have Q7:=du _ (aJ hi ak.ah);rw[drop_cons hi,qd] at h3;have hlo:gf n.size i<=12/\ -10000<=gf n.size i:=by unfold gf;omega
   have hzl:(ir (gf n.size i-((w.getD i ak.ah).length:Int))).length<=12:=by unfold ir;rw[ry];omega
   (repeat' (first|refine' a7|refine' aho|refine' Lp|refine' aw|fail))
   .refine⟨_,?_,i+1,_,_,bk,au,rfl,ag,?_,h3⟩
    .omega
    .simp only[bJ];omega
   .exfalso;omega
  .have fE:i=w.length:=by omega
   subst fE;rw[iD] at h3;have h3:qd n.size 0 w []=z:=h3;(refine' cU)
   all_goals first|(exfalso;omega;done)|(rw[h3];exact⟨bk,au⟩)
 .rintro l L ⟨jG,hL⟩;refine aq ?_;refine W.le ?_ jG hL;(refine' cU)
  (refine' ax);rfl
theorem Bw (s:St)(v:SA)(st:ar)(h:dv 100000 st)(t:bX)(ht:eb t)(hr:cK s v st):fa a8 bj 79 [fD v st,tv t] s (iH v) 130 (fm st t):=by
 have tL:=Rd.Eg hr;have uj:=Rd.off hr;have uq:=Rd.Cr hr;obtain⟨hl,du⟩:=lj h ht;have hm:=ht.mn;refine aU f79 ?_;(refine' Xl)
 unfold fm;generalize iq st t=w at *
 refine W.bN (λk l L=>∃(i:Nat)(a2:aK)(c2:Nat)(q:List iG),Le [(6,.slice gx w.length gy),(5,.slice a2 q.length c2),(7,iv i)] l/\cz [.aN (.slice a2 q.length c2) 130 10 (ai q),.aN (.slice gx w.length gy) 9 1 (ai w)] L/\k=w.length-i/\i<=w.length/\q=(w.take i).map λs=>(eP s).getD bu)
  (λl L=>∃(a2:aK)(c2:Nat),Le [(5,.slice a2 (w.map λs=>(eP s).getD bu).length c2)] l/\cz [.aN (.slice a2 (w.map λs=>(eP s).getD bu).length c2) 130 10 (ai (w.map λs=>(eP s).getD bu))] L) w.length ⟨0,_,_,[],bk,au,ag,ag,rfl⟩ ?_ ?_
 .rintro k l L ⟨i,a2,c2,q,jG,hL,rfl,h1,h2⟩;refine W.le ?_ jG hL;clear jG hL;have hql:q.length<=16:=by rw[h2];simp;omega
  by_cases hi:i<w.length
  .have Q7:=du _ (aJ hi ak.ah);(repeat' (first|refine' a7|((with_reducible apply WO.bI);exact aE;(first|exact λs=>tM s _ ag);intro _ _ _ _)|refine' aw|fail))
   .refine⟨_,?_,i+1,_,_,q++[(eP (w.getD i ak.ah)).getD bu],bk,au,rfl,ag,?_⟩
    .omega
    .rw[h2,fA w ak.ah hi];simp
   .exfalso;omega
  .have fE:i=w.length:=by omega
   subst fE;rw[gX] at h2;subst h2;(refine' cU)
   all_goals first|(exfalso;omega;done)|exact⟨_,_,bk,au⟩
 .rintro l L ⟨a2,c2,jG,hL⟩;refine aq ?_;refine W.le ?_ jG hL;(refine' cU)
  (refine' lN);rfl
theorem AK {st:ar}{p:jt}{n:Int}:((below st p n).getD []).length<=4:=by
 cases hb:below st p n with
 |none=>simp
 |some w=>have:=(Pg.iP hb).1;simp;omega
theorem Et (s:St)(v:SA)(st:ar)(h:dv 100000 st)(t:bX)(hr:cK s v st):fa a8 bj 242 [fD v st,tv t] s (iH v) 83 (fG st t):=by
 have tL:=Rd.Eg hr;have uj:=Rd.off hr;have uq:=Rd.Cr hr;by_cases h0:t.depth=0
 .have hi:fG st t=[]:=by unfold fG;rw[if_pos (.inl h0)]
  rw[hi];refine aU f242 ?_;(refine' BV)
  all_goals first|(exfalso;simp_all;done)|((refine' lN);rfl)
 .cases hh:aI t.cy with
  |true=>
   have hi:fG st t=[]:=by unfold fG;rw[if_pos (.inr hh)]
   rw[hi];refine aU f242 ?_;(refine' BV)
   all_goals first|(exfalso;simp_all;done)|((refine' lN);rfl)
  |false=>
   have hi:fG st t=t.cy::if t.depth=2 then((below st t.cy 2).getD []).filter (λp=>!aI p) else []:=by
    unfold fG;rw[if_neg];rintro(h|h)
    .exact h0 h
    .rw[hh] at h;cases h
   rw[hi];by_cases h2:t.depth=2
   .rw[if_pos h2];have O8:=AK (st:=st) (p:=t.cy) (n:=2);refine aU f242 ?_;(repeat' (first|refine' a7|refine' GW|refine' aaB|refine' aw|fail))
    all_goals first|(exfalso;simp_all;done)|skip
    generalize(below st t.cy 2).getD []=w at *
    refine W.bN (λk l L=>∃(i:Nat)(a2:aK)(c2:Nat)(q:cW),Le [(6,.slice GZ w.length G1),(5,.slice a2 q.length c2),(8,iv i)] l/\cz [.aN (.slice a2 q.length c2) 83 5 (ai q),.aN (.slice GZ w.length G1) 83 5 (ai w)] L/\k=w.length-i/\i<=w.length/\q.length<=i+1/\q=t.cy::(w.take i).filter λp=>!aI p)
     (λl L=>∃(a2:aK)(c2:Nat),Le [(5,.slice a2 (t.cy::w.filter λp=>!aI p).length c2)] l/\cz [.aN (.slice a2 (t.cy::w.filter λp=>!aI p).length c2) 83 5 (ai (t.cy::w.filter λp=>!aI p))] L) w.length ⟨0,_,_,[]++[t.cy],bk,au,ag,ag,by simp,rfl⟩ ?_ ?_
    .rintro k l L ⟨i,a2,c2,q,jG,hL,rfl,h3,h4,h5⟩;refine W.le ?_ jG hL;clear jG hL;by_cases hi:i<w.length
     .have e:=fA w ak.ah hi;(refine' BV)
      .refine⟨_,?_,i+1,_,_,q++[w.getD i ak.ah],bk,au,rfl,ag,?_,?_⟩
       .omega
       .simp;omega
       .rw[h5,e,pW,tU,if_pos (by rw[j3];rfl)];rfl
      .refine⟨_,?_,i+1,_,_,q,bk,au,rfl,ag,ag,?_⟩
       .omega
       .rw[h5,e,pW,tU,if_neg (by rw[j3];simp)];simp
      .exfalso;omega
     .have fE:i=w.length:=by omega
      subst fE;rw[gX] at h5;subst h5;(refine' BV)
      all_goals first|(exfalso;omega;done)|exact⟨_,_,bk,au⟩
    .rintro l L ⟨a2,c2,jG,hL⟩;refine aq ?_;refine W.le ?_ jG hL;(refine' cU)
     (refine' lN);rfl
   .rw[if_neg h2];refine aU f242 ?_;(refine' BV)
    all_goals first|(exfalso;simp_all;done)|((refine' lN);rfl)
theorem Mn (s:St)(v:SA)(st:ar)(h:dv 100000 st)(t:bX)(depth level:Int)(hr:cK s v st):fa a8 bj 243 [fD v st,tv t,iv depth,iv level] s (iH v) 83 (iT st t depth level):=by
 have tL:=Rd.Eg hr;have uj:=Rd.off hr;have uq:=Rd.Cr hr;unfold iT;refine aU f243 ?_;(repeat' (first|refine' a7|refine' aee|refine' aaB|refine' aw|fail))
 .rw[if_pos (by assumption)];(refine' lN);rfl
 .rw[if_neg (by simp_all),if_pos (by assumption)];(refine' lN);rfl
 .have hn:below st t.cy depth=none:=by cases hb:below st t.cy depth<;>simp_all
  rw[if_neg (by simp_all),if_neg (by assumption),hn];(refine' lN);rfl
 .obtain⟨w,hw⟩:=ju.1 j3;rw[if_neg (by simp_all),if_neg (by assumption),hw];(refine' lN);rfl
theorem X1 (s:St)(v:SA)(st:ar)(h:dv 100000 st)(t:bX)(o:cW)(ho:qc 200 st [t.cy] []=some o)(hr:cK s v st):fa a8 bj 202 [fD v st,tv t] s (iH v) 83 o:=by
 have tL:=Rd.Eg hr;have uj:=Rd.off hr;have uq:=Rd.Cr hr;refine aU f202 ?_;(repeat(first|refine' xz|refine' aw|fail))
 refine W.bN (λk l L=>∃(f bs:Nat)(q r:cW)(a c a2 c2:_),Le [(2,bc bs),(5,.slice a q.length c),(6,.slice a2 r.length c2)] l/\cz [.aN (.slice a q.length c) 83 5 (ai q),.aN (.slice a2 r.length c2) 83 5 (ai r),.box bs (rP v st) 81 false] L/\k=f/\f<=200/\q.length<=200-f/\r.length<=1+4*(200-f)/\qc f st r q=some o)
  (λl L=>∃(a:_)(c:_),Le [(5,.slice a o.length c)] l/\cz [.aN (.slice a o.length c) 83 5 (ai o)] L) 200 ⟨200,_,[],[t.cy],_,_,_,_,bk,au,rfl,ag,by simp,by simp,ho⟩ ?_ ?_
 .rintro k l L ⟨f,bs,q,r,a,c,a2,c2,jG,hL,rfl,h1,h2,h3,h4⟩;refine W.le ?_ jG hL;clear jG hL;obtain⟨f,rfl⟩:∃g,k=g+1:=by
   cases k with
   |zero=>cases h4
   |succ g=>exact⟨g,rfl⟩
  cases r with
  |nil=>
   have h4:q=o:=by injection h4
   subst h4;(refine' cU)
   all_goals first|(exfalso;simp_all;done)|exact⟨_,_,bk,au⟩
  |cons p r=>
   rw[qc] at h4;rw[cY] at h3;have O8:=AK (st:=st) (p:=p) (n:=p.level);cases hh:aI p with
   |true=>
    rw[hh] at h4;have h4:qc f st r q=some o:=h4;(refine' BV)
    .refine⟨_,?_,f,_,q,_,_,_,_,_,bk,au,rfl,ag,ag,?_,h4⟩
     .omega
     .show r.length<=_;omega
    .exfalso;simp_all
   |false=>
    rw[hh] at h4;have h4:qc f st (if 0<p.level then(below st p p.level).getD []++r else r) (q++[p])=some o:=h4;(repeat' (first|refine' a7|refine' GW|refine' aaB|refine' aw|fail))
    .have j3:0<p.level:=j3;rw[if_pos j3] at h4;refine⟨_,?_,f,_,_,_,_,_,_,_,bk,au,rfl,ag,?_,?_,h4⟩
     .omega
     .simp;omega
     .simp at O8⊢;omega
    .have j3:p.level<=0:=j3;rw[if_neg ag] at h4;refine⟨_,?_,f,_,_,_,_,_,_,_,bk,au,rfl,ag,?_,?_,h4⟩
     .omega
     .simp;omega
     .show r.length<=_;omega
    .exfalso;simp_all
 .rintro l L ⟨a,c,jG,hL⟩;refine aq ?_;refine W.le ?_ jG hL;(refine' cU)
  (refine' lN);rfl
section
variable {E:dA}{X:dM}{Γ:ij}{l:Kn}{L L2 R:bE}{K:KO}{f:FuncId}{xs:List Operand}{ts:Array TypeId}{vs:aQ}{r:Value}{A:List Nat}{v:SA}{st:ar}{s:St}{Lm L0:bE}
theorem WO.ah6 (hx:kL l xs vs)(h:∀s,fH E X f vs s Lm [] λr' L'=>r'=r/\L'=L0)(hp:oO Lm L R)(k:∀m m',kq L m->m<=m'->K r (L0++R) m m' (λi=>i∈([]:List Nat)\/i∈Lm.flatMap It.aY\/(m<=i/\i<m')) (λi=>i∈Lm.flatMap It.aY\/(m<=i/\i<m'))):WO E X Γ l (.call ⟨.value (.func f),⟨xs⟩,ts⟩) L K:=
 WO.call (Lm:=Lm) (R:=R) hx hp.cR (λs hi b hb=>by cases hb) (λs _=>h s) (by rintro r' L' m m' ho hm ⟨rfl,rfl⟩;exact k m m' ho hm)
structure zo (s:St)(v:SA)(st:ar):Prop where
 a:cK s v st
 g:bO s v.g st.cI.length 5 (ai st.cI)
 d:bO s v.d st.ej.length 5 (ai st.ej)
structure aaw (Γ:ij)(L:bE)(v:SA)(st:ar):Prop where
 a:re Γ L v st
 g:jY Γ L v.g st.cI.length 5 (ai st.cI)
 d:jY Γ L v.d st.ej.length 5 (ai st.ej)
abbrev FT (v:SA):List Nat:=iH v++(aj v.g++aj v.d)
theorem aaw.row (h:aaw Γ L v st)(hi:Inv Γ s L):zo s v st/\∀b∈FT v,Fi Γ s b:=by
 refine⟨⟨(h.a.row hi).1,(h.g.row hi).1,(h.d.row hi).1⟩,λb hb=>?_⟩;rcases eX.1 hb with hb|hb
 .exact(h.a.row hi).2 b hb
 .rcases eX.1 hb with hb|hb
  .exact(h.g.row hi).2 b hb
  .exact(h.d.row hi).2 b hb
abbrev Mo (E:dA)(X:dM)(f:FuncId)(vs:aQ)(s:St)(A:List Nat)(cQ:ar)(mk:Value->Value):Prop:=fH E X f vs s [] A λr L=>∃v':SA,r=mk (fD v' cQ)/\L=eO v' cQ
theorem WO.WZ {cQ:ar}{mk:Value->Value}(hx:kL l xs vs)(h:∀s,zo s v st->Mo E X f vs s (FT v) cQ mk)(hh:aaw Γ L v st)(k:∀m m' v',kq L m->m<=m'->K (mk (fD v' cQ)) (eO v' cQ++L) m m' (λi=>i∈FT v\/i∈([]:bE).flatMap It.aY\/(m<=i/\i<m')) (λi=>i∈([]:bE).flatMap It.aY\/(m<=i/\i<m'))):WO E X Γ l (.call ⟨.value (.func f),⟨xs⟩,ts⟩) L K:=
 WO.call (Lm:=[]) (R:=L) hx (.refl _) (λs hi=>(hh.row hi).2) (λs hi=>h s (hh.row hi).1) (by rintro r' L' m m' ho hm ⟨v',rfl,rfl⟩;exact k m m' v' ho hm)
theorem WO.aeR {cQ:ar}{mk:Value->Value}(hx:kL l xs vs)(h:∀s,Mo E X f vs s [] cQ mk)(k:∀m m' v',kq L m->m<=m'->K (mk (fD v' cQ)) (eO v' cQ++L) m m' (λi=>i∈([]:List Nat)\/i∈([]:bE).flatMap It.aY\/(m<=i/\i<m')) (λi=>i∈([]:bE).flatMap It.aY\/(m<=i/\i<m'))):WO E X Γ l (.call ⟨.value (.func f),⟨xs⟩,ts⟩) L K:=
 WO.call (Lm:=[]) (R:=L) hx (.refl _) (λs hi b hb=>by cases hb) (λs _=>h s) (by rintro r' L' m m' ho hm ⟨v',rfl,rfl⟩;exact k m m' v' ho hm)
theorem jY.apart {a:aK}{n sz:Nat}{cs:aQ}(hh:jY Γ R a n sz cs)(hi:Inv Γ s (Lm++R)):∀b∈aj a,b∉Lm.flatMap It.aY:=by
 have BS:=hi.nd;rw[CD,qP] at BS;have aeS:∀{x:It},x∈R->∀b∈x.aY,b∉Lm.flatMap It.aY:=λhx b hb hm=>BS.2.2 b hm b (ph.2 ⟨_,hx,hb⟩) rfl
 intro b hb;cases hh with
 |rd h=>
  intro hm;obtain⟨x,hx,hxb⟩:=ph.1 hm;have h1:=(hi.lt x (cP _ hx) b hxb).2;have h2:=Rd.lt h b hb;rcases h1 with h1|h1
  .omega
  .exact h.M b hb h1
 |aN h=>exact aeS h b (by
   cases a with
   |none=>simp[aj] at hb
   |some a=>simpa[It.aY,na,aj] using hb)
 |sub h hr lB=>
  rename_i c e n0 a0 cs0;exact aeS h b (by
   have:=lB b hb;cases a0 with
   |none=>simp[aj] at this
   |some a=>simpa[It.aY,na,aj] using this)
 |box h ha hn=>
  subst ha;exact aeS h b (by simpa[It.aY,aj] using hb)
theorem WO.ael {cQ:ar}{ok:Bool}{mk:Value->Value}{a:aK}{n sz:Nat}{cs:aQ}(hx:kL l xs vs)(h:∀s,bO s a n sz cs->(∀b∈aj a,b∉(eO v st).flatMap It.aY)->eQ E X f vs s (aj a) v st cQ ok mk)(hp:oO (eO v st) L R)(hh:jY Γ R a n sz cs)(k:∀m m' v',kq L m->m<=m'->(ok=false->v'=v)->K (mk (fD v' cQ)) (eO v' cQ++R) m m' (λi=>i∈aj a\/i∈(eO v st).flatMap It.aY\/(m<=i/\i<m')) (λi=>i∈(eO v st).flatMap It.aY\/(m<=i/\i<m'))):WO E X Γ l (.call ⟨.value (.func f),⟨xs⟩,ts⟩) L K:=
 WO.call (Lm:=eO v st) (R:=R) hx hp.cR (λs hi=>(hh.row (hi.cR hp.cR|>.sub ⟨R,.refl _,nK _ _⟩)).2) (λs hi=>h s (hh.row (hi.cR hp.cR|>.sub ⟨R,.refl _,nK _ _⟩)).1 (jY.apart hh (hi.cR hp.cR))) (by rintro r L' m m' ho hm ⟨v',hv,rfl,rfl⟩;exact k m m' v' ho hm hv)
theorem ag9 {rs:List ResultVar}{x:Ex}{v':SA}{cQ:ar}{mk:Value->Value}{ws:aQ}(hx:x= .normal\/x= .ret)(hr:qi E l L rs ws)(hL:cz (eO v' cQ) L)(hv:gB ws=mk (fD v' cQ)):
  uW E rs (λr L=>∃v':SA,r=mk (fD v' cQ)/\L=eO v' cQ) x l L:=⟨hx,ws,_,hr,hL,v',hv,rfl⟩
theorem akM {rs:List ResultVar}{x:Ex}{ws:aQ}(hx:x= .normal\/x= .ret)(hr:qi E l L rs ws)(hL:cz L0 L)(hv:gB ws=r):uW E rs (λr' L'=>r'=r/\L'=L0) x l L:=⟨hx,ws,_,hr,hL,hv,rfl⟩
end
theorem Mp:∀(new old B:aQ),old.length=new.length->Go.Ev.pr new (old++B)=some (new++B)
 |[],[],B,_=>rfl
 |[],_::_,B,h=>by cases h
 |x::new,[],B,h=>by cases h
 |x::new,y::old,B,h=>by
  show ob (Go.Ev.pr new (old++B)) (λr=>some (x::r))=_;rw[Mp new old B (by simpa using h)];rfl
theorem HB:∀(A new old B:aQ),old.length=new.length->fP A.length new (A++(old++B))=some (A++(new++B))
 |[],new,old,B,h=>Mp new old B h
 |x::A,new,old,B,h=>by
  show ob (fP A.length new (A++(old++B))) (λr=>some (x::r))=_;rw[HB A new old B h];rfl
theorem X2 {α:Type}{sz:Nat}{enc:ak α sz}(p:List α){i:Nat}(q:α)(hi:i<p.length):fP (i*sz) (ak.cells (sz:=sz) q) (ai (sz:=sz) p)=some (ai (sz:=sz) (p.set i q)):=by
 have h1:p=p.take i++(p.getD i (ak.ah (sz:=sz))::p.drop (i+1)):=by
  rw[aR,bd hi];simp
 have h2:p.set i q=p.take i++q::p.drop (i+1):=by rw[List.set_eq_take_append_cons_drop,if_pos hi]
 have hA:(ai (sz:=sz) (p.take i)).length=i*sz:=by rw[bh,cZ,BL (rU hi)]
 rw[h2]
 conv=>lhs;rw[h1]
 rw[rb,rb,dE,dE,<-hA];exact HB _ _ _ _ (by rw[ak.len,ak.len])
theorem X3 {l:aQ}(h:∀v∈l,flat v=true):jv l=true:=by
 induction l with
 |nil=>rfl
 |cons x l ih=>
  show bo (flat x) (jv l) false=true;rw[h x (by simp),ih (λy hy=>h y (by simp[hy]))];rfl
theorem WO.abj {E:dA}{X:dM}{Γ:ij}{l:Kn}{L L':bE}{K:KO}{x y:Operand}{t:TypeId}{a:aK}{n sz:Nat}{α:Type}{enc:ak α sz}{p:List α}{q:α}{i c e:Nat}[ht:iU E t sz](hx:Ev l x (de a i sz 0))(hy:Ev l y (.agg ⟨ak.cells (sz:=sz) q⟩))
  (hu:yQ (.aN (.slice a n c) e sz (ai (sz:=sz) p)) (.aN (.slice a n c) e sz (ai (sz:=sz) (p.set i q))) L L')(hi:i<p.length)(k:∀n,K (.tuple ⟨[]⟩) L' n n (λi=>i∈aj a) (λi=>i∈aj a)):WO E X Γ l (.store t x y) L K:=λtm s h1 h2=>by
 obtain⟨R,p1,p2⟩:=hu.cR;have hm:It.aN (.slice a n c) e sz (ai (sz:=sz) p)∈L:=p1.mem_iff.2 (by simp);rcases h2.it _ hm with⟨h3,h4⟩|⟨b,n',k',w,h3,h4,h5,h6⟩
 .cases h3
  have:=bh (sz:=sz) p;rw[h4] at this;have hp:=enc.pos;have:p.length*sz=0:=by simpa using this.symm
  rcases Nat.mul_eq_zero.1 this with h|h<;>omega
 .cases h3
  have du:=(h2.may hm (b:=b) (by simp[It.aY,na]));have hr:=h2.aV du;have dK:=X2 (enc:=enc) p q hi;refine fS.pure (v:=.tuple ⟨[]⟩) (s':=(s.aV b).put b (some (.cells (ai (sz:=sz) (p.set i q)) e w))) (λcall=>?_) ⟨L',(λi=>i∈aj (jP b)),(λi=>i∈aj (jP b)),hr.put hu rfl rfl ?_,(kJ.trans (cX du.1 (by simp[aj])) (jZ (by simpa using du.1) (by simp[aj]) (by simp[aj]))),by rw[dZ,cw];exact k _⟩
  .show(Fa (aM tm x) λb o=>mU E s t b o (aM tm y))=_;rw[hx.eval h1,hy.eval h1];show mU E s t b (0+(i*sz+0)) _=_;unfold mU St.row St.look;rw[h4];simp only[cr,ht.h,nF,wY];show eg (Nat.beq (ek (ak.cells (sz:=sz) q)) sz) (eg (jv (ak.cells (sz:=sz) q)) (ob (fP (i*sz) (ak.cells (sz:=sz) q) (ai (sz:=sz) p)) _))=_;rw[dK,dh,ak.len,lL,X3 (ak.fl (sz:=sz) q)];rfl
  .exact .inr ⟨b,_,_,w,rfl,by show T.get (St.heap _) b=_;simp,by rw[bh] at h5⊢;simpa using h5,h6⟩
theorem WO.aax {E:dA}{X:dM}{Γ:ij}{l:Kn}{L R:bE}{K:KO}{x y:Operand}{t t2:TypeId}{a a2:aK}{n sz:Nat}{α:Type}{enc:ak α sz}{e c c2:Nat}{q:List α}[ht:TT E t e sz α enc][ht2:TT E t2 e sz α enc](hx:Ev l x (.slice a ([]:List α).length c))(hy:Ev l y (.slice a2 n c2))(hr:Om (.aN (.slice a ([]:List α).length c) e sz (ai (sz:=sz) ([]:List α))) L R)(hs:jY Γ L a2 n sz (ai (sz:=sz) q))(hq:q.length=n)(hn:n<=1000000)
  (k:∀b b' a' c',kq L b->b<=b'->(∀i∈aj a',i∈aj a\/i=b)->K (.slice a' n c') (.aN (.slice a' n c') e sz (ai (sz:=sz) q)::R) b b' (λi=>i∈aj a2\/i∈aj a\/i=b) (λi=>i∈aj a\/i=b)):WO E X Γ l (.call ⟨.builtin .append,⟨[x,y]⟩,⟨[t,t2]⟩⟩) L K:=by
 subst hq;exact WO.QA (p:=([]:List α)) (q:=q) hx hy hr hs (by simpa using hn) k
theorem WO.QH {E:dA}{X:dM}{Γ:ij}{l:Kn}{L L':bE}{K:KO}{x y:Operand}{t:TypeId}{a:aK}{n sz:Nat}{α:Type}{enc:ak α sz}{p:List α}{q:α}{i c e:Nat}[ht:iU E t sz](hx:Ev l x (de a i sz 0))
  (hu:yQ (.aN (.slice a n c) e sz (ai (sz:=sz) p)) (.aN (.slice a n c) e sz (ai (sz:=sz) (p.set i q))) L L')(hy:Ev l y (.agg ⟨ak.cells (sz:=sz) q⟩))(hi:i<p.length)(k:∀n,K (.tuple ⟨[]⟩) L' n n (λi=>i∈aj a) (λi=>i∈aj a)):WO E X Γ l (.store t x y) L K:=WO.abj hx hy hu hi k
theorem WO.ahb {X:dM}{Γ:ij}{l:Kn}{L:bE}{K:KO}{x y:Operand}{t2:TypeId}{p q:jt}(hx:Ev l x (.agg ⟨rF p⟩))(hy:Ev l y (.agg ⟨rF q⟩))(k:∀n,K (.bool (decide (p=q))) L n n Z Z):WO a8 X Γ l (.binOp .eql 83 x y t2) L K:=by
 refine WO.agR hx hy rfl (xC _ _ _ _ _ _ _ _ _ _) λn=>?_
 have:=k n;obtain⟨a,b,c,d,e⟩:=p;obtain⟨a',b',c',d',e'⟩:=q;simpa[and_assoc] using this
theorem WO.ahc {X:dM}{Γ:ij}{l:Kn}{L:bE}{K:KO}{x y:Operand}{t2:TypeId}{p q:jt}(hx:Ev l x (.agg ⟨rF p⟩))(hy:Ev l y (.agg ⟨rF q⟩))(k:∀n,K (.bool !(decide (p=q))) L n n Z Z):WO a8 X Γ l (.binOp .neq 83 x y t2) L K:=by
 refine WO.adT hx hy rfl (xC _ _ _ _ _ _ _ _ _ _) λn=>?_
 have:=k n;obtain⟨a,b,c,d,e⟩:=p;obtain⟨a',b',c',d',e'⟩:=q;simpa[and_assoc] using this
section
variable {E:dA}{X:dM}{Γ:ij}{l:Kn}{L L2 R:bE}{K:KO}{f:FuncId}{xs:List Operand}{ts:Array TypeId}{vs:aQ}{v:SA}{st:ar}{s:St}
theorem WO.aem {cQ:ar}{ok:Bool}{mk:Value->Value}{a:aK}{n c e sz:Nat}{cs:aQ}(hx:kL l xs vs)(h:∀s,bO s a n sz cs->(∀b∈aj a,b∉(eO v st).flatMap It.aY)->FH s a n c e sz->eQ E X f vs s (aj a) v st cQ ok mk)(hp:oO (eO v st) L R)(hh:It.aN (.slice a n c) e sz cs∈R)(k:∀m m' v',kq L m->m<=m'->(ok=false->v'=v)->K (mk (fD v' cQ)) (eO v' cQ++R) m m' (λi=>i∈aj a\/i∈(eO v st).flatMap It.aY\/(m<=i/\i<m')) (λi=>i∈(eO v st).flatMap It.aY\/(m<=i/\i<m'))):WO E X Γ l (.call ⟨.value (.func f),⟨xs⟩,ts⟩) L K:=
 WO.call (Lm:=eO v st) (R:=R) hx hp.cR (λs hi=>((jY.aN hh).row (hi.cR hp.cR|>.sub ⟨R,.refl _,nK _ _⟩)).2)
   (λs hi=>by
    have ua:=hi.cR hp.cR|>.sub ⟨R,.refl _,nK _ _⟩;have h1:=(jY.aN hh).row ua;exact h s h1.1 (jY.apart (.aN hh) (hi.cR hp.cR)) (yN.slv (ua.it _ hh) λb hb=>(h1.2 b hb).1))
   (by rintro r L' m m' ho hm ⟨v',hv,rfl,rfl⟩;exact k m m' v' ho hm hv)
end
theorem abk {s:St}{Lm:bE}{A:List Nat}(h1:∀x∈Lm,x.ok s)(h2:∀x∈Lm,∀b∈x.aY,b<s.next)(h3:(Lm.flatMap It.aY).Nodup):Inv ⟨s,Lm.flatMap It.aY,A⟩ s Lm:=
 ⟨λ_ _ _=>rfl,cA _,h1,λx hx b hb=>⟨h2 x hx b hb,.inr (ph.2 ⟨x,hx,hb⟩)⟩,h3,λb hb=>.inl hb,λb hb=>.inl hb,λb hb=>.inl hb,λb hb=>.inl hb⟩
theorem Mq {α:Type}{sz:Nat}{enc:ak α sz}{fid g e:Nat}{fn:Func}{dec:aQ->Option (List α)}{cells:α->aQ}{sort:List α->List α}{apart:List α->Bool}(aeT:∀l:List α,dec (ai (sz:=sz) l)=some l)(I4:∀l:List α,l.flatMap cells=ai (sz:=sz) l)(KT:a8.fn.get fid=some fn)
  (hk:∀args s k,yu bj fid args s k=Ev.KW g sz dec cells sort apart args s)(c8:∀l,(sort l).length=l.length)(s:St)(a:aK)(c n:Nat)(p:List α)(h1:1<=n)(h2:n<=p.length)(h3:p.length<=100000)(J1:apart (p.take n)=true):
  Bi fid [.slice a n c,.func (.func g) ⟨[]⟩ ⟨[]⟩] s [.aN (.slice a p.length c) e sz (ai (sz:=sz) p)] [] λR L=>R= .tuple ⟨[]⟩/\L=[.aN (.slice a p.length c) e sz (ai (sz:=sz) (sort (p.take n)++p.drop n))]:=λi1 i2 i3=>by
 have hI:=abk (A:=[]) i1 i2 i3;rcases hI.it _ iV with⟨h4,_⟩|⟨b,n',k',w,h4,h5,h6,h7⟩
 .exfalso;have:=(Value.slice.inj h4).2.1;omega
 .cases h4
  have du:=hI.may iV (b:=b) (by simp[It.aY,na]);have hr:=hI.aV du;have rD:=bh (sz:=sz) p;have hle:n*sz<=p.length*sz:=Kc _ h2;have vv:(ai (sz:=sz) p).take 0++(sort (p.take n)).flatMap cells++(ai (sz:=sz) p).drop (0+n*sz)=ai (sz:=sz) (sort (p.take n)++p.drop n):=by
   rw[I4,nc,<-su,List.take_zero,pT,nF]
  refine sr.adN KT (s':=(s.aV b).put b (some (.cells (ai (sz:=sz) (sort (p.take n)++p.drop n)) e w))) (v:=.tuple ⟨[]⟩) (λk=>(hk _ _ _).trans ?_) ⟨_,hr.put (x':=.aN (.slice (jP b) p.length c) e sz (ai (sz:=sz) (sort (p.take n)++p.drop n))) yQ.here rfl rfl (Or.inr ⟨b,p.length,_,w,rfl,by show T.get (St.heap _) b=_;simp,?_,h7⟩),rfl,rfl⟩
  .show eg (Nat.beq g g&&Nat.ble 1 n&&Nat.ble n 1000000) (s.row b λc e w s=>eg (Nat.ble (0+n*sz) c.length)<| ob (dec ((c.drop 0).take (n*sz))) λl=>eg (apart l&&Nat.beq l.length n)<| aL (Value.tuple ⟨[]⟩) (s.put b (some (.cells (c.take 0++(sort l).flatMap cells++c.drop (0+n*sz)) e w))))=_;rw[lL,il h1,il (show n<=1000000 by omega)];show(s.row b λc e w s=>_)=_;unfold St.row St.look;rw[h5];simp only[cr];rw[il (show 0+n*sz<=(ai (sz:=sz) p).length by rw[rD,nF];exact hle),CB,pK,aeT];show eg (apart (p.take n)&&Nat.beq (p.take n).length n) _=_;rw[J1,show(p.take n).length=n by rw[cZ];omega,lL];show aL _ _=_;rw[vv];rfl
  .rw[bh]
   congr 1
   rw[bJ,c8,cZ,gd];omega
theorem Mr (x:a6):∀l,(Ev.wj x l).length=l.length+1
 |[]=>rfl
 |y::l=>by
  unfold Ev.wj;split
  .rfl
  .rw[cY,Mr x l,cY]
theorem vR:∀l,(Ev.gT l).length=l.length
 |[]=>rfl
 |x::l=>by
  show(Ev.wj x (Ev.gT l)).length=_;rw[Mr,vR l,cY]
theorem Ms (x:bC):∀l,(Ev.wk x l).length=l.length+1
 |[]=>rfl
 |y::l=>by
  unfold Ev.wk;split
  .rfl
  .rw[cY,Ms x l,cY]
theorem vS:∀l,(Ev.gZ l).length=l.length
 |[]=>rfl
 |x::l=>by
  show(Ev.wk x (Ev.gZ l)).length=_;rw[Ms,vS l,cY]
theorem Mt:∀l:List a6,Ev.Ss (ai l)=some l
 |[]=>rfl
 |x::l=>by
  rw[dE];show(Ev.Ss (ai l)).map _=_;rw[Mt l];rfl
theorem Mu:∀l:eG,Ev.Su (ai l)=some l
 |[]=>rfl
 |x::l=>by
  rw[dE];show(Ev.Su (ai l)).map _=_;rw[Mu l];rfl
theorem X4 (s:St)(a:aK)(c n:Nat)(p:List a6)(h1:1<=n)(h2:n<=p.length)(h3:p.length<=100000)(J1:Ev.xm (p.take n)=true):Bi 135 [.slice a n c,.func (.func 136) ⟨[]⟩ ⟨[]⟩] s [.aN (.slice a p.length c) 39 2 (ai p)] [] λR L=>R= .tuple ⟨[]⟩/\L=[.aN (.slice a p.length c) 39 2 (ai (Ev.gT (p.take n)++p.drop n))]:=
 Mq (fn:=f135) Mt (λl=>rfl) cV (λargs s k=>rfl) vR s a c n p h1 h2 h3 J1
theorem X5 (s:St)(a:aK)(c n:Nat)(p:eG)(h1:1<=n)(h2:n<=p.length)(h3:p.length<=100000)(J1:Ev.xn (p.take n)=true):Bi 137 [.slice a n c,.func (.func 138) ⟨[]⟩ ⟨[]⟩] s [.aN (.slice a p.length c) 61 3 (ai p)] [] λR L=>R= .tuple ⟨[]⟩/\L=[.aN (.slice a p.length c) 61 3 (ai (Ev.gZ (p.take n)++p.drop n))]:=
 Mq (fn:=f137) Mu (λl=>rfl) cV (λargs s k=>rfl) vS s a c n p h1 h2 h3 J1
abbrev vT (b:Nat)(a:aK)(n c:Nat)(p:List a6)(a':aK)(n' c':Nat)(q:eG):bE:=[.box b [.slice a n c,.slice a' n' c'] 26 false,.aN (.slice a p.length c) 39 2 (ai p),.aN (.slice a' q.length c') 61 3 (ai q)]
section
variable {E:dA}{X:dM}{Γ:ij}{l:Kn}{L R:bE}{K:KO}{g:FuncId}{xs:List Operand}{ts:Array TypeId}{vs:aQ}{r:Value}{s:St}{x y:It}
theorem WO.call1 (hx:kL l xs vs)(h:∀s,fH E X g vs s [x] [] λR L=>R=r/\L=[y])(hp:oO [x] L R)(k:∀m m',kq L m->m<=m'->K r (y::R) m m' (λi=>i∈([]:List Nat)\/i∈[x].flatMap It.aY\/(m<=i/\i<m')) (λi=>i∈[x].flatMap It.aY\/(m<=i/\i<m'))):WO E X Γ l (.call ⟨.value (.func g),⟨xs⟩,ts⟩) L K:=
 WO.call (Lm:=[x]) (R:=R) (A:=[]) hx hp.cR (λs hi b hb=>by cases hb) (λs hi=>h s) (by rintro r' L' m m' ho hm ⟨rfl,rfl⟩;exact k m m' ho hm)
end
theorem Mv (s:St)(b:Nat)(a:aK)(n c:Nat)(p:List a6)(a':aK)(n' c':Nat)(q:eG)(h1:1<=n)(h2:n<=p.length)(h3:p.length<=100000)(J1:Ev.xm (p.take n)=true)(h1':1<=n')(NG:n'<=q.length)(SG:q.length<=100000)(anv:Ev.xn (q.take n')=true):
  Bi 93 [bc b] s (vT b a n c p a' n' c' q) [] λR L=>R= .tuple ⟨[]⟩/\L=vT b a n c (Ev.gT (p.take n)++p.drop n) a' n' c' (Ev.gZ (q.take n')++q.drop n'):=by
 have e1:(Ev.gT (p.take n)++p.drop n).length=p.length:=by rw[bJ,vR,cZ,gd];omega
 have e2:(Ev.gZ (q.take n')++q.drop n').length=q.length:=by rw[bJ,vS,cZ,gd];omega
 unfold vT;rw[e1,e2];refine aU f93 ?_;(repeat' (first|refine' a7|((with_reducible apply WO.call1);exact aE;(intro s;exact X4 s _ _ _ _ ag ag ag (by assumption));exact ey;intro _ _ _ _)|((with_reducible apply WO.call1);exact aE;(intro s;exact X5 s _ _ _ _ ag ag ag (by assumption));exact ey;intro _ _ _ _)|refine' aw|fail))
 all_goals exact⟨bB,_,_,bn,au,rfl,rfl⟩
section
variable {E:dA}{X:dM}{Γ:ij}{l:Kn}{L R:bE}{K:KO}{g:FuncId}{xs:List Operand}{ts:Array TypeId}{vs:aQ}{r:Value}{s:St}{a a2:aK}{n n2 sz sz2:Nat}{cs cs2:aQ}
theorem WO.WB (hx:kL l xs vs)(h:∀s,bO s a n sz cs->bO s a2 n2 sz2 cs2->qj E X g vs s (aj a++aj a2) r)(h1:jY Γ L a n sz cs)(h2:jY Γ L a2 n2 sz2 cs2)(k:∀m m',kq L m->m<=m'->K r L m m' (λi=>i∈aj a++aj a2\/i∈([]:bE).flatMap It.aY\/(m<=i/\i<m')) (λi=>i∈([]:bE).flatMap It.aY\/(m<=i/\i<m'))):WO E X Γ l (.call ⟨.value (.func g),⟨xs⟩,ts⟩) L K:=
 WO.ub hx (λs hi=>⟨λi hb=>by
   rcases eX.1 hb with hb|hb
   .exact(h1.row hi).2 i hb
   .exact(h2.row hi).2 i hb,h s (h1.row hi).1 (h2.row hi).1⟩) k
end
theorem rn {α:Type}(P:α->Bool)(l:List α)(d:α){j:Nat}(hj:j<l.length):(l.take (j+1)).filter P=(l.take j).filter P++if P (l.getD j d) then [l.getD j d] else []:=by
 rw[wz,pW,aR,bd hj]
 congr 1
 show([l[j]]:List α).filter P=if P l[j]=true then [l[j]] else []
 rw[tU,List.filter_nil]
theorem Eu (s:St)(b3:Nat)(o:Op)(x:a6)(hr:bO s (jP b3) 1 5 (pd o)):bP 89 [.agg ⟨ak.cells x⟩,bc b3] s (aj (jP b3)) (.bool (decide (x.af=o.af))):=by
 have NL:=Rd.of (A:=aj (jP b3)) hr λ_ hb=>hb
 refine aU f89 ?_;(repeat' (first|refine' a7|refine' aaF|refine' aw|fail))
 all_goals(refine' ax)
 all_goals rfl
theorem Ew (s:St)(b3:Nat)(o:Int)(x:bC)(hr:bO s (jP b3) 1 1 [iv o]):bP 92 [.agg ⟨ak.cells x⟩,bc b3] s (aj (jP b3)) (.bool (decide (x.id=o))):=by
 have NL:=Rd.of (A:=aj (jP b3)) hr λ_ hb=>hb
 refine aU f92 ?_;(repeat' (first|refine' a7|refine' aaF|refine' aw|fail))
 all_goals(refine' ax)
 all_goals rfl
theorem abl (s:St)(a:aK)(c:Nat)(p:List a6)(hp:p.length<=1000)(b3:Nat)(o:Op)(hr:bO s a p.length 2 (ai p))(hb:bO s (jP b3) 1 5 (pd o)):bP 133 [.slice a p.length c,.func (.func 89) ⟨[]⟩ ⟨[bc b3]⟩] s (aj a++aj (jP b3)) (iv (oI (p.findIdx? λx=>decide (x.af=o.af)))):=by
 refine' za7
 have uG:∀(s:St)(x:a6),bO s (jP b3) 1 5 (pd o)->bP 89 [.agg ⟨ak.cells x⟩,bc b3] s (aj (jP b3)) (.bool (decide (x.af=o.af))):=λs x hr=>Eu s b3 o x hr
 refine aU f133 ?_;(refine' cU)
 refine W.bN (λm l L=>∃(i:Nat),Le [(0,.slice a p.length c),(1,.func (.func 89) ⟨[]⟩ ⟨[bc b3]⟩),(7,iv (p.length:Int)),(8,iv (i:Int))] l/\cz [] L/\m=p.length-i/\i<=p.length/\∀j,j<i->(λx:a6=>decide (x.af=o.af)) (p.getD j ak.ah)≠true)
  (λl L=>Le [] l/\cz [] L/\(p.findIdx? λx=>decide (x.af=o.af))=none) _ ⟨0,bk,au,rfl,ag,λj hj=>by omega⟩ ?_ ?_
 .rintro m l L ⟨i,hl,hL,rfl,h1,h2⟩;refine W.le ?_ hl hL;clear hl hL;by_cases hi:i<p.length
  ·(refine' aaU)
   all_goals try refine cM
   .have e:(p.findIdx? λx=>decide (x.af=o.af))=some i:=mF (d:=ak.ah (α:=a6)) hi (by rw[bQ];assumption) h2;(refine' ax)
    rw[e];rfl
   .refine⟨_,ag,i+1,bk,au,rfl,ag,λj hj=>?_⟩;by_cases wK:j=i
    .subst wK;rw[ne_eq,bQ];assumption
    .exact h2 j ag
  .have e:(p.findIdx? λx=>decide (x.af=o.af))=none:=zi ak.ah λj hj=>h2 j ag
   (refine' cU)
   all_goals try refine cM
   all_goals exact⟨bk,au,e⟩
 .rintro l L ⟨hl,hL,h2⟩;refine aq ?_;refine W.le ?_ hl hL;clear hl hL;rw[h2];(refine' cU)
  all_goals(refine' ax)
  all_goals rfl
theorem aaJ (s:St)(a:aK)(c:Nat)(p:List a6)(hp:p.length<=1000)(b3:Nat)(o:Op)(hb:bO s (jP b3) 1 5 (pd o))(hm:b3∉[It.aN (.slice a p.length c) 39 2 (ai p)].flatMap It.aY):
  Bi 88 [.slice a p.length c,.func (.func 89) ⟨[]⟩ ⟨[bc b3]⟩] s [.aN (.slice a p.length c) 39 2 (ai p)] (aj (jP b3)) λR L=>∃p':List a6,p'.length=p.length/\p'.take (p.filter λx=>!decide (x.af=o.af)).length=(p.filter λx=>!decide (x.af=o.af))/\R= .slice a (p.filter λx=>!decide (x.af=o.af)).length c/\L=[.aN (.slice a p.length c) 39 2 (ai p')]:=by
 have NL:Rd ⟨s,[It.aN (.slice a p.length c) 39 2 (ai p)].flatMap It.aY,aj (jP b3)⟩ (jP b3) 1 5 (pd o):=⟨hb,λ_ hb=>hb,λi hi=>by rw[show i=b3 by simpa[aj] using hi];exact hm⟩;have uG:∀(s:St)(x:a6),bO s (jP b3) 1 5 (pd o)->bP 89 [.agg ⟨ak.cells x⟩,bc b3] s (aj (jP b3)) (.bool (decide (x.af=o.af))):=λs x hr=>Eu s b3 o x hr
 have Jq:∀s,bO s a p.length 2 (ai p)->bO s (jP b3) 1 5 (pd o)->bP 133 [.slice a p.length c,.func (.func 89) ⟨[]⟩ ⟨[bc b3]⟩] s (aj a++aj (jP b3)) (iv (oI (p.findIdx? λx=>decide (x.af=o.af)))):=λs h1 h2=>abl s a c p hp b3 o h1 h2
 cases hf:p.findIdx? λx=>decide (x.af=o.af) with
 |none=>
  rw[hf] at Jq;have SV:∀s,bO s a p.length 2 (ai p)->bO s (jP b3) 1 5 (pd o)->bP 133 [.slice a p.length c,.func (.func 89) ⟨[]⟩ ⟨[bc b3]⟩] s (aj a++aj (jP b3)) (iv (-1)):=Jq;have Tz:(p.filter λx=>!decide (x.af=o.af))=p:=CI.2 λx hx=>by
   have:=CH.1 hf x hx;rw[this];rfl
  rw[Tz];refine aU f88 ?_;(repeat' (first|refine' a7|refine' aaI|refine' aw|fail))
  all_goals try refine cM
  all_goals exact⟨bB,_,_,bn,au,p,rfl,gX,rfl,rfl⟩
 |some i0=>
  rw[hf] at Jq;have SV:∀s,bO s a p.length 2 (ai p)->bO s (jP b3) 1 5 (pd o)->bP 133 [.slice a p.length c,.func (.func 89) ⟨[]⟩ ⟨[bc b3]⟩] s (aj a++aj (jP b3)) (iv (i0:Int)):=Jq;obtain⟨g1,g2,g3⟩:=oC.1 hf;have hz:(p.take (i0+1)).filter (λx=>!decide (x.af=o.af))=p.take i0:=by
   rw[rn _ p ak.ah g1,aR,bd g1];have:(!decide (p[i0].af=o.af))=false:=by simpa using g2
   have e2:(p.take i0).filter (λx=>!decide (x.af=o.af))=p.take i0:=CI.2 λx hx=>by
    obtain⟨j,hj,rfl⟩:=iZ hx;rw[cZ] at hj;rw[List.getElem_take];have:=g3 j ag;simpa using this
   rw[e2];simp only[pV];rw[if_neg (by rw[this];exact jT),ix]
  refine aU f88 ?_;(repeat' (first|refine' a7|refine' aaI|refine' aw|fail))
  all_goals try refine cM
  refine W.bN (λm l L=>∃(w:List a6)(i j:Nat),Le [(0,.slice a p.length c),(1,.func (.func 89) ⟨[]⟩ ⟨[bc b3]⟩),(5,iv (i:Int)),(6,iv (j:Int))] l/\cz [.aN (.slice a p.length c) 39 2 (ai w)] L/\m=p.length-j/\w.length=p.length/\i<j/\j<=p.length/\w.take i=(p.take j).filter (λx=>!decide (x.af=o.af))/\w.drop j=p.drop j)
   (λl L=>∃(w:List a6)(i:Nat),Le [(0,.slice a p.length c),(5,iv (i:Int))] l/\cz [.aN (.slice a p.length c) 39 2 (ai w)] L/\w.length=p.length/\i<=p.length/\w.take i=p.filter (λx=>!decide (x.af=o.af))) _ ⟨p,i0,i0+1,bk,au,rfl,rfl,ag,ag,hz.symm,rfl⟩ ?_ ?_
  .rintro m l L ⟨w,i,j,hl,hL,rfl,h1,h2,h3,h4,h5⟩;refine W.le ?_ hl hL;clear hl hL;by_cases hj:j<p.length
   .have hwj:w.getD j ak.ah=p.getD j ak.ah:=by
     have:=fI (λl=>l.getD 0 ak.ah) h5;simpa[aR,yh] using this
    have o9:=rn (λx:a6=>!decide (x.af=o.af)) p ak.ah hj;(refine' aaU)
    all_goals try refine cM
    .refine⟨_,ag,w.set i (w.getD j ak.ah),i+1,j+1,bk,au,rfl,by rw[gE];exact h1,ag,ag,?_,?_⟩
     .rw[o9,<-h4,<-hwj,if_pos (by rw[gS (by assumption)];rfl)];rw[wz,List.getElem?_set_self ag,List.take_set_of_le (cA _)];rfl
     .rw[List.drop_set_of_lt ag,<-mm,h5,mm]
    .refine⟨_,ag,w,i,j+1,bk,au,rfl,h1,ag,ag,?_,by rw[<-mm,h5,mm]⟩;rw[o9,<-h4,<-hwj,if_neg (by rw[dt (by assumption)];exact jT),ix]
   .have Zv:j=p.length:=by omega
    rw[Zv,gX] at h4;(refine' cU)
    all_goals try refine cM
    all_goals exact⟨w,i,bk,au,h1,ag,h4⟩
  .rintro l L ⟨w,i,hl,hL,h1,h2,h4⟩;refine aq ?_;refine W.le ?_ hl hL;clear hl hL;have ZB:(p.filter λx=>!decide (x.af=o.af)).length=i:=by rw[<-h4,cZ];omega
   rw[ZB];(refine' ah5)
   all_goals try refine cM
   all_goals exact⟨bB,_,_,bn,au,w.take i++List.replicate (p.length-i) (⟨[],0⟩)++w.drop (i+(p.length-i)),by rw[bJ,bJ,cZ,ry,gd];omega,by rw[kG,BJ (by rw[cZ];omega),NO,Nat.min_self,h4],rfl,rfl⟩
theorem abm (s:St)(a:aK)(c:Nat)(p:eG)(hp:p.length<=1000)(b3:Nat)(o:Int)(hr:bO s a p.length 3 (ai p))(hb:bO s (jP b3) 1 1 ([iv o])):bP 134 [.slice a p.length c,.func (.func 92) ⟨[]⟩ ⟨[bc b3]⟩] s (aj a++aj (jP b3)) (iv (oI (p.findIdx? λx=>decide (x.id=o)))):=by
 refine' za7
 have uG:∀(s:St)(x:bC),bO s (jP b3) 1 1 ([iv o])->bP 92 [.agg ⟨ak.cells x⟩,bc b3] s (aj (jP b3)) (.bool (decide (x.id=o))):=λs x hr=>Ew s b3 o x hr
 refine aU f134 ?_;(refine' cU)
 refine W.bN (λm l L=>∃(i:Nat),Le [(0,.slice a p.length c),(1,.func (.func 92) ⟨[]⟩ ⟨[bc b3]⟩),(7,iv (p.length:Int)),(8,iv (i:Int))] l/\cz [] L/\m=p.length-i/\i<=p.length/\∀j,j<i->(λx:bC=>decide (x.id=o)) (p.getD j ak.ah)≠true)
  (λl L=>Le [] l/\cz [] L/\(p.findIdx? λx=>decide (x.id=o))=none) _ ⟨0,bk,au,rfl,ag,λj hj=>by omega⟩ ?_ ?_
 .rintro m l L ⟨i,hl,hL,rfl,h1,h2⟩;refine W.le ?_ hl hL;clear hl hL;by_cases hi:i<p.length
  ·(refine' aaU)
   all_goals try refine cM
   .have e:(p.findIdx? λx=>decide (x.id=o))=some i:=mF (d:=ak.ah (α:=bC)) hi (by rw[bQ];assumption) h2;(refine' ax)
    rw[e];rfl
   .refine⟨_,ag,i+1,bk,au,rfl,ag,λj hj=>?_⟩;by_cases wK:j=i
    .subst wK;rw[ne_eq,bQ];assumption
    .exact h2 j ag
  .have e:(p.findIdx? λx=>decide (x.id=o))=none:=zi ak.ah λj hj=>h2 j ag
   (refine' cU)
   all_goals try refine cM
   all_goals exact⟨bk,au,e⟩
 .rintro l L ⟨hl,hL,h2⟩;refine aq ?_;refine W.le ?_ hl hL;clear hl hL;rw[h2];(refine' cU)
  all_goals(refine' ax)
  all_goals rfl
theorem aaK (s:St)(a:aK)(c:Nat)(p:eG)(hp:p.length<=1000)(b3:Nat)(o:Int)(hb:bO s (jP b3) 1 1 ([iv o]))(hm:b3∉[It.aN (.slice a p.length c) 61 3 (ai p)].flatMap It.aY):
  Bi 91 [.slice a p.length c,.func (.func 92) ⟨[]⟩ ⟨[bc b3]⟩] s [.aN (.slice a p.length c) 61 3 (ai p)] (aj (jP b3)) λR L=>∃p':eG,p'.length=p.length/\p'.take (p.filter λx=>!decide (x.id=o)).length=(p.filter λx=>!decide (x.id=o))/\R= .slice a (p.filter λx=>!decide (x.id=o)).length c/\L=[.aN (.slice a p.length c) 61 3 (ai p')]:=by
 have NL:Rd ⟨s,[It.aN (.slice a p.length c) 61 3 (ai p)].flatMap It.aY,aj (jP b3)⟩ (jP b3) 1 1 ([iv o]):=⟨hb,λ_ hb=>hb,λi hi=>by rw[show i=b3 by simpa[aj] using hi];exact hm⟩;have uG:∀(s:St)(x:bC),bO s (jP b3) 1 1 ([iv o])->bP 92 [.agg ⟨ak.cells x⟩,bc b3] s (aj (jP b3)) (.bool (decide (x.id=o))):=λs x hr=>Ew s b3 o x hr
 have Jq:∀s,bO s a p.length 3 (ai p)->bO s (jP b3) 1 1 ([iv o])->bP 134 [.slice a p.length c,.func (.func 92) ⟨[]⟩ ⟨[bc b3]⟩] s (aj a++aj (jP b3)) (iv (oI (p.findIdx? λx=>decide (x.id=o)))):=λs h1 h2=>abm s a c p hp b3 o h1 h2
 cases hf:p.findIdx? λx=>decide (x.id=o) with
 |none=>
  rw[hf] at Jq;have SV:∀s,bO s a p.length 3 (ai p)->bO s (jP b3) 1 1 ([iv o])->bP 134 [.slice a p.length c,.func (.func 92) ⟨[]⟩ ⟨[bc b3]⟩] s (aj a++aj (jP b3)) (iv (-1)):=Jq;have Tz:(p.filter λx=>!decide (x.id=o))=p:=CI.2 λx hx=>by
   have:=CH.1 hf x hx;rw[this];rfl
  rw[Tz];refine aU f91 ?_;(repeat' (first|refine' a7|refine' aaI|refine' aw|fail))
  all_goals try refine cM
  all_goals exact⟨bB,_,_,bn,au,p,rfl,gX,rfl,rfl⟩
 |some i0=>
  rw[hf] at Jq;have SV:∀s,bO s a p.length 3 (ai p)->bO s (jP b3) 1 1 ([iv o])->bP 134 [.slice a p.length c,.func (.func 92) ⟨[]⟩ ⟨[bc b3]⟩] s (aj a++aj (jP b3)) (iv (i0:Int)):=Jq;obtain⟨g1,g2,g3⟩:=oC.1 hf;have hz:(p.take (i0+1)).filter (λx=>!decide (x.id=o))=p.take i0:=by
   rw[rn _ p ak.ah g1,aR,bd g1];have:(!decide (p[i0].id=o))=false:=by simpa using g2
   have e2:(p.take i0).filter (λx=>!decide (x.id=o))=p.take i0:=CI.2 λx hx=>by
    obtain⟨j,hj,rfl⟩:=iZ hx;rw[cZ] at hj;rw[List.getElem_take];have:=g3 j ag;simpa using this
   rw[e2];simp only[pV];rw[if_neg (by rw[this];exact jT),ix]
  refine aU f91 ?_;(repeat' (first|refine' a7|refine' aaI|refine' aw|fail))
  all_goals try refine cM
  refine W.bN (λm l L=>∃(w:eG)(i j:Nat),Le [(0,.slice a p.length c),(1,.func (.func 92) ⟨[]⟩ ⟨[bc b3]⟩),(5,iv (i:Int)),(6,iv (j:Int))] l/\cz [.aN (.slice a p.length c) 61 3 (ai w)] L/\m=p.length-j/\w.length=p.length/\i<j/\j<=p.length/\w.take i=(p.take j).filter (λx=>!decide (x.id=o))/\w.drop j=p.drop j)
   (λl L=>∃(w:eG)(i:Nat),Le [(0,.slice a p.length c),(5,iv (i:Int))] l/\cz [.aN (.slice a p.length c) 61 3 (ai w)] L/\w.length=p.length/\i<=p.length/\w.take i=p.filter (λx=>!decide (x.id=o))) _ ⟨p,i0,i0+1,bk,au,rfl,rfl,ag,ag,hz.symm,rfl⟩ ?_ ?_
  .rintro m l L ⟨w,i,j,hl,hL,rfl,h1,h2,h3,h4,h5⟩;refine W.le ?_ hl hL;clear hl hL;by_cases hj:j<p.length
   .have hwj:w.getD j ak.ah=p.getD j ak.ah:=by
     have:=fI (λl=>l.getD 0 ak.ah) h5;simpa[aR,yh] using this
    have o9:=rn (λx:bC=>!decide (x.id=o)) p ak.ah hj;(refine' aaU)
    all_goals try refine cM
    .refine⟨_,ag,w.set i (w.getD j ak.ah),i+1,j+1,bk,au,rfl,by rw[gE];exact h1,ag,ag,?_,?_⟩
     .rw[o9,<-h4,<-hwj,if_pos (by rw[gS (by assumption)];rfl)];rw[wz,List.getElem?_set_self ag,List.take_set_of_le (cA _)];rfl
     .rw[List.drop_set_of_lt ag,<-mm,h5,mm]
    .refine⟨_,ag,w,i,j+1,bk,au,rfl,h1,ag,ag,?_,by rw[<-mm,h5,mm]⟩;rw[o9,<-h4,<-hwj,if_neg (by rw[dt (by assumption)];exact jT),ix]
   .have Zv:j=p.length:=by omega
    rw[Zv,gX] at h4;(refine' cU)
    all_goals try refine cM
    all_goals exact⟨w,i,bk,au,h1,ag,h4⟩
  .rintro l L ⟨w,i,hl,hL,h1,h2,h4⟩;refine aq ?_;refine W.le ?_ hl hL;clear hl hL;have ZB:(p.filter λx=>!decide (x.id=o)).length=i:=by rw[<-h4,cZ];omega
   rw[ZB];(refine' ah5)
   all_goals try refine cM
   all_goals exact⟨bB,_,_,bn,au,w.take i++List.replicate (p.length-i) (⟨0,false,[]⟩)++w.drop (i+(p.length-i)),by rw[bJ,bJ,cZ,ry,gd];omega,by rw[kG,BJ (by rw[cZ];omega),NO,Nat.min_self,h4],rfl,rfl⟩
def Ey (x z:aA):Bool:=decide (z.length<=x.length)&&decide (x.take z.length=z)
theorem TA (s:St)(x z:aA)(hx:x.length<=100000)(hz:z.length<=100000):bP 142 [sv x,sv z] s [] (.bool (Ey x z)):=by
 unfold Ey;refine aU f142 ?_;(refine' cU)
 all_goals try refine cM
 all_goals(refine' ax)
 all_goals simp only[gB]
 all_goals first|rfl|(refine fI Value.bool ?_;first|(rw[dt (by omega:z.length<=x.length),yf])|(rw[gS (by omega:¬z.length<=x.length),Kj]))
theorem TB (s:St)(x z:aA)(hx:x.length<=100000)(hz:z.length<=100000):bP 104 [sv x,sv z] s [] (if Ey x z=true then .tuple ⟨[sv (x.drop z.length),.bool true]⟩ else .tuple ⟨[sv x,.bool false]⟩):=by
 have UL:∀s,bP 142 [sv x,sv z] s [] (.bool (Ey x z)):=λs=>TA s x z hx hz
 cases h:Ey x z with
 |true=>
  rw[h] at UL;rw[if_pos rfl];have hl:z.length<=x.length:=by unfold Ey at h;simp at h;exact h.1
  refine aU f104 ?_;(repeat' (first|refine' a7|((with_reducible apply WO.bI);exact aE;(first|exact λs=>UL s);intro _ _ _ _)|refine' aw|fail))
  all_goals try refine cM
  all_goals(refine' ax)
  all_goals rfl
 |false=>
  rw[h] at UL;rw[if_neg jT];refine aU f104 ?_;(repeat' (first|refine' a7|((with_reducible apply WO.bI);exact aE;(first|exact λs=>UL s);intro _ _ _ _)|refine' aw|fail))
  all_goals try refine cM
  all_goals(refine' ax)
  all_goals rfl
theorem Jr (s:St)(x z:aA)(hx:x.length<=100000)(hz:z.length<=100000):bP 70 [sv x,sv z] s [] (if Ey x z=true then .tuple ⟨[sv (x.drop z.length),.bool true]⟩ else .tuple ⟨[sv x,.bool false]⟩):=by
 have UK:=λs=>TB s x z hx hz
 cases h:Ey x z with
 |true=>
  rw[if_pos rfl];have UK:∀s,bP 104 [sv x,sv z] s [] (.tuple ⟨[sv (x.drop z.length),.bool true]⟩):=λs=>by have:=UK s;rwa [if_pos h] at this
  refine' zaW
 |false=>
  rw[if_neg jT];have UK:∀s,bP 104 [sv x,sv z] s [] (.tuple ⟨[sv x,.bool false]⟩):=λs=>by have:=UK s;rwa [if_neg (by rw[h];exact jT)] at this
  refine' zaW
theorem Ez:∀n,(Ev.yL [0] n).length=n
 |0=>rfl
 |n+1=>by
  show([0]++Ev.yL [0] n).length=_;rw[bJ,Ez n];simp;omega
theorem HC (s:St)(m:Int)(hm:0<=m/\m<=100000):bP 87 [sv [0],iv m] s [] (sv (Ev.yL [0] m.toNat)):=by
 obtain⟨n,rfl⟩:=wB hm.1;refine Q8 (fn:=f87) cV λk=>?_
 show eg (Nat.ble (1*n) 1000000&&Nat.ble n 1000000) (aL (sv (Ev.yL [0] n)) s)=_;rw[il ag,il ag];rfl
theorem Mw {α:Type}{sz:Nat}[ak α sz]{j:Nat}(hj:j<sz)(v:Value)(q:α):∀(p:List α)(i:Nat),i<p.length->ak.cells (sz:=sz) q=(ak.cells (sz:=sz) (p.getD i (ak.ah (sz:=sz)))).set j v->(ai (sz:=sz) p).set (i*sz+j) v=ai (sz:=sz) (p.set i q)
 |[],_,h,_=>by simp at h
 |x::p,0,_,hq=>by
  rw[List.set_cons_zero,dE,dE,hq,Ih,nF,List.set_append,if_pos (by rw[ak.len];exact hj)];rfl
 |x::p,i+1,h,hq=>by
  rw[List.set_cons_succ,dE,dE,List.set_append,if_neg (by rw[ak.len,mK];omega),ak.len,<-Mw hj v q p i (by simpa using h) hq]
  congr 2
  rw[mK];omega
theorem WO.zp {E:dA}{X:dM}{Γ:ij}{l:Kn}{L L':bE}{K:KO}{x y:Operand}{t:TypeId}{a:aK}{n sz:Nat}{v:Value}{α:Type}{enc:ak α sz}{p:List α}{q:α}{i j c e:Nat}[ht:iU E t 1](hq:ak.cells (sz:=sz) q=(ak.cells (sz:=sz) (p.getD i (ak.ah (sz:=sz)))).set j v)(BR:flat v=true)(hj:j<sz)
  (hx:Ev l x (de a i sz j))(hy:Ev l y v)(hu:yQ (.aN (.slice a n c) e sz (ai (sz:=sz) p)) (.aN (.slice a n c) e sz (ai (sz:=sz) (p.set i q))) L L')(hi:i<p.length)(k:∀n,K (.tuple ⟨[]⟩) L' n n (λi=>i∈aj a) (λi=>i∈aj a)):WO E X Γ l (.store t x y) L K:=λtm s h1 h2=>by
 obtain⟨R,p1,p2⟩:=hu.cR;have hm:It.aN (.slice a n c) e sz (ai (sz:=sz) p)∈L:=p1.mem_iff.2 (by simp);rcases h2.it _ hm with⟨h3,h4⟩|⟨b,n',k',w,h3,h4,h5,h6⟩
 .cases h3
  have:=bh (sz:=sz) p;rw[h4] at this;have h7:0<p.length*sz:=Nat.mul_pos ag ag;simp at this;omega
 .cases h3
  have du:=(h2.may hm (b:=b) (by simp[It.aY,na]));have hr:=h2.aV du;have ZB:i*sz+j<(ai (sz:=sz) p).length:=by
   rw[bh];have:(i+1)*sz<=p.length*sz:=Kc _ hi;rw[mK] at this;omega
  have dK:fP (0+(i*sz+j)) [v] (ai (sz:=sz) p)=some (ai (sz:=sz) (p.set i q)):=by
   rw[nF,As v _ _ ZB,Mw hj v q p i hi hq]
  refine fS.pure (v:=.tuple ⟨[]⟩) (s':=(s.aV b).put b (some (.cells (ai (sz:=sz) (p.set i q)) e w))) (λcall=>?_) ⟨L',(λi=>i∈aj (jP b)),(λi=>i∈aj (jP b)),hr.put hu rfl rfl ?_,(kJ.trans (cX du.1 (by simp[aj])) (jZ (by simpa using du.1) (by simp[aj]) (by simp[aj]))),by rw[dZ,cw];exact k _⟩
  .show(Fa (aM tm x) λb o=>mU E s t b o (aM tm y))=_;rw[hx.eval h1,hy.eval h1];show mU E s t b (0+(i*sz+j)) v=_;unfold mU St.row St.look;rw[h4];simp only[cr,ht.h,Bg BR,dK];have:jv [v]=true:=by show bo (flat v) true false=true;rw[BR];rfl
   rw[this];rfl
  .exact .inr ⟨b,_,_,w,rfl,by show T.get (St.heap _) b=_;simp,by rw[bh] at h5⊢;simpa using h5,h6⟩
section
variable {E:dA}{X:dM}{Γ:ij}{l:Kn}{L L':bE}{K:KO}{x y:Operand}{t:TypeId}{a:aK}{n i c e:Nat}{p:List a6}{w:eG}{z:aA}{m:Int}{b:Bool}
theorem WO.aek [iU E t 1](hx:Ev l x (de a i 2 (0+0)))(hy:Ev l y (sv z))(hu:yQ (.aN (.slice a n c) e 2 (ai p)) (.aN (.slice a n c) e 2 (ai (p.set i ⟨z,(p.getD i ak.ah).id⟩))) L L')(hi:i<p.length)(k:∀n,K (.tuple ⟨[]⟩) L' n n (λi=>i∈aj a) (λi=>i∈aj a)):WO E X Γ l (.store t x y) L K:=WO.zp (q:=(⟨z,(p.getD i ak.ah).id⟩:a6)) rfl rfl ag hx hy hu hi k
theorem WO.alg [iU E t 1](hx:Ev l x (de a i 2 (0+1)))(hy:Ev l y (iv m))(hu:yQ (.aN (.slice a n c) e 2 (ai p)) (.aN (.slice a n c) e 2 (ai (p.set i ⟨(p.getD i ak.ah).af,m⟩))) L L')(hi:i<p.length)(k:∀n,K (.tuple ⟨[]⟩) L' n n (λi=>i∈aj a) (λi=>i∈aj a)):WO E X Γ l (.store t x y) L K:=WO.zp (q:=(⟨(p.getD i ak.ah).af,m⟩:a6)) rfl rfl ag hx hy hu hi k
theorem WO.ail [iU E t 1](hx:Ev l x (de a i 3 (0+0)))(hy:Ev l y (iv m))(hu:yQ (.aN (.slice a n c) e 3 (ai w)) (.aN (.slice a n c) e 3 (ai (w.set i ⟨m,(w.getD i ak.ah).aD,(w.getD i ak.ah).aW⟩))) L L')(hi:i<w.length)(k:∀n,K (.tuple ⟨[]⟩) L' n n (λi=>i∈aj a) (λi=>i∈aj a)):WO E X Γ l (.store t x y) L K:=WO.zp (q:=(⟨m,(w.getD i ak.ah).aD,(w.getD i ak.ah).aW⟩:bC)) rfl rfl ag hx hy hu hi k
theorem WO.aim [iU E t 1](hx:Ev l x (de a i 3 (0+1)))(hy:Ev l y (.bool b))(hu:yQ (.aN (.slice a n c) e 3 (ai w)) (.aN (.slice a n c) e 3 (ai (w.set i ⟨(w.getD i ak.ah).id,b,(w.getD i ak.ah).aW⟩))) L L')(hi:i<w.length)(k:∀n,K (.tuple ⟨[]⟩) L' n n (λi=>i∈aj a) (λi=>i∈aj a)):WO E X Γ l (.store t x y) L K:=WO.zp (q:=(⟨(w.getD i ak.ah).id,b,(w.getD i ak.ah).aW⟩:bC)) rfl rfl ag hx hy hu hi k
theorem WO.ahp [iU E t 1](hx:Ev l x (de a i 3 (0+2)))(hy:Ev l y (sv z))(hu:yQ (.aN (.slice a n c) e 3 (ai w)) (.aN (.slice a n c) e 3 (ai (w.set i ⟨(w.getD i ak.ah).id,(w.getD i ak.ah).aD,z⟩))) L L')(hi:i<w.length)(k:∀n,K (.tuple ⟨[]⟩) L' n n (λi=>i∈aj a) (λi=>i∈aj a)):WO E X Γ l (.store t x y) L K:=WO.zp (q:=(⟨(w.getD i ak.ah).id,(w.getD i ak.ah).aD,z⟩:bC)) rfl rfl ag hx hy hu hi k
end
section
variable {E:dA}{X:dM}{Γ:ij}{l:Kn}{L R:bE}{K:KO}{g g2:FuncId}{xs:List Operand}{ts:Array TypeId}{vs:aQ}{b n n' n1 n2 b3 sz2 nn:Nat}{a a':aK}{c c':Nat}{p:List a6}{q:eG}{cs2:aQ}{r:Value}{P:List a6}{Q:eG}
theorem WO.aej {N N':Nat}(hx:kL l xs [bc b])(hp:oO [.box b [.slice a n c,.slice a' n' c'] 26 false,.aN (.slice a N c) 39 2 (ai p),.aN (.slice a' N' c') 61 3 (ai q)] L R)(hN:N=p.length)(hN':N'=q.length)(hP:p.take n=P)(hQ:q.take n'=Q)(hn:n<=p.length)(hn':n'<=q.length)(h:∀s,fH E X g [bc b] s (vT b a n c p a' n' c' q) [] λR L=>R= .tuple ⟨[]⟩/\L=vT b a n c (Ev.gT (p.take n)++p.drop n) a' n' c' (Ev.gZ (q.take n')++q.drop n'))
  (k:∀m m' p2 q2,kq L m->m<=m'->n<=p2.length->p2.take n=Ev.gT P->n'<=q2.length->q2.take n'=Ev.gZ Q->K (.tuple ⟨[]⟩) (vT b a n c p2 a' n' c' q2++R) m m' (λi=>i∈([]:List Nat)\/i∈(vT b a n c p a' n' c' q).flatMap It.aY\/(m<=i/\i<m')) (λi=>i∈(vT b a n c p a' n' c' q).flatMap It.aY\/(m<=i/\i<m'))):WO E X Γ l (.call ⟨.value (.func g),⟨xs⟩,ts⟩) L K:=by
 subst hN hN';exact WO.call (Lm:=vT b a n c p a' n' c' q) (R:=R) (A:=[]) hx hp.cR (λs hi b hb=>by cases hb) (λs hi=>h s) (by
  rintro r' L' m m' ho hm ⟨rfl,rfl⟩;have e1:(Ev.gT (p.take n)).length=n:=by rw[vR,cZ];omega
  have e2:(Ev.gZ (q.take n')).length=n':=by rw[vS,cZ];omega
  refine k m m' _ _ ho hm ?_ ?_ ?_ ?_
  .rw[bJ,e1];omega
  .rw[BJ ag,qG ag,hP]
  .rw[bJ,e2];omega
  .rw[BJ ag,qG ag,hQ])
theorem WO.Q9 {α:Type}{sz e:Nat}{enc:ak α sz}{p f:List α}(hx:kL l xs [.slice a p.length c,.func (.func g2) ⟨[]⟩ ⟨[bc b3]⟩])(hp:oO [It.aN (.slice a p.length c) e sz (ai (sz:=sz) p)] L R)(hh:jY Γ R (jP b3) nn sz2 cs2)
  (h:∀s,bO s (jP b3) nn sz2 cs2->b3∉[It.aN (.slice a p.length c) e sz (ai (sz:=sz) p)].flatMap It.aY->fH E X g [.slice a p.length c,.func (.func g2) ⟨[]⟩ ⟨[bc b3]⟩] s [It.aN (.slice a p.length c) e sz (ai (sz:=sz) p)] (aj (jP b3)) λR L=>∃p':List α,p'.length=p.length/\p'.take f.length=f/\R= .slice a f.length c/\L=[It.aN (.slice a p.length c) e sz (ai (sz:=sz) p')])
  (k:∀m m' (p':List α),kq L m->m<=m'->p'.length=p.length->p'.take f.length=f->Sub sz a p' a f->K (.slice a f.length c) (It.aN (.slice a p'.length c) e sz (ai (sz:=sz) p')::R) m m' (λi=>i∈aj (jP b3)\/i∈[It.aN (.slice a p.length c) e sz (ai (sz:=sz) p)].flatMap It.aY\/(m<=i/\i<m')) (λi=>i∈[It.aN (.slice a p.length c) e sz (ai (sz:=sz) p)].flatMap It.aY\/(m<=i/\i<m'))):WO E X Γ l (.call ⟨.value (.func g),⟨xs⟩,ts⟩) L K:=
 WO.call (Lm:=[It.aN (.slice a p.length c) e sz (ai (sz:=sz) p)]) (R:=R) hx hp.cR (λs hi=>(hh.row (hi.cR hp.cR|>.sub ⟨R,.refl _,nK _ _⟩)).2) (λs hi=>h s (hh.row (hi.cR hp.cR|>.sub ⟨R,.refl _,nK _ _⟩)).1 (jY.apart hh (hi.cR hp.cR) _ (by simp[aj]))) (by
   rintro r' L' m m' ho hm ⟨p',h1,h2,rfl,rfl⟩;have h3:f.length<=p'.length:=by
    have:=fI List.length h2;rw[cZ] at this;omega
   have:=k m m' p' ho hm h1 h2 ⟨⟨0,f.length,by rw[CB,h2],ag,⟨.inl (by rw[Ih,aau])⟩⟩⟩
   rwa [h1] at this)
theorem WO.WG {k1 k2:Int}{z1 z2 z3:aA}{t3:TypeId}{w3:Bool}{α:Type}{sz e:Nat}{enc:ak α sz}{p f:List α}(hx:kL l xs [.slice a p.length c,.func (.func g2) ⟨[]⟩ ⟨[bc b3]⟩])(hp:oO [It.aN (.slice a p.length c) e sz (ai (sz:=sz) p)] L R)(hm3:It.box b3 [iv k1,sv z1,sv z2,iv k2,sv z3] t3 w3∈R)
  (h:∀s,bO s (jP b3) 1 5 [iv k1,sv z1,sv z2,iv k2,sv z3]->b3∉[It.aN (.slice a p.length c) e sz (ai (sz:=sz) p)].flatMap It.aY->fH E X g [.slice a p.length c,.func (.func g2) ⟨[]⟩ ⟨[bc b3]⟩] s [It.aN (.slice a p.length c) e sz (ai (sz:=sz) p)] (aj (jP b3)) λR L=>∃p':List α,p'.length=p.length/\p'.take f.length=f/\R= .slice a f.length c/\L=[It.aN (.slice a p.length c) e sz (ai (sz:=sz) p')])
  (k:∀m m' (p':List α),kq L m->m<=m'->p'.length=p.length->p'.take f.length=f->Sub sz a p' a f->K (.slice a f.length c) (It.aN (.slice a p'.length c) e sz (ai (sz:=sz) p')::R) m m' (λi=>i∈aj (jP b3)\/i∈[It.aN (.slice a p.length c) e sz (ai (sz:=sz) p)].flatMap It.aY\/(m<=i/\i<m')) (λi=>i∈[It.aN (.slice a p.length c) e sz (ai (sz:=sz) p)].flatMap It.aY\/(m<=i/\i<m'))):WO E X Γ l (.call ⟨.value (.func g),⟨xs⟩,ts⟩) L K:=
 WO.Q9 hx hp (jY.box (n:=1) hm3 rfl rfl) h k
theorem WO.WH {k1:Int}{t3:TypeId}{w3:Bool}{α:Type}{sz e:Nat}{enc:ak α sz}{p f:List α}(hx:kL l xs [.slice a p.length c,.func (.func g2) ⟨[]⟩ ⟨[bc b3]⟩])(hp:oO [It.aN (.slice a p.length c) e sz (ai (sz:=sz) p)] L R)(hm3:It.box b3 [iv k1] t3 w3∈R)
  (h:∀s,bO s (jP b3) 1 1 [iv k1]->b3∉[It.aN (.slice a p.length c) e sz (ai (sz:=sz) p)].flatMap It.aY->fH E X g [.slice a p.length c,.func (.func g2) ⟨[]⟩ ⟨[bc b3]⟩] s [It.aN (.slice a p.length c) e sz (ai (sz:=sz) p)] (aj (jP b3)) λR L=>∃p':List α,p'.length=p.length/\p'.take f.length=f/\R= .slice a f.length c/\L=[It.aN (.slice a p.length c) e sz (ai (sz:=sz) p')])
  (k:∀m m' (p':List α),kq L m->m<=m'->p'.length=p.length->p'.take f.length=f->Sub sz a p' a f->K (.slice a f.length c) (It.aN (.slice a p'.length c) e sz (ai (sz:=sz) p')::R) m m' (λi=>i∈aj (jP b3)\/i∈[It.aN (.slice a p.length c) e sz (ai (sz:=sz) p)].flatMap It.aY\/(m<=i/\i<m')) (λi=>i∈[It.aN (.slice a p.length c) e sz (ai (sz:=sz) p)].flatMap It.aY\/(m<=i/\i<m'))):WO E X Γ l (.call ⟨.value (.func g),⟨xs⟩,ts⟩) L K:=
 WO.Q9 hx hp (jY.box (n:=1) hm3 rfl rfl) h k
theorem WO.alh {x:Operand}{t t2:TypeId}{n c e:Nat}{w:Bool}{z:List UInt8}{enc:ak UInt8 1}[h1:TT E t e 1 UInt8 enc][h2:yP E t2][h3:xq E e .u8](he:∀c,ak.cells c=[bv c])(hx:Ev l x (.slice (jP b) n c))(hm:It.box b (ai z) e w∈L)(hn:n=z.length)(k:∀m,K (sv z) L m m (λi=>i∈aj (jP b)) Z):WO E X Γ l (.convert t t2 x) L K:=by
 subst hn;exact WO.str he hx (jY.box hm rfl (by rw[bh])) k
end
abbrev AL (E:dA)(X:dM)(g:FuncId)(vs:aQ)(s:St)(b:Nat)(a:aK)(c:Nat)(p:List a6)(a':aK)(c':Nat)(q:eG)(r:Value)(F:Flat):Prop:=
 fH E X g vs s (vT b a p.length c p a' q.length c' q) [] λR L=>R=r/\∃a1 n1 c1 p1 a2 n2 c2 q2,n1<=p1.length/\p1.take n1=F.ad/\n2<=q2.length/\q2.take n2=F.ae/\L=vT b a1 n1 c1 p1 a2 n2 c2 q2
end Go.Pl
