/- Lemmas of the proof. No conditions. -/
import Derived.Test.YtajgfdfbnhchcaaGreatDoorBf1
set_option maxRecDepth 100000
set_option maxHeartbeats 4000000
set_option linter.unusedVariables false
set_option linter.unusedSimpArgs false
open Go.Proofs.Tryz
namespace Go.Pl
open Go Go.Ev Go.Lg Go.Proofs
variable {args:a6}{s:St}{Γ:qV}{a:aM}{E:ig}{X:fR}{l:Kn}{L:bZ}{z:az}{R:bZ}{K:KO}{g:FuncId}{xs:List Operand}{ts:Array TypeId}{vs:a6}{b b2 b5:Nat}{k:Int}{a':aM}{c c':Nat}{q:fg}{r:Value}{g2:FuncId}{p:List a7}
theorem P7 (s:St)(b:Nat)(a:aM)(c:Nat)(p:List a7)(a':aM)(c':Nat)(q:fg)(hV:J3 p q)(o:Op)(hz:o.af∈Ev.dN)(ht:o.to∈Ev.dN)(hk7:1<=o.kind/\o.kind<=7)(ho1:aP o.af=true)(OY:o.kind=7->aP o.to=true)(nJ:0<=o.at_/\o.at_<=192)(yy:o.bq.length<=24)(hr:iX s b a c p a' c' q):bF 48 [Uk b,ov o] s (rb b a a') (iv (lM p q o)):=by
 obtain⟨kd,pa,tq9,at_,tx⟩:=o;dsimp only at hz ht hk7 ho1 OY nJ yy;show bF 48 [Uk b,.agg ⟨[iv kd,sv pa,sv tq9,iv at_,sv tx]⟩] s (rb b a a') (iv (lM p q ⟨kd,pa,tq9,at_,tx⟩));have hdx:=H2.x hr;have pk:=H2.n hr;have ru:=H2.t hr;have D0:=M4 (b:=b) (a:=a) (c:=c) (a':=a') (c':=c') hV;have uu:=YH (b:=b) (a:=a) (c:=c) (a':=a') (c':=c') hV;have Wu:=YI (b:=b) (a:=a) (c:=c) (a':=a') (c':=c') hV;have al1:∀s b2 b5,wM s b a c p a' c' q b2 b5 (de p pa)->bF 82 [Uk b,sv pa,.func (.func 83) ⟨[]⟩ ⟨[bg b2]⟩] s (KF b a a' b2 b5) (iv (uI p q pa (decide (yz q 16 0<0)))):=λs b2 b5 hr=>M5 s b a c p a' c' q b2 b5 _ hV pa hz hr
 have al2:∀s b2 b5,wM s b a c p a' c' q b2 b5 (de p pa)->bF 82 [Uk b,sv tq9,.func (.func 84) ⟨[]⟩ ⟨[bg b2,bg b5]⟩] s (KF b a a' b2 b5) (iv (uI p q tq9 (decide (9<=sf p (de p pa))))):=λs b2 b5 hr=>M6 s b a c p a' c' q b2 b5 _ hV tq9 ht hr
 by_cases k1:kd=1\/kd=2
 .have e:lM p q ⟨kd,pa,tq9,at_,tx⟩=uI p q pa (decide (yz q 16 0<0)):=by unfold lM;dsimp only;rw[if_pos k1]
  rw[e];refine aT f48 ?_;(repeat' (first|refine' aW|refine' zg|refine' q9|refine' zh|refine' uA|((with_reducible apply WO.YJ);exact aC;(exact Pq.mk (vk.mk cb cb cb) cb cb);(intro s hr;exact al1 s _ _ hr);intros)|refine' av|fail));all_goals try refine rB
  all_goals refine' ax
  all_goals rfl
 by_cases hk:de p pa<0
 .have e:lM p q ⟨kd,pa,tq9,at_,tx⟩=2:=by unfold lM;dsimp only;rw[if_neg k1,if_pos hk]
  rw[e];refine aT f48 ?_;repeat' (first|refine' aW|refine' zg|refine' q9|refine' zh|refine' uA|refine' av|fail)
  all_goals try refine rB
  all_goals refine' ax
  all_goals rfl
 have SZ:0<=de p pa:=by omega
 by_cases k3:kd=3\/kd=4
 .cases hf:iw q (de p pa) with
  |true=>
   (have e:lM p q ⟨kd,pa,tq9,at_,tx⟩=4:=by unfold lM;dsimp only;rw[if_neg k1,if_neg hk,if_pos k3,if_pos hf]);refine' zaP
  |false=>
   by_cases h9:192<at_+(tx.length:Int)
   .have e:lM p q ⟨kd,pa,tq9,at_,tx⟩=6:=by unfold lM;dsimp only;rw[if_neg k1,if_neg hk,if_pos k3,if_neg (by rw[hf];exact iZ),if_pos h9]
    rw[e];refine aT f48 ?_;refine' X0;(all_goals try refine rB);(all_goals refine' ax);all_goals rfl
   .have e:lM p q ⟨kd,pa,tq9,at_,tx⟩=0:=by unfold lM;dsimp only;rw[if_neg k1,if_neg hk,if_pos k3,if_neg (by rw[hf];exact iZ),if_neg h9]
    rw[e];refine aT f48 ?_;refine' X0;(all_goals try refine rB);(all_goals refine' ax);all_goals rfl
 by_cases k5:kd=5
 .subst k5;by_cases h0:de p pa=0
  .have e:lM p q ⟨5,pa,tq9,at_,tx⟩=5:=by unfold lM;dsimp only;rw[if_neg k1,if_neg hk,if_neg k3,if_pos rfl,if_pos (.inl h0)]
   rw[e];refine aT f48 ?_;(repeat' (first|refine' aW|refine' zg|refine' q9|refine' zh|refine' uA|refine' av|fail));(all_goals try refine rB);(all_goals refine' ax);all_goals rfl
  cases hf:iw q (de p pa) with
  |false=>
   (have e:lM p q ⟨5,pa,tq9,at_,tx⟩=0:=by unfold lM;dsimp only;rw[if_neg k1,if_neg hk,if_neg k3,if_pos rfl,if_neg (by rintro(h|h)<;>first|exact h0 h|(rw[hf] at h;cases h.1))]);refine' zaP
  |true=>
   by_cases he:0<Ox p (de p pa)
   .have e:lM p q ⟨5,pa,tq9,at_,tx⟩=5:=by unfold lM;dsimp only;rw[if_neg k1,if_neg hk,if_neg k3,if_pos rfl,if_pos (.inr ⟨hf,he⟩)]
    rw[e];refine aT f48 ?_;(repeat' (first|refine' aW|refine' zg|refine' q9|refine' zh|refine' uA|refine' L5|refine' aa2|refine' av|fail));(all_goals try refine rB);(all_goals refine' ax);all_goals rfl
   .have e:lM p q ⟨5,pa,tq9,at_,tx⟩=0:=by unfold lM;dsimp only;rw[if_neg k1,if_neg hk,if_neg k3,if_pos rfl,if_neg (by rintro(h|h)<;>first|exact h0 h|exact he h.2)]
    rw[e];refine aT f48 ?_;(repeat' (first|refine' aW|refine' zg|refine' q9|refine' zh|refine' uA|refine' L5|refine' aa2|refine' av|fail));(all_goals try refine rB);(all_goals refine' ax);all_goals rfl
 by_cases k6:kd=6
 .subst k6;cases hf:iw q (de p pa) with
  |true=>
   (have e:lM p q ⟨6,pa,tq9,at_,tx⟩=4:=by unfold lM;dsimp only;rw[if_neg k1,if_neg hk,if_neg k3,if_neg k5,if_pos rfl,if_pos hf]);refine' zaP
  |false=>
   (have e:lM p q ⟨6,pa,tq9,at_,tx⟩=uI p q tq9 (decide (9<=sf p (de p pa))):=by unfold lM;dsimp only;rw[if_neg k1,if_neg hk,if_neg k3,if_neg k5,if_pos rfl,if_neg (by rw[hf];exact iZ)]);rw[e];refine aT f48 ?_;(repeat' (first|refine' aW|refine' zg|refine' q9|refine' zh|refine' uA|refine' L5|((with_reducible apply WO.YJ);exact aC;(exact Pq.mk (vk.mk cb cb cb) cb cb);(intro s hr;exact al2 s _ _ hr);intros)|refine' av|fail));(all_goals try refine rB);(all_goals refine' ax);all_goals rfl
 have OY:=OY ag;obtain rfl:kd=7:=by omega
 by_cases h0:de p pa=0
 .have e:lM p q ⟨7,pa,tq9,at_,tx⟩=5:=by unfold lM;dsimp only;rw[if_neg k1,if_neg hk,if_neg k3,if_neg k5,if_neg k6,if_pos h0]
  rw[e];refine aT f48 ?_;refine' X1;all_goals try refine rB
  all_goals refine' ax
  all_goals rfl
 by_cases h1:0<=de p tq9
 .have e:lM p q ⟨7,pa,tq9,at_,tx⟩=3:=by unfold lM;dsimp only;rw[if_neg k1,if_neg hk,if_neg k3,if_neg k5,if_neg k6,if_neg h0,if_pos h1]
  rw[e];refine aT f48 ?_;refine' X1;all_goals try refine rB
  all_goals refine' ax
  all_goals rfl
 cases hu:under tq9 pa with
 |true=>
  have e:lM p q ⟨7,pa,tq9,at_,tx⟩=5:=by unfold lM;dsimp only;rw[if_neg k1,if_neg hk,if_neg k3,if_neg k5,if_neg k6,if_neg h0,if_neg h1,if_pos hu]
  refine' zbr
 |false=>
 by_cases h2:de p (Ev.dn tq9)<0
 .have e:lM p q ⟨7,pa,tq9,at_,tx⟩=2:=by unfold lM;dsimp only;rw[if_neg k1,if_neg hk,if_neg k3,if_neg k5,if_neg k6,if_neg h0,if_neg h1,if_neg (by rw[hu];exact iZ),if_pos h2]
  rw[e];refine aT f48 ?_;refine' X1;all_goals try refine rB
  all_goals refine' ax
  all_goals rfl
 cases hg:iw q (de p (Ev.dn tq9)) with
 |false=>
  have e:lM p q ⟨7,pa,tq9,at_,tx⟩=4:=by unfold lM;dsimp only;rw[if_neg k1,if_neg hk,if_neg k3,if_neg k5,if_neg k6,if_neg h0,if_neg h1,if_neg (by rw[hu];exact iZ),if_neg h2,if_pos hg]
  refine' zbr
 |true=>
 by_cases h3:de p (Ev.dn tq9)≠de p (Ev.dn pa)
 .by_cases h4:12<=Ox p (de p (Ev.dn tq9))
  .have e:lM p q ⟨7,pa,tq9,at_,tx⟩=6:=by unfold lM;dsimp only;rw[if_neg k1,if_neg hk,if_neg k3,if_neg k5,if_neg k6,if_neg h0,if_neg h1,if_neg (by rw[hu];exact iZ),if_neg h2,if_neg (by rw[hg];decide),if_pos ⟨h3,h4⟩]
   rw[e];refine aT f48 ?_;refine' aeX;(all_goals try refine rB);(all_goals refine' ax);all_goals rfl
  .have e:lM p q ⟨7,pa,tq9,at_,tx⟩=0:=by unfold lM;dsimp only;rw[if_neg k1,if_neg hk,if_neg k3,if_neg k5,if_neg k6,if_neg h0,if_neg h1,if_neg (by rw[hu];exact iZ),if_neg h2,if_neg (by rw[hg];decide),if_neg (λh=>h4 h.2)]
   rw[e];refine aT f48 ?_;refine' aeX;(all_goals try refine rB);(all_goals refine' ax);all_goals rfl
 .have e:lM p q ⟨7,pa,tq9,at_,tx⟩=0:=by unfold lM;dsimp only;rw[if_neg k1,if_neg hk,if_neg k3,if_neg k5,if_neg k6,if_neg h0,if_neg h1,if_neg (by rw[hu];exact iZ),if_neg h2,if_neg (by rw[hg];decide),if_neg (λh=>h3 h.1)]
  rw[e];refine aT f48 ?_;refine' aeX;all_goals try refine rB
  all_goals refine' ax
  all_goals rfl
variable {x y:It}
theorem abP {s:St}{Lm:bZ}{A:List Nat}(h1:∀x∈Lm,x.ok s)(h2:∀x∈Lm,∀b∈x.a8,b<s.next)(h3:(Lm.flatMap It.a8).Nodup):Inv ⟨s,Lm.flatMap It.a8,A⟩ s Lm:=
 ⟨λ_ _ _=>rfl,cG _,h1,λx hx b hb=>⟨h2 x hx b hb,.inr (pC.2 ⟨x,hx,hb⟩)⟩,h3,λb hb=>.inl hb,λb hb=>.inl hb,λb hb=>.inl hb,λb hb=>.inl hb⟩
theorem Nb {α:Type}{sz:Nat}{enc:ak α sz}{fid g e:Nat}{fn:Func}{dec:a6->Option (List α)}{cells:α->a6}{sort:List α->List α}{apart:List α->Bool}(afn:∀l:List α,dec (ai (sz:=sz) l)=some l)(JC:∀l:List α,l.flatMap cells=ai (sz:=sz) l)(Lw:bh.fn.get fid=some fn)
  (hk:∀args s k,uT bw fid args s k=Ev.LA g sz dec cells sort apart args s)(cX:∀l,(sort l).length=l.length)(s:St)(a:aM)(c n:Nat)(p:List α)(h1:1<=n)(h2:n<=p.length)(h3:p.length<=100000)(KD:apart (p.take n)=true):
  BH fid [.slice a n c,.func (.func g) ⟨[]⟩ ⟨[]⟩] s [.aQ (.slice a p.length c) e sz (ai (sz:=sz) p)] [] λR L=>R= .tuple ⟨[]⟩/\L=[.aQ (.slice a p.length c) e sz (ai (sz:=sz) (sort (p.take n)++p.drop n))]:=λi1 i2 i3=>by
 have hI:=abP (A:=[]) i1 i2 i3;rcases hI.it _ gh with⟨h4,_⟩|⟨b,n',k',w,aS,h4,h5,h6,h7⟩
 .exfalso;have:=(Value.slice.inj h4).2.1;omega
 .cases h4
  have dG:=hI.may gh (b:=b) (by simp[It.a8,mZ]);have hr:=hI.aY dG;have rS:=bp (sz:=sz) p;have hle:n*sz<=p.length*sz:=KM _ h2;have pj:(ai (sz:=sz) p++aS).take 0++(sort (p.take n)).flatMap cells++(ai (sz:=sz) p++aS).drop (0+n*sz)=ai (sz:=sz) (sort (p.take n)++p.drop n)++aS:=by
   rw[JC,nb,<-sJ,List.take_zero,pn,mU,Sz (by rw[rS];exact hle),ku]
  refine oY.aaF Lw (s':=(s.aY b).put b (some (.cells (ai (sz:=sz) (sort (p.take n)++p.drop n)++aS) e w))) (v:=.tuple ⟨[]⟩) (λk=>(hk _ _ _).trans ?_) ⟨_,hr.put (x':=.aQ (.slice (jz b) p.length c) e sz (ai (sz:=sz) (sort (p.take n)++p.drop n))) zd.here rfl rfl (Or.inr ⟨b,p.length,_,w,aS,rfl,by show T.get (St.heap _) b=_;simp,?_,aoK h7 (by rw[bp,bp,bL,cX,cW,eW];congr 1;omega)⟩),rfl,rfl⟩
  .show dZ (Nat.beq g g&&Nat.ble 1 n&&Nat.ble n 1000000) (s.row b λc e w s=>dZ (Nat.ble (0+n*sz) c.length)<| ob (dec ((c.drop 0).take (n*sz))) λl=>dZ (apart l&&Nat.beq l.length n)<| aN (Value.tuple ⟨[]⟩) (s.put b (some (.cells (c.take 0++(sort l).flatMap cells++c.drop (0+n*sz)) e w))))=_;rw[kD,gp h1,gp (show n<=1000000 by omega)];show(s.row b λc e w s=>_)=_;unfold St.row St.look;rw[h5];simp only[cu];rw[gp (show 0+n*sz<=(ai (sz:=sz) p++aS).length by rw[bL,rS,mU];omega),CX,B8 (by rw[rS];exact hle),pZ,afn];show dZ (apart (p.take n)&&Nat.beq (p.take n).length n) _=_;rw[KD,show(p.take n).length=n by rw[cW];omega,kD];show aN _ _=_;rw[pj];rfl
  .rw[bp]
   congr 1
   rw[bL,cX,cW,eW];omega
theorem Nc (x:a7):∀l,(Ev.wI x l).length=l.length+1
 |[]=>rfl
 |y::l=>by
  unfold Ev.wI;split
  .rfl
  .rw[cY,Nc x l,cY]
theorem wk:∀l,(Ev.gS l).length=l.length
 |[]=>rfl
 |x::l=>by
  show(Ev.wI x (Ev.gS l)).length=_;rw[Nc,wk l,cY]
theorem Nd (x:bP):∀l,(Ev.wJ x l).length=l.length+1
 |[]=>rfl
 |y::l=>by
  unfold Ev.wJ;split
  .rfl
  .rw[cY,Nd x l,cY]
theorem wm:∀l,(Ev.il l).length=l.length
 |[]=>rfl
 |x::l=>by
  show(Ev.wJ x (Ev.il l)).length=_;rw[Nd,wm l,cY]
theorem Nf:∀l:List a7,Ev.Tg (ai l)=some l
 |[]=>rfl
 |x::l=>by
  rw[dJ];show(Ev.Tg (ai l)).map _=_;rw[Nf l];rfl
theorem Ng:∀l:fg,Ev.Th (ai l)=some l
 |[]=>rfl
 |x::l=>by
  rw[dJ];show(Ev.Th (ai l)).map _=_;rw[Ng l];rfl
theorem YP (s:St)(a:aM)(c n:Nat)(p:List a7)(h1:1<=n)(h2:n<=p.length)(h3:p.length<=100000)(KD:Ev.xJ (p.take n)=true):BH 135 [.slice a n c,.func (.func 136) ⟨[]⟩ ⟨[]⟩] s [.aQ (.slice a p.length c) 39 2 (ai p)] [] λR L=>R= .tuple ⟨[]⟩/\L=[.aQ (.slice a p.length c) 39 2 (ai (Ev.gS (p.take n)++p.drop n))]:=
 Nb (fn:=f135) Nf (λl=>rfl) cV (λargs s k=>rfl) wk s a c n p h1 h2 h3 KD
theorem YQ (s:St)(a:aM)(c n:Nat)(p:fg)(h1:1<=n)(h2:n<=p.length)(h3:p.length<=100000)(KD:Ev.xK (p.take n)=true):BH 137 [.slice a n c,.func (.func 138) ⟨[]⟩ ⟨[]⟩] s [.aQ (.slice a p.length c) 61 3 (ai p)] [] λR L=>R= .tuple ⟨[]⟩/\L=[.aQ (.slice a p.length c) 61 3 (ai (Ev.il (p.take n)++p.drop n))]:=
 Nb (fn:=f137) Ng (λl=>rfl) cV (λargs s k=>rfl) wm s a c n p h1 h2 h3 KD
abbrev wo (b:Nat)(a:aM)(n c:Nat)(p:List a7)(a':aM)(n' c':Nat)(q:fg):bZ:=[.box b [.slice a n c,.slice a' n' c'] 26 false,.aQ (.slice a p.length c) 39 2 (ai p),.aQ (.slice a' q.length c') 61 3 (ai q)]
theorem WO.call1 (hx:kA l xs vs)(h:∀s,fM E X g vs s [x] [] λR L=>R=r/\L=[y])(hp:oZ [x] L R)(k:∀m m',jX L m->m<=m'->K r (y::R) m m' (FtR [] [x] m m') (FtW [x] m m')):WC E X Γ l g xs ts L K:=
 WO.call (Lm:=[x]) (R:=R) (A:=[]) hx hp.cZ (λs hi b hb=>by cases hb) (λs hi=>h s) (by rintro r' L' m m' ho hm ⟨rfl,rfl⟩;exact k m m' ho hm)
theorem Nh (s:St)(b:Nat)(a:aM)(n c:Nat)(p:List a7)(a':aM)(n' c':Nat)(q:fg)(h1:1<=n)(h2:n<=p.length)(h3:p.length<=100000)(KD:Ev.xJ (p.take n)=true)(h1':1<=n')(Ou:n'<=q.length)(Ts:q.length<=100000)(aoc:Ev.xK (q.take n')=true):
  BH 93 [bg b] s (wo b a n c p a' n' c' q) [] λR L=>R= .tuple ⟨[]⟩/\L=wo b a n c (Ev.gS (p.take n)++p.drop n) a' n' c' (Ev.il (q.take n')++q.drop n'):=by
 have e1:(Ev.gS (p.take n)++p.drop n).length=p.length:=by rw[bL,wk,cW,eW];omega
 have e2:(Ev.il (q.take n')++q.drop n').length=q.length:=by rw[bL,wm,cW,eW];omega
 unfold wo;rw[e1,e2];refine aT f93 ?_;(repeat' (first|refine' aW|((with_reducible apply WO.call1);exact aC;(intro s;exact YP s _ _ _ _ ag ag ag aL);exact eC;intros)|((with_reducible apply WO.call1);exact aC;(intro s;exact YQ s _ _ _ _ ag ag ag aL);exact eC;intros)|refine' av|fail));all_goals exact⟨bG,_,_,bu,ar,rfl,rfl⟩
variable {a2:aM}{n n2 sz sz2:Nat}{cs cs2:a6}
theorem WO.Xm (hx:kA l xs vs)(h:∀s,bH s a n sz cs->bH s a2 n2 sz2 cs2->nQ E X g vs s (aj a++aj a2) r)(h1:jB Γ L a n sz cs)(h2:jB Γ L a2 n2 sz2 cs2)(k:∀m m',jX L m->m<=m'->K r L m m' (FtR (aj a++aj a2) [] m m') (FtW [] m m')):WC E X Γ l g xs ts L K:=
 WO.qE hx (λs hi=>⟨λi hb=>by
   rcases eZ.1 hb with hb|hb
   .exact(h1.row hi).2 i hb
   .exact(h2.row hi).2 i hb,h s (h1.row hi).1 (h2.row hi).1⟩) k
theorem rJ {α:Type}(P:α->Bool)(l:List α)(d:α){j:Nat}(hj:j<l.length):(l.take (j+1)).filter P=(l.take j).filter P++if P (l.getD j d) then [l.getD j d] else []:=by
 rw[uO,qk,aZ,bd hj]
 congr 1
 show([l[j]]:List α).filter P=if P l[j]=true then [l[j]] else []
 rw[sj,List.filter_nil]
theorem E1 (s:St)(b3:Nat)(o:Op)(x:a7)(hr:bH s (jz b3) 1 5 (nc o)):bF 89 [.agg ⟨ak.cells x⟩,bg b3] s (aj (jz b3)) (.bool (decide (x.af=o.af))):=by
 have Oz:=Rd.of (A:=aj (jz b3)) hr λ_ hb=>hb
 refine aT f89 ?_;repeat' (first|refine' aW|refine' aa0|refine' av|fail)
 all_goals refine' ax
 all_goals rfl
theorem E2 (s:St)(b3:Nat)(o:Int)(x:bP)(hr:bH s (jz b3) 1 1 [iv o]):bF 92 [.agg ⟨ak.cells x⟩,bg b3] s (aj (jz b3)) (.bool (decide (x.id=o))):=by
 have Oz:=Rd.of (A:=aj (jz b3)) hr λ_ hb=>hb
 refine aT f92 ?_;repeat' (first|refine' aW|refine' aa0|refine' av|fail)
 all_goals refine' ax
 all_goals rfl
theorem abQ (s:St)(a:aM)(c:Nat)(p:List a7)(hp:p.length<=1000)(b3:Nat)(o:Op)(hr:bH s a p.length 2 (ai p))(hb:bH s (jz b3) 1 5 (nc o)):bF 133 [.slice a p.length c,.func (.func 89) ⟨[]⟩ ⟨[bg b3]⟩] s (aj a++aj (jz b3)) (iv (oI (p.findIdx? λx=>decide (x.af=o.af)))):=by
 refine' zbh;have uV:∀(s:St)(x:a7),bH s (jz b3) 1 5 (nc o)->bF 89 [.agg ⟨ak.cells x⟩,bg b3] s (aj (jz b3)) (.bool (decide (x.af=o.af))):=λs x hr=>E1 s b3 o x hr
 refine aT f133 ?_;refine' cR
 refine W.bN (λm l L=>∃(i:Nat),Le [(0,.slice a p.length c),(1,.func (.func 89) ⟨[]⟩ ⟨[bg b3]⟩),(7,iv (p.length:Int)),(8,iv (i:Int))] l/\cC [] L/\m=p.length-i/\i<=p.length/\∀j,j<i->(λx:a7=>decide (x.af=o.af)) (p.getD j ak.ah)≠true)
  (λl L=>Le [] l/\cC [] L/\(p.findIdx? λx=>decide (x.af=o.af))=none) _ ⟨0,bj,ar,rfl,ag,λj hj=>by omega⟩ ?_ ?_
 .rintro m l L ⟨i,hl,hL,rfl,h1,h2⟩;refine W.le ?_ hl hL;clear hl hL;by_cases hi:i<p.length
  ·(refine' abf)
   all_goals try refine cj
   .have e:(p.findIdx? λx=>decide (x.af=o.af))=some i:=lL (d:=ak.ah (α:=a7)) hi (by rw[bQ];assumption) h2;refine' ax
    rw[e];rfl
   .refine⟨_,ag,i+1,bj,ar,rfl,ag,λj hj=>?_⟩;by_cases uH:j=i
    .subst uH;rw[ne_eq,bQ];assumption
    .exact h2 j ag
  .have e:(p.findIdx? λx=>decide (x.af=o.af))=none:=wa ak.ah λj hj=>h2 j ag
   refine' cR;(all_goals try refine cj);all_goals exact⟨bj,ar,e⟩
 .rintro l L ⟨hl,hL,h2⟩;refine aq ?_;refine W.le ?_ hl hL;clear hl hL;rw[h2];refine' cR
  all_goals refine' ax
  all_goals rfl
theorem aa4 (s:St)(a:aM)(c:Nat)(p:List a7)(hp:p.length<=1000)(b3:Nat)(o:Op)(hb:bH s (jz b3) 1 5 (nc o))(hm:b3∉[It.aQ (.slice a p.length c) 39 2 (ai p)].flatMap It.a8):
  BH 88 [.slice a p.length c,.func (.func 89) ⟨[]⟩ ⟨[bg b3]⟩] s [.aQ (.slice a p.length c) 39 2 (ai p)] (aj (jz b3)) λR L=>∃p':List a7,p'.length=p.length/\p'.take (p.filter λx=>!decide (x.af=o.af)).length=(p.filter λx=>!decide (x.af=o.af))/\R= .slice a (p.filter λx=>!decide (x.af=o.af)).length c/\L=[.aQ (.slice a p.length c) 39 2 (ai p')]:=by
 have Oz:Rd ⟨s,[It.aQ (.slice a p.length c) 39 2 (ai p)].flatMap It.a8,aj (jz b3)⟩ (jz b3) 1 5 (nc o):=⟨hb,λ_ hb=>hb,λi hi=>by rw[show i=b3 by simpa[aj] using hi];exact hm⟩;have uV:∀(s:St)(x:a7),bH s (jz b3) 1 5 (nc o)->bF 89 [.agg ⟨ak.cells x⟩,bg b3] s (aj (jz b3)) (.bool (decide (x.af=o.af))):=λs x hr=>E1 s b3 o x hr
 have J4:∀s,bH s a p.length 2 (ai p)->bH s (jz b3) 1 5 (nc o)->bF 133 [.slice a p.length c,.func (.func 89) ⟨[]⟩ ⟨[bg b3]⟩] s (aj a++aj (jz b3)) (iv (oI (p.findIdx? λx=>decide (x.af=o.af)))):=λs h1 h2=>abQ s a c p hp b3 o h1 h2
 cases hf:p.findIdx? λx=>decide (x.af=o.af) with
 |none=>
  rw[hf] at J4;have Hy:∀s,bH s a p.length 2 (ai p)->bH s (jz b3) 1 5 (nc o)->bF 133 [.slice a p.length c,.func (.func 89) ⟨[]⟩ ⟨[bg b3]⟩] s (aj a++aj (jz b3)) (iv (-1)):=J4;have Um:(p.filter λx=>!decide (x.af=o.af))=p:=C3.2 λx hx=>by
   have:=Bl.1 hf x hx;rw[this];rfl
  rw[Um];refine aT f88 ?_;repeat' (first|refine' aW|refine' aa3|refine' av|fail)
  all_goals try refine cj
  all_goals exact⟨bG,_,_,bu,ar,p,rfl,gY,rfl,rfl⟩
 |some i0=>
  rw[hf] at J4;have Hy:∀s,bH s a p.length 2 (ai p)->bH s (jz b3) 1 5 (nc o)->bF 133 [.slice a p.length c,.func (.func 89) ⟨[]⟩ ⟨[bg b3]⟩] s (aj a++aj (jz b3)) (iv (i0:Int)):=J4;obtain⟨g1,g2,g3⟩:=oO.1 hf;have hz:(p.take (i0+1)).filter (λx=>!decide (x.af=o.af))=p.take i0:=by
   rw[rJ _ p ak.ah g1,aZ,bd g1];have:(!decide (p[i0].af=o.af))=false:=by simpa using g2
   have e2:(p.take i0).filter (λx=>!decide (x.af=o.af))=p.take i0:=C3.2 λx hx=>by
    obtain⟨j,hj,rfl⟩:=iY hx;rw[cW] at hj;rw[List.getElem_take];have:=g3 j ag;simpa using this
   rw[e2];simp only[qj];rw[if_neg (by rw[this];exact iZ),gg]
  refine aT f88 ?_;repeat' (first|refine' aW|refine' aa3|refine' av|fail)
  all_goals try refine cj
  refine W.bN (λm l L=>∃(w:List a7)(i j:Nat),Le [(0,.slice a p.length c),(1,.func (.func 89) ⟨[]⟩ ⟨[bg b3]⟩),(5,iv (i:Int)),(6,iv (j:Int))] l/\cC [.aQ (.slice a p.length c) 39 2 (ai w)] L/\m=p.length-j/\w.length=p.length/\i<j/\j<=p.length/\w.take i=(p.take j).filter (λx=>!decide (x.af=o.af))/\w.drop j=p.drop j)
   (λl L=>∃(w:List a7)(i:Nat),Le [(0,.slice a p.length c),(5,iv (i:Int))] l/\cC [.aQ (.slice a p.length c) 39 2 (ai w)] L/\w.length=p.length/\i<=p.length/\w.take i=p.filter (λx=>!decide (x.af=o.af))) _ ⟨p,i0,i0+1,bj,ar,rfl,rfl,ag,ag,hz.symm,rfl⟩ ?_ ?_
  .rintro m l L ⟨w,i,j,hl,hL,rfl,h1,h2,h3,h4,h5⟩;refine W.le ?_ hl hL;clear hl hL;by_cases hj:j<p.length
   .have hwj:w.getD j ak.ah=p.getD j ak.ah:=by
     have:=ep (λl=>l.getD 0 ak.ah) h5;simpa[aZ,wQ] using this
    have pr:=rJ (λx:a7=>!decide (x.af=o.af)) p ak.ah hj;refine' abf;all_goals try refine cj
    .refine⟨_,ag,w.set i (w.getD j ak.ah),i+1,j+1,bj,ar,rfl,by rw[gN];exact h1,ag,ag,?_,?_⟩
     .rw[pr,<-h4,<-hwj,if_pos (by rw[eI aL];rfl)];rw[uO,List.getElem?_set_self ag,List.take_set_of_le (cG _)];rfl
     .rw[List.drop_set_of_lt ag,<-mu,h5,mu]
    .refine⟨_,ag,w,i,j+1,bj,ar,rfl,h1,ag,ag,?_,by rw[<-mu,h5,mu]⟩;rw[pr,<-h4,<-hwj,if_neg (by rw[bY aL];exact iZ),gg]
   .have Z9:j=p.length:=by omega
    rw[Z9,gY] at h4;refine' cR;(all_goals try refine cj);all_goals exact⟨w,i,bj,ar,h1,ag,h4⟩
  .rintro l L ⟨w,i,hl,hL,h1,h2,h4⟩;refine aq ?_;refine W.le ?_ hl hL;clear hl hL;have hil:(p.filter λx=>!decide (x.af=o.af)).length=i:=by rw[<-h4,cW];omega
   rw[hil];refine' aiP;(all_goals try refine cj);all_goals exact⟨bG,_,_,bu,ar,w.take i++List.replicate (p.length-i) (⟨[],0⟩)++w.drop (i+(p.length-i)),by rw[bL,bL,cW,qX,eW];omega,by rw[ku,B8 (by rw[cW];omega),OC,Nat.min_self,h4],rfl,rfl⟩
theorem abR (s:St)(a:aM)(c:Nat)(p:fg)(hp:p.length<=1000)(b3:Nat)(o:Int)(hr:bH s a p.length 3 (ai p))(hb:bH s (jz b3) 1 1 ([iv o])):bF 134 [.slice a p.length c,.func (.func 92) ⟨[]⟩ ⟨[bg b3]⟩] s (aj a++aj (jz b3)) (iv (oI (p.findIdx? λx=>decide (x.id=o)))):=by
 refine' zbh;have uV:∀(s:St)(x:bP),bH s (jz b3) 1 1 ([iv o])->bF 92 [.agg ⟨ak.cells x⟩,bg b3] s (aj (jz b3)) (.bool (decide (x.id=o))):=λs x hr=>E2 s b3 o x hr
 refine aT f134 ?_;refine' cR
 refine W.bN (λm l L=>∃(i:Nat),Le [(0,.slice a p.length c),(1,.func (.func 92) ⟨[]⟩ ⟨[bg b3]⟩),(7,iv (p.length:Int)),(8,iv (i:Int))] l/\cC [] L/\m=p.length-i/\i<=p.length/\∀j,j<i->(λx:bP=>decide (x.id=o)) (p.getD j ak.ah)≠true)
  (λl L=>Le [] l/\cC [] L/\(p.findIdx? λx=>decide (x.id=o))=none) _ ⟨0,bj,ar,rfl,ag,λj hj=>by omega⟩ ?_ ?_
 .rintro m l L ⟨i,hl,hL,rfl,h1,h2⟩;refine W.le ?_ hl hL;clear hl hL;by_cases hi:i<p.length
  ·(refine' abf)
   all_goals try refine cj
   .have e:(p.findIdx? λx=>decide (x.id=o))=some i:=lL (d:=ak.ah (α:=bP)) hi (by rw[bQ];assumption) h2;refine' ax
    rw[e];rfl
   .refine⟨_,ag,i+1,bj,ar,rfl,ag,λj hj=>?_⟩;by_cases uH:j=i
    .subst uH;rw[ne_eq,bQ];assumption
    .exact h2 j ag
  .have e:(p.findIdx? λx=>decide (x.id=o))=none:=wa ak.ah λj hj=>h2 j ag
   refine' cR;(all_goals try refine cj);all_goals exact⟨bj,ar,e⟩
 .rintro l L ⟨hl,hL,h2⟩;refine aq ?_;refine W.le ?_ hl hL;clear hl hL;rw[h2];refine' cR
  all_goals refine' ax
  all_goals rfl
theorem aa5 (s:St)(a:aM)(c:Nat)(p:fg)(hp:p.length<=1000)(b3:Nat)(o:Int)(hb:bH s (jz b3) 1 1 ([iv o]))(hm:b3∉[It.aQ (.slice a p.length c) 61 3 (ai p)].flatMap It.a8):
  BH 91 [.slice a p.length c,.func (.func 92) ⟨[]⟩ ⟨[bg b3]⟩] s [.aQ (.slice a p.length c) 61 3 (ai p)] (aj (jz b3)) λR L=>∃p':fg,p'.length=p.length/\p'.take (p.filter λx=>!decide (x.id=o)).length=(p.filter λx=>!decide (x.id=o))/\R= .slice a (p.filter λx=>!decide (x.id=o)).length c/\L=[.aQ (.slice a p.length c) 61 3 (ai p')]:=by
 have Oz:Rd ⟨s,[It.aQ (.slice a p.length c) 61 3 (ai p)].flatMap It.a8,aj (jz b3)⟩ (jz b3) 1 1 ([iv o]):=⟨hb,λ_ hb=>hb,λi hi=>by rw[show i=b3 by simpa[aj] using hi];exact hm⟩;have uV:∀(s:St)(x:bP),bH s (jz b3) 1 1 ([iv o])->bF 92 [.agg ⟨ak.cells x⟩,bg b3] s (aj (jz b3)) (.bool (decide (x.id=o))):=λs x hr=>E2 s b3 o x hr
 have J4:∀s,bH s a p.length 3 (ai p)->bH s (jz b3) 1 1 ([iv o])->bF 134 [.slice a p.length c,.func (.func 92) ⟨[]⟩ ⟨[bg b3]⟩] s (aj a++aj (jz b3)) (iv (oI (p.findIdx? λx=>decide (x.id=o)))):=λs h1 h2=>abR s a c p hp b3 o h1 h2
 cases hf:p.findIdx? λx=>decide (x.id=o) with
 |none=>
  rw[hf] at J4;have Hy:∀s,bH s a p.length 3 (ai p)->bH s (jz b3) 1 1 ([iv o])->bF 134 [.slice a p.length c,.func (.func 92) ⟨[]⟩ ⟨[bg b3]⟩] s (aj a++aj (jz b3)) (iv (-1)):=J4;have Um:(p.filter λx=>!decide (x.id=o))=p:=C3.2 λx hx=>by
   have:=Bl.1 hf x hx;rw[this];rfl
  rw[Um];refine aT f91 ?_;repeat' (first|refine' aW|refine' aa3|refine' av|fail)
  all_goals try refine cj
  all_goals exact⟨bG,_,_,bu,ar,p,rfl,gY,rfl,rfl⟩
 |some i0=>
  rw[hf] at J4;have Hy:∀s,bH s a p.length 3 (ai p)->bH s (jz b3) 1 1 ([iv o])->bF 134 [.slice a p.length c,.func (.func 92) ⟨[]⟩ ⟨[bg b3]⟩] s (aj a++aj (jz b3)) (iv (i0:Int)):=J4;obtain⟨g1,g2,g3⟩:=oO.1 hf;have hz:(p.take (i0+1)).filter (λx=>!decide (x.id=o))=p.take i0:=by
   rw[rJ _ p ak.ah g1,aZ,bd g1];have:(!decide (p[i0].id=o))=false:=by simpa using g2
   have e2:(p.take i0).filter (λx=>!decide (x.id=o))=p.take i0:=C3.2 λx hx=>by
    obtain⟨j,hj,rfl⟩:=iY hx;rw[cW] at hj;rw[List.getElem_take];have:=g3 j ag;simpa using this
   rw[e2];simp only[qj];rw[if_neg (by rw[this];exact iZ),gg]
  refine aT f91 ?_;repeat' (first|refine' aW|refine' aa3|refine' av|fail)
  all_goals try refine cj
  refine W.bN (λm l L=>∃(w:fg)(i j:Nat),Le [(0,.slice a p.length c),(1,.func (.func 92) ⟨[]⟩ ⟨[bg b3]⟩),(5,iv (i:Int)),(6,iv (j:Int))] l/\cC [.aQ (.slice a p.length c) 61 3 (ai w)] L/\m=p.length-j/\w.length=p.length/\i<j/\j<=p.length/\w.take i=(p.take j).filter (λx=>!decide (x.id=o))/\w.drop j=p.drop j)
   (λl L=>∃(w:fg)(i:Nat),Le [(0,.slice a p.length c),(5,iv (i:Int))] l/\cC [.aQ (.slice a p.length c) 61 3 (ai w)] L/\w.length=p.length/\i<=p.length/\w.take i=p.filter (λx=>!decide (x.id=o))) _ ⟨p,i0,i0+1,bj,ar,rfl,rfl,ag,ag,hz.symm,rfl⟩ ?_ ?_
  .rintro m l L ⟨w,i,j,hl,hL,rfl,h1,h2,h3,h4,h5⟩;refine W.le ?_ hl hL;clear hl hL;by_cases hj:j<p.length
   .have hwj:w.getD j ak.ah=p.getD j ak.ah:=by
     have:=ep (λl=>l.getD 0 ak.ah) h5;simpa[aZ,wQ] using this
    have pr:=rJ (λx:bP=>!decide (x.id=o)) p ak.ah hj;refine' abf;all_goals try refine cj
    .refine⟨_,ag,w.set i (w.getD j ak.ah),i+1,j+1,bj,ar,rfl,by rw[gN];exact h1,ag,ag,?_,?_⟩
     .rw[pr,<-h4,<-hwj,if_pos (by rw[eI aL];rfl)];rw[uO,List.getElem?_set_self ag,List.take_set_of_le (cG _)];rfl
     .rw[List.drop_set_of_lt ag,<-mu,h5,mu]
    .refine⟨_,ag,w,i,j+1,bj,ar,rfl,h1,ag,ag,?_,by rw[<-mu,h5,mu]⟩;rw[pr,<-h4,<-hwj,if_neg (by rw[bY aL];exact iZ),gg]
   .have Z9:j=p.length:=by omega
    rw[Z9,gY] at h4;refine' cR;(all_goals try refine cj);all_goals exact⟨w,i,bj,ar,h1,ag,h4⟩
  .rintro l L ⟨w,i,hl,hL,h1,h2,h4⟩;refine aq ?_;refine W.le ?_ hl hL;clear hl hL;have hil:(p.filter λx=>!decide (x.id=o)).length=i:=by rw[<-h4,cW];omega
   rw[hil];refine' aiP;(all_goals try refine cj);all_goals exact⟨bG,_,_,bu,ar,w.take i++List.replicate (p.length-i) (⟨0,false,[]⟩)++w.drop (i+(p.length-i)),by rw[bL,bL,cW,qX,eW];omega,by rw[ku,B8 (by rw[cW];omega),OC,Nat.min_self,h4],rfl,rfl⟩
def E3 (x z:az):Bool:=decide (z.length<=x.length)&&decide (x.take z.length=z)
theorem Un (s:St)(x z:az)(hx:x.length<=100000)(hz:z.length<=100000):bF 142 [sv x,sv z] s [] (.bool (E3 x z)):=by
 unfold E3;refine aT f142 ?_;refine' cR;all_goals try refine cj
 all_goals refine' ax
 all_goals simp only[gL]
 all_goals first|rfl|(refine ep Value.bool ?_;first|(rw[bY (by omega:z.length<=x.length),uL])|(rw[eI (by omega:¬z.length<=x.length),Bs]))
theorem Uo (s:St)(x z:az)(hx:x.length<=100000)(hz:z.length<=100000):bF 104 [sv x,sv z] s [] (if E3 x z=true then .tuple ⟨[sv (x.drop z.length),.bool true]⟩ else .tuple ⟨[sv x,.bool false]⟩):=by
 have Vs:∀s,bF 142 [sv x,sv z] s [] (.bool (E3 x z)):=λs=>Un s x z hx hz
 cases h:E3 x z with
 |true=>
  rw[h] at Vs;rw[if_pos rfl];have hl:z.length<=x.length:=by unfold E3 at h;simp at h;exact h.1
  refine aT f104 ?_;(repeat' (first|refine' aW|((with_reducible apply WO.aV);exact aC;exact λs=>Vs s;intros)|refine' av|fail));all_goals try refine cj
  all_goals refine' ax
  all_goals rfl
 |false=>
  rw[h] at Vs;rw[if_neg iZ];refine aT f104 ?_;(repeat' (first|refine' aW|((with_reducible apply WO.aV);exact aC;exact λs=>Vs s;intros)|refine' av|fail));all_goals try refine cj
  all_goals refine' ax
  all_goals rfl
theorem J5 (s:St)(x z:az)(hx:x.length<=100000)(hz:z.length<=100000):bF 70 [sv x,sv z] s [] (if E3 x z=true then .tuple ⟨[sv (x.drop z.length),.bool true]⟩ else .tuple ⟨[sv x,.bool false]⟩):=by
 have Hz:=λs=>Uo s x z hx hz
 cases h:E3 x z with
 |true=>
  rw[if_pos rfl];have Hz:∀s,bF 104 [sv x,sv z] s [] (.tuple ⟨[sv (x.drop z.length),.bool true]⟩):=λs=>by have:=Hz s;rwa [if_pos h] at this
  refine' za6
 |false=>
  rw[if_neg iZ];have Hz:∀s,bF 104 [sv x,sv z] s [] (.tuple ⟨[sv x,.bool false]⟩):=λs=>by have:=Hz s;rwa [if_neg (by rw[h];exact iZ)] at this
  refine' za6
theorem E4:∀n,(Ev.y8 [0] n).length=n
 |0=>rfl
 |n+1=>by
  show([0]++Ev.y8 [0] n).length=_;rw[bL,E4 n];simp;omega
theorem Ie (s:St)(m:Int)(hm:0<=m/\m<=100000):bF 87 [sv [0],iv m] s [] (sv (Ev.y8 [0] m.toNat)):=by
 obtain⟨n,rfl⟩:=wT hm.1;refine Yx (fn:=f87) cV λk=>?_
 show dZ (Nat.ble (1*n) 1000000&&Nat.ble n 1000000) (aN (sv (Ev.y8 [0] n)) s)=_;rw[gp ag,gp ag];rfl
variable {P:List a7}{Q:fg}
end Go.Pl
