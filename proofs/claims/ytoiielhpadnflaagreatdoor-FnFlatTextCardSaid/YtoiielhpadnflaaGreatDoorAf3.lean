/- Lemmas of the proof. No conditions. -/
import Derived.Test.YtoiielhpadnflaaGreatDoorAf2
set_option maxRecDepth 100000
set_option maxHeartbeats 4000000
set_option linter.unusedVariables false
set_option linter.unusedSimpArgs false
open Go.Proofs.Tryz
namespace Go.Pl
open Go Go.Ev Go.Lg Go.Proofs
variable {E:iq}{X:fY}{Γ:qN}{l:Kn}{L R:dy}{K:KO}{g:FuncId}{xs:List Operand}{ts:Array TypeId}{vs:aY}{b:Nat}{k:Int}{a a':aS}{c c':Nat}{q:gD}{r:Value}{s:St}{g2:FuncId}{p:List bE}{z:aC}{x y:It}
theorem ab3 {s:St}{Lm:dy}{A:List Nat}(h1:∀x∈Lm,x.ok s)(h2:∀x∈Lm,∀b∈x.cr,b<s.next)(h3:(Lm.flatMap It.cr).Nodup):Inv ⟨s,Lm.flatMap It.cr,A⟩ s Lm:=
 ⟨λ_ _ _=>rfl,cC _,h1,λx hx b hb=>⟨h2 x hx b hb,.inr (px.2 ⟨x,hx,hb⟩)⟩,h3,λb hb=>.inl hb,λb hb=>.inl hb,λb hb=>.inl hb,λb hb=>.inl hb⟩
theorem NB {α:Type}{sz:Nat}{enc:aq α sz}{fid g e:Nat}{fn:Func}{dec:aY->Option (List α)}{cells:α->aY}{sort:List α->List α}{apart:List α->Bool}(afY:∀l:List α,dec (ai (sz:=sz) l)=some l)(JK:∀l:List α,l.flatMap cells=ai (sz:=sz) l)(Ll:bf.fn.get fid=some fn)
  (hk:∀args s k,uV bw fid args s k=Ev.Lp g sz dec cells sort apart args s)(cX:∀l,(sort l).length=l.length)(s:St)(a:aS)(c n:Nat)(p:List α)(h1:1<=n)(h2:n<=p.length)(h3:p.length<=100000)(Kw:apart (p.take n)=true):
  FC fid [.slice a n c,.func (.func g) ⟨[]⟩ ⟨[]⟩] s [.aQ (.slice a p.length c) e sz (ai (sz:=sz) p)] [] λR L=>R= .tuple ⟨[]⟩/\L=[.aQ (.slice a p.length c) e sz (ai (sz:=sz) (sort (p.take n)++p.drop n))]:=λi1 i2 i3=>by
 have hI:=ab3 (A:=[]) i1 i2 i3;rcases hI.it _ ga with⟨h4,_⟩|⟨b,n',k',w,aE,h4,h5,h6,h7⟩
 .exfalso;have:=(Value.slice.inj h4).2.1;omega
 .cases h4
  have dz:=hI.may ga (b:=b) (by simp[It.cr,pj]);have hr:=hI.aU dz;have sS:=aR (sz:=sz) p;have hle:n*sz<=p.length*sz:=wE _ h2;have qm:(ai (sz:=sz) p++aE).take 0++(sort (p.take n)).flatMap cells++(ai (sz:=sz) p++aE).drop (0+n*sz)=ai (sz:=sz) (sort (p.take n)++p.drop n)++aE:=by
   rw[JK,sx,<-vV,List.take_zero,pF,mS,Oh (by rw[sS];exact hle),iL]
  refine nT.Wy Ll (s':=(s.aU b).put b (some (.cells (ai (sz:=sz) (sort (p.take n)++p.drop n)++aE) e w))) (v:=.tuple ⟨[]⟩) (λk=>(hk _ _ _).trans ?_) ⟨_,hr.put (x':=.aQ (.slice (iJ b) p.length c) e sz (ai (sz:=sz) (sort (p.take n)++p.drop n))) y3.here rfl rfl (Or.inr ⟨b,p.length,_,w,aE,rfl,by show T.get (St.heap _) b=_;simp,?_,DD h7 (by rw[aR,aR,bn,cX,cO,eP];congr 1;omega)⟩),rfl,rfl⟩
  .show dN (Nat.beq g g&&Nat.ble 1 n&&Nat.ble n 1000000) (s.row b λc e w s=>dN (Nat.ble (0+n*sz) c.length)<| ob (dec ((c.drop 0).take (n*sz))) λl=>dN (apart l&&Nat.beq l.length n)<| aM (Value.tuple ⟨[]⟩) (s.put b (some (.cells (c.take 0++(sort l).flatMap cells++c.drop (0+n*sz)) e w))))=_;rw[ja,gb h1,gb (show n<=1000000 by omega)];show(s.row b λc e w s=>_)=_;unfold St.row St.look;rw[h5];simp only[bu];rw[gb (show 0+n*sz<=(ai (sz:=sz) p++aE).length by rw[bn,sS,mS];omega),IG,yz (by rw[sS];exact hle),pU,afY];show dN (apart (p.take n)&&Nat.beq (p.take n).length n) _=_;rw[Kw,show(p.take n).length=n by rw[cO];omega,ja];show aM _ _=_;rw[qm];rfl
  .rw[aR]
   congr 1
   rw[bn,cX,cO,eP];omega
theorem NC (x:bE):∀l,(Ev.wH x l).length=l.length+1
 |[]=>rfl
 |y::l=>by
  unfold Ev.wH;split
  .rfl
  .rw[cU,NC x l,cU]
theorem wv:∀l,(Ev.jV l).length=l.length
 |[]=>rfl
 |x::l=>by
  show(Ev.wH x (Ev.jV l)).length=_;rw[NC,wv l,cU]
theorem ND (x:bS):∀l,(Ev.wI x l).length=l.length+1
 |[]=>rfl
 |y::l=>by
  unfold Ev.wI;split
  .rfl
  .rw[cU,ND x l,cU]
theorem wx:∀l,(Ev.jW l).length=l.length
 |[]=>rfl
 |x::l=>by
  show(Ev.wI x (Ev.jW l)).length=_;rw[ND,wx l,cU]
theorem NF:∀l:List bE,Ev.S6 (ai l)=some l
 |[]=>rfl
 |x::l=>by
  rw[dE];show(Ev.S6 (ai l)).map _=_;rw[NF l];rfl
theorem NG:∀l:gD,Ev.S7 (ai l)=some l
 |[]=>rfl
 |x::l=>by
  rw[dE];show(Ev.S7 (ai l)).map _=_;rw[NG l];rfl
theorem ZC (s:St)(a:aS)(c n:Nat)(p:List bE)(h1:1<=n)(h2:n<=p.length)(h3:p.length<=100000)(Kw:Ev.xD (p.take n)=true):FC 137 [.slice a n c,.func (.func 138) ⟨[]⟩ ⟨[]⟩] s [.aQ (.slice a p.length c) 52 2 (ai p)] [] λR L=>R= .tuple ⟨[]⟩/\L=[.aQ (.slice a p.length c) 52 2 (ai (Ev.jV (p.take n)++p.drop n))]:=
 NB (fn:=f137) NF (λl=>rfl) cj (λargs s k=>rfl) wv s a c n p h1 h2 h3 Kw
theorem ZD (s:St)(a:aS)(c n:Nat)(p:gD)(h1:1<=n)(h2:n<=p.length)(h3:p.length<=100000)(Kw:Ev.xE (p.take n)=true):FC 139 [.slice a n c,.func (.func 140) ⟨[]⟩ ⟨[]⟩] s [.aQ (.slice a p.length c) 54 3 (ai p)] [] λR L=>R= .tuple ⟨[]⟩/\L=[.aQ (.slice a p.length c) 54 3 (ai (Ev.jW (p.take n)++p.drop n))]:=
 NB (fn:=f139) NG (λl=>rfl) cj (λargs s k=>rfl) wx s a c n p h1 h2 h3 Kw
abbrev uH (b:Nat)(a:aS)(n c:Nat)(p:List bE)(a':aS)(n' c':Nat)(q:gD):dy:=[.box b [.slice a n c,.slice a' n' c'] 26 false,.aQ (.slice a p.length c) 52 2 (ai p),.aQ (.slice a' q.length c') 54 3 (ai q)]
theorem WO.call1 (hx:jY l xs vs)(h:∀s,fA E X g vs s [x] [] λR L=>R=r/\L=[y])(hp:nM [x] L R)(k:∀m m',iY L m->m<=m'->K r (y::R) m m' (mV [] [x] m m') (mW [x] m m')):WC E X Γ l g xs ts L K:=
 WO.call (Lm:=[x]) (R:=R) (A:=[]) hx hp.cT (λs hi b hb=>by cases hb) (λs hi=>h s) (by rintro r' L' m m' ho hm ⟨rfl,rfl⟩;exact k m m' ho hm)
theorem NH (s:St)(b:Nat)(a:aS)(n c:Nat)(p:List bE)(a':aS)(n' c':Nat)(q:gD)(h1:1<=n)(h2:n<=p.length)(h3:p.length<=100000)(Kw:Ev.xD (p.take n)=true)(h1':1<=n')(N8:n'<=q.length)(Te:q.length<=100000)(an4:Ev.xE (q.take n')=true):
  FC 91 [bk b] s (uH b a n c p a' n' c' q) [] λR L=>R= .tuple ⟨[]⟩/\L=uH b a n c (Ev.jV (p.take n)++p.drop n) a' n' c' (Ev.jW (q.take n')++q.drop n'):=by
 have e1:(Ev.jV (p.take n)++p.drop n).length=p.length:=by rw[bn,wv,cO,eP];omega
 have e2:(Ev.jW (q.take n')++q.drop n').length=q.length:=by rw[bn,wx,cO,eP];omega
 unfold uH;rw[e1,e2];refine aX f91 ?_;(repeat' (first|refine' aZ|((with_reducible apply WO.call1);exact aD;(intro s;exact ZC s _ _ _ _ af af af aP);exact dU;intros)|((with_reducible apply WO.call1);exact aD;(intro s;exact ZD s _ _ _ _ af af af aP);exact dU;intros)|refine' av|fail));all_goals exact⟨cy,_,_,bY,au,rfl,rfl⟩
variable {a2:aS}{n n2 sz sz2:Nat}{cs cs2:aY}
theorem WO.JN (hx:jY l xs vs)(h:∀s,bM s a n sz cs->bM s a2 n2 sz2 cs2->l7 E X g vs s (aj a++aj a2) r)(h1:kr Γ L a n sz cs)(h2:kr Γ L a2 n2 sz2 cs2)(k:∀m m',iY L m->m<=m'->K r L m m' (mV (aj a++aj a2) [] m m') (mW [] m m')):WC E X Γ l g xs ts L K:=
 WO.nu hx (λs hi=>⟨λi hb=>by
   rcases eW.1 hb with hb|hb
   .exact(h1.row hi).2 i hb
   .exact(h2.row hi).2 i hb,h s (h1.row hi).1 (h2.row hi).1⟩) k
theorem rE {α:Type}(P:α->Bool)(l:List α)(d:α){j:Nat}(hj:j<l.length):(l.take (j+1)).filter P=(l.take j).filter P++if P (l.getD j d) then [l.getD j d] else []:=by
 rw[ui,qW,a7,bc hj]
 congr 1
 show([l[j]]:List α).filter P=if P l[j]=true then [l[j]] else []
 rw[uj,List.filter_nil]
theorem E9 (s:St)(b3:Nat)(o:Op)(x:bE)(hr:bM s (iJ b3) 1 5 (pr o)):bL 86 [.agg ⟨aq.cells x⟩,bk b3] s (aj (iJ b3)) (.bool (decide (x.ag=o.ag))):=by
 have Og:=Rd.of (A:=aj (iJ b3)) hr λ_ hb=>hb
 refine aX f86 ?_;repeat' (first|refine' aZ|refine' abk|refine' av|fail)
 all_goals refine' ax
 all_goals rfl
theorem Fa (s:St)(b3:Nat)(o:Int)(x:bS)(hr:bM s (iJ b3) 1 1 [iv o]):bL 89 [.agg ⟨aq.cells x⟩,bk b3] s (aj (iJ b3)) (.bool (decide (x.id=o))):=by
 have Og:=Rd.of (A:=aj (iJ b3)) hr λ_ hb=>hb
 refine aX f89 ?_;repeat' (first|refine' aZ|refine' abk|refine' av|fail)
 all_goals refine' ax
 all_goals rfl
theorem ab4 (s:St)(a:aS)(c:Nat)(p:List bE)(hp:p.length<=1000)(b3:Nat)(o:Op)(hr:bM s a p.length 2 (ai p))(hb:bM s (iJ b3) 1 5 (pr o)):bL 134 [.slice a p.length c,.func (.func 86) ⟨[]⟩ ⟨[bk b3]⟩] s (aj a++aj (iJ b3)) (iv (oI (p.findIdx? λx=>decide (x.ag=o.ag)))):=by
 refine' zbf;have uA:∀(s:St)(x:bE),bM s (iJ b3) 1 5 (pr o)->bL 86 [.agg ⟨aq.cells x⟩,bk b3] s (aj (iJ b3)) (.bool (decide (x.ag=o.ag))):=λs x hr=>E9 s b3 o x hr
 refine aX f134 ?_;refine' cM
 refine W.bK (λm l L=>∃(i:Nat),Le [(0,.slice a p.length c),(1,.func (.func 86) ⟨[]⟩ ⟨[bk b3]⟩),(7,iv (p.length:Int)),(8,iv (i:Int))] l/\cx [] L/\m=p.length-i/\i<=p.length/\∀j,j<i->(λx:bE=>decide (x.ag=o.ag)) (p.getD j aq.ah)≠true)
  (λl L=>Le [] l/\cx [] L/\(p.findIdx? λx=>decide (x.ag=o.ag))=none) _ ⟨0,bp,au,rfl,af,λj hj=>by omega⟩ ?_ ?_
 .rintro m l L ⟨i,hl,hL,rfl,h1,h2⟩;refine W.le ?_ hl hL;clear hl hL;by_cases hi:i<p.length
  ·(refine' RD)
   all_goals try refine cI
   .have e:(p.findIdx? λx=>decide (x.ag=o.ag))=some i:=lE (d:=aq.ah (α:=bE)) hi (by rw[bR];assumption) h2;refine' ax
    rw[e];rfl
   .refine⟨_,af,i+1,bp,au,rfl,af,λj hj=>?_⟩;by_cases sT:j=i
    .subst sT;rw[ne_eq,bR];assumption
    .exact h2 j af
  .have e:(p.findIdx? λx=>decide (x.ag=o.ag))=none:=vS aq.ah λj hj=>h2 j af
   refine' cM;(all_goals try refine cI);all_goals exact⟨bp,au,e⟩
 .rintro l L ⟨hl,hL,h2⟩;refine ak ?_;refine W.le ?_ hl hL;clear hl hL;rw[h2];refine' cM
  all_goals refine' ax
  all_goals rfl
theorem abl (s:St)(a:aS)(c:Nat)(p:List bE)(hp:p.length<=1000)(b3:Nat)(o:Op)(hb:bM s (iJ b3) 1 5 (pr o))(hm:b3∉[It.aQ (.slice a p.length c) 52 2 (ai p)].flatMap It.cr):
  FC 85 [.slice a p.length c,.func (.func 86) ⟨[]⟩ ⟨[bk b3]⟩] s [.aQ (.slice a p.length c) 52 2 (ai p)] (aj (iJ b3)) λR L=>∃p':List bE,p'.length=p.length/\p'.take (p.filter λx=>!decide (x.ag=o.ag)).length=(p.filter λx=>!decide (x.ag=o.ag))/\R= .slice a (p.filter λx=>!decide (x.ag=o.ag)).length c/\L=[.aQ (.slice a p.length c) 52 2 (ai p')]:=by
 have Og:Rd ⟨s,[It.aQ (.slice a p.length c) 52 2 (ai p)].flatMap It.cr,aj (iJ b3)⟩ (iJ b3) 1 5 (pr o):=⟨hb,λ_ hb=>hb,λi hi=>by rw[show i=b3 by simpa[aj] using hi];exact hm⟩;have uA:∀(s:St)(x:bE),bM s (iJ b3) 1 5 (pr o)->bL 86 [.agg ⟨aq.cells x⟩,bk b3] s (aj (iJ b3)) (.bool (decide (x.ag=o.ag))):=λs x hr=>E9 s b3 o x hr
 have Kh:∀s,bM s a p.length 2 (ai p)->bM s (iJ b3) 1 5 (pr o)->bL 134 [.slice a p.length c,.func (.func 86) ⟨[]⟩ ⟨[bk b3]⟩] s (aj a++aj (iJ b3)) (iv (oI (p.findIdx? λx=>decide (x.ag=o.ag)))):=λs h1 h2=>ab4 s a c p hp b3 o h1 h2
 cases hf:p.findIdx? λx=>decide (x.ag=o.ag) with
 |none=>
  rw[hf] at Kh;have F7:∀s,bM s a p.length 2 (ai p)->bM s (iJ b3) 1 5 (pr o)->bL 134 [.slice a p.length c,.func (.func 86) ⟨[]⟩ ⟨[bk b3]⟩] s (aj a++aj (iJ b3)) (iv (-1)):=Kh;have afZ:(p.filter λx=>!decide (x.ag=o.ag))=p:=KM.2 λx hx=>by
   have:=CT.1 hf x hx;rw[this];rfl
  rw[afZ];refine aX f85 ?_;repeat' (first|refine' aZ|refine' Rr|refine' av|fail)
  all_goals try refine cI
  all_goals exact⟨cy,_,_,bY,au,p,rfl,fU,rfl,rfl⟩
 |some i0=>
  rw[hf] at Kh;have F7:∀s,bM s a p.length 2 (ai p)->bM s (iJ b3) 1 5 (pr o)->bL 134 [.slice a p.length c,.func (.func 86) ⟨[]⟩ ⟨[bk b3]⟩] s (aj a++aj (iJ b3)) (iv (i0:Int)):=Kh;obtain⟨g1,g2,g3⟩:=qe.1 hf;have hz:(p.take (i0+1)).filter (λx=>!decide (x.ag=o.ag))=p.take i0:=by
   rw[rE _ p aq.ah g1,a7,bc g1];have:(!decide (p[i0].ag=o.ag))=false:=by simpa using g2
   have e2:(p.take i0).filter (λx=>!decide (x.ag=o.ag))=p.take i0:=KM.2 λx hx=>by
    obtain⟨j,hj,rfl⟩:=jO hx;rw[cO] at hj;rw[List.getElem_take];have:=g3 j af;simpa using this
   rw[e2];simp only[qd];rw[if_neg (by rw[this];exact iB),gJ]
  refine aX f85 ?_;repeat' (first|refine' aZ|refine' Rr|refine' av|fail)
  all_goals try refine cI
  refine W.bK (λm l L=>∃(w:List bE)(i j:Nat),Le [(0,.slice a p.length c),(1,.func (.func 86) ⟨[]⟩ ⟨[bk b3]⟩),(5,iv (i:Int)),(6,iv (j:Int))] l/\cx [.aQ (.slice a p.length c) 52 2 (ai w)] L/\m=p.length-j/\w.length=p.length/\i<j/\j<=p.length/\w.take i=(p.take j).filter (λx=>!decide (x.ag=o.ag))/\w.drop j=p.drop j)
   (λl L=>∃(w:List bE)(i:Nat),Le [(0,.slice a p.length c),(5,iv (i:Int))] l/\cx [.aQ (.slice a p.length c) 52 2 (ai w)] L/\w.length=p.length/\i<=p.length/\w.take i=p.filter (λx=>!decide (x.ag=o.ag))) _ ⟨p,i0,i0+1,bp,au,rfl,rfl,af,af,hz.symm,rfl⟩ ?_ ?_
  .rintro m l L ⟨w,i,j,hl,hL,rfl,h1,h2,h3,h4,h5⟩;refine W.le ?_ hl hL;clear hl hL;by_cases hj:j<p.length
   .have hwj:w.getD j aq.ah=p.getD j aq.ah:=by
     have:=eC (λl=>l.getD 0 aq.ah) h5;simpa[a7,wP] using this
    have pf:=rE (λx:bE=>!decide (x.ag=o.ag)) p aq.ah hj;refine' RD;all_goals try refine cI
    .refine⟨_,af,w.set i (w.getD j aq.ah),i+1,j+1,bp,au,rfl,by rw[gy];exact h1,af,af,?_,?_⟩
     .rw[pf,<-h4,<-hwj,if_pos (by rw[ec aP];rfl)];rw[ui,List.getElem?_set_self af,List.take_set_of_le (cC _)];rfl
     .rw[List.drop_set_of_lt af,<-mA,h5,mA]
    .refine⟨_,af,w,i,j+1,bp,au,rfl,h1,af,af,?_,by rw[<-mA,h5,mA]⟩;rw[pf,<-h4,<-hwj,if_neg (by rw[du aP];exact iB),gJ]
   .have Z8:j=p.length:=by omega
    rw[Z8,fU] at h4;refine' cM;(all_goals try refine cI);all_goals exact⟨w,i,bp,au,h1,af,h4⟩
  .rintro l L ⟨w,i,hl,hL,h1,h2,h4⟩;refine ak ?_;refine W.le ?_ hl hL;clear hl hL;have hil:(p.filter λx=>!decide (x.ag=o.ag)).length=i:=by rw[<-h4,cO];omega
   rw[hil];refine' adn;(all_goals try refine cI);all_goals exact⟨cy,_,_,bY,au,w.take i++List.replicate (p.length-i) (⟨[],0⟩)++w.drop (i+(p.length-i)),by rw[bn,bn,cO,sX,eP];omega,by rw[iL,yz (by rw[cO];omega),Oj,Nat.min_self,h4],rfl,rfl⟩
theorem ab5 (s:St)(a:aS)(c:Nat)(p:gD)(hp:p.length<=1000)(b3:Nat)(o:Int)(hr:bM s a p.length 3 (ai p))(hb:bM s (iJ b3) 1 1 ([iv o])):bL 135 [.slice a p.length c,.func (.func 89) ⟨[]⟩ ⟨[bk b3]⟩] s (aj a++aj (iJ b3)) (iv (oI (p.findIdx? λx=>decide (x.id=o)))):=by
 refine' zbf;have uA:∀(s:St)(x:bS),bM s (iJ b3) 1 1 ([iv o])->bL 89 [.agg ⟨aq.cells x⟩,bk b3] s (aj (iJ b3)) (.bool (decide (x.id=o))):=λs x hr=>Fa s b3 o x hr
 refine aX f135 ?_;refine' cM
 refine W.bK (λm l L=>∃(i:Nat),Le [(0,.slice a p.length c),(1,.func (.func 89) ⟨[]⟩ ⟨[bk b3]⟩),(7,iv (p.length:Int)),(8,iv (i:Int))] l/\cx [] L/\m=p.length-i/\i<=p.length/\∀j,j<i->(λx:bS=>decide (x.id=o)) (p.getD j aq.ah)≠true)
  (λl L=>Le [] l/\cx [] L/\(p.findIdx? λx=>decide (x.id=o))=none) _ ⟨0,bp,au,rfl,af,λj hj=>by omega⟩ ?_ ?_
 .rintro m l L ⟨i,hl,hL,rfl,h1,h2⟩;refine W.le ?_ hl hL;clear hl hL;by_cases hi:i<p.length
  ·(refine' RD)
   all_goals try refine cI
   .have e:(p.findIdx? λx=>decide (x.id=o))=some i:=lE (d:=aq.ah (α:=bS)) hi (by rw[bR];assumption) h2;refine' ax
    rw[e];rfl
   .refine⟨_,af,i+1,bp,au,rfl,af,λj hj=>?_⟩;by_cases sT:j=i
    .subst sT;rw[ne_eq,bR];assumption
    .exact h2 j af
  .have e:(p.findIdx? λx=>decide (x.id=o))=none:=vS aq.ah λj hj=>h2 j af
   refine' cM;(all_goals try refine cI);all_goals exact⟨bp,au,e⟩
 .rintro l L ⟨hl,hL,h2⟩;refine ak ?_;refine W.le ?_ hl hL;clear hl hL;rw[h2];refine' cM
  all_goals refine' ax
  all_goals rfl
theorem abm (s:St)(a:aS)(c:Nat)(p:gD)(hp:p.length<=1000)(b3:Nat)(o:Int)(hb:bM s (iJ b3) 1 1 ([iv o]))(hm:b3∉[It.aQ (.slice a p.length c) 54 3 (ai p)].flatMap It.cr):
  FC 88 [.slice a p.length c,.func (.func 89) ⟨[]⟩ ⟨[bk b3]⟩] s [.aQ (.slice a p.length c) 54 3 (ai p)] (aj (iJ b3)) λR L=>∃p':gD,p'.length=p.length/\p'.take (p.filter λx=>!decide (x.id=o)).length=(p.filter λx=>!decide (x.id=o))/\R= .slice a (p.filter λx=>!decide (x.id=o)).length c/\L=[.aQ (.slice a p.length c) 54 3 (ai p')]:=by
 have Og:Rd ⟨s,[It.aQ (.slice a p.length c) 54 3 (ai p)].flatMap It.cr,aj (iJ b3)⟩ (iJ b3) 1 1 ([iv o]):=⟨hb,λ_ hb=>hb,λi hi=>by rw[show i=b3 by simpa[aj] using hi];exact hm⟩;have uA:∀(s:St)(x:bS),bM s (iJ b3) 1 1 ([iv o])->bL 89 [.agg ⟨aq.cells x⟩,bk b3] s (aj (iJ b3)) (.bool (decide (x.id=o))):=λs x hr=>Fa s b3 o x hr
 have Kh:∀s,bM s a p.length 3 (ai p)->bM s (iJ b3) 1 1 ([iv o])->bL 135 [.slice a p.length c,.func (.func 89) ⟨[]⟩ ⟨[bk b3]⟩] s (aj a++aj (iJ b3)) (iv (oI (p.findIdx? λx=>decide (x.id=o)))):=λs h1 h2=>ab5 s a c p hp b3 o h1 h2
 cases hf:p.findIdx? λx=>decide (x.id=o) with
 |none=>
  rw[hf] at Kh;have F7:∀s,bM s a p.length 3 (ai p)->bM s (iJ b3) 1 1 ([iv o])->bL 135 [.slice a p.length c,.func (.func 89) ⟨[]⟩ ⟨[bk b3]⟩] s (aj a++aj (iJ b3)) (iv (-1)):=Kh;have afZ:(p.filter λx=>!decide (x.id=o))=p:=KM.2 λx hx=>by
   have:=CT.1 hf x hx;rw[this];rfl
  rw[afZ];refine aX f88 ?_;repeat' (first|refine' aZ|refine' Rr|refine' av|fail)
  all_goals try refine cI
  all_goals exact⟨cy,_,_,bY,au,p,rfl,fU,rfl,rfl⟩
 |some i0=>
  rw[hf] at Kh;have F7:∀s,bM s a p.length 3 (ai p)->bM s (iJ b3) 1 1 ([iv o])->bL 135 [.slice a p.length c,.func (.func 89) ⟨[]⟩ ⟨[bk b3]⟩] s (aj a++aj (iJ b3)) (iv (i0:Int)):=Kh;obtain⟨g1,g2,g3⟩:=qe.1 hf;have hz:(p.take (i0+1)).filter (λx=>!decide (x.id=o))=p.take i0:=by
   rw[rE _ p aq.ah g1,a7,bc g1];have:(!decide (p[i0].id=o))=false:=by simpa using g2
   have e2:(p.take i0).filter (λx=>!decide (x.id=o))=p.take i0:=KM.2 λx hx=>by
    obtain⟨j,hj,rfl⟩:=jO hx;rw[cO] at hj;rw[List.getElem_take];have:=g3 j af;simpa using this
   rw[e2];simp only[qd];rw[if_neg (by rw[this];exact iB),gJ]
  refine aX f88 ?_;repeat' (first|refine' aZ|refine' Rr|refine' av|fail)
  all_goals try refine cI
  refine W.bK (λm l L=>∃(w:gD)(i j:Nat),Le [(0,.slice a p.length c),(1,.func (.func 89) ⟨[]⟩ ⟨[bk b3]⟩),(5,iv (i:Int)),(6,iv (j:Int))] l/\cx [.aQ (.slice a p.length c) 54 3 (ai w)] L/\m=p.length-j/\w.length=p.length/\i<j/\j<=p.length/\w.take i=(p.take j).filter (λx=>!decide (x.id=o))/\w.drop j=p.drop j)
   (λl L=>∃(w:gD)(i:Nat),Le [(0,.slice a p.length c),(5,iv (i:Int))] l/\cx [.aQ (.slice a p.length c) 54 3 (ai w)] L/\w.length=p.length/\i<=p.length/\w.take i=p.filter (λx=>!decide (x.id=o))) _ ⟨p,i0,i0+1,bp,au,rfl,rfl,af,af,hz.symm,rfl⟩ ?_ ?_
  .rintro m l L ⟨w,i,j,hl,hL,rfl,h1,h2,h3,h4,h5⟩;refine W.le ?_ hl hL;clear hl hL;by_cases hj:j<p.length
   .have hwj:w.getD j aq.ah=p.getD j aq.ah:=by
     have:=eC (λl=>l.getD 0 aq.ah) h5;simpa[a7,wP] using this
    have pf:=rE (λx:bS=>!decide (x.id=o)) p aq.ah hj;refine' RD;all_goals try refine cI
    .refine⟨_,af,w.set i (w.getD j aq.ah),i+1,j+1,bp,au,rfl,by rw[gy];exact h1,af,af,?_,?_⟩
     .rw[pf,<-h4,<-hwj,if_pos (by rw[ec aP];rfl)];rw[ui,List.getElem?_set_self af,List.take_set_of_le (cC _)];rfl
     .rw[List.drop_set_of_lt af,<-mA,h5,mA]
    .refine⟨_,af,w,i,j+1,bp,au,rfl,h1,af,af,?_,by rw[<-mA,h5,mA]⟩;rw[pf,<-h4,<-hwj,if_neg (by rw[du aP];exact iB),gJ]
   .have Z8:j=p.length:=by omega
    rw[Z8,fU] at h4;refine' cM;(all_goals try refine cI);all_goals exact⟨w,i,bp,au,h1,af,h4⟩
  .rintro l L ⟨w,i,hl,hL,h1,h2,h4⟩;refine ak ?_;refine W.le ?_ hl hL;clear hl hL;have hil:(p.filter λx=>!decide (x.id=o)).length=i:=by rw[<-h4,cO];omega
   rw[hil];refine' adn;(all_goals try refine cI);all_goals exact⟨cy,_,_,bY,au,w.take i++List.replicate (p.length-i) (⟨0,false,[]⟩)++w.drop (i+(p.length-i)),by rw[bn,bn,cO,sX,eP];omega,by rw[iL,yz (by rw[cO];omega),Oj,Nat.min_self,h4],rfl,rfl⟩
def Fb (x z:aC):Bool:=decide (z.length<=x.length)&&decide (x.take z.length=z)
theorem UK (s:St)(x z:aC)(hx:x.length<=100000)(hz:z.length<=100000):bL 188 [sv x,sv z] s [] (.bool (Fb x z)):=by
 unfold Fb;refine aX f188 ?_;refine' cM;all_goals try refine cI
 all_goals refine' ax
 all_goals simp only[gK]
 all_goals first|rfl|(refine eC Value.bool ?_;first|(rw[du (by omega:z.length<=x.length),uN])|(rw[ec (by omega:¬z.length<=x.length),Bl]))
theorem UL (s:St)(x z:aC)(hx:x.length<=100000)(hz:z.length<=100000):bL 136 [sv x,sv z] s [] (if Fb x z=true then .tuple ⟨[sv (x.drop z.length),.bool true]⟩ else .tuple ⟨[sv x,.bool false]⟩):=by
 have Vj:∀s,bL 188 [sv x,sv z] s [] (.bool (Fb x z)):=λs=>UK s x z hx hz
 cases h:Fb x z with
 |true=>
  rw[h] at Vj;rw[if_pos rfl];have hl:z.length<=x.length:=by unfold Fb at h;simp at h;exact h.1
  refine aX f136 ?_;(repeat' (first|refine' aZ|((with_reducible apply WO.aW);exact aD;exact λs=>Vj s;intros)|refine' av|fail));all_goals try refine cI
  all_goals refine' ax
  all_goals rfl
 |false=>
  rw[h] at Vj;rw[if_neg iB];refine aX f136 ?_;(repeat' (first|refine' aZ|((with_reducible apply WO.aW);exact aD;exact λs=>Vj s;intros)|refine' av|fail));all_goals try refine cI
  all_goals refine' ax
  all_goals rfl
theorem Ki (s:St)(x z:aC)(hx:x.length<=100000)(hz:z.length<=100000):bL 90 [sv x,sv z] s [] (if Fb x z=true then .tuple ⟨[sv (x.drop z.length),.bool true]⟩ else .tuple ⟨[sv x,.bool false]⟩):=by
 have Oa:=λs=>UL s x z hx hz
 cases h:Fb x z with
 |true=>
  rw[if_pos rfl];have Oa:∀s,bL 136 [sv x,sv z] s [] (.tuple ⟨[sv (x.drop z.length),.bool true]⟩):=λs=>by have:=Oa s;rwa [if_pos h] at this
  refine' za4
 |false=>
  rw[if_neg iB];have Oa:∀s,bL 136 [sv x,sv z] s [] (.tuple ⟨[sv x,.bool false]⟩):=λs=>by have:=Oa s;rwa [if_neg (by rw[h];exact iB)] at this
  refine' za4
theorem Fc:∀n,(Ev.yY [0] n).length=n
 |0=>rfl
 |n+1=>by
  show([0]++Ev.yY [0] n).length=_;rw[bn,Fc n];simp;omega
theorem Is (s:St)(m:Int)(hm:0<=m/\m<=100000):bL 84 [sv [0],iv m] s [] (sv (Ev.yY [0] m.toNat)):=by
 obtain⟨n,rfl⟩:=yC hm.1;refine R5 (fn:=f84) cj λk=>?_
 show dN (Nat.ble (1*n) 1000000&&Nat.ble n 1000000) (aM (sv (Ev.yY [0] n)) s)=_;rw[gb af,gb af];rfl
variable {P:List bE}{Q:gD}
section
variable {b n n' n1 n2 b3 sz2 nn:Nat}
theorem WO.ae9 {N N':Nat}(hx:jY l xs [bk b])(hp:nM [.box b [.slice a n c,.slice a' n' c'] 26 false,.aQ (.slice a N c) 52 2 (ai p),.aQ (.slice a' N' c') 54 3 (ai q)] L R)(hN:N=p.length)(hN':N'=q.length)(hP:p.take n=P)(hQ:q.take n'=Q)(hn:n<=p.length)(hn':n'<=q.length)(h:∀s,fA E X g [bk b] s (uH b a n c p a' n' c' q) [] λR L=>R= .tuple ⟨[]⟩/\L=uH b a n c (Ev.jV (p.take n)++p.drop n) a' n' c' (Ev.jW (q.take n')++q.drop n'))
  (k:∀m m' p2 q2,iY L m->m<=m'->n<=p2.length->p2.take n=Ev.jV P->n'<=q2.length->q2.take n'=Ev.jW Q->K (.tuple ⟨[]⟩) (uH b a n c p2 a' n' c' q2++R) m m' (mV [] (uH b a n c p a' n' c' q) m m') (mW (uH b a n c p a' n' c' q) m m')):WC E X Γ l g xs ts L K:=by
 subst hN hN';exact WO.call (Lm:=uH b a n c p a' n' c' q) (R:=R) (A:=[]) hx hp.cT (λs hi b hb=>by cases hb) (λs hi=>h s) (by
  rintro r' L' m m' ho hm ⟨rfl,rfl⟩;have e1:(Ev.jV (p.take n)).length=n:=by rw[wv,cO];omega
  have e2:(Ev.jW (q.take n')).length=n':=by rw[wx,cO];omega
  refine k m m' _ _ ho hm ?_ ?_ ?_ ?_
  .rw[bn,e1];omega
  .rw[yz af,rT af,hP]
  .rw[bn,e2];omega
  .rw[yz af,rT af,hQ])
theorem WO.Sa {α:Type}{sz e:Nat}{enc:aq α sz}{p f:List α}(hx:jY l xs [.slice a p.length c,.func (.func g2) ⟨[]⟩ ⟨[bk b3]⟩])(hp:nM [It.aQ (.slice a p.length c) e sz (ai (sz:=sz) p)] L R)(hh:kr Γ R (iJ b3) nn sz2 cs2)
  (h:∀s,bM s (iJ b3) nn sz2 cs2->b3∉[It.aQ (.slice a p.length c) e sz (ai (sz:=sz) p)].flatMap It.cr->fA E X g [.slice a p.length c,.func (.func g2) ⟨[]⟩ ⟨[bk b3]⟩] s [It.aQ (.slice a p.length c) e sz (ai (sz:=sz) p)] (aj (iJ b3)) λR L=>∃p':List α,p'.length=p.length/\p'.take f.length=f/\R= .slice a f.length c/\L=[It.aQ (.slice a p.length c) e sz (ai (sz:=sz) p')])
  (k:∀m m' (p':List α),iY L m->m<=m'->p'.length=p.length->p'.take f.length=f->Sub sz a p' a f->K (.slice a f.length c) (It.aQ (.slice a p'.length c) e sz (ai (sz:=sz) p')::R) m m' (λi=>i∈aj (iJ b3)\/i∈[It.aQ (.slice a p.length c) e sz (ai (sz:=sz) p)].flatMap It.cr\/(m<=i/\i<m')) (λi=>i∈[It.aQ (.slice a p.length c) e sz (ai (sz:=sz) p)].flatMap It.cr\/(m<=i/\i<m'))):WC E X Γ l g xs ts L K:=
 WO.call (Lm:=[It.aQ (.slice a p.length c) e sz (ai (sz:=sz) p)]) (R:=R) hx hp.cT (λs hi=>(hh.row (hi.cT hp.cT|>.sub ⟨R,.refl _,nN _ _⟩)).2) (λs hi=>h s (hh.row (hi.cT hp.cT|>.sub ⟨R,.refl _,nN _ _⟩)).1 (kr.apart hh (hi.cT hp.cT) _ (by simp[aj]))) (by
   rintro r' L' m m' ho hm ⟨p',h1,h2,rfl,rfl⟩;have h3:f.length<=p'.length:=by
    have:=eC List.length h2;rw[cO] at this;omega
   have:=k m m' p' ho hm h1 h2 ⟨⟨0,f.length,by rw[IG,h2],af,⟨.inl (by rw[KF,ahv])⟩⟩⟩
   rwa [h1] at this)
theorem WO.XT {k1 k2:Int}{z1 z2 z3:aC}{t3:TypeId}{w3:Bool}{α:Type}{sz e:Nat}{enc:aq α sz}{p f:List α}(hx:jY l xs [.slice a p.length c,.func (.func g2) ⟨[]⟩ ⟨[bk b3]⟩])(hp:nM [It.aQ (.slice a p.length c) e sz (ai (sz:=sz) p)] L R)(hm3:It.box b3 [iv k1,sv z1,sv z2,iv k2,sv z3] t3 w3∈R)
  (h:∀s,bM s (iJ b3) 1 5 [iv k1,sv z1,sv z2,iv k2,sv z3]->b3∉[It.aQ (.slice a p.length c) e sz (ai (sz:=sz) p)].flatMap It.cr->fA E X g [.slice a p.length c,.func (.func g2) ⟨[]⟩ ⟨[bk b3]⟩] s [It.aQ (.slice a p.length c) e sz (ai (sz:=sz) p)] (aj (iJ b3)) λR L=>∃p':List α,p'.length=p.length/\p'.take f.length=f/\R= .slice a f.length c/\L=[It.aQ (.slice a p.length c) e sz (ai (sz:=sz) p')])
  (k:∀m m' (p':List α),iY L m->m<=m'->p'.length=p.length->p'.take f.length=f->Sub sz a p' a f->K (.slice a f.length c) (It.aQ (.slice a p'.length c) e sz (ai (sz:=sz) p')::R) m m' (λi=>i∈aj (iJ b3)\/i∈[It.aQ (.slice a p.length c) e sz (ai (sz:=sz) p)].flatMap It.cr\/(m<=i/\i<m')) (λi=>i∈[It.aQ (.slice a p.length c) e sz (ai (sz:=sz) p)].flatMap It.cr\/(m<=i/\i<m'))):WC E X Γ l g xs ts L K:=
 WO.Sa hx hp (kr.box (n:=1) hm3 rfl rfl) h k
theorem WO.XU {k1:Int}{t3:TypeId}{w3:Bool}{α:Type}{sz e:Nat}{enc:aq α sz}{p f:List α}(hx:jY l xs [.slice a p.length c,.func (.func g2) ⟨[]⟩ ⟨[bk b3]⟩])(hp:nM [It.aQ (.slice a p.length c) e sz (ai (sz:=sz) p)] L R)(hm3:It.box b3 [iv k1] t3 w3∈R)
  (h:∀s,bM s (iJ b3) 1 1 [iv k1]->b3∉[It.aQ (.slice a p.length c) e sz (ai (sz:=sz) p)].flatMap It.cr->fA E X g [.slice a p.length c,.func (.func g2) ⟨[]⟩ ⟨[bk b3]⟩] s [It.aQ (.slice a p.length c) e sz (ai (sz:=sz) p)] (aj (iJ b3)) λR L=>∃p':List α,p'.length=p.length/\p'.take f.length=f/\R= .slice a f.length c/\L=[It.aQ (.slice a p.length c) e sz (ai (sz:=sz) p')])
  (k:∀m m' (p':List α),iY L m->m<=m'->p'.length=p.length->p'.take f.length=f->Sub sz a p' a f->K (.slice a f.length c) (It.aQ (.slice a p'.length c) e sz (ai (sz:=sz) p')::R) m m' (λi=>i∈aj (iJ b3)\/i∈[It.aQ (.slice a p.length c) e sz (ai (sz:=sz) p)].flatMap It.cr\/(m<=i/\i<m')) (λi=>i∈[It.aQ (.slice a p.length c) e sz (ai (sz:=sz) p)].flatMap It.cr\/(m<=i/\i<m'))):WC E X Γ l g xs ts L K:=
 WO.Sa hx hp (kr.box (n:=1) hm3 rfl rfl) h k
theorem WO.amh {x:Operand}{t t2:TypeId}{n c e:Nat}{w:Bool}{z:List UInt8}{enc:aq UInt8 1}[h1:TT E t e 1 UInt8 enc][h2:xF E t2][h3:xG E e .u8](he:∀c,aq.cells c=[bv c])(hx:Ev l x (.slice (iJ b) n c))(hm:It.box b (ai z) e w∈L)(hn:n=z.length)(k:∀m,K (sv z) L m m (λi=>i∈aj (iJ b)) Z):WO E X Γ l (.convert t t2 x) L K:=by subst hn;exact WO.str he hx (kr.box hm rfl (by rw[aR])) k
end
abbrev yi (E:iq)(X:fY)(g:FuncId)(vs:aY)(s:St)(b:Nat)(a:aS)(c:Nat)(p:List bE)(a':aS)(c':Nat)(q:gD)(r:Value)(F:Flat):Prop:=
 fA E X g vs s (uH b a p.length c p a' q.length c' q) [] λR L=>R=r/\∃a1 n1 c1 p1 a2 n2 c2 q2,n1<=p1.length/\p1.take n1=F.ad/\n2<=q2.length/\q2.take n2=F.ae/\L=uH b a1 n1 c1 p1 a2 n2 c2 q2
end Go.Pl
