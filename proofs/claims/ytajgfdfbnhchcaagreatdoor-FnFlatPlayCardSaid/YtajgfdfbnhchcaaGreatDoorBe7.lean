/- Lemmas of the proof. No conditions. -/
import Derived.Test.YtajgfdfbnhchcaaGreatDoorBe6
set_option maxRecDepth 100000
set_option maxHeartbeats 4000000
set_option linter.unusedVariables false
set_option linter.unusedSimpArgs false
open Go.Proofs.Tryz
namespace Go.Pl
open Go Go.Ev Go.Lg Go.Proofs
variable {E:ig}{X:fR}{Γ:qV}{l:Kn}{L:bZ}{K:KO}{g:FuncId}{xs:List Operand}{ts:Array TypeId}{vs:a6}{f:Fs}{R Lm:bZ}{a:aM}{c i:Nat}{k:IntKind}{p d:Nat}{z:az}{a':aM}{r:Value}
theorem JH (s:St)(a:aM)(c:Nat)(a':aM)(c':Nat)(f:Flat)(hf:ID f)(hr:cD s a a' f):bF 50 [jC a c a' c' f] s (kb a a') (.bool f.kJ):=by
 have pk:=gb.n hr;have ru:=gb.t hr;have pO:=hf.tl;have nB:=hf.nl;have rM:=NX f;by_cases h0:(1<=f.ae.length/\f.ae.length<=16)/\(f.ae.getD 0 dT).id=0/\(f.ae.getD 0 dT).aJ=true
 .obtain⟨h1,h2,h3⟩:=h0;have Ts:(!(f.ae.getD 0 dT).aJ)=false:=by rw[h3];rfl
  refine aT f50 ?_;refine' zb2;all_goals first|(exfalso;omega;done)|(exfalso;simp only[An,mg] at ur;omega;done)|contradiction|skip
  refine W.bN (λk l L=>∃(i b1:Nat),Le [(1,bg b1),(3,iv (i:Int))] l/\cC [.box b1 (ie a c f.ad a' c' f.ae) 26 false] L/\k=f.ae.length-i/\i<=f.ae.length/\∀j,j<i->f.tM j=true)
   (λl L=>f.kJ=true) _ ⟨0,_,bj,ar,rfl,ag,λj hj=>by omega⟩ ?_ ?_
  .rintro k l L ⟨i,b1,hl,hL,rfl,g1,g2⟩;refine W.le ?_ hl hL;clear hl hL;by_cases hi:i<f.ae.length
   .have hB:=UW f i;have hx:=hf.th _ (aK hi dT);have Ko:f.tM i=false->f.kJ=false:=λh=>by
     cases hb:f.kJ with
     |false=>rfl
     |true=>have:=((rM.1 hb).2.2.2 i hi);rw[h] at this;cases this
    cases uu:(f.ae.getD i dT).aJ with
    |true=>
     refine' zaf
    |false=>
     refine' zaf
   .have fF:i=f.ae.length:=by omega
    subst fF;refine' cR;(all_goals try refine cj);all_goals exact rM.2 ⟨h1,h2,h3,g2⟩
  .rintro l L h4;refine aq ?_;refine W.le ?_ (Le.nil _) (cC.nil _);refine' cR
   rw[h4];refine' ax;rfl
 .have hb:f.kJ=false:=by
   cases hb:f.kJ with
   |false=>rfl
   |true=>have:=rM.1 hb;exact absurd ⟨this.1,this.2.1,this.2.2.1⟩ h0
  rw[hb];refine aT f50 ?_;refine' zb2;all_goals try refine cj
  all_goals first|((refine' ax);rfl;done)|(exfalso;exact h0 ⟨⟨ag,ag⟩,aL,aL⟩)
section
variable {f:Flat}{k:Nat}
theorem vE {z:az}(h:f.dy z=some k):k<f.ad.length:=(oO.1 h).1
theorem IE {z:Int}(h:f.cO z=some k):k<f.ae.length:=(oO.1 h).1
theorem ZE {o:Option Nat}:H3 o<0↔o=none:=by
 cases o with
 |none=>exact⟨λ_=>rfl,λ_=>by show(-1:Int)<0;omega⟩
 |some k=>exact⟨λh=>absurd (show((k:Int)<0) from h) ag,λh=>by cases h⟩
theorem Qt {o:Option Nat}:0<=H3 o↔o.isSome=true:=by
 cases o with
 |none=>exact⟨λh=>absurd (show(0:Int)<= -1 from h) ag,λh=>by cases h⟩
 |some k=>exact⟨λ_=>rfl,λ_=>by show(0:Int)<=(k:Int);omega⟩
theorem ZF (f:Flat)(z:az):f.bI z=if z=[47] then 3 else match f.dy (aR z).1 with
  |none=>2
  |some k=>if !f.iu (f.ad.getD k dF).id then 4 else if(f.dy z).isSome then 3 else 0:=by
 unfold Flat.bI;by_cases h:z=[47]
 .simp only[h,if_true];cases f.dy (aR [47]).1<;>rfl
 .simp only[h,pB];cases f.dy (aR z).1<;>rfl
theorem BM (s:St)(a:aM)(c:Nat)(a':aM)(c':Nat)(f:Flat)(hf:ID f)(z:az)(hz:z.length<=5000)(hr:cD s a a' f):bF 96 [jC a c a' c' f,sv z] s (kb a a') (iv (f.bI z)):=by
 have pk:=gb.n hr;have ru:=gb.t hr;have M1:=s8 z;have nB:=hf.nl;rw[ZF];have kC:∀s,cD s a a' f->bF 52 [jC a c a' c' f,sv (aR z).1] s (kb a a') (iv (H3 (f.dy (aR z).1))):=λs hr=>lg s a c a' c' f hf _ hr
 cases hk:f.dy (aR z).1 with
 |none=>
  rw[hk] at kC;have kC:∀s,cD s a a' f->bF 52 [jC a c a' c' f,sv (aR z).1] s (kb a a') (iv (-1)):=kC;refine aT f96 ?_;repeat' (first|refine' aW|refine' xb|refine' qG|refine' ac7|refine' Mj|refine' av|fail)
  all_goals try refine cj
  ·(refine' ax)
   rw[if_pos aL];rfl
  ·(refine' ax)
   rw[if_neg aL];rfl
 |some k=>
  rw[hk] at kC;have kC:∀s,cD s a a' f->bF 52 [jC a c a' c' f,sv (aR z).1] s (kb a a') (iv (k:Int)):=kC;have FP:=vE hk;refine aT f96 ?_;repeat' (first|refine' aW|refine' xb|refine' qG|refine' ac7|refine' Mj|refine' av|fail)
  all_goals try refine cj
  ·(refine' ax)
   rw[if_pos aL];rfl
  ·(refine' ax)
   rw[if_neg aL];show iv 4=iv (if _ then _ else _);rw[if_pos (by rw[qi];assumption)]
  ·(refine' ax)
   rw[if_neg aL];show iv 3=iv (if _ then _ else _);rw[if_neg (by rw[qi,wS];assumption),if_pos (Qt.1 aL)]
  ·(refine' ax)
   rw[if_neg aL];show iv 0=iv (if _ then _ else _);rw[if_neg (by rw[qi,wS];assumption),if_neg (by rw[show f.dy z=none from ZE.1 aL];decide)]
end
variable {t2:TypeId}
section
variable {x y:Operand}
theorem qA (a:az)(b:Int)(a':az)(b':Int):fQ [sv a,iv b] [sv a',iv b']=some (decide (a=a'/\b=b')):=by
 simp only[lB,uW,lS,cu,jN,dW,eY]
 congr 1
 rw[po];simp
theorem qB (a:Int)(b:Bool)(c:az)(a':Int)(b':Bool)(c':az):fQ [iv a,.bool b,sv c] [iv a',.bool b',sv c']=some (decide (a=a'/\b=b'/\c=c')):=by
 simp only[lB,uW,lS,cu,jN,dW,eY]
 congr 1
 rw[po];cases b<;>cases b'<;>simp
theorem WO.ajJ {p q:a7}(hx:Ev l x (.agg ⟨ak.cells p⟩))(hy:Ev l y (.agg ⟨ak.cells q⟩))(k:∀n,K (.bool !(decide (p=q))) L n n Z Z):WO bh X Γ l (.binOp .neq 39 x y t2) L K:=by
 refine WO.ael hx hy rfl (qA _ _ _ _) λn=>?_
 have:=k n;obtain⟨a,b⟩:=p;obtain⟨a',b'⟩:=q;simpa using this
theorem WO.aie {p:a7}(hx:Ev l x (.agg ⟨ak.cells p⟩))(hy:Ev l y (.agg ⟨ak.cells (⟨[47],0⟩:a7)⟩))(k:∀n,K (.bool !(decide (p=⟨[47],0⟩))) L n n Z Z):WO bh X Γ l (.binOp .neq 39 x y t2) L K:=WO.ajJ hx hy k
theorem WO.ams {p q:bP}(hx:Ev l x (.agg ⟨ak.cells p⟩))(hy:Ev l y (.agg ⟨ak.cells q⟩))(k:∀n,K (.bool !(decide (p=q))) L n n Z Z):WO bh X Γ l (.binOp .neq 61 x y t2) L K:=by
 refine WO.ael hx hy rfl (qB _ _ _ _ _ _) λn=>?_
 have:=k n;obtain⟨a,b,c⟩:=p;obtain⟨a',b',c'⟩:=q;simpa using this
theorem afR (f:Flat):f.ok=true↔f.kJ=true/\f.ad≠[]/\f.ad.getD 0 dF=⟨[47],0⟩/\(∀i,1<=i->i<f.ad.length->f.vc i=true)/\f.nE [47]<=12:=by
 unfold Flat.ok;simp only[bO,bQ,gA,lX,mf];constructor
 .rintro⟨⟨⟨⟨h1,h2⟩,h3⟩,h4⟩,h5⟩;exact⟨h1,h2,h3,λi hi hl=>(h4 i hl).resolve_left ag,h5⟩
 .rintro⟨h1,h2,h3,h4,h5⟩;refine⟨⟨⟨⟨h1,h2⟩,h3⟩,λi hl=>?_⟩,h5⟩;by_cases hi:i=0
  .exact .inl hi
  .exact .inr (h4 i ag hl)
def adE (r:az×az):az:=if r.1=[47] then 47::r.2 else r.1++47::r.2
theorem NY (f:Flat)(i:Nat):f.vc i=(match f.dy (aR (f.ad.getD i dF).af).1 with
 |none=>false
 |some k=>bS (f.ad.getD (i-1) dF).af (f.ad.getD i dF).af&&decide (k<i)&&decide (adE (aR (f.ad.getD i dF).af)=(f.ad.getD i dF).af)&&aU (aR (f.ad.getD i dF).af).2&&(f.cO (f.ad.getD i dF).id).isSome&&f.iu (f.ad.getD k dF).id&&decide (f.nE (f.ad.getD i dF).af<=12)):=rfl
theorem UX {f:Flat}{i k:Nat}(hk:f.dy (aR (f.ad.getD i ak.ah).af).1=some k):f.vc i=true↔
  Op.bytesLess (f.ad.getD (i-1) ak.ah).af (f.ad.getD i ak.ah).af=true/\k<i/\(if(aR (f.ad.getD i ak.ah).af).1=[47] then [47]++(aR (f.ad.getD i ak.ah).af).2 else(aR (f.ad.getD i ak.ah).af).1++[47]++(aR (f.ad.getD i ak.ah).af).2)=(f.ad.getD i ak.ah).af/\aU (aR (f.ad.getD i ak.ah).af).2=true/\0<=H3 (f.cO (f.ad.getD i ak.ah).id)/\f.iu (f.ad.getD k ak.ah).id=true/\f.nE (f.ad.getD i ak.ah).af<=12:=by
 rw[NY,hk,gH,Qt];show(_&&_&&_&&_&&_&&_&&_)=true↔_;unfold adE;simp only[bO,bQ,and_assoc,ku,yv,pn]
theorem xm (s:St)(a:aM)(c:Nat)(a':aM)(c':Nat)(f:Flat)(hf:ID f)(hr:cD s a a' f):bF 24 [jC a c a' c' f] s (kb a a') (.bool f.ok):=by
 have pk:=gb.n hr;have ru:=gb.t hr;have pO:=hf.tl;have nB:=hf.nl;have rM:=afR f;by_cases h0:f.kJ=true/\f.ad≠[]/\f.ad.getD 0 dF=⟨[47],0⟩
 .obtain⟨h1,h2,h3⟩:=h0;have h1':(!f.kJ)=false:=by rw[h1];rfl
  have fY:f.ad.length≠0:=λh=>h2 (mO h)
  have Ts:(!(decide (f.ad.getD 0 dF=⟨[47],0⟩)))=false:=by rw[h3];decide
  refine aT f24 ?_;repeat' (first|refine' aW|refine' ac8|refine' HE|refine' av|fail)
  all_goals try refine cj
  refine W.bN (λk l L=>∃(i b1:Nat),Le [(1,bg b1),(3,iv (i:Int))] l/\cC [.box b1 (ie a c f.ad a' c' f.ae) 26 false] L/\k=f.ad.length-i/\i<=f.ad.length/\1<=i/\∀j,1<=j->j<i->f.vc j=true)
   (λl L=>∃b1:Nat,Le [(1,bg b1)] l/\cC [.box b1 (ie a c f.ad a' c' f.ae) 26 false] L/\∀j,1<=j->j<f.ad.length->f.vc j=true) _ ⟨1,_,bj,ar,rfl,ag,ag,λj hj=>by omega⟩ ?_ ?_
  .rintro k l L ⟨i,b1,hl,hL,rfl,g1,g0,g2⟩;refine W.le ?_ hl hL;clear hl hL;by_cases hi:i<f.ad.length
   .have hB:=NY f i;have hx:=hf.nm _ (aK hi ak.ah);have Cy:=hx.1;have rS:=hx.1;have M1:=s8 (f.ad.getD i ak.ah).af;have Ko:f.vc i=false->f.ok=false:=λh=>by
     cases hb:f.ok with
     |false=>rfl
     |true=>have:=((rM.1 hb).2.2.2.1 i g0 hi);rw[h] at this;cases this
    have kC:∀s,cD s a a' f->bF 52 [jC a c a' c' f,sv (aR (f.ad.getD i ak.ah).af).1] s (kb a a') (iv (H3 (f.dy (aR (f.ad.getD i ak.ah).af).1))):=λs hr=>lg s a c a' c' f hf _ hr
    cases hk:f.dy (aR (f.ad.getD i ak.ah).af).1 with
    |none=>
     rw[hk] at kC hB;have kC:∀s,cD s a a' f->bF 52 [jC a c a' c' f,sv (aR (f.ad.getD i ak.ah).af).1] s (kb a a') (iv (-1)):=kC;have hz:f.ok=false:=Ko hB;(repeat' (first|refine' aW|refine' xb|refine' aaV|refine' qG|refine' Mj|refine' XO|refine' xc|refine' av|fail));(all_goals try refine cj);all_goals first|(rw[hz];refine' ax;rfl;done)
    |some k=>
     have hBi:=UX hk;rw[hk] at kC;have kC:∀s,cD s a a' f->bF 52 [jC a c a' c' f,sv (aR (f.ad.getD i ak.ah).af).1] s (kb a a') (iv (k:Int)):=kC;have FP:=vE hk;(repeat' (first|refine' aW|refine' xb|refine' aaV|refine' qG|refine' Mj|refine' XO|refine' xc|refine' av|fail));(all_goals try refine cj);all_goals(have e1:((i:Int)-1).toNat=i-1:=by omega)
     all_goals first
      |(have hz:f.ok=false:=(by
         apply Ko;refine Bool.eq_false_iff.2 λh=>?_
         obtain⟨q1,q2,q3,q4,q5,q6,q7⟩:=hBi.1 h;first
                                                |(exfalso;omega)
                                                |(exact absurd q6 (by rw[jf];assumption))
                                                |(exact absurd q4 (by rw[jf];assumption))
                                                |(rw[<-e1] at q1;exact absurd q1 (by rw[jf];assumption))
                                                |(rw[if_pos aL] at q3;contradiction)
                                                |(rw[if_neg aL] at q3;contradiction))
        rw[hz];refine' ax;rfl)
      |(refine⟨_,ag,i+1,_,bj,ar,rfl,ag,ag,λj hj1 hj=>?_⟩
        rcases QU.1 hj with h|h
        exact g2 j hj1 h;rw[h];first
                                |exact hBi.2 ⟨by rw[<-e1];assumption,ag,by rw[if_pos aL];assumption,aL,ag,aL,ag⟩
                                |exact hBi.2 ⟨by rw[<-e1];assumption,ag,by rw[if_neg aL];assumption,aL,ag,aL,ag⟩)
   .have fF:i=f.ad.length:=by omega
    subst fF;refine' cR;(all_goals try refine cj);all_goals exact⟨_,bj,ar,g2⟩
  .rintro l L ⟨b1,hl,hL,h4⟩;refine aq ?_;refine W.le ?_ hl hL;repeat' (first|refine' aW|refine' xc|refine' av|fail)
   refine' ax;show Value.bool (decide ((f.nE [47]:Int)<=12))=Value.bool f.ok
   congr 1
   rw[po,bQ,rM];exact⟨λh=>⟨h1,h2,h3,h4,ag⟩,λh=>by have:=h.2.2.2.2;omega⟩
 .have hb:f.ok=false:=by
   cases hb:f.ok with
   |false=>rfl
   |true=>have:=rM.1 hb;exact absurd ⟨this.1,this.2.1,this.2.2.1⟩ h0
  rw[hb];refine aT f24 ?_;repeat' (first|refine' aW|refine' ac8|refine' HE|refine' av|fail)
  all_goals try refine cj
  all_goals first|((refine' ax);rfl;done)|(exfalso;exact h0 ⟨aL,λh=>by have h5:¬((f.ad.length:Int)=0):=aL;exact h5 (by rw[h];rfl),aL⟩)
end
abbrev Vx (p:List a7):Prop:=p.length<=1000/\∀x∈p,x.af.length<=5000
theorem pf:∀(l:List a7)(e:a7),(Flat.gm l e).length=l.length+1
 |[],e=>rfl
 |x::l,e=>by
  unfold Flat.gm;split
  .rfl
  .rw[cY,pf l e,cY]
theorem U5 (s:St)(a:aM)(c:Nat)(a':aM)(c':Nat)(f:Flat)(hf:Vx f.ad)(z:az)(hz:z.length<=5000)(n:Int)(hr:cD s a a' f):BH 97 [jC a c a' c' f,sv z,iv n] s [] (kb a a') λR L=>∃b d,R= .agg ⟨ie b d (Flat.gm f.ad ⟨z,n⟩) a' c' f.ae⟩/\L=[cv b d (Flat.gm f.ad ⟨z,n⟩)]:=by
 have pk:=gb.n hr;have ru:=gb.t hr;have nB:=hf.1;refine aT f97 ?_;refine' BN
 refine W.bN (λk l L=>∃(i b3 b6:Nat)(put:Bool)(out:List a7)(b:aM)(d:Nat),Le [(1,sv z),(2,iv n),(3,bg b3),(6,bg b6),(7,.slice b out.length d),(8,.bool put),(9,iv (i:Int))] l/\cC [.box b3 (ie a c f.ad a' c' f.ae) 26 false,.box b6 (ie none 0 [] none 0 []) 26 false,cv b d out] L/\k=f.ad.length-i/\i<=f.ad.length/\out.length=i+(if put then 1 else 0)/\Flat.gm f.ad ⟨z,n⟩=out++(if put then f.ad.drop i else Flat.gm (f.ad.drop i) ⟨z,n⟩))
  (λl L=>∃(b3 b6:Nat)(put:Bool)(out:List a7)(b:aM)(d:Nat),Le [(1,sv z),(2,iv n),(3,bg b3),(6,bg b6),(7,.slice b out.length d),(8,.bool put)] l/\cC [.box b3 (ie a c f.ad a' c' f.ae) 26 false,.box b6 (ie none 0 [] none 0 []) 26 false,cv b d out] L/\out.length<=f.ad.length+1/\Flat.gm f.ad ⟨z,n⟩=out++(if put then [] else [⟨z,n⟩])) _ ⟨0,_,_,false,[],_,_,bj,ar,rfl,ag,rfl,rfl⟩ ?_ ?_
 .rintro k l L ⟨i,b3,b6,put,out,b,d,hl,hL,rfl,h1,h2,h3⟩;refine W.le ?_ hl hL;clear hl hL;by_cases hi:i<f.ad.length
  .have rS:=hf.2 _ (aK hi ak.ah);rw[drop_cons hi] at h3;cases put with
   |true=>
    dsimp only[cv];refine' BN;(all_goals try refine cj);all_goals(refine⟨_,ag,i+1,b3,b6,true,out++[f.ad.getD i ak.ah],_,_,bj,ar,rfl,ag,by rw[bL,h2];simp,?_⟩;rw[h3];simp)
   |false=>
    dsimp only[cv];refine' BN;all_goals try refine cj
    .refine⟨_,ag,i+1,b3,b6,true,out++[⟨z,n⟩]++[f.ad.getD i ak.ah],_,_,bj,ar,rfl,ag,by rw[bL,bL,h2];simp,?_⟩;rw[h3,if_neg bJ,Flat.gm,if_pos (by rw[<-gH];assumption)];simp
    .refine⟨_,ag,i+1,b3,b6,false,out++[f.ad.getD i ak.ah],_,_,bj,ar,rfl,ag,by rw[bL,h2];simp,?_⟩;rw[h3,if_neg bJ,Flat.gm,if_neg (by rw[<-gH,jf];assumption)];simp
  .have fF:i=f.ad.length:=by omega
   subst fF;dsimp only[cv];refine' BN;(all_goals try refine cj);all_goals(refine⟨_,_,put,out,_,_,bj,ar,by cases put<;>simp at h2<;>omega,?_⟩;rw[h3,iI];rfl)
 .rintro l L ⟨b3,b6,put,out,b,d,hl,hL,h2,h3⟩;refine aq ?_;refine W.le ?_ hl hL;clear hl hL;cases put with
  |true=>
   dsimp only[cv];refine' BN;rw[if_pos rfl,gg] at h3;rw[h3];exact⟨bG,_,_,bu,ar,_,_,rfl,rfl⟩
  |false=>
   dsimp only[cv];refine' BN;rw[if_neg bJ] at h3;rw[h3];exact⟨bG,_,_,bu,ar,_,_,rfl,rfl⟩
theorem Qy (s:St)(a:aM)(c:Nat)(a':aM)(c':Nat)(f:Flat)(hf:Vx f.ad)(z:az)(hz:z.length<=5000)(hr:cD s a a' f):BH 98 [jC a c a' c' f,sv z] s [] (kb a a') λR L=>∃b d,R= .agg ⟨ie b d (f.less z).ad a' c' f.ae⟩/\L=[cv b d (f.less z).ad]:=by
 have pk:=gb.n hr;have ru:=gb.t hr;have nB:=hf.1;refine aT f98 ?_;refine' BN
 refine W.bN (λk l L=>∃(i b3 b6:Nat)(out:List a7)(b:aM)(d:Nat),Le [(1,sv z),(2,bg b3),(4,bg b6),(5,.slice b out.length d),(6,iv (i:Int))] l/\cC [.box b3 (ie a c f.ad a' c' f.ae) 26 false,.box b6 (ie none 0 [] none 0 []) 26 false,cv b d out] L/\k=f.ad.length-i/\i<=f.ad.length/\out.length<=i/\(f.less z).ad=out++(f.ad.drop i).filter λx=>decide (x.af≠z))
  (λl L=>∃(b3 b6:Nat)(b:aM)(d:Nat),Le [(2,bg b3),(4,bg b6),(5,.slice b (f.less z).ad.length d)] l/\cC [.box b3 (ie a c f.ad a' c' f.ae) 26 false,.box b6 (ie none 0 [] none 0 []) 26 false,cv b d (f.less z).ad] L) _ ⟨0,_,_,[],_,_,bj,ar,rfl,ag,ay,rfl⟩ ?_ ?_
 .rintro k l L ⟨i,b3,b6,out,b,d,hl,hL,rfl,h1,h2,h3⟩;refine W.le ?_ hl hL;clear hl hL;by_cases hi:i<f.ad.length
  .have rS:=hf.2 _ (aK hi ak.ah);rw[drop_cons hi,sj] at h3;dsimp only[cv];refine' BN
   all_goals try refine cj
   .refine⟨_,ag,i+1,b3,b6,out++[f.ad.getD i ak.ah],_,_,bj,ar,rfl,ag,by rw[bL];simp;omega,?_⟩;rw[h3,if_pos (by rw[bQ];assumption)];simp
   .refine⟨_,ag,i+1,b3,b6,out,_,_,bj,ar,rfl,ag,ag,?_⟩;rw[h3,if_neg (by rw[bQ];exact λh=>h aL)]
  .have fF:i=f.ad.length:=by omega
   subst fF;rw[iI,List.filter_nil,gg] at h3;subst h3;dsimp only[cv];refine' cR;(all_goals try refine cj);all_goals exact⟨_,_,_,_,bj,ar⟩
 .rintro l L ⟨b3,b6,b,d,hl,hL⟩;refine aq ?_;refine W.le ?_ hl hL;clear hl hL;dsimp only[cv];refine' cR
  exact⟨bG,_,_,bu,ar,_,_,rfl,rfl⟩
variable {c':Nat}
abbrev Bd (E:ig)(X:fR)(g:FuncId)(vs:a6)(s:St)(a:aM)(c:Nat)(a':aM)(c':Nat)(f:Flat)(r:Flat×Int):Prop:=
 fM E X g vs s [cv a c f.ad,dK a' c' f.ae] [] λR L=>∃b d b' d',R= .tuple ⟨[jC b d b' d' r.1,iv r.2]⟩/\L=[cv b d r.1.ad,dK b' d' r.1.ae]
section
variable {f:Flat}{r:Flat×Int}
theorem WO.aoZ (hx:kA l xs vs)(h:∀s,Bd E X g vs s a c a' c' f r)(hp:oZ [cv a c f.ad,dK a' c' f.ae] L R)
  (k:∀m m' b d b' d',jX L m->m<=m'->K (.tuple ⟨[jC b d b' d' r.1,iv r.2]⟩) (cv b d r.1.ad::dK b' d' r.1.ae::R) m m' (FtR [] [cv a c f.ad,dK a' c' f.ae] m m') (FtW [cv a c f.ad,dK a' c' f.ae] m m')):WC E X Γ l g xs ts L K:=
 WO.call (Lm:=[cv a c f.ad,dK a' c' f.ae]) (R:=R) (A:=[]) hx hp.cZ (λs hi b hb=>by cases hb) (λs hi=>h s) (by rintro r' L' m m' ho hm ⟨b,d,b',d',rfl,rfl⟩;exact k m m' b d b' d' ho hm)
theorem WO.XS {p g':List a7}{q:fg}(hx:kA l xs vs)(h:∀s,cD s a a' ⟨p,q⟩->fM E X g vs s [] (kb a a') λR L=>∃b d,R= .agg ⟨ie b d g' a' c' q⟩/\L=[cv b d g'])(h1:jB Γ L a p.length 2 (ai p))(h2:jB Γ L a' q.length 3 (ai q))
  (k:∀m m' b d,jX L m->m<=m'->K (.agg ⟨ie b d g' a' c' q⟩) (cv b d g'::L) m m' (FtR (kb a a') [] m m') (FtW [] m m')):WC E X Γ l g xs ts L K:=
 WO.call (Lm:=[]) (R:=L) (A:=kb a a') hx (.refl _) (λs hi b hb=>by
   rcases eZ.1 hb with hb|hb
   .exact(h1.row hi).2 b hb
   .exact(h2.row hi).2 b hb) (λs hi=>h s ⟨(h1.row hi).1,(h2.row hi).1⟩) (by rintro r' L' m m' ho hm ⟨b,d,rfl,rfl⟩;exact k m m' b d ho hm)
end
theorem N4 {α:Type}[BEq α][LawfulBEq α]:∀(xs l:List α),xs.Nodup->(∀x∈xs,x∈l)->xs.length<=l.length
 |[],l,_,_=>iG _
 |x::xs,l,h,hs=>by
  have hx:=hs x gh;have hn:=uN.1 h;have:=N4 xs (l.erase x) hn.2 λy hy=>(QP (show y≠x from λe=>hn.1 (by rw[<-e];exact hy))).2 (hs y (jA _ hy))
  have hp:=GQ hx;rw[QQ hx] at this;rw[cY];omega
theorem aca (f:Flat):∃k:Nat,k<=f.ae.length/\f.cO (k:Int)=none:=by
 refine' zaD
 have:=N4 ((List.range (f.ae.length+1)).map λ(k:Nat)=>(k:Int)) (f.ae.map bP.id) (by
  rw[Bq,Br];exact(List.nodup_range).imp λ{a b} fY he=>fY ag) (λx hx=>by
  obtain⟨k,hk,rfl⟩:=jK.1 hx;obtain⟨y,hy,he⟩:=h' k (by have:=lX.1 hk;omega);exact jK.2 ⟨y,hy,he⟩)
 rw[td,td,KX] at this;omega
theorem IL (f:Flat)(n id:Nat):f.y6 (n+1) id=if(f.cO (id:Int)).isSome then f.y6 n (id+1) else id:=rfl
theorem Sl (f:Flat):∀(m id:Nat),f.ae.length+1<=id+m->(∃k:Nat,id<=k/\k<=f.ae.length/\f.cO (k:Int)=none)->f.y6 m id<=f.ae.length/\f.cO (f.y6 m id:Nat)=none
 |0,id,h,⟨k,h1,h2,h3⟩=>by omega
 |m+1,id,h,⟨k,h1,h2,h3⟩=>by
  rw[IL];cases hz:f.cO (id:Int) with
  |none=>rw[if_neg bJ];exact⟨ag,hz⟩
  |some j=>
   rw[if_pos (show(some j).isSome=true from rfl)];exact Sl f m (id+1) ag ⟨k,by
    have:k≠id:=λe=>by rw[e,hz] at h3;cases h3
    omega,h2,h3⟩
theorem U6 (f:Flat):f.cx<=f.ae.length/\f.cO (f.cx:Nat)=none:=by obtain⟨k,h1,h2⟩:=aca f;exact Sl f _ 0 ag ⟨k,ag,h1,h2⟩
theorem Pv (s:St)(a:aM)(c:Nat)(a':aM)(c':Nat)(p:List a7)(q:fg)(hp:Vx p)(z:az)(hz:z.length<=5000)(n:Int)(hr:cD s a a' ⟨p,q⟩):BH 97 [.agg ⟨ie a c p a' c' q⟩,sv z,iv n] s [] (kb a a') λR L=>∃b d,R= .agg ⟨ie b d (Flat.gm p ⟨z,n⟩) a' c' q⟩/\L=[cv b d (Flat.gm p ⟨z,n⟩)]:=U5 s a c a' c' ⟨p,q⟩ hp z hz n hr
theorem Ml (s:St)(a:aM)(c:Nat)(a':aM)(c':Nat)(p:List a7)(q:fg)(hp:Vx p)(z:az)(hz:z.length<=5000)(hr:cD s a a' ⟨p,q⟩):BH 98 [.agg ⟨ie a c p a' c' q⟩,sv z] s [] (kb a a') λR L=>∃b d,R= .agg ⟨ie b d (p.filter λx=>decide (x.af≠z)) a' c' q⟩/\L=[cv b d (p.filter λx=>decide (x.af≠z))]:=Qy s a c a' c' ⟨p,q⟩ hp z hz hr
theorem Qz (s:St)(a:aM)(c:Nat)(a':aM)(c':Nat)(f:Flat)(hf:ID f)(z:az)(hz:z.length<=5000)(fo:Bool):Bd bh bw 59 [jC a c a' c' f,sv z,.bool fo] s a c a' c' f (f.make z fo):=by
 have pO:=hf.tl;have nB:=hf.nl;have zI:Vx f.ad:=⟨nB,λx hx=>(hf.nm x hx).1⟩;have M1:=s8 z;have Az:=U6 f;by_cases h0:0<f.bI z
 .have hm:f.make z fo=(f,f.bI z):=by unfold Flat.make;rw[if_pos h0]
  rw[hm];refine aT f59 ?_;dsimp only[cv,dK];repeat' (first|refine' aW|refine' RB|refine' av|fail)
  all_goals refine' zag
 .refine aT f59 ?_;dsimp only[cv,dK];repeat' (first|refine' aW|refine' RB|refine' av|fail)
  all_goals try refine cj
  refine W.bN (λk l L=>∃(i b3 b6:Nat),Le [(1,sv z),(2,.bool fo),(3,bg b3),(6,bg b6),(9,iv (i:Int))] l/\cC [.box b3 (ie a c f.ad a' c' f.ae) 26 false,.box b6 (ie none 0 [] none 0 []) 26 false,cv a c f.ad,dK a' c' f.ae] L/\k=f.ae.length+1-i/\i<=f.cx/\f.cx=f.y6 (f.ae.length+1-i) i)
   (λl L=>∃(b3 b6:Nat),Le [(1,sv z),(2,.bool fo),(3,bg b3),(6,bg b6),(9,iv (f.cx:Int))] l/\cC [.box b3 (ie a c f.ad a' c' f.ae) 26 false,.box b6 (ie none 0 [] none 0 []) 26 false,cv a c f.ad,dK a' c' f.ae] L) _ ⟨0,_,_,bj,ar,rfl,ag,rfl⟩ ?_ ?_
  .rintro k l L ⟨i,b3,b6,hl,hL,rfl,g1,g2⟩;refine W.le ?_ hl hL;clear hl hL;rw[show f.ae.length+1-i=(f.ae.length+1-(i+1))+1 by omega,IL] at g2;dsimp only[cv,dK];repeat' (first|refine' aW|refine' XO|refine' av|fail)
   all_goals try refine cj
   .have hs:=Qt.1 aL;rw[if_pos hs] at g2;have fY:f.cx≠i:=λe=>by rw[<-e,Az.2] at hs;cases hs
    exact⟨_,ag,i+1,b3,b6,bj,ar,rfl,ag,g2⟩
   .have hs:=ZE.1 aL;rw[hs,if_neg bJ] at g2;rw[g2];exact⟨_,_,bj,ar⟩
  .rintro l L ⟨b3,b6,hl,hL⟩;refine aq ?_;refine W.le ?_ hl hL;clear hl hL;dsimp only[cv,dK];by_cases h1:16<=f.cx\/12<=f.nE (aR z).1
   .have hm:f.make z fo=(f,6):=by unfold Flat.make;rw[if_neg h0,if_pos h1]
    rw[hm];(repeat' (first|refine' aW|refine' xb|refine' xc|refine' av|fail));all_goals refine' zag
   .have hm:f.make z fo=(⟨Flat.gm f.ad ⟨z,f.cx⟩,Flat.oX f.ae ⟨f.cx,fo,[]⟩⟩,0):=by unfold Flat.make;rw[if_neg h0,if_neg h1];rfl
    rw[hm];(repeat' (first|refine' aW|refine' xb|refine' xc|refine' Pt|refine' zi|refine' av|fail));all_goals try refine cj
    refine W.bN (λk l L=>∃(i b3 b6:Nat)(out:fg)(b:aM)(d:Nat),Le [(1,sv z),(2,.bool fo),(3,bg b3),(6,bg b6),(9,iv (f.cx:Int)),(12,.slice b out.length d),(13,iv (i:Int))] l/\cC [.box b3 (ie a c f.ad a' c' f.ae) 26 false,.box b6 (ie none 0 [] none 0 []) 26 false,cv a c f.ad,dK a' c' f.ae,dK b d out] L/\k=f.ae.length-i/\i<=f.ae.length/\out.length=i/\Flat.oX f.ae ⟨f.cx,fo,[]⟩=out++Flat.oX (f.ae.drop i) ⟨f.cx,fo,[]⟩)
     (λl L=>∃(i b3 b6:Nat)(out:fg)(b:aM)(d:Nat),Le [(1,sv z),(2,.bool fo),(3,bg b3),(6,bg b6),(9,iv (f.cx:Int)),(12,.slice b out.length d),(13,iv (i:Int))] l/\cC [.box b3 (ie a c f.ad a' c' f.ae) 26 false,.box b6 (ie none 0 [] none 0 []) 26 false,cv a c f.ad,dK a' c' f.ae,dK b d out] L/\i<=f.ae.length/\out.length=i/\Flat.oX f.ae ⟨f.cx,fo,[]⟩=out++⟨f.cx,fo,[]⟩::f.ae.drop i) _ ⟨0,_,_,[],_,_,bj,ar,rfl,ag,rfl,rfl⟩ ?_ ?_
    .rintro k l L ⟨i,b3,b6,out,b,d,hl,hL,rfl,g1,g2,g3⟩;refine W.le ?_ hl hL;clear hl hL;dsimp only[cv,dK];by_cases hi:i<f.ae.length
     .rw[drop_cons hi,Flat.oX] at g3;repeat' (first|refine' aW|refine' Pt|refine' zi|refine' av|fail)
      all_goals try refine cj
      .refine⟨_,ag,i+1,b3,b6,out++[f.ae.getD i ak.ah],_,_,bj,ar,rfl,ag,by rw[bL,g2];rfl,?_⟩;rw[g3,if_pos aL];simp
      .refine⟨i,_,_,out,_,_,bj,ar,ag,g2,?_⟩;have dG:¬((f.ae.getD i ak.ah).id<(⟨f.cx,fo,[]⟩:bP).id):=by show ¬(_<(f.cx:Int));omega
       rw[g3,if_neg dG,drop_cons hi]
     .have fF:i=f.ae.length:=by omega
      rw[fF,iI,Flat.oX] at g3;(repeat' (first|refine' aW|refine' Pt|refine' zi|refine' av|fail));(all_goals try refine cj);all_goals(refine⟨i,_,_,out,_,_,bj,ar,ag,g2,?_⟩;rw[g3,fF,iI])
    .rintro l L ⟨i,b3,b6,out,b,d,hl,hL,g1,g2,g3⟩;refine aq ?_;refine W.le ?_ hl hL;clear hl hL;dsimp only[cv,dK];repeat' (first|refine' aW|refine' XR|refine' Pt|refine' zi|refine' av|fail)
     (all_goals try refine cj);(all_goals(have e1:out++[(⟨f.cx,fo,[]⟩:bP)]++f.ae.drop (out.length:Int).toNat=Flat.oX f.ae ⟨f.cx,fo,[]⟩:=by rw[g3,show(out.length:Int).toNat=i by omega];simp));(all_goals rw[e1]);all_goals(exact⟨bG,_,_,bu,ar,_,_,_,_,rfl,rfl⟩)
theorem QA (s:St)(a:aM)(c:Nat)(a':aM)(c':Nat)(f:Flat)(hf:ID f)(z y:az)(hz:z.length<=5000)(hy:y.length<=5000):Bd bh bw 61 [jC a c a' c' f,sv z,sv y] s a c a' c' f (f.link z y):=by
 have pO:=hf.tl;have nB:=hf.nl;have zI:Vx f.ad:=⟨nB,λx hx=>(hf.nm x hx).1⟩;have M1:=s8 y;have kC:∀s,cD s a a' f->bF 52 [jC a c a' c' f,sv z] s (kb a a') (iv (H3 (f.dy z))):=λs hr=>lg s a c a' c' f hf _ hr
 cases hk:f.dy z with
 |none=>
  have hm:f.link z y=(f,2):=by unfold Flat.link;rw[hk]
  rw[hk] at kC;have kC:∀s,cD s a a' f->bF 52 [jC a c a' c' f,sv z] s (kb a a') (iv (-1)):=kC;rw[hm];refine aT f61 ?_;dsimp only[cv,dK];repeat' (first|refine' aW|refine' qG|refine' RB|refine' av|fail)
  all_goals refine' zag
 |some k=>
  rw[hk] at kC;have kC:∀s,cD s a a' f->bF 52 [jC a c a' c' f,sv z] s (kb a a') (iv (k:Int)):=kC;have FP:=vE hk;have hm:f.link z y=if f.iu (f.ad.getD k ak.ah).id then(f,4) else if 0<f.bI y then(f,f.bI y) else if 9<=f.many (f.ad.getD k ak.ah).id\/12<=f.nE (aR y).1 then(f,6) else(⟨Flat.gm f.ad ⟨y,(f.ad.getD k ak.ah).id⟩,f.ae⟩,0):=by unfold Flat.link;rw[hk];rfl
  rw[hm];refine aT f61 ?_;dsimp only[cv,dK];repeat' (first|refine' aW|refine' qG|refine' Mj|refine' RB|refine' XN|refine' xc|refine' xb|refine' XR|refine' av|fail)
  all_goals try refine cj
  all_goals first
   |(rw[if_pos aL];exact⟨bG,_,_,bu,ar,_,_,_,_,rfl,rfl⟩)
   |(rw[if_neg (by rw[jf];assumption),if_pos (show 0<f.bI y by assumption)];exact⟨bG,_,_,bu,ar,_,_,_,_,rfl,rfl⟩)
   |(rw[if_neg (by rw[jf];assumption),if_neg (show ¬0<f.bI y by omega),if_pos ag];exact⟨bG,_,_,bu,ar,_,_,_,_,rfl,rfl⟩)
   |(rw[if_neg (by rw[jf];assumption),if_neg (show ¬0<f.bI y by omega),if_neg ag];exact⟨bG,_,_,bu,ar,_,_,_,_,rfl,rfl⟩)
theorem ZT {E:ig}{l:Kn}{L:bZ}{rs:List ResultVar}{x:Ex}{a a':aM}{c c' i:Nat}{nm:List a7}{th:fg}{q:bP}{n:Int}(hx:x= .normal\/x= .ret)(hr:qD E l L rs [.agg ⟨ie a c nm a' c' th⟩,iv n])(hL:cC [cv a c nm,.aQ (.slice a' th.length c') 61 3 (ai (th.set i q))] L):
  vh E rs (λR L=>∃b d b' d',R= .tuple ⟨[jC b d b' d' ⟨nm,th.set i q⟩,iv n]⟩/\L=[.aQ (.slice b nm.length d) 39 2 (ai nm),.aQ (.slice b' (th.set i q).length d') 61 3 (ai (th.set i q))]) x l L:=by
 have e:(th.set i q).length=th.length:=gN;refine⟨hx,_,_,hr,hL,a,c,a',c',?_,?_⟩
 .dsimp only[jC,ie];rw[e];rfl
 .dsimp only[cv];rw[e]
theorem Be (n:Int):(iz n).length=n.toNat:=qX
theorem U7 (f:Flat)(kd:Int)(pa to:az)(at_:Int)(tx:az){k x:Nat}(hk:f.dy pa=some k)(hx:f.cO (f.ad.getD k ak.ah).id=some x):f.change ⟨kd,pa,to,at_,tx⟩=if(f.ae.getD x ak.ah).aJ then(f,4) else if 192<at_+tx.length then(f,6) else if kd=4 then(⟨f.ad,f.ae.set x ⟨(f.ae.getD x ak.ah).id,(f.ae.getD x ak.ah).aJ,((f.ae.getD x ak.ah).bq++iz (at_-((f.ae.getD x ak.ah).bq.length:Int))).take at_.toNat⟩⟩,0) else if tx≠[] then(⟨f.ad,f.ae.set x ⟨(f.ae.getD x ak.ah).id,(f.ae.getD x ak.ah).aJ,gk (f.ae.getD x ak.ah).bq at_.toNat tx⟩⟩,0) else(f,0):=by unfold Flat.change;rw[hk];show(match f.cO (f.ad.getD k ak.ah).id with|none=>_|some x=>_)=_;rw[hx];rfl
theorem QB (f:Flat)(x:Nat)(at_:Int)(tx:az)(nJ:0<=at_):gk (f.ae.getD x ak.ah).bq at_.toNat tx=((f.ae.getD x ak.ah).bq++iz (at_-((f.ae.getD x ak.ah).bq.length:Int))).take at_.toNat++tx++((f.ae.getD x ak.ah).bq++iz (at_-((f.ae.getD x ak.ah).bq.length:Int))).drop (min (((f.ae.getD x ak.ah).bq++iz (at_-((f.ae.getD x ak.ah).bq.length:Int))).length:Int) (at_+(tx.length:Int))).toNat:=by have hz:=Be (at_-((f.ae.getD x ak.ah).bq.length:Int));unfold gk;rw[yF nJ];show _++_++List.drop _ _=_;rw[show((min (((f.ae.getD x ak.ah).bq++iz (at_-((f.ae.getD x ak.ah).bq.length:Int))).length:Int) (at_+(tx.length:Int))).toNat)=min ((f.ae.getD x ak.ah).bq++iz (at_-((f.ae.getD x ak.ah).bq.length:Int))).length (at_.toNat+tx.length) by omega]
theorem Ku (s:St)(a:aM)(c:Nat)(a':aM)(c':Nat)(f:Flat)(hf:ID f)(kd:Int)(pa to:az)(at_:Int)(tx:az)(hp:pa.length<=5000)(nJ:0<=at_/\at_<=192)(yy:tx.length<=24)(hex:∀k,f.dy pa=some k->(f.cO (f.ad.getD k ak.ah).id).isSome):Bd bh bw 63 [jC a c a' c' f,.agg ⟨[iv kd,sv pa,sv to,iv at_,sv tx]⟩] s a c a' c' f (f.change ⟨kd,pa,to,at_,tx⟩):=by
 have pO:=hf.tl;have nB:=hf.nl;have kC:∀s,cD s a a' f->bF 52 [jC a c a' c' f,sv pa] s (kb a a') (iv (H3 (f.dy pa))):=λs hr=>lg s a c a' c' f hf _ hr
 cases hk:f.dy pa with
 |none=>
  have hm:f.change ⟨kd,pa,to,at_,tx⟩=(f,2):=by unfold Flat.change;rw[hk]
  rw[hk] at kC;have kC:∀s,cD s a a' f->bF 52 [jC a c a' c' f,sv pa] s (kb a a') (iv (-1)):=kC;rw[hm];refine aT f63 ?_;dsimp only[cv,dK];refine' HI;all_goals refine' zag
 |some k=>
  rw[hk] at kC;have kC:∀s,cD s a a' f->bF 52 [jC a c a' c' f,sv pa] s (kb a a') (iv (k:Int)):=kC;have FP:=vE hk;have TP:∀s,cD s a a' f->bF 54 [jC a c a' c' f,iv (f.ad.getD k ak.ah).id] s (kb a a') (iv (H3 (f.cO (f.ad.getD k ak.ah).id))):=λs hr=>rE s a c a' c' f hf _ hr
  obtain⟨x,hx⟩:=jh.1 (hex k hk);rw[hx] at TP;have TP:∀s,cD s a a' f->bF 54 [jC a c a' c' f,iv (f.ad.getD k ak.ah).id] s (kb a a') (iv (x:Int)):=TP;have sd:=IE hx;have Cy:=(hf.th _ (aK sd ak.ah)).2.2;have hzl:((f.ae.getD x ak.ah).bq++iz (at_-((f.ae.getD x ak.ah).bq.length:Int))).length=(f.ae.getD x ak.ah).bq.length+(at_-((f.ae.getD x ak.ah).bq.length:Int)).toNat:=by rw[bL,Be]
  have hov:=QB f x at_ tx nJ.1;have hz2:=Be (at_-((f.ae.getD x ak.ah).bq.length:Int));have hm:=U7 f kd pa to at_ tx hk hx;by_cases uu:(f.ae.getD x ak.ah).aJ=true
  .rw[hm,if_pos uu];refine aT f63 ?_;dsimp only[cv,dK];refine' Mn
   (all_goals first|(exfalso;omega;done)|contradiction|(exact absurd uu (by rw[jf];assumption))|(exact absurd (show(f.ae.getD x ak.ah).aJ=true by assumption) uu)|skip);all_goals exact⟨bG,_,_,bu,ar,_,_,_,_,rfl,rfl⟩
  by_cases h2:192<at_+(tx.length:Int)
  .rw[hm,if_neg uu,if_pos h2];refine aT f63 ?_;dsimp only[cv,dK];refine' Mn
   (all_goals first|(exfalso;omega;done)|contradiction|(exact absurd uu (by rw[jf];assumption))|(exact absurd (show(f.ae.getD x ak.ah).aJ=true by assumption) uu)|skip);all_goals exact⟨bG,_,_,bu,ar,_,_,_,_,rfl,rfl⟩
  by_cases h3:kd=4
  .rw[hm,if_neg uu,if_neg h2,if_pos h3];refine aT f63 ?_;dsimp only[cv,dK];refine' Mn
   (all_goals first|(exfalso;omega;done)|contradiction|(exact absurd uu (by rw[jf];assumption))|(exact absurd (show(f.ae.getD x ak.ah).aJ=true by assumption) uu)|skip);all_goals exact ZT bG bu ar
  by_cases h4:tx≠[]
  .rw[hm,if_neg uu,if_neg h2,if_neg h3,if_pos h4,hov];refine aT f63 ?_;dsimp only[cv,dK];refine' Mn
   (all_goals first|(exfalso;omega;done)|contradiction|(exact absurd uu (by rw[jf];assumption))|(exact absurd (show(f.ae.getD x ak.ah).aJ=true by assumption) uu)|skip);all_goals exact ZT bG bu ar
  .rw[hm,if_neg uu,if_neg h2,if_neg h3,if_neg h4];refine aT f63 ?_;dsimp only[cv,dK];refine' Mn
   (all_goals first|(exfalso;omega;done)|contradiction|(exact absurd uu (by rw[jf];assumption))|(exact absurd (show(f.ae.getD x ak.ah).aJ=true by assumption) uu)|skip);all_goals exact⟨bG,_,_,bu,ar,_,_,_,_,rfl,rfl⟩
theorem N6 (s:St)(a:aM)(c:Nat)(a':aM)(c':Nat)(p:List a7)(q:fg)(hf:ID ⟨p,q⟩)(n:Int)(hr:cD s a a' ⟨p,q⟩):bF 94 [.agg ⟨ie a c p a' c' q⟩,iv n] s (kb a a') (iv (Flat.many ⟨p,q⟩ n:Int)):=Eg s a c a' c' ⟨p,q⟩ hf n hr
theorem Kv (s:St)(a:aM)(c:Nat)(a':aM)(c':Nat)(p:List a7)(q:fg)(hf:ID ⟨p,q⟩)(n:Int)(hr:cD s a a' ⟨p,q⟩):bF 54 [.agg ⟨ie a c p a' c' q⟩,iv n] s (kb a a') (iv (H3 (Flat.cO ⟨p,q⟩ n))):=rE s a c a' c' ⟨p,q⟩ hf n hr
theorem ID.less {f:Flat}(h:ID f)(z:az):ID ⟨f.ad.filter λx=>decide (x.af≠z),f.ae⟩:=⟨by have:=yI (λx=>decide (x.af≠z)) f.ad;have:=h.nl;show(List.filter _ _).length<=_;omega,h.tl,λx hx=>h.nm x (pD.1 hx).1,h.th⟩
end Go.Pl
