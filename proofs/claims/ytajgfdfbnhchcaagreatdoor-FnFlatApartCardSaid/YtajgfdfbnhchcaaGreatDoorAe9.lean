/- Lemmas of the proof. No conditions. -/
import Derived.Test.YtajgfdfbnhchcaaGreatDoorAe8
set_option maxRecDepth 100000
set_option maxHeartbeats 4000000
set_option linter.unusedVariables false
set_option linter.unusedSimpArgs false
open Go.Proofs.Tryz
namespace Go.Pl
open Go Go.Ev Go.Lg Go.Proofs
theorem Ja (s:St)(a:aK)(c:Nat)(a':aK)(c':Nat)(f:Flat)(hf:HY f)(hr:cl s a a' f):bP 50 [js a c a' c' f] s (kF a a') (.bool f.kA):=by
 have oR:=fN.n hr;have qI:=fN.t hr;have pz:=hf.tl;have nC:=hf.nl;have ru:=Nb f;by_cases h0:(1<=f.ae.length/\f.ae.length<=16)/\(f.ae.getD 0 dT).id=0/\(f.ae.getD 0 dT).aD=true
 .obtain⟨h1,h2,h3⟩:=h0;have SG:(!(f.ae.getD 0 dT).aD)=false:=by rw[h3];rfl
  refine aU f50 ?_;(refine' zb2)
  all_goals first|(exfalso;omega;done)|(exfalso;simp only[zX,mb] at um;omega;done)|contradiction|skip
  refine W.bN (λk l L=>∃(i b1:Nat),Le [(1,bc b1),(3,iv (i:Int))] l/\cz [.box b1 (iw a c f.ad a' c' f.ae) 26 false] L/\k=f.ae.length-i/\i<=f.ae.length/\∀j,j<i->f.tu j=true)
   (λl L=>f.kA=true) _ ⟨0,_,bk,au,rfl,ag,λj hj=>by omega⟩ ?_ ?_
  .rintro k l L ⟨i,b1,hl,hL,rfl,g1,g2⟩;refine W.le ?_ hl hL;clear hl hL;by_cases hi:i<f.ae.length
   .have hB:=Ub f i;have hx:=hf.th _ (aJ hi dT);have JJ:f.tu i=false->f.kA=false:=λh=>by
     cases hb:f.kA with
     |false=>rfl
     |true=>have:=((ru.1 hb).2.2.2 i hi);rw[h] at this;cases this
    cases tE:(f.ae.getD i dT).aD with
    |true=>
     refine' zaf
    |false=>
     refine' zaf
   .have fE:i=f.ae.length:=by omega
    subst fE;(refine' cU)
    all_goals try refine cM
    all_goals exact ru.2 ⟨h1,h2,h3,g2⟩
  .rintro l L h4;refine aq ?_;refine W.le ?_ (Le.nil _) (cz.nil _);(refine' cU)
   rw[h4];(refine' ax);rfl
 .have hb:f.kA=false:=by
   cases hb:f.kA with
   |false=>rfl
   |true=>have:=ru.1 hb;exact absurd ⟨this.1,this.2.1,this.2.2.1⟩ h0
  rw[hb];refine aU f50 ?_;(refine' zb2)
  all_goals try refine cM
  all_goals first|((refine' ax);rfl;done)|(exfalso;exact h0 ⟨⟨ag,ag⟩,by assumption,by assumption⟩)
section
variable {f:Flat}{k:Nat}
theorem vl {z:aA}(h:f.dq z=some k):k<f.ad.length:=(oC.1 h).1
theorem HZ {z:Int}(h:f.cH z=some k):k<f.ae.length:=(oC.1 h).1
theorem YU {o:Option Nat}:Hu o<0↔o=none:=by
 cases o with
 |none=>exact⟨λ_=>rfl,λ_=>by show(-1:Int)<0;omega⟩
 |some k=>exact⟨λh=>absurd (show((k:Int)<0) from h) ag,λh=>by cases h⟩
theorem PE {o:Option Nat}:0<=Hu o↔o.isSome=true:=by
 cases o with
 |none=>exact⟨λh=>absurd (show(0:Int)<= -1 from h) ag,λh=>by cases h⟩
 |some k=>exact⟨λ_=>rfl,λ_=>by show(0:Int)<=(k:Int);omega⟩
theorem YV (f:Flat)(z:aA):f.bD z=if z=[47] then 3 else match f.dq (aP z).1 with
  |none=>2
  |some k=>if !f.ig (f.ad.getD k dF).id then 4 else if(f.dq z).isSome then 3 else 0:=by
 unfold Flat.bD;by_cases h:z=[47]
 .simp only[h,if_true];cases f.dq (aP [47]).1<;>rfl
 .simp only[h,pg];cases f.dq (aP z).1<;>rfl
theorem Bn (s:St)(a:aK)(c:Nat)(a':aK)(c':Nat)(f:Flat)(hf:HY f)(z:aA)(hz:z.length<=5000)(hr:cl s a a' f):bP 96 [js a c a' c' f,sv z] s (kF a a') (iv (f.bD z)):=by
 have oR:=fN.n hr;have qI:=fN.t hr;have YA:=sO z;have nC:=hf.nl;rw[YV];have ku:∀s,cl s a a' f->bP 52 [js a c a' c' f,sv (aP z).1] s (kF a a') (iv (Hu (f.dq (aP z).1))):=λs hr=>k9 s a c a' c' f hf _ hr
 cases hk:f.dq (aP z).1 with
 |none=>
  rw[hk] at ku;have ku:∀s,cl s a a' f->bP 52 [js a c a' c' f,sv (aP z).1] s (kF a a') (iv (-1)):=ku;refine aU f96 ?_;(repeat' (first|refine' a7|refine' wN|refine' qm|refine' acE|refine' LC|refine' aw|fail))
  all_goals try refine cM
  ·(refine' ax)
   rw[if_pos (by assumption)];rfl
  ·(refine' ax)
   rw[if_neg (by assumption)];rfl
 |some k=>
  rw[hk] at ku;have ku:∀s,cl s a a' f->bP 52 [js a c a' c' f,sv (aP z).1] s (kF a a') (iv (k:Int)):=ku;have Fg:=vl hk;refine aU f96 ?_;(repeat' (first|refine' a7|refine' wN|refine' qm|refine' acE|refine' LC|refine' aw|fail))
  all_goals try refine cM
  ·(refine' ax)
   rw[if_pos (by assumption)];rfl
  ·(refine' ax)
   rw[if_neg (by assumption)];show iv 4=iv (if _ then _ else _);rw[if_pos (by rw[pU];assumption)]
  ·(refine' ax)
   rw[if_neg (by assumption)];show iv 3=iv (if _ then _ else _);rw[if_neg (by rw[pU,wy];assumption),if_pos (PE.1 (by assumption))]
  ·(refine' ax)
   rw[if_neg (by assumption)];show iv 0=iv (if _ then _ else _);rw[if_neg (by rw[pU,wy];assumption),if_neg (by rw[show f.dq z=none from YU.1 (by assumption)];decide)]
end
section
variable {X:dM}{Γ:ij}{l:Kn}{L:bE}{K:KO}{x y:Operand}{t2:TypeId}
theorem qf (a:aA)(b:Int)(a':aA)(b':Int):fO [sv a,iv b] [sv a',iv b']=some (decide (a=a'/\b=b')):=by
 simp only[lz,uH,lO,cr,jH,dO,eR]
 congr 1
 rw[oZ];simp
theorem qg (a:Int)(b:Bool)(c:aA)(a':Int)(b':Bool)(c':aA):fO [iv a,.bool b,sv c] [iv a',.bool b',sv c']=some (decide (a=a'/\b=b'/\c=c')):=by
 simp only[lz,uH,lO,cr,jH,dO,eR]
 congr 1
 rw[oZ];cases b<;>cases b'<;>simp
theorem WO.ai0 {p q:a6}(hx:Ev l x (.agg ⟨ak.cells p⟩))(hy:Ev l y (.agg ⟨ak.cells q⟩))(k:∀n,K (.bool !(decide (p=q))) L n n Z Z):WO a8 X Γ l (.binOp .neq 39 x y t2) L K:=by
 refine WO.adT hx hy rfl (qf _ _ _ _) λn=>?_
 have:=k n;obtain⟨a,b⟩:=p;obtain⟨a',b'⟩:=q;simpa using this
theorem WO.ahF {p:a6}(hx:Ev l x (.agg ⟨ak.cells p⟩))(hy:Ev l y (.agg ⟨ak.cells (⟨[47],0⟩:a6)⟩))(k:∀n,K (.bool !(decide (p=⟨[47],0⟩))) L n n Z Z):WO a8 X Γ l (.binOp .neq 39 x y t2) L K:=WO.ai0 hx hy k
theorem WO.alH {p q:bC}(hx:Ev l x (.agg ⟨ak.cells p⟩))(hy:Ev l y (.agg ⟨ak.cells q⟩))(k:∀n,K (.bool !(decide (p=q))) L n n Z Z):WO a8 X Γ l (.binOp .neq 61 x y t2) L K:=by
 refine WO.adT hx hy rfl (qg _ _ _ _ _ _) λn=>?_
 have:=k n;obtain⟨a,b,c⟩:=p;obtain⟨a',b',c'⟩:=q;simpa using this
theorem afn (f:Flat):f.ok=true↔f.kA=true/\f.ad≠[]/\f.ad.getD 0 dF=⟨[47],0⟩/\(∀i,1<=i->i<f.ad.length->f.uS i=true)/\f.nD [47]<=12:=by
 unfold Flat.ok;simp only[bU,bQ,gQ,lS,mS];constructor
 .rintro⟨⟨⟨⟨h1,h2⟩,h3⟩,h4⟩,h5⟩;exact⟨h1,h2,h3,λi hi hl=>(h4 i hl).resolve_left ag,h5⟩
 .rintro⟨h1,h2,h3,h4,h5⟩;refine⟨⟨⟨⟨h1,h2⟩,h3⟩,λi hl=>?_⟩,h5⟩;by_cases hi:i=0
  .exact .inl hi
  .exact .inr (h4 i ag hl)
def ada (r:aA×aA):aA:=if r.1=[47] then 47::r.2 else r.1++47::r.2
theorem Nc (f:Flat)(i:Nat):f.uS i=(match f.dq (aP (f.ad.getD i dF).af).1 with
 |none=>false
 |some k=>bL (f.ad.getD (i-1) dF).af (f.ad.getD i dF).af&&decide (k<i)&&decide (ada (aP (f.ad.getD i dF).af)=(f.ad.getD i dF).af)&&bG (aP (f.ad.getD i dF).af).2&&(f.cH (f.ad.getD i dF).id).isSome&&f.ig (f.ad.getD k dF).id&&decide (f.nD (f.ad.getD i dF).af<=12)):=rfl
theorem Uc {f:Flat}{i k:Nat}(hk:f.dq (aP (f.ad.getD i ak.ah).af).1=some k):f.uS i=true↔
  Op.bytesLess (f.ad.getD (i-1) ak.ah).af (f.ad.getD i ak.ah).af=true/\k<i/\(if(aP (f.ad.getD i ak.ah).af).1=[47] then [47]++(aP (f.ad.getD i ak.ah).af).2 else(aP (f.ad.getD i ak.ah).af).1++[47]++(aP (f.ad.getD i ak.ah).af).2)=(f.ad.getD i ak.ah).af/\bG (aP (f.ad.getD i ak.ah).af).2=true/\0<=Hu (f.cH (f.ad.getD i ak.ah).id)/\f.ig (f.ad.getD k ak.ah).id=true/\f.nD (f.ad.getD i ak.ah).af<=12:=by
 rw[Nc,hk,gz,PE];show(_&&_&&_&&_&&_&&_&&_)=true↔_;unfold ada;simp only[bU,bQ,and_assoc,kG,BI,pT]
theorem wW (s:St)(a:aK)(c:Nat)(a':aK)(c':Nat)(f:Flat)(hf:HY f)(hr:cl s a a' f):bP 24 [js a c a' c' f] s (kF a a') (.bool f.ok):=by
 have oR:=fN.n hr;have qI:=fN.t hr;have pz:=hf.tl;have nC:=hf.nl;have ru:=afn f;by_cases h0:f.kA=true/\f.ad≠[]/\f.ad.getD 0 dF=⟨[47],0⟩
 .obtain⟨h1,h2,h3⟩:=h0;have h1':(!f.kA)=false:=by rw[h1];rfl
  have fK:f.ad.length≠0:=λh=>h2 (mT h)
  have SG:(!(decide (f.ad.getD 0 dF=⟨[47],0⟩)))=false:=by rw[h3];decide
  refine aU f24 ?_;(repeat' (first|refine' a7|refine' acF|refine' QS|refine' aw|fail))
  all_goals try refine cM
  refine W.bN (λk l L=>∃(i b1:Nat),Le [(1,bc b1),(3,iv (i:Int))] l/\cz [.box b1 (iw a c f.ad a' c' f.ae) 26 false] L/\k=f.ad.length-i/\i<=f.ad.length/\1<=i/\∀j,1<=j->j<i->f.uS j=true)
   (λl L=>∃b1:Nat,Le [(1,bc b1)] l/\cz [.box b1 (iw a c f.ad a' c' f.ae) 26 false] L/\∀j,1<=j->j<f.ad.length->f.uS j=true) _ ⟨1,_,bk,au,rfl,ag,ag,λj hj=>by omega⟩ ?_ ?_
  .rintro k l L ⟨i,b1,hl,hL,rfl,g1,g0,g2⟩;refine W.le ?_ hl hL;clear hl hL;by_cases hi:i<f.ad.length
   .have hB:=Nc f i;have hx:=hf.nm _ (aJ hi ak.ah);have Cd:=hx.1;have rD:=hx.1;have YA:=sO (f.ad.getD i ak.ah).af;have JJ:f.uS i=false->f.ok=false:=λh=>by
     cases hb:f.ok with
     |false=>rfl
     |true=>have:=((ru.1 hb).2.2.2.1 i g0 hi);rw[h] at this;cases this
    have ku:∀s,cl s a a' f->bP 52 [js a c a' c' f,sv (aP (f.ad.getD i ak.ah).af).1] s (kF a a') (iv (Hu (f.dq (aP (f.ad.getD i ak.ah).af).1))):=λs hr=>k9 s a c a' c' f hf _ hr
    cases hk:f.dq (aP (f.ad.getD i ak.ah).af).1 with
    |none=>
     rw[hk] at ku hB;have ku:∀s,cl s a a' f->bP 52 [js a c a' c' f,sv (aP (f.ad.getD i ak.ah).af).1] s (kF a a') (iv (-1)):=ku;have hz:f.ok=false:=JJ hB;(repeat' (first|refine' a7|refine' wN|refine' aaA|refine' qm|refine' LC|refine' W9|refine' wO|refine' aw|fail))
     all_goals try refine cM
     all_goals first|(rw[hz];(refine' ax);rfl;done)
    |some k=>
     have hBi:=Uc hk;rw[hk] at ku;have ku:∀s,cl s a a' f->bP 52 [js a c a' c' f,sv (aP (f.ad.getD i ak.ah).af).1] s (kF a a') (iv (k:Int)):=ku;have Fg:=vl hk;(repeat' (first|refine' a7|refine' wN|refine' aaA|refine' qm|refine' LC|refine' W9|refine' wO|refine' aw|fail))
     all_goals try refine cM
     all_goals(have e1:((i:Int)-1).toNat=i-1:=by omega)
     all_goals first
      |(have hz:f.ok=false:=(by
         apply JJ;refine Bool.eq_false_iff.2 λh=>?_
         obtain⟨q1,q2,q3,q4,q5,q6,q7⟩:=hBi.1 h;first
                                                |(exfalso;omega)
                                                |(exact absurd q6 (by rw[jR];assumption))
                                                |(exact absurd q4 (by rw[jR];assumption))
                                                |(rw[<-e1] at q1;exact absurd q1 (by rw[jR];assumption))
                                                |(rw[if_pos (by assumption)] at q3;contradiction)
                                                |(rw[if_neg (by assumption)] at q3;contradiction))
        rw[hz];(refine' ax);rfl)
      |(refine⟨_,ag,i+1,_,bk,au,rfl,ag,ag,λj hj1 hj=>?_⟩
        rcases Qd.1 hj with h|h
        exact g2 j hj1 h;rw[h];first
                                |exact hBi.2 ⟨by rw[<-e1];assumption,ag,by rw[if_pos (by assumption)];assumption,by assumption,ag,by assumption,ag⟩
                                |exact hBi.2 ⟨by rw[<-e1];assumption,ag,by rw[if_neg (by assumption)];assumption,by assumption,ag,by assumption,ag⟩)
   .have fE:i=f.ad.length:=by omega
    subst fE;(refine' cU)
    all_goals try refine cM
    all_goals exact⟨_,bk,au,g2⟩
  .rintro l L ⟨b1,hl,hL,h4⟩;refine aq ?_;refine W.le ?_ hl hL;(repeat' (first|refine' a7|refine' wO|refine' aw|fail))
   (refine' ax)
   show Value.bool (decide ((f.nD [47]:Int)<=12))=Value.bool f.ok
   congr 1
   rw[oZ,bQ,ru];exact⟨λh=>⟨h1,h2,h3,h4,ag⟩,λh=>by have:=h.2.2.2.2;omega⟩
 .have hb:f.ok=false:=by
   cases hb:f.ok with
   |false=>rfl
   |true=>have:=ru.1 hb;exact absurd ⟨this.1,this.2.1,this.2.2.1⟩ h0
  rw[hb];refine aU f24 ?_;(repeat' (first|refine' a7|refine' acF|refine' QS|refine' aw|fail))
  all_goals try refine cM
  all_goals first|((refine' ax);rfl;done)|(exfalso;exact h0 ⟨by assumption,λh=>by have h5:¬((f.ad.length:Int)=0):=(by assumption);exact h5 (by rw[h];rfl),by assumption⟩)
end
def zI (c:UInt8):Bool:=decide (c.toNat<97)||decide (122<c.toNat)
theorem PF (s:St)(c:UInt8):bP 69 [.int .i32 (c.toNat:Int)] s [] (.bool (zI c)):=by
 refine aU f69 ?_;(refine' cU)
 all_goals(refine' ax)
 .show Value.bool (decide ((122:Int)<c.toNat))=_;refine fI Value.bool ?_;unfold zI;rw[gS (by omega:¬c.toNat<97),Bool.false_or,Gg];omega
 .show Value.bool true=_;refine fI Value.bool ?_;unfold zI;rw[dt (by omega:c.toNat<97)];rfl
theorem JK (s:St)(z:aA)(hz:z.length<=100000)(ha:∀c∈z,c.toNat<128):bP 103 [sv z,.func (.func 69) ⟨[]⟩ ⟨[]⟩,.bool true] s [] (iv (oI (z.findIdx? zI))):=by
 refine aU f103 ?_;(repeat' (first|refine' a7|((with_reducible apply WO.aeL);exact gP;intro br _)|refine' aw|fail))
 refine W.bN (λm l L=>∃(p b:Nat),Le [(0,sv z),(1,.func (.func 69) ⟨[]⟩ ⟨[]⟩),(2,.bool true),(10,bc b)] l/\cz [.lp b (.lM z p)] L/\m=z.length-p/\p<=z.length/\∀j:Nat,j<p->zI (z.getD j 0)≠true)
  (λl L=>Le [] l/\cz [] L/\z.findIdx? zI=none) _ ⟨0,_,bk,au,rfl,ag,λj h1=>by omega⟩ ?_ ?_
 .rintro m l L ⟨p,b,hl,hL,rfl,h2,h3⟩;refine W.le ?_ hl hL;clear hl hL;by_cases hp:p<z.length
  .have amM:(z.getD p 0).toNat<128:=ha _ (aJ hp _);(repeat' (first|refine' a7|((with_reducible apply WO.aeM);exact gP;exact xy;assumption;assumption;intro _)|refine' wo|((with_reducible apply WO.bI);exact aE;(first|exact λs=>PF s _);intro _ _ _ _)|refine' aw|fail))
   all_goals try refine cM
   .have e:z.findIdx? zI=some p:=mF hp j3 h3;(refine' ax)
    rw[e];rfl
   .refine⟨_,ag,p+1,b,bk,au,rfl,ag,λj hj=>?_⟩;by_cases hjp:j=p
    .subst hjp;intro he;rw[he] at hc;cases hc
    .exact h3 j ag
  .have pJ:z.length<=p:=by omega
   have e:z.findIdx? zI=none:=zi 0 λj hj=>h3 j ag
   (repeat' (first|refine' a7|((with_reducible apply WO.aeN);exact gP;exact rG;assumption;intro _)|refine' aw|fail))
   all_goals try refine cM
   all_goals exact⟨bk,au,e⟩
 .rintro l L ⟨hl,hL,h3⟩;refine aq ?_;refine W.le ?_ hl hL;clear hl hL;rw[h3];(refine' cU)
  all_goals(refine' ax)
  all_goals rfl
theorem JL (s:St)(z:aA)(hz:z.length<=100000)(ha:∀c∈z,c.toNat<128):bP 68 [sv z,.func (.func 69) ⟨[]⟩ ⟨[]⟩] s [] (iv (oI (z.findIdx? zI))):=by
 refine aU f68 ?_;(repeat' (first|refine' a7|((with_reducible apply WO.bI);exact aE;(first|exact λs=>JK s _ ag (by assumption));intro _ _ _ _)|refine' aw|fail))
 all_goals(refine' ax)
 all_goals rfl
theorem OJ (s:St)(z:aA)(hz:z.length<=100000)(ha:∀c∈z,c.toNat<128):bP 32 [sv z] s [] (.bool (bG z)):=by
 have hb:(oI (z.findIdx? zI)<0)↔z.all (λc=>decide (97<=c.toNat)&&decide (c.toNat<=122))=true:=by
  rw[gQ];cases h:z.findIdx? zI with
  |none=>
   rw[CH] at h;refine⟨λ_ c hc=>?_,λ_=>by decide⟩;have:=h c hc;unfold zI at this;simp at this⊢;omega
  |some i=>
   obtain⟨h1,h2,_⟩:=oC.1 h;refine⟨λhi=>absurd hi (by show ¬(i:Int)<0;omega),λbS=>?_⟩;have:=bS _ (qS h1);unfold zI at h2;simp at this h2;omega
 refine aU f32 ?_;(repeat' (first|refine' a7|refine' SR|((with_reducible apply WO.bI);exact aE;(first|exact λs=>JL s _ ag (by assumption));intro _ _ _ _)|refine' aw|fail))
 all_goals try refine cM
 all_goals(refine' ax)
 .show Value.bool (decide (oI (z.findIdx? zI)<0))=_;refine fI Value.bool ?_;unfold bG;rw[dt (by omega:1<=z.length),dt (by omega:z.length<=4),Kg,Kg,oZ,bQ];exact hb
 .show Value.bool false=_;refine fI Value.bool ?_;unfold bG;rw[Bool.and_assoc,show(decide (1<=z.length)&&decide (z.length<=4))=false by simp at um⊢;omega,Bool.and_false]
end Go.Pl
namespace Go.Pl
open Go.Lg
open Go Go.Ev Go.Lg Go.Proofs
structure H0 (f:Flat):Prop where
 nl:f.ad.length<=900
 tl:f.ae.length<=900
 nm:∀x∈f.ad,BE x.af/\0<=x.id/\x.id<=16
 th:∀x∈f.ae,0<=x.id/\x.id<=16/\x.aW.length<=192
theorem fU.e {f:Flat}(h:fU f):H0 f:=⟨by have:=h.nl;omega,by have:=h.tl;omega,h.nm,h.th⟩
theorem afo (f:Flat):Q2 f=(fR f.ae.length 1 16&&decide (f.ad.length≠0)&&decide (f.ad.getD 0 cu=⟨[47],0⟩)&&(List.range f.ae.length).all (tB f.ae)&&decide ((f.ae.getD 0 ec).id=0)&&(f.ae.getD 0 ec).aD&&match XJ f.ad f.ae f.ad.length 0 ⟨[],[],[]⟩ with
 |none=>false
 |some A=>decide (A.li.length=f.ae.length)):=rfl
theorem sP (p:List a6)(i:Nat)(z:aA):0<=(cN p i z:Int)/\(cN p i z:Int)<=i:=by
 unfold cN;have:=F3 (p:=λj=>decide (1<=j)&&decide ((av (p.getD j cu).af).1=z)) (l:=List.range i);rw[Km] at this;omega
theorem sQ (p:List a6)(i:Nat)(n:Int):0<=(cL p i n:Int)/\(cL p i n:Int)<=i:=by
 unfold cL;have:=F3 (p:=λj=>decide ((p.getD j cu).id=n)) (l:=List.range i);rw[Km] at this;omega
theorem fW (z:aA):(av z).1.length<=z.length/\(av z).2.length<=z.length:=by
 unfold av;split
 .simp
 .rw[cZ,gd];omega
def oW:Code->Option Code
 |.loop b=>some b
 |.seq x y=>match oW y with
  |some z=>some z
  |none=>oW x
 |.block _ b=>oW b
 |.cond _ x y=>match oW y with
  |some z=>some z
  |none=>oW x
 |_=>none
def ur (g:Func):Code:=match g.body with
 |some c=>(oW c).getD .skip
 |none=>.skip
theorem W.ur {E:dA}{X:dM}{Γ:ij}{l:Kn}{L:bE}{Q:Ex->Kn->bE->Prop}{g:Func}{b c:Code}(h0:g.body=some b)(h:oW b=some c)(hw:W E X Γ c l L Q):W E X Γ (ur g) l L Q:=by
 have:Pl.ur g=c:=by unfold Pl.ur;rw[h0];show(oW b).getD .skip=c;rw[h];rfl
 rw[this];exact hw
structure Ud (s:St)(a a':aK)(f:Flat)(i:Nat)(A:Acc):Prop where
 hf:H0 f
 hr:cl s a a' f
 hs:gi f.ae
 hi:i<f.ad.length
 g2:zl f.ad f.ae i A
abbrev zV (f:Flat)(i:Nat)(A:Acc):Int:=((dr (ew A.li (f.ad.getD i ak.ah).id ((dr A.li (f.ad.getD i ak.ah).id).getD 0+1)) (f.ad.getD i ak.ah).id).getD 0)
abbrev YW (f:Flat)(i:Nat)(A:Acc):Int:=((dr (ew A.nE (av (f.ad.getD i ak.ah).af).1 ((dr A.nE (av (f.ad.getD i ak.ah).af).1).getD 0+1)) (av (f.ad.getD i ak.ah).af).1).getD 0)
abbrev JM (a:aK)(c:Nat)(f:Flat)(b1 b5 b6 b7 i:Nat):Kn:=[(1,bc b1),(5,.map (some b5)),(6,.map (some b6)),(7,.map (some b7)),(94,.slice a f.ad.length c),(95,iv (f.ad.length:Int)),(96,iv (i:Int))]
abbrev JN (a:aK)(c:Nat)(a':aK)(c':Nat)(f:Flat)(b1 b5 b6 b7:Nat)(A:Acc):bE:=[.box b1 (iw a c f.ad a' c' f.ae) 26 false,.lp b5 (mII A.li),.lp b6 (mSI A.nE),.lp b7 (mSB A.fo)]
abbrev PG (s:St)(a:aK)(c:Nat)(a':aK)(c':Nat)(f:Flat)(b1 b5 b6 b7 i:Nat)(A:Acc)(Q:Ex->Kn->bE->Prop):Prop:=W a8 bj ⟨s,([]:bE).flatMap It.aY,kF a a'⟩ (ur f11) (JM a c f b1 b5 b6 b7 i) (JN a c a' c' f b1 b5 b6 b7 A) Q
abbrev JO (s:St)(a:aK)(c:Nat)(a':aK)(c':Nat)(f:Flat)(b1 b5 b6 b7 i:Nat)(A:Acc):Prop:=∀Q:Ex->Kn->bE->Prop,(∀l L,lk l 2=some (.bool false)->Q .ret l L)->PG s a c a' c' f b1 b5 b6 b7 i A Q
abbrev Rt (s:St)(a:aK)(c:Nat)(a':aK)(c':Nat)(f:Flat)(b1 b5 b6 b7 i:Nat)(A B:Acc):Prop:=∀Q:Ex->Kn->bE->Prop,(∀l L,Le (JM a c f b1 b5 b6 b7 (i+1)) l->cz (JN a c a' c' f b1 b5 b6 b7 B) L->Q .normal l L)->PG s a c a' c' f b1 b5 b6 b7 i A Q
end Go.Pl
namespace Go.Pl
open Go Go.Ev Go.Lg Go.Proofs
section
variable {t:Nat}
theorem ifA {s a c a' c' f i A}(h:Ud s a a' f i A)(b1 b5 b6 b7)(ht:kM f.ae (f.ad.getD i ak.ah).id=none):JO s a c a' c' f b1 b5 b6 b7 i A:=by
 refine' zac
 have B3:=sP f.ad i (av (f.ad.getD i ak.ah).af).1;have B4:=sQ f.ad i (f.ad.getD i ak.ah).id;rw[<-g2.nE] at B3;rw[<-g2.li] at B4;have Ru:((i:Int)-1).toNat=i-1:=by omega
 have ku:∀s b,iQ s b a c f.ad a' c' f.ae->bP 30 [bc b,iv (f.ad.getD i ak.ah).id] s (qN b a a') (.pointer none):=λs b hr=>by
  have:=fT s b a c f.ad a' c' f.ae hs ag (f.ad.getD i ak.ah).id hr;rw[ht] at this;exact this
 clear hr hf hs g2;(refine' sA)
 all_goals try refine NH
 all_goals exact hQ _ _ rfl
theorem alI {s a c a' c' f i A}(h:Ud s a a' f i A)(b1 b5 b6 b7)(ht:kM f.ae (f.ad.getD i ak.ah).id=some t)(h0:¬0<i)(c4:9<zV f i A):JO s a c a' c' f b1 b5 b6 b7 i A:=by
 obtain⟨hf,hr,hs,hi,g2⟩:=h;intro Q hQ;unfold PG JM JN;unfold zV at c4;refine W.ur rfl rfl ?_;have oR:=fN.n hr;have qI:=fN.t hr;have pz:=hf.tl;have nC:=hf.nl;have hx:=(hf.nm _ (aJ hi ak.ah)).1;have Cd:=hx.1;have kK:=fW (f.ad.getD i ak.ah).af;have Pu:∀ch∈(av (f.ad.getD i ak.ah).af).2,ch.toNat<128:=λch dS=>hx.2.1 ch (fV _ ch dS)
 refine' zaa
 refine' zaq
 all_goals exact hQ _ _ rfl
theorem alJ {s a c a' c' f i A}(h:Ud s a a' f i A)(b1 b5 b6 b7)(ht:kM f.ae (f.ad.getD i ak.ah).id=some t)(h0:¬0<i)(c4:¬9<zV f i A)(c5:(f.ae.getD t ak.ah).aD=true)(c6:1<zV f i A):JO s a c a' c' f b1 b5 b6 b7 i A:=by
 obtain⟨hf,hr,hs,hi,g2⟩:=h;intro Q hQ;unfold PG JM JN;unfold zV at c4;unfold zV at c6;refine W.ur rfl rfl ?_;have oR:=fN.n hr;have qI:=fN.t hr;have pz:=hf.tl;have nC:=hf.nl;have hx:=(hf.nm _ (aJ hi ak.ah)).1;have Cd:=hx.1;have kK:=fW (f.ad.getD i ak.ah).af;have Pu:∀ch∈(av (f.ad.getD i ak.ah).af).2,ch.toNat<128:=λch dS=>hx.2.1 ch (fV _ ch dS)
 refine' zaa
 refine' zaq
 all_goals exact hQ _ _ rfl
theorem afp {s a c a' c' f i A}(h:Ud s a a' f i A)(b1 b5 b6 b7)(ht:kM f.ae (f.ad.getD i ak.ah).id=some t)(h0:¬0<i)(c4:¬9<zV f i A)(c5:(f.ae.getD t ak.ah).aD=true)(c6:¬1<zV f i A):Rt s a c a' c' f b1 b5 b6 b7 i A ⟨(ew A.li (f.ad.getD i ak.ah).id ((dr A.li (f.ad.getD i ak.ah).id).getD 0+1)),A.nE,(ew A.fo (f.ad.getD i ak.ah).af (f.ae.getD t ak.ah).aD)⟩:=by
 obtain⟨hf,hr,hs,hi,g2⟩:=h;intro Q hQ;unfold PG JM JN;unfold zV at c4;unfold zV at c6;dsimp only[JM,JN] at hQ;refine W.ur rfl rfl ?_;have oR:=fN.n hr;have qI:=fN.t hr;have pz:=hf.tl;have nC:=hf.nl;have hx:=(hf.nm _ (aJ hi ak.ah)).1;have Cd:=hx.1;have kK:=fW (f.ad.getD i ak.ah).af;have Pu:∀ch∈(av (f.ad.getD i ak.ah).af).2,ch.toNat<128:=λch dS=>hx.2.1 ch (fV _ ch dS)
 refine' zaa
 refine' zaq
 all_goals exact hQ _ _ bk au
theorem afq {s a c a' c' f i A}(h:Ud s a a' f i A)(b1 b5 b6 b7)(ht:kM f.ae (f.ad.getD i ak.ah).id=some t)(h0:¬0<i)(c4:¬9<zV f i A)(c5:(f.ae.getD t ak.ah).aD=false):Rt s a c a' c' f b1 b5 b6 b7 i A ⟨(ew A.li (f.ad.getD i ak.ah).id ((dr A.li (f.ad.getD i ak.ah).id).getD 0+1)),A.nE,(ew A.fo (f.ad.getD i ak.ah).af (f.ae.getD t ak.ah).aD)⟩:=by
 obtain⟨hf,hr,hs,hi,g2⟩:=h;intro Q hQ;unfold PG JM JN;unfold zV at c4;dsimp only[JM,JN] at hQ;refine W.ur rfl rfl ?_;have oR:=fN.n hr;have qI:=fN.t hr;have pz:=hf.tl;have nC:=hf.nl;have hx:=(hf.nm _ (aJ hi ak.ah)).1;have Cd:=hx.1;have kK:=fW (f.ad.getD i ak.ah).af;have Pu:∀ch∈(av (f.ad.getD i ak.ah).af).2,ch.toNat<128:=λch dS=>hx.2.1 ch (fV _ ch dS)
 refine' zaa
 refine' zaq
 all_goals exact hQ _ _ bk au
end
end Go.Pl
