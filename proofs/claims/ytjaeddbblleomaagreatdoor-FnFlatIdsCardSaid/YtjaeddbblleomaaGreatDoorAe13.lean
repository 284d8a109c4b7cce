/- Lemmas of the proof. No conditions. -/
import Derived.Test.YtjaeddbblleomaaGreatDoorAe12
set_option maxRecDepth 100000
set_option maxHeartbeats 4000000
set_option linter.unusedVariables false
set_option linter.unusedSimpArgs false
open Go.Proofs.Tryz
namespace Go.Pl
open Go Go.Ev Go.Lg Go.Proofs
theorem Tu (f:Flat)(i:Nat):f.sX i= !(!fR (f.ae.getD i dT).id 0 15||(decide (0<i)&&decide ((f.ae.getD i dT).id<=(f.ae.getD (i-1) dT).id))||((f.ae.getD i dT).aM&&decide ((f.ae.getD i dT).bh≠[]))||decide (192<(f.ae.getD i dT).bh.length)||!fR (f.many (f.ae.getD i dT).id) 1 (if(f.ae.getD i dT).aM then 1 else 9)):=rfl
theorem IE (s:St)(a:aH)(c:Nat)(a':aH)(c':Nat)(f:Flat)(hf:Hy f)(hr:bY s a a' f):bO 36 [kr a c a' c' f] s (jh a a') (.bool f.kn):=by
 have oK:=fX.n hr;have qJ:=fX.t hr;have qM:=hf.tl;have nf:=hf.nl;have q8:=MF f;by_cases h0:(1<=f.ae.length/\f.ae.length<=16)/\(f.ae.getD 0 dT).id=0/\(f.ae.getD 0 dT).aM=true
 .obtain⟨h1,h2,h3⟩:=h0;have RW:(!(f.ae.getD 0 dT).aM)=false:=by rw[h3];rfl
  refine aO f36 ?_;(refine' zb2)
  all_goals first|(exfalso;omega;done)|(exfalso;simp only[zr,lD] at tR;omega;done)|contradiction|skip
  refine W.bH (λk l L=>∃(i b1:Nat),Le [(1,aP b1),(3,iv (i:Int))] l/\cr [.box b1 (fT a c f.ad a' c' f.ae) 26 false] L/\k=f.ae.length-i/\i<=f.ae.length/\∀j,j<i->f.sX j=true)
   (λl L=>f.kn=true) _ ⟨0,_,bd,aq,rfl,af,λj hj=>by omega⟩ ?_ ?_
  .rintro k l L ⟨i,b1,hl,hL,rfl,g1,g2⟩;refine W.le ?_ hl hL;clear hl hL;by_cases hi:i<f.ae.length
   .have hB:=Tu f i;have hx:=hf.th _ (aF hi dT);have Jd:f.sX i=false->f.kn=false:=λh=>by
     cases hb:f.kn with
     |false=>rfl
     |true=>have:=((q8.1 hb).2.2.2 i hi);rw[h] at this;cases this
    cases uB:(f.ae.getD i dT).aM with
    |true=>
     refine' zae
    |false=>
     refine' zae
   .have fG:i=f.ae.length:=by omega
    subst fG;(refine' cO)
    all_goals try refine cI
    all_goals exact q8.2 ⟨h1,h2,h3,g2⟩
  .rintro l L h4;refine aj ?_;refine W.le ?_ (Le.nil _) (cr.nil _);(refine' cO)
   rw[h4];(refine' av);rfl
 .have hb:f.kn=false:=by
   cases hb:f.kn with
   |false=>rfl
   |true=>have:=q8.1 hb;exact absurd ⟨this.1,this.2.1,this.2.2.1⟩ h0
  rw[hb];refine aO f36 ?_;(refine' zb2)
  all_goals try refine cI
  all_goals first|((refine' av);rfl;done)|(exfalso;exact h0 ⟨⟨af,af⟩,by assumption,by assumption⟩)
end Go.Pl
namespace Go.Pl
open Go Go.Ev Go.Lg Go.Proofs
variable {f:Flat}{k:Nat}
theorem uX {z:ay}(h:f.dt z=some k):k<f.ad.length:=(nq.1 h).1
theorem Hz {z:Int}(h:f.cD z=some k):k<f.ae.length:=(nq.1 h).1
theorem Yb {o:Option Nat}:G4 o<0↔o=none:=by
 cases o with
 |none=>exact⟨λ_=>rfl,λ_=>by show(-1:Int)<0;omega⟩
 |some k=>exact⟨λh=>absurd (show((k:Int)<0) from h) af,λh=>by cases h⟩
theorem OW {o:Option Nat}:0<=G4 o↔o.isSome=true:=by
 cases o with
 |none=>exact⟨λh=>absurd (show(0:Int)<= -1 from h) af,λh=>by cases h⟩
 |some k=>exact⟨λ_=>rfl,λ_=>by show(0:Int)<=(k:Int);omega⟩
theorem Yc (f:Flat)(z:ay):f.bD z=if z=[47] then 3 else match f.dt (aK z).1 with
  |none=>2
  |some k=>if !f.gX (f.ad.getD k dF).id then 4 else if(f.dt z).isSome then 3 else 0:=by
 unfold Flat.bD;by_cases h:z=[47]
 .simp only[h,if_true];cases f.dt (aK [47]).1<;>rfl
 .simp only[h,oV];cases f.dt (aK z).1<;>rfl
theorem AO (s:St)(a:aH)(c:Nat)(a':aH)(c':Nat)(f:Flat)(hf:Hy f)(z:ay)(hz:z.length<=5000)(hr:bY s a a' f):bO 84 [kr a c a' c' f,sv z] s (jh a a') (iv (f.bD z)):=by
 have oK:=fX.n hr;have qJ:=fX.t hr;have XO:=sx z;have nf:=hf.nl;rw[Yc];have kh:∀s,bY s a a' f->bO 38 [kr a c a' c' f,sv (aK z).1] s (jh a a') (iv (G4 (f.dt (aK z).1))):=λs hr=>kN s a c a' c' f hf _ hr
 cases hk:f.dt (aK z).1 with
 |none=>
  rw[hk] at kh;have kh:∀s,bY s a a' f->bO 38 [kr a c a' c' f,sv (aK z).1] s (jh a a') (iv (-1)):=kh;refine aO f84 ?_;(repeat' (first|refine' aX|refine' wb|refine' pY|refine' zc217|refine' K3|refine' ar|fail))
  all_goals try refine cI
  ·(refine' av)
   rw[if_pos (by assumption)];rfl
  ·(refine' av)
   rw[if_neg (by assumption)];rfl
 |some k=>
  rw[hk] at kh;have kh:∀s,bY s a a' f->bO 38 [kr a c a' c' f,sv (aK z).1] s (jh a a') (iv (k:Int)):=kh;have ED:=uX hk;refine aO f84 ?_;(repeat' (first|refine' aX|refine' wb|refine' pY|refine' zc217|refine' K3|refine' ar|fail))
  all_goals try refine cI
  ·(refine' av)
   rw[if_pos (by assumption)];rfl
  ·(refine' av)
   rw[if_neg (by assumption)];show iv 4=iv (if _ then _ else _);rw[if_pos (by rw[pG];assumption)]
  ·(refine' av)
   rw[if_neg (by assumption)];show iv 3=iv (if _ then _ else _);rw[if_neg (by rw[pG,vP];assumption),if_pos (OW.1 (by assumption))]
  ·(refine' av)
   rw[if_neg (by assumption)];show iv 0=iv (if _ then _ else _);rw[if_neg (by rw[pG,vP];assumption),if_neg (by rw[show f.dt z=none from Yb.1 (by assumption)];decide)]
end Go.Pl
namespace Go.Pl
open Go Go.Ev Go.Lg Go.Proofs
variable {X:dM}{Γ:gY}{l:Kn}{L:bn}{K:KO}{x y:Operand}{t2:TypeId}{p:Fnd}
theorem pS (a:ay)(b:Int)(a':ay)(b':Int):gL [sv a,iv b] [sv a',iv b']=some (decide (a=a'/\b=b')):=by
 simp only[dN,ud,lR,cq,jv,ek,eQ]
 congr 1
 rw[oL];simp
theorem pT (a:Int)(b:Bool)(c:ay)(a':Int)(b':Bool)(c':ay):gL [iv a,.bool b,sv c] [iv a',.bool b',sv c']=some (decide (a=a'/\b=b'/\c=c')):=by
 simp only[dN,ud,lR,cq,jv,ek,eQ]
 congr 1
 rw[oL];cases b<;>cases b'<;>simp
theorem WO.fneq {p q:Fnd}(hx:Ev l x (.agg ⟨c9.cells p⟩))(hy:Ev l y (.agg ⟨c9.cells q⟩))(k:∀n,K (.bool !(decide (p=q))) L n n Z Z):WO aU X Γ l (.binOp .neq 70 x y t2) L K:=by
 refine WO.aneq hx hy rfl (pS _ _ _ _) λn=>?_
 have:=k n;obtain⟨a,b⟩:=p;obtain⟨a',b'⟩:=q;simpa using this
theorem WO.fneqR (hx:Ev l x (.agg ⟨c9.cells p⟩))(hy:Ev l y (.agg ⟨c9.cells (⟨[47],0⟩:Fnd)⟩))(k:∀n,K (.bool !(decide (p=⟨[47],0⟩))) L n n Z Z):WO aU X Γ l (.binOp .neq 70 x y t2) L K:=WO.fneq hx hy k
theorem WO.tneq {p q:bU}(hx:Ev l x (.agg ⟨c9.cells p⟩))(hy:Ev l y (.agg ⟨c9.cells q⟩))(k:∀n,K (.bool !(decide (p=q))) L n n Z Z):WO aU X Γ l (.binOp .neq 37 x y t2) L K:=by
 refine WO.aneq hx hy rfl (pT _ _ _ _ _ _) λn=>?_
 have:=k n;obtain⟨a,b,c⟩:=p;obtain⟨a',b',c'⟩:=q;simpa using this
theorem ok_iff (f:Flat):f.ok=true↔f.kn=true/\f.ad≠[]/\f.ad.getD 0 dF=⟨[47],0⟩/\(∀i,1<=i->i<f.ad.length->f.ur i=true)/\f.nw [47]<=12:=by
 unfold Flat.ok;simp only[cv,cl,iM,mH,mC];constructor
 .rintro⟨⟨⟨⟨h1,h2⟩,h3⟩,h4⟩,h5⟩;exact⟨h1,h2,h3,λi hi hl=>(h4 i hl).resolve_left af,h5⟩
 .rintro⟨h1,h2,h3,h4,h5⟩;refine⟨⟨⟨⟨h1,h2⟩,h3⟩,λi hl=>?_⟩,h5⟩;by_cases hi:i=0
  .exact .inl hi
  .exact .inr (h4 i af hl)
def joinP (r:ay×ay):ay:=if r.1=[47] then 47::r.2 else r.1++47::r.2
theorem MG (f:Flat)(i:Nat):f.ur i=(match f.dt (aK (f.ad.getD i dF).ag).1 with
 |none=>false
 |some k=>bK (f.ad.getD (i-1) dF).ag (f.ad.getD i dF).ag&&decide (k<i)&&decide (joinP (aK (f.ad.getD i dF).ag)=(f.ad.getD i dF).ag)&&bT (aK (f.ad.getD i dF).ag).2&&(f.cD (f.ad.getD i dF).id).isSome&&f.gX (f.ad.getD k dF).id&&decide (f.nw (f.ad.getD i dF).ag<=12)):=rfl
theorem Tv {f:Flat}{i k:Nat}(hk:f.dt (aK (f.ad.getD i c9.lW).ag).1=some k):f.ur i=true↔
  Op.bytesLess (f.ad.getD (i-1) c9.lW).ag (f.ad.getD i c9.lW).ag=true/\k<i/\(if(aK (f.ad.getD i c9.lW).ag).1=[47] then [47]++(aK (f.ad.getD i c9.lW).ag).2 else(aK (f.ad.getD i c9.lW).ag).1++[47]++(aK (f.ad.getD i c9.lW).ag).2)=(f.ad.getD i c9.lW).ag/\bT (aK (f.ad.getD i c9.lW).ag).2=true/\0<=G4 (f.cD (f.ad.getD i c9.lW).id)/\f.gX (f.ad.getD k c9.lW).id=true/\f.nw (f.ad.getD i c9.lW).ag<=12:=by
 rw[MG,hk,gC,OW];show(_&&_&&_&&_&&_&&_&&_)=true↔_;unfold joinP;simp only[cv,cl,and_assoc,kA,xB,oa]
theorem wm (s:St)(a:aH)(c:Nat)(a':aH)(c':Nat)(f:Flat)(hf:Hy f)(hr:bY s a a' f):bO 15 [kr a c a' c' f] s (jh a a') (.bool f.ok):=by
 have oK:=fX.n hr;have qJ:=fX.t hr;have qM:=hf.tl;have nf:=hf.nl;have q8:=ok_iff f;by_cases h0:f.kn=true/\f.ad≠[]/\f.ad.getD 0 dF=⟨[47],0⟩
 .obtain⟨h1,h2,h3⟩:=h0;have h1':(!f.kn)=false:=by rw[h1];rfl
  have gx:f.ad.length≠0:=λh=>h2 (mG h)
  have RW:(!(decide (f.ad.getD 0 dF=⟨[47],0⟩)))=false:=by rw[h3];decide
  refine aO f15 ?_;(repeat' (first|refine' aX|refine' zc219|refine' Qe|refine' ar|fail))
  all_goals try refine cI
  refine W.bH (λk l L=>∃(i b1:Nat),Le [(1,aP b1),(3,iv (i:Int))] l/\cr [.box b1 (fT a c f.ad a' c' f.ae) 26 false] L/\k=f.ad.length-i/\i<=f.ad.length/\1<=i/\∀j,1<=j->j<i->f.ur j=true)
   (λl L=>∃b1:Nat,Le [(1,aP b1)] l/\cr [.box b1 (fT a c f.ad a' c' f.ae) 26 false] L/\∀j,1<=j->j<f.ad.length->f.ur j=true) _ ⟨1,_,bd,aq,rfl,af,af,λj hj=>by omega⟩ ?_ ?_
  .rintro k l L ⟨i,b1,hl,hL,rfl,g1,g0,g2⟩;refine W.le ?_ hl hL;clear hl hL;by_cases hi:i<f.ad.length
   .have hB:=MG f i;have hx:=hf.nm _ (aF hi c9.lW);have BA:=hx.1;have ri:=hx.1;have XO:=sx (f.ad.getD i c9.lW).ag;have Jd:f.ur i=false->f.ok=false:=λh=>by
     cases hb:f.ok with
     |false=>rfl
     |true=>have:=((q8.1 hb).2.2.2.1 i g0 hi);rw[h] at this;cases this
    have kh:∀s,bY s a a' f->bO 38 [kr a c a' c' f,sv (aK (f.ad.getD i c9.lW).ag).1] s (jh a a') (iv (G4 (f.dt (aK (f.ad.getD i c9.lW).ag).1))):=λs hr=>kN s a c a' c' f hf _ hr
    cases hk:f.dt (aK (f.ad.getD i c9.lW).ag).1 with
    |none=>
     rw[hk] at kh hB;have kh:∀s,bY s a a' f->bO 38 [kr a c a' c' f,sv (aK (f.ad.getD i c9.lW).ag).1] s (jh a a') (iv (-1)):=kh;have hz:f.ok=false:=Jd hB;(repeat' (first|refine' aX|refine' wb|refine' Z2|refine' pY|refine' K3|refine' Wm|refine' wc|refine' ar|fail))
     all_goals try refine cI
     all_goals first|(rw[hz];(refine' av);rfl;done)
    |some k=>
     have hBi:=Tv hk;rw[hk] at kh;have kh:∀s,bY s a a' f->bO 38 [kr a c a' c' f,sv (aK (f.ad.getD i c9.lW).ag).1] s (jh a a') (iv (k:Int)):=kh;have ED:=uX hk;(repeat' (first|refine' aX|refine' wb|refine' Z2|refine' pY|refine' K3|refine' Wm|refine' wc|refine' ar|fail))
     all_goals try refine cI
     all_goals(have e1:((i:Int)-1).toNat=i-1:=by omega)
     all_goals first
      |(have hz:f.ok=false:=(by
         apply Jd;refine Bool.eq_false_iff.2 λh=>?_
         obtain⟨q1,q2,q3,q4,q5,q6,q7⟩:=hBi.1 h;first
                                                |(exfalso;omega)
                                                |(exact absurd q6 (by rw[jJ];assumption))
                                                |(exact absurd q4 (by rw[jJ];assumption))
                                                |(rw[<-e1] at q1;exact absurd q1 (by rw[jJ];assumption))
                                                |(rw[if_pos (by assumption)] at q3;contradiction)
                                                |(rw[if_neg (by assumption)] at q3;contradiction))
        rw[hz];(refine' av);rfl)
      |(refine⟨_,af,i+1,_,bd,aq,rfl,af,af,λj hj1 hj=>?_⟩
        rcases JO.1 hj with h|h
        exact g2 j hj1 h;rw[h];first
                                |exact hBi.2 ⟨by rw[<-e1];assumption,af,by rw[if_pos (by assumption)];assumption,by assumption,af,by assumption,af⟩
                                |exact hBi.2 ⟨by rw[<-e1];assumption,af,by rw[if_neg (by assumption)];assumption,by assumption,af,by assumption,af⟩)
   .have fG:i=f.ad.length:=by omega
    subst fG;(refine' cO)
    all_goals try refine cI
    all_goals exact⟨_,bd,aq,g2⟩
  .rintro l L ⟨b1,hl,hL,h4⟩;refine aj ?_;refine W.le ?_ hl hL;(repeat' (first|refine' aX|refine' wc|refine' ar|fail))
   (refine' av)
   show Value.bool (decide ((f.nw [47]:Int)<=12))=Value.bool f.ok
   congr 1
   rw[oL,cl,q8];exact⟨λh=>⟨h1,h2,h3,h4,af⟩,λh=>by have:=h.2.2.2.2;omega⟩
 .have hb:f.ok=false:=by
   cases hb:f.ok with
   |false=>rfl
   |true=>have:=q8.1 hb;exact absurd ⟨this.1,this.2.1,this.2.2.1⟩ h0
  rw[hb];refine aO f15 ?_;(repeat' (first|refine' aX|refine' zc219|refine' Qe|refine' ar|fail))
  all_goals try refine cI
  all_goals first|((refine' av);rfl;done)|(exfalso;exact h0 ⟨by assumption,λh=>by have h5:¬((f.ad.length:Int)=0):=(by assumption);exact h5 (by rw[h];rfl),by assumption⟩)
end Go.Pl
namespace Go.Pl
open Go Go.Ev Go.Lg Go.Proofs
def zg (c:UInt8):Bool:=decide (c.toNat<97)||decide (122<c.toNat)
theorem OX (s:St)(c:UInt8):bO 66 [.int .i32 (c.toNat:Int)] s [] (.bool (zg c)):=by
 refine aO f66 ?_;(refine' cO)
 all_goals(refine' av)
 .show Value.bool (decide ((122:Int)<c.toNat))=_;refine gb Value.bool ?_;unfold zg;rw[iO (by omega:¬c.toNat<97),Bool.false_or,FF];omega
 .show Value.bool true=_;refine gb Value.bool ?_;unfold zg;rw[dO (by omega:c.toNat<97)];rfl
theorem Je (s:St)(z:ay)(hz:z.length<=100000)(ha:∀c∈z,c.toNat<128):bO 108 [sv z,.func (.func 66) ⟨[]⟩ ⟨[]⟩,.bool true] s [] (iv (oI (z.findIdx? zg))):=by
 refine aO f108 ?_;(repeat' (first|refine' aX|((with_reducible apply WO.rangeS);exact gO;intro br _)|refine' ar|fail))
 refine W.bH (λm l L=>∃(p b:Nat),Le [(0,sv z),(1,.func (.func 66) ⟨[]⟩ ⟨[]⟩),(2,.bool true),(10,aP b)] l/\cr [.fy b (.lA z p)] L/\m=z.length-p/\p<=z.length/\∀j:Nat,j<p->zg (z.getD j 0)≠true)
  (λl L=>Le [] l/\cr [] L/\z.findIdx? zg=none) _ ⟨0,_,bd,aq,rfl,af,λj h1=>by omega⟩ ?_ ?_
 .rintro m l L ⟨p,b,hl,hL,rfl,h2,h3⟩;refine W.le ?_ hl hL;clear hl hL;by_cases hp:p<z.length
  .have hc128:(z.getD p 0).toNat<128:=ha _ (aF hp _);(repeat' (first|refine' aX|((with_reducible apply WO.nextS1);exact gO;exact wT;assumption;assumption;intro _)|refine' vI|((with_reducible apply WO.bG);exact aD;(first|exact λs=>OX s _);intro _ _ _ _)|refine' ar|fail))
   all_goals try refine cI
   .have e:z.findIdx? zg=some p:=mj hp jU h3;(refine' av)
    rw[e];rfl
   .refine⟨_,af,p+1,b,bd,aq,rfl,af,λj hj=>?_⟩;by_cases hjp:j=p
    .subst hjp;intro he;rw[he] at hc;cases hc
    .exact h3 j af
  .have pr:z.length<=p:=by omega
   have e:z.findIdx? zg=none:=yO 0 λj hj=>h3 j af
   (repeat' (first|refine' aX|((with_reducible apply WO.nextS0);exact gO;exact rl;assumption;intro _)|refine' ar|fail))
   all_goals try refine cI
   all_goals exact⟨bd,aq,e⟩
 .rintro l L ⟨hl,hL,h3⟩;refine aj ?_;refine W.le ?_ hl hL;clear hl hL;rw[h3];(refine' cO)
  all_goals(refine' av)
  all_goals rfl
theorem Jf (s:St)(z:ay)(hz:z.length<=100000)(ha:∀c∈z,c.toNat<128):bO 65 [sv z,.func (.func 66) ⟨[]⟩ ⟨[]⟩] s [] (iv (oI (z.findIdx? zg))):=by
 refine aO f65 ?_;(repeat' (first|refine' aX|((with_reducible apply WO.bG);exact aD;(first|exact λs=>Je s _ af (by assumption));intro _ _ _ _)|refine' ar|fail))
 all_goals(refine' av)
 all_goals rfl
theorem NZ (s:St)(z:ay)(hz:z.length<=100000)(ha:∀c∈z,c.toNat<128):bO 30 [sv z] s [] (.bool (bT z)):=by
 have hb:(oI (z.findIdx? zg)<0)↔z.all (λc=>decide (97<=c.toNat)&&decide (c.toNat<=122))=true:=by
  rw[iM];cases h:z.findIdx? zg with
  |none=>
   rw[Ap] at h;refine⟨λ_ c hc=>?_,λ_=>by decide⟩;have:=h c hc;unfold zg at this;simp at this⊢;omega
  |some i=>
   obtain⟨h1,h2,_⟩:=nq.1 h;refine⟨λhi=>absurd hi (by show ¬(i:Int)<0;omega),λbP=>?_⟩;have:=bP _ (tA h1);unfold zg at h2;simp at this h2;omega
 refine aO f30 ?_;(repeat' (first|refine' aX|refine' Sb|((with_reducible apply WO.bG);exact aD;(first|exact λs=>Jf s _ af (by assumption));intro _ _ _ _)|refine' ar|fail))
 all_goals try refine cI
 all_goals(refine' av)
 .show Value.bool (decide (oI (z.findIdx? zg)<0))=_;refine gb Value.bool ?_;unfold bT;rw[dO (by omega:1<=z.length),dO (by omega:z.length<=4),JG,JG,oL,cl];exact hb
 .show Value.bool false=_;refine gb Value.bool ?_;unfold bT;rw[Bool.and_assoc,show(decide (1<=z.length)&&decide (z.length<=4))=false by simp at tR⊢;omega,Bool.and_false]
end Go.Pl
namespace Go.Pl
open Go.Lg
open Go Go.Ev Go.Lg Go.Proofs
structure nz (f:Flat):Prop where
 nl:f.ad.length<=900
 tl:f.ae.length<=900
 nm:∀x∈f.ad,A6 x.ag/\0<=x.id/\x.id<=16
 th:∀x∈f.ae,0<=x.id/\x.id<=16/\x.bh.length<=192
theorem ga.e {f:Flat}(h:ga f):nz f:=⟨by have:=h.nl;omega,by have:=h.tl;omega,h.nm,h.th⟩
theorem iok_eq (f:Flat):T2 f=(fR f.ae.length 1 16&&decide (f.ad.length≠0)&&decide (f.ad.getD 0 cz=⟨[47],0⟩)&&(List.range f.ae.length).all (tB f.ae)&&decide ((f.ae.getD 0 fN).id=0)&&(f.ae.getD 0 fN).aM&&match WX f.ad f.ae f.ad.length 0 ⟨[],[],[]⟩ with
 |none=>false
 |some A=>decide (A.li.length=f.ae.length)):=rfl
theorem sy (p:dx)(i:Nat)(z:ay):0<=(cN p i z:Int)/\(cN p i z:Int)<=i:=by
 unfold cN;have:=Ft (p:=λj=>decide (1<=j)&&decide ((au (p.getD j cz).ag).1=z)) (l:=List.range i);rw[JP] at this;omega
theorem sA (p:dx)(i:Nat)(n:Int):0<=(cL p i n:Int)/\(cL p i n:Int)<=i:=by
 unfold cL;have:=Ft (p:=λj=>decide ((p.getD j cz).id=n)) (l:=List.range i);rw[JP] at this;omega
theorem fY (z:ay):(au z).1.length<=z.length/\(au z).2.length<=z.length:=by
 unfold au;split
 .simp
 .rw[dg,gp];omega
def oH:Code->Option Code
 |.loop b=>some b
 |.seq x y=>match oH y with
  |some z=>some z
  |none=>oH x
 |.block _ b=>oH b
 |.cond _ x y=>match oH y with
  |some z=>some z
  |none=>oH x
 |_=>none
def mB (g:Func):Code:=match g.body with
 |some c=>(oH c).getD .skip
 |none=>.skip
theorem W.mB {E:dy}{X:dM}{Γ:gY}{l:Kn}{L:bn}{Q:Ex->Kn->bn->Prop}{g:Func}{b c:Code}(h0:g.body=some b)(h:oH b=some c)(hw:W E X Γ c l L Q):W E X Γ (mB g) l L Q:=by
 have:Pl.mB g=c:=by unfold Pl.mB;rw[h0];show(oH b).getD .skip=c;rw[h];rfl
 rw[this];exact hw
end Go.Pl
