/- Lemmas of the proof. No conditions. -/
import Derived.Test.YtoiielhpadnflaaGreatDoorAe8
set_option maxRecDepth 100000
set_option maxHeartbeats 4000000
set_option linter.unusedVariables false
set_option linter.unusedSimpArgs false
open Go.Proofs.Tryz
namespace Go.Pl
open Go Go.Ev Go.Lg Go.Proofs
variable {E:iq}{X:fY}{Γ:qN}{l:Kn}{L:dy}{K:KO}{g:FuncId}{xs:List Operand}{ts:Array TypeId}{vs:aY}{f:Fs}{a:aS}{c i:Nat}{k:IntKind}{br p:Nat}{Q:Value->Prop}{z:aC}{a':aS}{r:Value}{t2:TypeId}
section
variable {x y:Operand}
theorem qv (a:aC)(b:Int)(a':aC)(b':Int):fP [sv a,iv b] [sv a',iv b']=some (decide (a=a'/\b=b')):=by
 simp only[lu,uX,lP,bu,jB,dJ,eQ]
 congr 1
 rw[pd];simp
theorem qw (a:Int)(b:Bool)(c:aC)(a':Int)(b':Bool)(c':aC):fP [iv a,.bool b,sv c] [iv a',.bool b',sv c']=some (decide (a=a'/\b=b'/\c=c')):=by
 simp only[lu,uX,lP,bu,jB,dJ,eQ]
 congr 1
 rw[pd];cases b<;>cases b'<;>simp
theorem WO.afN {p q:bE}(hx:Ev l x (.agg ⟨aq.cells p⟩))(hy:Ev l y (.agg ⟨aq.cells q⟩))(k:∀n,K (.bool !(decide (p=q))) L n n Z Z):WO bf X Γ l (.binOp .neq 52 x y t2) L K:=by
 refine WO.aer hx hy rfl (qv _ _ _ _) λn=>?_
 have:=k n;obtain⟨a,b⟩:=p;obtain⟨a',b'⟩:=q;simpa using this
theorem WO.ah6 {p:bE}(hx:Ev l x (.agg ⟨aq.cells p⟩))(hy:Ev l y (.agg ⟨aq.cells (⟨[47],0⟩:bE)⟩))(k:∀n,K (.bool !(decide (p=⟨[47],0⟩))) L n n Z Z):WO bf X Γ l (.binOp .neq 52 x y t2) L K:=WO.afN hx hy k
theorem WO.ajd {p q:bS}(hx:Ev l x (.agg ⟨aq.cells p⟩))(hy:Ev l y (.agg ⟨aq.cells q⟩))(k:∀n,K (.bool !(decide (p=q))) L n n Z Z):WO bf X Γ l (.binOp .neq 54 x y t2) L K:=by
 refine WO.aer hx hy rfl (qw _ _ _ _ _ _) λn=>?_
 have:=k n;obtain⟨a,b,c⟩:=p;obtain⟨a',b',c'⟩:=q;simpa using this
theorem afO (f:Flat):f.ok=true↔f.kA=true/\f.ad≠[]/\f.ad.getD 0 dF=⟨[47],0⟩/\(∀i,1<=i->i<f.ad.length->f.vd i=true)/\f.vR [47]<=12:=by
 unfold Flat.ok;simp only[bI,bR,fT,kF,mh];constructor
 .rintro⟨⟨⟨⟨h1,h2⟩,h3⟩,h4⟩,h5⟩;exact⟨h1,h2,h3,λi hi hl=>(h4 i hl).resolve_left af,h5⟩
 .rintro⟨h1,h2,h3,h4,h5⟩;refine⟨⟨⟨⟨h1,h2⟩,h3⟩,λi hl=>?_⟩,h5⟩;by_cases hi:i=0
  .exact .inl hi
  .exact .inr (h4 i af hl)
def adN (r:aC×aC):aC:=if r.1=[47] then 47::r.2 else r.1++47::r.2
theorem Nn (f:Flat)(i:Nat):f.vd i=(match f.ju (bW (f.ad.getD i dF).ag).1 with
 |none=>false
 |some k=>bO (f.ad.getD (i-1) dF).ag (f.ad.getD i dF).ag&&decide (k<i)&&decide (adN (bW (f.ad.getD i dF).ag)=(f.ad.getD i dF).ag)&&aV (bW (f.ad.getD i dF).ag).2&&(f.eB (f.ad.getD i dF).id).isSome&&f.kz (f.ad.getD k dF).id&&decide (f.vR (f.ad.getD i dF).ag<=12)):=rfl
theorem UB {f:Flat}{i k:Nat}(hk:f.ju (bW (f.ad.getD i aq.ah).ag).1=some k):f.vd i=true↔
  Op.bytesLess (f.ad.getD (i-1) aq.ah).ag (f.ad.getD i aq.ah).ag=true/\k<i/\(if(bW (f.ad.getD i aq.ah).ag).1=[47] then [47]++(bW (f.ad.getD i aq.ah).ag).2 else(bW (f.ad.getD i aq.ah).ag).1++[47]++(bW (f.ad.getD i aq.ah).ag).2)=(f.ad.getD i aq.ah).ag/\aV (bW (f.ad.getD i aq.ah).ag).2=true/\0<=Yx (f.eB (f.ad.getD i aq.ah).id)/\f.kz (f.ad.getD k aq.ah).id=true/\f.vR (f.ad.getD i aq.ah).ag<=12:=by
 rw[Nn,hk,ic,afM];show(_&&_&&_&&_&&_&&_&&_)=true↔_;unfold adN;simp only[bI,bR,and_assoc,iL,yw,pF]
theorem Gi (s:St)(a:aS)(c:Nat)(a':aS)(c':Nat)(f:Flat)(hf:FlS f)(hr:eU s a a' f):bL 14 [vD a c a' c' f] s (qV a a') (.bool f.ok):=by
 have pL:=iw.n hr;have sj:=iw.t hr;have qM:=hf.tl;have pJ:=hf.nl;have rC:=afO f;by_cases h0:f.kA=true/\f.ad≠[]/\f.ad.getD 0 dF=⟨[47],0⟩
 .obtain⟨h1,h2,h3⟩:=h0;have h1':(!f.kA)=false:=by rw[h1];rfl
  have gh:f.ad.length≠0:=λh=>h2 (mj h)
  have Te:(!(decide (f.ad.getD 0 dF=⟨[47],0⟩)))=false:=by rw[h3];decide
  refine aX f14 ?_;repeat' (first|refine' aZ|refine' adj|refine' TP|refine' av|fail)
  all_goals try refine cI
  refine W.bK (λk l L=>∃(i b1:Nat),Le [(1,bk b1),(3,iv (i:Int))] l/\cx [.box b1 (qb a c f.ad a' c' f.ae) 26 false] L/\k=f.ad.length-i/\i<=f.ad.length/\1<=i/\∀j,1<=j->j<i->f.vd j=true)
   (λl L=>∃b1:Nat,Le [(1,bk b1)] l/\cx [.box b1 (qb a c f.ad a' c' f.ae) 26 false] L/\∀j,1<=j->j<f.ad.length->f.vd j=true) _ ⟨1,_,bp,au,rfl,af,af,λj hj=>by omega⟩ ?_ ?_
  .rintro k l L ⟨i,b1,hl,hL,rfl,g1,g0,g2⟩;refine W.le ?_ hl hL;clear hl hL;by_cases hi:i<f.ad.length
   .have hB:=Nn f i;have hx:=hf.nm _ (aL hi aq.ah);have FL:=hx.1;have sS:=hx.1;have hsp:=Zl (f.ad.getD i aq.ah).ag;have JZ:f.vd i=false->f.ok=false:=λh=>by
     cases hb:f.ok with
     |false=>rfl
     |true=>have:=((rC.1 hb).2.2.2.1 i g0 hi);rw[h] at this;cases this
    have sU:∀s,eU s a a' f->bL 38 [vD a c a' c' f,sv (bW (f.ad.getD i aq.ah).ag).1] s (qV a a') (iv (Yx (f.ju (bW (f.ad.getD i aq.ah).ag).1))):=λs hr=>P5 s a c a' c' f hf _ hr
    cases hk:f.ju (bW (f.ad.getD i aq.ah).ag).1 with
    |none=>
     rw[hk] at sU hB;have sU:∀s,eU s a a' f->bL 38 [vD a c a' c' f,sv (bW (f.ad.getD i aq.ah).ag).1] s (qV a a') (iv (-1)):=sU;have hz:f.ok=false:=JZ hB;(repeat' (first|refine' aZ|refine' Yg|refine' abf|refine' RB|refine' adk|refine' adl|refine' Yh|refine' av|fail));(all_goals try refine cI);all_goals first|(rw[hz];refine' ax;rfl;done)
    |some k=>
     have hBi:=UB hk;rw[hk] at sU;have sU:∀s,eU s a a' f->bL 38 [vD a c a' c' f,sv (bW (f.ad.getD i aq.ah).ag).1] s (qV a a') (iv (k:Int)):=sU;have GV:=Zm hk;(repeat' (first|refine' aZ|refine' Yg|refine' abf|refine' RB|refine' adk|refine' adl|refine' Yh|refine' av|fail));(all_goals try refine cI);all_goals(have e1:((i:Int)-1).toNat=i-1:=by omega)
     all_goals first
      |(have hz:f.ok=false:=(by
         apply JZ;refine Bool.eq_false_iff.2 λh=>?_
         obtain⟨q1,q2,q3,q4,q5,q6,q7⟩:=hBi.1 h;first
                                                |(exfalso;omega)
                                                |(exact absurd q6 (by rw[na];assumption))
                                                |(exact absurd q4 (by rw[na];assumption))
                                                |(rw[<-e1] at q1;exact absurd q1 (by rw[na];assumption))
                                                |(rw[if_pos aP] at q3;contradiction)
                                                |(rw[if_neg aP] at q3;contradiction))
        rw[hz];refine' ax;rfl)
      |(refine⟨_,af,i+1,_,bp,au,rfl,af,af,λj hj1 hj=>?_⟩
        rcases QC.1 hj with h|h
        exact g2 j hj1 h;rw[h];first
                                |exact hBi.2 ⟨by rw[<-e1];assumption,af,by rw[if_pos aP];assumption,aP,af,aP,af⟩
                                |exact hBi.2 ⟨by rw[<-e1];assumption,af,by rw[if_neg aP];assumption,aP,af,aP,af⟩)
   .have fb:i=f.ad.length:=by omega
    subst fb;refine' cM;(all_goals try refine cI);all_goals exact⟨_,bp,au,g2⟩
  .rintro l L ⟨b1,hl,hL,h4⟩;refine ak ?_;refine W.le ?_ hl hL;repeat' (first|refine' aZ|refine' Yh|refine' av|fail)
   refine' ax;show Value.bool (decide ((f.vR [47]:Int)<=12))=Value.bool f.ok
   congr 1
   rw[pd,bR,rC];exact⟨λh=>⟨h1,h2,h3,h4,af⟩,λh=>by have:=h.2.2.2.2;omega⟩
 .have hb:f.ok=false:=by
   cases hb:f.ok with
   |false=>rfl
   |true=>have:=rC.1 hb;exact absurd ⟨this.1,this.2.1,this.2.2.1⟩ h0
  rw[hb];refine aX f14 ?_;repeat' (first|refine' aZ|refine' adj|refine' TP|refine' av|fail)
  all_goals try refine cI
  all_goals first|((refine' ax);rfl;done)|(exfalso;exact h0 ⟨aP,λh=>by have h5:¬((f.ad.length:Int)=0):=aP;exact h5 (by rw[h];rfl),aP⟩)
end
variable {c':Nat}{q:gD}{s:St}
structure iW (s:St)(b:Nat)(a:aS)(c:Nat)(p:List bE)(a':aS)(c':Nat)(q:gD):Prop where
 b:bM s (iJ b) 1 2 (qb a c p a' c' q)
 n:bM s a p.length 2 (ai p)
 t:bM s a' q.length 3 (ai q)
structure wL (Γ:qN)(L:dy)(b:Nat)(a:aS)(c:Nat)(p:List bE)(a':aS)(c':Nat)(q:gD):Prop where
 b:kr Γ L (iJ b) 1 2 (qb a c p a' c' q)
 n:kr Γ L a p.length 2 (ai p)
 t:kr Γ L a' q.length 3 (ai q)
abbrev rD (b:Nat)(a a':aS):List Nat:=b::(aj a++aj a')
section
variable {b:Nat}{p:List bE}
theorem wL.row (h:wL Γ L b a c p a' c' q)(hi:Inv Γ s L):iW s b a c p a' c' q/\∀i∈rD b a a',Ca Γ s i:=by
 refine⟨⟨(h.b.row hi).1,(h.n.row hi).1,(h.t.row hi).1⟩,λi hb=>?_⟩;rcases bH.1 hb with rfl|hb
 .exact(h.b.row hi).2 _ (by simp[aj])
 .rcases eW.1 hb with hb|hb
  .exact(h.n.row hi).2 i hb
  .exact(h.t.row hi).2 i hb
theorem WO.tT (hx:jY l xs vs)(h:∀s,iW s b a c p a' c' q->l7 E X g vs s (rD b a a') r)(hh:wL Γ L b a c p a' c' q)(k:∀m m',iY L m->m<=m'->K r L m m' (mV (rD b a a') [] m m') (mW [] m m')):WC E X Γ l g xs ts L K:=
 WO.nu hx (λs hi=>⟨(hh.row hi).2,h s (hh.row hi).1⟩) k
theorem Im.x (h:iW s b a c p a' c' q):Rd ⟨s,([]:dy).flatMap It.cr,rD b a a'⟩ (iJ b) 1 2 (qb a c p a' c' q):=Rd.of h.b λi hb=>by rw[show i=b by simpa[aj] using hb];exact ga
theorem Im.n (h:iW s b a c p a' c' q):Rd ⟨s,([]:dy).flatMap It.cr,rD b a a'⟩ a p.length 2 (ai p):=Rd.of h.n λ_ hb=>iV _ (cA _ hb)
theorem Im.t (h:iW s b a c p a' c' q):Rd ⟨s,([]:dy).flatMap It.cr,rD b a a'⟩ a' q.length 3 (ai q):=Rd.of h.t λ_ hb=>iV _ (dt _ hb)
end
def thV (a:aS):Option Nat->Value
 |none=>.pointer none
 |some i=>dh a i 3 0
theorem fV (s:St)(b:Nat)(a:aS)(c:Nat)(p:List bE)(a':aS)(c':Nat)(q:gD)(hs:ik q)(hq:q.length<=1000)(k:Int)(hr:iW s b a c p a' c' q):bL 22 [bk b,iv k] s (rD b a a') (thV a' (pc q k)):=by
 have Og:=Im.x hr;have sj:=Im.t hr;rw[aei hs k aq.ah];by_cases hk:B6 q k<q.length/\(q.getD (B6 q k) aq.ah).id=k
 .rw[if_pos hk];have hd:(!(decide (B6 q k<q.length/\(q.getD (B6 q k) aq.ah).id=k)))=false:=by rw[du hk];rfl
  have AI:=hk.1;refine aX f22 ?_;repeat' (first|refine' aZ|refine' ahZ|refine' av|fail)
  all_goals refine' zaC
  all_goals rfl
 .rw[if_neg hk];have hd:(!(decide (B6 q k<q.length/\(q.getD (B6 q k) aq.ah).id=k)))=true:=by rw[ec hk];rfl
  refine aX f22 ?_;repeat' (first|refine' aZ|refine' ahZ|refine' av|fail)
  all_goals refine' zaC
  all_goals rfl
def ldI (p:List bE)(z:aC):Int:=match vT p z with
 |none=>-1
 |some i=>(p.getD i aq.ah).id
theorem RX (s:St)(b:Nat)(a:aS)(c:Nat)(p:List bE)(a':aS)(c':Nat)(q:gD)(hs:l5 p)(hq:p.length<=1000)(z:aC)(hr:iW s b a c p a' c' q):bL 82 [bk b,sv z] s (rD b a a') (iv (ldI p z)):=by
 have Og:=Im.x hr;have sj:=Im.n hr;unfold ldI;rw[aej hs z aq.ah];by_cases hk:B7 p z<p.length/\(p.getD (B7 p z) aq.ah).ag=z
 .rw[if_pos hk];have hd:(!(decide (B7 p z<p.length/\(p.getD (B7 p z) aq.ah).ag=z)))=false:=by rw[du hk];rfl
  have AI:=hk.1;refine aX f82 ?_;repeat' (first|refine' aZ|refine' ah0|refine' av|fail)
  all_goals refine' zaC
  all_goals rfl
 .rw[if_neg hk];have hd:(!(decide (B7 p z<p.length/\(p.getD (B7 p z) aq.ah).ag=z)))=true:=by rw[ec hk];rfl
  refine aX f82 ?_;repeat' (first|refine' aZ|refine' ah0|refine' av|fail)
  all_goals refine' zaC
  all_goals rfl
theorem lR {q:gD}{k:Int}{t:Nat}(h:pc q k=some t):t<q.length:=(qe.1 h).1
theorem UC (s:St)(b:Nat)(a:aS)(c:Nat)(p:List bE)(a':aS)(c':Nat)(q:gD)(hs:ik q)(hq:q.length<=1000)(k:Int)(t:Nat)(ht:pc q k=some t)(hr:iW s b a c p a' c' q):bL 306 [bk b,iv k] s (rD b a a') (.bool (q.getD t aq.ah).aN):=by
 have Og:=Im.x hr;have pL:=Im.n hr;have sj:=Im.t hr;have sU:∀s,iW s b a c p a' c' q->bL 22 [bk b,iv k] s (rD b a a') (dh a' t 3 0):=λs hr=>by
  have:=fV s b a c p a' c' q hs hq k hr;rw[ht] at this;exact this
 have qM:=lR ht;refine aX f306 ?_;repeat' (first|refine' aZ|refine' TL|refine' abh|refine' av|fail)
 all_goals refine' ax
 all_goals rfl
theorem No (s:St)(b:Nat)(a:aS)(c:Nat)(p:List bE)(a':aS)(c':Nat)(q:gD)(hp:p.length<=1000)(k:Int)(hr:iW s b a c p a' c' q):bL 87 [bk b,iv k] s (rD b a a') (iv ((p.countP λx=>decide (x.id=k):Nat):Int)):=by
 have Og:=Im.x hr;have pL:=Im.n hr;refine aX f87 ?_;refine' cM
 refine W.bK (λm l L=>∃(i n:Nat),Le [(1,iv k),(5,iv (n:Int)),(11,.slice a p.length c),(12,iv (p.length:Int)),(13,iv (i:Int))] l/\cx [] L/\m=p.length-i/\i<=p.length/\n<=i/\(p.countP λx=>decide (x.id=k))=n+(p.drop i).countP λx=>decide (x.id=k))
  (λl L=>Le [(5,iv ((p.countP λx=>decide (x.id=k):Nat):Int))] l/\cx [] L) _ ⟨0,0,bp,au,rfl,af,af,ay⟩ ?_ ?_
 .rintro m l L ⟨i,n,hl,hL,rfl,h1,h2,h3⟩;refine W.le ?_ hl hL;clear hl hL;by_cases hi:i<p.length
  .rw[drop_cons hi,iA] at h3;refine' cM
   all_goals try refine cI
   .refine⟨_,af,i+1,n+1,bp,au,rfl,af,af,?_⟩;rw[h3,if_pos (by rw[bR];assumption)];omega
   .refine⟨_,af,i+1,n,bp,au,rfl,af,af,?_⟩;rw[h3,if_neg (by rw[bR];assumption)];omega
  .have fb:i=p.length:=by omega
   subst fb;rw[kG,KP,xj] at h3;rw[h3];refine' cM;(all_goals try refine cI);all_goals exact⟨bp,au⟩
 .rintro l L ⟨hl,hL⟩;refine ak ?_;refine W.le ?_ hl hL;clear hl hL;refine' cM
  all_goals refine' ax
  all_goals rfl
def inB (p:List bE)(k:Int)(x:bE):Bool:=decide ((aw x.ag).2≠[])&&decide (ldI p (aw x.ag).1=k)
def enI (p:List bE)(k:Int):Nat:=p.countP (inB p k)
theorem P6 (s:St)(b:Nat)(a:aS)(c:Nat)(p:List bE)(a':aS)(c':Nat)(q:gD)(hs:l5 p)(hp:p.length<=1000)(sS:∀x∈p,x.ag.length<=5000)(k:Int)(hr:iW s b a c p a' c' q):bL 305 [bk b,iv k] s (rD b a a') (iv (enI p k:Int)):=by
 have Og:=Im.x hr;have pL:=Im.n hr;have sj:=Im.t hr;have hld:∀s z,iW s b a c p a' c' q->bL 82 [bk b,sv z] s (rD b a a') (iv (ldI p z)):=λs z hr=>RX s b a c p a' c' q hs hp z hr
 refine aX f305 ?_;refine' cM
 refine W.bK (λm l L=>∃(i n:Nat),Le [(0,bk b),(1,iv k),(5,iv (n:Int)),(13,.slice a p.length c),(14,iv (p.length:Int)),(15,iv (i:Int))] l/\cx [] L/\m=p.length-i/\i<=p.length/\n<=i/\enI p k=n+(p.drop i).countP (inB p k))
  (λl L=>Le [(5,iv (enI p k:Int))] l/\cx [] L) _ ⟨0,0,bp,au,rfl,af,af,by simp[enI]⟩ ?_ ?_
 .rintro m l L ⟨i,n,hl,hL,rfl,h1,h2,h3⟩;refine W.le ?_ hl hL;clear hl hL;by_cases hi:i<p.length
  .have an3:=sS _ (aL hi aq.ah);rw[drop_cons hi,iA] at h3;unfold inB at h3;repeat' (first|refine' aZ|refine' ah3|refine' rO|refine' av|fail)
   all_goals try refine cI
   all_goals first
    |(refine⟨_,af,i+1,n+1,bp,au,rfl,af,af,?_⟩;rw[h3,if_pos (by rw[bI,bR,bR];exact⟨aP,aP⟩)];unfold inB;omega)
    |(refine⟨_,af,i+1,n,bp,au,rfl,af,af,?_⟩;rw[h3,if_neg (by rw[bI,bR,bR];exact λh=>by simp_all)];unfold inB;omega)
  .have fb:i=p.length:=by omega
   subst fb;rw[kG,KP,xj] at h3;rw[h3];refine' cM;(all_goals try refine cI);all_goals exact⟨bp,au⟩
 .rintro l L ⟨hl,hL⟩;refine ak ?_;refine W.le ?_ hl hL;clear hl hL;refine' cM
  all_goals refine' ax
  all_goals rfl
def J0 (q:gD):Nat->Nat->Int
 |0,_=>-1
 |n+1,k=>if(pc q (k:Int)).isNone then(k:Int) else J0 q n (k+1)
theorem UD (q:gD)(n k:Nat):J0 q (n+1) k=if(pc q (k:Int)).isNone then(k:Int) else J0 q n (k+1):=rfl
theorem abT (s:St)(b:Nat)(a:aS)(c:Nat)(p:List bE)(a':aS)(c':Nat)(q:gD)(hs:ik q)(hq:q.length<=1000)(hr:iW s b a c p a' c' q):bL 83 [bk b] s (rD b a a') (iv (J0 q 16 0)):=by
 have Og:=Im.x hr;have pL:=Im.n hr;have sj:=Im.t hr;refine aX f83 ?_;refine' cM
 refine W.bK (λm l L=>∃(i:Nat),Le [(0,bk b),(4,iv (i:Int))] l/\cx [] L/\m=16-i/\i<=16/\J0 q 16 0=J0 q (16-i) i)
  (λl L=>Le [] l/\cx [] L/\J0 q 16 0= -1) _ ⟨0,bp,au,rfl,af,rfl⟩ ?_ ?_
 .rintro m l L ⟨i,hl,hL,rfl,h1,h3⟩;refine W.le ?_ hl hL;clear hl hL;by_cases hi:i<16
  .rw[show 16-i=(16-(i+1))+1 by omega,UD q (16-(i+1)) i] at h3;cases ht:pc q (i:Int) with
   |none=>
    have sU:∀s,iW s b a c p a' c' q->bL 22 [bk b,iv (i:Int)] s (rD b a a') (.pointer none):=λs hr=>by
     have:=fV s b a c p a' c' q hs hq (i:Int) hr;rw[ht] at this;exact this
    rw[ht,if_pos (show(none:Option Nat).isNone=true from rfl)] at h3;(repeat' (first|refine' aZ|refine' TL|refine' abi|refine' av|fail));(all_goals try refine cI);(all_goals refine' ax);all_goals(rw[h3];rfl)
   |some t=>
    have sU:∀s,iW s b a c p a' c' q->bL 22 [bk b,iv (i:Int)] s (rD b a a') (dh a' t 3 0):=λs hr=>by
     have:=fV s b a c p a' c' q hs hq (i:Int) hr;rw[ht] at this;exact this
    have qM:=lR ht;rw[ht,if_neg (show ¬(some t).isNone=true from iB)] at h3;(repeat' (first|refine' aZ|refine' TL|refine' ah4|refine' av|fail));(all_goals try refine cI);all_goals exact⟨_,af,i+1,bp,au,rfl,af,h3⟩
  .have fb:i=16:=by omega
   subst fb;refine' cM;(all_goals try refine cI);all_goals exact⟨bp,au,h3⟩
 .rintro l L ⟨hl,hL,h3⟩;refine ak ?_;refine W.le ?_ hl hL;clear hl hL;rw[h3];refine' cM
  all_goals refine' ax
  all_goals rfl
def zN (c:UInt8):Bool:=decide (c.toNat<97)||decide (122<c.toNat)
theorem P7 (s:St)(c:UInt8):bL 57 [.int .i32 (c.toNat:Int)] s [] (.bool (zN c)):=by
 refine aX f57 ?_;refine' cM;all_goals refine' ax
 .show Value.bool (decide ((122:Int)<c.toNat))=_;refine eC Value.bool ?_;unfold zN;rw[ec (by omega:¬c.toNat<97),Bool.false_or,CW];omega
 .show Value.bool true=_;refine eC Value.bool ?_;unfold zN;rw[du (by omega:c.toNat<97)];rfl
theorem J1 (s:St)(z:aC)(hz:z.length<=100000)(ha:∀c∈z,c.toNat<128):bL 94 [sv z,.func (.func 57) ⟨[]⟩ ⟨[]⟩,.bool true] s [] (iv (oI (z.findIdx? zN))):=by
 refine aX f94 ?_;(repeat' (first|refine' aZ|((with_reducible apply WO.aeB);exact fS;intro br _)|refine' av|fail))
 refine W.bK (λm l L=>∃(p b:Nat),Le [(0,sv z),(1,.func (.func 57) ⟨[]⟩ ⟨[]⟩),(2,.bool true),(10,bk b)] l/\cx [.kK b (.lL z p)] L/\m=z.length-p/\p<=z.length/\∀j:Nat,j<p->zN (z.getD j 0)≠true)
  (λl L=>Le [] l/\cx [] L/\z.findIdx? zN=none) _ ⟨0,_,bp,au,rfl,af,λj h1=>by omega⟩ ?_ ?_
 .rintro m l L ⟨p,b,hl,hL,rfl,h2,h3⟩;refine W.le ?_ hl hL;clear hl hL;by_cases hp:p<z.length
  .have ang:(z.getD p 0).toNat<128:=ha _ (aL hp _);(repeat' (first|refine' aZ|((with_reducible apply WO.aeC);exact fS;exact xW;assumption;assumption;intro _)|refine' uD|((with_reducible apply WO.aW);exact aD;exact λs=>P7 s _;intros)|refine' av|fail))
   all_goals try refine cI
   .have e:z.findIdx? zN=some p:=lE hp j5 h3;refine' ax
    rw[e];rfl
   .refine⟨_,af,p+1,b,bp,au,rfl,af,λj hj=>?_⟩;by_cases hjp:j=p
    .subst hjp;intro he;rw[he] at hc;cases hc
    .exact h3 j af
  .have pT:z.length<=p:=by omega
   (have e:z.findIdx? zN=none:=vS 0 λj hj=>h3 j af);(repeat' (first|refine' aZ|((with_reducible apply WO.aeD);exact fS;exact oX;assumption;intro _)|refine' av|fail));(all_goals try refine cI);all_goals exact⟨bp,au,e⟩
 .rintro l L ⟨hl,hL,h3⟩;refine ak ?_;refine W.le ?_ hl hL;clear hl hL;rw[h3];refine' cM
  all_goals refine' ax
  all_goals rfl
theorem J2 (s:St)(z:aC)(hz:z.length<=100000)(ha:∀c∈z,c.toNat<128):bL 56 [sv z,.func (.func 57) ⟨[]⟩ ⟨[]⟩] s [] (iv (oI (z.findIdx? zN))):=by
 refine aX f56 ?_;(repeat' (first|refine' aZ|((with_reducible apply WO.aW);exact aD;exact λs=>J1 s _ af aP;intros)|refine' av|fail));all_goals refine' ax
 all_goals rfl
theorem EB (s:St)(z:aC)(hz:z.length<=100000)(ha:∀c∈z,c.toNat<128):bL 24 [sv z] s [] (.bool (aV z)):=by
 have hb:(oI (z.findIdx? zN)<0)↔z.all (λc=>decide (97<=c.toNat)&&decide (c.toNat<=122))=true:=by
  rw[fT];cases h:z.findIdx? zN with
  |none=>
   rw[CT] at h;refine⟨λ_ c hc=>?_,λ_=>by decide⟩;have:=h c hc;unfold zN at this;simp at this⊢;omega
  |some i=>
   obtain⟨h1,h2,_⟩:=qe.1 h;refine⟨λhi=>absurd hi (by show ¬(i:Int)<0;omega),λbU=>?_⟩;have:=bU _ (rX h1);unfold zN at h2;simp at this h2;omega
 refine aX f24 ?_;(repeat' (first|refine' aZ|refine' TN|((with_reducible apply WO.aW);exact aD;exact λs=>J2 s _ af aP;intros)|refine' av|fail));all_goals try refine cI
 all_goals refine' ax
 .show Value.bool (decide (oI (z.findIdx? zN)<0))=_;refine eC Value.bool ?_;unfold aV;rw[du (by omega:1<=z.length),du (by omega:z.length<=4),KJ,KJ,pd,bR];exact hb
 .show Value.bool false=_;refine eC Value.bool ?_;unfold aV;rw[Bool.and_assoc,show(decide (1<=z.length)&&decide (z.length<=4))=false by simp at uw⊢;omega,Bool.and_false]
end Go.Pl
namespace Go.Pl
open Go.Lg
open Go Go.Ev Go.Lg Go.Proofs
structure RY (f:Flat):Prop where
 nl:f.ad.length<=900
 tl:f.ae.length<=900
 nm:∀x∈f.ad,E3 x.ag/\0<=x.id/\x.id<=16
 th:∀x∈f.ae,0<=x.id/\x.id<=16/\x.a8.length<=192
theorem gH.e {f:Flat}(h:gH f):RY f:=⟨by have:=h.nl;omega,by have:=h.tl;omega,h.nm,h.th⟩
theorem afP (f:Flat):Ul f=(fM f.ae.length 1 16&&decide (f.ad.length≠0)&&decide (f.ad.getD 0 cR=⟨[47],0⟩)&&(List.range f.ae.length).all (tB f.ae)&&decide ((f.ae.getD 0 fO).id=0)&&(f.ae.getD 0 fO).aN&&match YK f.ad f.ae f.ad.length 0 ⟨[],[],[]⟩ with
 |none=>false
 |some A=>decide (A.li.length=f.ae.length)):=rfl
theorem sN (p:List bE)(i:Nat)(z:aC):0<=(cN p i z:Int)/\(cN p i z:Int)<=i:=by unfold cN;have:=Gq (p:=λj=>decide (1<=j)&&decide ((aw (p.getD j cR).ag).1=z)) (l:=List.range i);rw[QD] at this;omega
theorem sO (p:List bE)(i:Nat)(n:Int):0<=(cL p i n:Int)/\(cL p i n:Int)<=i:=by unfold cL;have:=Gq (p:=λj=>decide ((p.getD j cR).id=n)) (l:=List.range i);rw[QD] at this;omega
theorem fX (z:aC):(aw z).1.length<=z.length/\(aw z).2.length<=z.length:=by
 unfold aw;split
 .simp
 .rw[cO,eP];omega
def o8:Code->Option Code
 |.loop b=>some b
 |.seq x y=>match o8 y with
  |some z=>some z
  |none=>o8 x
 |.block _ b=>o8 b
 |.cond _ x y=>match o8 y with
  |some z=>some z
  |none=>o8 x
 |_=>none
def uG (g:Func):Code:=match g.body with
 |some c=>(o8 c).getD .skip
 |none=>.skip
theorem W.uG {E:iq}{X:fY}{Γ:qN}{l:Kn}{L:dy}{Q:Ex->Kn->dy->Prop}{g:Func}{b c:Code}(h0:g.body=some b)(h:o8 b=some c)(hw:W E X Γ c l L Q):W E X Γ (uG g) l L Q:=by
 have:Pl.uG g=c:=by unfold Pl.uG;rw[h0];show(o8 b).getD .skip=c;rw[h];rfl
 rw[this];exact hw
structure UE (s:St)(a a':aS)(f:Flat)(i:Nat)(A:Acc):Prop where
 hf:RY f
 hr:eU s a a' f
 hs:ik f.ae
 hi:i<f.ad.length
 g2:zH f.ad f.ae i A
abbrev Aa (f:Flat)(i:Nat)(A:Acc):Int:=((dr (er A.li (f.ad.getD i aq.ah).id ((dr A.li (f.ad.getD i aq.ah).id).getD 0+1)) (f.ad.getD i aq.ah).id).getD 0)
abbrev Zn (f:Flat)(i:Nat)(A:Acc):Int:=((dr (er A.nJ (aw (f.ad.getD i aq.ah).ag).1 ((dr A.nJ (aw (f.ad.getD i aq.ah).ag).1).getD 0+1)) (aw (f.ad.getD i aq.ah).ag).1).getD 0)
abbrev J3 (a:aS)(c:Nat)(f:Flat)(b1 b5 b6 b7 i:Nat):Kn:=[(1,bk b1),(5,.map (some b5)),(6,.map (some b6)),(7,.map (some b7)),(94,.slice a f.ad.length c),(95,iv (f.ad.length:Int)),(96,iv (i:Int))]
abbrev J4 (a:aS)(c:Nat)(a':aS)(c':Nat)(f:Flat)(b1 b5 b6 b7:Nat)(A:Acc):dy:=[.box b1 (qb a c f.ad a' c' f.ae) 26 false,.kK b5 (mII A.li),.kK b6 (mSI A.nJ),.kK b7 (mSB A.fo)]
abbrev P8 (s:St)(a:aS)(c:Nat)(a':aS)(c':Nat)(f:Flat)(b1 b5 b6 b7 i:Nat)(A:Acc)(Q:Ex->Kn->dy->Prop):Prop:=W bf bw ⟨s,([]:dy).flatMap It.cr,qV a a'⟩ (uG f9) (J3 a c f b1 b5 b6 b7 i) (J4 a c a' c' f b1 b5 b6 b7 A) Q
abbrev J5 (s:St)(a:aS)(c:Nat)(a':aS)(c':Nat)(f:Flat)(b1 b5 b6 b7 i:Nat)(A:Acc):Prop:=∀Q:Ex->Kn->dy->Prop,(∀l L,lk l 2=some (.bool false)->Q .ret l L)->P8 s a c a' c' f b1 b5 b6 b7 i A Q
abbrev RZ (s:St)(a:aS)(c:Nat)(a':aS)(c':Nat)(f:Flat)(b1 b5 b6 b7 i:Nat)(A B:Acc):Prop:=∀Q:Ex->Kn->dy->Prop,(∀l L,Le (J3 a c f b1 b5 b6 b7 (i+1)) l->cx (J4 a c a' c' f b1 b5 b6 b7 B) L->Q .normal l L)->P8 s a c a' c' f b1 b5 b6 b7 i A Q
end Go.Pl
namespace Go.Pl
open Go Go.Ev Go.Lg Go.Proofs
variable {t:Nat}
theorem ifA {s a c a' c' f i A}(h:UE s a a' f i A)(b1 b5 b6 b7)(ht:pc f.ae (f.ad.getD i aq.ah).id=none):J5 s a c a' c' f b1 b5 b6 b7 i A:=by
 refine' zac;have Ck:=sN f.ad i (aw (f.ad.getD i aq.ah).ag).1;have Cl:=sO f.ad i (f.ad.getD i aq.ah).id;rw[<-g2.nJ] at Ck;rw[<-g2.li] at Cl;have R0:((i:Int)-1).toNat=i-1:=by omega
 have sU:∀s b,iW s b a c f.ad a' c' f.ae->bL 22 [bk b,iv (f.ad.getD i aq.ah).id] s (rD b a a') (.pointer none):=λs b hr=>by
  have:=fV s b a c f.ad a' c' f.ae hs af (f.ad.getD i aq.ah).id hr;rw[ht] at this;exact this
 clear hr hf hs g2;refine' sH;all_goals try refine Oc
 all_goals exact hQ _ _ rfl
theorem al6 {s a c a' c' f i A}(h:UE s a a' f i A)(b1 b5 b6 b7)(ht:pc f.ae (f.ad.getD i aq.ah).id=some t)(h0:¬0<i)(c4:9<Aa f i A):J5 s a c a' c' f b1 b5 b6 b7 i A:=by
 obtain⟨hf,hr,hs,hi,g2⟩:=h;intro Q hQ;unfold P8 J3 J4;unfold Aa at c4;refine W.uG rfl rfl ?_;have pL:=iw.n hr;have sj:=iw.t hr;have qM:=hf.tl;have pJ:=hf.nl;have hx:=(hf.nm _ (aL hi aq.ah)).1;have FL:=hx.1;have lS:=fX (f.ad.getD i aq.ah).ag;have Pe:∀ch∈(aw (f.ad.getD i aq.ah).ag).2,ch.toNat<128:=λch dP=>hx.2.1 ch (fW _ ch dP)
 refine' zaa;refine' zao;all_goals exact hQ _ _ rfl
theorem al7 {s a c a' c' f i A}(h:UE s a a' f i A)(b1 b5 b6 b7)(ht:pc f.ae (f.ad.getD i aq.ah).id=some t)(h0:¬0<i)(c4:¬9<Aa f i A)(c5:(f.ae.getD t aq.ah).aN=true)(c6:1<Aa f i A):J5 s a c a' c' f b1 b5 b6 b7 i A:=by
 obtain⟨hf,hr,hs,hi,g2⟩:=h;intro Q hQ;unfold P8 J3 J4;unfold Aa at c4;unfold Aa at c6;refine W.uG rfl rfl ?_;have pL:=iw.n hr;have sj:=iw.t hr;have qM:=hf.tl;have pJ:=hf.nl;have hx:=(hf.nm _ (aL hi aq.ah)).1;have FL:=hx.1;have lS:=fX (f.ad.getD i aq.ah).ag;have Pe:∀ch∈(aw (f.ad.getD i aq.ah).ag).2,ch.toNat<128:=λch dP=>hx.2.1 ch (fW _ ch dP)
 refine' zaa;refine' zao;all_goals exact hQ _ _ rfl
end Go.Pl
