/- Lemmas of the proof. No conditions. -/
import Derived.Test.YtjaeddbblleomaaGreatDoorAc
set_option maxRecDepth 100000
set_option maxHeartbeats 4000000
set_option linter.unusedVariables false
set_option linter.unusedSimpArgs false
open Go.Proofs.Tryz
namespace Go
theorem zab{P:Prop}(h:P:=by
 cases hp:rU i st.fE level z with
 |none=>
  have YN:∀s,bO 221 [iv i,iv st.fE,iv level,sv z] s [] (tS none):=λs=>by have:=oA s i st.fE level z af;rwa [hp] at this
  rw[hp] at hw;have nG:wr st z level=(st,bq,false):=by unfold wr;rw[hw]
  rw[nG];(refine' GH)
  (refine' dV)
  .rfl
  .exact λ_=>rfl
 |some p=>
  have YN:∀s,bO 221 [iv i,iv st.fE,iv level,sv z] s [] (tS (some p)):=λs=>by have:=oA s i st.fE level z af;rwa [hp] at this
  rw[hp] at hw;have nG:wr st z level=({st with ep:=st.ep.set i z,aV:=st.aV.set i (st.aV.getD i 0+1),dq:=st.dq.set i st.fE},p,true):=by unfold wr;rw[hw]
  rw[nG];(refine' GH)
  (refine' dV)
  .rfl
  .exact λ_=>rfl
 all_goals(rcases(_:_) with h;exact h)):P:=h
theorem zag{P:Prop}(h:P:=by
 have fZ:bz l=true:=by
  unfold bJ at h;split at h
  .cases h
  .split at h
   .cases h
   .split at h
    .cases h
    .unfold iw at h;split at h
     .cases h
     .split at h
      .cases h
      .rename_i hc;cases h
       cases hq:bz l with
       |true=>rfl
       |false=>rw[hq] at hc;simp at hc
 all_goals(rcases(_:_) with h;exact h)):P:=h
theorem zai{P:Prop}(h:P:=by
 all_goals exact⟨bB,_,_,bj,aq,rfl,_,_,_,_,_,_,_,_,yv,yw,yx,yy,rfl⟩
 all_goals(rcases(_:_) with h;exact h)):P:=h
theorem zaj{P:Prop}(h:P:=by
 have hi:=Pg.kP hf;have hfc:∀s (a:aH) c,cJ s v st->bO 220 [.agg ⟨[.slice v.f 64 v.fc,.slice v.l 64 v.lc]⟩,iv 8,.slice a 0 c] s (im v) (iv i):=λs a c hr=>by
  have:=pD s v st BG a c hr;rw[hf] at this;exact this
 all_goals(rcases(_:_) with h;exact h)):P:=h
theorem zak{P:Prop}(h:P:=by
 have hfc:∀s (a:aH) c,cJ s v st->bO 220 [.agg ⟨[.slice v.f 64 v.fc,.slice v.l 64 v.lc]⟩,iv 8,.slice a 0 c] s (im v) (iv (-1)):=λs a c hr=>by
  have:=pD s v st BG a c hr;rw[hf] at this;exact this
 all_goals(rcases(_:_) with h;exact h)):P:=h
theorem zaw{P:Prop}(h:P:=by
 have nG:wr st z level=(st,bq,false):=by unfold wr;rw[hw]
 rw[nG];(repeat' (first|refine' aX|refine' GB|refine' P6|refine' ar|fail))
 (refine' dV)
 all_goals(rcases(_:_) with h;exact h)):P:=h
theorem zaE{P:Prop}(h:P:=by
 all_goals try refine ry
 all_goals(refine' av)
 all_goals first|(rw[if_pos (.inl (by assumption))];rfl)|(rw[if_pos (.inr af)];rfl)|(rw[if_neg (by rintro(h|h)<;>first|contradiction|omega|(simp_all;done))];rfl)
 all_goals(rcases(_:_) with h;exact h)):P:=h
theorem zaI{P:Prop}(h:P:=by
 rw[e];refine aO f34 ?_;(refine' Ww)
 all_goals try refine ry
 all_goals(refine' av)
 all_goals rfl
 all_goals(rcases(_:_) with h;exact h)):P:=h
theorem zaX{P:Prop}(h:P:=by
 refine aO f80 ?_;(repeat' (first|refine' aX|refine' Sf|refine' ar|fail))
 all_goals try refine cI
 all_goals(refine' av)
 all_goals rfl
 all_goals(rcases(_:_) with h;exact h)):P:=h
theorem za1{P:Prop}(h:P:=by
 refine aO f224 ?_;dsimp only[eM] at hd⊢;(refine' Wy)
 (refine' dV)
 all_goals(rcases(_:_) with h;exact h)):P:=h
theorem za8{P:Prop}(h:P:=by
 have oK:=Rd.of (A:=ai a++ai (jF b3)) hr λ_ hb=>di _ hb
 have M3:=Rd.of (A:=ai a++ai (jF b3)) hb λ_ hb=>dH _ hb
 all_goals(rcases(_:_) with h;exact h)):P:=h
theorem zbf{P:Prop}(h:P:=by
 rw[e];refine aO f34 ?_;(refine' Wx)
 all_goals try refine ry
 all_goals(refine' av)
 all_goals rfl
 all_goals(rcases(_:_) with h;exact h)):P:=h
end Go
namespace Go.Pl
open Go Go.Ev Go.Lg Go.Proofs
variable {t:bX}
theorem G8 {st:ak}(ht:dZ t){l:cV}(h:gN st t=some l):l.length<=16/\∀p∈l,bw p=true:=by
 unfold gN at h;rw[Pg.qV] at h;cases hl:Pg.pn st t.depth.toNat [t.cC] with
 |none=>rw[hl] at h;cases h
 |some r=>
  rw[hl] at h;obtain⟨a,q⟩:=r;have h:a=l:=by simpa using h
  subst h;obtain⟨h1,h2⟩:=Pg.Dy hl;refine⟨?_,h2 (by simpa using ht.rt)⟩;have hd:=ht.dp;have:t.depth.toNat=0\/t.depth.toNat=1\/t.depth.toNat=2:=by omega
  rw[h1];rcases this with h|h|h<;>rw[h]<;>simp
theorem qW {st:ak}(ht:dZ t):((gN st t).getD []).length<=16/\(wide st t).length=16/\∀p∈wide st t,bw p=true:=by
 unfold wide;cases h:gN st t with
 |none=>exact⟨by simp,by simp[cY],λp hp=>by
  have hp:p∈cY 16:=by simpa using hp
  rw[Pg.mh hp];decide⟩
 |some l=>
  obtain⟨h1,h2⟩:=G8 ht h;refine⟨h1,by simp[cY];omega,λp hp=>?_⟩;rcases fJ.1 hp with hp|hp
  .exact h2 p hp
  .rw[Pg.mh hp];decide
theorem Gy (s:St)(v:SA)(st:ak)(h:du 100000 st)(t:bX)(ht:dZ t)(hr:cJ s v st):fa aU aW 155 [fF v st,tv t] s (im v) 60 (wide st t):=by
 have tk:=Rd.DE hr;have tO:=Rd.off hr;have tT:=Rd.BO hr;have hw:=(qW (st:=st) ht).1;have hh:(cY (16-(((gN st t).getD []).length:Int)).toNat).length<=16:=by rw[Pg.jd];omega
 refine aO f155 ?_;(repeat' (first|refine' aX|refine' zc44|refine' zc40|refine' ar|fail))
 (refine' lB)
 unfold wide;simp only[oa]
 congr 2
 omega
theorem LC {st:ak}(h:du 100000 st)(p:iL):(bh st p).length<=3000:=G6 h p
theorem LD (s:St)(v:SA)(st:ak)(h:du 100000 st)(t:bX)(ht:dZ t)(k:Nat)(hk:k<16)(hr:cJ s v st):bO 226 [fF v st,tv t,iv k] s (im v) (sv (RI st t k)):=by
 have tk:=Rd.DE hr;have tO:=Rd.off hr;have tT:=Rd.BO hr;obtain⟨_,hw,LF⟩:=qW (st:=st) ht;have Jt:bw ((wide st t).getD k c9.lW)=true:=LF _ (aF af _);refine aO f226 ?_;(repeat' (first|refine' aX|refine' CV|refine' zS|refine' ar|fail))
 (refine' av);rfl
theorem CX (s:St)(v:SA)(st:ak)(h:du 100000 st)(t:bX)(ht:dZ t)(hr:cJ s v st):fa aU aW 103 [fF v st,tv t] s (im v) 9 (hU st t):=by
 have tk:=Rd.DE hr;have tO:=Rd.off hr;have tT:=Rd.BO hr;obtain⟨_,hw,LF⟩:=qW (st:=st) ht;have xz:=ht.mn;refine aO f103 ?_;(repeat' (first|refine' aX|refine' CV|refine' ar|fail))
 rw[show hU st t=((wide st t).take t.many.toNat).map (bh st) from rfl];generalize wide st t=w at *
 refine W.bH (λk l L=>∃(i bs bt:Nat)(r:List ay)(a2:aH)(c2:Nat),Le [(2,aP bs),(3,aP bt),(6,.slice KL w.length KM),(5,.slice a2 r.length c2),(7,iv i)] l/\cr [.aJ (.slice a2 r.length c2) 9 1 (ah r),.aJ (.slice KL w.length KM) 60 5 (ah w),.box bs (rz v st) 58 false,.box bt (gU t) 62 false] L/\k=t.many.toNat-i/\i<=t.many.toNat/\r=(w.take i).map (bh st))
  (λl L=>∃(a2:aH)(c2:Nat),Le [(5,.slice a2 ((w.take t.many.toNat).map (bh st)).length c2)] l/\cr [.aJ (.slice a2 ((w.take t.many.toNat).map (bh st)).length c2) 9 1 (ah ((w.take t.many.toNat).map (bh st)))] L) t.many.toNat ⟨0,_,_,[],_,_,bd,aq,af,af,rfl⟩ ?_ ?_
 .rintro k l L ⟨i,bs,bt,r,a2,c2,hl,hL,rfl,h1,h2⟩;refine W.le ?_ hl hL;clear hl hL;have UB:r.length<=16:=by rw[h2];simp;omega
  by_cases hi:i<t.many.toNat
  .have Jt:bw (w.getD i c9.lW)=true:=LF _ (aF af _);(repeat' (first|refine' aX|refine' zS|refine' ar|fail))
   .refine⟨_,?_,i+1,_,_,r++[bh st (w.getD i c9.lW)],_,_,bd,aq,rfl,af,?_⟩
    .omega
    .rw[h2,fC w c9.lW af];simp
   all_goals(exfalso;omega)
  .have fG:i=t.many.toNat:=by omega
   subst fG;subst h2;(repeat' (first|refine' aX|refine' zS|refine' ar|fail))
   all_goals first|(exfalso;omega;done)|exact⟨_,_,bd,aq⟩
 .rintro l L ⟨a2,c2,hl,hL⟩;refine aj ?_;refine W.le ?_ hl hL;clear hl hL;(refine' cO)
  (refine' lB)
  rfl
theorem Si (s:St)(a:aH)(c:Nat)(p:cV)(hp:p.length<=3000)(hr:bM s a p.length 5 (ah p)):bO 245 [.slice a p.length c] s (ai a) (.bool (p.all aC)):=by
 have hd:=Rd.of hr (A:=ai a) λb hb=>hb
 refine aO f245 ?_;(repeat(first|refine' wU|refine' ar|fail))
 refine W.bH (λk l L=>∃(i:Nat),Le [(0,.slice a p.length c),(3,iv i)] l/\cr [] L/\k=p.length-i/\i<=p.length/\(p.take i).all aC=true)
  (λl L=>p.all aC=true) p.length ⟨0,bd,aq,af,af,rfl⟩ ?_ ?_
 .rintro k l L ⟨i,hl,hL,rfl,h1,h2⟩;refine W.le ?_ hl hL;clear hl hL;by_cases hi:i<p.length
  .have e:=fC p c9.lW hi;(refine' Bj)
   ·(refine' av)
    have:p.all aC=false:=by
     rw[Fy];exact⟨_,aF hi c9.lW,by simp_all⟩
    rw[this];rfl
   .refine⟨_,?_,i+1,bd,aq,rfl,af,?_⟩
    .omega
    .rw[e,Fx,h2];simp_all
   all_goals(exfalso;omega)
  .have fG:i=p.length:=by omega
   subst fG;rw[gS] at h2;(refine' Bj)
   all_goals first|(exfalso;omega;done)|exact h2
 .rintro l L h1;refine aj ?_;refine W.le ?_ (Le.nil _) (cr.nil _);(refine' cO)
  (refine' av);rw[h1];rfl
end Go.Pl
namespace Go.Pl
open Go Go.Ev Go.Lg Go.Proofs
theorem P3 (s:St)(v:SA)(st:ak)(h:du 100000 st)(t:bX)(hr:cJ s v st):bO 151 [fF v st,tv t] s (im v) (.bool (fg st t)):=by
 have tk:=Rd.DE hr;have tO:=Rd.off hr;have tT:=Rd.BO hr;by_cases hT:fR t.many 0 16=true/\t.depth=cH t.many/\bw t.cC=true
 .obtain⟨h1,h2,h3⟩:=hT;have xz:0<=t.many/\t.many<=16:=by simpa[fR] using h1
  have ht:dZ t:=⟨h3,xz,by have:=Pg.fu t.many;omega⟩;have g1:(!fR t.many 0 16)=false:=by rw[h1];rfl
  have g2:(!decide (t.depth=cH t.many))=false:=by simp[h2]
  have g3:(!bw t.cC)=false:=by rw[h3];rfl
  have CO:fg st t=match gN st t with
    |none=>false
    |some l=>kj (kI st t.many) 0 l:=by
   unfold fg;rw[h1,h3];simp[h2];rfl
  rw[CO];cases hl:gN st t with
  |none=>
   have hs:(gN st t).isSome=false:=by rw[hl];rfl
   refine aO f151 ?_;(repeat' (first|refine' aX|refine' M1|refine' VP|refine' R1|refine' zc44|refine' ar|fail))
   all_goals first|((refine' av);rfl)|(exfalso;simp_all;done)
  |some q=>
   obtain⟨hq,hqo⟩:=G8 ht hl;have vZ:∀s,cJ s v st->ke aU aW 188 [fF v st,tv t] s (im v) 60 q true:=λs hr=>by
    have:=uz s v st h t ht hr;rw[hl] at this;exact this
   refine aO f151 ?_;(repeat' (first|refine' aX|refine' M1|refine' VP|refine' R1|((with_reducible apply WO.ta);exact aD;(first|exact λs hr=>vZ s hr);exact ez;intro _ _ AU AV _ _)|refine' ar|fail))
   refine W.bH (λk l L=>∃(i bs bt:Nat),Le [(2,aP bs),(3,aP bt),(5,.slice AU q.length AV),(7,iv i)] l/\cr [.aJ (.slice AU q.length AV) 60 5 (ah q),.box bs (rz v st) 58 false,.box bt (gU t) 62 false] L/\k=q.length-i/\i<=q.length/\kj (kI st t.many) 0 q=kj (kI st t.many) i (q.drop i))
    (λl L=>kj (kI st t.many) 0 q=true) q.length ⟨0,_,_,bd,aq,af,af,rfl⟩ ?_ ?_
   .rintro k l L ⟨i,bs,bt,hl,hL,rfl,h4,h5⟩;refine W.le ?_ hl hL;clear hl hL;by_cases hi:i<q.length
    .have Jt:bw (q.getD i c9.lW)=true:=hqo _ (aF hi _);have e:kj (kI st t.many) i (q.drop i)=(kI st t.many i (q.getD i c9.lW)&&kj (kI st t.many) (i+1) (q.drop (i+1))):=by
      rw[xH hi,pj _ hi];rfl
     rw[e] at h5;have xZ:kI st t.many i (q.getD i c9.lW)=false->kj (kI st t.many) 0 q=false:=λhf=>by rw[h5,hf];rfl
     have hye:kI st t.many i (q.getD i c9.lW)=true->kj (kI st t.many) 0 q=kj (kI st t.many) (i+1) (q.drop (i+1)):=λhf=>by rw[h5,hf];rfl
     have BG:kI st t.many i (q.getD i c9.lW)=(aC (q.getD i c9.lW)||((jP st (q.getD i c9.lW)).isSome&&decide ((q.getD i c9.lW).level=0)&&decide ((q.getD i c9.lW).de<=st.fE)&&decide ((i:Int)<t.many))):=rfl;(repeat' (first|refine' aX|refine' Gt|refine' zS|refine' ar|fail))
     .refine⟨_,?_,i+1,_,_,bd,aq,rfl,af,hye (by rw[BG,hc];rfl)⟩;omega
     rotate_left 1
     .refine⟨_,?_,i+1,_,_,bd,aq,rfl,af,hye ?_⟩
      .omega
      .rw[BG];simp only[mC,cv,cl]
       right
       exact⟨⟨⟨by assumption,by assumption⟩,by assumption⟩,by assumption⟩
     rotate_left 3
     .exfalso;omega
     all_goals
      have hh:aC (q.getD i c9.lW)=false:=by assumption
      (refine' av);dsimp only
      have:kj (kI st t.many) 0 q=false:=by
       refine xZ (Bool.eq_false_iff.2 λhx=>?_);rw[BG] at hx;simp only[mC,cv,cl] at hx;rcases hx with hx|⟨⟨⟨hx1,RC⟩,hx3⟩,hx4⟩
       .rw[hx] at hh;cases hh
       .first|omega|exact tR RC|(rw[hx1] at tR;cases tR)
      rw[this];rfl
    .have fG:i=q.length:=by omega
     subst fG;(repeat' (first|refine' aX|refine' Gt|refine' zS|refine' ar|fail))
     all_goals first|(exfalso;omega;done)|(rw[h5,ig];rfl)
   .rintro l L h5;refine aj ?_;refine W.le ?_ (Le.nil _) (cr.nil _);(refine' cO)
    (refine' av);dsimp only;rw[h5];rfl
 .have hf:fg st t=false:=by
   unfold fg;by_cases h1:fR t.many 0 16=true
   .by_cases h2:t.depth=cH t.many
    .by_cases h3:bw t.cC=true
     .exact absurd ⟨h1,h2,h3⟩ hT
     .simp[h3]
    .simp[h2]
   .simp[h1]
  rw[hf];refine aO f151 ?_;(repeat' (first|refine' aX|refine' M1|refine' VP|refine' R1|refine' ar|fail))
  all_goals first|((refine' av);rfl)|(exfalso;simp_all;done)
theorem LG:∀(k:Nat)(z:ay),k<=z.length->(z.take k).all kF=true->numOf (z.take k)<10^ k
 |0,z,_,_=>by simp[numOf]
 |k+1,z,h,ha=>by
  rw[De _ _ af,cv] at ha;have ih:=LG k z af ha.1;have h1:=ha.2;simp only[kF,cv,cl] at h1;rw[Df _ af,T8];omega
theorem num1_bd (z:ay):(kG z).1<1000000000:=by
 have h:=Qh z;have ha:(sT z).all kF=true:=by
  unfold sT;generalize z.take 9=w;induction w with
  |nil=>rfl
  |cons x w ih=>
   rw[List.takeWhile_cons];split
   .rename_i hx;rw[List.all_cons,hx,ih];rfl
   .rfl
 have h2:=LG (sT z).length (sT z) (cy _) (by rw[gS];exact ha);rw[gS] at h2;have h3:10^ (sT z).length<=10^ 9:=Nat.pow_le_pow_right af h.2;unfold kG;dsimp only;split
 .dsimp only;omega
 .dsimp only;omega
theorem DO {f:Nat}{z:ay}{out:List ay}(hz:z≠[]):rT (f+1) z out=if(kG z).2=0\/z.length<=(kG z).2\/z.getD (kG z).2 0≠58\/z.length-(kG z).2-1<(kG z).1 then none else rT f (z.drop ((kG z).2+1+(kG z).1)) (out++[(z.drop ((kG z).2+1)).take (kG z).1]):=by
 cases z with
 |nil=>exact absurd rfl hz
 |cons x z=>rfl
theorem yS (s:St)(z:ay)(hz:z.length<=100000):ke aU aW 157 [sv z] s [] 9 ((eR z).getD []) (eR z).isSome:=by
 refine aO f157 ?_;(repeat(first|refine' wU|refine' ar|fail))
 refine W.bH (λk l L=>∃(i f:Nat)(q:List ay)(a:aH)(c:Nat),Le [(0,sv z),(4,.slice a q.length c),(5,iv i)] l/\cr [.aJ (.slice a q.length c) 9 1 (ah q)] L/\k=z.length-i/\i<=z.length/\q.length<=i/\z.length-i<f/\(z.length<=2048\/i=0/\q=[])/\rT (z.length+1) z []=rT f (z.drop i) q)
  (λl L=>∃(q:List ay)(a:aH)(c:Nat),Le [(0,sv z),(4,.slice a q.length c)] l/\cr [.aJ (.slice a q.length c) 9 1 (ah q)] L/\q.length<=100000/\(if 2048<z.length then some [] else rT (z.length+1) z [])=some q) z.length ⟨0,z.length+1,[],_,_,bd,aq,af,af,by simp,af,.inr ⟨rfl,rfl⟩,by simp⟩ ?_ ?_
 .rintro k l L ⟨i,f,q,a,c,hl,hL,rfl,h1,h2,h3,h4,h5⟩;refine W.le ?_ hl hL;clear hl hL;obtain⟨f,rfl⟩:∃g,f=g+1:=⟨f-1,af⟩;have hn:=aap (z.drop i);have F0:=num1_bd (z.drop i);rw[gp] at hn;have gx:i<z.length->z.drop i≠[]:=λh h'=>by have:=gb List.length h';simp at this;omega
  have e:=λh:i<z.length=>DO (f:=f) (out:=q) (gx h)
  have hg9:(z.drop i).getD (kG (z.drop i)).2 0=z.getD (i+(kG (z.drop i)).2) 0:=by
   rw[aY,aY,xF]
  rw[hg9,gp,lZ,lZ] at e;have hne58:∀x:UInt8,((x.toNat:Int)=58)↔x=58:=λx=>by
   constructor
   .intro h;rw[<-wu];show x.toNat=58;omega
   .rintro rfl;rfl
  have G7:z.length<=2048->i<z.length->((kG (z.drop i)).2=0\/z.length-i<=(kG (z.drop i)).2\/z.getD (i+(kG (z.drop i)).2) 0≠58\/z.length-i-(kG (z.drop i)).2-1<(kG (z.drop i)).1)->eR z=none:=λh h' h''=>by
   unfold eR;rw[if_neg af,h5,e h',if_pos h'']
  (repeat' (first|refine' aX|((with_reducible apply WO.bG);exact aD;(first|exact λs=>K9 s _ (by rw[gp];omega));intro _ _ _ _)|refine' ar|fail))
  .rw[G7 af af (.inr (.inr (.inr af)))];(refine' fq)<;>rfl
  .have e:=e af;rw[if_neg (by
    rw[hne58] at tR;rintro(h|h|h|h)
    .omega
    .omega
    .exact h tR
    .omega)] at e
   refine⟨_,?_,i+(kG (z.drop i)).2+1+(kG (z.drop i)).1,f,_,_,_,bd,aq,rfl,af,by simp;omega,af,.inl af,?_⟩
   .omega
   .rw[h5,e]
    congr 2
    .omega
    .congr 1
     rw[show i+(kG (z.drop i)).2+1+(kG (z.drop i)).1-(i+(kG (z.drop i)).2+1)=(kG (z.drop i)).1 by omega];rfl
  .rw[G7 af af (.inr (.inr (.inl (λh=>tR ((hne58 _).2 h)))))];(refine' fq)<;>rfl
  .rw[G7 af af (.inr (.inl af))];(refine' fq)<;>rfl
  .rw[G7 af af (.inl af)];(refine' fq)<;>rfl
  .refine⟨q,_,_,bd,aq,af,?_⟩;rw[if_pos af];rcases h4 with h|⟨_,h⟩
   .omega
   .rw[h]
  .refine⟨q,_,_,bd,aq,af,?_⟩;have hd:z.drop i=[]:=zt af;split
   .rcases h4 with h|⟨_,h⟩
    .omega
    .rw[h]
   .rw[h5,hd];rfl
 .rintro l L ⟨q,a,c,hl,hL,h1,h2⟩;refine aj ?_;refine W.le ?_ hl hL;clear hl hL;have hfg:eR z=match iW q with
    |none=>none
    |some t=>if t=z then some q else none:=by
   unfold eR;rw[h2];rfl
  (repeat' (first|refine' aX|((with_reducible apply WO.lN);exact aD;(first|exact λs hr=>yF s _ _ _ af hr);exact cu;intro _ _ _ _)|refine' ar|fail))
  .obtain⟨t,ht⟩:=kB.1 tR;rw[ht] at jU hfg;rw[hfg];dsimp only;rw[if_neg (show ¬t=z from jU)];(refine' fq)<;>rfl
  .obtain⟨t,ht⟩:=kB.1 tR;rw[ht] at jU hfg;rw[hfg];dsimp only;rw[if_pos (show t=z from jU)];(refine' fq)<;>rfl
  .have ht:iW q=none:=by cases h:iW q<;>simp_all
   rw[ht] at hfg;rw[hfg];(refine' fq)<;>rfl
theorem Gz (s:St)(n:Nde):bO 153 [nv n] s [] (.bool (ew n)):=by
 refine aO f153 ?_;(repeat' (first|refine' aX|((with_reducible apply WO.bG);exact aD;(first|exact λs=>E9 s _ _);intro _ _ _ _)|refine' VP|refine' R1|refine' Gt|refine' M1|refine' ar|fail))
 all_goals first|((refine' av);simp_all [gF,ew,fR];done)|((refine' av);simp_all [gF,ew];done)
theorem Ov (n:Int):0<=cH n/\cH n<=2:=by
 unfold cH;split
 .omega
 .split<;>omega
theorem SO {n:Nde}(h:ew n=true):(1<=n.kind/\n.kind<=2)/\(1<=n.bE/\n.bE<=9)/\(0<=n.size/\n.size<=2048)/\(0<=n.aN.many/\n.aN.many<=16)/\n.aN.depth=cH n.aN.many/\bw n.aN.cC=true/\n.aN.many=dr n.size (fh n.kind):=by
 simp only[ew,cv,pG,B6,lD,Int.not_lt,ne_eq,Decidable.not_not,B5] at h;obtain⟨⟨⟨⟨h1,h2⟩,h3⟩,h4⟩,h5,h6⟩:=h;have h7:fj n.kind n.size=n.aN.many:=h2.symm;unfold fj at h7;rw[show fj n.kind n.size=n.aN.many from h2.symm] at h1 h3;have he:fh n.kind=0\/fh n.kind=12\/fh n.kind=128:=by unfold fh;split<;>(try split)<;>simp
 have hk:fh n.kind≠0->1<=n.kind/\n.kind<=2:=by unfold fh;intro h;split at h<;>(try split at h)<;>omega
 split at h7
 .omega
 .rename_i h8;simp only[mC,cl,pG,not_or,vP,fR,cv] at h8;have h9:=hk h8.1;have EB:n.aN.many<=16:=by
   rw[<-h7];unfold dr;rcases he with he|he|he<;>rw[he] at h8⊢<;>omega
  refine⟨h9,?_,af,⟨af,EB⟩,h3,h4,h7.symm⟩;simp only[fR,cv,cl] at h5;split at h5<;>omega
theorem CW (s:St)(n:Nde):bO 133 [nv n] s [] (sv (gf n)):=by
 by_cases hn:ew n=true
 .have hb:=SO hn;have hd:=Ov n.aN.many;refine aO f133 ?_;(repeat(first|refine' wU|refine' NR|refine' ar|fail))
  refine W.cond gO ?_ ?_<;>intro hc
  .exfalso;simp_all
  (repeat(first|refine' wU|refine' Z1|refine' zc15|((with_reducible apply WO.lN);exact aD;(first|exact λs hr=>yF s _ _ _ (by first|omega|(simp;done)) hr);exact cu;intro _ _ _ _)|refine' ar|fail))
  (refine' av);simp[gF,gf,hn,jQ]
 .refine aO f133 ?_;(repeat' (first|refine' aX|refine' NR|refine' ar|fail))
  all_goals first|((refine' av);simp_all [gF,gf];done)|(exfalso;simp_all;done)
theorem G9:∀(f:Nat)(z:ay)(out w:List ay)(m:Nat),z.length<=m->(∀x∈out,x.length<=m)->rT f z out=some w->∀x∈w,x.length<=m
 |0,z,out,w,m,_,_,h=>by simp[rT] at h
 |f+1,[],out,w,m,_,ho,h=>by simp[rT] at h;subst h;exact ho
 |f+1,c::z,out,w,m,hz,ho,h=>by
  rw[DO (by simp)] at h;split at h
  .cases h
  .refine G9 f _ _ w m (by rw[gp];omega) ?_ h;intro x hx;rcases fJ.1 hx with hx|hx
   .exact ho x hx
   .simp only[iN] at hx;subst hx;rw[dg,gp];omega
theorem Fe {z:ay}{w:List ay}(h:eR z=some w):∀x∈w,x.length<=z.length:=by
 unfold eR at h;split at h
 .cases h
 .rename_i o ho;split at h
  .cases h
  .split at h
   .cases h
    split at ho
    .cases ho;simp
    .exact G9 _ z [] _ z.length (cy _) (by simp) ho
   .cases h
theorem Ow (z:ay):eO z=match eR z with
  |none=>none
  |some w=>if w.length≠7 then none else
   let n:Nde:=⟨qu (w.getD 0 []),qu (w.getD 1 []),qu (w.getD 2 []),⟨(iX (w.getD 3 [])).getD bq,qu (w.getD 4 []),qu (w.getD 5 [])⟩⟩
   if !ew n||!decide (gf n=z) then none else some n:=by
 unfold eO;rcases eR z with _|⟨_|⟨a,_|⟨b,_|⟨c,_|⟨d,_|⟨e,_|⟨f,_|⟨g,_|⟨h,l⟩⟩⟩⟩⟩⟩⟩⟩⟩<;>simp
def uQ (o:Option Nde):Value:=.tuple ⟨[nv (o.getD bu),.bool o.isSome]⟩
theorem tn (s:St)(z:ay)(hz:z.length<=100000):bO 104 [sv z] s [] (uQ (eO z)):=by
 rw[Ow];rcases hf:eR z with _|w
 .have h1:(eR z).isSome=false:=by rw[hf];rfl
  refine aO f104 ?_;(repeat' (first|refine' aX|((with_reducible apply WO.ym);exact aD;(first|exact λs=>yS s _ af);intro _ _ a_FieldsGet c_FieldsGet _ _)|refine' ar|fail))
  all_goals first|((refine' av);rfl)|(exfalso;simp_all;done)
 .have h1:(eR z).isSome=true:=by rw[hf];rfl
  have hw:=Fe hf;have h0:∀i,i<w.length->(w.getD i c9.lW).length<=100000:=λi hi=>ku (hw _ (aF hi _)) hz
  have vZ:∀s,ke aU aW 157 [sv z] s [] 9 w true:=λs=>by
   have:=yS s z hz;rw[hf] at this;exact this
  dsimp only;refine aO f104 ?_;(repeat' (first|refine' aX|((with_reducible apply WO.ym);exact aD;(first|exact λs=>vZ s);intro _ _ a_FieldsGetW c_FieldsGetW _ _)|((with_reducible apply WO.bG);exact aD;(first|exact λs=>zZ s _ (h0 _ af));intro _ _ _ _)|((with_reducible apply WO.bG);exact aD;(first|exact λs=>GL s _ (h0 _ af));intro _ _ _ _)|refine' NR|refine' zc57|refine' ar|fail))
  ·(refine' av);rw[if_pos af];rfl
  all_goals
   (refine' av)
   rw[if_neg af];first
                   |exact Eq.trans (b:=uQ none) rfl (gb uQ (if_pos (Fz.2 (.inl hg))).symm)
                   |exact Eq.trans (b:=uQ none) rfl (gb uQ (if_pos (Fz.2 (.inr hc))).symm)
                   |exact Eq.trans (b:=uQ (some _)) rfl (gb uQ (if_neg (λh=>(Fz.1 h).elim (λh=>tf h hg) (λh=>tf h hc))).symm)
theorem kR {st:ak}(h:du 100000 st){t:bX}(ht:dZ t):(hU st t).length=t.many.toNat/\∀s∈hU st t,s.length<=3000:=by
 have hw:=(qW (st:=st) ht).2.1;have hm:=ht.mn;unfold hU;refine⟨by rw[vL,dg,hw];omega,λs hs=>?_⟩;obtain⟨p,_,rfl⟩:=n9.1 hs;exact LC h p
theorem drop_cons {α:Type}{sz:Nat}[c9 α sz]{q:List α}{i:Nat}(hi:i<q.length):q.drop i=q.getD i (c9.lW (α:=α) (sz:=sz))::q.drop (i+1):=by
 rw[xH hi,pj _ hi]
theorem LH (s:St)(v:SA)(st:ak)(h:du 100000 st)(t:bX)(ht:dZ t)(hr:cJ s v st):bO 189 [fF v st,tv t] s (im v) (optS2 (nZ st t)):=by
 have tk:=Rd.DE hr;have tO:=Rd.off hr;have tT:=Rd.BO hr;obtain⟨hl,dA⟩:=kR h ht;have hm:=ht.mn;refine aO f189 ?_;(refine' Wv)
 unfold nZ;generalize hU st t=w at *
 refine W.bH (λk l L=>∃(i bt:Nat)(z:ay),Le [(3,aP bt),(7,.slice gA w.length gB),(6,sv z),(8,iv i)] l/\cr [.aJ (.slice gA w.length gB) 9 1 (ah w),.box bt (gU t) 62 false] L/\k=w.length-i/\i<=w.length/\z.length<=i*3000/\oP t.many 0 w []=oP t.many i (w.drop i) z)
  (λl L=>∃z:ay,Le [(6,sv z)] l/\cr [] L/\oP t.many 0 w []=some z) w.length ⟨0,_,[],bd,aq,af,af,by simp,rfl⟩ ?_ ?_
 .rintro k l L ⟨i,bt,z,ju,hL,rfl,h1,h2,h3⟩;refine W.le ?_ ju hL;clear ju hL;by_cases hi:i<w.length
  .have Qs:=dA _ (aF hi c9.lW);rw[drop_cons hi,oP] at h3;(refine' cO)
   .have hn:oP t.many 0 w []=none:=by
     rw[h3,if_pos];simp only[mC,cv,cl];exact .inr ⟨by assumption,af⟩
    rw[hn];(refine' av);rfl
   .rw[if_neg (by simp only[mC,cv,cl];rintro(hx|⟨_,hx⟩)<;>first|exact absurd hx (by assumption)|omega)] at h3;refine⟨_,?_,i+1,_,_,bd,aq,rfl,af,?_,h3⟩
    .omega
    .rw[bR];omega
   .rw[if_neg (by simp only[mC,cv,cl];rintro(hx|⟨_,hx⟩)<;>first|exact absurd hx (by assumption)|omega)] at h3;refine⟨_,?_,i+1,_,_,bd,aq,rfl,af,?_,h3⟩
    .omega
    .rw[bR];omega
   .have hn:oP t.many 0 w []=none:=by
     rw[h3,if_pos];simp only[mC,cv,cl];exact .inl tR
    rw[hn];(refine' av);rfl
   .exfalso;omega
  .have fG:i=w.length:=by omega
   subst fG;rw[ig] at h3;(refine' cO)
   all_goals first|(exfalso;omega;done)|exact⟨z,bd,aq,h3⟩
 .rintro l L ⟨z,ju,hL,h3⟩;refine aj ?_;refine W.le ?_ ju hL;(refine' cO)
  (refine' av);rw[h3];rfl
end Go.Pl
