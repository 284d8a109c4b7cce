/- Lemmas of the proof. No conditions. -/
import Derived.Test.YtajgfdfbnhchcaaGreatDoorAc3
set_option maxRecDepth 100000
set_option maxHeartbeats 4000000
set_option linter.unusedVariables false
set_option linter.unusedSimpArgs false
open Go.Proofs.Tryz
namespace Go
theorem zab{P:Prop}(h:P:=by
 cases hp:sk i st.fC level z with
 |none=>
  have ZD:∀s,bP 241 [iv i,iv st.fC,iv level,sv z] s [] (uo none):=λs=>by have:=oP s i st.fC level z ag;rwa [hp] at this
  rw[hp] at hw;have nU:wr st z level=(st,bq,false):=by unfold wr;rw[hw]
  rw[nU];(refine' G9)
  (refine' dW)
  .rfl
  .exact λ_=>rfl
 |some p=>
  have ZD:∀s,bP 241 [iv i,iv st.fC,iv level,sv z] s [] (uo (some p)):=λs=>by have:=oP s i st.fC level z ag;rwa [hp] at this
  rw[hp] at hw;have nU:wr st z level=({st with er:=st.er.set i z,aX:=st.aX.set i (st.aX.getD i 0+1),dm:=st.dm.set i st.fC},p,true):=by unfold wr;rw[hw]
  rw[nU];(refine' G9)
  (refine' dW)
  .rfl
  .exact λ_=>rfl
 all_goals(rcases(_:_)with h;exact h)):P:=h
theorem zah{P:Prop}(h:P:=by
 have fF:bz l=true:=by
  unfold bK at h;split at h
  .cases h
  .split at h
   .cases h
   .split at h
    .cases h
    .unfold iL at h;split at h
     .cases h
     .split at h
      .cases h
      .rename_i hc;cases h
       cases hq:bz l with
       |true=>rfl
       |false=>rw[hq] at hc;simp at hc
 all_goals(rcases(_:_)with h;exact h)):P:=h
theorem zaj{P:Prop}(h:P:=by
 all_goals exact⟨bB,_,_,bn,au,rfl,_,_,_,_,_,_,_,_,yY,yZ,y0,y1,rfl⟩
 all_goals(rcases(_:_)with h;exact h)):P:=h
theorem zak{P:Prop}(h:P:=by
 have hi:=Pg.lg hf;have hfc:∀s (a:aK) c,cK s v st->bP 240 [.agg ⟨[.slice v.f 64 v.fc,.slice v.l 64 v.lc]⟩,iv 8,.slice a 0 c] s (iH v) (iv i):=λs a c hr=>by
  have:=pR s v st Cj a c hr;rw[hf] at this;exact this
 all_goals(rcases(_:_)with h;exact h)):P:=h
theorem zal{P:Prop}(h:P:=by
 have hfc:∀s (a:aK) c,cK s v st->bP 240 [.agg ⟨[.slice v.f 64 v.fc,.slice v.l 64 v.lc]⟩,iv 8,.slice a 0 c] s (iH v) (iv (-1)):=λs a c hr=>by
  have:=pR s v st Cj a c hr;rw[hf] at this;exact this
 all_goals(rcases(_:_)with h;exact h)):P:=h
theorem zay{P:Prop}(h:P:=by
 have nU:wr st z level=(st,bq,false):=by unfold wr;rw[hw]
 rw[nU];(repeat' (first|refine' a7|refine' G5|refine' QL|refine' aw|fail))
 (refine' dW)
 all_goals(rcases(_:_)with h;exact h)):P:=h
theorem zaG{P:Prop}(h:P:=by
 all_goals try refine rO
 all_goals(refine' ax)
 all_goals first|(rw[if_pos (.inl (by assumption))];rfl)|(rw[if_pos (.inr ag)];rfl)|(rw[if_neg (by rintro(h|h)<;>first|contradiction|omega|(simp_all;done))];rfl)
 all_goals(rcases(_:_)with h;exact h)):P:=h
theorem zaJ{P:Prop}(h:P:=by
 rw[e];refine aU f48 ?_;(refine' Xm)
 all_goals try refine rO
 all_goals(refine' ax)
 all_goals rfl
 all_goals(rcases(_:_)with h;exact h)):P:=h
theorem zaW{P:Prop}(h:P:=by
 refine aU f70 ?_;(repeat' (first|refine' a7|refine' SX|refine' aw|fail))
 all_goals try refine cM
 all_goals(refine' ax)
 all_goals rfl
 all_goals(rcases(_:_)with h;exact h)):P:=h
theorem za0{P:Prop}(h:P:=by
 refine aU f244 ?_;dsimp only[eO] at hd⊢;(refine' Xo)
 (refine' dW)
 all_goals(rcases(_:_)with h;exact h)):P:=h
theorem za7{P:Prop}(h:P:=by
 have oR:=Rd.of (A:=aj a++aj (jP b3)) hr λ_ hb=>cP _ hb
 have NL:=Rd.of (A:=aj a++aj (jP b3)) hb λ_ hb=>dz _ hb
 all_goals(rcases(_:_)with h;exact h)):P:=h
theorem zbf{P:Prop}(h:P:=by
 rw[e];refine aU f48 ?_;(refine' Xn)
 all_goals try refine rO
 all_goals(refine' ax)
 all_goals rfl
 all_goals(rcases(_:_)with h;exact h)):P:=h
end Go
namespace Go.Pl
open Go Go.Ev Go.Lg Go.Proofs
section
variable {t:bX}
theorem Hy {st:ar}(ht:eb t){l:cW}(h:gO st t=some l):l.length<=16/\∀p∈l,bw p=true:=by
 unfold gO at h;rw[Pg.rl] at h;cases hl:Pg.pE st t.depth.toNat [t.cy] with
 |none=>rw[hl] at h;cases h
 |some r=>
  rw[hl] at h;obtain⟨a,q⟩:=r;have h:a=l:=by simpa using h
  subst h;obtain⟨h1,h2⟩:=Pg.Ec hl;refine⟨?_,h2 (by simpa using ht.rt)⟩;have hd:=ht.dp;have:t.depth.toNat=0\/t.depth.toNat=1\/t.depth.toNat=2:=by omega
  rw[h1];rcases this with h|h|h<;>rw[h]<;>simp
theorem rm {st:ar}(ht:eb t):((gO st t).getD []).length<=16/\(wide st t).length=16/\∀p∈wide st t,bw p=true:=by
 unfold wide;cases h:gO st t with
 |none=>exact⟨by simp,by simp[c9],λp hp=>by
  have hp:p∈c9 16:=by simpa using hp
  rw[Pg.mE hp];decide⟩
 |some l=>
  obtain⟨h1,h2⟩:=Hy ht h;refine⟨h1,by simp[c9];omega,λp hp=>?_⟩;rcases eX.1 hp with hp|hp
  .exact h2 p hp
  .rw[Pg.mE hp];decide
theorem G2 (s:St)(v:SA)(st:ar)(h:dv 100000 st)(t:bX)(ht:eb t)(hr:cK s v st):fa a8 bj 174 [fD v st,tv t] s (iH v) 83 (wide st t):=by
 have tL:=Rd.Eg hr;have uj:=Rd.off hr;have uq:=Rd.Cr hr;have hw:=(rm (st:=st) ht).1;have hh:(c9 (16-(((gO st t).getD []).length:Int)).toNat).length<=16:=by rw[Pg.jn];omega
 refine aU f174 ?_;(repeat' (first|refine' a7|refine' ahi|refine' aee|refine' aw|fail))
 (refine' lN)
 unfold wide;simp only[pT]
 congr 2
 omega
theorem Md {st:ar}(h:dv 100000 st)(p:jt):(aW st p).length<=3000:=Hw h p
theorem Me (s:St)(v:SA)(st:ar)(h:dv 100000 st)(t:bX)(ht:eb t)(k:Nat)(hk:k<16)(hr:cK s v st):bP 246 [fD v st,tv t,iv k] s (iH v) (sv (Sr st t k)):=by
 have tL:=Rd.Eg hr;have uj:=Rd.off hr;have uq:=Rd.Cr hr;obtain⟨_,hw,Mf⟩:=rm (st:=st) ht;have J3:bw ((wide st t).getD k ak.ah)=true:=Mf _ (aJ ag _);refine aU f246 ?_;(repeat' (first|refine' a7|refine' Dx|refine' Ax|refine' aw|fail))
 (refine' ax);rfl
theorem Dz (s:St)(v:SA)(st:ar)(h:dv 100000 st)(t:bX)(ht:eb t)(hr:cK s v st):fa a8 bj 122 [fD v st,tv t] s (iH v) 9 (iq st t):=by
 have tL:=Rd.Eg hr;have uj:=Rd.off hr;have uq:=Rd.Cr hr;obtain⟨_,hw,Mf⟩:=rm (st:=st) ht;have x9:=ht.mn;refine aU f122 ?_;(repeat' (first|refine' a7|refine' Dx|refine' aw|fail))
 rw[show iq st t=((wide st t).take t.many.toNat).map (aW st) from rfl];generalize wide st t=w at *
 refine W.bN (λk l L=>∃(i bs bt:Nat)(r:List aA)(a2:aK)(c2:Nat),Le [(2,bc bs),(3,bc bt),(6,.slice Lk w.length Ll),(5,.slice a2 r.length c2),(7,iv i)] l/\cz [.aN (.slice a2 r.length c2) 9 1 (ai r),.aN (.slice Lk w.length Ll) 83 5 (ai w),.box bs (rP v st) 81 false,.box bt (hU t) 85 false] L/\k=t.many.toNat-i/\i<=t.many.toNat/\r=(w.take i).map (aW st))
  (λl L=>∃(a2:aK)(c2:Nat),Le [(5,.slice a2 ((w.take t.many.toNat).map (aW st)).length c2)] l/\cz [.aN (.slice a2 ((w.take t.many.toNat).map (aW st)).length c2) 9 1 (ai ((w.take t.many.toNat).map (aW st)))] L) t.many.toNat ⟨0,_,_,[],_,_,bk,au,ag,ag,rfl⟩ ?_ ?_
 .rintro k l L ⟨i,bs,bt,r,a2,c2,hl,hL,rfl,h1,h2⟩;refine W.le ?_ hl hL;clear hl hL;have Vl:r.length<=16:=by rw[h2];simp;omega
  by_cases hi:i<t.many.toNat
  .have J3:bw (w.getD i ak.ah)=true:=Mf _ (aJ ag _);(repeat' (first|refine' a7|refine' Ax|refine' aw|fail))
   .refine⟨_,?_,i+1,_,_,r++[aW st (w.getD i ak.ah)],_,_,bk,au,rfl,ag,?_⟩
    .omega
    .rw[h2,fA w ak.ah ag];simp
   all_goals(exfalso;omega)
  .have fE:i=t.many.toNat:=by omega
   subst fE;subst h2;(repeat' (first|refine' a7|refine' Ax|refine' aw|fail))
   all_goals first|(exfalso;omega;done)|exact⟨_,_,bk,au⟩
 .rintro l L ⟨a2,c2,hl,hL⟩;refine aq ?_;refine W.le ?_ hl hL;clear hl hL;(refine' cU)
  (refine' lN)
  rfl
theorem S0 (s:St)(a:aK)(c:Nat)(p:cW)(hp:p.length<=3000)(hr:bO s a p.length 5 (ai p)):bP 263 [.slice a p.length c] s (aj a) (.bool (p.all aI)):=by
 have hd:=Rd.of hr (A:=aj a) λb hb=>hb
 refine aU f263 ?_;(repeat(first|refine' xz|refine' aw|fail))
 refine W.bN (λk l L=>∃(i:Nat),Le [(0,.slice a p.length c),(3,iv i)] l/\cz [] L/\k=p.length-i/\i<=p.length/\(p.take i).all aI=true)
  (λl L=>p.all aI=true) p.length ⟨0,bk,au,ag,ag,rfl⟩ ?_ ?_
 .rintro k l L ⟨i,hl,hL,rfl,h1,h2⟩;refine W.le ?_ hl hL;clear hl hL;by_cases hi:i<p.length
  .have e:=fA p ak.ah hi;(refine' BV)
   ·(refine' ax)
    have:p.all aI=false:=by
     rw[F8];exact⟨_,aJ hi ak.ah,by simp_all⟩
    rw[this];rfl
   .refine⟨_,?_,i+1,bk,au,rfl,ag,?_⟩
    .omega
    .rw[e,F7,h2];simp_all
   all_goals(exfalso;omega)
  .have fE:i=p.length:=by omega
   subst fE;rw[gX] at h2;(refine' BV)
   all_goals first|(exfalso;omega;done)|exact h2
 .rintro l L h1;refine aq ?_;refine W.le ?_ (Le.nil _) (cz.nil _);(refine' cU)
  (refine' ax);rw[h1];rfl
end
theorem QI (s:St)(v:SA)(st:ar)(h:dv 100000 st)(t:bX)(hr:cK s v st):bP 170 [fD v st,tv t] s (iH v) (.bool (fg st t)):=by
 have tL:=Rd.Eg hr;have uj:=Rd.off hr;have uq:=Rd.Cr hr;by_cases hT:fR t.many 0 16=true/\t.depth=cJ t.many/\bw t.cy=true
 .obtain⟨h1,h2,h3⟩:=hT;have x9:0<=t.many/\t.many<=16:=by simpa[fR] using h1
  have ht:eb t:=⟨h3,x9,by have:=Pg.fq t.many;omega⟩;have g1:(!fR t.many 0 16)=false:=by rw[h1];rfl
  have g2:(!decide (t.depth=cJ t.many))=false:=by simp[h2]
  have g3:(!bw t.cy)=false:=by rw[h3];rfl
  have Dq:fg st t=match gO st t with
    |none=>false
    |some l=>ky (kW st t.many) 0 l:=by
   unfold fg;rw[h1,h3];simp[h2];rfl
  rw[Dq];cases hl:gO st t with
  |none=>
   have hs:(gO st t).isSome=false:=by rw[hl];rfl
   refine aU f170 ?_;(repeat' (first|refine' a7|refine' NI|refine' Ww|refine' SK|refine' ahi|refine' aw|fail))
   all_goals first|((refine' ax);rfl)|(exfalso;simp_all;done)
  |some q=>
   obtain⟨hq,hqo⟩:=Hy ht hl;have wJ:∀s,cK s v st->kr a8 bj 207 [fD v st,tv t] s (iH v) 83 q true:=λs hr=>by
    have:=uY s v st h t ht hr;rw[hl] at this;exact this
   refine aU f170 ?_;(repeat' (first|refine' a7|refine' NI|refine' Ww|refine' SK|((with_reducible apply WO.tD);exact aE;(first|exact λs hr=>wJ s hr);exact eC;intro _ _ Bt Bu _ _)|refine' aw|fail))
   refine W.bN (λk l L=>∃(i bs bt:Nat),Le [(2,bc bs),(3,bc bt),(5,.slice Bt q.length Bu),(7,iv i)] l/\cz [.aN (.slice Bt q.length Bu) 83 5 (ai q),.box bs (rP v st) 81 false,.box bt (hU t) 85 false] L/\k=q.length-i/\i<=q.length/\ky (kW st t.many) 0 q=ky (kW st t.many) i (q.drop i))
    (λl L=>ky (kW st t.many) 0 q=true) q.length ⟨0,_,_,bk,au,ag,ag,rfl⟩ ?_ ?_
   .rintro k l L ⟨i,bs,bt,hl,hL,rfl,h4,h5⟩;refine W.le ?_ hl hL;clear hl hL;by_cases hi:i<q.length
    .have J3:bw (q.getD i ak.ah)=true:=hqo _ (aJ hi _);have e:ky (kW st t.many) i (q.drop i)=(kW st t.many i (q.getD i ak.ah)&&ky (kW st t.many) (i+1) (q.drop (i+1))):=by
      rw[wA hi,pC _ hi];rfl
     rw[e] at h5;have qE:kW st t.many i (q.getD i ak.ah)=false->ky (kW st t.many) 0 q=false:=λhf=>by rw[h5,hf];rfl
     have hye:kW st t.many i (q.getD i ak.ah)=true->ky (kW st t.many) 0 q=ky (kW st t.many) (i+1) (q.drop (i+1)):=λhf=>by rw[h5,hf];rfl
     have Cj:kW st t.many i (q.getD i ak.ah)=(aI (q.getD i ak.ah)||((jW st (q.getD i ak.ah)).isSome&&decide ((q.getD i ak.ah).level=0)&&decide ((q.getD i ak.ah).dg<=st.fC)&&decide ((i:Int)<t.many))):=rfl;(repeat' (first|refine' a7|refine' GW|refine' Ax|refine' aw|fail))
     .refine⟨_,?_,i+1,_,_,bk,au,rfl,ag,hye (by rw[Cj,hc];rfl)⟩;omega
     rotate_left 1
     .refine⟨_,?_,i+1,_,_,bk,au,rfl,ag,hye ?_⟩
      .omega
      .rw[Cj];simp only[mS,bU,bQ]
       right
       exact⟨⟨⟨by assumption,by assumption⟩,by assumption⟩,by assumption⟩
     rotate_left 3
     .exfalso;omega
     all_goals
      have hh:aI (q.getD i ak.ah)=false:=by assumption
      (refine' ax);dsimp only
      have:ky (kW st t.many) 0 q=false:=by
       refine qE (Bool.eq_false_iff.2 λhx=>?_);rw[Cj] at hx;simp only[mS,bU,bQ] at hx;rcases hx with hx|⟨⟨⟨hx1,Sk⟩,hx3⟩,hx4⟩
       .rw[hx] at hh;cases hh
       .first|omega|exact um Sk|(rw[hx1] at um;cases um)
      rw[this];rfl
    .have fE:i=q.length:=by omega
     subst fE;(repeat' (first|refine' a7|refine' GW|refine' Ax|refine' aw|fail))
     all_goals first|(exfalso;omega;done)|(rw[h5,iD];rfl)
   .rintro l L h5;refine aq ?_;refine W.le ?_ (Le.nil _) (cz.nil _);(refine' cU)
    (refine' ax);dsimp only;rw[h5];rfl
 .have hf:fg st t=false:=by
   unfold fg;by_cases h1:fR t.many 0 16=true
   .by_cases h2:t.depth=cJ t.many
    .by_cases h3:bw t.cy=true
     .exact absurd ⟨h1,h2,h3⟩ hT
     .simp[h3]
    .simp[h2]
   .simp[h1]
  rw[hf];refine aU f170 ?_;(repeat' (first|refine' a7|refine' NI|refine' Ww|refine' SK|refine' aw|fail))
  all_goals first|((refine' ax);rfl)|(exfalso;simp_all;done)
theorem Mg:∀(k:Nat)(z:aA),k<=z.length->(z.take k).all kT=true->numOf (z.take k)<10^ k
 |0,z,_,_=>by simp[numOf]
 |k+1,z,h,ha=>by
  rw[DT _ _ ag,bU] at ha;have ih:=Mg k z ag ha.1;have h1:=ha.2;simp only[kT,bU,bQ] at h1;rw[DU _ ag,US];omega
theorem abd (z:aA):(kU z).1<1000000000:=by
 have h:=QV z;have ha:(tn z).all kT=true:=by
  unfold tn;generalize z.take 9=w;induction w with
  |nil=>rfl
  |cons x w ih=>
   rw[List.takeWhile_cons];split
   .rename_i hx;rw[List.all_cons,hx,ih];rfl
   .rfl
 have h2:=Mg (tn z).length (tn z) (cA _) (by rw[gX];exact ha);rw[gX] at h2;have h3:10^ (tn z).length<=10^ 9:=Nat.pow_le_pow_right ag h.2;unfold kU;dsimp only;split
 .dsimp only;omega
 .dsimp only;omega
theorem Eo {f:Nat}{z:aA}{out:List aA}(hz:z≠[]):sj (f+1) z out=if(kU z).2=0\/z.length<=(kU z).2\/z.getD (kU z).2 0≠58\/z.length-(kU z).2-1<(kU z).1 then none else sj f (z.drop ((kU z).2+1+(kU z).1)) (out++[(z.drop ((kU z).2+1)).take (kU z).1]):=by
 cases z with
 |nil=>exact absurd rfl hz
 |cons x z=>rfl
theorem zn (s:St)(z:aA)(hz:z.length<=100000):kr a8 bj 176 [sv z] s [] 9 ((eS z).getD []) (eS z).isSome:=by
 refine aU f176 ?_;(repeat(first|refine' xz|refine' aw|fail))
 refine W.bN (λk l L=>∃(i f:Nat)(q:List aA)(a:aK)(c:Nat),Le [(0,sv z),(4,.slice a q.length c),(5,iv i)] l/\cz [.aN (.slice a q.length c) 9 1 (ai q)] L/\k=z.length-i/\i<=z.length/\q.length<=i/\z.length-i<f/\(z.length<=2048\/i=0/\q=[])/\sj (z.length+1) z []=sj f (z.drop i) q)
  (λl L=>∃(q:List aA)(a:aK)(c:Nat),Le [(0,sv z),(4,.slice a q.length c)] l/\cz [.aN (.slice a q.length c) 9 1 (ai q)] L/\q.length<=100000/\(if 2048<z.length then some [] else sj (z.length+1) z [])=some q) z.length ⟨0,z.length+1,[],_,_,bk,au,ag,ag,by simp,ag,.inr ⟨rfl,rfl⟩,by simp⟩ ?_ ?_
 .rintro k l L ⟨i,f,q,a,c,hl,hL,rfl,h1,h2,h3,h4,h5⟩;refine W.le ?_ hl hL;clear hl hL;obtain⟨f,rfl⟩:∃g,f=g+1:=⟨f-1,ag⟩;have hn:=aaX (z.drop i);have GC:=abd (z.drop i);rw[gd] at hn;have fK:i<z.length->z.drop i≠[]:=λh h'=>by have:=fI List.length h';simp at this;omega
  have e:=λh:i<z.length=>Eo (f:=f) (out:=q) (fK h)
  have hg9:(z.drop i).getD (kU (z.drop i)).2 0=z.getD (i+(kU (z.drop i)).2) 0:=by
   rw[aR,aR,yh]
  rw[hg9,gd,mm,mm] at e;have acY:∀x:UInt8,((x.toNat:Int)=58)↔x=58:=λx=>by
   constructor
   .intro h;rw[<-w6];show x.toNat=58;omega
   .rintro rfl;rfl
  have Hx:z.length<=2048->i<z.length->((kU (z.drop i)).2=0\/z.length-i<=(kU (z.drop i)).2\/z.getD (i+(kU (z.drop i)).2) 0≠58\/z.length-i-(kU (z.drop i)).2-1<(kU (z.drop i)).1)->eS z=none:=λh h' h''=>by
   unfold eS;rw[if_neg ag,h5,e h',if_pos h'']
  (repeat' (first|refine' a7|((with_reducible apply WO.bI);exact aE;(first|exact λs=>LJ s _ (by rw[gd];omega));intro _ _ _ _)|refine' aw|fail))
  .rw[Hx ag ag (.inr (.inr (.inr ag)))];(refine' fp)<;>rfl
  .have e:=e ag;rw[if_neg (by
    rw[acY] at um;rintro(h|h|h|h)
    .omega
    .omega
    .exact h um
    .omega)] at e
   refine⟨_,?_,i+(kU (z.drop i)).2+1+(kU (z.drop i)).1,f,_,_,_,bk,au,rfl,ag,by simp;omega,ag,.inl ag,?_⟩
   .omega
   .rw[h5,e]
    congr 2
    .omega
    .congr 1
     rw[show i+(kU (z.drop i)).2+1+(kU (z.drop i)).1-(i+(kU (z.drop i)).2+1)=(kU (z.drop i)).1 by omega];rfl
  .rw[Hx ag ag (.inr (.inr (.inl (λh=>um ((acY _).2 h)))))];(refine' fp)<;>rfl
  .rw[Hx ag ag (.inr (.inl ag))];(refine' fp)<;>rfl
  .rw[Hx ag ag (.inl ag)];(refine' fp)<;>rfl
  .refine⟨q,_,_,bk,au,ag,?_⟩;rw[if_pos ag];rcases h4 with h|⟨_,h⟩
   .omega
   .rw[h]
  .refine⟨q,_,_,bk,au,ag,?_⟩;have hd:z.drop i=[]:=ye ag;split
   .rcases h4 with h|⟨_,h⟩
    .omega
    .rw[h]
   .rw[h5,hd];rfl
 .rintro l L ⟨q,a,c,hl,hL,h1,h2⟩;refine aq ?_;refine W.le ?_ hl hL;clear hl hL;have hfg:eS z=match jh q with
    |none=>none
    |some t=>if t=z then some q else none:=by
   unfold eS;rw[h2];rfl
  (repeat' (first|refine' a7|((with_reducible apply WO.l8);exact aE;(first|exact λs hr=>y9 s _ _ _ ag hr);exact cg;intro _ _ _ _)|refine' aw|fail))
  .obtain⟨t,ht⟩:=ju.1 um;rw[ht] at j3 hfg;rw[hfg];dsimp only;rw[if_neg (show ¬t=z from j3)];(refine' fp)<;>rfl
  .obtain⟨t,ht⟩:=ju.1 um;rw[ht] at j3 hfg;rw[hfg];dsimp only;rw[if_pos (show t=z from j3)];(refine' fp)<;>rfl
  .have ht:jh q=none:=by cases h:jh q<;>simp_all
   rw[ht] at hfg;rw[hfg];(refine' fp)<;>rfl
theorem G3 (s:St)(n:iG):bP 172 [nv n] s [] (.bool (ez n)):=by
 refine aU f172 ?_;(repeat' (first|refine' a7|((with_reducible apply WO.bI);exact aE;(first|exact λs=>FO s _ _);intro _ _ _ _)|refine' Ww|refine' SK|refine' GW|refine' NI|refine' aw|fail))
 all_goals first|((refine' ax);simp_all [gB,ez,fR];done)|((refine' ax);simp_all [gB,ez];done)
theorem O9 (n:Int):0<=cJ n/\cJ n<=2:=by
 unfold cJ;split
 .omega
 .split<;>omega
theorem Tu {n:iG}(h:ez n=true):(1<=n.kind/\n.kind<=2)/\(1<=n.bF/\n.bF<=9)/\(0<=n.size/\n.size<=2048)/\(0<=n.aS.many/\n.aS.many<=16)/\n.aS.depth=cJ n.aS.many/\bw n.aS.cy=true/\n.aS.many=dn n.size (fh n.kind):=by
 simp only[ez,bU,pU,CG,mb,Int.not_lt,ne_eq,Decidable.not_not,CF] at h;obtain⟨⟨⟨⟨h1,h2⟩,h3⟩,h4⟩,h5,h6⟩:=h;have h7:fj n.kind n.size=n.aS.many:=h2.symm;unfold fj at h7;rw[show fj n.kind n.size=n.aS.many from h2.symm] at h1 h3;have he:fh n.kind=0\/fh n.kind=12\/fh n.kind=128:=by unfold fh;split<;>(try split)<;>simp
 have hk:fh n.kind≠0->1<=n.kind/\n.kind<=2:=by unfold fh;intro h;split at h<;>(try split at h)<;>omega
 split at h7
 .omega
 .rename_i h8;simp only[mS,bQ,pU,not_or,wy,fR,bU] at h8;have h9:=hk h8.1;have Fc:n.aS.many<=16:=by
   rw[<-h7];unfold dn;rcases he with he|he|he<;>rw[he] at h8⊢<;>omega
  refine⟨h9,?_,ag,⟨ag,Fc⟩,h3,h4,h7.symm⟩;simp only[fR,bU,bQ] at h5;split at h5<;>omega
theorem Dy (s:St)(n:iG):bP 152 [nv n] s [] (sv (fZ n)):=by
 by_cases hn:ez n=true
 .have hb:=Tu hn;have hd:=O9 n.aS.many;refine aU f152 ?_;(repeat(first|refine' xz|refine' OB|refine' aw|fail))
  refine W.cond gP ?_ ?_<;>intro hc
  .exfalso;simp_all
  (repeat(first|refine' xz|refine' aaz|refine' ahd|((with_reducible apply WO.l8);exact aE;(first|exact λs hr=>y9 s _ _ _ (by first|omega|(simp;done)) hr);exact cg;intro _ _ _ _)|refine' aw|fail))
  (refine' ax);simp[gB,fZ,hn,jX]
 .refine aU f152 ?_;(repeat' (first|refine' a7|refine' OB|refine' aw|fail))
  all_goals first|((refine' ax);simp_all [gB,fZ];done)|(exfalso;simp_all;done)
theorem Hz:∀(f:Nat)(z:aA)(out w:List aA)(m:Nat),z.length<=m->(∀x∈out,x.length<=m)->sj f z out=some w->∀x∈w,x.length<=m
 |0,z,out,w,m,_,_,h=>by simp[sj] at h
 |f+1,[],out,w,m,_,ho,h=>by simp[sj] at h;subst h;exact ho
 |f+1,c::z,out,w,m,hz,ho,h=>by
  rw[Eo (by simp)] at h;split at h
  .cases h
  .refine Hz f _ _ w m (by rw[gd];omega) ?_ h;intro x hx;rcases eX.1 hx with hx|hx
   .exact ho x hx
   .simp only[gR] at hx;subst hx;rw[cZ,gd];omega
theorem FR {z:aA}{w:List aA}(h:eS z=some w):∀x∈w,x.length<=z.length:=by
 unfold eS at h;split at h
 .cases h
 .rename_i o ho;split at h
  .cases h
  .split at h
   .cases h
    split at ho
    .cases ho;simp
    .exact Hz _ z [] _ z.length (cA _) (by simp) ho
   .cases h
theorem Pb (z:aA):eP z=match eS z with
  |none=>none
  |some w=>if w.length≠7 then none else
   let n:iG:=⟨qJ (w.getD 0 []),qJ (w.getD 1 []),qJ (w.getD 2 []),⟨(ji (w.getD 3 [])).getD bq,qJ (w.getD 4 []),qJ (w.getD 5 [])⟩⟩
   if !ez n||!decide (fZ n=z) then none else some n:=by
 unfold eP;rcases eS z with _|⟨_|⟨a,_|⟨b,_|⟨c,_|⟨d,_|⟨e,_|⟨f,_|⟨g,_|⟨h,l⟩⟩⟩⟩⟩⟩⟩⟩⟩<;>simp
def ve (o:Option iG):Value:=.tuple ⟨[nv (o.getD bu),.bool o.isSome]⟩
theorem tM (s:St)(z:aA)(hz:z.length<=100000):bP 123 [sv z] s [] (ve (eP z)):=by
 rw[Pb];rcases hf:eS z with _|w
 .have h1:(eS z).isSome=false:=by rw[hf];rfl
  refine aU f123 ?_;(repeat' (first|refine' a7|((with_reducible apply WO.yS);exact aE;(first|exact λs=>zn s _ ag);intro _ _ acZ ac0 _ _)|refine' aw|fail))
  all_goals first|((refine' ax);rfl)|(exfalso;simp_all;done)
 .have h1:(eS z).isSome=true:=by rw[hf];rfl
  have hw:=FR hf;have h0:∀i,i<w.length->(w.getD i ak.ah).length<=100000:=λi hi=>ik (hw _ (aJ hi _)) hz
  have wJ:∀s,kr a8 bj 176 [sv z] s [] 9 w true:=λs=>by
   have:=zn s z hz;rw[hf] at this;exact this
  dsimp only;refine aU f123 ?_;(repeat' (first|refine' a7|((with_reducible apply WO.yS);exact aE;(first|exact λs=>wJ s);intro _ _ abe abf _ _)|((with_reducible apply WO.bI);exact aE;(first|exact λs=>AF s _ (h0 _ ag));intro _ _ _ _)|((with_reducible apply WO.bI);exact aE;(first|exact λs=>Hd s _ (h0 _ ag));intro _ _ _ _)|refine' OB|refine' ahj|refine' aw|fail))
  ·(refine' ax);rw[if_pos ag];rfl
  all_goals
   (refine' ax)
   rw[if_neg ag];first
                   |exact Eq.trans (b:=ve none) rfl (fI ve (if_pos (F9.2 (.inl hg))).symm)
                   |exact Eq.trans (b:=ve none) rfl (fI ve (if_pos (F9.2 (.inr hc))).symm)
                   |exact Eq.trans (b:=ve (some _)) rfl (fI ve (if_neg (λh=>(F9.1 h).elim (λh=>tf h hg) (λh=>tf h hc))).symm)
theorem lj {st:ar}(h:dv 100000 st){t:bX}(ht:eb t):(iq st t).length=t.many.toNat/\∀s∈iq st t,s.length<=3000:=by
 have hw:=(rm (st:=st) ht).2.1;have hm:=ht.mn;unfold iq;refine⟨by rw[ux,cZ,hw];omega,λs hs=>?_⟩;obtain⟨p,_,rfl⟩:=kO.1 hs;exact Md h p
theorem drop_cons {α:Type}{sz:Nat}[ak α sz]{q:List α}{i:Nat}(hi:i<q.length):q.drop i=q.getD i (ak.ah (α:=α) (sz:=sz))::q.drop (i+1):=by
 rw[wA hi,pC _ hi]
theorem Mh (s:St)(v:SA)(st:ar)(h:dv 100000 st)(t:bX)(ht:eb t)(hr:cK s v st):bP 208 [fD v st,tv t] s (iH v) (acX (oA st t)):=by
 have tL:=Rd.Eg hr;have uj:=Rd.off hr;have uq:=Rd.Cr hr;obtain⟨hl,du⟩:=lj h ht;have hm:=ht.mn;refine aU f208 ?_;(refine' Xl)
 unfold oA;generalize iq st t=w at *
 refine W.bN (λk l L=>∃(i bt:Nat)(z:aA),Le [(3,bc bt),(7,.slice gx w.length gy),(6,sv z),(8,iv i)] l/\cz [.aN (.slice gx w.length gy) 9 1 (ai w),.box bt (hU t) 85 false] L/\k=w.length-i/\i<=w.length/\z.length<=i*3000/\pb t.many 0 w []=pb t.many i (w.drop i) z)
  (λl L=>∃z:aA,Le [(6,sv z)] l/\cz [] L/\pb t.many 0 w []=some z) w.length ⟨0,_,[],bk,au,ag,ag,by simp,rfl⟩ ?_ ?_
 .rintro k l L ⟨i,bt,z,jG,hL,rfl,h1,h2,h3⟩;refine W.le ?_ jG hL;clear jG hL;by_cases hi:i<w.length
  .have Q7:=du _ (aJ hi ak.ah);rw[drop_cons hi,pb] at h3;(refine' cU)
   .have hn:pb t.many 0 w []=none:=by
     rw[h3,if_pos];simp only[mS,bU,bQ];exact .inr ⟨by assumption,ag⟩
    rw[hn];(refine' ax);rfl
   .rw[if_neg (by simp only[mS,bU,bQ];rintro(hx|⟨_,hx⟩)<;>first|exact absurd hx (by assumption)|omega)] at h3;refine⟨_,?_,i+1,_,_,bk,au,rfl,ag,?_,h3⟩
    .omega
    .rw[bJ];omega
   .rw[if_neg (by simp only[mS,bU,bQ];rintro(hx|⟨_,hx⟩)<;>first|exact absurd hx (by assumption)|omega)] at h3;refine⟨_,?_,i+1,_,_,bk,au,rfl,ag,?_,h3⟩
    .omega
    .rw[bJ];omega
   .have hn:pb t.many 0 w []=none:=by
     rw[h3,if_pos];simp only[mS,bU,bQ];exact .inl um
    rw[hn];(refine' ax);rfl
   .exfalso;omega
  .have fE:i=w.length:=by omega
   subst fE;rw[iD] at h3;(refine' cU)
   all_goals first|(exfalso;omega;done)|exact⟨z,bk,au,h3⟩
 .rintro l L ⟨z,jG,hL,h3⟩;refine aq ?_;refine W.le ?_ jG hL;(refine' cU)
  (refine' ax);rw[h3];rfl
theorem Bv (s:St)(z:aA)(hz:z.length<=100000):fa a8 bj 245 [sv z] s [] 9 (dw (z.length+1) z):=by
 refine aU f245 ?_;(repeat(first|refine' xz|refine' aw|fail))
 refine W.bN (λk l L=>∃(f:Nat)(y:aA)(q:List aA)(a:aK)(c:Nat),Le [(0,sv y),(3,.slice a q.length c)] l/\cz [.aN (.slice a q.length c) 9 1 (ai q)] L/\k=y.length/\y.length<f/\q.length+y.length<=z.length/\dw (z.length+1) z=q++dw f y)
  (λl L=>∃(y:aA)(q:List aA)(a:aK)(c:Nat),Le [(0,sv y),(3,.slice a q.length c)] l/\cz [.aN (.slice a q.length c) 9 1 (ai q)] L/\q.length<=z.length/\dw (z.length+1) z=q++if y=[] then [] else [y]) z.length ⟨z.length+1,z,[],_,_,bk,au,rfl,ag,by simp,by simp⟩ ?_ ?_
 .rintro k l L ⟨f,y,q,a,c,hl,hL,rfl,h1,h2,h3⟩;refine W.le ?_ hl hL;clear hl hL;obtain⟨f,rfl⟩:∃g,f=g+1:=⟨f-1,ag⟩;rw[show dw (f+1) y=if 128<y.length then y.take 128::dw f (y.drop 128) else if y=[] then [] else [y] from rfl] at h3;(refine' cU)
  .rw[if_pos ag] at h3;refine⟨_,?_,f,y.drop 128,q++[y.take 128],_,_,bk,au,rfl,?_,?_,?_⟩
   .rw[gd];omega
   .rw[gd];omega
   .simp only[bJ,gd,cY,mJ];omega
   .rw[h3];simp
  .rw[if_neg ag] at h3;exact⟨y,q,_,_,bk,au,ag,h3⟩
 .rintro l L ⟨y,q,a,c,hl,hL,h1,h3⟩;refine aq ?_;refine W.le ?_ hl hL;clear hl hL;rw[h3];by_cases hy:y=[]
  .subst hy;(refine' cU)
   all_goals first|(exfalso;simp_all;done)|((refine' lN);simp)
  .rw[if_neg hy];(refine' cU)
   all_goals first|(exfalso;simp_all;done)|((refine' lN);rfl)
theorem AA (s:St)(v:SA)(st:ar)(h:dv 100000 st)(t:bX)(ht:eb t)(k:Int)(hk: -1000<=k/\k<=1000)(hr:cK s v st):bP 200 [fD v st,tv t,iv k] s (iH v) (ve (jj st t k)):=by
 have tL:=Rd.Eg hr;have uj:=Rd.off hr;have uq:=Rd.Cr hr;have hm:=ht.mn;by_cases hi:fR k 0 (t.many-1)=true
 .have hkr:0<=k/\k<=t.many-1:=by simpa[fR] using hi
  obtain⟨n,rfl⟩:=wB hkr.1;have gL:(Sr st t n).length<=3000:=Md h _;have hn:(!fR (n:Int) 0 (t.many-1))=false:=by rw[hi];rfl
  unfold jj;rw[if_neg (by rw[hi];simp),uy];refine aU f200 ?_;(repeat' (first|refine' a7|refine' NI|((with_reducible apply WO.mj);exact aE;(first|exact λs hr=>Me s _ _ (by assumption) _ (by assumption) _ ag hr|exact λs hr=>Me s _ _ (by assumption) ⟨⟨_,_,_,_,_⟩,_,_⟩ (by assumption) _ ag hr);exact eC;intro _ _ _ _)|((with_reducible apply WO.bI);exact aE;(first|exact λs=>tM s _ ag);intro _ _ _ _)|refine' aw|fail))
  (refine' ax)
  cases eP (Sr st t n)<;>rfl
 .have fE:fR k 0 (t.many-1)=false:=by simpa using hi
  have hn:(!fR k 0 (t.many-1))=true:=by rw[fE];rfl
  unfold jj;rw[if_pos hn];refine aU f200 ?_;(refine' zb2)
  (refine' ax)
  rfl
theorem Pc (s:St)(v:SA)(st:ar)(h:dv 100000 st)(t:bX)(ht:eb t)(hr:cK s v st):bP 155 [fD v st,tv t] s (iH v) (iv (Hu (uR st t))):=by
 have tL:=Rd.Eg hr;have uj:=Rd.off hr;have uq:=Rd.Cr hr;obtain⟨hl,du⟩:=lj h ht;have hm:=ht.mn;refine aU f155 ?_;(refine' Xl)
 unfold uR;generalize iq st t=w at *
 refine W.bN (λk l L=>∃(i:Nat),Le [(5,.slice gx w.length gy),(6,iv i)] l/\cz [.aN (.slice gx w.length gy) 9 1 (ai w)] L/\k=16-i/\i<=16/\nM (λk=>decide (w.getD k []=[])) 16 0=nM (λk=>decide (w.getD k []=[])) (16-i) i)
  (λl L=>nM (λk=>decide (w.getD k []=[])) 16 0=none) 16 ⟨0,bk,au,ag,ag,rfl⟩ ?_ ?_
 .rintro k l L ⟨i,jG,hL,rfl,h1,h2⟩;refine W.le ?_ jG hL;clear jG hL;by_cases hi:i<16
  .rw[xL (n:=16-i) (i:=i) ag] at h2;by_cases hiw:i<w.length
   ·(refine' cU)
    all_goals try exact pq
    .rw[show nM (λk=>decide (w.getD k []=[])) 16 0=some i from h2.trans (if_pos (dt j3))];(refine' ax);rfl
    .refine⟨_,?_,i+1,bk,au,rfl,ag,?_⟩
     .omega
     .exact h2.trans (if_neg (by rw[bQ];exact j3))
   .have aeO:w.getD i []=[]:=by rw[aR,rT ag];rfl
    (refine' cU)
    all_goals try exact pq
    rw[show nM (λk=>decide (w.getD k []=[])) 16 0=some i from h2.trans (if_pos (dt aeO))];(refine' ax);rfl
  .have fE:i=16:=by omega
   subst fE;(refine' cU)
   all_goals first|(exfalso;omega;done)|exact h2
 .rintro l L h1;refine aq ?_;refine W.le ?_ (Le.nil _) (cz.nil _);(refine' cU)
  (refine' ax);rw[h1];rfl
theorem Pd (s:St)(v:SA)(st:ar)(h:dv 100000 st)(t:bX)(ht:eb t)(Be:Int)(hr:cK s v st):bP 201 [fD v st,tv t,iv Be] s (iH v) (iv (ra st t Be)):=by
 have tL:=Rd.Eg hr;have uj:=Rd.off hr;have uq:=Rd.Cr hr;obtain⟨hl,du⟩:=lj h ht;have hm:=ht.mn;refine aU f201 ?_;(refine' Xl)
 unfold ra;generalize iq st t=w at *
 refine W.bN (λk l L=>∃(i n bt:Nat),Le [(2,iv Be),(4,bc bt),(7,iv n),(8,.slice gx w.length gy),(9,iv i)] l/\cz [.aN (.slice gx w.length gy) 9 1 (ai w),.box bt (hU t) 85 false] L/\k=w.length-i/\i<=w.length/\mg Be 0 0 w=mg Be i n (w.drop i))
  (λl L=>Le [(7,iv (mg Be 0 0 w))] l/\cz [] L) w.length ⟨0,0,_,bk,au,ag,ag,rfl⟩ ?_ ?_
 .rintro k l L ⟨i,n,bt,jG,hL,rfl,h1,h2⟩;refine W.le ?_ jG hL;clear jG hL;by_cases hi:i<w.length
  .rw[drop_cons hi,mg] at h2;(refine' cU)
   all_goals try exact pq
   .rw[if_pos (by simp only[bU,bQ];exact⟨um,j3⟩)] at h2;refine⟨_,?_,i+1,i+1,_,bk,au,rfl,ag,h2⟩;omega
   .rw[if_neg (by simp only[bU,bQ];rintro⟨_,hx⟩;exact hx j3)] at h2;refine⟨_,?_,i+1,n,_,bk,au,rfl,ag,h2⟩;omega
   .rw[if_neg (by simp only[bU,bQ];rintro⟨hx,_⟩;exact hx um)] at h2;refine⟨_,?_,i+1,n,_,bk,au,rfl,ag,h2⟩;omega
  .have fE:i=w.length:=by omega
   subst fE;rw[iD] at h2;have h2:mg Be 0 0 w=n:=h2;(refine' cU)
   all_goals first|(exfalso;omega;done)|(rw[h2];exact⟨bk,au⟩)
 .rintro l L ⟨jG,hL⟩;refine aq ?_;refine W.le ?_ jG hL;(refine' cU)
  (refine' ax);rfl
theorem lQ {q:eG}{k:Int}{t:Nat}(h:kM q k=some t):t<q.length:=(oC.1 h).1
theorem Tv (s:St)(b:Nat)(a:aK)(c:Nat)(p:List a6)(a':aK)(c':Nat)(q:eG)(hs:gi q)(hq:q.length<=1000)(k:Int)(t:Nat)(ht:kM q k=some t)(hr:iQ s b a c p a' c' q):bP 287 [bc b,iv k] s (qN b a a') (.bool (q.getD t ak.ah).aD):=by
 have NL:=Ht.x hr;have oR:=Ht.n hr;have qI:=Ht.t hr;have ku:∀s,iQ s b a c p a' c' q->bP 30 [bc b,iv k] s (qN b a a') (de a' t 3 0):=λs hr=>by
  have:=fT s b a c p a' c' q hs hq k hr;rw[ht] at this;exact this
 have pz:=lQ ht;refine aU f287 ?_;(repeat' (first|refine' a7|refine' SQ|refine' aaC|refine' aw|fail))
 all_goals(refine' ax)
 all_goals rfl
theorem Mi (s:St)(b:Nat)(a:aK)(c:Nat)(p:List a6)(a':aK)(c':Nat)(q:eG)(hp:p.length<=1000)(k:Int)(hr:iQ s b a c p a' c' q):bP 90 [bc b,iv k] s (qN b a a') (iv ((p.countP λx=>decide (x.id=k):Nat):Int)):=by
 have NL:=Ht.x hr;have oR:=Ht.n hr;refine aU f90 ?_;(refine' cU)
 refine W.bN (λm l L=>∃(i n:Nat),Le [(1,iv k),(5,iv (n:Int)),(11,.slice a p.length c),(12,iv (p.length:Int)),(13,iv (i:Int))] l/\cz [] L/\m=p.length-i/\i<=p.length/\n<=i/\(p.countP λx=>decide (x.id=k))=n+(p.drop i).countP λx=>decide (x.id=k))
  (λl L=>Le [(5,iv ((p.countP λx=>decide (x.id=k):Nat):Int))] l/\cz [] L) _ ⟨0,0,bk,au,rfl,ag,ag,by simp⟩ ?_ ?_
 .rintro m l L ⟨i,n,hl,hL,rfl,h1,h2,h3⟩;refine W.le ?_ hl hL;clear hl hL;by_cases hi:i<p.length
  .rw[drop_cons hi,iC] at h3;(refine' cU)
   all_goals try refine cM
   .refine⟨_,ag,i+1,n+1,bk,au,rfl,ag,ag,?_⟩;rw[h3,if_pos (by rw[bQ];assumption)];omega
   .refine⟨_,ag,i+1,n,bk,au,rfl,ag,ag,?_⟩;rw[h3,if_neg (by rw[bQ];assumption)];omega
  .have fE:i=p.length:=by omega
   subst fE;rw[iD,Ki,wY] at h3;rw[h3];(refine' cU)
   all_goals try refine cM
   all_goals exact⟨bk,au⟩
 .rintro l L ⟨hl,hL⟩;refine aq ?_;refine W.le ?_ hl hL;clear hl hL;(refine' cU)
  all_goals(refine' ax)
  all_goals rfl
def inB (p:List a6)(k:Int)(x:a6):Bool:=decide ((av x.af).2≠[])&&decide (ldI p (av x.af).1=k)
def enI (p:List a6)(k:Int):Nat:=p.countP (inB p k)
theorem Pe (s:St)(b:Nat)(a:aK)(c:Nat)(p:List a6)(a':aK)(c':Nat)(q:eG)(hs:kE p)(hp:p.length<=1000)(rD:∀x∈p,x.af.length<=5000)(k:Int)(hr:iQ s b a c p a' c' q):bP 286 [bc b,iv k] s (qN b a a') (iv (enI p k:Int)):=by
 have NL:=Ht.x hr;have oR:=Ht.n hr;have qI:=Ht.t hr;have I6:∀s z,iQ s b a c p a' c' q->bP 21 [bc b,sv z] s (qN b a a') (iv (ldI p z)):=λs z hr=>Q6 s b a c p a' c' q hs hp z hr
 refine aU f286 ?_;(refine' cU)
 refine W.bN (λm l L=>∃(i n:Nat),Le [(0,bc b),(1,iv k),(5,iv (n:Int)),(13,.slice a p.length c),(14,iv (p.length:Int)),(15,iv (i:Int))] l/\cz [] L/\m=p.length-i/\i<=p.length/\n<=i/\enI p k=n+(p.drop i).countP (inB p k))
  (λl L=>Le [(5,iv (enI p k:Int))] l/\cz [] L) _ ⟨0,0,bk,au,rfl,ag,ag,by simp[enI]⟩ ?_ ?_
 .rintro m l L ⟨i,n,hl,hL,rfl,h1,h2,h3⟩;refine W.le ?_ hl hL;clear hl hL;by_cases hi:i<p.length
  .have ans:=rD _ (aJ hi ak.ah);rw[drop_cons hi,iC] at h3;unfold inB at h3;(repeat' (first|refine' a7|refine' ahk|refine' qL|refine' aw|fail))
   all_goals try refine cM
   all_goals first
    |(refine⟨_,ag,i+1,n+1,bk,au,rfl,ag,ag,?_⟩;rw[h3,if_pos (by rw[bU,bQ,bQ];exact⟨by assumption,by assumption⟩)];unfold inB;omega)
    |(refine⟨_,ag,i+1,n,bk,au,rfl,ag,ag,?_⟩;rw[h3,if_neg (by rw[bU,bQ,bQ];exact λh=>by simp_all)];unfold inB;omega)
  .have fE:i=p.length:=by omega
   subst fE;rw[iD,Ki,wY] at h3;rw[h3];(refine' cU)
   all_goals try refine cM
   all_goals exact⟨bk,au⟩
 .rintro l L ⟨hl,hL⟩;refine aq ?_;refine W.le ?_ hl hL;clear hl hL;(refine' cU)
  all_goals(refine' ax)
  all_goals rfl
def Jo (q:eG):Nat->Nat->Int
 |0,_=>-1
 |n+1,k=>if(kM q (k:Int)).isNone then(k:Int) else Jo q n (k+1)
theorem Tw (q:eG)(n k:Nat):Jo q (n+1) k=if(kM q (k:Int)).isNone then(k:Int) else Jo q n (k+1):=rfl
theorem abg (s:St)(b:Nat)(a:aK)(c:Nat)(p:List a6)(a':aK)(c':Nat)(q:eG)(hs:gi q)(hq:q.length<=1000)(hr:iQ s b a c p a' c' q):bP 86 [bc b] s (qN b a a') (iv (Jo q 16 0)):=by
 have NL:=Ht.x hr;have oR:=Ht.n hr;have qI:=Ht.t hr;refine aU f86 ?_;(refine' cU)
 refine W.bN (λm l L=>∃(i:Nat),Le [(0,bc b),(4,iv (i:Int))] l/\cz [] L/\m=16-i/\i<=16/\Jo q 16 0=Jo q (16-i) i)
  (λl L=>Le [] l/\cz [] L/\Jo q 16 0= -1) _ ⟨0,bk,au,rfl,ag,rfl⟩ ?_ ?_
 .rintro m l L ⟨i,hl,hL,rfl,h1,h3⟩;refine W.le ?_ hl hL;clear hl hL;by_cases hi:i<16
  .rw[show 16-i=(16-(i+1))+1 by omega,Tw q (16-(i+1)) i] at h3;cases ht:kM q (i:Int) with
   |none=>
    have ku:∀s,iQ s b a c p a' c' q->bP 30 [bc b,iv (i:Int)] s (qN b a a') (.pointer none):=λs hr=>by
     have:=fT s b a c p a' c' q hs hq (i:Int) hr;rw[ht] at this;exact this
    rw[ht,if_pos (show(none:Option Nat).isNone=true from rfl)] at h3;(repeat' (first|refine' a7|refine' SQ|refine' ahl|refine' aw|fail))
    all_goals try refine cM
    all_goals(refine' ax)
    all_goals(rw[h3];rfl)
   |some t=>
    have ku:∀s,iQ s b a c p a' c' q->bP 30 [bc b,iv (i:Int)] s (qN b a a') (de a' t 3 0):=λs hr=>by
     have:=fT s b a c p a' c' q hs hq (i:Int) hr;rw[ht] at this;exact this
    have pz:=lQ ht;rw[ht,if_neg (show ¬(some t).isNone=true from jT)] at h3;(repeat' (first|refine' a7|refine' SQ|refine' ahm|refine' aw|fail))
    all_goals try refine cM
    all_goals exact⟨_,ag,i+1,bk,au,rfl,ag,h3⟩
  .have fE:i=16:=by omega
   subst fE;(refine' cU)
   all_goals try refine cM
   all_goals exact⟨bk,au,h3⟩
 .rintro l L ⟨hl,hL,h3⟩;refine aq ?_;refine W.le ?_ hl hL;clear hl hL;rw[h3];(refine' cU)
  all_goals(refine' ax)
  all_goals rfl
theorem Q8 {f:FuncId}{fn:Func}{args:aQ}{s:St}{v:Value}(h1:a8.fn.get f=some fn)(h2:∀k,yu bj f args s k=some (v,s)):bP f args s [] v:=λh3 h4 h5=>sr.adN h1 (s':=s) (v:=v) h2 ⟨[],⟨λ_ _ _=>rfl,cA _,λx hx=>(by cases hx),λx hx=>(by cases hx),CE,λb hb=>.inl hb,λb hb=>.inl hb,λb hb=>.inl hb,λb hb=>.inl hb⟩,rfl,rfl⟩
theorem Pf (s:St)(z:aA)(hz:z∈Ev.cB):bP 13 [sv z] s [] (.bool (aT z)):=Q8 (fn:=f13) cV λk=>by
 show eg (decide (z∈Ev.cB)) (aL (.bool (aT z)) s)=_;rw[dt hz];rfl
theorem DB (s:St)(z:aA)(hz:z∈Ev.cB):bP 85 [sv z] s [] (sv (Ev.db z)):=Q8 (fn:=f85) cV λk=>by
 show eg (decide (z∈Ev.cB)) (aL (sv (Ev.db z)) s)=_;rw[dt hz];rfl
theorem FK (s:St)(z t:aA)(hz:z∈Ev.cB/\t∈Ev.cB/\aT z=true/\aT t=true):bP 12 [sv z,sv t] s [] (.bool (under z t)):=Q8 (fn:=f12) cV λk=>by
 show eg (decide (z∈Ev.cB/\t∈Ev.cB/\aT z=true/\aT t=true)) (aL (.bool (under z t)) s)=_;rw[dt hz];rfl
end Go.Pl
