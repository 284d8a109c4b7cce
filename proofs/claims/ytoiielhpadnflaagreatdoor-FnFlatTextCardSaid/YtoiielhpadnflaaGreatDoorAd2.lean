/- Lemmas of the proof. No conditions. -/
import Derived.Test.YtoiielhpadnflaaGreatDoorAd1
set_option maxRecDepth 100000
set_option maxHeartbeats 4000000
set_option linter.unusedVariables false
set_option linter.unusedSimpArgs false
open Go.Proofs.Tryz
namespace Go.Pl
open Go Go.Ev Go.Lg Go.Proofs
variable {i:Nat}{z:aC}{E:iq}{X:fY}{Γ:qN}{L L' R:dy}{K:KO}{x y:Operand}{c e b:Nat}{w:aC}{enc:aq UInt8 1}{cs:aY}{xs:List Operand}{ts:Array TypeId}{vs:aY}{A:List Nat}{st:ar}{n:Nat}{p:List bE}{m:Int}{q:c9}
section
variable {n:Int}
theorem MI {n:Nat}(h:down st (n+1:Nat) q=none):gR.go st (n+1) q=none:=by rw[gR.go,h]
theorem T6 {p:jt}(hp:p∈q)(h:below st p n=none):down st n q=none:=by
 cases hd:down st n q with
 |none=>rfl
 |some r=>have:=Pg.y8 hd p hp;rw[h] at this;cases this
theorem T7 {q r:c9}{i:Nat}(hi:i<q.length)(h:down st n (q.take i)=some r){k:c9}(hk:below st (q.getD i aq.ah) n=some k):down st n (q.take (i+1))=some (r++k):=by rw[fG q aq.ah hi];have:=Pg.pX hk (Pg.LN st n);rw[gJ] at this;exact Pg.DS h this
theorem vt (s:St)(v:SA)(st:ar)(h:dv 100000 st)(t:cB)(ht:dZ t)(hr:cS s v st):jF bf bw 212 [fI v st,tv t] s (iH v) 73 ((gR st t).getD []) (gR st t).isSome:=by
 have tO:=Rd.EJ hr;have uB:=Rd.off hr;have uF:=Rd.CI hr;have hdp:=ht.dp;refine aX f212 ?_;(repeat(first|refine' xX|refine' av|fail))
 have h4:∀n:Nat,n<=2->4^ n<=16:=λn hn=>by
  have:n=0\/n=1\/n=2:=by omega
  rcases this with rfl|rfl|rfl<;>decide
 refine W.bK (λk l L=>∃(n:Nat)(q:c9)(a:aS)(c bs:Nat),Le [(2,bk bs),(6,.slice a q.length c),(7,iv n)] l/\cx [.aQ (.slice a q.length c) 73 5 (ai q),.box bs (rS v st) 71 false] L/\k=n/\q.length*4^ n<=16/\gR st t=gR.go st n q/\n<=2)
  (λl L=>∃(q:c9)(a:aS)(c:Nat),Le [(6,.slice a q.length c)] l/\cx [.aQ (.slice a q.length c) 73 5 (ai q)] L/\gR st t=some q) t.depth.toNat ⟨t.depth.toNat,[t.cG],some ⟨bl,0,none⟩,1,_,(by rw[Bg hdp.1];exact bp),au,rfl,?_,rfl,af⟩ ?_ ?_
 .have:=h4 t.depth.toNat af;simpa using this
 .rintro k l L ⟨n,q,a,c,bs,hl,hL,hk,h1,h2,GW⟩;refine W.le ?_ hl hL;clear hl hL;subst hk;cases k with
  |zero=>
   refine' cM;(all_goals try exact pE);exact⟨q,a,c,bp,au,h2⟩
  |succ n=>
   have anG:q.length<=16:=by
    have:1<=4^ (n+1):=Nat.pow_pos af;exact gu (Vr _ this) h1
   have HQ:∀p∈q,below st p ((n+1:Nat):Int)=none->gR st t=none:=λp hp hb=>by
    rw[h2,MI (T6 hp hb)]
   refine' cM
   rotate_left 1
   .exfalso;omega
   refine W.bK (λk l L=>∃(i:Nat)(r:c9)(a2:aS)(c2:Nat),Le [(2,bk bs),(6,.slice a q.length c),(7,iv ((n+1:Nat):Int)),(8,.slice a2 r.length c2),(9,iv i)] l/\cx [.aQ (.slice a2 r.length c2) 73 5 (ai r),.aQ (.slice a q.length c) 73 5 (ai q),.box bs (rS v st) 71 false] L/\k=q.length-i/\i<=q.length/\down st ((n+1:Nat):Int) (q.take i)=some r)
    (λl L=>∃(r:c9)(a2:aS)(c2:Nat),Le [(2,bk bs),(7,iv ((n+1:Nat):Int)),(8,.slice a2 r.length c2)] l/\cx [.aQ (.slice a2 r.length c2) 73 5 (ai r),.box bs (rS v st) 71 false] L/\down st ((n+1:Nat):Int) q=some r) q.length ⟨0,[],_,_,bp,au,af,af,rfl⟩ ?_ ?_
   .rintro k l L ⟨i,r,a2,c2,hl,hL,rfl,h3,h4⟩;refine W.le ?_ hl hL;clear hl hL;have VV:=(Pg.y7 h4).1;rw[cO] at VV;have PF:((below st (q.getD i aq.ah) ((n+1:Nat):Int)).getD []).length<=4:=by
     cases hb:below st (q.getD i aq.ah) ((n+1:Nat):Int) with
     |none=>simp
     |some w=>have:=(Pg.iR hb).1;simp;omega
    repeat' (first|refine' aZ|refine' abg|refine' av|fail)
    .have hn:below st (q.getD i aq.ah) ((n+1:Nat):Int)=none:=by
      cases hb:below st (q.getD i aq.ah) ((n+1:Nat):Int) with
      |none=>rfl
      |some w=>rw[hb] at j5;cases j5
     rw[HQ _ (aL (show i<q.length by omega) _) hn];(refine' fa)<;>rfl
    .obtain⟨w,hw⟩:=lV.1 j5;rw[hw];refine⟨_,?_,i+1,r++w,_,_,bp,au,rfl,af,T7 af h4 hw⟩;omega
    .have hi:i=q.length:=by omega
     subst hi;rw[fU] at h4;exact⟨r,_,_,bp,au,h4⟩
   .rintro l L ⟨r,a2,c2,hl,hL,h3⟩;refine ak ?_;refine W.le ?_ hl hL;clear hl hL;have VV:=(Pg.y7 h3).1;refine' cM
    refine⟨_,?_,n,r,_,_,_,?_,au,rfl,?_,?_,af⟩
    .omega
    .have:((n+1:Nat):Int)-1=(n:Nat):=by omega
     rw[this];exact bp
    .rw[VV];rw[Vq] at h1;have:4*q.length*4^ n=q.length*(4^ n*4):=by rw[GA 4,Nat.mul_assoc,GA 4]
     omega
    .rw[h2,gR.go,h3]
 .rintro l L ⟨q,a,c,hl,hL,h1⟩;refine ak ?_;refine W.le ?_ hl hL;clear hl hL;rw[h1];refine' cM
  (refine' fa)<;>rfl
end
section
variable {t:cB}
theorem HX {st:ar}(ht:dZ t){l:c9}(h:gR st t=some l):l.length<=16/\∀p∈l,bB p=true:=by
 unfold gR at h;rw[Pg.rn] at h;cases hl:Pg.pK st t.depth.toNat [t.cG] with
 |none=>rw[hl] at h;cases h
 |some r=>
  rw[hl] at h;obtain⟨a,q⟩:=r;have h:a=l:=by simpa using h
  subst h;obtain⟨h1,h2⟩:=Pg.DW hl;refine⟨?_,h2 (by simpa using ht.rt)⟩;have hd:=ht.dp;have:t.depth.toNat=0\/t.depth.toNat=1\/t.depth.toNat=2:=by omega
  rw[h1];rcases this with h|h|h<;>rw[h]<;>simp
theorem rA {st:ar}(ht:dZ t):((gR st t).getD []).length<=16/\(wide st t).length=16/\∀p∈wide st t,bB p=true:=by
 unfold wide;cases h:gR st t with
 |none=>exact⟨ay,by simp[da],λp hp=>by
  have hp:p∈da 16:=by simpa using hp
  rw[Pg.mJ hp];decide⟩
 |some l=>
  obtain⟨h1,h2⟩:=HX ht h;refine⟨h1,by simp[da];omega,λp hp=>?_⟩;rcases eW.1 hp with hp|hp
  .exact h2 p hp
  .rw[Pg.mJ hp];decide
theorem Hz (s:St)(v:SA)(st:ar)(h:dv 100000 st)(t:cB)(ht:dZ t)(hr:cS s v st):eu bf bw 169 [fI v st,tv t] s (iH v) 73 (wide st t):=by
 have tO:=Rd.EJ hr;have uB:=Rd.off hr;have uF:=Rd.CI hr;have hw:=(rA (st:=st) ht).1;have hh:(da (16-(((gR st t).getD []).length:Int)).toNat).length<=16:=by rw[Pg.jl];omega
 refine aX f169 ?_;repeat' (first|refine' aZ|refine' ah1|refine' ae0|refine' av|fail)
 refine' jo;unfold wide;simp only[pF]
 congr 2
 omega
theorem MJ {st:ar}(h:dv 100000 st)(p:jt):(a8 st p).length<=3000:=HW h p
theorem MK (s:St)(v:SA)(st:ar)(h:dv 100000 st)(t:cB)(ht:dZ t)(k:Nat)(hk:k<16)(hr:cS s v st):bL 259 [fI v st,tv t,iv k] s (iH v) (sv (Dx st t k)):=by
 have tO:=Rd.EJ hr;have uB:=Rd.off hr;have uF:=Rd.CI hr;obtain⟨_,hw,ML⟩:=rA (st:=st) ht;have FD:bB ((wide st t).getD k aq.ah)=true:=ML _ (aL af _);refine aX f259 ?_;repeat' (first|refine' aZ|refine' Eh|refine' AK|refine' av|fail)
 refine' ax;rfl
theorem Ej (s:St)(v:SA)(st:ar)(h:dv 100000 st)(t:cB)(ht:dZ t)(hr:cS s v st):eu bf bw 110 [fI v st,tv t] s (iH v) 9 (ij st t):=by
 have tO:=Rd.EJ hr;have uB:=Rd.off hr;have uF:=Rd.CI hr;obtain⟨_,hw,ML⟩:=rA (st:=st) ht;have yr:=ht.mn;refine aX f110 ?_;repeat' (first|refine' aZ|refine' Eh|refine' av|fail)
 rw[show ij st t=((wide st t).take t.many.toNat).map (a8 st) from rfl];generalize wide st t=w at *
 refine W.bK (λk l L=>∃(i bs bt:Nat)(r:List aC)(a2:aS)(c2:Nat),Le [(2,bk bs),(3,bk bt),(6,.slice Mg w.length Mh),(5,.slice a2 r.length c2),(7,iv i)] l/\cx [.aQ (.slice a2 r.length c2) 9 1 (ai r),.aQ (.slice Mg w.length Mh) 73 5 (ai w),.box bs (rS v st) 71 false,.box bt (hU t) 75 false] L/\k=t.many.toNat-i/\i<=t.many.toNat/\r=(w.take i).map (a8 st))
  (λl L=>∃(a2:aS)(c2:Nat),Le [(5,.slice a2 ((w.take t.many.toNat).map (a8 st)).length c2)] l/\cx [.aQ (.slice a2 ((w.take t.many.toNat).map (a8 st)).length c2) 9 1 (ai ((w.take t.many.toNat).map (a8 st)))] L) t.many.toNat ⟨0,_,_,[],_,_,bp,au,af,af,rfl⟩ ?_ ?_
 .rintro k l L ⟨i,bs,bt,r,a2,c2,hl,hL,rfl,h1,h2⟩;refine W.le ?_ hl hL;clear hl hL;have VV:r.length<=16:=by rw[h2];simp;omega
  by_cases hi:i<t.many.toNat
  .have FD:bB (w.getD i aq.ah)=true:=ML _ (aL af _);repeat' (first|refine' aZ|refine' AK|refine' av|fail)
   .refine⟨_,?_,i+1,_,_,r++[a8 st (w.getD i aq.ah)],_,_,bp,au,rfl,af,?_⟩
    .omega
    .rw[h2,fG w aq.ah af];simp
   all_goals(exfalso;omega)
  .have fb:i=t.many.toNat:=by omega
   subst fb;subst h2;(repeat' (first|refine' aZ|refine' AK|refine' av|fail));all_goals first|(exfalso;omega;done)|exact⟨_,_,bp,au⟩
 .rintro l L ⟨a2,c2,hl,hL⟩;refine ak ?_;refine W.le ?_ hl hL;clear hl hL;refine' cM
  refine' jo;rfl
theorem TS (s:St)(a:aS)(c:Nat)(p:c9)(hp:p.length<=3000)(hr:bM s a p.length 5 (ai p)):bL 280 [.slice a p.length c] s (aj a) (.bool (p.all aK)):=by
 have hd:=Rd.of hr (A:=aj a) λb hb=>hb
 refine aX f280 ?_;(repeat(first|refine' xX|refine' av|fail))
 refine W.bK (λk l L=>∃(i:Nat),Le [(0,.slice a p.length c),(3,iv i)] l/\cx [] L/\k=p.length-i/\i<=p.length/\(p.take i).all aK=true)
  (λl L=>p.all aK=true) p.length ⟨0,bp,au,af,af,rfl⟩ ?_ ?_
 .rintro k l L ⟨i,hl,hL,rfl,h1,h2⟩;refine W.le ?_ hl hL;clear hl hL;by_cases hi:i<p.length
  .have e:=fG p aq.ah hi;refine' Ce
   ·(refine' ax)
    have:p.all aK=false:=by
     rw[Gv];exact⟨_,aL hi aq.ah,by simp_all⟩
    rw[this];rfl
   .refine⟨_,?_,i+1,bp,au,rfl,af,?_⟩
    .omega
    .rw[e,Gu,h2];simp_all
   all_goals(exfalso;omega)
  .have fb:i=p.length:=by omega
   subst fb;rw[fU] at h2;refine' Ce;all_goals first|(exfalso;omega;done)|exact h2
 .rintro l L h1;refine ak ?_;refine W.le ?_ (Le.nil _) (cx.nil _);refine' cM
  refine' ax;rw[h1];rfl
end
theorem Rq (s:St)(v:SA)(st:ar)(h:dv 100000 st)(t:cB)(hr:cS s v st):bL 165 [fI v st,tv t] s (iH v) (.bool (fk st t)):=by
 have tO:=Rd.EJ hr;have uB:=Rd.off hr;have uF:=Rd.CI hr;by_cases hT:fM t.many 0 16=true/\t.depth=cQ t.many/\bB t.cG=true
 .obtain⟨h1,h2,h3⟩:=hT;have yr:0<=t.many/\t.many<=16:=by simpa[fM] using h1
  have ht:dZ t:=⟨h3,yr,by have:=Pg.fB t.many;omega⟩;have g1:(!fM t.many 0 16)=false:=by rw[h1];rfl
  have g2:(!decide (t.depth=cQ t.many))=false:=by simp[h2]
  have g3:(!bB t.cG)=false:=by rw[h3];rfl
  have F1:fk st t=match gR st t with
    |none=>false
    |some l=>kx (kT st t.many) 0 l:=by
   unfold fk;rw[h1,h3];simp[h2];rfl
  rw[F1];cases hl:gR st t with
  |none=>
   (have hs:(gR st t).isSome=false:=by rw[hl];rfl);refine aX f165 ?_;(repeat' (first|refine' aZ|refine' Od|refine' XO|refine' TF|refine' ah1|refine' av|fail));all_goals first|((refine' ax);rfl)|(exfalso;simp_all;done)
  |some q=>
   obtain⟨hq,hqo⟩:=HX ht hl;have wY:∀s,cS s v st->jF bf bw 212 [fI v st,tv t] s (iH v) 73 q true:=λs hr=>by
    have:=vt s v st h t ht hr;rw[hl] at this;exact this
   refine aX f165 ?_;(repeat' (first|refine' aZ|refine' Od|refine' XO|refine' TF|((with_reducible apply WO.tS);exact aD;exact λs hr=>wY s hr;exact ez;intro _ _ BM BN _ _)|refine' av|fail))
   refine W.bK (λk l L=>∃(i bs bt:Nat),Le [(2,bk bs),(3,bk bt),(5,.slice BM q.length BN),(7,iv i)] l/\cx [.aQ (.slice BM q.length BN) 73 5 (ai q),.box bs (rS v st) 71 false,.box bt (hU t) 75 false] L/\k=q.length-i/\i<=q.length/\kx (kT st t.many) 0 q=kx (kT st t.many) i (q.drop i))
    (λl L=>kx (kT st t.many) 0 q=true) q.length ⟨0,_,_,bp,au,af,af,rfl⟩ ?_ ?_
   .rintro k l L ⟨i,bs,bt,hl,hL,rfl,h4,h5⟩;refine W.le ?_ hl hL;clear hl hL;by_cases hi:i<q.length
    .have FD:bB (q.getD i aq.ah)=true:=hqo _ (aL hi _);have e:kx (kT st t.many) i (q.drop i)=(kT st t.many i (q.getD i aq.ah)&&kx (kT st t.many) (i+1) (q.drop (i+1))):=by
      rw[uQ hi,pO _ hi];rfl
     rw[e] at h5;(have pR:kT st t.many i (q.getD i aq.ah)=false->kx (kT st t.many) 0 q=false:=λhf=>by rw[h5,hf];rfl);(have hye:kT st t.many i (q.getD i aq.ah)=true->kx (kT st t.many) 0 q=kx (kT st t.many) (i+1) (q.drop (i+1)):=λhf=>by rw[h5,hf];rfl);have B8:kT st t.many i (q.getD i aq.ah)=(aK (q.getD i aq.ah)||((jT st (q.getD i aq.ah)).isSome&&decide ((q.getD i aq.ah).level=0)&&decide ((q.getD i aq.ah).di<=st.fH)&&decide ((i:Int)<t.many))):=rfl;repeat' (first|refine' aZ|refine' Hu|refine' AK|refine' av|fail)
     .refine⟨_,?_,i+1,_,_,bp,au,rfl,af,hye (by rw[B8,hc];rfl)⟩;omega
     rotate_left 1
     .refine⟨_,?_,i+1,_,_,bp,au,rfl,af,hye ?_⟩
      .omega
      .rw[B8];simp only[mh,bI,bR]
       right
       exact⟨⟨⟨aP,aP⟩,aP⟩,aP⟩
     rotate_left 3
     .exfalso;omega
     all_goals
      (have hh:aK (q.getD i aq.ah)=false:=by assumption);refine' ax;dsimp only
      have:kx (kT st t.many) 0 q=false:=by
       refine pR (Bool.eq_false_iff.2 λhx=>?_);rw[B8] at hx;simp only[mh,bI,bR] at hx;rcases hx with hx|⟨⟨⟨hx1,S2⟩,hx3⟩,hx4⟩
       .rw[hx] at hh;cases hh
       .first|omega|exact uw S2|(rw[hx1] at uw;cases uw)
      rw[this];rfl
    .have fb:i=q.length:=by omega
     subst fb;(repeat' (first|refine' aZ|refine' Hu|refine' AK|refine' av|fail));all_goals first|(exfalso;omega;done)|(rw[h5,kG];rfl)
   .rintro l L h5;refine ak ?_;refine W.le ?_ (Le.nil _) (cx.nil _);refine' cM
    refine' ax;dsimp only;rw[h5];rfl
 .have hf:fk st t=false:=by
   unfold fk;by_cases h1:fM t.many 0 16=true
   .by_cases h2:t.depth=cQ t.many
    .by_cases h3:bB t.cG=true
     .exact absurd ⟨h1,h2,h3⟩ hT
     .simp[h3]
    .simp[h2]
   .simp[h1]
  rw[hf];refine aX f165 ?_;repeat' (first|refine' aZ|refine' Od|refine' XO|refine' TF|refine' av|fail)
  all_goals first|((refine' ax);rfl)|(exfalso;simp_all;done)
theorem lh {st:ar}(h:dv 100000 st){t:cB}(ht:dZ t):(ij st t).length=t.many.toNat/\∀s∈ij st t,s.length<=3000:=by have hw:=(rA (st:=st) ht).2.1;have hm:=ht.mn;unfold ij;refine⟨by rw[uI,cO,hw];omega,λs hs=>?_⟩;obtain⟨p,_,rfl⟩:=lp.1 hs;exact MJ h p
theorem drop_cons {α:Type}{sz:Nat}[aq α sz]{q:List α}{i:Nat}(hi:i<q.length):q.drop i=q.getD i (aq.ah (α:=α) (sz:=sz))::q.drop (i+1):=by rw[uQ hi,pO _ hi]
theorem MM (s:St)(v:SA)(st:ar)(h:dv 100000 st)(t:cB)(ht:dZ t)(hr:cS s v st):bL 213 [fI v st,tv t] s (iH v) (adB (oH st t)):=by
 have tO:=Rd.EJ hr;have uB:=Rd.off hr;have uF:=Rd.CI hr;obtain⟨hl,dz⟩:=lh h ht;have hm:=ht.mn;refine aX f213 ?_;refine' Yj
 unfold oH;generalize ij st t=w at *
 refine W.bK (λk l L=>∃(i bt:Nat)(z:aC),Le [(3,bk bt),(7,.slice gF w.length gG),(6,sv z),(8,iv i)] l/\cx [.aQ (.slice gF w.length gG) 9 1 (ai w),.box bt (hU t) 75 false] L/\k=w.length-i/\i<=w.length/\z.length<=i*3000/\ph t.many 0 w []=ph t.many i (w.drop i) z)
  (λl L=>∃z:aC,Le [(6,sv z)] l/\cx [] L/\ph t.many 0 w []=some z) w.length ⟨0,_,[],bp,au,af,af,ay,rfl⟩ ?_ ?_
 .rintro k l L ⟨i,bt,z,jA,hL,rfl,h1,h2,h3⟩;refine W.le ?_ jA hL;clear jA hL;by_cases hi:i<w.length
  .have Rg:=dz _ (aL hi aq.ah);rw[drop_cons hi,ph] at h3;refine' cM
   .have hn:ph t.many 0 w []=none:=by
     rw[h3,if_pos];simp only[mh,bI,bR];exact .inr ⟨aP,af⟩
    rw[hn];refine' ax;rfl
   .rw[if_neg (by simp only[mh,bI,bR];rintro(hx|⟨_,hx⟩)<;>first|exact absurd hx aP|omega)] at h3;refine⟨_,?_,i+1,_,_,bp,au,rfl,af,?_,h3⟩
    .omega
    .rw[bn];omega
   .rw[if_neg (by simp only[mh,bI,bR];rintro(hx|⟨_,hx⟩)<;>first|exact absurd hx aP|omega)] at h3;refine⟨_,?_,i+1,_,_,bp,au,rfl,af,?_,h3⟩
    .omega
    .rw[bn];omega
   .have hn:ph t.many 0 w []=none:=by
     rw[h3,if_pos];simp only[mh,bI,bR];exact .inl uw
    rw[hn];refine' ax;rfl
   .exfalso;omega
  .have fb:i=w.length:=by omega
   subst fb;rw[kG] at h3;refine' cM;all_goals first|(exfalso;omega;done)|exact⟨z,bp,au,h3⟩
 .rintro l L ⟨z,jA,hL,h3⟩;refine ak ?_;refine W.le ?_ jA hL;refine' cM
  refine' ax;rw[h3];rfl
theorem BO (s:St)(z:aC)(hz:z.length<=100000):eu bf bw 258 [sv z] s [] 9 (dw (z.length+1) z):=by
 refine aX f258 ?_;(repeat(first|refine' xX|refine' av|fail))
 refine W.bK (λk l L=>∃(f:Nat)(y:aC)(q:List aC)(a:aS)(c:Nat),Le [(0,sv y),(3,.slice a q.length c)] l/\cx [.aQ (.slice a q.length c) 9 1 (ai q)] L/\k=y.length/\y.length<f/\q.length+y.length<=z.length/\dw (z.length+1) z=q++dw f y)
  (λl L=>∃(y:aC)(q:List aC)(a:aS)(c:Nat),Le [(0,sv y),(3,.slice a q.length c)] l/\cx [.aQ (.slice a q.length c) 9 1 (ai q)] L/\q.length<=z.length/\dw (z.length+1) z=q++if y=[] then [] else [y]) z.length ⟨z.length+1,z,[],_,_,bp,au,rfl,af,ay,ay⟩ ?_ ?_
 .rintro k l L ⟨f,y,q,a,c,hl,hL,rfl,h1,h2,h3⟩;refine W.le ?_ hl hL;clear hl hL;obtain⟨f,rfl⟩:∃g,f=g+1:=⟨f-1,af⟩;rw[show dw (f+1) y=if 128<y.length then y.take 128::dw f (y.drop 128) else if y=[] then [] else [y] from rfl] at h3;refine' cM
  .rw[if_pos af] at h3;refine⟨_,?_,f,y.drop 128,q++[y.take 128],_,_,bp,au,rfl,?_,?_,?_⟩
   .rw[eP];omega
   .rw[eP];omega
   .simp only[bn,eP,cU,kC];omega
   .rw[h3];simp
  .rw[if_neg af] at h3;exact⟨y,q,_,_,bp,au,af,h3⟩
 .rintro l L ⟨y,q,a,c,hl,hL,h1,h3⟩;refine ak ?_;refine W.le ?_ hl hL;clear hl hL;rw[h3];by_cases hy:y=[]
  .subst hy;refine' cM
   all_goals first|(exfalso;simp_all;done)|((refine' jo);simp)
  .rw[if_neg hy];refine' cM
   all_goals first|(exfalso;simp_all;done)|((refine' jo);rfl)
theorem AN (s:St)(v:SA)(st:ar)(h:dv 100000 st)(t:cB)(ht:dZ t)(k:Int)(hk: -1000<=k/\k<=1000)(hr:cS s v st):bL 202 [fI v st,tv t,iv k] s (iH v) (vx (ji st t k)):=by
 have tO:=Rd.EJ hr;have uB:=Rd.off hr;have uF:=Rd.CI hr;have hm:=ht.mn;by_cases hi:fM k 0 (t.many-1)=true
 .have hkr:0<=k/\k<=t.many-1:=by simpa[fM] using hi
  obtain⟨n,rfl⟩:=yC hkr.1;have gL:(Dx st t n).length<=3000:=MJ h _;have hn:(!fM (n:Int) 0 (t.many-1))=false:=by rw[hi];rfl
  unfold ji;rw[if_neg (by rw[hi];simp),uM];refine aX f202 ?_;(repeat' (first|refine' aZ|refine' Od|((with_reducible apply WO.mw);exact aD;(first|exact λs hr=>MK s _ _ aP _ aP _ af hr|exact λs hr=>MK s _ _ aP ⟨⟨_,_,_,_,_⟩,_,_⟩ aP _ af hr);exact ez;intros)|((with_reducible apply WO.aW);exact aD;exact λs=>tV s _ af;intros)|refine' av|fail));refine' ax;cases eL (Dx st t n)<;>rfl
 .have fb:fM k 0 (t.many-1)=false:=by simpa using hi
  have hn:(!fM k 0 (t.many-1))=true:=by rw[fb];rfl
  unfold ji;rw[if_pos hn];refine aX f202 ?_;refine' zb2;refine' ax;rfl
theorem PG (s:St)(v:SA)(st:ar)(h:dv 100000 st)(t:cB)(ht:dZ t)(hr:cS s v st):bL 148 [fI v st,tv t] s (iH v) (iv (Yx (vc st t))):=by
 have tO:=Rd.EJ hr;have uB:=Rd.off hr;have uF:=Rd.CI hr;obtain⟨hl,dz⟩:=lh h ht;have hm:=ht.mn;refine aX f148 ?_;refine' Yj
 unfold vc;generalize ij st t=w at *
 refine W.bK (λk l L=>∃(i:Nat),Le [(5,.slice gF w.length gG),(6,iv i)] l/\cx [.aQ (.slice gF w.length gG) 9 1 (ai w)] L/\k=16-i/\i<=16/\nS (λk=>decide (w.getD k []=[])) 16 0=nS (λk=>decide (w.getD k []=[])) (16-i) i)
  (λl L=>nS (λk=>decide (w.getD k []=[])) 16 0=none) 16 ⟨0,bp,au,af,af,rfl⟩ ?_ ?_
 .rintro k l L ⟨i,jA,hL,rfl,h1,h2⟩;refine W.le ?_ jA hL;clear jA hL;by_cases hi:i<16
  .rw[x6 (n:=16-i) (i:=i) af] at h2;by_cases hiw:i<w.length
   ·(refine' cM)
    all_goals try exact pE
    .rw[show nS (λk=>decide (w.getD k []=[])) 16 0=some i from h2.trans (if_pos (du j5))];refine' ax;rfl
    .refine⟨_,?_,i+1,bp,au,rfl,af,?_⟩
     .omega
     .exact h2.trans (if_neg (by rw[bR];exact j5))
   .have WL:w.getD i []=[]:=by rw[a7,qP af];rfl
    refine' cM;(all_goals try exact pE);rw[show nS (λk=>decide (w.getD k []=[])) 16 0=some i from h2.trans (if_pos (du WL))];refine' ax;rfl
  .have fb:i=16:=by omega
   subst fb;refine' cM;all_goals first|(exfalso;omega;done)|exact h2
 .rintro l L h1;refine ak ?_;refine W.le ?_ (Le.nil _) (cx.nil _);refine' cM
  refine' ax;rw[h1];rfl
theorem PH (s:St)(v:SA)(st:ar)(h:dv 100000 st)(t:cB)(ht:dZ t)(By:Int)(hr:cS s v st):bL 203 [fI v st,tv t,iv By] s (iH v) (iv (ri st t By)):=by
 have tO:=Rd.EJ hr;have uB:=Rd.off hr;have uF:=Rd.CI hr;obtain⟨hl,dz⟩:=lh h ht;have hm:=ht.mn;refine aX f203 ?_;refine' Yj
 unfold ri;generalize ij st t=w at *
 refine W.bK (λk l L=>∃(i n bt:Nat),Le [(2,iv By),(4,bk bt),(7,iv n),(8,.slice gF w.length gG),(9,iv i)] l/\cx [.aQ (.slice gF w.length gG) 9 1 (ai w),.box bt (hU t) 75 false] L/\k=w.length-i/\i<=w.length/\mr By 0 0 w=mr By i n (w.drop i))
  (λl L=>Le [(7,iv (mr By 0 0 w))] l/\cx [] L) w.length ⟨0,0,_,bp,au,af,af,rfl⟩ ?_ ?_
 .rintro k l L ⟨i,n,bt,jA,hL,rfl,h1,h2⟩;refine W.le ?_ jA hL;clear jA hL;by_cases hi:i<w.length
  .rw[drop_cons hi,mr] at h2;refine' cM
   all_goals try exact pE
   .rw[if_pos (by simp only[bI,bR];exact⟨uw,j5⟩)] at h2;refine⟨_,?_,i+1,i+1,_,bp,au,rfl,af,h2⟩;omega
   .rw[if_neg (by simp only[bI,bR];rintro⟨_,hx⟩;exact hx j5)] at h2;refine⟨_,?_,i+1,n,_,bp,au,rfl,af,h2⟩;omega
   .rw[if_neg (by simp only[bI,bR];rintro⟨hx,_⟩;exact hx uw)] at h2;refine⟨_,?_,i+1,n,_,bp,au,rfl,af,h2⟩;omega
  .have fb:i=w.length:=by omega
   subst fb;rw[kG] at h2;have h2:mr By 0 0 w=n:=h2;refine' cM;all_goals first|(exfalso;omega;done)|(rw[h2];exact⟨bp,au⟩)
 .rintro l L ⟨jA,hL⟩;refine ak ?_;refine W.le ?_ jA hL;refine' cM
  refine' ax;rfl
section
variable {s:aC}
theorem dZ.of {t:cB}(h:fk st t=true):dZ t:=by unfold fk at h;simp only[bI,bR,fM] at h;obtain⟨⟨⟨h1,h2⟩,h3⟩,_⟩:=h;exact⟨h3,h1,by have:=Pg.fB t.many;omega⟩
def Cg (st:ar)(s:aC):Bool:=decide (s=[])||match eL s with
 |none=>false
 |some n=>fk st n.a6
theorem EK (st:ar)(t:cB):oG st t=(fk st t&&(ij st t).all (Cg st)):=rfl
theorem MN (h:decide (s=[])=true):Cg st s=true:=by unfold Cg;rw[h];rfl
theorem T8 (h:decide (s=[])=false)(hn:eL s=none):Cg st s=false:=by unfold Cg;rw[h,hn];rfl
theorem HY {n:iE}(h:decide (s=[])=false)(hn:eL s=some n):Cg st s=fk st n.a6:=by unfold Cg;rw[h,hn];rfl
theorem Mp (s:St)(v:SA)(st:ar)(h:dv 100000 st)(t:cB)(hr:cS s v st):bL 107 [fI v st,tv t] s (iH v) (.bool (oG st t)):=by
 have tO:=Rd.EJ hr;have uB:=Rd.off hr;have uF:=Rd.CI hr;cases gd:fk st t with
 |false=>
  have hn:(!fk st t)=true:=by rw[gd];rfl
  rw[EK,gd,Bl];refine aX f107 ?_;repeat' (first|refine' aZ|refine' El|refine' av|fail)
  refine' ax;rfl
 |true=>
  have hn:(!fk st t)=false:=by rw[gd];rfl
  have ht:=dZ.of gd;obtain⟨hl,dz⟩:=lh h ht;have hm:=ht.mn;rw[EK,gd,uN];refine aX f107 ?_;repeat' (first|refine' aZ|refine' El|refine' ae3|refine' av|fail)
  generalize ij st t=w at *
  refine W.bK (λk l L=>∃(i bs bt:Nat),Le [(2,bk bs),(3,bk bt),(5,.slice gF w.length gG),(6,iv i)] l/\cx [.aQ (.slice gF w.length gG) 9 1 (ai w),.box bs (rS v st) 71 false,.box bt (hU t) 75 false] L/\k=w.length-i/\i<=w.length/\w.all (Cg st)=(w.drop i).all (Cg st))
   (λl L=>w.all (Cg st)=true) w.length ⟨0,_,_,bp,au,af,af,rfl⟩ ?_ ?_
  .rintro k l L ⟨i,bs,bt,jA,hL,rfl,h1,h2⟩;refine W.le ?_ jA hL;clear jA hL;by_cases hi:i<w.length
   .have Rg:=dz _ (aL hi aq.ah);rw[drop_cons hi,List.all_cons] at h2;cases Yy:eL (w.getD i aq.ah) with
    |none=>
     have hng:∀s,bL 111 [sv (w.getD i aq.ah)] s [] (vx none):=λs=>by
      have:=tV s _ (show(w.getD i aq.ah).length<=100000 by omega);rwa [Yy] at this
     (repeat' (first|refine' aZ|((with_reducible apply WO.aW);exact aD;exact λs=>hng s;intros)|refine' av|fail));all_goals try exact pE
     .refine⟨_,?_,i+1,_,_,bp,au,rfl,af,by rw[h2,MN hc];rfl⟩;omega
     .have hn:w.all (Cg st)=false:=by rw[h2,T8 hc Yy];rfl
      rw[hn];refine' ax;rfl
    |some n=>
     have hng:∀s,bL 111 [sv (w.getD i aq.ah)] s [] (vx (some n)):=λs=>by
      have:=tV s _ (show(w.getD i aq.ah).length<=100000 by omega);rwa [Yy] at this
     (repeat' (first|refine' aZ|((with_reducible apply WO.aW);exact aD;exact λs=>hng s;intros)|refine' El|refine' av|fail));all_goals try exact pE
     .refine⟨_,?_,i+1,_,_,bp,au,rfl,af,by rw[h2,MN hc];rfl⟩;omega
     .have j5:fk st n.a6=false:=j5;have hn:w.all (Cg st)=false:=by rw[h2,HY aP Yy,j5];rfl
      rw[hn];refine' ax;rfl
     .have j5:fk st n.a6=true:=j5;refine⟨_,?_,i+1,_,_,bp,au,rfl,af,by rw[h2,HY aP Yy,j5];rfl⟩;omega
   .have fb:i=w.length:=by omega
    subst fb;rw[kG] at h2;refine' cM;all_goals first|(exfalso;omega;done)|exact h2
  .rintro l L h1;refine ak ?_;refine W.le ?_ (Le.nil _) (cx.nil _);refine' cM
   refine' ax;exact eC Value.bool h1.symm
end
structure j6 (n:iE):Prop where
 tr:dZ n.a6
 sz:0<=n.size/\n.size<=10000
theorem j6.of {n:iE}(h:ew n=true):j6 n:=by obtain⟨_,h1,_,h2,h3,h4,_⟩:=Pg.kZ h;exact⟨⟨h4,h2,by have:=Pg.fB n.a6.many;omega⟩,af⟩
theorem j6.no:j6 bA:=⟨⟨bT,bT,bT⟩,bT⟩
theorem EL (many:Int):∀(L:List aC)(k:Nat)(out z:aC),ph many k L out=some z->(∀s∈L,s.length<=3000)->z.length<=out.length+L.length*3000
 |[],k,out,z,h,_=>by cases h;simp
 |s::L,k,out,z,h,hs=>by
  rw[ph] at h;split at h
  .cases h
  .have:=EL many L (k+1) _ z h (λx hx=>hs x (by simp[hx]));have:=hs s ay;rw[bn] at *
   rw[cU];omega
theorem Yz {st:ar}(h:dv 100000 st){t:cB}(ht:dZ t):((oH st t).getD []).length<=50000:=by
 obtain⟨h1,h2⟩:=lh h ht;have hm:=ht.mn;cases hb:oH st t with
 |none=>simp
 |some z=>
  have:=EL t.many _ 0 [] z hb h2;rw[h1] at this;simp at this⊢;omega
theorem l9 (s:St)(v:SA)(st:ar)(h:dv 100000 st)(n:iE)(hr:cS s v st):jF bf bw 166 [fI v st,nv n] s (iH v) 198 ((bN st n).getD []) (bN st n).isSome:=by
 have tO:=Rd.EJ hr;have uB:=Rd.off hr;have uF:=Rd.CI hr;by_cases hc:(!ew n||decide (n.kind≠2)||!fk st n.a6)=true
 .have he:bN st n=none:=by unfold bN;rw[if_pos hc]
  rw[he];refine aX f166 ?_;repeat' (first|refine' aZ|refine' Pp|refine' El|refine' av|fail)
  all_goals first|((refine' fa)<;>rfl)|(exfalso;simp_all;done)
 .have vM:ew n=true/\n.kind=2/\fk st n.a6=true:=by simpa[and_assoc] using hc
  obtain⟨k1,k2,k3⟩:=vM;have g1:(!ew n)=false:=by rw[k1];rfl
  have g2:(!decide (n.kind=2))=false:=by simp[k2]
  have g3:(!fk st n.a6)=false:=by rw[k3];rfl
  have ht:=dZ.of k3;have FA:=(j6.of k1).sz;have anH:=(Pg.kZ k1).2.1;have PF:=Yz h ht;have he:bN st n=match oH st n.a6 with
    |none=>none
    |some s=>if(s.length:Int)≠n.size then none else iO s:=by unfold bN;rw[if_neg hc];rfl
  refine aX f166 ?_;(repeat' (first|refine' aZ|refine' Pp|refine' El|((with_reducible apply WO.mw);exact aD;(first|exact λs hr=>MM s _ _ aP _ aP hr|exact λs hr=>MM s _ _ aP ⟨⟨_,_,_,_,_⟩,_,_⟩ aP hr);exact ez;intros)|((with_reducible apply WO.tM);exact aD;exact λs=>Gc s _ af;intro _ _ abH abI _ _)|refine' av|fail))
  .obtain⟨z,hz⟩:=lV.1 uw;rw[hz] at he j5;rw[he];simp only;rw[if_pos (show(z.length:Int)≠n.size from j5)];(refine' fa)<;>rfl
  .obtain⟨z,hz⟩:=lV.1 uw;rw[hz] at he j5;rw[he];simp only;rw[if_neg (λhx:(z.length:Int)≠n.size=>hx j5)];(refine' fa)<;>rw[hz]<;>rfl
  .have hz:oH st n.a6=none:=by cases hb:oH st n.a6<;>simp_all
   rw[hz] at he;rw[he];(refine' fa)<;>rfl
theorem Ew (s:St)(v:SA)(st:ar)(h:dv 100000 st)(n:iE)(hn:j6 n)(hr:cS s v st):bL 67 [fI v st,nv n] s (iH v) (sv (bD st n)):=by
 have tO:=Rd.EJ hr;have uB:=Rd.off hr;have uF:=Rd.CI hr;have ht:=hn.tr;have iX:=hn.sz;obtain⟨hl,dz⟩:=lh h ht;have hm:=ht.mn;refine aX f67 ?_;refine' Yj
 unfold bD;generalize ij st n.a6=w at *
 refine W.bK (λk l L=>∃(i bt:Nat)(z:aC),Le [(3,bk bt),(6,.slice gF w.length gG),(5,sv z),(7,iv i)] l/\cx [.aQ (.slice gF w.length gG) 9 1 (ai w),.box bt (xV n) 122 false] L/\k=w.length-i/\i<=w.length/\z.length<=i*3012/\qt n.size 0 w []=qt n.size i (w.drop i) z)
  (λl L=>Le [(5,sv (qt n.size 0 w []))] l/\cx [] L) w.length ⟨0,_,[],bp,au,af,af,ay,rfl⟩ ?_ ?_
 .rintro k l L ⟨i,bt,z,jA,hL,rfl,h1,h2,h3⟩;refine W.le ?_ jA hL;clear jA hL;by_cases hi:i<w.length
  .have Rg:=dz _ (aL hi aq.ah);rw[drop_cons hi,qt] at h3;have hlo:gj n.size i<=12/\ -10000<=gj n.size i:=by unfold gj;omega
   (have hzl:(mI (gj n.size i-((w.getD i aq.ah).length:Int))).length<=12:=by unfold mI;rw[sX];omega);repeat' (first|refine' aZ|refine' acY|refine' Em|refine' av|fail)
   .refine⟨_,?_,i+1,_,_,bp,au,rfl,af,?_,h3⟩
    .omega
    .simp only[bn];omega
   .exfalso;omega
  .have fb:i=w.length:=by omega
   subst fb;rw[kG] at h3;have h3:qt n.size 0 w []=z:=h3;refine' cM;all_goals first|(exfalso;omega;done)|(rw[h3];exact⟨bp,au⟩)
 .rintro l L ⟨jA,hL⟩;refine ak ?_;refine W.le ?_ jA hL;refine' cM
  refine' ax;rfl
theorem BP (s:St)(v:SA)(st:ar)(h:dv 100000 st)(t:cB)(ht:dZ t)(hr:cS s v st):eu bf bw 66 [fI v st,tv t] s (iH v) 122 (fu st t):=by
 have tO:=Rd.EJ hr;have uB:=Rd.off hr;have uF:=Rd.CI hr;obtain⟨hl,dz⟩:=lh h ht;have hm:=ht.mn;refine aX f66 ?_;refine' Yj
 unfold fu;generalize ij st t=w at *
 refine W.bK (λk l L=>∃(i:Nat)(a2:aS)(c2:Nat)(q:List iE),Le [(6,.slice gF w.length gG),(5,.slice a2 q.length c2),(7,iv i)] l/\cx [.aQ (.slice a2 q.length c2) 122 10 (ai q),.aQ (.slice gF w.length gG) 9 1 (ai w)] L/\k=w.length-i/\i<=w.length/\q=(w.take i).map λs=>(eL s).getD bA)
  (λl L=>∃(a2:aS)(c2:Nat),Le [(5,.slice a2 (w.map λs=>(eL s).getD bA).length c2)] l/\cx [.aQ (.slice a2 (w.map λs=>(eL s).getD bA).length c2) 122 10 (ai (w.map λs=>(eL s).getD bA))] L) w.length ⟨0,_,_,[],bp,au,af,af,rfl⟩ ?_ ?_
 .rintro k l L ⟨i,a2,c2,q,jA,hL,rfl,h1,h2⟩;refine W.le ?_ jA hL;clear jA hL;have hql:q.length<=16:=by rw[h2];simp;omega
  by_cases hi:i<w.length
  .have Rg:=dz _ (aL hi aq.ah);(repeat' (first|refine' aZ|((with_reducible apply WO.aW);exact aD;exact λs=>tV s _ af;intros)|refine' av|fail))
   .refine⟨_,?_,i+1,_,_,q++[(eL (w.getD i aq.ah)).getD bA],bp,au,rfl,af,?_⟩
    .omega
    .rw[h2,fG w aq.ah hi];simp
   .exfalso;omega
  .have fb:i=w.length:=by omega
   subst fb;rw[fU] at h2;subst h2;refine' cM;all_goals first|(exfalso;omega;done)|exact⟨_,_,bp,au⟩
 .rintro l L ⟨a2,c2,jA,hL⟩;refine ak ?_;refine W.le ?_ jA hL;refine' cM
  refine' jo;rfl
theorem AS {st:ar}{p:jt}{n:Int}:((below st p n).getD []).length<=4:=by
 cases hb:below st p n with
 |none=>simp
 |some w=>have:=(Pg.iR hb).1;simp;omega
theorem EM (s:St)(v:SA)(st:ar)(h:dv 100000 st)(t:cB)(hr:cS s v st):eu bf bw 255 [fI v st,tv t] s (iH v) 73 (fK st t):=by
 have tO:=Rd.EJ hr;have uB:=Rd.off hr;have uF:=Rd.CI hr;by_cases h0:t.depth=0
 .have hi:fK st t=[]:=by unfold fK;rw[if_pos (.inl h0)]
  rw[hi];refine aX f255 ?_;refine' Ce;all_goals first|(exfalso;simp_all;done)|((refine' jo);rfl)
 .cases hh:aK t.cG with
  |true=>
   (have hi:fK st t=[]:=by unfold fK;rw[if_pos (.inr hh)]);rw[hi];refine aX f255 ?_;refine' Ce;all_goals first|(exfalso;simp_all;done)|((refine' jo);rfl)
  |false=>
   have hi:fK st t=t.cG::if t.depth=2 then((below st t.cG 2).getD []).filter (λp=>!aK p) else []:=by
    unfold fK;rw[if_neg];rintro(h|h)
    .exact h0 h
    .rw[hh] at h;cases h
   rw[hi];by_cases h2:t.depth=2
   .rw[if_pos h2];have PF:=AS (st:=st) (p:=t.cG) (n:=2);refine aX f255 ?_;repeat' (first|refine' aZ|refine' Hu|refine' abg|refine' av|fail)
    all_goals first|(exfalso;simp_all;done)|skip
    generalize(below st t.cG 2).getD []=w at *
    refine W.bK (λk l L=>∃(i:Nat)(a2:aS)(c2:Nat)(q:c9),Le [(6,.slice Hx w.length Hy),(5,.slice a2 q.length c2),(8,iv i)] l/\cx [.aQ (.slice a2 q.length c2) 73 5 (ai q),.aQ (.slice Hx w.length Hy) 73 5 (ai w)] L/\k=w.length-i/\i<=w.length/\q.length<=i+1/\q=t.cG::(w.take i).filter λp=>!aK p)
     (λl L=>∃(a2:aS)(c2:Nat),Le [(5,.slice a2 (t.cG::w.filter λp=>!aK p).length c2)] l/\cx [.aQ (.slice a2 (t.cG::w.filter λp=>!aK p).length c2) 73 5 (ai (t.cG::w.filter λp=>!aK p))] L) w.length ⟨0,_,_,[]++[t.cG],bp,au,af,af,ay,rfl⟩ ?_ ?_
    .rintro k l L ⟨i,a2,c2,q,jA,hL,rfl,h3,h4,h5⟩;refine W.le ?_ jA hL;clear jA hL;by_cases hi:i<w.length
     .have e:=fG w aq.ah hi;refine' Ce
      .refine⟨_,?_,i+1,_,_,q++[w.getD i aq.ah],bp,au,rfl,af,?_,?_⟩
       .omega
       .simp;omega
       .rw[h5,e,qW,uj,if_pos (by rw[j5];rfl)];rfl
      .refine⟨_,?_,i+1,_,_,q,bp,au,rfl,af,af,?_⟩
       .omega
       .rw[h5,e,qW,uj,if_neg (by rw[j5];simp)];simp
      .exfalso;omega
     .have fb:i=w.length:=by omega
      subst fb;rw[fU] at h5;subst h5;refine' Ce;all_goals first|(exfalso;omega;done)|exact⟨_,_,bp,au⟩
    .rintro l L ⟨a2,c2,jA,hL⟩;refine ak ?_;refine W.le ?_ jA hL;refine' cM
     refine' jo;rfl
   .rw[if_neg h2];refine aX f255 ?_;refine' Ce
    all_goals first|(exfalso;simp_all;done)|((refine' jo);rfl)
theorem MO (s:St)(v:SA)(st:ar)(h:dv 100000 st)(t:cB)(depth level:Int)(hr:cS s v st):eu bf bw 256 [fI v st,tv t,iv depth,iv level] s (iH v) 73 (iT st t depth level):=by
 have tO:=Rd.EJ hr;have uB:=Rd.off hr;have uF:=Rd.CI hr;unfold iT;refine aX f256 ?_;repeat' (first|refine' aZ|refine' ae0|refine' abg|refine' av|fail)
 .rw[if_pos aP];refine' jo;rfl
 .rw[if_neg (by simp_all),if_pos aP];refine' jo;rfl
 .have hn:below st t.cG depth=none:=by cases hb:below st t.cG depth<;>simp_all
  rw[if_neg (by simp_all),if_neg aP,hn];refine' jo;rfl
 .obtain⟨w,hw⟩:=lV.1 j5;rw[if_neg (by simp_all),if_neg aP,hw];refine' jo;rfl
theorem YA (s:St)(v:SA)(st:ar)(h:dv 100000 st)(t:cB)(o:c9)(ho:qq 200 st [t.cG] []=some o)(hr:cS s v st):eu bf bw 204 [fI v st,tv t] s (iH v) 73 o:=by
 have tO:=Rd.EJ hr;have uB:=Rd.off hr;have uF:=Rd.CI hr;refine aX f204 ?_;(repeat(first|refine' xX|refine' av|fail))
 refine W.bK (λk l L=>∃(f bs:Nat)(q r:c9)(a c a2 c2:_),Le [(2,bk bs),(5,.slice a q.length c),(6,.slice a2 r.length c2)] l/\cx [.aQ (.slice a q.length c) 73 5 (ai q),.aQ (.slice a2 r.length c2) 73 5 (ai r),.box bs (rS v st) 71 false] L/\k=f/\f<=200/\q.length<=200-f/\r.length<=1+4*(200-f)/\qq f st r q=some o)
  (λl L=>∃(a:_)(c:_),Le [(5,.slice a o.length c)] l/\cx [.aQ (.slice a o.length c) 73 5 (ai o)] L) 200 ⟨200,_,[],[t.cG],_,_,_,_,bp,au,rfl,af,ay,ay,ho⟩ ?_ ?_
 .rintro k l L ⟨f,bs,q,r,a,c,a2,c2,jA,hL,rfl,h1,h2,h3,h4⟩;refine W.le ?_ jA hL;clear jA hL;obtain⟨f,rfl⟩:∃g,k=g+1:=by
   cases k with
   |zero=>cases h4
   |succ g=>exact⟨g,rfl⟩
  cases r with
  |nil=>
   (have h4:q=o:=by injection h4);subst h4;refine' cM;all_goals first|(exfalso;simp_all;done)|exact⟨_,_,bp,au⟩
  |cons p r=>
   rw[qq] at h4;rw[cU] at h3;have PF:=AS (st:=st) (p:=p) (n:=p.level);cases hh:aK p with
   |true=>
    rw[hh] at h4;have h4:qq f st r q=some o:=h4;refine' Ce
    .refine⟨_,?_,f,_,q,_,_,_,_,_,bp,au,rfl,af,af,?_,h4⟩
     .omega
     .show r.length<=_;omega
    .exfalso;simp_all
   |false=>
    rw[hh] at h4;have h4:qq f st (if 0<p.level then(below st p p.level).getD []++r else r) (q++[p])=some o:=h4;repeat' (first|refine' aZ|refine' Hu|refine' abg|refine' av|fail)
    .have j5:0<p.level:=j5;rw[if_pos j5] at h4;refine⟨_,?_,f,_,_,_,_,_,_,_,bp,au,rfl,af,?_,?_,h4⟩
     .omega
     .simp;omega
     .simp at PF⊢;omega
    .have j5:p.level<=0:=j5;rw[if_neg af] at h4;refine⟨_,?_,f,_,_,_,_,_,_,_,bp,au,rfl,af,?_,?_,h4⟩
     .omega
     .simp;omega
     .show r.length<=_;omega
    .exfalso;simp_all
 .rintro l L ⟨a,c,jA,hL⟩;refine ak ?_;refine W.le ?_ jA hL;refine' cM
  refine' jo;rfl
variable {v:SA}{Lm L0:dy}
section
variable {l:Kn}{f:FuncId}{r:Value}{s:St}
theorem WO.aiB (hx:jY l xs vs)(h:∀s,fA E X f vs s Lm [] λr' L'=>r'=r/\L'=L0)(hp:nM Lm L R)(k:∀m m',iY L m->m<=m'->K r (L0++R) m m' (mV [] Lm m m') (mW Lm m m')):WC E X Γ l f xs ts L K:=
 WO.call (Lm:=Lm) (R:=R) hx hp.cT (λs hi b hb=>by cases hb) (λs _=>h s) (by rintro r' L' m m' ho hm ⟨rfl,rfl⟩;exact k m m' ho hm)
structure zC (s:St)(v:SA)(st:ar):Prop where
 a:cS s v st
 g:bM s v.g st.cP.length 5 (ai st.cP)
 d:bM s v.d st.eg.length 5 (ai st.eg)
structure abc (Γ:qN)(L:dy)(v:SA)(st:ar):Prop where
 a:ru Γ L v st
 g:kr Γ L v.g st.cP.length 5 (ai st.cP)
 d:kr Γ L v.d st.eg.length 5 (ai st.eg)
abbrev Gf (v:SA):List Nat:=iH v++(aj v.g++aj v.d)
theorem abc.row (h:abc Γ L v st)(hi:Inv Γ s L):zC s v st/\∀b∈Gf v,Ca Γ s b:=by
 refine⟨⟨(h.a.row hi).1,(h.g.row hi).1,(h.d.row hi).1⟩,λb hb=>?_⟩;rcases eW.1 hb with hb|hb
 .exact(h.a.row hi).2 b hb
 .rcases eW.1 hb with hb|hb
  .exact(h.g.row hi).2 b hb
  .exact(h.d.row hi).2 b hb
abbrev MP (E:iq)(X:fY)(f:FuncId)(vs:aY)(s:St)(A:List Nat)(cZ:ar)(mk:Value->Value):Prop:=fA E X f vs s [] A λr L=>∃v':SA,r=mk (fI v' cZ)/\L=eK v' cZ
theorem WO.X9 {cZ:ar}{mk:Value->Value}(hx:jY l xs vs)(h:∀s,zC s v st->MP E X f vs s (Gf v) cZ mk)(hh:abc Γ L v st)(k:∀m m' v',iY L m->m<=m'->K (mk (fI v' cZ)) (eK v' cZ++L) m m' (mV (Gf v) [] m m') (mW [] m m')):WC E X Γ l f xs ts L K:=
 WO.call (Lm:=[]) (R:=L) hx (.refl _) (λs hi=>(hh.row hi).2) (λs hi=>h s (hh.row hi).1) (by rintro r' L' m m' ho hm ⟨v',rfl,rfl⟩;exact k m m' v' ho hm)
theorem WO.afl {cZ:ar}{mk:Value->Value}(hx:jY l xs vs)(h:∀s,MP E X f vs s [] cZ mk)(k:∀m m' v',iY L m->m<=m'->K (mk (fI v' cZ)) (eK v' cZ++L) m m' (mV [] [] m m') (mW [] m m')):WC E X Γ l f xs ts L K:=
 WO.call (Lm:=[]) (R:=L) hx (.refl _) (λs hi b hb=>by cases hb) (λs _=>h s) (by rintro r' L' m m' ho hm ⟨v',rfl,rfl⟩;exact k m m' v' ho hm)
theorem kr.apart {a:aS}{n sz:Nat}{cs:aY}(hh:kr Γ R a n sz cs)(hi:Inv Γ s (Lm++R)):∀b∈aj a,b∉Lm.flatMap It.cr:=by
 have D9:=hi.nd;rw[wQ,uP] at D9;have afm:∀{x:It},x∈R->∀b∈x.cr,b∉Lm.flatMap It.cr:=λhx b hb hm=>D9.2.2 b hm b (px.2 ⟨_,hx,hb⟩) rfl
 intro b hb;cases hh with
 |rd h=>
  intro hm;obtain⟨x,hx,hxb⟩:=px.1 hm;have h1:=(hi.lt x (cA _ hx) b hxb).2;have h2:=Rd.lt h b hb;rcases h1 with h1|h1
  .omega
  .exact h.M b hb h1
 |aQ h=>exact afm h b (by
   cases a with
   |none=>simp[aj] at hb
   |some a=>simpa[It.cr,pj,aj] using hb)
 |sub h hr lO=>
  rename_i c e n0 a0 QR;exact afm h b (by
   have:=lO b hb;cases a0 with
   |none=>simp[aj] at this
   |some a=>simpa[It.cr,pj,aj] using this)
 |box h ha hn=>
  subst ha;exact afm h b (by simpa[It.cr,aj] using hb)
theorem WO.afb {cZ:ar}{ok:Bool}{mk:Value->Value}{a:aS}{n sz:Nat}{cs:aY}(hx:jY l xs vs)(h:∀s,bM s a n sz cs->(∀b∈aj a,b∉(eK v st).flatMap It.cr)->eO E X f vs s (aj a) v st cZ ok mk)(hp:nM (eK v st) L R)(hh:kr Γ R a n sz cs)(k:∀m m' v',iY L m->m<=m'->(ok=false->v'=v)->K (mk (fI v' cZ)) (eK v' cZ++R) m m' (mV (aj a) (eK v st) m m') (mW (eK v st) m m')):WC E X Γ l f xs ts L K:=
 WO.call (Lm:=eK v st) (R:=R) hx hp.cT (λs hi=>(hh.row (hi.cT hp.cT|>.sub ⟨R,.refl _,nN _ _⟩)).2) (λs hi=>h s (hh.row (hi.cT hp.cT|>.sub ⟨R,.refl _,nN _ _⟩)).1 (kr.apart hh (hi.cT hp.cT))) (by rintro r L' m m' ho hm ⟨v',hv,rfl,rfl⟩;exact k m m' v' ho hm hv)
theorem alI {rs:List ResultVar}{x:Ex}{v':SA}{cZ:ar}{mk:Value->Value}{ws:aY}(hx:x= .normal\/x= .ret)(hr:qO E l L rs ws)(hL:cx (eK v' cZ) L)(hv:gK ws=mk (fI v' cZ)):
  wK E rs (λr L=>∃v':SA,r=mk (fI v' cZ)/\L=eK v' cZ) x l L:=⟨hx,ws,_,hr,hL,v',hv,rfl⟩
theorem alp {rs:List ResultVar}{x:Ex}{ws:aY}(hx:x= .normal\/x= .ret)(hr:qO E l L rs ws)(hL:cx L0 L)(hv:gK ws=r):wK E rs (λr' L'=>r'=r/\L'=L0) x l L:=⟨hx,ws,_,hr,hL,hv,rfl⟩
end
theorem MQ:∀(new old B:aY),old.length=new.length->Go.Ev.nb new (old++B)=some (new++B)
 |[],[],B,_=>rfl
 |[],_::_,B,h=>by cases h
 |x::new,[],B,h=>by cases h
 |x::new,y::old,B,h=>by
  show ob (Go.Ev.nb new (old++B)) (λr=>some (x::r))=_;rw[MQ new old B (by simpa using h)];rfl
theorem HZ:∀(A new old B:aY),old.length=new.length->eF A.length new (A++(old++B))=some (A++(new++B))
 |[],new,old,B,h=>MQ new old B h
 |x::A,new,old,B,h=>by
  show ob (eF A.length new (A++(old++B))) (λr=>some (x::r))=_;rw[HZ A new old B h];rfl
theorem YB {α:Type}{sz:Nat}{enc:aq α sz}(p:List α){i:Nat}(q:α)(hi:i<p.length):eF (i*sz) (aq.cells (sz:=sz) q) (ai (sz:=sz) p)=some (ai (sz:=sz) (p.set i q)):=by
 have h1:p=p.take i++(p.getD i (aq.ah (sz:=sz))::p.drop (i+1)):=by
  rw[a7,bc hi];simp
 have h2:p.set i q=p.take i++q::p.drop (i+1):=by rw[List.set_eq_take_append_cons_drop,if_pos hi]
 have hA:(ai (sz:=sz) (p.take i)).length=i*sz:=by rw[aR,cO,yA (rV hi)]
 rw[h2]
 conv=>lhs;rw[h1]
 rw[oS,oS,dE,dE,<-hA];exact HZ _ _ _ _ (by rw[aq.len,aq.len])
theorem YC {l:aY}(h:∀v∈l,flat v=true):ku l=true:=by
 induction l with
 |nil=>rfl
 |cons x l ih=>
  show bo (flat x) (ku l) false=true;rw[h x ay,ih (λy hy=>h y (by simp[hy]))];rfl
theorem WO.abJ {E:iq}{X:fY}{Γ:qN}{l:Kn}{L L':dy}{K:KO}{x y:Operand}{t:TypeId}{a:aS}{n sz:Nat}{α:Type}{enc:aq α sz}{p:List α}{q:α}{i c e:Nat}[ht:fZ E t sz](hx:Ev l x (dh a i sz 0))(hy:Ev l y (.agg ⟨aq.cells (sz:=sz) q⟩))
  (hu:y3 (.aQ (.slice a n c) e sz (ai (sz:=sz) p)) (.aQ (.slice a n c) e sz (ai (sz:=sz) (p.set i q))) L L')(hi:i<p.length)(k:∀n,K (.tuple ⟨[]⟩) L' n n (λi=>i∈aj a) (λi=>i∈aj a)):WO E X Γ l (.store t x y) L K:=λtm s h1 h2=>by
 obtain⟨R,p1,p2⟩:=hu.cT;have hm:It.aQ (.slice a n c) e sz (ai (sz:=sz) p)∈L:=p1.mem_iff.2 ay;rcases h2.it _ hm with⟨h3,h4⟩|⟨b,n',k',w,aE,h3,h4,h5,h6⟩
 .cases h3
  have:=aR (sz:=sz) p;rw[h4] at this;have hp:=enc.pos;have:p.length*sz=0:=by simpa using this.symm
  rcases Nat.mul_eq_zero.1 this with h|h<;>omega
 .cases h3
  have dz:=(h2.may hm (b:=b) (by simp[It.cr,pj]));have hr:=h2.aU dz;have dD:=YB (enc:=enc) p q hi;refine fy.pure (v:=.tuple ⟨[]⟩) (s':=(s.aU b).put b (some (.cells (ai (sz:=sz) (p.set i q)++aE) e w))) (λcall=>?_) ⟨L',(λi=>i∈aj (iJ b)),(λi=>i∈aj (iJ b)),hr.put hu rfl rfl ?_,(kX.trans (cH dz.1 (by simp[aj])) (jX (by simpa using dz.1) (by simp[aj]) (by simp[aj]))),by rw[dY,bQ];exact k _⟩
  .show(Fv (aO tm x) λb o=>nc E s t b o (aO tm y))=_;rw[hx.eval h1,hy.eval h1];show nc E s t b (0+(i*sz+0)) _=_;unfold nc St.row St.look;rw[h4];simp only[bu,ht.h,mS,xj];show dN (Nat.beq (dX (aq.cells (sz:=sz) q)) sz) (dN (ku (aq.cells (sz:=sz) q)) (ob (eF (i*sz) (aq.cells (sz:=sz) q) (ai (sz:=sz) p++aE)) _))=_;rw[su aE _ _ _ _ dD,c8,aq.len,ja,YC (aq.fl (sz:=sz) q)];rfl
  .exact .inr ⟨b,_,_,w,aE,rfl,by show T.get (St.heap _) b=_;simp,by rw[aR] at h5⊢;simpa using h5,DD h6 (by rw[aR,aR,gy])⟩
theorem WO.abd {E:iq}{X:fY}{Γ:qN}{l:Kn}{L R:dy}{K:KO}{x y:Operand}{t t2:TypeId}{a a2:aS}{n sz:Nat}{α:Type}{enc:aq α sz}{e c c2:Nat}{q:List α}[ht:TT E t e sz α enc][ht2:TT E t2 e sz α enc](hx:Ev l x (.slice a ([]:List α).length c))(hy:Ev l y (.slice a2 n c2))(hr:Kx (.aQ (.slice a ([]:List α).length c) e sz (ai (sz:=sz) ([]:List α))) L R)(hs:kr Γ L a2 n sz (ai (sz:=sz) q))(hq:q.length=n)(hn:n<=1000000)
  (k:∀b b' a' c',iY L b->b<=b'->(∀i∈aj a',i∈aj a\/i=b)->K (.slice a' n c') (.aQ (.slice a' n c') e sz (ai (sz:=sz) q)::R) b b' (λi=>i∈aj a2\/i∈aj a\/i=b) (λi=>i∈aj a\/i=b)):WO E X Γ l (.call ⟨.builtin .append,⟨[x,y]⟩,⟨[t,t2]⟩⟩) L K:=by
 subst hq;exact WO.Q6 (p:=([]:List α)) (q:=q) hx hy hr hs (by simpa using hn) k
theorem WO.Ro {E:iq}{X:fY}{Γ:qN}{l:Kn}{L L':dy}{K:KO}{x y:Operand}{t:TypeId}{a:aS}{n sz:Nat}{α:Type}{enc:aq α sz}{p:List α}{q:α}{i c e:Nat}[ht:fZ E t sz](hx:Ev l x (dh a i sz 0))
  (hu:y3 (.aQ (.slice a n c) e sz (ai (sz:=sz) p)) (.aQ (.slice a n c) e sz (ai (sz:=sz) (p.set i q))) L L')(hy:Ev l y (.agg ⟨aq.cells (sz:=sz) q⟩))(hi:i<p.length)(k:∀n,K (.tuple ⟨[]⟩) L' n n (λi=>i∈aj a) (λi=>i∈aj a)):WO E X Γ l (.store t x y) L K:=WO.abJ hx hy hu hi k
theorem WO.ahU {X:fY}{Γ:qN}{l:Kn}{L:dy}{K:KO}{x y:Operand}{t2:TypeId}{p q:jt}(hx:Ev l x (.agg ⟨rN p⟩))(hy:Ev l y (.agg ⟨rN q⟩))(k:∀n,K (.bool (decide (p=q))) L n n Z Z):WO bf X Γ l (.binOp .eql 73 x y t2) L K:=by
 refine WO.ahl hx hy rfl (x4 _ _ _ _ _ _ _ _ _ _) λn=>?_
 have:=k n;obtain⟨a,b,c,d,e⟩:=p;obtain⟨a',b',c',d',e'⟩:=q;simpa[and_assoc] using this
theorem WO.ahV {X:fY}{Γ:qN}{l:Kn}{L:dy}{K:KO}{x y:Operand}{t2:TypeId}{p q:jt}(hx:Ev l x (.agg ⟨rN p⟩))(hy:Ev l y (.agg ⟨rN q⟩))(k:∀n,K (.bool !(decide (p=q))) L n n Z Z):WO bf X Γ l (.binOp .neq 73 x y t2) L K:=by
 refine WO.aer hx hy rfl (x4 _ _ _ _ _ _ _ _ _ _) λn=>?_
 have:=k n;obtain⟨a,b,c,d,e⟩:=p;obtain⟨a',b',c',d',e'⟩:=q;simpa[and_assoc] using this
section
variable {l:Kn}{f:FuncId}{s:St}
theorem WO.afc {cZ:ar}{ok:Bool}{mk:Value->Value}{a:aS}{n c e sz:Nat}{cs:aY}(hx:jY l xs vs)(h:∀s,bM s a n sz cs->(∀b∈aj a,b∉(eK v st).flatMap It.cr)->w6 s a n c e sz->eO E X f vs s (aj a) v st cZ ok mk)(hp:nM (eK v st) L R)(hh:It.aQ (.slice a n c) e sz cs∈R)(k:∀m m' v',iY L m->m<=m'->(ok=false->v'=v)->K (mk (fI v' cZ)) (eK v' cZ++R) m m' (mV (aj a) (eK v st) m m') (mW (eK v st) m m')):WC E X Γ l f xs ts L K:=
 WO.call (Lm:=eK v st) (R:=R) hx hp.cT (λs hi=>((kr.aQ hh).row (hi.cT hp.cT|>.sub ⟨R,.refl _,nN _ _⟩)).2)
   (λs hi=>by
    have tp:=hi.cT hp.cT|>.sub ⟨R,.refl _,nN _ _⟩;have h1:=(kr.aQ hh).row tp;exact h s h1.1 (kr.apart (.aQ hh) (hi.cT hp.cT)) (mu.slv (tp.it _ hh) λb hb=>(h1.2 b hb).1))
   (by rintro r L' m m' ho hm ⟨v',hv,rfl,rfl⟩;exact k m m' v' ho hm hv)
end
def wr (st:ar)(z:aC)(level:Int):ar×jt×Bool:=match bh st z level with
 |none=>(st,bz,false)
 |some (st1,p)=>(st1,p,true)
def wrV (p:jt)(ok:Bool):Value->Value:=λV=>.tuple ⟨[V,pv p,.bool ok]⟩
theorem xZ (s:St)(v:SA)(st:ar)(h:dv 100000 st)(z:aC)(hz:z.length<=3000)(level:Int):eO bf bw 194 [fI v st,sv z,iv level] s [] v st (wr st z level).1 false (wrV (wr st z level).2.1 (wr st z level).2.2):=by
 have Ku:=h.lr;have B8:=h.lf;have hll:=h.ll;refine aX f194 ?_;cases hsm:st.same with
 |true=>
  by_cases Vn:level=0
  .have T9:decide (level=0)=true:=du Vn;cases hk:Wt st z with
   |some i=>
    have hi:=Pg.k9 hk;have wY:∀s,cS s v st->bL 252 [fI v st,sv z] s (iH v) (iv i):=λs hr=>by
     have:=HV s v st h z hr;rw[hk] at this;exact this
    have afn: -(100000:Int)<=st.bd.getD i aq.ah/\st.bd.getD i aq.ah<=100000:=h.ref i;have hw:bh st z level=match ss i st.fH level z with
      |none=>none
      |some p=>some ({st with ej:=st.ej.set i z,bd:=st.bd.set i (st.bd.getD i 0+1),dm:=st.dm.set i st.fH},p):=by
     unfold bh oF;rw[hsm,T9];simp only[KK,if_true];rw[hk];rfl
    cases hp:ss i st.fH level z with
    |none=>
     (have hpc:∀s,bL 254 [iv i,iv st.fH,iv level,sv z] s [] (uE none):=λs=>by have:=oY s i st.fH level z af;rwa [hp] at this);rw[hp] at hw;(have mZ:wr st z level=(st,bz,false):=by unfold wr;rw[hw]);rw[mZ];(repeat' (first|refine' aZ|refine' HE|refine' XV|refine' av|fail));refine' dV
     .rfl
     .exact λ_=>rfl
    |some p=>
     (have hpc:∀s,bL 254 [iv i,iv st.fH,iv level,sv z] s [] (uE (some p)):=λs=>by have:=oY s i st.fH level z af;rwa [hp] at this);rw[hp] at hw;(have mZ:wr st z level=({st with ej:=st.ej.set i z,bd:=st.bd.set i (st.bd.getD i 0+1),dm:=st.dm.set i st.fH},p,true):=by unfold wr;rw[hw]);rw[mZ];(repeat' (first|refine' aZ|refine' HE|refine' XV|refine' av|fail));refine' dV
     .rfl
     .exact λ_=>rfl
   |none=>
    have wY:∀s,cS s v st->bL 252 [fI v st,sv z] s (iH v) (iv (-1)):=λs hr=>by
     have:=HV s v st h z hr;rw[hk] at this;exact this
    cases hf:Dw st with
    |some i=>
     refine' zal
     have afn: -(100000:Int)<=st.bd.getD i aq.ah/\st.bd.getD i aq.ah<=100000:=h.ref i;have hw:bh st z level=match ss i st.fH level z with
       |none=>none
       |some p=>some ({st with ej:=st.ej.set i z,bd:=st.bd.set i (st.bd.getD i 0+1),dm:=st.dm.set i st.fH},p):=by
      unfold bh oF;rw[hsm,T9];simp only[KK,if_true];rw[hk];simp only;rw[hf];rfl
     refine' zab
    |none=>
     refine' zam
     have hw:bh st z level=none:=by
      unfold bh oF;rw[hsm,T9];simp only[KK,if_true];rw[hk];simp only;rw[hf]
     refine' zax
     .rfl
     .exact λ_=>rfl
  .have T9:decide (level=0)=false:=ec Vn;cases hf:Dw st with
   |some i=>
    refine' zal
    have afn: -(100000:Int)<=st.bd.getD i aq.ah/\st.bd.getD i aq.ah<=100000:=h.ref i;have hw:bh st z level=match ss i st.fH level z with
      |none=>none
      |some p=>some ({st with ej:=st.ej.set i z,bd:=st.bd.set i (st.bd.getD i 0+1),dm:=st.dm.set i st.fH},p):=by
     unfold bh oF;rw[hsm,T9];simp only[Bool.and_false,jN,pQ];rw[hf];rfl
    refine' zab
   |none=>
    refine' zam
    have hw:bh st z level=none:=by
     unfold bh oF;rw[hsm,T9];simp only[Bool.and_false,jN,pQ];rw[hf]
    refine' zax
    .rfl
    .exact λ_=>rfl
 |false=>
  cases hf:Dw st with
  |some i=>
   refine' zal
   have afn: -(100000:Int)<=st.bd.getD i aq.ah/\st.bd.getD i aq.ah<=100000:=h.ref i;have hw:bh st z level=match ss i st.fH level z with
     |none=>none
     |some p=>some ({st with ej:=st.ej.set i z,bd:=st.bd.set i (st.bd.getD i 0+1),dm:=st.dm.set i st.fH},p):=by
    unfold bh oF;rw[hsm];simp only[Bl,jN,pQ];rw[hf];rfl
   refine' zab
  |none=>
   refine' zam
   have hw:bh st z level=none:=by
    unfold bh oF;rw[hsm];simp only[Bl,jN,pQ];rw[hf]
   refine' zax
   .rfl
   .exact λ_=>rfl
theorem Ua (s:St)(v:SA)(bd dm:List Int)(i:Nat)(hf:bd.length=64)(hl:dm.length=64)(hi:i<64)(hb: -1000000<=bd.getD i aq.ah/\bd.getD i aq.ah<=1000000):
  FC 164 [.agg ⟨[.slice v.f 64 v.fc,.slice v.l 64 v.lc]⟩,iv i] s [.aQ (.slice v.f 64 v.fc) 3 1 (ai bd),.aQ (.slice v.l 64 v.lc) 3 1 (ai dm)] [] λr' L'=>r'= .agg ⟨[.slice v.f 64 v.fc,.slice v.l 64 v.lc]⟩/\L'=[.aQ (.slice v.f 64 v.fc) 3 1 (ai (bd.set i (bd.getD i 0-1))),.aQ (.slice v.l 64 v.lc) 3 1 (ai (if bd.getD i 0-1=0 then dm.set i 0 else dm))]:=by
 have oN:(bd.set i (bd.getD i aq.ah-1)).getD i aq.ah=bd.getD i aq.ah-1:=by
  show(bd.set i _).getD i 0=_;rw[Pg.j3,if_pos ⟨rfl,af⟩]
 have Rg:(bd.set i (bd.getD i aq.ah-1)).length=64:=by rw[gy];exact hf
 refine aX f164 ?_;refine' cM
 .rw[if_pos (show bd.getD i 0-1=0 from oN.symm.trans aP)];refine' acT;rfl
 .rw[if_neg (show ¬bd.getD i 0-1=0 from λhx=>(by assumption:¬_) (oN.trans hx))];refine' acT;rfl
theorem TR (s:St)(v:SA)(st:ar)(h:dv 100000 st)(row:Int)(hr:0<=row/\row<64):eO bf bw 106 [fI v st,iv row] s [] v st (drop st row) true id:=by
 obtain⟨i,rfl⟩:=yC hr.1;have hi:i<64:=by omega
 have Ku:=h.lr;have B8:=h.lf;have hll:=h.ll;have hb: -1000000<=st.bd.getD i aq.ah/\st.bd.getD i aq.ah<=1000000:=by
  have hb0: -(100000:Int)<=st.bd.getD i aq.ah/\st.bd.getD i aq.ah<=100000:=h.ref i;omega
 have hg:∀s,FC 164 [.agg ⟨[.slice v.f 64 v.fc,.slice v.l 64 v.lc]⟩,iv i] s [.aQ (.slice v.f 64 v.fc) 3 1 (ai st.bd),.aQ (.slice v.l 64 v.lc) 3 1 (ai st.dm)] [] λr' L'=>r'= .agg ⟨[.slice v.f 64 v.fc,.slice v.l 64 v.lc]⟩/\L'=[.aQ (.slice v.f 64 v.fc) 3 1 (ai (st.bd.set i (st.bd.getD i 0-1))),.aQ (.slice v.l 64 v.lc) 3 1 (ai (if st.bd.getD i 0-1=0 then st.dm.set i 0 else st.dm))]:=λs=>Ua s v st.bd st.dm i B8 hll hi hb
 have oN:(st.bd.set i (st.bd.getD i 0-1)).getD i aq.ah=st.bd.getD i 0-1:=by
  show(st.bd.set i _).getD i 0=_;rw[Pg.j3,if_pos ⟨rfl,af⟩]
 have Rg:(st.bd.set i (st.bd.getD i 0-1)).length=64:=by rw[gy];exact B8
 by_cases hz:st.bd.getD i 0-1=0
 .have hd:drop st i={st with ej:=st.ej.set i [],bd:=st.bd.set i (st.bd.getD i 0-1),dm:=st.dm.set i 0}:=by
   unfold drop;simp only[uM,if_pos hz]
  rw[hd];simp only[if_pos hz] at hg;have hzd:decide ((st.bd.set i (st.bd.getD i 0-1)).getD i aq.ah=0)=true:=du (oN.trans hz);refine aX f106 ?_;dsimp only[eK];refine' adp;refine' dV
  .rfl
  .intro hc;cases hc
 .have hd:drop st i={st with bd:=st.bd.set i (st.bd.getD i 0-1)}:=by
   unfold drop;simp only[uM,if_neg hz]
  rw[hd];simp only[if_neg hz] at hg;have hzd:decide ((st.bd.set i (st.bd.getD i 0-1)).getD i aq.ah=0)=false:=ec (λhx=>hz (oN.symm.trans hx));refine aX f106 ?_;dsimp only[eK];refine' adp;refine' dV
  .rfl
  .intro hc;cases hc
theorem HF (s:St)(v:SA)(st:ar)(h:dv 100000 st)(p:jt)(hp:bB p=true):eO bf bw 196 [fI v st,pv p] s [] v st (free st p) true id:=by
 have gL:=h.gl;have uF:=h.dl;cases hh:aK p with
 |true=>
  rw[show free st p=st from Pg.AH hh];refine aX f196 ?_;dsimp only[eK];refine' Ce;refine' dV
  .rfl
  .intro hc;cases hc
 |false=>
  have hrg:=zA hp hh;have C6:free st p=if p.di<=st.oQ then {st with eg:=st.eg++[p]} else if p.di<st.fH then {st with cP:=st.cP++[p]} else drop st p.row:=by
   unfold free;rw[if_neg (by rw[hh];simp)]
  rw[C6];by_cases h1:p.di<=st.oQ
  .rw[if_pos h1];have h1d:=du h1;refine aX f196 ?_;dsimp only[eK];refine' Ce
   refine' aeT
   .rfl
   .intro hc;cases hc
  .rw[if_neg h1];have h1d:=ec h1;by_cases h2:p.di<st.fH
   .rw[if_pos h2];have h2d:=du h2;refine aX f196 ?_;dsimp only[eK];refine' Ce
    refine' aeU
    .rfl
    .intro hc;cases hc
   .rw[if_neg h2];have h2d:=ec h2;refine aX f196 ?_;dsimp only[eK];repeat' (first|refine' aZ|refine' Hu|refine' ac5|refine' av|fail)
    refine' dV
    .rfl
    .intro hc;cases hc
def vy (st:ar)(l:c9)(level:Int)(old:jt):ar×jt×Bool:=match OS st l level old with
 |none=>(st,bz,false)
 |some (x,p)=>(x,p,true)
end Go.Pl
