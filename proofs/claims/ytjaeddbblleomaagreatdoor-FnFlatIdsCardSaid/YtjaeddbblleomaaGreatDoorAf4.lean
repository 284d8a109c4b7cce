/- Lemmas of the proof. No conditions. -/
import Derived.Test.YtjaeddbblleomaaGreatDoorAf3
set_option maxRecDepth 100000
set_option maxHeartbeats 4000000
set_option linter.unusedVariables false
set_option linter.unusedSimpArgs false
open Go.Proofs.Tryz
namespace Go.Pl
open Go Go.Ev Go.Lg Go.Proofs
theorem Tz (s:St)(a:aH)(c:Nat)(p:eV)(h0:0<p.length)(hp:p.length<=1000)(hr:bM s a p.length 3 (ah p)):fa aU aW 32 [.slice a p.length c] s (ai a) 37 p:=by
 have oK:=Rd.of (A:=ai a) hr λ_ hb=>hb
 refine aO f32 ?_;(repeat' (first|refine' aX|((with_reducible apply WO.HG);exact gO;exact gO;exact cu;exact mv;intro _)|((with_reducible apply WO.lit (α:=bU) (xs:=[]));exact yo;exact rfl;exact rfl;intro bl _)|refine' ar|fail))
 all_goals try refine cI
 all_goals(refine' lB)
 all_goals rfl
theorem TA (s:St)(a:aH)(c:Nat)(p:dx)(a':aH)(c':Nat)(q:eV)(hp:0<p.length/\p.length<=1000)(hq:0<q.length/\q.length<=1000)(h1:bM s a p.length 2 (ah p))(h2:bM s a' q.length 3 (ah q)):
  AJ 13 [.agg ⟨fT a c p a' c' q⟩] s [] (ai a++ai a') λR L=>∃b d b' d',R= .agg ⟨fT b d p b' d' q⟩/\L=[cj b d p,dD b' d' q]:=by
 have hd1:Rd ⟨s,([]:bn).flatMap It.aS,ai a++ai a'⟩ a p.length 2 (ah p):=Rd.of h1 λ_ hb=>di _ hb
 refine' zbd
 refine aO f13 ?_;(repeat' (first|refine' aX|((with_reducible apply WO.Iy);exact aD;(first|exact λs hr=>Ty s _ _ _ af af hr);exact cu;intro _ _ a_cloneN c_cloneN _ _)|((with_reducible apply WO.Iy);exact aD;(first|exact λs hr=>Tz s _ _ _ af af hr);exact cu;intro _ _ a_cloneT c_cloneT _ _)|refine' ar|fail))
 all_goals exact⟨bB,_,_,bj,aq,_,_,_,_,rfl,rfl⟩
def kT (f:Flat)(o:Op):Flat×Int:=if iJ o=true then(if mA f.ad f.ae o=0 then(T3 f.ad f.ae o,0) else(f,mA f.ad f.ae o)) else(f,1)
structure DoV (p:dx)(q:eV)(o:Op):Prop where
 V:IU p q
 tx:∀x∈q,x.bh.length<=5000
 z:o.ag∈Ev.fp
 y:o.to∈Ev.fp
 th:mA p q o=0->o.kind=3\/o.kind=4->∃t,nS q (eC p o.ag)=some t
 P1:iJ o=true->mA p q o=0->1<=(uP p q o).1.length
 Q1:iJ o=true->mA p q o=0->1<=(uP p q o).2.length
 Pa:iJ o=true->mA p q o=0->Ev.wK (uP p q o).1=true
 Qa:iJ o=true->mA p q o=0->Ev.wL (uP p q o).2=true
theorem En:∀z∈Ev.fp,z.length<=3000:=by decide
theorem MI (s:St)(b:Nat)(a:aH)(c:Nat)(a':aH)(c':Nat)(f:Flat)(o:Op)(hD:DoV f.ad f.ae o):Ad aU aW 14 [aP b,ov o] s b a c f.ad a' c' f.ae (iv (kT f o).2) (kT f o).1:=by
 have Fl:∀s,bO 33 [ov o] s [] (.bool (iJ o)):=λs=>W9 s o hD.z hD.y
 unfold kT;cases fZ:iJ o with
 |false=>
  rw[fZ] at Fl;rw[if_neg jL];obtain⟨kd,pa,tZ,at_,tx⟩:=o;have mg:=Fl;refine aO f14 ?_;dsimp only[vv];(repeat' (first|refine' aX|refine' K4|refine' ar|fail))
  all_goals refine' zbe
 |true=>
  rw[fZ] at Fl;rw[if_pos rfl];obtain⟨h1,h2,RW,h4,h5⟩:=kS fZ;have h3:o.kind=7->bf o.to=true:=λe=>RW (.inr e)
  have hag0:∀s,iB s b a c f.ad a' c' f.ae->bO 34 [SR b,ov o] s (qz b a a') (iv (mA f.ad f.ae o)):=λs hr=>OB s b a c f.ad a' c' f.ae hD.V o hD.z hD.y h1 h2 h3 h4 h5 hr
  by_cases h0:mA f.ad f.ae o=0
  .rw[if_pos h0];rw[h0] at hag0;have Yj:∀s,Ad aU aW 35 [aP b,ov o] s b a c f.ad a' c' f.ae (.tuple ⟨[]⟩) (T3 f.ad f.ae o):=λs=>do_ok s b a c f.ad a' c' f.ae hD.V o (En _ hD.z) (En _ hD.y) h1 h4 h5 hD.tx (hD.th h0) (hD.P1 fZ h0) (hD.Q1 fZ h0) (hD.Pa fZ h0) (hD.Qa fZ h0)
   generalize T3 f.ad f.ae o=F at *
   obtain⟨kd,pa,tZ,at_,tx⟩:=o;have mg:=Fl;have UO:∀s,iB s b a c f.ad a' c' f.ae->bO 34 [SR b,ov ⟨kd,pa,tZ,at_,tx⟩] s (qz b a a') (iv 0):=hag0;have iK:=Yj;refine aO f14 ?_;dsimp only[vv];(repeat' (first|refine' aX|refine' K4|refine' zc246|((with_reducible apply WO.Gq);exact gO;intro _)|((with_reducible apply WO.Yi);exact aD;(intro s;exact iK s);exact eu;intro _ _ Yk Yl c1_do p1_do Ym Yn c2_do q2_do _ _ h1_do QR h3_do QS)|refine' ar|fail))
   all_goals try refine cI
   all_goals exact⟨bB,_,_,bj,aq,rfl,_,_,_,_,_,_,_,_,h1_do,QR,h3_do,QS,rfl⟩
  .rw[if_neg h0];generalize mA f.ad f.ae o=cd at *
   obtain⟨kd,pa,tZ,at_,tx⟩:=o;have mg:=Fl;have UO:=hag0;refine aO f14 ?_;dsimp only[vv];(repeat' (first|refine' aX|refine' K4|refine' zc246|((with_reducible apply WO.Gq);exact gO;intro _)|refine' ar|fail))
   all_goals refine' zbe
theorem MJ (s:St)(a:aH)(c:Nat)(a':aH)(c':Nat)(f:Flat)(o:Op)(hf:ga f)(fZ:T2 f=false)(hr:bY s a a' f):bO 5 [kr a c a' c' f,ov o] s (jh a a') (.tuple ⟨[.agg ⟨fT none 0 [] none 0 []⟩,iv 1]⟩):=by
 have oK:=fX.n hr;have qJ:=fX.t hr;have uB:∀s,bY s a a' f->bO 12 [kr a c a' c' f] s (jh a a') (.bool false):=λs hr=>by
  have:=xq s a c a' c' f hf.e hr
  rwa [fZ] at this
 obtain⟨kd,pa,tZ,at_,tx⟩:=o;refine aO f5 ?_;(repeat' (first|refine' aX|refine' GG|refine' ar|fail))
 all_goals(refine' av)
 all_goals rfl
theorem OZ (s:St)(a:aH)(c:Nat)(a':aH)(c':Nat)(f:Flat)(o:Op)(hf:ga f)(fZ:T2 f=true)(hD:DoV f.ad f.ae o)(hr:bY s a a' f):
  AJ 5 [kr a c a' c' f,ov o] s [] (jh a a') λR L=>∃a1 c1 p1 a2 c2 q2,Sub 2 a1 p1 a1 (kT f o).1.ad/\Sub 3 a2 q2 a2 (kT f o).1.ae/\R= .tuple ⟨[kr a1 c1 a2 c2 (kT f o).1,iv (kT f o).2]⟩/\L=[.aJ (.slice a1 p1.length c1) 70 2 (ah p1),.aJ (.slice a2 q2.length c2) 37 3 (ah q2)]:=by
 have oK:=fX.n hr;have qJ:=fX.t hr;have hO:=(BU f).1 fZ;have nf:=hf.nl;have qM:=hf.tl;have xy:0<f.ad.length:=by have:=hO.n0;omega
 have ZE:0<f.ae.length:=by have:=hO.tl;unfold fR at this;simp at this;omega
 have uB:∀s,bY s a a' f->bO 12 [kr a c a' c' f] s (jh a a') (.bool true):=λs hr=>by
  have:=xq s a c a' c' f hf.e hr
  rwa [fZ] at this
 clear hO hf fZ;refine aO f5 ?_;(repeat' (first|refine' aX|refine' GG|((with_reducible apply WO.N2);exact aD;(intro s h1 h2;exact TA s _ _ _ _ _ _ af af h1 h2);exact cu;exact cu;intro _ _ a_cp c_cp b_cp d_cp _ _)|((with_reducible apply WO.callDoR);(repeat(first|exact ky.nil|(apply ky.cons;(focus(first|exact Ev.tmp rfl|exact Ev.const|exact Ev.func)))));exact eu;(intro s;exact MI s _ _ _ _ _ _ _ hD);intro _ _ Yk Yl c1_do p1_do Ym Yn c2_do q2_do _ _ h1_do QR h3_do QS)|refine' ar|fail))
 all_goals try refine cI
 all_goals(
  have e1:Yl=(kT f o).1.ad.length:=by rw[<-QR,dg];omega
  have e2:Yn=(kT f o).1.ae.length:=by rw[<-QS,dg];omega
  have s1:Sub 2 Yk p1_do Yk (kT f o).1.ad:=⟨⟨0,Yl,by rw[B1,QR],af,⟨.inl (by rw[HO,ZW])⟩⟩⟩;have s2:Sub 3 Ym q2_do Ym (kT f o).1.ae:=⟨⟨0,Yn,by rw[B1,QS],af,⟨.inl (by rw[HO,ZW])⟩⟩⟩;subst e1 e2;exact⟨bB,_,_,bj,aq,_,_,_,_,_,_,s1,s2,rfl,rfl⟩)
theorem O0 (s:St)(a:aH)(c:Nat)(a2:aH)(c2:Nat)(p:dx)(hp:p.length<=1000)(h1:bM s a p.length 2 (ah p))(h2:bM s a2 p.length 2 (ah p)):bO 19 [.slice a p.length c,.slice a2 p.length c2] s (ai a++ai a2) (.bool true):=by
 have hd1:=Rd.of (A:=ai a++ai a2) h1 λ_ hb=>di _ hb
 have RF:=Rd.of (A:=ai a++ai a2) h2 λ_ hb=>dH _ hb
 refine aO f19 ?_;(refine' cO)
 all_goals try refine ry
 refine W.bH (λm l L=>∃(i:Nat),Le [(0,.slice a p.length c),(1,.slice a2 p.length c2),(5,iv (i:Int))] l/\cr [] L/\m=p.length-i/\i<=p.length)
  (λl L=>Le [] l/\cr [] L) _ ⟨0,bd,aq,rfl,af⟩ ?_ ?_
 .rintro m l L ⟨i,hl,hL,rfl,g1⟩;refine W.le ?_ hl hL;clear hl hL;by_cases hi:i<p.length
  .have he:(!decide (p.getD i c9.lW=p.getD i c9.lW))=false:=by rw[dO rfl];rfl
   (repeat' (first|refine' aX|((with_reducible apply WO.fneq);exact gO;exact gO;intro _)|refine' ar|fail))
   all_goals try refine ry
   all_goals exact⟨_,af,i+1,bd,aq,rfl,af⟩
  ·(refine' cO)
   all_goals try refine ry
   all_goals exact⟨bd,aq⟩
 .rintro l L ⟨hl,hL⟩;(repeat(first|(with_reducible refine aj ?_)|(with_reducible refine cP ?_)|(with_reducible refine dC ?_)))
  refine W.le ?_ hl hL;clear hl hL;(refine' cO)
  all_goals(refine' av)
  all_goals rfl
theorem Ah (s:St)(a:aH)(c:Nat)(a':aH)(c':Nat)(a2:aH)(c2:Nat)(Eo:aH)(Yd:Nat)(p:dx)(q:eV)(hp:p.length<=1000)(hq:q.length<=1000)(h1:bM s a p.length 2 (ah p))(h2:bM s a' q.length 3 (ah q))(h3:bM s a2 p.length 2 (ah p))(h4:bM s Eo q.length 3 (ah q)):
  bO 7 [.agg ⟨fT a c p a' c' q⟩,.agg ⟨fT a2 c2 p Eo Yd q⟩] s ((ai a++ai a')++(ai a2++ai Eo)) (.bool true):=by
 have hd1:=Rd.of (A:=(ai a++ai a')++(ai a2++ai Eo)) h1 λ_ hb=>di _ (di _ hb)
 have RF:=Rd.of (A:=(ai a++ai a')++(ai a2++ai Eo)) h2 λ_ hb=>di _ (dH _ hb)
 have hd3:=Rd.of (A:=(ai a++ai a')++(ai a2++ai Eo)) h3 λ_ hb=>dH _ (di _ hb)
 have hd4:=Rd.of (A:=(ai a++ai a')++(ai a2++ai Eo)) h4 λ_ hb=>dH _ (dH _ hb)
 refine aO f7 ?_;(repeat' (first|refine' aX|((with_reducible apply WO.VV);exact aD;(intro s h1 h2;exact O0 s _ _ _ _ _ af h1 h2);exact cu;exact cu;intro _ _ _ _)|refine' ar|fail))
 all_goals try refine ry
 refine W.bH (λm l L=>∃(i b2 b3:Nat),Le [(2,aP b2),(3,aP b3),(5,iv (i:Int))] l/\cr [.box b2 (fT a c p a' c' q) 26 false,.box b3 (fT a2 c2 p Eo Yd q) 26 false] L/\m=q.length-i/\i<=q.length)
  (λl L=>Le [] l/\cr [] L) _ ⟨0,_,_,bd,aq,rfl,af⟩ ?_ ?_
 .rintro m l L ⟨i,b2,b3,hl,hL,rfl,g1⟩;refine W.le ?_ hl hL;clear hl hL;by_cases hi:i<q.length
  .have he:(!decide (q.getD i c9.lW=q.getD i c9.lW))=false:=by rw[dO rfl];rfl
   (repeat' (first|refine' aX|((with_reducible apply WO.tneq);exact gO;exact gO;intro _)|refine' ar|fail))
   all_goals try refine ry
   all_goals exact⟨_,af,i+1,b2,b3,bd,aq,rfl,af⟩
  ·(refine' cO)
   all_goals try refine ry
   all_goals exact⟨bd,aq⟩
 .rintro l L ⟨hl,hL⟩;(repeat(first|(with_reducible refine aj ?_)|(with_reducible refine cP ?_)|(with_reducible refine dC ?_)))
  refine W.le ?_ hl hL;clear hl hL;(refine' cO)
  all_goals(refine' av)
  all_goals rfl
abbrev T7 (p:dx):Prop:=p.length<=1000/\∀x∈p,x.ag.length<=5000
theorem nc:∀(l:dx)(e:Fnd),(Flat.fV l e).length=l.length+1
 |[],e=>rfl
 |x::l,e=>by
  unfold Flat.fV;split
  .rfl
  .rw[dh,nc l e,dh]
theorem TB (s:St)(a:aH)(c:Nat)(a':aH)(c':Nat)(f:Flat)(hf:T7 f.ad)(z:ay)(hz:z.length<=5000)(n:Int)(hr:bY s a a' f):AJ 85 [kr a c a' c' f,sv z,iv n] s [] (jh a a') λR L=>∃b d,R= .agg ⟨fT b d (Flat.fV f.ad ⟨z,n⟩) a' c' f.ae⟩/\L=[cj b d (Flat.fV f.ad ⟨z,n⟩)]:=by
 have oK:=fX.n hr;have qJ:=fX.t hr;have nf:=hf.1;refine aO f85 ?_;(refine' AP)
 refine W.bH (λk l L=>∃(i b3 b6:Nat)(put:Bool)(out:dx)(b:aH)(d:Nat),Le [(1,sv z),(2,iv n),(3,aP b3),(6,aP b6),(7,.slice b out.length d),(8,.bool put),(9,iv (i:Int))] l/\cr [.box b3 (fT a c f.ad a' c' f.ae) 26 false,.box b6 (fT none 0 [] none 0 []) 26 false,cj b d out] L/\k=f.ad.length-i/\i<=f.ad.length/\out.length=i+(if put then 1 else 0)/\Flat.fV f.ad ⟨z,n⟩=out++(if put then f.ad.drop i else Flat.fV (f.ad.drop i) ⟨z,n⟩))
  (λl L=>∃(b3 b6:Nat)(put:Bool)(out:dx)(b:aH)(d:Nat),Le [(1,sv z),(2,iv n),(3,aP b3),(6,aP b6),(7,.slice b out.length d),(8,.bool put)] l/\cr [.box b3 (fT a c f.ad a' c' f.ae) 26 false,.box b6 (fT none 0 [] none 0 []) 26 false,cj b d out] L/\out.length<=f.ad.length+1/\Flat.fV f.ad ⟨z,n⟩=out++(if put then [] else [⟨z,n⟩])) _ ⟨0,_,_,false,[],_,_,bd,aq,rfl,af,rfl,rfl⟩ ?_ ?_
 .rintro k l L ⟨i,b3,b6,put,out,b,d,hl,hL,rfl,h1,h2,h3⟩;refine W.le ?_ hl hL;clear hl hL;by_cases hi:i<f.ad.length
  .have ri:=hf.2 _ (aF hi c9.lW);rw[drop_cons hi] at h3;cases put with
   |true=>
    dsimp only[cj];(refine' AP)
    all_goals try refine cI
    all_goals(refine⟨_,af,i+1,b3,b6,true,out++[f.ad.getD i c9.lW],_,_,bd,aq,rfl,af,by rw[bR,h2];simp,?_⟩;rw[h3];simp)
   |false=>
    dsimp only[cj];(refine' AP)
    all_goals try refine cI
    .refine⟨_,af,i+1,b3,b6,true,out++[⟨z,n⟩]++[f.ad.getD i c9.lW],_,_,bd,aq,rfl,af,by rw[bR,bR,h2];simp,?_⟩;rw[h3,if_neg (by decide),Flat.fV,if_pos (by rw[<-gC];assumption)];simp
    .refine⟨_,af,i+1,b3,b6,false,out++[f.ad.getD i c9.lW],_,_,bd,aq,rfl,af,by rw[bR,h2];simp,?_⟩;rw[h3,if_neg (by decide),Flat.fV,if_neg (by rw[<-gC,jJ];assumption)];simp
  .have fG:i=f.ad.length:=by omega
   subst fG;dsimp only[cj];(refine' AP)
   all_goals try refine cI
   all_goals(refine⟨_,_,put,out,_,_,bd,aq,by cases put<;>simp at h2<;>omega,?_⟩;rw[h3,ig];rfl)
 .rintro l L ⟨b3,b6,put,out,b,d,hl,hL,h2,h3⟩;refine aj ?_;refine W.le ?_ hl hL;clear hl hL;cases put with
  |true=>
   dsimp only[cj];(refine' AP)
   rw[if_pos rfl,iH] at h3;rw[h3];exact⟨bB,_,_,bj,aq,_,_,rfl,rfl⟩
  |false=>
   dsimp only[cj];(refine' AP)
   rw[if_neg (by decide)] at h3;rw[h3];exact⟨bB,_,_,bj,aq,_,_,rfl,rfl⟩
theorem O1 (s:St)(a:aH)(c:Nat)(a':aH)(c':Nat)(f:Flat)(hf:T7 f.ad)(z:ay)(hz:z.length<=5000)(hr:bY s a a' f):AJ 86 [kr a c a' c' f,sv z] s [] (jh a a') λR L=>∃b d,R= .agg ⟨fT b d (f.less z).ad a' c' f.ae⟩/\L=[cj b d (f.less z).ad]:=by
 have oK:=fX.n hr;have qJ:=fX.t hr;have nf:=hf.1;refine aO f86 ?_;(refine' AP)
 refine W.bH (λk l L=>∃(i b3 b6:Nat)(out:dx)(b:aH)(d:Nat),Le [(1,sv z),(2,aP b3),(4,aP b6),(5,.slice b out.length d),(6,iv (i:Int))] l/\cr [.box b3 (fT a c f.ad a' c' f.ae) 26 false,.box b6 (fT none 0 [] none 0 []) 26 false,cj b d out] L/\k=f.ad.length-i/\i<=f.ad.length/\out.length<=i/\(f.less z).ad=out++(f.ad.drop i).filter λx=>decide (x.ag≠z))
  (λl L=>∃(b3 b6:Nat)(b:aH)(d:Nat),Le [(2,aP b3),(4,aP b6),(5,.slice b (f.less z).ad.length d)] l/\cr [.box b3 (fT a c f.ad a' c' f.ae) 26 false,.box b6 (fT none 0 [] none 0 []) 26 false,cj b d (f.less z).ad] L) _ ⟨0,_,_,[],_,_,bd,aq,rfl,af,by simp,rfl⟩ ?_ ?_
 .rintro k l L ⟨i,b3,b6,out,b,d,hl,hL,rfl,h1,h2,h3⟩;refine W.le ?_ hl hL;clear hl hL;by_cases hi:i<f.ad.length
  .have ri:=hf.2 _ (aF hi c9.lW);rw[drop_cons hi,tz] at h3;dsimp only[cj];(refine' AP)
   all_goals try refine cI
   .refine⟨_,af,i+1,b3,b6,out++[f.ad.getD i c9.lW],_,_,bd,aq,rfl,af,by rw[bR];simp;omega,?_⟩;rw[h3,if_pos (by rw[cl];assumption)];simp
   .refine⟨_,af,i+1,b3,b6,out,_,_,bd,aq,rfl,af,af,?_⟩;rw[h3,if_neg (by rw[cl];exact λh=>h (by assumption))]
  .have fG:i=f.ad.length:=by omega
   subst fG;rw[ig,List.filter_nil,iH] at h3;subst h3;dsimp only[cj];(refine' cO)
   all_goals try refine cI
   all_goals exact⟨_,_,_,_,bd,aq⟩
 .rintro l L ⟨b3,b6,b,d,hl,hL⟩;refine aj ?_;refine W.le ?_ hl hL;clear hl hL;dsimp only[cj];(refine' cO)
  exact⟨bB,_,_,bj,aq,_,_,rfl,rfl⟩
abbrev Ai (E:dy)(X:dM)(g:FuncId)(vs:aQ)(s:St)(a:aH)(c:Nat)(a':aH)(c':Nat)(f:Flat)(r:Flat×Int):Prop:=
 fI E X g vs s [cj a c f.ad,dD a' c' f.ae] [] λR L=>∃b d b' d',R= .tuple ⟨[kr b d b' d' r.1,iv r.2]⟩/\L=[cj b d r.1.ad,dD b' d' r.1.ae]
section
variable {E:dy}{X:dM}{Γ:gY}{l:Kn}{L R:bn}{K:KO}{g:FuncId}{xs:List Operand}{ts:Array TypeId}{vs:aQ}{a a':aH}{c c':Nat}{f:Flat}{r:Flat×Int}
theorem WO.Wp {p g':dx}{q:eV}(hx:ky l xs vs)(h:∀s,bY s a a' ⟨p,q⟩->fI E X g vs s [] (jh a a') λR L=>∃b d,R= .agg ⟨fT b d g' a' c' q⟩/\L=[cj b d g'])(h1:jR Γ L a p.length 2 (ah p))(h2:jR Γ L a' q.length 3 (ah q))
  (k:∀m m' b d,kb L m->m<=m'->K (.agg ⟨fT b d g' a' c' q⟩) (cj b d g'::L) m m' (λi=>i∈jh a a'\/i∈([]:bn).flatMap It.aS\/(m<=i/\i<m')) (λi=>i∈([]:bn).flatMap It.aS\/(m<=i/\i<m'))):WO E X Γ l (.call ⟨.value (.func g),⟨xs⟩,ts⟩) L K:=
 WO.call (Lm:=[]) (R:=L) (A:=jh a a') hx (.refl _) (λs hi b hb=>by
   rcases fJ.1 hb with hb|hb
   .exact(h1.row hi).2 b hb
   .exact(h2.row hi).2 b hb) (λs hi=>h s ⟨(h1.row hi).1,(h2.row hi).1⟩) (by rintro r' L' m m' ho hm ⟨b,d,rfl,rfl⟩;exact k m m' b d ho hm)
end
theorem MK {α:Type}[BEq α][LawfulBEq α]:∀(xs l:List α),xs.Nodup->(∀x∈xs,x∈l)->xs.length<=l.length
 |[],l,_,_=>jG _
 |x::xs,l,h,hs=>by
  have hx:=hs x jr;have hn:=vN.1 h;have:=MK xs (l.erase x) hn.2 λy hy=>(Pq (show y≠x from λe=>hn.1 (by rw[<-e];exact hy))).2 (hs y (lE _ hy))
  have hp:=JI hx;rw[Pr hx] at this;rw[dh];omega
theorem free_ex (f:Flat):∃k:Nat,k<=f.ae.length/\f.cD (k:Int)=none:=by
 refine' zaA
 have:=MK ((List.range (f.ae.length+1)).map λ(k:Nat)=>(k:Int)) (f.ae.map bU.id) (by
  rw[FH,FI];exact(List.nodup_range).imp λ{a b} gx he=>gx af) (λx hx=>by
  obtain⟨k,hk,rfl⟩:=n9.1 hx;obtain⟨y,hy,he⟩:=h' k (by have:=mH.1 hk;omega);exact n9.2 ⟨y,hy,he⟩)
 rw[vL,vL,JP] at this;omega
theorem HH (f:Flat)(n id:Nat):f.yb (n+1) id=if(f.cD (id:Int)).isSome then f.yb n (id+1) else id:=rfl
theorem Ep:∀(l:eV)(e:bU),(Flat.nL l e).length=l.length+1
 |[],e=>rfl
 |x::l,e=>by
  unfold Flat.nL;split
  .rw[dh,Ep l e,dh]
  .rfl
theorem QT (f:Flat):∀(m id:Nat),f.ae.length+1<=id+m->(∃k:Nat,id<=k/\k<=f.ae.length/\f.cD (k:Int)=none)->f.yb m id<=f.ae.length/\f.cD (f.yb m id:Nat)=none
 |0,id,h,⟨k,h1,h2,h3⟩=>by omega
 |m+1,id,h,⟨k,h1,h2,h3⟩=>by
  rw[HH];cases hz:f.cD (id:Int) with
  |none=>rw[if_neg (by decide)];exact⟨af,hz⟩
  |some j=>
   rw[if_pos (show(some j).isSome=true from rfl)];exact QT f m (id+1) af ⟨k,by
    have:k≠id:=λe=>by rw[e,hz] at h3;cases h3
    omega,h2,h3⟩
theorem TC (f:Flat):f.bI<=f.ae.length/\f.cD (f.bI:Nat)=none:=by
 obtain⟨k,h1,h2⟩:=free_ex f;exact QT f _ 0 af ⟨k,af,h1,h2⟩
theorem N0 (s:St)(a:aH)(c:Nat)(a':aH)(c':Nat)(p:dx)(q:eV)(hp:T7 p)(z:ay)(hz:z.length<=5000)(n:Int)(hr:bY s a a' ⟨p,q⟩):AJ 85 [.agg ⟨fT a c p a' c' q⟩,sv z,iv n] s [] (jh a a') λR L=>∃b d,R= .agg ⟨fT b d (Flat.fV p ⟨z,n⟩) a' c' q⟩/\L=[cj b d (Flat.fV p ⟨z,n⟩)]:=TB s a c a' c' ⟨p,q⟩ hp z hz n hr
theorem K5 (s:St)(a:aH)(c:Nat)(a':aH)(c':Nat)(p:dx)(q:eV)(hp:T7 p)(z:ay)(hz:z.length<=5000)(hr:bY s a a' ⟨p,q⟩):AJ 86 [.agg ⟨fT a c p a' c' q⟩,sv z] s [] (jh a a') λR L=>∃b d,R= .agg ⟨fT b d (p.filter λx=>decide (x.ag≠z)) a' c' q⟩/\L=[cj b d (p.filter λx=>decide (x.ag≠z))]:=O1 s a c a' c' ⟨p,q⟩ hp z hz hr
end Go.Pl
