/- Lemmas of the proof. No conditions. -/
import Derived.Test.YtajgfdfbnhchcaaGreatDoorAf1
set_option maxRecDepth 100000
set_option maxHeartbeats 4000000
set_option linter.unusedVariables false
set_option linter.unusedSimpArgs false
open Go.Proofs.Tryz
namespace Go.Pl
open Go Go.Ev Go.Lg Go.Proofs
theorem Uj (s:St)(a:aK)(c:Nat)(p:List a6)(a':aK)(c':Nat)(q:eG)(hp:0<p.length/\p.length<=1000)(hq:0<q.length/\q.length<=1000)(h1:bO s a p.length 2 (ai p))(h2:bO s a' q.length 3 (ai q)):
  Bi 22 [.agg ⟨iw a c p a' c' q⟩] s [] (aj a++aj a') λR L=>∃b d b' d',R= .agg ⟨iw b d p b' d' q⟩/\L=[cv b d p,dN b' d' q]:=by
 have hd1:Rd ⟨s,([]:bE).flatMap It.aY,aj a++aj a'⟩ a p.length 2 (ai p):=Rd.of h1 λ_ hb=>cP _ hb
 refine' zbc
 refine aU f22 ?_;(repeat' (first|refine' a7|((with_reducible apply WO.I3);exact aE;(first|exact λs hr=>Uh s _ _ _ ag ag hr);exact cg;intro _ _ ai6 ai7 _ _)|((with_reducible apply WO.I3);exact aE;(first|exact λs hr=>Ui s _ _ _ ag ag hr);exact cg;intro _ _ ai8 ai9 _ _)|refine' aw|fail))
 all_goals exact⟨bB,_,_,bn,au,_,_,_,_,rfl,rfl⟩
def im (f:Flat)(o:Op):Flat×Int:=if gJ o=true then(if jB f.ad f.ae o=0 then(NK f.ad f.ae o,0) else(f,jB f.ad f.ae o)) else(f,1)
structure DoV (p:List a6)(q:eG)(o:Op):Prop where
 V:Jp p q
 tx:∀x∈q,x.aW.length<=5000
 z:o.af∈Ev.cB
 y:o.to∈Ev.cB
 th:jB p q o=0->o.kind=3\/o.kind=4->∃t,kM q (dy p o.af)=some t
 P1:gJ o=true->jB p q o=0->1<=(rR p q o).1.length
 Q1:gJ o=true->jB p q o=0->1<=(rR p q o).2.length
 Pa:gJ o=true->jB p q o=0->Ev.xm (rR p q o).1=true
 Qa:gJ o=true->jB p q o=0->Ev.xn (rR p q o).2=true
theorem EX:∀z∈Ev.cB,z.length<=3000:=by decide
theorem Nf (s:St)(b:Nat)(a:aK)(c:Nat)(a':aK)(c':Nat)(f:Flat)(o:Op)(hD:DoV f.ad f.ae o):AL a8 bj 23 [bc b,ov o] s b a c f.ad a' c' f.ae (iv (im f o).2) (im f o).1:=by
 have FZ:∀s,bP 47 [ov o] s [] (.bool (gJ o)):=λs=>XT s o hD.z hD.y
 unfold im;cases fF:gJ o with
 |false=>
  rw[fF] at FZ;rw[if_neg jT];obtain⟨kd,pa,tq9,at_,tx⟩:=o;have mD:=FZ;refine aU f23 ?_;dsimp only[vT];(repeat' (first|refine' a7|refine' LD|refine' aw|fail))
  all_goals refine' zbe
 |true=>
  rw[fF] at FZ;rw[if_pos rfl];obtain⟨h1,h2,SG,h4,h5⟩:=jD fF;have h3:o.kind=7->aT o.to=true:=λe=>SG (.inr e)
  have afx:∀s,iQ s b a c f.ad a' c' f.ae->bP 48 [Tx b,ov o] s (qN b a a') (iv (jB f.ad f.ae o)):=λs hr=>Ph s b a c f.ad a' c' f.ae hD.V o hD.z hD.y h1 h2 h3 h4 h5 hr
  by_cases h0:jB f.ad f.ae o=0
  .rw[if_pos h0];rw[h0] at afx;have Y5:∀s,AL a8 bj 49 [bc b,ov o] s b a c f.ad a' c' f.ae (.tuple ⟨[]⟩) (NK f.ad f.ae o):=λs=>ain s b a c f.ad a' c' f.ae hD.V o (EX _ hD.z) (EX _ hD.y) h1 h4 h5 hD.tx (hD.th h0) (hD.P1 fF h0) (hD.Q1 fF h0) (hD.Pa fF h0) (hD.Qa fF h0)
   generalize NK f.ad f.ae o=F at *
   obtain⟨kd,pa,tq9,at_,tx⟩:=o;have mD:=FZ;have Vv:∀s,iQ s b a c f.ad a' c' f.ae->bP 48 [Tx b,ov ⟨kd,pa,tq9,at_,tx⟩] s (qN b a a') (iv 0):=afx;have iX:=Y5;refine aU f23 ?_;dsimp only[vT];(repeat' (first|refine' a7|refine' LD|refine' acG|((with_reducible apply WO.GU);exact gP;intro _)|((with_reducible apply WO.Y4);exact aE;(intro s;exact iX s);exact ey;intro _ _ Y6 Y7 aja adf Y8 Y9 ajb adg _ _ adh Rw adi Rx)|refine' aw|fail))
   all_goals try refine cM
   all_goals exact⟨bB,_,_,bn,au,rfl,_,_,_,_,_,_,_,_,adh,Rw,adi,Rx,rfl⟩
  .rw[if_neg h0];generalize jB f.ad f.ae o=cd at *
   obtain⟨kd,pa,tq9,at_,tx⟩:=o;have mD:=FZ;have Vv:=afx;refine aU f23 ?_;dsimp only[vT];(repeat' (first|refine' a7|refine' LD|refine' acG|((with_reducible apply WO.GU);exact gP;intro _)|refine' aw|fail))
   all_goals refine' zbe
theorem Ng (s:St)(a:aK)(c:Nat)(a':aK)(c':Nat)(f:Flat)(o:Op)(hf:fU f)(fF:Q2 f=false)(hr:cl s a a' f):bP 8 [js a c a' c' f,ov o] s (kF a a') (.tuple ⟨[.agg ⟨iw none 0 [] none 0 []⟩,iv 1]⟩):=by
 have oR:=fN.n hr;have qI:=fN.t hr;have tE:∀s,cl s a a' f->bP 11 [js a c a' c' f] s (kF a a') (.bool false):=λs hr=>by
  have:=tQ s a c a' c' f hf.e hr
  rwa [fF] at this
 obtain⟨kd,pa,tq9,at_,tx⟩:=o;refine aU f8 ?_;(repeat' (first|refine' a7|refine' DP|refine' aw|fail))
 all_goals(refine' ax)
 all_goals rfl
theorem PI (s:St)(a:aK)(c:Nat)(a':aK)(c':Nat)(f:Flat)(o:Op)(hf:fU f)(fF:Q2 f=true)(hD:DoV f.ad f.ae o)(hr:cl s a a' f):
  Bi 8 [js a c a' c' f,ov o] s [] (kF a a') λR L=>∃a1 c1 p1 a2 c2 q2,Sub 2 a1 p1 a1 (im f o).1.ad/\Sub 3 a2 q2 a2 (im f o).1.ae/\R= .tuple ⟨[js a1 c1 a2 c2 (im f o).1,iv (im f o).2]⟩/\L=[.aN (.slice a1 p1.length c1) 39 2 (ai p1),.aN (.slice a2 q2.length c2) 61 3 (ai q2)]:=by
 have oR:=fN.n hr;have qI:=fN.t hr;have hO:=(zm f).1 fF;have nC:=hf.nl;have pz:=hf.tl;have x7:0<f.ad.length:=by have:=hO.n0;omega
 have ht0:0<f.ae.length:=by have:=hO.tl;unfold fR at this;simp at this;omega
 have tE:∀s,cl s a a' f->bP 11 [js a c a' c' f] s (kF a a') (.bool true):=λs hr=>by
  have:=tQ s a c a' c' f hf.e hr
  rwa [fF] at this
 clear hO hf fF;refine aU f8 ?_;(repeat' (first|refine' a7|refine' DP|((with_reducible apply WO.OM);exact aE;(intro s h1 h2;exact Uj s _ _ _ _ _ _ ag ag h1 h2);exact cg;exact cg;intro _ _ ahZ ah0 ah1 ah2 _ _)|((with_reducible apply WO.abF);(repeat(first|exact kL.nil|(apply kL.cons;(focus(first|exact Ev.tmp rfl|exact Ev.const|exact Ev.func)))));exact ey;(intro s;exact Nf s _ _ _ _ _ _ _ hD);intro _ _ Y6 Y7 aja adf Y8 Y9 ajb adg _ _ adh Rw adi Rx)|refine' aw|fail))
 all_goals try refine cM
 all_goals(
  have e1:Y7=(im f o).1.ad.length:=by rw[<-Rw,cZ];omega
  have e2:Y9=(im f o).1.ae.length:=by rw[<-Rx,cZ];omega
  have s1:Sub 2 Y6 adf Y6 (im f o).1.ad:=⟨⟨0,Y7,by rw[CB,Rw],ag,⟨.inl (by rw[Ih,aau])⟩⟩⟩;have s2:Sub 3 Y8 adg Y8 (im f o).1.ae:=⟨⟨0,Y9,by rw[CB,Rx],ag,⟨.inl (by rw[Ih,aau])⟩⟩⟩;subst e1 e2;exact⟨bB,_,_,bn,au,_,_,_,_,_,_,s1,s2,rfl,rfl⟩)
theorem PJ (s:St)(a:aK)(c:Nat)(a2:aK)(c2:Nat)(p:List a6)(hp:p.length<=1000)(h1:bO s a p.length 2 (ai p))(h2:bO s a2 p.length 2 (ai p)):bP 28 [.slice a p.length c,.slice a2 p.length c2] s (aj a++aj a2) (.bool true):=by
 have hd1:=Rd.of (A:=aj a++aj a2) h1 λ_ hb=>cP _ hb
 have Qw:=Rd.of (A:=aj a++aj a2) h2 λ_ hb=>dz _ hb
 refine aU f28 ?_;(refine' cU)
 all_goals try refine rO
 refine W.bN (λm l L=>∃(i:Nat),Le [(0,.slice a p.length c),(1,.slice a2 p.length c2),(5,iv (i:Int))] l/\cz [] L/\m=p.length-i/\i<=p.length)
  (λl L=>Le [] l/\cz [] L) _ ⟨0,bk,au,rfl,ag⟩ ?_ ?_
 .rintro m l L ⟨i,hl,hL,rfl,g1⟩;refine W.le ?_ hl hL;clear hl hL;by_cases hi:i<p.length
  .have he:(!decide (p.getD i ak.ah=p.getD i ak.ah))=false:=by rw[dt rfl];rfl
   (repeat' (first|refine' a7|((with_reducible apply WO.ai0);exact gP;exact gP;intro _)|refine' aw|fail))
   all_goals try refine rO
   all_goals exact⟨_,ag,i+1,bk,au,rfl,ag⟩
  ·(refine' cU)
   all_goals try refine rO
   all_goals exact⟨bk,au⟩
 .rintro l L ⟨hl,hL⟩;(repeat(first|(with_reducible refine aq ?_)|(with_reducible refine dH ?_)|(with_reducible refine eB ?_)))
  refine W.le ?_ hl hL;clear hl hL;(refine' cU)
  all_goals(refine' ax)
  all_goals rfl
theorem v8 (s:St)(a:aK)(c:Nat)(a':aK)(c':Nat)(a2:aK)(c2:Nat)(zW:aK)(Ue:Nat)(p:List a6)(q:eG)(hp:p.length<=1000)(hq:q.length<=1000)(h1:bO s a p.length 2 (ai p))(h2:bO s a' q.length 3 (ai q))(h3:bO s a2 p.length 2 (ai p))(h4:bO s zW q.length 3 (ai q)):
  bP 10 [.agg ⟨iw a c p a' c' q⟩,.agg ⟨iw a2 c2 p zW Ue q⟩] s ((aj a++aj a')++(aj a2++aj zW)) (.bool true):=by
 have hd1:=Rd.of (A:=(aj a++aj a')++(aj a2++aj zW)) h1 λ_ hb=>cP _ (cP _ hb)
 have Qw:=Rd.of (A:=(aj a++aj a')++(aj a2++aj zW)) h2 λ_ hb=>cP _ (dz _ hb)
 have hd3:=Rd.of (A:=(aj a++aj a')++(aj a2++aj zW)) h3 λ_ hb=>dz _ (cP _ hb)
 have hd4:=Rd.of (A:=(aj a++aj a')++(aj a2++aj zW)) h4 λ_ hb=>dz _ (dz _ hb)
 refine aU f10 ?_;(repeat' (first|refine' a7|((with_reducible apply WO.WB);exact aE;(intro s h1 h2;exact PJ s _ _ _ _ _ ag h1 h2);exact cg;exact cg;intro _ _ _ _)|refine' aw|fail))
 all_goals try refine rO
 refine W.bN (λm l L=>∃(i b2 b3:Nat),Le [(2,bc b2),(3,bc b3),(5,iv (i:Int))] l/\cz [.box b2 (iw a c p a' c' q) 26 false,.box b3 (iw a2 c2 p zW Ue q) 26 false] L/\m=q.length-i/\i<=q.length)
  (λl L=>Le [] l/\cz [] L) _ ⟨0,_,_,bk,au,rfl,ag⟩ ?_ ?_
 .rintro m l L ⟨i,b2,b3,hl,hL,rfl,g1⟩;refine W.le ?_ hl hL;clear hl hL;by_cases hi:i<q.length
  .have he:(!decide (q.getD i ak.ah=q.getD i ak.ah))=false:=by rw[dt rfl];rfl
   (repeat' (first|refine' a7|((with_reducible apply WO.alH);exact gP;exact gP;intro _)|refine' aw|fail))
   all_goals try refine rO
   all_goals exact⟨_,ag,i+1,b2,b3,bk,au,rfl,ag⟩
  ·(refine' cU)
   all_goals try refine rO
   all_goals exact⟨bk,au⟩
 .rintro l L ⟨hl,hL⟩;(repeat(first|(with_reducible refine aq ?_)|(with_reducible refine dH ?_)|(with_reducible refine eB ?_)))
  refine W.le ?_ hl hL;clear hl hL;(refine' cU)
  all_goals(refine' ax)
  all_goals rfl
abbrev UR (p:List a6):Prop:=p.length<=1000/\∀x∈p,x.af.length<=5000
theorem oX:∀(l:List a6)(e:a6),(Flat.gb l e).length=l.length+1
 |[],e=>rfl
 |x::l,e=>by
  unfold Flat.gb;split
  .rfl
  .rw[cY,oX l e,cY]
theorem Uk (s:St)(a:aK)(c:Nat)(a':aK)(c':Nat)(f:Flat)(hf:UR f.ad)(z:aA)(hz:z.length<=5000)(n:Int)(hr:cl s a a' f):Bi 97 [js a c a' c' f,sv z,iv n] s [] (kF a a') λR L=>∃b d,R= .agg ⟨iw b d (Flat.gb f.ad ⟨z,n⟩) a' c' f.ae⟩/\L=[cv b d (Flat.gb f.ad ⟨z,n⟩)]:=by
 have oR:=fN.n hr;have qI:=fN.t hr;have nC:=hf.1;refine aU f97 ?_;(refine' Bo)
 refine W.bN (λk l L=>∃(i b3 b6:Nat)(put:Bool)(out:List a6)(b:aK)(d:Nat),Le [(1,sv z),(2,iv n),(3,bc b3),(6,bc b6),(7,.slice b out.length d),(8,.bool put),(9,iv (i:Int))] l/\cz [.box b3 (iw a c f.ad a' c' f.ae) 26 false,.box b6 (iw none 0 [] none 0 []) 26 false,cv b d out] L/\k=f.ad.length-i/\i<=f.ad.length/\out.length=i+(if put then 1 else 0)/\Flat.gb f.ad ⟨z,n⟩=out++(if put then f.ad.drop i else Flat.gb (f.ad.drop i) ⟨z,n⟩))
  (λl L=>∃(b3 b6:Nat)(put:Bool)(out:List a6)(b:aK)(d:Nat),Le [(1,sv z),(2,iv n),(3,bc b3),(6,bc b6),(7,.slice b out.length d),(8,.bool put)] l/\cz [.box b3 (iw a c f.ad a' c' f.ae) 26 false,.box b6 (iw none 0 [] none 0 []) 26 false,cv b d out] L/\out.length<=f.ad.length+1/\Flat.gb f.ad ⟨z,n⟩=out++(if put then [] else [⟨z,n⟩])) _ ⟨0,_,_,false,[],_,_,bk,au,rfl,ag,rfl,rfl⟩ ?_ ?_
 .rintro k l L ⟨i,b3,b6,put,out,b,d,hl,hL,rfl,h1,h2,h3⟩;refine W.le ?_ hl hL;clear hl hL;by_cases hi:i<f.ad.length
  .have rD:=hf.2 _ (aJ hi ak.ah);rw[drop_cons hi] at h3;cases put with
   |true=>
    dsimp only[cv];(refine' Bo)
    all_goals try refine cM
    all_goals(refine⟨_,ag,i+1,b3,b6,true,out++[f.ad.getD i ak.ah],_,_,bk,au,rfl,ag,by rw[bJ,h2];simp,?_⟩;rw[h3];simp)
   |false=>
    dsimp only[cv];(refine' Bo)
    all_goals try refine cM
    .refine⟨_,ag,i+1,b3,b6,true,out++[⟨z,n⟩]++[f.ad.getD i ak.ah],_,_,bk,au,rfl,ag,by rw[bJ,bJ,h2];simp,?_⟩;rw[h3,if_neg (by decide),Flat.gb,if_pos (by rw[<-gz];assumption)];simp
    .refine⟨_,ag,i+1,b3,b6,false,out++[f.ad.getD i ak.ah],_,_,bk,au,rfl,ag,by rw[bJ,h2];simp,?_⟩;rw[h3,if_neg (by decide),Flat.gb,if_neg (by rw[<-gz,jR];assumption)];simp
  .have fE:i=f.ad.length:=by omega
   subst fE;dsimp only[cv];(refine' Bo)
   all_goals try refine cM
   all_goals(refine⟨_,_,put,out,_,_,bk,au,by cases put<;>simp at h2<;>omega,?_⟩;rw[h3,iD];rfl)
 .rintro l L ⟨b3,b6,put,out,b,d,hl,hL,h2,h3⟩;refine aq ?_;refine W.le ?_ hl hL;clear hl hL;cases put with
  |true=>
   dsimp only[cv];(refine' Bo)
   rw[if_pos rfl,ix] at h3;rw[h3];exact⟨bB,_,_,bn,au,_,_,rfl,rfl⟩
  |false=>
   dsimp only[cv];(refine' Bo)
   rw[if_neg (by decide)] at h3;rw[h3];exact⟨bB,_,_,bn,au,_,_,rfl,rfl⟩
theorem PK (s:St)(a:aK)(c:Nat)(a':aK)(c':Nat)(f:Flat)(hf:UR f.ad)(z:aA)(hz:z.length<=5000)(hr:cl s a a' f):Bi 98 [js a c a' c' f,sv z] s [] (kF a a') λR L=>∃b d,R= .agg ⟨iw b d (f.less z).ad a' c' f.ae⟩/\L=[cv b d (f.less z).ad]:=by
 have oR:=fN.n hr;have qI:=fN.t hr;have nC:=hf.1;refine aU f98 ?_;(refine' Bo)
 refine W.bN (λk l L=>∃(i b3 b6:Nat)(out:List a6)(b:aK)(d:Nat),Le [(1,sv z),(2,bc b3),(4,bc b6),(5,.slice b out.length d),(6,iv (i:Int))] l/\cz [.box b3 (iw a c f.ad a' c' f.ae) 26 false,.box b6 (iw none 0 [] none 0 []) 26 false,cv b d out] L/\k=f.ad.length-i/\i<=f.ad.length/\out.length<=i/\(f.less z).ad=out++(f.ad.drop i).filter λx=>decide (x.af≠z))
  (λl L=>∃(b3 b6:Nat)(b:aK)(d:Nat),Le [(2,bc b3),(4,bc b6),(5,.slice b (f.less z).ad.length d)] l/\cz [.box b3 (iw a c f.ad a' c' f.ae) 26 false,.box b6 (iw none 0 [] none 0 []) 26 false,cv b d (f.less z).ad] L) _ ⟨0,_,_,[],_,_,bk,au,rfl,ag,by simp,rfl⟩ ?_ ?_
 .rintro k l L ⟨i,b3,b6,out,b,d,hl,hL,rfl,h1,h2,h3⟩;refine W.le ?_ hl hL;clear hl hL;by_cases hi:i<f.ad.length
  .have rD:=hf.2 _ (aJ hi ak.ah);rw[drop_cons hi,tU] at h3;dsimp only[cv];(refine' Bo)
   all_goals try refine cM
   .refine⟨_,ag,i+1,b3,b6,out++[f.ad.getD i ak.ah],_,_,bk,au,rfl,ag,by rw[bJ];simp;omega,?_⟩;rw[h3,if_pos (by rw[bQ];assumption)];simp
   .refine⟨_,ag,i+1,b3,b6,out,_,_,bk,au,rfl,ag,ag,?_⟩;rw[h3,if_neg (by rw[bQ];exact λh=>h (by assumption))]
  .have fE:i=f.ad.length:=by omega
   subst fE;rw[iD,List.filter_nil,ix] at h3;subst h3;dsimp only[cv];(refine' cU)
   all_goals try refine cM
   all_goals exact⟨_,_,_,_,bk,au⟩
 .rintro l L ⟨b3,b6,b,d,hl,hL⟩;refine aq ?_;refine W.le ?_ hl hL;clear hl hL;dsimp only[cv];(refine' cU)
  exact⟨bB,_,_,bn,au,_,_,rfl,rfl⟩
abbrev AQ (E:dA)(X:dM)(g:FuncId)(vs:aQ)(s:St)(a:aK)(c:Nat)(a':aK)(c':Nat)(f:Flat)(r:Flat×Int):Prop:=
 fH E X g vs s [cv a c f.ad,dN a' c' f.ae] [] λR L=>∃b d b' d',R= .tuple ⟨[js b d b' d' r.1,iv r.2]⟩/\L=[cv b d r.1.ad,dN b' d' r.1.ae]
section
variable {E:dA}{X:dM}{Γ:ij}{l:Kn}{L R:bE}{K:KO}{g:FuncId}{xs:List Operand}{ts:Array TypeId}{vs:aQ}{a a':aK}{c c':Nat}{f:Flat}{r:Flat×Int}
theorem WO.Xc {p g':List a6}{q:eG}(hx:kL l xs vs)(h:∀s,cl s a a' ⟨p,q⟩->fH E X g vs s [] (kF a a') λR L=>∃b d,R= .agg ⟨iw b d g' a' c' q⟩/\L=[cv b d g'])(h1:jY Γ L a p.length 2 (ai p))(h2:jY Γ L a' q.length 3 (ai q))
  (k:∀m m' b d,kq L m->m<=m'->K (.agg ⟨iw b d g' a' c' q⟩) (cv b d g'::L) m m' (λi=>i∈kF a a'\/i∈([]:bE).flatMap It.aY\/(m<=i/\i<m')) (λi=>i∈([]:bE).flatMap It.aY\/(m<=i/\i<m'))):WO E X Γ l (.call ⟨.value (.func g),⟨xs⟩,ts⟩) L K:=
 WO.call (Lm:=[]) (R:=L) (A:=kF a a') hx (.refl _) (λs hi b hb=>by
   rcases eX.1 hb with hb|hb
   .exact(h1.row hi).2 b hb
   .exact(h2.row hi).2 b hb) (λs hi=>h s ⟨(h1.row hi).1,(h2.row hi).1⟩) (by rintro r' L' m m' ho hm ⟨b,d,rfl,rfl⟩;exact k m m' b d ho hm)
end
theorem Nh {α:Type}[BEq α][LawfulBEq α]:∀(xs l:List α),xs.Nodup->(∀x∈xs,x∈l)->xs.length<=l.length
 |[],l,_,_=>iJ _
 |x::xs,l,h,hs=>by
  have hx:=hs x iV;have hn:=uA.1 h;have:=Nh xs (l.erase x) hn.2 λy hy=>(P6 (show y≠x from λe=>hn.1 (by rw[<-e];exact hy))).2 (hs y (lu _ hy))
  have hp:=Gh hx;rw[P7 hx] at this;rw[cY];omega
theorem abG (f:Flat):∃k:Nat,k<=f.ae.length/\f.cH (k:Int)=none:=by
 refine' zaC
 have:=Nh ((List.range (f.ae.length+1)).map λ(k:Nat)=>(k:Int)) (f.ae.map bC.id) (by
  rw[A3,A4];exact(List.nodup_range).imp λ{a b} fK he=>fK ag) (λx hx=>by
  obtain⟨k,hk,rfl⟩:=kO.1 hx;obtain⟨y,hy,he⟩:=h' k (by have:=lS.1 hk;omega);exact kO.2 ⟨y,hy,he⟩)
 rw[ux,ux,Km] at this;omega
theorem H7 (f:Flat)(n id:Nat):f.yJ (n+1) id=if(f.cH (id:Int)).isSome then f.yJ n (id+1) else id:=rfl
theorem Ni:∀(l:eG)(e:bC),(Flat.oN l e).length=l.length+1
 |[],e=>rfl
 |x::l,e=>by
  unfold Flat.oN;split
  .rw[cY,Ni l e,cY]
  .rfl
theorem Ry (f:Flat):∀(m id:Nat),f.ae.length+1<=id+m->(∃k:Nat,id<=k/\k<=f.ae.length/\f.cH (k:Int)=none)->f.yJ m id<=f.ae.length/\f.cH (f.yJ m id:Nat)=none
 |0,id,h,⟨k,h1,h2,h3⟩=>by omega
 |m+1,id,h,⟨k,h1,h2,h3⟩=>by
  rw[H7];cases hz:f.cH (id:Int) with
  |none=>rw[if_neg (by decide)];exact⟨ag,hz⟩
  |some j=>
   rw[if_pos (show(some j).isSome=true from rfl)];exact Ry f m (id+1) ag ⟨k,by
    have:k≠id:=λe=>by rw[e,hz] at h3;cases h3
    omega,h2,h3⟩
theorem Ul (f:Flat):f.cj<=f.ae.length/\f.cH (f.cj:Nat)=none:=by
 obtain⟨k,h1,h2⟩:=abG f;exact Ry f _ 0 ag ⟨k,ag,h1,h2⟩
theorem OK (s:St)(a:aK)(c:Nat)(a':aK)(c':Nat)(p:List a6)(q:eG)(hp:UR p)(z:aA)(hz:z.length<=5000)(n:Int)(hr:cl s a a' ⟨p,q⟩):Bi 97 [.agg ⟨iw a c p a' c' q⟩,sv z,iv n] s [] (kF a a') λR L=>∃b d,R= .agg ⟨iw b d (Flat.gb p ⟨z,n⟩) a' c' q⟩/\L=[cv b d (Flat.gb p ⟨z,n⟩)]:=Uk s a c a' c' ⟨p,q⟩ hp z hz n hr
theorem LF (s:St)(a:aK)(c:Nat)(a':aK)(c':Nat)(p:List a6)(q:eG)(hp:UR p)(z:aA)(hz:z.length<=5000)(hr:cl s a a' ⟨p,q⟩):Bi 98 [.agg ⟨iw a c p a' c' q⟩,sv z] s [] (kF a a') λR L=>∃b d,R= .agg ⟨iw b d (p.filter λx=>decide (x.af≠z)) a' c' q⟩/\L=[cv b d (p.filter λx=>decide (x.af≠z))]:=PK s a c a' c' ⟨p,q⟩ hp z hz hr
theorem PL (s:St)(a:aK)(c:Nat)(a':aK)(c':Nat)(f:Flat)(hf:HY f)(z:aA)(hz:z.length<=5000)(fo:Bool):AQ a8 bj 59 [js a c a' c' f,sv z,.bool fo] s a c a' c' f (f.make z fo):=by
 have pz:=hf.tl;have nC:=hf.nl;have Fj:UR f.ad:=⟨nC,λx hx=>(hf.nm x hx).1⟩;have YA:=sO z;have Ae:=Ul f;by_cases h0:0<f.bD z
 .have hm:f.make z fo=(f,f.bD z):=by unfold Flat.make;rw[if_pos h0]
  rw[hm];refine aU f59 ?_;dsimp only[cv,dN];(repeat' (first|refine' a7|refine' QT|refine' aw|fail))
  all_goals refine' zan
 .refine aU f59 ?_;dsimp only[cv,dN];(repeat' (first|refine' a7|refine' QT|refine' aw|fail))
  all_goals try refine cM
  refine W.bN (λk l L=>∃(i b3 b6:Nat),Le [(1,sv z),(2,.bool fo),(3,bc b3),(6,bc b6),(9,iv (i:Int))] l/\cz [.box b3 (iw a c f.ad a' c' f.ae) 26 false,.box b6 (iw none 0 [] none 0 []) 26 false,cv a c f.ad,dN a' c' f.ae] L/\k=f.ae.length+1-i/\i<=f.cj/\f.cj=f.yJ (f.ae.length+1-i) i)
   (λl L=>∃(b3 b6:Nat),Le [(1,sv z),(2,.bool fo),(3,bc b3),(6,bc b6),(9,iv (f.cj:Int))] l/\cz [.box b3 (iw a c f.ad a' c' f.ae) 26 false,.box b6 (iw none 0 [] none 0 []) 26 false,cv a c f.ad,dN a' c' f.ae] L) _ ⟨0,_,_,bk,au,rfl,ag,rfl⟩ ?_ ?_
  .rintro k l L ⟨i,b3,b6,hl,hL,rfl,g1,g2⟩;refine W.le ?_ hl hL;clear hl hL;rw[show f.ae.length+1-i=(f.ae.length+1-(i+1))+1 by omega,H7] at g2;dsimp only[cv,dN];(repeat' (first|refine' a7|refine' W9|refine' aw|fail))
   all_goals try refine cM
   .have hs:=PE.1 (by assumption);rw[if_pos hs] at g2;have fK:f.cj≠i:=λe=>by rw[<-e,Ae.2] at hs;cases hs
    exact⟨_,ag,i+1,b3,b6,bk,au,rfl,ag,g2⟩
   .have hs:=YU.1 (by assumption);rw[hs,if_neg (by decide)] at g2;rw[g2];exact⟨_,_,bk,au⟩
  .rintro l L ⟨b3,b6,hl,hL⟩;refine aq ?_;refine W.le ?_ hl hL;clear hl hL;dsimp only[cv,dN];by_cases h1:16<=f.cj\/12<=f.nD (aP z).1
   .have hm:f.make z fo=(f,6):=by unfold Flat.make;rw[if_neg h0,if_pos h1]
    rw[hm];(repeat' (first|refine' a7|refine' wN|refine' wO|refine' aw|fail))
    all_goals refine' zan
   .have hm:f.make z fo=(⟨Flat.gb f.ad ⟨z,f.cj⟩,Flat.oN f.ae ⟨f.cj,fo,[]⟩⟩,0):=by unfold Flat.make;rw[if_neg h0,if_neg h1];rfl
    rw[hm];(repeat' (first|refine' a7|refine' wN|refine' wO|refine' OG|refine' yW|refine' aw|fail))
    all_goals try refine cM
    refine W.bN (λk l L=>∃(i b3 b6:Nat)(out:eG)(b:aK)(d:Nat),Le [(1,sv z),(2,.bool fo),(3,bc b3),(6,bc b6),(9,iv (f.cj:Int)),(12,.slice b out.length d),(13,iv (i:Int))] l/\cz [.box b3 (iw a c f.ad a' c' f.ae) 26 false,.box b6 (iw none 0 [] none 0 []) 26 false,cv a c f.ad,dN a' c' f.ae,dN b d out] L/\k=f.ae.length-i/\i<=f.ae.length/\out.length=i/\Flat.oN f.ae ⟨f.cj,fo,[]⟩=out++Flat.oN (f.ae.drop i) ⟨f.cj,fo,[]⟩)
     (λl L=>∃(i b3 b6:Nat)(out:eG)(b:aK)(d:Nat),Le [(1,sv z),(2,.bool fo),(3,bc b3),(6,bc b6),(9,iv (f.cj:Int)),(12,.slice b out.length d),(13,iv (i:Int))] l/\cz [.box b3 (iw a c f.ad a' c' f.ae) 26 false,.box b6 (iw none 0 [] none 0 []) 26 false,cv a c f.ad,dN a' c' f.ae,dN b d out] L/\i<=f.ae.length/\out.length=i/\Flat.oN f.ae ⟨f.cj,fo,[]⟩=out++⟨f.cj,fo,[]⟩::f.ae.drop i) _ ⟨0,_,_,[],_,_,bk,au,rfl,ag,rfl,rfl⟩ ?_ ?_
    .rintro k l L ⟨i,b3,b6,out,b,d,hl,hL,rfl,g1,g2,g3⟩;refine W.le ?_ hl hL;clear hl hL;dsimp only[cv,dN];by_cases hi:i<f.ae.length
     .rw[drop_cons hi,Flat.oN] at g3;(repeat' (first|refine' a7|refine' OG|refine' yW|refine' aw|fail))
      all_goals try refine cM
      .refine⟨_,ag,i+1,b3,b6,out++[f.ae.getD i ak.ah],_,_,bk,au,rfl,ag,by rw[bJ,g2];rfl,?_⟩;rw[g3,if_pos (by assumption)];simp
      .refine⟨i,_,_,out,_,_,bk,au,ag,g2,?_⟩;have du:¬((f.ae.getD i ak.ah).id<(⟨f.cj,fo,[]⟩:bC).id):=by show ¬(_<(f.cj:Int));omega
       rw[g3,if_neg du,drop_cons hi]
     .have fE:i=f.ae.length:=by omega
      rw[fE,iD,Flat.oN] at g3;(repeat' (first|refine' a7|refine' OG|refine' yW|refine' aw|fail))
      all_goals try refine cM
      all_goals(refine⟨i,_,_,out,_,_,bk,au,ag,g2,?_⟩;rw[g3,fE,iD])
    .rintro l L ⟨i,b3,b6,out,b,d,hl,hL,g1,g2,g3⟩;refine aq ?_;refine W.le ?_ hl hL;clear hl hL;dsimp only[cv,dN];(repeat' (first|refine' a7|refine' Xb|refine' OG|refine' yW|refine' aw|fail))
     all_goals try refine cM
     all_goals(have e1:out++[(⟨f.cj,fo,[]⟩:bC)]++f.ae.drop (out.length:Int).toNat=Flat.oN f.ae ⟨f.cj,fo,[]⟩:=by rw[g3,show(out.length:Int).toNat=i by omega];simp)
     all_goals rw[e1]
     all_goals(exact⟨bB,_,_,bn,au,_,_,_,_,rfl,rfl⟩)
theorem PM (s:St)(a:aK)(c:Nat)(a':aK)(c':Nat)(f:Flat)(hf:HY f)(z y:aA)(hz:z.length<=5000)(hy:y.length<=5000):AQ a8 bj 61 [js a c a' c' f,sv z,sv y] s a c a' c' f (f.link z y):=by
 have pz:=hf.tl;have nC:=hf.nl;have Fj:UR f.ad:=⟨nC,λx hx=>(hf.nm x hx).1⟩;have YA:=sO y;have ku:∀s,cl s a a' f->bP 52 [js a c a' c' f,sv z] s (kF a a') (iv (Hu (f.dq z))):=λs hr=>k9 s a c a' c' f hf _ hr
 cases hk:f.dq z with
 |none=>
  have hm:f.link z y=(f,2):=by unfold Flat.link;rw[hk]
  rw[hk] at ku;have ku:∀s,cl s a a' f->bP 52 [js a c a' c' f,sv z] s (kF a a') (iv (-1)):=ku;rw[hm];refine aU f61 ?_;dsimp only[cv,dN];(repeat' (first|refine' a7|refine' qm|refine' QT|refine' aw|fail))
  all_goals refine' zan
 |some k=>
  rw[hk] at ku;have ku:∀s,cl s a a' f->bP 52 [js a c a' c' f,sv z] s (kF a a') (iv (k:Int)):=ku;have Fg:=vl hk;have hm:f.link z y=if f.ig (f.ad.getD k ak.ah).id then(f,4) else if 0<f.bD y then(f,f.bD y) else if 9<=f.many (f.ad.getD k ak.ah).id\/12<=f.nD (aP y).1 then(f,6) else(⟨Flat.gb f.ad ⟨y,(f.ad.getD k ak.ah).id⟩,f.ae⟩,0):=by unfold Flat.link;rw[hk];rfl
  rw[hm];refine aU f61 ?_;dsimp only[cv,dN];(repeat' (first|refine' a7|refine' qm|refine' LC|refine' QT|refine' W8|refine' wO|refine' wN|refine' Xb|refine' aw|fail))
  all_goals try refine cM
  all_goals first
   |(rw[if_pos (by assumption)];exact⟨bB,_,_,bn,au,_,_,_,_,rfl,rfl⟩)
   |(rw[if_neg (by rw[jR];assumption),if_pos (show 0<f.bD y by assumption)];exact⟨bB,_,_,bn,au,_,_,_,_,rfl,rfl⟩)
   |(rw[if_neg (by rw[jR];assumption),if_neg (show ¬0<f.bD y by omega),if_pos ag];exact⟨bB,_,_,bn,au,_,_,_,_,rfl,rfl⟩)
   |(rw[if_neg (by rw[jR];assumption),if_neg (show ¬0<f.bD y by omega),if_neg ag];exact⟨bB,_,_,bn,au,_,_,_,_,rfl,rfl⟩)
theorem Za {E:dA}{l:Kn}{L:bE}{rs:List ResultVar}{x:Ex}{a a':aK}{c c' i:Nat}{nm:List a6}{th:eG}{q:bC}{n:Int}(hx:x= .normal\/x= .ret)(hr:qi E l L rs [.agg ⟨iw a c nm a' c' th⟩,iv n])(hL:cz [cv a c nm,.aN (.slice a' th.length c') 61 3 (ai (th.set i q))] L):
  uW E rs (λR L=>∃b d b' d',R= .tuple ⟨[js b d b' d' ⟨nm,th.set i q⟩,iv n]⟩/\L=[.aN (.slice b nm.length d) 39 2 (ai nm),.aN (.slice b' (th.set i q).length d') 61 3 (ai (th.set i q))]) x l L:=by
 have e:(th.set i q).length=th.length:=gE;refine⟨hx,_,_,hr,hL,a,c,a',c',?_,?_⟩
 .dsimp only[js,iw];rw[e];rfl
 .dsimp only[cv];rw[e]
theorem AR (n:Int):(ir n).length=n.toNat:=ry
theorem Um (f:Flat)(kd:Int)(pa tq9:aA)(at_:Int)(tx:aA){k x:Nat}(hk:f.dq pa=some k)(hx:f.cH (f.ad.getD k ak.ah).id=some x):f.change ⟨kd,pa,tq9,at_,tx⟩=if(f.ae.getD x ak.ah).aD then(f,4) else if 192<at_+tx.length then(f,6) else if kd=4 then(⟨f.ad,f.ae.set x ⟨(f.ae.getD x ak.ah).id,(f.ae.getD x ak.ah).aD,((f.ae.getD x ak.ah).aW++ir (at_-((f.ae.getD x ak.ah).aW.length:Int))).take at_.toNat⟩⟩,0) else if tx≠[] then(⟨f.ad,f.ae.set x ⟨(f.ae.getD x ak.ah).id,(f.ae.getD x ak.ah).aD,ga (f.ae.getD x ak.ah).aW at_.toNat tx⟩⟩,0) else(f,0):=by
 unfold Flat.change;rw[hk];show(match f.cH (f.ad.getD k ak.ah).id with|none=>_|some x=>_)=_;rw[hx];rfl
theorem PN (f:Flat)(x:Nat)(at_:Int)(tx:aA)(nJ:0<=at_):ga (f.ae.getD x ak.ah).aW at_.toNat tx=((f.ae.getD x ak.ah).aW++ir (at_-((f.ae.getD x ak.ah).aW.length:Int))).take at_.toNat++tx++((f.ae.getD x ak.ah).aW++ir (at_-((f.ae.getD x ak.ah).aW.length:Int))).drop (min (((f.ae.getD x ak.ah).aW++ir (at_-((f.ae.getD x ak.ah).aW.length:Int))).length:Int) (at_+(tx.length:Int))).toNat:=by
 have hz:=AR (at_-((f.ae.getD x ak.ah).aW.length:Int));unfold ga;rw[yi nJ];show _++_++List.drop _ _=_;rw[show((min (((f.ae.getD x ak.ah).aW++ir (at_-((f.ae.getD x ak.ah).aW.length:Int))).length:Int) (at_+(tx.length:Int))).toNat)=min ((f.ae.getD x ak.ah).aW++ir (at_-((f.ae.getD x ak.ah).aW.length:Int))).length (at_.toNat+tx.length) by omega]
theorem JQ (s:St)(a:aK)(c:Nat)(a':aK)(c':Nat)(f:Flat)(hf:HY f)(kd:Int)(pa tq9:aA)(at_:Int)(tx:aA)(hp:pa.length<=5000)(nJ:0<=at_/\at_<=192)(Br:tx.length<=24)(hex:∀k,f.dq pa=some k->(f.cH (f.ad.getD k ak.ah).id).isSome):AQ a8 bj 63 [js a c a' c' f,.agg ⟨[iv kd,sv pa,sv tq9,iv at_,sv tx]⟩] s a c a' c' f (f.change ⟨kd,pa,tq9,at_,tx⟩):=by
 have pz:=hf.tl;have nC:=hf.nl;have ku:∀s,cl s a a' f->bP 52 [js a c a' c' f,sv pa] s (kF a a') (iv (Hu (f.dq pa))):=λs hr=>k9 s a c a' c' f hf _ hr
 cases hk:f.dq pa with
 |none=>
  have hm:f.change ⟨kd,pa,tq9,at_,tx⟩=(f,2):=by unfold Flat.change;rw[hk]
  rw[hk] at ku;have ku:∀s,cl s a a' f->bP 52 [js a c a' c' f,sv pa] s (kF a a') (iv (-1)):=ku;rw[hm];refine aU f63 ?_;dsimp only[cv,dN];(refine' Hb)
  all_goals refine' zan
 |some k=>
  rw[hk] at ku;have ku:∀s,cl s a a' f->bP 52 [js a c a' c' f,sv pa] s (kF a a') (iv (k:Int)):=ku;have Fg:=vl hk;have S5:∀s,cl s a a' f->bP 54 [js a c a' c' f,iv (f.ad.getD k ak.ah).id] s (kF a a') (iv (Hu (f.cH (f.ad.getD k ak.ah).id))):=λs hr=>ri s a c a' c' f hf _ hr
  obtain⟨x,hx⟩:=ju.1 (hex k hk);rw[hx] at S5;have S5:∀s,cl s a a' f->bP 54 [js a c a' c' f,iv (f.ad.getD k ak.ah).id] s (kF a a') (iv (x:Int)):=S5;have rN:=HZ hx;have Cd:=(hf.th _ (aJ rN ak.ah)).2.2;have hzl:((f.ae.getD x ak.ah).aW++ir (at_-((f.ae.getD x ak.ah).aW.length:Int))).length=(f.ae.getD x ak.ah).aW.length+(at_-((f.ae.getD x ak.ah).aW.length:Int)).toNat:=by rw[bJ,AR]
  have hov:=PN f x at_ tx nJ.1;have hz2:=AR (at_-((f.ae.getD x ak.ah).aW.length:Int));have hm:=Um f kd pa tq9 at_ tx hk hx;by_cases tE:(f.ae.getD x ak.ah).aD=true
  .rw[hm,if_pos tE];refine aU f63 ?_;dsimp only[cv,dN];(refine' LH)
   all_goals first|(exfalso;omega;done)|contradiction|(exact absurd tE (by rw[jR];assumption))|(exact absurd (show(f.ae.getD x ak.ah).aD=true by assumption) tE)|skip
   all_goals exact⟨bB,_,_,bn,au,_,_,_,_,rfl,rfl⟩
  by_cases h2:192<at_+(tx.length:Int)
  .rw[hm,if_neg tE,if_pos h2];refine aU f63 ?_;dsimp only[cv,dN];(refine' LH)
   all_goals first|(exfalso;omega;done)|contradiction|(exact absurd tE (by rw[jR];assumption))|(exact absurd (show(f.ae.getD x ak.ah).aD=true by assumption) tE)|skip
   all_goals exact⟨bB,_,_,bn,au,_,_,_,_,rfl,rfl⟩
  by_cases h3:kd=4
  .rw[hm,if_neg tE,if_neg h2,if_pos h3];refine aU f63 ?_;dsimp only[cv,dN];(refine' LH)
   all_goals first|(exfalso;omega;done)|contradiction|(exact absurd tE (by rw[jR];assumption))|(exact absurd (show(f.ae.getD x ak.ah).aD=true by assumption) tE)|skip
   all_goals exact Za bB bn au
  by_cases h4:tx≠[]
  .rw[hm,if_neg tE,if_neg h2,if_neg h3,if_pos h4,hov];refine aU f63 ?_;dsimp only[cv,dN];(refine' LH)
   all_goals first|(exfalso;omega;done)|contradiction|(exact absurd tE (by rw[jR];assumption))|(exact absurd (show(f.ae.getD x ak.ah).aD=true by assumption) tE)|skip
   all_goals exact Za bB bn au
  .rw[hm,if_neg tE,if_neg h2,if_neg h3,if_neg h4];refine aU f63 ?_;dsimp only[cv,dN];(refine' LH)
   all_goals first|(exfalso;omega;done)|contradiction|(exact absurd tE (by rw[jR];assumption))|(exact absurd (show(f.ae.getD x ak.ah).aD=true by assumption) tE)|skip
   all_goals exact⟨bB,_,_,bn,au,_,_,_,_,rfl,rfl⟩
end Go.Pl
