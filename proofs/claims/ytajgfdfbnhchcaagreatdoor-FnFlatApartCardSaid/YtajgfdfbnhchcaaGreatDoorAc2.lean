/- Lemmas of the proof. No conditions. -/
import Derived.Test.YtajgfdfbnhchcaaGreatDoorAc1
set_option maxRecDepth 100000
set_option maxHeartbeats 4000000
set_option linter.unusedVariables false
set_option linter.unusedSimpArgs false
open Go.Proofs.Tryz
namespace Go.Pl
open Go Go.Ev Go.Lg Go.Proofs
section
variable {i:Nat}
def aaY (o:Option aA):Value:=.tuple ⟨[sv (o.getD []),.bool o.isSome]⟩
theorem jL (p:jt):(eK p).length<=54:=by
 unfold eK;split
 .simp
 .split
  .simp
  .rename_i h _;have hb:=LL (by simpa using h);have d1:=n9 p.row ag;have d2:=n9 p.dg ag;have d3:=n9 p.size ag;have d4:=n9 p.sum ag;have d5:=n9 p.level ag;simp;omega
theorem DV (c:UInt8):∀(l:List aA)(w:aA),l≠[]->iF c (l++[w])=iF c l++c::w
 |[],_,h=>absurd rfl h
 |[a],w,_=>by simp[iF]
 |a::b::l,w,_=>by
  have:=DV c (b::l) w (by simp);simp only[BI] at this⊢;simp[iF,this]
theorem fA {α:Type}(l:List α)(d:α)(h:i<l.length):l.take (i+1)=l.take i++[l.getD i d]:=by
 rw[wz,bd h,aR,bd h];rfl
theorem He (c:UInt8)(m:Nat):∀(l:List aA),(∀w∈l,w.length<=m)->(iF c l).length<=l.length*(m+1)
 |[],_=>by simp[iF]
 |[a],h=>by have:=h a (by simp);simp[iF];omega
 |a::b::l,h=>by
  have h1:=h a (by simp);have h2:=He c m (b::l) λw hw=>h w (lu _ hw)
  simp only[iF,bJ,cY] at h2⊢;rw[mK (l.length+1) 1];omega
theorem S1 (s:St)(a:aK)(c:Nat)(p:cW)(hp:p.length<=100000)(hr:bO s a p.length 5 (ai p)):bP 264 [.slice a p.length c] s (aj a) (aaY (km p)):=by
 have hd:=Rd.of hr (A:=aj a) λb hb=>hb
 refine aU f264 ?_;(refine' cU)
 ·(refine' ax)
  unfold km;rw[if_pos ag];rfl
 have h4:p.length=4:=by omega
 refine W.bN (λk l L=>∃(i:Nat),Le [(0,.slice a p.length c),(4,sv (iF 44 ((p.take i).map eK))),(5,.bool !((p.take i).all aI)),(6,iv i)] l/\cz [] L/\k=4-i/\i<=4/\(p.take i).any (λp=>!bw p)=false)
  (λl L=>Le [(4,sv (iF 44 (p.map eK))),(5,.bool !(p.all aI))] l/\cz [] L/\p.any (λp=>!bw p)=false) 4 ⟨0,bk,au,ag,ag,by simp⟩ ?_ ?_
 .rintro k l L ⟨i,hl,hL,rfl,h1,h2⟩;refine W.le ?_ hl hL;clear hl hL;have hj:(iF 44 ((p.take i).map eK)).length<=1000:=by
   refine ik (He 44 54 _ λw hw=>?_) ?_
   .obtain⟨q,_,rfl⟩:=kO.1 hw;exact jL q
   .rw[ux,cZ];omega
  have Sf:=jL (p.getD i ak.ah);have e:i<4->p.take (i+1)=p.take i++[p.getD i bq]:=λh=>fA p bq ag
  have e4a:i<4->0<i->iF 44 ((p.take (i+1)).map eK)=(iF 44 ((p.take i).map eK)++[44])++eK (p.getD i bq):=λh h'=>by
   rw[e h,J7,vp,Ga,DV _ _ _ (λh0=>by
    have:=fI List.length h0;rw[ux,cZ,mJ] at this;omega),kG];rfl
  have e4b:i=0->iF 44 ((p.take (i+1)).map eK)=iF 44 ((p.take i).map eK)++eK (p.getD i bq):=λh=>by
   subst h;rw[e ag];rfl
  have e5a:i<4->(p.take i).all aI=true->(!(p.take (i+1)).all aI)= !aI (p.getD i bq):=λh h'=>by
   rw[e h,F7,h'];simp
  have e5b:i<4->(p.take i).all aI=false->(!(p.take (i+1)).all aI)=true:=λh h'=>by
   rw[e h,F7,h'];simp
  have e2:i<4->bw (p.getD i bq)=true->(p.take (i+1)).any (λp=>!bw p)=false:=λh h'=>by
   rw[e h,List.any_append,h2];simpa using h'
  (repeat' (first|refine' a7|refine' SK|refine' GW|refine' ahd|refine' aw|fail))
  ·(refine' ax)
   unfold km;rw[if_neg ag,if_pos];rfl;rw[Gb];exact⟨p.getD i bq,aJ ag bq,hc⟩
  rotate_right 1
  .have hi:i=4:=by omega
   subst hi;have ht:p.take 4=p:=qG ag;rw[ht] at h2⊢;exact⟨bk,au,h2⟩
  all_goals
   have J2:i<4:=by omega
   refine⟨_,ag,i+1,?_,au,rfl,ag,e2 J2 (by assumption)⟩;first
                                                             |(rw[e4a J2 ag,e5a J2 (by assumption)];exact bk;done)
                                                             |(rw[e4b ag,e5a J2 (by assumption)];exact bk;done)
                                                             |(rw[e4a J2 ag,e5b J2 (by assumption)];exact bk;done)
                                                             |(rw[e4b ag,e5b J2 (by assumption)];exact bk;done)
 .rintro l L ⟨hl,hL,h1⟩;refine aq ?_;refine W.le ?_ hl hL;clear hl hL;(refine' cU)
  all_goals
   (refine' ax)
   unfold km;rw[if_neg ag,if_neg (by rw[h1];simp)];first|(rw[if_pos (by simpa using hc)];rfl)|(rw[if_neg (by simpa using hc)];rfl)
theorem OS {z:aA}(c:UInt8)(h:i<(cut c z).length):((cut c z).getD i []).length<=z.length:=y8 c z _ (aJ h _)
theorem Xt {α:Type}(p:α->Bool)(q:List α)(x:α):(q++[x]).all p=(q.all p&&p x):=by simp
theorem LM {α:Type}{o:Option α}{d:α}(h:o.isSome=true):o=some (o.getD d):=by cases o<;>simp_all
theorem Ta (s:St)(z:aA)(hz:z.length<=100000):kr a8 bj 265 [sv z] s [] 83 ((kn z).getD []) (kn z).isSome:=by
 have hm:=u4 44 z;have hlw:∀i,i<(cut 44 z).length->((cut 44 z).getD i ak.ah).length<=100000:=λi hi=>ik (OS 44 hi) hz
 unfold kn;refine aU f265 ?_;(repeat' (first|refine' a7|refine' Wv|refine' aw|fail))
 generalize hw:cut 44 z=w at *
 refine W.bN (λk l L=>∃(i:Nat)(q:cW)(a:aK)(c:Nat),Le [(4,.slice vE w.length vF),(5,.slice a q.length c),(6,.bool !(q.all aI)),(7,iv i)] l/\cz [.aN (.slice vE w.length vF) 9 1 (ai w),.aN (.slice a q.length c) 83 5 (ai q)] L/\k=w.length-i/\i<=w.length/\(w.take i).mapM ji=some q)
  (λl L=>∃(q:cW)(a:aK)(c:Nat),Le [(5,.slice a q.length c),(6,.bool !(q.all aI))] l/\cz [.aN (.slice a q.length c) 83 5 (ai q)] L/\w.mapM ji=some q) w.length ⟨0,[],_,_,bk,au,ag,ag,by simp⟩ ?_ ?_
 .rintro k l L ⟨i,q,a,c,hl,hL,rfl,h1,h2⟩;refine W.le ?_ hl hL;clear hl hL;have hq:=qo _ _ _ h2;rw[cZ] at hq;have du:=hlw i;(repeat' (first|refine' a7|((with_reducible apply WO.bI);exact aE;(first|exact λs=>Hd s _ ag);intro _ _ _ _)|refine' GW|refine' aw|fail))
  .have hn:ji (w.getD i [])=none:=by
    have:=j3;exact Option.isSome_eq_false_iff.1 this|> Option.isNone_iff_eq_none.1
   rw[mapM_none ji w [] ag hn];(refine' fp)<;>rfl
  rotate_right 1
  .have hi:i=w.length:=by omega
   subst hi;rw[gX] at h2;exact⟨q,_,_,bk,au,h2⟩
  all_goals
   have hs:=vI ji w [] (show i<w.length by omega);have hn:ji (w.getD i [])=some ((ji (w.getD i [])).getD bq):=LM (by assumption);rw[h2,hn] at hs;refine⟨_,ag,i+1,q++[(ji (w.getD i [])).getD bq],_,_,?_,au,rfl,ag,hs⟩;rw[Xt];first|(rw[show q.all aI=true from by simpa using um];exact bk;done)|(rw[show q.all aI=false from by simpa using um];exact bk;done)
 .rintro l L ⟨q,a,c,hl,hL,h1⟩;refine aq ?_;refine W.le ?_ hl hL;clear hl hL;have hq:=qo _ _ _ h1;rw[h1];(refine' cU)
  all_goals
   (refine' fp)<;>dsimp only<;>first
     |(rw[if_pos (.inl ag)];rfl)
     |(rw[if_pos (.inr (by simpa using j3))];rfl)
     |(rw[if_neg (λh=>h.elim (λh=>h ag) (λh=>tf h (by simpa using j3)))];rfl)
theorem DW:∀(l:List aA)(x:aA)(out:aA),kV (l++[x]) out=match kV l out with
  |none=>none
  |some o=>if 2048<x.length then none else if 2048<(o++(gM x.length++58::x)).length then none else some (o++(gM x.length++58::x))
 |[],x,out=>by simp[kV]
 |y::l,x,out=>by
  simp only[BI,kV];split
  .rfl
  .split
   .rfl
   .exact DW l x _
theorem DX:∀(l m:List aA)(out:aA),kV l out=none->kV (l++m) out=none
 |[],m,out,h=>by simp[kV] at h
 |y::l,m,out,h=>by
  simp only[BI,kV] at h⊢;split
  .rfl
  .rename_i h1;rw[if_neg h1] at h;split
   .rfl
   .rename_i h2;rw[if_neg h2] at h;exact DX l m _ h
theorem Xu (l:List aA)(out:aA)(h:i<l.length)(hn:kV (l.take (i+1)) out=none):kV l out=none:=by
 rw[<-yd (i+1) l];exact DX _ _ _ hn
theorem Hf:∀(l:List aA)(out:aA)(o:aA),out.length<=2048->kV l out=some o->o.length<=2048
 |[],out,o,h,k=>by simp[kV] at k;subst k;exact h
 |y::l,out,o,h,k=>by
  simp only[kV] at k;split at k
  .cases k
  .split at k
   .cases k
   .rename_i h2;exact Hf l _ o ag k
theorem y9 (s:St)(a:aK)(c:Nat)(p:List aA)(hp:p.length<=100000)(hr:bO s a p.length 1 (ai p)):bP 194 [.slice a p.length c] s (aj a) (aaY (jh p)):=by
 have hd:=Rd.of hr (A:=aj a) λb hb=>hb
 refine aU f194 ?_;(repeat(first|refine' xz|refine' aw|fail))
 refine W.bN (λk l L=>∃(i:Nat)(o:aA),Le [(0,.slice a p.length c),(4,sv o),(5,iv i)] l/\cz [] L/\k=p.length-i/\i<=p.length/\(i=0\/p.length<=60)/\kV (p.take i) []=some o)
  (λl L=>∃(o:aA),Le [(0,.slice a p.length c),(4,sv o)] l/\cz [] L/\((p.length<=60/\kV p []=some o)\/(60<p.length/\o=[]))) p.length ⟨0,[],bk,au,ag,ag,.inl rfl,by simp[kV]⟩ ?_ ?_
 .rintro k l L ⟨i,o,hl,hL,rfl,h1,h2,h3⟩;refine W.le ?_ hl hL;clear hl hL;have ho:=Hf _ _ _ (by simp) h3;have hx:(p.getD i ak.ah).length<10000000000->(dec ((p.getD i ak.ah).length:Int)).length<=10:=λh=>n9 _ ag
  have e:=λh:i<p.length=>DW (p.take i) (p.getD i ak.ah) []
  have e':=λh:i<p.length=>fA p ak.ah h
  rw[h3] at e;have hf:p.length<=60->i<p.length->kV (p.take (i+1)) []=none->jh p=none:=λh h' h''=>by
   unfold jh;rw[if_neg ag];exact Xu p [] h' h''
  have ea:∀w:aA,o++dec (w.length:Int)++[58]++w=o++(gM w.length++58::w):=λw=>by simp[dec]
  (repeat' (first|refine' a7|refine' aaz|refine' aw|fail))
  ·(refine' ax)
   rw[hf ag ag (by rw[e' ag,e ag];exact if_pos (by have:=j3;omega))];rfl
  ·(refine' ax)
   rw[hf ag ag (by
    rw[e' ag,e ag];refine(if_neg ag).trans (if_pos ?_);have:=j3;rw[ea] at this;exact Int.ofNat_lt.1 this)];rfl
  .have h9:=j3;rw[ea] at h9;refine⟨_,ag,i+1,o++(gM (p.getD i ak.ah).length++58::p.getD i ak.ah),?_,au,rfl,ag,.inr ag,?_⟩
   .have:=ea (p.getD i ak.ah);rw[<-this];exact bk
   .rw[e' ag,e ag];refine(if_neg ag).trans (if_neg ?_);intro Fc;have:(o++(gM (p.getD i ak.ah).length++58::p.getD i ak.ah)).length<=2048:=Int.ofNat_le.1 h9;omega
  all_goals
   rcases lq 60 p.length with h|h
   .have:i=0:=by omega
    subst this;simp[kV] at h3;exact⟨o,bk,au,.inr ⟨h,h3⟩⟩
   .have hi:i=p.length:=by omega
    subst hi;rw[gX] at h3;exact⟨o,bk,au,.inl ⟨ag,h3⟩⟩
 .rintro l L ⟨o,hl,hL,h1⟩;refine aq ?_;refine W.le ?_ hl hL;clear hl hL;(refine' cU)
  (refine' ax)
  unfold jh;rcases h1 with⟨h1,h2⟩|⟨h1,rfl⟩
  .rw[if_neg ag,h2];simp[gB,aaY];omega
  .rw[if_pos h1];simp[gB,aaY];omega
end
theorem Tb (z:aA)(c:UInt8):nI (z++[c])=if c=0 then nI z else z++[c]:=by
 unfold nI;rw[List.reverse_append,List.reverse_singleton,tT,List.dropWhile_cons];split
 .rename_i h;rw[if_pos (by simpa using h)]
 .rename_i h;rw[if_neg (by simpa using h)];simp
theorem Hg (z:aA)(h:0<z.length):z=z.take (z.length-1)++[z.getD (z.length-1) 0]:=by
 have:=fA z 0 (i:=z.length-1) ag;rw[show z.length-1+1=z.length by omega,gX] at this;exact this
theorem G7 (s:St)(z:aA)(hz:z.length<=100000):bP 173 [sv z] s [] (sv (nI z)):=by
 refine aU f173 ?_;(repeat(first|refine' xz|refine' aw|fail))
 refine W.bN (λk l L=>∃(w:aA),Le [(0,sv w)] l/\cz [] L/\k=w.length/\w.length<=z.length/\nI w=nI z)
  (λl L=>Le [(0,sv (nI z))] l/\cz [] L) z.length ⟨z,bk,au,rfl,ag,rfl⟩ ?_ ?_
 .rintro k l L ⟨w,hl,hL,rfl,h1,h2⟩;refine W.le ?_ hl hL;clear hl hL;have hb:∀x:UInt8,(x.toNat:Int)=0↔x=0:=λx=>by
   constructor
   .intro h;rw[<-w6];show x.toNat=0;omega
   .rintro rfl;rfl
  have e:0<w.length->nI w=if w.getD (w.length-1) 0=0 then nI (w.take (w.length-1)) else w:=λh=>by
   conv=>lhs;rw[Hg w h]
   rw[Tb,<-Hg w h]
  have hi:0<w.length->((w.length:Int)-1)=((w.length-1:Nat):Int):=λh=>by omega
  have hj:0<w.length->((w.length:Int)-1).toNat=w.length-1:=λh=>by omega
  (refine' cU)
  .have h0:0<w.length:=by omega
   rw[hj h0,hb] at j3;have e:=e h0;rw[if_pos j3] at e;refine⟨_,?_,w.take (w.length-1),by rw[<-hj h0];exact bk,au,rfl,by rw[cZ];omega,by rw[<-e];exact h2⟩;rw[cZ];omega
  .have h0:0<w.length:=by omega
   rw[hj h0,hb] at j3;have e:=e h0;rw[if_neg j3] at e;exact⟨by rw[<-h2,e];exact bk,au⟩
  .have h0:w=[]:=mT ag;subst h0;exact⟨by rw[<-h2];exact bk,au⟩
 .rintro l L ⟨hl,hL⟩;refine aq ?_;refine W.le ?_ hl hL;(refine' cU)
  (refine' ax);rfl
theorem Lq (s:St)(n:Int)(hn:n<=100000):bP 100 [iv n] s [] (sv (ir n)):=by
 refine aU f100 ?_;(repeat(first|refine' xz|refine' aw|fail))
 (refine' ax)
 simp only[gB,ir];rw[show(max 0 n).toNat=n.toNat by omega]
theorem Jc (l:List aZ)(d:aZ){i:Nat}(h:i<l.length):bg (l.take (i+1))=bg (l.take i)++((l.getD i d).name++61::(dec (l.getD i d).id++[59])):=by
 rw[fA l d h];simp[bg]
theorem SN (s:St)(a:aK)(c:Nat)(p:List aZ)(hp:p.length<=3000)(hn:∀e∈p,e.name.length<=3000/\0<=e.id/\e.id<=1000000000)(hr:bO s a p.length 2 (ai p)):bP 197 [.slice a p.length c] s (aj a) (sv (bg p)):=by
 have hd:=Rd.of hr (A:=aj a) λb hb=>hb
 refine aU f197 ?_;(repeat(first|refine' xz|refine' aw|fail))
 refine W.bN (λk l L=>∃(i:Nat),Le [(0,.slice a p.length c),(3,sv (bg (p.take i))),(4,iv i)] l/\cz [] L/\k=p.length-i/\i<=p.length/\(bg (p.take i)).length<=i*3012)
  (λl L=>Le [(3,sv (bg p))] l/\cz [] L) p.length ⟨0,bk,au,ag,ag,by simp[bg]⟩ ?_ ?_
 .rintro k l L ⟨i,hl,hL,rfl,h1,h2⟩;refine W.le ?_ hl hL;clear hl hL;have hb:=λh:i<p.length=>hn _ (aJ h ak.ah)
  have hd':=λh:i<p.length=>n9 (p.getD i ak.ah).id (by have:=hb h;omega)
  have e:=λh:i<p.length=>Jc p ak.ah h
  by_cases hi:i<p.length
  .have hb:=hb hi;have hd':=hd' hi;have e:=e hi;(repeat' (first|refine' a7|refine' aaz|refine' aw|fail))
   .refine⟨_,?_,i+1,?_,au,rfl,ag,?_⟩
    .omega
    .rw[e,show ∀a b c d:aA,a++(b++61::(c++d))=a++b++[61]++c++d from λa b c d=>by simp];exact bk
    .rw[e];simp only[bJ,cY,mJ] at *;omega
   all_goals omega
  ·(refine' cU)
   .omega
   .have hi:i=p.length:=by omega
    subst hi;rw[gX];exact⟨bk,au⟩
 .rintro l L ⟨hl,hL⟩;refine aq ?_;refine W.le ?_ hl hL;(refine' cU)
  (refine' ax);rfl
section
variable {z:aA}
theorem pC {α:Type}{l:List α}{i:Nat}(d:α)(h:i<l.length):l.getD i d=l[i]:=by simp[aR,bd h]
theorem gz:∀p q:aA,Op.bytesLess p q=bL p q
 |[],[]=>rfl
 |[],_::_=>rfl
 |_::_,[]=>rfl
 |a::p,b::q=>by
  show(decide (a<b)||(a== b&&Op.bytesLess p q))=if a.toNat<b.toNat then true else if b.toNat<a.toNat then false else bL p q
  rw[gz p q];by_cases h:a=b
  .subst h;have:¬(a<a):=by rw[pL];omega
   simp[this]
  .have fK:a.toNat≠b.toNat:=λe=>h (w6.1 e)
   have h1:(a== b)=false:=by simpa using h
   by_cases h3:a.toNat<b.toNat
   .have:a<b:=by rw[pL];exact h3
    simp[h3,this]
   .have:¬a<b:=by rw[pL];exact h3
    have h4:b.toNat<a.toNat:=by omega
    simp[h1,h3,h4,this]
def Xv (l:List aZ)(name:aA):Int:=((eA l name).map Int.ofNat).getD (-1)
theorem aey {p:List aZ}{i:Nat}(hi:i<p.length)(h:∀j,j<i->(p.getD j ak.ah).name≠z)(he:(p.getD i ak.ah).name=z):Xv p z=i:=by
 have:eA p z=some i:=by
  unfold eA;rw[oC];refine⟨hi,by rw[pC _ hi] at he;simpa using he,λj hj=>?_⟩;have:=h j hj;rw[pC _ ag] at this;simpa using this
 unfold Xv;rw[this];rfl
theorem aaZ {p:List aZ}(h:∀j,j<p.length->(p.getD j ak.ah).name≠z):Xv p z= -1:=by
 have:eA p z=none:=by
  unfold eA;rw[CH];intro x hx;obtain⟨j,hj,rfl⟩:=iZ hx;have:=h j hj;rw[pC _ hj] at this;simpa using this
 unfold Xv;rw[this];rfl
theorem DI (s:St)(a:aK)(c:Nat)(p:List aZ)(z:aA)(hp:p.length<=3000)(hr:bO s a p.length 2 (ai p)):bP 165 [.slice a p.length c,sv z] s (aj a) (iv (Xv p z)):=by
 have hd:=Rd.of hr (A:=aj a) λb hb=>hb
 refine aU f165 ?_;(repeat(first|refine' xz|refine' aw|fail))
 refine W.bN (λk l L=>∃(i:Nat),Le [(0,.slice a p.length c),(1,sv z),(5,iv i)] l/\cz [] L/\k=p.length-i/\i<=p.length/\∀j,j<i->(p.getD j ak.ah).name≠z)
  (λl L=>(∀j,j<p.length->(p.getD j ak.ah).name≠z)) p.length ⟨0,bk,au,ag,ag,λj hj=>by omega⟩ ?_ ?_
 .rintro k l L ⟨i,hl,hL,rfl,h1,h2⟩;refine W.le ?_ hl hL;clear hl hL;(refine' cU)
  ·(refine' ax)
   rw[aey ag h2 j3];rfl
  .refine⟨_,?_,i+1,bk,au,rfl,ag,λj hj=>?_⟩
   .omega
   .rcases lq j i with h|h
    .exact h2 j h
    .have:j=i:=by omega
     subst this;exact j3
  .intro j hj;exact h2 j ag
 .rintro l L h;refine aq ?_;(refine' cU)
  (refine' ax)
  rw[aaZ h];rfl
theorem DY (s:St)(a:aK)(c:Nat)(p:List aZ)(i:Nat)(hp:p.length<=3000)(hi:i<p.length)(hr:bO s a p.length 2 (ai p))(hv:FH s a p.length c 200 2):fa a8 bj 164 [.slice a p.length c,iv i] s (aj a) 200 (eu p i):=by
 have hd:=Rd.of hr (A:=aj a) λb hb=>hb
 refine aU f164 ?_;(refine' cU)
 (refine' lN)
 show eu p i=[]++p.take i++p.drop (i+1);simp[eu]
theorem LN:∀(l:List aZ)(x:aZ),mL (l++[x])=(mL l&&match l.getLast? with|none=>true|some y=>bL y.name x.name)
 |[],x=>by simp[mL]
 |[a],x=>by simp[mL]
 |a::b::l,x=>by
  have ih:=LN (b::l) x;show(bL a.name b.name&&mL ((b::l)++[x]))=_;rw[ih];have:(a::b::l).getLast?=(b::l).getLast?:=by simp
  rw[this];show _=((bL a.name b.name&&mL (b::l))&&_);rw[Bool.and_assoc]
theorem Xw {p:List aZ}(h:mL p=true):∀k,mL (p.take k)=true:=by
 intro k;induction p generalizing k with
 |nil=>simp[mL]
 |cons a p ih=>
  cases k with
  |zero=>rfl
  |succ k=>
   cases p with
   |nil=>simp[mL]
   |cons b p=>
    have h':(bL a.name b.name&&mL (b::p))=true:=h;simp only[bU] at h';cases k with
    |zero=>rfl
    |succ k=>
     show(bL a.name b.name&&mL ((b::p).take (k+1)))=true;rw[h'.1,ih h'.2];rfl
theorem Xx {p:List aZ}(d:aZ){i:Nat}(hi:i<p.length):mL (p.take (i+1))=(mL (p.take i)&&(decide (i=0)||bL (p.getD (i-1) d).name (p.getD i d).name)):=by
 rw[fA p d hi,LN]
 congr 1
 cases i with
 |zero=>rfl
 |succ i=>
  rw[fA p d ag];simp
def wq (e:aZ):Bool:=bG e.name&&fR e.id 1 15
theorem aa0 {p:List aZ}(d:aZ){i:Nat}(hi:i<p.length):(p.take (i+1)).all wq=((p.take i).all wq&&wq (p.getD i d)):=by
 rw[fA p d hi,F7];simp
theorem QX {p:List aZ}(d:aZ){i:Nat}(hi:i<p.length)(h:wq (p.getD i d)=false):bz p=false:=by
 have:p.all wq=false:=by
  rw[F8];exact⟨_,aJ hi d,by rw[h];simp⟩
 show(p.all wq&&mL p&&decide (p.length<=12))=false;rw[this];rfl
theorem Xy {p:List aZ}{i:Nat}(h:mL (p.take i)=false):bz p=false:=by
 have:mL p=false:=by
  cases hp:mL p with
  |false=>rfl
  |true=>rw[Xw hp i] at h;cases h
 show(p.all wq&&mL p&&decide (p.length<=12))=false;rw[this];simp
theorem I5 (s:St)(a:aK)(c:Nat)(p:List aZ)(hp:p.length<=3000)(hn:∀e∈p,e.name.length<=3000)(hr:bO s a p.length 2 (ai p)):bP 248 [.slice a p.length c] s (aj a) (.bool (bz p)):=by
 have hd:=Rd.of hr (A:=aj a) λb hb=>hb
 refine aU f248 ?_;(repeat(first|refine' xz|refine' aw|fail))
 refine W.bN (λk l L=>∃(i:Nat),Le [(0,.slice a p.length c),(3,iv i)] l/\cz [] L/\k=p.length-i/\i<=p.length/\(p.take i).all wq=true/\mL (p.take i)=true)
  (λl L=>Le [(0,.slice a p.length c)] l/\cz [] L/\p.all wq=true/\mL p=true) p.length ⟨0,bk,au,ag,ag,rfl,rfl⟩ ?_ ?_
 .rintro k l L ⟨i,hl,hL,rfl,h1,h2,h3⟩;refine W.le ?_ hl hL;clear hl hL;have hb:=λh:i<p.length=>hn _ (aJ h ak.ah)
  have e1:=λh:i<p.length=>aa0 ak.ah h
  have e2:=λh:i<p.length=>Xx ak.ah h
  by_cases hi:i<p.length
  .have hb:=hb hi;have e1:=e1 hi;have e2:=e2 hi;(repeat' (first|refine' a7|refine' aaA|refine' NI|refine' aw|fail))
   .have hj:((i:Int)-1).toNat=i-1:=by omega
    rw[gz,hj] at j3;(refine' ax)
    rw[Xy (i:=i+1) (p:=p) (by rw[e2,h3,j3];simp;omega)];rfl
   .have hj:((i:Int)-1).toNat=i-1:=by omega
    rw[gz,hj] at j3;refine⟨_,?_,i+1,bk,au,rfl,ag,?_,?_⟩
    .omega
    .rw[e1,h2];unfold wq;simp_all
    .rw[e2,h3,j3];simp
   .refine⟨_,?_,i+1,bk,au,rfl,ag,?_,?_⟩
    .omega
    .rw[e1,h2];unfold wq;simp_all
    .rw[e2,h3];simp;omega
   ·(refine' ax)
    rw[QX ak.ah hi (by unfold wq;simp_all)];rfl
   ·(refine' ax)
    rw[QX ak.ah hi (by unfold wq;simp_all)];rfl
   all_goals(exfalso;omega)
  ·(refine' cU)
   .omega
   .have hi:i=p.length:=by omega
    subst hi;rw[gX] at h2 h3;exact⟨bk,au,h2,h3⟩
 .rintro l L ⟨hl,hL,h1,h2⟩;refine aq ?_;refine W.le ?_ hl hL;(refine' cU)
  (refine' ax)
  show Value.bool (decide _)=Value.bool (p.all wq&&mL p&&decide _);rw[h1,h2];simp;omega
end
def ev (e:aZ):Value:=.agg ⟨Ds e⟩
theorem vJ (s:St)(a:aK)(c:Nat)(p:List aZ)(e:aZ)(hp:p.length<=3000)(hr:bO s a p.length 2 (ai p)):fa a8 bj 159 [.slice a p.length c,ev e] s (aj a) 200 (gm p e):=by
 have hd:=Rd.of hr (A:=aj a) λb hb=>hb
 refine aU f159 ?_;(repeat(first|refine' xz|refine' aw|fail))
 refine W.bN (λk l L=>∃(i:Nat)(d:Bool)(q:List aZ)(a':aK)(c':Nat),Le [(0,.slice a p.length c),(3,bc bx),(5,.slice a' q.length c'),(6,.bool d),(7,iv i)] l/\cz [.aN (.slice a' q.length c') 200 2 (ai q),.box bx (Ds e) 200 false] L/\k=p.length-i/\i<=p.length/\q.length<=i+1/\(d=true->q++p.drop i=gm p e)/\(d=false->q=p.take i/\gm p e=p.take i++gm (p.drop i) e))
  (λl L=>∃(d:Bool)(q:List aZ)(a':aK)(c':Nat),Le [(3,bc bx),(5,.slice a' q.length c'),(6,.bool d)] l/\cz [.aN (.slice a' q.length c') 200 2 (ai q),.box bx (Ds e) 200 false] L/\q.length<=3001/\gm p e=if d=true then q else q++[e]) p.length ⟨0,false,[],_,_,bk,au,ag,ag,by simp,by simp,by simp⟩ ?_ ?_
 .rintro k l L ⟨i,d,q,a',c',hl,hL,rfl,h1,h2,h3,h4⟩;refine W.le ?_ hl hL;clear hl hL;have ed:i<p.length->p.drop i=p.getD i ak.ah::p.drop (i+1):=λh=>by
   rw[pC _ h];exact wA h
  have et:i<p.length->p.take (i+1)=p.take i++[p.getD i ak.ah]:=λh=>fA p _ h
  (refine' cU)
  .have h0:i<p.length:=by omega
   obtain⟨h5,h6⟩:=h4 um;rw[gz] at hc;refine⟨_,?_,i+1,true,_,_,_,bk,au,rfl,ag,?_,λ_=>?_,λh=>by cases h⟩
   .omega
   .have:=List.length_take_le i p;rw[<-h5] at this;simp only[bJ,cY,mJ];omega
   .rw[h6,h5,ed h0,gm,if_pos hc];simp
  .have h0:i<p.length:=by omega
   obtain⟨h5,h6⟩:=h4 um;rw[gz] at hc;refine⟨_,?_,i+1,d,_,_,_,bk,au,rfl,ag,?_,λh=>?_,λ_=>?_⟩
   .omega
   .simp only[bJ,cY,mJ];omega
   .rw[um] at h;cases h
   .refine⟨by rw[et h0,<-h5],?_⟩;rw[h6,ed h0,gm,if_neg (by rw[hc];simp),et h0];simp
  .have h0:i<p.length:=by omega
   refine⟨_,?_,i+1,d,_,_,_,bk,au,rfl,ag,?_,λh=>?_,λh=>?_⟩
   .omega
   .simp only[bJ,cY,mJ];omega
   .rw[<-h3 h,ed h0];simp
   .rw[um] at h;cases h
  .have h0:i=p.length:=by omega
   subst h0;refine⟨d,_,_,_,bk,au,ag,?_⟩;cases d with
   |true=>have:=h3 rfl;rw[if_pos rfl,<-this];simp
   |false=>obtain⟨h5,h6⟩:=h4 rfl;rw[if_neg (by simp),h6,<-h5];simp[gm]
 .rintro l L ⟨d,q,a',c',hl,hL,h1,h2⟩;refine aq ?_;refine W.le ?_ hl hL;(refine' cU)
  ·(refine' lN)
   rw[h2,if_neg (by simp_all)]
  ·(refine' lN)
   rw[h2,if_pos (by simp_all)]
theorem OT (s:aA):l7 s=if(cut 61 s).length≠2 then none else some ⟨(cut 61 s).getD 0 [],qJ ((cut 61 s).getD 1 [])⟩:=by
 unfold l7;rcases cut 61 s with _|⟨a,_|⟨b,_|⟨c,l⟩⟩⟩<;>simp
theorem aez {l:List aZ}(h:bz l=true):∀e∈l,e.name.length<=4/\1<=e.id/\e.id<=15:=by
 intro e he;have h':(l.all wq&&mL l&&decide (l.length<=12))=true:=h;simp only[bU,gQ] at h';have:=h'.1.1 e he;unfold wq bG fR at this;simp only[bU,bQ] at this;exact⟨this.1.2,this.2.1,this.2.2⟩
theorem FP (s:St)(z:aA)(hz:z.length<=2500):kr a8 bj 209 [sv z] s [] 200 ((iL z).getD []) (iL z).isSome:=by
 have hm:=u4 59 z;have hlw:∀i,i<(cut 59 z).length->((cut 59 z).getD i ak.ah).length<=2500:=λi hi=>ik (y8 59 z _ (aJ hi _)) hz
 unfold iL;refine aU f209 ?_;(repeat' (first|refine' a7|refine' Wv|refine' aw|fail))
 generalize hw:cut 59 z=w at *
 refine W.bN (λk l L=>∃(i:Nat)(q:List aZ)(a:aK)(c:Nat),Le [(0,sv z),(4,.slice a q.length c),(5,.slice vE w.length vF),(6,iv i)] l/\cz [.aN (.slice vE w.length vF) 9 1 (ai w),.aN (.slice a q.length c) 200 2 (ai q)] L/\k=w.length-i/\i<=w.dropLast.length/\(w.dropLast.take i).mapM l7=some q/\∀e∈q,e.name.length<=2500)
  (λl L=>∃(q:List aZ)(a:aK)(c:Nat),Le [(0,sv z),(4,.slice a q.length c)] l/\cz [.aN (.slice a q.length c) 200 2 (ai q)] L/\w.dropLast.mapM l7=some q/\∀e∈q,e.name.length<=2500) w.length ⟨0,[],_,_,bk,au,ag,ag,by simp,by simp⟩ ?_ ?_
 .rintro k l L ⟨i,q,a,c,hl,hL,rfl,h1,h2,h3⟩;refine W.le ?_ hl hL;clear hl hL;have hq:=qo _ _ _ h2;rw[cZ,BL h1] at hq;have uq:w.dropLast.length=w.length-1:=List.length_dropLast;have du:=hlw i;have IB:i<w.dropLast.length->w.dropLast.getD i []=w.getD i []:=λh=>by
   rw[pC _ h,pC _ ag,List.getElem_dropLast]
  have he:=OT (w.getD i ak.ah);have hm2:=u4 61 (w.getD i ak.ah);have tZ:∀j,j<(cut 61 (w.getD i ak.ah)).length->((cut 61 (w.getD i ak.ah)).getD j ak.ah).length<=(w.getD i ak.ah).length:=λj hj=>y8 61 _ _ (aJ hj _)
  have ak6:=tZ 0;have anp:=tZ 1;(repeat' (first|refine' a7|refine' Wv|((with_reducible apply WO.bI);exact aE;(first|exact λs=>AF s _ ag);intro _ _ _ _)|refine' aw|fail))
  .have hn:l7 (w.dropLast.getD i [])=none:=by
    rw[IB ag];refine he.trans (if_pos ?_);omega
   rw[mapM_none l7 w.dropLast [] ag hn];(refine' fp)<;>rfl
  .have hs:=vI l7 w.dropLast [] (show i<w.dropLast.length by omega);have hn:l7 (w.dropLast.getD i [])=some ⟨(cut 61 (w.getD i ak.ah)).getD 0 [],qJ ((cut 61 (w.getD i ak.ah)).getD 1 [])⟩:=by
    rw[IB ag];refine he.trans (if_neg ?_);omega
   rw[h2,hn] at hs;refine⟨_,?_,i+1,q++[⟨(cut 61 (w.getD i ak.ah)).getD 0 [],qJ ((cut 61 (w.getD i ak.ah)).getD 1 [])⟩],_,_,bk,au,rfl,ag,hs,λe he=>?_⟩
   .omega
   .rcases eX.1 he with he|he
    .exact h3 e he
    .rw[gR.1 he];have:=ak6 ag;have h5:=du ag;exact ik this h5
  .have hi:i=w.dropLast.length:=by omega
   subst hi;rw[gX] at h2;exact⟨q,_,_,bk,au,h2,h3⟩
 .rintro l L ⟨q,a,c,hl,hL,h1,h2⟩;refine aq ?_;refine W.le ?_ hl hL;clear hl hL;have hq:=qo _ _ _ h1;have uq:w.dropLast.length=w.length-1:=List.length_dropLast;have NG:∀e∈q,e.name.length<=3000:=λe he=>by have:=h2 e he;omega
  rw[h1];by_cases fF:bz q=true
  .have SG:∀e∈q,e.name.length<=3000/\0<=e.id/\e.id<=1000000000:=λe he=>by have:=aez fF e he;omega
   (repeat' (first|refine' a7|refine' ahe|refine' ahf|refine' aw|fail))
   .simp only[fF,j3];(refine' fp)<;>simp[j3]
   .simp only[fF,j3];(refine' fp)<;>simp[j3]
   all_goals(exfalso;simp_all;done)
  ·(repeat' (first|refine' a7|refine' ahe|refine' aw|fail))
   all_goals first|(exfalso;simp_all;done)|skip
   .simp only[fF];(refine' fp)<;>simp[fF]
theorem OU {z:aA}(h:0<z.length)(h0:z.getD 0 0=47):cut 47 z=[]::cut 47 z.tail:=by
 cases z with
 |nil=>simp at h
 |cons x z=>
  have:x=47:=h0;subst this;simp[cut]
theorem Lh (s:St)(z:aA)(hz:z.length<=100000)(h:0<z.length)(h0:z.getD 0 0=47):ace a8 bj 95 [sv z] s [] 9 (aH z):=by
 have ni:=OU h h0;have hl:0<(cut 47 z).length:=by rw[ni];simp
 refine aU f95 ?_;(repeat' (first|refine' a7|refine' Wv|refine' aw|fail))
 ·(refine' ach)
  unfold aH;rw[if_pos (by assumption)]
 ·(refine' ach)
  unfold aH;rw[if_neg (by assumption),ni];rfl
def pD (l:List aA):aA:=(l.map λs=>47::s).flatten
theorem Jd (l:List aA)(d:aA){i:Nat}(h:i<l.length):pD (l.take (i+1))=pD (l.take i)++47::l.getD i d:=by
 rw[fA l d h];simp[pD]
theorem LO (s:St)(a:aK)(c:Nat)(p:List aA)(hp:p.length<=100000)(hn:∀e∈p,e.length<=3000)(hr:bO s a p.length 1 (ai p)):bP 141 [.slice a p.length c] s (aj a) (sv (pathOf p)):=by
 have hd:=Rd.of hr (A:=aj a) λb hb=>hb
 refine aU f141 ?_;(repeat(first|refine' xz|refine' aw|fail))
 refine W.bN (λk l L=>∃(i:Nat),Le [(0,.slice a p.length c),(3,sv (pD (p.take i))),(4,iv i)] l/\cz [] L/\k=p.length-i/\i<=p.length/\(pD (p.take i)).length<=i*3001)
  (λl L=>Le [(3,sv (pD p))] l/\cz [] L) p.length ⟨0,bk,au,ag,ag,by simp[pD]⟩ ?_ ?_
 .rintro k l L ⟨i,hl,hL,rfl,h1,h2⟩;refine W.le ?_ hl hL;clear hl hL;have hb:=λh:i<p.length=>hn _ (aJ h ak.ah)
  have e:=λh:i<p.length=>Jd p ak.ah h
  by_cases hi:i<p.length
  .have hb:=hb hi;have e:=e hi;(refine' cU)
   .refine⟨_,?_,i+1,?_,au,rfl,ag,?_⟩
    .omega
    .rw[e,show ∀a b:aA,a++47::b=a++[47]++b from λa b=>by simp];exact bk
    .rw[e,bJ,cY];omega
   all_goals(exfalso;omega)
  ·(refine' cU)
   .omega
   .have hi:i=p.length:=by omega
    subst hi;rw[gX];exact⟨bk,au⟩
 .rintro l L ⟨hl,hL⟩;refine aq ?_;refine W.le ?_ hl hL;have e:pD p=[]↔p=[]:=by
   cases p<;>simp[pD]
  (refine' cU)
  ·(refine' ax)
   unfold pathOf;rw[if_pos (e.1 (by assumption))];rfl
  ·(refine' ax)
   unfold pathOf;rw[if_neg (λh=>(by assumption:¬_) (e.2 h))];rfl
theorem Hh {z:aA}:∀w∈aH z,w.length<=z.length:=by
 intro w hw;unfold aH at hw;split at hw
 .cases hw
 .exact y8 47 z w (List.mem_of_mem_tail hw)
theorem xD {z:aA}:(aH z).length<=z.length+1:=by
 unfold aH;split
 .simp
 .have:=u4 47 z;rw[List.length_tail];omega
theorem SP (s:St)(z:aA)(hz:z.length<=90000):bP 58 [sv z] s [] (.bool (aT z)):=by
 have hm:=xD (z:=z);have hlw:∀i,i<(aH z).length->((aH z).getD i ak.ah).length<=z.length:=λi hi=>Hh _ (aJ hi _)
 by_cases zS:z=[]
 .subst zS;refine aU f58 ?_;(refine' cU)
  all_goals first|(exfalso;simp_all;done)|skip
  (refine' ax);rfl
 have c8:0<z.length:=oD.2 zS;have hh:z.headD 0=z.getD 0 0:=by cases z<;>rfl
 unfold aT;rw[hh];refine aU f58 ?_;have hb:((z.getD 0 0).toNat:Int)=47↔z.getD 0 0=47:=by
  constructor
  .intro h;rw[<-w6];show(z.getD 0 0).toNat=47;omega
  .intro h;rw[h];rfl
 by_cases OV:z.getD 0 0=47
 .have lB:=hb.2 OV;(repeat' (first|refine' a7|refine' SO|refine' aw|fail))
  ·(refine' ax);rw[if_pos (by assumption)];rfl
  .exfalso;exact j3 lB
  rotate_left 1
  .exact absurd (by assumption) zS
  rw[if_neg (by assumption),if_neg (by rw[OV];simp[zS])];generalize hw:aH z=w at *
  refine W.bN (λk l L=>∃(i:Nat),Le [(3,.slice Dt w.length Du),(4,iv i)] l/\cz [.aN (.slice Li Bj.length Lj) 9 1 (ai Bj)] L/\k=w.length-i/\i<=w.length/\(w.take i).all bG=true)
   (λl L=>Le [(3,.slice Dt w.length Du)] l/\cz [] L/\w.all bG=true) w.length ⟨0,bk,au,ag,ag,rfl⟩ ?_ ?_
  .rintro k l L ⟨i,hl,hL,rfl,h1,h2⟩;refine W.le ?_ hl hL;clear hl hL;have du:=hlw i;have e:=λh:i<w.length=>fA w ak.ah h
   (repeat' (first|refine' a7|refine' aaA|refine' aw|fail))
   ·(refine' ax)
    have:w.all bG=false:=by
     rw[F8];exact⟨_,aJ (show i<w.length by omega) ak.ah,by simp_all⟩
    rw[this];rfl
   .refine⟨_,?_,i+1,bk,au,rfl,ag,?_⟩
    .omega
    .rw[e ag,F7,h2];simp_all
   .have hi:i=w.length:=by omega
    subst hi;rw[gX] at h2;exact⟨bk,au,h2⟩
  .rintro l L ⟨hl,hL,h1⟩;refine aq ?_;refine W.le ?_ hl hL;(refine' cU)
   (refine' ax)
   rw[h1];simp[gB];omega
 .have lB:=λh=>OV (hb.1 h)
  (refine' cU)
  ·(refine' ax);rw[if_pos (by assumption)];rfl
  ·(refine' ax);rw[if_neg (by assumption),if_pos (by rw[mS];exact .inr (dt OV))];rfl
  all_goals first|(exfalso;exact lB (by assumption))|(exact absurd (by assumption) zS)
def iz (z:aA):List aA:=if aT z=true then aH z else []
theorem Cm {z:aA}(h:aT z=true):0<z.length/\z.getD 0 0=47:=by
 unfold aT at h;split at h
 .rename_i h0;subst h0;exact⟨by simp,rfl⟩
 .split at h
  .cases h
  .rename_i h1;cases z with
   |nil=>simp at h1
   |cons x z=>simp at h1;exact⟨by simp,h1⟩
theorem Je (s:St)(z:aA)(hz:z.length<=90000):kr a8 bj 140 [sv z] s [] 9 (iz z) (aT z):=by
 have hm:=xD (z:=z);refine aU f140 ?_;by_cases h:aT z=true
 .obtain⟨h1,h2⟩:=Cm h;(repeat' (first|refine' a7|refine' aea|refine' SO|refine' aw|fail))
  .exfalso;simp_all
  ·(refine' fp)
   .unfold iz;rw[if_pos h];rfl
   .exact h
 ·(repeat' (first|refine' a7|refine' aea|refine' aw|fail))
  ·(refine' fp)
   .unfold iz;rw[if_neg h]
   .simpa using h
  all_goals(exfalso;simp_all;done)
theorem za (s:St)(z t:aA)(hz:z.length<=3000)(ht:t.length<=3000):bP 99 [sv z,sv t] s [] (.bool (under z t)):=by
 have hp:∀{z:aA},z.length<=3000->(iz z).length<=3001/\∀e∈iz z,e.length<=3000:=λ{z} hz=>by
  unfold iz;split
  .exact⟨by have:=xD (z:=z);omega,λe he=>by have:=Hh e he;omega⟩
  .simp
 obtain⟨h1,h2⟩:=hp hz;obtain⟨h3,h4⟩:=hp ht;have h5:∀e∈(iz z).take ((iz t).length:Int).toNat,e.length<=3000:=λe he=>h2 e (NP he)
 refine aU f99 ?_;(repeat' (first|refine' a7|((with_reducible apply WO.yS);exact aE;(first|exact λs=>Je s _ ag);intro _ _ acP acQ _ _)|((with_reducible apply WO.l8);exact aE;(first|exact λs hr=>LO s _ _ _ ag (by assumption) hr|exact λs hr=>LO s _ _ _ (by first|omega|(rw[cZ];omega)) (by assumption) hr);exact cg;intro _ _ _ _)|refine' aw|fail))
 all_goals(refine' ax)
 all_goals(simp only[gB];refine fI Value.bool ?_;unfold under)
 .have e1:iz z=aH z:=if_pos (by assumption);have e2:iz t=aH t:=if_pos (by assumption);rw[e1,e2] at j3;simp_all;omega
 .have e1:iz z=aH z:=if_pos (by assumption);have e2:iz t=aH t:=if_pos (by assumption);rw[e1,e2] at j3;rw[e1,e2];simp_all
 .simp_all
 .simp_all
end Go.Pl
namespace Go.Pg
open Go.Pl
section
variable {n:Nat}{l:List aA}
theorem zb (h:n<10):gM n=[UInt8.ofNat (48+n)]:=by rw[gM,dif_pos h]
theorem Cn (h:¬n<10):gM n=gM (n/ 10)++[UInt8.ofNat (48+n% 10)]:=by rw[gM,dif_neg h]
theorem Xz (h:n<10):(UInt8.ofNat (48+n)).toNat=48+n:=by
 rw[UInt8.toNat_ofNat_of_lt' (by show _<256;omega)]
theorem u5 (n:Nat):1<=(gM n).length:=by
 rw[gM];split<;>simp
theorem LP (n:Nat):∀c∈gM n,kT c=true:=by
 induction n using Nat.strongRecOn with
 |_ n ih=>
  intro c hc;by_cases h:n<10
  .rw[zb h] at hc;simp only[gR] at hc;subst hc;simp only[kT,Xz h,bU,bQ];omega
  .rw[Cn h] at hc;rcases eX.1 hc with hc|hc
   .exact ih (n/ 10) ag c hc
   .simp only[gR] at hc;subst hc;simp only[kT,Xz (RM n ag),bU,bQ];omega
theorem gg (n:Nat):∀k,1<=k->n<10^ k->(gM n).length<=k:=by
 induction n using Nat.strongRecOn with
 |_ n ih=>
  intro k hk hn;by_cases h:n<10
  .rw[zb h];exact hk
  .rw[Cn h,bJ];obtain⟨k,rfl⟩:∃j,k=j+1:=⟨k-1,ag⟩;have h1:1<=k:=by
    rcases k with _|k
    .simp at hn;omega
    .omega
   have:=ih (n/ 10) ag k h1 (by rw[US] at hn;omega);simp only[cY,mJ];omega
theorem Tc (s:aA)(c:UInt8):numOf (s++[c])=10*numOf s+(c.toNat-48):=by
 unfold numOf;rw[List.foldl_append];rfl
theorem OW (n:Nat):numOf (gM n)=n:=by
 induction n using Nat.strongRecOn with
 |_ n ih=>
  by_cases h:n<10
  .rw[zb h];show 10*0+((UInt8.ofNat (48+n)).toNat-48)=n;rw[Xz h];omega
  .rw[Cn h,Tc,ih (n/ 10) ag,Xz (RM n ag)];omega
theorem Td (n:Nat):(gM n).headD 0=48->n=0:=by
 induction n using Nat.strongRecOn with
 |_ n ih=>
  intro h;by_cases hn:n<10
  .rw[zb hn] at h;have:(UInt8.ofNat (48+n)).toNat=(48:UInt8).toNat:=by rw[show UInt8.ofNat (48+n)=48 from h]
   rw[Xz hn] at this;have h2:(48:UInt8).toNat=48:=rfl;omega
  .rw[Cn hn] at h;have h1:(gM (n/ 10)++[UInt8.ofNat (48+n% 10)]).headD 0=(gM (n/ 10)).headD 0:=by
    have:=u5 (n/ 10);cases hh:gM (n/ 10) with
    |nil=>rw[hh] at this;simp at this
    |cons a l=>rfl
   rw[h1] at h;have:=ih (n/ 10) ag h;omega
theorem wP {p:UInt8->Bool}:∀(a b:aA),(∀c∈a,p c=true)->(b.head?.all λc=>!p c)=true->(a++b).takeWhile p=a
 |[],[],_,_=>rfl
 |[],c::b,_,h=>by
  have:p c=false:=by simpa using h
  simp[this]
 |x::a,b,h,h2=>by
  rw[BI,List.takeWhile_cons,h x (by simp)];simp only[if_true];rw[wP a b (λc hc=>h c (by simp[hc])) h2]
theorem Te (hn:n<1000000000)(b:aA)(hb:(b.head?.all λc=>!kT c)=true):tn (gM n++b)=gM n:=by
 have h9:(gM n).length<=9:=gg n 9 ag ag;unfold tn;rw[AW,qG h9];apply wP
 .exact LP n
 .cases b with
  |nil=>simp
  |cons c b=>
   cases h:9-(gM n).length with
   |zero=>simp
   |succ k=>simpa using hb
theorem Hi (hn:n<1000000000)(b:aA)(hb:(b.head?.all λc=>!kT c)=true):kU (gM n++b)=(n,(gM n).length):=by
 unfold kU;simp only[Te hn b hb];rw[if_neg,OW];rintro⟨h1,h2⟩;have h3:(gM n++b).headD 0=(gM n).headD 0:=by
  have:=u5 n;cases hh:gM n with
  |nil=>rw[hh] at this;simp at this
  |cons a l=>rfl
 rw[h3] at h2;have:=Td n h2;subst this;rw[zb ag] at h1;simp at h1
theorem LQ (hn:n<1000000000):iK (gM n)=some n:=by
 unfold iK;have h:=Hi hn [] rfl;rw[ix] at h;simp only[h];rw[if_neg];have:=u5 n;omega
theorem nj {n:Int}(h:0<=n):dec n=gM n.toNat:=by
 obtain⟨k,rfl⟩:=wB h;rfl
theorem oa {n:Int}(h0:0<=n)(h:n<1000000000):iK (dec n)=some n.toNat:=by rw[nj h0,LQ ag]
theorem sB {n:Int}(h0:0<=n)(h:n<1000000000):qJ (dec n)=n:=by
 unfold qJ;rw[oa h0 h];simp;omega
theorem aa1 {n:Int}(h0:0<=n)(h:n<1000000000):(dec n).length<=9:=by rw[nj h0];exact gg _ 9 ag ag
theorem Co {n:Int}(h0:0<=n):∀c∈dec n,kT c=true:=by rw[nj h0];exact LP _
theorem u3 (c:UInt8):∀s:aA,(∀x∈s,x≠c)->cut c s=[s]
 |[],_=>rfl
 |x::s,h=>by
  rw[cut,if_neg (h x (by simp)),u3 c s (λy hy=>h y (by simp[hy]))]
theorem Cp (c:UInt8):∀(s b:aA),(∀x∈s,x≠c)->cut c (s++c::b)=s::cut c b
 |[],b,_=>by rw[pT,cut,if_pos rfl]
 |x::s,b,h=>by
  rw[BI,cut,if_neg (h x (by simp)),Cp c s b (λy hy=>h y (by simp[hy]))]
theorem DZ (c:UInt8):∀l:List aA,l≠[]->(∀s∈l,∀x∈s,x≠c)->cut c (iF c l)=l
 |[],h,_=>absurd rfl h
 |[s],_,h=>u3 c s (h s (by simp))
 |s::t::l,_,h=>by
  rw[iF,Cp c s _ (h s (by simp)),DZ c (t::l) (by simp) (λu hu=>h u (by simp[hu]))];simp
theorem eN (s:aA)(l:List aA):fieldsOf (s::l)=gM s.length++58::s++fieldsOf l:=by simp[fieldsOf]
theorem LS:∀(l:List aA)(out:aA),(out++fieldsOf l).length<=2048->kV l out=some (out++fieldsOf l)
 |[],out,_=>by simp[kV,fieldsOf]
 |s::l,out,h=>by
  rw[eN] at h;simp only[bJ,cY] at h;rw[kV,if_neg ag];dsimp only;rw[if_neg (by simp only[bJ,cY];omega),LS l _ (by simp only[bJ,cY];omega),eN];simp
theorem zc (h:l.length<=60)(hl:(fieldsOf l).length<=2048):jh l=some (fieldsOf l):=by
 unfold jh;rw[if_neg ag,LS l [] (by simpa using hl)];simp
theorem LU:∀(l:List aA)(f:Nat)(out:List aA),l.length<f->(fieldsOf l).length<=2048->sj f (fieldsOf l) out=some (out++l)
 |[],f,out,h,_=>by
  obtain⟨f,rfl⟩:∃g,f=g+1:=⟨f-1,ag⟩;simp[sj,fieldsOf]
 |s::l,f,out,h,hl=>by
  obtain⟨f,rfl⟩:∃g,f=g+1:=⟨f-1,ag⟩;have jG:=hl;rw[eN] at hl;simp only[bJ,cY] at hl;have fK:fieldsOf (s::l)≠[]:=by rw[eN];simp
  obtain⟨c,z,hz⟩:∃c z,fieldsOf (s::l)=c::z:=by
   cases hh:fieldsOf (s::l) with
   |nil=>exact absurd hh fK
   |cons c z=>exact⟨c,z,rfl⟩
  have hn:kU (fieldsOf (s::l))=(s.length,(gM s.length).length):=by
   rw[eN,kG];exact Hi ag _ (by simp[kT])
  rw[hz,sj]
  .rw[<-hz,hn];have hp:=u5 s.length;have c8:(fieldsOf (s::l)).length=(gM s.length).length+1+s.length+(fieldsOf l).length:=by rw[eN];simp only[bJ,cY];omega
   have e1:(fieldsOf (s::l)).getD (gM s.length).length 0=58:=by
    rw[eN,kG,aR,zY (cA _),Fm];rfl
   have e2:(fieldsOf (s::l)).drop ((gM s.length).length+1)=s++fieldsOf l:=by
    rw[eN,kG,<-mm,List.drop_left];rfl
   have e3:(fieldsOf (s::l)).drop ((gM s.length).length+1+s.length)=fieldsOf l:=by
    rw[<-mm,e2,List.drop_left]
   dsimp only;have Cj:l.length<f:=by rw[cY] at h;omega
   rw[if_neg (by rw[e1,c8];rintro(h|h|h|h)<;>first|omega|exact h rfl),e3,e2,List.take_left,LU l f _ Cj ag];simp
  .simp
theorem Bp:∀l:List aA,2*l.length<=(fieldsOf l).length
 |[]=>by simp[fieldsOf]
 |s::l=>by
  have:=Bp l;have:=u5 s.length;rw[eN];simp only[bJ,cY];omega
theorem FQ (h:l.length<=60)(hl:(fieldsOf l).length<=2048):eS (fieldsOf l)=some l:=by
 unfold eS;rw[if_neg ag,LU l _ [] (by have:=Bp l;omega) hl];simp only[pT];rw[zc h hl];simp
end
section
variable {s:aA}{c:UInt8}{l:cW}
theorem OX (h:∀x∈s,kT x=true)(hc:kT c=false):∀x∈s,x≠c:=by
 rintro x hx rfl;rw[h x hx] at hc;cases hc
theorem vK {p:jt}(h:aI p=false):bw p=true↔(8<=p.row/\p.row<=63)/\(1<=p.dg/\p.dg<=900)/\(1<=p.size/\p.size<=128)/\(0<=p.sum/\p.sum<=99460728)/\0<=p.level/\p.level<=2:=by
 simp[bw,h,Sq,fR,and_assoc]
theorem qp {p:jt}:aI p=true↔p=bq:=by simp[aI]
theorem lG:aI bq=true:=by simp[aI]
theorem AG {p:jt}(h:aI p=false)(ho:bw p=true):eK p=iF 46 [dec p.row,dec p.dg,dec p.size,dec p.sum,dec p.level]:=by
 simp[eK,h,ho,iF]
theorem u6:eK bq=[45]:=by decide
theorem Jg {p:jt}(ho:bw p=true):∀x∈eK p,kT x=true\/x=46\/x=45:=by
 cases h:aI p with
 |true=>rw[qp.1 h,u6];simp
 |false=>
  have hk:=(vK h).1 ho;rw[AG h ho];intro x hx;simp only[iF,eX,bR] at hx;have hd:=λ{n:Int} (h0:0<=n) (hx:x∈dec n)=>Co h0 x hx
  rcases hx with hx|hx|hx|hx|hx|hx|hx|hx|hx
  .exact .inl (hd ag hx)
  .exact .inr (.inl hx)
  .exact .inl (hd ag hx)
  .exact .inr (.inl hx)
  .exact .inl (hd ag hx)
  .exact .inr (.inl hx)
  .exact .inl (hd ag hx)
  .exact .inr (.inl hx)
  .exact .inl (hd ag hx)
theorem jL {p:jt}:(eK p).length<=24:=by
 cases ho:bw p with
 |false=>simp[eK,ho]
 |true=>
 cases h:aI p with
 |true=>rw[qp.1 h,u6];simp
 |false=>
  have hk:=(vK h).1 ho;rw[AG h ho];have h1:(dec p.row).length<=2:=by rw[nj ag];exact gg _ 2 ag ag
  have h2:(dec p.dg).length<=3:=by rw[nj ag];exact gg _ 3 ag ag
  have h3:(dec p.size).length<=3:=by rw[nj ag];exact gg _ 3 ag ag
  have h4:(dec p.sum).length<=9:=by rw[nj ag];exact gg _ 9 ag ag
  have h5:(dec p.level).length<=1:=by rw[nj ag];exact gg _ 1 ag ag
  simp only[iF,bJ,cY];omega
theorem D0 {p:jt}(ho:bw p=true):ji (eK p)=some p:=by
 cases h:aI p with
 |true=>rw[qp.1 h,u6];rfl
 |false=>
  have hk:=(vK h).1 ho;have hc:cut 46 (eK p)=[dec p.row,dec p.dg,dec p.size,dec p.sum,dec p.level]:=by
   rw[AG h ho];apply DZ _ _ (by simp);intro s hs;simp only[bR,iR,iY] at hs;rcases hs with rfl|rfl|rfl|rfl|rfl<;>exact OX (Co ag) (by decide)
  have fK:eK p≠[45]:=by
   intro he;have:=fI List.length hc;rw[he] at this;simp[cut] at this
  unfold ji;rw[if_neg fK,hc];simp only[oa (show 0<=p.row by omega) ag,oa (show 0<=p.dg by omega) ag,oa (show 0<=p.size by omega) ag,oa (show 0<=p.sum by omega) ag,oa (show 0<=p.level by omega) ag];have e:(⟨(p.row.toNat:Int),(p.dg.toNat:Int),(p.size.toNat:Int),(p.sum.toNat:Int),(p.level.toNat:Int)⟩:jt)=p:=by
   obtain⟨a,b,c,d,e⟩:=p;simp only at hk;simp;omega
  rw[e];simp[ho,h]
theorem Tf {p:jt}(h:ji s=some p):bw p=true:=by
 unfold ji at h;split at h
 .cases h;decide
 .split at h
  .split at h
   .simp only at h;split at h
    .cases h
    .rename_i hh;cases h
     simp at hh;exact hh.1
   .cases h
  .cases h
theorem mapM_some {α β:Type}(f:α->Option β):∀{l:List α}{r:List β},l.mapM f=some r->r.length=l.length/\∀y∈r,∃x∈l,f x=some y
 |[],r,h=>by simp at h;subst h;simp
 |x::l,r,h=>by
  rw[Fo] at h;cases hx:f x with
  |none=>rw[hx] at h;simp at h
  |some y=>
   cases hl:l.mapM f with
   |none=>rw[hx,hl] at h;simp at h
   |some r'=>
    rw[hx,hl] at h;simp at h;subst h;obtain⟨h1,h2⟩:=mapM_some f hl;refine⟨by simp[h1],λz hz=>?_⟩;rcases bR.1 hz with rfl|hz
    .exact⟨x,by simp,hx⟩
    .obtain⟨w,hw,R1⟩:=h2 z hz;exact⟨w,by simp[hw],R1⟩
theorem D1 {α β:Type}(f:α->Option β)(g:β->α):∀l:List β,(∀x∈l,f (g x)=some x)->(l.map g).mapM f=some l
 |[],_=>rfl
 |x::l,h=>by
  rw[vp,Fo,h x (by simp),D1 f g l (λy hy=>h y (by simp[hy]))];rfl
theorem OY (h4:l.length=4)(ho:∀p∈l,bw p=true)(hh:l.all aI=false):kn (iF 44 (l.map eK))=some l:=by
 unfold kn;rw[DZ _ _ (by intro h;rw[List.map_eq_nil_iff] at h;subst h;simp at h4)]
 .rw[D1 ji eK l (λp hp=>D0 (ho p hp))];simp[h4,hh]
 .intro s hs x hx;obtain⟨p,hp,rfl⟩:=kO.1 hs;rcases Jg (ho p hp) x hx with h|rfl|rfl
  .rintro rfl;exact absurd h (by decide)
  .decide
  .decide
theorem Bq (h:kn s=some l):l.length=4/\(∀p∈l,bw p=true)/\l.all aI=false:=by
 unfold kn at h;split at h
 .cases h
 .rename_i r hr;split at h
  .cases h
  .rename_i hh;cases h
   refine⟨ag,λp hp=>?_,by simpa using λh=>hh (.inr h)⟩;obtain⟨x,_,hx⟩:=(mapM_some ji hr).2 p hp;exact Tf hx
theorem LW (h:km l=some s):l.length=4/\(∀p∈l,bw p=true)/\l.all aI=false/\s=iF 44 (l.map eK):=by
 unfold km at h;split at h
 .cases h
 .split at h
  .cases h
  .split at h
   .cases h
   .rename_i h1 h2 h3;cases h
    refine⟨ag,λp hp=>?_,by simpa using h3,rfl⟩;simp only[Gb,not_exists,not_and] at h2;have:=h2 p hp;simpa using this
theorem Tg (h4:l.length=4)(ho:∀p∈l,bw p=true)(hh:l.all aI=false):km l=some (iF 44 (l.map eK)):=by
 unfold km;rw[if_neg ag,if_neg,if_neg (by simp[hh])];simp only[Gb,not_exists,not_and];intro p hp;simp[ho p hp]
theorem aa2 (h4:l.length=4):(iF 44 (l.map eK)).length<=128/\1<=(iF 44 (l.map eK)).length:=by
 match l,h4 with
 |[a,b,c,d],_=>
  have:=jL (p:=a);have:=jL (p:=b);have:=jL (p:=c);have:=jL (p:=d);simp only[vp,Ga,iF,bJ,cY];omega
theorem Th (k:Int):0<=fh k/\fh k<=128:=by
 unfold fh;split
 .omega
 .split<;>omega
theorem lb {n:iG}(h:ez n=true):(n.kind=1\/n.kind=2)/\(0<=n.size/\n.size<=2048)/\n.aS.many=fj n.kind n.size/\(0<=n.aS.many/\n.aS.many<=16)/\n.aS.depth=cJ n.aS.many/\bw n.aS.cy=true/\(1<=n.bF/\n.bF<=9)/\(n.kind=2->n.bF=1):=by
 simp only[ez,bU,pU,CG,mb,CF,fR,bQ] at h;obtain⟨⟨⟨⟨h1,h2⟩,h3⟩,h4⟩,h5,h6⟩:=h;have hk:n.kind=1\/n.kind=2:=by
  by_cases k1:n.kind=1
  .exact .inl k1
  .by_cases k2:n.kind=2
   .exact .inr k2
   .exfalso;apply h1;simp[fj,fh,k1,k2]
 have hs:0<=n.size/\n.size<=16*fh n.kind:=by
  unfold fj at h1;split at h1
  .exact absurd ag h1
  .rename_i hh;simp[fR] at hh;omega
 have he:=Th n.kind;have hm:n.aS.many=fj n.kind n.size:=by omega
 have hp:fj n.kind n.size<=16:=by
  unfold fj dn;split
  .omega
  .rcases hk with hk|hk
   .rw[hk] at hs⊢;simp[fh] at hs⊢;omega
   .rw[hk] at hs⊢;simp[fh] at hs⊢;omega
 refine⟨hk,⟨hs.1,ag⟩,hm,ag,by rw[hm];omega,h4,?_,?_⟩
 .split at h5<;>omega
 .intro hk;rw[if_pos hk] at h5;omega
theorem fq (m:Int):0<=cJ m/\cJ m<=2:=by
 unfold cJ;split
 .omega
 .split<;>omega
theorem qq:∀l:List aA,(∀s∈l,s.length<=24)->(fieldsOf l).length<=l.length*34
 |[],_=>by simp[fieldsOf]
 |s::l,h=>by
  have:=qq l (λx hx=>h x (by simp[hx]));have h1:=h s (by simp);have:(gM s.length).length<=9:=gg _ 9 ag ag;rw[eN];simp only[bJ,cY];omega
theorem zd {n:iG}(h:ez n=true):∀s∈jX n,s.length<=24:=by
 obtain⟨hk,hs,_,hm,hd,hr,hl,_⟩:=lb h;have:=fq n.aS.many;intro s hs;simp only[jX,bR,iR,iY] at hs;have hh:=λ{n:Int} (h0:0<=n) (h:n<1000000000)=>ik (aa1 h0 h) (show 9<=24 by omega)
 rcases hs with rfl|rfl|rfl|rfl|rfl|rfl|rfl
 .exact hh ag ag
 .exact hh ag ag
 .exact hh ag ag
 .exact jL
 .exact hh ag ag
 .exact hh ag ag
 .simp
theorem D4 {n:iG}(h:ez n=true):fZ n=fieldsOf (jX n):=by
 unfold fZ;rw[h,zc (by simp[jX]) (by have:=qq _ (zd h);simp[jX] at this⊢;omega)];rfl
theorem rj {n:iG}(h:ez n=true):1<=(fZ n).length/\(fZ n).length<=128:=by
 rw[D4 h];obtain⟨hk,hs,_,hm,hd,hr,hl,_⟩:=lb h;have hd':=fq n.aS.many;have h1:(dec n.kind).length<=1:=by rw[nj ag];exact gg _ 1 ag ag
 have h2:(dec n.bF).length<=1:=by rw[nj ag];exact gg _ 1 ag ag
 have h3:(dec n.size).length<=4:=by rw[nj ag];exact gg _ 4 ag ag
 have h4:(dec n.aS.depth).length<=1:=by rw[nj ag];exact gg _ 1 ag ag
 have h5:(dec n.aS.many).length<=2:=by rw[nj ag];exact gg _ 2 ag ag
 have h6:=jL (p:=n.aS.cy);have Qw:∀k:Nat,k<=24->(gM k).length<=2:=λk hk=>gg _ 2 ag ag
 simp only[jX,eN,bJ,cY];have:=Qw (dec n.kind).length ag;have:=Qw (dec n.bF).length ag;have:=Qw (dec n.size).length ag;have:=Qw (dec n.aS.depth).length ag;have:=Qw (dec n.aS.many).length ag;have:=Qw (eK n.aS.cy).length ag;have:=Qw 3 ag;have:(fieldsOf []).length=0:=rfl;simp only[mJ];simp only[nF,Nat.reduceAdd];omega
theorem LX {n:iG}(h:ez n=true):eP (fZ n)=some n:=by
 have hg:eS (fZ n)=some (jX n):=by
  rw[D4 h];exact FQ (by simp[jX]) (by have:=qq _ (zd h);simp[jX] at this⊢;omega)
 obtain⟨hk,hs,_,hm,hd,hr,hl,_⟩:=lb h;have hd':=fq n.aS.many;unfold eP;rw[hg];simp only[jX];rw[sB (show 0<=n.kind by omega) ag,sB (show 0<=n.bF by omega) ag,sB (show 0<=n.size by omega) ag,sB (show 0<=n.aS.depth by omega) ag,sB (show 0<=n.aS.many by omega) ag,D0 hr];simp[h]
theorem xE {n:iG}(h:eP s=some n):ez n=true/\fZ n=s:=by
 unfold eP at h;split at h
 .simp only at h;split at h
  .cases h
  .rename_i hh;cases h
   simpa using hh
 .cases h
theorem u7:eP []=none:=by
 cases h:eP [] with
 |none=>rfl
 |some n=>
  obtain⟨h1,h2⟩:=xE h;have:=(rj h1).1;rw[h2] at this;simp at this
theorem rk (h:bG s=true):(∀c∈s,97<=c.toNat/\c.toNat<=122)/\1<=s.length/\s.length<=4:=by
 simp only[bG,bU,bQ,gQ] at h;exact⟨λc hc=>h.1.1 c hc,h.1.2,h.2⟩
theorem QY (h:bG s=true)(hc:c.toNat<97):∀x∈s,x≠c:=by
 rintro x hx rfl;have:=(rk h).1 x hx;omega
theorem u9 (e:aZ)(l:List aZ):bg (e::l)=(e.name++61::dec e.id)++59::bg l:=by
 simp[bg]
theorem acR:∀l:List aZ,(∀e∈l,bG e.name=true/\0<=e.id)->(cut 59 (bg l)).dropLast=l.map λe=>e.name++61::dec e.id
 |[],_=>rfl
 |e::l,h=>by
  have he:=h e (by simp);rw[u9,Cp]
  .have fK:cut 59 (bg l)≠[]:=by
    cases hh:bg l with
    |nil=>simp[cut]
    |cons x z=>
     rw[cut];split
     .simp
     .split<;>simp
   rw[List.dropLast_cons_of_ne_nil fK,acR l (λx hx=>h x (by simp[hx]))];rfl
  .intro x hx;rcases eX.1 hx with hx|hx
   .exact QY he.1 (by decide) x hx
   .rcases bR.1 hx with rfl|hx
    .decide
    .exact OX (Co he.2) (by decide) x hx
theorem LY {e:aZ}(h:bG e.name=true)(h0:0<=e.id)(h1:e.id<1000000000):l7 (e.name++61::dec e.id)=some e:=by
 unfold l7;rw[Cp _ _ _ (QY h (by decide)),u3 _ _ (OX (Co h0) (by decide))];simp only[sB h0 h1]
theorem ib {l:List aZ}(h:bz l=true):(∀e∈l,bG e.name=true/\1<=e.id/\e.id<=15)/\mL l=true/\l.length<=12:=by
 simp only[bz,bU,bQ,gQ,fR] at h;exact⟨λe he=>h.1.1 e he,h.1.2,h.2⟩
theorem D5 {l:List aZ}(h:bz l=true):iL (bg l)=some l:=by
 obtain⟨h1,_,_⟩:=ib h;unfold iL;rw[acR l (λe he=>⟨(h1 e he).1,by have:=h1 e he;omega⟩)];rw[D1 l7 _ l (λe he=>by have:=h1 e he;exact LY this.1 ag ag)];simp[h]
theorem lY {l:List aZ}(h:bz l=true):(bg l).length<=96/\(l≠[]->1<=(bg l).length):=by
 obtain⟨h1,_,h3⟩:=ib h;have:∀l:List aZ,(∀e∈l,bG e.name=true/\1<=e.id/\e.id<=15)->(bg l).length<=l.length*8/\(l≠[]->1<=(bg l).length):=by
  intro l;induction l with
  |nil=>simp[bg]
  |cons e l ih=>
   intro h;have he:=h e (by simp);have h4:=(rk he.1).2;have h5:(dec e.id).length<=2:=by rw[nj ag];exact gg _ 2 ag ag
   have:=(ih (λx hx=>h x (by simp[hx]))).1;rw[u9];simp only[bJ,cY];refine⟨ag,λ_=>by omega⟩
 have:=this l h1;exact⟨ag,this.2⟩
end
section
variable {a b st cQ:ar}{Q':cW}{p:jt}{level:Int}{s:aA}
def nh (p:jt):Bool:=!aI p
def aeA (i:Nat)(p:jt):Bool:=decide (p.row.toNat=i)
def zT (i:Nat)(Q:cW):Nat:=Q.countP (aeA i)
theorem aa3 (i:Nat):zT i []=0:=rfl
theorem iO (i:Nat)(p q:cW):zT i (p++q)=zT i p+zT i q:=by simp[zT]
theorem oQ (i:Nat)(p:jt)(q:cW):zT i (p::q)=zT i q+if p.row.toNat=i then 1 else 0:=by
 simp[zT,iC,aeA]
theorem LZ {i:Nat}{p q:cW}(h:p.Perm q):zT i p=zT i q:=h.countP_eq _
theorem D6 {i:Nat}{Q:cW}(h:zT i Q=0):∀p∈Q,p.row.toNat≠i:=by
 intro p hp he;have:=(uz.1 h) p hp;simp[aeA,he] at this
def Live (st:ar)(p:jt):Prop:=fits p (gk st p)=true/\p.dg<=st.fC
structure mQ (st:ar)(Q:cW):Prop where
 lr:st.er.length=64
 lf:st.aX.length=64
 ll:st.dm.length=64
 kp:st.oL=0
 tx:1<=st.fC
 lv:∀p∈Q,Live st p
 ct:∀i:Nat,i<64->((zT i (Q++st.cI):Nat):Int)<=st.aX.getD i 0
 gn:∀p∈st.cI,8<=p.row.toNat/\p.row.toNat<64
structure dM (st cQ:ar)(Q:cW):Prop where
 tx:cQ.fC=st.fC
 row:∀p∈Q,gk cQ p=gk st p
theorem dM.refl (st:ar)(Q:cW):dM st st Q:=⟨rfl,λ_ _=>rfl⟩
theorem dM.trans {a b c:ar}{Q Q':cW}(h:dM a b Q)(k:dM b c Q')(hs:∀p∈Q,p∈Q'):dM a c Q:=⟨k.tx.trans h.tx,λp hp=>(k.row p (hs p hp)).trans (h.row p hp)⟩
theorem dM.mono {Q Q':cW}(h:dM a b Q)(hs:∀p∈Q',p∈Q):dM a b Q':=⟨h.tx,λp hp=>h.row p (hs p hp)⟩
theorem Live.nh (h:Live st p):aI p=false/\bw p=true:=by
 have:=h.1;simp[fits] at this;exact⟨this.1.1.2,this.1.1.1⟩
theorem Live.VA (h:Live st p):8<=p.row.toNat/\p.row.toNat<64/\1<=p.dg:=by
 have:=(vK h.nh.1).1 h.nh.2;omega
theorem Live.ext {Q:cW}(h:Live st p)(hr:gk cQ p=gk st p)(ht:st.fC<=cQ.fC):Live cQ p:=⟨by rw[hr];exact h.1,by have:=h.2;omega⟩
theorem mQ.cR {Q Q':cW}(h:mQ st Q)(hp:Q.Perm Q'):mQ st Q':=
 ⟨h.lr,h.lf,h.ll,h.kp,h.tx,λp hq=>h.lv p (hp.mem_iff.2 hq),λi hi=>by rw[LZ (hp.symm.append_right _)];exact h.ct i hi,h.gn⟩
theorem mQ.less {Q Q':cW}(h:mQ st Q)(hm:∀p∈Q',p∈Q)(hc:∀i,zT i Q'<=zT i Q):mQ st Q':=
 ⟨h.lr,h.lf,h.ll,h.kp,h.tx,λp hq=>h.lv p (hm p hq),λi hi=>by
   have:=h.ct i hi;rw[iO] at this⊢;have:=hc i;omega,h.gn⟩
theorem mQ.sub {Q Q':cW}(h:mQ st Q)(hs:Q'.Sublist Q):mQ st Q':=h.less (λp hp=>hs.subset hp) (λi=>hs.countP_le)
theorem lg {p:Nat->Bool}:∀{n i k:Nat},nM p n i=some k->i<=k/\k<i+n/\p k=true
 |0,i,k,h=>by cases h
 |n+1,i,k,h=>by
  unfold nM at h;split at h
  .rename_i hp;cases h;exact⟨ag,ag,hp⟩
  .obtain⟨h1,h2,h3⟩:=lg h;exact⟨ag,ag,h3⟩
theorem j4 {α:Type}(l:List α)(i j:Nat)(x d:α):(l.set i x).getD j d=if i=j/\j<l.length then x else l.getD j d:=by
 rw[aR,aR,List.getElem?_set];by_cases h:i=j
 .subst h;by_cases h2:i<l.length
  .simp[h2]
  .simp[h2]
 .simp[h]
theorem D7 {i dg level:Int}(h:sk i dg level s=some p):p=⟨i,dg,s.length,sumOf s,level⟩/\1<=s.length/\s.length<=128/\bw p=true:=by
 unfold sk at h;simp only at h;split at h
 .cases h
 .split at h
  .cases h
  .rename_i h1 h2;cases h
   simp[IT] at h1;exact⟨rfl,oD.2 h1.1,h1.2,by simpa using h2⟩
theorem Jh {i:Nat}(h:ou st s level=some i):8<=i/\i<64/\(st.er.getD i []=s\/st.aX.getD i 0=0):=by
 unfold ou at h;split at h
 .rename_i k hk;cases h
  split at hk
  .obtain⟨h1,h2,h3⟩:=lg hk;simp only[yI,bU,bQ] at h3;exact⟨h1,ag,.inl h3.1.1⟩
  .cases hk
 .obtain⟨h1,h2,h3⟩:=lg h;exact⟨h1,ag,.inr (by simpa using h3)⟩
theorem L1 {Q:cW}(h:mQ st Q)(hw:bf st s level=some (cQ,p)):
  mQ cQ (p::Q)/\dM st cQ Q/\gk cQ p=s/\p.level=level/\p.dg=st.fC/\cQ.cI=st.cI:=by
 unfold bf at hw;split at hw
 .cases hw
 .rename_i i hi;obtain⟨i1,i2,i3⟩:=Jh hi;split at hw
  .cases hw
  .rename_i q hq;obtain⟨q1,q2,q3,q4⟩:=D7 hq;cases hw
   have yR:p.row.toNat=i:=by rw[q1];simp
   have hnh:aI p=false:=by
    rw[q1];simp[aI,bq];omega
   have UL:∀q:jt,q∈Q->gk {st with er:=st.er.set i s,aX:=st.aX.set i (st.aX.getD i 0+1),dm:=st.dm.set i st.fC} q=gk st q:=by
    intro r hr;unfold gk;rw[j4];split
    .rename_i hc;rcases i3 with i3|i3
     .rw[<-hc.1,i3]
     .have h1:=h.ct i i2;rw[i3,iO] at h1;have h2:=D6 (i:=i) (Q:=Q) ag r hr;exact absurd hc.1.symm h2
    .rfl
   have hme:gk {st with er:=st.er.set i s,aX:=st.aX.set i (st.aX.getD i 0+1),dm:=st.dm.set i st.fC} p=s:=by
    unfold gk;rw[j4,yR,if_pos ⟨rfl,by rw[h.lr];exact i2⟩]
   refine⟨⟨by simp[h.lr],by simp[h.lf],by simp[h.ll],h.kp,h.tx,?_,?_,h.gn⟩,⟨rfl,UL⟩,hme,by rw[q1],by rw[q1],rfl⟩
   .intro r hr;rcases bR.1 hr with rfl|hr
    .refine⟨?_,?_⟩
     .rw[hme];simp[fits,q4,hnh];constructor<;>rw[q1]
     .rw[q1];exact yj _
    .exact(h.lv r hr).ext (Q:=Q) (UL r hr) (yj _)
   .intro j hj;have:=h.ct j hj;rw[BI,oQ,j4,yR];by_cases mR:i=j
    .subst mR;rw[if_pos rfl,if_pos ⟨rfl,by rw[h.lf];exact i2⟩];show((zT i (Q++st.cI)+1:Nat):Int)<=_;omega
    .rw[if_neg mR,if_neg (by rintro⟨h,_⟩;exact mR h)];show((zT j (Q++st.cI)+0:Nat):Int)<=_;omega
theorem aa4 {Q:cW}(h:mQ st (p::Q)):mQ (drop st p.row) Q/\dM st (drop st p.row) Q:=by
 have hp:=(h.lv p (by simp)).VA;have UK:=h.ct p.row.toNat hp.2.1;rw[BI,oQ,if_pos rfl] at UK;have UL:∀q∈Q,gk (drop st p.row) q=gk st q:=by
  intro q hq;unfold drop gk;dsimp only;split
  .rename_i h0;rw[j4];split
   .rename_i hc;exfalso;rw[iO] at UK;exact D6 (i:=p.row.toNat) (Q:=Q) ag q hq hc.1.symm
   .rfl
  .rfl
 refine⟨⟨?_,?_,?_,h.kp,h.tx,λq hq=>(h.lv q (by simp[hq])).ext (Q:=Q) (UL q hq) (yj _),?_,h.gn⟩,⟨rfl,UL⟩⟩
 .unfold drop;dsimp only;split<;>simp[h.lr]
 .unfold drop;simp[h.lf]
 .unfold drop;dsimp only;split<;>simp[h.ll]
 .intro i hi;have h1:=h.ct i hi;rw[BI,oQ] at h1;show((zT i (Q++st.cI):Nat):Int)<=(st.aX.set p.row.toNat (st.aX.getD p.row.toNat 0-1)).getD i 0;rw[j4];by_cases hc:p.row.toNat=i
  .subst hc;rw[if_pos ⟨rfl,by rw[h.lf];exact hp.2.1⟩];omega
  .rw[if_neg (by rintro⟨h,_⟩;exact hc h)];rw[if_neg hc] at h1;omega
theorem QZ {Q:cW}(h:mQ st (p::Q)):mQ (free st p) Q/\dM st (free st p) Q:=by
 have hl:=h.lv p (by simp);have hr:=hl.VA;unfold free;rw[if_neg (by rw[hl.nh.1];simp),if_neg (by rw[h.kp];omega)];split
 .refine⟨⟨h.lr,h.lf,h.ll,h.kp,h.tx,λq hq=>h.lv q (by simp[hq]),λi hi=>?_,λq hq=>?_⟩,⟨rfl,λ_ _=>rfl⟩⟩
  .have:=h.ct i hi;rw[BI,oQ,iO] at this;rw[iO,iO,oQ,aa3];show((_:Nat):Int)<=st.aX.getD i 0;omega
  .rcases eX.1 hq with hq|hq
   .exact h.gn q hq
   .have:q=p:=by simpa using hq
    subst this;exact⟨hr.1,hr.2.1⟩
 .exact aa4 h
theorem AH (h:aI p=true):free st p=st:=by unfold free;rw[if_pos h]
theorem qt:∀{L:cW}{st:ar}{Q:cW},mQ st (L.filter nh++Q)->mQ (dC L st) Q/\dM st (dC L st) Q
 |[],st,Q,h=>⟨h,dM.refl _ _⟩
 |p::L,st,Q,h=>by
  cases hp:aI p with
  |true=>
   rw[tU,if_neg (by simp[nh,hp])] at h;have:=qt h;show mQ (dC L (free st p)) Q/\_;rw[show dC (p::L) st=dC L (free st p) from rfl,AH hp];exact this
  |false=>
   rw[tU,if_pos (by simp[nh,hp])] at h;obtain⟨h1,h2⟩:=QZ h;obtain⟨h3,h4⟩:=qt h1;exact⟨h3,(h2.mono (λq hq=>by simp[hq])).trans h4 (λq hq=>hq)⟩
theorem aa5 {Q:cW}(h:mQ st Q):mQ (next st) Q/\(next st).fC=st.fC+1/\∀p∈Q,gk (next st) p=gk st p:=by
 have key:∀(g:cW)(s:ar),s.er.length=64->s.aX.length=64->s.dm.length=64->s.oL=0->s.fC=st.fC->(∀p∈Q,gk s p=gk st p)->(∀p∈g,p.row.toNat<64)->(∀i:Nat,i<64->((zT i (Q++g):Nat):Int)<=s.aX.getD i 0)->
   let s':=g.foldl (λst p=>drop st p.row) s
   s'.er.length=64/\s'.aX.length=64/\s'.dm.length=64/\s'.oL=0/\s'.fC=st.fC/\(∀p∈Q,gk s' p=gk st p)/\(∀i:Nat,i<64->((zT i Q:Nat):Int)<=s'.aX.getD i 0):=by
  intro g;induction g with
  |nil=>intro s h1 h2 h3 h4 h5 h6 h7 h8;simp only[ix] at h8;exact⟨h1,h2,h3,h4,h5,h6,h8⟩
  |cons p g ih=>
   intro s h1 h2 h3 h4 h5 h6 h7 h8;have hp:=h7 p (by simp);have UK:=h8 p.row.toNat hp;rw[iO,oQ,if_pos rfl] at UK;apply ih (drop s p.row)
   .unfold drop;dsimp only;split<;>simp[h1]
   .unfold drop;simp[h2]
   .unfold drop;dsimp only;split<;>simp[h3]
   .exact h4
   .exact h5
   .intro q hq;rw[<-h6 q hq];unfold drop gk;dsimp only;split
    .rw[j4];split
     .rename_i hc;exfalso;exact D6 (i:=p.row.toNat) (Q:=Q) ag q hq hc.1.symm
     .rfl
    .rfl
   .exact λq hq=>h7 q (by simp[hq])
   .intro i hi;have h1:=h8 i hi;rw[iO,oQ] at h1;show((zT i (Q++g):Nat):Int)<=(s.aX.set p.row.toNat (s.aX.getD p.row.toNat 0-1)).getD i 0;rw[j4,iO];by_cases hc:p.row.toNat=i
    .subst hc;rw[if_pos ⟨rfl,by rw[h2];exact hp⟩];omega
    .rw[if_neg (by rintro⟨h,_⟩;exact hc h)];rw[if_neg hc] at h1;omega
 obtain⟨h1,h2,h3,h4,h5,h6,h7⟩:=key st.cI st h.lr h.lf h.ll h.kp rfl (λ_ _=>rfl) (λp hp=>(h.gn p hp).2) h.ct;have ht:(next st).fC=st.fC+1:=rfl;refine⟨⟨h1,h2,h3,h4,by rw[ht];have:=h.tx;omega,λp hp=>(h.lv p hp).ext (Q:=Q) (h6 p hp) (by rw[ht];omega),λi hi=>?_,by simp[next]⟩,rfl,h6⟩;show((zT i (Q++[]):Nat):Int)<=_;rw[ix];exact h7 i hi
end
section
variable {n:Int}{p:jt}{l k r a q:cW}{cQ:ar}{t:bX}
theorem lh (n:Nat):(c9 n).filter nh=[]:=by
 rw[List.filter_eq_nil_iff];intro p hp;rw[List.eq_of_mem_replicate hp];decide
theorem mE {n:Nat}(h:p∈c9 n):p=bq:=List.eq_of_mem_replicate h
theorem jn (n:Nat):(c9 n).length=n:=ry
theorem jM:bw bq=true:=by decide
theorem XA:nh p=true↔aI p=false:=by simp[nh]
theorem dx:p∈l.filter nh↔p∈l/\aI p=false:=by rw[qR,XA]
theorem iP {st:ar}{level:Int}(h:below st p level=some k):
  k.length=4/\(∀q∈k,bw q=true)/\((aI p=true/\k=c9 4)\/(aI p=false/\p.level=level/\p.dg<=st.fC/\fits p (gk st p)=true/\kn (gk st p)=some k/\∀q∈k,q.dg<=p.dg)):=by
 unfold below at h;split at h
 .rename_i hp;cases h
  exact⟨jn 4,λq hq=>by rw[mE hq];exact jM,.inl ⟨hp,rfl⟩⟩
 .rename_i hp;split at h
  .cases h
  .rename_i hh;split at h
   .cases h
   .rename_i s hs;split at h
    .cases h
    .rename_i l hl;split at h
     .cases h
     .rename_i hb;cases h
      have h1:=Bq hl;unfold jW at hs;rw[if_neg hp] at hs;split at hs
      .rename_i hf;cases hs
       refine⟨h1.1,h1.2.1,.inr ⟨by simpa using hp,?_,?_,hf,hl,?_⟩⟩
       .simp at hh;omega
       .simp at hh;omega
       .simpa using hb
      .cases hs
theorem L3 {st:ar}{level:Int}(h:aI p=false)(hl:p.level=level)(hb:p.dg<=st.fC)(hf:fits p (gk st p)=true)(hg:kn (gk st p)=some k)(hk:∀q∈k,q.dg<=p.dg):below st p level=some k:=by
 have ho:bw p=true:=by simp[fits] at hf;exact hf.1.1.1
 unfold below;rw[if_neg (by simp[h]),if_neg (by simp[ho,hl];omega)];have:jW st p=some (gk st p):=by unfold jW;rw[if_neg (by simp[h]),if_pos hf]
 rw[this];simp only;rw[hg];simp only;rw[if_neg];simpa using hk
theorem oc {st:ar}{level:Int}(h:aI p=true):below st p level=some (c9 4):=by unfold below;rw[if_pos h]
theorem sC {st cQ:ar}{level:Int}(h:below st p level=some k)(hr:aI p=false->gk cQ p=gk st p)(ht:st.fC<=cQ.fC):below cQ p level=some k:=by
 obtain⟨_,_,⟨h1,rfl⟩|⟨h1,h2,h3,h4,h5,h6⟩⟩:=iP h
 .exact oc h1
 .exact L3 h1 h2 ag (by rw[hr h1];exact h4) (by rw[hr h1];exact h5) h6
theorem L4 (st:ar)(n:Int):down st n []=some []:=rfl
theorem pN {st:ar}(h:below st p n=some k)(h2:down st n l=some r):down st n (p::l)=some (k++r):=by
 unfold down at h2⊢;rw[Fo,h];cases hm:l.mapM λp=>below st p n with
 |none=>rw[hm] at h2;cases h2
 |some w=>rw[hm] at h2;cases h2;rfl
theorem gh {st:ar}(h:down st n (p::l)=some r):∃k r',below st p n=some k/\down st n l=some r'/\r=k++r':=by
 unfold down at h⊢;rw[Fo] at h;cases hb:below st p n with
 |none=>rw[hb] at h;cases h
 |some k=>
  cases hm:l.mapM λp=>below st p n with
  |none=>rw[hb,hm] at h;cases h
  |some w=>rw[hb,hm] at h;cases h;exact⟨k,_,rfl,rfl,rfl⟩
theorem D8 {st:ar}:∀{l l2 r r2:cW},down st n l=some r->down st n l2=some r2->down st n (l++l2)=some (r++r2)
 |[],l2,r,r2,h,h2=>by cases h;exact h2
 |p::l,l2,r,r2,h,h2=>by
  obtain⟨k,r',h3,h4,rfl⟩:=gh h;rw[BI,kG];exact pN h3 (D8 h4 h2)
theorem D9 {st:ar}:∀{l l2 r:cW},down st n (l++l2)=some r->∃r1 r2,down st n l=some r1/\down st n l2=some r2/\r=r1++r2
 |[],l2,r,h=>⟨[],r,rfl,h,rfl⟩
 |p::l,l2,r,h=>by
  obtain⟨k,r',h3,h4,rfl⟩:=gh h;obtain⟨r1,r2,h5,h6,rfl⟩:=D9 h4;exact⟨k++r1,r2,pN h3 h5,h6,by simp⟩
theorem xF (st:ar)(n:Int):∀m:Nat,down st n (c9 m)=some (c9 (4*m))
 |0=>rfl
 |m+1=>by
  have:=pN (oc (st:=st) (level:=n) lG) (xF st n m);rw[show c9 (m+1)=bq::c9 m from rfl,this]
  congr 1
theorem ze {st:ar}:∀{l r:cW},down st n l=some r->r.length=4*l.length/\∀q∈r,bw q=true
 |[],r,h=>by cases h;simp
 |p::l,r,h=>by
  obtain⟨k,r',h3,h4,rfl⟩:=gh h;obtain⟨h5,h6⟩:=ze h4;obtain⟨h7,h8,_⟩:=iP h3;refine⟨by simp[h5,h7];omega,λq hq=>?_⟩;rcases eX.1 hq with hq|hq
  .exact h8 q hq
  .exact h6 q hq
theorem Ea {st cQ:ar}:∀{l r:cW},down st n l=some r->(∀p∈l.filter nh,gk cQ p=gk st p)->st.fC<=cQ.fC->down cQ n l=some r
 |[],r,h,_,_=>h
 |p::l,r,h,hr,ht=>by
  obtain⟨k,r',h3,h4,rfl⟩:=gh h;refine pN (sC h3 (λhp=>hr p (dx.2 ⟨by simp,hp⟩)) ht) (Ea h4 (λq hq=>hr q ?_) ht);rw[dx] at hq⊢;exact⟨by simp[hq.1],hq.2⟩
theorem zf {st:ar}:∀{l r:cW},down st n l=some r->∀p∈l,(below st p n).isSome=true
 |[],r,h=>by simp
 |p::l,r,h=>by
  obtain⟨k,r',h3,h4,rfl⟩:=gh h;intro q hq;rcases bR.1 hq with rfl|hq
  .rw[h3];rfl
  .exact zf h4 q hq
def pE (st:ar):Nat->cW->Option (cW×cW)
 |0,l=>some (l,[])
 |n+1,l=>match down st (n+1:Nat) l with
  |none=>none
  |some l'=>match pE st n l' with
   |none=>none
   |some (a,q)=>some (a,l.filter nh++q)
theorem rl (st:ar):∀(n:Nat)(l:cW),gO.go st n l=(pE st n l).map (·.1)
 |0,l=>rfl
 |n+1,l=>by
  rw[gO.go,pE];cases down st (n+1:Nat) l with
  |none=>rfl
  |some l'=>
   simp only;rw[rl st n l'];cases pE st n l' with
   |none=>rfl
   |some r=>rfl
theorem gA {st:ar}{n:Nat}(h:pE st (n+1) l=some (a,q)):∃l' q',down st (n+1:Nat) l=some l'/\pE st n l'=some (a,q')/\q=l.filter nh++q':=by
 rw[pE] at h;cases hd:down st (n+1:Nat) l with
 |none=>rw[hd] at h;cases h
 |some l'=>
  rw[hd] at h;simp only at h;cases hl:pE st n l' with
  |none=>rw[hl] at h;cases h
  |some r=>
   rw[hl] at h;cases h
   exact⟨l',r.2,rfl,hl,rfl⟩
theorem tG {st:ar}{n:Nat}{l l' a q':cW}(h:down st (n+1:Nat) l=some l')(h2:pE st n l'=some (a,q')):pE st (n+1) l=some (a,l.filter nh++q'):=by
 rw[pE,h];simp only;rw[h2]
theorem Eb {st cQ:ar}:∀{n:Nat}{l a q:cW},pE st n l=some (a,q)->(∀p∈q,gk cQ p=gk st p)->st.fC<=cQ.fC->pE cQ n l=some (a,q)
 |0,l,a,q,h,_,_=>h
 |n+1,l,a,q,h,hr,ht=>by
  obtain⟨l',q',h1,h2,rfl⟩:=gA h;exact tG (Ea h1 (λp hp=>hr p (cP _ hp)) ht) (Eb h2 (λp hp=>hr p (dz _ hp)) ht)
theorem Ec {st:ar}:∀{n:Nat}{l a q:cW},pE st n l=some (a,q)->a.length=4^ n*l.length/\((∀p∈l,bw p=true)->∀p∈a,bw p=true)
 |0,l,a,q,h=>by cases h;simp
 |n+1,l,a,q,h=>by
  obtain⟨l',q',h1,h2,rfl⟩:=gA h;obtain⟨h3,h4⟩:=Ec h2;obtain⟨h5,h6⟩:=ze h1;refine⟨by rw[h3,h5,US,Nat.mul_assoc],λ_=>h4 h6⟩
structure qM (st:ar)(t:bX)(l q:cW):Prop where
 mn:0<=t.many/\t.many<=16
 dp:t.depth=cJ t.many
 rt:bw t.cy=true
 lv:∃a,pE st t.depth.toNat [t.cy]=some (a,q)/\l=a++c9 (16-a.length)
 hl:∀i:Nat,t.many<=i->l.getD i bq=bq
 l0:∀p∈l,aI p=false->p.level=0
def cG (l q:cW):cW:=q++l.filter nh
theorem qM.len {st:ar}(h:qM st t l q):l.length=16/\∀p∈l,bw p=true:=by
 obtain⟨a,h1,rfl⟩:=h.lv;obtain⟨h2,h3⟩:=Ec h1;have hd:=fq t.many;have:t.depth.toNat=0\/t.depth.toNat=1\/t.depth.toNat=2:=by rw[h.dp];omega
 refine⟨?_,λp hp=>?_⟩
 .rw[bJ,jn,h2];rcases this with h|h|h<;>rw[h]<;>simp
 .rcases eX.1 hp with hp|hp
  .exact h3 (by simpa using h.rt) p hp
  .rw[mE hp];exact jM
theorem qM.ext {st cQ:ar}(h:qM st t l q)(hr:∀p∈q,gk cQ p=gk st p)(ht:st.fC<=cQ.fC):qM cQ t l q:=by
 obtain⟨a,h1,h2⟩:=h.lv;exact⟨h.mn,h.dp,h.rt,⟨a,Eb h1 hr ht,h2⟩,h.hl,h.l0⟩
theorem qM.wide {st:ar}(h:qM st t l q):wide st t=l:=by
 obtain⟨a,h1,h2⟩:=h.lv;unfold Go.Pl.wide gO;rw[rl,h1,h2];rfl
theorem sD (st:ar):qM st eY (c9 16) []:=⟨by decide,by decide,by decide,⟨[bq],rfl,rfl⟩,λi _=>by
 rw[aR];by_cases hi:i<16
 .rw[bd (by rw[jn];exact hi)];exact P5 ..
 .rw[rT (by rw[jn];omega)];rfl,λp hp h=>by rw[mE hp] at h;cases h⟩
theorem qM.fG {st:ar}(h:qM st t l q):fG st t=q:=by
 obtain⟨a,h1,h2⟩:=h.lv;have hd:=fq t.many;have oR:0<=t.depth:=by rw[h.dp];exact hd.1
 have hc:t.depth.toNat=0\/t.depth.toNat=1\/t.depth.toNat=2:=by rw[h.dp];omega
 unfold Go.Pl.fG;rcases hc with hc|hc|hc<;>rw[hc] at h1
 .cases h1;rw[if_pos (.inl ag)]
 .obtain⟨l',q',h3,h4,rfl⟩:=gA h1;cases h4
  cases hr:aI t.cy with
  |true=>rw[if_pos (.inr rfl)];simp[nh,hr]
  |false=>rw[if_neg (by simp;omega),if_neg ag];simp[nh,hr]
 .obtain⟨l',q',h3,h4,rfl⟩:=gA h1;obtain⟨l2,q2,h5,h6,rfl⟩:=gA h4;cases h6
  obtain⟨k,r',h7,h8,rfl⟩:=gh h3;have hr':r'=[]:=by cases h8;rfl
  subst hr';simp only[ix] at *
  have NZ:below st t.cy 2=some k:=h7;cases hr:aI t.cy with
  |true=>
   rw[if_pos (.inr rfl)];rw[oc hr] at NZ;cases NZ
   rw[lh];simp[nh,hr]
  |false=>
   rw[if_neg (by simp;omega),if_pos ag,NZ];simp[nh,hr];rfl
theorem aeB {st cQ:ar}{Q l:cW}{level:Int}{old p:jt}(h:mQ st Q)(h4:l.length=4)(hl:∀p∈l,bw p=true/\p.dg<=st.fC)(ho:aI old=false->old∈Q/\(below st old level).isSome=true)(hf:Oi st l level old=some (cQ,p)):
  ∃new jN,[p].filter nh=new++jN/\mQ cQ (new++Q)/\dM st cQ Q/\below cQ p level=some l/\bw p=true/\p.dg<=st.fC/\(jN=[]\/(jN=[p]/\p=old))/\cQ.cI=st.cI:=by
 unfold Oi at hf;split at hf
 .rename_i ha;cases hf
  have hlh:l=c9 4:=by
   rw[<-h4];exact List.eq_replicate_iff.2 ⟨rfl,λp hp=>qp.1 (gQ.1 ha p hp)⟩
  exact⟨[],[],rfl,h,dM.refl _ _,by rw[hlh];exact oc lG,jM,by show(0:Int)<=_;have:=h.tx;omega,.inl rfl,rfl⟩
 .rename_i ha;have ha:l.all aI=false:=by simpa using ha
  have hp:=Tg h4 (λp hp=>(hl p hp).1) ha;have hg:=OY h4 (λp hp=>(hl p hp).1) ha;rw[hp] at hf;simp only[pV] at hf;split at hf
  .rename_i hc;cases hf
   simp only[bU,pU,bQ] at hc;obtain⟨⟨vy,qH⟩,Ix⟩:=hc;obtain⟨ho1,Oa⟩:=ho vy;obtain⟨k,hk⟩:=ju.1 Oa;have Fg:k=l:=by
    obtain⟨_,_,⟨h1,_⟩|⟨_,_,_,_,h5,_⟩⟩:=iP hk
    .rw[vy] at h1;cases h1
    .rw[Ix,hg] at h5;cases h5;rfl
   subst Fg;exact⟨[],[old],by simp[nh,vy],h,dM.refl _ _,hk,(h.lv old ho1).nh.2,(h.lv old ho1).2,.inr ⟨rfl,rfl⟩,rfl⟩
  .obtain⟨h1,h2,h3,h5,h6,h7⟩:=L1 h hf;have Ji:=h1.lv p (by simp);refine⟨[p],[],by simp[nh,Ji.nh.1],h1,h2,?_,Ji.nh.2,by rw[h6];exact yj _,.inl rfl,h7⟩;exact L3 Ji.nh.1 h5 Ji.2 Ji.1 (by rw[h3];exact hg) (λq hq=>by rw[h6];exact(hl q hq).2)
theorem vL {level:Int}:∀(k:Nat){L was:cW}{st cQ:ar}{Q stays xG out aa6:cW},L.length=4*k->k<=was.length->mQ st Q->(∀p∈L,bw p=true/\p.dg<=st.fC)->(∀w∈was,aI w=false->w∈Q/\(below st w level).isSome=true)->ko level L was st stays out=(cQ,some (xG,aa6))->
  ∃o new jN,aa6=out++o/\o.length=k/\(o.filter nh).Perm (new++jN)/\mQ cQ (new++Q)/\dM st cQ Q/\down cQ level o=some L/\(∀p∈o,bw p=true/\p.dg<=st.fC)/\jN.Sublist (was.filter nh)/\(∀r∈jN,r∈xG)/\(∀r∈stays,r∈xG)
 |0,L,was,st,cQ,Q,stays,xG,out,aa6,hL,hw,h,hp,ho,hg=>by
  have:L=[]:=mT ag;subst this;rw[ko] at hg
  .cases hg
   exact⟨[],[],[],by simp,rfl,.refl _,h,dM.refl _ _,rfl,by simp,List.nil_sublist _,by simp,λr hr=>hr⟩
  .intros;contradiction
 |k+1,L,was,st,cQ,Q,stays,xG,out,aa6,hL,hw,h,hp,ho,hg=>by
  match L,hL with
  |a::b::c::d::L,hL=>
  match was,hw with
  |w::was,hw=>
  rw[ko] at hg;simp only[List.headD_cons,List.tail_cons] at hg;split at hg
  .cases hg
  .rename_i st1 p hf;have hp4:∀x∈[a,b,c,d],bw x=true/\x.dg<=st.fC:=λx hx=>hp x (by simp at hx⊢;rcases hx with rfl|rfl|rfl|rfl<;>simp)
   obtain⟨n1,r1,f1,f2,f3,f4,f5,f6,f7,_⟩:=aeB h rfl hp4 (ho w (by simp)) hf;have ht1:st1.fC=st.fC:=f3.tx;obtain⟨o,new,jN,g1,g2,g3,g4,g5,g6,g7,g8,g9,g10⟩:=vL k (by simp at hL;omega) (by simp at hw;omega) f2 (λx hx=>by rw[ht1];exact hp x (by simp[hx])) (λx hx hh=>by
    obtain⟨h1,h2⟩:=ho x (by simp[hx]) hh;obtain⟨y,hy⟩:=ju.1 h2;exact⟨by simp[h1],by rw[sC hy (λ_=>f3.row x h1) ag];rfl⟩) hg
   have ah8:(∀r∈stays,r∈xG)/\(p=w->p∈xG):=by
    refine⟨λr hr=>g10 r ?_,λhpw=>g10 p ?_⟩
    .by_cases hpw:p=w<;>simp[hpw,hr]
    .simp[hpw]
   refine⟨p::o,new++n1,r1++jN,by rw[g1];simp,by simp[g2],?_,by rw[kG];exact g4,f3.trans g5 (λx hx=>by simp[hx]),?_,?_,?_,?_,?_⟩
   .have:(p::o).filter nh=[p].filter nh++o.filter nh:=by rw[<-pW];rfl
    rw[this,f1];refine(pj _ g3).trans ?_;simp only[kG];refine(oE _ _ _).trans ?_;refine(oE _ _ _).trans ?_;refine(pj _ (oE _ _ _)).trans ?_;exact oE _ _ _
   .refine pN (sC f4 (λhh=>g5.row p ?_) (by rw[g5.tx];omega)) g6;have:p∈[p].filter nh:=by simp[nh,hh]
    rw[f1] at this;rcases eX.1 this with hm|hm
    .exact cP _ hm
    .rcases f7 with f7|⟨f7,f8⟩
     .rw[f7] at hm;cases hm
     .subst f8;exact dz _ (ho p (by simp) hh).1
   .intro x hx;rcases bR.1 hx with rfl|hx
    .exact⟨f5,f6⟩
    .rw[<-ht1];exact g7 x hx
   .rcases f7 with f7|⟨f7,f8⟩
    .rw[f7,pT];exact g8.trans (List.Sublist.filter _ (List.sublist_cons_self _ _))
    .subst f8;have hpn:nh p=true:=by
      rw[f7] at f1;have:p∈[p].filter nh:=by rw[f1];simp
      exact(qR.1 this).2
     rw[f7,tU,if_pos hpn];exact g8.cons_cons _
   .intro r hr;rcases eX.1 hr with hr|hr
    .rcases f7 with f7|⟨f7,f8⟩
     .rw[f7] at hr;cases hr
     .rw[f7] at hr;have:r=p:=by simpa using hr
      subst this;exact ah8.2 f8
    .exact g9 r hr
   .exact ah8.1
end
section
variable {l q R:cW}{st cQ:ar}{t:bX}{many:Int}
theorem xH (l:cW):∃k,(eZ l).length=4*k/\4*k<l.length+4/\l.length<=4*k:=by
 unfold eZ;rw[bJ,jn];refine⟨(l.length+3)/ 4,?_,?_,?_⟩<;>omega
theorem xI {p:jt}(h:p∈eZ l):p∈l\/p=bq:=by
 rcases eX.1 h with h|h
 .exact .inl h
 .exact .inr (mE h)
theorem Ti (l:cW):(eZ l).filter nh=l.filter nh:=by
 unfold eZ;rw[pW,lh,ix]
theorem XB (h:qM st t l q)(depth:Int)(hd:depth=1\/depth=2):
  ∃w1 w2:cW,(depth=1->iT st t depth 1=w1/\w2=[]/\1<=w1.length)/\(depth=2->iT st t depth 1=w1/\iT st t depth 2=w2/\4<=w1.length/\1<=w2.length)/\
   (∀w∈w1,aI w=false->(below st w 1).isSome=true)/\(∀w∈w2,aI w=false->(below st w 2).isSome=true)/\(w2.filter nh++w1.filter nh).Sublist q:=by
 obtain⟨a,h1,h2⟩:=h.lv;have hdd:=fq t.many;have hh:∀w∈c9 4,aI w=false->False:=λw hw h=>by rw[mE hw] at h;cases h
 by_cases fK:t.depth=depth
 .rcases hd with hd|hd
  .have hc:t.depth.toNat=1:=by rw[fK,hd];rfl
   rw[hc] at h1;obtain⟨l',q',h3,h4,rfl⟩:=gA h1;cases h4
   refine⟨[t.cy],[],λ_=>⟨?_,rfl,by simp⟩,λh=>by omega,λw hw _=>zf h3 w hw,by simp,by simp⟩;unfold iT;rw[if_neg ag,if_pos ag]
  .have hc:t.depth.toNat=2:=by rw[fK,hd];rfl
   rw[hc] at h1;obtain⟨l',q',h3,h4,rfl⟩:=gA h1;obtain⟨l2,q2,h5,h6,rfl⟩:=gA h4;cases h6
   obtain⟨k,r',h7,h8,rfl⟩:=gh h3;have hr':r'=[]:=by cases h8;rfl
   subst hr';simp only[ix] at *
   have NZ:below st t.cy 2=some k:=h7;have hk:=(iP NZ).1;refine⟨k,[t.cy],λh=>by omega,λ_=>⟨?_,?_,ag,by simp⟩,λw hw _=>zf h5 w hw,λw hw _=>by simp at hw;subst hw;rw[NZ];rfl,F4 _⟩
   .unfold iT;rw[if_neg ag,if_neg ag,hd,NZ];rfl
   .unfold iT;rw[if_neg ag,if_pos ag]
 .rcases hd with hd|hd
  .refine⟨c9 4,[],λ_=>⟨?_,rfl,by decide⟩,λh=>by omega,λw hw hx=>(hh w hw hx).elim,by simp,by rw[lh];simp⟩;unfold iT;rw[if_pos fK]
  .refine⟨c9 4,c9 4,λh=>by omega,λ_=>⟨?_,?_,by decide,by decide⟩,λw hw hx=>(hh w hw hx).elim,λw hw hx=>(hh w hw hx).elim,by rw[lh];simp⟩
   .unfold iT;rw[if_pos fK]
   .unfold iT;rw[if_pos fK]
theorem Tj (h:qM st t l q)(hr:∀p∈q,gk cQ p=gk st p)(ht:st.fC<=cQ.fC)(hd:t.depth=2->(t.cy∈q\/aI t.cy=true))(depth level:Int)(hdp:depth=2):iT cQ t depth level=iT st t depth level:=by
 unfold iT;split
 .rfl
 .split
  .rfl
  .rename_i fK _;obtain⟨a,h1,h2⟩:=h.lv;have hc:t.depth.toNat=2:=by omega
   rw[hc] at h1;obtain⟨l',q',h3,h4,rfl⟩:=gA h1;obtain⟨k,r',h7,h8,rfl⟩:=gh h3;have NZ:below st t.cy 2=some k:=h7;rw[hdp,NZ,sC NZ (λhh=>hr _ ?_) ht];rcases hd ag with hd|hd
   .exact hd
   .rw[hh] at hd;cases hd
theorem XC (h:qM st t l q)(hd:t.depth=2):t.cy∈q\/aI t.cy=true:=by
 obtain⟨a,h1,h2⟩:=h.lv;have hc:t.depth.toNat=2:=by omega
 rw[hc] at h1;obtain⟨l',q',h3,h4,rfl⟩:=gA h1;cases hr:aI t.cy with
 |true=>exact .inr rfl
 |false=>left;apply cP;simp[nh,hr]
theorem Tk {st st1:ar}{l q R lt l1 stays:cW}(h:qM st t l q)(hs:mQ st (q++R))(hm:0<=many/\many<=16)(du:lt.length=many.toNat)(hp:∀p∈lt,bw p=true/\p.dg<=st.fC)
  (hl:iy t (cJ many) (cJ many).toNat 1 lt st []=(st1,some (stays,l1))):
  ∃a new jN q',mQ st1 (new++(q++R))/\dM st st1 (q++R)/\pE st1 (cJ many).toNat [l1.headD bq]=some (a,q')/\a++c9 (16-a.length)=lt++c9 (16-many.toNat)/\q'.Perm (new++jN)/\jN.Sublist q/\(∀r∈jN,r∈stays)/\bw (l1.headD bq)=true:=by
 by_cases h1:many<=1
 .have hd:cJ many=0:=by unfold cJ;rw[if_pos h1]
  rw[hd] at hl⊢;cases hl
  refine⟨[lt.headD bq],[],[],[],hs,dM.refl _ _,rfl,?_,.refl _,List.nil_sublist _,by simp,?_⟩
  .match lt,du with
   |[],du=>rw[show many.toNat=0 from du.symm];rfl
   |[x],du=>rw[show many.toNat=1 from du.symm];rfl
   |x::y::z,du=>simp at du;omega
  .cases lt with
   |nil=>exact jM
   |cons x z=>exact(hp x (by simp)).1
 .by_cases h4:many<=4
  .have hd:cJ many=1:=by unfold cJ;rw[if_neg h1,if_pos h4]
   rw[hd] at hl⊢;obtain⟨w1,w2,hw,_,BQ,_,jg⟩:=XB h 1 (.inl rfl);obtain⟨ND,rfl,hw3⟩:=hw rfl;simp only[List.filter_nil,pT] at jg;have jG:iy t 1 (0+1) 1 lt st []=(st1,some (stays,l1)):=hl;rw[iy,ND] at jG;obtain⟨k,x8,yH,hk3⟩:=xH lt;have hk:k=1:=by omega
   subst hk;split at jG
   .cases jG
   .rename_i stx aeC lx hg;rw[iy] at jG;cases jG
    have aaf:∀w∈w1,aI w=false->w∈q++R/\(below st w 1).isSome=true:=λw hw hh=>⟨cP _ (jg.subset (dx.2 ⟨hw,hh⟩)),BQ w hw hh⟩
    obtain⟨o,new,jN,g1,g2,g3,g4,g5,g6,g7,g8,g9,g10⟩:=vL 1 x8 hw3 hs (λp pJ=>by
     rcases xI pJ with pJ|rfl
     .exact hp p pJ
     .exact⟨jM,by show(0:Int)<=_;have:=hs.tx;omega⟩) aaf hg
    match o,g2 with
    |[p],_=>
    rw[g1];refine⟨eZ lt,new,jN,[p].filter nh++[],g4,g5,tG g6 rfl,?_,by rw[ix];exact g3,g8.trans jg,g9,(g7 p (by simp)).1⟩;rw[x8];unfold eZ;rw[kG]
    congr 1
    simp only[c9,UZ]
    congr 1
    have:(eZ lt).length=lt.length+(4-lt.length% 4)% 4:=by unfold eZ;rw[bJ,jn]
    omega
  .have hd:cJ many=2:=by unfold cJ;rw[if_neg h1,if_neg h4]
   rw[hd] at hl⊢;obtain⟨w1,w2,_,hw,BQ,KN,jg⟩:=XB h 2 (.inr rfl);obtain⟨ND,R1,hw3,hw4⟩:=hw rfl;have jG:iy t 2 (0+1+1) 1 lt st []=(st1,some (stays,l1)):=hl;rw[iy,ND] at jG;obtain⟨k,x8,yH,hk3⟩:=xH lt;split at jG
   .cases jG
   .rename_i stx aeC lx hg;have XD:∀w∈w1,aI w=false->w∈q:=λw hw hh=>jg.subset (dz _ (dx.2 ⟨hw,hh⟩))
    have ZA:∀w∈w2,aI w=false->w∈q:=λw hw hh=>jg.subset (cP _ (dx.2 ⟨hw,hh⟩))
    obtain⟨o,new,jN,g1,g2,g3,g4,g5,g6,g7,g8,g9,g10⟩:=vL k x8 ag hs (λp pJ=>by
     rcases xI pJ with pJ|rfl
     .exact hp p pJ
     .exact⟨jM,by show(0:Int)<=_;have:=hs.tx;omega⟩) (λw hw hh=>⟨cP _ (XD w hw hh),BQ w hw hh⟩) hg
    rw[pT] at g1;subst g1;have ah9:∀p∈q,gk stx p=gk st p:=λp hp=>g5.row p (cP _ hp)
    rw[iy,show(1:Int)+1=2 from rfl,Tj h ah9 (by rw[g5.tx];omega) (XC h) 2 2 rfl,R1] at jG;obtain⟨k2,hk4,hk5,hk6⟩:=xH lx;have hk:k2=1:=by omega
    subst hk;split at jG
    .cases jG
    .rename_i sty ak7 ly Cb;rw[iy] at jG;cases jG
     obtain⟨o2,adC,aa7,e1,e2,e3,e4,e5,e6,e7,e8,e9,e10⟩:=vL 1 hk4 hw4 g4 (λp pJ=>by
      rw[g5.tx];rcases xI pJ with pJ|rfl
      .exact g7 p pJ
      .exact⟨jM,by show(0:Int)<=_;have:=hs.tx;omega⟩) (λw hw hh=>by
       refine⟨dz _ (cP _ (ZA w hw hh)),?_⟩;obtain⟨y,hy⟩:=ju.1 (KN w hw hh);rw[sC hy (λ_=>ah9 w (ZA w hw hh)) (by rw[g5.tx];omega)];rfl) Cb
     match o2,e2 with
     |[p],_=>
     rw[e1];have hx6:down st1 1 (eZ lx)=some (eZ lt++c9 (4*((4-lx.length% 4)% 4))):=by
      unfold eZ;refine D8 (Ea g6 (λr hr=>e5.row r ?_) (by rw[e5.tx];omega)) (xF _ _ _);rw[g3.mem_iff] at hr;rcases eX.1 hr with hr|hr
      .exact cP _ hr
      .exact dz _ (cP _ (jg.subset (dz _ (g8.subset hr))))
     refine⟨_,adC++new,aa7++jN,[p].filter nh++((eZ lx).filter nh++[]),?_,g5.trans e5 (λx hx=>dz _ hx),tG e6 (tG hx6 rfl),?_,?_,?_,?_,(e7 p (by simp)).1⟩
     .rw[kG];exact e4
     .have hlx:(eZ lt).length=lt.length+(4-lt.length% 4)% 4:=by unfold eZ;rw[bJ,jn]
      rw[bJ,jn,x8];unfold eZ;rw[kG,kG]
      congr 1
      simp only[c9,UZ]
      congr 1
      omega
     .rw[ix,Ti];refine(List.Perm.append e3 g3).trans ?_;simp only[kG];refine pj _ ?_;exact oE _ _ _
     .exact(Kf e8 g8).trans jg
     .intro r hr;rcases eX.1 hr with hr|hr
      .exact e9 r hr
      .exact e10 r (g9 r hr)
theorem OZ (i:Nat)(f:jt->Bool)(q:cW):zT i (q.filter f)+zT i (q.filter λp=>!f p)=zT i q:=by
 induction q with
 |nil=>rfl
 |cons p q ih=>
  rw[tU,tU];cases hf:f p<;>simp[oQ]<;>omega
theorem O0 {a b:cW}{f:jt->Bool}(h:a.Sublist b)(hf:∀x∈a,f x=true):a.Sublist (b.filter f):=by
 have:=h.filter f;rw[CI.2 hf] at this;exact this
theorem XE {t t':bX}{l q R lv:cW}(h:qM st t l q)(hs:mQ st (q++R))(c8:lv.length=16)(hm:0<=many/\many<=16)(hp:∀p∈lv,bw p=true/\p.dg<=st.fC/\(aI p=false->p.level=0))(hl:gY st t lv many=(cQ,some t')):
  ∃q',qM cQ t' (lv.take many.toNat++c9 (16-many.toNat)) q'/\mQ cQ (q'++R)/\dM st cQ R/\t'.many=many:=by
 unfold gY at hl;simp only at hl;split at hl
 .cases hl
 .rename_i st1 stays l1 Ji;cases hl
  obtain⟨a,new,jN,q',k1,k2,k3,k4,k5,k6,k7,k8⟩:=Tk h hs hm (by rw[cZ,c8];omega) (λp pJ=>⟨(hp p (NP pJ)).1,(hp p (NP pJ)).2.1⟩) Ji;rw[h.fG];have hf:mQ st1 ((q.filter λp=>!(stays.contains p)).filter nh++(q'++R)):=by
   have h1:mQ st1 ((q.filter λp=>!(stays.contains p))++(q'++R)):=by
    refine k1.less (λp pJ=>?_) (λi=>?_)
    .simp only[eX,qR] at pJ⊢;rcases pJ with⟨pJ,_⟩|pJ|pJ
     .exact .inr (.inl pJ)
     .rcases eX.1 (k5.mem_iff.1 pJ) with pJ|pJ
      .exact .inl pJ
      .exact .inr (.inl (k6.subset pJ))
     .exact .inr (.inr pJ)
    .have e1:=LZ (i:=i) k5;have e2:zT i jN<=zT i (q.filter λp=>stays.contains p):=(O0 k6 (λx hx=>by simpa using k7 x hx)).countP_le;have e3:=OZ i (λp=>stays.contains p) q;simp only[iO] at e1⊢;omega
   exact h1.sub (Kf AX (F4 _))
  obtain⟨f1,f2⟩:=qt hf;refine⟨q',⟨hm,rfl,k8,⟨a,Eb k3 (λp pJ=>f2.row p (cP _ pJ)) (by rw[f2.tx];omega),k4.symm⟩,λi hi=>?_,λp pJ hh=>?_⟩,f1,?_,rfl⟩
  .have hi:many<=(i:Int):=hi;rw[aR,zY (by rw[cZ,c8];omega)];by_cases hb:i-(lv.take many.toNat).length<(c9 (16-many.toNat)).length
   .rw[bd hb];exact P5 ..
   .rw[rT ag];rfl
  .rcases eX.1 pJ with pJ|pJ
   .exact(hp p (NP pJ)).2.2 hh
   .rw[mE pJ] at hh;cases hh
  .exact(k2.mono (λp pJ=>dz _ pJ)).trans f2 (λp pJ=>dz _ pJ)
end
section
variable {st cQ:ar}{p:jt}{t t':bX}{q:cW}
theorem lH (h:aI p=true):aW st p=[]:=by unfold aW jW;rw[if_pos h];rfl
theorem Tl (h:Live st p):aW st p=gk st p:=by
 unfold aW jW;rw[if_neg (by rw[h.nh.1];simp),if_pos h.1];rfl
theorem nk (hr:aI p=false->gk cQ p=gk st p):aW cQ p=aW st p:=by
 cases h:aI p with
 |true=>rw[lH h,lH h]
 |false=>
  unfold aW jW;rw[hr h]
theorem Hj {l:cW}{k:Nat}(h:k<l.length)(p:jt):l=l.take k++l.getD k bq::l.drop (k+1)/\l.set k p=l.take k++p::l.drop (k+1):=by
 have:l.getD k bq=l[k]:=by rw[aR,bd h];rfl
 refine⟨?_,?_⟩
 .rw[this];simp
 .rw[List.set_eq_take_append_cons_drop,if_pos h]
theorem set_perm {l:cW}{k:Nat}(h:k<l.length)(p:jt):((l.set k p).filter nh++[l.getD k bq].filter nh).Perm ([p].filter nh++l.filter nh):=by
 obtain⟨h1,h2⟩:=Hj h p;rw[h2]
 conv=>rhs;rw[h1]
 generalize l.take k=a;generalize l.drop (k+1)=b;generalize l.getD k bq=x;have e:∀y:jt,(a++y::b).filter nh=a.filter nh++([y].filter nh++b.filter nh):=λy=>by
  show(a++([y]++b)).filter nh=_;rw[pW,pW]
 rw[e,e];generalize a.filter nh=a;generalize b.filter nh=b;generalize [x].filter nh=x;generalize [p].filter nh=p;have h1:(a++(p++b)++x).Perm (p++(a++(b++x))):=by
  simp only[kG];exact oE _ _ _
 have h2:(p++(a++(b++x))).Perm (p++(a++(x++b))):=pj _ (pj _ List.perm_append_comm);exact h1.trans h2
theorem Tn {l:cW}{many:Nat}(IA:l.length=16)(hm:many<=16)(h:∀i:Nat,many<=i->l.getD i bq=bq):l.take many++c9 (16-many)=l:=by
 apply UU;intro i;by_cases hi:i<many
 .rw[wZ (by rw[cZ];omega),U0 hi]
 .rw[zY (by rw[cZ];omega),cZ,IA,BL hm];by_cases h2:i<16
  .have:=h i ag;rw[aR,bd ag] at this;rw[bd (by rw[jn];omega),bd ag];simp only[pV] at this;rw[this]
   congr 1
   exact P5 ..
  .rw[rT (by rw[jn];omega),rT ag]
theorem ue (l:cW)(m n j:Nat):(l.take m++c9 n).getD j bq=if j<m then l.getD j bq else bq:=by
 rw[aR];by_cases h:j<(l.take m).length
 .rw[wZ h,U0 (by rw[cZ] at h;omega),if_pos (by rw[cZ] at h;omega),aR]
 .rw[zY ag];have hh:(c9 n)[j-(l.take m).length]?.getD bq=bq:=by
   by_cases h2:j-(l.take m).length<(c9 n).length
   .rw[bd h2];exact P5 ..
   .rw[rT ag];rfl
  rw[hh];split
  .rw[cZ] at h;rw[aR,rT ag];rfl
  .rfl
theorem jA {l:cW}{j:Nat}(h:aI (l.getD j bq)=false):l.getD j bq∈l:=by
 rw[aR] at h⊢;by_cases hj:j<l.length
 .rw[bd hj];exact qS _
 .rw[rT ag] at h;cases h
def aa8 (st cQ:ar)(t t':bX)(l R:cW)(k:Nat)(s:aA):Prop:=
 ∃l' q',qM cQ t' l' q'/\mQ cQ (cG l' q'++R)/\dM st cQ R/\t'.many=max t.many ((k:Int)+1)/\∀j:Nat,aW cQ (l'.getD j bq)=if j=k then s else aW st (l.getD j bq)
theorem zg {l q R:cW}{k:Nat}{s:aA}(h:qM st t l q)(hs:mQ st (cG l q++R))(hk:k<16)(hp:nH st t k s=(cQ,t',true)):aa8 st cQ t t' l R k s:=by
 unfold nH at hp;simp only[h.wide] at hp;obtain⟨c8,hlo⟩:=h.len;have x9:=h.mn;have XF:∀p∈l,p.dg<=st.fC:=λp hp=>by
  cases hh:aI p with
  |true=>rw[qp.1 hh];show(0:Int)<=_;have:=hs.tx;omega
  |false=>exact(hs.lv p (by simp only[cG,eX];exact .inl (.inr (dx.2 ⟨hp,hh⟩)))).2
 split at hp
 .rename_i hc;cases hp
  refine⟨l,q,h,hs,dM.refl _ _,ag,λj=>?_⟩;split
  .rename_i hj;rw[hj];exact hc.1
  .rfl
 .rename_i hc;split at hp
  .cases hp
  .rename_i x st1 p dK;split at hp
   .cases hp
   .rename_i y eL t2 pe;cases hp
    have aeD:∀j,(l.set k p).getD j bq=if j=k then p else l.getD j bq:=λj=>by
     rw[j4,c8];by_cases hj:k=j
     .subst hj;rw[if_pos ⟨rfl,hk⟩,if_pos rfl]
     .rw[if_neg (by rintro⟨h,_⟩;exact hj h),if_neg (λh=>hj h.symm)]
    have XG:(l.set k p).length=16:=by rw[gE];exact c8
    have hw:mQ st1 ([p].filter nh++(cG l q++R))/\dM st st1 (cG l q++R)/\(bw p=true/\p.dg<=st.fC/\(aI p=false->p.level=0))/\aW st1 p=s:=by
     split at dK
     .rename_i hws;cases dK
      have rD:aI (l.getD k bq)=false->(l.getD k bq)∈l:=jA;have ho:bw (l.getD k bq)=true/\(l.getD k bq).dg<=st.fC/\(aI (l.getD k bq)=false->(l.getD k bq).level=0):=by
       cases hh:aI (l.getD k bq) with
       |true=>rw[qp.1 hh];exact⟨jM,by show(0:Int)<=_;have:=hs.tx;omega,by simp⟩
       |false=>exact⟨hlo _ (rD hh),XF _ (rD hh),λ_=>h.l0 _ (rD hh) hh⟩
      have hmt:max t.many ((k:Int)+1)≠t.many:=λh=>hc ⟨hws,h⟩
      have hkh:l.getD k bq=bq:=h.hl k ag;refine⟨?_,dM.refl _ _,ho,hws⟩;rw[hkh];exact hs
     .unfold IU at dK;split at dK
      .rename_i Q0;cases dK
       exact⟨hs,dM.refl _ _,⟨jM,by show(0:Int)<=_;have:=hs.tx;omega,by intro h;cases h⟩,by rw[lH lG,Q0]⟩
      .obtain⟨w1,w2,w3,w4,w5,_⟩:=L1 hs dK;have Ji:=w1.lv p (by simp);have hpn:[p].filter nh=[p]:=by simp[nh,Ji.nh.1]
       rw[hpn];exact⟨w1,w2,⟨Ji.nh.2,by rw[w5];exact yj _,λ_=>w4⟩,by rw[Tl Ji,w3]⟩
    obtain⟨ND,R1,hw3,hw4⟩:=hw;have Br:st1.fC=st.fC:=R1.tx;have hT1:qM st1 t l q:=h.ext (λr hr=>R1.row r (by simp[cG,hr])) (by rw[Br];omega);have hS1:mQ st1 (q++([p].filter nh++(l.filter nh++R))):=ND.cR (by
     simp only[cG,kG];exact oE _ _ _)
    have hmx:0<=max t.many ((k:Int)+1)/\max t.many ((k:Int)+1)<=16:=by omega
    obtain⟨q',k1,k2,k3,k4⟩:=XE hT1 hS1 XG hmx (λr hr=>by
     rw[Br];rcases Gc hr with hr|rfl
     .exact⟨hlo r hr,XF r hr,h.l0 r hr⟩
     .exact hw3) pe
    have jG:(l.set k p).take (max t.many ((k:Int)+1)).toNat++c9 (16-(max t.many ((k:Int)+1)).toNat)=l.set k p:=by
     apply Tn XG ag;intro i hi;rw[aeD,if_neg ag];exact h.hl i ag
    rw[jG] at k1;have aia:=set_perm (l:=l) (k:=k) ag p;have key:mQ (if p=l.getD k bq then eL else free eL (l.getD k bq)) (cG (l.set k p) q'++R)/\dM eL (if p=l.getD k bq then eL else free eL (l.getD k bq)) (cG (l.set k p) q'++R):=by
     have To:mQ eL ([l.getD k bq].filter nh++(cG (l.set k p) q'++R)):=k2.cR (by
      have e1:(q'++([p].filter nh++(l.filter nh++R))).Perm (q'++(((l.set k p).filter nh++[l.getD k bq].filter nh)++R)):=by
       rw[<-kG ([p].filter nh)];exact pj _ (CJ _ aia.symm)
      refine e1.trans ?_;simp only[cG,kG];refine(pj q' (oE _ _ _)).trans ?_;exact oE _ _ _)
     split
     .exact⟨To.sub (nK _ _),dM.refl _ _⟩
     .cases hh:aI (l.getD k bq) with
      |true=>
       rw[AH hh];exact⟨To.sub (nK _ _),dM.refl _ _⟩
      |false=>
       rw[show [l.getD k bq].filter nh=[l.getD k bq] by rw[tU,if_pos (XA.2 hh)];rfl] at To;exact QZ To
    obtain⟨aib,XH⟩:=key;generalize(if p=l.getD k bq then eL else free eL (l.getD k bq))=st3 at aib XH⊢;refine⟨l.set k p,q',k1.ext (λr hr=>XH.row r (by simp[cG,hr])) (by rw[XH.tx];omega),aib,?_,k4,λj=>?_⟩
    .refine(R1.mono (λr hr=>dz _ hr)).trans ((k3.mono (Q':=R) (λr hr=>?_)).trans (XH.mono (Q':=R) λr hr=>dz _ hr) (λr hr=>hr)) (λr hr=>hr);exact dz _ (dz _ hr)
    .rw[aeD];have Ed:∀r,aI r=false->r∈l.set k p->gk st3 r=gk eL r:=λr hh hr=>XH.row r (by
      simp only[cG,eX];exact .inl (.inr (dx.2 ⟨hr,hh⟩)))
     split
     .rename_i hj;rw[<-hw4,nk (λhh=>(Ed p hh ?_)),nk (λhh=>k3.row p ?_)]
      .exact cP _ (by simp[nh,hh])
      .obtain⟨_,e⟩:=Hj (l:=l) (k:=k) ag p;rw[e];simp
     .rename_i hj;have Iw:aI (l.getD j bq)=false->l.getD j bq∈l.set k p:=λhh=>by
       have:(l.set k p).getD j bq=l.getD j bq:=by rw[aeD,if_neg hj]
       rw[<-this] at hh⊢;exact jA hh
      rw[nk (λhh=>Ed _ hh (Iw hh)),nk (λhh=>k3.row _ ?_),nk (λhh=>R1.row _ ?_)]
      .simp only[cG,eX];exact .inl (.inr (dx.2 ⟨jA hh,hh⟩))
      .exact dz _ (cP _ (dx.2 ⟨jA hh,hh⟩))
theorem Cq {l q R:cW}{many:Int}(h:qM st t l q)(hs:mQ st (cG l q++R))(hm:0<=many/\many<=t.many)(hp:tp st t many=(cQ,t',true)):
  ∃l' q',qM cQ t' l' q'/\mQ cQ (cG l' q'++R)/\dM st cQ R/\t'.many=many/\∀j:Nat,aW cQ (l'.getD j bq)=if(j:Int)<many then aW st (l.getD j bq) else []:=by
 unfold tp at hp;obtain⟨c8,hlo⟩:=h.len;have x9:=h.mn;split at hp
 .rename_i hc;cases hp
  refine⟨l,q,h,hs,dM.refl _ _,hc.symm,λj=>?_⟩;split
  .rfl
  .rw[h.hl j ag,lH lG]
 .simp only[h.wide] at hp;split at hp
  .cases hp
  .rename_i y eL t2 pe;cases hp
   obtain⟨q',k1,k2,k3,k4⟩:=XE h (R:=l.filter nh++R) (by simpa[cG] using hs) c8 ⟨hm.1,ag⟩ (λr hr=>by
    refine⟨hlo r hr,?_,h.l0 r hr⟩;cases hh:aI r with
    |true=>rw[qp.1 hh];show(0:Int)<=_;have:=hs.tx;omega
    |false=>exact(hs.lv r (by simp only[cG,eX];exact .inl (.inr (dx.2 ⟨hr,hh⟩)))).2) pe
   have BR:(l.take many.toNat++c9 (16-many.toNat)).filter nh=(l.take many.toNat).filter nh:=by rw[pW,lh,ix]
   have To:mQ eL ((l.drop many.toNat).filter nh++(cG (l.take many.toNat++c9 (16-many.toNat)) q'++R)):=k2.cR (by
    have e:l.filter nh=(l.take many.toNat).filter nh++(l.drop many.toNat).filter nh:=by rw[<-pW,yd]
    rw[e];unfold cG;rw[BR];simp only[kG];refine(pj q' (oE _ _ _)).trans ?_;exact oE _ _ _)
   obtain⟨f1,f2⟩:=qt To;refine⟨_,q',k1.ext (λr hr=>f2.row r (by simp[cG,hr])) (by rw[f2.tx];omega),f1,?_,k4,λj=>?_⟩
   .exact(k3.mono (Q':=R) (λr hr=>dz _ hr)).trans (f2.mono (Q':=R) λr hr=>dz _ hr) (λr hr=>hr)
   .rw[ue];by_cases hj:j<many.toNat
    .rw[if_pos hj,if_pos ag,nk (λhh=>f2.row _ ?_),nk (λhh=>k3.row _ ?_)]
     .exact cP _ (dx.2 ⟨jA hh,hh⟩)
     .simp only[cG,eX];refine .inl (.inr (dx.2 ⟨?_,hh⟩));have:(l.take many.toNat++c9 (16-many.toNat)).getD j bq=l.getD j bq:=by rw[ue,if_pos hj]
      rw[<-this] at hh⊢;exact jA hh
    .rw[if_neg hj,if_neg ag,lH lG]
theorem Ee:∀{n:Nat}{l1 l2 a q:cW},pE st n (l1++l2)=some (a,q)->∃a1 q1 a2 q2,pE st n l1=some (a1,q1)/\pE st n l2=some (a2,q2)/\a=a1++a2/\q.Perm (q1++q2)
 |0,l1,l2,a,q,h=>by cases h;exact⟨l1,[],l2,[],rfl,rfl,rfl,.refl _⟩
 |n+1,l1,l2,a,q,h=>by
  obtain⟨l',q',h1,h2,rfl⟩:=gA h;obtain⟨r1,r2,h3,h4,rfl⟩:=D9 h1;obtain⟨a1,q1,a2,q2,h5,h6,rfl,h7⟩:=Ee h2;refine⟨a1,_,a2,_,tG h3 h5,tG h4 h6,rfl,?_⟩;rw[pW];simp only[kG];refine pj _ ((pj _ h7).trans ?_);exact oE _ _ _
theorem Ef (st:ar):∀(n m:Nat),∃c,pE st n (c9 m)=some (c9 c,[])
 |0,m=>⟨m,rfl⟩
 |n+1,m=>by
  obtain⟨c,h⟩:=Ef st n (4*m);exact⟨c,by have:=tG (xF st (n+1:Nat) m) h;rw[lh] at this;exact this⟩
theorem Jj:∀(n:Nat)(L:cW){a q:cW},pE st n L=some (a,q)->(∀p∈a,aI p=false->p.level=0)->
  ∃(c:Nat)(D:cW),c<=L.length*5^ n/\D.Perm (q++a.filter nh)/\∀f aO out,qc (c+f) st (L++aO) out=qc f st aO (out++D)
 |0,L,a,q,h,h0=>by
  cases h
  induction L with
  |nil=>exact⟨0,[],by simp,.refl _,λf aO out=>by simp⟩
  |cons p L ih=>
   obtain⟨c,D,h1,h2,h3⟩:=ih (λx hx=>h0 x (by simp[hx]));cases hp:aI p with
   |true=>
    refine⟨c+1,D,by simp at h1⊢;omega,by simpa[nh,hp] using h2,λf aO out=>?_⟩;rw[show c+1+f=(c+f)+1 by omega,BI,qc,if_pos hp,h3]
   |false=>
    refine⟨c+1,p::D,by simp at h1⊢;omega,by simpa[nh,hp] using h2,λf aO out=>?_⟩;have hl:=h0 p (by simp) hp;rw[show c+1+f=(c+f)+1 by omega,BI,qc,if_neg (by rw[hp];simp),if_neg ag,h3];simp
 |n+1,L,a,q,h,h0=>by
  induction L generalizing a q with
  |nil=>
   obtain⟨l',q',h1,h2,rfl⟩:=gA h;have jG:l'=[]:=by cases h1;rfl
   subst jG;have:∀m,pE st m []=some ([],[]):=λm=>by
    induction m with
    |zero=>rfl
    |succ m ih=>rw[pE];simp only[L4,ih];rfl
   rw[this] at h2;cases h2
   exact⟨0,[],by simp,.refl _,λf aO out=>by simp⟩
  |cons p L ih=>
   obtain⟨a1,q1,a2,q2,h1,h2,rfl,hq⟩:=Ee (l1:=[p]) (l2:=L) h;obtain⟨c,D,h3,h4,h5⟩:=ih _ _ h2 (λx hx=>h0 x (by simp[hx]));obtain⟨l',q',h6,h7,rfl⟩:=gA h1;have aic:5^ (n+1)=5*5^ n:=by rw[US,Ge]
   have anq:1<=5^ n:=Nat.pow_pos ag;cases hp:aI p with
   |true=>
    obtain⟨k,r',h8,h9,rfl⟩:=gh h6;have hr':r'=[]:=by cases h9;rfl
    subst hr';rw[oc hp] at h8;cases h8
    rw[ix] at h7;obtain⟨c',ui⟩:=Ef st n 4;rw[ui] at h7;cases h7
    refine⟨c+1,D,?_,?_,λf aO out=>?_⟩
    .rw[cY,mK];omega
    .refine h4.trans ?_;rw[pW,lh,pT];rw[show [p].filter nh=[] by simp[nh,hp]] at hq;exact CJ _ (by simpa using hq.symm)
    .rw[show c+1+f=(c+f)+1 by omega,BI,qc,if_pos hp,h5]
   |false=>
    obtain⟨k,r',h8,h9,rfl⟩:=gh h6;have hr':r'=[]:=by cases h9;rfl
    subst hr';rw[ix] at h7;obtain⟨hk4,_,⟨hx,_⟩|⟨_,aeE,_⟩⟩:=iP h8
    .rw[hp] at hx;cases hx
    obtain⟨c2,D2,Fc,Zu,Ai⟩:=Jj n k h7 (λx hx=>h0 x (by simp[hx]));refine⟨c2+c+1,p::(D2++D),?_,?_,λf aO out=>?_⟩
    .rw[cY,mK];rw[hk4] at Fc;omega
    .have e:([p].filter nh)=[p]:=by simp[nh,hp]
     rw[e] at hq;have:(q++(a1++a2).filter nh).Perm ((([p]++q')++q2)++(a1.filter nh++a2.filter nh)):=by
      rw[pW];exact CJ _ hq
     refine List.Perm.trans ?_ this.symm;refine(List.Perm.cons p (List.Perm.append Zu h4)).trans ?_;simp only[kG,tT];refine List.Perm.cons p (pj q' ?_);exact oE _ _ _
    .rw[show c2+c+1+f=(c2+(c+f))+1 by omega,BI,qc,if_neg (by rw[hp];simp),if_pos (by rw[aeE];omega),aeE,h8];simp only[pV];rw[Ai,h5];simp
theorem Jk {l q:cW}(h:qM st t l q):(xl st t).Perm (cG l q):=by
 obtain⟨a,h1,h2⟩:=h.lv;have hd:=fq t.many;obtain⟨c,D,h3,h4,h5⟩:=Jj t.depth.toNat [t.cy] h1 (λp hp hh=>h.l0 p (by rw[h2];simp[hp]) hh);have hc:c<=125:=by
  refine' zaV
 unfold xl;have:=h5 (200-c) [] [];rw[show c+(200-c)=(199-c)+(c+1) by omega] at this;rw[show 200=(199-c)+(c+1) by omega];rw[ix] at this;rw[this];obtain⟨g,hg⟩:∃g,200-c=g+1:=⟨199-c,ag⟩;rw[hg,qc];simp only[pT,pV];refine h4.trans ?_;rw[h2];unfold cG;rw[pW,lh,ix]
end
end Go.Pg
namespace Go.Pl
open Go Go.Ev Go.Lg Go.Proofs
structure SA where
 r:aK
 rc:Nat
 f:aK
 fc:Nat
 l:aK
 lc:Nat
 g:aK
 gc:Nat
 d:aK
 dc:Nat
abbrev rP (v:SA)(st:ar):aQ:=[.slice v.r 64 v.rc,.slice v.f 64 v.fc,.slice v.l 64 v.lc,iv st.fC,.slice v.g st.cI.length v.gc,iv st.oL,.slice v.d st.ej.length v.dc,.bool st.same]
abbrev fD (v:SA)(st:ar):Value:=.agg ⟨rP v st⟩
abbrev eO (v:SA)(st:ar):bE:=[.aN (.slice v.r 64 v.rc) 9 1 (ai st.er),.aN (.slice v.f 64 v.fc) 3 1 (ai st.aX),.aN (.slice v.l 64 v.lc) 3 1 (ai st.dm),.aN (.slice v.g st.cI.length v.gc) 83 5 (ai st.cI),.aN (.slice v.d st.ej.length v.dc) 83 5 (ai st.ej)]
abbrev iH (v:SA):List Nat:=aj v.r++(aj v.f++aj v.l)
structure cK (s:St)(v:SA)(st:ar):Prop where
 r:bO s v.r 64 1 (ai st.er)
 f:bO s v.f 64 1 (ai st.aX)
 l:bO s v.l 64 1 (ai st.dm)
structure re (Γ:ij)(L:bE)(v:SA)(st:ar):Prop where
 r:jY Γ L v.r 64 1 (ai st.er)
 f:jY Γ L v.f 64 1 (ai st.aX)
 l:jY Γ L v.l 64 1 (ai st.dm)
section
variable {E:dA}{X:dM}{Γ:ij}{l:Kn}{L L2 R:bE}{K:KO}{f:FuncId}{xs:List Operand}{ts:Array TypeId}{vs:aQ}{r:Value}{A:List Nat}{v:SA}{st:ar}{s:St}
theorem re.row (h:re Γ L v st)(hi:Inv Γ s L):cK s v st/\∀b∈iH v,Fi Γ s b:=by
 refine⟨⟨(h.r.row hi).1,(h.f.row hi).1,(h.l.row hi).1⟩,λb hb=>?_⟩;rcases eX.1 hb with hb|hb
 .exact(h.r.row hi).2 b hb
 .rcases eX.1 hb with hb|hb
  .exact(h.f.row hi).2 b hb
  .exact(h.l.row hi).2 b hb
theorem Hk {b:Nat}(h:b∈aj v.r):b∈iH v:=cP _ h
theorem Hl {b:Nat}(h:b∈aj v.f):b∈iH v:=dz _ (cP _ h)
theorem Hm {b:Nat}(h:b∈aj v.l):b∈iH v:=dz _ (dz _ h)
theorem WO.mj (hx:kL l xs vs)(h:∀s,cK s v st->qj E X f vs s (iH v) r)(hh:re Γ L v st)(k:∀m m',kq L m->m<=m'->K r L m m' (λi=>i∈iH v\/i∈([]:bE).flatMap It.aY\/(m<=i/\i<m')) (λi=>i∈([]:bE).flatMap It.aY\/(m<=i/\i<m'))):WO E X Γ l (.call ⟨.value (.func f),⟨xs⟩,ts⟩) L K:=
 WO.ub hx (λs hi=>⟨(hh.row hi).2,h s (hh.row hi).1⟩) k
theorem WO.Ay {α:Type}{sz:Nat}{enc:ak α sz}{e:TypeId}{p:List α}(hx:kL l xs vs)(h:∀s,cK s v st->fa E X f vs s (iH v) e p)(hh:re Γ L v st)(k:∀m m' a c,kq L m->m<=m'->K (.slice a p.length c) (.aN (.slice a p.length c) e sz (ai (sz:=sz) p)::L) m m' (λi=>i∈iH v\/i∈([]:bE).flatMap It.aY\/(m<=i/\i<m')) (λi=>i∈([]:bE).flatMap It.aY\/(m<=i/\i<m'))):WO E X Γ l (.call ⟨.value (.func f),⟨xs⟩,ts⟩) L K:=
 WO.K1 hx (λs hi=>⟨(hh.row hi).2,h s (hh.row hi).1⟩) k
theorem WO.tD {α:Type}{sz:Nat}{enc:ak α sz}{e:TypeId}{p:List α}{b:Bool}(hx:kL l xs vs)(h:∀s,cK s v st->kr E X f vs s (iH v) e p b)(hh:re Γ L v st)(k:∀m m' a c,kq L m->m<=m'->K (.tuple ⟨[.slice a p.length c,.bool b]⟩) (.aN (.slice a p.length c) e sz (ai (sz:=sz) p)::L) m m' (λi=>i∈iH v\/i∈([]:bE).flatMap It.aY\/(m<=i/\i<m')) (λi=>i∈([]:bE).flatMap It.aY\/(m<=i/\i<m'))):WO E X Γ l (.call ⟨.value (.func f),⟨xs⟩,ts⟩) L K:=
 WO.V6 hx (λs hi=>⟨(hh.row hi).2,h s (hh.row hi).1⟩) k
theorem Rd.Eg (h:cK s v st):Rd ⟨s,([]:bE).flatMap It.aY,iH v⟩ v.r 64 1 (ai st.er):=Rd.of h.r λ_ hb=>Hk hb
theorem Rd.off (h:cK s v st):Rd ⟨s,([]:bE).flatMap It.aY,iH v⟩ v.f 64 1 (ai st.aX):=Rd.of h.f λ_ hb=>Hl hb
theorem Rd.Cr (h:cK s v st):Rd ⟨s,([]:bE).flatMap It.aY,iH v⟩ v.l 64 1 (ai st.dm):=Rd.of h.l λ_ hb=>Hm hb
inductive oO:bE->bE->bE->Prop
 |nil {L:bE}:oO [] L L
 |cons {x:It} {xs L R R2:bE} (h:Om x L R) (k:oO xs R R2):oO (x::xs) L R2
theorem oO.cR {xs L R:bE}(h:oO xs L R):L.Perm (xs++R):=by
 induction h with
 |nil=>exact .refl _
 |cons h _ ih=>exact h.cR.trans (ih.cons _)
abbrev eQ (E:dA)(X:dM)(f:FuncId)(vs:aQ)(s:St)(A:List Nat)(v:SA)(st cQ:ar)(ok:Bool)(mk:Value->Value):Prop:=fH E X f vs s (eO v st) A λr L=>∃v':SA,(ok=false->v'=v)/\r=mk (fD v' cQ)/\L=eO v' cQ
theorem WO.nf {cQ:ar}{ok:Bool}{mk:Value->Value}(hx:kL l xs vs)(h:∀s,eQ E X f vs s [] v st cQ ok mk)(hp:oO (eO v st) L R)(k:∀m m' v',kq L m->m<=m'->(ok=false->v'=v)->K (mk (fD v' cQ)) (eO v' cQ++R) m m' (λi=>i∈([]:List Nat)\/i∈(eO v st).flatMap It.aY\/(m<=i/\i<m')) (λi=>i∈(eO v st).flatMap It.aY\/(m<=i/\i<m'))):WO E X Γ l (.call ⟨.value (.func f),⟨xs⟩,ts⟩) L K:=
 WO.call (Lm:=eO v st) (R:=R) hx hp.cR (λs hi b hb=>by cases hb) (λs _=>h s) (by rintro r L' m m' ho hm ⟨v',hv,rfl,rfl⟩;exact k m m' v' ho hm hv)
theorem qK {rs:List ResultVar}{x:Ex}{v':SA}{cQ:ar}{ok:Bool}{mk:Value->Value}{ws:aQ}(hx:x= .normal\/x= .ret)(hr:qi E l L rs ws)(hL:cz (eO v' cQ) L)(hv:gB ws=mk (fD v' cQ))(fF:ok=false->v'=v):
  uW E rs (λr L=>∃v':SA,(ok=false->v'=v)/\r=mk (fD v' cQ)/\L=eO v' cQ) x l L:=⟨hx,ws,_,hr,hL,v',fF,hv,rfl⟩
end
theorem WO.storeT {E:dA}{X:dM}{Γ:ij}{l:Kn}{L L':bE}{K:KO}{x y:Operand}{w:Value}{t:TypeId}{a:aK}{n:Nat}{α:Type}{enc:ak α 1}{p:List α}{q:α}{i c e:Nat}[ht:iU E t 1](hx:Ev l x (de a i 1 0))(hy:Ev l y w)
  (hu:yQ (.aN (.slice a n c) e 1 (ai p)) (.aN (.slice a n c) e 1 (ai (p.set i q))) L L')(hv:ak.cells q=[w])(hi:i<p.length)(k:∀n,K (.tuple ⟨[]⟩) L' n n (λi=>i∈aj a) (λi=>i∈aj a)):WO E X Γ l (.store t x y) L K:=
 WO.adP (m:=1) hx hy hv hi hu k
structure dv (n:Nat)(st:ar):Prop where
 lr:st.er.length=64
 lf:st.aX.length=64
 ll:st.dm.length=64
 rw:∀x∈st.er,x.length<=3000
 rf:∀x∈st.aX,-(n:Int)<=x/\x<=n
 tx:1<=st.fC/\st.fC<=n
 kp:0<=st.oL/\st.oL<=n
 gl:st.cI.length<=n
 dl:st.ej.length<=n
 gr:∀p∈st.cI,0<=p.row/\p.row<64
structure eb (t:bX):Prop where
 rt:bw t.cy=true
 mn:0<=t.many/\t.many<=16
 dp:0<=t.depth/\t.depth<=2
theorem dv.mono {n m:Nat}{st:ar}(h:dv n st)(hm:n<=m):dv m st:=
 ⟨h.lr,h.lf,h.ll,h.rw,λx hx=>by have:=h.rf x hx;omega,by have:=h.tx;omega,by have:=h.kp;omega,by have:=h.gl;omega,by have:=h.dl;omega,h.gr⟩
theorem dv.row {n:Nat}{st:ar}(h:dv n st)(i:Nat):(st.er.getD i []).length<=3000:=by
 rw[aR];by_cases hi:i<st.er.length
 .rw[bd hi];exact h.rw _ (qS _)
 .rw[rT ag];simp
theorem dv.ref {n:Nat}{st:ar}(h:dv n st)(i:Nat): -(n:Int)<=st.aX.getD i 0/\st.aX.getD i 0<=n:=by
 rw[aR];by_cases hi:i<st.aX.length
 .rw[bd hi];exact h.rf _ (qS _)
 .rw[rT ag];simp
theorem zh {p:jt}(h:bw p=true)(hh:aI p=false):8<=p.row/\p.row<=63:=by
 have:=h;simp only[bw,hh,Bool.false_or,Sq,fR,bU,bQ] at this;omega
end Go.Pl
namespace Go.Pl
theorem kh:∀s:aA,bL s s=false
 |[]=>rfl
 |a::s=>by
  show(if a.toNat<a.toNat then true else if a.toNat<a.toNat then false else bL s s)=false;rw[if_neg (Gf _),if_neg (Gf _),kh s]
theorem qu (a b:UInt8)(s t:aA):bL (a::s) (b::t)=if a.toNat<b.toNat then true else if b.toNat<a.toNat then false else bL s t:=rfl
theorem eU:∀a b c:aA,bL a b=true->bL b c=true->bL a c=true
 |[],[],_,h,_=>by cases h
 |[],_::_,[],_,h=>by cases h
 |[],_::_,_::_,_,_=>rfl
 |_::_,[],_,h,_=>by cases h
 |_::_,_::_,[],_,h=>by cases h
 |a::s,b::t,c::u,h1,h2=>by
  rw[qu] at h1 h2⊢;by_cases h3:a.toNat<b.toNat
  .by_cases h4:b.toNat<c.toNat
   .rw[if_pos ag]
   .rw[if_neg h4] at h2;by_cases h5:c.toNat<b.toNat
    .rw[if_pos h5] at h2;cases h2
    .rw[if_pos ag]
  .rw[if_neg h3] at h1;by_cases h6:b.toNat<a.toNat
   .rw[if_pos h6] at h1;cases h1
   .rw[if_neg h6] at h1;by_cases h4:b.toNat<c.toNat
    .rw[if_pos ag]
    .rw[if_neg h4] at h2;by_cases h5:c.toNat<b.toNat
     .rw[if_pos h5] at h2;cases h2
     .rw[if_neg h5] at h2;rw[if_neg ag,if_neg ag];exact eU s t u h1 h2
theorem lI:∀a b:aA,bL a b=false->bL b a=false->a=b
 |[],[],_,_=>rfl
 |[],_::_,h,_=>by cases h
 |_::_,[],_,h=>by cases h
 |a::s,b::t,h1,h2=>by
  rw[qu] at h1 h2;by_cases h3:a.toNat<b.toNat
  .rw[if_pos h3] at h1;cases h1
  .rw[if_neg h3] at h1;by_cases h4:b.toNat<a.toNat
   .rw[if_pos h4] at h2;cases h2
   .rw[if_neg h4] at h1 h2;rw[if_neg h3] at h2;rw[lI s t h1 h2,w6.1 (show a.toNat=b.toNat by omega)]
theorem Eh {a b:aA}(h:bL a b=true):bL b a=false:=by
 cases hb:bL b a with
 |false=>rfl
 |true=>have:=eU a b a h hb;rw[kh] at this;cases this
theorem np {a b:aA}(h:bL a b=true):a≠b:=λe=>by rw[e,kh] at h;cases h
end Go.Pl
