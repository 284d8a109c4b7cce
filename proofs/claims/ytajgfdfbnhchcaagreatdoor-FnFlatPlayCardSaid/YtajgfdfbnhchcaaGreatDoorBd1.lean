/- Lemmas of the proof. No conditions. -/
import Derived.Test.YtajgfdfbnhchcaaGreatDoorBc1
set_option maxRecDepth 100000
set_option maxHeartbeats 4000000
set_option linter.unusedVariables false
set_option linter.unusedSimpArgs false
open Go.Proofs.Tryz
namespace Go
variable{P:Prop}
theorem zab (h:P:=by
 cases hp:sH i st.fJ level z with
 |none=>
  have hpc:∀s,bF 241 [iv i,iv st.fJ,iv level,sv z] s [] (uB none):=λs=>by have:=o7 s i st.fJ level z ag;rwa [hp] at this
  rw[hp] at hw;have nY:wr st z level=(st,bA,false):=by unfold wr;rw[hw]
  rw[nY];refine' HG;refine' dX
  .rfl
  .exact λ_=>rfl
 |some p=>
  have hpc:∀s,bF 241 [iv i,iv st.fJ,iv level,sv z] s [] (uB (some p)):=λs=>by have:=o7 s i st.fJ level z ag;rwa [hp] at this
  rw[hp] at hw;have nY:wr st z level=({st with ez:=st.ez.set i z,bc:=st.bc.set i (st.bc.getD i 0+1),dw:=st.dw.set i st.fJ},p,true):=by unfold wr;rw[hw]
  rw[nY];refine' HG;refine' dX
  .rfl
  .exact λ_=>rfl
 all_goals(rcases _ with h;exact h)):P:=h
theorem zai (h:P:=by
 have fm:bD l=true:=by
  unfold bR at h;split at h
  .cases h
  .split at h
   .cases h
   .split at h
    .cases h
    .unfold iS at h;split at h
     .cases h
     .split at h
      .cases h
      .rename_i hc;cases h
       cases hq:bD l with
       |true=>rfl
       |false=>rw[hq] at hc;simp at hc
 all_goals(rcases _ with h;exact h)):P:=h
theorem zal (h:P:=by
 have hi:=Pg.lj hf;have hfc:∀s (a:aM) c,cS s v st->bF 240 [.agg ⟨[.slice v.f 64 v.fc,.slice v.l 64 v.lc]⟩,iv 8,.slice a 0 c] s (iO v) (iv i):=λs a c hr=>by
  have:=qf s v st Ce a c hr;rw[hf] at this;exact this
 all_goals(rcases _ with h;exact h)):P:=h
theorem zam (h:P:=by
 have hfc:∀s (a:aM) c,cS s v st->bF 240 [.agg ⟨[.slice v.f 64 v.fc,.slice v.l 64 v.lc]⟩,iv 8,.slice a 0 c] s (iO v) (iv (-1)):=λs a c hr=>by
  have:=qf s v st Ce a c hr;rw[hf] at this;exact this
 all_goals(rcases _ with h;exact h)):P:=h
theorem zaz (h:P:=by
 have nY:wr st z level=(st,bA,false):=by unfold wr;rw[hw]
 rw[nY];repeat' (first|refine' aW|refine' HA|refine' Ru|refine' av|fail)
 refine' dX
 all_goals(rcases _ with h;exact h)):P:=h
theorem zba (h:P:=by
 refine aT f244 ?_;dsimp only[eQ] at hd⊢;refine' X3;refine' dX
 all_goals(rcases _ with h;exact h)):P:=h
theorem zbc (h:P:=by
 obtain⟨hr,hm⟩:=(jB.rd (L:=L) hh).row h2;obtain⟨_,⟨rfl,hc|⟨b',o,q,hc,_⟩⟩|⟨b',o,c,e,w,hc,h3,h4,h5⟩⟩:=hr
 all_goals(rcases _ with h;exact h)):P:=h
theorem zbm (h:P:=by
 cases hb:bS z.af x.af with
 |true=>rfl
 |false=>exact absurd (lK _ _ hb (by simpa using dG)) (hn z gh)
 all_goals(rcases _ with h;exact h)):P:=h
theorem zbn (h:P:=by
 have hzz:(iz ((a:Int)-((bE st n).length:Int))).length=a-(bE st n).length:=by unfold iz;rw[qX];omega
 all_goals(rcases _ with h;exact h)):P:=h
end Go
namespace Go.Pl
open Go Go.Ev Go.Lg Go.Proofs
variable {i:Nat}
def abj (o:Option az):Value:=.tuple ⟨[sv (o.getD []),.bool o.isSome]⟩
theorem jT (p:jF):(eM p).length<=54:=by
 unfold eM;split
 .simp
 .split
  .simp
  .rename_i h _;have hb:=Mr (by simpa using h);have d1:=om p.row ag;have d2:=om p.dt ag;have d3:=om p.size ag;have d4:=om p.sum ag;have d5:=om p.level ag;simp;omega
theorem Em (c:UInt8):∀(l:List az)(w:az),l≠[]->iL c (l++[w])=iL c l++c::w
 |[],_,h=>absurd rfl h
 |[a],w,_=>by simp[iL]
 |a::b::l,w,_=>by
  have:=Em c (b::l) w ay;simp only[yv] at this⊢;simp[iL,this]
theorem fI {α:Type}(l:List α)(d:α)(h:i<l.length):l.take (i+1)=l.take i++[l.getD i d]:=by rw[uO,bd h,aZ,bd h];rfl
theorem HL (c:UInt8)(m:Nat):∀(l:List az),(∀w∈l,w.length<=m)->(iL c l).length<=l.length*(m+1)
 |[],_=>by simp[iL]
 |[a],h=>by have:=h a ay;simp[iL];omega
 |a::b::l,h=>by
  have h1:=h a ay;have h2:=HL c m (b::l) λw hw=>h w (jA _ hw)
  simp only[iL,bL,cY] at h2⊢;rw[mM (l.length+1) 1];omega
theorem TL (s:St)(a:aM)(c:Nat)(p:dg)(hp:p.length<=100000)(hr:bH s a p.length 5 (ai p)):bF 264 [.slice a p.length c] s (aj a) (abj (kx p)):=by
 have hd:=Rd.of hr (A:=aj a) λb hb=>hb
 refine aT f264 ?_;refine' cR
 ·(refine' ax)
  unfold kx;rw[if_pos ag];rfl
 have h4:p.length=4:=by omega
 refine W.bN (λk l L=>∃(i:Nat),Le [(0,.slice a p.length c),(4,sv (iL 44 ((p.take i).map eM))),(5,.bool !((p.take i).all aI)),(6,iv i)] l/\cC [] L/\k=4-i/\i<=4/\(p.take i).any (λp=>!bC p)=false)
  (λl L=>Le [(4,sv (iL 44 (p.map eM))),(5,.bool !(p.all aI))] l/\cC [] L/\p.any (λp=>!bC p)=false) 4 ⟨0,bj,ar,ag,ag,ay⟩ ?_ ?_
 .rintro k l L ⟨i,hl,hL,rfl,h1,h2⟩;refine W.le ?_ hl hL;clear hl hL;have hj:(iL 44 ((p.take i).map eM)).length<=1000:=by
   refine gK (HL 44 54 _ λw hw=>?_) ?_
   .obtain⟨q,_,rfl⟩:=jK.1 hw;exact jT q
   .rw[td,cW];omega
  have S6:=jT (p.getD i ak.ah);have e:i<4->p.take (i+1)=p.take i++[p.getD i bA]:=λh=>fI p bA ag
  have e4a:i<4->0<i->iL 44 ((p.take (i+1)).map eM)=(iL 44 ((p.take i).map eM)++[44])++eM (p.getD i bA):=λh h'=>by
   rw[e h,KI,wO,C2,Em _ _ _ (λh0=>by
    have:=ep List.length h0;rw[td,cW,lW] at this;omega),ku];rfl
  have e4b:i=0->iL 44 ((p.take (i+1)).map eM)=iL 44 ((p.take i).map eM)++eM (p.getD i bA):=λh=>by
   subst h;rw[e ag];rfl
  have e5a:i<4->(p.take i).all aI=true->(!(p.take (i+1)).all aI)= !aI (p.getD i bA):=λh h'=>by
   rw[e h,GJ,h'];simp
  have e5b:i<4->(p.take i).all aI=false->(!(p.take (i+1)).all aI)=true:=λh h'=>by
   rw[e h,GJ,h'];simp
  have e2:i<4->bC (p.getD i bA)=true->(p.take (i+1)).any (λp=>!bC p)=false:=λh h'=>by
   rw[e h,List.any_append,h2];simpa using h'
  repeat' (first|refine' aW|refine' Tw|refine' Hq|refine' ahL|refine' av|fail)
  ·(refine' ax)
   unfold kx;rw[if_neg ag,if_pos];rfl;rw[GM];exact⟨p.getD i bA,aK ag bA,hc⟩
  rotate_right 1
  .have hi:i=4:=by omega
   subst hi;have ht:p.take 4=p:=qW ag;rw[ht] at h2⊢;exact⟨bj,ar,h2⟩
  all_goals
   have KE:i<4:=by omega
   refine⟨_,ag,i+1,?_,ar,rfl,ag,e2 KE aL⟩;first
                                                  |(rw[e4a KE ag,e5a KE aL];exact bj;done)
                                                  |(rw[e4b ag,e5a KE aL];exact bj;done)
                                                  |(rw[e4a KE ag,e5b KE aL];exact bj;done)
                                                  |(rw[e4b ag,e5b KE aL];exact bj;done)
 .rintro l L ⟨hl,hL,h1⟩;refine aq ?_;refine W.le ?_ hl hL;clear hl hL;refine' cR
  all_goals
   refine' ax;unfold kx;rw[if_neg ag,if_neg (by rw[h1];simp)];first|(rw[if_pos (by simpa using hc)];rfl)|(rw[if_neg (by simpa using hc)];rfl)
theorem PD {z:az}(c:UInt8)(h:i<(cut c z).length):((cut c z).getD i []).length<=z.length:=zu c z _ (aK h _)
theorem X7 {α:Type}(p:α->Bool)(q:List α)(x:α):(q++[x]).all p=(q.all p&&p x):=by simp
theorem Ms {α:Type}{o:Option α}{d:α}(h:o.isSome=true):o=some (o.getD d):=by cases o<;>simp_all
theorem TV (s:St)(z:az)(hz:z.length<=100000):jQ bh bw 265 [sv z] s [] 83 ((ky z).getD []) (ky z).isSome:=by
 have hm:=vn 44 z;have hlw:∀i,i<(cut 44 z).length->((cut 44 z).getD i ak.ah).length<=100000:=λi hi=>gK (PD 44 hi) hz
 unfold ky;refine aT f265 ?_;repeat' (first|refine' aW|refine' Xg|refine' av|fail)
 generalize hw:cut 44 z=w at *
 refine W.bN (λk l L=>∃(i:Nat)(q:dg)(a:aM)(c:Nat),Le [(4,.slice vT w.length vU),(5,.slice a q.length c),(6,.bool !(q.all aI)),(7,iv i)] l/\cC [.aQ (.slice vT w.length vU) 9 1 (ai w),.aQ (.slice a q.length c) 83 5 (ai q)] L/\k=w.length-i/\i<=w.length/\(w.take i).mapM jq=some q)
  (λl L=>∃(q:dg)(a:aM)(c:Nat),Le [(5,.slice a q.length c),(6,.bool !(q.all aI))] l/\cC [.aQ (.slice a q.length c) 83 5 (ai q)] L/\w.mapM jq=some q) w.length ⟨0,[],_,_,bj,ar,ag,ag,ay⟩ ?_ ?_
 .rintro k l L ⟨i,q,a,c,hl,hL,rfl,h1,h2⟩;refine W.le ?_ hl hL;clear hl hL;have hq:=qH _ _ _ h2;rw[cW] at hq;have dG:=hlw i;(repeat' (first|refine' aW|((with_reducible apply WO.aV);exact aC;exact λs=>HK s _ ag;intros)|refine' Hq|refine' av|fail))
  .have hn:jq (w.getD i [])=none:=by
    have:=j8;exact Option.isSome_eq_false_iff.1 this|> Option.isNone_iff_eq_none.1
   rw[mapM_none jq w [] ag hn];(refine' fk)<;>rfl
  rotate_right 1
  .have hi:i=w.length:=by omega
   subst hi;rw[gY] at h2;exact⟨q,_,_,bj,ar,h2⟩
  all_goals
   have hs:=vX jq w [] (show i<w.length by omega);have hn:jq (w.getD i [])=some ((jq (w.getD i [])).getD bA):=Ms aL;rw[h2,hn] at hs;refine⟨_,ag,i+1,q++[(jq (w.getD i [])).getD bA],_,_,?_,ar,rfl,ag,hs⟩;rw[X7];first|(rw[show q.all aI=true from by simpa using ur];exact bj;done)|(rw[show q.all aI=false from by simpa using ur];exact bj;done)
 .rintro l L ⟨q,a,c,hl,hL,h1⟩;refine aq ?_;refine W.le ?_ hl hL;clear hl hL;have hq:=qH _ _ _ h1;rw[h1];refine' cR
  all_goals
   (refine' fk)<;>dsimp only<;>first
     |(rw[if_pos (.inl ag)];rfl)
     |(rw[if_pos (.inr (by simpa using j8))];rfl)
     |(rw[if_neg (λh=>h.elim (λh=>h ag) (λh=>tf h (by simpa using j8)))];rfl)
theorem En:∀(l:List az)(x:az)(out:az),kW (l++[x]) out=match kW l out with
  |none=>none
  |some o=>if 2048<x.length then none else if 2048<(o++(gW x.length++58::x)).length then none else some (o++(gW x.length++58::x))
 |[],x,out=>by simp[kW]
 |y::l,x,out=>by
  simp only[yv,kW];split
  .rfl
  .split
   .rfl
   .exact En l x _
theorem Eo:∀(l m:List az)(out:az),kW l out=none->kW (l++m) out=none
 |[],m,out,h=>by simp[kW] at h
 |y::l,m,out,h=>by
  simp only[yv,kW] at h⊢;split
  .rfl
  .rename_i h1;rw[if_neg h1] at h;split
   .rfl
   .rename_i h2;rw[if_neg h2] at h;exact Eo l m _ h
theorem X8 (l:List az)(out:az)(h:i<l.length)(hn:kW (l.take (i+1)) out=none):kW l out=none:=by rw[<-yD (i+1) l];exact Eo _ _ _ hn
theorem HM:∀(l:List az)(out:az)(o:az),out.length<=2048->kW l out=some o->o.length<=2048
 |[],out,o,h,k=>by simp[kW] at k;subst k;exact h
 |y::l,out,o,h,k=>by
  simp only[kW] at k;split at k
  .cases k
  .split at k
   .cases k
   .rename_i h2;exact HM l _ o ag k
theorem zv (s:St)(a:aM)(c:Nat)(p:List az)(hp:p.length<=100000)(hr:bH s a p.length 1 (ai p)):bF 194 [.slice a p.length c] s (aj a) (abj (jo p)):=by
 have hd:=Rd.of hr (A:=aj a) λb hb=>hb
 refine aT f194 ?_;(repeat(first|refine' xT|refine' av|fail))
 refine W.bN (λk l L=>∃(i:Nat)(o:az),Le [(0,.slice a p.length c),(4,sv o),(5,iv i)] l/\cC [] L/\k=p.length-i/\i<=p.length/\(i=0\/p.length<=60)/\kW (p.take i) []=some o)
  (λl L=>∃(o:az),Le [(0,.slice a p.length c),(4,sv o)] l/\cC [] L/\((p.length<=60/\kW p []=some o)\/(60<p.length/\o=[]))) p.length ⟨0,[],bj,ar,ag,ag,.inl rfl,by simp[kW]⟩ ?_ ?_
 .rintro k l L ⟨i,o,hl,hL,rfl,h1,h2,h3⟩;refine W.le ?_ hl hL;clear hl hL;have ho:=HM _ _ _ ay h3;have hx:(p.getD i ak.ah).length<10000000000->(dec ((p.getD i ak.ah).length:Int)).length<=10:=λh=>om _ ag
  have e:=λh:i<p.length=>En (p.take i) (p.getD i ak.ah) []
  have e':=λh:i<p.length=>fI p ak.ah h
  rw[h3] at e;have hf:p.length<=60->i<p.length->kW (p.take (i+1)) []=none->jo p=none:=λh h' h''=>by
   unfold jo;rw[if_neg ag];exact X8 p [] h' h''
  have ea:∀w:az,o++dec (w.length:Int)++[58]++w=o++(gW w.length++58::w):=λw=>by simp[dec]
  repeat' (first|refine' aW|refine' aaU|refine' av|fail)
  ·(refine' ax)
   rw[hf ag ag (by rw[e' ag,e ag];exact if_pos (by have:=j8;omega))];rfl
  ·(refine' ax)
   rw[hf ag ag (by
    rw[e' ag,e ag];refine(if_neg ag).trans (if_pos ?_);have:=j8;rw[ea] at this;exact Int.ofNat_lt.1 this)];rfl
  .have h9:=j8;rw[ea] at h9;refine⟨_,ag,i+1,o++(gW (p.getD i ak.ah).length++58::p.getD i ak.ah),?_,ar,rfl,ag,.inr ag,?_⟩
   .have:=ea (p.getD i ak.ah);rw[<-this];exact bj
   .rw[e' ag,e ag];refine(if_neg ag).trans (if_neg ?_);intro FM;have:(o++(gW (p.getD i ak.ah).length++58::p.getD i ak.ah)).length<=2048:=Int.ofNat_le.1 h9;omega
  all_goals
   rcases lA 60 p.length with h|h
   .have:i=0:=by omega
    subst this;simp[kW] at h3;exact⟨o,bj,ar,.inr ⟨h,h3⟩⟩
   .have hi:i=p.length:=by omega
    subst hi;rw[gY] at h3;exact⟨o,bj,ar,.inl ⟨ag,h3⟩⟩
 .rintro l L ⟨o,hl,hL,h1⟩;refine aq ?_;refine W.le ?_ hl hL;clear hl hL;refine' cR
  refine' ax;unfold jo;rcases h1 with⟨h1,h2⟩|⟨h1,rfl⟩
  .rw[if_neg ag,h2];simp[gL,abj];omega
  .rw[if_pos h1];simp[gL,abj];omega
theorem TW (z:az)(c:UInt8):nI (z++[c])=if c=0 then nI z else z++[c]:=by
 unfold nI;rw[List.reverse_append,List.reverse_singleton,uh,List.dropWhile_cons];split
 .rename_i h;rw[if_pos (by simpa using h)]
 .rename_i h;rw[if_neg (by simpa using h)];simp
theorem HN (z:az)(h:0<z.length):z=z.take (z.length-1)++[z.getD (z.length-1) 0]:=by have:=fI z 0 (i:=z.length-1) ag;rw[show z.length-1+1=z.length by omega,gY] at this;exact this
theorem HC (s:St)(z:az)(hz:z.length<=100000):bF 173 [sv z] s [] (sv (nI z)):=by
 refine aT f173 ?_;(repeat(first|refine' xT|refine' av|fail))
 refine W.bN (λk l L=>∃(w:az),Le [(0,sv w)] l/\cC [] L/\k=w.length/\w.length<=z.length/\nI w=nI z)
  (λl L=>Le [(0,sv (nI z))] l/\cC [] L) z.length ⟨z,bj,ar,rfl,ag,rfl⟩ ?_ ?_
 .rintro k l L ⟨w,hl,hL,rfl,h1,h2⟩;refine W.le ?_ hl hL;clear hl hL;have hb:∀x:UInt8,(x.toNat:Int)=0↔x=0:=λx=>by
   constructor
   .intro h;rw[<-uJ];show x.toNat=0;omega
   .rintro rfl;rfl
  have e:0<w.length->nI w=if w.getD (w.length-1) 0=0 then nI (w.take (w.length-1)) else w:=λh=>by
   conv=>lhs;rw[HN w h]
   rw[TW,<-HN w h]
  have hi:0<w.length->((w.length:Int)-1)=((w.length-1:Nat):Int):=λh=>by omega
  have hj:0<w.length->((w.length:Int)-1).toNat=w.length-1:=λh=>by omega
  refine' cR
  .have h0:0<w.length:=by omega
   rw[hj h0,hb] at j8;have e:=e h0;rw[if_pos j8] at e;refine⟨_,?_,w.take (w.length-1),by rw[<-hj h0];exact bj,ar,rfl,by rw[cW];omega,by rw[<-e];exact h2⟩;rw[cW];omega
  .have h0:0<w.length:=by omega
   rw[hj h0,hb] at j8;have e:=e h0;rw[if_neg j8] at e;exact⟨by rw[<-h2,e];exact bj,ar⟩
  .have h0:w=[]:=mO ag;subst h0;exact⟨by rw[<-h2];exact bj,ar⟩
 .rintro l L ⟨hl,hL⟩;refine aq ?_;refine W.le ?_ hl hL;refine' cR
  refine' ax;rfl
theorem L7 (s:St)(n:Int)(hn:n<=100000):bF 100 [iv n] s [] (sv (iz n)):=by refine aT f100 ?_;(repeat(first|refine' xT|refine' av|fail));refine' ax;simp only[gL,iz];rw[show(max 0 n).toNat=n.toNat by omega]
theorem JJ (l:List bf)(d:bf){i:Nat}(h:i<l.length):bn (l.take (i+1))=bn (l.take i)++((l.getD i d).name++61::(dec (l.getD i d).id++[59])):=by rw[fI l d h];simp[bn]
theorem Tz (s:St)(a:aM)(c:Nat)(p:List bf)(hp:p.length<=3000)(hn:∀e∈p,e.name.length<=3000/\0<=e.id/\e.id<=1000000000)(hr:bH s a p.length 2 (ai p)):bF 197 [.slice a p.length c] s (aj a) (sv (bn p)):=by
 have hd:=Rd.of hr (A:=aj a) λb hb=>hb
 refine aT f197 ?_;(repeat(first|refine' xT|refine' av|fail))
 refine W.bN (λk l L=>∃(i:Nat),Le [(0,.slice a p.length c),(3,sv (bn (p.take i))),(4,iv i)] l/\cC [] L/\k=p.length-i/\i<=p.length/\(bn (p.take i)).length<=i*3012)
  (λl L=>Le [(3,sv (bn p))] l/\cC [] L) p.length ⟨0,bj,ar,ag,ag,by simp[bn]⟩ ?_ ?_
 .rintro k l L ⟨i,hl,hL,rfl,h1,h2⟩;refine W.le ?_ hl hL;clear hl hL;have hb:=λh:i<p.length=>hn _ (aK h ak.ah)
  have hd':=λh:i<p.length=>om (p.getD i ak.ah).id (by have:=hb h;omega)
  have e:=λh:i<p.length=>JJ p ak.ah h
  by_cases hi:i<p.length
  .have hb:=hb hi;have hd':=hd' hi;have e:=e hi;repeat' (first|refine' aW|refine' aaU|refine' av|fail)
   .refine⟨_,?_,i+1,?_,ar,rfl,ag,?_⟩
    .omega
    .rw[e,show ∀a b c d:az,a++(b++61::(c++d))=a++b++[61]++c++d from λa b c d=>by simp];exact bj
    .rw[e];simp only[bL,cY,lW] at *;omega
   all_goals omega
  ·(refine' cR)
   .omega
   .have hi:i=p.length:=by omega
    subst hi;rw[gY];exact⟨bj,ar⟩
 .rintro l L ⟨hl,hL⟩;refine aq ?_;refine W.le ?_ hl hL;refine' cR
  refine' ax;rfl
variable {z:az}
theorem pR {α:Type}{l:List α}{i:Nat}(d:α)(h:i<l.length):l.getD i d=l[i]:=by simp[aZ,bd h]
theorem gH:∀p q:az,Op.bytesLess p q=bS p q
 |[],[]=>rfl
 |[],_::_=>rfl
 |_::_,[]=>rfl
 |a::p,b::q=>by
  show(decide (a<b)||(a== b&&Op.bytesLess p q))=if a.toNat<b.toNat then true else if b.toNat<a.toNat then false else bS p q
  rw[gH p q];by_cases h:a=b
  .subst h;have:¬(a<a):=by rw[p9];omega
   simp[this]
  .have fY:a.toNat≠b.toNat:=λe=>h (uJ.1 e)
   (have h1:(a== b)=false:=by simpa using h);by_cases h3:a.toNat<b.toNat
   .have:a<b:=by rw[p9];exact h3
    simp[h3,this]
   .have:¬a<b:=by rw[p9];exact h3
    (have h4:b.toNat<a.toNat:=by omega);simp[h1,h3,h4,this]
def X9 (l:List bf)(name:az):Int:=((eE l name).map Int.ofNat).getD (-1)
theorem ae1 {p:List bf}{i:Nat}(hi:i<p.length)(h:∀j,j<i->(p.getD j ak.ah).name≠z)(he:(p.getD i ak.ah).name=z):X9 p z=i:=by
 have:eE p z=some i:=by
  unfold eE;rw[oO];refine⟨hi,by rw[pR _ hi] at he;simpa using he,λj hj=>?_⟩;have:=h j hj;rw[pR _ ag] at this;simpa using this
 unfold X9;rw[this];rfl
theorem abk {p:List bf}(h:∀j,j<p.length->(p.getD j ak.ah).name≠z):X9 p z= -1:=by
 have:eE p z=none:=by
  unfold eE;rw[Bl];intro x hx;obtain⟨j,hj,rfl⟩:=iY hx;have:=h j hj;rw[pR _ hj] at this;simpa using this
 unfold X9;rw[this];rfl
theorem Ea (s:St)(a:aM)(c:Nat)(p:List bf)(z:az)(hp:p.length<=3000)(hr:bH s a p.length 2 (ai p)):bF 165 [.slice a p.length c,sv z] s (aj a) (iv (X9 p z)):=by
 have hd:=Rd.of hr (A:=aj a) λb hb=>hb
 refine aT f165 ?_;(repeat(first|refine' xT|refine' av|fail))
 refine W.bN (λk l L=>∃(i:Nat),Le [(0,.slice a p.length c),(1,sv z),(5,iv i)] l/\cC [] L/\k=p.length-i/\i<=p.length/\∀j,j<i->(p.getD j ak.ah).name≠z)
  (λl L=>(∀j,j<p.length->(p.getD j ak.ah).name≠z)) p.length ⟨0,bj,ar,ag,ag,λj hj=>by omega⟩ ?_ ?_
 .rintro k l L ⟨i,hl,hL,rfl,h1,h2⟩;refine W.le ?_ hl hL;clear hl hL;refine' cR
  ·(refine' ax)
   rw[ae1 ag h2 j8];rfl
  .refine⟨_,?_,i+1,bj,ar,rfl,ag,λj hj=>?_⟩
   .omega
   .rcases lA j i with h|h
    .exact h2 j h
    .have:j=i:=by omega
     subst this;exact j8
  .intro j hj;exact h2 j ag
 .rintro l L h;refine aq ?_;refine' cR
  refine' ax;rw[abk h];rfl
theorem Ep (s:St)(a:aM)(c:Nat)(p:List bf)(i:Nat)(hp:p.length<=3000)(hi:i<p.length)(hr:bH s a p.length 2 (ai p))(hv:w9 s a p.length c 200 2):eU bh bw 164 [.slice a p.length c,iv i] s (aj a) 200 (eA p i):=by
 have hd:=Rd.of hr (A:=aj a) λb hb=>hb
 refine aT f164 ?_;refine' cR;refine' kL;show eA p i=[]++p.take i++p.drop (i+1);simp[eA]
theorem Mt:∀(l:List bf)(x:bf),mP (l++[x])=(mP l&&match l.getLast? with|none=>true|some y=>bS y.name x.name)
 |[],x=>by simp[mP]
 |[a],x=>by simp[mP]
 |a::b::l,x=>by
  have ih:=Mt (b::l) x;show(bS a.name b.name&&mP ((b::l)++[x]))=_;rw[ih];have:(a::b::l).getLast?=(b::l).getLast?:=by simp
  rw[this];show _=((bS a.name b.name&&mP (b::l))&&_);rw[Bool.and_assoc]
theorem Ya {p:List bf}(h:mP p=true):∀k,mP (p.take k)=true:=by
 intro k;induction p generalizing k with
 |nil=>simp[mP]
 |cons a p ih=>
  cases k with
  |zero=>rfl
  |succ k=>
   cases p with
   |nil=>simp[mP]
   |cons b p=>
    have h':(bS a.name b.name&&mP (b::p))=true:=h;simp only[bO] at h';cases k with
    |zero=>rfl
    |succ k=>
     show(bS a.name b.name&&mP ((b::p).take (k+1)))=true;rw[h'.1,ih h'.2];rfl
theorem Yb {p:List bf}(d:bf){i:Nat}(hi:i<p.length):mP (p.take (i+1))=(mP (p.take i)&&(decide (i=0)||bS (p.getD (i-1) d).name (p.getD i d).name)):=by
 rw[fI p d hi,Mt]
 congr 1
 cases i with
 |zero=>rfl
 |succ i=>
  rw[fI p d ag];simp
def wL (e:bf):Bool:=aU e.name&&fV e.id 1 15
theorem abl {p:List bf}(d:bf){i:Nat}(hi:i<p.length):(p.take (i+1)).all wL=((p.take i).all wL&&wL (p.getD i d)):=by rw[fI p d hi,GJ];simp
theorem RG {p:List bf}(d:bf){i:Nat}(hi:i<p.length)(h:wL (p.getD i d)=false):bD p=false:=by
 have:p.all wL=false:=by
  rw[GK];exact⟨_,aK hi d,by rw[h];simp⟩
 show(p.all wL&&mP p&&decide (p.length<=12))=false;rw[this];rfl
theorem Yc {p:List bf}{i:Nat}(h:mP (p.take i)=false):bD p=false:=by
 have:mP p=false:=by
  cases hp:mP p with
  |false=>rfl
  |true=>rw[Ya hp i] at h;cases h
 show(p.all wL&&mP p&&decide (p.length<=12))=false;rw[this];simp
theorem JD (s:St)(a:aM)(c:Nat)(p:List bf)(hp:p.length<=3000)(hn:∀e∈p,e.name.length<=3000)(hr:bH s a p.length 2 (ai p)):bF 248 [.slice a p.length c] s (aj a) (.bool (bD p)):=by
 have hd:=Rd.of hr (A:=aj a) λb hb=>hb
 refine aT f248 ?_;(repeat(first|refine' xT|refine' av|fail))
 refine W.bN (λk l L=>∃(i:Nat),Le [(0,.slice a p.length c),(3,iv i)] l/\cC [] L/\k=p.length-i/\i<=p.length/\(p.take i).all wL=true/\mP (p.take i)=true)
  (λl L=>Le [(0,.slice a p.length c)] l/\cC [] L/\p.all wL=true/\mP p=true) p.length ⟨0,bj,ar,ag,ag,rfl,rfl⟩ ?_ ?_
 .rintro k l L ⟨i,hl,hL,rfl,h1,h2,h3⟩;refine W.le ?_ hl hL;clear hl hL;have hb:=λh:i<p.length=>hn _ (aK h ak.ah)
  have e1:=λh:i<p.length=>abl ak.ah h
  have e2:=λh:i<p.length=>Yb ak.ah h
  by_cases hi:i<p.length
  .have hb:=hb hi;have e1:=e1 hi;have e2:=e2 hi;repeat' (first|refine' aW|refine' aaV|refine' Ow|refine' av|fail)
   .have hj:((i:Int)-1).toNat=i-1:=by omega
    rw[gH,hj] at j8;refine' ax;rw[Yc (i:=i+1) (p:=p) (by rw[e2,h3,j8];simp;omega)];rfl
   .have hj:((i:Int)-1).toNat=i-1:=by omega
    rw[gH,hj] at j8;refine⟨_,?_,i+1,bj,ar,rfl,ag,?_,?_⟩
    .omega
    .rw[e1,h2];unfold wL;simp_all
    .rw[e2,h3,j8];simp
   .refine⟨_,?_,i+1,bj,ar,rfl,ag,?_,?_⟩
    .omega
    .rw[e1,h2];unfold wL;simp_all
    .rw[e2,h3];simp;omega
   ·(refine' ax)
    rw[RG ak.ah hi (by unfold wL;simp_all)];rfl
   ·(refine' ax)
    rw[RG ak.ah hi (by unfold wL;simp_all)];rfl
   all_goals(exfalso;omega)
  ·(refine' cR)
   .omega
   .have hi:i=p.length:=by omega
    subst hi;rw[gY] at h2 h3;exact⟨bj,ar,h2,h3⟩
 .rintro l L ⟨hl,hL,h1,h2⟩;refine aq ?_;refine W.le ?_ hl hL;refine' cR
  refine' ax;show Value.bool (decide _)=Value.bool (p.all wL&&mP p&&decide _);rw[h1,h2];simp;omega
def ev (e:bf):Value:=.agg ⟨DS e⟩
theorem vY (s:St)(a:aM)(c:Nat)(p:List bf)(e:bf)(hp:p.length<=3000)(hr:bH s a p.length 2 (ai p)):eU bh bw 159 [.slice a p.length c,ev e] s (aj a) 200 (gz p e):=by
 have hd:=Rd.of hr (A:=aj a) λb hb=>hb
 refine aT f159 ?_;(repeat(first|refine' xT|refine' av|fail))
 refine W.bN (λk l L=>∃(i:Nat)(d:Bool)(q:List bf)(a':aM)(c':Nat),Le [(0,.slice a p.length c),(3,bg bx),(5,.slice a' q.length c'),(6,.bool d),(7,iv i)] l/\cC [.aQ (.slice a' q.length c') 200 2 (ai q),.box bx (DS e) 200 false] L/\k=p.length-i/\i<=p.length/\q.length<=i+1/\(d=true->q++p.drop i=gz p e)/\(d=false->q=p.take i/\gz p e=p.take i++gz (p.drop i) e))
  (λl L=>∃(d:Bool)(q:List bf)(a':aM)(c':Nat),Le [(3,bg bx),(5,.slice a' q.length c'),(6,.bool d)] l/\cC [.aQ (.slice a' q.length c') 200 2 (ai q),.box bx (DS e) 200 false] L/\q.length<=3001/\gz p e=if d=true then q else q++[e]) p.length ⟨0,false,[],_,_,bj,ar,ag,ag,ay,ay,ay⟩ ?_ ?_
 .rintro k l L ⟨i,d,q,a',c',hl,hL,rfl,h1,h2,h3,h4⟩;refine W.le ?_ hl hL;clear hl hL;have ed:i<p.length->p.drop i=p.getD i ak.ah::p.drop (i+1):=λh=>by
   rw[pR _ h];exact ui h
  have et:i<p.length->p.take (i+1)=p.take i++[p.getD i ak.ah]:=λh=>fI p _ h
  refine' cR
  .have h0:i<p.length:=by omega
   obtain⟨h5,h6⟩:=h4 ur;rw[gH] at hc;refine⟨_,?_,i+1,true,_,_,_,bj,ar,rfl,ag,?_,λ_=>?_,λh=>by cases h⟩
   .omega
   .have:=List.length_take_le i p;rw[<-h5] at this;simp only[bL,cY,lW];omega
   .rw[h6,h5,ed h0,gz,if_pos hc];simp
  .have h0:i<p.length:=by omega
   obtain⟨h5,h6⟩:=h4 ur;rw[gH] at hc;refine⟨_,?_,i+1,d,_,_,_,bj,ar,rfl,ag,?_,λh=>?_,λ_=>?_⟩
   .omega
   .simp only[bL,cY,lW];omega
   .rw[ur] at h;cases h
   .refine⟨by rw[et h0,<-h5],?_⟩;rw[h6,ed h0,gz,if_neg (by rw[hc];simp),et h0];simp
  .have h0:i<p.length:=by omega
   refine⟨_,?_,i+1,d,_,_,_,bj,ar,rfl,ag,?_,λh=>?_,λh=>?_⟩
   .omega
   .simp only[bL,cY,lW];omega
   .rw[<-h3 h,ed h0];simp
   .rw[ur] at h;cases h
  .have h0:i=p.length:=by omega
   subst h0;refine⟨d,_,_,_,bj,ar,ag,?_⟩;cases d with
   |true=>have:=h3 rfl;rw[if_pos rfl,<-this];simp
   |false=>obtain⟨h5,h6⟩:=h4 rfl;rw[if_neg ay,h6,<-h5];simp[gz]
 .rintro l L ⟨d,q,a',c',hl,hL,h1,h2⟩;refine aq ?_;refine W.le ?_ hl hL;refine' cR
  ·(refine' kL)
   rw[h2,if_neg (by simp_all)]
  ·(refine' kL)
   rw[h2,if_pos (by simp_all)]
theorem PE (s:az):ma s=if(cut 61 s).length≠2 then none else some ⟨(cut 61 s).getD 0 [],qZ ((cut 61 s).getD 1 [])⟩:=by unfold ma;rcases cut 61 s with _|⟨a,_|⟨b,_|⟨c,l⟩⟩⟩<;>simp
theorem ae2 {l:List bf}(h:bD l=true):∀e∈l,e.name.length<=4/\1<=e.id/\e.id<=15:=by intro e he;have h':(l.all wL&&mP l&&decide (l.length<=12))=true:=h;simp only[bO,gA] at h';have:=h'.1.1 e he;unfold wL aU fV at this;simp only[bO,bQ] at this;exact⟨this.1.2,this.2.1,this.2.2⟩
theorem Gm (s:St)(z:az)(hz:z.length<=2500):jQ bh bw 209 [sv z] s [] 200 ((iS z).getD []) (iS z).isSome:=by
 have hm:=vn 59 z;have hlw:∀i,i<(cut 59 z).length->((cut 59 z).getD i ak.ah).length<=2500:=λi hi=>gK (zu 59 z _ (aK hi _)) hz
 unfold iS;refine aT f209 ?_;repeat' (first|refine' aW|refine' Xg|refine' av|fail)
 generalize hw:cut 59 z=w at *
 refine W.bN (λk l L=>∃(i:Nat)(q:List bf)(a:aM)(c:Nat),Le [(0,sv z),(4,.slice a q.length c),(5,.slice vT w.length vU),(6,iv i)] l/\cC [.aQ (.slice vT w.length vU) 9 1 (ai w),.aQ (.slice a q.length c) 200 2 (ai q)] L/\k=w.length-i/\i<=w.dropLast.length/\(w.dropLast.take i).mapM ma=some q/\∀e∈q,e.name.length<=2500)
  (λl L=>∃(q:List bf)(a:aM)(c:Nat),Le [(0,sv z),(4,.slice a q.length c)] l/\cC [.aQ (.slice a q.length c) 200 2 (ai q)] L/\w.dropLast.mapM ma=some q/\∀e∈q,e.name.length<=2500) w.length ⟨0,[],_,_,bj,ar,ag,ag,ay,ay⟩ ?_ ?_
 .rintro k l L ⟨i,q,a,c,hl,hL,rfl,h1,h2,h3⟩;refine W.le ?_ hl hL;clear hl hL;have hq:=qH _ _ _ h2;rw[cW,As h1] at hq;have uC:w.dropLast.length=w.length-1:=List.length_dropLast;have dG:=hlw i;have Je:i<w.dropLast.length->w.dropLast.getD i []=w.getD i []:=λh=>by
   rw[pR _ h,pR _ ag,List.getElem_dropLast]
  have he:=PE (w.getD i ak.ah);have hm2:=vn 61 (w.getD i ak.ah);have uo:∀j,j<(cut 61 (w.getD i ak.ah)).length->((cut 61 (w.getD i ak.ah)).getD j ak.ah).length<=(w.getD i ak.ah).length:=λj hj=>zu 61 _ _ (aK hj _)
  have alR:=uo 0;have an6:=uo 1;(repeat' (first|refine' aW|refine' Xg|((with_reducible apply WO.aV);exact aC;exact λs=>AW s _ ag;intros)|refine' av|fail))
  .have hn:ma (w.dropLast.getD i [])=none:=by
    rw[Je ag];refine he.trans (if_pos ?_);omega
   rw[mapM_none ma w.dropLast [] ag hn];(refine' fk)<;>rfl
  .have hs:=vX ma w.dropLast [] (show i<w.dropLast.length by omega);have hn:ma (w.dropLast.getD i [])=some ⟨(cut 61 (w.getD i ak.ah)).getD 0 [],qZ ((cut 61 (w.getD i ak.ah)).getD 1 [])⟩:=by
    rw[Je ag];refine he.trans (if_neg ?_);omega
   rw[h2,hn] at hs;refine⟨_,?_,i+1,q++[⟨(cut 61 (w.getD i ak.ah)).getD 0 [],qZ ((cut 61 (w.getD i ak.ah)).getD 1 [])⟩],_,_,bj,ar,rfl,ag,hs,λe he=>?_⟩
   .omega
   .rcases eZ.1 he with he|he
    .exact h3 e he
    .rw[ix.1 he];have:=alR ag;have h5:=dG ag;exact gK this h5
  .have hi:i=w.dropLast.length:=by omega
   subst hi;rw[gY] at h2;exact⟨q,_,_,bj,ar,h2,h3⟩
 .rintro l L ⟨q,a,c,hl,hL,h1,h2⟩;refine aq ?_;refine W.le ?_ hl hL;clear hl hL;have hq:=qH _ _ _ h1;have uC:w.dropLast.length=w.length-1:=List.length_dropLast;have Ou:∀e∈q,e.name.length<=3000:=λe he=>by have:=h2 e he;omega
  rw[h1];by_cases fm:bD q=true
  .have Ts:∀e∈q,e.name.length<=3000/\0<=e.id/\e.id<=1000000000:=λe he=>by have:=ae2 fm e he;omega
   repeat' (first|refine' aW|refine' ahM|refine' ahN|refine' av|fail)
   .simp only[fm,j8];(refine' fk)<;>simp[j8]
   .simp only[fm,j8];(refine' fk)<;>simp[j8]
   all_goals(exfalso;simp_all;done)
  ·(repeat' (first|refine' aW|refine' ahM|refine' av|fail))
   all_goals first|(exfalso;simp_all;done)|skip
   .simp only[fm];(refine' fk)<;>simp[fm]
theorem PF {z:az}(h:0<z.length)(h0:z.getD 0 0=47):cut 47 z=[]::cut 47 z.tail:=by
 cases z with
 |nil=>simp at h
 |cons x z=>
  have:x=47:=h0;subst this;simp[cut]
theorem LX (s:St)(z:az)(hz:z.length<=100000)(h:0<z.length)(h0:z.getD 0 0=47):acJ bh bw 95 [sv z] s [] 9 (aF z):=by
 have ni:=PF h h0;have hl:0<(cut 47 z).length:=by rw[ni];simp
 refine aT f95 ?_;repeat' (first|refine' aW|refine' Xg|refine' av|fail)
 ·(refine' acM)
  unfold aF;rw[if_pos aL]
 ·(refine' acM)
  unfold aF;rw[if_neg aL,ni];rfl
def pS (l:List az):az:=(l.map λs=>47::s).flatten
theorem JK (l:List az)(d:az){i:Nat}(h:i<l.length):pS (l.take (i+1))=pS (l.take i)++47::l.getD i d:=by rw[fI l d h];simp[pS]
theorem Mu (s:St)(a:aM)(c:Nat)(p:List az)(hp:p.length<=100000)(hn:∀e∈p,e.length<=3000)(hr:bH s a p.length 1 (ai p)):bF 141 [.slice a p.length c] s (aj a) (sv (pathOf p)):=by
 have hd:=Rd.of hr (A:=aj a) λb hb=>hb
 refine aT f141 ?_;(repeat(first|refine' xT|refine' av|fail))
 refine W.bN (λk l L=>∃(i:Nat),Le [(0,.slice a p.length c),(3,sv (pS (p.take i))),(4,iv i)] l/\cC [] L/\k=p.length-i/\i<=p.length/\(pS (p.take i)).length<=i*3001)
  (λl L=>Le [(3,sv (pS p))] l/\cC [] L) p.length ⟨0,bj,ar,ag,ag,by simp[pS]⟩ ?_ ?_
 .rintro k l L ⟨i,hl,hL,rfl,h1,h2⟩;refine W.le ?_ hl hL;clear hl hL;have hb:=λh:i<p.length=>hn _ (aK h ak.ah)
  have e:=λh:i<p.length=>JK p ak.ah h
  by_cases hi:i<p.length
  .have hb:=hb hi;have e:=e hi;refine' cR
   .refine⟨_,?_,i+1,?_,ar,rfl,ag,?_⟩
    .omega
    .rw[e,show ∀a b:az,a++47::b=a++[47]++b from λa b=>by simp];exact bj
    .rw[e,bL,cY];omega
   all_goals(exfalso;omega)
  ·(refine' cR)
   .omega
   .have hi:i=p.length:=by omega
    subst hi;rw[gY];exact⟨bj,ar⟩
 .rintro l L ⟨hl,hL⟩;refine aq ?_;refine W.le ?_ hl hL;have e:pS p=[]↔p=[]:=by
   cases p<;>simp[pS]
  refine' cR
  ·(refine' ax)
   unfold pathOf;rw[if_pos (e.1 aL)];rfl
  ·(refine' ax)
   unfold pathOf;rw[if_neg (λh=>(by assumption:¬_) (e.2 h))];rfl
theorem HO {z:az}:∀w∈aF z,w.length<=z.length:=by
 intro w hw;unfold aF at hw;split at hw
 .cases hw
 .exact zu 47 z w (List.mem_of_mem_tail hw)
theorem xX {z:az}:(aF z).length<=z.length+1:=by
 unfold aF;split
 .simp
 .have:=vn 47 z;rw[List.length_tail];omega
theorem TB (s:St)(z:az)(hz:z.length<=90000):bF 58 [sv z] s [] (.bool (aP z)):=by
 have hm:=xX (z:=z);have hlw:∀i,i<(aF z).length->((aF z).getD i ak.ah).length<=z.length:=λi hi=>HO _ (aK hi _)
 by_cases vO:z=[]
 .subst vO;refine aT f58 ?_;refine' cR
  all_goals first|(exfalso;simp_all;done)|skip
  refine' ax;rfl
 have cX:0<z.length:=nL.2 vO;have hh:z.headD 0=z.getD 0 0:=by cases z<;>rfl
 unfold aP;rw[hh];refine aT f58 ?_;have hb:((z.getD 0 0).toNat:Int)=47↔z.getD 0 0=47:=by
  constructor
  .intro h;rw[<-uJ];show(z.getD 0 0).toNat=47;omega
  .intro h;rw[h];rfl
 by_cases HP:z.getD 0 0=47
 .have lD:=hb.2 HP;repeat' (first|refine' aW|refine' TA|refine' av|fail)
  ·(refine' ax);rw[if_pos aL];rfl
  .exfalso;exact j8 lD
  rotate_left 1
  .exact absurd aL vO
  rw[if_neg aL,if_neg (by rw[HP];simp[vO])];generalize hw:aF z=w at *
  refine W.bN (λk l L=>∃(i:Nat),Le [(3,.slice DT w.length DU),(4,iv i)] l/\cC [.aQ (.slice LY BI.length LZ) 9 1 (ai BI)] L/\k=w.length-i/\i<=w.length/\(w.take i).all aU=true)
   (λl L=>Le [(3,.slice DT w.length DU)] l/\cC [] L/\w.all aU=true) w.length ⟨0,bj,ar,ag,ag,rfl⟩ ?_ ?_
  .rintro k l L ⟨i,hl,hL,rfl,h1,h2⟩;refine W.le ?_ hl hL;clear hl hL;have dG:=hlw i;have e:=λh:i<w.length=>fI w ak.ah h
   repeat' (first|refine' aW|refine' aaV|refine' av|fail)
   ·(refine' ax)
    have:w.all aU=false:=by
     rw[GK];exact⟨_,aK (show i<w.length by omega) ak.ah,by simp_all⟩
    rw[this];rfl
   .refine⟨_,?_,i+1,bj,ar,rfl,ag,?_⟩
    .omega
    .rw[e ag,GJ,h2];simp_all
   .have hi:i=w.length:=by omega
    subst hi;rw[gY] at h2;exact⟨bj,ar,h2⟩
  .rintro l L ⟨hl,hL,h1⟩;refine aq ?_;refine W.le ?_ hl hL;refine' cR
   refine' ax;rw[h1];simp[gL];omega
 .have lD:=λh=>HP (hb.1 h)
  refine' cR
  ·(refine' ax);rw[if_pos aL];rfl
  ·(refine' ax);rw[if_neg aL,if_pos (by rw[mf];exact .inr (bY HP))];rfl
  all_goals first|(exfalso;exact lD aL)|(exact absurd aL vO)
def cA (z:az):List az:=if aP z=true then aF z else []
theorem CH {z:az}(h:aP z=true):0<z.length/\z.getD 0 0=47:=by
 unfold aP at h;split at h
 .rename_i h0;subst h0;exact⟨ay,rfl⟩
 .split at h
  .cases h
  .rename_i h1;cases z with
   |nil=>simp at h1
   |cons x z=>simp at h1;exact⟨ay,h1⟩
theorem JL (s:St)(z:az)(hz:z.length<=90000):jQ bh bw 140 [sv z] s [] 9 (cA z) (aP z):=by
 have hm:=xX (z:=z);refine aT f140 ?_;by_cases h:aP z=true
 .obtain⟨h1,h2⟩:=CH h;repeat' (first|refine' aW|refine' aeC|refine' TA|refine' av|fail)
  .exfalso;simp_all
  ·(refine' fk)
   .unfold cA;rw[if_pos h];rfl
   .exact h
 ·(repeat' (first|refine' aW|refine' aeC|refine' av|fail))
  ·(refine' fk)
   .unfold cA;rw[if_neg h]
   .simpa using h
  all_goals(exfalso;simp_all;done)
theorem zw (s:St)(z t:az)(hz:z.length<=3000)(ht:t.length<=3000):bF 99 [sv z,sv t] s [] (.bool (under z t)):=by
 have hp:∀{z:az},z.length<=3000->(cA z).length<=3001/\∀e∈cA z,e.length<=3000:=λ{z} hz=>by
  unfold cA;split
  .exact⟨by have:=xX (z:=z);omega,λe he=>by have:=HO e he;omega⟩
  .simp
 obtain⟨h1,h2⟩:=hp hz;obtain⟨h3,h4⟩:=hp ht;have h5:∀e∈(cA z).take ((cA t).length:Int).toNat,e.length<=3000:=λe he=>h2 e (KP he)
 refine aT f99 ?_;(repeat' (first|refine' aW|((with_reducible apply WO.oM);exact aC;exact λs=>JL s _ ag;intro _ _ adj adk _ _)|((with_reducible apply WO.iN);exact aC;(first|exact λs hr=>Mu s _ _ _ ag aL hr|exact λs hr=>Mu s _ _ _ (by first|omega|(rw[cW];omega)) aL hr);exact cb;intros)|refine' av|fail));all_goals refine' ax
 all_goals(simp only[gL];refine ep Value.bool ?_;unfold under)
 .have e1:cA z=aF z:=if_pos aL;have e2:cA t=aF t:=if_pos aL;rw[e1,e2] at j8;simp_all;omega
 .have e1:cA z=aF z:=if_pos aL;have e2:cA t=aF t:=if_pos aL;rw[e1,e2] at j8;rw[e1,e2];simp_all
 .simp_all
 .simp_all
theorem MR:∀(k:Nat)(z:az),k<=z.length->(z.take k).all kU=true->numOf (z.take k)<10^ k
 |0,z,_,_=>by simp[numOf]
 |k+1,z,h,ha=>by
  rw[Ek _ _ ag,bO] at ha;have ih:=MR k z ag ha.1;have h1:=ha.2;simp only[kU,bO,bQ] at h1;rw[El _ ag,Vy];omega
theorem abz (z:az):(kV z).1<1000000000:=by
 have h:=RE z;have ha:(tI z).all kU=true:=by
  unfold tI;generalize z.take 9=w;induction w with
  |nil=>rfl
  |cons x w ih=>
   rw[List.takeWhile_cons];split
   .rename_i hx;rw[List.all_cons,hx,ih];rfl
   .rfl
 have h2:=MR (tI z).length (tI z) (cG _) (by rw[gY];exact ha);rw[gY] at h2;have h3:10^ (tI z).length<=10^ 9:=Nat.pow_le_pow_right ag h.2;unfold kV;dsimp only;split
 .dsimp only;omega
 .dsimp only;omega
theorem EP {f:Nat}{z:az}{out:List az}(hz:z≠[]):sG (f+1) z out=if(kV z).2=0\/z.length<=(kV z).2\/z.getD (kV z).2 0≠58\/z.length-(kV z).2-1<(kV z).1 then none else sG f (z.drop ((kV z).2+1+(kV z).1)) (out++[(z.drop ((kV z).2+1)).take (kV z).1]):=by
 cases z with
 |nil=>exact absurd rfl hz
 |cons x z=>rfl
theorem zK (s:St)(z:az)(hz:z.length<=100000):jQ bh bw 176 [sv z] s [] 9 ((fa z).getD []) (fa z).isSome:=by
 refine aT f176 ?_;(repeat(first|refine' xT|refine' av|fail))
 refine W.bN (λk l L=>∃(i f:Nat)(q:List az)(a:aM)(c:Nat),Le [(0,sv z),(4,.slice a q.length c),(5,iv i)] l/\cC [.aQ (.slice a q.length c) 9 1 (ai q)] L/\k=z.length-i/\i<=z.length/\q.length<=i/\z.length-i<f/\(z.length<=2048\/i=0/\q=[])/\sG (z.length+1) z []=sG f (z.drop i) q)
  (λl L=>∃(q:List az)(a:aM)(c:Nat),Le [(0,sv z),(4,.slice a q.length c)] l/\cC [.aQ (.slice a q.length c) 9 1 (ai q)] L/\q.length<=100000/\(if 2048<z.length then some [] else sG (z.length+1) z [])=some q) z.length ⟨0,z.length+1,[],_,_,bj,ar,ag,ag,ay,ag,.inr ⟨rfl,rfl⟩,ay⟩ ?_ ?_
 .rintro k l L ⟨i,f,q,a,c,hl,hL,rfl,h1,h2,h3,h4,h5⟩;refine W.le ?_ hl hL;clear hl hL;obtain⟨f,rfl⟩:∃g,f=g+1:=⟨f-1,ag⟩;have hn:=abi (z.drop i);have G9:=abz (z.drop i);rw[eW] at hn;have fY:i<z.length->z.drop i≠[]:=λh h'=>by have:=ep List.length h';simp at this;omega
  have e:=λh:i<z.length=>EP (f:=f) (out:=q) (fY h)
  have hg9:(z.drop i).getD (kV (z.drop i)).2 0=z.getD (i+(kV (z.drop i)).2) 0:=by
   rw[aZ,aZ,wQ]
  rw[hg9,eW,mu,mu] at e;have ads:∀x:UInt8,((x.toNat:Int)=58)↔x=58:=λx=>by
   constructor
   .intro h;rw[<-uJ];show x.toNat=58;omega
   .rintro rfl;rfl
  have H6:z.length<=2048->i<z.length->((kV (z.drop i)).2=0\/z.length-i<=(kV (z.drop i)).2\/z.getD (i+(kV (z.drop i)).2) 0≠58\/z.length-i-(kV (z.drop i)).2-1<(kV (z.drop i)).1)->fa z=none:=λh h' h''=>by
   unfold fa;rw[if_neg ag,h5,e h',if_pos h'']
  (repeat' (first|refine' aW|((with_reducible apply WO.aV);exact aC;exact λs=>Mp s _ (by rw[eW];omega);intros)|refine' av|fail))
  .rw[H6 ag ag (.inr (.inr (.inr ag)))];(refine' fk)<;>rfl
  .have e:=e ag;rw[if_neg (by
    rw[ads] at ur;rintro(h|h|h|h)
    .omega
    .omega
    .exact h ur
    .omega)] at e
   refine⟨_,?_,i+(kV (z.drop i)).2+1+(kV (z.drop i)).1,f,_,_,_,bj,ar,rfl,ag,by simp;omega,ag,.inl ag,?_⟩
   .omega
   .rw[h5,e]
    congr 2
    .omega
    .congr 1
     rw[show i+(kV (z.drop i)).2+1+(kV (z.drop i)).1-(i+(kV (z.drop i)).2+1)=(kV (z.drop i)).1 by omega];rfl
  .rw[H6 ag ag (.inr (.inr (.inl (λh=>ur ((ads _).2 h)))))];(refine' fk)<;>rfl
  .rw[H6 ag ag (.inr (.inl ag))];(refine' fk)<;>rfl
  .rw[H6 ag ag (.inl ag)];(refine' fk)<;>rfl
  .refine⟨q,_,_,bj,ar,ag,?_⟩;rw[if_pos ag];rcases h4 with h|⟨_,h⟩
   .omega
   .rw[h]
  .refine⟨q,_,_,bj,ar,ag,?_⟩;have hd:z.drop i=[]:=yE ag;split
   .rcases h4 with h|⟨_,h⟩
    .omega
    .rw[h]
   .rw[h5,hd];rfl
 .rintro l L ⟨q,a,c,hl,hL,h1,h2⟩;refine aq ?_;refine W.le ?_ hl hL;clear hl hL;have hfg:fa z=match jo q with
    |none=>none
    |some t=>if t=z then some q else none:=by
   unfold fa;rw[h2];rfl
  (repeat' (first|refine' aW|((with_reducible apply WO.iN);exact aC;exact λs hr=>zv s _ _ _ ag hr;exact cb;intros)|refine' av|fail))
  .obtain⟨t,ht⟩:=jh.1 ur;rw[ht] at j8 hfg;rw[hfg];dsimp only;rw[if_neg (show ¬t=z from j8)];(refine' fk)<;>rfl
  .obtain⟨t,ht⟩:=jh.1 ur;rw[ht] at j8 hfg;rw[hfg];dsimp only;rw[if_pos (show t=z from j8)];(refine' fk)<;>rfl
  .have ht:jo q=none:=by cases h:jo q<;>simp_all
   rw[ht] at hfg;rw[hfg];(refine' fk)<;>rfl
theorem Hw (s:St)(n:iM):bF 172 [nv n] s [] (.bool (eD n)):=by refine aT f172 ?_;(repeat' (first|refine' aW|((with_reducible apply WO.aV);exact aC;exact λs=>Gk s _ _;intros)|refine' Xh|refine' Tw|refine' Hq|refine' Ow|refine' av|fail));all_goals first|((refine' ax);simp_all [gL,eD,fV];done)|((refine' ax);simp_all [gL,eD];done)
theorem PV (n:Int):0<=cQ n/\cQ n<=2:=by
 unfold cQ;split
 .omega
 .split<;>omega
theorem Uf {n:iM}(h:eD n=true):(1<=n.kind/\n.kind<=2)/\(1<=n.bK/\n.bK<=9)/\(0<=n.size/\n.size<=2048)/\(0<=n.aX.many/\n.aX.many<=16)/\n.aX.depth=cQ n.aX.many/\bC n.aX.cI=true/\n.aX.many=dx n.size (fy n.kind):=by
 simp only[eD,bO,qi,C1,mg,Int.not_lt,ne_eq,Decidable.not_not,C0] at h;obtain⟨⟨⟨⟨h1,h2⟩,h3⟩,h4⟩,h5,h6⟩:=h;have h7:fA n.kind n.size=n.aX.many:=h2.symm;unfold fA at h7;rw[show fA n.kind n.size=n.aX.many from h2.symm] at h1 h3;have he:fy n.kind=0\/fy n.kind=12\/fy n.kind=128:=by unfold fy;split<;>(try split)<;>simp
 have hk:fy n.kind≠0->1<=n.kind/\n.kind<=2:=by unfold fy;intro h;split at h<;>(try split at h)<;>omega
 split at h7
 .omega
 .rename_i h8;simp only[mf,bQ,qi,not_or,wS,fV,bO] at h8;have h9:=hk h8.1;have FM:n.aX.many<=16:=by
   rw[<-h7];unfold dx;rcases he with he|he|he<;>rw[he] at h8⊢<;>omega
  refine⟨h9,?_,ag,⟨ag,FM⟩,h3,h4,h7.symm⟩;simp only[fV,bO,bQ] at h5;split at h5<;>omega
theorem DY (s:St)(n:iM):bF 152 [nv n] s [] (sv (gj n)):=by
 by_cases hn:eD n=true
 .have hb:=Uf hn;have hd:=PV n.aX.many;refine aT f152 ?_;(repeat(first|refine' xT|refine' Po|refine' av|fail))
  refine W.cond gT ?_ ?_<;>intro hc
  .exfalso;simp_all
  (repeat(first|refine' xT|refine' aaU|refine' ahL|((with_reducible apply WO.iN);exact aC;exact λs hr=>zv s _ _ _ (by first|omega|(simp;done)) hr;exact cb;intros)|refine' av|fail));refine' ax;simp[gL,gj,hn,j5]
 .refine aT f152 ?_;repeat' (first|refine' aW|refine' Po|refine' av|fail)
  all_goals first|((refine' ax);simp_all [gL,gj];done)|(exfalso;simp_all;done)
theorem H8:∀(f:Nat)(z:az)(out w:List az)(m:Nat),z.length<=m->(∀x∈out,x.length<=m)->sG f z out=some w->∀x∈w,x.length<=m
 |0,z,out,w,m,_,_,h=>by simp[sG] at h
 |f+1,[],out,w,m,_,ho,h=>by simp[sG] at h;subst h;exact ho
 |f+1,c::z,out,w,m,hz,ho,h=>by
  rw[EP ay] at h;split at h
  .cases h
  .refine H8 f _ _ w m (by rw[eW];omega) ?_ h;intro x hx;rcases eZ.1 hx with hx|hx
   .exact ho x hx
   .simp only[ix] at hx;subst hx;rw[cW,eW];omega
theorem Gs {z:az}{w:List az}(h:fa z=some w):∀x∈w,x.length<=z.length:=by
 unfold fa at h;split at h
 .cases h
 .rename_i o ho;split at h
  .cases h
  .split at h
   .cases h
    split at ho
    .cases ho;simp
    .exact H8 _ z [] _ z.length (cG _) ay ho
   .cases h
theorem PW (z:az):eR z=match fa z with
  |none=>none
  |some w=>if w.length≠7 then none else
   let n:iM:=⟨qZ (w.getD 0 []),qZ (w.getD 1 []),qZ (w.getD 2 []),⟨(jq (w.getD 3 [])).getD bA,qZ (w.getD 4 []),qZ (w.getD 5 [])⟩⟩
   if !eD n||!decide (gj n=z) then none else some n:=by
 unfold eR;rcases fa z with _|⟨_|⟨a,_|⟨b,_|⟨c,_|⟨d,_|⟨e,_|⟨f,_|⟨g,_|⟨h,l⟩⟩⟩⟩⟩⟩⟩⟩⟩<;>simp
def vx (o:Option iM):Value:=.tuple ⟨[nv (o.getD bB),.bool o.isSome]⟩
theorem ua (s:St)(z:az)(hz:z.length<=100000):bF 123 [sv z] s [] (vx (eR z)):=by
 rw[PW];rcases hf:fa z with _|w
 .have h1:(fa z).isSome=false:=by rw[hf];rfl
  refine aT f123 ?_;(repeat' (first|refine' aW|((with_reducible apply WO.oM);exact aC;exact λs=>zK s _ ag;intro _ _ adt adu _ _)|refine' av|fail));all_goals first|((refine' ax);rfl)|(exfalso;simp_all;done)
 .have h1:(fa z).isSome=true:=by rw[hf];rfl
  have hw:=Gs hf;have h0:∀i,i<w.length->(w.getD i ak.ah).length<=100000:=λi hi=>gK (hw _ (aK hi _)) hz
  have w7:∀s,jQ bh bw 176 [sv z] s [] 9 w true:=λs=>by
   have:=zK s z hz;rw[hf] at this;exact this
  dsimp only;refine aT f123 ?_;(repeat' (first|refine' aW|((with_reducible apply WO.oM);exact aC;exact λs=>w7 s;intro _ _ abA abB _ _)|((with_reducible apply WO.aV);exact aC;exact λs=>AW s _ (h0 _ ag);intros)|((with_reducible apply WO.aV);exact aC;exact λs=>HK s _ (h0 _ ag);intros)|refine' Po|refine' ahR|refine' av|fail))
  ·(refine' ax);rw[if_pos ag];rfl
  all_goals
   refine' ax
   rw[if_neg ag];first
                   |exact Eq.trans (b:=vx none) rfl (ep vx (if_pos (GL.2 (.inl hg))).symm)
                   |exact Eq.trans (b:=vx none) rfl (ep vx (if_pos (GL.2 (.inr hc))).symm)
                   |exact Eq.trans (b:=vx (some _)) rfl (ep vx (if_neg (λh=>(GL.1 h).elim (λh=>tf h hg) (λh=>tf h hc))).symm)
variable {E:ig}{X:fR}{Γ:qV}{L L2 R:bZ}{K:KO}{xs:List Operand}{ts:Array TypeId}{vs:a6}{A:List Nat}{st:au}
structure SA where
 r:aM
 rc:Nat
 f:aM
 fc:Nat
 l:aM
 lc:Nat
 g:aM
 gc:Nat
 d:aM
 dc:Nat
abbrev se (v:SA)(st:au):a6:=[.slice v.r 64 v.rc,.slice v.f 64 v.fc,.slice v.l 64 v.lc,iv st.fJ,.slice v.g st.cP.length v.gc,iv st.oV,.slice v.d st.eu.length v.dc,.bool st.same]
abbrev fK (v:SA)(st:au):Value:=.agg ⟨se v st⟩
abbrev eQ (v:SA)(st:au):bZ:=[.aQ (.slice v.r 64 v.rc) 9 1 (ai st.ez),.aQ (.slice v.f 64 v.fc) 3 1 (ai st.bc),.aQ (.slice v.l 64 v.lc) 3 1 (ai st.dw),.aQ (.slice v.g st.cP.length v.gc) 83 5 (ai st.cP),.aQ (.slice v.d st.eu.length v.dc) 83 5 (ai st.eu)]
abbrev iO (v:SA):List Nat:=aj v.r++(aj v.f++aj v.l)
structure cS (s:St)(v:SA)(st:au):Prop where
 r:bH s v.r 64 1 (ai st.ez)
 f:bH s v.f 64 1 (ai st.bc)
 l:bH s v.l 64 1 (ai st.dw)
structure rC (Γ:qV)(L:bZ)(v:SA)(st:au):Prop where
 r:jB Γ L v.r 64 1 (ai st.ez)
 f:jB Γ L v.f 64 1 (ai st.bc)
 l:jB Γ L v.l 64 1 (ai st.dw)
section
variable {l:Kn}{f:FuncId}{r:Value}{v:SA}{s:St}
theorem rC.row (h:rC Γ L v st)(hi:Inv Γ s L):cS s v st/\∀b∈iO v,FT Γ s b:=by
 refine⟨⟨(h.r.row hi).1,(h.f.row hi).1,(h.l.row hi).1⟩,λb hb=>?_⟩;rcases eZ.1 hb with hb|hb
 .exact(h.r.row hi).2 b hb
 .rcases eZ.1 hb with hb|hb
  .exact(h.f.row hi).2 b hb
  .exact(h.l.row hi).2 b hb
theorem HS {b:Nat}(h:b∈aj v.r):b∈iO v:=cT _ h
theorem HT {b:Nat}(h:b∈aj v.f):b∈iO v:=dE _ (cT _ h)
theorem HU {b:Nat}(h:b∈aj v.l):b∈iO v:=dE _ (dE _ h)
theorem WO.mq (hx:kA l xs vs)(h:∀s,cS s v st->nQ E X f vs s (iO v) r)(hh:rC Γ L v st)(k:∀m m',jX L m->m<=m'->K r L m m' (FtR (iO v) [] m m') (FtW [] m m')):WC E X Γ l f xs ts L K:=
 WO.qE hx (λs hi=>⟨(hh.row hi).2,h s (hh.row hi).1⟩) k
theorem WO.AQ {α:Type}{sz:Nat}{enc:ak α sz}{e:TypeId}{p:List α}(hx:kA l xs vs)(h:∀s,cS s v st->eU E X f vs s (iO v) e p)(hh:rC Γ L v st)(k:∀m m' a c,jX L m->m<=m'->K (.slice a p.length c) (.aQ (.slice a p.length c) e sz (ai (sz:=sz) p)::L) m m' (FtR (iO v) [] m m') (FtW [] m m')):WC E X Γ l f xs ts L K:=
 WO.LG hx (λs hi=>⟨(hh.row hi).2,h s (hh.row hi).1⟩) k
theorem WO.tS {α:Type}{sz:Nat}{enc:ak α sz}{e:TypeId}{p:List α}{b:Bool}(hx:kA l xs vs)(h:∀s,cS s v st->jQ E X f vs s (iO v) e p b)(hh:rC Γ L v st)(k:∀m m' a c,jX L m->m<=m'->K (.tuple ⟨[.slice a p.length c,.bool b]⟩) (.aQ (.slice a p.length c) e sz (ai (sz:=sz) p)::L) m m' (FtR (iO v) [] m m') (FtW [] m m')):WC E X Γ l f xs ts L K:=
 WO.WQ hx (λs hi=>⟨(hh.row hi).2,h s (hh.row hi).1⟩) k
theorem Rd.EH (h:cS s v st):Rd ⟨s,([]:bZ).flatMap It.a8,iO v⟩ v.r 64 1 (ai st.ez):=Rd.of h.r λ_ hb=>HS hb
theorem Rd.off (h:cS s v st):Rd ⟨s,([]:bZ).flatMap It.a8,iO v⟩ v.f 64 1 (ai st.bc):=Rd.of h.f λ_ hb=>HT hb
theorem Rd.CM (h:cS s v st):Rd ⟨s,([]:bZ).flatMap It.a8,iO v⟩ v.l 64 1 (ai st.dw):=Rd.of h.l λ_ hb=>HU hb
inductive oZ:bZ->bZ->bZ->Prop
 |nil {L:bZ}:oZ [] L L
 |cons {x:It} {xs L R R2:bZ} (h:O8 x L R) (k:oZ xs R R2):oZ (x::xs) L R2
theorem oZ.cZ {xs L R:bZ}(h:oZ xs L R):L.Perm (xs++R):=by
 induction h with
 |nil=>exact .refl _
 |cons h _ ih=>exact h.cZ.trans (ih.cons _)
abbrev eV (E:ig)(X:fR)(f:FuncId)(vs:a6)(s:St)(A:List Nat)(v:SA)(st da:au)(ok:Bool)(mk:Value->Value):Prop:=fM E X f vs s (eQ v st) A λr L=>∃v':SA,(ok=false->v'=v)/\r=mk (fK v' da)/\L=eQ v' da
theorem WO.nf {da:au}{ok:Bool}{mk:Value->Value}(hx:kA l xs vs)(h:∀s,eV E X f vs s [] v st da ok mk)(hp:oZ (eQ v st) L R)(k:∀m m' v',jX L m->m<=m'->(ok=false->v'=v)->K (mk (fK v' da)) (eQ v' da++R) m m' (FtR [] (eQ v st) m m') (FtW (eQ v st) m m')):WC E X Γ l f xs ts L K:=
 WO.call (Lm:=eQ v st) (R:=R) hx hp.cZ (λs hi b hb=>by cases hb) (λs _=>h s) (by rintro r L' m m' ho hm ⟨v',hv,rfl,rfl⟩;exact k m m' v' ho hm hv)
theorem q8 {rs:List ResultVar}{x:Ex}{v':SA}{da:au}{ok:Bool}{mk:Value->Value}{ws:a6}(hx:x= .normal\/x= .ret)(hr:qD E l L rs ws)(hL:cC (eQ v' da) L)(hv:gL ws=mk (fK v' da))(fm:ok=false->v'=v):
  vh E rs (λr L=>∃v':SA,(ok=false->v'=v)/\r=mk (fK v' da)/\L=eQ v' da) x l L:=⟨hx,ws,_,hr,hL,v',fm,hv,rfl⟩
end
theorem WO.storeT {E:ig}{X:fR}{Γ:qV}{l:Kn}{L L':bZ}{K:KO}{x y:Operand}{w:Value}{t:TypeId}{a:aM}{n:Nat}{α:Type}{enc:ak α 1}{p:List α}{q:α}{i c e:Nat}[ht:jc E t 1](hx:Ev l x (dr a i 1 0))(hy:Ev l y w)
  (hu:zd (.aQ (.slice a n c) e 1 (ai p)) (.aQ (.slice a n c) e 1 (ai (p.set i q))) L L')(hv:ak.cells q=[w])(hi:i<p.length)(k:∀n,K (.tuple ⟨[]⟩) L' n n (λi=>i∈aj a) (λi=>i∈aj a)):WO E X Γ l (.store t x y) L K:=
 WO.aeh (m:=1) hx hy hv hi hu k
structure dA (n:Nat)(st:au):Prop where
 lr:st.ez.length=64
 lf:st.bc.length=64
 ll:st.dw.length=64
 rw:∀x∈st.ez,x.length<=3000
 rf:∀x∈st.bc,-(n:Int)<=x/\x<=n
 tx:1<=st.fJ/\st.fJ<=n
 kp:0<=st.oV/\st.oV<=n
 gl:st.cP.length<=n
 dl:st.eu.length<=n
 gr:∀p∈st.cP,0<=p.row/\p.row<64
structure ek (t:cB):Prop where
 rt:bC t.cI=true
 mn:0<=t.many/\t.many<=16
 dp:0<=t.depth/\t.depth<=2
theorem dA.mono {n m:Nat}{st:au}(h:dA n st)(hm:n<=m):dA m st:=
 ⟨h.lr,h.lf,h.ll,h.rw,λx hx=>by have:=h.rf x hx;omega,by have:=h.tx;omega,by have:=h.kp;omega,by have:=h.gl;omega,by have:=h.dl;omega,h.gr⟩
theorem dA.row {n:Nat}{st:au}(h:dA n st)(i:Nat):(st.ez.getD i []).length<=3000:=by
 rw[aZ];by_cases hi:i<st.ez.length
 .rw[bd hi];exact h.rw _ (rj _)
 .rw[sh ag];simp
theorem dA.ref {n:Nat}{st:au}(h:dA n st)(i:Nat): -(n:Int)<=st.bc.getD i 0/\st.bc.getD i 0<=n:=by
 rw[aZ];by_cases hi:i<st.bc.length
 .rw[bd hi];exact h.rf _ (rj _)
 .rw[sh ag];simp
theorem zE {p:jF}(h:bC p=true)(hh:aI p=false):8<=p.row/\p.row<=63:=by have:=h;simp only[bC,hh,Bool.false_or,Te,fV,bO,bQ] at this;omega
variable {L':bZ}{x y:Operand}{n c e:Nat}{p:List a7}{w:fg}{m:Int}{b:Bool}
theorem Ni {α:Type}{sz:Nat}[ak α sz]{j:Nat}(hj:j<sz)(v:Value)(q:α):∀(p:List α)(i:Nat),i<p.length->ak.cells (sz:=sz) q=(ak.cells (sz:=sz) (p.getD i (ak.ah (sz:=sz)))).set j v->(ai (sz:=sz) p).set (i*sz+j) v=ai (sz:=sz) (p.set i q)
 |[],_,h,_=>by simp at h
 |x::p,0,_,hq=>by
  rw[List.set_cons_zero,dJ,dJ,hq,IY,mU,List.set_append,if_pos (by rw[ak.len];exact hj)];rfl
 |x::p,i+1,h,hq=>by
  rw[List.set_cons_succ,dJ,dJ,List.set_append,if_neg (by rw[ak.len,mM];omega),ak.len,<-Ni hj v q p i (by simpa using h) hq]
  congr 2
  rw[mM];omega
theorem WO.zQ {E:ig}{X:fR}{Γ:qV}{l:Kn}{L L':bZ}{K:KO}{x y:Operand}{t:TypeId}{a:aM}{n sz:Nat}{v:Value}{α:Type}{enc:ak α sz}{p:List α}{q:α}{i j c e:Nat}[ht:jc E t 1](hq:ak.cells (sz:=sz) q=(ak.cells (sz:=sz) (p.getD i (ak.ah (sz:=sz)))).set j v)(Cg:flat v=true)(hj:j<sz)
  (hx:Ev l x (dr a i sz j))(hy:Ev l y v)(hu:zd (.aQ (.slice a n c) e sz (ai (sz:=sz) p)) (.aQ (.slice a n c) e sz (ai (sz:=sz) (p.set i q))) L L')(hi:i<p.length)(k:∀n,K (.tuple ⟨[]⟩) L' n n (λi=>i∈aj a) (λi=>i∈aj a)):WO E X Γ l (.store t x y) L K:=λtm s h1 h2=>by
 obtain⟨R,p1,p2⟩:=hu.cZ;have hm:It.aQ (.slice a n c) e sz (ai (sz:=sz) p)∈L:=p1.mem_iff.2 ay;rcases h2.it _ hm with⟨h3,h4⟩|⟨b,n',k',w,aS,h3,h4,h5,h6⟩
 .cases h3
  have:=bp (sz:=sz) p;rw[h4] at this;have h7:0<p.length*sz:=Nat.mul_pos ag ag;simp at this;omega
 .cases h3
  have dG:=(h2.may hm (b:=b) (by simp[It.a8,mZ]));have hr:=h2.aY dG;have hil:i*sz+j<(ai (sz:=sz) p).length:=by
   rw[bp];have:(i+1)*sz<=p.length*sz:=KM _ hi;rw[mM] at this;omega
  have dM:fT (0+(i*sz+j)) [v] (ai (sz:=sz) p)=some (ai (sz:=sz) (p.set i q)):=by
   rw[mU,AL v _ _ hil,Ni hj v q p i hi hq]
  refine fW.pure (v:=.tuple ⟨[]⟩) (s':=(s.aY b).put b (some (.cells (ai (sz:=sz) (p.set i q)++aS) e w))) (λcall=>?_) ⟨L',(λi=>i∈aj (jz b)),(λi=>i∈aj (jz b)),hr.put hu rfl rfl ?_,(kP.trans (db dG.1 (by simp[aj])) (j6 (by simpa using dG.1) (by simp[aj]) (by simp[aj]))),by rw[eh,cz];exact k _⟩
  .show(FJ (aO tm x) λb o=>mV E s t b o (aO tm y))=_;rw[hx.eval h1,hy.eval h1];show mV E s t b (0+(i*sz+j)) v=_;unfold mV St.row St.look;rw[h4];simp only[cu,ht.h,BF Cg,aoE aS _ _ _ _ dM];have:jE [v]=true:=by show bo (flat v) true false=true;rw[Cg];rfl
   rw[this];rfl
  .exact .inr ⟨b,_,_,w,aS,rfl,by show T.get (St.heap _) b=_;simp,by rw[bp] at h5⊢;simpa using h5,aoK h6 (by rw[bp,bp,gN])⟩
section
variable {l:Kn}{t:TypeId}{a:aM}
theorem WO.aeM [jc E t 1](hx:Ev l x (dr a i 2 (0+0)))(hy:Ev l y (sv z))(hu:zd (.aQ (.slice a n c) e 2 (ai p)) (.aQ (.slice a n c) e 2 (ai (p.set i ⟨z,(p.getD i ak.ah).id⟩))) L L')(hi:i<p.length)(k:∀n,K (.tuple ⟨[]⟩) L' n n (λi=>i∈aj a) (λi=>i∈aj a)):WO E X Γ l (.store t x y) L K:=WO.zQ (q:=(⟨z,(p.getD i ak.ah).id⟩:a7)) rfl rfl ag hx hy hu hi k
theorem WO.al3 [jc E t 1](hx:Ev l x (dr a i 2 (0+1)))(hy:Ev l y (iv m))(hu:zd (.aQ (.slice a n c) e 2 (ai p)) (.aQ (.slice a n c) e 2 (ai (p.set i ⟨(p.getD i ak.ah).af,m⟩))) L L')(hi:i<p.length)(k:∀n,K (.tuple ⟨[]⟩) L' n n (λi=>i∈aj a) (λi=>i∈aj a)):WO E X Γ l (.store t x y) L K:=WO.zQ (q:=(⟨(p.getD i ak.ah).af,m⟩:a7)) rfl rfl ag hx hy hu hi k
theorem WO.ai4 [jc E t 1](hx:Ev l x (dr a i 3 (0+0)))(hy:Ev l y (iv m))(hu:zd (.aQ (.slice a n c) e 3 (ai w)) (.aQ (.slice a n c) e 3 (ai (w.set i ⟨m,(w.getD i ak.ah).aJ,(w.getD i ak.ah).bq⟩))) L L')(hi:i<w.length)(k:∀n,K (.tuple ⟨[]⟩) L' n n (λi=>i∈aj a) (λi=>i∈aj a)):WO E X Γ l (.store t x y) L K:=WO.zQ (q:=(⟨m,(w.getD i ak.ah).aJ,(w.getD i ak.ah).bq⟩:bP)) rfl rfl ag hx hy hu hi k
theorem WO.ai5 [jc E t 1](hx:Ev l x (dr a i 3 (0+1)))(hy:Ev l y (.bool b))(hu:zd (.aQ (.slice a n c) e 3 (ai w)) (.aQ (.slice a n c) e 3 (ai (w.set i ⟨(w.getD i ak.ah).id,b,(w.getD i ak.ah).bq⟩))) L L')(hi:i<w.length)(k:∀n,K (.tuple ⟨[]⟩) L' n n (λi=>i∈aj a) (λi=>i∈aj a)):WO E X Γ l (.store t x y) L K:=WO.zQ (q:=(⟨(w.getD i ak.ah).id,b,(w.getD i ak.ah).bq⟩:bP)) rfl rfl ag hx hy hu hi k
theorem WO.ahX [jc E t 1](hx:Ev l x (dr a i 3 (0+2)))(hy:Ev l y (sv z))(hu:zd (.aQ (.slice a n c) e 3 (ai w)) (.aQ (.slice a n c) e 3 (ai (w.set i ⟨(w.getD i ak.ah).id,(w.getD i ak.ah).aJ,z⟩))) L L')(hi:i<w.length)(k:∀n,K (.tuple ⟨[]⟩) L' n n (λi=>i∈aj a) (λi=>i∈aj a)):WO E X Γ l (.store t x y) L K:=WO.zQ (q:=(⟨(w.getD i ak.ah).id,(w.getD i ak.ah).aJ,z⟩:bP)) rfl rfl ag hx hy hu hi k
end
theorem abc (s:St)(a:aM)(c:Nat)(n:Int):bF 261 [.slice a 0 c,iv n] s [] (.bool false):=by
 refine aT f261 ?_;(repeat(first|refine' xT|refine' av|fail));refine W.bN (λk l L=>Le [(0,.slice a 0 c),(1,iv n),(5,iv 0)] l/\cC [] L/\k=0) (λl L=>True) 0 ⟨bj,ar,rfl⟩ ?_ ?_
 .rintro k l L ⟨hl,hL,rfl⟩;refine W.le ?_ hl hL;refine' cR
  all_goals first|trivial|(exfalso;simp_all;done)
 .rintro l L _;refine aq ?_;refine W.le ?_ (Le.nil _) (cC.nil _);refine' cR
  refine' ax;rfl
def H3 (o:Option Nat):Int:=(o.map Int.ofNat).getD (-1)
theorem ya {p:Nat->Bool}{n i:Nat}(h:0<n):nO p n i=if p i then some i else nO p (n-1) (i+1):=by obtain⟨m,rfl⟩:∃m,n=m+1:=⟨n-1,ag⟩;rfl
theorem qf (s:St)(v:SA)(st:au)(h64:st.bc.length=64)(a:aM)(c:Nat)(hr:cS s v st):bF 240 [.agg ⟨[.slice v.f 64 v.fc,.slice v.l 64 v.lc]⟩,iv 8,.slice a 0 c] s (iO v) (iv (H3 (DF st))):=by
 have uy:=Rd.off hr;refine aT f240 ?_;repeat' (first|refine' aW|refine' zc3|refine' av|fail)
 refine W.bN (λk l L=>∃(i:Nat),Le [(3,bg bx),(1,iv 8),(2,.slice a 0 c),(7,iv 56),(8,iv i)] l/\cC [.box bx [.slice v.f 64 v.fc,.slice v.l 64 v.lc] 78 false] L/\k=56-i/\i<=56/\nO (λi=>decide (st.bc.getD i 0=0)) 56 8=nO (λi=>decide (st.bc.getD i 0=0)) (56-i) (8+i))
  (λl L=>DF st=none) 56 ⟨0,bj,ar,ag,ag,rfl⟩ ?_ ?_
 .rintro k l L ⟨i,hl,hL,rfl,h1,h2⟩;refine W.le ?_ hl hL;clear hl hL;have hm:((8:Int)-8+(i:Int)).tmod 56=if i<56 then(i:Int) else((8:Int)-8+(i:Int)).tmod 56:=by
   split
   .rw[Int.tmod_eq_emod_of_nonneg ag,Int.emod_eq_of_lt ag ag];omega
   .rfl
  by_cases hi:i<56
  .rw[if_pos hi] at hm;have e:=ya (p:=λi=>decide (st.bc.getD i 0=0)) (n:=56-i) (i:=8+i) ag;have hx:8+(8-Nat.succ 7+i)% 56=8+i:=by omega
   refine' aiN
   ·(refine' ax)
    rw[hx] at ur;rw[show DF st=some (8+i) from h2.trans (e.trans (if_pos (bY ur)))];simp only[gL,H3,hm];congr 1
   .refine⟨_,?_,i+1,?_,ar,rfl,ag,?_⟩
    .omega
    .exact bj
    .rw[hx] at ur;rw[h2,e,if_neg (by rw[bQ];exact ur)]
     congr 1
   all_goals(exfalso;omega)
  .have fF:i=56:=by omega
   subst fF;refine' aiN;all_goals first|(exfalso;omega;done)|exact h2
 .rintro l L h1;refine aq ?_;refine W.le ?_ (Le.nil _) (cC.nil _);refine' cR
  refine' ax;rw[h1];rfl
theorem H4 (s:St)(v:SA)(st:au)(h:dA 100000 st)(z:az)(hr:cS s v st):bF 239 [fK v st,sv z] s (iO v) (iv (H3 (Ww st z))):=by
 have tZ:=Rd.EH hr;have uy:=Rd.off hr;have uC:=Rd.CM hr;have Lh:=h.lr;have Ce:=h.lf;have hll:=h.ll;refine aT f239 ?_;(repeat(first|refine' xT|refine' av|fail))
 refine W.bN (λk l L=>∃(i:Nat),Le [(2,bg bx),(1,sv z),(5,iv i)] l/\cC [.box bx (se v st) 81 false] L/\k=64-i/\8<=i/\i<=64/\Ww st z=nO (y5 st z) (64-i) i)
  (λl L=>Ww st z=none) 56 ⟨8,bj,ar,ag,ag,ag,rfl⟩ ?_ ?_
 .rintro k l L ⟨i,hl,hL,rfl,h0,h1,h2⟩;refine W.le ?_ hl hL;clear hl hL;by_cases hi:i<64
  .have e:=ya (p:=y5 st z) (n:=64-i) (i:=i) ag;have hn:y5 st z i=false->nO (y5 st z) (64-i) i=nO (y5 st z) (64-(i+1)) (i+1):=λhf=>by rw[e,hf];rfl
   have CP:y5 st z i=(decide (st.ez.getD i ak.ah=z)&&decide (st.dw.getD i ak.ah<st.fJ)&&decide (st.bc.getD i ak.ah<st.fJ)):=rfl;refine' cR
   ·(refine' ax)
    (have ht:y5 st z i=true:=by rw[CP];simp_all);rw[h2,e,if_pos ht];rfl
   rotate_left 3
   .exfalso;omega
   all_goals
    refine⟨_,?_,i+1,bj,ar,rfl,ag,ag,?_⟩
    .omega
    .rw[h2,hn (by rw[CP];first|(rw[hc];simp;done)|(rw[hg];simp;done))]
  .have fF:i=64:=by omega
   subst fF;refine' cR;all_goals first|(exfalso;omega;done)|exact h2
 .rintro l L h1;refine aq ?_;refine W.le ?_ (Le.nil _) (cC.nil _);refine' cR
  refine' ax;rw[h1];rfl
def adr (o:Option az):Value:=.tuple ⟨[sv (o.getD []),.bool o.isSome]⟩
theorem Hs (s:St)(v:SA)(st:au)(h:dA 100000 st)(p:jF)(hp:bC p=true)(hr:cS s v st):bF 175 [fK v st,pv p] s (iO v) (adr (j4 st p)):=by
 have tZ:=Rd.EH hr;have Lh:=h.lr;have hw:(st.ez.getD p.row.toNat ak.ah).length<=3000:=h.row p.row.toNat;cases hh:aI p with
 |true=>
  refine aT f175 ?_;refine' Cj;refine' ax;unfold j4;rw[if_pos hh];rfl
 |false=>
  have hrg:=zE hp hh;refine aT f175 ?_;repeat' (first|refine' aW|refine' Hq|refine' aeF|refine' av|fail)
  all_goals refine' ax
  all_goals(unfold j4;rw[if_neg (by rw[hh];simp)])
  .rw[if_neg (by simp_all [gy])];rfl
  .rw[if_pos (by simp_all [gy])];rfl
theorem Pm (s:St)(n:Int)(hn:0<=n/\n<=1000):eU bh bw 211 [iv n] s [] 83 (dh n.toNat):=by refine aT f211 ?_;refine' cR;all_goals(refine' kL);rfl
theorem H5 {st:au}(h:dA 100000 st)(p:jF):((j4 st p).getD []).length<=3000:=by
 unfold j4;split
 .simp
 .split
  .exact h.row _
  .simp
theorem DW (s:St)(v:SA)(st:au)(h:dA 100000 st)(p:jF)(level:Int)(hr:cS s v st):jQ bh bw 247 [fK v st,pv p,iv level] s (iO v) 83 ((below st p level).getD []) (below st p level).isSome:=by
 have tZ:=Rd.EH hr;have uy:=Rd.off hr;have uC:=Rd.CM hr;have V0:=H5 h p;cases hh:aI p with
 |true=>
  refine aT f247 ?_;repeat' (first|refine' aW|refine' Hq|refine' aeG|refine' av|fail)
  rw[Pg.oq hh];(refine' fk)<;>rfl
 |false=>
  have hb0:(bC p=false\/p.level≠level\/st.fJ<p.dt)->below st p level=none:=λhc=>by
   unfold below;rw[if_neg (by rw[hh];simp),if_pos (by simp;rcases hc with hc|hc|hc<;>simp[hc])]
  by_cases yA:bC p=true
  .refine aT f247 ?_;have FQ:p.level=level->p.dt<=st.fJ->below st p level=match j4 st p with
     |none=>none
     |some s=>match ky s with
      |none=>none
      |some l=>if l.any (λq=>decide (p.dt<q.dt)) then none else some l:=λh1 h2=>by
    unfold below;rw[if_neg (by rw[hh];simp),if_neg (by simp[yA,h1];omega)];rfl
   (repeat' (first|refine' aW|refine' Hq|refine' Tw|refine' AP|((with_reducible apply WO.oM);exact aC;exact λs=>TV s _ ag;intro _ _ wi wj _ _)|refine' av|fail))
   .rw[hb0 (.inr (.inr j8))];(refine' fk)<;>rfl
   .have hn:j4 st p=none:=by cases hx:j4 st p<;>simp_all
    rw[FQ ur aL,hn];(refine' fk)<;>rfl
   .obtain⟨z,hz⟩:=jh.1 (show(j4 st p).isSome=true by simp_all);have Vo:=FQ aL aL;rw[hz] at Vo⊢;simp only[qj] at *
    generalize hq:(ky z).getD []=q at *
    have hql:q.length<=4:=by
     cases hf:ky z with
     |none=>rw[hf] at hq;subst hq;simp
     |some l=>rw[hf] at hq;have:=(Pg.BP hf).1;simp at hq;subst hq;omega
    refine W.bN (λk l L=>∃(i:Nat),Le [(4,bg bx),(10,.slice wi q.length wj),(11,.bool (ky z).isSome),(12,iv i)] l/\cC [.aQ (.slice wi q.length wj) 83 5 (ai q),.box bx (rV p) 83 false] L/\k=q.length-i/\i<=q.length/\∀j,j<i->¬p.dt<(q.getD j ak.ah).dt)
     (λl L=>Le [(10,.slice wi q.length wj),(11,.bool (ky z).isSome)] l/\cC [.aQ (.slice wi q.length wj) 83 5 (ai q)] L/\∀j,j<q.length->¬p.dt<(q.getD j ak.ah).dt) q.length ⟨0,bj,ar,ag,ag,λj hj=>by omega⟩ ?_ ?_
    .rintro k l L ⟨i,hl,hL,rfl,h1,h2⟩;refine W.le ?_ hl hL;clear hl hL;refine' cR
     .have hn:below st p level=none:=by
       rw[Vo];cases hf:ky z with
       |none=>rfl
       |some w=>
        rw[hf] at hq;(have hq:w=q:=by simpa using hq);subst hq;simp only;rw[if_pos];rw[GM];exact⟨_,aK (show i<w.length by omega) ak.ah,by simpa using j8⟩
      rw[hn];(refine' fk)<;>rfl
     .refine⟨_,?_,i+1,bj,ar,rfl,ag,λj hj=>?_⟩
      .omega
      .by_cases uH:j=i
       .subst uH;omega
       .exact h2 j ag
     .exact⟨bj,ar,λj hj=>h2 j ag⟩
    .rintro l L ⟨hl,hL,h1⟩;refine aq ?_;refine W.le ?_ hl hL;clear hl hL;have:below st p level=ky z:=by
      rw[Vo];cases hf:ky z with
      |none=>rfl
      |some w=>
       rw[hf] at hq;(have hq:w=q:=by simpa using hq);subst hq;simp only;rw[if_neg];intro hc;obtain⟨x,hx,Tb⟩:=GM.1 hc;obtain⟨j,hj,rfl⟩:=iY hx;have:=h1 j hj;rw[pR _ hj] at this;exact this (by simpa using Tb)
     rw[this];refine' cR;refine' fk
     .exact hq
     .rfl
   .first
     |(exfalso;simp_all;done)
     |(rw[hb0 (.inr (.inl ur))];(refine' fk)<;>rfl)
   all_goals first
     |(exfalso;simp_all;done)
     |(rw[hb0 (.inr (.inl ur))];(refine' fk)<;>rfl)
  .have aiZ:bC p=false:=by simpa using yA
   (have Gp:(!bC p)=true:=by rw[aiZ];rfl);refine aT f247 ?_;(repeat' (first|refine' aW|refine' Hq|refine' Tw|refine' av|fail));rw[hb0 (.inl aiZ)];(refine' fk)<;>rfl
variable {q:dg}
section
variable {n:Int}
theorem MN {n:Nat}(h:down st (n+1:Nat) q=none):gX.go st (n+1) q=none:=by rw[gX.go,h]
theorem Ud {p:jF}(hp:p∈q)(h:below st p n=none):down st n q=none:=by
 cases hd:down st n q with
 |none=>rfl
 |some r=>have:=Pg.zC hd p hp;rw[h] at this;cases this
theorem Ue {q r:dg}{i:Nat}(hi:i<q.length)(h:down st n (q.take i)=some r){k:dg}(hk:below st (q.getD i ak.ah) n=some k):down st n (q.take (i+1))=some (r++k):=by rw[fI q ak.ah hi];have:=Pg.qb hk (Pg.MF st n);rw[gg] at this;exact Pg.EA h this
theorem vj (s:St)(v:SA)(st:au)(h:dA 100000 st)(t:cB)(ht:ek t)(hr:cS s v st):jQ bh bw 207 [fK v st,tv t] s (iO v) 83 ((gX st t).getD []) (gX st t).isSome:=by
 have tZ:=Rd.EH hr;have uy:=Rd.off hr;have uC:=Rd.CM hr;have hdp:=ht.dp;refine aT f207 ?_;(repeat(first|refine' xT|refine' av|fail))
 have h4:∀n:Nat,n<=2->4^ n<=16:=λn hn=>by
  have:n=0\/n=1\/n=2:=by omega
  rcases this with rfl|rfl|rfl<;>decide
 refine W.bN (λk l L=>∃(n:Nat)(q:dg)(a:aM)(c bs:Nat),Le [(2,bg bs),(6,.slice a q.length c),(7,iv n)] l/\cC [.aQ (.slice a q.length c) 83 5 (ai q),.box bs (se v st) 81 false] L/\k=n/\q.length*4^ n<=16/\gX st t=gX.go st n q/\n<=2)
  (λl L=>∃(q:dg)(a:aM)(c:Nat),Le [(6,.slice a q.length c)] l/\cC [.aQ (.slice a q.length c) 83 5 (ai q)] L/\gX st t=some q) t.depth.toNat ⟨t.depth.toNat,[t.cI],some ⟨bl,0,none⟩,1,_,(by rw[yF hdp.1];exact bj),ar,rfl,?_,rfl,ag⟩ ?_ ?_
 .have:=h4 t.depth.toNat ag;simpa using this
 .rintro k l L ⟨n,q,a,c,bs,hl,hL,hk,h1,h2,G9⟩;refine W.le ?_ hl hL;clear hl hL;subst hk;cases k with
  |zero=>
   refine' cR;(all_goals try exact pJ);exact⟨q,a,c,bj,ar,h2⟩
  |succ n=>
   have an8:q.length<=16:=by
    have:1<=4^ (n+1):=Nat.pow_pos ag;exact gK (VB _ this) h1
   have H6:∀p∈q,below st p ((n+1:Nat):Int)=none->gX st t=none:=λp hp hb=>by
    rw[h2,MN (Ud hp hb)]
   refine' cR
   rotate_left 1
   .exfalso;omega
   refine W.bN (λk l L=>∃(i:Nat)(r:dg)(a2:aM)(c2:Nat),Le [(2,bg bs),(6,.slice a q.length c),(7,iv ((n+1:Nat):Int)),(8,.slice a2 r.length c2),(9,iv i)] l/\cC [.aQ (.slice a2 r.length c2) 83 5 (ai r),.aQ (.slice a q.length c) 83 5 (ai q),.box bs (se v st) 81 false] L/\k=q.length-i/\i<=q.length/\down st ((n+1:Nat):Int) (q.take i)=some r)
    (λl L=>∃(r:dg)(a2:aM)(c2:Nat),Le [(2,bg bs),(7,iv ((n+1:Nat):Int)),(8,.slice a2 r.length c2)] l/\cC [.aQ (.slice a2 r.length c2) 83 5 (ai r),.box bs (se v st) 81 false] L/\down st ((n+1:Nat):Int) q=some r) q.length ⟨0,[],_,_,bj,ar,ag,ag,rfl⟩ ?_ ?_
   .rintro k l L ⟨i,r,a2,c2,hl,hL,rfl,h3,h4⟩;refine W.le ?_ hl hL;clear hl hL;have V0:=(Pg.zB h4).1;rw[cW] at V0;have PU:((below st (q.getD i ak.ah) ((n+1:Nat):Int)).getD []).length<=4:=by
     cases hb:below st (q.getD i ak.ah) ((n+1:Nat):Int) with
     |none=>simp
     |some w=>have:=(Pg.iW hb).1;simp;omega
    repeat' (first|refine' aW|refine' aaW|refine' av|fail)
    .have hn:below st (q.getD i ak.ah) ((n+1:Nat):Int)=none:=by
      cases hb:below st (q.getD i ak.ah) ((n+1:Nat):Int) with
      |none=>rfl
      |some w=>rw[hb] at j8;cases j8
     rw[H6 _ (aK (show i<q.length by omega) _) hn];(refine' fk)<;>rfl
    .obtain⟨w,hw⟩:=jh.1 j8;rw[hw];refine⟨_,?_,i+1,r++w,_,_,bj,ar,rfl,ag,Ue ag h4 hw⟩;omega
    .have hi:i=q.length:=by omega
     subst hi;rw[gY] at h4;exact⟨r,_,_,bj,ar,h4⟩
   .rintro l L ⟨r,a2,c2,hl,hL,h3⟩;refine aq ?_;refine W.le ?_ hl hL;clear hl hL;have V0:=(Pg.zB h3).1;refine' cR
    refine⟨_,?_,n,r,_,_,_,?_,ar,rfl,?_,?_,ag⟩
    .omega
    .have:((n+1:Nat):Int)-1=(n:Nat):=by omega
     rw[this];exact bj
    .rw[V0];rw[Vy] at h1;have:4*q.length*4^ n=q.length*(4^ n*4):=by rw[GO 4,Nat.mul_assoc,GO 4]
     omega
    .rw[h2,gX.go,h3]
 .rintro l L ⟨q,a,c,hl,hL,h1⟩;refine aq ?_;refine W.le ?_ hl hL;clear hl hL;rw[h1];refine' cR
  (refine' fk)<;>rfl
end
section
variable {t:cB}
theorem H7 {st:au}(ht:ek t){l:dg}(h:gX st t=some l):l.length<=16/\∀p∈l,bC p=true:=by
 unfold gX at h;rw[Pg.rH] at h;cases hl:Pg.pT st t.depth.toNat [t.cI] with
 |none=>rw[hl] at h;cases h
 |some r=>
  rw[hl] at h;obtain⟨a,q⟩:=r;have h:a=l:=by simpa using h
  subst h;obtain⟨h1,h2⟩:=Pg.EE hl;refine⟨?_,h2 (by simpa using ht.rt)⟩;have hd:=ht.dp;have:t.depth.toNat=0\/t.depth.toNat=1\/t.depth.toNat=2:=by omega
  rw[h1];rcases this with h|h|h<;>rw[h]<;>simp
theorem rI {st:au}(ht:ek t):((gX st t).getD []).length<=16/\(wide st t).length=16/\∀p∈wide st t,bC p=true:=by
 unfold wide;cases h:gX st t with
 |none=>exact⟨ay,by simp[dh],λp hp=>by
  have hp:p∈dh 16:=by simpa using hp
  rw[Pg.mI hp];decide⟩
 |some l=>
  obtain⟨h1,h2⟩:=H7 ht h;refine⟨h1,by simp[dh];omega,λp hp=>?_⟩;rcases eZ.1 hp with hp|hp
  .exact h2 p hp
  .rw[Pg.mI hp];decide
theorem Hv (s:St)(v:SA)(st:au)(h:dA 100000 st)(t:cB)(ht:ek t)(hr:cS s v st):eU bh bw 174 [fK v st,tv t] s (iO v) 83 (wide st t):=by
 have tZ:=Rd.EH hr;have uy:=Rd.off hr;have uC:=Rd.CM hr;have hw:=(rI (st:=st) ht).1;have hh:(dh (16-(((gX st t).getD []).length:Int)).toNat).length<=16:=by rw[Pg.jv];omega
 refine aT f174 ?_;repeat' (first|refine' aW|refine' ahQ|refine' aeG|refine' av|fail)
 refine' kL;unfold wide;simp only[pn]
 congr 2
 omega
theorem MO {st:au}(h:dA 100000 st)(p:jF):(bq st p).length<=3000:=H5 h p
theorem MP (s:St)(v:SA)(st:au)(h:dA 100000 st)(t:cB)(ht:ek t)(k:Nat)(hk:k<16)(hr:cS s v st):bF 246 [fK v st,tv t,iv k] s (iO v) (sv (Tf st t k)):=by
 have tZ:=Rd.EH hr;have uy:=Rd.off hr;have uC:=Rd.CM hr;obtain⟨_,hw,MQ⟩:=rI (st:=st) ht;have yA:bC ((wide st t).getD k ak.ah)=true:=MQ _ (aK ag _);refine aT f246 ?_;repeat' (first|refine' aW|refine' DX|refine' AP|refine' av|fail)
 refine' ax;rfl
theorem DZ (s:St)(v:SA)(st:au)(h:dA 100000 st)(t:cB)(ht:ek t)(hr:cS s v st):eU bh bw 122 [fK v st,tv t] s (iO v) 9 (iy st t):=by
 have tZ:=Rd.EH hr;have uy:=Rd.off hr;have uC:=Rd.CM hr;obtain⟨_,hw,MQ⟩:=rI (st:=st) ht;have yx:=ht.mn;refine aT f122 ?_;repeat' (first|refine' aW|refine' DX|refine' av|fail)
 rw[show iy st t=((wide st t).take t.many.toNat).map (bq st) from rfl];generalize wide st t=w at *
 refine W.bN (λk l L=>∃(i bs bt:Nat)(r:List az)(a2:aM)(c2:Nat),Le [(2,bg bs),(3,bg bt),(6,.slice L1 w.length L3),(5,.slice a2 r.length c2),(7,iv i)] l/\cC [.aQ (.slice a2 r.length c2) 9 1 (ai r),.aQ (.slice L1 w.length L3) 83 5 (ai w),.box bs (se v st) 81 false,.box bt (im t) 85 false] L/\k=t.many.toNat-i/\i<=t.many.toNat/\r=(w.take i).map (bq st))
  (λl L=>∃(a2:aM)(c2:Nat),Le [(5,.slice a2 ((w.take t.many.toNat).map (bq st)).length c2)] l/\cC [.aQ (.slice a2 ((w.take t.many.toNat).map (bq st)).length c2) 9 1 (ai ((w.take t.many.toNat).map (bq st)))] L) t.many.toNat ⟨0,_,_,[],_,_,bj,ar,ag,ag,rfl⟩ ?_ ?_
 .rintro k l L ⟨i,bs,bt,r,a2,c2,hl,hL,rfl,h1,h2⟩;refine W.le ?_ hl hL;clear hl hL;have V0:r.length<=16:=by rw[h2];simp;omega
  by_cases hi:i<t.many.toNat
  .have yA:bC (w.getD i ak.ah)=true:=MQ _ (aK ag _);repeat' (first|refine' aW|refine' AP|refine' av|fail)
   .refine⟨_,?_,i+1,_,_,r++[bq st (w.getD i ak.ah)],_,_,bj,ar,rfl,ag,?_⟩
    .omega
    .rw[h2,fI w ak.ah ag];simp
   all_goals(exfalso;omega)
  .have fF:i=t.many.toNat:=by omega
   subst fF;subst h2;(repeat' (first|refine' aW|refine' AP|refine' av|fail));all_goals first|(exfalso;omega;done)|exact⟨_,_,bj,ar⟩
 .rintro l L ⟨a2,c2,hl,hL⟩;refine aq ?_;refine W.le ?_ hl hL;clear hl hL;refine' cR
  refine' kL;rfl
theorem TK (s:St)(a:aM)(c:Nat)(p:dg)(hp:p.length<=3000)(hr:bH s a p.length 5 (ai p)):bF 263 [.slice a p.length c] s (aj a) (.bool (p.all aI)):=by
 have hd:=Rd.of hr (A:=aj a) λb hb=>hb
 refine aT f263 ?_;(repeat(first|refine' xT|refine' av|fail))
 refine W.bN (λk l L=>∃(i:Nat),Le [(0,.slice a p.length c),(3,iv i)] l/\cC [] L/\k=p.length-i/\i<=p.length/\(p.take i).all aI=true)
  (λl L=>p.all aI=true) p.length ⟨0,bj,ar,ag,ag,rfl⟩ ?_ ?_
 .rintro k l L ⟨i,hl,hL,rfl,h1,h2⟩;refine W.le ?_ hl hL;clear hl hL;by_cases hi:i<p.length
  .have e:=fI p ak.ah hi;refine' Cj
   ·(refine' ax)
    have:p.all aI=false:=by
     rw[GK];exact⟨_,aK hi ak.ah,by simp_all⟩
    rw[this];rfl
   .refine⟨_,?_,i+1,bj,ar,rfl,ag,?_⟩
    .omega
    .rw[e,GJ,h2];simp_all
   all_goals(exfalso;omega)
  .have fF:i=p.length:=by omega
   subst fF;rw[gY] at h2;refine' Cj;all_goals first|(exfalso;omega;done)|exact h2
 .rintro l L h1;refine aq ?_;refine W.le ?_ (Le.nil _) (cC.nil _);refine' cR
  refine' ax;rw[h1];rfl
end
theorem Rr (s:St)(v:SA)(st:au)(h:dA 100000 st)(t:cB)(hr:cS s v st):bF 170 [fK v st,tv t] s (iO v) (.bool (fw st t)):=by
 have tZ:=Rd.EH hr;have uy:=Rd.off hr;have uC:=Rd.CM hr;by_cases hT:fV t.many 0 16=true/\t.depth=cQ t.many/\bC t.cI=true
 .obtain⟨h1,h2,h3⟩:=hT;have yx:0<=t.many/\t.many<=16:=by simpa[fV] using h1
  have ht:ek t:=⟨h3,yx,by have:=Pg.fD t.many;omega⟩;have g1:(!fV t.many 0 16)=false:=by rw[h1];rfl
  have g2:(!decide (t.depth=cQ t.many))=false:=by simp[h2]
  have g3:(!bC t.cI)=false:=by rw[h3];rfl
  have DR:fw st t=match gX st t with
    |none=>false
    |some l=>kG (kX st t.many) 0 l:=by
   unfold fw;rw[h1,h3];simp[h2];rfl
  rw[DR];cases hl:gX st t with
  |none=>
   (have hs:(gX st t).isSome=false:=by rw[hl];rfl);refine aT f170 ?_;(repeat' (first|refine' aW|refine' Ow|refine' Xh|refine' Tw|refine' ahQ|refine' av|fail));all_goals first|((refine' ax);rfl)|(exfalso;simp_all;done)
  |some q=>
   obtain⟨hq,hqo⟩:=H7 ht hl;have w7:∀s,cS s v st->jQ bh bw 207 [fK v st,tv t] s (iO v) 83 q true:=λs hr=>by
    have:=vj s v st h t ht hr;rw[hl] at this;exact this
   refine aT f170 ?_;(repeat' (first|refine' aW|refine' Ow|refine' Xh|refine' Tw|((with_reducible apply WO.tS);exact aC;exact λs hr=>w7 s hr;exact eF;intro _ _ BR BS _ _)|refine' av|fail))
   refine W.bN (λk l L=>∃(i bs bt:Nat),Le [(2,bg bs),(3,bg bt),(5,.slice BR q.length BS),(7,iv i)] l/\cC [.aQ (.slice BR q.length BS) 83 5 (ai q),.box bs (se v st) 81 false,.box bt (im t) 85 false] L/\k=q.length-i/\i<=q.length/\kG (kX st t.many) 0 q=kG (kX st t.many) i (q.drop i))
    (λl L=>kG (kX st t.many) 0 q=true) q.length ⟨0,_,_,bj,ar,ag,ag,rfl⟩ ?_ ?_
   .rintro k l L ⟨i,bs,bt,hl,hL,rfl,h4,h5⟩;refine W.le ?_ hl hL;clear hl hL;by_cases hi:i<q.length
    .have yA:bC (q.getD i ak.ah)=true:=hqo _ (aK hi _);have e:kG (kX st t.many) i (q.drop i)=(kX st t.many i (q.getD i ak.ah)&&kG (kX st t.many) (i+1) (q.drop (i+1))):=by
      rw[ui hi,pR _ hi];rfl
     rw[e] at h5;(have nN:kX st t.many i (q.getD i ak.ah)=false->kG (kX st t.many) 0 q=false:=λhf=>by rw[h5,hf];rfl);(have hye:kX st t.many i (q.getD i ak.ah)=true->kG (kX st t.many) 0 q=kG (kX st t.many) (i+1) (q.drop (i+1)):=λhf=>by rw[h5,hf];rfl);have Ce:kX st t.many i (q.getD i ak.ah)=(aI (q.getD i ak.ah)||((j4 st (q.getD i ak.ah)).isSome&&decide ((q.getD i ak.ah).level=0)&&decide ((q.getD i ak.ah).dt<=st.fJ)&&decide ((i:Int)<t.many))):=rfl;repeat' (first|refine' aW|refine' Hq|refine' AP|refine' av|fail)
     .refine⟨_,?_,i+1,_,_,bj,ar,rfl,ag,hye (by rw[Ce,hc];rfl)⟩;omega
     rotate_left 1
     .refine⟨_,?_,i+1,_,_,bj,ar,rfl,ag,hye ?_⟩
      .omega
      .rw[Ce];simp only[mf,bO,bQ]
       right
       exact⟨⟨⟨aL,aL⟩,aL⟩,aL⟩
     rotate_left 3
     .exfalso;omega
     all_goals
      (have hh:aI (q.getD i ak.ah)=false:=by assumption);refine' ax;dsimp only
      have:kG (kX st t.many) 0 q=false:=by
       refine nN (Bool.eq_false_iff.2 λhx=>?_);rw[Ce] at hx;simp only[mf,bO,bQ] at hx;rcases hx with hx|⟨⟨⟨hx1,Tb⟩,hx3⟩,hx4⟩
       .rw[hx] at hh;cases hh
       .first|omega|exact ur Tb|(rw[hx1] at ur;cases ur)
      rw[this];rfl
    .have fF:i=q.length:=by omega
     subst fF;(repeat' (first|refine' aW|refine' Hq|refine' AP|refine' av|fail));all_goals first|(exfalso;omega;done)|(rw[h5,iI];rfl)
   .rintro l L h5;refine aq ?_;refine W.le ?_ (Le.nil _) (cC.nil _);refine' cR
    refine' ax;dsimp only;rw[h5];rfl
 .have hf:fw st t=false:=by
   unfold fw;by_cases h1:fV t.many 0 16=true
   .by_cases h2:t.depth=cQ t.many
    .by_cases h3:bC t.cI=true
     .exact absurd ⟨h1,h2,h3⟩ hT
     .simp[h3]
    .simp[h2]
   .simp[h1]
  rw[hf];refine aT f170 ?_;repeat' (first|refine' aW|refine' Ow|refine' Xh|refine' Tw|refine' av|fail)
  all_goals first|((refine' ax);rfl)|(exfalso;simp_all;done)
theorem lq {st:au}(h:dA 100000 st){t:cB}(ht:ek t):(iy st t).length=t.many.toNat/\∀s∈iy st t,s.length<=3000:=by have hw:=(rI (st:=st) ht).2.1;have hm:=ht.mn;unfold iy;refine⟨by rw[td,cW,hw];omega,λs hs=>?_⟩;obtain⟨p,_,rfl⟩:=jK.1 hs;exact MO h p
theorem drop_cons {α:Type}{sz:Nat}[ak α sz]{q:List α}{i:Nat}(hi:i<q.length):q.drop i=q.getD i (ak.ah (α:=α) (sz:=sz))::q.drop (i+1):=by rw[ui hi,pR _ hi]
theorem MS (s:St)(v:SA)(st:au)(h:dA 100000 st)(t:cB)(ht:ek t)(hr:cS s v st):bF 208 [fK v st,tv t] s (iO v) (adr (oK st t)):=by
 have tZ:=Rd.EH hr;have uy:=Rd.off hr;have uC:=Rd.CM hr;obtain⟨hl,dG⟩:=lq h ht;have hm:=ht.mn;refine aT f208 ?_;refine' XZ
 unfold oK;generalize iy st t=w at *
 refine W.bN (λk l L=>∃(i bt:Nat)(z:az),Le [(3,bg bt),(7,.slice gF w.length gG),(6,sv z),(8,iv i)] l/\cC [.aQ (.slice gF w.length gG) 9 1 (ai w),.box bt (im t) 85 false] L/\k=w.length-i/\i<=w.length/\z.length<=i*3000/\px t.many 0 w []=px t.many i (w.drop i) z)
  (λl L=>∃z:az,Le [(6,sv z)] l/\cC [] L/\px t.many 0 w []=some z) w.length ⟨0,_,[],bj,ar,ag,ag,ay,rfl⟩ ?_ ?_
 .rintro k l L ⟨i,bt,z,jM,hL,rfl,h1,h2,h3⟩;refine W.le ?_ jM hL;clear jM hL;by_cases hi:i<w.length
  .have RQ:=dG _ (aK hi ak.ah);rw[drop_cons hi,px] at h3;refine' cR
   .have hn:px t.many 0 w []=none:=by
     rw[h3,if_pos];simp only[mf,bO,bQ];exact .inr ⟨aL,ag⟩
    rw[hn];refine' ax;rfl
   .rw[if_neg (by simp only[mf,bO,bQ];rintro(hx|⟨_,hx⟩)<;>first|exact absurd hx aL|omega)] at h3;refine⟨_,?_,i+1,_,_,bj,ar,rfl,ag,?_,h3⟩
    .omega
    .rw[bL];omega
   .rw[if_neg (by simp only[mf,bO,bQ];rintro(hx|⟨_,hx⟩)<;>first|exact absurd hx aL|omega)] at h3;refine⟨_,?_,i+1,_,_,bj,ar,rfl,ag,?_,h3⟩
    .omega
    .rw[bL];omega
   .have hn:px t.many 0 w []=none:=by
     rw[h3,if_pos];simp only[mf,bO,bQ];exact .inl ur
    rw[hn];refine' ax;rfl
   .exfalso;omega
  .have fF:i=w.length:=by omega
   subst fF;rw[iI] at h3;refine' cR;all_goals first|(exfalso;omega;done)|exact⟨z,bj,ar,h3⟩
 .rintro l L ⟨z,jM,hL,h3⟩;refine aq ?_;refine W.le ?_ jM hL;refine' cR
  refine' ax;rw[h3];rfl
theorem BU (s:St)(z:az)(hz:z.length<=100000):eU bh bw 245 [sv z] s [] 9 (dB (z.length+1) z):=by
 refine aT f245 ?_;(repeat(first|refine' xT|refine' av|fail))
 refine W.bN (λk l L=>∃(f:Nat)(y:az)(q:List az)(a:aM)(c:Nat),Le [(0,sv y),(3,.slice a q.length c)] l/\cC [.aQ (.slice a q.length c) 9 1 (ai q)] L/\k=y.length/\y.length<f/\q.length+y.length<=z.length/\dB (z.length+1) z=q++dB f y)
  (λl L=>∃(y:az)(q:List az)(a:aM)(c:Nat),Le [(0,sv y),(3,.slice a q.length c)] l/\cC [.aQ (.slice a q.length c) 9 1 (ai q)] L/\q.length<=z.length/\dB (z.length+1) z=q++if y=[] then [] else [y]) z.length ⟨z.length+1,z,[],_,_,bj,ar,rfl,ag,ay,ay⟩ ?_ ?_
 .rintro k l L ⟨f,y,q,a,c,hl,hL,rfl,h1,h2,h3⟩;refine W.le ?_ hl hL;clear hl hL;obtain⟨f,rfl⟩:∃g,f=g+1:=⟨f-1,ag⟩;rw[show dB (f+1) y=if 128<y.length then y.take 128::dB f (y.drop 128) else if y=[] then [] else [y] from rfl] at h3;refine' cR
  .rw[if_pos ag] at h3;refine⟨_,?_,f,y.drop 128,q++[y.take 128],_,_,bj,ar,rfl,?_,?_,?_⟩
   .rw[eW];omega
   .rw[eW];omega
   .simp only[bL,eW,cY,lW];omega
   .rw[h3];simp
  .rw[if_neg ag] at h3;exact⟨y,q,_,_,bj,ar,ag,h3⟩
 .rintro l L ⟨y,q,a,c,hl,hL,h1,h3⟩;refine aq ?_;refine W.le ?_ hl hL;clear hl hL;rw[h3];by_cases hy:y=[]
  .subst hy;refine' cR
   all_goals first|(exfalso;simp_all;done)|((refine' kL);simp)
  .rw[if_neg hy];refine' cR
   all_goals first|(exfalso;simp_all;done)|((refine' kL);rfl)
theorem AS (s:St)(v:SA)(st:au)(h:dA 100000 st)(t:cB)(ht:ek t)(k:Int)(hk: -1000<=k/\k<=1000)(hr:cS s v st):bF 200 [fK v st,tv t,iv k] s (iO v) (vx (jr st t k)):=by
 have tZ:=Rd.EH hr;have uy:=Rd.off hr;have uC:=Rd.CM hr;have hm:=ht.mn;by_cases hi:fV k 0 (t.many-1)=true
 .have hkr:0<=k/\k<=t.many-1:=by simpa[fV] using hi
  obtain⟨n,rfl⟩:=wT hkr.1;have gP:(Tf st t n).length<=3000:=MO h _;have hn:(!fV (n:Int) 0 (t.many-1))=false:=by rw[hi];rfl
  unfold jr;rw[if_neg (by rw[hi];simp),uK];refine aT f200 ?_;(repeat' (first|refine' aW|refine' Ow|((with_reducible apply WO.mq);exact aC;(first|exact λs hr=>MP s _ _ aL _ aL _ ag hr|exact λs hr=>MP s _ _ aL ⟨⟨_,_,_,_,_⟩,_,_⟩ aL _ ag hr);exact eF;intros)|((with_reducible apply WO.aV);exact aC;exact λs=>ua s _ ag;intros)|refine' av|fail));refine' ax;cases eR (Tf st t n)<;>rfl
 .have fF:fV k 0 (t.many-1)=false:=by simpa using hi
  have hn:(!fV k 0 (t.many-1))=true:=by rw[fF];rfl
  unfold jr;rw[if_pos hn];refine aT f200 ?_;refine' zb2;refine' ax;rfl
theorem PX (s:St)(v:SA)(st:au)(h:dA 100000 st)(t:cB)(ht:ek t)(hr:cS s v st):bF 155 [fK v st,tv t] s (iO v) (iv (H3 (vb st t))):=by
 have tZ:=Rd.EH hr;have uy:=Rd.off hr;have uC:=Rd.CM hr;obtain⟨hl,dG⟩:=lq h ht;have hm:=ht.mn;refine aT f155 ?_;refine' XZ
 unfold vb;generalize iy st t=w at *
 refine W.bN (λk l L=>∃(i:Nat),Le [(5,.slice gF w.length gG),(6,iv i)] l/\cC [.aQ (.slice gF w.length gG) 9 1 (ai w)] L/\k=16-i/\i<=16/\nO (λk=>decide (w.getD k []=[])) 16 0=nO (λk=>decide (w.getD k []=[])) (16-i) i)
  (λl L=>nO (λk=>decide (w.getD k []=[])) 16 0=none) 16 ⟨0,bj,ar,ag,ag,rfl⟩ ?_ ?_
 .rintro k l L ⟨i,jM,hL,rfl,h1,h2⟩;refine W.le ?_ jM hL;clear jM hL;by_cases hi:i<16
  .rw[ya (n:=16-i) (i:=i) ag] at h2;by_cases hiw:i<w.length
   ·(refine' cR)
    all_goals try exact pJ
    .rw[show nO (λk=>decide (w.getD k []=[])) 16 0=some i from h2.trans (if_pos (bY j8))];refine' ax;rfl
    .refine⟨_,?_,i+1,bj,ar,rfl,ag,?_⟩
     .omega
     .exact h2.trans (if_neg (by rw[bQ];exact j8))
   .have afg:w.getD i []=[]:=by rw[aZ,sh ag];rfl
    refine' cR;(all_goals try exact pJ);rw[show nO (λk=>decide (w.getD k []=[])) 16 0=some i from h2.trans (if_pos (bY afg))];refine' ax;rfl
  .have fF:i=16:=by omega
   subst fF;refine' cR;all_goals first|(exfalso;omega;done)|exact h2
 .rintro l L h1;refine aq ?_;refine W.le ?_ (Le.nil _) (cC.nil _);refine' cR
  refine' ax;rw[h1];rfl
theorem PY (s:St)(v:SA)(st:au)(h:dA 100000 st)(t:cB)(ht:ek t)(BD:Int)(hr:cS s v st):bF 201 [fK v st,tv t,iv BD] s (iO v) (iv (rz st t BD)):=by
 have tZ:=Rd.EH hr;have uy:=Rd.off hr;have uC:=Rd.CM hr;obtain⟨hl,dG⟩:=lq h ht;have hm:=ht.mn;refine aT f201 ?_;refine' XZ
 unfold rz;generalize iy st t=w at *
 refine W.bN (λk l L=>∃(i n bt:Nat),Le [(2,iv BD),(4,bg bt),(7,iv n),(8,.slice gF w.length gG),(9,iv i)] l/\cC [.aQ (.slice gF w.length gG) 9 1 (ai w),.box bt (im t) 85 false] L/\k=w.length-i/\i<=w.length/\mm BD 0 0 w=mm BD i n (w.drop i))
  (λl L=>Le [(7,iv (mm BD 0 0 w))] l/\cC [] L) w.length ⟨0,0,_,bj,ar,ag,ag,rfl⟩ ?_ ?_
 .rintro k l L ⟨i,n,bt,jM,hL,rfl,h1,h2⟩;refine W.le ?_ jM hL;clear jM hL;by_cases hi:i<w.length
  .rw[drop_cons hi,mm] at h2;refine' cR
   all_goals try exact pJ
   .rw[if_pos (by simp only[bO,bQ];exact⟨ur,j8⟩)] at h2;refine⟨_,?_,i+1,i+1,_,bj,ar,rfl,ag,h2⟩;omega
   .rw[if_neg (by simp only[bO,bQ];rintro⟨_,hx⟩;exact hx j8)] at h2;refine⟨_,?_,i+1,n,_,bj,ar,rfl,ag,h2⟩;omega
   .rw[if_neg (by simp only[bO,bQ];rintro⟨hx,_⟩;exact hx ur)] at h2;refine⟨_,?_,i+1,n,_,bj,ar,rfl,ag,h2⟩;omega
  .have fF:i=w.length:=by omega
   subst fF;rw[iI] at h2;have h2:mm BD 0 0 w=n:=h2;refine' cR;all_goals first|(exfalso;omega;done)|(rw[h2];exact⟨bj,ar⟩)
 .rintro l L ⟨jM,hL⟩;refine aq ?_;refine W.le ?_ jM hL;refine' cR
  refine' ax;rfl
section
variable {s:az}
theorem ek.of {t:cB}(h:fw st t=true):ek t:=by unfold fw at h;simp only[bO,bQ,fV] at h;obtain⟨⟨⟨h1,h2⟩,h3⟩,_⟩:=h;exact⟨h3,h1,by have:=Pg.fD t.many;omega⟩
def Cn (st:au)(s:az):Bool:=decide (s=[])||match eR s with
 |none=>false
 |some n=>fw st n.aX
theorem EY (st:au)(t:cB):oJ st t=(fw st t&&(iy st t).all (Cn st)):=rfl
theorem M7 (h:decide (s=[])=true):Cn st s=true:=by unfold Cn;rw[h];rfl
theorem Ul (h:decide (s=[])=false)(hn:eR s=none):Cn st s=false:=by unfold Cn;rw[h,hn];rfl
theorem Ib {n:iM}(h:decide (s=[])=false)(hn:eR s=some n):Cn st s=fw st n.aX:=by unfold Cn;rw[h,hn];rfl
theorem Ma (s:St)(v:SA)(st:au)(h:dA 100000 st)(t:cB)(hr:cS s v st):bF 119 [fK v st,tv t] s (iO v) (.bool (oJ st t)):=by
 have tZ:=Rd.EH hr;have uy:=Rd.off hr;have uC:=Rd.CM hr;cases fm:fw st t with
 |false=>
  have hn:(!fw st t)=true:=by rw[fm];rfl
  rw[EY,fm,Bs];refine aT f119 ?_;repeat' (first|refine' aW|refine' Pr|refine' av|fail)
  refine' ax;rfl
 |true=>
  have hn:(!fw st t)=false:=by rw[fm];rfl
  have ht:=ek.of fm;obtain⟨hl,dG⟩:=lq h ht;have hm:=ht.mn;rw[EY,fm,uL];refine aT f119 ?_;repeat' (first|refine' aW|refine' Pr|refine' aeJ|refine' av|fail)
  generalize iy st t=w at *
  refine W.bN (λk l L=>∃(i bs bt:Nat),Le [(2,bg bs),(3,bg bt),(5,.slice gF w.length gG),(6,iv i)] l/\cC [.aQ (.slice gF w.length gG) 9 1 (ai w),.box bs (se v st) 81 false,.box bt (im t) 85 false] L/\k=w.length-i/\i<=w.length/\w.all (Cn st)=(w.drop i).all (Cn st))
   (λl L=>w.all (Cn st)=true) w.length ⟨0,_,_,bj,ar,ag,ag,rfl⟩ ?_ ?_
  .rintro k l L ⟨i,bs,bt,jM,hL,rfl,h1,h2⟩;refine W.le ?_ jM hL;clear jM hL;by_cases hi:i<w.length
   .have RQ:=dG _ (aK hi ak.ah);rw[drop_cons hi,List.all_cons] at h2;cases YK:eR (w.getD i ak.ah) with
    |none=>
     have hng:∀s,bF 123 [sv (w.getD i ak.ah)] s [] (vx none):=λs=>by
      have:=ua s _ (show(w.getD i ak.ah).length<=100000 by omega);rwa [YK] at this
     (repeat' (first|refine' aW|((with_reducible apply WO.aV);exact aC;exact λs=>hng s;intros)|refine' av|fail));all_goals try exact pJ
     .refine⟨_,?_,i+1,_,_,bj,ar,rfl,ag,by rw[h2,M7 hc];rfl⟩;omega
     .have hn:w.all (Cn st)=false:=by rw[h2,Ul hc YK];rfl
      rw[hn];refine' ax;rfl
    |some n=>
     have hng:∀s,bF 123 [sv (w.getD i ak.ah)] s [] (vx (some n)):=λs=>by
      have:=ua s _ (show(w.getD i ak.ah).length<=100000 by omega);rwa [YK] at this
     (repeat' (first|refine' aW|((with_reducible apply WO.aV);exact aC;exact λs=>hng s;intros)|refine' Pr|refine' av|fail));all_goals try exact pJ
     .refine⟨_,?_,i+1,_,_,bj,ar,rfl,ag,by rw[h2,M7 hc];rfl⟩;omega
     .have j8:fw st n.aX=false:=j8;have hn:w.all (Cn st)=false:=by rw[h2,Ib aL YK,j8];rfl
      rw[hn];refine' ax;rfl
     .have j8:fw st n.aX=true:=j8;refine⟨_,?_,i+1,_,_,bj,ar,rfl,ag,by rw[h2,Ib aL YK,j8];rfl⟩;omega
   .have fF:i=w.length:=by omega
    subst fF;rw[iI] at h2;refine' cR;all_goals first|(exfalso;omega;done)|exact h2
  .rintro l L h1;refine aq ?_;refine W.le ?_ (Le.nil _) (cC.nil _);refine' cR
   refine' ax;exact ep Value.bool h1.symm
end
structure ka (n:iM):Prop where
 tr:ek n.aX
 sz:0<=n.size/\n.size<=10000
theorem ka.of {n:iM}(h:eD n=true):ka n:=by obtain⟨_,h1,_,h2,h3,h4,_⟩:=Pg.lh h;exact⟨⟨h4,h2,by have:=Pg.fD n.aX.many;omega⟩,ag⟩
theorem ka.no:ka bB:=⟨⟨bJ,bJ,bJ⟩,bJ⟩
theorem EZ (many:Int):∀(L:List az)(k:Nat)(out z:az),px many k L out=some z->(∀s∈L,s.length<=3000)->z.length<=out.length+L.length*3000
 |[],k,out,z,h,_=>by cases h;simp
 |s::L,k,out,z,h,hs=>by
  rw[px] at h;split at h
  .cases h
  .have:=EZ many L (k+1) _ z h (λx hx=>hs x (by simp[hx]));have:=hs s ay;rw[bL] at *
   rw[cY];omega
theorem YL {st:au}(h:dA 100000 st){t:cB}(ht:ek t):((oK st t).getD []).length<=50000:=by
 obtain⟨h1,h2⟩:=lq h ht;have hm:=ht.mn;cases hb:oK st t with
 |none=>simp
 |some z=>
  have:=EZ t.many _ 0 [] z hb h2;rw[h1] at this;simp at this⊢;omega
end Go.Pl
