/- Lemmas of the proof. No conditions. -/
import Derived.Test.YtoiielhpadnflaaGreatDoorAc1
set_option maxRecDepth 100000
set_option maxHeartbeats 4000000
set_option linter.unusedVariables false
set_option linter.unusedSimpArgs false
open Go.Proofs.Tryz
namespace Go
variable{P:Prop}
theorem zab (h:P:=by
 cases hp:ss i st.fH level z with
 |none=>
  have hpc:∀s,bL 254 [iv i,iv st.fH,iv level,sv z] s [] (uE none):=λs=>by have:=oY s i st.fH level z af;rwa [hp] at this
  rw[hp] at hw;have mZ:wr st z level=(st,bz,false):=by unfold wr;rw[hw]
  rw[mZ];refine' HI;refine' dV
  .rfl
  .exact λ_=>rfl
 |some p=>
  have hpc:∀s,bL 254 [iv i,iv st.fH,iv level,sv z] s [] (uE (some p)):=λs=>by have:=oY s i st.fH level z af;rwa [hp] at this
  rw[hp] at hw;have mZ:wr st z level=({st with ej:=st.ej.set i z,bd:=st.bd.set i (st.bd.getD i 0+1),dm:=st.dm.set i st.fH},p,true):=by unfold wr;rw[hw]
  rw[mZ];refine' HI;refine' dV
  .rfl
  .exact λ_=>rfl
 all_goals(rcases _ with h;exact h)):P:=h
theorem zaj (h:P:=by
 have gd:bC l=true:=by
  unfold bN at h;split at h
  .cases h
  .split at h
   .cases h
   .split at h
    .cases h
    .unfold iO at h;split at h
     .cases h
     .split at h
      .cases h
      .rename_i hc;cases h
       cases hq:bC l with
       |true=>rfl
       |false=>rw[hq] at hc;simp at hc
 all_goals(rcases _ with h;exact h)):P:=h
theorem zal (h:P:=by
 have hi:=Pg.k9 hf;have hfc:∀s (a:aS) c,cS s v st->bL 253 [.agg ⟨[.slice v.f 64 v.fc,.slice v.l 64 v.lc]⟩,iv 8,.slice a 0 c] s (iH v) (iv i):=λs a c hr=>by
  have:=pY s v st B8 a c hr;rw[hf] at this;exact this
 all_goals(rcases _ with h;exact h)):P:=h
theorem zam (h:P:=by
 have hfc:∀s (a:aS) c,cS s v st->bL 253 [.agg ⟨[.slice v.f 64 v.fc,.slice v.l 64 v.lc]⟩,iv 8,.slice a 0 c] s (iH v) (iv (-1)):=λs a c hr=>by
  have:=pY s v st B8 a c hr;rw[hf] at this;exact this
 all_goals(rcases _ with h;exact h)):P:=h
theorem zax (h:P:=by
 have mZ:wr st z level=(st,bz,false):=by unfold wr;rw[hw]
 rw[mZ];repeat' (first|refine' aZ|refine' HE|refine' Ru|refine' av|fail)
 refine' dV
 all_goals(rcases _ with h;exact h)):P:=h
theorem za8 (h:P:=by
 refine aX f257 ?_;dsimp only[eK] at hd⊢;refine' Yn;refine' dV
 all_goals(rcases _ with h;exact h)):P:=h
theorem zba (h:P:=by
 obtain⟨hr,hm⟩:=(kr.rd (L:=L) hh).row h2;obtain⟨_,⟨rfl,hc|⟨b',o,q,hc,_⟩⟩|⟨b',o,c,e,w,hc,h3,h4,h5⟩⟩:=hr
 all_goals(rcases _ with h;exact h)):P:=h
theorem zbi (h:P:=by
 cases hb:bO z.ag x.ag with
 |true=>rfl
 |false=>exact absurd (lD _ _ hb (by simpa using dz)) (hn z ga)
 all_goals(rcases _ with h;exact h)):P:=h
theorem zbj (h:P:=by
 have hzz:(mI ((a:Int)-((bD st n).length:Int))).length=a-(bD st n).length:=by unfold mI;rw[sX];omega
 all_goals(rcases _ with h;exact h)):P:=h
end Go
namespace Go.Pl
open Go Go.Ev Go.Lg Go.Proofs
variable {i:Nat}
def abA (o:Option aC):Value:=.tuple ⟨[sv (o.getD []),.bool o.isSome]⟩
theorem jG (p:jt):(eH p).length<=54:=by
 unfold eH;split
 .simp
 .split
  .simp
  .rename_i h _;have hb:=MC (by simpa using h);have d1:=gN p.row af;have d2:=gN p.di af;have d3:=gN p.size af;have d4:=gN p.sum af;have d5:=gN p.level af;simp;omega
theorem EE (c:UInt8):∀(l:List aC)(w:aC),l≠[]->iD c (l++[w])=iD c l++c::w
 |[],_,h=>absurd rfl h
 |[a],w,_=>by simp[iD]
 |a::b::l,w,_=>by
  have:=EE c (b::l) w ay;simp only[yw] at this⊢;simp[iD,this]
theorem fG {α:Type}(l:List α)(d:α)(h:i<l.length):l.take (i+1)=l.take i++[l.getD i d]:=by rw[ui,bc h,a7,bc h];rfl
theorem HL (c:UInt8)(m:Nat):∀(l:List aC),(∀w∈l,w.length<=m)->(iD c l).length<=l.length*(m+1)
 |[],_=>by simp[iD]
 |[a],h=>by have:=h a ay;simp[iD];omega
 |a::b::l,h=>by
  have h1:=h a ay;have h2:=HL c m (b::l) λw hw=>h w (iV _ hw)
  simp only[iD,bn,cU] at h2⊢;rw[lU (l.length+1) 1];omega
theorem TU (s:St)(a:aS)(c:Nat)(p:c9)(hp:p.length<=100000)(hr:bM s a p.length 5 (ai p)):bL 281 [.slice a p.length c] s (aj a) (abA (kn p)):=by
 have hd:=Rd.of hr (A:=aj a) λb hb=>hb
 refine aX f281 ?_;refine' cM
 ·(refine' ax)
  unfold kn;rw[if_pos af];rfl
 have h4:p.length=4:=by omega
 refine W.bK (λk l L=>∃(i:Nat),Le [(0,.slice a p.length c),(4,sv (iD 44 ((p.take i).map eH))),(5,.bool !((p.take i).all aK)),(6,iv i)] l/\cx [] L/\k=4-i/\i<=4/\(p.take i).any (λp=>!bB p)=false)
  (λl L=>Le [(4,sv (iD 44 (p.map eH))),(5,.bool !(p.all aK))] l/\cx [] L/\p.any (λp=>!bB p)=false) 4 ⟨0,bp,au,af,af,ay⟩ ?_ ?_
 .rintro k l L ⟨i,hl,hL,rfl,h1,h2⟩;refine W.le ?_ hl hL;clear hl hL;have hj:(iD 44 ((p.take i).map eH)).length<=1000:=by
   refine gu (HL 44 54 _ λw hw=>?_) ?_
   .obtain⟨q,_,rfl⟩:=lp.1 hw;exact jG q
   .rw[uI,cO];omega
  have SV:=jG (p.getD i aq.ah);have e:i<4->p.take (i+1)=p.take i++[p.getD i bz]:=λh=>fG p bz af
  have e4a:i<4->0<i->iD 44 ((p.take (i+1)).map eH)=(iD 44 ((p.take i).map eH)++[44])++eH (p.getD i bz):=λh h'=>by
   rw[e h,Qw,xg,CS,EE _ _ _ (λh0=>by
    have:=eC List.length h0;rw[uI,cO,kC] at this;omega),iL];rfl
  have e4b:i=0->iD 44 ((p.take (i+1)).map eH)=iD 44 ((p.take i).map eH)++eH (p.getD i bz):=λh=>by
   subst h;rw[e af];rfl
  have e5a:i<4->(p.take i).all aK=true->(!(p.take (i+1)).all aK)= !aK (p.getD i bz):=λh h'=>by
   rw[e h,Gu,h'];simp
  have e5b:i<4->(p.take i).all aK=false->(!(p.take (i+1)).all aK)=true:=λh h'=>by
   rw[e h,Gu,h'];simp
  have e2:i<4->bB (p.getD i bz)=true->(p.take (i+1)).any (λp=>!bB p)=false:=λh h'=>by
   rw[e h,List.any_append,h2];simpa using h'
  repeat' (first|refine' aZ|refine' TF|refine' Hu|refine' ahW|refine' av|fail)
  ·(refine' ax)
   unfold kn;rw[if_neg af,if_pos];rfl;rw[Gx];exact⟨p.getD i bz,aL af bz,hc⟩
  rotate_right 1
  .have hi:i=4:=by omega
   subst hi;have ht:p.take 4=p:=rT af;rw[ht] at h2⊢;exact⟨bp,au,h2⟩
  all_goals
   have N9:i<4:=by omega
   refine⟨_,af,i+1,?_,au,rfl,af,e2 N9 aP⟩;first
                                                  |(rw[e4a N9 af,e5a N9 aP];exact bp;done)
                                                  |(rw[e4b af,e5a N9 aP];exact bp;done)
                                                  |(rw[e4a N9 af,e5b N9 aP];exact bp;done)
                                                  |(rw[e4b af,e5b N9 aP];exact bp;done)
 .rintro l L ⟨hl,hL,h1⟩;refine ak ?_;refine W.le ?_ hl hL;clear hl hL;refine' cM
  all_goals
   refine' ax;unfold kn;rw[if_neg af,if_neg (by rw[h1];simp)];first|(rw[if_pos (by simpa using hc)];rfl)|(rw[if_neg (by simpa using hc)];rfl)
theorem PA {z:aC}(c:UInt8)(h:i<(cut c z).length):((cut c z).getD i []).length<=z.length:=zw c z _ (aL h _)
theorem Yr {α:Type}(p:α->Bool)(q:List α)(x:α):(q++[x]).all p=(q.all p&&p x):=by simp
theorem MD {α:Type}{o:Option α}{d:α}(h:o.isSome=true):o=some (o.getD d):=by cases o<;>simp_all
theorem T1 (s:St)(z:aC)(hz:z.length<=100000):jF bf bw 282 [sv z] s [] 73 ((ko z).getD []) (ko z).isSome:=by
 have hm:=vw 44 z;have hlw:∀i,i<(cut 44 z).length->((cut 44 z).getD i aq.ah).length<=100000:=λi hi=>gu (PA 44 hi) hz
 unfold ko;refine aX f282 ?_;repeat' (first|refine' aZ|refine' XN|refine' av|fail)
 generalize hw:cut 44 z=w at *
 refine W.bK (λk l L=>∃(i:Nat)(q:c9)(a:aS)(c:Nat),Le [(4,.slice v8 w.length wa),(5,.slice a q.length c),(6,.bool !(q.all aK)),(7,iv i)] l/\cx [.aQ (.slice v8 w.length wa) 9 1 (ai w),.aQ (.slice a q.length c) 73 5 (ai q)] L/\k=w.length-i/\i<=w.length/\(w.take i).mapM jh=some q)
  (λl L=>∃(q:c9)(a:aS)(c:Nat),Le [(5,.slice a q.length c),(6,.bool !(q.all aK))] l/\cx [.aQ (.slice a q.length c) 73 5 (ai q)] L/\w.mapM jh=some q) w.length ⟨0,[],_,_,bp,au,af,af,ay⟩ ?_ ?_
 .rintro k l L ⟨i,q,a,c,hl,hL,rfl,h1,h2⟩;refine W.le ?_ hl hL;clear hl hL;have hq:=qG _ _ _ h2;rw[cO] at hq;have dz:=hlw i;(repeat' (first|refine' aZ|((with_reducible apply WO.aW);exact aD;exact λs=>HK s _ af;intros)|refine' Hu|refine' av|fail))
  .have hn:jh (w.getD i [])=none:=by
    have:=j5;exact Option.isSome_eq_false_iff.1 this|> Option.isNone_iff_eq_none.1
   rw[mapM_none jh w [] af hn];(refine' fa)<;>rfl
  rotate_right 1
  .have hi:i=w.length:=by omega
   subst hi;rw[fU] at h2;exact⟨q,_,_,bp,au,h2⟩
  all_goals
   have hs:=wg jh w [] (show i<w.length by omega);have hn:jh (w.getD i [])=some ((jh (w.getD i [])).getD bz):=MD aP;rw[h2,hn] at hs;refine⟨_,af,i+1,q++[(jh (w.getD i [])).getD bz],_,_,?_,au,rfl,af,hs⟩;rw[Yr];first|(rw[show q.all aK=true from by simpa using uw];exact bp;done)|(rw[show q.all aK=false from by simpa using uw];exact bp;done)
 .rintro l L ⟨q,a,c,hl,hL,h1⟩;refine ak ?_;refine W.le ?_ hl hL;clear hl hL;have hq:=qG _ _ _ h1;rw[h1];refine' cM
  all_goals
   (refine' fa)<;>dsimp only<;>first
     |(rw[if_pos (.inl af)];rfl)
     |(rw[if_pos (.inr (by simpa using j5))];rfl)
     |(rw[if_neg (λh=>h.elim (λh=>h af) (λh=>tf h (by simpa using j5)))];rfl)
theorem EF:∀(l:List aC)(x:aC)(out:aC),kR (l++[x]) out=match kR l out with
  |none=>none
  |some o=>if 2048<x.length then none else if 2048<(o++(gM x.length++58::x)).length then none else some (o++(gM x.length++58::x))
 |[],x,out=>by simp[kR]
 |y::l,x,out=>by
  simp only[yw,kR];split
  .rfl
  .split
   .rfl
   .exact EF l x _
theorem EG:∀(l m:List aC)(out:aC),kR l out=none->kR (l++m) out=none
 |[],m,out,h=>by simp[kR] at h
 |y::l,m,out,h=>by
  simp only[yw,kR] at h⊢;split
  .rfl
  .rename_i h1;rw[if_neg h1] at h;split
   .rfl
   .rename_i h2;rw[if_neg h2] at h;exact EG l m _ h
theorem Ys (l:List aC)(out:aC)(h:i<l.length)(hn:kR (l.take (i+1)) out=none):kR l out=none:=by rw[<-yy (i+1) l];exact EG _ _ _ hn
theorem HM:∀(l:List aC)(out:aC)(o:aC),out.length<=2048->kR l out=some o->o.length<=2048
 |[],out,o,h,k=>by simp[kR] at k;subst k;exact h
 |y::l,out,o,h,k=>by
  simp only[kR] at k;split at k
  .cases k
  .split at k
   .cases k
   .rename_i h2;exact HM l _ o af k
theorem zx (s:St)(a:aS)(c:Nat)(p:List aC)(hp:p.length<=100000)(hr:bM s a p.length 1 (ai p)):bL 197 [.slice a p.length c] s (aj a) (abA (jg p)):=by
 have hd:=Rd.of hr (A:=aj a) λb hb=>hb
 refine aX f197 ?_;(repeat(first|refine' xX|refine' av|fail))
 refine W.bK (λk l L=>∃(i:Nat)(o:aC),Le [(0,.slice a p.length c),(4,sv o),(5,iv i)] l/\cx [] L/\k=p.length-i/\i<=p.length/\(i=0\/p.length<=60)/\kR (p.take i) []=some o)
  (λl L=>∃(o:aC),Le [(0,.slice a p.length c),(4,sv o)] l/\cx [] L/\((p.length<=60/\kR p []=some o)\/(60<p.length/\o=[]))) p.length ⟨0,[],bp,au,af,af,.inl rfl,by simp[kR]⟩ ?_ ?_
 .rintro k l L ⟨i,o,hl,hL,rfl,h1,h2,h3⟩;refine W.le ?_ hl hL;clear hl hL;have ho:=HM _ _ _ ay h3;have hx:(p.getD i aq.ah).length<10000000000->(dec ((p.getD i aq.ah).length:Int)).length<=10:=λh=>gN _ af
  have e:=λh:i<p.length=>EF (p.take i) (p.getD i aq.ah) []
  have e':=λh:i<p.length=>fG p aq.ah h
  rw[h3] at e;have hf:p.length<=60->i<p.length->kR (p.take (i+1)) []=none->jg p=none:=λh h' h''=>by
   unfold jg;rw[if_neg af];exact Ys p [] h' h''
  have ea:∀w:aC,o++dec (w.length:Int)++[58]++w=o++(gM w.length++58::w):=λw=>by simp[dec]
  repeat' (first|refine' aZ|refine' Pm|refine' av|fail)
  ·(refine' ax)
   rw[hf af af (by rw[e' af,e af];exact if_pos (by have:=j5;omega))];rfl
  ·(refine' ax)
   rw[hf af af (by
    rw[e' af,e af];refine(if_neg af).trans (if_pos ?_);have:=j5;rw[ea] at this;exact Int.ofNat_lt.1 this)];rfl
  .have h9:=j5;rw[ea] at h9;refine⟨_,af,i+1,o++(gM (p.getD i aq.ah).length++58::p.getD i aq.ah),?_,au,rfl,af,.inr af,?_⟩
   .have:=ea (p.getD i aq.ah);rw[<-this];exact bp
   .rw[e' af,e af];refine(if_neg af).trans (if_neg ?_);intro Fx;have:(o++(gM (p.getD i aq.ah).length++58::p.getD i aq.ah)).length<=2048:=Int.ofNat_le.1 h9;omega
  all_goals
   rcases lq 60 p.length with h|h
   .have:i=0:=by omega
    subst this;simp[kR] at h3;exact⟨o,bp,au,.inr ⟨h,h3⟩⟩
   .have hi:i=p.length:=by omega
    subst hi;rw[fU] at h3;exact⟨o,bp,au,.inl ⟨af,h3⟩⟩
 .rintro l L ⟨o,hl,hL,h1⟩;refine ak ?_;refine W.le ?_ hl hL;clear hl hL;refine' cM
  refine' ax;unfold jg;rcases h1 with⟨h1,h2⟩|⟨h1,rfl⟩
  .rw[if_neg af,h2];simp[gK,abA];omega
  .rw[if_pos h1];simp[gK,abA];omega
theorem T2 (z:aC)(c:UInt8):nL (z++[c])=if c=0 then nL z else z++[c]:=by
 unfold nL;rw[List.reverse_append,List.reverse_singleton,uh,List.dropWhile_cons];split
 .rename_i h;rw[if_pos (by simpa using h)]
 .rename_i h;rw[if_neg (by simpa using h)];simp
theorem HN (z:aC)(h:0<z.length):z=z.take (z.length-1)++[z.getD (z.length-1) 0]:=by have:=fG z 0 (i:=z.length-1) af;rw[show z.length-1+1=z.length by omega,fU] at this;exact this
theorem HG (s:St)(z:aC)(hz:z.length<=100000):bL 168 [sv z] s [] (sv (nL z)):=by
 refine aX f168 ?_;(repeat(first|refine' xX|refine' av|fail))
 refine W.bK (λk l L=>∃(w:aC),Le [(0,sv w)] l/\cx [] L/\k=w.length/\w.length<=z.length/\nL w=nL z)
  (λl L=>Le [(0,sv (nL z))] l/\cx [] L) z.length ⟨z,bp,au,rfl,af,rfl⟩ ?_ ?_
 .rintro k l L ⟨w,hl,hL,rfl,h1,h2⟩;refine W.le ?_ hl hL;clear hl hL;have hb:∀x:UInt8,(x.toNat:Int)=0↔x=0:=λx=>by
   constructor
   .intro h;rw[<-sW];show x.toNat=0;omega
   .rintro rfl;rfl
  have e:0<w.length->nL w=if w.getD (w.length-1) 0=0 then nL (w.take (w.length-1)) else w:=λh=>by
   conv=>lhs;rw[HN w h]
   rw[T2,<-HN w h]
  have hi:0<w.length->((w.length:Int)-1)=((w.length-1:Nat):Int):=λh=>by omega
  have hj:0<w.length->((w.length:Int)-1).toNat=w.length-1:=λh=>by omega
  refine' cM
  .have h0:0<w.length:=by omega
   rw[hj h0,hb] at j5;have e:=e h0;rw[if_pos j5] at e;refine⟨_,?_,w.take (w.length-1),by rw[<-hj h0];exact bp,au,rfl,by rw[cO];omega,by rw[<-e];exact h2⟩;rw[cO];omega
  .have h0:0<w.length:=by omega
   rw[hj h0,hb] at j5;have e:=e h0;rw[if_neg j5] at e;exact⟨by rw[<-h2,e];exact bp,au⟩
  .have h0:w=[]:=mj af;subst h0;exact⟨by rw[<-h2];exact bp,au⟩
 .rintro l L ⟨hl,hL⟩;refine ak ?_;refine W.le ?_ hl hL;refine' cM
  refine' ax;rfl
theorem Ml (s:St)(n:Int)(hn:n<=100000):bL 112 [iv n] s [] (sv (mI n)):=by refine aX f112 ?_;(repeat(first|refine' xX|refine' av|fail));refine' ax;simp only[gK,mI];rw[show(max 0 n).toNat=n.toNat by omega]
theorem JS (l:List bg)(d:bg){i:Nat}(h:i<l.length):bj (l.take (i+1))=bj (l.take i)++((l.getD i d).name++61::(dec (l.getD i d).id++[59])):=by rw[fG l d h];simp[bj]
theorem TI (s:St)(a:aS)(c:Nat)(p:List bg)(hp:p.length<=3000)(hn:∀e∈p,e.name.length<=3000/\0<=e.id/\e.id<=1000000000)(hr:bM s a p.length 2 (ai p)):bL 199 [.slice a p.length c] s (aj a) (sv (bj p)):=by
 have hd:=Rd.of hr (A:=aj a) λb hb=>hb
 refine aX f199 ?_;(repeat(first|refine' xX|refine' av|fail))
 refine W.bK (λk l L=>∃(i:Nat),Le [(0,.slice a p.length c),(3,sv (bj (p.take i))),(4,iv i)] l/\cx [] L/\k=p.length-i/\i<=p.length/\(bj (p.take i)).length<=i*3012)
  (λl L=>Le [(3,sv (bj p))] l/\cx [] L) p.length ⟨0,bp,au,af,af,by simp[bj]⟩ ?_ ?_
 .rintro k l L ⟨i,hl,hL,rfl,h1,h2⟩;refine W.le ?_ hl hL;clear hl hL;have hb:=λh:i<p.length=>hn _ (aL h aq.ah)
  have hd':=λh:i<p.length=>gN (p.getD i aq.ah).id (by have:=hb h;omega)
  have e:=λh:i<p.length=>JS p aq.ah h
  by_cases hi:i<p.length
  .have hb:=hb hi;have hd':=hd' hi;have e:=e hi;repeat' (first|refine' aZ|refine' Pm|refine' av|fail)
   .refine⟨_,?_,i+1,?_,au,rfl,af,?_⟩
    .omega
    .rw[e,show ∀a b c d:aC,a++(b++61::(c++d))=a++b++[61]++c++d from λa b c d=>by simp];exact bp
    .rw[e];simp only[bn,cU,kC] at *;omega
   all_goals omega
  ·(refine' cM)
   .omega
   .have hi:i=p.length:=by omega
    subst hi;rw[fU];exact⟨bp,au⟩
 .rintro l L ⟨hl,hL⟩;refine ak ?_;refine W.le ?_ hl hL;refine' cM
  refine' ax;rfl
variable {z:aC}
theorem pO {α:Type}{l:List α}{i:Nat}(d:α)(h:i<l.length):l.getD i d=l[i]:=by simp[a7,bc h]
theorem ic:∀p q:aC,Op.bytesLess p q=bO p q
 |[],[]=>rfl
 |[],_::_=>rfl
 |_::_,[]=>rfl
 |a::p,b::q=>by
  show(decide (a<b)||(a== b&&Op.bytesLess p q))=if a.toNat<b.toNat then true else if b.toNat<a.toNat then false else bO p q
  rw[ic p q];by_cases h:a=b
  .subst h;have:¬(a<a):=by rw[pV];omega
   simp[this]
  .have gh:a.toNat≠b.toNat:=λe=>h (sW.1 e)
   (have h1:(a== b)=false:=by simpa using h);by_cases h3:a.toNat<b.toNat
   .have:a<b:=by rw[pV];exact h3
    simp[h3,this]
   .have:¬a<b:=by rw[pV];exact h3
    (have h4:b.toNat<a.toNat:=by omega);simp[h1,h3,h4,this]
def Yt (l:List bg)(name:aC):Int:=((ey l name).map Int.ofNat).getD (-1)
theorem afj {p:List bg}{i:Nat}(hi:i<p.length)(h:∀j,j<i->(p.getD j aq.ah).name≠z)(he:(p.getD i aq.ah).name=z):Yt p z=i:=by
 have:ey p z=some i:=by
  unfold ey;rw[qe];refine⟨hi,by rw[pO _ hi] at he;simpa using he,λj hj=>?_⟩;have:=h j hj;rw[pO _ af] at this;simpa using this
 unfold Yt;rw[this];rfl
theorem abB {p:List bg}(h:∀j,j<p.length->(p.getD j aq.ah).name≠z):Yt p z= -1:=by
 have:ey p z=none:=by
  unfold ey;rw[CT];intro x hx;obtain⟨j,hj,rfl⟩:=jO hx;have:=h j hj;rw[pO _ hj] at this;simpa using this
 unfold Yt;rw[this];rfl
theorem Eu (s:St)(a:aS)(c:Nat)(p:List bg)(z:aC)(hp:p.length<=3000)(hr:bM s a p.length 2 (ai p)):bL 158 [.slice a p.length c,sv z] s (aj a) (iv (Yt p z)):=by
 have hd:=Rd.of hr (A:=aj a) λb hb=>hb
 refine aX f158 ?_;(repeat(first|refine' xX|refine' av|fail))
 refine W.bK (λk l L=>∃(i:Nat),Le [(0,.slice a p.length c),(1,sv z),(5,iv i)] l/\cx [] L/\k=p.length-i/\i<=p.length/\∀j,j<i->(p.getD j aq.ah).name≠z)
  (λl L=>(∀j,j<p.length->(p.getD j aq.ah).name≠z)) p.length ⟨0,bp,au,af,af,λj hj=>by omega⟩ ?_ ?_
 .rintro k l L ⟨i,hl,hL,rfl,h1,h2⟩;refine W.le ?_ hl hL;clear hl hL;refine' cM
  ·(refine' ax)
   rw[afj af h2 j5];rfl
  .refine⟨_,?_,i+1,bp,au,rfl,af,λj hj=>?_⟩
   .omega
   .rcases lq j i with h|h
    .exact h2 j h
    .have:j=i:=by omega
     subst this;exact j5
  .intro j hj;exact h2 j af
 .rintro l L h;refine ak ?_;refine' cM
  refine' ax;rw[abB h];rfl
theorem EH (s:St)(a:aS)(c:Nat)(p:List bg)(i:Nat)(hp:p.length<=3000)(hi:i<p.length)(hr:bM s a p.length 2 (ai p))(hv:w6 s a p.length c 198 2):eu bf bw 157 [.slice a p.length c,iv i] s (aj a) 198 (ek p i):=by
 have hd:=Rd.of hr (A:=aj a) λb hb=>hb
 refine aX f157 ?_;refine' cM;refine' jo;show ek p i=[]++p.take i++p.drop (i+1);simp[ek]
theorem ME:∀(l:List bg)(x:bg),mT (l++[x])=(mT l&&match l.getLast? with|none=>true|some y=>bO y.name x.name)
 |[],x=>by simp[mT]
 |[a],x=>by simp[mT]
 |a::b::l,x=>by
  have ih:=ME (b::l) x;show(bO a.name b.name&&mT ((b::l)++[x]))=_;rw[ih];have:(a::b::l).getLast?=(b::l).getLast?:=by simp
  rw[this];show _=((bO a.name b.name&&mT (b::l))&&_);rw[Bool.and_assoc]
theorem Yu {p:List bg}(h:mT p=true):∀k,mT (p.take k)=true:=by
 intro k;induction p generalizing k with
 |nil=>simp[mT]
 |cons a p ih=>
  cases k with
  |zero=>rfl
  |succ k=>
   cases p with
   |nil=>simp[mT]
   |cons b p=>
    have h':(bO a.name b.name&&mT (b::p))=true:=h;simp only[bI] at h';cases k with
    |zero=>rfl
    |succ k=>
     show(bO a.name b.name&&mT ((b::p).take (k+1)))=true;rw[h'.1,ih h'.2];rfl
theorem Yv {p:List bg}(d:bg){i:Nat}(hi:i<p.length):mT (p.take (i+1))=(mT (p.take i)&&(decide (i=0)||bO (p.getD (i-1) d).name (p.getD i d).name)):=by
 rw[fG p d hi,ME]
 congr 1
 cases i with
 |zero=>rfl
 |succ i=>
  rw[fG p d af];simp
def wM (e:bg):Bool:=aV e.name&&fM e.id 1 15
theorem abC {p:List bg}(d:bg){i:Nat}(hi:i<p.length):(p.take (i+1)).all wM=((p.take i).all wM&&wM (p.getD i d)):=by rw[fG p d hi,Gu];simp
theorem RH {p:List bg}(d:bg){i:Nat}(hi:i<p.length)(h:wM (p.getD i d)=false):bC p=false:=by
 have:p.all wM=false:=by
  rw[Gv];exact⟨_,aL hi d,by rw[h];simp⟩
 show(p.all wM&&mT p&&decide (p.length<=12))=false;rw[this];rfl
theorem Yw {p:List bg}{i:Nat}(h:mT (p.take i)=false):bC p=false:=by
 have:mT p=false:=by
  cases hp:mT p with
  |false=>rfl
  |true=>rw[Yu hp i] at h;cases h
 show(p.all wM&&mT p&&decide (p.length<=12))=false;rw[this];simp
theorem JL (s:St)(a:aS)(c:Nat)(p:List bg)(hp:p.length<=3000)(hn:∀e∈p,e.name.length<=3000)(hr:bM s a p.length 2 (ai p)):bL 261 [.slice a p.length c] s (aj a) (.bool (bC p)):=by
 have hd:=Rd.of hr (A:=aj a) λb hb=>hb
 refine aX f261 ?_;(repeat(first|refine' xX|refine' av|fail))
 refine W.bK (λk l L=>∃(i:Nat),Le [(0,.slice a p.length c),(3,iv i)] l/\cx [] L/\k=p.length-i/\i<=p.length/\(p.take i).all wM=true/\mT (p.take i)=true)
  (λl L=>Le [(0,.slice a p.length c)] l/\cx [] L/\p.all wM=true/\mT p=true) p.length ⟨0,bp,au,af,af,rfl,rfl⟩ ?_ ?_
 .rintro k l L ⟨i,hl,hL,rfl,h1,h2,h3⟩;refine W.le ?_ hl hL;clear hl hL;have hb:=λh:i<p.length=>hn _ (aL h aq.ah)
  have e1:=λh:i<p.length=>abC aq.ah h
  have e2:=λh:i<p.length=>Yv aq.ah h
  by_cases hi:i<p.length
  .have hb:=hb hi;have e1:=e1 hi;have e2:=e2 hi;repeat' (first|refine' aZ|refine' abf|refine' Od|refine' av|fail)
   .have hj:((i:Int)-1).toNat=i-1:=by omega
    rw[ic,hj] at j5;refine' ax;rw[Yw (i:=i+1) (p:=p) (by rw[e2,h3,j5];simp;omega)];rfl
   .have hj:((i:Int)-1).toNat=i-1:=by omega
    rw[ic,hj] at j5;refine⟨_,?_,i+1,bp,au,rfl,af,?_,?_⟩
    .omega
    .rw[e1,h2];unfold wM;simp_all
    .rw[e2,h3,j5];simp
   .refine⟨_,?_,i+1,bp,au,rfl,af,?_,?_⟩
    .omega
    .rw[e1,h2];unfold wM;simp_all
    .rw[e2,h3];simp;omega
   ·(refine' ax)
    rw[RH aq.ah hi (by unfold wM;simp_all)];rfl
   ·(refine' ax)
    rw[RH aq.ah hi (by unfold wM;simp_all)];rfl
   all_goals(exfalso;omega)
  ·(refine' cM)
   .omega
   .have hi:i=p.length:=by omega
    subst hi;rw[fU] at h2 h3;exact⟨bp,au,h2,h3⟩
 .rintro l L ⟨hl,hL,h1,h2⟩;refine ak ?_;refine W.le ?_ hl hL;refine' cM
  refine' ax;show Value.bool (decide _)=Value.bool (p.all wM&&mT p&&decide _);rw[h1,h2];simp;omega
def ev (e:bg):Value:=.agg ⟨Ec e⟩
theorem wh (s:St)(a:aS)(c:Nat)(p:List bg)(e:bg)(hp:p.length<=3000)(hr:bM s a p.length 2 (ai p)):eu bf bw 152 [.slice a p.length c,ev e] s (aj a) 198 (gx p e):=by
 have hd:=Rd.of hr (A:=aj a) λb hb=>hb
 refine aX f152 ?_;(repeat(first|refine' xX|refine' av|fail))
 refine W.bK (λk l L=>∃(i:Nat)(d:Bool)(q:List bg)(a':aS)(c':Nat),Le [(0,.slice a p.length c),(3,bk bx),(5,.slice a' q.length c'),(6,.bool d),(7,iv i)] l/\cx [.aQ (.slice a' q.length c') 198 2 (ai q),.box bx (Ec e) 198 false] L/\k=p.length-i/\i<=p.length/\q.length<=i+1/\(d=true->q++p.drop i=gx p e)/\(d=false->q=p.take i/\gx p e=p.take i++gx (p.drop i) e))
  (λl L=>∃(d:Bool)(q:List bg)(a':aS)(c':Nat),Le [(3,bk bx),(5,.slice a' q.length c'),(6,.bool d)] l/\cx [.aQ (.slice a' q.length c') 198 2 (ai q),.box bx (Ec e) 198 false] L/\q.length<=3001/\gx p e=if d=true then q else q++[e]) p.length ⟨0,false,[],_,_,bp,au,af,af,ay,ay,ay⟩ ?_ ?_
 .rintro k l L ⟨i,d,q,a',c',hl,hL,rfl,h1,h2,h3,h4⟩;refine W.le ?_ hl hL;clear hl hL;have ed:i<p.length->p.drop i=p.getD i aq.ah::p.drop (i+1):=λh=>by
   rw[pO _ h];exact uQ h
  have et:i<p.length->p.take (i+1)=p.take i++[p.getD i aq.ah]:=λh=>fG p _ h
  refine' cM
  .have h0:i<p.length:=by omega
   obtain⟨h5,h6⟩:=h4 uw;rw[ic] at hc;refine⟨_,?_,i+1,true,_,_,_,bp,au,rfl,af,?_,λ_=>?_,λh=>by cases h⟩
   .omega
   .have:=List.length_take_le i p;rw[<-h5] at this;simp only[bn,cU,kC];omega
   .rw[h6,h5,ed h0,gx,if_pos hc];simp
  .have h0:i<p.length:=by omega
   obtain⟨h5,h6⟩:=h4 uw;rw[ic] at hc;refine⟨_,?_,i+1,d,_,_,_,bp,au,rfl,af,?_,λh=>?_,λ_=>?_⟩
   .omega
   .simp only[bn,cU,kC];omega
   .rw[uw] at h;cases h
   .refine⟨by rw[et h0,<-h5],?_⟩;rw[h6,ed h0,gx,if_neg (by rw[hc];simp),et h0];simp
  .have h0:i<p.length:=by omega
   refine⟨_,?_,i+1,d,_,_,_,bp,au,rfl,af,?_,λh=>?_,λh=>?_⟩
   .omega
   .simp only[bn,cU,kC];omega
   .rw[<-h3 h,ed h0];simp
   .rw[uw] at h;cases h
  .have h0:i=p.length:=by omega
   subst h0;refine⟨d,_,_,_,bp,au,af,?_⟩;cases d with
   |true=>have:=h3 rfl;rw[if_pos rfl,<-this];simp
   |false=>obtain⟨h5,h6⟩:=h4 rfl;rw[if_neg ay,h6,<-h5];simp[gx]
 .rintro l L ⟨d,q,a',c',hl,hL,h1,h2⟩;refine ak ?_;refine W.le ?_ hl hL;refine' cM
  ·(refine' jo)
   rw[h2,if_neg (by simp_all)]
  ·(refine' jo)
   rw[h2,if_pos (by simp_all)]
theorem PB (s:aC):mb s=if(cut 61 s).length≠2 then none else some ⟨(cut 61 s).getD 0 [],qR ((cut 61 s).getD 1 [])⟩:=by unfold mb;rcases cut 61 s with _|⟨a,_|⟨b,_|⟨c,l⟩⟩⟩<;>simp
theorem afk {l:List bg}(h:bC l=true):∀e∈l,e.name.length<=4/\1<=e.id/\e.id<=15:=by intro e he;have h':(l.all wM&&mT l&&decide (l.length<=12))=true:=h;simp only[bI,fT] at h';have:=h'.1.1 e he;unfold wM aV fM at this;simp only[bI,bR] at this;exact⟨this.1.2,this.2.1,this.2.2⟩
theorem Gc (s:St)(z:aC)(hz:z.length<=2500):jF bf bw 214 [sv z] s [] 198 ((iO z).getD []) (iO z).isSome:=by
 have hm:=vw 59 z;have hlw:∀i,i<(cut 59 z).length->((cut 59 z).getD i aq.ah).length<=2500:=λi hi=>gu (zw 59 z _ (aL hi _)) hz
 unfold iO;refine aX f214 ?_;repeat' (first|refine' aZ|refine' XN|refine' av|fail)
 generalize hw:cut 59 z=w at *
 refine W.bK (λk l L=>∃(i:Nat)(q:List bg)(a:aS)(c:Nat),Le [(0,sv z),(4,.slice a q.length c),(5,.slice v8 w.length wa),(6,iv i)] l/\cx [.aQ (.slice v8 w.length wa) 9 1 (ai w),.aQ (.slice a q.length c) 198 2 (ai q)] L/\k=w.length-i/\i<=w.dropLast.length/\(w.dropLast.take i).mapM mb=some q/\∀e∈q,e.name.length<=2500)
  (λl L=>∃(q:List bg)(a:aS)(c:Nat),Le [(0,sv z),(4,.slice a q.length c)] l/\cx [.aQ (.slice a q.length c) 198 2 (ai q)] L/\w.dropLast.mapM mb=some q/\∀e∈q,e.name.length<=2500) w.length ⟨0,[],_,_,bp,au,af,af,ay,ay⟩ ?_ ?_
 .rintro k l L ⟨i,q,a,c,hl,hL,rfl,h1,h2,h3⟩;refine W.le ?_ hl hL;clear hl hL;have hq:=qG _ _ _ h2;rw[cO,yA h1] at hq;have uF:w.dropLast.length=w.length-1:=List.length_dropLast;have dz:=hlw i;have Dc:i<w.dropLast.length->w.dropLast.getD i []=w.getD i []:=λh=>by
   rw[pO _ h,pO _ af,List.getElem_dropLast]
  have he:=PB (w.getD i aq.ah);have hm2:=vw 61 (w.getD i aq.ah);have ur:∀j,j<(cut 61 (w.getD i aq.ah)).length->((cut 61 (w.getD i aq.ah)).getD j aq.ah).length<=(w.getD i aq.ah).length:=λj hj=>zw 61 _ _ (aL hj _)
  have alG:=ur 0;have anF:=ur 1;(repeat' (first|refine' aZ|refine' XN|((with_reducible apply WO.aW);exact aD;exact λs=>AR s _ af;intros)|refine' av|fail))
  .have hn:mb (w.dropLast.getD i [])=none:=by
    rw[Dc af];refine he.trans (if_pos ?_);omega
   rw[mapM_none mb w.dropLast [] af hn];(refine' fa)<;>rfl
  .have hs:=wg mb w.dropLast [] (show i<w.dropLast.length by omega);have hn:mb (w.dropLast.getD i [])=some ⟨(cut 61 (w.getD i aq.ah)).getD 0 [],qR ((cut 61 (w.getD i aq.ah)).getD 1 [])⟩:=by
    rw[Dc af];refine he.trans (if_neg ?_);omega
   rw[h2,hn] at hs;refine⟨_,?_,i+1,q++[⟨(cut 61 (w.getD i aq.ah)).getD 0 [],qR ((cut 61 (w.getD i aq.ah)).getD 1 [])⟩],_,_,bp,au,rfl,af,hs,λe he=>?_⟩
   .omega
   .rcases eW.1 he with he|he
    .exact h3 e he
    .rw[fJ.1 he];have:=alG af;have h5:=dz af;exact gu this h5
  .have hi:i=w.dropLast.length:=by omega
   subst hi;rw[fU] at h2;exact⟨q,_,_,bp,au,h2,h3⟩
 .rintro l L ⟨q,a,c,hl,hL,h1,h2⟩;refine ak ?_;refine W.le ?_ hl hL;clear hl hL;have hq:=qG _ _ _ h1;have uF:w.dropLast.length=w.length-1:=List.length_dropLast;have N8:∀e∈q,e.name.length<=3000:=λe he=>by have:=h2 e he;omega
  rw[h1];by_cases gd:bC q=true
  .have Te:∀e∈q,e.name.length<=3000/\0<=e.id/\e.id<=1000000000:=λe he=>by have:=afk gd e he;omega
   repeat' (first|refine' aZ|refine' ahX|refine' ahY|refine' av|fail)
   .simp only[gd,j5];(refine' fa)<;>simp[j5]
   .simp only[gd,j5];(refine' fa)<;>simp[j5]
   all_goals(exfalso;simp_all;done)
  ·(repeat' (first|refine' aZ|refine' ahX|refine' av|fail))
   all_goals first|(exfalso;simp_all;done)|skip
   .simp only[gd];(refine' fa)<;>simp[gd]
theorem PC {z:aC}(h:0<z.length)(h0:z.getD 0 0=47):cut 47 z=[]::cut 47 z.tail:=by
 cases z with
 |nil=>simp at h
 |cons x z=>
  have:x=47:=h0;subst this;simp[cut]
theorem Md (s:St)(z:aC)(hz:z.length<=100000)(h:0<z.length)(h0:z.getD 0 0=47):acK bf bw 163 [sv z] s [] 9 (aI z):=by
 have oz:=PC h h0;have hl:0<(cut 47 z).length:=by rw[oz];simp
 refine aX f163 ?_;repeat' (first|refine' aZ|refine' XN|refine' av|fail)
 ·(refine' acQ)
  unfold aI;rw[if_pos aP]
 ·(refine' acQ)
  unfold aI;rw[if_neg aP,oz];rfl
def pP (l:List aC):aC:=(l.map λs=>47::s).flatten
theorem JT (l:List aC)(d:aC){i:Nat}(h:i<l.length):pP (l.take (i+1))=pP (l.take i)++47::l.getD i d:=by rw[fG l d h];simp[pP]
theorem MF (s:St)(a:aS)(c:Nat)(p:List aC)(hp:p.length<=100000)(hn:∀e∈p,e.length<=3000)(hr:bM s a p.length 1 (ai p)):bL 207 [.slice a p.length c] s (aj a) (sv (pathOf p)):=by
 have hd:=Rd.of hr (A:=aj a) λb hb=>hb
 refine aX f207 ?_;(repeat(first|refine' xX|refine' av|fail))
 refine W.bK (λk l L=>∃(i:Nat),Le [(0,.slice a p.length c),(3,sv (pP (p.take i))),(4,iv i)] l/\cx [] L/\k=p.length-i/\i<=p.length/\(pP (p.take i)).length<=i*3001)
  (λl L=>Le [(3,sv (pP p))] l/\cx [] L) p.length ⟨0,bp,au,af,af,by simp[pP]⟩ ?_ ?_
 .rintro k l L ⟨i,hl,hL,rfl,h1,h2⟩;refine W.le ?_ hl hL;clear hl hL;have hb:=λh:i<p.length=>hn _ (aL h aq.ah)
  have e:=λh:i<p.length=>JT p aq.ah h
  by_cases hi:i<p.length
  .have hb:=hb hi;have e:=e hi;refine' cM
   .refine⟨_,?_,i+1,?_,au,rfl,af,?_⟩
    .omega
    .rw[e,show ∀a b:aC,a++47::b=a++[47]++b from λa b=>by simp];exact bp
    .rw[e,bn,cU];omega
   all_goals(exfalso;omega)
  ·(refine' cM)
   .omega
   .have hi:i=p.length:=by omega
    subst hi;rw[fU];exact⟨bp,au⟩
 .rintro l L ⟨hl,hL⟩;refine ak ?_;refine W.le ?_ hl hL;have e:pP p=[]↔p=[]:=by
   cases p<;>simp[pP]
  refine' cM
  ·(refine' ax)
   unfold pathOf;rw[if_pos (e.1 aP)];rfl
  ·(refine' ax)
   unfold pathOf;rw[if_neg (λh=>(by assumption:¬_) (e.2 h))];rfl
theorem HO {z:aC}:∀w∈aI z,w.length<=z.length:=by
 intro w hw;unfold aI at hw;split at hw
 .cases hw
 .exact zw 47 z w (List.mem_of_mem_tail hw)
theorem x5 {z:aC}:(aI z).length<=z.length+1:=by
 unfold aI;split
 .simp
 .have:=vw 47 z;rw[List.length_tail];omega
theorem TK (s:St)(z:aC)(hz:z.length<=90000):bL 105 [sv z] s [] (.bool (aT z)):=by
 have hm:=x5 (z:=z);have hlw:∀i,i<(aI z).length->((aI z).getD i aq.ah).length<=z.length:=λi hi=>HO _ (aL hi _)
 by_cases z6:z=[]
 .subst z6;refine aX f105 ?_;refine' cM
  all_goals first|(exfalso;simp_all;done)|skip
  refine' ax;rfl
 have cX:0<z.length:=nO.2 z6;have hh:z.headD 0=z.getD 0 0:=by cases z<;>rfl
 unfold aT;rw[hh];refine aX f105 ?_;have hb:((z.getD 0 0).toNat:Int)=47↔z.getD 0 0=47:=by
  constructor
  .intro h;rw[<-sW];show(z.getD 0 0).toNat=47;omega
  .intro h;rw[h];rfl
 by_cases HP:z.getD 0 0=47
 .have lO:=hb.2 HP;repeat' (first|refine' aZ|refine' TJ|refine' av|fail)
  ·(refine' ax);rw[if_pos aP];rfl
  .exfalso;exact j5 lO
  rotate_left 1
  .exact absurd aP z6
  rw[if_neg aP,if_neg (by rw[HP];simp[z6])];generalize hw:aI z=w at *
  refine W.bK (λk l L=>∃(i:Nat),Le [(3,.slice Ed w.length Ee),(4,iv i)] l/\cx [.aQ (.slice Me BF.length Mf) 9 1 (ai BF)] L/\k=w.length-i/\i<=w.length/\(w.take i).all aV=true)
   (λl L=>Le [(3,.slice Ed w.length Ee)] l/\cx [] L/\w.all aV=true) w.length ⟨0,bp,au,af,af,rfl⟩ ?_ ?_
  .rintro k l L ⟨i,hl,hL,rfl,h1,h2⟩;refine W.le ?_ hl hL;clear hl hL;have dz:=hlw i;have e:=λh:i<w.length=>fG w aq.ah h
   repeat' (first|refine' aZ|refine' abf|refine' av|fail)
   ·(refine' ax)
    have:w.all aV=false:=by
     rw[Gv];exact⟨_,aL (show i<w.length by omega) aq.ah,by simp_all⟩
    rw[this];rfl
   .refine⟨_,?_,i+1,bp,au,rfl,af,?_⟩
    .omega
    .rw[e af,Gu,h2];simp_all
   .have hi:i=w.length:=by omega
    subst hi;rw[fU] at h2;exact⟨bp,au,h2⟩
  .rintro l L ⟨hl,hL,h1⟩;refine ak ?_;refine W.le ?_ hl hL;refine' cM
   refine' ax;rw[h1];simp[gK];omega
 .have lO:=λh=>HP (hb.1 h)
  refine' cM
  ·(refine' ax);rw[if_pos aP];rfl
  ·(refine' ax);rw[if_neg aP,if_pos (by rw[mh];exact .inr (du HP))];rfl
  all_goals first|(exfalso;exact lO aP)|(exact absurd aP z6)
def cv (z:aC):List aC:=if aT z=true then aI z else []
theorem CH {z:aC}(h:aT z=true):0<z.length/\z.getD 0 0=47:=by
 unfold aT at h;split at h
 .rename_i h0;subst h0;exact⟨ay,rfl⟩
 .split at h
  .cases h
  .rename_i h1;cases z with
   |nil=>simp at h1
   |cons x z=>simp at h1;exact⟨ay,h1⟩
theorem JU (s:St)(z:aC)(hz:z.length<=90000):jF bf bw 206 [sv z] s [] 9 (cv z) (aT z):=by
 have hm:=x5 (z:=z);refine aX f206 ?_;by_cases h:aT z=true
 .obtain⟨h1,h2⟩:=CH h;repeat' (first|refine' aZ|refine' aeW|refine' TJ|refine' av|fail)
  .exfalso;simp_all
  ·(refine' fa)
   .unfold cv;rw[if_pos h];rfl
   .exact h
 ·(repeat' (first|refine' aZ|refine' aeW|refine' av|fail))
  ·(refine' fa)
   .unfold cv;rw[if_neg h]
   .simpa using h
  all_goals(exfalso;simp_all;done)
theorem JV (s:St)(z t:aC)(hz:z.length<=3000)(ht:t.length<=3000):bL 160 [sv z,sv t] s [] (.bool (under z t)):=by
 have hp:∀{z:aC},z.length<=3000->(cv z).length<=3001/\∀e∈cv z,e.length<=3000:=λ{z} hz=>by
  unfold cv;split
  .exact⟨by have:=x5 (z:=z);omega,λe he=>by have:=HO e he;omega⟩
  .simp
 obtain⟨h1,h2⟩:=hp hz;obtain⟨h3,h4⟩:=hp ht;have h5:∀e∈(cv z).take ((cv t).length:Int).toNat,e.length<=3000:=λe he=>h2 e (B2 he)
 refine aX f160 ?_;(repeat' (first|refine' aZ|((with_reducible apply WO.tM);exact aD;exact λs=>JU s _ af;intro _ _ adt adu _ _)|((with_reducible apply WO.iZ);exact aD;(first|exact λs hr=>MF s _ _ _ af aP hr|exact λs hr=>MF s _ _ _ (by first|omega|(rw[cO];omega)) aP hr);exact cD;intros)|refine' av|fail));all_goals refine' ax
 all_goals(simp only[gK];refine eC Value.bool ?_;unfold under)
 .have e1:cv z=aI z:=if_pos aP;have e2:cv t=aI t:=if_pos aP;rw[e1,e2] at j5;simp_all;omega
 .have e1:cv z=aI z:=if_pos aP;have e2:cv t=aI t:=if_pos aP;rw[e1,e2] at j5;rw[e1,e2];simp_all
 .simp_all
 .simp_all
theorem MG:∀(k:Nat)(z:aC),k<=z.length->(z.take k).all kP=true->numOf (z.take k)<10^ k
 |0,z,_,_=>by simp[numOf]
 |k+1,z,h,ha=>by
  rw[EC _ _ af,bI] at ha;have ih:=MG k z af ha.1;have h1:=ha.2;simp only[kP,bI,bR] at h1;rw[ED _ af,Vq];omega
theorem abD (z:aC):(kQ z).1<1000000000:=by
 have h:=RF z;have ha:(tD z).all kP=true:=by
  unfold tD;generalize z.take 9=w;induction w with
  |nil=>rfl
  |cons x w ih=>
   rw[List.takeWhile_cons];split
   .rename_i hx;rw[List.all_cons,hx,ih];rfl
   .rfl
 have h2:=MG (tD z).length (tD z) (cC _) (by rw[fU];exact ha);rw[fU] at h2;have h3:10^ (tD z).length<=10^ 9:=Nat.pow_le_pow_right af h.2;unfold kQ;dsimp only;split
 .dsimp only;omega
 .dsimp only;omega
theorem EI {f:Nat}{z:aC}{out:List aC}(hz:z≠[]):sr (f+1) z out=if(kQ z).2=0\/z.length<=(kQ z).2\/z.getD (kQ z).2 0≠58\/z.length-(kQ z).2-1<(kQ z).1 then none else sr f (z.drop ((kQ z).2+1+(kQ z).1)) (out++[(z.drop ((kQ z).2+1)).take (kQ z).1]):=by
 cases z with
 |nil=>exact absurd rfl hz
 |cons x z=>rfl
theorem zy (s:St)(z:aC)(hz:z.length<=100000):jF bf bw 171 [sv z] s [] 9 ((eS z).getD []) (eS z).isSome:=by
 refine aX f171 ?_;(repeat(first|refine' xX|refine' av|fail))
 refine W.bK (λk l L=>∃(i f:Nat)(q:List aC)(a:aS)(c:Nat),Le [(0,sv z),(4,.slice a q.length c),(5,iv i)] l/\cx [.aQ (.slice a q.length c) 9 1 (ai q)] L/\k=z.length-i/\i<=z.length/\q.length<=i/\z.length-i<f/\(z.length<=2048\/i=0/\q=[])/\sr (z.length+1) z []=sr f (z.drop i) q)
  (λl L=>∃(q:List aC)(a:aS)(c:Nat),Le [(0,sv z),(4,.slice a q.length c)] l/\cx [.aQ (.slice a q.length c) 9 1 (ai q)] L/\q.length<=100000/\(if 2048<z.length then some [] else sr (z.length+1) z [])=some q) z.length ⟨0,z.length+1,[],_,_,bp,au,af,af,ay,af,.inr ⟨rfl,rfl⟩,ay⟩ ?_ ?_
 .rintro k l L ⟨i,f,q,a,c,hl,hL,rfl,h1,h2,h3,h4,h5⟩;refine W.le ?_ hl hL;clear hl hL;obtain⟨f,rfl⟩:∃g,f=g+1:=⟨f-1,af⟩;have hn:=abz (z.drop i);have GW:=abD (z.drop i);rw[eP] at hn;have gh:i<z.length->z.drop i≠[]:=λh h'=>by have:=eC List.length h';simp at this;omega
  have e:=λh:i<z.length=>EI (f:=f) (out:=q) (gh h)
  have hg9:(z.drop i).getD (kQ (z.drop i)).2 0=z.getD (i+(kQ (z.drop i)).2) 0:=by
   rw[a7,a7,wP]
  rw[hg9,eP,mA,mA] at e;have adv:∀x:UInt8,((x.toNat:Int)=58)↔x=58:=λx=>by
   constructor
   .intro h;rw[<-sW];show x.toNat=58;omega
   .rintro rfl;rfl
  have HQ:z.length<=2048->i<z.length->((kQ (z.drop i)).2=0\/z.length-i<=(kQ (z.drop i)).2\/z.getD (i+(kQ (z.drop i)).2) 0≠58\/z.length-i-(kQ (z.drop i)).2-1<(kQ (z.drop i)).1)->eS z=none:=λh h' h''=>by
   unfold eS;rw[if_neg af,h5,e h',if_pos h'']
  (repeat' (first|refine' aZ|((with_reducible apply WO.aW);exact aD;exact λs=>MA s _ (by rw[eP];omega);intros)|refine' av|fail))
  .rw[HQ af af (.inr (.inr (.inr af)))];(refine' fa)<;>rfl
  .have e:=e af;rw[if_neg (by
    rw[adv] at uw;rintro(h|h|h|h)
    .omega
    .omega
    .exact h uw
    .omega)] at e
   refine⟨_,?_,i+(kQ (z.drop i)).2+1+(kQ (z.drop i)).1,f,_,_,_,bp,au,rfl,af,by simp;omega,af,.inl af,?_⟩
   .omega
   .rw[h5,e]
    congr 2
    .omega
    .congr 1
     rw[show i+(kQ (z.drop i)).2+1+(kQ (z.drop i)).1-(i+(kQ (z.drop i)).2+1)=(kQ (z.drop i)).1 by omega];rfl
  .rw[HQ af af (.inr (.inr (.inl (λh=>uw ((adv _).2 h)))))];(refine' fa)<;>rfl
  .rw[HQ af af (.inr (.inl af))];(refine' fa)<;>rfl
  .rw[HQ af af (.inl af)];(refine' fa)<;>rfl
  .refine⟨q,_,_,bp,au,af,?_⟩;rw[if_pos af];rcases h4 with h|⟨_,h⟩
   .omega
   .rw[h]
  .refine⟨q,_,_,bp,au,af,?_⟩;have hd:z.drop i=[]:=Ac af;split
   .rcases h4 with h|⟨_,h⟩
    .omega
    .rw[h]
   .rw[h5,hd];rfl
 .rintro l L ⟨q,a,c,hl,hL,h1,h2⟩;refine ak ?_;refine W.le ?_ hl hL;clear hl hL;have hfg:eS z=match jg q with
    |none=>none
    |some t=>if t=z then some q else none:=by
   unfold eS;rw[h2];rfl
  (repeat' (first|refine' aZ|((with_reducible apply WO.iZ);exact aD;exact λs hr=>zx s _ _ _ af hr;exact cD;intros)|refine' av|fail))
  .obtain⟨t,ht⟩:=lV.1 uw;rw[ht] at j5 hfg;rw[hfg];dsimp only;rw[if_neg (show ¬t=z from j5)];(refine' fa)<;>rfl
  .obtain⟨t,ht⟩:=lV.1 uw;rw[ht] at j5 hfg;rw[hfg];dsimp only;rw[if_pos (show t=z from j5)];(refine' fa)<;>rfl
  .have ht:jg q=none:=by cases h:jg q<;>simp_all
   rw[ht] at hfg;rw[hfg];(refine' fa)<;>rfl
theorem HA (s:St)(n:iE):bL 167 [nv n] s [] (.bool (ew n)):=by refine aX f167 ?_;(repeat' (first|refine' aZ|((with_reducible apply WO.aW);exact aD;exact λs=>Gb s _ _;intros)|refine' XO|refine' TF|refine' Hu|refine' Od|refine' av|fail));all_goals first|((refine' ax);simp_all [gK,ew,fM];done)|((refine' ax);simp_all [gK,ew];done)
theorem PD (n:Int):0<=cQ n/\cQ n<=2:=by
 unfold cQ;split
 .omega
 .split<;>omega
theorem T3 {n:iE}(h:ew n=true):(1<=n.kind/\n.kind<=2)/\(1<=n.bF/\n.bF<=9)/\(0<=n.size/\n.size<=2048)/\(0<=n.a6.many/\n.a6.many<=16)/\n.a6.depth=cQ n.a6.many/\bB n.a6.cG=true/\n.a6.many=dn n.size (fm n.kind):=by
 simp only[ew,bI,rU,CR,mQ,Int.not_lt,ne_eq,Decidable.not_not,CQ] at h;obtain⟨⟨⟨⟨h1,h2⟩,h3⟩,h4⟩,h5,h6⟩:=h;have h7:fp n.kind n.size=n.a6.many:=h2.symm;unfold fp at h7;rw[show fp n.kind n.size=n.a6.many from h2.symm] at h1 h3;have he:fm n.kind=0\/fm n.kind=12\/fm n.kind=128:=by unfold fm;split<;>(try split)<;>simp
 have hk:fm n.kind≠0->1<=n.kind/\n.kind<=2:=by unfold fm;intro h;split at h<;>(try split at h)<;>omega
 split at h7
 .omega
 .rename_i h8;simp only[mh,bR,rU,not_or,Bh,fM,bI] at h8;have h9:=hk h8.1;have Fx:n.a6.many<=16:=by
   rw[<-h7];unfold dn;rcases he with he|he|he<;>rw[he] at h8⊢<;>omega
  refine⟨h9,?_,af,⟨af,Fx⟩,h3,h4,h7.symm⟩;simp only[fM,bI,bR] at h5;split at h5<;>omega
theorem Ei (s:St)(n:iE):bL 145 [nv n] s [] (sv (gf n)):=by
 by_cases hn:ew n=true
 .have hb:=T3 hn;have hd:=PD n.a6.many;refine aX f145 ?_;(repeat(first|refine' xX|refine' Pp|refine' av|fail))
  refine W.cond fS ?_ ?_<;>intro hc
  .exfalso;simp_all
  (repeat(first|refine' xX|refine' Pm|refine' ahW|((with_reducible apply WO.iZ);exact aD;exact λs hr=>zx s _ _ _ (by first|omega|(simp;done)) hr;exact cD;intros)|refine' av|fail));refine' ax;simp[gK,gf,hn,jU]
 .refine aX f145 ?_;repeat' (first|refine' aZ|refine' Pp|refine' av|fail)
  all_goals first|((refine' ax);simp_all [gK,gf];done)|(exfalso;simp_all;done)
theorem HR:∀(f:Nat)(z:aC)(out w:List aC)(m:Nat),z.length<=m->(∀x∈out,x.length<=m)->sr f z out=some w->∀x∈w,x.length<=m
 |0,z,out,w,m,_,_,h=>by simp[sr] at h
 |f+1,[],out,w,m,_,ho,h=>by simp[sr] at h;subst h;exact ho
 |f+1,c::z,out,w,m,hz,ho,h=>by
  rw[EI ay] at h;split at h
  .cases h
  .refine HR f _ _ w m (by rw[eP];omega) ?_ h;intro x hx;rcases eW.1 hx with hx|hx
   .exact ho x hx
   .simp only[fJ] at hx;subst hx;rw[cO,eP];omega
theorem Ge {z:aC}{w:List aC}(h:eS z=some w):∀x∈w,x.length<=z.length:=by
 unfold eS at h;split at h
 .cases h
 .rename_i o ho;split at h
  .cases h
  .split at h
   .cases h
    split at ho
    .cases ho;simp
    .exact HR _ z [] _ z.length (cC _) ay ho
   .cases h
theorem PE (z:aC):eL z=match eS z with
  |none=>none
  |some w=>if w.length≠7 then none else
   let n:iE:=⟨qR (w.getD 0 []),qR (w.getD 1 []),qR (w.getD 2 []),⟨(jh (w.getD 3 [])).getD bz,qR (w.getD 4 []),qR (w.getD 5 [])⟩⟩
   if !ew n||!decide (gf n=z) then none else some n:=by
 unfold eL;rcases eS z with _|⟨_|⟨a,_|⟨b,_|⟨c,_|⟨d,_|⟨e,_|⟨f,_|⟨g,_|⟨h,l⟩⟩⟩⟩⟩⟩⟩⟩⟩<;>simp
def vx (o:Option iE):Value:=.tuple ⟨[nv (o.getD bA),.bool o.isSome]⟩
theorem tV (s:St)(z:aC)(hz:z.length<=100000):bL 111 [sv z] s [] (vx (eL z)):=by
 rw[PE];rcases hf:eS z with _|w
 .have h1:(eS z).isSome=false:=by rw[hf];rfl
  refine aX f111 ?_;(repeat' (first|refine' aZ|((with_reducible apply WO.tM);exact aD;exact λs=>zy s _ af;intro _ _ adw adx _ _)|refine' av|fail));all_goals first|((refine' ax);rfl)|(exfalso;simp_all;done)
 .have h1:(eS z).isSome=true:=by rw[hf];rfl
  have hw:=Ge hf;have h0:∀i,i<w.length->(w.getD i aq.ah).length<=100000:=λi hi=>gu (hw _ (aL hi _)) hz
  have wY:∀s,jF bf bw 171 [sv z] s [] 9 w true:=λs=>by
   have:=zy s z hz;rw[hf] at this;exact this
  dsimp only;refine aX f111 ?_;(repeat' (first|refine' aZ|((with_reducible apply WO.tM);exact aD;exact λs=>wY s;intro _ _ abE abF _ _)|((with_reducible apply WO.aW);exact aD;exact λs=>AR s _ (h0 _ af);intros)|((with_reducible apply WO.aW);exact aD;exact λs=>HK s _ (h0 _ af);intros)|refine' Pp|refine' ah2|refine' av|fail))
  ·(refine' ax);rw[if_pos af];rfl
  all_goals
   refine' ax
   rw[if_neg af];first
                   |exact Eq.trans (b:=vx none) rfl (eC vx (if_pos (Gw.2 (.inl hg))).symm)
                   |exact Eq.trans (b:=vx none) rfl (eC vx (if_pos (Gw.2 (.inr hc))).symm)
                   |exact Eq.trans (b:=vx (some _)) rfl (eC vx (if_neg (λh=>(Gw.1 h).elim (λh=>tf h hg) (λh=>tf h hc))).symm)
variable {E:iq}{X:fY}{Γ:qN}{L L' R:dy}{K:KO}{x y:Operand}{c e b:Nat}{w:aC}{enc:aq UInt8 1}{cs:aY}
section
variable {l:Kn}{t t2:TypeId}{a:aS}
theorem WO.abG (he:∀c:UInt8,aq.cells c=[bv c])[ht:TT E t e 1 UInt8 enc][ht2:xF E t2](hx:Ev l x (.slice a z.length c))(hy:Ev l y (sv w))(hr:Kx (.aQ (.slice a z.length c) e 1 (ai z)) L R)(hn:z.length+w.length<=1000000)
  (k:∀b b' a' c',iY L b->b<=b'->(∀i∈aj a',i∈aj a\/i=b)->(c'=c\/c'=dS)->K (.slice a' (z++w).length c') (.aQ (.slice a' (z++w).length c') e 1 (ai (z++w))::R) b b' (λi=>i∈aj none\/i∈aj a\/i=b) (λi=>i∈aj a\/i=b)):WO E X Γ l (.call ⟨.builtin .append,⟨[x,y]⟩,⟨[t,t2]⟩⟩) L K:=by
 obtain⟨zz,h1,d,h2⟩:=ht.h;refine WO.Q2 (ht:=h1) (a2:=none) ht2.h rfl hx hy hr (λs h=>h) (m:=w.length) (new:=ai w) (λs hi=>⟨⟨aR w,λb hb=>by simp[aj] at hb⟩,λk=>?_⟩) (Az w) hn λb b' a' c' h5 h5' h6 h7=>?_
 .show dN (Nat.beq 1 1) (k (dX w) (strCells w) s)=_;rw[nt w he,c8];rfl
 .have:=k b b' a' c' h5 h5' h6 h7;rw[bn,oS] at this;exact this
theorem WO.T4 [ht:TT E t e 1 UInt8 enc](hx:Ev l x (.slice a z.length dS))(hm:It.aQ (.slice a z.length dS) e 1 (ai z)∈L)(h0:0<z.length)(k:∀n,K (.pointer a) L n n (λi=>i∈aj a) Z):WO E X Γ l (.call ⟨.builtin .unsafeSliceData,⟨[x]⟩,⟨[t]⟩⟩) L K:=λtm s hl hi=>by
 rcases hi.it _ hm with⟨h1,_⟩|⟨b,n',k',w,aE,h1,h2,h3,h4⟩
 .have:=(Value.slice.inj h1).2.1;omega
 .cases h1
  have iF:=hi.may hm (b:=b) (by simp[It.cr,pj]);obtain rfl:w=true:=by
   rcases h4 with⟨_,h,_⟩|⟨_,h⟩
   .exact absurd h (CV _)
   .exact h
  refine fy.pure (v:=.pointer (some ⟨b,0,none⟩)) (s':=s.aU b) (λcall=>?_) ⟨L,(λi=>i∈aj (some ⟨b,0,none⟩)),Z,hi.aU iF,cH iF.1 (by simp[aj]),by rw[bQ];exact k _⟩;show sZ (aO tm x) s=_;rw[hx.eval hl];show dN (Nat.beq dS dS) (s.row b λc _ w s=>dN (w&&Nat.ble 1 (dX c)) (aM (.pointer (some ⟨b,0,none⟩)) s))=_;rw[ja,ep];unfold St.row St.look;rw[h2,bu];show dN (true&&Nat.ble 1 (dX (ai z++aE))) _=_;rw[c8,gb (by rw[bn,aR];omega)];rfl
theorem WO.T5 (he:∀c:UInt8,aq.cells c=[bv c])[hs:fZ E e 1](hp:gX E t=some (.pointer e))(hx:Ev l x (.pointer a))(hy:Ev l y (iv (z.length:Nat)))(hr:Kx (.aQ (.slice a z.length c) e 1 (ai z)) L R)(h0:0<z.length)(hn:z.length<=1000000)(k:∀n,K (sv z) R n n (λi=>i∈aj a) (λi=>i∈aj a)):WO E X Γ l (.call ⟨.builtin .unsafeString,⟨[x,y]⟩,⟨[t,t2]⟩⟩) L K:=λtm s hl hi=>by
 have fb:=hi.cT hr.cT;rcases fb.it _ ga with⟨h1,_⟩|⟨b,n',k',w,aE,h1,h2,h3,h4⟩
 .have:=(Value.slice.inj h1).2.1;omega
 .cases h1
  have iF:=fb.may ga (b:=b) (by simp[It.cr,pj]);refine fy.pure (v:=sv z) (s':=(s.aU b).put b none) (λcall=>?_) ⟨R,(λi=>i∈aj (some ⟨b,0,none⟩)),(λi=>i∈aj (some ⟨b,0,none⟩)),(fb.aU iF).kill (by simp[It.cr,pj]),kX.trans (cH iF.1 (by simp[aj])) (jX (by simpa using iF.1) (by simp[aj]) (by simp[aj])),by rw[dY,bQ];exact k _⟩;show oE E [t,t2] (aO tm x) (aO tm y) s=_;rw[hx.eval hl,hy.eval hl];show(s.row b λc e' _ s=>ob (gX E t) λd=>match d with
   |.pointer e''=>ob (size E e'') λsz=>dN (Nat.beq e' e''&&Nat.beq sz 1&&Nat.ble 1 z.length&&Nat.ble z.length 1000000)<| ob (ie z.length c) λl=>ob (yH l) λbs=>aM (.string ⟨⟨bs⟩⟩) (s.put b none)
   |_=>none)=_
  unfold St.row St.look;rw[h2,bu,hp];simp only[bu,hs.h,ja,gb (show 1<=z.length from h0),gb hn];have htk:ie z.length (ai z++aE)=some (ai z):=by
   have:=sw (cs:=ai z) (o:=0) (m:=z.length) (c:=ai z++aE) (by rw[IG];have h:=aR z;rw[uz] at h;rw[<-h,List.take_left]) (by rw[aR,uz]);exact this
  rw[htk,bu,Hc z he];rfl
theorem WO.ady {u:TypeId}{m:Nat}(h1:gX E t=some (.pointer u))(h2:gX E t2=some .unsafePointer)[hs:fZ E u m](B4:1<=m)(hx:Ev l x (.pointer (some ⟨b,0,none⟩)))(hm:It.box b cs e false∈L)(hc:0<cs.length)(k:∀n,K (.pointer (some ⟨b,0,none⟩)) L n n (λi=>i=b) Z):WO E X Γ l (.convert t t2 x) L K:=λtm s hl hi=>by
 have iF:=hi.may hm (b:=b) (by simp[It.cr]);refine fy.pure (v:=.pointer (some ⟨b,0,none⟩)) (s':=s.aU b) (λcall=>?_) ⟨L,(λi=>i=b),Z,hi.aU iF,cH iF.1 rfl,by rw[bQ];exact k _⟩;show qX E s t t2 (aO tm x)=_;rw[hx.eval hl];unfold qX;rw[h1,h2];have hg:s.heap.get b=some (.cells cs e false):=hi.it _ hm;show(s.row b λc _ w s=>ob (size E u) λsz=>dN (!w&&Nat.ble 1 (dX c)&&Nat.ble 1 sz) (aM (.pointer (some ⟨b,0,none⟩)) s))=_;unfold St.row St.look;rw[hg,bu,hs.h];show dN (!false&&Nat.ble 1 (dX cs)&&Nat.ble 1 m) _=_;rw[c8,gb hc,gb B4];rfl
theorem WO.adz {u m:Nat}(hu:E.CZ=u)(h1:gX E t=some .unsafePointer)(h2:gX E t2=some (.pointer u))[hs:fZ E u m](hx:Ev l x (.pointer (some ⟨b,0,none⟩)))(hm:It.box b cs u false∈L)(hc:cs.length=2)(k:∀n,K (.pointer (some ⟨b,0,none⟩)) L n n (λi=>i=b) Z):WO E X Γ l (.convert t t2 x) L K:=λtm s hl hi=>by
 subst hu;have iF:=hi.may hm (b:=b) (by simp[It.cr]);refine fy.pure (v:=.pointer (some ⟨b,0,none⟩)) (s':=s.aU b) (λcall=>?_) ⟨L,(λi=>i=b),Z,hi.aU iF,cH iF.1 rfl,by rw[bQ];exact k _⟩;show qX E s t t2 (aO tm x)=_;rw[hx.eval hl];unfold qX;rw[h1,h2];have hg:s.heap.get b=some (.cells cs E.CZ false):=hi.it _ hm;show(s.row b λc e w s=>ob (size E E.CZ) λ_=>dN (!w&&Nat.beq (dX c) 2&&Nat.beq e E.CZ&&Nat.beq E.CZ E.CZ) (aM (.pointer (some ⟨b,0,none⟩)) s))=_;unfold St.row St.look;rw[hg,bu,hs.h];show dN (!false&&Nat.beq (dX cs) 2&&Nat.beq E.CZ E.CZ&&Nat.beq E.CZ E.CZ) _=_;rw[c8,hc,ja,show Nat.beq E.CZ E.CZ=true from ja _];rfl
theorem WO.adA [ht:WZ E t]{m:Nat}{u:TypeId}(hu:gX E t=some (.pointer u))[hs:fZ E u m](hx:Ev l x (.pointer (some ⟨b,0,none⟩)))(hy:Ev l y (.pointer (some ⟨b,0,none⟩)))(k:∀n,K (.bool false) L n n Z Z):WO E X Γ l (.binOp .neq t x y t2) L K:=WO.bin hx hy (λcc=>by
 show ob (gX E t) (λd=>Ai .neq (Z2 E d (.pointer (some ⟨b,0,none⟩)) (.pointer (some ⟨b,0,none⟩))))=_;rw[hu];show Ai .neq (ob (size E u) λ_=>dN (Nat.beq b b&&Nat.beq 0 0) (some true))=_;rw[hs.h,ja];rfl) k
end
variable {L2:dy}{xs:List Operand}{ts:Array TypeId}{vs:aY}{A:List Nat}{st:ar}
structure SA where
 r:aS
 rc:Nat
 f:aS
 fc:Nat
 l:aS
 lc:Nat
 g:aS
 gc:Nat
 d:aS
 dc:Nat
abbrev rS (v:SA)(st:ar):aY:=[.slice v.r 64 v.rc,.slice v.f 64 v.fc,.slice v.l 64 v.lc,iv st.fH,.slice v.g st.cP.length v.gc,iv st.oQ,.slice v.d st.eg.length v.dc,.bool st.same]
abbrev fI (v:SA)(st:ar):Value:=.agg ⟨rS v st⟩
abbrev eK (v:SA)(st:ar):dy:=[.aQ (.slice v.r 64 v.rc) 9 1 (ai st.ej),.aQ (.slice v.f 64 v.fc) 3 1 (ai st.bd),.aQ (.slice v.l 64 v.lc) 3 1 (ai st.dm),.aQ (.slice v.g st.cP.length v.gc) 73 5 (ai st.cP),.aQ (.slice v.d st.eg.length v.dc) 73 5 (ai st.eg)]
abbrev iH (v:SA):List Nat:=aj v.r++(aj v.f++aj v.l)
structure cS (s:St)(v:SA)(st:ar):Prop where
 r:bM s v.r 64 1 (ai st.ej)
 f:bM s v.f 64 1 (ai st.bd)
 l:bM s v.l 64 1 (ai st.dm)
structure ru (Γ:qN)(L:dy)(v:SA)(st:ar):Prop where
 r:kr Γ L v.r 64 1 (ai st.ej)
 f:kr Γ L v.f 64 1 (ai st.bd)
 l:kr Γ L v.l 64 1 (ai st.dm)
section
variable {l:Kn}{f:FuncId}{r:Value}{v:SA}{s:St}
theorem ru.row (h:ru Γ L v st)(hi:Inv Γ s L):cS s v st/\∀b∈iH v,Ca Γ s b:=by
 refine⟨⟨(h.r.row hi).1,(h.f.row hi).1,(h.l.row hi).1⟩,λb hb=>?_⟩;rcases eW.1 hb with hb|hb
 .exact(h.r.row hi).2 b hb
 .rcases eW.1 hb with hb|hb
  .exact(h.f.row hi).2 b hb
  .exact(h.l.row hi).2 b hb
theorem HS {b:Nat}(h:b∈aj v.r):b∈iH v:=cA _ h
theorem HT {b:Nat}(h:b∈aj v.f):b∈iH v:=dt _ (cA _ h)
theorem HU {b:Nat}(h:b∈aj v.l):b∈iH v:=dt _ (dt _ h)
theorem WO.mw (hx:jY l xs vs)(h:∀s,cS s v st->l7 E X f vs s (iH v) r)(hh:ru Γ L v st)(k:∀m m',iY L m->m<=m'->K r L m m' (mV (iH v) [] m m') (mW [] m m')):WC E X Γ l f xs ts L K:=
 WO.nu hx (λs hi=>⟨(hh.row hi).2,h s (hh.row hi).1⟩) k
theorem WO.AL {α:Type}{sz:Nat}{enc:aq α sz}{e:TypeId}{p:List α}(hx:jY l xs vs)(h:∀s,cS s v st->eu E X f vs s (iH v) e p)(hh:ru Γ L v st)(k:∀m m' a c,iY L m->m<=m'->K (.slice a p.length c) (.aQ (.slice a p.length c) e sz (ai (sz:=sz) p)::L) m m' (mV (iH v) [] m m') (mW [] m m')):WC E X Γ l f xs ts L K:=
 WO.Lw hx (λs hi=>⟨(hh.row hi).2,h s (hh.row hi).1⟩) k
theorem WO.tS {α:Type}{sz:Nat}{enc:aq α sz}{e:TypeId}{p:List α}{b:Bool}(hx:jY l xs vs)(h:∀s,cS s v st->jF E X f vs s (iH v) e p b)(hh:ru Γ L v st)(k:∀m m' a c,iY L m->m<=m'->K (.tuple ⟨[.slice a p.length c,.bool b]⟩) (.aQ (.slice a p.length c) e sz (ai (sz:=sz) p)::L) m m' (mV (iH v) [] m m') (mW [] m m')):WC E X Γ l f xs ts L K:=
 WO.WT hx (λs hi=>⟨(hh.row hi).2,h s (hh.row hi).1⟩) k
theorem Rd.EJ (h:cS s v st):Rd ⟨s,([]:dy).flatMap It.cr,iH v⟩ v.r 64 1 (ai st.ej):=Rd.of h.r λ_ hb=>HS hb
theorem Rd.off (h:cS s v st):Rd ⟨s,([]:dy).flatMap It.cr,iH v⟩ v.f 64 1 (ai st.bd):=Rd.of h.f λ_ hb=>HT hb
theorem Rd.CI (h:cS s v st):Rd ⟨s,([]:dy).flatMap It.cr,iH v⟩ v.l 64 1 (ai st.dm):=Rd.of h.l λ_ hb=>HU hb
inductive nM:dy->dy->dy->Prop
 |nil {L:dy}:nM [] L L
 |cons {x:It} {xs L R R2:dy} (h:Kx x L R) (k:nM xs R R2):nM (x::xs) L R2
theorem nM.cT {xs L R:dy}(h:nM xs L R):L.Perm (xs++R):=by
 induction h with
 |nil=>exact .refl _
 |cons h _ ih=>exact h.cT.trans (ih.cons _)
abbrev eO (E:iq)(X:fY)(f:FuncId)(vs:aY)(s:St)(A:List Nat)(v:SA)(st cZ:ar)(ok:Bool)(mk:Value->Value):Prop:=fA E X f vs s (eK v st) A λr L=>∃v':SA,(ok=false->v'=v)/\r=mk (fI v' cZ)/\L=eK v' cZ
theorem WO.nE {cZ:ar}{ok:Bool}{mk:Value->Value}(hx:jY l xs vs)(h:∀s,eO E X f vs s [] v st cZ ok mk)(hp:nM (eK v st) L R)(k:∀m m' v',iY L m->m<=m'->(ok=false->v'=v)->K (mk (fI v' cZ)) (eK v' cZ++R) m m' (mV [] (eK v st) m m') (mW (eK v st) m m')):WC E X Γ l f xs ts L K:=
 WO.call (Lm:=eK v st) (R:=R) hx hp.cT (λs hi b hb=>by cases hb) (λs _=>h s) (by rintro r L' m m' ho hm ⟨v',hv,rfl,rfl⟩;exact k m m' v' ho hm hv)
theorem qU {rs:List ResultVar}{x:Ex}{v':SA}{cZ:ar}{ok:Bool}{mk:Value->Value}{ws:aY}(hx:x= .normal\/x= .ret)(hr:qO E l L rs ws)(hL:cx (eK v' cZ) L)(hv:gK ws=mk (fI v' cZ))(gd:ok=false->v'=v):
  wK E rs (λr L=>∃v':SA,(ok=false->v'=v)/\r=mk (fI v' cZ)/\L=eK v' cZ) x l L:=⟨hx,ws,_,hr,hL,v',gd,hv,rfl⟩
end
theorem WO.storeT {E:iq}{X:fY}{Γ:qN}{l:Kn}{L L':dy}{K:KO}{x y:Operand}{w:Value}{t:TypeId}{a:aS}{n:Nat}{α:Type}{enc:aq α 1}{p:List α}{q:α}{i c e:Nat}[ht:fZ E t 1](hx:Ev l x (dh a i 1 0))(hy:Ev l y w)
  (hu:y3 (.aQ (.slice a n c) e 1 (ai p)) (.aQ (.slice a n c) e 1 (ai (p.set i q))) L L')(hv:aq.cells q=[w])(hi:i<p.length)(k:∀n,K (.tuple ⟨[]⟩) L' n n (λi=>i∈aj a) (λi=>i∈aj a)):WO E X Γ l (.store t x y) L K:=
 WO.aem (m:=1) hx hy hv hi hu k
structure dv (n:Nat)(st:ar):Prop where
 lr:st.ej.length=64
 lf:st.bd.length=64
 ll:st.dm.length=64
 rw:∀x∈st.ej,x.length<=3000
 rf:∀x∈st.bd,-(n:Int)<=x/\x<=n
 tx:1<=st.fH/\st.fH<=n
 kp:0<=st.oQ/\st.oQ<=n
 gl:st.cP.length<=n
 dl:st.eg.length<=n
 gr:∀p∈st.cP,0<=p.row/\p.row<64
structure dZ (t:cB):Prop where
 rt:bB t.cG=true
 mn:0<=t.many/\t.many<=16
 dp:0<=t.depth/\t.depth<=2
theorem dv.mono {n m:Nat}{st:ar}(h:dv n st)(hm:n<=m):dv m st:=
 ⟨h.lr,h.lf,h.ll,h.rw,λx hx=>by have:=h.rf x hx;omega,by have:=h.tx;omega,by have:=h.kp;omega,by have:=h.gl;omega,by have:=h.dl;omega,h.gr⟩
theorem dv.row {n:Nat}{st:ar}(h:dv n st)(i:Nat):(st.ej.getD i []).length<=3000:=by
 rw[a7];by_cases hi:i<st.ej.length
 .rw[bc hi];exact h.rw _ (rX _)
 .rw[qP af];simp
theorem dv.ref {n:Nat}{st:ar}(h:dv n st)(i:Nat): -(n:Int)<=st.bd.getD i 0/\st.bd.getD i 0<=n:=by
 rw[a7];by_cases hi:i<st.bd.length
 .rw[bc hi];exact h.rf _ (rX _)
 .rw[qP af];simp
theorem zA {p:jt}(h:bB p=true)(hh:aK p=false):8<=p.row/\p.row<=63:=by have:=h;simp only[bB,hh,Bool.false_or,S5,fM,bI,bR] at this;omega
variable {n:Nat}{p:List bE}{m:Int}
theorem MH {α:Type}{sz:Nat}[aq α sz]{j:Nat}(hj:j<sz)(v:Value)(q:α):∀(p:List α)(i:Nat),i<p.length->aq.cells (sz:=sz) q=(aq.cells (sz:=sz) (p.getD i (aq.ah (sz:=sz)))).set j v->(ai (sz:=sz) p).set (i*sz+j) v=ai (sz:=sz) (p.set i q)
 |[],_,h,_=>by simp at h
 |x::p,0,_,hq=>by
  rw[List.set_cons_zero,dE,dE,hq,KF,mS,List.set_append,if_pos (by rw[aq.len];exact hj)];rfl
 |x::p,i+1,h,hq=>by
  rw[List.set_cons_succ,dE,dE,List.set_append,if_neg (by rw[aq.len,lU];omega),aq.len,<-MH hj v q p i (by simpa using h) hq]
  congr 2
  rw[lU];omega
theorem WO.zB {E:iq}{X:fY}{Γ:qN}{l:Kn}{L L':dy}{K:KO}{x y:Operand}{t:TypeId}{a:aS}{n sz:Nat}{v:Value}{α:Type}{enc:aq α sz}{p:List α}{q:α}{i j c e:Nat}[ht:fZ E t 1](hq:aq.cells (sz:=sz) q=(aq.cells (sz:=sz) (p.getD i (aq.ah (sz:=sz)))).set j v)(AB:flat v=true)(hj:j<sz)
  (hx:Ev l x (dh a i sz j))(hy:Ev l y v)(hu:y3 (.aQ (.slice a n c) e sz (ai (sz:=sz) p)) (.aQ (.slice a n c) e sz (ai (sz:=sz) (p.set i q))) L L')(hi:i<p.length)(k:∀n,K (.tuple ⟨[]⟩) L' n n (λi=>i∈aj a) (λi=>i∈aj a)):WO E X Γ l (.store t x y) L K:=λtm s h1 h2=>by
 obtain⟨R,p1,p2⟩:=hu.cT;have hm:It.aQ (.slice a n c) e sz (ai (sz:=sz) p)∈L:=p1.mem_iff.2 ay;rcases h2.it _ hm with⟨h3,h4⟩|⟨b,n',k',w,aE,h3,h4,h5,h6⟩
 .cases h3
  have:=aR (sz:=sz) p;rw[h4] at this;have h7:0<p.length*sz:=Nat.mul_pos af af;simp at this;omega
 .cases h3
  have dz:=(h2.may hm (b:=b) (by simp[It.cr,pj]));have hr:=h2.aU dz;have hil:i*sz+j<(ai (sz:=sz) p).length:=by
   rw[aR];have:(i+1)*sz<=p.length*sz:=wE _ hi;rw[lU] at this;omega
  have dD:eF (0+(i*sz+j)) [v] (ai (sz:=sz) p)=some (ai (sz:=sz) (p.set i q)):=by
   rw[mS,AA v _ _ hil,MH hj v q p i hi hq]
  refine fy.pure (v:=.tuple ⟨[]⟩) (s':=(s.aU b).put b (some (.cells (ai (sz:=sz) (p.set i q)++aE) e w))) (λcall=>?_) ⟨L',(λi=>i∈aj (iJ b)),(λi=>i∈aj (iJ b)),hr.put hu rfl rfl ?_,(kX.trans (cH dz.1 (by simp[aj])) (jX (by simpa using dz.1) (by simp[aj]) (by simp[aj]))),by rw[dY,bQ];exact k _⟩
  .show(Fv (aO tm x) λb o=>nc E s t b o (aO tm y))=_;rw[hx.eval h1,hy.eval h1];show nc E s t b (0+(i*sz+j)) v=_;unfold nc St.row St.look;rw[h4];simp only[bu,ht.h,BA AB,su aE _ _ _ _ dD];have:ku [v]=true:=by show bo (flat v) true false=true;rw[AB];rfl
   rw[this];rfl
  .exact .inr ⟨b,_,_,w,aE,rfl,by show T.get (St.heap _) b=_;simp,by rw[aR] at h5⊢;simpa using h5,DD h6 (by rw[aR,aR,gy])⟩
section
variable {l:Kn}{t:TypeId}{a:aS}{w:gD}{b:Bool}
theorem WO.afa [fZ E t 1](hx:Ev l x (dh a i 2 (0+0)))(hy:Ev l y (sv z))(hu:y3 (.aQ (.slice a n c) e 2 (ai p)) (.aQ (.slice a n c) e 2 (ai (p.set i ⟨z,(p.getD i aq.ah).id⟩))) L L')(hi:i<p.length)(k:∀n,K (.tuple ⟨[]⟩) L' n n (λi=>i∈aj a) (λi=>i∈aj a)):WO E X Γ l (.store t x y) L K:=WO.zB (q:=(⟨z,(p.getD i aq.ah).id⟩:bE)) rfl rfl af hx hy hu hi k
theorem WO.alH [fZ E t 1](hx:Ev l x (dh a i 2 (0+1)))(hy:Ev l y (iv m))(hu:y3 (.aQ (.slice a n c) e 2 (ai p)) (.aQ (.slice a n c) e 2 (ai (p.set i ⟨(p.getD i aq.ah).ag,m⟩))) L L')(hi:i<p.length)(k:∀n,K (.tuple ⟨[]⟩) L' n n (λi=>i∈aj a) (λi=>i∈aj a)):WO E X Γ l (.store t x y) L K:=WO.zB (q:=(⟨(p.getD i aq.ah).ag,m⟩:bE)) rfl rfl af hx hy hu hi k
theorem WO.aiD [fZ E t 1](hx:Ev l x (dh a i 3 (0+0)))(hy:Ev l y (iv m))(hu:y3 (.aQ (.slice a n c) e 3 (ai w)) (.aQ (.slice a n c) e 3 (ai (w.set i ⟨m,(w.getD i aq.ah).aN,(w.getD i aq.ah).a8⟩))) L L')(hi:i<w.length)(k:∀n,K (.tuple ⟨[]⟩) L' n n (λi=>i∈aj a) (λi=>i∈aj a)):WO E X Γ l (.store t x y) L K:=WO.zB (q:=(⟨m,(w.getD i aq.ah).aN,(w.getD i aq.ah).a8⟩:bS)) rfl rfl af hx hy hu hi k
theorem WO.aiE [fZ E t 1](hx:Ev l x (dh a i 3 (0+1)))(hy:Ev l y (.bool b))(hu:y3 (.aQ (.slice a n c) e 3 (ai w)) (.aQ (.slice a n c) e 3 (ai (w.set i ⟨(w.getD i aq.ah).id,b,(w.getD i aq.ah).a8⟩))) L L')(hi:i<w.length)(k:∀n,K (.tuple ⟨[]⟩) L' n n (λi=>i∈aj a) (λi=>i∈aj a)):WO E X Γ l (.store t x y) L K:=WO.zB (q:=(⟨(w.getD i aq.ah).id,b,(w.getD i aq.ah).a8⟩:bS)) rfl rfl af hx hy hu hi k
theorem WO.ah9 [fZ E t 1](hx:Ev l x (dh a i 3 (0+2)))(hy:Ev l y (sv z))(hu:y3 (.aQ (.slice a n c) e 3 (ai w)) (.aQ (.slice a n c) e 3 (ai (w.set i ⟨(w.getD i aq.ah).id,(w.getD i aq.ah).aN,z⟩))) L L')(hi:i<w.length)(k:∀n,K (.tuple ⟨[]⟩) L' n n (λi=>i∈aj a) (λi=>i∈aj a)):WO E X Γ l (.store t x y) L K:=WO.zB (q:=(⟨(w.getD i aq.ah).id,(w.getD i aq.ah).aN,z⟩:bS)) rfl rfl af hx hy hu hi k
end
theorem abu (s:St)(a:aS)(c:Nat)(n:Int):bL 278 [.slice a 0 c,iv n] s [] (.bool false):=by
 refine aX f278 ?_;(repeat(first|refine' xX|refine' av|fail));refine W.bK (λk l L=>Le [(0,.slice a 0 c),(1,iv n),(5,iv 0)] l/\cx [] L/\k=0) (λl L=>True) 0 ⟨bp,au,rfl⟩ ?_ ?_
 .rintro k l L ⟨hl,hL,rfl⟩;refine W.le ?_ hl hL;refine' cM
  all_goals first|trivial|(exfalso;simp_all;done)
 .rintro l L _;refine ak ?_;refine W.le ?_ (Le.nil _) (cx.nil _);refine' cM
  refine' ax;rfl
def Yx (o:Option Nat):Int:=(o.map Int.ofNat).getD (-1)
theorem x6 {p:Nat->Bool}{n i:Nat}(h:0<n):nS p n i=if p i then some i else nS p (n-1) (i+1):=by obtain⟨m,rfl⟩:∃m,n=m+1:=⟨n-1,af⟩;rfl
theorem pY (s:St)(v:SA)(st:ar)(h64:st.bd.length=64)(a:aS)(c:Nat)(hr:cS s v st):bL 253 [.agg ⟨[.slice v.f 64 v.fc,.slice v.l 64 v.lc]⟩,iv 8,.slice a 0 c] s (iH v) (iv (Yx (Dw st))):=by
 have uB:=Rd.off hr;refine aX f253 ?_;repeat' (first|refine' aZ|refine' zc3|refine' av|fail)
 refine W.bK (λk l L=>∃(i:Nat),Le [(3,bk bx),(1,iv 8),(2,.slice a 0 c),(7,iv 56),(8,iv i)] l/\cx [.box bx [.slice v.f 64 v.fc,.slice v.l 64 v.lc] 68 false] L/\k=56-i/\i<=56/\nS (λi=>decide (st.bd.getD i 0=0)) 56 8=nS (λi=>decide (st.bd.getD i 0=0)) (56-i) (8+i))
  (λl L=>Dw st=none) 56 ⟨0,bp,au,af,af,rfl⟩ ?_ ?_
 .rintro k l L ⟨i,hl,hL,rfl,h1,h2⟩;refine W.le ?_ hl hL;clear hl hL;have hm:((8:Int)-8+(i:Int)).tmod 56=if i<56 then(i:Int) else((8:Int)-8+(i:Int)).tmod 56:=by
   split
   .rw[Int.tmod_eq_emod_of_nonneg af,Int.emod_eq_of_lt af af];omega
   .rfl
  by_cases hi:i<56
  .rw[if_pos hi] at hm;have e:=x6 (p:=λi=>decide (st.bd.getD i 0=0)) (n:=56-i) (i:=8+i) af;have hx:8+(8-Nat.succ 7+i)% 56=8+i:=by omega
   refine' aiy
   ·(refine' ax)
    rw[hx] at uw;rw[show Dw st=some (8+i) from h2.trans (e.trans (if_pos (du uw)))];simp only[gK,Yx,hm];congr 1
   .refine⟨_,?_,i+1,?_,au,rfl,af,?_⟩
    .omega
    .exact bp
    .rw[hx] at uw;rw[h2,e,if_neg (by rw[bR];exact uw)]
     congr 1
   all_goals(exfalso;omega)
  .have fb:i=56:=by omega
   subst fb;refine' aiy;all_goals first|(exfalso;omega;done)|exact h2
 .rintro l L h1;refine ak ?_;refine W.le ?_ (Le.nil _) (cx.nil _);refine' cM
  refine' ax;rw[h1];rfl
theorem HV (s:St)(v:SA)(st:ar)(h:dv 100000 st)(z:aC)(hr:cS s v st):bL 252 [fI v st,sv z] s (iH v) (iv (Yx (Wt st z))):=by
 have tO:=Rd.EJ hr;have uB:=Rd.off hr;have uF:=Rd.CI hr;have Ku:=h.lr;have B8:=h.lf;have hll:=h.ll;refine aX f252 ?_;(repeat(first|refine' xX|refine' av|fail))
 refine W.bK (λk l L=>∃(i:Nat),Le [(2,bk bx),(1,sv z),(5,iv i)] l/\cx [.box bx (rS v st) 71 false] L/\k=64-i/\8<=i/\i<=64/\Wt st z=nS (yX st z) (64-i) i)
  (λl L=>Wt st z=none) 56 ⟨8,bp,au,af,af,af,rfl⟩ ?_ ?_
 .rintro k l L ⟨i,hl,hL,rfl,h0,h1,h2⟩;refine W.le ?_ hl hL;clear hl hL;by_cases hi:i<64
  .have e:=x6 (p:=yX st z) (n:=64-i) (i:=i) af;have hn:yX st z i=false->nS (yX st z) (64-i) i=nS (yX st z) (64-(i+1)) (i+1):=λhf=>by rw[e,hf];rfl
   have CJ:yX st z i=(decide (st.ej.getD i aq.ah=z)&&decide (st.dm.getD i aq.ah<st.fH)&&decide (st.bd.getD i aq.ah<st.fH)):=rfl;refine' cM
   ·(refine' ax)
    (have ht:yX st z i=true:=by rw[CJ];simp_all);rw[h2,e,if_pos ht];rfl
   rotate_left 3
   .exfalso;omega
   all_goals
    refine⟨_,?_,i+1,bp,au,rfl,af,af,?_⟩
    .omega
    .rw[h2,hn (by rw[CJ];first|(rw[hc];simp;done)|(rw[hg];simp;done))]
  .have fb:i=64:=by omega
   subst fb;refine' cM;all_goals first|(exfalso;omega;done)|exact h2
 .rintro l L h1;refine ak ?_;refine W.le ?_ (Le.nil _) (cx.nil _);refine' cM
  refine' ax;rw[h1];rfl
def adB (o:Option aC):Value:=.tuple ⟨[sv (o.getD []),.bool o.isSome]⟩
theorem Hw (s:St)(v:SA)(st:ar)(h:dv 100000 st)(p:jt)(hp:bB p=true)(hr:cS s v st):bL 170 [fI v st,pv p] s (iH v) (adB (jT st p)):=by
 have tO:=Rd.EJ hr;have Ku:=h.lr;have hw:(st.ej.getD p.row.toNat aq.ah).length<=3000:=h.row p.row.toNat;cases hh:aK p with
 |true=>
  refine aX f170 ?_;refine' Ce;refine' ax;unfold jT;rw[if_pos hh];rfl
 |false=>
  have hrg:=zA hp hh;refine aX f170 ?_;repeat' (first|refine' aZ|refine' Hu|refine' aeZ|refine' av|fail)
  all_goals refine' ax
  all_goals(unfold jT;rw[if_neg (by rw[hh];simp)])
  .rw[if_neg (by simp_all [gw])];rfl
  .rw[if_pos (by simp_all [gw])];rfl
theorem Pn (s:St)(n:Int)(hn:0<=n/\n<=1000):eu bf bw 216 [iv n] s [] 73 (da n.toNat):=by refine aX f216 ?_;refine' cM;all_goals(refine' jo);rfl
theorem HW {st:ar}(h:dv 100000 st)(p:jt):((jT st p).getD []).length<=3000:=by
 unfold jT;split
 .simp
 .split
  .exact h.row _
  .simp
theorem Eg (s:St)(v:SA)(st:ar)(h:dv 100000 st)(p:jt)(level:Int)(hr:cS s v st):jF bf bw 260 [fI v st,pv p,iv level] s (iH v) 73 ((below st p level).getD []) (below st p level).isSome:=by
 have tO:=Rd.EJ hr;have uB:=Rd.off hr;have uF:=Rd.CI hr;have VV:=HW h p;cases hh:aK p with
 |true=>
  refine aX f260 ?_;repeat' (first|refine' aZ|refine' Hu|refine' ae0|refine' av|fail)
  rw[Pg.ou hh];(refine' fa)<;>rfl
 |false=>
  have hb0:(bB p=false\/p.level≠level\/st.fH<p.di)->below st p level=none:=λhc=>by
   unfold below;rw[if_neg (by rw[hh];simp),if_pos (by simp;rcases hc with hc|hc|hc<;>simp[hc])]
  by_cases FD:bB p=true
  .refine aX f260 ?_;have z7:p.level=level->p.di<=st.fH->below st p level=match jT st p with
     |none=>none
     |some s=>match ko s with
      |none=>none
      |some l=>if l.any (λq=>decide (p.di<q.di)) then none else some l:=λh1 h2=>by
    unfold below;rw[if_neg (by rw[hh];simp),if_neg (by simp[FD,h1];omega)];rfl
   (repeat' (first|refine' aZ|refine' Hu|refine' TF|refine' AK|((with_reducible apply WO.tM);exact aD;exact λs=>T1 s _ af;intro _ _ wi wj _ _)|refine' av|fail))
   .rw[hb0 (.inr (.inr j5))];(refine' fa)<;>rfl
   .have hn:jT st p=none:=by cases hx:jT st p<;>simp_all
    rw[z7 uw aP,hn];(refine' fa)<;>rfl
   .obtain⟨z,hz⟩:=lV.1 (show(jT st p).isSome=true by simp_all);have Vg:=z7 aP aP;rw[hz] at Vg⊢;simp only[qd] at *
    generalize hq:(ko z).getD []=q at *
    have hql:q.length<=4:=by
     cases hf:ko z with
     |none=>rw[hf] at hq;subst hq;simp
     |some l=>rw[hf] at hq;have:=(Pg.BE hf).1;simp at hq;subst hq;omega
    refine W.bK (λk l L=>∃(i:Nat),Le [(4,bk bx),(10,.slice wi q.length wj),(11,.bool (ko z).isSome),(12,iv i)] l/\cx [.aQ (.slice wi q.length wj) 73 5 (ai q),.box bx (rN p) 73 false] L/\k=q.length-i/\i<=q.length/\∀j,j<i->¬p.di<(q.getD j aq.ah).di)
     (λl L=>Le [(10,.slice wi q.length wj),(11,.bool (ko z).isSome)] l/\cx [.aQ (.slice wi q.length wj) 73 5 (ai q)] L/\∀j,j<q.length->¬p.di<(q.getD j aq.ah).di) q.length ⟨0,bp,au,af,af,λj hj=>by omega⟩ ?_ ?_
    .rintro k l L ⟨i,hl,hL,rfl,h1,h2⟩;refine W.le ?_ hl hL;clear hl hL;refine' cM
     .have hn:below st p level=none:=by
       rw[Vg];cases hf:ko z with
       |none=>rfl
       |some w=>
        rw[hf] at hq;(have hq:w=q:=by simpa using hq);subst hq;simp only;rw[if_pos];rw[Gx];exact⟨_,aL (show i<w.length by omega) aq.ah,by simpa using j5⟩
      rw[hn];(refine' fa)<;>rfl
     .refine⟨_,?_,i+1,bp,au,rfl,af,λj hj=>?_⟩
      .omega
      .by_cases sT:j=i
       .subst sT;omega
       .exact h2 j af
     .exact⟨bp,au,λj hj=>h2 j af⟩
    .rintro l L ⟨hl,hL,h1⟩;refine ak ?_;refine W.le ?_ hl hL;clear hl hL;have:below st p level=ko z:=by
      rw[Vg];cases hf:ko z with
      |none=>rfl
      |some w=>
       rw[hf] at hq;(have hq:w=q:=by simpa using hq);subst hq;simp only;rw[if_neg];intro hc;obtain⟨x,hx,S2⟩:=Gx.1 hc;obtain⟨j,hj,rfl⟩:=jO hx;have:=h1 j hj;rw[pO _ hj] at this;exact this (by simpa using S2)
     rw[this];refine' cM;refine' fa
     .exact hq
     .rfl
   .first
     |(exfalso;simp_all;done)
     |(rw[hb0 (.inr (.inl uw))];(refine' fa)<;>rfl)
   all_goals first
     |(exfalso;simp_all;done)
     |(rw[hb0 (.inr (.inl uw))];(refine' fa)<;>rfl)
  .have aiF:bB p=false:=by simpa using FD
   (have Ky:(!bB p)=true:=by rw[aiF];rfl);refine aX f260 ?_;(repeat' (first|refine' aZ|refine' Hu|refine' TF|refine' av|fail));rw[hb0 (.inl aiF)];(refine' fa)<;>rfl
variable {q:c9}
end Go.Pl
