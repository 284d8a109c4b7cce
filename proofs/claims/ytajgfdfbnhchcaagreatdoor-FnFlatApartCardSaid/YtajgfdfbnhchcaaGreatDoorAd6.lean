/- Lemmas of the proof. No conditions. -/
import Derived.Test.YtajgfdfbnhchcaaGreatDoorAd5
set_option maxRecDepth 100000
set_option maxHeartbeats 4000000
set_option linter.unusedVariables false
set_option linter.unusedSimpArgs false
open Go.Proofs.Tryz
namespace Go.Pl
open Go Go.Ev Go.Lg Go.Proofs
theorem Mx (s:St)(v:SA)(st:ar)(h:dv 100000 st)(a:aK)(c:Nat)(l:cW)(h4:l.length=4)(level:Int)(old:jt)(hr:bO s a l.length 5 (ai l))(hm:∀b∈aj a,b∉(eO v st).flatMap It.aY):
  eQ a8 bj 244 [fD v st,.slice a l.length c,iv level,pv old] s (aj a) v st (vg st l level old).1 false (wrV (vg st l level old).2.1 (vg st l level old).2.2):=by
 have hd:Rd ⟨s,(eO v st).flatMap It.aY,aj a⟩ a l.length 5 (ai l):=⟨hr,λb hb=>hb,hm⟩;have KF:=h.lr;have BR:=xM h4;cases ha:l.all aI with
 |true=>
  have hf:vg st l level old=(st,bq,true):=by unfold vg Oi;rw[ha];rfl
  rw[hf];refine aU f244 ?_;dsimp only[eO] at hd⊢;(repeat' (first|refine' a7|refine' WK|refine' aw|fail))
  (refine' dW)
  .rfl
  .exact λ_=>rfl
 |false=>
  by_cases hc:(!aI old&&fits old ((km l).getD [])&&decide (gk st old=(km l).getD []))=true
  .have hf:vg st l level old=(st,old,true):=by unfold vg Oi;rw[ha];simp only[jQ,pg];rw[if_pos hc]
   rw[hf];simp only[bU,pU,bQ] at hc;obtain⟨⟨h1,h2⟩,h3⟩:=hc;have J3:bw old=true:=by simp[fits] at h2;exact h2.1.1.1
   have hrg:=zh J3 h1;have h3d:decide (st.er.getD old.row.toNat ak.ah=(km l).getD [])=true:=dt h3;have hhd:(!aI old)=true:=by rw[h1];rfl
   refine aU f244 ?_;dsimp only[eO] at hd⊢;(repeat' (first|refine' a7|refine' WK|refine' acs|refine' GW|refine' aed|refine' aw|fail))
   (refine' dW)
   .rfl
   .exact λ_=>rfl
  .have hf:vg st l level old=wr st ((km l).getD []) level:=by unfold vg Oi wr;rw[ha];simp only[jQ,pg];rw[if_neg hc];try rfl
   rw[hf];have hrg:aI old=false->fits old ((km l).getD [])=true->8<=old.row/\old.row<=63:=λh1 h2=>zh (by simp[fits] at h2;exact h2.1.1.1) h1
   cases hh:aI old with
   |true=>
    have hhd:(!aI old)=false:=by rw[hh];rfl
    refine' za0
    .rfl
    .exact Az
   |false=>
    have hhd:(!aI old)=true:=by rw[hh];rfl
    cases Qy:fits old ((km l).getD []) with
    |false=>
     refine' za0
     .rfl
     .exact Az
    |true=>
     have hrg:=hrg hh Qy;have h3d:decide (st.er.getD old.row.toNat ak.ah=(km l).getD [])=false:=by
      rw[mb];intro hx;apply hc;rw[hh,Qy];exact dt hx
     refine' za0
     .rfl
     .exact Az
section
variable {i:Nat}{level:Int}{t:bX}{L was stays out:cW}
theorem oS {α:Type}{l:List α}{x y:α}(h:y∈l.set i x):y∈l\/y=x:=by
 rcases Gc h with h|h
 .exact .inl h
 .exact .inr h
theorem dv.bf {n:Nat}{st cQ:ar}{s:aA}{p:jt}(h:dv n st)(hs:s.length<=3000)(hw:bf st s level=some (cQ,p)):dv (n+1) cQ/\bw p=true/\cQ.cI=st.cI/\cQ.ej=st.ej:=by
 unfold Go.Pl.bf at hw;split at hw
 .cases hw
 .rename_i i _;split at hw
  .cases hw
  .rename_i q hq;cases hw
   have hr:=h.ref i;have ht:=h.tx;have hk:=h.kp;refine⟨⟨by simp[h.lr],by simp[h.lf],by simp[h.ll],λx hx=>?_,λx hx=>?_,by show 1<=st.fC/\st.fC<=_;omega,by show 0<=st.oL/\st.oL<=_;omega,by have:=h.gl;show st.cI.length<=_;omega,by have:=h.dl;show st.ej.length<=_;omega,h.gr⟩,(Pg.D7 hq).2.2.2,rfl,rfl⟩
   .rcases oS hx with hx|rfl
    .exact h.rw x hx
    .exact hs
   .rcases oS hx with hx|rfl
    .have:=h.rf x hx;omega
    .omega
theorem dv.drop {n:Nat}{st:ar}{row:Int}(h:dv n st):dv (n+1) (drop st row):=by
 have hr:=h.ref row.toNat;have ht:=h.tx;have hk:=h.kp;unfold Go.Pl.drop;refine⟨?_,by simp[h.lf],?_,λx hx=>?_,λx hx=>?_,by show 1<=st.fC/\st.fC<=_;omega,by show 0<=st.oL/\st.oL<=_;omega,by have:=h.gl;show st.cI.length<=_;omega,by have:=h.dl;show st.ej.length<=_;omega,h.gr⟩
 .dsimp only;split<;>simp[h.lr]
 .dsimp only;split<;>simp[h.ll]
 .dsimp only at hx;split at hx
  .rcases oS hx with hx|rfl
   .exact h.rw x hx
   .simp
  .exact h.rw x hx
 .dsimp only at hx;rcases oS hx with hx|rfl
  .have:=h.rf x hx;omega
  .omega
theorem dv.free {n:Nat}{st:ar}{p:jt}(h:dv n st)(hp:bw p=true):dv (n+1) (free st p):=by
 unfold Go.Pl.free;split
 .exact h.mono ag
 .rename_i hh;have hrg:=zh hp (by simpa using hh);split
  .exact⟨h.lr,h.lf,h.ll,h.rw,λx hx=>by have:=h.rf x hx;omega,by have:=h.tx;show 1<=st.fC/\st.fC<=_;omega,by have:=h.kp;show 0<=st.oL/\st.oL<=_;omega,by have:=h.gl;show st.cI.length<=_;omega,by have:=h.dl;show(st.ej++[p]).length<=_;rw[bJ,A5];omega,h.gr⟩
  .split
   .refine⟨h.lr,h.lf,h.ll,h.rw,λx hx=>by have:=h.rf x hx;omega,by have:=h.tx;show 1<=st.fC/\st.fC<=_;omega,by have:=h.kp;show 0<=st.oL/\st.oL<=_;omega,by have:=h.gl;show(st.cI++[p]).length<=_;rw[bJ,A5];omega,by have:=h.dl;show st.ej.length<=_;omega,λq hq=>?_⟩;rcases eX.1 hq with hq|hq
    .exact h.gr q hq
    .have:q=p:=by simpa using hq
     subst this;omega
   .exact h.drop
theorem dv.dC {st:ar}:∀{n:Nat}(l:cW){st:ar},dv n st->(∀p∈l,bw p=true)->dv (n+l.length) (dC l st)
 |n,[],st,h,_=>h
 |n,p::l,st,h,hp=>by
  have:=dv.dC (st:=st) l (h.free (hp p (by simp))) (λx hx=>hp x (by simp[hx]));rw[cY,show n+(l.length+1)=n+1+l.length by omega];exact this
theorem X7 {n:Nat}{st:ar}{l:cW}{old:jt}(h:dv n st)(h4:l.length=4):dv (n+1) (vg st l level old).1/\(vg st l level old).1.cI=st.cI/\(vg st l level old).1.ej=st.ej:=by
 unfold vg;cases hf:Oi st l level old with
 |none=>exact⟨h.mono ag,rfl,rfl⟩
 |some r=>
  obtain⟨cQ,p⟩:=r;unfold Oi at hf;simp only;split at hf
  .cases hf;exact⟨h.mono ag,rfl,rfl⟩
  .simp only at hf;split at hf
   .cases hf;exact⟨h.mono ag,rfl,rfl⟩
   .have:=h.bf (by have:=xM h4;omega) hf;exact⟨this.1,this.2.2⟩
theorem My {st:ar}(ht:bw t.cy=true):(fG st t).length<=5/\∀p∈fG st t,bw p=true:=by
 unfold fG;split
 .simp
 .split
  .have hb:=AK (st:=st) (p:=t.cy) (n:=2);have hf:=CK (λp=>!aI p) ((below st t.cy 2).getD []);refine⟨by rw[cY];omega,λp hp=>?_⟩;rcases bR.1 hp with rfl|hp
   .exact ht
   .have hp:=(qR.1 hp).1;cases O8:below st t.cy 2 with
    |none=>rw[O8] at hp;cases hp
    |some w=>rw[O8] at hp;exact(Pg.iP O8).2.1 p (by simpa using hp)
  .refine⟨by simp,λp hp=>?_⟩;have:p=t.cy:=by simpa using hp
   rw[this];exact ht
theorem TF {st:ar}{depth level:Int}(hd:depth=1\/depth=2):(level=depth->1<=(iT st t depth level).length)/\(level≠depth->(iT st t depth level).length=4)/\(iT st t depth level).length<=4:=by
 unfold iT;split
 .exact⟨λ_=>by simp[c9],λ_=>by simp[c9],by simp[c9]⟩
 .split
  .exact⟨λ_=>by simp,λh=>by contradiction,by simp⟩
  .have:((below st t.cy depth).getD (c9 4)).length=4:=by
    cases hb:below st t.cy depth with
    |none=>simp[c9]
    |some w=>simpa using(Pg.iP hb).1
   exact⟨λ_=>by omega,λ_=>this,ag⟩
theorem Mz {st:ar}(h:4*i+4<=L.length)(hw:i<was.length):ko level (L.drop (4*i)) (was.drop i) st stays out=match Oi st ((L.drop (4*i)).take 4) level (was.getD i ak.ah) with
  |none=>(st,none)
  |some (x,p)=>ko level (L.drop (4*(i+1))) (was.drop (i+1)) x (if p=was.getD i ak.ah then stays++[p] else stays) (out++[p]):=by
 obtain⟨a,b,c,d,r,hr⟩:∃a b c d r,L.drop (4*i)=a::b::c::d::r:=by
  have hl:(L.drop (4*i)).length=L.length-4*i:=gd
  match hh:L.drop (4*i),hl with
  |a::b::c::d::r,_=>exact⟨a,b,c,d,r,rfl⟩
  |[],hl=>simp at hl;omega
  |[a],hl=>simp at hl;omega
  |[a,b],hl=>simp at hl;omega
  |[a,b,c],hl=>simp at hl;omega
 have nG:L.drop (4*(i+1))=r:=by
  rw[show 4*(i+1)=4*i+4 by omega,<-mm,hr];rfl
 rw[nG,hr,drop_cons hw,ko];simp only[List.headD_cons,List.tail_cons,x_5,List.take_zero];cases Oi st [a,b,c,d] level (was.getD i ak.ah) with
 |none=>rfl
 |some r=>rfl
theorem EA {st:ar}(h:L=[]):ko level L was st stays out=(st,some (stays,out)):=by
 subst h;rw[ko];intros;contradiction
theorem Bx (l:cW):(eZ l).length% 4=0/\l.length<=(eZ l).length/\(eZ l).length<l.length+4:=by
 unfold eZ;rw[bJ];simp only[c9,ry];omega
end
def X8 (o:Option bX):Value->Value:=λV=>.tuple ⟨[V,tv (o.getD eY),.bool o.isSome]⟩
theorem HD (l:cW)(x y:jt):(l++[x]).contains y=(l.contains y||decide (x=y)):=by
 rw[oZ,mS,List.contains_iff_mem,List.contains_iff_mem,eX,gR,bQ];constructor
 .rintro(h|h)
  .exact .inl h
  .exact .inr h.symm
 .rintro(h|h)
  .exact .inl h
  .exact .inr h.symm
theorem zq (s:St)(v:SA)(st:ar)(h:dv 90000 st)(t:bX)(ht:bw t.cy=true)(a:aK)(c:Nat)(lv:cW)(Ji:lv.length=16)(many:Int)(x9:0<=many/\many<=16)(hr:bO s a lv.length 5 (ai lv))(hm:∀b∈aj a,b∉(eO v st).flatMap It.aY)(hsv:FH s a lv.length c 83 5):
  eQ a8 bj 192 [fD v st,tv t,.slice a lv.length c,iv many] s (aj a) v st (gY st t lv many).1 (gY st t lv many).2.isSome (X8 (gY st t lv many).2):=by
 have hd:Rd ⟨s,(eO v st).flatMap It.aY,aj a⟩ a lv.length 5 (ai lv):=⟨hr,λb hb=>hb,hm⟩;have h1:dv 100000 st:=h.mono ag;have Iw:=My (st:=st) ht;have hdd:=Pg.fq many;have pe:gY st t lv many=match iy t (cJ many) (cJ many).toNat 1 (lv.take many.toNat) st [] with
  |(x,none)=>(x,none)
  |(x,some (stays,l))=>(dC ((fG st t).filter λp=>!(stays.contains p)) x,some ⟨l.headD bq,cJ many,many⟩):=rfl
 generalize hLV:iy t (cJ many) (cJ many).toNat 1 (lv.take many.toNat) st []=LV at pe;have hL4:(lv.take many.toNat).length<=4^ (cJ many).toNat/\(lv.take many.toNat).length<=16:=by
  rw[cZ,Ji];unfold cJ;split
  .simp;omega
  .split<;>simp<;>omega
 refine aU f192 ?_;dsimp only[eO] at hd⊢;(repeat' (first|refine' a7|refine' Ww|((with_reducible apply WO.Ay);exact aE;(first|exact λs hr=>Et s _ _ (by assumption) _ hr|exact λs hr=>Et s _ _ (by assumption) ⟨⟨_,_,_,_,_⟩,_,_⟩ hr);exact eC;intro _ _ afW afX _ _)|refine' aw|fail))
 generalize hD:cJ many=D at *
 refine W.bN (λk l L=>∃(n:Nat)(level:Int)(x:ar)(ll stays:cW)(a1:aK)(c1:Nat)(a2:aK)(c2:Nat)(ao:aK)(co b4 b5 b8 b9:Nat),Le [(3,iv many),(4,bc b4),(5,bc b5),(8,bc b8),(9,bc b9),(11,iv D),(12,.slice ao (fG st t).length co),(13,.slice a1 ll.length c1),(14,.slice a2 stays.length c2),(15,iv level)] l/\cz [.aN (.slice a1 ll.length c1) 83 5 (ai ll),.aN (.slice a2 stays.length c2) 83 5 (ai stays),.aN (.slice ao (fG st t).length co) 83 5 (ai (fG st t)),.box b4 (rP v x) 81 false,.box b5 (hU t) 85 false,.box b8 [eW,eW,eW,cb,eW,cb,eW,.bool false] 81 false,.box b9 [cb,cb,cb,cb,cb,cb,cb] 85 false,.aN (.slice v.r 64 v.rc) 9 1 (ai x.er),.aN (.slice v.f 64 v.fc) 3 1 (ai x.aX),.aN (.slice v.l 64 v.lc) 3 1 (ai x.dm),.aN (.slice v.g x.cI.length v.gc) 83 5 (ai x.cI),.aN (.slice v.d x.ej.length v.dc) 83 5 (ai x.ej)] L/\k=n/\level=D+1-n/\n<=D.toNat/\ll.length<=4^ n/\ll.length<=16/\stays.length<=8*(2-n)/\dv (90000+8*(2-n)) x/\LV=iy t D n level ll x stays)
  (λl L=>∃(x:ar)(ll stays:cW)(a1:aK)(c1:Nat)(a2:aK)(c2:Nat)(ao:aK)(co b4 b5 b8 b9:Nat),Le [(3,iv many),(4,bc b4),(5,bc b5),(8,bc b8),(9,bc b9),(11,iv D),(12,.slice ao (fG st t).length co),(13,.slice a1 ll.length c1),(14,.slice a2 stays.length c2)] l/\cz [.aN (.slice a1 ll.length c1) 83 5 (ai ll),.aN (.slice a2 stays.length c2) 83 5 (ai stays),.aN (.slice ao (fG st t).length co) 83 5 (ai (fG st t)),.box b4 (rP v x) 81 false,.box b5 (hU t) 85 false,.box b8 [eW,eW,eW,cb,eW,cb,eW,.bool false] 81 false,.box b9 [cb,cb,cb,cb,cb,cb,cb] 85 false,.aN (.slice v.r 64 v.rc) 9 1 (ai x.er),.aN (.slice v.f 64 v.fc) 3 1 (ai x.aX),.aN (.slice v.l 64 v.lc) 3 1 (ai x.dm),.aN (.slice v.g x.cI.length v.gc) 83 5 (ai x.cI),.aN (.slice v.d x.ej.length v.dc) 83 5 (ai x.ej)] L/\stays.length<=16/\ll.length<=16/\dv 90016 x/\LV=(x,some (stays,ll))) D.toNat ⟨D.toNat,1,st,[]++lv.take many.toNat,[],_,_,_,_,_,_,_,_,_,_,bk,au,rfl,ag,cA _,by simpa using hL4.1,by simpa using hL4.2,by simp,h.mono ag,hLV.symm⟩ ?_ ?_
 .rintro k l L ⟨n,level,x,ll,stays,a1,c1,a2,c2,ao,co,b4,b5,b8,b9,hl,hL,hk,aeE,hnD,hl4,anw,jw,hx,aeX⟩;refine W.le ?_ hl hL;clear hl hL;subst hk;have hx1:dv 100000 x:=hx.mono ag;cases k with
  |zero=>
   (refine' cU)
   all_goals try exact pq
   exact⟨x,ll,stays,_,_,_,_,_,_,_,_,_,_,bk,au,ag,ag,hx.mono ag,aeX⟩
  |succ n=>
   have hDD:D=1\/D=2:=by omega
   have X6:=TF (st:=x) (t:=t) (level:=level) hDD;(repeat' (first|refine' a7|((with_reducible apply WO.Ay);exact aE;(first|exact λs hr=>Mn s _ _ (by assumption) _ _ _ hr|exact λs hr=>Mn s _ _ (by assumption) ⟨⟨_,_,_,_,_⟩,_,_⟩ _ _ hr);exact eC;intro _ _ ajH ajI _ _)|refine' aw|fail))
   all_goals try exact pq
   refine W.bN (λk l L=>∃(j:Nat)(p:cW)(a1:aK)(c1:Nat)(a2:aK)(c2:Nat)(a3:aK)(c3:Nat)(a4:aK)(c4:Nat)(ao:aK)(co b4 b5 b8 b9:Nat),Le [(3,iv many),(4,bc b4),(5,bc b5),(8,bc b8),(9,bc b9),(11,iv D),(12,.slice ao (fG st t).length co),(13,.slice a1 p.length c1),(14,.slice a2 stays.length c2),(15,iv level),(16,.slice a3 (iT x t D level).length c3),(17,.slice a4 ([]:cW).length c4)] l/\cz [.aN (.slice a1 p.length c1) 83 5 (ai p),.aN (.slice a2 stays.length c2) 83 5 (ai stays),.aN (.slice a3 (iT x t D level).length c3) 83 5 (ai (iT x t D level)),.aN (.slice a4 ([]:cW).length c4) 83 5 (ai ([]:cW)),.aN (.slice ao (fG st t).length co) 83 5 (ai (fG st t)),.box b4 (rP v x) 81 false,.box b5 (hU t) 85 false,.box b8 [eW,eW,eW,cb,eW,cb,eW,.bool false] 81 false,.box b9 [cb,cb,cb,cb,cb,cb,cb] 85 false,.aN (.slice v.r 64 v.rc) 9 1 (ai x.er),.aN (.slice v.f 64 v.fc) 3 1 (ai x.aX),.aN (.slice v.l 64 v.lc) 3 1 (ai x.dm),.aN (.slice v.g x.cI.length v.gc) 83 5 (ai x.cI),.aN (.slice v.d x.ej.length v.dc) 83 5 (ai x.ej)] L/\k=4-j/\p=ll++c9 j/\j<=3/\∀i,i<j->(ll.length+i)% 4≠0)
    (λl L=>∃(a1:aK)(c1:Nat)(a2:aK)(c2:Nat)(a3:aK)(c3:Nat)(a4:aK)(c4:Nat)(ao:aK)(co b4 b5 b8 b9:Nat),Le [(3,iv many),(4,bc b4),(5,bc b5),(8,bc b8),(9,bc b9),(11,iv D),(12,.slice ao (fG st t).length co),(13,.slice a1 (eZ ll).length c1),(14,.slice a2 stays.length c2),(15,iv level),(16,.slice a3 (iT x t D level).length c3),(17,.slice a4 ([]:cW).length c4)] l/\cz [.aN (.slice a1 (eZ ll).length c1) 83 5 (ai (eZ ll)),.aN (.slice a2 stays.length c2) 83 5 (ai stays),.aN (.slice a3 (iT x t D level).length c3) 83 5 (ai (iT x t D level)),.aN (.slice a4 ([]:cW).length c4) 83 5 (ai ([]:cW)),.aN (.slice ao (fG st t).length co) 83 5 (ai (fG st t)),.box b4 (rP v x) 81 false,.box b5 (hU t) 85 false,.box b8 [eW,eW,eW,cb,eW,cb,eW,.bool false] 81 false,.box b9 [cb,cb,cb,cb,cb,cb,cb] 85 false,.aN (.slice v.r 64 v.rc) 9 1 (ai x.er),.aN (.slice v.f 64 v.fc) 3 1 (ai x.aX),.aN (.slice v.l 64 v.lc) 3 1 (ai x.dm),.aN (.slice v.g x.cI.length v.gc) 83 5 (ai x.cI),.aN (.slice v.d x.ej.length v.dc) 83 5 (ai x.ej)] L) 4 ⟨0,ll,_,_,_,_,_,_,_,_,_,_,_,_,_,_,bk,au,rfl,by simp[c9],ag,by intro i hi;omega⟩ ?_ ?_
   .rintro k l L ⟨j,p,a1,c1,a2,c2,a3,c3,a4,c4,ao,co,b4,b5,b8,b9,hl,hL,rfl,hp,hj,Sj⟩;refine W.le ?_ hl hL;clear hl hL;have rD:p.length=ll.length+j:=by rw[hp,bJ];simp[c9]
    have htm:((p.length:Int)).tmod 4=((p.length% 4:Nat):Int):=by rw[Int.tmod_eq_emod_of_nonneg ag];omega
    (refine' cU)
    .have fK:p.length% 4≠0:=by omega
     have hj3:j<3\/j=3:=by omega
     have Sf:j<=2:=by
      rcases hj3 with h|h
      .omega
      .exfalso;have h0:=Sj 0;have h1:=Sj 1;have h2:=Sj 2;omega
     refine⟨_,?_,j+1,p++[bq],_,_,_,_,_,_,_,_,_,_,_,_,_,_,bk,au,rfl,?_,ag,?_⟩
     .omega
     .rw[hp,kG];congr 1;rw[show [bq]=c9 1 from rfl];simp only[c9,UZ]
     .intro i hi;by_cases mR:i=j
      .subst mR;omega
      .exact Sj i ag
    .have he:p=eZ ll:=by
      rw[hp];unfold eZ;congr 2;have h0:=Sj 0;have h1:=Sj 1;have h2:=Sj 2;omega
     subst he;exact⟨_,_,_,_,_,_,_,_,_,_,_,_,_,_,bk,au⟩
   .rintro l L ⟨a1,c1,a2,c2,a3,c3,a4,c4,ao,co,b4,b5,b8,b9,hl,hL⟩;refine aq ?_;refine W.le ?_ hl hL;clear hl hL;obtain⟨hP1,hP2,hP3⟩:=Bx ll;generalize hPe:eZ ll=P at *
    generalize hWe:iT x t D level=ow at *
    (refine' cU)
    refine W.bN (λk l L=>∃(i:Nat)(y:ar)(FU out:cW)(a1:aK)(c1:Nat)(a2:aK)(c2:Nat)(a3:aK)(c3:Nat)(a4:aK)(c4:Nat)(ao:aK)(co b4 b5 b8 b9:Nat),Le [(3,iv many),(4,bc b4),(5,bc b5),(8,bc b8),(9,bc b9),(11,iv D),(12,.slice ao (fG st t).length co),(13,.slice a1 P.length c1),(14,.slice a2 FU.length c2),(15,iv level),(16,.slice a3 ow.length c3),(17,.slice a4 out.length c4),(18,iv i)] l/\cz [.aN (.slice a1 P.length c1) 83 5 (ai P),.aN (.slice a2 FU.length c2) 83 5 (ai FU),.aN (.slice a3 ow.length c3) 83 5 (ai ow),.aN (.slice a4 out.length c4) 83 5 (ai out),.aN (.slice ao (fG st t).length co) 83 5 (ai (fG st t)),.box b4 (rP v y) 81 false,.box b5 (hU t) 85 false,.box b8 [eW,eW,eW,cb,eW,cb,eW,.bool false] 81 false,.box b9 [cb,cb,cb,cb,cb,cb,cb] 85 false,.aN (.slice v.r 64 v.rc) 9 1 (ai y.er),.aN (.slice v.f 64 v.fc) 3 1 (ai y.aX),.aN (.slice v.l 64 v.lc) 3 1 (ai y.dm),.aN (.slice v.g y.cI.length v.gc) 83 5 (ai y.cI),.aN (.slice v.d y.ej.length v.dc) 83 5 (ai y.ej)] L/\k=P.length-4*i/\4*i<=P.length/\out.length=i/\FU.length<=stays.length+i/\dv (90000+8*(1-n)+i) y/\ko level P ow x stays []=ko level (P.drop (4*i)) (ow.drop i) y FU out)
     (λl L=>∃(y:ar)(FU out:cW)(a2:aK)(c2:Nat)(a4:aK)(c4:Nat)(ao:aK)(co b4 b5 b8 b9:Nat),Le [(3,iv many),(4,bc b4),(5,bc b5),(8,bc b8),(9,bc b9),(11,iv D),(12,.slice ao (fG st t).length co),(14,.slice a2 FU.length c2),(15,iv level),(17,.slice a4 out.length c4)] l/\cz [.aN (.slice a2 FU.length c2) 83 5 (ai FU),.aN (.slice a4 out.length c4) 83 5 (ai out),.aN (.slice ao (fG st t).length co) 83 5 (ai (fG st t)),.box b4 (rP v y) 81 false,.box b5 (hU t) 85 false,.box b8 [eW,eW,eW,cb,eW,cb,eW,.bool false] 81 false,.box b9 [cb,cb,cb,cb,cb,cb,cb] 85 false,.aN (.slice v.r 64 v.rc) 9 1 (ai y.er),.aN (.slice v.f 64 v.fc) 3 1 (ai y.aX),.aN (.slice v.l 64 v.lc) 3 1 (ai y.dm),.aN (.slice v.g y.cI.length v.gc) 83 5 (ai y.cI),.aN (.slice v.d y.ej.length v.dc) 83 5 (ai y.ej)] L/\4*out.length=P.length/\FU.length<=stays.length+4/\dv (90000+8*(1-n)+4) y/\ko level P ow x stays []=(y,some (FU,out))) P.length ⟨0,x,stays,[],_,_,_,_,_,_,_,_,_,_,_,_,_,_,bk,au,ag,ag,rfl,ag,hx.mono ag,rfl⟩ ?_ ?_
    .rintro k l L ⟨i,y,FU,out,a1,c1,a2,c2,a3,c3,a4,c4,ao,co,b4,b5,b8,b9,hl,hL,rfl,J2,KG,Q7,hy,hg⟩;refine W.le ?_ hl hL;clear hl hL;have UN:dv 100000 y:=hy.mono ag;have aic:4^ (n+1)=4*4^ n:=by rw[US,Ge]
     have hPl:P.length<=4*4^ n/\P.length<=16:=by omega
     have anx:FU.length<=100:=by omega
     have anz:out.length<=100:=by omega
     by_cases hi:4*i<P.length
     .have ali:4*i+4<=P.length:=by omega
      have hiw:i<ow.length:=by
       rcases wc n with hn|hn
       .subst hn;have:=X6.1 ag;have:4*4^ 0=4:=rfl;omega
       .have:=X6.2.1 ag;omega
      generalize hl4:(P.drop ((i:Int)*4).toNat).take ((((i:Int)+1)*4).toNat-((i:Int)*4).toNat)=l4;have aio:l4=(P.drop (4*i)).take 4:=by
       rw[<-hl4];congr 1
       .omega
       .congr 1;omega
      have aeY:l4.length=4:=by rw[aio,cZ,gd];omega
      have hgs:=Mz (level:=level) (L:=P) (was:=ow) (st:=y) (stays:=FU) (out:=out) (i:=i) ali hiw;rw[<-aio] at hgs;have o9:=X7 (level:=level) (old:=ow.getD i ak.ah) hy aeY;cases abo:Oi y l4 level (ow.getD i ak.ah) with
      |none=>
       have Ae:vg y l4 level (ow.getD i ak.ah)=(y,bq,false):=by unfold vg;rw[abo]
       have KT:∀s a c,bO s a l4.length 5 (ai l4)->(∀b∈aj a,b∉(eO v y).flatMap It.aY)->eQ a8 bj 244 [fD v y,.slice a l4.length c,iv level,pv (ow.getD i ak.ah)] s (aj a) v y y false (wrV bq false):=λs a c hr hm=>by
        have:=Mx s v y UN a c l4 aeY level (ow.getD i ak.ah) hr hm;rw[Ae] at this;exact this
       subst hl4;rw[abo] at hgs;have alj:LV=(y,none):=by rw[aeX,iy,hPe,hWe,hg,hgs]
       rw[alj] at pe;rw[pe];(repeat' (first|refine' a7|refine' WL|refine' aw|fail))
       all_goals try exact pq
       obtain rfl:=DC rfl;(refine' dW)
       .rfl
       .exact λ_=>rfl
      |some r=>
       obtain⟨z,p⟩:=r;have Ae:vg y l4 level (ow.getD i ak.ah)=(z,p,true):=by unfold vg;rw[abo]
       have KT:∀s a c,bO s a l4.length 5 (ai l4)->(∀b∈aj a,b∉(eO v y).flatMap It.aY)->eQ a8 bj 244 [fD v y,.slice a l4.length c,iv level,pv (ow.getD i ak.ah)] s (aj a) v y z false (wrV p true):=λs a c hr hm=>by
        have:=Mx s v y UN a c l4 aeY level (ow.getD i ak.ah) hr hm;rw[Ae] at this;exact this
       subst hl4;rw[abo] at hgs;rw[Ae] at o9;by_cases hpw:p=ow.getD i ak.ah
       .have alk:=dt hpw;(repeat' (first|refine' a7|refine' WL|refine' aw|fail))
        all_goals try exact pq
        obtain rfl:=DC rfl;refine⟨_,?_,i+1,z,FU++[p],out++[p],_,_,_,_,_,_,_,_,_,_,_,_,_,_,bk,au,rfl,ag,by simp[KG],by rw[bJ,A5];omega,o9.1,?_⟩
        .omega
        .rw[hg,hgs];simp only;rw[if_pos hpw]
       .have alk:=gS hpw;(repeat' (first|refine' a7|refine' WL|refine' aw|fail))
        all_goals try exact pq
        obtain rfl:=DC rfl;refine⟨_,?_,i+1,z,FU,out++[p],_,_,_,_,_,_,_,_,_,_,_,_,_,_,bk,au,rfl,ag,by simp[KG],ag,o9.1,?_⟩
        .omega
        .rw[hg,hgs];simp only;rw[if_neg hpw]
     .have fE:4*i=P.length:=by omega
      have tL:P.drop (4*i)=[]:=ye ag;rw[tL,EA rfl] at hg;(refine' cU)
      all_goals try exact pq
      exact⟨y,FU,out,_,_,_,_,_,_,_,_,_,_,bk,au,ag,ag,hy.mono ag,hg⟩
    .rintro l L ⟨y,FU,out,a2,c2,a4,c4,ao,co,b4,b5,b8,b9,hl,hL,KG,Q7,hy,hg⟩;refine aq ?_;refine W.le ?_ hl hL;clear hl hL;have aic:4^ (n+1)=4*4^ n:=by rw[US,Ge]
     (refine' cU)
     refine⟨_,?_,n,level+1,y,out,FU,_,_,_,_,_,_,_,_,_,_,bk,au,rfl,ag,ag,?_,ag,ag,hy.mono ag,?_⟩
     .omega
     .omega
     .rw[aeX,iy,hPe,hWe,hg]
 .rintro l L ⟨x,ll,stays,a1,c1,a2,c2,ao,co,b4,b5,b8,b9,hl,hL,jw,hll,hx,aip⟩;refine aq ?_;refine W.le ?_ hl hL;clear hl hL;have hx1:dv 100000 x:=hx.mono ag;rw[aip] at pe;simp only at pe;rw[pe];clear pe aip hLV;generalize hOe:fG st t=old at *
  (refine' cU)
  refine W.bN (λk l L=>∃(i:Nat)(y:ar)(v':SA)(a1:aK)(c1:Nat)(a2:aK)(c2:Nat)(ao:aK)(co b4 b8 b9:Nat),Le [(3,iv many),(4,bc b4),(8,bc b8),(9,bc b9),(11,iv D),(12,.slice ao old.length co),(13,.slice a1 ll.length c1),(14,.slice a2 stays.length c2),(22,iv i)] l/\cz [.aN (.slice a1 ll.length c1) 83 5 (ai ll),.aN (.slice a2 stays.length c2) 83 5 (ai stays),.aN (.slice ao old.length co) 83 5 (ai old),.box b4 (rP v' y) 81 false,.box b8 [eW,eW,eW,cb,eW,cb,eW,.bool false] 81 false,.box b9 [cb,cb,cb,cb,cb,cb,cb] 85 false,.aN (.slice v'.r 64 v'.rc) 9 1 (ai y.er),.aN (.slice v'.f 64 v'.fc) 3 1 (ai y.aX),.aN (.slice v'.l 64 v'.lc) 3 1 (ai y.dm),.aN (.slice v'.g y.cI.length v'.gc) 83 5 (ai y.cI),.aN (.slice v'.d y.ej.length v'.dc) 83 5 (ai y.ej)] L/\k=old.length-i/\i<=old.length/\dv (90016+i) y/\dC (old.filter λp=>!(stays.contains p)) x=dC ((old.drop i).filter λp=>!(stays.contains p)) y)
   (λl L=>∃(y:ar)(v':SA)(a1:aK)(c1:Nat)(b4 b8 b9:Nat),Le [(3,iv many),(4,bc b4),(8,bc b8),(9,bc b9),(11,iv D),(13,.slice a1 ll.length c1)] l/\cz [.aN (.slice a1 ll.length c1) 83 5 (ai ll),.box b4 (rP v' y) 81 false,.box b8 [eW,eW,eW,cb,eW,cb,eW,.bool false] 81 false,.box b9 [cb,cb,cb,cb,cb,cb,cb] 85 false,.aN (.slice v'.r 64 v'.rc) 9 1 (ai y.er),.aN (.slice v'.f 64 v'.fc) 3 1 (ai y.aX),.aN (.slice v'.l 64 v'.lc) 3 1 (ai y.dm),.aN (.slice v'.g y.cI.length v'.gc) 83 5 (ai y.cI),.aN (.slice v'.d y.ej.length v'.dc) 83 5 (ai y.ej)] L/\dC (old.filter λp=>!(stays.contains p)) x=y) old.length ⟨0,x,v,_,_,_,_,_,_,_,_,_,bk,au,ag,ag,hx,rfl⟩ ?_ ?_
  .rintro k l L ⟨i,y,v',a1,c1,a2,c2,ao,co,b4,b8,b9,hl,hL,rfl,hi,hy,X9⟩;refine W.le ?_ hl hL;clear hl hL;have UN:dv 100000 y:=hy.mono ag;by_cases ua:i<old.length
   .have J3:bw (old.getD i ak.ah)=true:=Iw.2 _ (aJ ua _);rw[drop_cons ua,tU] at X9;(refine' cU)
    all_goals try exact pq
    refine W.bN (λk l L=>∃(j:Nat)(kept:Bool)(a1:aK)(c1:Nat)(a2:aK)(c2:Nat)(ao:aK)(co b4 b8 b9:Nat),Le [(3,iv many),(4,bc b4),(8,bc b8),(9,bc b9),(11,iv D),(12,.slice ao old.length co),(13,.slice a1 ll.length c1),(14,.slice a2 stays.length c2),(22,iv i),(23,.bool kept),(24,iv j)] l/\cz [.aN (.slice a1 ll.length c1) 83 5 (ai ll),.aN (.slice a2 stays.length c2) 83 5 (ai stays),.aN (.slice ao old.length co) 83 5 (ai old),.box b4 (rP v' y) 81 false,.box b8 [eW,eW,eW,cb,eW,cb,eW,.bool false] 81 false,.box b9 [cb,cb,cb,cb,cb,cb,cb] 85 false,.aN (.slice v'.r 64 v'.rc) 9 1 (ai y.er),.aN (.slice v'.f 64 v'.fc) 3 1 (ai y.aX),.aN (.slice v'.l 64 v'.lc) 3 1 (ai y.dm),.aN (.slice v'.g y.cI.length v'.gc) 83 5 (ai y.cI),.aN (.slice v'.d y.ej.length v'.dc) 83 5 (ai y.ej)] L/\k=stays.length-j/\j<=stays.length/\kept=(stays.take j).contains (old.getD i ak.ah))
     (λl L=>∃(a1:aK)(c1:Nat)(a2:aK)(c2:Nat)(ao:aK)(co b4 b8 b9:Nat),Le [(3,iv many),(4,bc b4),(8,bc b8),(9,bc b9),(11,iv D),(12,.slice ao old.length co),(13,.slice a1 ll.length c1),(14,.slice a2 stays.length c2),(22,iv i),(23,.bool (stays.contains (old.getD i ak.ah)))] l/\cz [.aN (.slice a1 ll.length c1) 83 5 (ai ll),.aN (.slice a2 stays.length c2) 83 5 (ai stays),.aN (.slice ao old.length co) 83 5 (ai old),.box b4 (rP v' y) 81 false,.box b8 [eW,eW,eW,cb,eW,cb,eW,.bool false] 81 false,.box b9 [cb,cb,cb,cb,cb,cb,cb] 85 false,.aN (.slice v'.r 64 v'.rc) 9 1 (ai y.er),.aN (.slice v'.f 64 v'.fc) 3 1 (ai y.aX),.aN (.slice v'.l 64 v'.lc) 3 1 (ai y.dm),.aN (.slice v'.g y.cI.length v'.gc) 83 5 (ai y.cI),.aN (.slice v'.d y.ej.length v'.dc) 83 5 (ai y.ej)] L) stays.length ⟨0,false,_,_,_,_,_,_,_,_,_,bk,au,ag,ag,rfl⟩ ?_ ?_
    .rintro k l L ⟨j,kept,a1,c1,a2,c2,ao,co,b4,b8,b9,hl,hL,rfl,hj,Ra⟩;refine W.le ?_ hl hL;clear hl hL;have e:=λh:j<stays.length=>fA stays ak.ah h
     (refine' cU)
     .refine⟨_,?_,j+1,_,_,_,_,_,_,_,_,_,_,bk,au,rfl,ag,?_⟩
      .omega
      .rw[e ag,HD,<-Ra,hg];rfl
     .refine⟨_,?_,j+1,true,_,_,_,_,_,_,_,_,_,bk,au,rfl,ag,?_⟩
      .omega
      .rw[e ag,HD,<-Ra,um];rfl
     .have Zy:j=stays.length:=by omega
      subst Zy;rw[gX] at Ra;subst Ra;exact⟨_,_,_,_,_,_,_,_,_,bk,au⟩
    .rintro l L ⟨a1,c1,a2,c2,ao,co,b4,b8,b9,hl,hL⟩;refine aq ?_;refine W.le ?_ hl hL;clear hl hL;(repeat' (first|refine' a7|refine' Lr|refine' aw|fail))
     .rw[if_pos hc] at X9;refine⟨_,?_,i+1,_,_,_,_,_,_,_,_,_,_,_,bk,au,rfl,ag,hy.free J3,X9⟩;omega
     .rw[if_neg (by rw[hc];simp)] at X9;refine⟨_,?_,i+1,y,v',_,_,_,_,_,_,_,_,_,bk,au,rfl,ag,hy.mono ag,X9⟩;omega
   .have fE:i=old.length:=by omega
    subst fE;rw[iD] at X9;(refine' cU)
    all_goals try exact pq
    exact⟨y,v',_,_,_,_,_,bk,au,X9⟩
  .rintro l L ⟨y,v',a1,c1,b4,b8,b9,hl,hL,X9⟩;refine aq ?_;refine W.le ?_ hl hL;clear hl hL;rw[X9];(refine' cU)
   .rw[show ll.headD bq=ll.getD 0 ak.ah from by cases ll<;>rfl];(refine' dW)
    .rfl
    .intro hc;cases hc
   .have hl0:ll=[]:=mT ag;subst hl0;(refine' dW)
    .rfl
    .intro hc;cases hc
section
variable {cQ:ar}{p:jt}{n:Nat}
structure Kp (st cQ:ar):Prop where
 g:cQ.cI=st.cI
 d:cQ.ej=st.ej
 t:cQ.fC=st.fC
 k:cQ.oL=st.oL
 s:cQ.same=st.same
theorem Kp.refl (st:ar):Kp st st:=⟨rfl,rfl,rfl,rfl,rfl⟩
theorem Kp.trans {a b c:ar}(h:Kp a b)(k:Kp b c):Kp a c:=⟨k.g.trans h.g,k.d.trans h.d,k.t.trans h.t,k.k.trans h.k,k.s.trans h.s⟩
theorem Kp.fD {st cQ:ar}(h:Kp st cQ)(v:SA):fD v cQ=fD v st:=by
 unfold Go.Pl.fD rP;rw[h.g,h.d,h.t,h.k,h.s]
theorem MA {st cQ:ar}{s:aA}{level:Int}(h:bf st s level=some (cQ,p)):Kp st cQ:=by
 unfold Go.Pl.bf at h;split at h
 .cases h
 .split at h
  .cases h
  .cases h;exact⟨rfl,rfl,rfl,rfl,rfl⟩
theorem abp {st cQ:ar}{l:cW}{level:Int}{old p:jt}(h:dv n st)(h4:l.length=4)(hf:Oi st l level old=some (cQ,p)):dv (n+1) cQ/\Kp st cQ/\bw p=true:=by
 unfold Oi at hf;split at hf
 .cases hf;exact⟨h.mono ag,Kp.refl _,by decide⟩
 .simp only at hf;split at hf
  .rename_i hc;cases hf
   simp only[bU,bQ] at hc;refine⟨h.mono ag,Kp.refl _,?_⟩;have:=hc.1.2;simp[fits] at this;exact this.1.1.1
  .have:=h.bf (by have:=xM h4;omega) hf;exact⟨this.1,MA hf,this.2.1⟩
theorem EB {level:Int}:∀(k:Nat){L was:cW}{st:ar}{stays out:cW}{n:Nat},L.length=4*k->dv n st->(∀p∈out,bw p=true)->
  dv (n+k) (ko level L was st stays out).1/\Kp st (ko level L was st stays out).1/\∀r,(ko level L was st stays out).2=some r->r.2.length=out.length+k/\∀p∈r.2,bw p=true
 |0,L,was,st,stays,out,n,hL,h,ho=>by
  have:L=[]:=mT ag;rw[EA this];exact⟨h,Kp.refl _,λr hr=>by cases hr;exact⟨rfl,ho⟩⟩
 |k+1,L,was,st,stays,out,n,hL,h,ho=>by
  match L,hL with
  |a::b::c::d::L,hL=>
   rw[ko];cases hf:Oi st [a,b,c,d] level (was.headD bq) with
   |none=>exact⟨h.mono ag,Kp.refl _,λr hr=>by cases hr⟩
   |some x=>
    obtain⟨st1,p⟩:=x;obtain⟨h1,h2,h3⟩:=abp h rfl hf;simp only;obtain⟨h4,h5,h6⟩:=EB k (L:=L) (was:=was.tail) (stays:=if p=was.headD bq then stays++[p] else stays) (out:=out++[p]) (by simp at hL;omega) h1 (λq hq=>by
     rcases eX.1 hq with hq|hq
     .exact ho q hq
     .have:q=p:=by simpa using hq
      rw[this];exact h3)
    refine⟨by rw[show n+(k+1)=n+1+k by omega];exact h4,h2.trans h5,λr hr=>?_⟩;obtain⟨h7,h8⟩:=h6 r hr;exact⟨by rw[h7];simp;omega,h8⟩
theorem EC {t:bX}{depth:Int}:∀(m:Nat){level:Int}{l:cW}{st:ar}{stays:cW}{n:Nat},l.length<=16->dv n st->(∀p∈l,bw p=true)->
  dv (n+m*5) (iy t depth m level l st stays).1/\Kp st (iy t depth m level l st stays).1/\∀r,(iy t depth m level l st stays).2=some r->∀p∈r.2,bw p=true
 |0,level,l,st,stays,n,hl,h,hp=>by
  rw[iy];exact⟨h,Kp.refl _,λr hr=>by cases hr;exact hp⟩
 |m+1,level,l,st,stays,n,hl,h,hp=>by
  rw[iy];obtain⟨hP1,hP2,hP3⟩:=Bx l;obtain⟨h1,h2,h3⟩:=EB (level:=level) ((eZ l).length/ 4) (L:=eZ l) (was:=iT st t depth level) (st:=st) (stays:=stays) (out:=[]) ag h (by simp);rcases hg:ko level (eZ l) (iT st t depth level) st stays [] with⟨st1,_|⟨FU,o⟩⟩
  .rw[hg] at h1 h2;exact⟨h1.mono ag,h2,λr hr=>by cases hr⟩
  .rw[hg] at h1 h2 h3;obtain⟨h4,h5⟩:=h3 _ rfl;simp only at h1 h2 h4 h5⊢;obtain⟨h6,h7,h8⟩:=EC m (t:=t) (depth:=depth) (level:=level+1) (stays:=FU) (by simp at h4;omega) (h1.mono (show _<=n+5 by omega)) h5;exact⟨h6.mono ag,h2.trans h7,h8⟩
theorem vU {t:bX}{st:ar}{lv:cW}{many:Int}(h:dv n st)(ht:bw t.cy=true)(hl:lv.length=16)(hp:∀p∈lv,bw p=true)(hm:0<=many/\many<=16):
  dv (n+20) (gY st t lv many).1/\((gY st t lv many).2=none->Kp st (gY st t lv many).1)/\∀t',(gY st t lv many).2=some t'->eb t'/\t'.many=many:=by
 have hd:=Pg.fq many;obtain⟨h1,h2,h3⟩:=EC (t:=t) (depth:=cJ many) (cJ many).toNat (level:=1) (l:=lv.take many.toNat) (st:=st) (stays:=[]) (by rw[cZ];omega) h (λp pJ=>hp p (NP pJ));obtain⟨J0,ua⟩:=My (st:=st) ht;have pe:gY st t lv many=match iy t (cJ many) (cJ many).toNat 1 (lv.take many.toNat) st [] with
  |(x,none)=>(x,none)
  |(x,some (stays,l))=>(dC ((fG st t).filter λp=>!(stays.contains p)) x,some ⟨l.headD bq,cJ many,many⟩):=rfl
 rw[pe];rcases Ji:iy t (cJ many) (cJ many).toNat 1 (lv.take many.toNat) st [] with⟨x,_|⟨stays,l⟩⟩
 .rw[Ji] at h1 h2;exact⟨h1.mono ag,λ_=>h2,λt' ht'=>by cases ht'⟩
 .rw[Ji] at h1 h2 h3;simp only at h1 h2⊢;have hf:=CK (λp=>!(stays.contains p)) (fG st t);have h4:=dv.dC (st:=x) ((fG st t).filter λp=>!(stays.contains p)) h1 (λp pJ=>ua p (qR.1 pJ).1);refine⟨h4.mono ag,λhc=>(by cases hc),λt' ht'=>?_⟩;cases ht'
  refine⟨⟨?_,hm,hd⟩,rfl⟩;cases l with
  |nil=>exact(by decide:bw bq=true)
  |cons p l=>exact h3 _ rfl p (by simp)
end
def B1 (t:bX)(ok:Bool):Value->Value:=λV=>.tuple ⟨[V,tv t,.bool ok]⟩
end Go.Pl
