/- Lemmas of the proof. No conditions. -/
import Derived.Test.YtoiielhpadnflaaGreatDoorAd2
set_option maxRecDepth 100000
set_option maxHeartbeats 4000000
set_option linter.unusedVariables false
set_option linter.unusedSimpArgs false
open Go.Proofs.Tryz
namespace Go.Pl
open Go Go.Ev Go.Lg Go.Proofs
variable {i:Nat}{z:aC}{L:dy}{x y:Operand}{c e b:Nat}{w:aC}{st:ar}{n:Nat}{p:List bE}{m:Int}{q:c9}{v:SA}
theorem x7 {l:c9}(h4:l.length=4):((kn l).getD []).length<=128:=by
 cases h:kn l with
 |none=>simp
 |some s=>
  have:=(Pg.LH h).2.2.2;subst this;exact(Pg.aa1 h4).1
theorem MR (s:St)(v:SA)(st:ar)(h:dv 100000 st)(a:aS)(c:Nat)(l:c9)(h4:l.length=4)(level:Int)(old:jt)(hr:bM s a l.length 5 (ai l))(hm:∀b∈aj a,b∉(eK v st).flatMap It.cr):
  eO bf bw 257 [fI v st,.slice a l.length c,iv level,pv old] s (aj a) v st (vy st l level old).1 false (wrV (vy st l level old).2.1 (vy st l level old).2.2):=by
 have hd:Rd ⟨s,(eK v st).flatMap It.cr,aj a⟩ a l.length 5 (ai l):=⟨hr,λb hb=>hb,hm⟩;have Ku:=h.lr;have AB:=x7 h4;cases ha:l.all aK with
 |true=>
  have hf:vy st l level old=(st,bz,true):=by unfold vy OS;rw[ha];rfl
  rw[hf];refine aX f257 ?_;dsimp only[eK] at hd⊢;repeat' (first|refine' aZ|refine' XY|refine' av|fail)
  refine' dV
  .rfl
  .exact λ_=>rfl
 |false=>
  by_cases hc:(!aK old&&fits old ((kn l).getD [])&&decide (gw st old=(kn l).getD []))=true
  .have hf:vy st l level old=(st,old,true):=by unfold vy OS;rw[ha];simp only[jN,pQ];rw[if_pos hc]
   rw[hf];simp only[bI,rU,bR] at hc;obtain⟨⟨h1,h2⟩,h3⟩:=hc;(have FD:bB old=true:=by simp[fits] at h2;exact h2.1.1.1);have hrg:=zA FD h1;have h3d:decide (st.ej.getD old.row.toNat aq.ah=(kn l).getD [])=true:=du h3;(have hhd:(!aK old)=true:=by rw[h1];rfl);refine aX f257 ?_;dsimp only[eK] at hd⊢;(repeat' (first|refine' aZ|refine' XY|refine' ac6|refine' Hu|refine' aeZ|refine' av|fail));refine' dV
   .rfl
   .exact λ_=>rfl
  .have hf:vy st l level old=wr st ((kn l).getD []) level:=by unfold vy OS wr;rw[ha];simp only[jN,pQ];rw[if_neg hc];try rfl
   rw[hf];have hrg:aK old=false->fits old ((kn l).getD [])=true->8<=old.row/\old.row<=63:=λh1 h2=>zA (by simp[fits] at h2;exact h2.1.1.1) h1
   cases hh:aK old with
   |true=>
    (have hhd:(!aK old)=false:=by rw[hh];rfl);refine' za8
    .rfl
    .exact AM
   |false=>
    have hhd:(!aK old)=true:=by rw[hh];rfl
    cases WK:fits old ((kn l).getD []) with
    |false=>
     refine' za8
     .rfl
     .exact AM
    |true=>
     have hrg:=hrg hh WK;have h3d:decide (st.ej.getD old.row.toNat aq.ah=(kn l).getD [])=false:=by
      rw[mQ];intro hx;apply hc;rw[hh,WK];exact du hx
     refine' za8
     .rfl
     .exact AM
variable {level:Int}{was stays out:c9}
section
variable {t:cB}{L:c9}
theorem oZ {α:Type}{l:List α}{x y:α}(h:y∈l.set i x):y∈l\/y=x:=by
 rcases Gz h with h|h
 .exact .inl h
 .exact .inr h
theorem dv.bh {n:Nat}{st cZ:ar}{s:aC}{p:jt}(h:dv n st)(hs:s.length<=3000)(hw:bh st s level=some (cZ,p)):dv (n+1) cZ/\bB p=true/\cZ.cP=st.cP/\cZ.eg=st.eg:=by
 unfold Go.Pl.bh at hw;split at hw
 .cases hw
 .rename_i i _;split at hw
  .cases hw
  .rename_i q hq;cases hw
   have hr:=h.ref i;have ht:=h.tx;have hk:=h.kp;refine⟨⟨by simp[h.lr],by simp[h.lf],by simp[h.ll],λx hx=>?_,λx hx=>?_,by show 1<=st.fH/\st.fH<=_;omega,by show 0<=st.oQ/\st.oQ<=_;omega,by have:=h.gl;show st.cP.length<=_;omega,by have:=h.dl;show st.eg.length<=_;omega,h.gr⟩,(Pg.DR hq).2.2.2,rfl,rfl⟩
   .rcases oZ hx with hx|rfl
    .exact h.rw x hx
    .exact hs
   .rcases oZ hx with hx|rfl
    .have:=h.rf x hx;omega
    .omega
theorem dv.drop {n:Nat}{st:ar}{row:Int}(h:dv n st):dv (n+1) (drop st row):=by
 have hr:=h.ref row.toNat;have ht:=h.tx;have hk:=h.kp;unfold Go.Pl.drop;refine⟨?_,by simp[h.lf],?_,λx hx=>?_,λx hx=>?_,by show 1<=st.fH/\st.fH<=_;omega,by show 0<=st.oQ/\st.oQ<=_;omega,by have:=h.gl;show st.cP.length<=_;omega,by have:=h.dl;show st.eg.length<=_;omega,h.gr⟩
 .dsimp only;split<;>simp[h.lr]
 .dsimp only;split<;>simp[h.ll]
 .dsimp only at hx;split at hx
  .rcases oZ hx with hx|rfl
   .exact h.rw x hx
   .simp
  .exact h.rw x hx
 .dsimp only at hx;rcases oZ hx with hx|rfl
  .have:=h.rf x hx;omega
  .omega
theorem dv.free {n:Nat}{st:ar}{p:jt}(h:dv n st)(hp:bB p=true):dv (n+1) (free st p):=by
 unfold Go.Pl.free;split
 .exact h.mono af
 .rename_i hh;have hrg:=zA hp (by simpa using hh);split
  .exact⟨h.lr,h.lf,h.ll,h.rw,λx hx=>by have:=h.rf x hx;omega,by have:=h.tx;show 1<=st.fH/\st.fH<=_;omega,by have:=h.kp;show 0<=st.oQ/\st.oQ<=_;omega,by have:=h.gl;show st.cP.length<=_;omega,by have:=h.dl;show(st.eg++[p]).length<=_;rw[bn,Bn];omega,h.gr⟩
  .split
   .refine⟨h.lr,h.lf,h.ll,h.rw,λx hx=>by have:=h.rf x hx;omega,by have:=h.tx;show 1<=st.fH/\st.fH<=_;omega,by have:=h.kp;show 0<=st.oQ/\st.oQ<=_;omega,by have:=h.gl;show(st.cP++[p]).length<=_;rw[bn,Bn];omega,by have:=h.dl;show st.eg.length<=_;omega,λq hq=>?_⟩;rcases eW.1 hq with hq|hq
    .exact h.gr q hq
    .have:q=p:=by simpa using hq
     subst this;omega
   .exact h.drop
theorem dv.dC {st:ar}:∀{n:Nat}(l:c9){st:ar},dv n st->(∀p∈l,bB p=true)->dv (n+l.length) (dC l st)
 |n,[],st,h,_=>h
 |n,p::l,st,h,hp=>by
  have:=dv.dC (st:=st) l (h.free (hp p ay)) (λx hx=>hp x (by simp[hx]));rw[cU,show n+(l.length+1)=n+1+l.length by omega];exact this
theorem YD {n:Nat}{st:ar}{l:c9}{old:jt}(h:dv n st)(h4:l.length=4):dv (n+1) (vy st l level old).1/\(vy st l level old).1.cP=st.cP/\(vy st l level old).1.eg=st.eg:=by
 unfold vy;cases hf:OS st l level old with
 |none=>exact⟨h.mono af,rfl,rfl⟩
 |some r=>
  obtain⟨cZ,p⟩:=r;unfold OS at hf;simp only;split at hf
  .cases hf;exact⟨h.mono af,rfl,rfl⟩
  .simp only at hf;split at hf
   .cases hf;exact⟨h.mono af,rfl,rfl⟩
   .have:=h.bh (by have:=x7 h4;omega) hf;exact⟨this.1,this.2.2⟩
theorem MS {st:ar}(ht:bB t.cG=true):(fK st t).length<=5/\∀p∈fK st t,bB p=true:=by
 unfold fK;split
 .simp
 .split
  .have hb:=AS (st:=st) (p:=t.cG) (n:=2);have hf:=Bm (λp=>!aK p) ((below st t.cG 2).getD []);refine⟨by rw[cU];omega,λp hp=>?_⟩;rcases bH.1 hp with rfl|hp
   .exact ht
   .have hp:=(rW.1 hp).1;cases PF:below st t.cG 2 with
    |none=>rw[PF] at hp;cases hp
    |some w=>rw[PF] at hp;exact(Pg.iR PF).2.1 p (by simpa using hp)
  .refine⟨ay,λp hp=>?_⟩;have:p=t.cG:=by simpa using hp
   rw[this];exact ht
theorem Ub {st:ar}{depth level:Int}(hd:depth=1\/depth=2):(level=depth->1<=(iT st t depth level).length)/\(level≠depth->(iT st t depth level).length=4)/\(iT st t depth level).length<=4:=by
 unfold iT;split
 .exact⟨λ_=>by simp[da],λ_=>by simp[da],by simp[da]⟩
 .split
  .exact⟨λ_=>by simp,λh=>by contradiction,ay⟩
  .have:((below st t.cG depth).getD (da 4)).length=4:=by
    cases hb:below st t.cG depth with
    |none=>simp[da]
    |some w=>simpa using(Pg.iR hb).1
   exact⟨λ_=>by omega,λ_=>this,af⟩
theorem MT {st:ar}(h:4*i+4<=L.length)(hw:i<was.length):kq level (L.drop (4*i)) (was.drop i) st stays out=match OS st ((L.drop (4*i)).take 4) level (was.getD i aq.ah) with
  |none=>(st,none)
  |some (x,p)=>kq level (L.drop (4*(i+1))) (was.drop (i+1)) x (if p=was.getD i aq.ah then stays++[p] else stays) (out++[p]):=by
 obtain⟨a,b,c,d,r,hr⟩:∃a b c d r,L.drop (4*i)=a::b::c::d::r:=by
  have hl:(L.drop (4*i)).length=L.length-4*i:=eP
  match hh:L.drop (4*i),hl with
  |a::b::c::d::r,_=>exact⟨a,b,c,d,r,rfl⟩
  |[],hl=>simp at hl;omega
  |[a],hl=>simp at hl;omega
  |[a,b],hl=>simp at hl;omega
  |[a,b,c],hl=>simp at hl;omega
 have mG:L.drop (4*(i+1))=r:=by
  rw[show 4*(i+1)=4*i+4 by omega,<-mA,hr];rfl
 rw[mG,hr,drop_cons hw,kq];simp only[List.headD_cons,List.tail_cons,x_5,List.take_zero];cases OS st [a,b,c,d] level (was.getD i aq.ah) with
 |none=>rfl
 |some r=>rfl
theorem EN {st:ar}(h:L=[]):kq level L was st stays out=(st,some (stays,out)):=by subst h;rw[kq];intros;contradiction
theorem BQ (l:c9):(eZ l).length% 4=0/\l.length<=(eZ l).length/\(eZ l).length<l.length+4:=by unfold eZ;rw[bn];simp only[da,sX];omega
end
def YE (o:Option cB):Value->Value:=λV=>.tuple ⟨[V,tv (o.getD eY),.bool o.isSome]⟩
theorem H0 (l:c9)(x y:jt):(l++[x]).contains y=(l.contains y||decide (x=y)):=by
 rw[pd,mh,List.contains_iff_mem,List.contains_iff_mem,eW,fJ,bR];constructor
 .rintro(h|h)
  .exact .inl h
  .exact .inr h.symm
 .rintro(h|h)
  .exact .inl h
  .exact .inr h.symm
theorem zD (s:St)(v:SA)(st:ar)(h:dv 90000 st)(t:cB)(ht:bB t.cG=true)(a:aS)(c:Nat)(lv:c9)(Js:lv.length=16)(many:Int)(yr:0<=many/\many<=16)(hr:bM s a lv.length 5 (ai lv))(hm:∀b∈aj a,b∉(eK v st).flatMap It.cr)(hsv:w6 s a lv.length c 73 5):
  eO bf bw 195 [fI v st,tv t,.slice a lv.length c,iv many] s (aj a) v st (gY st t lv many).1 (gY st t lv many).2.isSome (YE (gY st t lv many).2):=by
 have hd:Rd ⟨s,(eK v st).flatMap It.cr,aj a⟩ a lv.length 5 (ai lv):=⟨hr,λb hb=>hb,hm⟩;have h1:dv 100000 st:=h.mono af;have IV:=MS (st:=st) ht;have hdd:=Pg.fB many;have po:gY st t lv many=match ir t (cQ many) (cQ many).toNat 1 (lv.take many.toNat) st [] with
  |(x,none)=>(x,none)
  |(x,some (stays,l))=>(dC ((fK st t).filter λp=>!(stays.contains p)) x,some ⟨l.headD bz,cQ many,many⟩):=rfl
 generalize hLV:ir t (cQ many) (cQ many).toNat 1 (lv.take many.toNat) st []=LV at po;have hL4:(lv.take many.toNat).length<=4^ (cQ many).toNat/\(lv.take many.toNat).length<=16:=by
  rw[cO,Js];unfold cQ;split
  .simp;omega
  .split<;>simp<;>omega
 refine aX f195 ?_;dsimp only[eK] at hd⊢;(repeat' (first|refine' aZ|refine' XO|((with_reducible apply WO.AL);exact aD;(first|exact λs hr=>EM s _ _ aP _ hr|exact λs hr=>EM s _ _ aP ⟨⟨_,_,_,_,_⟩,_,_⟩ hr);exact ez;intro _ _ agv agw _ _)|refine' av|fail))
 generalize hD:cQ many=D at *
 refine W.bK (λk l L=>∃(n:Nat)(level:Int)(x:ar)(ll stays:c9)(a1:aS)(c1:Nat)(a2:aS)(c2:Nat)(ao:aS)(co b4 b5 b8 b9:Nat),Le [(3,iv many),(4,bk b4),(5,bk b5),(8,bk b8),(9,bk b9),(11,iv D),(12,.slice ao (fK st t).length co),(13,.slice a1 ll.length c1),(14,.slice a2 stays.length c2),(15,iv level)] l/\cx [.aQ (.slice a1 ll.length c1) 73 5 (ai ll),.aQ (.slice a2 stays.length c2) 73 5 (ai stays),.aQ (.slice ao (fK st t).length co) 73 5 (ai (fK st t)),.box b4 (rS v x) 71 false,.box b5 (hU t) 75 false,.box b8 [eM,eM,eM,cg,eM,cg,eM,.bool false] 71 false,.box b9 [cg,cg,cg,cg,cg,cg,cg] 75 false,.aQ (.slice v.r 64 v.rc) 9 1 (ai x.ej),.aQ (.slice v.f 64 v.fc) 3 1 (ai x.bd),.aQ (.slice v.l 64 v.lc) 3 1 (ai x.dm),.aQ (.slice v.g x.cP.length v.gc) 73 5 (ai x.cP),.aQ (.slice v.d x.eg.length v.dc) 73 5 (ai x.eg)] L/\k=n/\level=D+1-n/\n<=D.toNat/\ll.length<=4^ n/\ll.length<=16/\stays.length<=8*(2-n)/\dv (90000+8*(2-n)) x/\LV=ir t D n level ll x stays)
  (λl L=>∃(x:ar)(ll stays:c9)(a1:aS)(c1:Nat)(a2:aS)(c2:Nat)(ao:aS)(co b4 b5 b8 b9:Nat),Le [(3,iv many),(4,bk b4),(5,bk b5),(8,bk b8),(9,bk b9),(11,iv D),(12,.slice ao (fK st t).length co),(13,.slice a1 ll.length c1),(14,.slice a2 stays.length c2)] l/\cx [.aQ (.slice a1 ll.length c1) 73 5 (ai ll),.aQ (.slice a2 stays.length c2) 73 5 (ai stays),.aQ (.slice ao (fK st t).length co) 73 5 (ai (fK st t)),.box b4 (rS v x) 71 false,.box b5 (hU t) 75 false,.box b8 [eM,eM,eM,cg,eM,cg,eM,.bool false] 71 false,.box b9 [cg,cg,cg,cg,cg,cg,cg] 75 false,.aQ (.slice v.r 64 v.rc) 9 1 (ai x.ej),.aQ (.slice v.f 64 v.fc) 3 1 (ai x.bd),.aQ (.slice v.l 64 v.lc) 3 1 (ai x.dm),.aQ (.slice v.g x.cP.length v.gc) 73 5 (ai x.cP),.aQ (.slice v.d x.eg.length v.dc) 73 5 (ai x.eg)] L/\stays.length<=16/\ll.length<=16/\dv 90016 x/\LV=(x,some (stays,ll))) D.toNat ⟨D.toNat,1,st,[]++lv.take many.toNat,[],_,_,_,_,_,_,_,_,_,_,bp,au,rfl,af,cC _,by simpa using hL4.1,by simpa using hL4.2,ay,h.mono af,hLV.symm⟩ ?_ ?_
 .rintro k l L ⟨n,level,x,ll,stays,a1,c1,a2,c2,ao,co,b4,b5,b8,b9,hl,hL,hk,aeM,hnD,hl4,anI,jz,hx,afo⟩;refine W.le ?_ hl hL;clear hl hL;subst hk;have hx1:dv 100000 x:=hx.mono af;cases k with
  |zero=>
   refine' cM;(all_goals try exact pE);exact⟨x,ll,stays,_,_,_,_,_,_,_,_,_,_,bp,au,af,af,hx.mono af,afo⟩
  |succ n=>
   (have hDD:D=1\/D=2:=by omega);have Uc:=Ub (st:=x) (t:=t) (level:=level) hDD;(repeat' (first|refine' aZ|((with_reducible apply WO.AL);exact aD;(first|exact λs hr=>MO s _ _ aP _ _ _ hr|exact λs hr=>MO s _ _ aP ⟨⟨_,_,_,_,_⟩,_,_⟩ _ _ hr);exact ez;intro _ _ aj8 aj9 _ _)|refine' av|fail));all_goals try exact pE
   refine W.bK (λk l L=>∃(j:Nat)(p:c9)(a1:aS)(c1:Nat)(a2:aS)(c2:Nat)(a3:aS)(c3:Nat)(a4:aS)(c4:Nat)(ao:aS)(co b4 b5 b8 b9:Nat),Le [(3,iv many),(4,bk b4),(5,bk b5),(8,bk b8),(9,bk b9),(11,iv D),(12,.slice ao (fK st t).length co),(13,.slice a1 p.length c1),(14,.slice a2 stays.length c2),(15,iv level),(16,.slice a3 (iT x t D level).length c3),(17,.slice a4 ([]:c9).length c4)] l/\cx [.aQ (.slice a1 p.length c1) 73 5 (ai p),.aQ (.slice a2 stays.length c2) 73 5 (ai stays),.aQ (.slice a3 (iT x t D level).length c3) 73 5 (ai (iT x t D level)),.aQ (.slice a4 ([]:c9).length c4) 73 5 (ai ([]:c9)),.aQ (.slice ao (fK st t).length co) 73 5 (ai (fK st t)),.box b4 (rS v x) 71 false,.box b5 (hU t) 75 false,.box b8 [eM,eM,eM,cg,eM,cg,eM,.bool false] 71 false,.box b9 [cg,cg,cg,cg,cg,cg,cg] 75 false,.aQ (.slice v.r 64 v.rc) 9 1 (ai x.ej),.aQ (.slice v.f 64 v.fc) 3 1 (ai x.bd),.aQ (.slice v.l 64 v.lc) 3 1 (ai x.dm),.aQ (.slice v.g x.cP.length v.gc) 73 5 (ai x.cP),.aQ (.slice v.d x.eg.length v.dc) 73 5 (ai x.eg)] L/\k=4-j/\p=ll++da j/\j<=3/\∀i,i<j->(ll.length+i)% 4≠0)
    (λl L=>∃(a1:aS)(c1:Nat)(a2:aS)(c2:Nat)(a3:aS)(c3:Nat)(a4:aS)(c4:Nat)(ao:aS)(co b4 b5 b8 b9:Nat),Le [(3,iv many),(4,bk b4),(5,bk b5),(8,bk b8),(9,bk b9),(11,iv D),(12,.slice ao (fK st t).length co),(13,.slice a1 (eZ ll).length c1),(14,.slice a2 stays.length c2),(15,iv level),(16,.slice a3 (iT x t D level).length c3),(17,.slice a4 ([]:c9).length c4)] l/\cx [.aQ (.slice a1 (eZ ll).length c1) 73 5 (ai (eZ ll)),.aQ (.slice a2 stays.length c2) 73 5 (ai stays),.aQ (.slice a3 (iT x t D level).length c3) 73 5 (ai (iT x t D level)),.aQ (.slice a4 ([]:c9).length c4) 73 5 (ai ([]:c9)),.aQ (.slice ao (fK st t).length co) 73 5 (ai (fK st t)),.box b4 (rS v x) 71 false,.box b5 (hU t) 75 false,.box b8 [eM,eM,eM,cg,eM,cg,eM,.bool false] 71 false,.box b9 [cg,cg,cg,cg,cg,cg,cg] 75 false,.aQ (.slice v.r 64 v.rc) 9 1 (ai x.ej),.aQ (.slice v.f 64 v.fc) 3 1 (ai x.bd),.aQ (.slice v.l 64 v.lc) 3 1 (ai x.dm),.aQ (.slice v.g x.cP.length v.gc) 73 5 (ai x.cP),.aQ (.slice v.d x.eg.length v.dc) 73 5 (ai x.eg)] L) 4 ⟨0,ll,_,_,_,_,_,_,_,_,_,_,_,_,_,_,bp,au,rfl,by simp[da],af,by intro i hi;omega⟩ ?_ ?_
   .rintro k l L ⟨j,p,a1,c1,a2,c2,a3,c3,a4,c4,ao,co,b4,b5,b8,b9,hl,hL,rfl,hp,hj,S0⟩;refine W.le ?_ hl hL;clear hl hL;have sS:p.length=ll.length+j:=by rw[hp,bn];simp[da]
    (have htm:((p.length:Int)).tmod 4=((p.length% 4:Nat):Int):=by rw[Int.tmod_eq_emod_of_nonneg af];omega);refine' cM
    .have gh:p.length% 4≠0:=by omega
     have hj3:j<3\/j=3:=by omega
     have SV:j<=2:=by
      rcases hj3 with h|h
      .omega
      .exfalso;have h0:=S0 0;have h1:=S0 1;have h2:=S0 2;omega
     refine⟨_,?_,j+1,p++[bz],_,_,_,_,_,_,_,_,_,_,_,_,_,_,bp,au,rfl,?_,af,?_⟩
     .omega
     .rw[hp,iL];congr 1;rw[show [bz]=da 1 from rfl];simp only[da,Vu]
     .intro i hi;by_cases nI:i=j
      .subst nI;omega
      .exact S0 i af
    .have he:p=eZ ll:=by
      rw[hp];unfold eZ;congr 2;have h0:=S0 0;have h1:=S0 1;have h2:=S0 2;omega
     subst he;exact⟨_,_,_,_,_,_,_,_,_,_,_,_,_,_,bp,au⟩
   .rintro l L ⟨a1,c1,a2,c2,a3,c3,a4,c4,ao,co,b4,b5,b8,b9,hl,hL⟩;refine ak ?_;refine W.le ?_ hl hL;clear hl hL;obtain⟨hP1,hP2,hP3⟩:=BQ ll;generalize hPe:eZ ll=P at *
    generalize hWe:iT x t D level=ow at *
    refine' cM
    refine W.bK (λk l L=>∃(i:Nat)(y:ar)(Gg out:c9)(a1:aS)(c1:Nat)(a2:aS)(c2:Nat)(a3:aS)(c3:Nat)(a4:aS)(c4:Nat)(ao:aS)(co b4 b5 b8 b9:Nat),Le [(3,iv many),(4,bk b4),(5,bk b5),(8,bk b8),(9,bk b9),(11,iv D),(12,.slice ao (fK st t).length co),(13,.slice a1 P.length c1),(14,.slice a2 Gg.length c2),(15,iv level),(16,.slice a3 ow.length c3),(17,.slice a4 out.length c4),(18,iv i)] l/\cx [.aQ (.slice a1 P.length c1) 73 5 (ai P),.aQ (.slice a2 Gg.length c2) 73 5 (ai Gg),.aQ (.slice a3 ow.length c3) 73 5 (ai ow),.aQ (.slice a4 out.length c4) 73 5 (ai out),.aQ (.slice ao (fK st t).length co) 73 5 (ai (fK st t)),.box b4 (rS v y) 71 false,.box b5 (hU t) 75 false,.box b8 [eM,eM,eM,cg,eM,cg,eM,.bool false] 71 false,.box b9 [cg,cg,cg,cg,cg,cg,cg] 75 false,.aQ (.slice v.r 64 v.rc) 9 1 (ai y.ej),.aQ (.slice v.f 64 v.fc) 3 1 (ai y.bd),.aQ (.slice v.l 64 v.lc) 3 1 (ai y.dm),.aQ (.slice v.g y.cP.length v.gc) 73 5 (ai y.cP),.aQ (.slice v.d y.eg.length v.dc) 73 5 (ai y.eg)] L/\k=P.length-4*i/\4*i<=P.length/\out.length=i/\Gg.length<=stays.length+i/\dv (90000+8*(1-n)+i) y/\kq level P ow x stays []=kq level (P.drop (4*i)) (ow.drop i) y Gg out)
     (λl L=>∃(y:ar)(Gg out:c9)(a2:aS)(c2:Nat)(a4:aS)(c4:Nat)(ao:aS)(co b4 b5 b8 b9:Nat),Le [(3,iv many),(4,bk b4),(5,bk b5),(8,bk b8),(9,bk b9),(11,iv D),(12,.slice ao (fK st t).length co),(14,.slice a2 Gg.length c2),(15,iv level),(17,.slice a4 out.length c4)] l/\cx [.aQ (.slice a2 Gg.length c2) 73 5 (ai Gg),.aQ (.slice a4 out.length c4) 73 5 (ai out),.aQ (.slice ao (fK st t).length co) 73 5 (ai (fK st t)),.box b4 (rS v y) 71 false,.box b5 (hU t) 75 false,.box b8 [eM,eM,eM,cg,eM,cg,eM,.bool false] 71 false,.box b9 [cg,cg,cg,cg,cg,cg,cg] 75 false,.aQ (.slice v.r 64 v.rc) 9 1 (ai y.ej),.aQ (.slice v.f 64 v.fc) 3 1 (ai y.bd),.aQ (.slice v.l 64 v.lc) 3 1 (ai y.dm),.aQ (.slice v.g y.cP.length v.gc) 73 5 (ai y.cP),.aQ (.slice v.d y.eg.length v.dc) 73 5 (ai y.eg)] L/\4*out.length=P.length/\Gg.length<=stays.length+4/\dv (90000+8*(1-n)+4) y/\kq level P ow x stays []=(y,some (Gg,out))) P.length ⟨0,x,stays,[],_,_,_,_,_,_,_,_,_,_,_,_,_,_,bp,au,af,af,rfl,af,hx.mono af,rfl⟩ ?_ ?_
    .rintro k l L ⟨i,y,Gg,out,a1,c1,a2,c2,a3,c3,a4,c4,ao,co,b4,b5,b8,b9,hl,hL,rfl,N9,QQ,Rg,hy,hg⟩;refine W.le ?_ hl hL;clear hl hL;have Vo:dv 100000 y:=hy.mono af;have aa8:4^ (n+1)=4*4^ n:=by rw[Vq,GA]
     (have hPl:P.length<=4*4^ n/\P.length<=16:=by omega);(have anJ:Gg.length<=100:=by omega);(have anK:out.length<=100:=by omega);by_cases hi:4*i<P.length
     .have alJ:4*i+4<=P.length:=by omega
      have hiw:i<ow.length:=by
       rcases xh n with hn|hn
       .subst hn;have:=Uc.1 af;have:4*4^ 0=4:=rfl;omega
       .have:=Uc.2.1 af;omega
      generalize hl4:(P.drop ((i:Int)*4).toNat).take ((((i:Int)+1)*4).toNat-((i:Int)*4).toNat)=l4;have aiG:l4=(P.drop (4*i)).take 4:=by
       rw[<-hl4];congr 1
       .omega
       .congr 1;omega
      have afp:l4.length=4:=by rw[aiG,cO,eP];omega
      have hgs:=MT (level:=level) (L:=P) (was:=ow) (st:=y) (stays:=Gg) (out:=out) (i:=i) alJ hiw;rw[<-aiG] at hgs;have pf:=YD (level:=level) (old:=ow.getD i aq.ah) hy afp;cases abK:OS y l4 level (ow.getD i aq.ah) with
      |none=>
       have C6:vy y l4 level (ow.getD i aq.ah)=(y,bz,false):=by unfold vy;rw[abK]
       have Ll:∀s a c,bM s a l4.length 5 (ai l4)->(∀b∈aj a,b∉(eK v y).flatMap It.cr)->eO bf bw 257 [fI v y,.slice a l4.length c,iv level,pv (ow.getD i aq.ah)] s (aj a) v y y false (wrV bz false):=λs a c hr hm=>by
        have:=MR s v y Vo a c l4 afp level (ow.getD i aq.ah) hr hm;rw[C6] at this;exact this
       subst hl4;rw[abK] at hgs;(have alK:LV=(y,none):=by rw[afo,ir,hPe,hWe,hg,hgs]);rw[alK] at po;rw[po];(repeat' (first|refine' aZ|refine' XZ|refine' av|fail));(all_goals try exact pE);obtain rfl:=En rfl;refine' dV
       .rfl
       .exact λ_=>rfl
      |some r=>
       obtain⟨z,p⟩:=r;have C6:vy y l4 level (ow.getD i aq.ah)=(z,p,true):=by unfold vy;rw[abK]
       have Ll:∀s a c,bM s a l4.length 5 (ai l4)->(∀b∈aj a,b∉(eK v y).flatMap It.cr)->eO bf bw 257 [fI v y,.slice a l4.length c,iv level,pv (ow.getD i aq.ah)] s (aj a) v y z false (wrV p true):=λs a c hr hm=>by
        have:=MR s v y Vo a c l4 afp level (ow.getD i aq.ah) hr hm;rw[C6] at this;exact this
       subst hl4;rw[abK] at hgs;rw[C6] at pf;by_cases hpw:p=ow.getD i aq.ah
       .have alL:=du hpw;repeat' (first|refine' aZ|refine' XZ|refine' av|fail)
        (all_goals try exact pE);obtain rfl:=En rfl;refine⟨_,?_,i+1,z,Gg++[p],out++[p],_,_,_,_,_,_,_,_,_,_,_,_,_,_,bp,au,rfl,af,by simp[QQ],by rw[bn,Bn];omega,pf.1,?_⟩
        .omega
        .rw[hg,hgs];simp only;rw[if_pos hpw]
       .have alL:=ec hpw;repeat' (first|refine' aZ|refine' XZ|refine' av|fail)
        (all_goals try exact pE);obtain rfl:=En rfl;refine⟨_,?_,i+1,z,Gg,out++[p],_,_,_,_,_,_,_,_,_,_,_,_,_,_,bp,au,rfl,af,by simp[QQ],af,pf.1,?_⟩
        .omega
        .rw[hg,hgs];simp only;rw[if_neg hpw]
     .have fb:4*i=P.length:=by omega
      have tO:P.drop (4*i)=[]:=Ac af;rw[tO,EN rfl] at hg;refine' cM;(all_goals try exact pE);exact⟨y,Gg,out,_,_,_,_,_,_,_,_,_,_,bp,au,af,af,hy.mono af,hg⟩
    .rintro l L ⟨y,Gg,out,a2,c2,a4,c4,ao,co,b4,b5,b8,b9,hl,hL,QQ,Rg,hy,hg⟩;refine ak ?_;refine W.le ?_ hl hL;clear hl hL;have aa8:4^ (n+1)=4*4^ n:=by rw[Vq,GA]
     refine' cM;refine⟨_,?_,n,level+1,y,out,Gg,_,_,_,_,_,_,_,_,_,_,bp,au,rfl,af,af,?_,af,af,hy.mono af,?_⟩
     .omega
     .omega
     .rw[afo,ir,hPe,hWe,hg]
 .rintro l L ⟨x,ll,stays,a1,c1,a2,c2,ao,co,b4,b5,b8,b9,hl,hL,jz,hll,hx,aiH⟩;refine ak ?_;refine W.le ?_ hl hL;clear hl hL;have hx1:dv 100000 x:=hx.mono af;rw[aiH] at po;simp only at po;rw[po];clear po aiH hLV;generalize hOe:fK st t=old at *
  refine' cM
  refine W.bK (λk l L=>∃(i:Nat)(y:ar)(v':SA)(a1:aS)(c1:Nat)(a2:aS)(c2:Nat)(ao:aS)(co b4 b8 b9:Nat),Le [(3,iv many),(4,bk b4),(8,bk b8),(9,bk b9),(11,iv D),(12,.slice ao old.length co),(13,.slice a1 ll.length c1),(14,.slice a2 stays.length c2),(22,iv i)] l/\cx [.aQ (.slice a1 ll.length c1) 73 5 (ai ll),.aQ (.slice a2 stays.length c2) 73 5 (ai stays),.aQ (.slice ao old.length co) 73 5 (ai old),.box b4 (rS v' y) 71 false,.box b8 [eM,eM,eM,cg,eM,cg,eM,.bool false] 71 false,.box b9 [cg,cg,cg,cg,cg,cg,cg] 75 false,.aQ (.slice v'.r 64 v'.rc) 9 1 (ai y.ej),.aQ (.slice v'.f 64 v'.fc) 3 1 (ai y.bd),.aQ (.slice v'.l 64 v'.lc) 3 1 (ai y.dm),.aQ (.slice v'.g y.cP.length v'.gc) 73 5 (ai y.cP),.aQ (.slice v'.d y.eg.length v'.dc) 73 5 (ai y.eg)] L/\k=old.length-i/\i<=old.length/\dv (90016+i) y/\dC (old.filter λp=>!(stays.contains p)) x=dC ((old.drop i).filter λp=>!(stays.contains p)) y)
   (λl L=>∃(y:ar)(v':SA)(a1:aS)(c1:Nat)(b4 b8 b9:Nat),Le [(3,iv many),(4,bk b4),(8,bk b8),(9,bk b9),(11,iv D),(13,.slice a1 ll.length c1)] l/\cx [.aQ (.slice a1 ll.length c1) 73 5 (ai ll),.box b4 (rS v' y) 71 false,.box b8 [eM,eM,eM,cg,eM,cg,eM,.bool false] 71 false,.box b9 [cg,cg,cg,cg,cg,cg,cg] 75 false,.aQ (.slice v'.r 64 v'.rc) 9 1 (ai y.ej),.aQ (.slice v'.f 64 v'.fc) 3 1 (ai y.bd),.aQ (.slice v'.l 64 v'.lc) 3 1 (ai y.dm),.aQ (.slice v'.g y.cP.length v'.gc) 73 5 (ai y.cP),.aQ (.slice v'.d y.eg.length v'.dc) 73 5 (ai y.eg)] L/\dC (old.filter λp=>!(stays.contains p)) x=y) old.length ⟨0,x,v,_,_,_,_,_,_,_,_,_,bp,au,af,af,hx,rfl⟩ ?_ ?_
  .rintro k l L ⟨i,y,v',a1,c1,a2,c2,ao,co,b4,b8,b9,hl,hL,rfl,hi,hy,YF⟩;refine W.le ?_ hl hL;clear hl hL;have Vo:dv 100000 y:=hy.mono af;by_cases tp:i<old.length
   .have FD:bB (old.getD i aq.ah)=true:=IV.2 _ (aL tp _);rw[drop_cons tp,uj] at YF;refine' cM
    all_goals try exact pE
    refine W.bK (λk l L=>∃(j:Nat)(kept:Bool)(a1:aS)(c1:Nat)(a2:aS)(c2:Nat)(ao:aS)(co b4 b8 b9:Nat),Le [(3,iv many),(4,bk b4),(8,bk b8),(9,bk b9),(11,iv D),(12,.slice ao old.length co),(13,.slice a1 ll.length c1),(14,.slice a2 stays.length c2),(22,iv i),(23,.bool kept),(24,iv j)] l/\cx [.aQ (.slice a1 ll.length c1) 73 5 (ai ll),.aQ (.slice a2 stays.length c2) 73 5 (ai stays),.aQ (.slice ao old.length co) 73 5 (ai old),.box b4 (rS v' y) 71 false,.box b8 [eM,eM,eM,cg,eM,cg,eM,.bool false] 71 false,.box b9 [cg,cg,cg,cg,cg,cg,cg] 75 false,.aQ (.slice v'.r 64 v'.rc) 9 1 (ai y.ej),.aQ (.slice v'.f 64 v'.fc) 3 1 (ai y.bd),.aQ (.slice v'.l 64 v'.lc) 3 1 (ai y.dm),.aQ (.slice v'.g y.cP.length v'.gc) 73 5 (ai y.cP),.aQ (.slice v'.d y.eg.length v'.dc) 73 5 (ai y.eg)] L/\k=stays.length-j/\j<=stays.length/\kept=(stays.take j).contains (old.getD i aq.ah))
     (λl L=>∃(a1:aS)(c1:Nat)(a2:aS)(c2:Nat)(ao:aS)(co b4 b8 b9:Nat),Le [(3,iv many),(4,bk b4),(8,bk b8),(9,bk b9),(11,iv D),(12,.slice ao old.length co),(13,.slice a1 ll.length c1),(14,.slice a2 stays.length c2),(22,iv i),(23,.bool (stays.contains (old.getD i aq.ah)))] l/\cx [.aQ (.slice a1 ll.length c1) 73 5 (ai ll),.aQ (.slice a2 stays.length c2) 73 5 (ai stays),.aQ (.slice ao old.length co) 73 5 (ai old),.box b4 (rS v' y) 71 false,.box b8 [eM,eM,eM,cg,eM,cg,eM,.bool false] 71 false,.box b9 [cg,cg,cg,cg,cg,cg,cg] 75 false,.aQ (.slice v'.r 64 v'.rc) 9 1 (ai y.ej),.aQ (.slice v'.f 64 v'.fc) 3 1 (ai y.bd),.aQ (.slice v'.l 64 v'.lc) 3 1 (ai y.dm),.aQ (.slice v'.g y.cP.length v'.gc) 73 5 (ai y.cP),.aQ (.slice v'.d y.eg.length v'.dc) 73 5 (ai y.eg)] L) stays.length ⟨0,false,_,_,_,_,_,_,_,_,_,bp,au,af,af,rfl⟩ ?_ ?_
    .rintro k l L ⟨j,kept,a1,c1,a2,c2,ao,co,b4,b8,b9,hl,hL,rfl,hj,RI⟩;refine W.le ?_ hl hL;clear hl hL;have e:=λh:j<stays.length=>fG stays aq.ah h
     refine' cM
     .refine⟨_,?_,j+1,_,_,_,_,_,_,_,_,_,_,bp,au,rfl,af,?_⟩
      .omega
      .rw[e af,H0,<-RI,hg];rfl
     .refine⟨_,?_,j+1,true,_,_,_,_,_,_,_,_,_,bp,au,rfl,af,?_⟩
      .omega
      .rw[e af,H0,<-RI,uw];rfl
     .have hj':j=stays.length:=by omega
      subst hj';rw[fU] at RI;subst RI;exact⟨_,_,_,_,_,_,_,_,_,bp,au⟩
    .rintro l L ⟨a1,c1,a2,c2,ao,co,b4,b8,b9,hl,hL⟩;refine ak ?_;refine W.le ?_ hl hL;clear hl hL;repeat' (first|refine' aZ|refine' Mn|refine' av|fail)
     .rw[if_pos hc] at YF;refine⟨_,?_,i+1,_,_,_,_,_,_,_,_,_,_,_,bp,au,rfl,af,hy.free FD,YF⟩;omega
     .rw[if_neg (by rw[hc];simp)] at YF;refine⟨_,?_,i+1,y,v',_,_,_,_,_,_,_,_,_,bp,au,rfl,af,hy.mono af,YF⟩;omega
   .have fb:i=old.length:=by omega
    subst fb;rw[kG] at YF;refine' cM;(all_goals try exact pE);exact⟨y,v',_,_,_,_,_,bp,au,YF⟩
  .rintro l L ⟨y,v',a1,c1,b4,b8,b9,hl,hL,YF⟩;refine ak ?_;refine W.le ?_ hl hL;clear hl hL;rw[YF];refine' cM
   .rw[show ll.headD bz=ll.getD 0 aq.ah from by cases ll<;>rfl];refine' dV
    .rfl
    .intro hc;cases hc
   .have Vn:ll=[]:=mj af;subst Vn;refine' dV
    .rfl
    .intro hc;cases hc
variable {cZ:ar}
section
variable {p:jt}
structure Kp (st cZ:ar):Prop where
 g:cZ.cP=st.cP
 d:cZ.eg=st.eg
 t:cZ.fH=st.fH
 k:cZ.oQ=st.oQ
 s:cZ.same=st.same
theorem Kp.refl (st:ar):Kp st st:=⟨rfl,rfl,rfl,rfl,rfl⟩
theorem Kp.trans {a b c:ar}(h:Kp a b)(k:Kp b c):Kp a c:=⟨k.g.trans h.g,k.d.trans h.d,k.t.trans h.t,k.k.trans h.k,k.s.trans h.s⟩
theorem Kp.fI {st cZ:ar}(h:Kp st cZ)(v:SA):fI v cZ=fI v st:=by unfold Go.Pl.fI rS;rw[h.g,h.d,h.t,h.k,h.s]
theorem MU {st cZ:ar}{s:aC}{level:Int}(h:bh st s level=some (cZ,p)):Kp st cZ:=by
 unfold Go.Pl.bh at h;split at h
 .cases h
 .split at h
  .cases h
  .cases h;exact⟨rfl,rfl,rfl,rfl,rfl⟩
theorem abL {st cZ:ar}{l:c9}{level:Int}{old p:jt}(h:dv n st)(h4:l.length=4)(hf:OS st l level old=some (cZ,p)):dv (n+1) cZ/\Kp st cZ/\bB p=true:=by
 unfold OS at hf;split at hf
 .cases hf;exact⟨h.mono af,Kp.refl _,bT⟩
 .simp only at hf;split at hf
  .rename_i hc;cases hf
   simp only[bI,bR] at hc;refine⟨h.mono af,Kp.refl _,?_⟩;have:=hc.1.2;simp[fits] at this;exact this.1.1.1
  .have:=h.bh (by have:=x7 h4;omega) hf;exact⟨this.1,MU hf,this.2.1⟩
theorem EO {level:Int}:∀(k:Nat){L was:c9}{st:ar}{stays out:c9}{n:Nat},L.length=4*k->dv n st->(∀p∈out,bB p=true)->
  dv (n+k) (kq level L was st stays out).1/\Kp st (kq level L was st stays out).1/\∀r,(kq level L was st stays out).2=some r->r.2.length=out.length+k/\∀p∈r.2,bB p=true
 |0,L,was,st,stays,out,n,hL,h,ho=>by
  have:L=[]:=mj af;rw[EN this];exact⟨h,Kp.refl _,λr hr=>by cases hr;exact⟨rfl,ho⟩⟩
 |k+1,L,was,st,stays,out,n,hL,h,ho=>by
  match L,hL with
  |a::b::c::d::L,hL=>
   rw[kq];cases hf:OS st [a,b,c,d] level (was.headD bz) with
   |none=>exact⟨h.mono af,Kp.refl _,λr hr=>by cases hr⟩
   |some x=>
    obtain⟨st1,p⟩:=x;obtain⟨h1,h2,h3⟩:=abL h rfl hf;simp only;obtain⟨h4,h5,h6⟩:=EO k (L:=L) (was:=was.tail) (stays:=if p=was.headD bz then stays++[p] else stays) (out:=out++[p]) (by simp at hL;omega) h1 (λq hq=>by
     rcases eW.1 hq with hq|hq
     .exact ho q hq
     .have:q=p:=by simpa using hq
      rw[this];exact h3)
    refine⟨by rw[show n+(k+1)=n+1+k by omega];exact h4,h2.trans h5,λr hr=>?_⟩;obtain⟨h7,h8⟩:=h6 r hr;exact⟨by rw[h7];simp;omega,h8⟩
theorem EP {t:cB}{depth:Int}:∀(m:Nat){level:Int}{l:c9}{st:ar}{stays:c9}{n:Nat},l.length<=16->dv n st->(∀p∈l,bB p=true)->
  dv (n+m*5) (ir t depth m level l st stays).1/\Kp st (ir t depth m level l st stays).1/\∀r,(ir t depth m level l st stays).2=some r->∀p∈r.2,bB p=true
 |0,level,l,st,stays,n,hl,h,hp=>by
  rw[ir];exact⟨h,Kp.refl _,λr hr=>by cases hr;exact hp⟩
 |m+1,level,l,st,stays,n,hl,h,hp=>by
  rw[ir];obtain⟨hP1,hP2,hP3⟩:=BQ l;obtain⟨h1,h2,h3⟩:=EO (level:=level) ((eZ l).length/ 4) (L:=eZ l) (was:=iT st t depth level) (st:=st) (stays:=stays) (out:=[]) af h ay;rcases hg:kq level (eZ l) (iT st t depth level) st stays [] with⟨st1,_|⟨Gg,o⟩⟩
  .rw[hg] at h1 h2;exact⟨h1.mono af,h2,λr hr=>by cases hr⟩
  .rw[hg] at h1 h2 h3;obtain⟨h4,h5⟩:=h3 _ rfl;simp only at h1 h2 h4 h5⊢;obtain⟨h6,h7,h8⟩:=EP m (t:=t) (depth:=depth) (level:=level+1) (stays:=Gg) (by simp at h4;omega) (h1.mono (show _<=n+5 by omega)) h5;exact⟨h6.mono af,h2.trans h7,h8⟩
theorem wk {t:cB}{st:ar}{lv:c9}{many:Int}(h:dv n st)(ht:bB t.cG=true)(hl:lv.length=16)(hp:∀p∈lv,bB p=true)(hm:0<=many/\many<=16):
  dv (n+20) (gY st t lv many).1/\((gY st t lv many).2=none->Kp st (gY st t lv many).1)/\∀t',(gY st t lv many).2=some t'->dZ t'/\t'.many=many:=by
 have hd:=Pg.fB many;obtain⟨h1,h2,h3⟩:=EP (t:=t) (depth:=cQ many) (cQ many).toNat (level:=1) (l:=lv.take many.toNat) (st:=st) (stays:=[]) (by rw[cO];omega) h (λp pT=>hp p (B2 pT));obtain⟨Kv,tp⟩:=MS (st:=st) ht;have po:gY st t lv many=match ir t (cQ many) (cQ many).toNat 1 (lv.take many.toNat) st [] with
  |(x,none)=>(x,none)
  |(x,some (stays,l))=>(dC ((fK st t).filter λp=>!(stays.contains p)) x,some ⟨l.headD bz,cQ many,many⟩):=rfl
 rw[po];rcases Js:ir t (cQ many) (cQ many).toNat 1 (lv.take many.toNat) st [] with⟨x,_|⟨stays,l⟩⟩
 .rw[Js] at h1 h2;exact⟨h1.mono af,λ_=>h2,λt' ht'=>by cases ht'⟩
 .rw[Js] at h1 h2 h3;simp only at h1 h2⊢;have hf:=Bm (λp=>!(stays.contains p)) (fK st t);have h4:=dv.dC (st:=x) ((fK st t).filter λp=>!(stays.contains p)) h1 (λp pT=>tp p (rW.1 pT).1);refine⟨h4.mono af,λhc=>(by cases hc),λt' ht'=>?_⟩;cases ht'
  refine⟨⟨?_,hm,hd⟩,rfl⟩;cases l with
  |nil=>exact(by decide:bB bz=true)
  |cons p l=>exact h3 _ rfl p ay
end
def Ch (t:cB)(ok:Bool):Value->Value:=λV=>.tuple ⟨[V,tv t,.bool ok]⟩
end Go.Pl
