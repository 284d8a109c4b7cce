/- Lemmas of the proof. No conditions. -/
import Derived.Test.YtjaeddbblleomaaGreatDoorAd7
set_option maxRecDepth 100000
set_option maxHeartbeats 4000000
set_option linter.unusedVariables false
set_option linter.unusedSimpArgs false
open Go.Proofs.Tryz
namespace Go.Pl
open Go Go.Ev Go.Lg Go.Proofs
def wr (st:ak)(z:ay)(level:Int):ak×iL×Bool:=match aZ st z level with
 |none=>(st,bq,false)
 |some (st1,p)=>(st1,p,true)
def wrV (p:iL)(ok:Bool):Value->Value:=λV=>.tuple ⟨[V,pv p,.bool ok]⟩
theorem wW (s:St)(v:SA)(st:ak)(h:du 100000 st)(z:ay)(hz:z.length<=3000)(level:Int):eP aU aW 172 [fF v st,sv z,iv level] s [] v st (wr st z level).1 false (wrV (wr st z level).2.1 (wr st z level).2.2):=by
 have J6:=h.lr;have BG:=h.lf;have hll:=h.ll;refine aO f172 ?_;cases Zp:st.same with
 |true=>
  by_cases hl0:level=0
  .have SY:decide (level=0)=true:=dO hl0;cases hk:Vb st z with
   |some i=>
    have hi:=Pg.kP hk;have vZ:∀s,cJ s v st->bO 219 [fF v st,sv z] s (im v) (iv i):=λs hr=>by
     have:=G5 s v st h z hr;rw[hk] at this;exact this
    have href: -(100000:Int)<=st.aV.getD i c9.lW/\st.aV.getD i c9.lW<=100000:=h.ref i;have hw:aZ st z level=match rU i st.fE level z with
      |none=>none
      |some p=>some ({st with ep:=st.ep.set i z,aV:=st.aV.set i (st.aV.getD i 0+1),dq:=st.dq.set i st.fE},p):=by
     unfold aZ nX;rw[Zp,SY];simp only[Fv,if_true];rw[hk];rfl
    cases hp:rU i st.fE level z with
    |none=>
     have YN:∀s,bO 221 [iv i,iv st.fE,iv level,sv z] s [] (tS none):=λs=>by have:=oA s i st.fE level z af;rwa [hp] at this
     rw[hp] at hw;have nG:wr st z level=(st,bq,false):=by unfold wr;rw[hw]
     rw[nG];(repeat' (first|refine' aX|refine' GB|refine' V0|refine' ar|fail))
     (refine' dV)
     .rfl
     .exact λ_=>rfl
    |some p=>
     have YN:∀s,bO 221 [iv i,iv st.fE,iv level,sv z] s [] (tS (some p)):=λs=>by have:=oA s i st.fE level z af;rwa [hp] at this
     rw[hp] at hw;have nG:wr st z level=({st with ep:=st.ep.set i z,aV:=st.aV.set i (st.aV.getD i 0+1),dq:=st.dq.set i st.fE},p,true):=by unfold wr;rw[hw]
     rw[nG];(repeat' (first|refine' aX|refine' GB|refine' V0|refine' ar|fail))
     (refine' dV)
     .rfl
     .exact λ_=>rfl
   |none=>
    have vZ:∀s,cJ s v st->bO 219 [fF v st,sv z] s (im v) (iv (-1)):=λs hr=>by
     have:=G5 s v st h z hr;rw[hk] at this;exact this
    cases hf:CE st with
    |some i=>
     refine' zaj
     have href: -(100000:Int)<=st.aV.getD i c9.lW/\st.aV.getD i c9.lW<=100000:=h.ref i;have hw:aZ st z level=match rU i st.fE level z with
       |none=>none
       |some p=>some ({st with ep:=st.ep.set i z,aV:=st.aV.set i (st.aV.getD i 0+1),dq:=st.dq.set i st.fE},p):=by
      unfold aZ nX;rw[Zp,SY];simp only[Fv,if_true];rw[hk];simp only;rw[hf];rfl
     refine' zab
    |none=>
     refine' zak
     have hw:aZ st z level=none:=by
      unfold aZ nX;rw[Zp,SY];simp only[Fv,if_true];rw[hk];simp only;rw[hf]
     refine' zaw
     .rfl
     .exact λ_=>rfl
  .have SY:decide (level=0)=false:=iO hl0;cases hf:CE st with
   |some i=>
    refine' zaj
    have href: -(100000:Int)<=st.aV.getD i c9.lW/\st.aV.getD i c9.lW<=100000:=h.ref i;have hw:aZ st z level=match rU i st.fE level z with
      |none=>none
      |some p=>some ({st with ep:=st.ep.set i z,aV:=st.aV.set i (st.aV.getD i 0+1),dq:=st.dq.set i st.fE},p):=by
     unfold aZ nX;rw[Zp,SY];simp only[Bool.and_false,jH,oV];rw[hf];rfl
    refine' zab
   |none=>
    refine' zak
    have hw:aZ st z level=none:=by
     unfold aZ nX;rw[Zp,SY];simp only[Bool.and_false,jH,oV];rw[hf]
    refine' zaw
    .rfl
    .exact λ_=>rfl
 |false=>
  cases hf:CE st with
  |some i=>
   refine' zaj
   have href: -(100000:Int)<=st.aV.getD i c9.lW/\st.aV.getD i c9.lW<=100000:=h.ref i;have hw:aZ st z level=match rU i st.fE level z with
     |none=>none
     |some p=>some ({st with ep:=st.ep.set i z,aV:=st.aV.set i (st.aV.getD i 0+1),dq:=st.dq.set i st.fE},p):=by
    unfold aZ nX;rw[Zp];simp only[JK,jH,oV];rw[hf];rfl
   refine' zab
  |none=>
   refine' zak
   have hw:aZ st z level=none:=by
    unfold aZ nX;rw[Zp];simp only[JK,jH,oV];rw[hf]
   refine' zaw
   .rfl
   .exact λ_=>rfl
theorem SZ (s:St)(v:SA)(aV dq:List Int)(i:Nat)(hf:aV.length=64)(hl:dq.length=64)(hi:i<64)(hb: -1000000<=aV.getD i c9.lW/\aV.getD i c9.lW<=1000000):
  AJ 150 [.agg ⟨[.slice v.f 64 v.fc,.slice v.l 64 v.lc]⟩,iv i] s [.aJ (.slice v.f 64 v.fc) 3 1 (ah aV),.aJ (.slice v.l 64 v.lc) 3 1 (ah dq)] [] λr' L'=>r'= .agg ⟨[.slice v.f 64 v.fc,.slice v.l 64 v.lc]⟩/\L'=[.aJ (.slice v.f 64 v.fc) 3 1 (ah (aV.set i (aV.getD i 0-1))),.aJ (.slice v.l 64 v.lc) 3 1 (ah (if aV.getD i 0-1=0 then dq.set i 0 else dq))]:=by
 have oo:(aV.set i (aV.getD i c9.lW-1)).getD i c9.lW=aV.getD i c9.lW-1:=by
  show(aV.set i _).getD i 0=_;rw[Pg.jV,if_pos ⟨rfl,af⟩]
 have Qs:(aV.set i (aV.getD i c9.lW-1)).length=64:=by rw[gZ];exact hf
 refine aO f150 ?_;(refine' cO)
 .rw[if_pos (show aV.getD i 0-1=0 from oo.symm.trans (by assumption))];(refine' qretl);rfl
 .rw[if_neg (show ¬aV.getD i 0-1=0 from λhx=>(by assumption:¬_) (oo.trans hx))];(refine' qretl);rfl
theorem Sh (s:St)(v:SA)(st:ak)(h:du 100000 st)(row:Int)(hr:0<=row/\row<64):eP aU aW 99 [fF v st,iv row] s [] v st (drop st row) true id:=by
 obtain⟨i,rfl⟩:=xI hr.1;have hi:i<64:=by omega
 have J6:=h.lr;have BG:=h.lf;have hll:=h.ll;have hb: -1000000<=st.aV.getD i c9.lW/\st.aV.getD i c9.lW<=1000000:=by
  have hb0: -(100000:Int)<=st.aV.getD i c9.lW/\st.aV.getD i c9.lW<=100000:=h.ref i;omega
 have hg:∀s,AJ 150 [.agg ⟨[.slice v.f 64 v.fc,.slice v.l 64 v.lc]⟩,iv i] s [.aJ (.slice v.f 64 v.fc) 3 1 (ah st.aV),.aJ (.slice v.l 64 v.lc) 3 1 (ah st.dq)] [] λr' L'=>r'= .agg ⟨[.slice v.f 64 v.fc,.slice v.l 64 v.lc]⟩/\L'=[.aJ (.slice v.f 64 v.fc) 3 1 (ah (st.aV.set i (st.aV.getD i 0-1))),.aJ (.slice v.l 64 v.lc) 3 1 (ah (if st.aV.getD i 0-1=0 then st.dq.set i 0 else st.dq))]:=λs=>SZ s v st.aV st.dq i BG hll hi hb
 have oo:(st.aV.set i (st.aV.getD i 0-1)).getD i c9.lW=st.aV.getD i 0-1:=by
  show(st.aV.set i _).getD i 0=_;rw[Pg.jV,if_pos ⟨rfl,af⟩]
 have Qs:(st.aV.set i (st.aV.getD i 0-1)).length=64:=by rw[gZ];exact BG
 by_cases hz:st.aV.getD i 0-1=0
 .have hd:drop st i={st with ep:=st.ep.set i [],aV:=st.aV.set i (st.aV.getD i 0-1),dq:=st.dq.set i 0}:=by
   unfold drop;simp only[tX,if_pos hz]
  rw[hd];simp only[if_pos hz] at hg;have hzd:decide ((st.aV.set i (st.aV.getD i 0-1)).getD i c9.lW=0)=true:=dO (oo.trans hz);refine aO f99 ?_;dsimp only[eM];(refine' zb108)
  (refine' dV)
  .rfl
  .intro hc;cases hc
 .have hd:drop st i={st with aV:=st.aV.set i (st.aV.getD i 0-1)}:=by
   unfold drop;simp only[tX,if_neg hz]
  rw[hd];simp only[if_neg hz] at hg;have hzd:decide ((st.aV.set i (st.aV.getD i 0-1)).getD i c9.lW=0)=false:=iO (λhx=>hz (oo.symm.trans hx));refine aO f99 ?_;dsimp only[eM];(refine' zb108)
  (refine' dV)
  .rfl
  .intro hc;cases hc
theorem GC (s:St)(v:SA)(st:ak)(h:du 100000 st)(p:iL)(hp:bw p=true):eP aU aW 174 [fF v st,pv p] s [] v st (free st p) true id:=by
 have gK:=h.gl;have tT:=h.dl;cases hh:aC p with
 |true=>
  rw[show free st p=st from Pg.z7 hh];refine aO f174 ?_;dsimp only[eM];(refine' Bj)
  (refine' dV)
  .rfl
  .intro hc;cases hc
 |false=>
  have hrg:=yN hp hh;have zD:free st p=if p.de<=st.ot then {st with eg:=st.eg++[p]} else if p.de<st.fE then {st with cG:=st.cG++[p]} else drop st p.row:=by
   unfold free;rw[if_neg (by rw[hh];simp)]
  rw[zD];by_cases h1:p.de<=st.ot
  .rw[if_pos h1];have h1d:=dO h1;refine aO f174 ?_;dsimp only[eM];(refine' Bj)
   (refine' qretmd)
   .rfl
   .intro hc;cases hc
  .rw[if_neg h1];have h1d:=iO h1;by_cases h2:p.de<st.fE
   .rw[if_pos h2];have h2d:=dO h2;refine aO f174 ?_;dsimp only[eM];(refine' Bj)
    (refine' qretmg)
    .rfl
    .intro hc;cases hc
   .rw[if_neg h2];have h2d:=iO h2;refine aO f174 ?_;dsimp only[eM];(repeat' (first|refine' aX|refine' Gt|refine' zc115|refine' ar|fail))
    (refine' dV)
    .rfl
    .intro hc;cases hc
def uR (st:ak)(l:cV)(level:Int)(old:iL):ak×iL×Bool:=match NB st l level old with
 |none=>(st,bq,false)
 |some (x,p)=>(x,p,true)
theorem xc {l:cV}(h4:l.length=4):((j8 l).getD []).length<=128:=by
 cases h:j8 l with
 |none=>simp
 |some s=>
  have:=(Pg.Ll h).2.2.2;subst this;exact(Pg.aau h4).1
theorem L1 (s:St)(v:SA)(st:ak)(h:du 100000 st)(a:aH)(c:Nat)(l:cV)(h4:l.length=4)(level:Int)(old:iL)(hr:bM s a l.length 5 (ah l))(hm:∀b∈ai a,b∉(eM v st).flatMap It.aS):
  eP aU aW 224 [fF v st,.slice a l.length c,iv level,pv old] s (ai a) v st (uR st l level old).1 false (wrV (uR st l level old).2.1 (uR st l level old).2.2):=by
 have hd:Rd ⟨s,(eM v st).flatMap It.aS,ai a⟩ a l.length 5 (ah l):=⟨hr,λb hb=>hb,hm⟩;have J6:=h.lr;have Bg:=xc h4;cases ha:l.all aC with
 |true=>
  have hf:uR st l level old=(st,bq,true):=by unfold uR NB;rw[ha];rfl
  rw[hf];refine aO f224 ?_;dsimp only[eM] at hd⊢;(repeat' (first|refine' aX|refine' V2|refine' ar|fail))
  (refine' dV)
  .rfl
  .exact λ_=>rfl
 |false=>
  by_cases hc:(!aC old&&fits old ((j8 l).getD [])&&decide (rwAt st old=(j8 l).getD []))=true
  .have hf:uR st l level old=(st,old,true):=by unfold uR NB;rw[ha];simp only[jH,oV];rw[if_pos hc]
   rw[hf];simp only[cv,pG,cl] at hc;obtain⟨⟨h1,h2⟩,h3⟩:=hc;have Jt:bw old=true:=by simp[fits] at h2;exact h2.1.1.1
   have hrg:=yN Jt h1;have h3d:decide (st.ep.getD old.row.toNat c9.lW=(j8 l).getD [])=true:=dO h3;have hhd:(!aC old)=true:=by rw[h1];rfl
   refine aO f224 ?_;dsimp only[eM] at hd⊢;(repeat' (first|refine' aX|refine' V2|refine' zc117|refine' Gt|refine' zc39|refine' ar|fail))
   (refine' dV)
   .rfl
   .exact λ_=>rfl
  .have hf:uR st l level old=wr st ((j8 l).getD []) level:=by unfold uR NB wr;rw[ha];simp only[jH,oV];rw[if_neg hc];try rfl
   rw[hf];have hrg:aC old=false->fits old ((j8 l).getD [])=true->8<=old.row/\old.row<=63:=λh1 h2=>yN (by simp[fits] at h2;exact h2.1.1.1) h1
   cases hh:aC old with
   |true=>
    have hhd:(!aC old)=false:=by rw[hh];rfl
    refine' za1
    .rfl
    .exact zU
   |false=>
    have hhd:(!aC old)=true:=by rw[hh];rfl
    cases PQ:fits old ((j8 l).getD []) with
    |false=>
     refine' za1
     .rfl
     .exact zU
    |true=>
     have hrg:=hrg hh PQ;have h3d:decide (st.ep.getD old.row.toNat c9.lW=(j8 l).getD [])=false:=by
      rw[lD];intro hx;apply hc;rw[hh,PQ];exact dO hx
     refine' za1
     .rfl
     .exact zU
end Go.Pl
namespace Go.Pl
open Go Go.Ev Go.Lg Go.Proofs
variable {i:Nat}{level:Int}{t:bX}{L was stays out:cV}
theorem oD {α:Type}{l:List α}{x y:α}(h:y∈l.set i x):y∈l\/y=x:=by
 rcases Pp h with h|h
 .exact .inl h
 .exact .inr h
theorem du.aZ {n:Nat}{st cQ:ak}{s:ay}{p:iL}(h:du n st)(hs:s.length<=3000)(hw:aZ st s level=some (cQ,p)):du (n+1) cQ/\bw p=true/\cQ.cG=st.cG/\cQ.eg=st.eg:=by
 unfold Go.Pl.aZ at hw;split at hw
 .cases hw
 .rename_i i _;split at hw
  .cases hw
  .rename_i q hq;cases hw
   have hr:=h.ref i;have ht:=h.tx;have hk:=h.kp;refine⟨⟨by simp[h.lr],by simp[h.lf],by simp[h.ll],λx hx=>?_,λx hx=>?_,by show 1<=st.fE/\st.fE<=_;omega,by show 0<=st.ot/\st.ot<=_;omega,by have:=h.gl;show st.cG.length<=_;omega,by have:=h.dl;show st.eg.length<=_;omega,h.gr⟩,(Pg.Dt hq).2.2.2,rfl,rfl⟩
   .rcases oD hx with hx|rfl
    .exact h.rw x hx
    .exact hs
   .rcases oD hx with hx|rfl
    .have:=h.rf x hx;omega
    .omega
theorem du.drop {n:Nat}{st:ak}{row:Int}(h:du n st):du (n+1) (drop st row):=by
 have hr:=h.ref row.toNat;have ht:=h.tx;have hk:=h.kp;unfold Go.Pl.drop;refine⟨?_,by simp[h.lf],?_,λx hx=>?_,λx hx=>?_,by show 1<=st.fE/\st.fE<=_;omega,by show 0<=st.ot/\st.ot<=_;omega,by have:=h.gl;show st.cG.length<=_;omega,by have:=h.dl;show st.eg.length<=_;omega,h.gr⟩
 .dsimp only;split<;>simp[h.lr]
 .dsimp only;split<;>simp[h.ll]
 .dsimp only at hx;split at hx
  .rcases oD hx with hx|rfl
   .exact h.rw x hx
   .simp
  .exact h.rw x hx
 .dsimp only at hx;rcases oD hx with hx|rfl
  .have:=h.rf x hx;omega
  .omega
theorem du.free {n:Nat}{st:ak}{p:iL}(h:du n st)(hp:bw p=true):du (n+1) (free st p):=by
 unfold Go.Pl.free;split
 .exact h.mono af
 .rename_i hh;have hrg:=yN hp (by simpa using hh);split
  .exact⟨h.lr,h.lf,h.ll,h.rw,λx hx=>by have:=h.rf x hx;omega,by have:=h.tx;show 1<=st.fE/\st.fE<=_;omega,by have:=h.kp;show 0<=st.ot/\st.ot<=_;omega,by have:=h.gl;show st.cG.length<=_;omega,by have:=h.dl;show(st.eg++[p]).length<=_;rw[bR,Au];omega,h.gr⟩
  .split
   .refine⟨h.lr,h.lf,h.ll,h.rw,λx hx=>by have:=h.rf x hx;omega,by have:=h.tx;show 1<=st.fE/\st.fE<=_;omega,by have:=h.kp;show 0<=st.ot/\st.ot<=_;omega,by have:=h.gl;show(st.cG++[p]).length<=_;rw[bR,Au];omega,by have:=h.dl;show st.eg.length<=_;omega,λq hq=>?_⟩;rcases fJ.1 hq with hq|hq
    .exact h.gr q hq
    .have:q=p:=by simpa using hq
     subst this;omega
   .exact h.drop
theorem du.dB {st:ak}:∀{n:Nat}(l:cV){st:ak},du n st->(∀p∈l,bw p=true)->du (n+l.length) (dB l st)
 |n,[],st,h,_=>h
 |n,p::l,st,h,hp=>by
  have:=du.dB (st:=st) l (h.free (hp p (by simp))) (λx hx=>hp x (by simp[hx]));rw[dh,show n+(l.length+1)=n+1+l.length by omega];exact this
theorem Xl {n:Nat}{st:ak}{l:cV}{old:iL}(h:du n st)(h4:l.length=4):du (n+1) (uR st l level old).1/\(uR st l level old).1.cG=st.cG/\(uR st l level old).1.eg=st.eg:=by
 unfold uR;cases hf:NB st l level old with
 |none=>exact⟨h.mono af,rfl,rfl⟩
 |some r=>
  obtain⟨cQ,p⟩:=r;unfold NB at hf;simp only;split at hf
  .cases hf;exact⟨h.mono af,rfl,rfl⟩
  .simp only at hf;split at hf
   .cases hf;exact⟨h.mono af,rfl,rfl⟩
   .have:=h.aZ (by have:=xc h4;omega) hf;exact⟨this.1,this.2.2⟩
theorem L3 {st:ak}(ht:bw t.cC=true):(fH st t).length<=5/\∀p∈fH st t,bw p=true:=by
 unfold fH;split
 .simp
 .split
  .have hb:=Ac (st:=st) (p:=t.cC) (n:=2);have hf:=B9 (λp=>!aC p) ((below st t.cC 2).getD []);refine⟨by rw[dh];omega,λp hp=>?_⟩;rcases bV.1 hp with rfl|hp
   .exact ht
   .have hp:=(vR.1 hp).1;cases Ou:below st t.cC 2 with
    |none=>rw[Ou] at hp;cases hp
    |some w=>rw[Ou] at hp;exact(Pg.iA Ou).2.1 p (by simpa using hp)
  .refine⟨by simp,λp hp=>?_⟩;have:p=t.cC:=by simpa using hp
   rw[this];exact ht
theorem S0 {st:ak}{depth level:Int}(hd:depth=1\/depth=2):(level=depth->1<=(iE st t depth level).length)/\(level≠depth->(iE st t depth level).length=4)/\(iE st t depth level).length<=4:=by
 unfold iE;split
 .exact⟨λ_=>by simp[cY],λ_=>by simp[cY],by simp[cY]⟩
 .split
  .exact⟨λ_=>by simp,λh=>by contradiction,by simp⟩
  .have:((below st t.cC depth).getD (cY 4)).length=4:=by
    cases hb:below st t.cC depth with
    |none=>simp[cY]
    |some w=>simpa using(Pg.iA hb).1
   exact⟨λ_=>by omega,λ_=>this,af⟩
theorem L4 {st:ak}(h:4*i+4<=L.length)(hw:i<was.length):ka level (L.drop (4*i)) (was.drop i) st stays out=match NB st ((L.drop (4*i)).take 4) level (was.getD i c9.lW) with
  |none=>(st,none)
  |some (x,p)=>ka level (L.drop (4*(i+1))) (was.drop (i+1)) x (if p=was.getD i c9.lW then stays++[p] else stays) (out++[p]):=by
 obtain⟨a,b,c,d,r,hr⟩:∃a b c d r,L.drop (4*i)=a::b::c::d::r:=by
  have hl:(L.drop (4*i)).length=L.length-4*i:=gp
  match hh:L.drop (4*i),hl with
  |a::b::c::d::r,_=>exact⟨a,b,c,d,r,rfl⟩
  |[],hl=>simp at hl;omega
  |[a],hl=>simp at hl;omega
  |[a,b],hl=>simp at hl;omega
  |[a,b,c],hl=>simp at hl;omega
 have nW:L.drop (4*(i+1))=r:=by
  rw[show 4*(i+1)=4*i+4 by omega,<-lZ,hr];rfl
 rw[nW,hr,drop_cons hw,ka];simp only[List.headD_cons,List.tail_cons,x_5,List.take_zero];cases NB st [a,b,c,d] level (was.getD i c9.lW) with
 |none=>rfl
 |some r=>rfl
theorem DX {st:ak}(h:L=[]):ka level L was st stays out=(st,some (stays,out)):=by
 subst h;rw[ka];intros;contradiction
theorem AY (l:cV):(eY l).length% 4=0/\l.length<=(eY l).length/\(eY l).length<l.length+4:=by
 unfold eY;rw[bR];simp only[cY,rC];omega
end Go.Pl
namespace Go.Pl
open Go Go.Ev Go.Lg Go.Proofs
def Xm (o:Option bX):Value->Value:=λV=>.tuple ⟨[V,tv (o.getD eX),.bool o.isSome]⟩
theorem Hd (l:cV)(x y:iL):(l++[x]).contains y=(l.contains y||decide (x=y)):=by
 rw[oL,mC,List.contains_iff_mem,List.contains_iff_mem,fJ,iN,cl];constructor
 .rintro(h|h)
  .exact .inl h
  .exact .inr h.symm
 .rintro(h|h)
  .exact .inl h
  .exact .inr h.symm
end Go.Pl
