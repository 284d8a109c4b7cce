/- Lemmas of the proof. No conditions. -/
import Derived.Test.YtoiielhpadnflaaGreatDoorAe1
set_option maxRecDepth 100000
set_option maxHeartbeats 4000000
set_option linter.unusedVariables false
set_option linter.unusedSimpArgs false
open Go.Proofs.Tryz
namespace Go.Pl
open Go Go.Ev Go.Lg Go.Proofs
variable {L R:dy}{v:SA}{b:Nat}{st:ar}{a:aS}{p q:List bE}{i:Nat}
theorem Uo {n:Nat}{st:ar}{t:cB}{q:Nat}(h:dv n st)(hn:n<=90000)(ht:dZ t)(hq:q<16){o:c9}(ho:qq 200 st [((ji st t q).getD bA).a6.cG] []=some o)(QQ:o.length<=1000)(og:∀p∈o,bB p=true):dv (n+1100) (gg st t q).1/\dZ (gg st t q).2.1:=by
 have Kw:xC st ((ji st t q).getD bA).a6=o:=by unfold xC;rw[ho];rfl
 have hD:=MW h af ht q;have h1:=dv.dC (st:=st) o h og;have bU:=nG (k:=q) (z:=[]) h1 ht hq ay;unfold gg;simp only[Kw,uM];rcases hp:nK (dC o st) t q [] with⟨eI,t2,ok⟩
 rw[hp] at bU;cases ok with
 |false=>exact⟨bU.1.mono af,bU.2.1⟩
 |true=>
  have:=zE (many:=(ri st t q:Nat)) bU.1 bU.2.1 af;exact⟨this.1.mono af,this.2.1⟩
theorem Up (s:St)(b:Nat)(v:SA)(st:ar)(t:cB)(h:dv 40000 st)(ht:dZ t)(pf:Pg.FS st t)(z:aC)(hz:z.length<=90000)(hp:aT z=true):
  mO bf bw 100 [bk b,sv z] s b v ⟨st,t,false⟩ (Fs.qu ⟨st,t,false⟩ z).1 (iv (Fs.qu ⟨st,t,false⟩ z).2):=by
 have u6:dv 100000 st:=h.mono af;have dP:Fs.qu ⟨st,t,false⟩ z=if Fs.db ⟨st,t,false⟩ z<0 then(⟨st,t,false⟩,2) else if Fs.db ⟨st,t,false⟩ z=0\/((Fs.node ⟨st,t,false⟩ (Fs.db ⟨st,t,false⟩ z)).kind=2/\0<(Fs.node ⟨st,t,false⟩ (Fs.db ⟨st,t,false⟩ z)).size) then(⟨st,t,false⟩,5) else
   (let f1:=Fs.bh ⟨st,t,false⟩ (Fs.bP ⟨st,t,false⟩ z).1 (ek (Fs.bG ⟨st,t,false⟩ (Fs.bP ⟨st,t,false⟩ z).1) ((ey (Fs.bG ⟨st,t,false⟩ (Fs.bP ⟨st,t,false⟩ z).1) (Fs.base z)).getD 0))
    let n1:iE:={Fs.node ⟨st,t,false⟩ (Fs.db ⟨st,t,false⟩ z) with bF:=(Fs.node ⟨st,t,false⟩ (Fs.db ⟨st,t,false⟩ z)).bF-1}
    if 0<n1.bF then(f1.put (Fs.db ⟨st,t,false⟩ z) n1,0) else if f1.cq then(f1,0) else match gg f1.st f1.t (Fs.db ⟨st,t,false⟩ z) with
     |(eI,t2,ok)=>((⟨eI,t2,!ok⟩,0):Fs×Int)):=rfl
 obtain⟨G,l0,q0,hF,hG⟩:=pf;have Oe:∀s,lI s b v ⟨st,t,false⟩->bL 154 [bk b,sv z] s (ua b v) (iv (Fs.db ⟨st,t,false⟩ z)):=λs hr=>qc s b v ⟨st,t,false⟩ u6 ht z hz hp hr
 by_cases h1:Fs.db ⟨st,t,false⟩ z<0
 .rw[if_pos h1] at dP;rw[dP];generalize Fs.db ⟨st,t,false⟩ z=w at *
  refine aX f100 ?_;dsimp only[kh,eK];repeat' (first|refine' aZ|refine' ux|refine' av|fail)
  all_goals try exact pE
  refine mY (v':=v) cy bY au rfl
 .rw[if_neg h1] at dP;obtain⟨k,e1,e2⟩:=Pg.iy hF h1;obtain⟨ei,qT⟩:=Pg.jn hG e2;have hk:k<16:=(hF.lt qT).2;have D9:Fs.node ⟨st,t,false⟩ (k:Int)=ei.n:=by rw[Pg.nC hF,qT];rfl
  rw[e1,D9] at dP;rw[e1] at Oe;have pR:∀s,lI s b v ⟨st,t,false⟩->bL 155 [bk b,iv k] s (ua b v) (nv ei.n):=λs hr=>by rw[<-D9];exact tU s b v ⟨st,t,false⟩ u6 ht k af hr
  by_cases h2:(k:Int)=0\/(ei.n.kind=2/\0<ei.n.size)
  .rw[if_pos h2] at dP;rw[dP];clear h1 e1;refine aX f100 ?_;dsimp only[kh,eK];refine' RE
   (all_goals try exact pE);all_goals refine mY (v':=v) cy bY au rfl
  .rw[if_neg h2] at dP;have SO:k≠0:=λhc=>h2 (.inl af)
   obtain⟨at_,e,i,p1,p2,p3,p4,p5,p6,p7,p8⟩:=Pg.sG hF hG e2 SO;have jw:Fs.bG ⟨st,t,false⟩ (at_:Int)=e.es:=Pg.mf hF false p3 p4;have tw:bC e.es=true:=by have:=Pg.pM hG.wf at_;rwa [Pg.dR p3] at this
   have zh:=Pg.JB tw (Pg.jm e.es i);have PY:at_<16:=(hF.lt p3).2;rw[p1] at dP;simp only at dP;rw[jw,p5,qd] at dP;obtain⟨aiZ,heb⟩:=YW tw;obtain⟨anb,alP⟩:=YW zh;have Dc:Pg.bG G k=[]:=by
    rw[Pg.dR qT];obtain⟨ln,qn,hq,⟨h0,_⟩|hd⟩:=((hF.at_ k).some qT).2
    .exact h0
    .have iX:=hd.sz;have V0:=hd.kd;have:ei.es=[]:=by
      by_cases hc:ei.es=[]
      .exact hc
      .have h3:=(Pg.l8 hd.eo).2 hc;exact absurd (.inr ⟨V0,af⟩) h2
     exact this
   refine' zbd
   have sS:∀s,lI s b v ⟨st,t,false⟩->bL 156 [bk b,sv z] s (ua b v) (.tuple ⟨[iv at_,iv 0]⟩):=λs hr=>by
    have:=ub s b v ⟨st,t,false⟩ u6 ht z hz hp hr;rwa [p1] at this
   have Wp:∀s,lI s b v ⟨st,t,false⟩->eu bf bw 149 [bk b,iv at_] s (ua b v) 198 e.es:=λs hr=>by
    refine' zbc
   have aik:∀a c s,bM s a e.es.length 2 (ai e.es)->bL 158 [.slice a e.es.length c,sv (Fs.base z)] s (aj a) (iv i):=λa c s hr=>by
    have:=Eu s a c e.es (Fs.base z) af hr;unfold Yt at this;rw[p5] at this;exact this
   have ail:∀a c s,bM s a e.es.length 2 (ai e.es)->w6 s a e.es.length c 198 2->eu bf bw 157 [.slice a e.es.length c,iv i] s (aj a) 198 (ek e.es i):=λa c s hr hv=>EH s a c e.es i af p6 hr hv
   have mZ:∀dH a c s,bM s a (ek e.es i).length 2 (ai (ek e.es i))->(∀j∈aj a,j∉(kh b dH ⟨st,t,false⟩).flatMap It.cr)->FC 151 [bk b,iv at_,.slice a (ek e.es i).length c] s (kh b dH ⟨st,t,false⟩) (aj a) λR L=>∃v':SA,R= .tuple ⟨[]⟩/\L=kh b v' (Fs.bh ⟨st,t,false⟩ at_ (ek e.es i)):=λdH a c s hr hm=>
    oB s b dH ⟨st,t,false⟩ ⟨h.mono af,ht⟩ at_ PY a c (ek e.es i) af alP hr hm
   have Ct:sK 40630 (Fs.bh ⟨st,t,false⟩ at_ (ek e.es i)):=sK.bh (n:=40000) ⟨h,ht⟩ af _;have jM:(Fs.bh ⟨st,t,false⟩ at_ (ek e.es i)).cq=false->∃o,qq 200 (Fs.bh ⟨st,t,false⟩ at_ (ek e.es i)).st [((ji (Fs.bh ⟨st,t,false⟩ at_ (ek e.es i)).st (Fs.bh ⟨st,t,false⟩ at_ (ek e.es i)).t k).getD bA).a6.cG] []=some o/\o.length<=1000/\∀p∈o,bB p=true:=λhf=>by
    obtain⟨e',l1,q1,yu,g1,g2,g3⟩:=Pg.oW hF p3 p4 zh hf;exact yu.all (k:=k) (e:=ei) (by rw[Pg.fN _ _ (λh=>pD h.symm)];exact qT)
   generalize YF:Fs.bh ⟨st,t,false⟩ at_ (ek e.es i)=f1 at *
   obtain⟨st1,t1,zi⟩:=f1;have hs2:=Ct.st;have ht2:=Ct.t;simp only at hs2 ht2 jM dP;have dD:∀(dH:SA) s,mO bf bw 150 [bk b,iv k,nv {ei.n with bF:=ei.n.bF-1}] s b dH ⟨st1,t1,zi⟩ (Fs.put ⟨st1,t1,zi⟩ k {ei.n with bF:=ei.n.bF-1}) (.tuple ⟨[]⟩):=λdH s=>sJ s b dH ⟨st1,t1,zi⟩ (hs2.mono af) ht2 k hk _
   have LX: -1000<=ei.n.bF/\ei.n.bF<=1000:=by
    have:=Pg.kZ ((hF.at_ k).some qT).2.ok;omega
   generalize hfp:Fs.put ⟨st1,t1,zi⟩ k {ei.n with bF:=ei.n.bF-1}=f2 at *
   clear h1 e1 YF hfp;by_cases hl:0<ei.n.bF-1
   .rw[if_pos hl] at dP;rw[dP];refine aX f100 ?_;dsimp only[kh,eK];repeat' (first|refine' aZ|refine' ux|refine' zu|refine' X3|refine' BI|refine' Ey|refine' Mr|refine' Ms|refine' Mt|refine' HH|refine' av|fail)
    (all_goals try refine cI);all_goals refine mY (v':=pN) cy bY au rfl
   .rw[if_neg hl] at dP;cases Na:zi with
    |true=>
     rw[Na,if_pos rfl] at dP;rw[dP];subst Na;refine aX f100 ?_;dsimp only[kh,eK];(repeat' (first|refine' aZ|refine' ux|refine' zu|refine' X3|refine' BI|refine' Ey|refine' Mr|refine' Ms|refine' Mt|refine' av|fail));all_goals refine' zaD
    |false=>
     rw[Na,if_neg bT] at dP;obtain⟨o,ho,QQ,og⟩:=jM Na;subst Na;rcases pL:gg st1 t1 k with⟨eI,t2,ok⟩
     have alQ:∀(dH:SA) s,eO bf bw 159 [fI dH st1,tv t1,iv k] s [] dH st1 eI true (Ch t2 ok):=λdH s=>by
      have:=PK s dH st1 (hs2.mono af) t1 ht2 k hk o ho QQ og;rw[pL] at this;exact this
     rw[pL] at dP;simp only at dP;rw[dP];refine aX f100 ?_;dsimp only[kh,eK];(repeat' (first|refine' aZ|refine' ux|refine' zu|refine' X3|refine' BI|refine' Ey|refine' Mr|refine' Ms|refine' Mt|((with_reducible apply WO.nE);exact aD;exact λs=>alQ _ s;exact dU;intro _ _ PZ _ _ afB)|refine' av|fail));(all_goals try refine cI);all_goals refine mY (v':=PZ) cy bY au rfl
theorem BW {n:Nat}{u:iE}{z:aC}{a b:Nat}(h:dv n st)(hu:j6 u)(hz:z.length<=1000)(hb:b<16):dv (n+510) (gC st u z a b).1/\j6 (gC st u z a b).2.1:=by
 unfold gC;by_cases lS:a<=b+1
 .have:=xa z (b+1-a) a n st {u with size:=z.length} h ⟨hu.tr,⟨KE _,by show(z.length:Int)<=10000;omega⟩⟩ af;exact⟨this.1.mono af,this.2⟩
 .rw[show b+1-a=0 by omega];exact⟨h.mono af,⟨hu.tr,⟨KE _,by show(z.length:Int)<=10000;omega⟩⟩⟩
theorem xe {n:Nat}{u:iE}{z:aC}{a:Nat}(h:dv n st)(hu:j6 u)(ha:a+z.length<=192)(hf:(bD st u).length<=192):dv (n+600) (fF st u a z).1/\j6 (fF st u a z).2.1:=by
 have hov:(jE (bD st u) a z).length<=192:=by
  unfold jE mI;simp only[bn,cO,eP,sX];omega
 unfold fF;split
 .exact⟨h.mono af,hu⟩
 .rename_i hz;have hzl:0<z.length:=nO.2 hz;have:=BW (a:=a/ 12) (b:=(a+z.length-1)/ 12) h hu (show(jE (bD st u) a z).length<=1000 by omega) af;exact⟨this.1.mono af,this.2⟩
theorem BX {n:Nat}{u:iE}{a:Nat}(h:dv n st)(hu:j6 u)(ha:a<=192)(hf:(bD st u).length<=192):dv (n+600) (fq st u a).1/\j6 (fq st u a).2.1:=by
 have hp:0<=dn a 12/\dn a 12<=16:=by unfold dn;omega
 have FA:j6 {u with size:=(a:Int)}:=⟨hu.tr,⟨KE _,by show(a:Int)<=10000;omega⟩⟩;unfold fq;simp only;split
 .split
  .exact⟨h.mono af,FA⟩
  .have bU:=nG (k:=(dn a 12-1).toNat) (z:=[]) h hu.tr af ay;rcases uJ:nK st u.a6 (dn a 12-1).toNat [] with⟨eI,t2,ok⟩
   rw[uJ] at bU;exact⟨bU.1.mono af,FA.a6 bU.2.1⟩
 .have bU:=zE (many:=dn a 12) h hu.tr hp;rcases TO:tE st u.a6 (dn a 12) with⟨eI,t2,ok⟩
  rw[TO] at bU;cases ok with
  |false=>exact⟨bU.1.mono af,hu⟩
  |true=>
   simp only;have GW:j6 {u with a6:=t2,size:=(a:Int)}:=⟨bU.2.1,⟨KE _,by show(a:Int)<=10000;omega⟩⟩;split
   .exact⟨bU.1.mono af,GW⟩
   .have:=BW (a:=(dn a 12-1).toNat) (b:=(dn a 12-1).toNat) bU.1 GW (show((bD st u).take a).length<=1000 by rw[cO];omega) af;exact⟨this.1.mono af,this.2⟩
end Go.Pl
