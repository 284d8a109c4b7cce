/- Lemmas of the proof. No conditions. -/
import Derived.Test.YtajgfdfbnhchcaaGreatDoorAe1
set_option maxRecDepth 100000
set_option maxHeartbeats 4000000
set_option linter.unusedVariables false
set_option linter.unusedSimpArgs false
open Go.Proofs.Tryz
namespace Go.Pl
open Go Go.Ev Go.Lg Go.Proofs
theorem HS (s:St)(v:SA)(st:ar)(h:dv 70000 st)(hn:st.cI.length<=30000):eQ a8 bj 77 [fD v st] s [] v st (next st) true id:=by
 rw[abz];refine aU f77 ?_;dsimp only[eO];(refine' cU)
 refine W.bN (λk l L=>∃(i:Nat)(y:ar)(v':SA)(b1 b2:Nat),Le [(1,bc b1),(2,bc b2),(3,iv i)] l/\cz [.box b1 (rP v' y) 81 false,.box b2 [eW,eW,eW,cb,eW,cb,eW,.bool false] 81 false,.aN (.slice v'.r 64 v'.rc) 9 1 (ai y.er),.aN (.slice v'.f 64 v'.fc) 3 1 (ai y.aX),.aN (.slice v'.l 64 v'.lc) 3 1 (ai y.dm),.aN (.slice v'.g y.cI.length v'.gc) 83 5 (ai y.cI),.aN (.slice v'.d y.ej.length v'.dc) 83 5 (ai y.ej)] L/\k=st.cI.length-i/\i<=st.cI.length/\dv (70000+i) y/\y.cI=st.cI/\y.fC=st.fC/\st.cI.foldl (λst p=>drop st p.row) st=(st.cI.drop i).foldl (λst p=>drop st p.row) y)
  (λl L=>∃(y:ar)(v':SA)(b1 b2:Nat),Le [(1,bc b1),(2,bc b2)] l/\cz [.box b1 (rP v' y) 81 false,.box b2 [eW,eW,eW,cb,eW,cb,eW,.bool false] 81 false,.aN (.slice v'.r 64 v'.rc) 9 1 (ai y.er),.aN (.slice v'.f 64 v'.fc) 3 1 (ai y.aX),.aN (.slice v'.l 64 v'.lc) 3 1 (ai y.dm),.aN (.slice v'.d y.ej.length v'.dc) 83 5 (ai y.ej)] L/\dv 100000 y/\y.fC=st.fC/\st.cI.foldl (λst p=>drop st p.row) st=y) st.cI.length ⟨0,st,v,_,_,bk,au,ag,ag,h,rfl,rfl,rfl⟩ ?_ ?_
 .rintro k l L ⟨i,y,v',b1,b2,hl,hL,rfl,hi,hy,hyg,hyt,hf⟩;refine W.le ?_ hl hL;clear hl hL;have UN:dv 100000 y:=hy.mono ag;have gL:y.cI.length=st.cI.length:=by rw[hyg]
  by_cases ua:i<st.cI.length
  .have yR:0<=(y.cI.getD i ak.ah).row/\(y.cI.getD i ak.ah).row<64:=hy.gr _ (aJ ag _);rw[drop_cons ua,wi] at hf;(repeat' (first|refine' a7|refine' acr|refine' aw|fail))
   all_goals try exact pq
   refine⟨_,?_,i+1,_,WJ,_,_,bk,au,rfl,ag,hy.drop,hyg,hyt,?_⟩
   .omega
   .rw[hf,hyg]
  .have fE:i=st.cI.length:=by omega
   subst fE;rw[iD] at hf;(refine' cU)
   all_goals try exact pq
   exact⟨y,v',_,_,bk,au,UN,hyt,hf⟩
 .rintro l L ⟨y,v',b1,b2,hl,hL,hy,hyt,hf⟩;refine aq ?_;refine W.le ?_ hl hL;clear hl hL;have Br:=hy.tx;rw[hf,<-hyt];(refine' cU)
  refine qK (v':=⟨v'.r,v'.rc,v'.f,v'.fc,v'.l,v'.lc,some ⟨bl,0,none⟩,0,v'.d,v'.dc⟩) bB bn au ?_ (λhc=>(by cases hc));rfl
theorem aiL (i:Nat):(List.replicate 64 (0:Int)).getD i ak.ah=0:=by
 rw[aR,U1];split<;>rfl
theorem aiM (i:Nat):(List.replicate 64 ([]:aA)).getD i ak.ah=[]:=by
 rw[aR,U1];split<;>rfl
theorem MW (s:St)(v:SA)(same:Bool)(hr:cK s v (bT same)):bP 148 [.agg ⟨[.slice v.f 64 v.fc,.slice v.l 64 v.lc]⟩] s (iH v) (.bool true):=by
 have uj:=Rd.off hr;have uq:=Rd.Cr hr;have e1:(bT same).aX=List.replicate 64 0:=rfl;have e2:(bT same).dm=List.replicate 64 0:=rfl;rw[e1] at uj;rw[e2] at uq;have hl:(List.replicate 64 (0:Int)).length=64:=by simp
 refine aU f148 ?_;(refine' cU)
 all_goals try refine cM
 refine W.bN (λk l L=>∃(i b1:Nat),Le [(1,bc b1),(3,iv (i:Int))] l/\cz [.box b1 [.slice v.f 64 v.fc,.slice v.l 64 v.lc] 78 false] L/\k=64-i/\i<=64) (λl L=>True) _ ⟨0,_,bk,au,rfl,ag⟩ ?_ ?_
 .rintro k l L ⟨i,b1,sS,hL,rfl,h1⟩;refine W.le ?_ sS hL;clear sS hL;have z1:=aiL i;generalize List.replicate 64 (0:Int)=q at *
  have p1:(!fR (q.getD i ak.ah) 0 900)=false:=by rw[z1];rfl
  have p2:(!fR (q.getD i ak.ah) 0 (q.getD i ak.ah))=false:=by rw[z1];rfl
  (repeat' (first|refine' a7|refine' NI|refine' zc3|refine' aw|fail))
  all_goals try refine cM
  all_goals first|trivial|exact⟨_,ag,i+1,_,bk,au,rfl,ag⟩
 .rintro l L _;refine aq ?_;refine W.le ?_ (Le.nil _) (cz.nil _);(refine' cU)
  (refine' ax)
  rfl
theorem MX (s:St)(v:SA)(same:Bool)(hr:cK s v (bT same)):bP 109 [fD v (bT same)] s (iH v) (.bool true):=by
 have tL:=Rd.Eg hr;have uj:=Rd.off hr;have uq:=Rd.Cr hr;have e0:(bT same).er=List.replicate 64 []:=rfl;have e1:(bT same).aX=List.replicate 64 0:=rfl;have e2:(bT same).dm=List.replicate 64 0:=rfl;have e3:(bT same).fC=1:=rfl;have e4:(bT same).oL=0:=rfl;have e5:(bT same).cI=[]:=rfl;have e6:(bT same).ej=[]:=rfl;rw[e0] at tL;rw[e1] at uj;rw[e2] at uq;unfold fD rP;rw[e3,e4,e5,e6];have hl:(List.replicate 64 (0:Int)).length=64:=by simp
 have KF:(List.replicate 64 ([]:aA)).length=64:=by simp
 have p0:(!fR 1 1 900)=false:=rfl;have p3:(!fR 0 0 (1-1))=false:=rfl;have YA:∀s,cK s v (bT same)->bP 148 [.agg ⟨[.slice v.f 64 v.fc,.slice v.l 64 v.lc]⟩] s (iH v) (.bool true):=λs hr=>MW s v same hr
 refine aU f109 ?_;(repeat' (first|refine' a7|((with_reducible apply WO.mj);exact aE;(first|exact λs hr=>YA s hr);exact eC;intro _ _ _ _)|refine' NI|refine' aw|fail))
 all_goals try refine cM
 refine W.bN (λk l L=>∃(i b1:Nat),Le [(1,bc b1),(3,iv (i:Int))] l/\cz [.box b1 [.slice v.r 64 v.rc,.slice v.f 64 v.fc,.slice v.l 64 v.lc,iv 1,.slice v.g ([]:cW).length v.gc,iv 0,.slice v.d ([]:cW).length v.dc,.bool same] 81 false] L/\k=64-i/\i<=64)
  (λl L=>∃(b1:Nat),Le [(1,bc b1)] l/\cz [.box b1 [.slice v.r 64 v.rc,.slice v.f 64 v.fc,.slice v.l 64 v.lc,iv 1,.slice v.g ([]:cW).length v.gc,iv 0,.slice v.d ([]:cW).length v.dc,.bool same] 81 false] L) _ ⟨0,_,bk,au,rfl,ag⟩ ?_ ?_
 .rintro k l L ⟨i,b1,sS,hL,rfl,h1⟩;refine W.le ?_ sS hL;clear sS hL;have z1:=aiL i;have z2:=aiM i;have z3:((List.replicate 64 ([]:aA)).getD i ak.ah).length=0:=by rw[z2];rfl
  generalize List.replicate 64 (0:Int)=q at *
  generalize List.replicate 64 ([]:aA)=qs at *
  have p1:(decide (qs.getD i ak.ah=[]) != decide (q.getD i ak.ah=0))=false:=by rw[z1,z2];rfl
  (refine' cU)
  all_goals try refine cM
  .exact⟨_,ag,i+1,_,bk,au,rfl,ag⟩
  .exact⟨_,bk,au⟩
 .rintro l L ⟨b1,sS,hL⟩;refine aq ?_;refine W.le ?_ sS hL;clear sS hL;(refine' cU)
  refine W.bN (λk l L=>∃(b1:Nat),Le [(1,bc b1),(5,cb)] l/\cz [.box b1 [.slice v.r 64 v.rc,.slice v.f 64 v.fc,.slice v.l 64 v.lc,iv 1,.slice v.g ([]:cW).length v.gc,iv 0,.slice v.d ([]:cW).length v.dc,.bool same] 81 false] L/\k=0)
   (λl L=>True) _ ⟨_,bk,au,rfl⟩ ?_ ?_
  .rintro k l L ⟨b1,sS,hL,rfl⟩;refine W.le ?_ sS hL;clear sS hL;have x7:(([]:cW).length:Int)=0:=rfl;(refine' cU)
   all_goals try refine cM
   all_goals trivial
  .rintro l L _;refine aq ?_;refine W.le ?_ (Le.nil _) (cz.nil _);(refine' cU)
   (refine' ax)
   rfl
end Go.Pl
namespace Go.Pg
open Go.Pl
section
variable {st:ar}{t:bX}{l q:cW}
theorem ES:∀(f:Nat)(st:ar)(l out o:cW),qc f st l out=some o->o.length<=out.length+f
 |0,_,_,_,_,h=>by cases h
 |f+1,st,[],out,o,h=>by cases h;omega
 |f+1,st,p::l,out,o,h=>by
  rw[qc] at h;split at h
  .have:=ES f _ _ _ _ h;omega
  .have:=ES f _ _ _ _ h;rw[bJ] at this;simp only[cY,mJ] at this;omega
theorem TV (h:qM st t l q):∃o,qc 200 st [t.cy] []=some o/\o.length<=200/\o.Perm (cG l q):=by
 have hp:=Jk h;obtain⟨a,h1,h2⟩:=h.lv;have hd:=fq t.many;obtain⟨c,D,h3,h4,h5⟩:=Jj t.depth.toNat [t.cy] h1 (λp hp hh=>h.l0 p (by rw[h2];simp[hp]) hh);have hc:c<=125:=by
  refine' zaV
 have:=h5 (200-c) [] [];rw[show c+(200-c)=(199-c)+(c+1) by omega,ix] at this;obtain⟨g,hg⟩:∃g,200-c=g+1:=⟨199-c,ag⟩;rw[hg,qc] at this;rw[show(199-c)+(c+1)=200 by omega] at this;refine⟨_,this,?_,?_⟩
 .have:=ES _ _ _ _ _ this;simpa using this
 .unfold xl at hp;rw[this] at hp;exact hp
theorem rp.all {G:Gr}(h:rp st t G l q){k:Nat}{e:NE}(he:G k=some e):∃o,qc 200 st [((Go.Pl.jj st t k).getD bu).aS.cy] []=some o/\o.length<=1000/\∀p∈o,bw p=true:=by
 obtain⟨R,hR⟩:=h.JF he;obtain⟨ln,qn,hq,hh⟩:=((h.at_ k).some he).2;have Dq:qM st e.n.aS ln qn:=by
  rcases hh with⟨_,hh⟩|hh
  .exact hh.tr
  .exact hh.tr
 obtain⟨o,h1,h2,h3⟩:=TV Dq;refine⟨o,?_,ag,λp hp=>?_⟩
 .rw[h.jj k,he];exact h1
 .have hm:p∈e.Q++R:=cP _ (by rw[hq];exact h3.mem_iff.1 hp);have:=(hR.lv p hm).1;unfold fits at this;simp only[bU] at this;exact this.1.1.1
end
end Go.Pg
namespace Go.Pl
open Go Go.Ev Go.Lg Go.Proofs
theorem TW {n:Nat}{st:ar}{t:bX}{q:Nat}(h:dv n st)(hn:n<=90000)(ht:eb t)(hq:q<16){o:cW}(ho:qc 200 st [((jj st t q).getD bu).aS.cy] []=some o)(KG:o.length<=1000)(mD:∀p∈o,bw p=true):dv (n+1100) (dY st t q).1/\eb (dY st t q).2.1:=by
 have J1:xl st ((jj st t q).getD bu).aS=o:=by unfold xl;rw[ho];rfl
 have hD:=MC h ag ht q;have h1:=dv.dC (st:=st) o h mD;have bS:=nt (k:=q) (z:=[]) h1 ht hq (by simp);unfold dY;simp only[J1,uy];rcases hp:nH (dC o st) t q [] with⟨eL,t2,ok⟩
 rw[hp] at bS;cases ok with
 |false=>exact⟨bS.1.mono ag,bS.2.1⟩
 |true=>
  have:=zr (many:=(ra st t q:Nat)) bS.1 bS.2.1 ag;exact⟨this.1.mono ag,this.2.1⟩
theorem TX (s:St)(b:Nat)(v:SA)(st:ar)(t:bX)(h:dv 40000 st)(ht:eb t)(o9:Pg.FS st t)(z:aA)(hz:z.length<=90000)(hp:aT z=true):
  mG a8 bj 114 [bc b,sv z] s b v ⟨st,t,false⟩ (Fs.qe ⟨st,t,false⟩ z).1 (iv (Fs.qe ⟨st,t,false⟩ z).2):=by
 have tc:dv 100000 st:=h.mono ag;have dS:Fs.qe ⟨st,t,false⟩ z=if Fs.da ⟨st,t,false⟩ z<0 then(⟨st,t,false⟩,2) else if Fs.da ⟨st,t,false⟩ z=0\/((Fs.node ⟨st,t,false⟩ (Fs.da ⟨st,t,false⟩ z)).kind=2/\0<(Fs.node ⟨st,t,false⟩ (Fs.da ⟨st,t,false⟩ z)).size) then(⟨st,t,false⟩,5) else
   (let f1:=Fs.bf ⟨st,t,false⟩ (Fs.bM ⟨st,t,false⟩ z).1 (eu (Fs.bH ⟨st,t,false⟩ (Fs.bM ⟨st,t,false⟩ z).1) ((eA (Fs.bH ⟨st,t,false⟩ (Fs.bM ⟨st,t,false⟩ z).1) (Fs.base z)).getD 0))
    let n1:iG:={Fs.node ⟨st,t,false⟩ (Fs.da ⟨st,t,false⟩ z) with bF:=(Fs.node ⟨st,t,false⟩ (Fs.da ⟨st,t,false⟩ z)).bF-1}
    if 0<n1.bF then(f1.put (Fs.da ⟨st,t,false⟩ z) n1,0) else if f1.cC then(f1,0) else match dY f1.st f1.t (Fs.da ⟨st,t,false⟩ z) with
     |(eL,t2,ok)=>((⟨eL,t2,!ok⟩,0):Fs×Int)):=rfl
 obtain⟨G,l0,q0,hF,hG⟩:=o9;have WR:∀s,lJ s b v ⟨st,t,false⟩->bP 161 [bc b,sv z] s (tN b v) (iv (Fs.da ⟨st,t,false⟩ z)):=λs hr=>pS s b v ⟨st,t,false⟩ tc ht z hz hp hr
 by_cases h1:Fs.da ⟨st,t,false⟩ z<0
 .rw[if_pos h1] at dS;rw[dS];generalize Fs.da ⟨st,t,false⟩ z=w at *
  refine aU f114 ?_;dsimp only[kg,eO];(repeat' (first|refine' a7|refine' ud|refine' aw|fail))
  all_goals try exact pq
  refine mP (v':=v) bB bn au rfl
 .rw[if_neg h1] at dS;obtain⟨k,e1,e2⟩:=Pg.iB hF h1;obtain⟨ei,qO⟩:=Pg.jr hG e2;have hk:k<16:=(hF.lt qO).2;have BS:Fs.node ⟨st,t,false⟩ (k:Int)=ei.n:=by rw[Pg.nz hF,qO];rfl
  rw[e1,BS] at dS;rw[e1] at WR;have qE:∀s,lJ s b v ⟨st,t,false⟩->bP 162 [bc b,iv k] s (tN b v) (nv ei.n):=λs hr=>by rw[<-BS];exact tF s b v ⟨st,t,false⟩ tc ht k ag hr
  by_cases h2:(k:Int)=0\/(ei.n.kind=2/\0<ei.n.size)
  .rw[if_pos h2] at dS;rw[dS];clear h1 e1;refine aU f114 ?_;dsimp only[kg,eO];(refine' QU)
   all_goals try exact pq
   all_goals refine mP (v':=v) bB bn au rfl
  .rw[if_neg h2] at dS;have R9:k≠0:=λhc=>h2 (.inl ag)
   obtain⟨at_,e,i,p1,p2,p3,p4,p5,p6,p7,p8⟩:=Pg.sL hF hG e2 R9;have jC:Fs.bH ⟨st,t,false⟩ (at_:Int)=e.es:=Pg.l9 hF false p3 p4;have tg:bz e.es=true:=by have:=Pg.pG hG.wf at_;rwa [Pg.dV p3] at this
   have zA:=Pg.Jx tg (Pg.jq e.es i);have PA:at_<16:=(hF.lt p3).2;rw[p1] at dS;simp only at dS;rw[jC,p5,pV] at dS;obtain⟨aiN,heb⟩:=Yw tg;obtain⟨amL,alv⟩:=Yw zA;have IB:Pg.bH G k=[]:=by
    rw[Pg.dV qO];obtain⟨ln,qn,hq,⟨h0,_⟩|hd⟩:=((hF.at_ k).some qO).2
    .exact h0
    .have iW:=hd.sz;have Vq:=hd.kd;have:ei.es=[]:=by
      by_cases hc:ei.es=[]
      .exact hc
      .have h3:=(Pg.lY hd.eo).2 hc;exact absurd (.inr ⟨Vq,ag⟩) h2
     exact this
   refine' za5
   have rD:∀s,lJ s b v ⟨st,t,false⟩->bP 163 [bc b,sv z] s (tN b v) (.tuple ⟨[iv at_,iv 0]⟩):=λs hr=>by
    have:=tO s b v ⟨st,t,false⟩ tc ht z hz hp hr;rwa [p1] at this
   have VP:∀s,lJ s b v ⟨st,t,false⟩->fa a8 bj 156 [bc b,iv at_] s (tN b v) 200 e.es:=λs hr=>by
    refine' za4
   have OI:∀a c s,bO s a e.es.length 2 (ai e.es)->bP 165 [.slice a e.es.length c,sv (Fs.base z)] s (aj a) (iv i):=λa c s hr=>by
    have:=DI s a c e.es (Fs.base z) ag hr;unfold Xv at this;rw[p5] at this;exact this
   have ahz:∀a c s,bO s a e.es.length 2 (ai e.es)->FH s a e.es.length c 200 2->fa a8 bj 164 [.slice a e.es.length c,iv i] s (aj a) 200 (eu e.es i):=λa c s hr hv=>DY s a c e.es i ag p6 hr hv
   have nU:∀dI a c s,bO s a (eu e.es i).length 2 (ai (eu e.es i))->(∀j∈aj a,j∉(kg b dI ⟨st,t,false⟩).flatMap It.aY)->Bi 158 [bc b,iv at_,.slice a (eu e.es i).length c] s (kg b dI ⟨st,t,false⟩) (aj a) λR L=>∃v':SA,R= .tuple ⟨[]⟩/\L=kg b v' (Fs.bf ⟨st,t,false⟩ at_ (eu e.es i)):=λdI a c s hr hm=>
    om s b dI ⟨st,t,false⟩ ⟨h.mono ag,ht⟩ at_ PA a c (eu e.es i) ag alv hr hm
   have Ce:sM 40630 (Fs.bf ⟨st,t,false⟩ at_ (eu e.es i)):=sM.bf (n:=40000) ⟨h,ht⟩ ag _;have iX:(Fs.bf ⟨st,t,false⟩ at_ (eu e.es i)).cC=false->∃o,qc 200 (Fs.bf ⟨st,t,false⟩ at_ (eu e.es i)).st [((jj (Fs.bf ⟨st,t,false⟩ at_ (eu e.es i)).st (Fs.bf ⟨st,t,false⟩ at_ (eu e.es i)).t k).getD bu).aS.cy] []=some o/\o.length<=1000/\∀p∈o,bw p=true:=λhf=>by
    obtain⟨e',l1,q1,ya,g1,g2,g3⟩:=Pg.oV hF p3 p4 zA hf;exact ya.all (k:=k) (e:=ei) (by rw[Pg.fM _ _ (λh=>nJ h.symm)];exact qO)
   generalize X9:Fs.bf ⟨st,t,false⟩ at_ (eu e.es i)=f1 at *
   obtain⟨st1,t1,zB⟩:=f1;have hs2:=Ce.st;have ht2:=Ce.t;simp only at hs2 ht2 iX dS;have dK:∀(dI:SA) s,mG a8 bj 157 [bc b,iv k,nv {ei.n with bF:=ei.n.bF-1}] s b dI ⟨st1,t1,zB⟩ (Fs.put ⟨st1,t1,zB⟩ k {ei.n with bF:=ei.n.bF-1}) (.tuple ⟨[]⟩):=λdI s=>sG s b dI ⟨st1,t1,zB⟩ (hs2.mono ag) ht2 k hk _
   have L9: -1000<=ei.n.bF/\ei.n.bF<=1000:=by
    have:=Pg.lb ((hF.at_ k).some qO).2.ok;omega
   generalize hfp:Fs.put ⟨st1,t1,zB⟩ k {ei.n with bF:=ei.n.bF-1}=f2 at *
   clear h1 e1 X9 hfp;by_cases hl:0<ei.n.bF-1
   .rw[if_pos hl] at dS;rw[dS];refine aU f114 ?_;dsimp only[kg,eO];(repeat' (first|refine' a7|refine' ud|refine' y5|refine' WT|refine' Bk|refine' DK|refine' Lv|refine' Lw|refine' Lx|refine' G8|refine' aw|fail))
    all_goals try refine cM
    all_goals refine mP (v':=pB) bB bn au rfl
   .rw[if_neg hl] at dS;cases ET:zB with
    |true=>
     rw[ET,if_pos rfl] at dS;rw[dS];subst ET;refine aU f114 ?_;dsimp only[kg,eO];(repeat' (first|refine' a7|refine' ud|refine' y5|refine' WT|refine' Bk|refine' DK|refine' Lv|refine' Lw|refine' Lx|refine' aw|fail))
     all_goals refine' zaE
    |false=>
     rw[ET,if_neg (by decide)] at dS;obtain⟨o,ho,KG,mD⟩:=iX ET;subst ET;rcases oR:dY st1 t1 k with⟨eL,t2,ok⟩
     have alw:∀(dI:SA) s,eQ a8 bj 166 [fD dI st1,tv t1,iv k] s [] dI st1 eL true (B1 t2 ok):=λdI s=>by
      have:=Pm s dI st1 (hs2.mono ag) t1 ht2 k hk o ho KG mD;rw[oR] at this;exact this
     rw[oR] at dS;simp only at dS;rw[dS];refine aU f114 ?_;dsimp only[kg,eO];(repeat' (first|refine' a7|refine' ud|refine' y5|refine' WT|refine' Bk|refine' DK|refine' Lv|refine' Lw|refine' Lx|((with_reducible apply WO.nf);exact aE;(first|exact λs=>alw _ s);exact ey;intro _ _ PB _ _ afd)|refine' aw|fail))
     all_goals try refine cM
     all_goals refine mP (v':=PB) bB bn au rfl
end Go.Pl
