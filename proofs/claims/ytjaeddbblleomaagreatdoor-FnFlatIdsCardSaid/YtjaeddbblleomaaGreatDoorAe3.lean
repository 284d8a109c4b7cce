/- Lemmas of the proof. No conditions. -/
import Derived.Test.YtjaeddbblleomaaGreatDoorAe2
set_option maxRecDepth 100000
set_option maxHeartbeats 4000000
set_option linter.unusedVariables false
set_option linter.unusedSimpArgs false
open Go.Proofs.Tryz
namespace Go.Pl
open Go Go.Ev Go.Lg Go.Proofs
theorem Mt (s:St)(v:SA)(same:Bool)(hr:cJ s v (bQ same)):bO 90 [fF v (bQ same)] s (im v) (.bool true):=by
 have tk:=Rd.DE hr;have tO:=Rd.off hr;have tT:=Rd.BO hr;have e0:(bQ same).ep=List.replicate 64 []:=rfl;have e1:(bQ same).aV=List.replicate 64 0:=rfl;have e2:(bQ same).dq=List.replicate 64 0:=rfl;have e3:(bQ same).fE=1:=rfl;have e4:(bQ same).ot=0:=rfl;have e5:(bQ same).cG=[]:=rfl;have e6:(bQ same).eg=[]:=rfl;rw[e0] at tk;rw[e1] at tO;rw[e2] at tT;unfold fF rz;rw[e3,e4,e5,e6];have hl:(List.replicate 64 (0:Int)).length=64:=by simp
 have J6:(List.replicate 64 ([]:ay)).length=64:=by simp
 have p0:(!fR 1 1 900)=false:=rfl;have p3:(!fR 0 0 (1-1))=false:=rfl;have XO:∀s,cJ s v (bQ same)->bO 129 [.agg ⟨[.slice v.f 64 v.fc,.slice v.l 64 v.lc]⟩] s (im v) (.bool true):=λs hr=>Ms s v same hr
 refine aO f90 ?_;(repeat' (first|refine' aX|((with_reducible apply WO.lY);exact aD;(first|exact λs hr=>XO s hr);exact ez;intro _ _ _ _)|refine' M1|refine' ar|fail))
 all_goals try refine cI
 refine W.bH (λk l L=>∃(i b1:Nat),Le [(1,aP b1),(3,iv (i:Int))] l/\cr [.box b1 [.slice v.r 64 v.rc,.slice v.f 64 v.fc,.slice v.l 64 v.lc,iv 1,.slice v.g ([]:cV).length v.gc,iv 0,.slice v.d ([]:cV).length v.dc,.bool same] 58 false] L/\k=64-i/\i<=64)
  (λl L=>∃(b1:Nat),Le [(1,aP b1)] l/\cr [.box b1 [.slice v.r 64 v.rc,.slice v.f 64 v.fc,.slice v.l 64 v.lc,iv 1,.slice v.g ([]:cV).length v.gc,iv 0,.slice v.d ([]:cV).length v.dc,.bool same] 58 false] L) _ ⟨0,_,bd,aq,rfl,af⟩ ?_ ?_
 .rintro k l L ⟨i,b1,sC,hL,rfl,h1⟩;refine W.le ?_ sC hL;clear sC hL;have z1:=rep0 i;have z2:=repS0 i;have z3:((List.replicate 64 ([]:ay)).getD i c9.lW).length=0:=by rw[z2];rfl
  generalize List.replicate 64 (0:Int)=q at *
  generalize List.replicate 64 ([]:ay)=qs at *
  have p1:(decide (qs.getD i c9.lW=[]) != decide (q.getD i c9.lW=0))=false:=by rw[z1,z2];rfl
  (refine' cO)
  all_goals try refine cI
  .exact⟨_,af,i+1,_,bd,aq,rfl,af⟩
  .exact⟨_,bd,aq⟩
 .rintro l L ⟨b1,sC,hL⟩;refine aj ?_;refine W.le ?_ sC hL;clear sC hL;(refine' cO)
  refine W.bH (λk l L=>∃(b1:Nat),Le [(1,aP b1),(5,cg)] l/\cr [.box b1 [.slice v.r 64 v.rc,.slice v.f 64 v.fc,.slice v.l 64 v.lc,iv 1,.slice v.g ([]:cV).length v.gc,iv 0,.slice v.d ([]:cV).length v.dc,.bool same] 58 false] L/\k=0)
   (λl L=>True) _ ⟨_,bd,aq,rfl⟩ ?_ ?_
  .rintro k l L ⟨b1,sC,hL,rfl⟩;refine W.le ?_ sC hL;clear sC hL;have xy:(([]:cV).length:Int)=0:=rfl;(refine' cO)
   all_goals try refine cI
   all_goals trivial
  .rintro l L _;refine aj ?_;refine W.le ?_ (Le.nil _) (cr.nil _);(refine' cO)
   (refine' av)
   rfl
end Go.Pl
namespace Go.Pg
open Go.Pl
variable {st:ak}{t:bX}{l q:cV}
theorem Eg:∀(f:Nat)(st:ak)(l out o:cV),pP f st l out=some o->o.length<=out.length+f
 |0,_,_,_,_,h=>by cases h
 |f+1,st,[],out,o,h=>by cases h;omega
 |f+1,st,p::l,out,o,h=>by
  rw[pP] at h;split at h
  .have:=Eg f _ _ _ _ h;omega
  .have:=Eg f _ _ _ _ h;rw[bR] at this;simp only[dh,mD] at this;omega
theorem Te (h:qy st t l q):∃o,pP 200 st [t.cC] []=some o/\o.length<=200/\o.Perm (cB l q):=by
 have hp:=IN h;obtain⟨a,h1,h2⟩:=h.lv;have hd:=fu t.many;obtain⟨c,D,h3,h4,h5⟩:=IM t.depth.toNat [t.cC] h1 (λp hp hh=>h.l0 p (by rw[h2];simp[hp]) hh);have hc:c<=125:=by
  refine' zaV
 have:=h5 (200-c) [] [];rw[show c+(200-c)=(199-c)+(c+1) by omega,iH] at this;obtain⟨g,hg⟩:∃g,200-c=g+1:=⟨199-c,af⟩;rw[hg,pP] at this;rw[show(199-c)+(c+1)=200 by omega] at this;refine⟨_,this,?_,?_⟩
 .have:=Eg _ _ _ _ _ this;simpa using this
 .unfold wJ at hp;rw[this] at hp;exact hp
theorem qY.all {G:Gr}(h:qY st t G l q){k:Nat}{e:NE}(he:G k=some e):∃o,pP 200 st [((Go.Pl.iY st t k).getD bu).aN.cC] []=some o/\o.length<=1000/\∀p∈o,bw p=true:=by
 obtain⟨R,hR⟩:=h.I9 he;obtain⟨ln,qn,hq,hh⟩:=((h.at_ k).some he).2;have CO:qy st e.n.aN ln qn:=by
  rcases hh with⟨_,hh⟩|hh
  .exact hh.tr
  .exact hh.tr
 obtain⟨o,h1,h2,h3⟩:=Te CO;refine⟨o,?_,af,λp hp=>?_⟩
 .rw[h.iY k,he];exact h1
 .have hm:p∈e.Q++R:=di _ (by rw[hq];exact h3.mem_iff.1 hp);have:=(hR.lv p hm).1;unfold fits at this;simp only[cv] at this;exact this.1.1.1
end Go.Pg
namespace Go.Pl
open Go Go.Ev Go.Lg Go.Proofs
theorem Tf {n:Nat}{st:ak}{t:bX}{q:Nat}(h:du n st)(hn:n<=90000)(ht:dZ t)(hq:q<16){o:cV}(ho:pP 200 st [((iY st t q).getD bu).aN.cC] []=some o)(J7:o.length<=1000)(mg:∀p∈o,bw p=true):du (n+1100) (dX st t q).1/\dZ (dX st t q).2.1:=by
 have Jr:wJ st ((iY st t q).getD bu).aN=o:=by unfold wJ;rw[ho];rfl
 have hD:=L8 h af ht q;have h1:=du.dB (st:=st) o h mg;have bP:=mV (k:=q) (z:=[]) h1 ht hq (by simp);unfold dX;simp only[Jr,tX];rcases hp:nj (dB o st) t q [] with⟨eI,t2,ok⟩
 rw[hp] at bP;cases ok with
 |false=>exact⟨bP.1.mono af,bP.2.1⟩
 |true=>
  have:=yW (many:=(qO st t q:Nat)) bP.1 bP.2.1 af;exact⟨this.1.mono af,this.2.1⟩
end Go.Pl
