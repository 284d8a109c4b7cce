/- Lemmas of the proof. No conditions. -/
import Derived.Test.YtjaeddbblleomaaGreatDoorAd10
set_option maxRecDepth 100000
set_option maxHeartbeats 4000000
set_option linter.unusedVariables false
set_option linter.unusedSimpArgs false
open Go.Proofs.Tryz
namespace Go.Pl
open Go Go.Ev Go.Lg Go.Proofs
theorem NY (s:St)(z:ay)(hz:z.length<=90000)(hp:bf z=true)(hn:aB z≠[]):bO 141 [sv z] s [] (sv (Fs.base z)):=by
 obtain⟨FZ,hz47⟩:=BJ hp;have hl:0<(aB z).length:=oX.2 hn;rw[show Fs.base z=(aB z).getD ((aB z).length-1) c9.lW from Fh _ hn];have h4:(aB z).length<=4:=by
  unfold bf at hp;split at hp
  .rename_i h;exfalso;apply hn;unfold aB;rw[if_pos h]
  .split at hp
   .cases hp
   .simp only[cv,cl] at hp;exact hp.2
 rw[show(aB z).length-1=(((aB z).length:Int)-1).toNat by omega];refine aO f141 ?_;(repeat' (first|refine' aX|refine' R8|refine' ar|fail))
 (refine' av);rfl
abbrev fsC (v:SA)(f:Fs):aQ:=[.slice v.r 64 v.rc,.slice v.f 64 v.fc,.slice v.l 64 v.lc,iv f.st.fE,.slice v.g f.st.cG.length v.gc,iv f.st.ot,.slice v.d f.st.eg.length v.dc,.bool f.st.same,iv f.t.cC.row,iv f.t.cC.de,iv f.t.cC.size,iv f.t.cC.sum,iv f.t.cC.level,iv f.t.depth,iv f.t.many,.bool f.cK]
abbrev j5 (b:Nat)(v:SA)(f:Fs):bn:=.box b (fsC v f) 140 false::eM v f.st
abbrev ml (E:dy)(X:dM)(g:FuncId)(vs:aQ)(s:St)(b:Nat)(v:SA)(f f':Fs)(r:Value):Prop:=fI E X g vs s (j5 b v f) [] λR L=>∃v':SA,R=r/\L=j5 b v' f'
section
variable {E:dy}{X:dM}{Γ:gY}{l:Kn}{L R:bn}{K:KO}{g:FuncId}{xs:List Operand}{ts:Array TypeId}{vs:aQ}{v:SA}{f f':Fs}{b:Nat}{r:Value}
theorem WO.callF (hx:ky l xs vs)(h:∀s,ml E X g vs s b v f f' r)(hp:oz (j5 b v f) L R)(k:∀m m' v',kb L m->m<=m'->K r (j5 b v' f'++R) m m' (λi=>i∈([]:List Nat)\/i∈(j5 b v f).flatMap It.aS\/(m<=i/\i<m')) (λi=>i∈(j5 b v f).flatMap It.aS\/(m<=i/\i<m'))):WO E X Γ l (.call ⟨.value (.func g),⟨xs⟩,ts⟩) L K:=
 WO.call (Lm:=j5 b v f) (R:=R) hx hp.cR (λs hi b hb=>by cases hb) (λs _=>h s) (by rintro r L' m m' ho hm ⟨v',rfl,rfl⟩;exact k m m' v' ho hm)
theorem mw {rs:List ResultVar}{x:Ex}{v':SA}{ws:aQ}(hx:x= .normal\/x= .ret)(hr:pV E l L rs ws)(hL:cr (j5 b v' f') L)(hv:gF ws=r):
  ux E rs (λR L=>∃v':SA,R=r/\L=j5 b v' f') x l L:=⟨hx,ws,_,hr,hL,v',hv,rfl⟩
end
theorem si (s:St)(b:Nat)(v:SA)(f:Fs)(h:du 80000 f.st)(ht:dZ f.t)(k:Nat)(hk:k<16)(n:Nde):ml aU aW 138 [aP b,iv k,nv n] s b v f (f.put k n) (.tuple ⟨[]⟩):=by
 unfold Fs.put;rw[tX];refine aO f138 ?_;dsimp only[j5,eM];cases hf:f.cK with
 |true=>
  rw[if_pos rfl];(repeat' (first|refine' aX|refine' zc134|refine' ar|fail))
  (refine' qretf)
  rfl
 |false=>
  rw[if_neg (by decide)];(repeat' (first|refine' aX|refine' zc134|refine' ar|fail))
  (refine' qretf)
  rfl
structure lq (s:St)(b:Nat)(v:SA)(f:Fs):Prop where
 b:bM s (jF b) 1 16 (fsC v f)
 st:cJ s v f.st
structure KD (Γ:gY)(L:bn)(b:Nat)(v:SA)(f:Fs):Prop where
 b:jR Γ L (jF b) 1 16 (fsC v f)
 st:qQ Γ L v f.st
abbrev tp (b:Nat)(v:SA):List Nat:=b::im v
section
variable {E:dy}{X:dM}{Γ:gY}{l:Kn}{L R:bn}{K:KO}{g:FuncId}{xs:List Operand}{ts:Array TypeId}{vs:aQ}{v:SA}{f:Fs}{b:Nat}{r:Value}{s:St}
theorem KD.row (h:KD Γ L b v f)(hi:Inv Γ s L):lq s b v f/\∀i∈tp b v,EF Γ s i:=by
 refine⟨⟨(h.b.row hi).1,(h.st.row hi).1⟩,λi hb=>?_⟩;rcases bV.1 hb with rfl|hb
 .exact(h.b.row hi).2 _ (by simp[ai])
 .exact(h.st.row hi).2 i hb
theorem WO.IC (hx:ky l xs vs)(hh:KD Γ L b v f)(h:∀s,lq s b v f->pW E X g vs s (tp b v) r)(k:∀m m',kb L m->m<=m'->K r L m m' (λi=>i∈tp b v\/i∈([]:bn).flatMap It.aS\/(m<=i/\i<m')) (λi=>i∈([]:bn).flatMap It.aS\/(m<=i/\i<m'))):WO E X Γ l (.call ⟨.value (.func g),⟨xs⟩,ts⟩) L K:=
 WO.tH hx (λs hi=>⟨(hh.row hi).2,h s (hh.row hi).1⟩) k
theorem WO.Qw {α:Type}{sz:Nat}{enc:c9 α sz}{e:TypeId}{p:List α}(hx:ky l xs vs)(hh:KD Γ L b v f)(h:∀s,lq s b v f->fa E X g vs s (tp b v) e p)(k:∀m m' a c,kb L m->m<=m'->K (.slice a p.length c) (.aJ (.slice a p.length c) e sz (ah (sz:=sz) p)::L) m m' (λi=>i∈tp b v\/i∈([]:bn).flatMap It.aS\/(m<=i/\i<m')) (λi=>i∈([]:bn).flatMap It.aS\/(m<=i/\i<m'))):WO E X Γ l (.call ⟨.value (.func g),⟨xs⟩,ts⟩) L K:=
 WO.Ku hx (λs hi=>⟨(hh.row hi).2,h s (hh.row hi).1⟩) k
theorem D0.bx (h:lq s b v f):Rd ⟨s,([]:bn).flatMap It.aS,tp b v⟩ (jF b) 1 16 (fsC v f):=Rd.of h.b λ_ hb=>by simp[ai] at hb;subst hb;exact jr
theorem D0.rw (h:lq s b v f):Rd ⟨s,([]:bn).flatMap It.aS,tp b v⟩ v.r 64 1 (ah f.st.ep):=Rd.of h.st.r λ_ hb=>lE _ (GS hb)
theorem D0.rf (h:lq s b v f):Rd ⟨s,([]:bn).flatMap It.aS,tp b v⟩ v.f 64 1 (ah f.st.aV):=Rd.of h.st.f λ_ hb=>lE _ (GU hb)
theorem D0.la (h:lq s b v f):Rd ⟨s,([]:bn).flatMap It.aS,tp b v⟩ v.l 64 1 (ah f.st.dq):=Rd.of h.st.l λ_ hb=>lE _ (GV hb)
end
theorem tc (s:St)(b:Nat)(v:SA)(f:Fs)(h:du 100000 f.st)(ht:dZ f.t)(k:Int)(hk: -1000<=k/\k<=1000)(hr:lq s b v f):bO 143 [aP b,iv k] s (tp b v) (nv (f.node k)):=by
 have M3:=D0.bx hr;have tk:=D0.rw hr;have tO:=D0.rf hr;have tT:=D0.la hr;refine aO f143 ?_;(repeat' (first|refine' aX|refine' zc133|refine' ar|fail))
 (refine' av)
 rfl
theorem lu (s:St)(b:Nat)(v:SA)(f:Fs)(h:du 100000 f.st)(ht:dZ f.t)(k:Int)(hk: -1000<=k/\k<=1000)(hr:lq s b v f):fa aU aW 137 [aP b,iv k] s (tp b v) 186 (f.bF k):=by
 have M3:=D0.bx hr;have tk:=D0.rw hr;have tO:=D0.rf hr;have tT:=D0.la hr;unfold Fs.bF;refine aO f137 ?_;(repeat' (first|refine' aX|refine' V5|((with_reducible apply WO.ta);exact aD;(first|exact λs hr=>lK s _ _ (by assumption) _ hr|exact λs hr=>lK s _ _ (by assumption) ⟨_,_,_,⟨⟨_,_,_,_,_⟩,_,_⟩⟩ hr);exact ez;intro _ _ a_l15Entries c_l15Entries _ _)|refine' ar|fail))
 (refine' lB)
 rfl
section
variable {E:dy}{X:dM}{Γ:gY}{l:Kn}{L R:bn}{K:KO}{g:FuncId}{xs:List Operand}{ts:Array TypeId}{vs:aQ}{v:SA}{st:ak}{r:Value}{s:St}
theorem WO.Qx {a:aH}{n sz:Nat}{cs:aQ}(hx:ky l xs vs)(h:∀s,cJ s v st->bM s a n sz cs->pW E X g vs s (im v++ai a) r)(hh:qQ Γ L v st)(h2:jR Γ L a n sz cs)(k:∀m m',kb L m->m<=m'->K r L m m' (λi=>i∈im v++ai a\/i∈([]:bn).flatMap It.aS\/(m<=i/\i<m')) (λi=>i∈([]:bn).flatMap It.aS\/(m<=i/\i<m'))):WO E X Γ l (.call ⟨.value (.func g),⟨xs⟩,ts⟩) L K:=
 WO.tH hx (λs hi=>⟨λi hb=>by
   rcases fJ.1 hb with hb|hb
   .exact(hh.row hi).2 i hb
   .exact(h2.row hi).2 i hb,h s (hh.row hi).1 (h2.row hi).1⟩) k
end
theorem AZ {st:ak}{n:Nde}{l:List aT}(h:bJ st n=some l):l.length<=12/\∀e∈l,0<=e.id/\e.id<=15:=by
 refine' zag
 unfold bz at fZ;simp only[cv,iM,cl,fR] at fZ;exact⟨fZ.2,λe he=>by have:=(fZ.1.1 e he).2;omega⟩
theorem D1 (s:St)(v:SA)(st:ak)(h:du 100000 st)(t:bX)(ht:dZ t)(a:aH)(c:Nat)(p:List ay)(hp:p.length<=1000)(hr:cJ s v st)(h2:bM s a p.length 1 (ah p)):
  bO 180 [fF v st,tv t,.slice a p.length c] s (im v++ai a) (iv (ou (λi=>bJ st ((iY st t i).getD bu)) p 0)):=by
 have tk:Rd ⟨s,([]:bn).flatMap It.aS,im v++ai a⟩ v.r 64 1 (ah st.ep):=Rd.of hr.r λ_ hb=>di _ (GS hb)
 have tO:Rd ⟨s,([]:bn).flatMap It.aS,im v++ai a⟩ v.f 64 1 (ah st.aV):=Rd.of hr.f λ_ hb=>di _ (GU hb)
 have tT:Rd ⟨s,([]:bn).flatMap It.aS,im v++ai a⟩ v.l 64 1 (ah st.dq):=Rd.of hr.l λ_ hb=>di _ (GV hb)
 have hdp:Rd ⟨s,([]:bn).flatMap It.aS,im v++ai a⟩ a p.length 1 (ah p):=Rd.of h2 λ_ hb=>dH _ hb
 generalize hE:(λi=>bJ st ((iY st t i).getD bu))=E at *
 have hEa:∀i,E i=bJ st ((iY st t i).getD bu):=λi=>by rw[<-hE]
 refine aO f180 ?_;(refine' cO)
 refine W.bH (λk l L=>∃(i:Nat)(w:Int)(b3 b4:Nat),Le [(2,.slice a p.length c),(3,aP b3),(4,aP b4),(7,iv w),(8,iv i)] l/\cr [.box b3 (rz v st) 58 false,.box b4 (gU t) 62 false] L/\k=p.length-i/\i<=p.length/\(0<=w/\w<=15)/\ou E p 0=ou E (p.drop i) w)
  (λl L=>Le [(7,iv (ou E p 0))] l/\cr [] L) p.length ⟨0,0,_,_,bd,aq,rfl,af,af,rfl⟩ ?_ ?_
 .rintro k l L ⟨i,w,b3,b4,ju,hL,rfl,h1,hw,h3⟩;refine W.le ?_ ju hL;clear ju hL;by_cases hi:i<p.length
  .rw[drop_cons hi,ou,hEa] at h3;cases he:bJ st ((iY st t w).getD bu) with
   |none=>
    rw[he] at h3;simp only at h3;rw[h3];have hent:∀s,cJ s v st->ke aU aW 152 [fF v st,nv ((iY st t w).getD bu)] s (im v) 186 ([]:List aT) false:=λs hr=>by
     have:=lK s v st h ((iY st t w).getD bu) hr;rwa [he] at this
    (refine' WA)
    all_goals try exact pb
    (refine' av);rfl
   |some es=>
    rw[he] at h3;simp only at h3;have hent:∀s,cJ s v st->ke aU aW 152 [fF v st,nv ((iY st t w).getD bu)] s (im v) 186 es true:=λs hr=>by
     have:=lK s v st h ((iY st t w).getD bu) hr;rwa [he] at this
    obtain⟨sP,hid⟩:=AZ he;cases n4:ey es (p.getD i c9.lW) with
    |none=>
     have hav:WG es (p.getD i c9.lW)= -1:=by unfold WG;rw[n4];rfl
     rw[n4] at h3;simp only at h3;rw[h3];(refine' WA)
     all_goals try exact pb
     (refine' av);rfl
    |some q=>
     have hav:WG es (p.getD i c9.lW)=(q:Int):=by unfold WG;rw[n4];rfl
     have hq:q<es.length:=by
      unfold ey at n4;exact(nq.1 n4).1
     rw[n4] at h3;simp only at h3;(refine' WA)
     all_goals try exact pb
     have hqd:=hid _ (aF hq c9.lW);refine⟨_,?_,i+1,_,_,_,bd,aq,rfl,af,?_,?_⟩
     .omega
     .rw[hav];exact hqd
     .rw[hav,h3];rfl
  .have fG:i=p.length:=by omega
   subst fG;rw[ig,ou] at h3;(refine' cO)
   all_goals try exact pb
   exact⟨by rw[h3];exact bd,aq⟩
 .rintro l L ⟨ju,hL⟩;refine aj ?_;refine W.le ?_ ju hL;clear ju hL;(refine' cO)
  (refine' av);rfl
theorem Ma {z:ay}(hp:bf z=true):(aB z).length<=4:=by
 unfold bf at hp;split at hp
 .rename_i h;unfold aB;rw[if_pos h];simp
 .split at hp
  .cases hp
  .simp only[cv,cl] at hp;exact hp.2
theorem Qy (st:ak)(g:Int->Nde):∀(l:List ay)(w:Int),0<=w/\w<=15-> -1<=ou (λi=>bJ st (g i)) l w/\ou (λi=>bJ st (g i)) l w<=15
 |[],w,h=>by rw[ou];omega
 |s::l,w,h=>by
  rw[ou];cases he:bJ st (g w) with
  |none=>simp only;omega
  |some es=>
   simp only;cases n4:ey es s with
   |none=>simp only;omega
   |some q=>
    simp only;have hq:q<es.length:=by
     unfold ey at n4;exact(nq.1 n4).1
    exact Qy st g l _ ((AZ he).2 _ (aF hq _))
theorem pE (s:St)(b:Nat)(v:SA)(f:Fs)(h:du 100000 f.st)(ht:dZ f.t)(z:ay)(hz:z.length<=90000)(hp:bf z=true)(hr:lq s b v f):bO 142 [aP b,sv z] s (tp b v) (iv (f.cZ z)):=by
 have M3:=D0.bx hr;have tk:=D0.rw hr;have tO:=D0.rf hr;have tT:=D0.la hr;obtain⟨FZ,hz47⟩:=BJ hp;have h4:=Ma hp;refine aO f142 ?_;(repeat' (first|refine' aX|refine' R8|((with_reducible apply WO.Qx);exact aD;(first|exact λs hr h2=>D1 s _ _ (by assumption) _ (by assumption) _ _ _ af hr h2);exact ez;exact cu;intro _ _ _ _)|refine' ar|fail))
 (refine' av)
 rfl
end Go.Pl
namespace Go.Lg
open Go Go.Ev
class Xq (E:dy)(t:TypeId)(i:Nat)(off:outParam Nat):Prop where
 h:∃fs f d,iQ E t=some (.struct ⟨fs⟩)/\iR fs i=some f/\iQ E f.type=some d/\zy d=false/\f.offset=off
noncomputable def fldSV (E:dy)(t:TypeId)(i:Nat):Option Nat:=ob (iQ E t) λd=>match d with
 |.struct ⟨fs⟩=>ob (iR fs i) λf=>ob (iQ E f.type) λd=>eb (!zy d) (some f.offset)
 |_=>none
theorem fldS_ok {E:dy}{t:TypeId}{i off:Nat}(h:fldSV E t i=some off):Xq E t i off:=by
 obtain⟨d,h1,h2⟩:=aw h;split at h2
 .rename_i fs;obtain⟨f,h3,h4⟩:=aw h2;obtain⟨d,h5,h6⟩:=aw h4;obtain⟨h7,h8⟩:=bg h6;exact⟨fs,f,d,h1,h3,h5,by simpa using h7,ir h8⟩
 .cases h2
theorem Xr {x:It}{L:bn}(h:x∈L):yk x x L L:=by
 induction L with
 |nil=>cases h
 |cons y L ih=>
  rcases bV.1 h with rfl|h
  .exact .here
  .exact .there (ih h)
section
variable {E:dy}{X:dM}{Γ:gY}{l:Kn}{L:bn}{K:KO}{x y:Operand}{t t2:TypeId}{a:aH}
theorem WO.fieldN {i off:Nat}{cs:aQ}{v:Value}[ht:Xq E t i off](hx:Ev l x (.agg ⟨cs⟩))(hv:cs[off]?=some v)(k:∀n,K v L n n Z Z):WO E X Γ l (.field t x i) L K:=WO.val (λtm s call hl=>by
 obtain⟨fs,f,d,h1,h2,h3,h4,h5⟩:=ht.h;show HT E s t (aI tm x) i=_;rw[hx.eval hl];unfold HT;rw[h1];show ob (iR fs i) _=_;rw[h2];show ob (iQ E f.type) _=_;rw[h3];show eb (!zy d) _=_;rw[h4,h5];show eb true (ob (iR cs off) _)=_;rw[eA,dQ,hv];rfl) k
theorem WO.xor {m n:Nat}(hx:Ev l x (iv m))(hy:Ev l y (iv n))(hm:m<4611686018427387904)(hn:n<4611686018427387904)(h:∀i,K (iv ((m^^^ n:Nat):Int)) L i i Z Z):WO E X Γ l (.binOp .xor t x y t2) L K:=WO.bin hx hy (sY rfl (by
 show eb (Nat.ble (Nat.succ m) 4611686018427387904&&Nat.ble (Nat.succ n) 4611686018427387904) (some (Value.int .i64 (.ofNat (Nat.xor m n))))=_;rw[gR hm,gR hn];rfl)) h
theorem WO.convSl {e:Nat}{p:List UInt8}{enc:c9 UInt8 1}[h1:TT E t e 1 UInt8 enc][h3:wN E e .u8](hx:Ev l x (.slice a p.length p.length))(hm:It.aJ (.slice a p.length p.length) e 1 (ah p)∈L)(hp:0<p.length)(hb:p.length<=1000000)
  (k:∀n,K (.slice a p.length p.length) L n n (λi=>i∈ai a) (λi=>i∈ai a)):WO E X Γ l (.convert t t x) L K:=λtm s hl hi=>by
 rcases hi.it _ hm with⟨h5,_⟩|⟨b,n',k',w,h5,h6,h7,h8⟩
 .exfalso
  injection h5 with h5 h6
  omega
 .cases h5
  have dA:=(hi.may hm (b:=b) (by simp[It.aS,mN]));have hr:=hi.aR dA;obtain⟨z,Rp,_⟩:=h1.h;obtain⟨Vo,i,v,nW,hr3,_⟩:=Rp.h;have hs:size E e=some 1:=by unfold size;rw[nW];simp[hr3]
  refine fS.pure (v:=.slice (some ⟨b,0,none⟩) p.length p.length) (s':=(s.aR b).put b (some (.cells (ah p) e false))) (λcall=>?_) ⟨L,(λi=>i∈ai (some ⟨b,0,none⟩)),(λi=>i∈ai (some ⟨b,0,none⟩)),hr.put (Xr hm) rfl rfl ?_,(kx.trans (cW dA.1 (by simp[ai])) (jS (by simpa using dA.1) (by simp[ai]) (by simp[ai]))),by rw[dY,cw];exact k _⟩
  .show vS E s t t (aI tm x)=_;rw[hx.eval hl];unfold vS;rw[Vo];show ob (iQ E e) (λd=>eb (isByte d&&Nat.beq t t)<| s.row b λcs e' _ s=>ob (size E e') λsz=>ob (iQ E e') λd'=>eb (isByte d'&&Nat.beq sz 1)<| aG (.slice (some ⟨b,0,none⟩) p.length p.length) (s.put b (some (.cells cs e' false))))=_;rw[h3.h];show eb (Nat.beq t t) _=_;rw[lz,eA];unfold St.row St.look;rw[h6];simp only[cq,hs,h3.h];rfl
  .exact .inr ⟨b,_,_,false,rfl,by rw[qE,if_pos rfl],h7,.inl ⟨rfl,Nat.lt_of_le_of_lt hb (by decide)⟩⟩
end
end Go.Lg
namespace Go.Pl
open Go Go.Ev Go.Lg Go.Proofs
instance:Xq aU 109 0 0:=fldS_ok cU
theorem tq (s:St)(b:Nat)(v:SA)(f:Fs)(h:du 100000 f.st)(ht:dZ f.t)(z:ay)(hz:z.length<=90000)(hp:bf z=true)(hr:lq s b v f):bO 144 [aP b,sv z] s (tp b v) (.tuple ⟨[iv (f.bL z).1,iv (f.bL z).2]⟩):=by
 have M3:=D0.bx hr;have tk:=D0.rw hr;have tO:=D0.rf hr;have tT:=D0.la hr;obtain⟨FZ,hz47⟩:=BJ hp;have h4:=Ma hp;have Bg:=Qy f.st (λi=>(iY f.st f.t i).getD bu) (aB z).dropLast 0 af;have qM:(((aB z).length:Int)-1).toNat=(aB z).length-1:=by omega
 have ri:f.bL z=if aB z=[] then(0,3) else if ou (λi=>bJ f.st ((iY f.st f.t i).getD bu)) (aB z).dropLast 0<0 then(0,2) else if(f.node (ou (λi=>bJ f.st ((iY f.st f.t i).getD bu)) (aB z).dropLast 0)).kind≠2 then(0,4) else(ou (λi=>bJ f.st ((iY f.st f.t i).getD bu)) (aB z).dropLast 0,0):=rfl
 by_cases hn:aB z=[]
 .rw[ri,if_pos hn];have hl0:(aB z).length=0:=by rw[hn];rfl
  refine aO f144 ?_;(repeat' (first|refine' aX|refine' R8|refine' ar|fail))
  all_goals try exact pb
  (refine' av)
  rfl
 .rw[ri,if_neg hn];have hl0:0<(aB z).length:=oX.2 hn;generalize hE:ou (λi=>bJ f.st ((iY f.st f.t i).getD bu)) (aB z).dropLast 0=w at *
  have NX:∀a c s,cJ s v f.st->bM s a (List.take (((aB z).length:Int)-1).toNat (aB z)).length 1 (ah (List.take (((aB z).length:Int)-1).toNat (aB z)))->bO 180 [fF v f.st,tv f.t,.slice a (List.take (((aB z).length:Int)-1).toNat (aB z)).length c] s (im v++ai a) (iv w):=λa c s hr h2=>by
   have:=D1 s v f.st h f.t ht a c (List.take (((aB z).length:Int)-1).toNat (aB z)) (by rw[dg];omega) hr h2;rw[show List.take (((aB z).length:Int)-1).toNat (aB z)=(aB z).dropLast by rw[qM,List.dropLast_eq_take],hE] at this
   rwa [show List.take (((aB z).length:Int)-1).toNat (aB z)=(aB z).dropLast by rw[qM,List.dropLast_eq_take]]
  refine aO f144 ?_;(repeat' (first|refine' aX|refine' R8|((with_reducible apply WO.Qx);exact aD;(first|exact λs hr h2=>NX _ _ s hr h2);exact ez;exact cu;intro _ _ _ _)|refine' V5|refine' ar|fail))
  all_goals try exact pb
  ·(refine' av)
   rw[if_pos (by assumption)];rfl
  ·(refine' av)
   rw[if_neg af,if_pos (by assumption)];rfl
  ·(refine' av)
   rw[if_neg af,if_neg (by simpa using jU)];rfl
def D4 (n:Nde)(ok:Bool):Value->Value:=λV=>.tuple ⟨[V,nv n,.bool ok]⟩
theorem jW.aN {n:Nde}(h:jW n){t:bX}(ht:dZ t):jW {n with aN:=t}:=⟨ht,h.sz⟩
theorem Qz (s:ay):(nk s).length<=s.length:=by
 unfold nk;rw[Pv];have:=(List.dropWhile_sublist (l:=s.reverse) (λx=>decide (x=0))).length_le;rw[Pv] at this;exact this
theorem wh (z:ay):∀(m k n:Nat)(st:ak)(u:Nde),du n st->jW u->k+m<=16->du (n+30*m) (jZ z m k st u).1/\jW (jZ z m k st u).2.1
 |0,k,n,st,u,h,hu,_=>⟨h,hu⟩
 |m+1,k,n,st,u,h,hu,hk=>by
  have hc:=Qz ((z.take (min z.length ((k+1)*12))).drop (k*12));have bP:=mV (k:=k) (z:=nk ((z.take (min z.length ((k+1)*12))).drop (k*12))) h hu.tr af (by rw[gp,dg] at hc;omega);rw[jZ];rcases hp:nj st u.aN k (nk ((z.take (min z.length ((k+1)*12))).drop (k*12))) with⟨eI,t2,ok⟩
  rw[hp] at bP;cases ok with
  |true=>
   have:=wh z m (k+1) (n+30) eI {u with aN:=t2} bP.1 (hu.aN bP.2.1) af;exact⟨this.1.mono af,this.2⟩
  |false=>exact⟨bP.1.mono af,hu⟩
theorem Hg (s:St)(v:SA)(st:ak)(h:du 50000 st)(n:Nde)(hn:jW n)(z:ay)(hz:z.length<=1000)(a b:Nat)(lT:a<=b+1)(hb:b<16)(hbz:b*12<=z.length):
  eP aU aW 185 [fF v st,nv n,sv z,iv a,iv b] s [] v st (gz st n z a b).1 true (D4 (gz st n z a b).2.1 (gz st n z a b).2.2):=by
 have F0:jW {n with size:=z.length}:=⟨hn.tr,⟨JA _,by show(z.length:Int)<=10000;omega⟩⟩;refine aO f185 ?_;dsimp only[eM];(refine' cO)
 refine W.bH (λk l L=>∃(j:Nat)(y:ak)(u:Nde)(v':SA)(b5 b6 OC OD:Nat),Le [(2,sv z),(5,aP b5),(6,aP b6),(10,aP OC),(11,aP OD),(4,iv b),(13,iv j)] l/\cr [.box b5 (rz v' y) 58 false,.box b6 (wS u) 109 false,.box OC [eW,eW,eW,cg,eW,cg,eW,.bool false] 58 false,.box OD [cg,cg,cg,cg,cg,cg,cg,cg,cg,cg] 109 false,.aJ (.slice v'.r 64 v'.rc) 9 1 (ah y.ep),.aJ (.slice v'.f 64 v'.fc) 3 1 (ah y.aV),.aJ (.slice v'.l 64 v'.lc) 3 1 (ah y.dq),.aJ (.slice v'.g y.cG.length v'.gc) 60 5 (ah y.cG),.aJ (.slice v'.d y.eg.length v'.dc) 60 5 (ah y.eg)] L/\k=b+1-j/\j<=b+1/\a<=j/\du (50000+30*(j-a)) y/\jW u/\gz st n z a b=jZ z (b+1-j) j y u)
  (λl L=>∃(y:ak)(u:Nde)(v':SA)(b5 b6 OC OD:Nat),Le [(5,aP b5),(6,aP b6),(10,aP OC),(11,aP OD)] l/\cr [.box b5 (rz v' y) 58 false,.box b6 (wS u) 109 false,.box OC [eW,eW,eW,cg,eW,cg,eW,.bool false] 58 false,.box OD [cg,cg,cg,cg,cg,cg,cg,cg,cg,cg] 109 false,.aJ (.slice v'.r 64 v'.rc) 9 1 (ah y.ep),.aJ (.slice v'.f 64 v'.fc) 3 1 (ah y.aV),.aJ (.slice v'.l 64 v'.lc) 3 1 (ah y.dq),.aJ (.slice v'.g y.cG.length v'.gc) 60 5 (ah y.cG),.aJ (.slice v'.d y.eg.length v'.dc) 60 5 (ah y.eg)] L/\gz st n z a b=(y,u,true)) (b+1-a) ⟨a,st,{n with size:=z.length},v,_,_,_,_,bd,aq,rfl,af,cy _,by simpa using h,F0,rfl⟩ ?_ ?_
 .rintro k l L ⟨j,y,u,v',b5,b6,OC,OD,hl,hL,rfl,hj,haj,hy,hu,hp⟩;refine W.le ?_ hl hL;clear hl hL;have hy8:du 80000 y:=hy.mono af;have CO:=hu.tr;by_cases Nv:j<=b
  .have hc:=Qz ((z.take (min z.length ((j+1)*12))).drop (j*12));have tU:(nk ((z.take (min z.length ((j+1)*12))).drop (j*12))).length<=12:=by rw[gp,dg] at hc;omega
   have bP:=mV (k:=j) (z:=nk ((z.take (min z.length ((j+1)*12))).drop (j*12))) hy CO af af;rw[show b+1-j=(b+1-(j+1))+1 by omega,jZ] at hp;have jO:List.take ((min (↑(List.length z)) (((j:Int)+1)*12)).toNat-((j:Int)*12).toNat) (List.drop ((j:Int)*12).toNat z)=(z.take (min z.length ((j+1)*12))).drop (j*12):=by
    rw[List.drop_take]
    congr 1<;>first|omega|(congr 1;omega)
   generalize hw:nk ((z.take (min z.length ((j+1)*12))).drop (j*12))=w at hp bP tU;rcases tV:nj y u.aN j w with⟨y2,u2,ok⟩
   have Sk:∀(dI:SA) s,eP aU aW 132 [fF dI y,tv u.aN,iv j,sv (nk (List.take ((min (↑(List.length z)) (((j:Int)+1)*12)).toNat-((j:Int)*12).toNat) (List.drop ((j:Int)*12).toNat z)))] s [] dI y y2 ok (Bp u2 ok):=λdI s=>by
    have:=sh s dI y hy8 u.aN CO j af w af;rw[tV] at this;rw[jO,hw];exact this
   rw[tV] at hp bP;have hjz:j*12<=z.length:=by omega
   cases ok with
   |true=>
    simp only at hp bP;(repeat' (first|refine' aX|refine' zc141|refine' C3|refine' ar|fail))
    all_goals try exact pb
    refine⟨_,?_,j+1,y2,{u with aN:=u2},_,_,_,_,_,bd,aq,rfl,af,af,bP.1.mono af,hu.aN bP.2.1,hp⟩;omega
   |false=>
    simp only at hp bP;have L7:=bP.2.2 trivial;rw[hp];(repeat' (first|refine' aX|refine' zc141|refine' C3|refine' ar|fail))
    all_goals try exact pb
    (refine' dV)
    .rw[show fF yz y2=fF yz y from L7.fF _];rw[KT rfl];rfl
    .intro hc;cases hc
  .have YI:j=b+1:=by omega
   subst YI;rw[B0,jZ] at hp;(refine' cO)
   all_goals try exact pb
   exact⟨y,u,v',_,_,_,_,bd,aq,hp⟩
 .rintro l L ⟨y,u,v',b5,b6,OC,OD,hl,hL,hp⟩;refine aj ?_;refine W.le ?_ hl hL;clear hl hL;rw[hp];(refine' cO)
  (refine' dV)
  .rfl
  .intro hc;cases hc
end Go.Pl
namespace Go.Pg
open Go.Pl
variable {st cQ:ak}{t:bX}{l q R:cV}{n':Nde}
def tx (st:ak)(l:cV)(j:Nat):ay:=bh st (l.getD j bq)
theorem xg (h:qy st t l q){j:Nat}(hj:t.many<=j):tx st l j=[]:=by
 unfold tx;rw[h.hl j hj,lj lh]
theorem IX (h:dM st cQ R)(hm:∀p∈cB l q,p∈R)(j:Nat):tx cQ l j=tx st l j:=
 mT λhh=>h.row _ (hm _ (dH _ (dw.2 ⟨jn hh,hh⟩)))
theorem oE (h:qy st t l q):hU st t=(List.range t.many.toNat).map (tx st l):=by
 unfold hU;rw[h.wide];have hl:=h.len.1;have hm:=h.mn;apply Ua;intro i;by_cases hi:i<t.many.toNat
 .rw[EJ,Ug hi,EJ,Ub hi,bk af];simp only[vE,tx,aY,bk (show i<l.length by omega),pH]
 .rw[rB (by simp;omega),rB (by simp;omega)]
theorem OG (h:qy st t l q):aC t.cC=true\/t.cC.level=t.depth:=by
 obtain⟨a,h1,h2⟩:=h.lv;have hd:=fu t.many;have oK:0<=t.depth:=by rw[h.dp];exact hd.1
 cases hh:aC t.cC with
 |true=>exact .inl rfl
 |false=>
  right
  cases hc:t.depth.toNat with
  |zero=>
   rw[hc] at h1;cases h1
   rw[h.l0 t.cC (by rw[h2];simp) hh];omega
  |succ n=>
   rw[hc] at h1;obtain⟨l',q',h3,h4,rfl⟩:=gD h1;obtain⟨k,r',h7,h8,rfl⟩:=gk h3;obtain⟨_,_,⟨h1,_⟩|⟨_,h9,_⟩⟩:=iA h7
   .rw[hh] at h1;cases h1
   .rw[h9];omega
theorem Hh {n:Nde}(h:qy st n.aN l q)(hk:n.kind=1\/n.kind=2)(hs:0<=n.size/\n.size<=16*fh n.kind)(hm:n.aN.many=dr n.size (fh n.kind))(hl:1<=n.bE/\n.bE<=if n.kind=2 then 1 else 9):ew n=true:=by
 have he:fh n.kind≠0:=by rcases hk with hk|hk<;>rw[hk]<;>decide
 have hp:fj n.kind n.size=dr n.size (fh n.kind):=by
  unfold fj;rw[if_neg];simp[he,fR];omega
 have xz:=h.mn;have hr:=OG h;simp only[ew,hp,<-hm,cv,pG,B6,lD,B5,fR,cl,mC];exact⟨⟨⟨⟨af,by simp⟩,by rw[h.dp];simp⟩,h.rt⟩,hl,hr⟩
theorem sj (h:qy st t l q)(hs:mz st (cB l q++R)):fg st t=true:=by
 obtain⟨a,h1,h2⟩:=h.lv;have hl:gN st t=some a:=by unfold gN;rw[qV,h1];rfl
 have xz:=h.mn;unfold fg;rw[hl];simp only[cv,cl,fR];refine⟨⟨⟨xz,h.dp⟩,h.rt⟩,?_⟩;have key:∀(b:cV)(i:Nat),(∀j,j<b.length->l.getD (i+j) bq=b.getD j bq)->(∀p∈b,p∈l)->kj (kI st t.many) i b=true:=by
  intro b;induction b with
  |nil=>intros;rfl
  |cons p b ih=>
   intro i hi hm;unfold kj;rw[cv];refine⟨?_,ih (i+1) (λj hj=>?_) (λx hx=>hm x (by simp[hx]))⟩
   .unfold kI;cases hh:aC p with
    |true=>simp
    |false=>
     have hp:=hm p (by simp);have IL:=hs.lv p (by simp only[cB,fJ];exact .inl (.inr (dw.2 ⟨hp,hh⟩)));have hrd:jP st p=some (rwAt st p):=by unfold jP;rw[if_neg (by simp[hh]),if_pos IL.1]
     have dA:(i:Int)<t.many:=by
      by_cases hc:(i:Int)<t.many
      .exact hc
      .have:=h.hl i af;have h0:=hi 0 (by simp);rw[wo,this] at h0;have:p=bq:=by simpa using h0.symm
       rw[this] at hh;cases hh
     simp[hrd,h.l0 p hp hh,IL.2,dA]
   .have:=hi (j+1) (by simp;omega);rw[show i+(j+1)=i+1+j by omega] at this;simpa using this
 refine key a 0 (λj hj=>?_) (λp hp=>by rw[h2];simp[hp]);rw[h2,ni,aY,wq hj,aY]
theorem OH {t t':bX}{s:ay}(h:qy st t l q)(hs:mz st (cB l q++R))(cX:s.length<=128)(hp:km st t s=(cQ,t',true)):
  ∃l' q',qy cQ t' l' q'/\mz cQ (cB l' q'++R)/\dM st cQ R/\t'.many=(if s=[] then 0 else 1)/\tx cQ l' 0=s:=by
 have xz:=h.mn;unfold km at hp;by_cases Qm:s=[]
 .subst Qm;have hb:dv (([]:ay).length+1) []=[]:=rfl;simp only[hb] at hp;rw[if_neg (by simp)] at hp;simp only[kZ] at hp;obtain⟨l',q',h1,h2,h3,h4,h5⟩:=BN h hs (by simp;omega) hp;exact⟨l',q',h1,h2,h3,by rw[h4];rfl,by unfold tx;rw[h5,if_neg (by simp)]⟩
 .have hb:dv (s.length+1) s=[s]:=by
   rw[dv,if_neg af,if_neg Qm]
  simp only[hb] at hp;rw[if_neg (by simp)] at hp;simp only[kZ] at hp;split at hp
  .cases hp
  .rename_i x st1 t1 hpe;split at hpe
   .rename_i eI t2 dK;cases hpe
    obtain⟨l1,q1,h1,h2,h3,h4,h5⟩:=yM h hs af dK;obtain⟨l',q',k1,k2,k3,k4,k5⟩:=BN h1 h2 (by rw[h4];simp;omega) hp;refine⟨l',q',k1,k2,h3.trans k3 (λr hr=>hr),by rw[k4,if_neg Qm];rfl,?_⟩;unfold tx;rw[k5,if_pos (by simp),h5,if_pos rfl]
   .cases hpe
theorem Mb {s:ay}(h:qy st t l q)(hm:t.many=(if s=[] then 0 else 1))(ht:tx st l 0=s):nZ st t=some s:=by
 unfold nZ;rw[oE h,hm];by_cases Qm:s=[]
 .rw[if_pos Qm,Qm];rfl
 .rw[if_neg Qm];show oP 1 0 [tx st l 0] []=some s;rw[ht];simp[oP,Qm]
def Xs (T:Nat->ay)(size many:Int):Prop:=∀j:Nat,(j:Int)<many->nk (T j)=T j/\((T j).length:Int)<=gi size j
theorem IY (s:ay):(s.dropWhile (·=0)).length<=s.length:=(List.dropWhile_sublist _).length_le
theorem Xt (s:ay):(nk s).length<=s.length:=by
 unfold nk;rw[Pv];have:=IY s.reverse;rw[Pv] at this;exact this
theorem uS (p:UInt8->Bool):∀s:ay,(s.dropWhile p).dropWhile p=s.dropWhile p
 |[]=>rfl
 |x::s=>by
  rw[List.dropWhile_cons];split
  .exact uS p s
  .rename_i h;rw[List.dropWhile_cons,if_neg h]
theorem S2 (s:ay):nk (nk s)=nk s:=by
 unfold nk;rw[List.reverse_reverse,uS]
theorem S3 {n:Nde}(h:qy st n.aN l q)(hs:mz st (cB l q++R))(hn:ew n=true)(hk:n.kind=1)(hf:Xs (tx st l) n.size n.aN.many):kJ st n=true:=by
 unfold kJ;rw[hn,hk,sj h hs,oE h];simp only[decide_true,Fv,xE];have key:∀(m k:Nat),((k+m:Nat):Int)<=n.aN.many->kJ.go n k ((List.range' k m).map (tx st l))=true:=by
  intro m;induction m with
  |zero=>intros;rfl
  |succ m ih=>
   intro k hk;rw[rD,xC,kJ.go,ih (k+1) af];have:=hf k af;simp[this.1,this.2]
 rw[List.range_eq_range'];exact key _ 0 (by have:=h.mn;omega)
theorem yX (size:Int)(h:0<=size):dr size 12*12<size+12/\size<=dr size 12*12/\0<=dr size 12:=by
 unfold dr;omega
theorem D5 (size:Int):∀(L:List ay)(k:Nat)(out:ay),(∀i,i<L.length->((L.getD i []).length:Int)<=gi size (k+i))->(L≠[]->(((k+L.length:Nat):Int)-1)*12<=size)->
  ((pQ size k L out).length:Int)=out.length+(min (((k+L.length:Nat):Int)*12) size-min ((k:Int)*12) size)
 |[],k,out,_,_=>by simp[pQ]
 |s::L,k,out,h,h2=>by
  have h0:=h 0 (by simp);rw[JL,wo] at h0;have h3:=h2 (by simp);rw[dh] at h3;rw[pQ,D5 size L (k+1) _ (λi hi=>?_) (λ_=>by omega)]
  .simp only[bR,hZ,rC,dh];have Xu:gi size k=min 12 (size-k*12):=rfl;generalize gi size k=g at *
   omega
  .have:=h (i+1) (by simp;omega);rw[Aq] at this;rw[show k+1+i=k+(i+1) by omega];exact this
theorem mW {n:Nde}(h:qy st n.aN l q)(h0:0<=n.size)(hm:n.aN.many=dr n.size 12)(hf:Xs (tx st l) n.size n.aN.many):((bA st n).length:Int)=n.size:=by
 have hp:=yX n.size h0;rw[<-hm] at hp;unfold bA;rw[oE h];have xz:=h.mn;by_cases hz:n.aN.many=0
 .rw[hz] at hp⊢;simp[pQ];omega
 .rw[D5 n.size _ 0 [] (λi hi=>?_) (λ_=>by simp;omega)]
  .simp;omega
  .simp at hi;have:=(hf i af).2;rw[aY,EJ,Ub af];simpa using this
theorem yY {s:ay}:∀(m k:Nat){st cQ:ak}{n n':Nde}{l q R:cV},qy st n.aN l q->mz st (cB l q++R)->k+m<=16->jZ s m k st n=(cQ,n',true)->
  ∃l' q',qy cQ n'.aN l' q'/\mz cQ (cB l' q'++R)/\dM st cQ R/\n'={n with aN:=n'.aN}/\(m=0->n'=n)/\(0<m->n'.aN.many=max n.aN.many ((k+m:Nat):Int))/\∀j:Nat,tx cQ l' j=if k<=j/\j<k+m then nk ((s.take (min s.length ((j+1)*12))).drop (j*12)) else tx st l j
 |0,k,st,cQ,n,n',l,q,R,h,hs,hk,hp=>by
  cases hp
  exact⟨l,q,h,hs,dM.refl _ _,rfl,λ_=>rfl,λh=>by omega,λj=>by rw[if_neg af]⟩
 |m+1,k,st,cQ,n,n',l,q,R,h,hs,hk,hp=>by
  rw[jZ] at hp;split at hp
  .rename_i st1 t1 dK;obtain⟨l1,q1,h1,h2,h3,h4,h5⟩:=yM h hs af dK;obtain⟨l',q',k1,k2,k3,k4,k5,k6,k7⟩:=yY m (k+1) (n:={n with aN:=t1}) h1 h2 af hp;refine⟨l',q',k1,k2,h3.trans k3 (λr hr=>hr),k4,λh=>by omega,λ_=>?_,λj=>?_⟩
   .rcases vC m with hm|hm
    .rw[k5 hm];subst hm;exact h4
    .rw[k6 hm];have:({n with aN:=t1}:Nde).aN.many=t1.many:=rfl;rw[this,h4];omega
   .rw[k7];by_cases hj:k+1<=j/\j<k+1+m
    .rw[if_pos hj,if_pos af]
    .rw[if_neg hj];have:tx st1 l1 j=if j=k then _ else tx st l j:=h5 j
     rw[this];by_cases hjk:j=k
     .rw[if_pos hjk,if_pos af,hjk]
     .rw[if_neg hjk,if_neg af]
  .cases hp
theorem S4 {s:ay}{j:Nat}(hj:j*12<=s.length):(((s.take (min s.length ((j+1)*12))).drop (j*12)).length:Int)<=gi s.length j:=by
 rw[gp,dg];unfold gi;omega
structure oU (st:ak)(n:Nde)(l q:cV):Prop where
 tr:qy st n.aN l q
 kd:n.kind=1
 sz:0<=n.size/\n.size<=192
 mn:n.aN.many=dr n.size 12
 lk:1<=n.bE/\n.bE<=9
 ft:Xs (tx st l) n.size n.aN.many
theorem oU.ok {n:Nde}(h:oU st n l q):ew n=true:=
 Hh h.tr (.inl h.kd) (by rw[h.kd];exact h.sz) (by rw[h.kd];exact h.mn) (by rw[h.kd];exact h.lk)
theorem D6 {n n':Nde}{s:ay}{a b:Nat}(h:qy st n.aN l q)(hs:mz st (cB l q++R))(hk:n.kind=1)(hl:1<=n.bE/\n.bE<=9)(lT:a<=b)(hb:b<16)(cX:s.length<=192)(hbs:b*12<s.length)
  (hm:max n.aN.many ((b:Int)+1)=dr s.length 12)(hf:∀j:Nat,(j:Int)<n.aN.many->(a<=j/\j<=b)\/(nk (tx st l j)=tx st l j/\((tx st l j).length:Int)<=gi s.length j))(hp:gz st n s a b=(cQ,n',true)):
  ∃l' q',oU cQ n' l' q'/\mz cQ (cB l' q'++R)/\dM st cQ R/\n'.bE=n.bE/\n'.kind=n.kind:=by
 unfold gz at hp;obtain⟨l',q',h1,h2,h3,h4,h5,h6,h7⟩:=yY (b+1-a) a (n:={n with size:=(s.length:Int)}) h hs af hp;have uN:n'.aN.many=max n.aN.many ((b:Int)+1):=by
  rw[h6 af];show max n.aN.many _=_;omega
 refine⟨l',q',⟨h1,by rw[h4];exact hk,by rw[h4];show 0<=(s.length:Int)/\(s.length:Int)<=192;omega,?_,by rw[h4];exact hl,?_⟩,h2,h3,by rw[h4],by rw[h4]⟩
 .have:n'.size=s.length:=by rw[h4]
  rw[uN,hm,this]
 .have iI:n'.size=s.length:=by rw[h4]
  rw[iI];intro j hj;rw[h7];by_cases RB:a<=j/\j<a+(b+1-a)
  .rw[if_pos RB];refine⟨S2 _,?_⟩;have:=Xt ((s.take (min s.length ((j+1)*12))).drop (j*12));have:=S4 (s:=s) (j:=j) af;omega
  .rw[if_neg RB];by_cases hjn:(j:Int)<n.aN.many
   .rcases hf j hjn with hc|hc
    .omega
    .exact hc
   .have hnil:tx st l j=[]:=xg h af;rw[hnil];refine⟨rfl,?_⟩;rw[uN] at hj;unfold gi;simp;omega
theorem Mc (all:ay)(at_:Nat)(s:ay):(gg all at_ s).length=max all.length (at_+s.length):=by
 unfold gg;simp only[bR,dg,gp,hZ,rC];omega
theorem IZ {n n':Nde}{at_:Nat}{s:ay}(h:oU st n l q)(hs:mz st (cB l q++R))(ha:at_+s.length<=192)(hp:fB st n at_ s=(cQ,n',true)):
  ∃l' q',oU cQ n' l' q'/\mz cQ (cB l' q'++R)/\dM st cQ R/\n'.bE=n.bE/\n'.kind=n.kind:=by
 unfold fB at hp;split at hp
 .cases hp;exact⟨l,q,h,hs,dM.refl _ _,rfl,rfl⟩
 .rename_i Qm;have Qs:0<s.length:=oX.2 Qm;have Bg:=mW h.tr h.sz.1 h.mn h.ft;have J7:=Mc (bA st n) at_ s;have iI:=h.sz;have xz:=h.mn;have Zr:=yX n.size h.sz.1;refine D6 h.tr hs h.kd h.lk ?_ ?_ ?_ ?_ ?_ ?_ hp
  .omega
  .omega
  .omega
  .omega
  .rw[xz];unfold dr;rw[J7];omega
  .intro j hj
   right
   have:=h.ft j hj;refine⟨this.1,?_⟩;have h2:=this.2;unfold gi at h2⊢;rw[J7];omega
theorem OI {n n':Nde}{size:Nat}(h:oU st n l q)(hs:mz st (cB l q++R))(ha:size<=192)(hp:fk st n size=(cQ,n',true)):
  ∃l' q',oU cQ n' l' q'/\mz cQ (cB l' q'++R)/\dM st cQ R/\n'.bE=n.bE/\n'.kind=n.kind:=by
 unfold fk at hp;have iI:=h.sz;have xz:=h.mn;have Zr:=yX n.size h.sz.1;have hp2:=yX size af;simp only at hp;split at hp
 .rename_i hle;have Xu:∀j:Nat,gi n.size j<=gi size j:=λj=>by unfold gi;omega
  split at hp
  .rename_i hmm;cases hp
   refine⟨l,q,⟨h.tr,h.kd,by show 0<=(size:Int)/\(size:Int)<=192;omega,hmm.symm,h.lk,λj hj=>?_⟩,hs,dM.refl _ _,rfl,rfl⟩;have:=h.ft j hj;exact⟨this.1,Int.le_trans this.2 (Xu j)⟩
  .rename_i hmm;rcases dK:nj st n.aN (dr (size:Int) 12-1).toNat [] with⟨st1,t1,ok⟩
   rw[dK] at hp;cases hp
   have hgt:n.aN.many<dr size 12:=by
    have:dr n.size 12<=dr size 12:=by unfold dr;omega
    omega
   have BD:dr size 12<=16:=by unfold dr;omega
   obtain⟨l',q',h1,h2,h3,h4,h5⟩:=yM h.tr hs af dK;have hm2:t1.many=dr size 12:=by rw[h4];omega
   refine⟨l',q',⟨h1,h.kd,by show 0<=(size:Int)/\(size:Int)<=192;omega,hm2,h.lk,λj hj=>?_⟩,h2,h3,rfl,rfl⟩;have hj:(j:Int)<t1.many:=hj;have e:tx st1 l' j=if j=(dr size 12-1).toNat then [] else tx st l j:=h5 j
   rw[e];have h0:(0:Int)<=gi size j:=by unfold gi;omega
   split
   .exact⟨rfl,h0⟩
   .by_cases hjn:(j:Int)<n.aN.many
    .have:=h.ft j hjn;exact⟨this.1,Int.le_trans this.2 (Xu j)⟩
    .rw[xg h.tr af];exact⟨rfl,h0⟩
 .rename_i hgt;have hle:dr size 12<=n.aN.many:=by rw[xz];unfold dr;omega
  split at hp
  .cases hp
  .rename_i st1 t1 oS;obtain⟨l1,q1,h1,h2,h3,h4,h5⟩:=BN h.tr hs af oS;split at hp
   .rename_i hz;cases hp
    refine⟨l1,q1,⟨h1,h.kd,by show 0<=(size:Int)/\(size:Int)<=192;omega,h4,h.lk,λj hj=>?_⟩,h2,h3,rfl,rfl⟩;have hj:(j:Int)<t1.many:=hj;rw[h4,hz] at hj;omega
   .rename_i hz;have Bg:=mW h.tr h.sz.1 h.mn h.ft;have qM:((bA st n).take size).length=size:=by rw[dg];omega
    obtain⟨l',q',k1,k2,k3,k4,k5⟩:=D6 (n:={n with aN:=t1,size:=(size:Int)}) h1 h2 h.kd h.lk (cy _) af af (by rw[qM];omega) (by
     show max t1.many _=_;rw[qM,h4];omega) (λj hj=>by
     have hj:(j:Int)<t1.many:=hj;rw[h4] at hj;by_cases YF:j=(dr size 12-1).toNat
     .left;omega
     .right
      have e:tx st1 l1 j=if(j:Int)<dr size 12 then tx st l j else []:=h5 j
      rw[e,if_pos hj];have:=h.ft j af;refine⟨this.1,?_⟩;have h2:=this.2;rw[qM];unfold gi at h2⊢;omega) hp
    exact⟨l',q',k1,k2,h3.trans k3 (λr hr=>hr),k4,k5⟩
end Go.Pg
namespace Go.Pg
open Go.Pl
variable {id k:Nat}{st cQ:ak}{l q:cV}{t t':bX}
structure NE where
 n:Nde
 es:List aT
 Q:cV
abbrev Gr:=Nat->Option NE
def gq (G:Gr)(k:Nat):cV:=match G k with
 |none=>[]
 |some e=>e.Q
def Md (G:Gr):cV:=(List.range 16).flatMap (gq G)
def rq (G:Gr)(id:Nat):cV:=(List.range 16).flatMap λk=>if k=id then [] else gq G k
def gI (G:Gr)(id:Nat)(e:Option NE):Gr:=λk=>if k=id then e else G k
theorem Hi (f:Nat->cV)(id:Nat):∀n:Nat,((List.range n).flatMap f).Perm ((if id<n then f id else [])++(List.range n).flatMap λk=>if k=id then [] else f k)
 |0=>by simp
 |n+1=>by
  have ih:=Hi f id n;rw[As,B3,B3];simp only[l3,qC,iH];by_cases h:n=id
  .subst h;rw[if_neg af] at ih;rw[if_pos af,if_pos rfl,iH];exact(B8 _ ih).trans (by rw[oa];exact List.perm_append_comm)
  .rw[if_neg h];by_cases h2:id<n
   .rw[if_pos h2] at ih;rw[if_pos af];refine(B8 _ ih).trans ?_;rw[kA]
   .rw[if_neg h2] at ih;rw[if_neg af];exact B8 _ ih
theorem sk (G:Gr)(h:id<16):(Md G).Perm (gq G id++rq G id):=by
 have:=Hi (gq G) id 16;rw[if_pos h] at this;exact this
theorem Me (G:Gr)(id:Nat)(e:Option NE):rq (gI G id e) id=rq G id:=by
 unfold rq
 congr 1
 funext k
 split
 .rfl
 .rename_i h;unfold gq gI;rw[if_neg h]
theorem Xv (G:Gr)(id:Nat)(e:Option NE):gq (gI G id e) id=match e with
 |none=>[]
 |some e=>e.Q:=by unfold gq gI;rw[if_pos rfl]
theorem gq_mem {G:Gr}(hk:k<16):∀p∈gq G k,p∈Md G:=λp hp=>oW.2 ⟨k,mH.2 hk,hp⟩
theorem OJ {G:Gr}(hk:k<16)(h:k≠id):∀p∈gq G k,p∈rq G id:=λp hp=>oW.2 ⟨k,mH.2 hk,by rw[if_neg h];exact hp⟩
structure Xw (st:ak)(n:Nde)(es:List aT)(l q:cV):Prop where
 tr:qy st n.aN l q
 kd:n.kind=2
 eo:bz es=true
 sz:n.size=(a8 es).length
 lk:n.bE=1
 mn:n.aN.many=(if a8 es=[] then 0 else 1)
 tx0:tx st l 0=a8 es
def Jv (st:ak)(e:NE):Prop:=∃l q,e.Q=cB l q/\((e.es=[]/\oU st e.n l q)\/Xw st e.n e.es l q)
theorem Xw.ok {n:Nde}{es:List aT}(h:Xw st n es l q):ew n=true:=by
 have hl:=(lJ h.eo).1;refine Hh h.tr (.inr h.kd) ?_ ?_ ?_
 .rw[h.kd,h.sz,show fh 2=128 from rfl];omega
 .rw[h.kd,h.mn,h.sz,show fh 2=128 from rfl];unfold dr;by_cases he:a8 es=[]
  .rw[if_pos he,he];rfl
  .rw[if_neg he];have:=oX.2 he;omega
 .rw[h.kd,h.lk];simp
theorem Jv.ok {e:NE}(h:Jv st e):ew e.n=true:=by
 obtain⟨l,q,_,⟨_,h⟩|h⟩:=h
 .exact h.ok
 .exact h.ok
theorem Jv.ext {e:NE}{R:cV}(h:Jv st e)(hx:dM st cQ R)(hm:∀p∈e.Q,p∈R):Jv cQ e:=by
 obtain⟨l,q,hq,h⟩:=h;rw[hq] at hm;have CO:∀{t:bX},qy st t l q->qy cQ t l q:=λh=>h.ext (λp hp=>hx.row p (hm p (di _ hp))) (by rw[hx.tx];omega)
 have AS:∀j,tx cQ l j=tx st l j:=λj=>IX hx hm j
 refine⟨l,q,hq,?_⟩;rcases h with⟨h0,h⟩|h
 .exact .inl ⟨h0,CO h.tr,h.kd,h.sz,h.mn,h.lk,λj hj=>by rw[AS];exact h.ft j hj⟩
 .exact .inr ⟨CO h.tr,h.kd,h.eo,h.sz,h.lk,h.mn,by rw[AS];exact h.tx0⟩
def At (st:ak)(l:cV)(G:Gr)(k:Nat):Prop:=match G k with
 |none=>tx st l k=[]
 |some e=>tx st l k=gf e.n/\Jv st e
theorem At.some {G:Gr}{e:NE}(h:At st l G k)(he:G k=some e):tx st l k=gf e.n/\Jv st e:=by
 unfold At at h;rw[he] at h;exact h
theorem At.none {G:Gr}(h:At st l G k)(he:G k=none):tx st l k=[]:=by
 unfold At at h;rw[he] at h;exact h
theorem At.ext {l l' R:cV}{G:Gr}(h:At st l G k)(hx:dM st cQ R)(ht:tx cQ l' k=tx st l k)(hm:∀p∈gq G k,p∈R):At cQ l' G k:=by
 unfold At at h⊢;unfold gq at hm;cases hg:G k with
 |none=>rw[hg] at h;simp only at h⊢;rw[ht,h]
 |some e=>
  rw[hg] at h hm;simp only at h hm⊢;exact⟨by rw[ht];exact h.1,h.2.ext hx hm⟩
structure FX (st:ak)(t:bX)(G:Gr)(id:Nat)(Q:cV)(l q:cV):Prop where
 tr:qy st t l q
 so:mz st (cB l q++(Q++rq G id))
 at_:∀k,k≠id->At st l G k
 hi:∀k,16<=k->G k=none
structure qY (st:ak)(t:bX)(G:Gr)(l q:cV):Prop where
 tr:qy st t l q
 so:mz st (cB l q++Md G)
 at_:∀k,At st l G k
 hi:∀k,16<=k->G k=none
theorem qY.fx {G:Gr}(h:qY st t G l q)(hid:id<16):FX st t G id (gq G id) l q:=
 ⟨h.tr,h.so.cR (oY _ (sk G hid)),λk _=>h.at_ k,h.hi⟩
theorem OK {G:Gr}{e:Option NE}(h:∀k,16<=k->G k=none)(hid:id<16):∀k,16<=k->gI G id e k=none:=λk hk=>by
 unfold gI;rw[if_neg af];exact h k hk
theorem FX.step {G:Gr}{Q Q' l q:cV}(h:FX st t G id Q l q)(hx:dM st cQ (cB l q++rq G id))(hs:mz cQ (Q'++(cB l q++rq G id))):FX cQ t G id Q' l q:=by
 refine⟨h.tr.ext (λp hp=>hx.row p (by simp[cB,hp])) (by rw[hx.tx];omega),hs.cR (od _ _ _),λk hk=>?_,h.hi⟩;by_cases I0:k<16
 .exact(h.at_ k hk).ext hx (IX hx (λp hp=>di _ hp) k) (λp hp=>dH _ (OJ I0 hk p hp))
 .have hn:=h.hi k af;have:=(h.at_ k hk).none hn;unfold At;rw[hn];simp only;rw[IX hx (λp hp=>di _ hp) k,this]
theorem Xx {G:Gr}{e:NE}(h:FX st t G id e.Q l q)(hid:id<16)(he:Jv st e)(hp:pc st t id e.n=(cQ,t',true)):∃l' q',qY cQ t' (gI G id (some e)) l' q':=by
 unfold pc at hp;obtain⟨l',q',h1,h2,h3,h4,h5⟩:=yM h.tr h.so hid hp;refine⟨l',q',h1,h2.cR ?_,λk=>?_,OK h.hi hid⟩
 .refine oY _ ?_;have:=sk (gI G id (some e)) hid;rw[Me,Xv] at this;exact this.symm
 .by_cases hk:k=id
  .subst hk;unfold At gI;rw[if_pos rfl];simp only;refine⟨?_,he.ext h3 (λp hp=>di _ hp)⟩;have:tx cQ l' k=if k=k then gf e.n else tx st l k:=h5 k
   rw[this,if_pos rfl]
  .have e1:At st l (gI G id (some e)) k:=by
    have:=h.at_ k hk;unfold At gI at *
    rw[if_neg hk];exact this
   refine e1.ext h3 ?_ (λp hp=>?_)
   .have:tx cQ l' k=if k=id then gf e.n else tx st l k:=h5 k
    rw[this,if_neg hk]
   .have hg:gq (gI G id (some e)) k=gq G k:=by unfold gq gI;rw[if_neg hk]
    rw[hg] at hp;by_cases I0:k<16
    .exact dH _ (OJ I0 hk p hp)
    .unfold gq at hp;rw[h.hi k af] at hp;cases hp
theorem qY.hU {G:Gr}(h:qY st t G l q)(k:Nat):(hU st t).getD k []=tx st l k:=by
 rw[oE h.tr];have xz:=h.tr.mn;by_cases hk:k<t.many.toNat
 .rw[aY,EJ,Ub hk];rfl
 .rw[aY,rB (by simp;omega),xg h.tr af];rfl
theorem At.get {G:Gr}(h:At st l G k):eO (tx st l k)=(G k).map (·.n):=by
 cases hg:G k with
 |none=>rw[h.none hg,uH];rfl
 |some e=>rw[(h.some hg).1,Ln (h.some hg).2.ok];rfl
theorem qY.iY {G:Gr}(h:qY st t G l q)(k:Nat):iY st t k=(G k).map (·.n):=by
 unfold Go.Pl.iY;have xz:=h.tr.mn;by_cases hk:(k:Int)<t.many
 .rw[if_neg (by simp[fR];omega)];unfold RI;rw[h.tr.wide,tX];exact(h.at_ k).get
 .rw[if_pos (by simp[fR];omega)];have:=(h.at_ k).get;rw[xg h.tr af,uH] at this;exact this
theorem qY.lt {G:Gr}(h:qY st t G l q){e:NE}(he:G k=some e):(k:Int)<t.many/\k<16:=by
 have xz:=h.tr.mn;have h1:k<16:=by
  by_cases hk:k<16
  .exact hk
  .rw[h.hi k af] at he;cases he
 refine⟨?_,h1⟩;by_cases hk:(k:Int)<t.many
 .exact hk
 .have:=((h.at_ k).some he).1;rw[xg h.tr af] at this;have h2:=(qT ((h.at_ k).some he).2.ok).1;rw[<-this] at h2;simp at h2
def mX (o:Option NE):Option (List aT):=match o with
 |none=>none
 |some e=>if e.n.kind=2 then some e.es else none
theorem D7 (st:ak):bJ st bu=none:=by
 unfold bJ;rw[if_pos];rw[show ew bu=false from by decide];rfl
theorem Jv.bJ {e:NE}{R:cV}(h:Jv st e)(hs:mz st (e.Q++R)):bJ st e.n=if e.n.kind=2 then some e.es else none:=by
 have fZ:=h.ok;obtain⟨l,q,hq,⟨_,hf⟩|hd⟩:=h
 .rw[if_neg (by rw[hf.kd];decide)];unfold Go.Pl.bJ;rw[if_pos];rw[hf.kd];simp
 .rw[if_pos hd.kd];rw[hq] at hs;unfold Go.Pl.bJ;rw[if_neg (by rw[fZ,hd.kd,sj hd.tr hs];simp),Mb hd.tr hd.mn hd.tx0];simp only;rw[if_neg (by rw[hd.sz];simp),Dq hd.eo]
theorem qY.bJ {G:Gr}(h:qY st t G l q)(k:Nat):bJ st ((Go.Pl.iY st t k).getD bu)=mX (G k):=by
 rw[h.iY];cases hg:G k with
 |none=>exact D7 st
 |some e=>
  have hk:=(h.lt hg).2;refine((h.at_ k).some hg).2.bJ (R:=rq G k++cB l q) (h.so.cR ?_);refine(oY _ (sk G hk)).trans ?_;have e1:gq G k=e.Q:=by unfold gq;rw[hg]
  rw[e1];refine List.perm_append_comm.trans ?_;rw[kA]
theorem D8 {G:Gr}(h:qY st t G l q)(hf:uq st t=some id):id<16/\G id=none:=by
 unfold uq at hf;obtain⟨h1,h2,h3⟩:=kP hf;refine⟨af,?_⟩;simp only[cl] at h3;rw[h.hU] at h3;cases hg:G id with
 |none=>rfl
 |some e=>
  have h4:=((h.at_ id).some hg).1;rw[h3] at h4;have h5:=(qT ((h.at_ id).some hg).2.ok).1;rw[<-h4] at h5;simp at h5
theorem Hj (AE:Int):∀(L:List ay)(k n:Nat),n<=k->(n<=lV AE k n L/\lV AE k n L<=k+L.length)/\∀i,i<L.length->lV AE k n L<=k+i->((k+i:Nat):Int)≠AE->L.getD i []=[]
 |[],k,n,h=>by simp[lV];omega
 |s::L,k,n,h=>by
  unfold lV;have ih:=Hj AE L (k+1) (if(decide ((k:Int)≠AE)&&decide (s≠[]))=true then k+1 else n) (by split<;>omega);obtain⟨⟨h1,h2⟩,h3⟩:=ih;refine⟨⟨?_,by rw[dh];omega⟩,λi hi hle gx=>?_⟩
  .refine ku ?_ h1;split<;>omega
  .cases i with
   |zero=>
    rw[JL];by_cases hs:s=[]
    .exact hs
    .exfalso;rw[if_pos (by simp[hs];simpa using gx)] at h1 hle;omega
   |succ i=>
    rw[Aq];exact h3 i (by simp at hi;omega) (by rw[show k+1+i=k+(i+1) by omega];exact hle) (by rw[show k+1+i=k+(i+1) by omega];exact gx)
theorem I1 {G:Gr}{e:NE}(h:qY st t G l q)(he:G id=some e)(hp:dX st t id=(cQ,t',true)):∃l' q',qY cQ t' (gI G id none) l' q':=by
 obtain⟨dA,hid⟩:=h.lt he;have xz:=h.tr.mn;have hn:=((h.at_ id).some he).2;unfold dX at hp;have hgn:(iY st t id).getD bu=e.n:=by rw[h.iY,he];rfl
 simp only[hgn,tX] at hp;have bP:(wJ st e.n.aN).Perm e.Q:=by
  obtain⟨lx,qx,hq,hh⟩:=hn;rw[hq];rcases hh with⟨_,hf⟩|hd
  .exact IN hf.tr
  .exact IN hd.tr
 have M4:=h.fx hid;have Xy:gq G id=e.Q:=by unfold gq;rw[he]
 have tP:mz st ((wJ st e.n.aN).filter nh++(cB l q++rq G id)):=by
  have h1:mz st (wJ st e.n.aN++(cB l q++rq G id)):=M4.so.cR (by
   rw[Xy];refine(od _ _ _).trans ?_;exact B8 _ bP.symm)
  exact h1.sub (JF FC (Fu _))
 obtain⟨f1,f2⟩:=qb tP;have S5:FX (dB (wJ st e.n.aN) st) t G id [] l q:=M4.step f2 f1;have Hk:=Hj (id:Int) (hU st t) 0 0 (cy _);have qM:(hU st t).length=t.many.toNat:=by rw[oE h.tr];simp
 split at hp
 .cases hp
 .rename_i st1 t1 dK;obtain⟨l1,q1,h1,h2,h3,h4,h5⟩:=yM S5.tr S5.so hid dK;have hm1:t1.many=t.many:=by rw[h4];omega
  have hla:qO st t id<=t.many.toNat:=by
   have:=Hk.1.2;rw[qM] at this;unfold qO;omega
  obtain⟨l',q',k1,k2,k3,k4,k5⟩:=BN h1 h2 (by rw[hm1];omega) hp;have AS:∀k,k≠id->tx cQ l' k=tx st l k:=λk hk=>by
   have e1:tx cQ l' k=if(k:Int)<(qO st t id:Nat) then tx st1 l1 k else []:=k5 k
   have e2:tx st1 l1 k=if k=id then [] else tx (dB (wJ st e.n.aN) st) l k:=h5 k
   have e3:tx (dB (wJ st e.n.aN) st) l k=tx st l k:=IX f2 (λp hp=>di _ hp) k;rw[e1,e2,if_neg hk,e3];split
   .rfl
   .rename_i Ze;by_cases hkm:k<t.many.toNat
    .have:=Hk.2 k (by rw[qM];exact hkm) (by
      show qO st t id<=0+k;omega) af
     rw[h.hU] at this;exact this.symm
    .rw[xg h.tr af]
  refine⟨l',q',k1,k2.cR ?_,λk=>?_,OK h.hi hid⟩
  .refine oY _ ?_;have:=sk (gI G id none) hid;rw[Me,Xv] at this;exact this.symm
  .by_cases hk:k=id
   .subst hk;unfold At gI;rw[if_pos rfl];simp only;have e1:tx cQ l' k=if(k:Int)<(qO st t k:Nat) then tx st1 l1 k else []:=k5 k
    have e2:tx st1 l1 k=if k=k then [] else tx (dB (wJ st e.n.aN) st) l k:=h5 k
    rw[e1,e2,if_pos rfl];split<;>rfl
   .have hx:dM st cQ (rq G id):=(f2.mono (λp hp=>dH _ hp)).trans ((h3.mono (Q':=rq G id) (λp hp=>dH _ hp)).trans (k3.mono (Q':=rq G id) λp hp=>dH _ hp) (λp hp=>hp)) (λp hp=>hp);have e1:At st l (gI G id none) k:=by
     have:=h.at_ k;unfold At gI at *
     rw[if_neg hk];exact this
    refine e1.ext hx (AS k hk) (λp hp=>?_);have hg:gq (gI G id none) k=gq G k:=by unfold gq gI;rw[if_neg hk]
    rw[hg] at hp;by_cases I0:k<16
    .exact OJ I0 hk p hp
    .unfold gq at hp;rw[h.hi k af] at hp;cases hp
end Go.Pg
