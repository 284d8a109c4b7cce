/- Lemmas of the proof. No conditions. -/
import Derived.Test.YtjaeddbblleomaaGreatDoorAf8
set_option maxRecDepth 100000
set_option maxHeartbeats 4000000
set_option linter.unusedVariables false
set_option linter.unusedSimpArgs false
open Go.Proofs.Tryz
namespace Go.Pl
open Go Go.Ev Go.Lg Go.Proofs
theorem Pb (s:St)(a:aH)(code:ay)(c:Nat)(hr:uW s a code)(hv:XS code.length c):bO 3 [.slice a code.length c] s (ai a) (.bool true):=by
 refine' zaW
 have hv':XS code.length c:=hv;refine aO f3 ?_;(repeat' (first|refine' aX|((with_reducible apply WO.callDr);exact aD;(intro s h1 h2;exact Fj s _ _ _ h1 h2);assumption;assumption;intro _ _ f o an cn a0 p0 c0 at_ ct hD hO hs _ _)|refine' ar|fail))
 all_goals try refine cI
 ·(refine' av)
  rfl
 by_cases fZ:f.ok=true
 .have hOk:=(IS hD.P).1 fZ;have hwi:=implG hD hO hOk an cn at_ ct;have hws:=specG hD hO hOk an cn at_ ct;have cX:=Yr hOk o;have nf:=hD.nl;have qM:=hD.tl;by_cases tN:(kT f o).2=0/\o.kind<=2
  .obtain⟨m1,m2,m3⟩:=TG hD hO hOk tN;obtain⟨f1,f2,f3⟩:=TF f;obtain⟨k1,k2⟩:=tN;generalize f.bI=fr at *
   have NX:∀s a c a' c',bY s a a' (kT f o).1->bO 8 [kr a c a' c' (kT f o).1,sv o.ag] s (jh a a') (.tuple ⟨[iv (fr:Int),.bool true]⟩):=λs a c a' c' hr=>by
    have:=Jm s a c a' c' (kT f o).1 m2 m1 o.ag hr;rw[m3,show max (fr:Int) 0=(fr:Int) by omega,dO (show(0:Int)<=(fr:Int) by omega)] at this;exact this
   clear m1 m2 m3 hOk fZ hr hv;rw[k1] at hwi hws;clear k1;have Kl:=λs a c a' c' a2 c2 Eo Yd=>Ah s a c a' c' a2 c2 Eo Yd (kT f o).1.ad (kT f o).1.ae af af
   generalize(kT f o).1=F at *
   (repeat' (first|refine' aX|refine' zc270|refine' zc271|refine' Wu|((with_reducible apply WO.kM);exact aD;(intro s hr;exact NX s _ _ _ _ hr);exact jx;intro _ _ _ _)|refine' ar|fail))
   all_goals try refine cI
   refine W.bH (λm l L=>∃(i b3:Nat),Le [(3,aP b3),(9,iv (fr:Int)),(10,.bool true),(11,iv (i:Int))] l/\cr [.box b3 (fT an cn f.ad at_ ct f.ae) 26 false,cj a0 c0 p0,dD at_ ct f.ae] L/\m=f.ae.length-i/\i<=f.ae.length)
    (λl L=>∃(b3:Nat),Le [(3,aP b3),(9,iv (fr:Int)),(10,.bool true)] l/\cr [.box b3 (fT an cn f.ad at_ ct f.ae) 26 false,cj a0 c0 p0,dD at_ ct f.ae] L) _ ⟨0,_,bd,aq,rfl,af⟩ ?_ ?_
   .rintro m l L ⟨i,b3,hl,hL,rfl,g1⟩;refine W.le ?_ hl hL;clear hl hL hwi hws NX Kl;by_cases hi:i<f.ae.length
    .have EG:=f1 i hi;(refine' cO)
     all_goals try refine cI
     all_goals exact⟨_,af,i+1,b3,bd,aq,rfl,af⟩
    ·(refine' cO)
     all_goals try refine cI
     all_goals exact⟨b3,bd,aq⟩
   .rintro l L ⟨b3,hl,hL⟩;(repeat(first|(with_reducible refine aj ?_)|(with_reducible refine cP ?_)|(with_reducible refine dC ?_)))
    refine W.le ?_ hl hL;clear hl hL hwi hws NX Kl;(refine' cO)
    all_goals try refine cI
    refine W.bH (λm l L=>∃(n b3:Nat),Le [(3,aP b3),(9,iv (fr:Int)),(10,.bool true),(12,iv (n:Int))] l/\cr [.box b3 (fT an cn f.ad at_ ct f.ae) 26 false,cj a0 c0 p0,dD at_ ct f.ae] L/\m=fr-n/\n<=fr)
     (λl L=>Le [(10,.bool true)] l/\cr [] L) _ ⟨0,b3,bd,aq,rfl,af⟩ ?_ ?_
    .rintro m l L ⟨n,b3,hl,hL,rfl,g1⟩;refine W.le ?_ hl hL;clear hl hL;by_cases hn:n<fr
     .obtain⟨j,hj,hjn⟩:=f2 n hn;(refine' cO)
      all_goals try refine cI
      refine W.bH (λm l L=>∃(i b3:Nat)(B:Bool),Le [(3,aP b3),(9,iv (fr:Int)),(10,.bool true),(12,iv (n:Int)),(13,.bool B),(14,iv (i:Int))] l/\cr [.box b3 (fT an cn f.ad at_ ct f.ae) 26 false,cj a0 c0 p0,dD at_ ct f.ae] L/\m=f.ae.length-i/\i<=f.ae.length/\(j<i->B=true))
       (λl L=>∃b3:Nat,Le [(3,aP b3),(9,iv (fr:Int)),(10,.bool true),(12,iv (n:Int)),(13,.bool true)] l/\cr [.box b3 (fT an cn f.ad at_ ct f.ae) 26 false,cj a0 c0 p0,dD at_ ct f.ae] L) _ ⟨0,b3,_,bd,aq,rfl,af,λh=>by omega⟩ ?_ ?_
      .rintro m l L ⟨i,b3,B,hl,hL,rfl,g2,g3⟩;refine W.le ?_ hl hL;clear hl hL;by_cases hi:i<f.ae.length
       ·(refine' cO)
        all_goals try refine cI
        all_goals(refine⟨_,af,i+1,b3,_,bd,aq,rfl,af,λh=>?_⟩;first|rfl|(rcases JO.1 h with h|rfl;(focus(have:=g3 h;simp_all;done));exact dO hjn))
       .have hB:=g3 af;subst hB;(refine' cO)
        all_goals try refine cI
        all_goals exact⟨b3,bd,aq⟩
      .rintro l L ⟨b3,hl,hL⟩;(repeat(first|(with_reducible refine aj ?_)|(with_reducible refine cP ?_)|(with_reducible refine dC ?_)))
       refine W.le ?_ hl hL;clear hl hL;(refine' cO)
       all_goals try refine cI
       all_goals exact⟨_,af,n+1,b3,bd,aq,rfl,af⟩
     ·(refine' cO)
      all_goals try refine cI
      all_goals exact⟨bd,aq⟩
    .rintro l L ⟨hl,hL⟩;(repeat(first|(with_reducible refine aj ?_)|(with_reducible refine cP ?_)|(with_reducible refine dC ?_)))
     refine W.le ?_ hl hL;clear hl hL;(refine' cO)
     all_goals try refine cI
     all_goals(refine' av)
     all_goals rfl
  .clear fZ hOk hr hv;have Kl:=λs a c a' c' a2 c2 Eo Yd=>Ah s a c a' c' a2 c2 Eo Yd (kT f o).1.ad (kT f o).1.ae af af
   generalize(kT f o).1=F at *
   generalize(kT f o).2=cd at *
   have Rk:(!decide (cd=cd))=false:=by rw[dO rfl];rfl
   have hcd:decide (cd=cd)=true:=dO rfl;(repeat' (first|refine' aX|refine' zc270|refine' zc271|refine' Wu|refine' ar|fail))
   all_goals try refine cI
   all_goals(refine' av)
   all_goals rfl
 .have hok0:f.ok=false:=Bool.eq_false_iff.2 fZ;have hik:T2 f=false:=by rw[iok_ok hD.P];exact hok0
  have TR:∀s,bY s an at_ f->bO 5 [kr an cn at_ ct f,ov o] s (jh an at_) (.tuple ⟨[.agg ⟨fT none 0 [] none 0 []⟩,iv 1]⟩):=λs hr=>MJ s an cn at_ ct f o hD hik hr
  have tW:∀s,bY s an at_ f->bO 6 [kr an cn at_ ct f,ov o] s (jh an at_) (.tuple ⟨[.agg ⟨fT none 0 [] none 0 []⟩,iv 1]⟩):=λs hr=>Es s an cn at_ ct f o hD hok0 hr
  have Kl:∀s a c a' c' a2 c2 Eo Yd,bM s a ([]:dx).length 2 (ah ([]:dx))->bM s a' ([]:eV).length 3 (ah ([]:eV))->bM s a2 ([]:dx).length 2 (ah ([]:dx))->bM s Eo ([]:eV).length 3 (ah ([]:eV))->bO 7 [.agg ⟨fT a c [] a' c' []⟩,.agg ⟨fT a2 c2 [] Eo Yd []⟩] s ((ai a++ai a')++(ai a2++ai Eo)) (.bool true):=λs a c a' c' a2 c2 Eo Yd h1 h2 h3 h4=>Ah s a c a' c' a2 c2 Eo Yd [] [] (jG _) (jG _) h1 h2 h3 h4
  have hz1:Rd ⟨s,([]:bn).flatMap It.aS,ai a⟩ none ([]:dx).length 2 (ah ([]:dx)):=Rd.nil0;have hz2:Rd ⟨s,([]:bn).flatMap It.aS,ai a⟩ none ([]:eV).length 3 (ah ([]:eV)):=Rd.nil0;clear hik hok0 fZ hr hv;(repeat' (first|refine' aX|((with_reducible apply WO.kM);exact aD;(intro s hr;exact TR s hr);exact jx;intro _ _ _ _)|((with_reducible apply WO.kM);exact aD;(intro s hr;exact tW s hr);exact jx;intro _ _ _ _)|refine' Wu|refine' ar|fail))
  all_goals try refine cI
  all_goals(refine' av)
  all_goals rfl
end Go.Pl
namespace Go.Proofs
open Go.Shelf
def Tryz.MO:Go.Shelf.Ren:=⟨λ|213=>89|265=>128|n=>n,λ|9=>9|3=>3|n=>n,λ|n=>n⟩
theorem Tryz.lays213:Go.Proofs.Lays.n213 Tryz.prog Tryz.MO:={
 mixed:=by kernel_rfl
 f213:=Tryz.func89.trans (gb some cU)
 f265:=Tryz.func128.trans (gb some cU)
 t3:=Tryz.underlying3
 a3:=Tryz.isAgg3
 z3:=Tryz.sizeOf3
 v3:=Tryz.zeroValue3
 t9:=Tryz.underlying9
 a9:=Tryz.isAgg9
 z9:=Tryz.sizeOf9
 v9:=Tryz.zeroValue9}
def Tryz.MP:Go.Shelf.Ren:=⟨λ|106=>52|213=>89|265=>128|n=>n,λ|9=>9|3=>3|n=>n,λ|n=>n⟩
theorem Tryz.lays106:Go.Proofs.Lays.n106 Tryz.prog Tryz.MP:={
 mixed:=by kernel_rfl
 f106:=Tryz.func52.trans (gb some cU)
 f213:=Tryz.func89.trans (gb some cU)
 f265:=Tryz.func128.trans (gb some cU)
 t3:=Tryz.underlying3
 a3:=Tryz.isAgg3
 z3:=Tryz.sizeOf3
 v3:=Tryz.zeroValue3
 t9:=Tryz.underlying9
 a9:=Tryz.isAgg9
 z9:=Tryz.sizeOf9
 v9:=Tryz.zeroValue9}
def Tryz.Pc:Go.Shelf.Ren:=⟨λ|5=>63|7=>106|n=>n,λ|22=>3|3=>3|4=>4|n=>n,λ|n=>n⟩
theorem Tryz.cmpInt:Go.Proofs.SlLaysC2.n5 Tryz.prog Tryz.Pc:={
 mixed:=by kernel_rfl
 f5:=⟨Tryz.f63.name,by decide,Tryz.func63.trans (gb some cU)⟩
 f7:=⟨Tryz.f106.name,by decide,Tryz.func106.trans (gb some cU)⟩
 t3:=Tryz.underlying3
 a3:=Tryz.isAgg3
 z3:=Tryz.sizeOf3
 v3:=Tryz.zeroValue3
 t4:=Tryz.underlying4
 a4:=Tryz.isAgg4
 z4:=Tryz.sizeOf4
 v4:=Tryz.zeroValue4
 t22:=Tryz.underlying3
 a22:=Tryz.isAgg3
 z22:=Tryz.sizeOf3
 v22:=Tryz.zeroValue3}
def Tryz.A7:Go.Shelf.Ren:=⟨λ|105=>74|212=>112|99=>113|165=>114|166=>115|170=>116|169=>117|263=>163|264=>164|206=>165|240=>166|241=>167|276=>199|277=>200|n=>n,λ|9=>9|3=>3|4=>4|20=>20|0=>0|46=>134|109=>153|5=>5|72=>157|76=>161|51=>205|146=>206|53=>208|148=>209|70=>155|37=>22|75=>160|127=>211|164=>235|80=>163|n=>n,λ|n=>n⟩
theorem Tryz.zl:Go.Proofs.Lays.n105 Tryz.prog Tryz.A7:={
 mixed:=by kernel_rfl
 f99:=Tryz.func113.trans (gb some cU)
 f105:=Tryz.func74.trans (gb some cU)
 f165:=Tryz.func114.trans (gb some cU)
 f166:=Tryz.func115.trans (gb some cU)
 f169:=Tryz.func117.trans (gb some cU)
 f170:=Tryz.func116.trans (gb some cU)
 f206:=Tryz.func165.trans (gb some cU)
 f212:=Tryz.func112.trans (gb some cU)
 f240:=Tryz.func166.trans (gb some cU)
 f241:=Tryz.func167.trans (gb some cU)
 f263:=Tryz.func163.trans (gb some cU)
 f264:=Tryz.func164.trans (gb some cU)
 f276:=Tryz.func199.trans (gb some cU)
 f277:=Tryz.func200.trans (gb some cU)
 t0:=Tryz.underlying0
 a0:=Tryz.isAgg0
 z0:=Tryz.sizeOf0
 v0:=Tryz.zeroValue0
 t3:=Tryz.underlying3
 a3:=Tryz.isAgg3
 z3:=Tryz.sizeOf3
 v3:=Tryz.zeroValue3
 t4:=Tryz.underlying4
 a4:=Tryz.isAgg4
 z4:=Tryz.sizeOf4
 v4:=Tryz.zeroValue4
 t5:=Tryz.underlying5
 a5:=Tryz.isAgg5
 z5:=Tryz.sizeOf5
 v5:=Tryz.zeroValue5
 t9:=Tryz.underlying9
 a9:=Tryz.isAgg9
 z9:=Tryz.sizeOf9
 v9:=Tryz.zeroValue9
 t20:=Tryz.underlying20
 a20:=Tryz.isAgg20
 z20:=Tryz.sizeOf20
 v20:=Tryz.zeroValue20
 t37:=Tryz.underlying22
 a37:=Tryz.isAgg22
 z37:=Tryz.sizeOf22
 v37:=Tryz.zeroValue22
 t46:=Tryz.underlying134
 a46:=Tryz.isAgg134
 z46:=Tryz.sizeOf134
 v46:=Tryz.zeroValue134
 t51:=Tryz.underlying205
 a51:=Tryz.isAgg205
 z51:=Tryz.sizeOf205
 v51:=Tryz.zeroValue205
 t53:=Tryz.underlying208
 a53:=Tryz.isAgg208
 z53:=Tryz.sizeOf208
 v53:=Tryz.zeroValue208
 t70:=Tryz.underlying155
 a70:=Tryz.isAgg155
 z70:=Tryz.sizeOf155
 v70:=Tryz.zeroValue155
 t72:=Tryz.underlying157
 a72:=Tryz.isAgg157
 z72:=Tryz.sizeOf157
 v72:=Tryz.zeroValue157
 t75:=Tryz.underlying160
 a75:=Tryz.isAgg160
 z75:=Tryz.sizeOf160
 v75:=Tryz.zeroValue160
 t76:=Tryz.underlying161
 a76:=Tryz.isAgg161
 z76:=Tryz.sizeOf161
 v76:=Tryz.zeroValue161
 t109:=Tryz.underlying153
 a109:=Tryz.isAgg153
 z109:=Tryz.sizeOf153
 v109:=Tryz.zeroValue153
 t127:=Tryz.underlying211
 a127:=Tryz.isAgg211
 z127:=Tryz.sizeOf211
 v127:=Tryz.zeroValue211
 t146:=Tryz.underlying206
 a146:=Tryz.isAgg206
 z146:=Tryz.sizeOf206
 v146:=Tryz.zeroValue206
 t148:=Tryz.underlying209
 a148:=Tryz.isAgg209
 z148:=Tryz.sizeOf209
 v148:=Tryz.zeroValue209
 t164:=Tryz.underlying235
 a164:=Tryz.isAgg235
 z164:=Tryz.sizeOf235
 v164:=Tryz.zeroValue235}
theorem Tryz.zm:Builder.Extra Tryz.prog Tryz.A7:={
 sizeBuilder:=by kernel_rfl
 liesBuilder:=by kernel_rfl
 t5:=Tryz.zl.t5
 a5:=Tryz.zl.a5
 z5:=Tryz.zl.z5
 v5:=Tryz.zl.v5
 infoByte:=by kernel_rfl
 cellsByte:=by kernel_rfl
 sizeByte:=by kernel_rfl
 neB5:=by decide}
def Tryz.TH:Go.Shelf.Ren:=⟨λ|6=>121|15=>169|14=>168|28=>209|29=>210|20=>201|21=>202|22=>203|23=>204|24=>205|25=>206|26=>207|27=>208|46=>235|47=>236|48=>237|49=>238|50=>239|57=>252|n=>n,λ|22=>23|24=>70|25=>167|3=>3|39=>134|0=>0|53=>205|55=>208|4=>4|46=>240|45=>239|50=>34|5=>5|9=>9|66=>262|70=>266|76=>276|77=>177|n=>n,λ|n=>n⟩
theorem Tryz.iF:Go.Proofs.SlLaysF0.n6 Tryz.prog Tryz.TH:={
 mixed:=by kernel_rfl
 f6:=⟨Tryz.f121.name,by decide,Tryz.func121.trans (gb some cU)⟩
 f14:=⟨Tryz.f168.name,by decide,Tryz.func168.trans (gb some cU)⟩
 f15:=Tryz.func169.trans (gb some cU)
 f20:=⟨Tryz.f201.name,by decide,Tryz.func201.trans (gb some cU)⟩
 f21:=⟨Tryz.f202.name,by decide,Tryz.func202.trans (gb some cU)⟩
 f22:=⟨Tryz.f203.name,by decide,Tryz.func203.trans (gb some cU)⟩
 f23:=⟨Tryz.f204.name,by decide,Tryz.func204.trans (gb some cU)⟩
 f24:=⟨Tryz.f205.name,by decide,Tryz.func205.trans (gb some cU)⟩
 f25:=⟨Tryz.f206.name,by decide,Tryz.func206.trans (gb some cU)⟩
 f26:=⟨Tryz.f207.name,by decide,Tryz.func207.trans (gb some cU)⟩
 f27:=⟨Tryz.f208.name,by decide,Tryz.func208.trans (gb some cU)⟩
 f28:=Tryz.func209.trans (gb some cU)
 f29:=Tryz.func210.trans (gb some cU)
 f46:=⟨Tryz.f235.name,by decide,Tryz.func235.trans (gb some cU)⟩
 f47:=Tryz.func236.trans (gb some cU)
 f48:=Tryz.func237.trans (gb some cU)
 f49:=⟨Tryz.f238.name,by decide,Tryz.func238.trans (gb some cU)⟩
 f50:=⟨Tryz.f239.name,by decide,Tryz.func239.trans (gb some cU)⟩
 f57:=⟨Tryz.f252.name,by decide,Tryz.func252.trans (gb some cU)⟩
 t0:=Tryz.underlying0
 a0:=Tryz.isAgg0
 z0:=Tryz.sizeOf0
 v0:=Tryz.zeroValue0
 t3:=Tryz.underlying3
 a3:=Tryz.isAgg3
 z3:=Tryz.sizeOf3
 v3:=Tryz.zeroValue3
 t4:=Tryz.underlying4
 a4:=Tryz.isAgg4
 z4:=Tryz.sizeOf4
 v4:=Tryz.zeroValue4
 t5:=Tryz.underlying5
 a5:=Tryz.isAgg5
 z5:=Tryz.sizeOf5
 v5:=Tryz.zeroValue5
 t9:=Tryz.underlying9
 a9:=Tryz.isAgg9
 z9:=Tryz.sizeOf9
 v9:=Tryz.zeroValue9
 t22:=Tryz.underlying23
 a22:=Tryz.isAgg23
 z22:=Tryz.sizeOf23
 v22:=Tryz.zeroValue23
 t25:=Tryz.underlying167
 a25:=Tryz.isAgg167
 z25:=Tryz.sizeOf167
 v25:=Tryz.zeroValue167
 t39:=Tryz.underlying134
 a39:=Tryz.isAgg134
 z39:=Tryz.sizeOf134
 v39:=Tryz.zeroValue134
 t45:=Tryz.underlying239
 a45:=Tryz.isAgg239
 z45:=Tryz.sizeOf239
 v45:=Tryz.zeroValue239
 t46:=Tryz.underlying240
 a46:=Tryz.isAgg240
 z46:=Tryz.sizeOf240
 v46:=Tryz.zeroValue240
 t50:=Tryz.underlying34
 a50:=Tryz.isAgg34
 z50:=Tryz.sizeOf34
 v50:=Tryz.zeroValue34
 t53:=Tryz.underlying205
 a53:=Tryz.isAgg205
 z53:=Tryz.sizeOf205
 v53:=Tryz.zeroValue205
 t55:=Tryz.underlying208
 a55:=Tryz.isAgg208
 z55:=Tryz.sizeOf208
 v55:=Tryz.zeroValue208
 t66:=Tryz.underlying262
 a66:=Tryz.isAgg262
 z66:=Tryz.sizeOf262
 v66:=Tryz.zeroValue262
 t70:=Tryz.underlying266
 a70:=Tryz.isAgg266
 z70:=Tryz.sizeOf266
 v70:=Tryz.zeroValue266
 t76:=Tryz.underlying276
 a76:=Tryz.isAgg276
 z76:=Tryz.sizeOf276
 v76:=Tryz.zeroValue276
 t77:=Tryz.underlying177
 a77:=Tryz.isAgg177
 z77:=Tryz.sizeOf177
 v77:=Tryz.zeroValue177}
def Tryz.TI:Go.Shelf.Ren:=⟨λ|6=>123|15=>169|14=>170|28=>209|29=>210|20=>211|21=>212|22=>213|23=>214|24=>215|25=>216|26=>217|27=>218|46=>240|47=>236|48=>237|49=>241|50=>242|57=>253|n=>n,λ|22=>24|24=>37|25=>169|3=>3|39=>134|0=>0|53=>205|55=>208|4=>4|46=>240|45=>239|50=>34|5=>5|9=>9|66=>262|70=>266|76=>276|77=>177|n=>n,λ|n=>n⟩
theorem Tryz.ja:Go.Proofs.SlLaysF0.n6 Tryz.prog Tryz.TI:={
 mixed:=by kernel_rfl
 f6:=⟨Tryz.f123.name,by decide,Tryz.func123.trans (gb some cU)⟩
 f14:=⟨Tryz.f170.name,by decide,Tryz.func170.trans (gb some cU)⟩
 f15:=Tryz.func169.trans (gb some cU)
 f20:=⟨Tryz.f211.name,by decide,Tryz.func211.trans (gb some cU)⟩
 f21:=⟨Tryz.f212.name,by decide,Tryz.func212.trans (gb some cU)⟩
 f22:=⟨Tryz.f213.name,by decide,Tryz.func213.trans (gb some cU)⟩
 f23:=⟨Tryz.f214.name,by decide,Tryz.func214.trans (gb some cU)⟩
 f24:=⟨Tryz.f215.name,by decide,Tryz.func215.trans (gb some cU)⟩
 f25:=⟨Tryz.f216.name,by decide,Tryz.func216.trans (gb some cU)⟩
 f26:=⟨Tryz.f217.name,by decide,Tryz.func217.trans (gb some cU)⟩
 f27:=⟨Tryz.f218.name,by decide,Tryz.func218.trans (gb some cU)⟩
 f28:=Tryz.func209.trans (gb some cU)
 f29:=Tryz.func210.trans (gb some cU)
 f46:=⟨Tryz.f240.name,by decide,Tryz.func240.trans (gb some cU)⟩
 f47:=Tryz.func236.trans (gb some cU)
 f48:=Tryz.func237.trans (gb some cU)
 f49:=⟨Tryz.f241.name,by decide,Tryz.func241.trans (gb some cU)⟩
 f50:=⟨Tryz.f242.name,by decide,Tryz.func242.trans (gb some cU)⟩
 f57:=⟨Tryz.f253.name,by decide,Tryz.func253.trans (gb some cU)⟩
 t0:=Tryz.underlying0
 a0:=Tryz.isAgg0
 z0:=Tryz.sizeOf0
 v0:=Tryz.zeroValue0
 t3:=Tryz.underlying3
 a3:=Tryz.isAgg3
 z3:=Tryz.sizeOf3
 v3:=Tryz.zeroValue3
 t4:=Tryz.underlying4
 a4:=Tryz.isAgg4
 z4:=Tryz.sizeOf4
 v4:=Tryz.zeroValue4
 t5:=Tryz.underlying5
 a5:=Tryz.isAgg5
 z5:=Tryz.sizeOf5
 v5:=Tryz.zeroValue5
 t9:=Tryz.underlying9
 a9:=Tryz.isAgg9
 z9:=Tryz.sizeOf9
 v9:=Tryz.zeroValue9
 t22:=Tryz.underlying24
 a22:=Tryz.isAgg24
 z22:=Tryz.sizeOf24
 v22:=Tryz.zeroValue24
 t25:=Tryz.underlying169
 a25:=Tryz.isAgg169
 z25:=Tryz.sizeOf169
 v25:=Tryz.zeroValue169
 t39:=Tryz.underlying134
 a39:=Tryz.isAgg134
 z39:=Tryz.sizeOf134
 v39:=Tryz.zeroValue134
 t45:=Tryz.underlying239
 a45:=Tryz.isAgg239
 z45:=Tryz.sizeOf239
 v45:=Tryz.zeroValue239
 t46:=Tryz.underlying240
 a46:=Tryz.isAgg240
 z46:=Tryz.sizeOf240
 v46:=Tryz.zeroValue240
 t50:=Tryz.underlying34
 a50:=Tryz.isAgg34
 z50:=Tryz.sizeOf34
 v50:=Tryz.zeroValue34
 t53:=Tryz.underlying205
 a53:=Tryz.isAgg205
 z53:=Tryz.sizeOf205
 v53:=Tryz.zeroValue205
 t55:=Tryz.underlying208
 a55:=Tryz.isAgg208
 z55:=Tryz.sizeOf208
 v55:=Tryz.zeroValue208
 t66:=Tryz.underlying262
 a66:=Tryz.isAgg262
 z66:=Tryz.sizeOf262
 v66:=Tryz.zeroValue262
 t70:=Tryz.underlying266
 a70:=Tryz.isAgg266
 z70:=Tryz.sizeOf266
 v70:=Tryz.zeroValue266
 t76:=Tryz.underlying276
 a76:=Tryz.isAgg276
 z76:=Tryz.sizeOf276
 v76:=Tryz.zeroValue276
 t77:=Tryz.underlying177
 a77:=Tryz.isAgg177
 z77:=Tryz.sizeOf177
 v77:=Tryz.zeroValue177}
end Go.Proofs
namespace Go.Proofs
open Go Go.Ev
def T.lim {α:Type}:T α->Nat
 |.nil=>0
 |.node _ l r=>max 1 (max (2*T.lim l) (2*T.lim r+1))
theorem T.get_lim {α:Type}:∀(t:T α)(n:Nat)(x:α),t.get n=some x->n<T.lim t
 |.nil,n,x,h=>by rw[T.get_nil] at h;cases h
 |.node v l r,n,x,h=>by
  rw[T.om] at h;unfold T.lim;split at h
  .omega
  .split at h
   .have:=T.get_lim l _ x h
    omega
   .have:=T.get_lim r _ x h
    omega
theorem range_at {β:Type}{g h:Nat->β}{N:Nat}(e:(List.range N).map g=(List.range N).map h){n:Nat}(hn:n<N):g n=h n:=by
 have:=congrArg (λl=>l[n]?) e
 simpa[List.getElem?_map,List.getElem?_range hn] using this
theorem fnL:(List.range 284).map fnT.get=(List.range 284).map (λf=>bif Nat.ble 3 f then prog.funcs[f]? else none):=by kernel_rfl
theorem fnC:((List.range 284).all λf=>match fnT.get f with|some fn=>!(fn.name== "runtime.NumGoroutine")&&(match fn.body with|some c=>codeOk fn.ntmps c|none=>true)|none=>true)=true:=by kernel_rfl
theorem tyL:(List.range 297).map tyT.get=(List.range 297).map (λt=>prog.types[t]?):=by kernel_rfl
theorem tyZ:((List.range 297).all λt=>match tyT.get t with|some i=>(match i.zero with|some z=>kY z|none=>true)|none=>true)=true:=by kernel_rfl
theorem allF (f:Nat)(fn:Func)(h:fnT.get f=some fn):prog.funcs[f]?=some fn/\∀c,fn.body=some c->(∀args w,(callFunc f args).run prog w= .ok (.enter f args) w)/\codeOk fn.ntmps c=true:=by
 have hf:f<284:=Nat.lt_of_lt_of_le (T.get_lim _ _ _ h) (by decide +kernel)
 have h1:(bif Nat.ble 3 f then prog.funcs[f]? else none)=some fn:=(range_at fnL hf).symm.trans h
 have h2:=List.all_eq_true.1 fnC f (List.mem_range.2 hf)
 rw[h] at h2;dsimp only at h2
 cases hb:Nat.ble 3 f with
 |false=>rw[hb] at h1;cases h1
 |true=>
  rw[hb] at h1;have h1:prog.funcs[f]?=some fn:=h1
  refine⟨h1,λc hc=>?_⟩
  rw[hc,Bool.and_eq_true] at h2
  refine⟨λargs w=>?_,h2.2⟩
  have h3:fn.name≠ "runtime.NumGoroutine":=by simpa using h2.1
  simp[callFunc,h1,h3,hc,mark]
theorem allY (t:Nat)(i:TypeInfo)(h:tyT.get t=some i):prog.info? t=some i/\∀z,i.zero=some z->∀ρ,bZ ρ z=z:=by
 have hf:t<297:=Nat.lt_of_lt_of_le (T.get_lim _ _ _ h) (by decide +kernel)
 have h1:prog.types[t]?=some i:=(range_at tyL hf).symm.trans h
 have h2:=List.all_eq_true.1 tyZ t (List.mem_range.2 hf)
 rw[h] at h2;dsimp only at h2
 refine⟨?_,λz hz ρ=>?_⟩
 .unfold Tables.info?
  rw[if_pos (by rw[Tryz.types_size];exact hf)]
  exact h1
 .rw[hz] at h2
  exact sR ρ z h2
theorem RZ (b:Bool){t:TypeId}(h:prog.underlying t=some (.int .i64))(a:Int)(w:World):(Instr.checkKey b 9999 t (.int .i64 a)).run prog w= .ok () w:=by
 show(Instr.checkKey b (9998+1) t (.int .i64 a)).run prog w= .ok () w;unfold Instr.checkKey;simp only[Sem.run_bind,run_underlying h,Result.andThen_ok];rfl
theorem KB (b:Bool){t:TypeId}(h:prog.underlying t=some .string)(a:ByteArray)(w:World):(Instr.checkKey b 9999 t (.string a)).run prog w= .ok () w:=by
 show(Instr.checkKey b (9998+1) t (.string a)).run prog w= .ok () w;unfold Instr.checkKey;simp only[Sem.run_bind,run_underlying h,Result.andThen_ok];rfl
theorem keyB (b:Bool){t:TypeId}(h:prog.underlying t=some .bool)(a:Bool)(w:World):(Instr.checkKey b 9999 t (.bool a)).run prog w= .ok () w:=by
 show(Instr.checkKey b (9998+1) t (.bool a)).run prog w= .ok () w;unfold Instr.checkKey;simp only[Sem.run_bind,run_underlying h,Result.andThen_ok];rfl
theorem eqI {t:TypeId}(h:prog.underlying t=some (.int .i64))(a b:Int)(w:World):(Op.equalIn 9999 t (.int .i64 a) (.int .i64 b)).run prog w= .ok (a== b) w:=by
 refine' zay
theorem eqS {t:TypeId}(h:prog.underlying t=some .string)(a b:ByteArray)(w:World):(Op.equalIn 9999 t (.string a) (.string b)).run prog w= .ok (a== b) w:=by
 refine' zay
theorem eqB {t:TypeId}(h:prog.underlying t=some .bool)(a b:Bool)(w:World):(Op.equalIn 9999 t (.bool a) (.bool b)).run prog w= .ok (a== b) w:=by
 refine' zay
theorem keyI2 (b:Bool){t:TypeId}(h:prog.underlying t=some (.int .i64))(a:Int)(w:World):(Instr.checkKey b 9998 t (.int .i64 a)).run prog w= .ok () w:=by
 show(Instr.checkKey b (9997+1) t (.int .i64 a)).run prog w= .ok () w;unfold Instr.checkKey;simp only[Sem.run_bind,run_underlying h,Result.andThen_ok];rfl
theorem Pd (a1 a2 a3 a4 a5:Int)(b:Bool)(w:World):(Instr.checkKey b 9999 60 (.agg #[.int .i64 a1,.int .i64 a2,.int .i64 a3,.int .i64 a4,.int .i64 a5])).run prog w= .ok () w:=by
 show(Instr.checkKey b (9998+1) 60 _).run prog w= .ok () w;unfold Instr.checkKey;simp[go_sem,keyI2,rD,xK]
theorem keyI3 (b:Bool){t:TypeId}(h:prog.underlying t=some (.int .i64))(a:Int)(w:World):(Instr.checkKey b 9997 t (.int .i64 a)).run prog w= .ok () w:=by
 show(Instr.checkKey b (9996+1) t (.int .i64 a)).run prog w= .ok () w;unfold Instr.checkKey;simp only[Sem.run_bind,run_underlying h,Result.andThen_ok];rfl
theorem keym60 (a1 a2 a3 a4 a5:Int)(b:Bool)(w:World):(Instr.checkKey b 9998 60 (.agg #[.int .i64 a1,.int .i64 a2,.int .i64 a3,.int .i64 a4,.int .i64 a5])).run prog w= .ok () w:=by
 show(Instr.checkKey b (9997+1) 60 _).run prog w= .ok () w;unfold Instr.checkKey;simp[go_sem,keyI3,rD,xK]
theorem Pe (a1 a2 a3 a4 a5 a6 a7:Int)(b:Bool)(w:World):(Instr.checkKey b 9999 62 (.agg #[.int .i64 a1,.int .i64 a2,.int .i64 a3,.int .i64 a4,.int .i64 a5,.int .i64 a6,.int .i64 a7])).run prog w= .ok () w:=by
 show(Instr.checkKey b (9998+1) 62 _).run prog w= .ok () w;unfold Instr.checkKey;simp[go_sem,keyI2,keym60,rD,xK]
theorem qo {a:Int}{y:Value}{e:Bool}(h:lR (.int .i64 a) y=some e):∃b,y= .int .i64 b/\e=xM a b:=by
 unfold lR at h;split at h
 .rename_i a' b e1;cases e1;exact⟨_,rfl,(ir h).symm⟩
 .rename_i e1;cases e1
 .rename_i e1;cases e1
 .cases h
theorem MR {a:List UInt8}{y:Value}{e:Bool}(h:lR (.string ⟨⟨a⟩⟩) y=some e):∃b,y= .string ⟨⟨b⟩⟩/\e=gv a b:=by
 unfold lR at h;split at h
 .rename_i e1;cases e1
 .rename_i a' b e1;cases e1;exact⟨_,rfl,(ir h).symm⟩
 .rename_i e1;cases e1
 .cases h
theorem TJ {a:Bool}{y:Value}{e:Bool}(h:lR (.bool a) y=some e):∃b,y= .bool b/\e=bo a b (!b):=by
 unfold lR at h;split at h
 .rename_i e1;cases e1
 .rename_i e1;cases e1
 .rename_i a' b e1;cases e1;exact⟨_,rfl,(ir h).symm⟩
 .cases h
theorem eq37 (a1:Int)(a2:Bool)(a3:List UInt8)(b1:Int)(b2:Bool)(b3:List UInt8)(w:World):(Op.equal 37 (.agg ⟨[.int .i64 a1,.bool a2,.string ⟨⟨a3⟩⟩]⟩) (.agg ⟨[.int .i64 b1,.bool b2,.string ⟨⟨b3⟩⟩]⟩)).run prog w=
  .ok (bo (xM a1 b1) (bo (bo a2 b2 (!b2)) (bo (gv a3 b3) true false) false) false) w:=by
 unfold Op.equal Op.maxDepth
 skip
 skip
 simp[go_sem,Op.eqFields,bytes_beq,eqI,eqS,eqB,rD,xK];simp only[ek,jv,eQ,zv];repeat' split
 all_goals first|rfl|simp_all
theorem key37 (a1:Int)(a2:Bool)(a3:List UInt8)(b:Bool)(w:World):(Instr.checkKey b 10000 37 (.agg ⟨[.int .i64 a1,.bool a2,.string ⟨⟨a3⟩⟩]⟩)).run prog w= .ok () w:=by
 show(Instr.checkKey b (9999+1) 37 (.agg ⟨[.int .i64 a1,.bool a2,.string ⟨⟨a3⟩⟩]⟩)).run prog w= .ok () w;unfold Instr.checkKey;simp[go_sem,RZ,KB,keyB,Pd,Pe,rD,xK]
theorem QW (xs:aQ)(h0:ij xs [0,2,1]=true):∃a1 a2 a3,xs=[.int .i64 a1,.bool a2,.string ⟨⟨a3⟩⟩]:=by
 refine' zaU
 obtain⟨k1,_,h2⟩:=eN h1;obtain⟨a2,rfl⟩:=wE k1;cases xs with
 |nil=>cases h2
 |cons v2 xs=>
 obtain⟨k2,_,h3⟩:=eN h2;obtain⟨a3,rfl⟩:=u5 k2;cases xs with
 |cons v xs=>cases h3
 |nil=>exact⟨a1,a2,a3,rfl⟩
theorem mates37 (a1:Int)(a2:Bool)(a3:List UInt8)(ys:aQ)(r0:Bool)(h0:gL [.int .i64 a1,.bool a2,.string ⟨⟨a3⟩⟩] ys=some r0):∃b1 b2 b3,ys=[.int .i64 b1,.bool b2,.string ⟨⟨b3⟩⟩]/\r0=bo (xM a1 b1) (bo (bo a2 b2 (!b2)) (bo (gv a3 b3) true false) false) false:=by
 refine' zaG
 rw[dN] at h1;obtain⟨e1,he1,g1⟩:=aw h1;obtain⟨r2,h2,Vo⟩:=aw g1;obtain⟨b2,rfl,rfl⟩:=TJ he1;cases ys with
 |nil=>cases h2
 |cons y2 ys=>
 rw[dN] at h2;obtain⟨e2,UI,g2⟩:=aw h2;obtain⟨r3,h3,nW⟩:=aw g2;obtain⟨b3,rfl,rfl⟩:=MR UI;cases ys with
 |cons y ys=>cases h3
 |nil=>
 have z:=ir (show some true=some r3 from h3);subst z;have z:=ir nW;subst z;have z:=ir Vo;subst z;have z:=ir hr0;subst z;exact⟨b1,b2,b3,rfl,rfl⟩
theorem eq60 (a1:Int)(a2:Int)(a3:Int)(a4:Int)(a5:Int)(b1:Int)(b2:Int)(b3:Int)(b4:Int)(b5:Int)(w:World):(Op.equal 60 (.agg ⟨[.int .i64 a1,.int .i64 a2,.int .i64 a3,.int .i64 a4,.int .i64 a5]⟩) (.agg ⟨[.int .i64 b1,.int .i64 b2,.int .i64 b3,.int .i64 b4,.int .i64 b5]⟩)).run prog w=
  .ok (bo (xM a1 b1) (bo (xM a2 b2) (bo (xM a3 b3) (bo (xM a4 b4) (bo (xM a5 b5) true false) false) false) false) false) w:=by
 unfold Op.equal Op.maxDepth
 skip
 skip
 simp[go_sem,Op.eqFields,bytes_beq,eqI,eqS,eqB,rD,xK];simp only[ek,jv,eQ,zv];repeat' split
 all_goals first|rfl|simp_all
theorem key60 (a1:Int)(a2:Int)(a3:Int)(a4:Int)(a5:Int)(b:Bool)(w:World):(Instr.checkKey b 10000 60 (.agg ⟨[.int .i64 a1,.int .i64 a2,.int .i64 a3,.int .i64 a4,.int .i64 a5]⟩)).run prog w= .ok () w:=by
 show(Instr.checkKey b (9999+1) 60 (.agg ⟨[.int .i64 a1,.int .i64 a2,.int .i64 a3,.int .i64 a4,.int .i64 a5]⟩)).run prog w= .ok () w;unfold Instr.checkKey;simp[go_sem,RZ,KB,keyB,Pd,Pe,rD,xK]
theorem QX (xs:aQ)(h0:ij xs [0,0,0,0,0]=true):∃a1 a2 a3 a4 a5,xs=[.int .i64 a1,.int .i64 a2,.int .i64 a3,.int .i64 a4,.int .i64 a5]:=by
 refine' zaU
 obtain⟨k1,_,h2⟩:=eN h1;obtain⟨a2,rfl⟩:=kV k1;cases xs with
 |nil=>cases h2
 |cons v2 xs=>
 obtain⟨k2,_,h3⟩:=eN h2;obtain⟨a3,rfl⟩:=kV k2;cases xs with
 |nil=>cases h3
 |cons v3 xs=>
 obtain⟨k3,_,h4⟩:=eN h3;obtain⟨a4,rfl⟩:=kV k3;cases xs with
 |nil=>cases h4
 |cons v4 xs=>
 obtain⟨k4,_,h5⟩:=eN h4;obtain⟨a5,rfl⟩:=kV k4;cases xs with
 |cons v xs=>cases h5
 |nil=>exact⟨a1,a2,a3,a4,a5,rfl⟩
theorem mates60 (a1:Int)(a2:Int)(a3:Int)(a4:Int)(a5:Int)(ys:aQ)(r0:Bool)(h0:gL [.int .i64 a1,.int .i64 a2,.int .i64 a3,.int .i64 a4,.int .i64 a5] ys=some r0):∃b1 b2 b3 b4 b5,ys=[.int .i64 b1,.int .i64 b2,.int .i64 b3,.int .i64 b4,.int .i64 b5]/\r0=bo (xM a1 b1) (bo (xM a2 b2) (bo (xM a3 b3) (bo (xM a4 b4) (bo (xM a5 b5) true false) false) false) false) false:=by
 refine' zaG
 rw[dN] at h1;obtain⟨e1,he1,g1⟩:=aw h1;obtain⟨r2,h2,Vo⟩:=aw g1;obtain⟨b2,rfl,rfl⟩:=qo he1;cases ys with
 |nil=>cases h2
 |cons y2 ys=>
 rw[dN] at h2;obtain⟨e2,UI,g2⟩:=aw h2;obtain⟨r3,h3,nW⟩:=aw g2;obtain⟨b3,rfl,rfl⟩:=qo UI;cases ys with
 |nil=>cases h3
 |cons y3 ys=>
 rw[dN] at h3;obtain⟨e3,he3,g3⟩:=aw h3;obtain⟨r4,h4,hr3⟩:=aw g3;obtain⟨b4,rfl,rfl⟩:=qo he3;cases ys with
 |nil=>cases h4
 |cons y4 ys=>
 rw[dN] at h4;obtain⟨e4,he4,g4⟩:=aw h4;obtain⟨r5,h5,hr4⟩:=aw g4;obtain⟨b5,rfl,rfl⟩:=qo he4;cases ys with
 |cons y ys=>cases h5
 |nil=>
 have z:=ir (show some true=some r5 from h5);subst z;have z:=ir hr4;subst z;have z:=ir hr3;subst z;have z:=ir nW;subst z;have z:=ir Vo;subst z;have z:=ir hr0;subst z;exact⟨b1,b2,b3,b4,b5,rfl,rfl⟩
theorem eq70 (a1:List UInt8)(a2:Int)(b1:List UInt8)(b2:Int)(w:World):(Op.equal 70 (.agg ⟨[.string ⟨⟨a1⟩⟩,.int .i64 a2]⟩) (.agg ⟨[.string ⟨⟨b1⟩⟩,.int .i64 b2]⟩)).run prog w=
  .ok (bo (gv a1 b1) (bo (xM a2 b2) true false) false) w:=by
 unfold Op.equal Op.maxDepth
 skip
 skip
 simp[go_sem,Op.eqFields,bytes_beq,eqI,eqS,eqB,rD,xK];simp only[ek,jv,eQ,zv];repeat' split
 all_goals first|rfl|simp_all
theorem key70 (a1:List UInt8)(a2:Int)(b:Bool)(w:World):(Instr.checkKey b 10000 70 (.agg ⟨[.string ⟨⟨a1⟩⟩,.int .i64 a2]⟩)).run prog w= .ok () w:=by
 show(Instr.checkKey b (9999+1) 70 (.agg ⟨[.string ⟨⟨a1⟩⟩,.int .i64 a2]⟩)).run prog w= .ok () w;unfold Instr.checkKey;simp[go_sem,RZ,KB,keyB,Pd,Pe,rD,xK]
theorem QY (xs:aQ)(h0:ij xs [1,0]=true):∃a1 a2,xs=[.string ⟨⟨a1⟩⟩,.int .i64 a2]:=by
 cases xs with
 |nil=>cases h0
 |cons v0 xs=>
 obtain⟨k0,_,h1⟩:=eN h0;obtain⟨a1,rfl⟩:=u5 k0;cases xs with
 |nil=>cases h1
 |cons v1 xs=>
 obtain⟨k1,_,h2⟩:=eN h1;obtain⟨a2,rfl⟩:=kV k1;cases xs with
 |cons v xs=>cases h2
 |nil=>exact⟨a1,a2,rfl⟩
theorem mates70 (a1:List UInt8)(a2:Int)(ys:aQ)(r0:Bool)(h0:gL [.string ⟨⟨a1⟩⟩,.int .i64 a2] ys=some r0):∃b1 b2,ys=[.string ⟨⟨b1⟩⟩,.int .i64 b2]/\r0=bo (gv a1 b1) (bo (xM a2 b2) true false) false:=by
 cases ys with
 |nil=>cases h0
 |cons y0 ys=>
 rw[dN] at h0;obtain⟨e0,he0,g0⟩:=aw h0;obtain⟨r1,h1,hr0⟩:=aw g0;obtain⟨b1,rfl,rfl⟩:=MR he0;cases ys with
 |nil=>cases h1
 |cons y1 ys=>
 rw[dN] at h1;obtain⟨e1,he1,g1⟩:=aw h1;obtain⟨r2,h2,Vo⟩:=aw g1;obtain⟨b2,rfl,rfl⟩:=qo he1;cases ys with
 |cons y ys=>cases h2
 |nil=>
 have z:=ir (show some true=some r2 from h2);subst z;have z:=ir Vo;subst z;have z:=ir hr0;subst z;exact⟨b1,b2,rfl,rfl⟩
theorem xw (t:TypeId)(m:String):∀(l:List (TypeId×String×FuncId)){f:FuncId},lQ t m l=some f->∃p∈l,p.1=t/\p.2.1=m/\p.2.2=f
 |[],f,h=>by cases h
 |p::l,f,h=>by
  have h:bo (Nat.beq p.1 t&&decide (p.2.1=m)) (some p.2.2) (lQ t m l)=some f:=h;rw[ek] at h;split at h
  .rename_i hb;rw[cv] at hb;exact⟨p,jr,oM hb.1,vM hb.2,ir h⟩
  .obtain⟨q,hq,h1⟩:=xw t m l h;exact⟨q,lE _ hq,h1⟩
theorem meth20 (a:Addr)(args:Array Value)(w:World):(callMethod (.iface 84 (.pointer (some a))) "loop.example/poolfiles/impl.lead" args).run prog w=(callFunc 20 (#[.pointer (some a)]++args)).run prog w:=by kernel_rfl
theorem near20 (a:Addr)(w:World):(nilAhead (prog.types.size+Made.depth) 84 (.pointer (some a)) "loop.example/poolfiles/impl.lead").run prog w= .ok (some false) w:=by kernel_rfl
theorem meth280 (a:Addr)(args:Array Value)(w:World):(callMethod (.iface 84 (.pointer (some a))) "loop.example/poolfiles/impl.folder" args).run prog w=(callFunc 280 (#[.pointer (some a)]++args)).run prog w:=by kernel_rfl
theorem near280 (a:Addr)(w:World):(nilAhead (prog.types.size+Made.depth) 84 (.pointer (some a)) "loop.example/poolfiles/impl.folder").run prog w= .ok (some false) w:=by kernel_rfl
theorem meth279 (a:Addr)(args:Array Value)(w:World):(callMethod (.iface 84 (.pointer (some a))) "loop.example/poolfiles/impl.entries" args).run prog w=(callFunc 279 (#[.pointer (some a)]++args)).run prog w:=by kernel_rfl
theorem near279 (a:Addr)(w:World):(nilAhead (prog.types.size+Made.depth) 84 (.pointer (some a)) "loop.example/poolfiles/impl.entries").run prog w= .ok (some false) w:=by kernel_rfl
theorem meth77 (a:Addr)(args:Array Value)(w:World):(callMethod (.iface 84 (.pointer (some a))) "loop.example/poolfiles/impl.links" args).run prog w=(callFunc 77 (#[.pointer (some a)]++args)).run prog w:=by kernel_rfl
theorem near77 (a:Addr)(w:World):(nilAhead (prog.types.size+Made.depth) 84 (.pointer (some a)) "loop.example/poolfiles/impl.links").run prog w= .ok (some false) w:=by kernel_rfl
theorem meth283 (a:Addr)(args:Array Value)(w:World):(callMethod (.iface 84 (.pointer (some a))) "loop.example/poolfiles/impl.size" args).run prog w=(callFunc 283 (#[.pointer (some a)]++args)).run prog w:=by kernel_rfl
theorem near283 (a:Addr)(w:World):(nilAhead (prog.types.size+Made.depth) 84 (.pointer (some a)) "loop.example/poolfiles/impl.size").run prog w= .ok (some false) w:=by kernel_rfl
theorem meth73 (a:Addr)(args:Array Value)(w:World):(callMethod (.iface 84 (.pointer (some a))) "loop.example/poolfiles/impl.room" args).run prog w=(callFunc 73 (#[.pointer (some a)]++args)).run prog w:=by kernel_rfl
theorem near73 (a:Addr)(w:World):(nilAhead (prog.types.size+Made.depth) 84 (.pointer (some a)) "loop.example/poolfiles/impl.room").run prog w= .ok (some false) w:=by kernel_rfl
theorem envOk:cS aU prog where
 ty t i h:=(allY t i h).1
 fn f x h:=(allF f x h).1
 Uj:=by kernel_rfl
 bld8:=by
  rw[show aU.Uj=157 from rfl,underlying157];intro h;cases h
 eqs t xs h ys r hi w:=by
  refine' zaO
  .obtain⟨rfl,rfl⟩:=h0;obtain⟨a1,a2,a3,rfl⟩:=QW xs hk;obtain⟨b1,b2,b3,rfl,rfl⟩:=mates37 a1 a2 a3 ys r hi;exact⟨eq37 a1 a2 a3 b1 b2 b3 w,λop ox oy=>run_eqGuard_agg w op 37 ox oy _ _ eqGuardType37⟩
  .obtain⟨rfl,rfl⟩:=h0;obtain⟨a1,a2,a3,a4,a5,rfl⟩:=QX xs hk;obtain⟨b1,b2,b3,b4,b5,rfl,rfl⟩:=mates60 a1 a2 a3 a4 a5 ys r hi;exact⟨eq60 a1 a2 a3 a4 a5 b1 b2 b3 b4 b5 w,λop ox oy=>run_eqGuard_agg w op 60 ox oy _ _ eqGuardType60⟩
  .obtain⟨rfl,rfl⟩:=h0;obtain⟨a1,a2,rfl⟩:=QY xs hk;obtain⟨b1,b2,rfl,rfl⟩:=mates70 a1 a2 ys r hi;exact⟨eq70 a1 a2 b1 b2 w,λop ox oy=>run_eqGuard_agg w op 70 ox oy _ _ eqGuardType70⟩
 keys t xs h b w:=by
  refine' zaO
  .obtain⟨rfl,rfl⟩:=h0;obtain⟨a1,a2,a3,rfl⟩:=QW xs hk;exact key37 a1 a2 a3 b w
  .obtain⟨rfl,rfl⟩:=h0;obtain⟨a1,a2,a3,a4,a5,rfl⟩:=QX xs hk;exact key60 a1 a2 a3 a4 a5 b w
  .obtain⟨rfl,rfl⟩:=h0;obtain⟨a1,a2,rfl⟩:=QY xs hk;exact key70 a1 a2 b w
 zs t i z h hz:=(allY t i h).2 z hz
 meth t m f h a args w:=by
  refine' zaQ
  .exact meth20 a args w
  .exact meth280 a args w
  .exact meth279 a args w
  .exact meth77 a args w
  .exact meth283 a args w
  .exact meth73 a args w
 near t m f h a w:=by
  refine' zaQ
  .exact near20 a w
  .exact near280 a w
  .exact near279 a w
  .exact near77 a w
  .exact near283 a w
  .exact near73 a w
theorem TK (c:Nat)(z:List UInt8):∀i,Rb c z i=match z.findIdx? (λb=>b.toNat== c) with
  |some k=>((i+k:Nat):Int)
  |none=>-1:=by
 induction z with
 |nil=>intro i;rfl
 |cons b bs ih=>
  intro i;have h:Rb c (b::bs) i=bo (Nat.beq b.toNat c) (.ofNat i) (Rb c bs (i+1)):=rfl;rw[h,ek,Pw];by_cases hb:b.toNat=c
  .simp[hb]
  .simp only[BY,hb,oV,ih,zv,jH];cases bs.findIdx? (λb=>b.toNat== c) with
   |none=>rfl
   |some k=>
    show((i+1+k:Nat):Int)=((i+(k+1):Nat):Int)
    congr 1;omega
theorem find_range (c:UInt8):∀(z pre:List UInt8),(List.range' pre.length z.length).find? (λi=>(⟨⟨pre++z⟩⟩:ByteArray)[i]! == c)=(z.findIdx? (·== c)).map (·+pre.length)
 |[],pre=>by simp
 |b::z,pre=>by
  have ih:=find_range c z (pre++[b]);simp only[bR,dh,mD,ni,kA,xB,oa] at ih;rw[dh,rD,List.find?_cons,Pw];have hb:(⟨⟨pre++b::z⟩⟩:ByteArray)[pre.length]! =b:=by
   have dA:pre.length<(⟨⟨pre++b::z⟩⟩:ByteArray).size:=by
    show pre.length<(pre++b::z).length;simp
   rw[Av (⟨⟨pre++b::z⟩⟩:ByteArray) pre.length dA];show(pre++b::z)[pre.length]'(by simp)=b;simp
  rw[hb,ih];by_cases hbc:(b== c)=true
  .simp[hbc]
  .simp only[hbc,oV,jH];cases z.findIdx? (·== c) with
   |none=>rfl
   |some k=>simp;omega
theorem fnOk {hk:List (Nat×wB)}(hh:∀p∈hk,mL prog p.1 p.2):U4 aU prog ⟨199,259,200,99999,5,hk⟩ where
 vT:=hh
 enter f fn c h hc:=((allF f fn h).2 c hc).1
 code f fn c h gx hc:=((allF f fn h).2 c hc).2
 rK x w:=by
  show(callFunc 199 #[x]).run prog w=_;rw[run_callFunc_extern func199 cU cU cU (e:=Extern.AbiNoEscape.same) cU];rfl
 indexByte z c w hc:=by
  show(callFunc 259 #[.string ⟨⟨z⟩⟩,.int .u8 (.ofNat c)]).run prog w=_;rw[run_callFunc_extern func259 cU cU cU (e:=Extern.BytealgIndexByte.indexByte) cU];rw[run_indexByte_string];have h1:=find_range (UInt8.ofNat c) z [];simp only[mD,oa,wo] at h1;have h2:(z.findIdx? λb=>b.toNat== c)=z.findIdx? (·== UInt8.ofNat c):=by
   congr 1
   funext b
   rw[oL];simp only[zv];have Rk:(UInt8.ofNat c).toNat=c:=by simp[UInt8.toNat_ofNat,HL hc]
   rw[<-wu,Rk]
  have h3:firstIdx ⟨⟨z⟩⟩ (Int.toNat (Int.ofNat c)).toUInt8=Rb c z 0:=by
   rw[TK,h2];unfold firstIdx;rw[show(⟨⟨z⟩⟩:ByteArray).size=z.length from rfl,List.range_eq_range'];have h4:(Int.toNat (Int.ofNat c)).toUInt8=UInt8.ofNat c:=rfl;rw[h4,h1];cases z.findIdx? (·== UInt8.ofNat c) with
   |none=>rfl
   |some k=>simp
  rw[h3];rfl
 byte:=by kernel_rfl
 sF fn h n w hn:=by
  obtain⟨cs,nH,hle,hmax⟩:=Lib.run_makeNoZero (P:=prog) w #[3] 22 5 underlying22 n af;refine⟨cs.toList,?_,?_⟩
  .show(callFunc 200 #[.int .i64 (n:Int)]).run prog w=_;rw[run_callFunc_extern func200 cU cU cU (e:=Extern.BytealgMakeNoZero.makeNoZero #[3] #[22]) cU,nH];rfl
  .exact hmax (ku hn (by decide))
 look fn h b o n c a k g i z w hi hv:=by
  have h0:aU.fn.get 99999=none:=by kernel_rfl
  have h:aU.fn.get 99999=some fn:=h;rw[h0] at h;cases h
end Go.Proofs
namespace Go.Ev
open Go Go.Sort Go.Proofs
variable {k:Nat}
theorem A8 {α:Type}{enc:α->aQ}(hp:0<k)(hk:∀x,(enc x).length=k):∀(l:List α)(t:Nat),(l.flatMap enc)[t]?=(l[t/ k]?).bind λx=>(enc x)[t% k]?
 |[],t=>by simp
 |x::l,t=>by
  rw[l3];by_cases ht:t<k
  .rw[wq (by rw[hk];exact ht),Nat.div_eq_of_lt ht,HL ht];rfl
  .obtain⟨u,rfl⟩:∃u,t=u+k:=⟨t-k,af⟩;rw[zu (by rw[hk];omega),hk,Nat.add_sub_cancel,A8 hp hk l u,Nat.add_div_right _ hp,Nat.add_mod_right];rfl
theorem oJ {α:Type}{enc:α->aQ}(hk:∀x,(enc x).length=k):∀l:List α,(l.flatMap enc).length=l.length*k
 |[]=>by simp
 |x::l=>by rw[l3,bR,hk,oJ hk l,dh,Nat.succ_mul];omega
theorem Et {α:Type}[Inhabited α]{enc:α->aQ}(hp:0<k)(hk:∀x,(enc x).length=k)(l:List α):flatK enc k l.toArray=(l.flatMap enc).toArray:=by
 apply ext_get!
 .rw[size_flatK];simp[oJ hk]
 .intro t ht;rw[size_flatK] at ht;have ht':t<l.length*k:=ht;rw[get_flatK _ _ _ _ ht];have hd:t/ k<l.length:=(Nat.div_lt_iff_lt_mul hp).2 ht';have h1:=A8 hp hk l t;rw[bk hd] at h1;have hm:t% k<(enc l[t/ k]).length:=by rw[hk];exact Q6 _ hp
  have h2:(l.flatMap enc)[t]?=some (enc l[t/ k])[t% k]:=h1.trans (bk hm);obtain⟨h3,h4⟩:=tL.1 h2;rw[show(l.flatMap enc).toArray[t]! =(l.flatMap enc)[t] from Av (l.flatMap enc).toArray t (by simpa using h3),h4];rw[show(l.toArray)[t/ k]! =l[t/ k] from Av l.toArray _ (by simpa using hd)];exact Av (enc l[t/ k]) _ hm
theorem Fo (o:Nat)(new c aL:aQ)(h:o+new.length<=c.length):putCells id o new.toArray ⟨c++aL⟩=⟨c.take o++new++c.drop (o+new.length)++aL⟩:=by
 apply vD;unfold putCells;rw[Array.toList_mapIdx];apply Ua;intro j;rw[List.getElem?_mapIdx];show Option.map _ (c++aL)[j]?=(c.take o++new++c.drop (o+new.length)++aL)[j]?;have iI:new.toArray.size=new.length:=rfl;have sC:(c.take o).length=o:=by rw[dg];omega
 have tF:(c.take o++new).length=o+new.length:=by rw[bR,sC]
 have hl3:(c.take o++new++c.drop (o+new.length)).length=c.length:=by rw[bR,tF,gp];omega
 by_cases h3:j<c.length
 .rw[wq h3,wq (by rw[hl3];exact h3)];by_cases h1:j<o
  .rw[wq (by rw[tF];omega),wq (by rw[sC];exact h1),Jy,if_pos h1,bk h3];show some (if o<=j/\j<o+new.toArray.size then _ else c[j])=_;rw[if_neg af]
  .by_cases h2:j<o+new.length
   .rw[wq (by rw[tF];exact h2),zu (by rw[sC];omega),sC,bk h3,bk af];show some (if o<=j/\j<o+new.toArray.size then id new.toArray[j-o]! else c[j])=_;rw[if_pos ⟨af,by rw[iI];exact h2⟩];exact gb some (Av new.toArray (j-o) (by rw[iI];omega))
   .rw[zu (by rw[tF];omega),tF,xF,show o+new.length+(j-(o+new.length))=j by omega,bk h3];show some (if o<=j/\j<o+new.toArray.size then _ else c[j])=_;rw[if_neg (by rw[iI];omega)]
 .rw[zu af,zu (by rw[hl3];omega),hl3];cases hr:aL[j-c.length]? with
  |none=>rfl
  |some x=>
   show some (if o<=j/\j<o+new.toArray.size then _ else x)=_;rw[if_neg (by rw[iI];omega)]
end Go.Ev
namespace Go.Ev
open Go Go.Sort Go.Proofs
variable {k:Nat}
theorem Pf {α:Type}[Inhabited α]{enc:α->aQ}(hp:0<k)(hk:∀x,(enc x).length=k){w:World}{aS o m:Nat}{l:List α}{os:Array Obj}{c aL:aQ}{e:TypeId}{fr:Nat×Nat}(hb:w.heap[aS]?=some (.cells ⟨c++aL⟩ e fr))(ho:o+l.length*k<=c.length):
  (sortWorldK enc k w aS o m l.toArray os).heap[aS]?=some (.cells ⟨c.take o++l.flatMap enc++c.drop (o+l.length*k)++aL⟩ e fr)/\Fr w (sortWorldK enc k w aS o m l.toArray os) λr=>r=aS:=by
 have dA:aS<w.heap.size:=(xD.1 hb).1;have Ys:(sortWorldK enc k w aS o m l.toArray os).heap=w.heap.modify aS (onCells (putCells id o (flatK enc k l.toArray)))++os:=rfl;have hl:=oJ hk l;refine⟨?_,rfl,rfl,rfl,?_,λr hr gx=>?_⟩
 .rw[Ys,YU (by rw[Array.size_modify];exact dA),M7,if_pos rfl,hb,Et hp hk];show some (onCells _ (.cells ⟨c++aL⟩ e fr))=_;show some (Obj.cells (putCells id o (l.flatMap enc).toArray ⟨c++aL⟩) e fr)=_;rw[Fo o _ c aL (by rw[hl];exact ho),hl]
 .rw[Ys,Array.size_append,Array.size_modify];omega
 .rw[Ys,YU (by rw[Array.size_modify];exact hr),M7,if_neg (λh=>gx h.symm)]
theorem MS {α:Type}[Inhabited α]{P:Program}{f g k:Nat}{dec:aQ->Option (List α)}{enc:α->aQ}{sort:List α->List α}{apart:List α->Bool}(hp:0<k)(hk:∀x,(enc x).length=k)(hdec:∀cs l,dec cs=some l->cs=l.flatMap enc)(hg:∀x,∀v∈enc x,∀ρ,bZ ρ v=v)(cX:∀l,(sort l).length=l.length)
  (H:∀(aS off cap:Nat)(l:List α)(w:World),apart l=true->HoldsK enc k w aS off l.toArray->aS<w.heap.size->l.length<=1000000->lU P f #[.slice (some ⟨aS,off,none⟩) l.length cap,.func (.func g) #[] #[]] w λv w'=>v= .tuple #[]/\∃m os,w'=sortWorldK enc k w aS off m (sort l).toArray os):mL P f (Ko g k dec enc sort apart):=by
 intro args s v s' h;unfold Ko at h;split at h
 rotate_left
 .cases h
 rename_i b o n cap g';obtain⟨h1,h⟩:=bg h;obtain⟨c,e,u,hb,h⟩:=mK h;obtain⟨h2,h⟩:=bg h;obtain⟨l,h3,h⟩:=aw h;obtain⟨h4,h⟩:=bg h;have h:=aA h;simp only[cx] at h;obtain⟨rfl,rfl⟩:=h;rw[cv,cv] at h1;rw[cv] at h4;have hgg:=oM h1.1.1;subst hgg;have PJ:n<=1000000:=qq h1.2;have hln:=oM h4.2;subst hln;have h2:o+l.length*k<=c.length:=qq h2;have tN:=hdec _ _ h3;have gK:∀l:List α,∀v∈l.flatMap enc,∀ρ,bZ ρ v=v:=λl v hv ρ=>by
  obtain⟨x,_,hx⟩:=oW.1 hv;exact hg x v hx ρ
 have hbn:(s.aR b).heap.get b≠none:=by rw[iS,hb];exact Option.some_ne_none _
 have YD:az s ((s.aR b).put b (some (.cells (c.take o++(sort l).flatMap enc++c.drop (o+l.length*k)) e u))):=(az.aR s b).trans (az.put _ _ _ hbn);refine⟨YD,λY A ρ w gH RE hgl' hl=>?_⟩;obtain⟨x',r,rfl,hx,hr⟩:=hl.js;obtain⟨y',r2,rfl,hy,nW⟩:=hr.js;have:r2=[]:=mG (by simpa using nW.length);subst this;have Be:y'= .func (.func g) ⟨[]⟩ ⟨[]⟩:=by rw[<-hy.self];simp
 rw[hx.gd,Be];have hYb:Y b:=RE.cM b (fe _ _ _);obtain⟨hA,c',aL,fr,r1,r2,r3,r4,r5,r6⟩:=RE.st.row hYb hb;have Yt:(c'.drop o).take (l.length*k)=l.flatMap enc:=by
  have h5:=((r2.drop o).take (l.length*k)).self;rw[<-h5,tN];exact(EI λx hx=>gK l x hx ρ).trans (List.map_id _)
 have hH:HoldsK enc k w (ρ b).1 o l.toArray:=by
  intro j hj;rw[size_flatK] at hj;have YI:j<l.length*k:=hj;have x8:o+j<c'.length:=by rw[r3];omega
  refine⟨?_,?_⟩
  .rw[xY r1,wq x8,Et hp hk];have h6:(c'.drop o).take (l.length*k)=l.flatMap enc:=Yt;have h7:((c'.drop o).take (l.length*k))[j]?=c'[o+j]?:=by rw[Jy,if_pos YI,xF]
   rw[<-h7,h6];have YF:j<(l.flatMap enc).length:=by rw[oJ hk];exact YI
   rw[bk YF];exact gb some (Av (l.flatMap enc).toArray j YF).symm
  .obtain⟨lo,hi⟩:=fr;show(match w.heap[(ρ b).1]? with|some (.cells _ _ (lo,hi))=>decide (lo<=o+j)&&decide (o+j<hi)|_=>false)=false;rw[r1];rw[zr,lD,lD];rcases r4 with h8|h8
   .simp only[cx] at h8;omega
   .rw[bR] at h8;dsimp only at h8;omega
 refine(H _ _ _ l w h4.1 hH (xD.1 r1).1 PJ).mono λv' w' ⟨hv,m,os,hw⟩=>?_
 subst hv hw;have Qs:=cX l;have MZ:o+(sort l).length*k<=c'.length:=by rw[Qs,r3];exact h2
 obtain⟨s1,s2⟩:=Pf (m:=m) (l:=sort l) (os:=os) hp hk r1 MZ;refine⟨ρ,VR.ground λρ=>by simp,Good.aZ (o':=.cells (c.take o++(sort l).flatMap enc++c.drop (o+l.length*k)) e u) RE.st RE.ec hYb hb (λd=>?_) ?_ ?_ s1 ?_ s2⟩
 .rw[qE,iS]
 .rw[dY,cw]
 .exact iU _ _ _
 .have nf:(c.take o++(sort l).flatMap enc++c.drop (o+l.length*k)).length=c.length:=by
   rw[bR,bR,dg,gp,oJ hk,Qs];omega
  refine⟨_,aL,fr,by rw[Qs],?_,λhu=>?_,λhu=>?_⟩
  .exact((r2.take o).append (λeF _=>(EI λx hx=>gK _ x hx eF).trans (List.map_id _))).append (r2.drop _)
  .rw[nf];exact r5 hu
  .rw[nf];exact r6 hu
end Go.Ev
namespace Go.Proofs
open Go Go.Shelf Go.RowKit Go.Lib Go.Sort Go.Ev
set_option maxHeartbeats 1000000 in
theorem less122 (x y:Pl.Fnd)(W:World):Calls prog 122 #[.agg (pS x).toArray,.agg (pS y).toArray] W λe w'=>e= .returned (.int .i64 (Lib.compareBytes x.ag y.ag))/\∃q os',w'=grow (W.drewN q) os':=by
 have Ph:=λW'=>Any.strings_Compare lays106 ⟨⟨x.ag⟩⟩ ⟨⟨y.ag⟩⟩ W'
 change ∀W',Calls prog 52 _ _ _ at Ph;change Calls prog 122 #[.agg #[.string ⟨⟨x.ag⟩⟩,.int .i64 x.id],.agg #[.string ⟨⟨y.ag⟩⟩,.int .i64 y.id]] W _;generalize Lib.compareBytes x.ag y.ag=r at Ph⊢
 go_enter func122,ntmps122
 go_wp2_with (go_at_call 52;refine(Ph _).mono ?_;rintro e w' ⟨rfl,rfl⟩)
 go_ret
 exact⟨rfl,0,_,by rw[alloc_eq_grow,alloc_eq_grow,grow_grow];rfl⟩
set_option maxHeartbeats 1000000 in
theorem less124 (x y:Pl.bU)(W:World):Calls prog 124 #[.agg (pT x).toArray,.agg (pT y).toArray] W λe w'=>e= .returned (.int .i64 (Lib.compareInt x.id y.id))/\∃q os',w'=grow (W.drewN q) os':=by
 have Ph:=λW'=>AnyG.cmp_Compare_int cmpInt x.id y.id W'
 change ∀W',Calls prog 63 _ _ _ at Ph;change Calls prog 124 #[.agg #[.int .i64 x.id,.bool x.aM,.string ⟨⟨x.bh⟩⟩],.agg #[.int .i64 y.id,.bool y.aM,.string ⟨⟨y.bh⟩⟩]] W _;generalize Lib.compareInt x.id y.id=r at Ph⊢
 go_enter func124,ntmps124
 go_wp2_with (go_at_call 63;refine(Ph _).mono ?_;rintro e w' ⟨rfl,rfl⟩)
 go_ret
 exact⟨rfl,0,_,by rw[alloc_eq_grow,alloc_eq_grow,grow_grow];rfl⟩
theorem cmpB:∀a b:List UInt8,Lib.compareBytes a b=zL a b
 |[],[]=>rfl
 |[],_::_=>rfl
 |_::_,[]=>rfl
 |x::a,y::b=>by
  have ih:=cmpB a b;unfold zL at ih⊢;unfold Lib.compareBytes;rw[Pl.qc,Pl.qc,ih];by_cases h1:x.toNat<y.toNat
  .rw[if_pos (Q5.2 h1),if_pos h1];rfl
  .rw[if_neg (λh=>h1 (Q5.1 h)),if_neg h1];by_cases h2:y.toNat<x.toNat
   .rw[if_pos (Q5.2 h2),if_pos h2,if_neg h1,if_pos h2];rfl
   .rw[if_neg (λh=>h2 (Q5.1 h)),if_neg h2,if_neg h2,if_neg h1]
theorem ltF (x y:Pl.Fnd):ltOf (λx y:Pl.Fnd=>Lib.compareBytes x.ag y.ag) x y=Pl.bK x.ag y.ag:=by
 show decide (Lib.compareBytes x.ag y.ag<0)=_;rw[cmpB];unfold zL;cases h:Pl.bK x.ag y.ag with
 |true=>rfl
 |false=>cases h2:Pl.bK y.ag x.ag<;>rfl
theorem ltT (x y:Pl.bU):ltOf (λx y:Pl.bU=>Lib.compareInt x.id y.id) x y=decide (x.id<y.id):=by
 unfold ltOf Lib.compareInt;by_cases h1:x.id<y.id
 .simp[h1]
 .by_cases h2:y.id<x.id<;>simp[h1,h2]
theorem swoF:SWO (ltOf λx y:Pl.Fnd=>Lib.compareBytes x.ag y.ag) where
 irrefl x:=by rw[ltF];exact Pl.j6 _
 trans x y z h1 h2:=by rw[ltF] at *;exact Pl.eU _ _ _ h1 h2
 ntrans x y z h1 h2:=by
  rw[ltF] at *
  cases h3:Pl.bK y.ag x.ag with
  |false=>rw[Pl.lp _ _ h1 h3];exact h2
  |true=>
   cases h4:Pl.bK x.ag z.ag with
   |false=>rfl
   |true=>rw[Pl.eU _ _ _ h3 h4] at h2;cases h2
theorem swoT:SWO (ltOf λx y:Pl.bU=>Lib.compareInt x.id y.id) where
 irrefl x:=by rw[ltT];simp
 trans x y z h1 h2:=by rw[ltT] at *;simp at *;omega
 ntrans x y z h1 h2:=by rw[ltT] at *;simp at *;omega
instance inhF:Inhabited Pl.Fnd:=⟨⟨[],0⟩⟩
instance inhT:Inhabited Pl.bU:=⟨⟨0,false,[]⟩⟩
theorem QZ {α:Type}[Inhabited α]{l:List α}{d:Array α}(h:PermIn 0 l.toArray.size l.toArray d):d.size=l.length/\d.toList.Perm l:=by
 obtain⟨h1,_,h2⟩:=h;have h1:d.size=l.length:=h1;refine⟨h1,?_⟩;rw[show(d.extract 0 l.toArray.size)=d by rw[show l.toArray.size=d.size from h1.symm];exact Array.extract_size,show l.toArray.extract 0 l.toArray.size=l.toArray from Array.extract_size] at h2;exact h2
theorem Q0 {α:Type}[Inhabited α]{d:Array α}{n:Nat}(hn:d.size=n){lt:α->α->Bool}(h:SortedIn lt 0 n d):d.toList.Pairwise λx y=>lt y x=false:=by
 rw[Ar];intro i j hi hj qp;have fG:i<d.size:=hi;have YI:j<d.size:=hj;have:=h i j (jG _) qp af;rw[Av d i fG,Av d j YI] at this;exact this
theorem Am {α β:Type}{key:α->β}{R S:α->α->Prop}:∀{l:List α},(l.map key).Nodup->l.Pairwise R->(∀x y,R x y->key x≠key y->S x y)->l.Pairwise S
 |[],_,_,_=>Pu
 |x::l,hn,hp,h=>by
  obtain⟨h1,h2⟩:=vN.1 hn;obtain⟨h3,h4⟩:=jK.1 hp;exact jK.2 ⟨λy hy=>h x y (h3 y hy) λe=>h1 (by rw[e];exact List.mem_map_of_mem hy),Am h2 h4 h⟩
theorem sortedF {l:List Pl.Fnd}(ha:wK l=true){d:Array Pl.Fnd}(hp:PermIn 0 l.toArray.size l.toArray d)(hs:SortedIn (ltOf λx y:Pl.Fnd=>Lib.compareBytes x.ag y.ag) 0 l.toArray.size d):d=(iF l).toArray:=by
 obtain⟨h1,h2⟩:=QZ hp;have hn:(l.map (·.ag)).Nodup:=vM ha;have F0:(d.toList.map (·.ag)).Nodup:=(h2.map _).nodup_iff.2 hn;have h3:=Q0 (n:=l.toArray.size) h1 hs;have h4:Pl.kq d.toList:=Am (key:=λx:Pl.Fnd=>x.ag) F0 h3 λx y T4 gx=>by
  rw[ltF] at T4;cases h5:Pl.bK x.ag y.ag with
  |true=>rfl
  |false=>exact absurd (Pl.lp _ _ h5 T4) gx
 have:=Pl.qe d.toList (iF l) h4 (Pl.qf l hn) λx=>by rw[Pl.pC];exact h2.mem_iff
 rw[<-this]
theorem sortedT {l:List Pl.bU}(ha:wL l=true){d:Array Pl.bU}(hp:PermIn 0 l.toArray.size l.toArray d)(hs:SortedIn (ltOf λx y:Pl.bU=>Lib.compareInt x.id y.id) 0 l.toArray.size d):d=(ja l).toArray:=by
 obtain⟨h1,h2⟩:=QZ hp;have hn:(l.map (·.id)).Nodup:=vM ha;have F0:(d.toList.map (·.id)).Nodup:=(h2.map _).nodup_iff.2 hn;have h3:=Q0 (n:=l.toArray.size) h1 hs;have h4:Pl.eB d.toList:=Am (key:=λx:Pl.bU=>x.id) F0 h3 λx y T4 gx=>by
  rw[ltT,lD] at T4;omega
 have:=Pl.ti d.toList (ja l) h4 (Pl.tj l hn) λx=>by rw[Pl.sg];exact h2.mem_iff
 rw[<-this]
theorem HI (x:Pl.Fnd):∀l,(yd x l).length=l.length+1
 |[]=>rfl
 |y::l=>by
  unfold yd;split
  .rfl
  .rw[dh,HI x l,dh]
theorem Eu:∀l,(iF l).length=l.length
 |[]=>rfl
 |x::l=>by
  show(yd x (iF l)).length=_;rw[HI,Eu l,dh]
theorem HJ (x:Pl.bU):∀l,(ye x l).length=l.length+1
 |[]=>rfl
 |y::l=>by
  unfold ye;split
  .rfl
  .rw[dh,HJ x l,dh]
theorem Ew:∀l,(ja l).length=l.length
 |[]=>rfl
 |x::l=>by
  show(ye x (ja l)).length=_;rw[HJ,Ew l,dh]
theorem decF_eq:∀(cs:aQ)(l:List Pl.Fnd),RJ cs=some l->cs=l.flatMap pS:=by
 intro cs
 fun_induction RJ cs with
 |case1=>intro l h;cases h;rfl
 |case2 z i cs ih=>
  intro l h;obtain⟨l2,h1,rfl⟩:=Option.map_eq_some_iff.1 h;rw[ih l2 h1];rfl
 |case3=>intro l h;cases h
theorem decT_eq:∀(cs:aQ)(l:List Pl.bU),RL cs=some l->cs=l.flatMap pT:=by
 intro cs
 fun_induction RL cs with
 |case1=>intro l h;cases h;rfl
 |case2 i b z cs ih=>
  intro l h;obtain⟨l2,h1,rfl⟩:=Option.map_eq_some_iff.1 h;rw[ih l2 h1];rfl
 |case3=>intro l h;cases h
theorem groundF (x:Pl.Fnd):∀v∈pS x,∀ρ,bZ ρ v=v:=λv hv ρ=>by
 simp only[pS,bV,iC,iP] at hv;rcases hv with rfl|rfl<;>simp[bZ]
theorem groundT (x:Pl.bU):∀v∈pT x,∀ρ,bZ ρ v=v:=λv hv ρ=>by
 simp only[pT,bV,iC,iP] at hv;rcases hv with rfl|rfl|rfl<;>simp[bZ]
theorem oneF (x:Pl.Fnd):∀v∈pS x,v.oneCell'=true:=λv hv=>by
 simp only[pS,bV,iC,iP] at hv;rcases hv with rfl|rfl<;>rfl
theorem oneT (x:Pl.bU):∀v∈pT x,v.oneCell'=true:=λv hv=>by
 simp only[pT,bV,iC,iP] at hv;rcases hv with rfl|rfl|rfl<;>rfl
theorem TL:mL prog 121 (Vc 122):=MS (by decide) (λ_=>rfl) decF_eq groundF Eu λaS off cap l w ha hH hb hl=>by
 have h:=AnyQ.slices_SortFunc iF 2 isAgg70 sizeOf70 pS (λ_=>rfl) oneF (λx y=>Lib.compareBytes x.ag y.ag) swoF 122 #[] aS off cap l.toArray w (λargs w=>call122 args w) (λm os dk hs x y=>less122 x y _) hH hb (by show l.length<_;omega);change Calls prog 121 _ _ _ at h;refine .inr ⟨121,_,w,call121 _ w,h.mono λe w' ⟨he,d',m,os,hp,hs,hw⟩=>⟨_,he,rfl,m,os,?_⟩⟩;rw[hw,sortedF ha hp hs]
theorem TN:mL prog 123 (Vd 124):=MS (by decide) (λ_=>rfl) decT_eq groundT Ew λaS off cap l w ha hH hb hl=>by
 have h:=AnyQ.slices_SortFunc ja 3 isAgg37 sizeOf37 pT (λ_=>rfl) oneT (λx y=>Lib.compareInt x.id y.id) swoT 124 #[] aS off cap l.toArray w (λargs w=>call124 args w) (λm os dk hs x y=>less124 x y _) hH hb (by show l.length<_;omega);change Calls prog 123 _ _ _ at h;refine .inr ⟨123,_,w,call123 _ w,h.mono λe w' ⟨he,d',m,os,hp,hs,hw⟩=>⟨_,he,rfl,m,os,?_⟩⟩;rw[hw,sortedT ha hp hs]
theorem Yu {w w':World}(h:Below w.heap.size w w'):Fr w w' λ_=>False:=⟨h.os,h.tape,h.output,h.size,λr hr _=>h.block r hr⟩
theorem Jn (z:ByteArray)(ρ:fP):bZ ρ (.string z)= .string z:=by simp[bZ]
theorem MT:mL prog 89 CF:=rV λargs s v s' h=>by
 unfold CF at h;split at h
 rotate_left
 .cases h
 rename_i a b;have h:=aA h;simp only[cx] at h;obtain⟨rfl,rfl⟩:=h;refine⟨rfl,λρ=>xW _ _ _,λx hx ρ=>?_,λw=>?_⟩
 .simp only[bV,iC,iP] at hx;rcases hx with rfl|rfl<;>exact Jn _ _
 .have h1:=Any.bytealg_CompareString lays213 ⟨⟨a⟩⟩ ⟨⟨b⟩⟩ w;change Calls prog 89 _ _ _ at h1;refine .inr ⟨89,_,w,call89 _ w,h1.mono λe w' ⟨he,hw⟩=>⟨_,he,?_,by rw[hw];exact Fr.refl _ _⟩⟩;exact gb (Value.int .i64) (cmpB a b)
theorem Yv (z:List UInt8):∀n,Lib.repeatL z n=yf z n
 |0=>rfl
 |n+1=>by unfold Lib.repeatL yf;rw[Yv z n]
theorem Pj:mL prog 74 Iq:=rV λargs s v s' h=>by
 unfold Iq at h;split at h
 rotate_left
 .cases h
 rename_i z n;obtain⟨h0,h⟩:=bg h;have h:=aA h;simp only[cx] at h;obtain⟨rfl,rfl⟩:=h;rw[cv] at h0;have h1:z.length*n<=1000000:=qq h0.1;have h2:n<=1000000:=qq h0.2;refine⟨rfl,λρ=>Jn _ _,λx hx ρ=>?_,λw=>?_⟩
 .simp only[bV,iC,iP] at hx;rcases hx with rfl|rfl
  .exact Jn _ _
  .exact xW _ _ _
 .have h3:=Any.strings_Repeat zl Tryz.zm ⟨⟨z⟩⟩ n w af (by show z.length*n<=_;omega);change Calls prog 74 _ _ _ at h3;refine .inr ⟨74,_,w,call74 _ w,h3.mono λe w' ⟨he,hw⟩=>⟨_,he,?_,Yu hw⟩⟩;rw[show Lib.repeatL (⟨⟨z⟩⟩:ByteArray).data.toList n=yf z n from Yv z n]
theorem TO:mL prog 250 Ir:=rV λargs s v s' h=>by
 unfold Ir at h;split at h
 rotate_left
 .cases h
 rename_i z c;obtain⟨h0,h⟩:=bg h;have h:=aA h;simp only[cx] at h;obtain⟨rfl,rfl⟩:=h;have hc:c<256:=qq h0;refine⟨rfl,λρ=>xW _ _ _,λx hx ρ=>?_,λw=>?_⟩
 .simp only[bV,iC,iP] at hx;rcases hx with rfl|rfl
  .exact Jn _ _
  .exact xW _ _ _
 .refine .inl ⟨_,w,?_,rfl,Fr.refl _ _⟩;rw[run_callFunc_extern func250 cU cU cU (e:=Extern.BytealgCount.count) cU,run_countString];have Rk:(UInt8.ofNat c).toNat=c:=by simp[HL hc]
  have h4:(Int.toNat (Int.ofNat c)).toUInt8=UInt8.ofNat c:=rfl;have h5:Lib.countByte z (UInt8.ofNat c)=eh (z.filter λb=>Nat.beq b.toNat c):=by
   unfold Lib.countByte;rw[dm,List.count_eq_length_filter]
   congr 1
   apply List.filter_congr;intro b _;rw[oL];simp only[zv,BY];rw[<-wu,Rk]
  show Result.andThen (Result.ok _ w) _=_;rw[h4];show Result.ok (Next.value (.int .i64 ((Lib.countByte z (UInt8.ofNat c):Nat):Int))) w=_;rw[h5];rfl
theorem mixed:prog.follows .mixedOrders=true:=by kernel_rfl
theorem hooksP:∀p∈[((250:Nat),Ir)],mL prog p.1 p.2:=λp hp=>by
 simp only[bV,iC,iP] at hp;subst hp;exact TO
theorem tH:dP prog (qN aU extP 100000 [] 200):=CD envOk (fnOk hooksP) mixed 100000 (tab:=[]) (λe he=>by cases he) 200
theorem runs {f:Nat}{args:aQ}{v:Value}(h:Kq f args v=true)(hv:∀ρ,bZ ρ v=v)(ha:∀x∈args,∀ρ,bZ ρ x=x)(w:World):lU prog f ⟨args⟩ w λv' w'=>v'=v/\Fr w w' λ_=>False:=by
 unfold Kq at h;split at h
 .rename_i u s1 hc;have:=U6 _ _ h;subst this;exact run_pure tH (cy _) hc hv ha w
 .cases h
end Go.Proofs
