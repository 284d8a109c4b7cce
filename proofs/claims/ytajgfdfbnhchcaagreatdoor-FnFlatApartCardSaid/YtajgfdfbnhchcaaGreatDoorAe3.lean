/- Lemmas of the proof. No conditions. -/
import Derived.Test.YtajgfdfbnhchcaaGreatDoorAe2
set_option maxRecDepth 100000
set_option maxHeartbeats 4000000
set_option linter.unusedVariables false
set_option linter.unusedSimpArgs false
open Go.Proofs.Tryz
namespace Go.Pl
open Go Go.Ev Go.Lg Go.Proofs
theorem MY (s:St)(v:SA)(st:ar)(h:dv 50000 st)(n:iG)(hn:j5 n)(a:Nat)(z:aA)(ha:a+z.length<=192)(hf:(bA st n).length<=192):
  eQ a8 bj 167 [fD v st,nv n,iv a,sv z] s [] v st (fy st n a z).1 true (EF (fy st n a z).2.1 (fy st n a z).2.2):=by
 have h1:dv 100000 st:=h.mono ag;have hov:(ga (bA st n) a z).length<=192/\a+z.length<=(ga (bA st n) a z).length:=by
  unfold ga ir;simp only[bJ,cZ,gd,ry];omega
 refine aU f167 ?_;dsimp only[eO];by_cases hz:z=[]
 .subst hz;have hw:fy st n a []=(st,n,true):=rfl;rw[hw];(refine' cU)
  (refine' dW)
  .rfl
  .intro hc;cases hc
 .have hw:fy st n a z=gw st n (ga (bA st n) a z) (a/ 12) ((a+z.length-1)/ 12):=by unfold fy;rw[if_neg hz]
  rw[hw];have hzl:0<z.length:=oD.2 hz;have hmt:((min ((bA st n++ir ((a:Int)-((bA st n).length:Int))).length:Int) ((a:Int)+(z.length:Int))).toNat)=min (bA st n++ir ((a:Int)-((bA st n).length:Int))).length (a+z.length):=by omega
  have ZD:=λ(dI:SA) s=>HG s dI st h n hn (ga (bA st n) a z) ag (a/ 12) ((a+z.length-1)/ 12) ag ag ag
  have XD:((a:Int)).tdiv 12=((a/ 12:Nat):Int):=by rw[UY ag];omega
  have ZA:((a:Int)+(z.length:Int)-1).tdiv 12=(((a+z.length-1)/ 12:Nat):Int):=by rw[UY ag];omega
  refine' zbb
  have S3:∀(dI:SA) s,eQ a8 bj 204 [fD dI st,nv n,sv (List.take a (bA st n++ir ((a:Int)-((bA st n).length:Int)))++z++List.drop (min ((bA st n++ir ((a:Int)-((bA st n).length:Int))).length:Int) ((a:Int)+(z.length:Int))).toNat (bA st n++ir ((a:Int)-((bA st n).length:Int)))),iv (((a:Int)).tdiv 12),iv (((a:Int)+(z.length:Int)-1).tdiv 12)] s [] dI st (gw st n (ga (bA st n) a z) (a/ 12) ((a+z.length-1)/ 12)).1 true (EF (gw st n (ga (bA st n) a z) (a/ 12) ((a+z.length-1)/ 12)).2.1 (gw st n (ga (bA st n) a z) (a/ 12) ((a+z.length-1)/ 12)).2.2):=λdI s=>by
   rw[XD,ZA,hmt];exact ZD dI s
  (repeat' (first|refine' a7|refine' y4|refine' Lp|((with_reducible apply WO.nf);exact aE;(first|exact λs=>S3 _ s);exact ey;intro _ _ TY _ _ TZ)|refine' aw|fail))
  all_goals try refine cM
  (refine' dW)
  .rfl
  .intro hc;cases hc
theorem T0 (s:St)(v:SA)(st:ar)(h:dv 40000 st)(n:iG)(hn:j5 n)(a:Nat)(ha:a<=192)(hs:n.size<=192)(hf:((bA st n).length:Int)=n.size)(hm:n.aS.many=dn n.size 12):
  eQ a8 bj 168 [fD v st,nv n,iv a] s [] v st (fk st n a).1 true (EF (fk st n a).2.1 (fk st n a).2.2):=by
 have h1:dv 100000 st:=h.mono ag;have h8:dv 80000 st:=h.mono ag;have Dq:=hn.tr;have iW:=hn.sz;have hpa:dn a 12=((a+11)/ 12:Nat):=by unfold dn;omega
 refine' zbb
 have hKv:12*((a+11)/ 12)<=a+11/\a+11<12*((a+11)/ 12)+12:=by omega
 generalize(a+11)/ 12=K at hpa hKv;have hpi:∀s,bP 205 [iv a,iv 12] s [] (iv K):=λs=>by have:=y7 s a 12 ag ag;rwa [hpa] at this
 by_cases hsa:n.size<=a
 .by_cases hme:(K:Int)=n.aS.many
  .have hw:fk st n a=(st,{n with size:=(a:Int)},true):=by
    unfold fk;simp only[hpa];rw[if_pos hsa,if_pos hme]
   rw[hw];refine aU f168 ?_;dsimp only[eO];(repeat' (first|refine' a7|refine' y4|refine' Lp|refine' Ly|refine' aw|fail))
   all_goals try refine cM
   (refine' dW)
   .rfl
   .intro hc;cases hc
  .have hK1:1<=K:=by unfold dn at hm;omega
   have hKe:((K:Int)-1)=((K-1:Nat):Int):=by omega
   rcases uu:nH st n.aS (K-1) [] with⟨eL,t2,ok⟩
   have hw:fk st n a=(eL,{n with size:=(a:Int),aS:=t2},ok):=by
    unfold fk;simp only[hpa];rw[if_pos hsa,if_neg hme,hKe,uy];simp only[uu]
   rw[hw];have S3:∀(dI:SA) s,eQ a8 bj 151 [fD dI st,tv n.aS,iv ((K:Int)-1),sv []] s [] dI st eL ok (B1 t2 ok):=λdI s=>by
    have:=sF s dI st h8 n.aS Dq (K-1) ag [] (by simp);rw[uu] at this;rw[hKe];exact this
   refine aU f168 ?_;dsimp only[eO];(repeat' (first|refine' a7|refine' y4|refine' Lp|refine' Ly|refine' DG|refine' aw|fail))
   all_goals try refine cM
   (refine' dW)
   .rfl
   .intro hc;cases hc
 .rcases ZE:tp st n.aS K with⟨eL,t2,ok⟩
  have bS:=zr (many:=(K:Int)) h Dq ag;rw[ZE] at bS;have Qm:∀(dI:SA) s,eQ a8 bj 203 [fD dI st,tv n.aS,iv K] s [] dI st eL ok (B1 t2 ok):=λdI s=>by
   have:=DH s dI st h8 n.aS Dq (K:Int) ag;rw[ZE] at this;exact this
  cases ok with
  |false=>
   have hw:fk st n a=(eL,n,false):=by
    unfold fk;simp only[hpa];rw[if_neg hsa];simp only[ZE]
   rw[hw];have By:=bS.2.2 rfl;refine aU f168 ?_;dsimp only[eO];(repeat' (first|refine' a7|refine' y4|refine' Lp|refine' Ly|refine' WV|refine' aw|fail))
   all_goals try refine cM
   (refine' dW)
   .rw[show fD Lz eL=fD Lz st from By.fD _];rw[WW rfl];rfl
   .intro hc;cases hc
  |true=>
   by_cases hK0:K=0
   .have hw:fk st n a=(eL,{n with size:=(a:Int),aS:=t2},true):=by
     unfold fk;simp only[hpa];rw[if_neg hsa];simp only[ZE];rw[if_pos ag]
    rw[hw];refine aU f168 ?_;dsimp only[eO];(repeat' (first|refine' a7|refine' y4|refine' Lp|refine' Ly|refine' WV|refine' aw|fail))
    all_goals try refine cM
    (refine' dW)
    .rfl
    .intro hc;cases hc
   .have hw:fk st n a=gw eL {n with size:=(a:Int),aS:=t2} ((bA st n).take a) (K-1) (K-1):=by
     unfold fk;simp only[hpa];rw[if_neg hsa];simp only[ZE];rw[if_neg ag,show((K:Int)-1).toNat=K-1 by omega]
    rw[hw];have hnn:j5 {n with size:=(a:Int),aS:=t2}:=⟨bS.2.1,⟨Kb _,by show(a:Int)<=10000;omega⟩⟩;have du:((bA st n).take a).length=a:=by rw[cZ];omega
    have SI:∀(dI:SA) s,eQ a8 bj 204 [fD dI eL,nv {n with size:=(a:Int),aS:=t2},sv ((bA st n).take a),iv ((K:Int)-1),iv ((K:Int)-1)] s [] dI eL (gw eL {n with size:=(a:Int),aS:=t2} ((bA st n).take a) (K-1) (K-1)).1 true (EF (gw eL {n with size:=(a:Int),aS:=t2} ((bA st n).take a) (K-1) (K-1)).2.1 (gw eL {n with size:=(a:Int),aS:=t2} ((bA st n).take a) (K-1) (K-1)).2.2):=λdI s=>by
     have:=HG s dI eL (bS.1.mono ag) _ hnn ((bA st n).take a) ag (K-1) (K-1) ag ag ag;rw[show((K:Int)-1)=((K-1:Nat):Int) by omega];exact this
    refine aU f168 ?_;dsimp only[eO];(repeat' (first|refine' a7|refine' y4|refine' Lp|refine' Ly|refine' WV|((with_reducible apply WO.nf);exact aE;(first|exact λs=>SI _ s);exact ey;intro _ _ TY _ _ TZ)|refine' aw|fail))
    all_goals try refine cM
    (refine' dW)
    .rfl
    .intro hc;cases hc
section
variable {st:ar}
theorem BC {n:Nat}{u:iG}{z:aA}{a b:Nat}(h:dv n st)(hu:j5 u)(hz:z.length<=1000)(hb:b<16):dv (n+510) (gw st u z a b).1/\j5 (gw st u z a b).2.1:=by
 unfold gw;by_cases kK:a<=b+1
 .have:=wR z (b+1-a) a n st {u with size:=z.length} h ⟨hu.tr,⟨Kb _,by show(z.length:Int)<=10000;omega⟩⟩ ag;exact⟨this.1.mono ag,this.2⟩
 .rw[show b+1-a=0 by omega];exact⟨h.mono ag,⟨hu.tr,⟨Kb _,by show(z.length:Int)<=10000;omega⟩⟩⟩
theorem wT {n:Nat}{u:iG}{z:aA}{a:Nat}(h:dv n st)(hu:j5 u)(ha:a+z.length<=192)(hf:(bA st u).length<=192):dv (n+600) (fy st u a z).1/\j5 (fy st u a z).2.1:=by
 have hov:(ga (bA st u) a z).length<=192:=by
  unfold ga ir;simp only[bJ,cZ,gd,ry];omega
 unfold fy;split
 .exact⟨h.mono ag,hu⟩
 .rename_i hz;have hzl:0<z.length:=oD.2 hz;have:=BC (a:=a/ 12) (b:=(a+z.length-1)/ 12) h hu (show(ga (bA st u) a z).length<=1000 by omega) ag;exact⟨this.1.mono ag,this.2⟩
theorem BD {n:Nat}{u:iG}{a:Nat}(h:dv n st)(hu:j5 u)(ha:a<=192)(hf:(bA st u).length<=192):dv (n+600) (fk st u a).1/\j5 (fk st u a).2.1:=by
 have hp:0<=dn a 12/\dn a 12<=16:=by unfold dn;omega
 have uv:j5 {u with size:=(a:Int)}:=⟨hu.tr,⟨Kb _,by show(a:Int)<=10000;omega⟩⟩;unfold fk;simp only;split
 .split
  .exact⟨h.mono ag,uv⟩
  .have bS:=nt (k:=(dn a 12-1).toNat) (z:=[]) h hu.tr ag (by simp);rcases uu:nH st u.aS (dn a 12-1).toNat [] with⟨eL,t2,ok⟩
   rw[uu] at bS;exact⟨bS.1.mono ag,uv.aS bS.2.1⟩
 .have bS:=zr (many:=dn a 12) h hu.tr hp;rcases ZE:tp st u.aS (dn a 12) with⟨eL,t2,ok⟩
  rw[ZE] at bS;cases ok with
  |false=>exact⟨bS.1.mono ag,hu⟩
  |true=>
   simp only;have GC:j5 {u with aS:=t2,size:=(a:Int)}:=⟨bS.2.1,⟨Kb _,by show(a:Int)<=10000;omega⟩⟩;split
   .exact⟨bS.1.mono ag,GC⟩
   .have:=BC (a:=(dn a 12-1).toNat) (b:=(dn a 12-1).toNat) bS.1 GC (show((bA st u).take a).length<=1000 by rw[cZ];omega) ag;exact⟨this.1.mono ag,this.2⟩
theorem MZ (s:St)(b:Nat)(v:SA)(st:ar)(t:bX)(h:dv 39000 st)(ht:eb t)(o9:Pg.FS st t)(o:Op)(hz:o.af.length<=90000)(hp:aT o.af=true)(ha:0<=o.at_/\o.at_<=192)(Br:o.aW.length<=24):
  mG a8 bj 117 [bc b,ov o] s b v ⟨st,t,false⟩ (Fs.change ⟨st,t,false⟩ o).1 (iv (Fs.change ⟨st,t,false⟩ o).2):=by
 have tc:dv 100000 st:=h.mono ag;have dS:Fs.change ⟨st,t,false⟩ o=if Fs.da ⟨st,t,false⟩ o.af<0 then(⟨st,t,false⟩,2) else if(Fs.node ⟨st,t,false⟩ (Fs.da ⟨st,t,false⟩ o.af)).kind≠1 then(⟨st,t,false⟩,4) else if 192<o.at_+o.aW.length then(⟨st,t,false⟩,6) else
   match(if o.kind=3 then fy st (Fs.node ⟨st,t,false⟩ (Fs.da ⟨st,t,false⟩ o.af)) o.at_.toNat o.aW else fk st (Fs.node ⟨st,t,false⟩ (Fs.da ⟨st,t,false⟩ o.af)) o.at_.toNat) with
   |(eL,n,ok)=>((Fs.put ⟨eL,t,!ok⟩ (Fs.da ⟨st,t,false⟩ o.af) n,(0:Int)):Fs×Int):=rfl
 obtain⟨G,l0,q0,hF,hG⟩:=o9;have WR:∀s,lJ s b v ⟨st,t,false⟩->bP 161 [bc b,sv o.af] s (tN b v) (iv (Fs.da ⟨st,t,false⟩ o.af)):=λs hr=>pS s b v ⟨st,t,false⟩ tc ht o.af hz hp hr
 by_cases h1:Fs.da ⟨st,t,false⟩ o.af<0
 .rw[if_pos h1] at dS;rw[dS];generalize Fs.da ⟨st,t,false⟩ o.af=w at *
  refine aU f117 ?_;dsimp only[kg,eO];(repeat' (first|refine' a7|refine' ud|refine' aw|fail))
  all_goals try exact pq
  refine mP (v':=v) bB bn au rfl
 .rw[if_neg h1] at dS;obtain⟨k,e1,e2⟩:=Pg.iB hF h1;obtain⟨e,he⟩:=Pg.jr hG e2;have hk:k<16:=(hF.lt he).2;have BS:Fs.node ⟨st,t,false⟩ (k:Int)=e.n:=by rw[Pg.nz hF,he];rfl
  rw[e1,BS] at dS;rw[e1] at WR;have qE:∀s,lJ s b v ⟨st,t,false⟩->bP 162 [bc b,iv k] s (tN b v) (nv e.n):=λs hr=>by rw[<-BS];exact tF s b v ⟨st,t,false⟩ tc ht k ag hr
  by_cases h2:e.n.kind≠1
  .rw[if_pos h2] at dS;rw[dS];clear h1 e1;refine aU f117 ?_;dsimp only[kg,eO];(refine' QU)
   all_goals first|(exfalso;omega;done)|(exfalso;exact h2 (by assumption))|skip
   refine mP (v':=v) bB bn au rfl
  .rw[if_neg h2] at dS;have h2:e.n.kind=1:=by simpa using h2
   by_cases h3:192<o.at_+(o.aW.length:Int)
   .rw[if_pos h3] at dS;rw[dS];clear h1 e1;refine aU f117 ?_;dsimp only[kg,eO];(refine' QU)
    all_goals try refine cM
    refine mP (v':=v) bB bn au rfl
   .rw[if_neg h3] at dS;have HO:∃ln qn,Pg.pf st e.n ln qn:=by
     obtain⟨ln,qn,hq,hh⟩:=((hF.at_ k).some he).2;rcases hh with⟨_,hh⟩|hh
     .exact⟨ln,qn,hh⟩
     .have:=hh.kd;rw[h2] at this;cases this
    obtain⟨ln,qn,FW⟩:=HO;have Qy:=Pg.nu FW.tr FW.sz.1 FW.mn FW.ft;have iW:=FW.sz;have x9:=FW.mn;have uv:j5 e.n:=j5.of FW.ok;obtain⟨a,hta⟩:∃a:Nat,o.at_=(a:Int):=⟨o.at_.toNat,ag⟩;rw[hta] at dS h3 ha;rw[uy] at dS;have hhw:=wT (n:=39000) (u:=e.n) (z:=o.aW) (a:=a) h uv ag ag;have hhc:=BD (n:=39000) (u:=e.n) (a:=a) h uv ag ag;rw[dS];by_cases h4:o.kind=3
    .rw[if_pos h4];rcases hw:fy st e.n a o.aW with⟨eL,n2,ok⟩
     rw[hw] at hhw;have nU:∀(dI:SA) s,eQ a8 bj 167 [fD dI st,nv e.n,iv o.at_,sv o.aW] s [] dI st eL true (EF n2 ok):=λdI s=>by
      have:=MY s dI st (h.mono ag) e.n uv a o.aW ag ag;rw[hw] at this;rw[hta];exact this
     have dK:∀(dI:SA) s,mG a8 bj 157 [bc b,iv k,nv n2] s b dI ⟨eL,t,!ok⟩ (Fs.put ⟨eL,t,!ok⟩ k n2) (.tuple ⟨[]⟩):=λdI s=>sG s b dI ⟨eL,t,!ok⟩ (hhw.1.mono ag) ht k hk _
     refine' zaT
     clear h1 e1 hhw hhc hw FW x9;refine aU f117 ?_;dsimp only[kg,eO];(repeat' (first|refine' a7|refine' ud|refine' y5|((with_reducible apply WO.nf);exact aE;(first|exact λs=>nU _ s);exact ey;intro _ _ ac5 _ _ ac6)|refine' G8|refine' aw|fail))
     all_goals try refine cM
     all_goals refine mP (v':=pB) bB bn au rfl
    .rw[if_neg h4];rcases hw:fk st e.n a with⟨eL,n2,ok⟩
     rw[hw] at hhc;have nU:∀(dI:SA) s,eQ a8 bj 168 [fD dI st,nv e.n,iv o.at_] s [] dI st eL true (EF n2 ok):=λdI s=>by
      have:=T0 s dI st (h.mono ag) e.n uv a ag ag ag x9;rw[hw] at this;rw[hta];exact this
     have dK:∀(dI:SA) s,mG a8 bj 157 [bc b,iv k,nv n2] s b dI ⟨eL,t,!ok⟩ (Fs.put ⟨eL,t,!ok⟩ k n2) (.tuple ⟨[]⟩):=λdI s=>sG s b dI ⟨eL,t,!ok⟩ (hhc.1.mono ag) ht k hk _
     refine' zaT
     clear h1 e1 hhw hhc hw FW x9;refine aU f117 ?_;dsimp only[kg,eO];(repeat' (first|refine' a7|refine' ud|refine' y5|((with_reducible apply WO.nf);exact aE;(first|exact λs=>nU _ s);exact ey;intro _ _ afY _ _ afZ)|refine' G8|refine' aw|fail))
     all_goals try refine cM
     all_goals refine mP (v':=pB) bB bn au rfl
end
end Go.Pl
namespace Go.Pl
section
variable {st:ar}{t:bX}{o:Op}{to:aA}
theorem M0 {n:Nat}(h:dv n st)(ht:eb t)(o9:Pg.FS st t){z:aA}(hp:aT z=true)(kind:Int):sM (n+1730) (Fs.make ⟨st,t,false⟩ z kind).1:=by
 have h0:sM (n+1730) ⟨st,t,false⟩:=⟨h.mono ag,ht⟩;have mA:Fs.make ⟨st,t,false⟩ z kind=if 0<(Fs.bD ⟨st,t,false⟩ z).2 then(⟨st,t,false⟩,(Fs.bD ⟨st,t,false⟩ z).2) else
   match uR st t with
   |none=>(⟨st,t,false⟩,6)
   |some id=>if 12<=(Fs.bH ⟨st,t,false⟩ (Fs.bD ⟨st,t,false⟩ z).1).length then(⟨st,t,false⟩,6) else((Fs.bf (Fs.put ⟨st,t,false⟩ id ⟨kind,1,0,eY⟩) (Fs.bD ⟨st,t,false⟩ z).1 (gm (Fs.bH ⟨st,t,false⟩ (Fs.bD ⟨st,t,false⟩ z).1) ⟨Fs.base z,id⟩)),0):=rfl
 obtain⟨G,l0,q0,hF,hG⟩:=o9;rw[mA];by_cases hc:0<(Fs.bD ⟨st,t,false⟩ z).2
 .rw[if_pos hc];exact h0
 .rw[if_neg hc];obtain⟨at_,e,e1,e2,e3,e4,e5,e6,e7⟩:=Pg.sK hF hp hc;have nJ:at_<16:=(hF.lt e4).2;rw[e1];cases hid:uR st t with
  |none=>exact h0
  |some id=>
   obtain⟨ac7,_⟩:=Pg.EJ hF hid;simp only;split
   .exact h0
   .exact(sM.bf (sM.put (n:=n) ⟨h,ht⟩ ag _) ag _).mono ag
theorem PC {n:Nat}(h:dv n st)(ht:eb t)(o9:Pg.FS st t)(ha:0<=o.at_/\o.at_<=192):sM (n+1730) (Fs.change ⟨st,t,false⟩ o).1:=by
 have h0:sM (n+1730) ⟨st,t,false⟩:=⟨h.mono ag,ht⟩;have dS:Fs.change ⟨st,t,false⟩ o=if Fs.da ⟨st,t,false⟩ o.af<0 then(⟨st,t,false⟩,2) else if(Fs.node ⟨st,t,false⟩ (Fs.da ⟨st,t,false⟩ o.af)).kind≠1 then(⟨st,t,false⟩,4) else if 192<o.at_+o.aW.length then(⟨st,t,false⟩,6) else
   match(if o.kind=3 then fy st (Fs.node ⟨st,t,false⟩ (Fs.da ⟨st,t,false⟩ o.af)) o.at_.toNat o.aW else fk st (Fs.node ⟨st,t,false⟩ (Fs.da ⟨st,t,false⟩ o.af)) o.at_.toNat) with
   |(eL,n,ok)=>((Fs.put ⟨eL,t,!ok⟩ (Fs.da ⟨st,t,false⟩ o.af) n,(0:Int)):Fs×Int):=rfl
 obtain⟨G,l0,q0,hF,hG⟩:=o9;rw[dS];by_cases h1:Fs.da ⟨st,t,false⟩ o.af<0
 .rw[if_pos h1];exact h0
 rw[if_neg h1];obtain⟨k,e1,e2⟩:=Pg.iB hF h1;obtain⟨e,he⟩:=Pg.jr hG e2;have hk:k<16:=(hF.lt he).2;have BS:Fs.node ⟨st,t,false⟩ (k:Int)=e.n:=by rw[Pg.nz hF,he];rfl
 rw[e1,BS];by_cases h2:e.n.kind≠1
 .rw[if_pos h2];exact h0
 rw[if_neg h2];have h2:e.n.kind=1:=by simpa using h2
 by_cases h3:192<o.at_+(o.aW.length:Int)
 .rw[if_pos h3];exact h0
 rw[if_neg h3];have HO:∃ln qn,Pg.pf st e.n ln qn:=by
  obtain⟨ln,qn,hq,hh⟩:=((hF.at_ k).some he).2;rcases hh with⟨_,hh⟩|hh
  .exact⟨ln,qn,hh⟩
  .have:=hh.kd;rw[h2] at this;cases this
 obtain⟨ln,qn,FW⟩:=HO;have Qy:=Pg.nu FW.tr FW.sz.1 FW.mn FW.ft;have iW:=FW.sz;have uv:j5 e.n:=j5.of FW.ok;have hhw:=wT (n:=n) (u:=e.n) (z:=o.aW) (a:=o.at_.toNat) h uv ag ag;have hhc:=BD (n:=n) (u:=e.n) (a:=o.at_.toNat) h uv ag ag;split;rename_i eL n2 ok heq;have aeZ:dv (n+600) eL:=by
  by_cases h4:o.kind=3
  .rw[if_pos h4] at heq;rw[heq] at hhw;exact hhw.1
  .rw[if_neg h4] at heq;rw[heq] at hhc;exact hhc.1
 exact(sM.put (f:=⟨eL,t,!ok⟩) ⟨aeZ,ht⟩ ag _).mono ag
theorem YB {n:Nat}(h:dv n st)(hn:n<=80000)(ht:eb t)(o9:Pg.FS st t){z:aA}(hp:aT z=true):sM (n+1730) (Fs.qe ⟨st,t,false⟩ z).1:=by
 have h0:sM (n+1730) ⟨st,t,false⟩:=⟨h.mono ag,ht⟩;have dS:Fs.qe ⟨st,t,false⟩ z=if Fs.da ⟨st,t,false⟩ z<0 then(⟨st,t,false⟩,2) else if Fs.da ⟨st,t,false⟩ z=0\/((Fs.node ⟨st,t,false⟩ (Fs.da ⟨st,t,false⟩ z)).kind=2/\0<(Fs.node ⟨st,t,false⟩ (Fs.da ⟨st,t,false⟩ z)).size) then(⟨st,t,false⟩,5) else
   (let f1:=Fs.bf ⟨st,t,false⟩ (Fs.bM ⟨st,t,false⟩ z).1 (eu (Fs.bH ⟨st,t,false⟩ (Fs.bM ⟨st,t,false⟩ z).1) ((eA (Fs.bH ⟨st,t,false⟩ (Fs.bM ⟨st,t,false⟩ z).1) (Fs.base z)).getD 0))
    let n1:iG:={Fs.node ⟨st,t,false⟩ (Fs.da ⟨st,t,false⟩ z) with bF:=(Fs.node ⟨st,t,false⟩ (Fs.da ⟨st,t,false⟩ z)).bF-1}
    if 0<n1.bF then(f1.put (Fs.da ⟨st,t,false⟩ z) n1,0) else if f1.cC then(f1,0) else match dY f1.st f1.t (Fs.da ⟨st,t,false⟩ z) with
     |(eL,t2,ok)=>((⟨eL,t2,!ok⟩,0):Fs×Int)):=rfl
 obtain⟨G,l0,q0,hF,hG⟩:=o9;rw[dS];by_cases h1:Fs.da ⟨st,t,false⟩ z<0
 .rw[if_pos h1];exact h0
 rw[if_neg h1];obtain⟨k,e1,e2⟩:=Pg.iB hF h1;obtain⟨ei,qO⟩:=Pg.jr hG e2;have hk:k<16:=(hF.lt qO).2;have BS:Fs.node ⟨st,t,false⟩ (k:Int)=ei.n:=by rw[Pg.nz hF,qO];rfl
 rw[e1,BS];by_cases h2:(k:Int)=0\/(ei.n.kind=2/\0<ei.n.size)
 .rw[if_pos h2];exact h0
 rw[if_neg h2];have R9:k≠0:=λhc=>h2 (.inl ag)
 obtain⟨at_,e,i,p1,p2,p3,p4,p5,p6,p7,p8⟩:=Pg.sL hF hG e2 R9;have jC:Fs.bH ⟨st,t,false⟩ (at_:Int)=e.es:=Pg.l9 hF false p3 p4;have tg:bz e.es=true:=by have:=Pg.pG hG.wf at_;rwa [Pg.dV p3] at this
 have zA:=Pg.Jx tg (Pg.jq e.es i);have PA:at_<16:=(hF.lt p3).2;have IB:Pg.bH G k=[]:=by
  rw[Pg.dV qO];obtain⟨ln,qn,hq,⟨h0,_⟩|hd⟩:=((hF.at_ k).some qO).2
  .exact h0
  .have iW:=hd.sz;have Vq:=hd.kd;by_cases hc:ei.es=[]
   .exact hc
   .have h3:=(Pg.lY hd.eo).2 hc;exact absurd (.inr ⟨Vq,ag⟩) h2
 refine' za5
 rw[p1];simp only;rw[jC,p5,pV];have Ce:sM (n+630) (Fs.bf ⟨st,t,false⟩ at_ (eu e.es i)):=sM.bf (n:=n) ⟨h,ht⟩ ag _;split
 .exact(sM.put Ce ag _).mono ag
 split
 .exact Ce.mono ag
 .rename_i hf;have hf:(Fs.bf ⟨st,t,false⟩ at_ (eu e.es i)).cC=false:=by simpa using hf
  obtain⟨e',l1,q1,ya,g1,g2,g3⟩:=Pg.oV hF p3 p4 zA hf;obtain⟨o,ho,KG,mD⟩:=ya.all (k:=k) (e:=ei) (by rw[Pg.fM _ _ (λh=>nJ h.symm)];exact qO);have:=TW Ce.st ag Ce.t hk ho KG mD;rcases oR:dY (Fs.bf ⟨st,t,false⟩ at_ (eu e.es i)).st (Fs.bf ⟨st,t,false⟩ at_ (eu e.es i)).t k with⟨eL,t2,ok⟩
  rw[oR] at this;exact⟨this.1.mono ag,this.2⟩
theorem YC {n:Nat}(h:dv n st)(ht:eb t)(o9:Pg.FS st t){z to:aA}(uu:aT to=true):sM (n+1730) (Fs.link ⟨st,t,false⟩ z to).1:=by
 have h0:sM (n+1730) ⟨st,t,false⟩:=⟨h.mono ag,ht⟩;have mA:Fs.link ⟨st,t,false⟩ z to=if Fs.da ⟨st,t,false⟩ z<0 then(⟨st,t,false⟩,2) else if(Fs.node ⟨st,t,false⟩ (Fs.da ⟨st,t,false⟩ z)).kind≠1 then(⟨st,t,false⟩,4) else if 0<(Fs.bD ⟨st,t,false⟩ to).2 then(⟨st,t,false⟩,(Fs.bD ⟨st,t,false⟩ to).2) else
   if 9<=(Fs.node ⟨st,t,false⟩ (Fs.da ⟨st,t,false⟩ z)).bF\/12<=(Fs.bH ⟨st,t,false⟩ (Fs.bD ⟨st,t,false⟩ to).1).length then(⟨st,t,false⟩,6) else
   ((Fs.bf (Fs.put ⟨st,t,false⟩ (Fs.da ⟨st,t,false⟩ z) {Fs.node ⟨st,t,false⟩ (Fs.da ⟨st,t,false⟩ z) with bF:=(Fs.node ⟨st,t,false⟩ (Fs.da ⟨st,t,false⟩ z)).bF+1}) (Fs.bD ⟨st,t,false⟩ to).1 (gm (Fs.bH ⟨st,t,false⟩ (Fs.bD ⟨st,t,false⟩ to).1) ⟨Fs.base to,Fs.da ⟨st,t,false⟩ z⟩)),0):=rfl
 obtain⟨G,l0,q0,hF,hG⟩:=o9;rw[mA];by_cases h1:Fs.da ⟨st,t,false⟩ z<0
 .rw[if_pos h1];exact h0
 rw[if_neg h1];obtain⟨k,e1,e2⟩:=Pg.iB hF h1;obtain⟨ei,qO⟩:=Pg.jr hG e2;have hk:k<16:=(hF.lt qO).2;rw[e1];split
 .exact h0
 by_cases hc:0<(Fs.bD ⟨st,t,false⟩ to).2
 .rw[if_pos hc];exact h0
 rw[if_neg hc];obtain⟨at_,e,f1,f2,f3,f4,f5,f6,f7⟩:=Pg.sK hF uu hc;have nJ:at_<16:=(hF.lt f4).2;rw[f1];split
 .exact h0
 .exact(sM.bf (sM.put (n:=n) ⟨h,ht⟩ ag _) ag _).mono ag
theorem YD {n:Nat}(h:dv n st)(ht:eb t)(o9:Pg.FS st t){z to:aA}(hp:aT z=true)(uu:aT to=true):sM (n+1730) (Fs.move ⟨st,t,false⟩ z to).1:=by
 have h0:sM (n+1730) ⟨st,t,false⟩:=⟨h.mono ag,ht⟩;have mA:Fs.move ⟨st,t,false⟩ z to=if Fs.da ⟨st,t,false⟩ z<0 then(⟨st,t,false⟩,2) else if Fs.da ⟨st,t,false⟩ z=0 then(⟨st,t,false⟩,5) else if 0<=Fs.da ⟨st,t,false⟩ to then(⟨st,t,false⟩,3) else if under to z=true then(⟨st,t,false⟩,5) else
   if 0<(Fs.bM ⟨st,t,false⟩ to).2 then(⟨st,t,false⟩,(Fs.bM ⟨st,t,false⟩ to).2) else
   if(Fs.bM ⟨st,t,false⟩ to).1≠(Fs.bM ⟨st,t,false⟩ z).1/\12<=(Fs.bH ⟨st,t,false⟩ (Fs.bM ⟨st,t,false⟩ to).1).length then(⟨st,t,false⟩,6) else
   if(Fs.bM ⟨st,t,false⟩ to).1=(Fs.bM ⟨st,t,false⟩ z).1 then(Fs.bf ⟨st,t,false⟩ (Fs.bM ⟨st,t,false⟩ to).1 (gm (eu (Fs.bH ⟨st,t,false⟩ (Fs.bM ⟨st,t,false⟩ z).1) ((eA (Fs.bH ⟨st,t,false⟩ (Fs.bM ⟨st,t,false⟩ z).1) (Fs.base z)).getD 0)) ⟨Fs.base to,Fs.da ⟨st,t,false⟩ z⟩),0) else
   (Fs.bf (Fs.bf ⟨st,t,false⟩ (Fs.bM ⟨st,t,false⟩ z).1 (eu (Fs.bH ⟨st,t,false⟩ (Fs.bM ⟨st,t,false⟩ z).1) ((eA (Fs.bH ⟨st,t,false⟩ (Fs.bM ⟨st,t,false⟩ z).1) (Fs.base z)).getD 0))) (Fs.bM ⟨st,t,false⟩ to).1 (gm (Fs.bH (Fs.bf ⟨st,t,false⟩ (Fs.bM ⟨st,t,false⟩ z).1 (eu (Fs.bH ⟨st,t,false⟩ (Fs.bM ⟨st,t,false⟩ z).1) ((eA (Fs.bH ⟨st,t,false⟩ (Fs.bM ⟨st,t,false⟩ z).1) (Fs.base z)).getD 0))) (Fs.bM ⟨st,t,false⟩ to).1) ⟨Fs.base to,Fs.da ⟨st,t,false⟩ z⟩),0):=rfl
 obtain⟨G,l0,q0,hF,hG⟩:=o9;rw[mA];by_cases h1:Fs.da ⟨st,t,false⟩ z<0
 .rw[if_pos h1];exact h0
 rw[if_neg h1];obtain⟨k,e1,e2⟩:=Pg.iB hF h1;by_cases R9:k=0
 .rw[e1,if_pos ag];exact h0
 rw[e1,if_neg ag];split
 .exact h0
 split
 .exact h0
 by_cases h5:0<(Fs.bM ⟨st,t,false⟩ to).2
 .rw[if_pos h5];exact h0
 rw[if_neg h5];obtain⟨at_,e,a1,a2,a3,a4,a5⟩:=Pg.zy hF h5;obtain⟨fr,ef,i,p1,p2,p3,p4,p5,p6,p7,p8⟩:=Pg.sL hF hG e2 R9;have PA:at_<16:=(hF.lt a4).2;have afe:fr<16:=(hF.lt p3).2;rw[a1,p1];simp only;by_cases h6:(at_:Int)≠fr/\12<=(Fs.bH ⟨st,t,false⟩ (at_:Int)).length
 .rw[if_pos h6];exact h0
 rw[if_neg h6];have ND:∀(k:Nat) l,k<16->sM (n+630) (Fs.bf ⟨st,t,false⟩ (k:Int) l):=λk l hk=>sM.bf (n:=n) (f:=⟨st,t,false⟩) ⟨h,ht⟩ ag l
 by_cases h7:(at_:Int)=fr
 .rw[if_pos h7];dsimp only;exact(ND at_ _ PA).mono ag
 .rw[if_neg h7];dsimp only;exact(sM.bf (ND fr _ afe) (k:=(at_:Int)) ag _).mono ag
theorem EU {n:Nat}(h:dv n st)(hn:n<=80000)(ht:eb t)(o9:Pg.FS st t)(ho:gJ o=true):dv (n+1730) (eT st t o).1/\eb (eT st t o).2.1:=by
 obtain⟨o1,o2,o3,o4⟩:=Pg.AN ho;unfold eT;simp only;have key:∀r:Fs×Int,sM (n+1730) r.1->dv (n+1730) (if(if r.2=0/\r.1.cC=true then 7 else r.2)≠0 then(st,t,(if r.2=0/\r.1.cC=true then 7 else r.2)) else(r.1.st,r.1.t,(if r.2=0/\r.1.cC=true then 7 else r.2))).1/\eb (if(if r.2=0/\r.1.cC=true then 7 else r.2)≠0 then(st,t,(if r.2=0/\r.1.cC=true then 7 else r.2)) else(r.1.st,r.1.t,(if r.2=0/\r.1.cC=true then 7 else r.2))).2.1:=λr hr=>by
  generalize(if r.2=0/\r.1.cC=true then(7:Int) else r.2)=c;split
  .exact⟨h.mono ag,ht⟩
  .exact⟨hr.st,hr.t⟩
 refine key _ ?_;split
 .exact M0 h ht o9 o1 1
 split
 .exact M0 h ht o9 o1 2
 split
 .exact YB h hn ht o9 o1
 split
 .rename_i hk;exact YC h ht o9 (o2 (.inl hk))
 split
 .rename_i hk;exact YD h ht o9 o1 (o2 (.inr hk))
 .exact PC h ht o9 ⟨o3,o4⟩
end
end Go.Pl
namespace Go.Pl
open Go Go.Ev Go.Lg Go.Proofs
structure pH (s:St)(a:aK)(code:aA):Prop where
 lt:∀b∈aj a,b<s.next
 row:0<code.length->∃b o ws,a=some ⟨b,o,none⟩/\s.heap.get b=some (.uh ws)/\∀i,i<code.length->∃p,yk ws (o+i)=some p/\p.2[o+i-p.1]?=some (bv (code.getD i ak.ah))
structure sy (Γ:ij)(a:aK)(code:aA):Prop where
 r0:pH Γ.s0 a code
 A:∀b∈aj a,b∈Γ.A
 M:∀b∈aj a,b∉Γ.M
abbrev M1 (n c:Nat):Prop:=n<=c/\c<eH
abbrev aff (a:aK)(code:aA)(a2:aK)(l3:aA):Prop:=a2=a/\∃k,l3=code.take k
section
variable {E:dA}{X:dM}{Γ:ij}{s:St}{l:Kn}{L R Lm:bE}{K:KO}{x y:Operand}{t:TypeId}{a:aK}{c i:Nat}{k:IntKind}{u:Int}{code:aA}
theorem sy.of {A:List Nat}(h:pH s a code)(hA:∀b∈aj a,b∈A):sy ⟨s,([]:bE).flatMap It.aY,A⟩ a code:=⟨h,hA,λ_ _ h=>by cases h⟩
theorem sy.row (h:sy Γ a code)(hi:Inv Γ s L):pH s a code/\∀b∈aj a,Fi Γ s b:=by
 have hle:=hi.le;refine⟨⟨λb hb=>by have:=h.r0.lt b hb;omega,λh0=>?_⟩,λb hb=>⟨by have:=h.r0.lt b hb;omega,.inl (h.A b hb)⟩⟩;obtain⟨b,o,ws,rfl,h1,h2⟩:=h.r0.row h0;exact⟨b,o,ws,rfl,by rw[hi.fr b (h.r0.lt b (by simp[aj])) (h.M b (by simp[aj]))];exact h1,h2⟩
theorem sy.apart (h:sy Γ a code)(hi:Inv Γ s (Lm++R)):∀b∈aj a,b∉Lm.flatMap It.aY:=λb hb hm=>by
 obtain⟨x,hx,hxb⟩:=ph.1 hm;have h2:=h.r0.lt b hb;rcases(hi.lt x (cP _ hx) b hxb).2 with h1|h1
 .omega
 .exact h.M b hb h1
theorem sy.sub {a2:aK}{l3:aA}(h:sy Γ a code)(hs:aff a code a2 l3):sy Γ a2 l3:=by
 obtain⟨rfl,k,rfl⟩:=hs;refine⟨⟨h.r0.lt,λh0=>?_⟩,h.A,h.M⟩;rw[cZ] at h0;obtain⟨b,o,ws,h1,h2,h4⟩:=h.r0.row ag;refine⟨b,o,ws,h1,h2,λi hi=>?_⟩;rw[cZ] at hi;obtain⟨p,h5,h6⟩:=h4 i ag;refine⟨p,h5,?_⟩;rw[h6,aR,aR,J9,if_pos ag]
theorem WO.xv {e:Nat}[ht:po E t e 1](hx:Ev l x (.slice a code.length c))(hy:Ev l y (.int k u))(hd:sy Γ a code)(hi:0<=u/\u<code.length)(hk:∀n,K (de a u.toNat 1 0) L n n Z Z):WO E X Γ l (.indexAddr t x y) L K:=λtm s h1 h2=>by
 obtain⟨b,o,ws,rfl,_⟩:=hd.r0.row ag;obtain⟨hu,z1,z2,hz,hz2,_⟩:=ht.h;have yA:=nZ hy hi.1;refine fS.pure (v:=de (some ⟨b,o,none⟩) u.toNat 1 0) (s':=s) (λcall=>?_) ⟨L,Z,Z,h2,kJ.id,hk _⟩;show nR E s t (aM tm x) (aM tm y)=_;rw[hx.eval h1,yA.eval h1];unfold nR;rw[hu];show eg (Nat.ble (Nat.succ u.toNat) code.length) (ob (size E e) λsz=>aL (.pointer (some ⟨b,Nat.add o (Nat.mul u.toNat sz),none⟩)) s)=_;have hs:size E e=some 1:=by unfold size;rw[hz];simp[hz2]
 rw[il ag,hs];rfl
theorem WO.ahA [ht:nN E t](hx:Ev l x (de a i 1 0))(hd:sy Γ a code)(hi:i<code.length)(k:∀n,K (bv (code.getD i ak.ah)) L n n (λi=>i∈aj a) Z):WO E X Γ l (.load t x) L K:=λtm s h1 h2=>by
 obtain⟨hr,hm⟩:=hd.row h2;obtain⟨b,o,ws,rfl,h3,h4⟩:=hr.row ag;obtain⟨p,h5,h6⟩:=h4 i hi;have hb:=(hm b (by simp[aj]));refine fS.pure (v:=bv (code.getD i ak.ah)) (s':=s.aV b) (λcall=>?_) ⟨L,(λi=>i∈aj (some ⟨b,o,none⟩)),Z,h2.aV hb,cX hb.1 (by simp[aj]),by rw[cw];exact k _⟩;show(Fa (aM tm x) λb o=>mq E s t b o)=_;rw[hx.eval h1];show mq E s t b (o+(i*1+0))=_;obtain⟨d,g1,g2⟩:=ht.h;unfold mq St.Ko St.look;rw[h3];simp only[cr];show ob (yk ws (o+(i*1+0))) _=_;rw[show o+(i*1+0)=o+i by omega,h5];show ob (ja E t) _=_;rw[g1];show bo (z8 d) _ _=_;rw[g2];show ob (jb p.2 (o+i-p.1)) _=_;rw[dR,h6];rfl
theorem WO.alx {e:Nat}{enc:ak UInt8 1}[ht:TT E t e 1 UInt8 enc](hx:Ev l x (.slice a code.length c))(ho:Ev l y (.int k u))(hd:sy Γ a code)(hv:M1 code.length c)(hj:0<u/\u<=(code.length:Int))
  (h:∀m c',K (.slice a (code.take u.toNat).length c') L m m Z Z):WO E X Γ l (.slice t x none (some y) none) L K:=λtm s hl hi=>by
 have hb:=QE (n:=code.length) ho ⟨ag,hj.2⟩;obtain⟨b,o,ws,rfl,_⟩:=hd.r0.row ag;obtain⟨z,hr,_⟩:=ht.h;obtain⟨hu,ii,z1,J0,ua,_⟩:=hr.h;have iW:size E e=some 1:=by unfold size;rw[J0];simp[ua]
 refine fS.pure (v:=.slice (some ⟨b,o,none⟩) (code.take u.toNat).length (c-0)) (s':=s) (λcall=>?_) ⟨L,Z,Z,hi,kJ.id,h _ _⟩;show kj E s t (aM tm x) (dB (aM tm) none) (dB (aM tm) (some y)) none=_;rw[hx.eval hl];unfold kj;rw[hu];show(ob (size E e) λsz=>bo (Nat.ble eH c) _ (ob (ep sz (some ⟨b,o,none⟩) code.length c (dB (aM tm) none) (dB (aM tm) (some y)) none) λv=>aL v s))=_;rw[iW];show bo (Nat.ble eH c) _ (ob (ep 1 (some ⟨b,o,none⟩) code.length c (dB (aM tm) none) (dB (aM tm) (some y)) none) λv=>aL v s)=_;rw[show Nat.ble eH c=false from by rw[<-jR,lR];have:=hv.2;omega];show ob (ep 1 (some ⟨b,o,none⟩) code.length c (dB (aM tm) none) (dB (aM tm) (some y)) none) (λv=>aL v s)=_;unfold ep;rw[pM hb hl hv.1];have hc:Nat.beq c 0=false:=by
  cases hc:Nat.beq c 0 with
  |false=>rfl
  |true=>have:=o7 hc;have:=hv.1;omega
 show aL (.slice (bo (Nat.beq c 0) (some ⟨b,o,none⟩) (some ⟨b,o,none⟩)) (u.toNat-0) (c-0)) s=_;rw[hc,cZ,BL ag];rfl
theorem sy.lt (h:sy Γ a code):∀b∈aj a,b<Γ.s0.next:=h.r0.lt
end
section
variable {E:dA}{X:dM}{Γ:ij}{l:Kn}{L R:bE}{K:KO}{x y:Operand}{t t2:TypeId}{g:FuncId}{xs:List Operand}{ts:Array TypeId}{vs:aQ}{a:aK}{br c p d:Nat}{code:aA}{Q:Value->Prop}
theorem WO.akN {m n:Int}(hx:Ev l x (iv m))(hy:Ev l y (iv n))(hm:0<=m/\m<4611686018427387904)(hn:0<=n/\n<4611686018427387904)(h:∀i,K (iv ((m.toNat^^^ n.toNat:Nat):Int)) L i i Z Z):WO E X Γ l (.binOp .xor t x y t2) L K:=
 WO.xor (m:=m.toNat) (n:=n.toNat) (by rw[yi hm.1];exact hx) (by rw[yi hn.1];exact hy) ag ag h
abbrev oo (br:Nat)(a:aK)(n c p:Nat):It:=.box br [.slice a n c,iv (p:Int)] 76 false
abbrev HT (E:dA)(X:dM)(g:FuncId)(vs:aQ)(s:St)(br:Nat)(a:aK)(code:aA)(c p d:Nat)(Q:Value->Prop):Prop:=fH E X g vs s [oo br a code.length c p] (aj a) λR L=>∃p':Nat,p'<=p+d/\Q R/\L=[oo br a code.length c p']
theorem WO.QP (hx:kL l xs vs)(hp:oO [oo br a code.length c p] L R)(hh:sy Γ a code)(h:∀s,pH s a code->(∀i∈aj a,i∉[oo br a code.length c p].flatMap It.aY)->HT E X g vs s br a code c p d Q)(k:∀m m' p' r,p'<=p+d->Q r->kq L m->m<=m'->K r (oo br a code.length c p'::R) m m' (λi=>i∈aj a\/i∈[oo br a code.length c p].flatMap It.aY\/(m<=i/\i<m')) (λi=>i∈[oo br a code.length c p].flatMap It.aY\/(m<=i/\i<m'))):WO E X Γ l (.call ⟨.value (.func g),⟨xs⟩,ts⟩) L K:=
 WO.call (Lm:=[oo br a code.length c p]) (R:=R) hx hp.cR (λs hi=>(hh.row (hi.cR hp.cR|>.sub ⟨R,.refl _,nK _ _⟩)).2) (λs hi=>h s (hh.row (hi.cR hp.cR|>.sub ⟨R,.refl _,nK _ _⟩)).1 (sy.apart hh (hi.cR hp.cR))) (by rintro r' L' m m' ho hm ⟨p',h1,h2,rfl⟩;exact k m m' p' r' h1 h2 ho hm)
theorem Lb {rs:List ResultVar}{x:Ex}{p':Nat}{ws:aQ}(hx:x= .normal\/x= .ret)(hr:qi E l L rs ws)(hL:cz [oo br a code.length c p'] L)(hp:p'<=p+d)(hv:Q (gB ws)):
  uW E rs (λR L=>∃p':Nat,p'<=p+d/\Q R/\L=[oo br a code.length c p']) x l L:=⟨hx,ws,_,hr,hL,p',hp,hv,rfl⟩
end
def aiO (n:Int)(R:Value):Prop:=∃k:Int,R=iv k/\0<=k/\(1<=n->k<n)
theorem zF {x n:Int}(hx:0<=x)(hn:0<n):0<=x.tmod n/\x.tmod n<n:=⟨Int.tmod_nonneg _ hx,Int.tmod_lt_of_pos _ hn⟩
end Go.Pl
