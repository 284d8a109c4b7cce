/- Lemmas of the proof. No conditions. -/
import Derived.Test.YtoiielhpadnflaaGreatDoorAf5
set_option maxRecDepth 100000
set_option maxHeartbeats 4000000
set_option linter.unusedVariables false
set_option linter.unusedSimpArgs false
open Go.Proofs.Tryz
namespace Go.Pl
open Go Go.Ev Go.Lg Go.Proofs
variable {f:Flat}{E:iq}{X:fY}{Γ:qN}{l:Kn}{L R:dy}{K:KO}{g:FuncId}{xs:List Operand}{ts:Array TypeId}{vs:aY}{s:St}{b c:Nat}{a p:aS}{z w:aC}{r:Value}{x:It}{n e:Nat}{a':aS}{cs:aY}
theorem Fu (s:St)(a:aS)(c:Nat)(p:List aC)(z:aC)(hp:p.length<=1000)(hn:∀x∈p,z≠x)(hr:bM s a p.length 1 (ai p)):bL 45 [.slice a p.length c,sv z] s (aj a) (.bool false):=by
 have hd:=Rd.of hr (A:=aj a) λb hb=>hb
 refine aX f45 ?_;(repeat' (first|refine' aZ|((with_reducible apply WO.iZ);exact aD;exact λs hr=>NV s _ _ _ _ aP aP hr;exact cD;intros)|refine' av|fail));all_goals try refine cI
 all_goals refine' ax
 all_goals rfl
theorem U7 (s:St):eu bf bw 16 [sv R7] s [] 9 ([[109,97,107,101],[47,122,122]]:List aC):=by
 have hsp:∀s,eu bf bw 44 [sv R7,sv [32]] s [] 9 ([[109,97,107,101],[47,122,122]]:List aC):=λs=>UY s R7 bT
 refine aX f16 ?_;(repeat' (first|refine' aZ|refine' ah5|((with_reducible apply WO.iZ);exact aD;(intro s hr;exact Fu s _ _ _ _ bT bT hr);exact cD;intros)|refine' av|fail));all_goals try refine cI
 all_goals refine' jo
 all_goals rfl
theorem NW (s:St)(m:Nat)(ho:Ns s m):bL 7 [sv R7] s [0,m] (.tuple ⟨[ov yh,.bool true]⟩):=by
 have hd:Zu ⟨s,([]:dy).flatMap It.cr,[0,m]⟩ m:=Zu.of ho ay ay;have VO:=ho.lm;have B4:=ho.lt;have hwd:=U7;have og:∀s,bL 18 [ov yh] s [] (.bool true):=λs=>by
  have:=Ny s yh bT bT
  rwa [Kd] at this
 refine aX f7 ?_;(repeat' (first|refine' aZ|((with_reducible apply WO.vh);exact aD;(exact hwd);intro _ _ an8 an9 _ _)|((with_reducible apply WO.ajh (d:=.map 9 3));assumption;(exact cj);exact rfl;intro _)|((with_reducible apply WO.ab0 (kt:=9) (e:=3) (kd:=.string) (z:=.int .i64 0));assumption;(exact cj);(exact cj);(exact cj);(exact cj);exact fS;exact fS;intro _)|refine' RC|refine' av|fail));all_goals try refine cI
 all_goals refine' ax
 all_goals rfl
variable {c' m0:Nat}{a2 a2':aS}{q:gD}{F g':Flat}{code:aC}
section
variable {p:List bE}
abbrev Qt (E:iq)(X:fY)(g:FuncId)(vs:aY)(s:St)(b:Nat)(a:aS)(c:Nat)(p:List bE)(a':aS)(c':Nat)(q:gD)(r:Value)(F:Flat):Prop:=
 fA E X g vs s (uH b a p.length c p a' q.length c' q) [] λR L=>R=r/\∃a1 c1 a2 c2,L=uH b a1 F.ad.length c1 F.ad a2 F.ae.length c2 F.ae
theorem yi.cq (h:yi E X g vs s b a c p a' c' q r F):Qt E X g vs s b a c p a' c' q r F:=λi1 i2 i3=>(h i1 i2 i3).mono λv s' ⟨L',hI,hr,a1,n1,c1,p1,a2,n2,c2,q2,h1,h2,h3,h4,hL⟩=>by
 subst hL;have e1:F.ad.length=n1:=by rw[<-h2,cO];omega
 have e2:F.ae.length=n2:=by rw[<-h4,cO];omega
 subst e1 e2;have k1:=((hI.cT (List.Perm.swap _ _ _)).aek (x':=.aQ (.slice a1 F.ad.length c1) 52 2 (ai F.ad)) (λh=>by have:=mu.front h h1;rw[pU,h2] at this;exact this) (by cases a1<;>rfl)).cT (List.Perm.swap _ _ _);have k2:=((k1.cT (List.perm_append_comm (l₁:=[_,_]) (l₂:=[_]))).aek (x':=.aQ (.slice a2 F.ae.length c2) 54 3 (ai F.ae)) (λh=>by have:=mu.front h h3;rw[pU,h4] at this;exact this) (by cases a2<;>rfl)).cT (List.perm_append_comm (l₁:=[_]) (l₂:=[_,_]));exact⟨_,k2,hr,a1,c1,a2,c2,rfl⟩
theorem WO.agi (hx:jY l xs vs)(hp:nM (uH b a p.length c p a' q.length c' q) L R)(h:∀s,Qt E X g vs s b a c p a' c' q r F)
  (k:∀m m' a1 c1 a2 c2,iY L m->m<=m'->K r (uH b a1 F.ad.length c1 F.ad a2 F.ae.length c2 F.ae++R) m m' (mV [] (uH b a p.length c p a' q.length c' q) m m') (mW (uH b a p.length c p a' q.length c' q) m m')):WC E X Γ l g xs ts L K:=
 WO.call (Lm:=uH b a p.length c p a' q.length c' q) (R:=R) (A:=[]) hx hp.cT (λs hi b hb=>by cases hb) (λs hi=>h s) (by rintro r' L' m m' ho hm ⟨rfl,a1,c1,a2,c2,rfl⟩;exact k m m' a1 c1 a2 c2 ho hm)
abbrev Qu (E:iq)(X:fY)(g:FuncId)(vs:aY)(s:St)(A:List Nat)(F:Flat)(r:Value):Prop:=fA E X g vs s [] A λR L=>∃a1 c1 a2 c2,R= .tuple ⟨[vD a1 c1 a2 c2 F,r]⟩/\L=[j4 a1 c1 F.ad,pw a2 c2 F.ae]
theorem WO.ZW (hx:jY l xs vs)(h:∀s,eU s a a' f->Qu E X g vs s (qV a a') F r)(hh:Hs Γ L a a' f)(k:∀m m' a1 c1 a2 c2,iY L m->m<=m'->K (.tuple ⟨[vD a1 c1 a2 c2 F,r]⟩) (j4 a1 c1 F.ad::pw a2 c2 F.ae::L) m m' (mV (qV a a') [] m m') (mW [] m m')):WC E X Γ l g xs ts L K:=
 WO.call (Lm:=[]) (R:=L) (A:=qV a a') hx (.refl _) (λs hi i hb=>by
   rcases eW.1 hb with hb|hb
   .exact(hh.n.row hi).2 i hb
   .exact(hh.t.row hi).2 i hb) (λs hi=>h s ⟨(hh.n.row hi).1,(hh.t.row hi).1⟩) (by rintro r' L' m m' ho hm ⟨a1,c1,a2,c2,rfl,rfl⟩;exact k m m' a1 c1 a2 c2 ho hm)
theorem WO.agj (hx:jY l xs vs)(h:∀s,sL s a code->Uu code.length c->Zk E X g vs s a)(hd:tR Γ a code)(hv:Uu code.length c)(k:∀m m' (f:Flat)(an:aS)(cn:Nat)(a0:aS)(p0:List bE)(c0:Nat)(at_:aS)(ct:Nat),gH f->Sub 2 a0 p0 an f.ad->iY L m->m<=m'->K (.agg ⟨qb an cn f.ad at_ ct f.ae⟩) (j4 a0 c0 p0::pw at_ ct f.ae::L) m m' (mV (aj a) [] m m') (mW [] m m')):WC E X Γ l g xs ts L K:=
 WO.call (Lm:=[]) (R:=L) (A:=aj a) hx (.refl _) (λs hi=>(hd.row hi).2) (λs hi=>h s (hd.row hi).1 hv) (by rintro r' L' m m' ho hm ⟨f,an,cn,a0,p0,c0,at_,ct,h1,h2,rfl,rfl⟩;exact k m m' f an cn a0 p0 c0 at_ ct h1 h2 ho hm)
theorem WO.ZX (hx:jY l xs vs)(h:∀s,eU s a a' f->eU s a2 a2' g'->l7 E X g vs s ((aj a++aj a')++(aj a2++aj a2')) r)(h1:Hs Γ L a a' f)(h2:Hs Γ L a2 a2' g')(k:∀m m',iY L m->m<=m'->K r L m m' (mV ((aj a++aj a')++(aj a2++aj a2')) [] m m') (mW [] m m')):WC E X Γ l g xs ts L K:=
 WO.nu hx (λs hi=>⟨λb hb=>by
   rcases eW.1 hb with hb|hb<;>rcases eW.1 hb with hb|hb
   .exact(h1.n.row hi).2 b hb
   .exact(h1.t.row hi).2 b hb
   .exact(h2.n.row hi).2 b hb
   .exact(h2.t.row hi).2 b hb,h s ⟨(h1.n.row hi).1,(h1.t.row hi).1⟩ ⟨(h2.n.row hi).1,(h2.t.row hi).1⟩⟩) k
end
theorem NX (s:St)(a:aS)(c:Nat)(a':aS)(c':Nat)(f:Flat)(o:Op)(hP:PlO f)(hD:DoV f.ad f.ae o)(hr:eU s a a' f):Qu bf bw 8 [vD a c a' c' f,ov o] s (qV a a') (o9 f o).1 (iv (o9 f o).2):=by
 have pL:=iw.n hr;have sj:=iw.t hr;have pJ:=hP.D.nl;have qM:=hP.D.tl;have vJ:0<f.ad.length:=by have:=hP.ok.n0;omega
 have Wf:0<f.ae.length:=by have:=hP.ok.tl;unfold fM at this;simp at this;omega
 have vu:∀s,eU s a a' f->bL 9 [vD a c a' c' f] s (qV a a') (.bool true):=λs hr=>by
  have:=yd s a c a' c' f hP.D.e hr
  rwa [(zI f).2 hP.ok] at this
 have Oe:∀s b a c a' c',Qt bf bw 20 [bk b,ov o] s b a c f.ad a' c' f.ae (iv (o9 f o).2) (o9 f o).1:=λs b a c a' c'=>(NI s b a c a' c' f o hD).cq
 clear hP hD;generalize o9 f o=F at *
 refine aX f8 ?_;(repeat' (first|refine' aZ|((with_reducible apply WO.lg);exact aD;(intro s hr;exact vu s hr);exact fD;intros)|((with_reducible apply WO.Zd);exact aD;(intro s h1 h2;exact UR s _ _ _ _ _ _ af af h1 h2);exact cD;exact cD;intro _ _ alZ al0 al1 al2 _ _)|((with_reducible apply WO.agi);exact aD;exact dU;(intro s;exact Oe s _ _ _ _ _);intro _ _ ajK ajL ajM ajN _ _)|refine' av|fail));all_goals try refine cI
 all_goals exact⟨cy,_,_,bY,au,ajK,ajL,ajM,ajN,rfl,rfl⟩
theorem Kt (s:St)(a:aS)(code:aC)(c m:Nat)(hr:sL s a code)(hv:Uu code.length c)(hg:yg s)(ho:Ns s m):bL 3 [.slice a code.length c] s (aj a++[4,0,m]) (.bool true):=by
 have hd:tR ⟨s,([]:dy).flatMap It.cr,aj a++[4,0,m]⟩ a code:=tR.of hr λ_ hb=>cA _ hb
 have hdg:R6 ⟨s,([]:dy).flatMap It.cr,aj a++[4,0,m]⟩:=R6.of hg ay;have jM:Zu ⟨s,([]:dy).flatMap It.cr,aj a++[4,0,m]⟩ m:=Zu.of ho ay ay;have hv':Uu code.length c:=hv;have amz:=hg.lt;have hlm:=ho.lm;refine aX f3 ?_;(repeat' (first|refine' aZ|((with_reducible apply WO.agj);exact aD;(intro s h1 h2;exact Cj s a code c h1 h2);assumption;assumption;intro _ _ f an cn a0 p0 c0 at_ ct hD hs _ _)|refine' av|fail));all_goals try refine cI
 all_goals try(focus((refine' ax);rfl;done))
 have pJ:=hD.nl;have qM:=hD.tl;have hik:=afx hD.P;have Qv:∀s,yg s->eU s an at_ f->bL 5 [vD an cn at_ ct f] s (qV an at_++[4]) (sv (if Ul f=true then f.a8 else [])):=λs hg hr=>zY s an cn at_ ct f hD (λh=>by have:=((zI f).1 h).n0;omega) hg hr
 have U8:∀s,eU s an at_ f->bL 6 [vD an cn at_ ct f] s (qV an at_) (sv (if f.ok=true then f.a8 else [])):=λs hr=>Kr s an cn at_ ct f hD hr
 rw[hik] at Qv;cases gd:f.ok with
 |true=>
  have hP:PlO f:=⟨(RP hD.P).1 gd,hD.P⟩;obtain⟨hG,hl⟩:=acs hP;have vJ:0<f.ad.length:=by have:=hP.ok.n0;omega
  have gh:f.a8≠[]:=λe=>by
   have e:=eC List.length e;unfold Flat.a8 at e;rw[bn] at e;cases hn:f.ad with
   |nil=>rw[hn] at vJ;cases vJ
   |cons x l=>
    have:=yq x;rw[hn,js,bn] at e;simp only[kC] at e;omega
  rw[gd,if_pos rfl] at Qv U8;have hwi:=Qv;have hws:=U8;have Oe:∀s,eU s an at_ f->Qu bf bw 8 [vD an cn at_ ct f,ov yh] s (qV an at_) (o9 f yh).1 (iv (o9 f yh).2):=λs hr=>NX s an cn at_ ct f yh hP (ajI hP) hr
  have vu:∀s,eU s an at_ f->bL 9 [vD an cn at_ ct f] s (qV an at_) (.bool true):=λs hr=>by
   have:=yd s an cn at_ ct f hD.e hr
   rwa [hik,gd] at this
  have hwg:∀s a c a' c',yg s->eU s a a' (o9 f yh).1->bL 5 [vD a c a' c' (o9 f yh).1] s (qV a a'++[4]) (sv (o9 f yh).1.a8):=λs a c a' c' hg hr=>by
   have:=zY s a c a' c' _ hG.D (λh=>by have:=((zI _).1 h).n0;omega) hg hr
   rwa [(zI _).2 hG.ok,if_pos rfl] at this
  have hgn:=hG.D.nl;have hgt:=hG.D.tl;have YI:∀s a c a' c',eU s an at_ f->eU s a a' (o9 f yh).1->bL 10 [vD an cn at_ ct f,vD a c a' c' (o9 f yh).1] s ((aj an++aj at_)++(aj a++aj a')) (.bool (decide (f.ad=(o9 f yh).1.ad)&&decide (f.ae=(o9 f yh).1.ae))):=λs a c a' c' h1 h2=>Ks s an cn at_ ct a c a' c' f _ af af af af h1 h2
  have Jt:decide ((o9 f yh).1.a8=f.a8)=(decide (f.ad=(o9 f yh).1.ad)&&decide (f.ae=(o9 f yh).1.ae)):=by
   rcases hl with h1|⟨h1,h2⟩
   .rw[h1];simp
   .rw[ec h1,ec (λe=>h2 e.symm)];rfl
  rw[<-Jt] at YI;clear Jt hl hG hP hik gd hD hr hv Qv U8 vJ;generalize o9 f yh=G at *
  obtain⟨F,r⟩:=G;dsimp only at *
  generalize F.a8=z2 at *
  generalize f.a8=z1 at *
  by_cases hzz:z2=z1
  .rw[du hzz] at YI;subst hzz;(repeat' (first|refine' aZ|((with_reducible apply WO.wA);exact aD;assumption;(intro s hg hr;exact hwi s hg hr);exact fD;intros)|((with_reducible apply WO.lg);exact aD;(intro s hr;exact hws s hr);exact fD;intros)|((with_reducible apply WO.Zv);exact aD;assumption;(intro s h;exact NW s _ h);intros)|((with_reducible apply WO.ZW);exact aD;(intro s hr;exact Oe s hr);exact fD;intro _ _ amB amC amD amE _ _)|((with_reducible apply WO.lg);exact aD;(intro s hr;exact vu s hr);exact fD;intros)|((with_reducible apply WO.wA);exact aD;assumption;(intro s hg hr;exact hwg s _ _ _ _ hg hr);exact fD;intros)|((with_reducible apply WO.ZX);exact aD;(intro s h1 h2;exact YI s _ _ _ _ h1 h2);exact fD;exact fD;intros)|refine' av|fail))
   (all_goals try refine nU);(all_goals refine' ax);all_goals first|rfl|(simp_all;rfl)
  .rw[ec hzz] at YI;(repeat' (first|refine' aZ|((with_reducible apply WO.wA);exact aD;assumption;(intro s hg hr;exact hwi s hg hr);exact fD;intros)|((with_reducible apply WO.lg);exact aD;(intro s hr;exact hws s hr);exact fD;intros)|((with_reducible apply WO.Zv);exact aD;assumption;(intro s h;exact NW s _ h);intros)|((with_reducible apply WO.ZW);exact aD;(intro s hr;exact Oe s hr);exact fD;intro _ _ amB amC amD amE _ _)|((with_reducible apply WO.lg);exact aD;(intro s hr;exact vu s hr);exact fD;intros)|((with_reducible apply WO.wA);exact aD;assumption;(intro s hg hr;exact hwg s _ _ _ _ hg hr);exact fD;intros)|((with_reducible apply WO.ZX);exact aD;(intro s h1 h2;exact YI s _ _ _ _ h1 h2);exact fD;exact fD;intros)|refine' av|fail))
   (all_goals try refine nU);(all_goals refine' ax);all_goals first|rfl|(simp_all;rfl)
 |false=>
  rw[gd,if_neg iB] at Qv U8;have hwi:=Qv;have hws:=U8;clear hik gd hD hr hv Qv U8;(repeat' (first|refine' aZ|((with_reducible apply WO.wA);exact aD;assumption;(intro s hg hr;exact hwi s hg hr);exact fD;intros)|((with_reducible apply WO.lg);exact aD;(intro s hr;exact hws s hr);exact fD;intros)|refine' av|fail));all_goals try refine nU
  all_goals refine' ax
  all_goals first|rfl|(simp_all;rfl)
end Go.Pl
namespace Go.Proofs
open Go Go.Ev Go.Lg
variable {f k o:Nat}{w:World}
theorem acv {s:St}{vs Cu:aY}{ρ:ig}{Al:List Nat}(hC:Pl.bL f vs s Al (.bool true))(hn:16<=s.next)(hw0:s.wr=0)(lS:∀b,s.next<=b->s.heap.get b=none)
  (jz:eX prog (λ_=>True) (λi=>i<s.next) ρ s.heap.get w)(hg:∀g,g<16->(ρ g).1=g)(hV:LR (λi=>i<s.next) ρ vs Cu):kM prog f ⟨Cu⟩ w λr w'=>r= .bool true/\Fr w w' λ_=>False:=by
 obtain⟨r,s',⟨N,hN⟩,L',hI,rfl,_⟩:=hC (λ_ h=>by cases h) (λ_ h=>by cases h) wS;have hc:=hN N (cC _) N (cC _);have hCC:=Dv adS ajG mixed N (tab:=[]) (λe he=>by cases he) N;obtain⟨Z5,hk⟩:=hCC _ _ _ _ _ hc;have:=hk (λb=>In s'.cV b) (λi=>i<s.next) ρ w Cu ⟨λi hi=>hi,lS,λb hb=>hb,jz.sub λ_ _=>trivial⟩ (λg hg'=>⟨af,hg g hg'⟩) hV;refine this.mono λr w' ⟨eb,h1,hG⟩=>⟨h1.tc,hG.eN.os,hG.eN.tape,hG.eN.output,hG.eN.size,λr hr _=>hG.eN.block r hr ?_⟩
 rintro⟨b,o,h2,_,h3,_⟩;rcases hI.wr b h2 with h4|h4|h4
 .rw[show(qN.s0 ⟨s,([]:dy).flatMap It.cr,Al⟩).wr=0 from hw0] at h4;simp[In] at h4
 .cases h4
 .have h5:s.next<=b:=h4
  rw[lS b h5] at h3;cases h3
theorem acw {n:Int}(h:(Lit.int .u8 n).wf=true):((UInt8.ofNat n.toNat).toNat:Int)=n:=by simp[Lit.wf,IntKind.has,IntKind.min,IntKind.max,IntKind.bits,IntKind.signed] at h;have:(UInt8.ofNat n.toNat).toNat=n.toNat% 256:=rfl;rw[this];omega
abbrev d8:UInt8:=aq.ah (α:=UInt8)
abbrev acx (w:World)(v:Value):Prop:=v= .slice none 0 0\/∃(b o n c:Nat)(zs:List Int),v= .slice (some ⟨b,o,none⟩) n c/\n<=zs.length/\n<=c/\c<dS/\(∀z∈zs,(Lit.int .u8 z).wf=true)/\∀i,i<zs.length->w.cell? ((⟨b,o,none⟩:Addr).add i)=some (.int .u8 (zs.getD i 0))
inductive amF (w:World)(v:Value):Prop where
 |empty (b c:Nat) (hu:c<dS) (h:∀k,∃a,(∀j∈aj a,j=k)/\∀N ρ,k<N->(ρ k).1=b->VR (λi=>i<N) ρ (.slice a 0 c) v)
 |bytes (b o c:Nat) (code:Pl.aC) (cs:aY) (t:TypeId) (fr:Nat×Nat) (h:v= .slice (some ⟨b,o,none⟩) code.length c) (h0:0<code.length) (hc:code.length<=c) (hu:c<dS) (hb:w.heap[b]?=some (.cells ⟨cs⟩ t fr)) (pD:∀i,i<code.length->cs[o+i]?=some (bv (code.getD i d8)))
theorem ajO {ρ:ig}{k b:Nat}{N:Nat}(hk:k<N)(hb:(ρ k).1=b)(o n c:Nat)(hu:c<dS):VR (λi=>i<N) ρ (.slice (some ⟨k,o,none⟩) n c) (.slice (some ⟨b,o,none⟩) n c):=λeb e=>by
 rw[eA,e k hk,fE hu,hb]
theorem acx.c {v:Value}(hv:acx w v):amF w v:=by
 rcases hv with rfl|⟨b,o,n,c,zs,rfl,hn,hc,hu,hz,qk⟩
 .exact .empty 0 0 bT λk=>⟨none,λj h=>by simp[aj] at h,λN ρ _ _=>VR.ground ay⟩
 by_cases h0:n=0
 .subst h0;exact .empty b c hu λk=>⟨some ⟨k,o,none⟩,λj h=>by simpa[aj] using h,λN ρ hk hb=>ajO hk hb _ _ _ hu⟩
 have uA:((zs.take n).map λz=>UInt8.ofNat z.toNat).length=n:=by rw[uI,cO];omega
 have hbv:∀i,i<n->bv (((zs.take n).map λz=>UInt8.ofNat z.toNat).getD i d8)= .int .u8 (zs.getD i 0):=λi hi=>by
  rw[a7,wD,ID,if_pos hi,a7,bc (show i<zs.length by omega)];show Value.int .u8 ((UInt8.ofNat (zs[i]).toNat).toNat:Int)= .int .u8 zs[i];rw[acw (hz _ (rX _))]
 have hx:=qk 0 af;simp only[Addr.add,if_true,World.cell?] at hx;split at hx
 rotate_left
 .cases hx
 rename_i cs t fr hblk;obtain⟨cs⟩:=cs;have pD:∀i,i<zs.length->cs[o+i]?=some (.int .u8 (zs.getD i 0)):=λi hi=>by
  have:=qk i hi;rw[<-this];by_cases rC:i=0
  .subst rC;simp[Addr.add,World.cell?,hblk]
  .simp[Addr.add,World.cell?,hblk,rC]
 exact .bytes b o c ((zs.take n).map λz=>UInt8.ofNat z.toNat) cs t fr (by rw[uA]) af af hu hblk λi hi=>by
  rw[uA] at hi;rw[hbv i hi,pD i af]
theorem amG {code:Pl.aC}{i:Nat}(hi:i<code.length)(l:List (Nat×aY)):∃p,Br ((o,code.map bv)::l) (o+i)=some p/\p.2[o+i-p.1]?=some (bv (code.getD i d8)):=by
 refine⟨(o,code.map bv),?_,?_⟩
 .show bo (Nat.ble o (o+i)&&Nat.ble (Nat.succ (o+i-o)) (code.map bv).length) _ _=_;rw[dJ,if_pos];rw[bI,pe,pe,uI];omega
 .show(code.map bv)[o+i-o]?=_;rw[show o+i-o=i by omega,wD,a7,bc hi];rfl
theorem acy {code:Pl.aC}{cs:aY}(h0:0<code.length)(h:∀i,i<code.length->cs[o+i]?=some (bv (code.getD i d8)))(A:Nat->Prop)(ρ:ig):∃pre c' aE,cs=pre++(c'++aE)/\pre.length=o/\LR A ρ (code.map bv) c':=by
 have cX:o+code.length<=cs.length:=by
  have:=(sV.1 (h (code.length-1) af)).1;omega
 have NS:(cs.drop o).take code.length=code.map bv:=by
  apply Sq;intro i;by_cases hi:i<code.length
  .rw[ID,if_pos hi,wP,h i hi,wD,a7,bc hi];rfl
  .rw[qP (by rw[cO];omega),qP (by rw[uI];omega)]
 refine⟨cs.take o,(cs.drop o).take code.length,(cs.drop o).drop code.length,?_,by rw[cO];omega,?_⟩
 .rw[yy,yy]
 .rw[NS];exact λeb _=>(yx λy hy=>by
   obtain⟨u,_,rfl⟩:=lp.1 hy;simp).trans (List.map_id _)
theorem acz {s:St}{ws:List (Nat×aY)}{code:Pl.aC}(dz:k<s.next)(h:s.heap.get k=some (.nW ws))(hw:∀i,i<code.length->∃p,Br ws (o+i)=some p/\p.2[o+i-p.1]?=some (bv (code.getD i d8))):Pl.sL s (some ⟨k,o,none⟩) code:=
 ⟨λb hb=>by simp[aj] at hb;omega,λ_=>⟨k,o,ws,rfl,h,hw⟩⟩
structure ajP (w:World):Prop where
 pow:∃t fr,w.heap[4]?=some (.cells ⟨j7⟩ t fr)
 aG:∃t fr q k xs,w.heap[0]?=some (.cells ⟨[.map (some q)]⟩ t fr)/\w.heap[q]?=some (.map ⟨xs⟩ k)/\(∀x∈xs,∃s n,x.key= .string s/\x.val= .int .i64 n)/\nQ (sv [109,97,107,101]) (xs.map λx=>(x.key,x.val))=some (some (iv 1))
noncomputable def S1 (es:List (Value×Value))(o1:Option (List (Nat×aY))):St:=⟨T.set 18 (T.set 18 (T.set 18 (T.set 18 T.nil 0 (some (.nW [(0,[.map (some 17)])]))) 4 (some (.nW [(0,j7)]))) 17 (some (.map es))) 16 (o1.map .nW),18,0,0⟩
abbrev R1 (p q:Nat):ig:=λi=>if i=16 then(p,0) else if i=17 then(q,0) else(i,0)
theorem U9 (es:List (Value×Value))(o1:Option (List (Nat×aY)))(m:Nat):(S1 es o1).heap.get m=if m=16 then o1.map .nW else if m=17 then some (.map es) else if m=4 then some (.nW [(0,j7)]) else if m=0 then some (.nW [(0,[.map (some 17)])]) else none:=by show(T.set 18 (T.set 18 (T.set 18 (T.set 18 (T.nil:T gv) 0 _) 4 _) 17 _) 16 _).get m=_;rw[T.vF 18 _ _ _ _ bT,T.vF 18 _ _ _ _ bT,T.vF 18 _ _ _ _ bT,T.vF 18 _ _ _ _ bT,T.get_nil]
theorem acA:Hb (.nW [(0,j7)])=true:=by kernel_rfl
theorem amH (hL:∀(s:St)(a:aS)(code:Pl.aC)(c m:Nat),Pl.sL s a code->Pl.Uu code.length c->Pl.yg s->Pl.Ns s m->Pl.bL f [.slice a code.length c] s (aj a++[4,0,m]) (.bool true))(w:World)(v:Value)(hT:ajP w)(h1:acx w v):kM prog f ⟨[v]⟩ w λr w'=>r= .bool true/\Fr w w' λ_=>False:=by
 obtain⟨⟨t4,f4,h4⟩,t0,f0,q,kk,xs,h0,hq,N0,D7⟩:=hT;have hq0:q≠0:=λe=>by subst e;rw[hq] at h0;cases h0
 have hq4:q≠4:=λe=>by subst e;rw[hq] at h4;cases h4
 have gen:∀(o1:Option (List (Nat×aY)))(p:Nat)(a1:aS)(c1:Nat)(x1:Pl.aC),(∀ws,o1=some ws->(p≠0/\p≠4/\p≠q)/\∃cs t fr,w.heap[p]?=some (.cells ⟨cs⟩ t fr)/\∀x∈ws,∃pre c' aE,cs=pre++(c'++aE)/\pre.length=x.1/\LR (λi=>i<18) (R1 p q) x.2 c')->Pl.sL (S1 (xs.map λx=>(x.key,x.val)) o1) a1 x1->Pl.Uu x1.length c1->VR (λi=>i<18) (R1 p q) (.slice a1 x1.length c1) v->kM prog f ⟨[v]⟩ w λr w'=>r= .bool true/\Fr w w' λ_=>False:=λo1 p a1 c1 x1 f1 hr1 s1 r1=>by
  have k:∀i o,(S1 (xs.map λx=>(x.key,x.val)) o1).heap.get i=some o->(i=16/\∃ws,o1=some ws/\gv.nW ws=o)\/(i=17/\o= .map (xs.map λx=>(x.key,x.val)))\/(i=4/\o= .nW [(0,j7)])\/(i=0/\o= .nW [(0,[.map (some 17)])]):=λi o h=>by
   rw[U9] at h;split at h
   .exact .inl ⟨‹_›,Option.map_eq_some_iff.1 h⟩
   split at h
   .exact .inr (.inl ⟨‹_›,(iU h).symm⟩)
   split at h
   .exact .inr (.inr (.inl ⟨‹_›,(iU h).symm⟩))
   split at h
   .exact .inr (.inr (.inr ⟨‹_›,(iU h).symm⟩))
   cases h
  have hG:Pl.yg (S1 (xs.map λx=>(x.key,x.val)) o1):=⟨by show 4<18;omega,.nW [(0,j7)],by rw[U9,if_neg bT,if_neg bT,if_pos rfl],acA⟩;have hO:Pl.Ns (S1 (xs.map λx=>(x.key,x.val)) o1) 17:=⟨by show 0<18;omega,by show 17<18;omega,by rw[U9,if_neg bT,if_neg bT,if_neg bT,if_pos rfl],xs.map λx=>(x.key,x.val),by rw[U9,if_neg bT,if_pos rfl],D7⟩;have Q5:(S1 (xs.map λx=>(x.key,x.val)) o1).next=18:=rfl
  have mZ:(S1 (xs.map λx=>(x.key,x.val)) o1).wr=0:=rfl;have fg:=U9 (xs.map λx=>(x.key,x.val)) o1;generalize S1 (xs.map λx=>(x.key,x.val)) o1=Sx at *
  have hid:∀i,i≠16->i≠17->(R1 p q i).1=i:=λi h1 h2=>by simp only[R1,if_neg h1,if_neg h2]
  have FR:(R1 p q 16).1=p:=rfl;have h17:(R1 p q 17).1=q:=rfl;have f1:∀ws,o1=some ws->(p≠0/\p≠4/\p≠q)/\∃cs t fr,w.heap[p]?=some (.cells ⟨cs⟩ t fr)/\∀x∈ws,∃pre c' aE,cs=pre++(c'++aE)/\pre.length=x.1/\LR (λi=>i<Sx.next) (R1 p q) x.2 c':=by rw[Q5];exact f1
  have r1:VR (λi=>i<Sx.next) (R1 p q) (.slice a1 x1.length c1) v:=by rw[Q5];exact r1
  refine acv (s:=Sx) (ρ:=R1 p q) (hL _ a1 x1 c1 17 hr1 s1 hG hO) af mZ (λb h=>?_) ⟨λi o _ h=>?_,λi i' o o' _ _ h h' e=>?_⟩ (λg hg=>hid g af af) (LR.cons r1 LR.nil)
  .rw[fg,if_neg af,if_neg af,if_neg af,if_neg af]
  .rcases k i o h with⟨rfl,ws,e,rfl⟩|⟨rfl,rfl⟩|⟨rfl,rfl⟩|⟨rfl,rfl⟩
   .obtain⟨_,cs,t,fr,hb,hw⟩:=f1 ws e;exact⟨by show 16<Sx.next;omega,_,hb,cs,t,fr,rfl,hw⟩
   .refine⟨by show 17<Sx.next;omega,_,hq,xs,kk,rfl,?_,?_⟩
    .rw[List.map_map];exact λeb _=>by
      rw[List.map_map];exact yx λx hx=>by
       obtain⟨s,n,h1,h2⟩:=N0 x hx;show bX eb x.key=x.key;rw[h1,Bb]
    .rw[List.map_map];exact λeb _=>by
      rw[List.map_map];exact yx λx hx=>by
       obtain⟨s,n,h1,h2⟩:=N0 x hx;show bX eb x.val=x.val;rw[h2,qj]
   .exact⟨by show 4<Sx.next;omega,_,h4,_,_,_,rfl,λp hp=>by
     rw[fJ] at hp;subst hp;exact⟨[],j7,[],ay,rfl,λeb _=>yp eb⟩⟩
   .exact⟨by show 0<Sx.next;omega,_,h0,_,_,_,rfl,λp hp=>by
     rw[fJ] at hp;subst hp;refine⟨[],[.map (some q)],[],ay,rfl,λeb e=>?_⟩;show [bX eb (.map (some 17))]=[.map (some q)];have:=e 17 (by show 17<Sx.next;omega);simp only[bX];rw[this,h17]⟩
  .rcases k i o h with⟨rfl,ws,e1,_⟩|⟨rfl,_⟩|⟨rfl,_⟩|⟨rfl,_⟩<;>rcases k i' o' h' with⟨rfl,ws',e2,_⟩|⟨rfl,_⟩|⟨rfl,_⟩|⟨rfl,_⟩<;>first
    |rfl
    |(exfalso;simp only[FR,h17,hid 4 bT bT,hid 0 bT bT] at e;first|(have:=(f1 _ e1).1;omega)|(have:=(f1 _ e2).1;omega)|omega)
 rcases h1.c with⟨b1,c1,u1,k1⟩|⟨b1,o1,c1,x1,cs1,t1,fr1,rfl,n1,m1,u1,z7,ajQ⟩
 .obtain⟨a1,l1,r1⟩:=k1 16;exact gen none b1 a1 c1 [] (λ_ h=>by cases h) ⟨λb hb=>by have:=l1 b hb;show b<18;omega,λh=>by cases h⟩ ⟨iK _,u1⟩ (r1 18 _ bT rfl)
 .have ha:=ajQ 0 n1;have gh:b1≠0/\b1≠4/\b1≠q:=by
   refine⟨λe=>?_,λe=>?_,λe=>?_⟩
   .subst e;rw[h0] at z7;cases z7
    have:=CO ha;rw[fJ] at this;cases this
   .subst e;rw[h4] at z7;cases z7
    have:=CO ha;unfold j7 at this;obtain⟨n,_,e⟩:=lp.1 this;cases e
   .subst e;rw[hq] at z7;cases z7
  exact gen (some [(o1,x1.map bv)]) b1 (some ⟨16,o1,none⟩) c1 x1 (λws e=>by
   cases e
   exact⟨gh,cs1,t1,fr1,z7,λp hp=>by rw[fJ] at hp;subst hp;exact acy n1 ajQ _ _⟩) (acz (by show 16<18;omega) (by rw[U9];rfl) λi hi=>amG hi []) ⟨m1,u1⟩ (ajO bT rfl _ _ _ u1)
end Go.Proofs
