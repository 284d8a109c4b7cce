/- Lemmas of the proof. No conditions. -/
import Derived.Test.YtjaeddbblleomaaGreatDoorAf9
set_option maxRecDepth 100000
set_option maxHeartbeats 4000000
set_option linter.unusedVariables false
set_option linter.unusedSimpArgs false
open Go.Proofs.Tryz
namespace Go.Proofs
open Go Go.Shelf Go.RowKit Go.Lib Go.Sort Go.Ev
theorem Pk:mL prog 67 Is:=rV λargs s v s' h=>by
 unfold Is at h;split at h
 rotate_left
 .cases h
 rename_i z;obtain⟨h0,h⟩:=bg h;have h:=aA h;simp only[cx] at h;obtain⟨rfl,rfl⟩:=h;have ha:∀x∈[S z],∀ρ,bZ ρ x=x:=λx hx ρ=>by rw[iN.1 hx];exact Jn _ _
 exact⟨rfl,λρ=>u0 _ _,ha,runs (iM.1 okAll z (vM h0)) (λρ=>u0 _ _) ha⟩
theorem Ey:mL prog 71 uu:=rV λargs s v s' h=>by
 unfold uu at h;split at h
 rotate_left
 .cases h
 rename_i z;obtain⟨h0,h⟩:=bg h;have h:=aA h;simp only[cx] at h;obtain⟨rfl,rfl⟩:=h;have ha:∀x∈[S z],∀ρ,bZ ρ x=x:=λx hx ρ=>by rw[iN.1 hx];exact Jn _ _
 exact⟨rfl,λρ=>Jn _ _,ha,runs (iM.1 foAll z (vM h0)) (λρ=>Jn _ _) ha⟩
theorem Fq:mL prog 72 wM:=rV λargs s v s' h=>by
 unfold wM at h;split at h
 rotate_left
 .cases h
 rename_i z t;obtain⟨h0,h⟩:=bg h;have h:=aA h;simp only[cx] at h;obtain⟨rfl,rfl⟩:=h;obtain⟨h1,h2,h3,h4⟩:=vM h0;have ha:∀x∈[S z,S t],∀ρ,bZ ρ x=x:=λx hx ρ=>by
  simp only[bV,iC,iP] at hx;rcases hx with rfl|rfl<;>exact Jn _ _
 have h5:=iM.1 unAll z h1;rw[h3,HM,Bool.false_or] at h5;have h6:=iM.1 h5 t h2;rw[h4,HM,Bool.false_or] at h6;exact⟨rfl,λρ=>u0 _ _,ha,runs h6 (λρ=>u0 _ _) ha⟩
theorem hooksN:∀p∈aW.vT,mL prog p.1 p.2:=λp hp=>by
 simp only[aW,bV,iC,iP] at hp;rcases hp with rfl|rfl|rfl|rfl|rfl|rfl|rfl
 .exact TL
 .exact TN
 .exact MT
 .exact Pj
 .exact Pk
 .exact Ey
 .exact Fq
theorem fnOkN:U4 aU prog aW:=fnOk hooksN
end Go.Proofs
namespace Go.Proofs
open Go Go.Ev Go.Lg
theorem Jo {s:St}{v v':Value}{ρ:fP}{w:World}{Al:List Nat}(hC:Pl.bO 3 [v] s Al (.bool true))(hn:s.next=17)(hw0:s.wr=0)
  (ji:∀b o,s.heap.get b=some o->b=16/\∃x,w.heap[(ρ 16).1]?=some x/\Ci prog (λi=>i<17) ρ (ρ 16) o x)
  (hg:∀g,g<16->(ρ g).1=g)(hV:VR (λi=>i<17) ρ v v'):lU prog 3 ⟨[v']⟩ w λr w'=>r= .bool true/\Fr w w' λ_=>False:=by
 obtain⟨r,s',⟨N,hN⟩,L',hI,rfl,_⟩:=hC (λ_ h=>by cases h) (λ_ h=>by cases h) B4;have hc:=hN N (cy _) N (cy _);have hCC:=CD envOk fnOkN mixed N (tab:=[]) (λe he=>by cases he) N;obtain⟨YD,hk⟩:=hCC _ _ _ _ _ hc;have BD:∀b o,s.heap.get b=some o->b=16:=λb o h=>(ji b o h).1
 have:=hk (λb=>In s'.cM b) (λi=>i<17) ρ w [v'] ⟨λi hi=>by rw[hn];exact hi,λb hb=>by
   cases h:s.heap.get b with
   |none=>rfl
   |some o=>have:=BD b o h;omega,λb hb=>hb,⟨λb o _ h=>by
   obtain⟨rfl,x,h1,h2⟩:=ji b o h;exact⟨by decide,x,h1,h2⟩,λb b' o o' _ _ h h' _=>(BD b o h).trans (BD b' o' h').symm⟩⟩ (λg Yy=>⟨Nat.lt_succ_of_lt Yy,hg g Yy⟩) (LR.cons hV LR.nil)
 refine this.mono λr w' ⟨eF,h1,hG⟩=>⟨h1.sH,hG.fQ.os,hG.fQ.tape,hG.fQ.output,hG.fQ.size,λr hr _=>hG.fQ.block r hr ?_⟩
 rintro⟨b,o,h2,_,h3,_⟩;obtain rfl:=BD b o h3;rcases hI.wr 16 h2 with h4|h4|h4
 .rw[show(gY.s0 ⟨s,([]:bn).flatMap It.aS,Al⟩).wr=0 from hw0] at h4;simp[In] at h4
 .cases h4
 .have h5:s.next<=16:=h4
  omega
theorem lt17 (o:Nat):∀i∈ai (some (⟨16,o,none⟩:Addr)),i<17:=λi h=>by
 simp[ai] at h;omega
theorem byte_of {n:Int}(h:(Lit.int .u8 n).wf=true):((UInt8.ofNat n.toNat).toNat:Int)=n:=by
 simp[Lit.wf,IntKind.has,IntKind.min,IntKind.max,IntKind.bits,IntKind.signed] at h;have:(UInt8.ofNat n.toNat).toNat=n.toNat% 256:=rfl;rw[this];omega
theorem law (w:World)(v':Value)(hv:v'= .slice none 0 0\/∃(b o n c:Nat)(zs:List Int),v'= .slice (some ⟨b,o,none⟩) n c/\n<=zs.length/\n<=c/\c<eL/\(∀z∈zs,(Lit.int .u8 z).wf=true)/\∀i,i<zs.length->w.cell? ((⟨b,o,none⟩:Addr).add i)=some (.int .u8 (zs.getD i 0))):lU prog 3 ⟨[v']⟩ w λr w'=>r= .bool true/\Fr w w' λ_=>False:=by
 rcases hv with rfl|⟨b,o,n,c,zs,rfl,hn,hc,hu,hz,tD⟩
 .exact Jo (s:=⟨.nil,17,0,0⟩) (ρ:=λi=>(i,0)) (Pl.Pb ⟨.nil,17,0,0⟩ none [] 0 ⟨λ_ h=>(by cases h),λh=>(by cases h)⟩ ⟨cy _,(by decide)⟩) rfl rfl (λb o h=>(by cases h)) (λg _=>rfl) (VR.ground (by simp))
 have xx:∀g,g<16->((λi=>if i=16 then(b,c) else(i,0):fP) g).1=g:=λg hg=>by simp only[show ¬g=16 by omega,oV]
 have hVR:VR (λi=>i<17) (λi=>if i=16 then(b,c) else(i,0)) (.slice (some ⟨16,o,none⟩) n c) (.slice (some ⟨b,o,none⟩) n c):=λeF e=>by
  rw[eD,e 16 (by decide),fA hu];rfl
 by_cases h0:n=0
 .subst h0;exact Jo (s:=⟨.nil,17,0,0⟩) (Pl.Pb ⟨.nil,17,0,0⟩ (some ⟨16,o,none⟩) [] c ⟨lt17 o,λh=>(by cases h)⟩ ⟨jG _,hu⟩) rfl rfl (λb o h=>(by cases h)) xx hVR
 have tU:((zs.take n).map λz=>UInt8.ofNat z.toNat).length=n:=by rw[vL,dg];omega
 have hbv:∀i,i<n->bv (((zs.take n).map λz=>UInt8.ofNat z.toNat).getD i c9.lW)= .int .u8 (zs.getD i 0):=λi hi=>by
  rw[aY,EJ,Jy,if_pos hi,aY,bk (show i<zs.length by omega)];show Value.int .u8 ((UInt8.ofNat (zs[i]).toNat).toNat:Int)= .int .u8 zs[i];rw[byte_of (hz _ (tA _))]
 have fb:∀m,((T.set 17 T.nil 16 (some (gh.xL o (((zs.take n).map λz=>UInt8.ofNat z.toNat).map bv))):T gh)).get m=if m=16 then some (gh.xL o (((zs.take n).map λz=>UInt8.ofNat z.toNat).map bv)) else none:=λm=>by
  rw[T.PC 17 _ _ _ _ (by decide),T.get_nil]
 have hx:=tD 0 af;simp only[Addr.add,if_true,World.cell?] at hx;split at hx
 rotate_left
 .cases hx
 rename_i cs t fr hblk;obtain⟨cs⟩:=cs;have n4:∀i,i<zs.length->cs[o+i]?=some (.int .u8 (zs.getD i 0)):=λi hi=>by
  have:=tD i hi;rw[<-this];by_cases q8:i=0
  .subst q8;simp[Addr.add,World.cell?,hblk]
  .simp[Addr.add,World.cell?,hblk,q8]
 have cX:o+n<=cs.length:=by
  have:=(tL.1 (n4 (n-1) af)).1;omega
 have Yt:(cs.drop o).take n=((zs.take n).map λz=>UInt8.ofNat z.toNat).map bv:=by
  apply Ua;intro i;by_cases hi:i<n
  .have hg:=hbv i hi;rw[aY,bk (show i<((zs.take n).map λz=>UInt8.ofNat z.toNat).length by omega)] at hg;rw[Jy,if_pos hi,xF,n4 i af,EJ,bk (show i<((zs.take n).map λz=>UInt8.ofNat z.toNat).length by omega)];exact gb some hg.symm
  .rw[rB (by rw[dg];omega),rB (by rw[vL,tU];omega)]
 have:=Jo (s:=⟨T.set 17 T.nil 16 (some (gh.xL o (((zs.take n).map λz=>UInt8.ofNat z.toNat).map bv))),17,0,0⟩) (w:=w) (ρ:=λi=>if i=16 then(b,c) else(i,0)) (v:=.slice (some ⟨16,o,none⟩) n c) (v':=.slice (some ⟨b,o,none⟩) n c)
  (by
   have:=Pl.Pb ⟨T.set 17 T.nil 16 (some (gh.xL o (((zs.take n).map λz=>UInt8.ofNat z.toNat).map bv))),17,0,0⟩ (some ⟨16,o,none⟩) ((zs.take n).map λz=>UInt8.ofNat z.toNat) c ⟨lt17 o,λ_=>⟨16,o,o,_,rfl,by rw[fb,if_pos rfl],cy _,λi hi=>by
    rw[B0,ni,EJ,aY,bk hi];rfl⟩⟩ ⟨by rw[tU];exact hc,hu⟩
   rw[tU] at this;exact this) rfl rfl (λi x h=>by
    have h:(T.set 17 T.nil 16 (some (gh.xL o (((zs.take n).map λz=>UInt8.ofNat z.toNat).map bv)))).get i=some x:=h;rw[fb] at h;split at h
    .rename_i hi;obtain rfl:=ir h;refine⟨hi,_,by simpa using hblk,cs.take o,(cs.drop o).take n,(cs.drop o).drop n,t,fr,?_,by rw[dg];omega,?_⟩
     .rw[zq,zq]
     .rw[Yt];exact λeF _=>(EI λy hy=>by
       obtain⟨u,_,rfl⟩:=n9.1 hy;simp).trans (List.map_id _)
    .cases h) xx hVR
 exact this
end Go.Proofs
