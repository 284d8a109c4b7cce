/- The law FnFlatPlay returns true for every input: the row and its tied card. No condition beyond the card's own. -/
import Derived.Test.YtajgfdfbnhchcaaGreatDoorRows
import Derived.JoinedOf
import Derived.KernelRfl
import Derived.Test.YtajgfdfbnhchcaaGreatDoorCards
import Derived.Test.YtajgfdfbnhchcaaGreatDoorTie
import Derived.WalkKit
import Derived.ProofKit
import Derived.OpenShut
import Derived.LaidMore
import Derived.Lay
import Derived.SevenTiedAt
import Derived.Stop.Joined
import Derived.Test.YtajgfdfbnhchcaaGreatDoorBg1
set_option maxRecDepth 100000
set_option maxHeartbeats 4000000
set_option linter.unusedVariables false
set_option linter.unusedSimpArgs false
open Go.Proofs.Tryz
namespace Go.Proofs.YtajgfdfbnhchcaaGreatDoor
open Go
theorem both {a b:Bool}(h:a=true)(k:b=true):(a&&b)=true:=by rw[h,k];rfl
noncomputable abbrev Jf (g:Program->FuncId->Func->ChangeSpec->OpenClaim->Bool):Bool:=g Tryz.prog 5 Tryz.f5 Rows.fnFlatPlaySpec Rows.fnFlatPlayRow
theorem jf0:Jf (λP f fn s c=>c.wf (OpenSpec.ofChange s))=true:=by kernel_rfl
theorem jf1:Jf (λP f fn s c=>laidOutB P)=true:=by kernel_rfl
theorem jf2:Jf (λP f fn s c=>mapsRowed P)=true:=by kernel_rfl
theorem jf3:Jf (λP f fn s c=>fn.params.all (P.readableRec ·))=true:=by kernel_rfl
theorem jf4:Jf (λP f fn s c=>namedTie P c.named s.vars)=true:=by kernel_rfl
theorem jf5:Jf (λP f fn s c=>(c.stops== []))=true:=by kernel_rfl
theorem jf6:Jf (λP f fn s c=>(P.stops== []))=true:=by kernel_rfl
theorem jf7:Jf (λP f fn s c=>(c.knobs== []))=true:=by kernel_rfl
theorem jf8:Jf (λP f fn s c=>(P.stopKnobs== []))=true:=by kernel_rfl
theorem jf9:Jf (λP f fn s c=>(c.inPlace== P.inPlace f))=true:=by kernel_rfl
theorem amW:Jf (λP f fn s c=>(c.unfollowed== P.unfollowed f))=true:=by kernel_rfl
theorem amX:Jf (λP f fn s c=>(c.recurses== P.recurses f))=true:=by kernel_rfl
theorem amY:Jf (λP f fn s c=>(c.named== P.varsNamed f))=true:=by kernel_rfl
theorem amZ:Jf (λP f fn s c=>(c.maps== (fn.params.toList++s.plain.varTypes P).any (P.mapsRec ·)))=true:=by kernel_rfl
theorem am0:Jf (λP f fn s c=>(c.ifaces== (fn.params.toList++s.plain.varTypes P).any (P.ifacesRec ·)))=true:=by kernel_rfl
theorem am1:Jf (λP f fn s c=>(c.mapsOut== P.mapsAmong fn.resultTypes.toList))=true:=by kernel_rfl
theorem am2:Jf (λP f fn s c=>(c.loops== (fn.params.toList++s.plain.varTypes P).any (P.loopsFrom ·)))=true:=by kernel_rfl
theorem am3:Jf (λP f fn s c=>(c.wideKeys== (fn.params.toList++s.plain.varTypes P++fn.resultTypes.toList).any (P.wideKeysFrom ·)))=true:=by kernel_rfl
theorem am4:Jf (λP f fn s c=>s.vars.all (P.varReadable ·))=true:=by kernel_rfl
theorem am5:Jf (λP f fn s c=>fn.resultTypes.all (λt=>P.readableRec t&&decide (t<P.types.size)))=true:=by kernel_rfl
theorem am6:Jf (λP f fn s c=>(c.ifacesOut== fn.resultTypes.toList.any (P.ifacesRec ·)))=true:=by kernel_rfl
theorem am7:Jf (λP f fn s c=>(c.loopsOut== fn.resultTypes.toList.any (P.loopsFrom ·)))=true:=by kernel_rfl
theorem am8:Jf (λP f fn s c=>(c.plainKeys== P.plainKeys))=true:=by kernel_rfl
theorem am9:Jf (λP f fn s c=>c.shortTexts.isNone)=true:=by kernel_rfl
theorem ana:Jf (λP f fn s c=>P.stopsHeard)=true:=by kernel_rfl
theorem anb:Jf (λP f fn s c=>P.mayEnter)=true:=by kernel_rfl
theorem ane:Jf (λP f fn s c=>(c.lifted== P.liftsFinal))=true:=by kernel_rfl
theorem anf:Jf (λP f fn s c=>(P.make== some c.make))=true:=by kernel_rfl
theorem ang:Jf (λP f fn s c=>(c.kinds== (if c.domain.isEmpty then [] else fn.params.toList.map λt=>match P.underlying t with|some (.int k)=>some k|_=>none)))=true:=by kernel_rfl
theorem anh:Jf (λP f fn s c=>(c.pinned== c.pinnedBy))=true:=by kernel_rfl
theorem ani:Jf (λP f fn s c=>(c.veiled== (fn.params.toList++s.plain.varTypes P++fn.resultTypes.toList).any (P.veiledRec ·)))=true:=by kernel_rfl
theorem anj:Jf (λP f fn s c=>c.veiledFits P fn.params.toList (fn.params.toList++s.plain.varTypes P++fn.resultTypes.toList))=true:=by kernel_rfl
theorem agm:joinedFacts Tryz.prog 5 Tryz.f5 Rows.fnFlatPlaySpec Rows.fnFlatPlayRow=true:=by unfold joinedFacts;exact(both (both (both (both (both (both (both (both (both (both (both (both (both (both (both (both (both (both (both (both (both (both (both (both (both (both (both (both (both (both (both jf0 jf1) jf2) jf3) jf4) jf5) jf6) jf7) jf8) jf9) amW) amX) amY) amZ) am0) am1) am2) am3) am4) am5) am6) am7) am8) am9) ana) anb) ane) anf) ang) anh) ani) anj)
end Go.Proofs.YtajgfdfbnhchcaaGreatDoor
namespace Go.Proofs.YtajgfdfbnhchcaaGreatDoor
open Go.ChangeShapes Go.WideShapes Go.ChangeAt Go.RowKit Go.Ev
variable {w':World}{v:Value}
theorem aQ:ownKnob Tryz.prog.godebug=none:=by kernel_rfl
theorem xW:Tryz.prog.cellsOf 5=1:=by kernel_rfl
theorem Sy {w w':World}(h:Fr w w' λ_=>False)(may:MemPlace->Prop):w.keptBut w' may:=by refine⟨h.os,h.output,λi hi=>?_⟩;rw[h.block i hi λx=>x];exact(World.keptBut_refl w may).2.2 i hi
theorem cell_of {w w':World}(h:Fr w w' λ_=>False){a:Addr}(ha:w.cell? a=some v):w'.cell? a=some v:=by
 have dG:a.block<w.heap.size:=by
  rcases lA a.block w.heap.size with h1|h1
  .exact h1
  .unfold World.cell? at ha;rw[Array.getElem?_eq_none h1] at ha;simp at ha
 unfold World.cell? at ha⊢;rw[h.block a.block dG λx=>x];exact ha
theorem IU (v v':Value)(w:World)(hv:acy w v)(hv':acy w v'):Calls Tryz.prog 5 #[v,v'] w λe w'=>e= .returned (.bool true)/\Fr w w' λ_=>False:=by
 rcases apo (λs a code c a2 n2 c2 h1 h2=>Pl.ao5 s a code c a2 n2 c2 h1 h2) w v v' hv hv' with⟨v,w',h,_⟩|⟨g,xs,w',h,hc⟩
 .have h2:=(Tryz.call5 #[_,_] w).symm.trans h;cases h2
 .have h2:=(Tryz.call5 #[_,_] w).symm.trans h;cases h2
  refine hc.mono λe w'' hh=>?_
  obtain⟨v,rfl,rfl,hf⟩:=hh;exact⟨rfl,hf⟩
theorem aoV {H:Type}{enc:TypeId×Value->H}{W:World}{base:Nat}{d:DataW H}{p:List MemPlace}(agn:Value.okWide Tryz.prog W .any base 22 v)(h0:DataW.Trod enc Tryz.prog W 0 (λ_=>true) true 22 v d p):
  acy W v/\∀W',(Fr W W' λ_=>False)->∀sp:Nat->Bool,(∀q∈p,sp q.block=true)->DataW.Trod enc Tryz.prog W' 0 sp true 22 v d p:=by
 obtain⟨a0,len,cap,rfl⟩:=okWide_slice Tryz.underlying22 agn;obtain⟨fuel,hf⟩:=h0;rcases open_ints Tryz.underlying22 Tryz.underlying5 xW hf with⟨pj,hx⟩|⟨a,aoD,Dg,zs,pj,_,hl,hm,hz,hx,qq,hwz⟩
 .simp[Value.cells] at pj;obtain⟨rfl,rfl,rfl⟩:=pj;simp only[cH] at hx;obtain⟨rfl,rfl⟩:=hx;exact⟨.inl rfl,λW' _ sp _=>shut_slice_nil Tryz.underlying22⟩
 .simp[Value.cells] at pj;obtain⟨rfl,rfl,rfl⟩:=pj;simp only[cH] at hx;obtain⟨rfl,rfl⟩:=hx;simp only[if_true] at hz;obtain⟨ab,ao,asp⟩:=a;have fm:Value.okWide Tryz.prog W .any base 22 (.slice (some ⟨ab,ao,asp⟩) len cap):=agn;simp only[Value.okWide,Tryz.underlying22,Cell.okWide,Cell.ok] at fm;obtain⟨_,_,_,Z3,_⟩:=fm;have Z3:asp=none:=Z3;subst Z3;have hlz:len<=zs.length:=by rw[hz];exact hl
  refine⟨.inr ⟨ab,ao,len,cap,zs,rfl,hlz,hl,Nat.lt_of_le_of_lt hm bJ,hwz,qq⟩,λW' hg sp M1=>?_⟩;have Z4:∀i,i<zs.length->W'.cell? ((⟨ab,ao,none⟩:Addr).add i)=some (.int .u8 (zs.getD i 0)):=λi hi=>cell_of hg (qq i hi)
  by_cases vO:zs.length=0
  .have hc0:cap=0:=by omega
   (have hl0:len=0:=by omega);subst hc0;subst hl0;have t0:=shut_ints (enc:=enc) (w:=W') (base:=0) (spare:=sp) (held:=true) (a:=⟨ab,ao,none⟩) (len:=0) (cap:=0) (zs:=zs) 0 Tryz.underlying22 Tryz.underlying5 xW (iG _) (cG _) hm (by simp[vO]) Z4 hwz;exact⟨2,by simpa[Value.cells] using t0⟩
  .have ank:sp ab=true:=by
    have:=M1 (.cell ab ao) (MemPlace.mem_row.2 ⟨0,ag,ay⟩);exact this
   have t0:=shut_ints (enc:=enc) (w:=W') (base:=0) (spare:=sp) (held:=true) (a:=⟨ab,ao,none⟩) (len:=len) (cap:=cap) (zs:=zs) 0 Tryz.underlying22 Tryz.underlying5 xW (iG _) hl hm (by simp[ank,hz]) Z4 hwz;exact⟨2,by simpa[Value.cells] using t0⟩
theorem lifted (os:Os)(started:os.Started)(H:Type)(enc:TypeId×Value->H):
  ReturnsInHanded {} Tryz.checked os 5 .any (λw args=>(Rows.fnFlatPlaySpec.pre enc Tryz.prog Tryz.f5 Rows.fnFlatPlayRow.domain false w args/\laidMetH Tryz.prog Rows.fnFlatPlayRow.laid w)/\sizedMet enc Tryz.prog Tryz.f5 (OpenSpec.ofChange Rows.fnFlatPlaySpec) false w args)
   (Rows.fnFlatPlaySpec.post enc Tryz.prog Tryz.f5 false true false false):=by
 refine returnsInHanded_of_change_and (C:=Tryz.checked) (X:=λw _=>laidMetH Tryz.prog Rows.fnFlatPlayRow.laid w) (λ_ _ _ hh h=>h.of_heap hh) aQ started cV Tryz.func5
  (ChangeSpec.witness_shaped (enc:=enc) (C:=Tryz.checked) (os:=os) (X:=λw _=>laidMetH Tryz.prog Rows.fnFlatPlayRow.laid w) false (World.laidAll Tryz.prog os Rows.fnFlatPlayRow.laid) #[Lg.eT,Lg.eT] 8 (World.laidAll_os _ _ _)
    (World.shaped_of_ZipB cV cV) cV cV cV
    (by rw[MakeChecks.laidMetH_plain _ _ _ cV];exact laidMet_laidAll _ cV cV)) ?_
 intro W base args ds gs before adR hW hc _ hL _;have agn:∀(j:Nat) t v,Tryz.f5.params[j]?=some t->args[j]?=some v->Value.okWide Tryz.prog W .any base t v:=adR;have hW':=hW;obtain⟨p,q,hA0,hV,rfl,_,_⟩:=hW;have hA:DataW.TrodAll enc Tryz.prog W 0 (λ_=>true) true Tryz.f5.params.toList args.toList ds p:=hA0;rw[Tryz.params5] at hA agn;obtain⟨v0,v1,d0,d1,p0,p1,rfl,rfl,rfl,h0,h1⟩:=trodAll_two hA;obtain⟨rfl,rfl⟩:=trodVars_none hV;obtain⟨a0,k0⟩:=aoV (agn 0 22 v0 rfl rfl) h0;obtain⟨a1,k1⟩:=aoV (agn 1 22 v1 rfl rfl) h1;clear hA0 adR;simp only[gg] at hW';refine(IU v0 v1 W a0 a1).mono λe W' ⟨he,hg⟩=>?_
 subst he;have dG:∀q∈p0++p1,(λb=>decide (b<W.heap.size)) q.block=true:=λq hq=>by
  simpa using hW'.lt q hq
 exact⟨_,rfl,_,_,_,[],p0++p1,[],hW',trodAll_cons_mk (shut_bool Tryz.underlying4 _) trodAll_mk0,trodAll_mk2 (k0 W' hg _ λq hq=>dG q (cT _ hq)) (k1 W' hg _ λq hq=>dG q (dE _ hq)),rfl,Sy hg _,λh=>by cases h⟩
theorem over:Rows.fnFlatPlayRow.holds Tryz.pinned (OpenSpec.ofChange Rows.fnFlatPlaySpec):=
 OpenClaim.holds_of_wide 5 Tryz.f5 rfl rfl rfl rfl rfl rfl rfl ⟨rfl,rfl,rfl,rfl,rfl⟩ rfl rfl rfl rfl rfl cV Tryz.func5 agm
  (Bj cV) (by unfold Func.isWrapper;first|(rw[if_pos (by decide+kernel)];kernel_rfl)|(rw[if_neg (by decide+kernel)];exact⟨rfl,rfl⟩))
  (λos started H enc _=>lifted os started H enc)
theorem proved:Rows.FnFlatPlaySaid:=over
theorem card_proved:Rows.FnFlatPlayCardSaid:=
 Claim7.holds_tied_plain_at .later [] [.data,.pinned] true (true,"cc27e62e3489df6b7c92fb73fa91f4df9f65954b732eab1510d2e4e6a5f9bbc2") false
  proved (λ_ h=>by cases h) cV (λ_ h=>by cases h) fnFlatPlay_row_tie rfl ⟨rfl,rfl⟩ cV rfl
  (λf fn hf Lw=>by
   obtain rfl:f=5:=ke ((show Tryz.prog.funcNamed "loop.example/poolfiles/laws.FnFlatPlay" =some 5 by kernel_rfl).symm.trans hf)|>.symm;obtain rfl:fn=Tryz.f5:=(ke (Tryz.func5.symm.trans Lw)).symm;exact⟨by kernel_rfl,λj t ht=>by
    rw[Tryz.params5] at ht;cases j with
    |zero=>
     simp at ht;subst ht
     kernel_rfl
    |succ j=>
     cases j with
     |zero=>
      simp at ht;subst ht
      kernel_rfl
     |succ j=>simp at ht⟩)
  cV
end Go.Proofs.YtajgfdfbnhchcaaGreatDoor
