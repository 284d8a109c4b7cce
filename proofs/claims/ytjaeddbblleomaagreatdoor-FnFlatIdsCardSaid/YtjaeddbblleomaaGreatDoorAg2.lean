/- The law FnFlatIds returns true for every input: the row and its tied card. No condition beyond the card's own. -/
import Derived.Test.YtjaeddbblleomaaGreatDoorAg1
set_option maxRecDepth 100000
set_option maxHeartbeats 4000000
set_option linter.unusedVariables false
set_option linter.unusedSimpArgs false
open Go.Proofs.Tryz
namespace Go.Proofs.YtjaeddbblleomaaGreatDoor
open Go
theorem joined:joinedFacts Tryz.prog 3 Tryz.f3 Rows.fnFlatIdsSpec Rows.fnFlatIdsRow=true:=by
 unfold joinedFacts;exact(both (both (both (both (both (both (both (both (both (both (both (both (both (both (both (both (both (both (both (both (both (both (both (both (both (both (both (both (both (both (both jf0 jf1) jf2) jf3) jf4) jf5) jf6) jf7) jf8) jf9) jf10) jf11) jf12) jf13) jf14) jf15) jf16) jf17) jf18) jf19) jf20) jf21) jf22) jf23) jf24) jf25) jf26) jf27) jf28) jf29) jf30) jf31)
end Go.Proofs.YtjaeddbblleomaaGreatDoor
namespace Go.Proofs.YtjaeddbblleomaaGreatDoor
open Go.ChangeShapes Go.WideShapes Go.ChangeAt Go.RowKit Go.Ev
variable {w':World}
theorem aJ:ownKnob Tryz.prog.godebug=none:=by kernel_rfl
theorem wX:Tryz.prog.cellsOf 5=1:=by kernel_rfl
theorem Q2 {w w':World}(h:Fr w w' λ_=>False)(may:MemPlace->Prop):w.keptBut w' may:=by
 refine⟨h.os,h.output,λi hi=>?_⟩;rw[h.block i hi λx=>x];exact(World.keptBut_refl w may).2.2 i hi
theorem cell_of {w w':World}(h:Fr w w' λ_=>False){a:Addr}{v:Value}(ha:w.cell? a=some v):w'.cell? a=some v:=by
 have dA:a.block<w.heap.size:=by
  rcases kU a.block w.heap.size with h1|h1
  .exact h1
  .unfold World.cell? at ha;rw[Array.getElem?_eq_none h1] at ha;simp at ha
 unfold World.cell? at ha⊢;rw[h.block a.block dA λx=>x];exact ha
theorem HK (v':Value)(w:World)(hv:v'= .slice none 0 0\/∃(b o n c:Nat)(zs:List Int),v'= .slice (some ⟨b,o,none⟩) n c/\n<=zs.length/\n<=c/\c<eL/\(∀z∈zs,(Lit.int .u8 z).wf=true)/\∀i,i<zs.length->w.cell? ((⟨b,o,none⟩:Addr).add i)=some (.int .u8 (zs.getD i 0))):Calls Tryz.prog 3 #[v'] w λe w'=>e= .returned (.bool true)/\Fr w w' λ_=>False:=by
 rcases law w v' hv with⟨v,w',h,_⟩|⟨g,xs,w',h,hc⟩
 .have h2:=(Tryz.call3 #[v'] w).symm.trans h;cases h2
 .have h2:=(Tryz.call3 #[v'] w).symm.trans h;cases h2
  refine hc.mono λe w'' hh=>?_
  obtain⟨v,rfl,rfl,hf⟩:=hh;exact⟨rfl,hf⟩
theorem lifted (os:Os)(started:os.Started)(H:Type)(enc:TypeId×Value->H):
  ReturnsInHanded {} Tryz.checked os 3 .any (λw args=>(Rows.fnFlatIdsSpec.pre enc Tryz.prog Tryz.f3 Rows.fnFlatIdsRow.domain false w args/\laidMetH Tryz.prog Rows.fnFlatIdsRow.laid w)/\sizedMet enc Tryz.prog Tryz.f3 (OpenSpec.ofChange Rows.fnFlatIdsSpec) false w args)
   (Rows.fnFlatIdsSpec.post enc Tryz.prog Tryz.f3 false true false false):=by
 refine returnsInHanded_of_change_and (C:=Tryz.checked) (X:=λw _=>laidMetH Tryz.prog Rows.fnFlatIdsRow.laid w) (λ_ _ _ hh h=>h.of_heap hh) aJ started cU Tryz.func3
  (ChangeSpec.witness_shaped (enc:=enc) (C:=Tryz.checked) (os:=os) (X:=λw _=>laidMetH Tryz.prog Rows.fnFlatIdsRow.laid w) false (World.laidAll Tryz.prog os Rows.fnFlatIdsRow.laid) #[.slice none 0 0] 8 (World.laidAll_os _ _ _)
    (World.shaped_of_ZipB cU cU) cU cU cU
    (by rw[MakeChecks.laidMetH_plain _ _ _ cU];exact laidMet_laidAll _ cU cU)) ?_
 intro W base args ds gs before hval0 hW hc _ hL _;have hval:∀(j:Nat) t v,Tryz.f3.params[j]?=some t->args[j]?=some v->Value.okWide Tryz.prog W .any base t v:=hval0;have hW':=hW;obtain⟨p,q,hA0,hV,rfl,_,_⟩:=hW;have hA:DataW.TrodAll enc Tryz.prog W 0 (λ_=>true) true Tryz.f3.params.toList args.toList ds p:=hA0;rw[Tryz.params3] at hA hval;obtain⟨v0,d0,rfl,rfl,h0⟩:=trodAll_one hA;obtain⟨rfl,rfl⟩:=trodVars_none hV;obtain⟨a0,len,cap,rfl⟩:=okWide_slice Tryz.underlying22 (hval 0 22 v0 rfl rfl);obtain⟨fuel,hf⟩:=h0;clear hA0 hval0;simp only[iH] at hW';rcases open_ints Tryz.underlying22 Tryz.underlying5 wX hf with⟨tN,hx⟩|⟨a,len',Cj,zs,tN,_,hl,hm,hz,hx,tD,hwz⟩
 .simp[Value.cells] at tN;obtain⟨rfl,rfl,rfl⟩:=tN;simp only[cx] at hx;obtain⟨rfl,rfl⟩:=hx;refine(HK _ W (.inl rfl)).mono λe W' ⟨he,hg⟩=>?_
  subst he;exact⟨_,rfl,_,_,_,[],[],[],hW',trodAll_cons_mk (shut_bool Tryz.underlying4 _) trodAll_mk0,trodAll_mk1 (shut_slice_nil Tryz.underlying22),rfl,Q2 hg _,λh=>by cases h⟩
 .simp[Value.cells] at tN;obtain⟨rfl,rfl,rfl⟩:=tN;simp only[cx] at hx;obtain⟨rfl,rfl⟩:=hx;simp only[if_true] at hz;obtain⟨ab,ao,asp⟩:=a;have fZ:Value.okWide Tryz.prog W .any base 22 (.slice (some ⟨ab,ao,asp⟩) len cap):=hval 0 22 _ rfl rfl;simp only[Value.okWide,Tryz.underlying22,Cell.okWide,Cell.ok] at fZ;obtain⟨_,_,_,Yw,_⟩:=fZ;have Yw:asp=none:=Yw;subst Yw;have hlz:len<=zs.length:=by rw[hz];exact hl
  refine(HK _ W (.inr ⟨ab,ao,len,cap,zs,rfl,hlz,hl,Nat.lt_of_le_of_lt hm (by decide),hwz,tD⟩)).mono λe W' ⟨he,hg⟩=>?_
  subst he;have Yx:∀i,i<zs.length->W'.cell? ((⟨ab,ao,none⟩:Addr).add i)=some (.int .u8 (zs.getD i 0)):=λi hi=>cell_of hg (tD i hi)
  have again:∀sp:Nat->Bool,(∀p∈MemPlace.row ⟨ab,ao,none⟩ zs.length,sp p.block=true)->DataW.TrodAll enc Tryz.prog W' 0 sp true [22] [.slice (some ⟨ab,ao,none⟩) len cap] [.slice (lits .u8 (zs.take len)) (lits .u8 (zs.drop len))] (MemPlace.row ⟨ab,ao,none⟩ zs.length):=by
   intro sp XO;by_cases FZ:zs.length=0
   .have hc0:cap=0:=by omega
    have hl0:len=0:=by omega
    subst hc0;subst hl0;have t0:=shut_ints (enc:=enc) (w:=W') (base:=0) (spare:=sp) (held:=true) (a:=⟨ab,ao,none⟩) (len:=0) (cap:=0) (zs:=zs) 0 Tryz.underlying22 Tryz.underlying5 wX (jG _) (cy _) hm (by simp[FZ]) Yx hwz;exact trodAll_mk1 ⟨2,by simpa[Value.cells] using t0⟩
   .have hspb:sp ab=true:=by
     have:=XO (.cell ab ao) (MemPlace.mem_row.2 ⟨0,af,by simp⟩);exact this
    have t0:=shut_ints (enc:=enc) (w:=W') (base:=0) (spare:=sp) (held:=true) (a:=⟨ab,ao,none⟩) (len:=len) (cap:=cap) (zs:=zs) 0 Tryz.underlying22 Tryz.underlying5 wX (jG _) hl hm (by simp[hspb,hz]) Yx hwz;exact trodAll_mk1 ⟨2,by simpa[Value.cells] using t0⟩
  refine⟨_,rfl,_,_,_,[],MemPlace.row ⟨ab,ao,none⟩ zs.length,[],hW',trodAll_cons_mk (shut_bool Tryz.underlying4 _) trodAll_mk0,again _ (λp hp=>?_),rfl,Q2 hg _,λh=>by cases h⟩;simpa using hW'.lt p hp
theorem over:Rows.fnFlatIdsRow.holds Tryz.pinned (OpenSpec.ofChange Rows.fnFlatIdsSpec):=
 OpenClaim.holds_of_wide 3 Tryz.f3 rfl rfl rfl rfl rfl rfl rfl ⟨rfl,rfl,rfl,rfl,rfl⟩ rfl rfl rfl rfl rfl cU Tryz.func3 joined
  (vM cU) (by unfold Func.isWrapper;first|(rw[if_pos (by decide+kernel)];kernel_rfl)|(rw[if_neg (by decide+kernel)];exact⟨rfl,rfl⟩))
  (λos started H enc _=>lifted os started H enc)
theorem proved:Rows.FnFlatIdsSaid:=over
theorem card_proved:Rows.FnFlatIdsCardSaid:=
 Claim7.holds_tied_plain_at .later [] [.data,.pinned] true (true,"263f87489a9825fad6e3654101a3d4475a895a2766760282a8c6559fa8d815e9") false
  proved (λ_ h=>by cases h) cU (λ_ h=>by cases h) fnFlatIds_row_tie rfl ⟨rfl,rfl⟩ cU rfl
  (λf fn hf Kj=>by
   obtain rfl:f=3:=ir ((show Tryz.prog.funcNamed "loop.example/poolfiles/laws.FnFlatIds" =some 3 by kernel_rfl).symm.trans hf)|>.symm;obtain rfl:fn=Tryz.f3:=(ir (Tryz.func3.symm.trans Kj)).symm;exact⟨by kernel_rfl,λj t ht=>by
    rw[Tryz.params3] at ht;cases j with
    |zero=>
     simp at ht;subst ht
     kernel_rfl
    |succ j=>simp at ht⟩)
  cU
end Go.Proofs.YtjaeddbblleomaaGreatDoor
