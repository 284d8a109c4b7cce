/- The law FnFlatApart returns true for every input: the row and its tied card. No condition beyond the card's own. -/
import Derived.Test.YtajgfdfbnhchcaaGreatDoorAg1
set_option maxRecDepth 100000
set_option maxHeartbeats 4000000
set_option linter.unusedVariables false
set_option linter.unusedSimpArgs false
open Go.Proofs.Tryz
namespace Go.Proofs.YtajgfdfbnhchcaaGreatDoor
open Go.ChangeShapes Go.WideShapes Go.ChangeAt Go.RowKit Go.Ev
section
variable {w':World}{v:Value}
theorem aN:ownKnob Tryz.prog.godebug=none:=by kernel_rfl
theorem xC:Tryz.prog.cellsOf 5=1:=by kernel_rfl
theorem ab4 {w w':World}(h:Fr w w' λ_=>False)(may:MemPlace->Prop):w.keptBut w' may:=by
 refine⟨h.os,h.output,λi hi=>?_⟩;rw[h.block i hi λx=>x];exact(World.keptBut_refl w may).2.2 i hi
theorem cell_of {w w':World}(h:Fr w w' λ_=>False){a:Addr}(ha:w.cell? a=some v):w'.cell? a=some v:=by
 have du:a.block<w.heap.size:=by
  rcases lq a.block w.heap.size with h1|h1
  .exact h1
  .unfold World.cell? at ha;rw[Array.getElem?_eq_none h1] at ha;simp at ha
 unfold World.cell? at ha⊢;rw[h.block a.block du λx=>x];exact ha
theorem Uz (v v':Value)(w:World)(hv:P0 w v)(hv':P0 w v'):Calls Tryz.prog 3 #[v,v'] w λe w'=>e= .returned (.bool true)/\Fr w w' λ_=>False:=by
 rcases al7 (λs a code c a2 more c2 h1 h2 h3 h4=>Pl.Uq s a code c a2 more c2 h1 h2 h3 h4) w v v' hv hv' with⟨v,w',h,_⟩|⟨g,xs,w',h,hc⟩
 .have h2:=(Tryz.call3 #[_,_] w).symm.trans h;cases h2
 .have h2:=(Tryz.call3 #[_,_] w).symm.trans h;cases h2
  refine hc.mono λe w'' hh=>?_
  obtain⟨v,rfl,rfl,hf⟩:=hh;exact⟨rfl,hf⟩
theorem Nz {H:Type}{enc:TypeId×Value->H}{W:World}{base:Nat}{d:DataW H}{p:List MemPlace}(UA:Value.okWide Tryz.prog W .any base 22 v)(h0:DataW.Trod enc Tryz.prog W 0 (λ_=>true) true 22 v d p):
  P0 W v/\∀W',(Fr W W' λ_=>False)->∀sp:Nat->Bool,(∀q∈p,sp q.block=true)->DataW.Trod enc Tryz.prog W' 0 sp true 22 v d p:=by
 obtain⟨a0,len,cap,rfl⟩:=okWide_slice Tryz.underlying22 UA;obtain⟨fuel,hf⟩:=h0;rcases open_ints Tryz.underlying22 Tryz.underlying5 xC hf with⟨vv,hx⟩|⟨a,aoz,CT,zs,vv,_,hl,hm,hz,hx,tX,hwz⟩
 .simp[Value.cells] at vv;obtain⟨rfl,rfl,rfl⟩:=vv;simp only[cx] at hx;obtain⟨rfl,rfl⟩:=hx;exact⟨.inl rfl,λW' _ sp _=>shut_slice_nil Tryz.underlying22⟩
 .simp[Value.cells] at vv;obtain⟨rfl,rfl,rfl⟩:=vv;simp only[cx] at hx;obtain⟨rfl,rfl⟩:=hx;simp only[if_true] at hz;obtain⟨ab,ao,asp⟩:=a;have fF:Value.okWide Tryz.prog W .any base 22 (.slice (some ⟨ab,ao,asp⟩) len cap):=UA;simp only[Value.okWide,Tryz.underlying22,Cell.okWide,Cell.ok] at fF;obtain⟨_,_,_,Zp,_⟩:=fF;have Zp:asp=none:=Zp;subst Zp;have hlz:len<=zs.length:=by rw[hz];exact hl
  refine⟨.inr ⟨ab,ao,len,cap,zs,rfl,hlz,hl,Nat.lt_of_le_of_lt hm (by decide),hwz,tX⟩,λW' hg sp YA=>?_⟩;have Zq:∀i,i<zs.length->W'.cell? ((⟨ab,ao,none⟩:Addr).add i)=some (.int .u8 (zs.getD i 0)):=λi hi=>cell_of hg (tX i hi)
  by_cases zS:zs.length=0
  .have hc0:cap=0:=by omega
   have hl0:len=0:=by omega
   subst hc0;subst hl0;have t0:=shut_ints (enc:=enc) (w:=W') (base:=0) (spare:=sp) (held:=true) (a:=⟨ab,ao,none⟩) (len:=0) (cap:=0) (zs:=zs) 0 Tryz.underlying22 Tryz.underlying5 xC (iJ _) (cA _) hm (by simp[zS]) Zq hwz;exact⟨2,by simpa[Value.cells] using t0⟩
  .have amu:sp ab=true:=by
    have:=YA (.cell ab ao) (MemPlace.mem_row.2 ⟨0,ag,by simp⟩);exact this
   have t0:=shut_ints (enc:=enc) (w:=W') (base:=0) (spare:=sp) (held:=true) (a:=⟨ab,ao,none⟩) (len:=len) (cap:=cap) (zs:=zs) 0 Tryz.underlying22 Tryz.underlying5 xC (iJ _) hl hm (by simp[amu,hz]) Zq hwz;exact⟨2,by simpa[Value.cells] using t0⟩
theorem lifted (os:Os)(started:os.Started)(H:Type)(enc:TypeId×Value->H):
  ReturnsInHanded {} Tryz.checked os 3 .any (λw args=>(Rows.fnFlatApartSpec.pre enc Tryz.prog Tryz.f3 Rows.fnFlatApartRow.domain false w args/\laidMetH Tryz.prog Rows.fnFlatApartRow.laid w)/\sizedMet enc Tryz.prog Tryz.f3 (OpenSpec.ofChange Rows.fnFlatApartSpec) false w args)
   (Rows.fnFlatApartSpec.post enc Tryz.prog Tryz.f3 false true false false):=by
 refine returnsInHanded_of_change_and (C:=Tryz.checked) (X:=λw _=>laidMetH Tryz.prog Rows.fnFlatApartRow.laid w) (λ_ _ _ hh h=>h.of_heap hh) aN started cV Tryz.func3
  (ChangeSpec.witness_shaped (enc:=enc) (C:=Tryz.checked) (os:=os) (X:=λw _=>laidMetH Tryz.prog Rows.fnFlatApartRow.laid w) false (World.laidAll Tryz.prog os Rows.fnFlatApartRow.laid) #[.slice none 0 0,.slice none 0 0] 8 (World.laidAll_os _ _ _)
    (World.shaped_of_ZipB cV cV) cV cV cV
    (by rw[MakeChecks.laidMetH_plain _ _ _ cV];exact laidMet_laidAll _ cV cV)) ?_
 intro W base args ds gs before adp hW hc _ hL _;have UA:∀(j:Nat) t v,Tryz.f3.params[j]?=some t->args[j]?=some v->Value.okWide Tryz.prog W .any base t v:=adp;have hW':=hW;obtain⟨p,q,hA0,hV,rfl,_,_⟩:=hW;have hA:DataW.TrodAll enc Tryz.prog W 0 (λ_=>true) true Tryz.f3.params.toList args.toList ds p:=hA0;rw[Tryz.params3] at hA UA;obtain⟨v0,v1,d0,d1,p0,p1,rfl,rfl,rfl,h0,h1⟩:=trodAll_two hA;obtain⟨rfl,rfl⟩:=trodVars_none hV;obtain⟨a0,k0⟩:=Nz (UA 0 22 v0 rfl rfl) h0;obtain⟨a1,k1⟩:=Nz (UA 1 22 v1 rfl rfl) h1;clear hA0 adp;simp only[ix] at hW';refine(Uz v0 v1 W a0 a1).mono λe W' ⟨he,hg⟩=>?_
 subst he;have du:∀q∈p0++p1,(λb=>decide (b<W.heap.size)) q.block=true:=λq hq=>by
  simpa using hW'.lt q hq
 exact⟨_,rfl,_,_,_,[],p0++p1,[],hW',trodAll_cons_mk (shut_bool Tryz.underlying4 _) trodAll_mk0,trodAll_mk2 (k0 W' hg _ λq hq=>du q (cP _ hq)) (k1 W' hg _ λq hq=>du q (dz _ hq)),rfl,ab4 hg _,λh=>by cases h⟩
theorem over:Rows.fnFlatApartRow.holds Tryz.pinned (OpenSpec.ofChange Rows.fnFlatApartSpec):=
 OpenClaim.holds_of_wide 3 Tryz.f3 rfl rfl rfl rfl rfl rfl rfl ⟨rfl,rfl,rfl,rfl,rfl⟩ rfl rfl rfl rfl rfl cV Tryz.func3 afM
  (yg cV) (by unfold Func.isWrapper;first|(rw[if_pos (by decide+kernel)];kernel_rfl)|(rw[if_neg (by decide+kernel)];exact⟨rfl,rfl⟩))
  (λos started H enc _=>lifted os started H enc)
theorem proved:Rows.FnFlatApartSaid:=over
theorem card_proved:Rows.FnFlatApartCardSaid:=
 Claim7.holds_tied_plain_at .later [] [.data,.pinned] true (true,"cc27e62e3489df6b7c92fb73fa91f4df9f65954b732eab1510d2e4e6a5f9bbc2") false
  proved (λ_ h=>by cases h) cV (λ_ h=>by cases h) fnFlatApart_row_tie rfl ⟨rfl,rfl⟩ cV rfl
  (λf fn hf KT=>by
   obtain rfl:f=3:=j6 ((show Tryz.prog.funcNamed "loop.example/poolfiles/laws.FnFlatApart" =some 3 by kernel_rfl).symm.trans hf)|>.symm;obtain rfl:fn=Tryz.f3:=(j6 (Tryz.func3.symm.trans KT)).symm;exact⟨by kernel_rfl,λj t ht=>by
    rw[Tryz.params3] at ht;cases j with
    |zero=>
     simp at ht;subst ht
     kernel_rfl
    |succ j=>
     cases j with
     |zero=>
      simp at ht;subst ht
      kernel_rfl
     |succ j=>simp at ht⟩)
  cV
end
end Go.Proofs.YtajgfdfbnhchcaaGreatDoor
