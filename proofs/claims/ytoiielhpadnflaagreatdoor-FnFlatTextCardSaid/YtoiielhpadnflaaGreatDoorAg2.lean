/- Lemmas of the proof. No conditions. -/
import Derived.Test.YtoiielhpadnflaaGreatDoorAg1
set_option maxRecDepth 100000
set_option maxHeartbeats 4000000
set_option linter.unusedVariables false
set_option linter.unusedSimpArgs false
open Go.Proofs.Tryz
namespace Go.Proofs.YtoiielhpadnflaaGreatDoor
open Go.ChangeShapes Go.WideShapes Go.ChangeAt Go.RowKit Go.Ev
section
variable {w' W:World}
theorem aQ:ownKnob Tryz.prog.godebug=none:=by kernel_rfl
theorem x4:Tryz.prog.cellsOf 5=1:=by kernel_rfl
theorem Sl {w w':World}(h:Fr w w' λ_=>False)(may:MemPlace->Prop):w.keptBut w' may:=by refine⟨h.os,h.output,λi hi=>?_⟩;rw[h.block i hi λx=>x];exact(World.keptBut_refl w may).2.2 i hi
theorem cell_of {w w':World}(h:Fr w w' λ_=>False){a:Addr}{v:Value}(ha:w.cell? a=some v):w'.cell? a=some v:=by
 have dz:a.block<w.heap.size:=by
  rcases lq a.block w.heap.size with h1|h1
  .exact h1
  .unfold World.cell? at ha;rw[Array.getElem?_eq_none h1] at ha;simp at ha
 unfold World.cell? at ha⊢;rw[h.block a.block dz λx=>x];exact ha
theorem Bd {n:String}{g:Nat}{cs:Array Value}(hg:Tryz.prog.globalNamed n=some g)(hv:W.var? Tryz.prog n=some cs):∃t fr,W.heap[g]?=some (.cells cs t fr):=by
 unfold World.var? at hv;rw[hg] at hv;change(match W.heap[g]? with
  |some (.cells cs _ _)=>some cs
  |_=>none)=some cs at hv
 split at hv
 .cases hv
  exact⟨_,_,‹_›⟩
 .cases hv
theorem NY (h:laidMetH Tryz.prog Rows.fnFlatTextRow.laid W):∃t fr,W.heap[4]?=some (.cells ⟨j7⟩ t fr):=by
 have h:=laidMetH.filter (λx=>x.1== "internal/strconv.uint64pow10") h;have e:Rows.fnFlatTextRow.laid.filter (λx=>x.1== "internal/strconv.uint64pow10")=[("internal/strconv.uint64pow10",Rows.laid_internal_strconv_uint64pow10)]:=by kernel_rfl
 rw[e,MakeChecks.laidMetH_plain _ _ _ cj] at h;obtain⟨ps,⟨g,t,cs,fuel,p,q,hg,ht,hv,hd,_,hps⟩,_,uA⟩:=h;have hg4:Tryz.prog.globalNamed "internal/strconv.uint64pow10" =some 4:=by kernel_rfl
 obtain rfl:=iU (hg4.symm.trans hg);obtain rfl:=iU ((show(Tryz.prog.globals[4]?).map (·.type)=some 285 by kernel_rfl).symm.trans ht);obtain⟨xs,m,_,ex,cX,hl,hel⟩:=DataW.trod_array Tryz.underlying285 hd;have c1:Tryz.prog.cellsOf 217=1:=by kernel_rfl
 have c20:Tryz.prog.cellsOf 285=20:=by kernel_rfl
 rw[c20] at cX;have qm:cs.toList=j7:=by
  apply Sq;intro r;by_cases hr:r<20
  .have hE:=hel r hr;rw[c1,uz,bc af] at hE;obtain⟨z,e1,e2,_⟩:=DataW.trod_int Tryz.underlying217 hE;have h0:((cs.toList.drop r).take 1)[0]?=some (.int .u64 z):=by rw[e1];rfl
   (have h1:cs.toList[r]?=some (.int .u64 z):=by simpa using h0);(have e3:(xs.map (·.1))=Ha.map λn=>(.lit (.int .u64 (.ofNat n)):DataW Unit):=(DataW.agg.inj (Prod.mk.inj ex).1).symm);have e4:(xs.map (·.1))[r]?=(Ha.map λn=>(.lit (.int .u64 (.ofNat n)):DataW Unit))[r]?:=by rw[e3]
   rw[wD,wD,bc (by omega:r<xs.length),e2] at e4;rw[h1,show j7[r]?=(Ha[r]?).map λn=>Value.int .u64 (.ofNat n) from wD ..];cases hp:Ha[r]? with
   |none=>rw[hp] at e4;cases e4
   |some n=>
    rw[hp] at e4;simp only[uL,rG,DataW.lit.injEq,Lit.int.injEq,FF] at e4;rw[e4];rfl
  .rw[qP (by simpa using(by omega:cs.toList.length<=r)),qP (by have:j7.length=20:=rfl;omega)]
 obtain⟨t,fr,hb⟩:=Bd hg hv;obtain⟨cs⟩:=cs;have qm:cs=j7:=qm;subst qm;exact⟨t,fr,hb⟩
theorem mem_sorted {x:Lit×DataW Unit}:∀l:List (Lit×DataW Unit),x∈l.foldr DataW.insert []↔x∈l
 |[]=>Iff.rfl
 |y::l=>by rw[List.foldr_cons,ChangeMaps.mem_insert_iff,mem_sorted l,bH]
theorem IB:∀xs:List (Value×Value),(∀x∈xs,∃(s:List UInt8)(n:Int),x=(.string ⟨⟨s⟩⟩,.int .i64 n)/\(s=[109,97,107,101]->n=1))->(∃x∈xs,x.1= .string ⟨⟨[109,97,107,101]⟩⟩)->Go.Ev.nQ (Lg.sv [109,97,107,101]) xs=some (some (Lg.iv 1))
 |[],_,⟨x,hx,_⟩=>by cases hx
 |y::xs,h,⟨x,hx,e⟩=>by
  obtain⟨s,n,rfl,h1⟩:=h y ga;rw[Go.Ev.tq,show Go.Ev.jQ (Lg.sv [109,97,107,101]) (Value.string ⟨⟨s⟩⟩,Value.int .i64 n).1=some (decide (([109,97,107,101]:List UInt8)=s)) from Lg.Jp _ _];by_cases hs:([109,97,107,101]:List UInt8)=s
  .rw[h1 hs.symm,du hs];rfl
  .rw[ec hs];show Go.Ev.nQ _ xs=_;refine IB xs (λz hz=>h z (iV _ hz)) ?_;rcases bH.1 hx with rfl|hx
   .exfalso;simp only[Value.string.injEq,ByteArray.mk.injEq,Array.mk.injEq] at e;exact hs e.symm
   .exact⟨x,hx,e⟩
theorem NZ (h:laidMetH Tryz.prog Rows.fnFlatTextRow.laid W):∃t fr q k xs,W.heap[0]?=some (.cells ⟨[.map (some q)]⟩ t fr)/\W.heap[q]?=some (.map ⟨xs⟩ k)/\(∀x∈xs,∃s n,x.key= .string s/\x.val= .int .i64 n)/\Go.Ev.nQ (Lg.sv [109,97,107,101]) (xs.map λx=>(x.key,x.val))=some (some (Lg.iv 1)):=by
 have h:=laidMetH.filter (λx=>x.1== "loop.example/poolfiles/impl.opNames") h;have e:Rows.fnFlatTextRow.laid.filter (λx=>x.1== "loop.example/poolfiles/impl.opNames")=[("loop.example/poolfiles/impl.opNames",Rows.laid_loop_example_poolfiles_impl_opNames)]:=by kernel_rfl
 rw[e,MakeChecks.laidMetH_plain _ _ _ cj] at h;obtain⟨ps,⟨g,t,cs,fuel,p,q,hg,ht,hv,hd,_,hps⟩,_,uA⟩:=h;have hg0:Tryz.prog.globalNamed "loop.example/poolfiles/impl.opNames" =some 0:=by kernel_rfl
 obtain rfl:=iU (hg0.symm.trans hg);obtain rfl:=iU ((show(Tryz.prog.globals[0]?).map (·.type)=some 44 by kernel_rfl).symm.trans ht);rcases ChangeMaps.open_map Tryz.underlying44 Tryz.underlying9 Tryz.underlying3 hd with⟨_,hx⟩|⟨b,es,clock,qm,hb,_,F,hx⟩
 .cases hx
 obtain⟨t,fr,hb0⟩:=Bd hg hv;obtain⟨cs⟩:=cs;have qm:cs=[.map (some b)]:=qm;subst qm;obtain⟨es⟩:=es;have hL:Rows.laid_loop_example_poolfiles_impl_opNames= .map ((es.map (ChangeMaps.rg Unit Tryz.prog 9 .i64)).foldr DataW.insert []):=(Prod.mk.inj hx).1;have hL':=DataW.map.inj hL;have hrd:∀x∈es,∃(s:List UInt8)(n:Int),x.key= .string ⟨⟨s⟩⟩/\x.val= .int .i64 n/\ChangeMaps.rg Unit Tryz.prog 9 .i64 x=(.string s,.lit (.int .i64 n)):=λx hx=>by
  obtain⟨y,hy⟩:=F.reads x hx;obtain⟨⟨⟨s⟩⟩,h1,h2,_⟩:=ChangeMaps.rd_some Tryz.underlying9 hy;have hr:=ChangeMaps.rg_of hy;unfold ChangeMaps.rd at hy;simp only[Option.bind_eq_some_iff,Option.map_eq_some_iff] at hy;obtain⟨key,_,d,hdv,rfl⟩:=hy;unfold ChangeMaps.rdv at hdv;split at hdv
  .rename_i k' n ZY;split at hdv
   .rename_i hk;obtain⟨rfl,_⟩:=hk;cases hdv
    exact⟨s,n,h1,ZY,by rw[hr,show key= .string s from h2]⟩
   .cases hdv
  .cases hdv
 have uC:∀z,z∈es.map (ChangeMaps.rg Unit Tryz.prog 9 .i64)↔z∈([(.string [99,117,116],.lit (.int .i64 4)),(.string [100,114,111,112],.lit (.int .i64 5)),(.string [102,111,108,100,101,114],.lit (.int .i64 2)),(.string [108,105,110,107],.lit (.int .i64 6)),(.string [109,97,107,101],.lit (.int .i64 1)),(.string [109,111,118,101],.lit (.int .i64 7)),(.string [119,114,105,116,101],.lit (.int .i64 3))]:List (Lit×DataW Unit)):=λz=>by
  rw[<-mem_sorted,<-hL']
 refine⟨t,fr,b,clock,es,hb0,hb,λx hx=>?_,IB _ (λz hz=>?_) ?_⟩
 .obtain⟨s,n,h1,h2,_⟩:=hrd x hx;exact⟨_,n,h1,h2⟩
 .obtain⟨x,hx,rfl⟩:=lp.1 hz;obtain⟨s,n,h1,h2,h3⟩:=hrd x hx;refine⟨s,n,by rw[h1,h2],λe=>?_⟩;have h4:=(uC _).1 (List.mem_map_of_mem hx);rw[h3,e] at h4;simp only[bH,iS,jb,cw,Lit.string.injEq,DataW.lit.injEq,Lit.int.injEq,FF] at h4;simpa using h4
 .have h4:=(uC (.string [109,97,107,101],.lit (.int .i64 1))).2 ay;obtain⟨x,hx,e⟩:=lp.1 h4;obtain⟨s,n,h1,h2,h3⟩:=hrd x hx;rw[h3] at e;simp only[cw,Lit.string.injEq] at e;exact⟨_,List.mem_map_of_mem hx,by show x.key=_;rw[h1,e.1]⟩
def ZZ:List String:=((Rows.fnFlatTextRow.laid.map (·.1)).filter λn=>!(n== "loop.example/poolfiles/impl.opNames"))
def ajR:List MapEntry:=[⟨.string ⟨⟨[99,117,116]⟩⟩,.int .i64 4,0⟩,⟨.string ⟨⟨[100,114,111,112]⟩⟩,.int .i64 5,1⟩,⟨.string ⟨⟨[102,111,108,100,101,114]⟩⟩,.int .i64 2,2⟩,⟨.string ⟨⟨[108,105,110,107]⟩⟩,.int .i64 6,3⟩,⟨.string ⟨⟨[109,97,107,101]⟩⟩,.int .i64 1,4⟩,⟨.string ⟨⟨[109,111,118,101]⟩⟩,.int .i64 7,5⟩,⟨.string ⟨⟨[119,114,105,116,101]⟩⟩,.int .i64 3,6⟩]
noncomputable def ajS (os:Os):World:={World.holding Tryz.prog os ⟨#[],#[],[]⟩ with heap:=⟨Lay.setRows (World.holding Tryz.prog os ⟨#[],#[],[]⟩).heap.toList [(0,[.map (some (World.holding Tryz.prog os ⟨#[],#[],[]⟩).heap.size)])]++[.map ⟨ajR⟩ 7]⟩}
noncomputable def wit (os:Os):World:=(ajS os).layVars Tryz.prog (Rows.fnFlatTextRow.laid.filter λx=>ZZ.contains x.1)
theorem acB (os:Os)(args:Array Value):laidMet Tryz.prog Rows.fnFlatTextRow.laid ((wit os).forCall (λ_ _=>0) ⟨#[],args,[]⟩).memory:=by have h:laidMet Tryz.prog Rows.fnFlatTextRow.laid (wit os):=laidMet_layVars (w0:=ajS os) ZZ [0,(World.holding Tryz.prog os ⟨#[],#[],[]⟩).heap.size] rfl cj cj (LaidIn.of_run _ 10 cj cj cj cj);exact h.of_heap (by simp[World.memory,World.forCall,Input.heap])
theorem Va {H:Type}{enc:TypeId×Value->H}{d:DataW H}{q:List MemPlace}(hV:DataW.TrodVars enc Tryz.prog W (λ_=>true) ["loop.example/poolfiles/impl.opNames"] [d] q):
  ∃q',∀W',(Fr W W' λ_=>False)->∀sp:Nat->Bool,DataW.TrodVars enc Tryz.prog W' sp ["loop.example/poolfiles/impl.opNames"] [d] q':=by
 obtain⟨g,t,cs,fuel,d',p,hgs,hg,ht,hv,hd,_⟩:=trodVars_one hV;obtain rfl:=(List.cons.inj hgs).1;have hg0:Tryz.prog.globalNamed "loop.example/poolfiles/impl.opNames" =some 0:=by kernel_rfl
 obtain rfl:=iU (hg0.symm.trans hg);have Wf:(Tryz.prog.globals[0]?).map (·.type)=some 44:=by kernel_rfl
 obtain rfl:=iU (Wf.symm.trans ht);obtain⟨t,fr,hb0⟩:=Bd hg hv;have hv':∀W',(Fr W W' λ_=>False)->W'.var? Tryz.prog "loop.example/poolfiles/impl.opNames" =some cs:=λW' hf=>by
  unfold World.var?;rw[hg];show(match W'.heap[0]? with
   |some (Obj.cells cs _ _)=>some cs
   |_=>none)=some cs
  rw[hf.block 0 (uK.1 hb0).1 λx=>x,hb0]
 rcases ChangeMaps.open_map Tryz.underlying44 Tryz.underlying9 Tryz.underlying3 hd with⟨qm,hx⟩|⟨b,es,clock,qm,hb,ajT,F,hx⟩
 .cases hx
  exact⟨_,λW' hf sp=>trodVars_mk1 (fuel:=1) (p:=[]) hg ht (hv' W' hf) (by rw[qm];simp[DataW.trod,Tryz.underlying44])⟩
 .cases hx
  exact⟨_,λW' hf sp=>trodVars_mk1 (fuel:=2) (p:=[.map b]) hg ht (hv' W' hf) (by
   rw[qm];exact ChangeMaps.shut_map Tryz.underlying44 Tryz.underlying9 Tryz.underlying3 0 (by rw[hf.block b (uK.1 hb).1 λx=>x];exact hb) ajT F)⟩
theorem IC (v':Value)(w:World)(hT:ajP w)(hv:acx w v'):Calls Tryz.prog 3 #[v'] w λe w'=>e= .returned (.bool true)/\Fr w w' λ_=>False:=by
 rcases amH (λs a code c m h1 h2 h3 h4=>Pl.Kt s a code c m h1 h2 h3 h4) w v' hT hv with⟨v,w',h,_⟩|⟨g,xs,w',h,hc⟩
 .have h2:=(Tryz.call3 #[v'] w).symm.trans h;cases h2
 .have h2:=(Tryz.call3 #[v'] w).symm.trans h;cases h2
  refine hc.mono λe w'' hh=>?_
  obtain⟨v,rfl,rfl,hf⟩:=hh;exact⟨rfl,hf⟩
theorem lifted (os:Os)(started:os.Started)(H:Type)(enc:TypeId×Value->H):
  ReturnsInHanded {} Tryz.checked os 3 .any (λw args=>(Rows.fnFlatTextSpec.pre enc Tryz.prog Tryz.f3 Rows.fnFlatTextRow.domain false w args/\laidMetH Tryz.prog Rows.fnFlatTextRow.laid w)/\sizedMet enc Tryz.prog Tryz.f3 (OpenSpec.ofChange Rows.fnFlatTextSpec) false w args)
   (Rows.fnFlatTextSpec.post enc Tryz.prog Tryz.f3 false true false false):=by
 refine returnsInHanded_of_change_and (C:=Tryz.checked) (X:=λw _=>laidMetH Tryz.prog Rows.fnFlatTextRow.laid w) (λ_ _ _ hh h=>h.of_heap hh) aQ started cj Tryz.func3
  (ChangeSpec.witness_shaped (enc:=enc) (C:=Tryz.checked) (os:=os) (X:=λw _=>laidMetH Tryz.prog Rows.fnFlatTextRow.laid w) false (wit os) #[Lg.eM] 8 (World.layVars_os _ _ _)
    (World.shaped_of_ZipB cj cj) cj cj cj
    (by rw[MakeChecks.laidMetH_plain _ _ _ cj];exact acB os _)) ?_
 intro W base args ds gs before adU hW hc _ hL _;have ZY:∀(j:Nat) t v,Tryz.f3.params[j]?=some t->args[j]?=some v->Value.okWide Tryz.prog W .any base t v:=adU;have hW':=hW;obtain⟨p,q,hA0,hV,rfl,_,_⟩:=hW;have hA:DataW.TrodAll enc Tryz.prog W 0 (λ_=>true) true Tryz.f3.params.toList args.toList ds p:=hA0;rw[Tryz.params3] at hA ZY;obtain⟨v0,d0,rfl,rfl,h0⟩:=trodAll_one hA;obtain⟨_,_,_,_,d1,_,rfl,_⟩:=trodVars_one (show DataW.TrodVars enc Tryz.prog W (λ_=>true) ["loop.example/poolfiles/impl.opNames"] gs q from hV);obtain⟨q',hq'⟩:=Va (show DataW.TrodVars enc Tryz.prog W (λ_=>true) ["loop.example/poolfiles/impl.opNames"] [d1] q from hV);obtain⟨a0,len,cap,rfl⟩:=okWide_slice Tryz.underlying22 (ZY 0 22 v0 rfl rfl);obtain⟨fuel,hf⟩:=h0;clear hA0 adU;rcases open_ints Tryz.underlying22 Tryz.underlying5 x4 hf with⟨qm,hx⟩|⟨a,aoa,C7,zs,qm,_,hl,hm,hz,hx,qk,hwz⟩
 .simp[Value.cells] at qm;obtain⟨rfl,rfl,rfl⟩:=qm;simp only[cw] at hx;obtain⟨rfl,rfl⟩:=hx;refine(IC _ W ⟨NY hL,NZ hL⟩ (.inl rfl)).mono λe W' ⟨he,hg⟩=>?_
  subst he;exact⟨_,rfl,_,_,_,[],[],q',hW',trodAll_cons_mk (shut_bool Tryz.underlying4 _) trodAll_mk0,trodAll_mk1 (shut_slice_nil Tryz.underlying22),hq' W' hg _,Sl hg _,λh=>by cases h⟩
 .simp[Value.cells] at qm;obtain⟨rfl,rfl,rfl⟩:=qm;simp only[cw] at hx;obtain⟨rfl,rfl⟩:=hx;simp only[if_true] at hz;obtain⟨ab,ao,asp⟩:=a;have gd:Value.okWide Tryz.prog W .any base 22 (.slice (some ⟨ab,ao,asp⟩) len cap):=ZY 0 22 _ rfl rfl;simp only[Value.okWide,Tryz.underlying22,Cell.okWide,Cell.ok] at gd;obtain⟨_,_,_,Z0,_⟩:=gd;have Z0:asp=none:=Z0;subst Z0;have hlz:len<=zs.length:=by rw[hz];exact hl
  refine(IC _ W ⟨NY hL,NZ hL⟩ (.inr ⟨ab,ao,len,cap,zs,rfl,hlz,hl,Nat.lt_of_le_of_lt hm bT,hwz,qk⟩)).mono λe W' ⟨he,hg⟩=>?_
  subst he;have Z1:∀i,i<zs.length->W'.cell? ((⟨ab,ao,none⟩:Addr).add i)=some (.int .u8 (zs.getD i 0)):=λi hi=>cell_of hg (qk i hi)
  have again:∀sp:Nat->Bool,(∀p∈MemPlace.row ⟨ab,ao,none⟩ zs.length,sp p.block=true)->DataW.TrodAll enc Tryz.prog W' 0 sp true [22] [.slice (some ⟨ab,ao,none⟩) len cap] [.slice (lits .u8 (zs.take len)) (lits .u8 (zs.drop len))] (MemPlace.row ⟨ab,ao,none⟩ zs.length):=by
   intro sp hsp;by_cases z6:zs.length=0
   .have hc0:cap=0:=by omega
    (have Vn:len=0:=by omega);subst hc0;subst Vn;have t0:=shut_ints (enc:=enc) (w:=W') (base:=0) (spare:=sp) (held:=true) (a:=⟨ab,ao,none⟩) (len:=0) (cap:=0) (zs:=zs) 0 Tryz.underlying22 Tryz.underlying5 x4 (iK _) (cC _) hm (by simp[z6]) Z1 hwz;exact trodAll_mk1 ⟨2,by simpa[Value.cells] using t0⟩
   .have am4:sp ab=true:=by
     have:=hsp (.cell ab ao) (MemPlace.mem_row.2 ⟨0,af,ay⟩);exact this
    have t0:=shut_ints (enc:=enc) (w:=W') (base:=0) (spare:=sp) (held:=true) (a:=⟨ab,ao,none⟩) (len:=len) (cap:=cap) (zs:=zs) 0 Tryz.underlying22 Tryz.underlying5 x4 (iK _) hl hm (by simp[am4,hz]) Z1 hwz;exact trodAll_mk1 ⟨2,by simpa[Value.cells] using t0⟩
  refine⟨_,rfl,_,_,_,[],MemPlace.row ⟨ab,ao,none⟩ zs.length,q',hW',trodAll_cons_mk (shut_bool Tryz.underlying4 _) trodAll_mk0,again _ (λp hp=>?_),hq' W' hg _,Sl hg _,λh=>by cases h⟩;simpa using hW'.lt p (cA _ hp)
theorem over:Rows.fnFlatTextRow.holds Tryz.pinned (OpenSpec.ofChange Rows.fnFlatTextSpec):=
 OpenClaim.holds_of_wide 3 Tryz.f3 rfl rfl rfl rfl rfl rfl rfl ⟨rfl,rfl,rfl,rfl,rfl⟩ rfl rfl rfl rfl rfl cj Tryz.func3 agk
  (Bf cj) (by unfold Func.isWrapper;first|(rw[if_pos (by decide+kernel)];kernel_rfl)|(rw[if_neg (by decide+kernel)];exact⟨rfl,rfl⟩))
  (λos started H enc _=>lifted os started H enc)
theorem proved:Rows.FnFlatTextSaid:=over
theorem card_proved:Rows.FnFlatTextCardSaid:=
 Claim7.holds_tied_plain_at .later [] [.data,.data,.data,.data,.sentinel,.sentinel,.mapped,.pinned] true (true,"6f34d0c143eb297cbbadaae8a0a227962e571dda9ad92f4fd886eb09c96d71c8") true
  proved (λ_ h=>by cases h) cj (λ_ h=>by cases h) fnFlatText_row_tie rfl ⟨rfl,rfl⟩ cj rfl
  (λf fn hf Ll=>by
   obtain rfl:f=3:=iU ((show Tryz.prog.funcNamed "loop.example/poolfiles/laws.FnFlatText" =some 3 by kernel_rfl).symm.trans hf)|>.symm;obtain rfl:fn=Tryz.f3:=(iU (Tryz.func3.symm.trans Ll)).symm;exact⟨by kernel_rfl,λj t ht=>by
    rw[Tryz.params3] at ht;cases j with
    |zero=>
     simp at ht;subst ht
     kernel_rfl
    |succ j=>simp at ht⟩)
  cj
end
end Go.Proofs.YtoiielhpadnflaaGreatDoor
