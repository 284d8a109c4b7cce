/- The law FnFlatOf returns true for every input: the row and its tied card. No condition beyond the card's own. -/
import Derived.Test.YtnealhiolaklpaaGreatDoorCards
import Derived.Test.YtnealhiolaklpaaGreatDoorTie
import Derived.ProofKit
import Derived.OpenShut
import Derived.LaidMore
import Derived.LaidSub
import Derived.Lay
import Derived.SevenTiedAt
import Derived.Stop.Joined
import Derived.Stop.LaidErr
import Derived.Test.YtnealhiolaklpaaGreatDoorAg4
import Derived.Test.YtnealhiolaklpaaGreatDoorAh1
set_option maxRecDepth 100000
set_option maxHeartbeats 4000000
set_option linter.all false
open Go.Proofs.Tryz
namespace Go.Proofs.YtnealhiolaklpaaGreatDoor
open Go.ChangeShapes Go.WideShapes Go.ChangeAt Go.RowKit Go.Ev
section
variable {w' W:World}
theorem aU:ownKnob Tryz.prog.godebug=none:=by kernel_rfl
theorem uK:Tryz.prog.cellsOf 5=1:=by kernel_rfl
theorem SY {w w':World}(h:Fr w w' λ_=>False)(may:MemPlace->Prop):w.keptBut w' may:=by refine⟨h.os,h.output,λi hi=>?_⟩;rw[h.block i hi λx=>x];exact(World.keptBut_refl w may).2.2 i hi
theorem cell_of {w w':World}(h:Fr w w' λ_=>False){a:Addr}{v:Value}(ha:w.cell? a=some v):w'.cell? a=some v:=by
 have c:a.block<w.heap.size:=by rcases jc a.block w.heap.size with b|b;exact b;unfold World.cell? at ha;rw[KP b] at ha;simp at ha
 unfold World.cell? at ha⊢;rw[h.block a.block c λx=>x];exact ha
theorem IF {n:String}{g:Nat}{cs:Array Value}(a:Tryz.prog.globalNamed n=some g)(hv:W.var? Tryz.prog n=some cs):∃t fr,W.heap[g]?=some (.cells cs t fr):=by
 unfold World.var? at hv;rw[a] at hv;change(match W.heap[g]? with
  |some (.cells cs _ _)=>some cs
  |_=>none)=some cs at hv
 split at hv;cases hv;exact⟨_,_,‹_›⟩;cases hv
theorem OK (h:laidMetH Tryz.prog Rows.fnFlatOfRow.laid W):∃t fr,W.heap[5]?=some (.cells ⟨kb⟩ t fr):=by
 have h:=laidMetH.filter (λx=>x.1== "internal/strconv.uint64pow10") h;have e:Rows.fnFlatOfRow.laid.filter (λx=>x.1== "internal/strconv.uint64pow10")=[("internal/strconv.uint64pow10",Rows.laid_internal_strconv_uint64pow10)]:=by kernel_rfl
 rw[e,MakeChecks.laidMetH_plain _ _ _ bV] at h;obtain⟨ps,⟨g,t,cs,fuel,p,q,i,ht,hv,hd,_,w⟩,_,v⟩:=h;have d:Tryz.prog.globalNamed "internal/strconv.uint64pow10" =some 5:=by kernel_rfl
 obtain rfl:=dM (d.symm.trans i);obtain rfl:=dM ((show(Tryz.prog.globals[5]?).map (·.type)=some 320 by kernel_rfl).symm.trans ht);obtain⟨xs,m,_,ex,cg,hl,c⟩:=DataW.trod_array Tryz.underlying320 hd;have k:Tryz.prog.cellsOf 254=1:=by kernel_rfl
 have c20:Tryz.prog.cellsOf 320=20:=by kernel_rfl
 rw[c20] at cg;have a:cs.toList=kb:=by
  apply Gt;intro r;by_cases hr:r<20;have f:=c r hr;rw[k,sh,c8 aa] at f;obtain⟨z,l,o,_⟩:=DataW.trod_int Tryz.underlying254 f;(have h0:((cs.toList.drop r).take 1)[0]?=some (.int .u64 z):=by rw[l];rfl);(have u:cs.toList[r]?=some (.int .u64 z):=by simpa using h0);(have s:(xs.map (·.1))=G8.map λn=>(.lit (.int .u64 (.ofNat n)):DataW Unit):=(DataW.agg.inj (Prod.mk.inj ex).1).symm);(have b:(xs.map (·.1))[r]?=(G8.map λn=>(.lit (.int .u64 (.ofNat n)):DataW Unit))[r]?:=by rw[s]);rw[mP,mP,c8 (by omega:r<xs.length),o] at b;rw[u,show kb[r]?=(G8[r]?).map λn=>Value.int .u64 (.ofNat n) from mP ..];cases j:G8[r]? with
  |none=>rw[j] at b;cases b
  |some n=>rw[j] at b;simp only[tC,o4,DataW.lit.injEq,Lit.int.injEq,tQ] at b;rw[b];rfl
  rw[mQ (by simpa using(by omega:cs.toList.length<=r)),mQ (by have:kb.length=20:=rfl;omega)]
 obtain⟨t,fr,hb⟩:=IF i hv;obtain⟨cs⟩:=cs;have a:cs=kb:=a;subst a;exact⟨t,fr,hb⟩
theorem star: "*" ++ "errors.errorString" = "*errors.errorString" :=by decide
theorem aeR (u:TypeId)(h:Tryz.prog.typeName? 3 u=some "*errors.errorString"):u=312:=
 typeName_ptr_named (nm:= "errors.errorString") (by rw[star];kernel_rfl) bV cx u (by rw[star];exact h)
theorem OL (h:laidMetH Tryz.prog Rows.fnFlatOfRow.laid W):∃t fr tp q o,W.heap[1]?=some (.cells ⟨[.iface tp (.pointer (some ⟨q,o,none⟩))]⟩ t fr):=by
 have h:=laidMetH.filter (λx=>x.1== "strconv.ErrSyntax") h;have e:Rows.fnFlatOfRow.laid.filter (λx=>x.1== "strconv.ErrSyntax")=[("strconv.ErrSyntax",Rows.laid_strconv_ErrSyntax)]:=by kernel_rfl
 rw[e,MakeChecks.laidMetH_plain _ _ _ bV] at h;have d:Tryz.prog.globalNamed "strconv.ErrSyntax" =some 1:=by kernel_rfl
 have c:Tryz.prog.cellsOf 314=1:=by kernel_rfl
 have f:Tryz.prog.cellsOf 9=1:=by kernel_rfl
 obtain⟨a,s,hv,hc,_,_⟩:=laid_sentinel h d (show(Tryz.prog.globals[1]?).map (·.type)=some 116 by kernel_rfl) Tryz.underlying116 aeR Tryz.underlying312 Tryz.underlying314 rfl rfl Tryz.underlying9 c f;obtain⟨b,o,sp⟩:=a;obtain rfl:sp=none:=by
  unfold World.cell? at hc;split at hc;cases sp with
  |none=>rfl
  |some k=>simp at hc
  cases hc
 obtain⟨t,fr,hb⟩:=IF d hv;exact⟨t,fr,312,b,o,hb⟩
theorem IG (v':Value)(w:World)(i:ag9 w)(hv:acs w v'):Calls Tryz.prog 3 #[v'] w λe w'=>e= .returned (.bool true)/\Fr w w' λ_=>False:=by
 rcases ajq (λs a code c d b f=>Pl.Rg s a code c d b f) w v' i hv with⟨v,w',h,_⟩|⟨g,xs,w',h,hc⟩;have b:=(Tryz.call3 #[v'] w).symm.trans h;cases b;have b:=(Tryz.call3 #[v'] w).symm.trans h;cases b;refine hc.mono λe k j=>?_
 obtain⟨v,rfl,rfl,hf⟩:=j;exact⟨rfl,hf⟩
theorem lifted (os:Os)(started:os.Started)(Z:Type)(enc:TypeId×Value->Z):
  ReturnsInHanded {} Tryz.checked os 3 .any (λw args=>(Rows.fnFlatOfSpec.pre enc Tryz.prog Tryz.f3 Rows.fnFlatOfRow.domain false w args/\laidMetH Tryz.prog Rows.fnFlatOfRow.laid w)/\sizedMet enc Tryz.prog Tryz.f3 (OpenSpec.ofChange Rows.fnFlatOfSpec) false w args)
   (Rows.fnFlatOfSpec.post enc Tryz.prog Tryz.f3 false true false false):=by
 refine returnsInHanded_of_change_and (C:=Tryz.checked) (X:=λw _=>laidMetH Tryz.prog Rows.fnFlatOfRow.laid w) (λ_ _ _ hh h=>h.of_heap hh) aU started bV Tryz.func3
  (ChangeSpec.witness_shaped (enc:=enc) (C:=Tryz.checked) (os:=os) (X:=λw _=>laidMetH Tryz.prog Rows.fnFlatOfRow.laid w) false (World.laidAll Tryz.prog os Rows.fnFlatOfRow.laid) #[Lg.ew] 8 (World.laidAll_os _ _ _)
    (World.shaped_of_ZipB bV bV) bV bV bV
    (by rw[MakeChecks.laidMetH_plain _ _ _ bV];exact laidMet_laidAll _ bV bV)) ?_
 intro W base args V gs before l S hc _ A _;have k:∀(j:Nat) t v,Tryz.f3.params[j]?=some t->args[j]?=some v->Value.okWide Tryz.prog W .any base t v:=l;have n:=S;obtain⟨p,q,u,hV,rfl,_,_⟩:=S;have R:DataW.TrodAll enc Tryz.prog W 0 (λ_=>true) true Tryz.f3.params.toList args.toList V p:=u;rw[Tryz.params3] at R k;obtain⟨v0,d0,rfl,rfl,h0⟩:=trodAll_one R;obtain⟨rfl,rfl⟩:=trodVars_none hV;simp only[fT] at n;obtain⟨a0,len,cap,rfl⟩:=okWide_slice Tryz.underlying22 (k 0 22 v0 rfl rfl);obtain⟨fuel,hf⟩:=h0;clear u l;rcases open_ints Tryz.underlying22 Tryz.underlying5 uK hf with⟨g,z⟩|⟨a,T,Q,zs,g,_,hl,hm,L,z,f,o⟩;simp[Value.cells] at g;obtain⟨rfl,rfl,rfl⟩:=g;simp only[cu] at z;obtain⟨rfl,rfl⟩:=z;refine(IG _ W ⟨OK A,OL A⟩ (.inl rfl)).mono λe r ⟨E,B⟩=>?_;subst E;exact⟨_,rfl,_,_,_,[],[],[],n,trodAll_cons_mk (shut_bool Tryz.underlying4 _) trodAll_mk0,trodAll_mk1 (shut_slice_nil Tryz.underlying22),rfl,SY B _,λh=>by cases h⟩
 simp[Value.cells] at g;obtain⟨rfl,rfl,rfl⟩:=g;simp only[cu] at z;obtain⟨rfl,rfl⟩:=z;simp only[iO] at L;obtain⟨d,m,s⟩:=a;have x:Value.okWide Tryz.prog W .any base 22 (.slice (some ⟨d,m,s⟩) len cap):=k 0 22 _ rfl rfl;simp only[Value.okWide,Tryz.underlying22,Cell.okWide,Cell.ok] at x;obtain⟨_,_,_,b,_⟩:=x;have b:s=none:=b;subst b;have G:len<=zs.length:=by rw[L];exact hl
 refine(IG _ W ⟨OK A,OL A⟩ (.inr ⟨d,m,len,cap,zs,rfl,G,hl,Nat.lt_of_le_of_lt hm cx,o,f⟩)).mono λe r ⟨E,B⟩=>?_;subst E;have c:∀i,i<zs.length->r.cell? ((⟨d,m,none⟩:Addr).add i)=some (.int .u8 (zs.getD i 0)):=λi hi=>cell_of B (f i hi);have again:∀sp:Nat->Bool,(∀p∈MemPlace.row ⟨d,m,none⟩ zs.length,sp p.block=true)->DataW.TrodAll enc Tryz.prog r 0 sp true [22] [.slice (some ⟨d,m,none⟩) len cap] [.slice (lits .u8 (zs.take len)) (lits .u8 (zs.drop len))] (MemPlace.row ⟨d,m,none⟩ zs.length):=by
  intro sp K;by_cases N:zs.length=0;(have D:cap=0:=by omega);(have F:len=0:=by omega);subst D;subst F;have t0:=shut_ints (enc:=enc) (w:=r) (base:=0) (spare:=sp) (held:=true) (a:=⟨d,m,none⟩) (len:=0) (cap:=0) (zs:=zs) 0 Tryz.underlying22 Tryz.underlying5 uK (jl _) (fG _) hm (by simp[N]) c o;exact trodAll_mk1 ⟨2,by simpa[Value.cells] using t0⟩;have y:sp d=true:=by have:=K (.cell d m) (MemPlace.mem_row.2 ⟨0,aa,aq⟩);exact this
  have t0:=shut_ints (enc:=enc) (w:=r) (base:=0) (spare:=sp) (held:=true) (a:=⟨d,m,none⟩) (len:=len) (cap:=cap) (zs:=zs) 0 Tryz.underlying22 Tryz.underlying5 uK (jl _) hl hm (by simp[y,L]) c o;exact trodAll_mk1 ⟨2,by simpa[Value.cells] using t0⟩
 refine⟨_,rfl,_,_,_,[],MemPlace.row ⟨d,m,none⟩ zs.length,[],n,trodAll_cons_mk (shut_bool Tryz.underlying4 _) trodAll_mk0,again _ (λp hp=>?_),rfl,SY B _,λh=>by cases h⟩;simpa using n.lt p hp
theorem over:Rows.fnFlatOfRow.holds Tryz.pinned (OpenSpec.ofChange Rows.fnFlatOfSpec):=
 OpenClaim.holds_of_wide 3 Tryz.f3 rfl rfl rfl rfl rfl rfl rfl ⟨rfl,rfl,rfl,rfl,rfl⟩ rfl rfl rfl rfl rfl bV Tryz.func3 aeQ
  (vR bV) (by unfold Func.isWrapper;first|(rw[ai (by decide+kernel)];kernel_rfl)|(rw[af (by decide+kernel)];exact⟨rfl,rfl⟩))
  (λos started Z enc _=>lifted os started Z enc)
theorem proved:Rows.FnFlatOfSaid:=over
theorem card_proved:Rows.FnFlatOfCardSaid:=
 Claim7.holds_tied_plain_at .later [] [.data,.data,.data,.data,.sentinel,.sentinel,.pinned] true (true,"c9c750be2b694f7e6abe6fe1f875d5b2d0dc5f6c3675463813edd16936ddae6b") true
  proved (λ_ h=>by cases h) bV (λ_ h=>by cases h) fnFlatOf_row_tie rfl ⟨rfl,rfl⟩ bV rfl
  (λf fn hf a=>by
   obtain rfl:f=3:=dM ((show Tryz.prog.funcNamed "loop.example/poolfiles/laws.FnFlatOf" =some 3 by kernel_rfl).symm.trans hf)|>.symm;obtain rfl:fn=Tryz.f3:=(dM (Tryz.func3.symm.trans a)).symm;exact⟨by kernel_rfl,λj t ht=>by
    rw[Tryz.params3] at ht;cases j with
    |zero=>simp at ht;subst ht;kernel_rfl
    |succ j=>simp at ht⟩)
  bV
end
end Go.Proofs.YtnealhiolaklpaaGreatDoor
