/- The law FnFlatApart returns true for every input: the row and its tied card. No condition beyond the card's own. -/
import Derived.Test.YtajgfdfbnhchcaaGreatDoorRows
import Derived.JoinedOf
import Derived.KernelRfl
import Derived.Test.YtajgfdfbnhchcaaGreatDoorCards
import Derived.Test.YtajgfdfbnhchcaaGreatDoorTie
import Derived.WalkKit
import Derived.ProofKit
import Derived.OpenShut
import Derived.LaidMore
import Derived.Lay
import Derived.SevenTiedAt
import Derived.Stop.Joined
import Derived.Test.YtajgfdfbnhchcaaGreatDoorAf6
set_option maxRecDepth 100000
set_option maxHeartbeats 4000000
set_option linter.unusedVariables false
set_option linter.unusedSimpArgs false
open Go.Proofs.Tryz
namespace Go.Proofs.YtajgfdfbnhchcaaGreatDoor
open Go
theorem both {a b:Bool}(h:a=true)(k:b=true):(a&&b)=true:=by rw[h,k];rfl
noncomputable abbrev Jf (g:Program->FuncId->Func->ChangeSpec->OpenClaim->Bool):Bool:=g Tryz.prog 3 Tryz.f3 Rows.fnFlatApartSpec Rows.fnFlatApartRow
theorem jf0:Jf (λP f fn s c=>c.wf (OpenSpec.ofChange s))=true:=by kernel_rfl
theorem jf1:Jf (λP f fn s c=>laidOutB P)=true:=by kernel_rfl
theorem jf2:Jf (λP f fn s c=>mapsRowed P)=true:=by kernel_rfl
theorem jf3:Jf (λP f fn s c=>fn.params.all (P.readableRec ·))=true:=by kernel_rfl
theorem jf4:Jf (λP f fn s c=>namedTie P c.named s.vars)=true:=by kernel_rfl
theorem jf5:Jf (λP f fn s c=>(c.stops== []))=true:=by kernel_rfl
theorem jf6:Jf (λP f fn s c=>(P.stops== []))=true:=by kernel_rfl
theorem jf7:Jf (λP f fn s c=>(c.knobs== []))=true:=by kernel_rfl
theorem jf8:Jf (λP f fn s c=>(P.stopKnobs== []))=true:=by kernel_rfl
theorem jf9:Jf (λP f fn s c=>(c.inPlace== P.inPlace f))=true:=by kernel_rfl
theorem al8:Jf (λP f fn s c=>(c.unfollowed== P.unfollowed f))=true:=by kernel_rfl
theorem al9:Jf (λP f fn s c=>(c.recurses== P.recurses f))=true:=by kernel_rfl
theorem ama:Jf (λP f fn s c=>(c.named== P.varsNamed f))=true:=by kernel_rfl
theorem amb:Jf (λP f fn s c=>(c.maps== (fn.params.toList++s.plain.varTypes P).any (P.mapsRec ·)))=true:=by kernel_rfl
theorem amc:Jf (λP f fn s c=>(c.ifaces== (fn.params.toList++s.plain.varTypes P).any (P.ifacesRec ·)))=true:=by kernel_rfl
theorem amd:Jf (λP f fn s c=>(c.mapsOut== P.mapsAmong fn.resultTypes.toList))=true:=by kernel_rfl
theorem ame:Jf (λP f fn s c=>(c.loops== (fn.params.toList++s.plain.varTypes P).any (P.loopsFrom ·)))=true:=by kernel_rfl
theorem amf:Jf (λP f fn s c=>(c.wideKeys== (fn.params.toList++s.plain.varTypes P++fn.resultTypes.toList).any (P.wideKeysFrom ·)))=true:=by kernel_rfl
theorem amg:Jf (λP f fn s c=>s.vars.all (P.varReadable ·))=true:=by kernel_rfl
theorem amh:Jf (λP f fn s c=>fn.resultTypes.all (λt=>P.readableRec t&&decide (t<P.types.size)))=true:=by kernel_rfl
theorem ami:Jf (λP f fn s c=>(c.ifacesOut== fn.resultTypes.toList.any (P.ifacesRec ·)))=true:=by kernel_rfl
theorem amj:Jf (λP f fn s c=>(c.loopsOut== fn.resultTypes.toList.any (P.loopsFrom ·)))=true:=by kernel_rfl
theorem amk:Jf (λP f fn s c=>(c.plainKeys== P.plainKeys))=true:=by kernel_rfl
theorem aml:Jf (λP f fn s c=>c.shortTexts.isNone)=true:=by kernel_rfl
theorem amm:Jf (λP f fn s c=>P.stopsHeard)=true:=by kernel_rfl
theorem amn:Jf (λP f fn s c=>P.mayEnter)=true:=by kernel_rfl
theorem amo:Jf (λP f fn s c=>(c.lifted== P.liftsFinal))=true:=by kernel_rfl
theorem amp:Jf (λP f fn s c=>(P.make== some c.make))=true:=by kernel_rfl
theorem amq:Jf (λP f fn s c=>(c.kinds== (if c.domain.isEmpty then [] else fn.params.toList.map λt=>match P.underlying t with|some (.int k)=>some k|_=>none)))=true:=by kernel_rfl
theorem amr:Jf (λP f fn s c=>(c.pinned== c.pinnedBy))=true:=by kernel_rfl
theorem ams:Jf (λP f fn s c=>(c.veiled== (fn.params.toList++s.plain.varTypes P++fn.resultTypes.toList).any (P.veiledRec ·)))=true:=by kernel_rfl
theorem amt:Jf (λP f fn s c=>c.veiledFits P fn.params.toList (fn.params.toList++s.plain.varTypes P++fn.resultTypes.toList))=true:=by kernel_rfl
theorem afM:joinedFacts Tryz.prog 3 Tryz.f3 Rows.fnFlatApartSpec Rows.fnFlatApartRow=true:=by
 unfold joinedFacts;exact(both (both (both (both (both (both (both (both (both (both (both (both (both (both (both (both (both (both (both (both (both (both (both (both (both (both (both (both (both (both (both jf0 jf1) jf2) jf3) jf4) jf5) jf6) jf7) jf8) jf9) al8) al9) ama) amb) amc) amd) ame) amf) amg) amh) ami) amj) amk) aml) amm) amn) amo) amp) amq) amr) ams) amt)
end Go.Proofs.YtajgfdfbnhchcaaGreatDoor
namespace Go.Proofs.YtajgfdfbnhchcaaGreatDoor
open Go.ChangeShapes Go.WideShapes Go.ChangeAt Go.RowKit Go.Ev
end Go.Proofs.YtajgfdfbnhchcaaGreatDoor
