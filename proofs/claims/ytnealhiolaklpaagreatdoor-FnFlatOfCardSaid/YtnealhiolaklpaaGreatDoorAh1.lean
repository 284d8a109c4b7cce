/- The law FnFlatOf returns true for every input: the row and its tied card. No condition beyond the card's own. -/
import Derived.Test.YtnealhiolaklpaaGreatDoorRows
import Derived.JoinedOf
import Derived.Test.YtnealhiolaklpaaGreatDoorProg
import Derived.Test.YtnealhiolaklpaaGreatDoorAa1
set_option maxRecDepth 100000
set_option maxHeartbeats 4000000
set_option linter.all false
open Go.Proofs.Tryz
namespace Go.Proofs.YtnealhiolaklpaaGreatDoor
open Go
theorem both {a b:Bool}(h:a=true)(k:b=true):(a&&b)=true:=by rw[h,k];rfl
noncomputable abbrev Jf (g:Program->FuncId->Func->ChangeSpec->OpenClaim->Bool):Bool:=g Tryz.prog 3 Tryz.f3 Rows.fnFlatOfSpec Rows.fnFlatOfRow
theorem jf0:Jf (λP f fn s c=>c.wf (OpenSpec.ofChange s))=true:=by kernel_rfl
theorem jf1:Jf (λP f fn s c=>laidOutB P)=true:=by kernel_rfl
theorem jf2:Jf (λP f fn s c=>mapsRowed P)=true:=by kernel_rfl
theorem jf3:Jf (λP f fn s c=>fn.params.all (P.readableRec ·))=true:=by kernel_rfl
theorem jf4:Jf (λP f fn s c=>namedTie P c.named s.vars)=true:=by kernel_rfl
theorem jf5:Jf (λP f fn s c=>(c.stops== []))=true:=by kernel_rfl
theorem jf6:Jf (λP f fn s c=>(P.stops== []))=true:=by kernel_rfl
theorem jf7:Jf (λP f fn s c=>(c.knobs== []))=true:=by kernel_rfl
theorem jf8:Jf (λP f fn s c=>(P.stopKnobs== []))=true:=by kernel_rfl
theorem jf9:Jf (λP f fn s c=>(c.inPlace== P.inPlace f))=true:=by kernel_rfl
theorem ajr:Jf (λP f fn s c=>(c.unfollowed== P.unfollowed f))=true:=by kernel_rfl
theorem ajs:Jf (λP f fn s c=>(c.recurses== P.recurses f))=true:=by kernel_rfl
theorem ajt:Jf (λP f fn s c=>(c.named== P.varsNamed f))=true:=by kernel_rfl
theorem aju:Jf (λP f fn s c=>(c.maps== (fn.params.toList++s.plain.varTypes P).any (P.mapsRec ·)))=true:=by kernel_rfl
theorem ajv:Jf (λP f fn s c=>(c.ifaces== (fn.params.toList++s.plain.varTypes P).any (P.ifacesRec ·)))=true:=by kernel_rfl
theorem ajw:Jf (λP f fn s c=>(c.mapsOut== P.mapsAmong fn.resultTypes.toList))=true:=by kernel_rfl
theorem ajx:Jf (λP f fn s c=>(c.loops== (fn.params.toList++s.plain.varTypes P).any (P.loopsFrom ·)))=true:=by kernel_rfl
theorem ajy:Jf (λP f fn s c=>(c.wideKeys== (fn.params.toList++s.plain.varTypes P++fn.resultTypes.toList).any (P.wideKeysFrom ·)))=true:=by kernel_rfl
theorem ajz:Jf (λP f fn s c=>s.vars.all (P.varReadable ·))=true:=by kernel_rfl
theorem ajA:Jf (λP f fn s c=>fn.resultTypes.all (λt=>P.readableRec t&&decide (t<P.types.size)))=true:=by kernel_rfl
theorem ajB:Jf (λP f fn s c=>(c.ifacesOut== fn.resultTypes.toList.any (P.ifacesRec ·)))=true:=by kernel_rfl
theorem ajC:Jf (λP f fn s c=>(c.loopsOut== fn.resultTypes.toList.any (P.loopsFrom ·)))=true:=by kernel_rfl
theorem ajD:Jf (λP f fn s c=>(c.plainKeys== P.plainKeys))=true:=by kernel_rfl
theorem ajE:Jf (λP f fn s c=>c.shortTexts.isNone)=true:=by kernel_rfl
theorem ajF:Jf (λP f fn s c=>P.stopsHeard)=true:=by kernel_rfl
theorem ajG:Jf (λP f fn s c=>P.mayEnter)=true:=by kernel_rfl
theorem ajH:Jf (λP f fn s c=>(c.lifted== P.liftsFinal))=true:=by kernel_rfl
theorem ajI:Jf (λP f fn s c=>(P.make== some c.make))=true:=by kernel_rfl
theorem ajJ:Jf (λP f fn s c=>(c.kinds== (if c.domain.isEmpty then [] else fn.params.toList.map λt=>match P.underlying t with|some (.int k)=>some k|_=>none)))=true:=by kernel_rfl
theorem ajK:Jf (λP f fn s c=>(c.pinned== c.pinnedBy))=true:=by kernel_rfl
theorem ajL:Jf (λP f fn s c=>(c.veiled== (fn.params.toList++s.plain.varTypes P++fn.resultTypes.toList).any (P.veiledRec ·)))=true:=by kernel_rfl
theorem ajM:Jf (λP f fn s c=>c.veiledFits P fn.params.toList (fn.params.toList++s.plain.varTypes P++fn.resultTypes.toList))=true:=by kernel_rfl
theorem aeQ:joinedFacts Tryz.prog 3 Tryz.f3 Rows.fnFlatOfSpec Rows.fnFlatOfRow=true:=by unfold joinedFacts;exact(both (both (both (both (both (both (both (both (both (both (both (both (both (both (both (both (both (both (both (both (both (both (both (both (both (both (both (both (both (both (both jf0 jf1) jf2) jf3) jf4) jf5) jf6) jf7) jf8) jf9) ajr) ajs) ajt) aju) ajv) ajw) ajx) ajy) ajz) ajA) ajB) ajC) ajD) ajE) ajF) ajG) ajH) ajI) ajJ) ajK) ajL) ajM)
end Go.Proofs.YtnealhiolaklpaaGreatDoor
namespace Go.Proofs.YtnealhiolaklpaaGreatDoor
open Go.ChangeShapes Go.WideShapes Go.ChangeAt Go.RowKit Go.Ev
end Go.Proofs.YtnealhiolaklpaaGreatDoor
