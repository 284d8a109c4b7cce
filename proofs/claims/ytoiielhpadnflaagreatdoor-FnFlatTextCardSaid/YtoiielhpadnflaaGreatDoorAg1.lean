/- Lemmas of the proof. No conditions. -/
import Derived.Test.YtoiielhpadnflaaGreatDoorRows
import Derived.JoinedOf
import Derived.KernelRfl
import Derived.Test.YtoiielhpadnflaaGreatDoorCards
import Derived.Test.YtoiielhpadnflaaGreatDoorTie
import Derived.WalkKit
import Derived.ProofKit
import Derived.OpenShut
import Derived.LaidMore
import Derived.Lay
import Derived.SevenTiedAt
import Derived.Stop.Joined
import Derived.ChangeMaps3
import Derived.Test.YtoiielhpadnflaaGreatDoorAf6
set_option maxRecDepth 100000
set_option maxHeartbeats 4000000
set_option linter.unusedVariables false
set_option linter.unusedSimpArgs false
open Go.Proofs.Tryz
namespace Go.Proofs.YtoiielhpadnflaaGreatDoor
open Go
theorem both {a b:Bool}(h:a=true)(k:b=true):(a&&b)=true:=by rw[h,k];rfl
noncomputable abbrev Jf (g:Program->FuncId->Func->ChangeSpec->OpenClaim->Bool):Bool:=g Tryz.prog 3 Tryz.f3 Rows.fnFlatTextSpec Rows.fnFlatTextRow
theorem jf0:Jf (λP f fn s c=>c.wf (OpenSpec.ofChange s))=true:=by kernel_rfl
theorem jf1:Jf (λP f fn s c=>laidOutB P)=true:=by kernel_rfl
theorem jf2:Jf (λP f fn s c=>mapsRowed P)=true:=by kernel_rfl
theorem jf3:Jf (λP f fn s c=>fn.params.all (P.readableRec ·))=true:=by kernel_rfl
theorem jf4:Jf (λP f fn s c=>namedTie P c.named s.vars)=true:=by kernel_rfl
theorem jf5:Jf (λP f fn s c=>(c.stops== []))=true:=by kernel_rfl
theorem jf6:Jf (λP f fn s c=>(P.stops== []))=true:=by kernel_rfl
theorem jf7:Jf (λP f fn s c=>(c.knobs== []))=true:=by kernel_rfl
theorem jf8:Jf (λP f fn s c=>(P.stopKnobs== []))=true:=by kernel_rfl
theorem jf9:Jf (λP f fn s c=>(c.inPlace== P.inPlace f))=true:=by kernel_rfl
theorem amI:Jf (λP f fn s c=>(c.unfollowed== P.unfollowed f))=true:=by kernel_rfl
theorem amJ:Jf (λP f fn s c=>(c.recurses== P.recurses f))=true:=by kernel_rfl
theorem amK:Jf (λP f fn s c=>(c.named== P.varsNamed f))=true:=by kernel_rfl
theorem amL:Jf (λP f fn s c=>(c.maps== (fn.params.toList++s.plain.varTypes P).any (P.mapsRec ·)))=true:=by kernel_rfl
theorem amM:Jf (λP f fn s c=>(c.ifaces== (fn.params.toList++s.plain.varTypes P).any (P.ifacesRec ·)))=true:=by kernel_rfl
theorem amN:Jf (λP f fn s c=>(c.mapsOut== P.mapsAmong fn.resultTypes.toList))=true:=by kernel_rfl
theorem amO:Jf (λP f fn s c=>(c.loops== (fn.params.toList++s.plain.varTypes P).any (P.loopsFrom ·)))=true:=by kernel_rfl
theorem amP:Jf (λP f fn s c=>(c.wideKeys== (fn.params.toList++s.plain.varTypes P++fn.resultTypes.toList).any (P.wideKeysFrom ·)))=true:=by kernel_rfl
theorem amQ:Jf (λP f fn s c=>s.vars.all (P.varReadable ·))=true:=by kernel_rfl
theorem amR:Jf (λP f fn s c=>fn.resultTypes.all (λt=>P.readableRec t&&decide (t<P.types.size)))=true:=by kernel_rfl
theorem amS:Jf (λP f fn s c=>(c.ifacesOut== fn.resultTypes.toList.any (P.ifacesRec ·)))=true:=by kernel_rfl
theorem amT:Jf (λP f fn s c=>(c.loopsOut== fn.resultTypes.toList.any (P.loopsFrom ·)))=true:=by kernel_rfl
theorem amU:Jf (λP f fn s c=>(c.plainKeys== P.plainKeys))=true:=by kernel_rfl
theorem amV:Jf (λP f fn s c=>c.shortTexts.isNone)=true:=by kernel_rfl
theorem amW:Jf (λP f fn s c=>P.stopsHeard)=true:=by kernel_rfl
theorem amX:Jf (λP f fn s c=>P.mayEnter)=true:=by kernel_rfl
theorem amY:Jf (λP f fn s c=>(c.lifted== P.liftsFinal))=true:=by kernel_rfl
theorem amZ:Jf (λP f fn s c=>(P.make== some c.make))=true:=by kernel_rfl
theorem am0:Jf (λP f fn s c=>(c.kinds== (if c.domain.isEmpty then [] else fn.params.toList.map λt=>match P.underlying t with|some (.int k)=>some k|_=>none)))=true:=by kernel_rfl
theorem am1:Jf (λP f fn s c=>(c.pinned== c.pinnedBy))=true:=by kernel_rfl
theorem am2:Jf (λP f fn s c=>(c.veiled== (fn.params.toList++s.plain.varTypes P++fn.resultTypes.toList).any (P.veiledRec ·)))=true:=by kernel_rfl
theorem am3:Jf (λP f fn s c=>c.veiledFits P fn.params.toList (fn.params.toList++s.plain.varTypes P++fn.resultTypes.toList))=true:=by kernel_rfl
theorem agk:joinedFacts Tryz.prog 3 Tryz.f3 Rows.fnFlatTextSpec Rows.fnFlatTextRow=true:=by unfold joinedFacts;exact(both (both (both (both (both (both (both (both (both (both (both (both (both (both (both (both (both (both (both (both (both (both (both (both (both (both (both (both (both (both (both jf0 jf1) jf2) jf3) jf4) jf5) jf6) jf7) jf8) jf9) amI) amJ) amK) amL) amM) amN) amO) amP) amQ) amR) amS) amT) amU) amV) amW) amX) amY) amZ) am0) am1) am2) am3)
end Go.Proofs.YtoiielhpadnflaaGreatDoor
namespace Go.Proofs.YtoiielhpadnflaaGreatDoor
open Go.ChangeShapes Go.WideShapes Go.ChangeAt Go.RowKit Go.Ev
end Go.Proofs.YtoiielhpadnflaaGreatDoor
