/- The law FnFlatIds returns true for every input: the row and its tied card. No condition beyond the card's own. -/
import Derived.Test.YtjaeddbblleomaaGreatDoorRows
import Derived.JoinedOf
import Derived.KernelRfl
import Derived.Test.YtjaeddbblleomaaGreatDoorCards
import Derived.Test.YtjaeddbblleomaaGreatDoorTie
import Derived.WalkKit
import Derived.ProofKit
import Derived.OpenShut
import Derived.LaidMore
import Derived.Lay
import Derived.SevenTiedAt
import Derived.Stop.Joined
import Derived.Test.YtjaeddbblleomaaGreatDoorAf10
set_option maxRecDepth 100000
set_option maxHeartbeats 4000000
set_option linter.unusedVariables false
set_option linter.unusedSimpArgs false
open Go.Proofs.Tryz
namespace Go.Proofs.YtjaeddbblleomaaGreatDoor
open Go
theorem both {a b:Bool}(h:a=true)(k:b=true):(a&&b)=true:=by rw[h,k];rfl
theorem jf0:(λ(P:Program) (f:FuncId) (fn:Func) (s:ChangeSpec) (c:OpenClaim)=>(c.wf (OpenSpec.ofChange s):Bool)) Tryz.prog 3 Tryz.f3 Rows.fnFlatIdsSpec Rows.fnFlatIdsRow=true:=by kernel_rfl
theorem jf1:(λ(P:Program) (f:FuncId) (fn:Func) (s:ChangeSpec) (c:OpenClaim)=>(laidOutB P:Bool)) Tryz.prog 3 Tryz.f3 Rows.fnFlatIdsSpec Rows.fnFlatIdsRow=true:=by kernel_rfl
theorem jf2:(λ(P:Program) (f:FuncId) (fn:Func) (s:ChangeSpec) (c:OpenClaim)=>(mapsRowed P:Bool)) Tryz.prog 3 Tryz.f3 Rows.fnFlatIdsSpec Rows.fnFlatIdsRow=true:=by kernel_rfl
theorem jf3:(λ(P:Program) (f:FuncId) (fn:Func) (s:ChangeSpec) (c:OpenClaim)=>(fn.params.all (P.readableRec ·):Bool)) Tryz.prog 3 Tryz.f3 Rows.fnFlatIdsSpec Rows.fnFlatIdsRow=true:=by kernel_rfl
theorem jf4:(λ(P:Program) (f:FuncId) (fn:Func) (s:ChangeSpec) (c:OpenClaim)=>(namedTie P c.named s.vars:Bool)) Tryz.prog 3 Tryz.f3 Rows.fnFlatIdsSpec Rows.fnFlatIdsRow=true:=by kernel_rfl
theorem jf5:(λ(P:Program) (f:FuncId) (fn:Func) (s:ChangeSpec) (c:OpenClaim)=>((c.stops== []):Bool)) Tryz.prog 3 Tryz.f3 Rows.fnFlatIdsSpec Rows.fnFlatIdsRow=true:=by kernel_rfl
theorem jf6:(λ(P:Program) (f:FuncId) (fn:Func) (s:ChangeSpec) (c:OpenClaim)=>((P.stops== []):Bool)) Tryz.prog 3 Tryz.f3 Rows.fnFlatIdsSpec Rows.fnFlatIdsRow=true:=by kernel_rfl
theorem jf7:(λ(P:Program) (f:FuncId) (fn:Func) (s:ChangeSpec) (c:OpenClaim)=>((c.knobs== []):Bool)) Tryz.prog 3 Tryz.f3 Rows.fnFlatIdsSpec Rows.fnFlatIdsRow=true:=by kernel_rfl
theorem jf8:(λ(P:Program) (f:FuncId) (fn:Func) (s:ChangeSpec) (c:OpenClaim)=>((P.stopKnobs== []):Bool)) Tryz.prog 3 Tryz.f3 Rows.fnFlatIdsSpec Rows.fnFlatIdsRow=true:=by kernel_rfl
theorem jf9:(λ(P:Program) (f:FuncId) (fn:Func) (s:ChangeSpec) (c:OpenClaim)=>((c.inPlace== P.inPlace f):Bool)) Tryz.prog 3 Tryz.f3 Rows.fnFlatIdsSpec Rows.fnFlatIdsRow=true:=by kernel_rfl
theorem jf10:(λ(P:Program) (f:FuncId) (fn:Func) (s:ChangeSpec) (c:OpenClaim)=>((c.unfollowed== P.unfollowed f):Bool)) Tryz.prog 3 Tryz.f3 Rows.fnFlatIdsSpec Rows.fnFlatIdsRow=true:=by kernel_rfl
theorem jf11:(λ(P:Program) (f:FuncId) (fn:Func) (s:ChangeSpec) (c:OpenClaim)=>((c.recurses== P.recurses f):Bool)) Tryz.prog 3 Tryz.f3 Rows.fnFlatIdsSpec Rows.fnFlatIdsRow=true:=by kernel_rfl
theorem jf12:(λ(P:Program) (f:FuncId) (fn:Func) (s:ChangeSpec) (c:OpenClaim)=>((c.named== P.varsNamed f):Bool)) Tryz.prog 3 Tryz.f3 Rows.fnFlatIdsSpec Rows.fnFlatIdsRow=true:=by kernel_rfl
theorem jf13:(λ(P:Program) (f:FuncId) (fn:Func) (s:ChangeSpec) (c:OpenClaim)=>((c.maps== (fn.params.toList++s.plain.varTypes P).any (P.mapsRec ·)):Bool)) Tryz.prog 3 Tryz.f3 Rows.fnFlatIdsSpec Rows.fnFlatIdsRow=true:=by kernel_rfl
theorem jf14:(λ(P:Program) (f:FuncId) (fn:Func) (s:ChangeSpec) (c:OpenClaim)=>((c.ifaces== (fn.params.toList++s.plain.varTypes P).any (P.ifacesRec ·)):Bool)) Tryz.prog 3 Tryz.f3 Rows.fnFlatIdsSpec Rows.fnFlatIdsRow=true:=by kernel_rfl
theorem jf15:(λ(P:Program) (f:FuncId) (fn:Func) (s:ChangeSpec) (c:OpenClaim)=>((c.mapsOut== P.mapsAmong fn.resultTypes.toList):Bool)) Tryz.prog 3 Tryz.f3 Rows.fnFlatIdsSpec Rows.fnFlatIdsRow=true:=by kernel_rfl
theorem jf16:(λ(P:Program) (f:FuncId) (fn:Func) (s:ChangeSpec) (c:OpenClaim)=>((c.loops== (fn.params.toList++s.plain.varTypes P).any (P.loopsFrom ·)):Bool)) Tryz.prog 3 Tryz.f3 Rows.fnFlatIdsSpec Rows.fnFlatIdsRow=true:=by kernel_rfl
theorem jf17:(λ(P:Program) (f:FuncId) (fn:Func) (s:ChangeSpec) (c:OpenClaim)=>((c.wideKeys== (fn.params.toList++s.plain.varTypes P++fn.resultTypes.toList).any (P.wideKeysFrom ·)):Bool)) Tryz.prog 3 Tryz.f3 Rows.fnFlatIdsSpec Rows.fnFlatIdsRow=true:=by kernel_rfl
theorem jf18:(λ(P:Program) (f:FuncId) (fn:Func) (s:ChangeSpec) (c:OpenClaim)=>(s.vars.all (P.varReadable ·):Bool)) Tryz.prog 3 Tryz.f3 Rows.fnFlatIdsSpec Rows.fnFlatIdsRow=true:=by kernel_rfl
theorem jf19:(λ(P:Program) (f:FuncId) (fn:Func) (s:ChangeSpec) (c:OpenClaim)=>(fn.resultTypes.all (λt=>P.readableRec t&&decide (t<P.types.size)):Bool)) Tryz.prog 3 Tryz.f3 Rows.fnFlatIdsSpec Rows.fnFlatIdsRow=true:=by kernel_rfl
theorem jf20:(λ(P:Program) (f:FuncId) (fn:Func) (s:ChangeSpec) (c:OpenClaim)=>((c.ifacesOut== fn.resultTypes.toList.any (P.ifacesRec ·)):Bool)) Tryz.prog 3 Tryz.f3 Rows.fnFlatIdsSpec Rows.fnFlatIdsRow=true:=by kernel_rfl
theorem jf21:(λ(P:Program) (f:FuncId) (fn:Func) (s:ChangeSpec) (c:OpenClaim)=>((c.loopsOut== fn.resultTypes.toList.any (P.loopsFrom ·)):Bool)) Tryz.prog 3 Tryz.f3 Rows.fnFlatIdsSpec Rows.fnFlatIdsRow=true:=by kernel_rfl
theorem jf22:(λ(P:Program) (f:FuncId) (fn:Func) (s:ChangeSpec) (c:OpenClaim)=>((c.plainKeys== P.plainKeys):Bool)) Tryz.prog 3 Tryz.f3 Rows.fnFlatIdsSpec Rows.fnFlatIdsRow=true:=by kernel_rfl
theorem jf23:(λ(P:Program) (f:FuncId) (fn:Func) (s:ChangeSpec) (c:OpenClaim)=>(c.shortTexts.isNone:Bool)) Tryz.prog 3 Tryz.f3 Rows.fnFlatIdsSpec Rows.fnFlatIdsRow=true:=by kernel_rfl
theorem jf24:(λ(P:Program) (f:FuncId) (fn:Func) (s:ChangeSpec) (c:OpenClaim)=>(P.stopsHeard:Bool)) Tryz.prog 3 Tryz.f3 Rows.fnFlatIdsSpec Rows.fnFlatIdsRow=true:=by kernel_rfl
theorem jf25:(λ(P:Program) (f:FuncId) (fn:Func) (s:ChangeSpec) (c:OpenClaim)=>(P.mayEnter:Bool)) Tryz.prog 3 Tryz.f3 Rows.fnFlatIdsSpec Rows.fnFlatIdsRow=true:=by kernel_rfl
theorem jf26:(λ(P:Program) (f:FuncId) (fn:Func) (s:ChangeSpec) (c:OpenClaim)=>((c.lifted== P.liftsFinal):Bool)) Tryz.prog 3 Tryz.f3 Rows.fnFlatIdsSpec Rows.fnFlatIdsRow=true:=by kernel_rfl
theorem jf27:(λ(P:Program) (f:FuncId) (fn:Func) (s:ChangeSpec) (c:OpenClaim)=>((P.make== some c.make):Bool)) Tryz.prog 3 Tryz.f3 Rows.fnFlatIdsSpec Rows.fnFlatIdsRow=true:=by kernel_rfl
theorem jf28:(λ(P:Program) (f:FuncId) (fn:Func) (s:ChangeSpec) (c:OpenClaim)=>((c.kinds== (if c.domain.isEmpty then [] else fn.params.toList.map λt=>match P.underlying t with|some (.int k)=>some k|_=>none)):Bool)) Tryz.prog 3 Tryz.f3 Rows.fnFlatIdsSpec Rows.fnFlatIdsRow=true:=by kernel_rfl
theorem jf29:(λ(P:Program) (f:FuncId) (fn:Func) (s:ChangeSpec) (c:OpenClaim)=>((c.pinned== c.pinnedBy):Bool)) Tryz.prog 3 Tryz.f3 Rows.fnFlatIdsSpec Rows.fnFlatIdsRow=true:=by kernel_rfl
theorem jf30:(λ(P:Program) (f:FuncId) (fn:Func) (s:ChangeSpec) (c:OpenClaim)=>((c.veiled== (fn.params.toList++s.plain.varTypes P++fn.resultTypes.toList).any (P.veiledRec ·)):Bool)) Tryz.prog 3 Tryz.f3 Rows.fnFlatIdsSpec Rows.fnFlatIdsRow=true:=by kernel_rfl
theorem jf31:(λ(P:Program) (f:FuncId) (fn:Func) (s:ChangeSpec) (c:OpenClaim)=>(c.veiledFits P fn.params.toList (fn.params.toList++s.plain.varTypes P++fn.resultTypes.toList):Bool)) Tryz.prog 3 Tryz.f3 Rows.fnFlatIdsSpec Rows.fnFlatIdsRow=true:=by kernel_rfl
end Go.Proofs.YtjaeddbblleomaaGreatDoor
