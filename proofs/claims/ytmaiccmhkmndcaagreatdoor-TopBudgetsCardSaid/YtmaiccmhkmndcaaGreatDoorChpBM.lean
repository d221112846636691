/- A part of the proof: contracts of the functions that the statement reaches. -/
import Derived.Test.YtmaiccmhkmndcaaGreatDoorEngC
import Derived.Test.YtmaiccmhkmndcaaGreatDoorChpAA
import Derived.JoinedOf
import Derived.KernelRfl
import Derived.Test.YtmaiccmhkmndcaaGreatDoorRows
set_option linter.unusedSimpArgs false
set_option linter.unusedVariables false
set_option linter.unnecessarySimpa false
set_option maxRecDepth 100000
set_option maxHeartbeats 40000000
open Go.Proofs.Tryz renaming prog->af
namespace Go.Proofs.YtmaiccmhkmndcaaGreatDoor
open Go Go.Sg
theorem cf0:laidOutB af=true:=by kernel_rfl
theorem cf1:mapsRowed af=true:=by kernel_rfl
theorem cf2:(Rows.topBudgetsRow.inPlace==af.inPlace 3)=true:=by kernel_rfl
theorem cf3:(Rows.topBudgetsRow.unfollowed==af.unfollowed 3)=true:=by kernel_rfl
theorem cf4:(Rows.topBudgetsRow.recurses==af.recurses 3)=true:=by kernel_rfl
theorem cf5:(Rows.topBudgetsRow.named==af.varsNamed 3)=true:=by kernel_rfl
theorem cf6:af.stopsHeard=true:=by kernel_rfl
theorem cf7:af.mayEnter=true:=by kernel_rfl
theorem cf8:(Rows.topBudgetsRow.loops==(Tryz.f3.params.toList++Rows.topBudgetsSpec.plain.varTypes af).any (af.loopsFrom ·))=true:=by kernel_rfl
theorem cf:joinedFacts af 3 Tryz.f3 Rows.topBudgetsSpec Rows.topBudgetsRow=true:=by
 unfold joinedFacts;rw[cf0,cf1,cf2,cf3,cf4,cf5,cf6,cf7,cf8]
 kernel_rfl
end Go.Proofs.YtmaiccmhkmndcaaGreatDoor
