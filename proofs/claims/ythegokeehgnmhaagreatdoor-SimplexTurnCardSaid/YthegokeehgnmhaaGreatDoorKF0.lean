/- Closed facts, by the kernel. -/
import Derived.Test.YthegokeehgnmhaaGreatDoorRows
import Derived.JoinedOf
import Derived.ProofKit
import Derived.KernelRfl
namespace Go.Proofs.YthegokeehgnmhaaGreatDoor
open Go
set_option maxRecDepth 100000
theorem jx:(Rows.simplexTurnRow.wf (OpenSpec.ofChange Rows.simplexTurnSpec))=true:=by kernel_rfl
theorem Fa:(Tryz.f3.params.all (Tryz.prog.readableRec ·))=true:=by kernel_rfl
theorem NY:((Tryz.prog.stops==[]))=true:=by kernel_rfl
theorem NZ:((Rows.simplexTurnRow.inPlace==Tryz.prog.inPlace 3))=true:=by kernel_rfl
theorem awD:((Rows.simplexTurnRow.named==Tryz.prog.varsNamed 3))=true:=by kernel_rfl
theorem awE:((Rows.simplexTurnRow.mapsOut==Tryz.prog.mapsAmong Tryz.f3.resultTypes.toList))=true:=by kernel_rfl
theorem awF:(Rows.simplexTurnSpec.vars.all (Tryz.prog.varReadable ·))=true:=by kernel_rfl
theorem awG:((Rows.simplexTurnRow.loopsOut==Tryz.f3.resultTypes.toList.any (Tryz.prog.loopsFrom ·)))=true:=by kernel_rfl
theorem awH:(Tryz.prog.stopsHeard)=true:=by kernel_rfl
theorem awI:((Tryz.prog.make==some Rows.simplexTurnRow.make))=true:=by kernel_rfl
theorem awJ:((Rows.simplexTurnRow.veiled==(Tryz.f3.params.toList++Rows.simplexTurnSpec.plain.varTypes Tryz.prog++Tryz.f3.resultTypes.toList).any (Tryz.prog.veiledRec ·)))=true:=by kernel_rfl
end Go.Proofs.YthegokeehgnmhaaGreatDoor
