/- Closed facts, by the kernel. -/
import Derived.Test.YtgklfcpppenojaaGreatDoorRows
import Derived.JoinedOf
import Derived.ProofKit
import Derived.KernelRfl
namespace Go.Proofs.YtgklfcpppenojaaGreatDoor
open Go
set_option maxRecDepth 100000
theorem jx:(Rows.dualSameRow.wf (OpenSpec.ofChange Rows.dualSameSpec))=true:=by kernel_rfl
theorem Fa:(Tryz.f3.params.all (Tryz.prog.readableRec ·))=true:=by kernel_rfl
theorem NY:((Tryz.prog.stops==[]))=true:=by kernel_rfl
theorem NZ:((Rows.dualSameRow.inPlace==Tryz.prog.inPlace 3))=true:=by kernel_rfl
theorem awD:((Rows.dualSameRow.named==Tryz.prog.varsNamed 3))=true:=by kernel_rfl
theorem awE:((Rows.dualSameRow.mapsOut==Tryz.prog.mapsAmong Tryz.f3.resultTypes.toList))=true:=by kernel_rfl
theorem awF:(Rows.dualSameSpec.vars.all (Tryz.prog.varReadable ·))=true:=by kernel_rfl
theorem awG:((Rows.dualSameRow.loopsOut==Tryz.f3.resultTypes.toList.any (Tryz.prog.loopsFrom ·)))=true:=by kernel_rfl
theorem awH:(Tryz.prog.stopsHeard)=true:=by kernel_rfl
theorem awI:((Tryz.prog.make==some Rows.dualSameRow.make))=true:=by kernel_rfl
theorem awJ:((Rows.dualSameRow.veiled==(Tryz.f3.params.toList++Rows.dualSameSpec.plain.varTypes Tryz.prog++Tryz.f3.resultTypes.toList).any (Tryz.prog.veiledRec ·)))=true:=by kernel_rfl
end Go.Proofs.YtgklfcpppenojaaGreatDoor
