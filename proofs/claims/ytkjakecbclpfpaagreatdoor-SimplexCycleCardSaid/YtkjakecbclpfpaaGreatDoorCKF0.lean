/- Closed facts, by the kernel. -/
import Derived.Test.YtkjakecbclpfpaaGreatDoorRows
import Derived.JoinedOf
import Derived.ProofKit
import Derived.KernelRfl
namespace Go.Proofs.YtkjakecbclpfpaaGreatDoor
open Go
set_option maxRecDepth 100000
theorem Xb:(Rows.simplexCycleRow.wf (OpenSpec.ofChange Rows.simplexCycleSpec))=true:=by kernel_rfl
theorem Xx:(Tryz.f4.params.all (Tryz.prog.readableRec ·))=true:=by kernel_rfl
theorem XC:((Tryz.prog.stops==[]))=true:=by kernel_rfl
theorem XF:((Rows.simplexCycleRow.inPlace==Tryz.prog.inPlace 4))=true:=by kernel_rfl
theorem Xe:((Rows.simplexCycleRow.named==Tryz.prog.varsNamed 4))=true:=by kernel_rfl
theorem Xh:((Rows.simplexCycleRow.mapsOut==Tryz.prog.mapsAmong Tryz.f4.resultTypes.toList))=true:=by kernel_rfl
theorem Xk:(Rows.simplexCycleSpec.vars.all (Tryz.prog.varReadable ·))=true:=by kernel_rfl
theorem Xo:((Rows.simplexCycleRow.loopsOut==Tryz.f4.resultTypes.toList.any (Tryz.prog.loopsFrom ·)))=true:=by kernel_rfl
theorem Xr:(Tryz.prog.stopsHeard)=true:=by kernel_rfl
theorem Xu:((Tryz.prog.make==some Rows.simplexCycleRow.make))=true:=by kernel_rfl
theorem Xy:((Rows.simplexCycleRow.veiled==(Tryz.f4.params.toList++Rows.simplexCycleSpec.plain.varTypes Tryz.prog++Tryz.f4.resultTypes.toList).any (Tryz.prog.veiledRec ·)))=true:=by kernel_rfl
end Go.Proofs.YtkjakecbclpfpaaGreatDoor
