/- Closed facts, by the kernel. -/
import Derived.Test.YtkjakecbclpfpaaGreatDoorRows
import Derived.JoinedOf
import Derived.ProofKit
import Derived.KernelRfl
namespace Go.Proofs.YtkjakecbclpfpaaGreatDoor
open Go
set_option maxRecDepth 100000
theorem Xb:(Rows.simplexMoreRow.wf (OpenSpec.ofChange Rows.simplexMoreSpec))=true:=by kernel_rfl
theorem Xx:(Tryz.f3.params.all (Tryz.prog.readableRec ·))=true:=by kernel_rfl
theorem XC:((Tryz.prog.stops==[]))=true:=by kernel_rfl
theorem XF:((Rows.simplexMoreRow.inPlace==Tryz.prog.inPlace 3))=true:=by kernel_rfl
theorem Xe:((Rows.simplexMoreRow.named==Tryz.prog.varsNamed 3))=true:=by kernel_rfl
theorem Xh:((Rows.simplexMoreRow.mapsOut==Tryz.prog.mapsAmong Tryz.f3.resultTypes.toList))=true:=by kernel_rfl
theorem Xk:(Rows.simplexMoreSpec.vars.all (Tryz.prog.varReadable ·))=true:=by kernel_rfl
theorem Xo:((Rows.simplexMoreRow.loopsOut==Tryz.f3.resultTypes.toList.any (Tryz.prog.loopsFrom ·)))=true:=by kernel_rfl
theorem Xr:(Tryz.prog.stopsHeard)=true:=by kernel_rfl
theorem Xu:((Tryz.prog.make==some Rows.simplexMoreRow.make))=true:=by kernel_rfl
theorem Xy:((Rows.simplexMoreRow.veiled==(Tryz.f3.params.toList++Rows.simplexMoreSpec.plain.varTypes Tryz.prog++Tryz.f3.resultTypes.toList).any (Tryz.prog.veiledRec ·)))=true:=by kernel_rfl
end Go.Proofs.YtkjakecbclpfpaaGreatDoor
