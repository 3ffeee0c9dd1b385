/- Closed facts, by the kernel. -/
import Derived.Test.YtpkkkofoeplceaaGreatDoorRows
import Derived.JoinedOf
import Derived.ProofKit
import Derived.KernelRfl
namespace Go.Proofs.YtpkkkofoeplceaaGreatDoor
open Go
set_option maxRecDepth 100000
theorem Xb:(Rows.mipRelaxRow.wf (OpenSpec.ofChange Rows.mipRelaxSpec))=true:=by kernel_rfl
theorem Xx:(Tryz.f3.params.all (Tryz.prog.readableRec ·))=true:=by kernel_rfl
theorem XC:((Tryz.prog.stops==[]))=true:=by kernel_rfl
theorem XF:((Rows.mipRelaxRow.inPlace==Tryz.prog.inPlace 3))=true:=by kernel_rfl
theorem Xe:((Rows.mipRelaxRow.named==Tryz.prog.varsNamed 3))=true:=by kernel_rfl
theorem Xh:((Rows.mipRelaxRow.mapsOut==Tryz.prog.mapsAmong Tryz.f3.resultTypes.toList))=true:=by kernel_rfl
theorem Xk:(Rows.mipRelaxSpec.vars.all (Tryz.prog.varReadable ·))=true:=by kernel_rfl
theorem Xo:((Rows.mipRelaxRow.loopsOut==Tryz.f3.resultTypes.toList.any (Tryz.prog.loopsFrom ·)))=true:=by kernel_rfl
theorem Xr:(Tryz.prog.stopsHeard)=true:=by kernel_rfl
theorem Xu:((Tryz.prog.make==some Rows.mipRelaxRow.make))=true:=by kernel_rfl
theorem Xy:((Rows.mipRelaxRow.veiled==(Tryz.f3.params.toList++Rows.mipRelaxSpec.plain.varTypes Tryz.prog++Tryz.f3.resultTypes.toList).any (Tryz.prog.veiledRec ·)))=true:=by kernel_rfl
end Go.Proofs.YtpkkkofoeplceaaGreatDoor
