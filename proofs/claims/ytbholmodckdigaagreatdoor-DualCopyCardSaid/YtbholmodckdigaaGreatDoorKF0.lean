/- Closed facts, by the kernel. -/
import Derived.Test.YtbholmodckdigaaGreatDoorRows
import Derived.JoinedOf
import Derived.ProofKit
import Derived.KernelRfl
namespace Go.Proofs.YtbholmodckdigaaGreatDoor
open Go
set_option maxRecDepth 100000
theorem OZ:(Rows.dualCopyRow.wf (OpenSpec.ofChange Rows.dualCopySpec))=true:=by kernel_rfl
theorem Pl:(Tryz.f3.params.all (Tryz.prog.readableRec ·))=true:=by kernel_rfl
theorem Pq:((Tryz.prog.stops==[]))=true:=by kernel_rfl
theorem Pt:((Rows.dualCopyRow.inPlace==Tryz.prog.inPlace 3))=true:=by kernel_rfl
theorem O2:((Rows.dualCopyRow.named==Tryz.prog.varsNamed 3))=true:=by kernel_rfl
theorem O5:((Rows.dualCopyRow.mapsOut==Tryz.prog.mapsAmong Tryz.f3.resultTypes.toList))=true:=by kernel_rfl
theorem O8:(Rows.dualCopySpec.vars.all (Tryz.prog.varReadable ·))=true:=by kernel_rfl
theorem Pb:((Rows.dualCopyRow.loopsOut==Tryz.f3.resultTypes.toList.any (Tryz.prog.loopsFrom ·)))=true:=by kernel_rfl
theorem Pe:(Tryz.prog.stopsHeard)=true:=by kernel_rfl
theorem Ph:((Tryz.prog.make==some Rows.dualCopyRow.make))=true:=by kernel_rfl
theorem Pm:((Rows.dualCopyRow.veiled==(Tryz.f3.params.toList++Rows.dualCopySpec.plain.varTypes Tryz.prog++Tryz.f3.resultTypes.toList).any (Tryz.prog.veiledRec ·)))=true:=by kernel_rfl
end Go.Proofs.YtbholmodckdigaaGreatDoor
