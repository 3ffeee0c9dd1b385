/- Closed facts, by the kernel. -/
import Derived.Test.YtcdpdaildggfiaaGreatDoorRows
import Derived.JoinedOf
import Derived.ProofKit
import Derived.KernelRfl
namespace Go.Proofs.YtcdpdaildggfiaaGreatDoor
open Go
set_option maxRecDepth 100000
theorem OZ:(Rows.probOwnRow.wf (OpenSpec.ofChange Rows.probOwnSpec))=true:=by kernel_rfl
theorem Pl:(Tryz.f3.params.all (Tryz.prog.readableRec ·))=true:=by kernel_rfl
theorem Pq:((Tryz.prog.stops==[]))=true:=by kernel_rfl
theorem Pt:((Rows.probOwnRow.inPlace==Tryz.prog.inPlace 3))=true:=by kernel_rfl
theorem O2:((Rows.probOwnRow.named==Tryz.prog.varsNamed 3))=true:=by kernel_rfl
theorem O5:((Rows.probOwnRow.mapsOut==Tryz.prog.mapsAmong Tryz.f3.resultTypes.toList))=true:=by kernel_rfl
theorem O8:(Rows.probOwnSpec.vars.all (Tryz.prog.varReadable ·))=true:=by kernel_rfl
theorem Pb:((Rows.probOwnRow.loopsOut==Tryz.f3.resultTypes.toList.any (Tryz.prog.loopsFrom ·)))=true:=by kernel_rfl
theorem Pe:(Tryz.prog.stopsHeard)=true:=by kernel_rfl
theorem Ph:((Tryz.prog.make==some Rows.probOwnRow.make))=true:=by kernel_rfl
theorem Pm:((Rows.probOwnRow.veiled==(Tryz.f3.params.toList++Rows.probOwnSpec.plain.varTypes Tryz.prog++Tryz.f3.resultTypes.toList).any (Tryz.prog.veiledRec ·)))=true:=by kernel_rfl
end Go.Proofs.YtcdpdaildggfiaaGreatDoor
