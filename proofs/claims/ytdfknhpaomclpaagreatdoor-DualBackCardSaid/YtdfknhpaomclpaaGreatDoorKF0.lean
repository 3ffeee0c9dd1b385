/- Closed facts, by the kernel. -/
import Derived.Test.YtdfknhpaomclpaaGreatDoorRows
import Derived.JoinedOf
import Derived.ProofKit
import Derived.KernelRfl
namespace Go.Proofs.YtdfknhpaomclpaaGreatDoor
open Go
set_option maxRecDepth 100000
theorem jx:(Rows.dualBackRow.wf (OpenSpec.ofChange Rows.dualBackSpec))=true:=by kernel_rfl
theorem Fa:(Tryz.f3.params.all (Tryz.prog.readableRec ·))=true:=by kernel_rfl
theorem NY:((Tryz.prog.stops==[]))=true:=by kernel_rfl
theorem NZ:((Rows.dualBackRow.inPlace==Tryz.prog.inPlace 3))=true:=by kernel_rfl
theorem awD:((Rows.dualBackRow.named==Tryz.prog.varsNamed 3))=true:=by kernel_rfl
theorem awE:((Rows.dualBackRow.mapsOut==Tryz.prog.mapsAmong Tryz.f3.resultTypes.toList))=true:=by kernel_rfl
theorem awF:(Rows.dualBackSpec.vars.all (Tryz.prog.varReadable ·))=true:=by kernel_rfl
theorem awG:((Rows.dualBackRow.loopsOut==Tryz.f3.resultTypes.toList.any (Tryz.prog.loopsFrom ·)))=true:=by kernel_rfl
theorem awH:(Tryz.prog.stopsHeard)=true:=by kernel_rfl
theorem awI:((Tryz.prog.make==some Rows.dualBackRow.make))=true:=by kernel_rfl
theorem awJ:((Rows.dualBackRow.veiled==(Tryz.f3.params.toList++Rows.dualBackSpec.plain.varTypes Tryz.prog++Tryz.f3.resultTypes.toList).any (Tryz.prog.veiledRec ·)))=true:=by kernel_rfl
end Go.Proofs.YtdfknhpaomclpaaGreatDoor
