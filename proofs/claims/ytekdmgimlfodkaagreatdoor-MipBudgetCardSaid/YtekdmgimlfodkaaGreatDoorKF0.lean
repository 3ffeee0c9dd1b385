/- Closed facts, by the kernel. -/
import Derived.Test.YtekdmgimlfodkaaGreatDoorRows
import Derived.JoinedOf
import Derived.ProofKit
import Derived.KernelRfl
namespace Go.Proofs.YtekdmgimlfodkaaGreatDoor
open Go
set_option maxRecDepth 100000
theorem jx:(Rows.mipBudgetRow.wf (OpenSpec.ofChange Rows.mipBudgetSpec))=true:=by kernel_rfl
theorem Fa:(Tryz.f3.params.all (Tryz.prog.readableRec ·))=true:=by kernel_rfl
theorem NY:((Tryz.prog.stops==[]))=true:=by kernel_rfl
theorem NZ:((Rows.mipBudgetRow.inPlace==Tryz.prog.inPlace 3))=true:=by kernel_rfl
theorem awD:((Rows.mipBudgetRow.named==Tryz.prog.varsNamed 3))=true:=by kernel_rfl
theorem awE:((Rows.mipBudgetRow.mapsOut==Tryz.prog.mapsAmong Tryz.f3.resultTypes.toList))=true:=by kernel_rfl
theorem awF:(Rows.mipBudgetSpec.vars.all (Tryz.prog.varReadable ·))=true:=by kernel_rfl
theorem awG:((Rows.mipBudgetRow.loopsOut==Tryz.f3.resultTypes.toList.any (Tryz.prog.loopsFrom ·)))=true:=by kernel_rfl
theorem awH:(Tryz.prog.stopsHeard)=true:=by kernel_rfl
theorem awI:((Tryz.prog.make==some Rows.mipBudgetRow.make))=true:=by kernel_rfl
theorem awJ:((Rows.mipBudgetRow.veiled==(Tryz.f3.params.toList++Rows.mipBudgetSpec.plain.varTypes Tryz.prog++Tryz.f3.resultTypes.toList).any (Tryz.prog.veiledRec ·)))=true:=by kernel_rfl
end Go.Proofs.YtekdmgimlfodkaaGreatDoor
