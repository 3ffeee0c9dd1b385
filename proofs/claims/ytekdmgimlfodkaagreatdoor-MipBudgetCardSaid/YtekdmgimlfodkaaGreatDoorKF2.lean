/- Closed facts, by the kernel. -/
import Derived.Test.YtekdmgimlfodkaaGreatDoorRows
import Derived.JoinedOf
import Derived.ProofKit
import Derived.KernelRfl
namespace Go.Proofs.YtekdmgimlfodkaaGreatDoor
open Go
set_option maxRecDepth 100000
theorem zw:(mapsRowed Tryz.prog)=true:=by kernel_rfl
theorem awS:((Rows.mipBudgetRow.stops==[]))=true:=by kernel_rfl
theorem awT:((Tryz.prog.stopKnobs==[]))=true:=by kernel_rfl
theorem awU:((Rows.mipBudgetRow.recurses==Tryz.prog.recurses 3))=true:=by kernel_rfl
theorem awV:((Rows.mipBudgetRow.ifaces==(Tryz.f3.params.toList++Rows.mipBudgetSpec.plain.varTypes Tryz.prog).any (Tryz.prog.ifacesRec ·)))=true:=by kernel_rfl
theorem awW:((Rows.mipBudgetRow.wideKeys==(Tryz.f3.params.toList++Rows.mipBudgetSpec.plain.varTypes Tryz.prog++Tryz.f3.resultTypes.toList).any (Tryz.prog.wideKeysFrom ·)))=true:=by kernel_rfl
theorem awX:((Rows.mipBudgetRow.ifacesOut==Tryz.f3.resultTypes.toList.any (Tryz.prog.ifacesRec ·)))=true:=by kernel_rfl
theorem awY:(Rows.mipBudgetRow.shortTexts.isNone)=true:=by kernel_rfl
theorem awZ:((Rows.mipBudgetRow.lifted==Tryz.prog.liftsFinal))=true:=by kernel_rfl
theorem aw0:((Rows.mipBudgetRow.pinned==Rows.mipBudgetRow.pinnedBy))=true:=by kernel_rfl
end Go.Proofs.YtekdmgimlfodkaaGreatDoor
