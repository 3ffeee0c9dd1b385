/- Closed facts, by the kernel. -/
import Derived.Test.YthegokeehgnmhaaGreatDoorRows
import Derived.JoinedOf
import Derived.ProofKit
import Derived.KernelRfl
namespace Go.Proofs.YthegokeehgnmhaaGreatDoor
open Go
set_option maxRecDepth 100000
theorem zw:(mapsRowed Tryz.prog)=true:=by kernel_rfl
theorem awS:((Rows.simplexTurnRow.stops==[]))=true:=by kernel_rfl
theorem awT:((Tryz.prog.stopKnobs==[]))=true:=by kernel_rfl
theorem awU:((Rows.simplexTurnRow.recurses==Tryz.prog.recurses 3))=true:=by kernel_rfl
theorem awV:((Rows.simplexTurnRow.ifaces==(Tryz.f3.params.toList++Rows.simplexTurnSpec.plain.varTypes Tryz.prog).any (Tryz.prog.ifacesRec ·)))=true:=by kernel_rfl
theorem awW:((Rows.simplexTurnRow.wideKeys==(Tryz.f3.params.toList++Rows.simplexTurnSpec.plain.varTypes Tryz.prog++Tryz.f3.resultTypes.toList).any (Tryz.prog.wideKeysFrom ·)))=true:=by kernel_rfl
theorem awX:((Rows.simplexTurnRow.ifacesOut==Tryz.f3.resultTypes.toList.any (Tryz.prog.ifacesRec ·)))=true:=by kernel_rfl
theorem awY:(Rows.simplexTurnRow.shortTexts.isNone)=true:=by kernel_rfl
theorem awZ:((Rows.simplexTurnRow.lifted==Tryz.prog.liftsFinal))=true:=by kernel_rfl
theorem aw0:((Rows.simplexTurnRow.pinned==Rows.simplexTurnRow.pinnedBy))=true:=by kernel_rfl
end Go.Proofs.YthegokeehgnmhaaGreatDoor
