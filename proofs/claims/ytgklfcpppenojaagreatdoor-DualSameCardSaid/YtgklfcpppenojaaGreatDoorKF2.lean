/- Closed facts, by the kernel. -/
import Derived.Test.YtgklfcpppenojaaGreatDoorRows
import Derived.JoinedOf
import Derived.ProofKit
import Derived.KernelRfl
namespace Go.Proofs.YtgklfcpppenojaaGreatDoor
open Go
set_option maxRecDepth 100000
theorem zw:(mapsRowed Tryz.prog)=true:=by kernel_rfl
theorem awS:((Rows.dualSameRow.stops==[]))=true:=by kernel_rfl
theorem awT:((Tryz.prog.stopKnobs==[]))=true:=by kernel_rfl
theorem awU:((Rows.dualSameRow.recurses==Tryz.prog.recurses 3))=true:=by kernel_rfl
theorem awV:((Rows.dualSameRow.ifaces==(Tryz.f3.params.toList++Rows.dualSameSpec.plain.varTypes Tryz.prog).any (Tryz.prog.ifacesRec ·)))=true:=by kernel_rfl
theorem awW:((Rows.dualSameRow.wideKeys==(Tryz.f3.params.toList++Rows.dualSameSpec.plain.varTypes Tryz.prog++Tryz.f3.resultTypes.toList).any (Tryz.prog.wideKeysFrom ·)))=true:=by kernel_rfl
theorem awX:((Rows.dualSameRow.ifacesOut==Tryz.f3.resultTypes.toList.any (Tryz.prog.ifacesRec ·)))=true:=by kernel_rfl
theorem awY:(Rows.dualSameRow.shortTexts.isNone)=true:=by kernel_rfl
theorem awZ:((Rows.dualSameRow.lifted==Tryz.prog.liftsFinal))=true:=by kernel_rfl
theorem aw0:((Rows.dualSameRow.pinned==Rows.dualSameRow.pinnedBy))=true:=by kernel_rfl
end Go.Proofs.YtgklfcpppenojaaGreatDoor
