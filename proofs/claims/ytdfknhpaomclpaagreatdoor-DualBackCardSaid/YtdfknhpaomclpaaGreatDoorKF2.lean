/- Closed facts, by the kernel. -/
import Derived.Test.YtdfknhpaomclpaaGreatDoorRows
import Derived.JoinedOf
import Derived.ProofKit
import Derived.KernelRfl
namespace Go.Proofs.YtdfknhpaomclpaaGreatDoor
open Go
set_option maxRecDepth 100000
theorem zw:(mapsRowed Tryz.prog)=true:=by kernel_rfl
theorem awS:((Rows.dualBackRow.stops==[]))=true:=by kernel_rfl
theorem awT:((Tryz.prog.stopKnobs==[]))=true:=by kernel_rfl
theorem awU:((Rows.dualBackRow.recurses==Tryz.prog.recurses 3))=true:=by kernel_rfl
theorem awV:((Rows.dualBackRow.ifaces==(Tryz.f3.params.toList++Rows.dualBackSpec.plain.varTypes Tryz.prog).any (Tryz.prog.ifacesRec ·)))=true:=by kernel_rfl
theorem awW:((Rows.dualBackRow.wideKeys==(Tryz.f3.params.toList++Rows.dualBackSpec.plain.varTypes Tryz.prog++Tryz.f3.resultTypes.toList).any (Tryz.prog.wideKeysFrom ·)))=true:=by kernel_rfl
theorem awX:((Rows.dualBackRow.ifacesOut==Tryz.f3.resultTypes.toList.any (Tryz.prog.ifacesRec ·)))=true:=by kernel_rfl
theorem awY:(Rows.dualBackRow.shortTexts.isNone)=true:=by kernel_rfl
theorem awZ:((Rows.dualBackRow.lifted==Tryz.prog.liftsFinal))=true:=by kernel_rfl
theorem aw0:((Rows.dualBackRow.pinned==Rows.dualBackRow.pinnedBy))=true:=by kernel_rfl
end Go.Proofs.YtdfknhpaomclpaaGreatDoor
