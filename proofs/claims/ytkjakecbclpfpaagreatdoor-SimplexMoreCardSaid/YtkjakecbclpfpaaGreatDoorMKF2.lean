/- Closed facts, by the kernel. -/
import Derived.Test.YtkjakecbclpfpaaGreatDoorRows
import Derived.JoinedOf
import Derived.ProofKit
import Derived.KernelRfl
namespace Go.Proofs.YtkjakecbclpfpaaGreatDoor
open Go
set_option maxRecDepth 100000
theorem Xm:(mapsRowed Tryz.prog)=true:=by kernel_rfl
theorem XB:((Rows.simplexMoreRow.stops==[]))=true:=by kernel_rfl
theorem XE:((Tryz.prog.stopKnobs==[]))=true:=by kernel_rfl
theorem Xd:((Rows.simplexMoreRow.recurses==Tryz.prog.recurses 3))=true:=by kernel_rfl
theorem Xg:((Rows.simplexMoreRow.ifaces==(Tryz.f3.params.toList++Rows.simplexMoreSpec.plain.varTypes Tryz.prog).any (Tryz.prog.ifacesRec ·)))=true:=by kernel_rfl
theorem Xj:((Rows.simplexMoreRow.wideKeys==(Tryz.f3.params.toList++Rows.simplexMoreSpec.plain.varTypes Tryz.prog++Tryz.f3.resultTypes.toList).any (Tryz.prog.wideKeysFrom ·)))=true:=by kernel_rfl
theorem Xn:((Rows.simplexMoreRow.ifacesOut==Tryz.f3.resultTypes.toList.any (Tryz.prog.ifacesRec ·)))=true:=by kernel_rfl
theorem Xq:(Rows.simplexMoreRow.shortTexts.isNone)=true:=by kernel_rfl
theorem Xt:((Rows.simplexMoreRow.lifted==Tryz.prog.liftsFinal))=true:=by kernel_rfl
theorem Xw:((Rows.simplexMoreRow.pinned==Rows.simplexMoreRow.pinnedBy))=true:=by kernel_rfl
end Go.Proofs.YtkjakecbclpfpaaGreatDoor
