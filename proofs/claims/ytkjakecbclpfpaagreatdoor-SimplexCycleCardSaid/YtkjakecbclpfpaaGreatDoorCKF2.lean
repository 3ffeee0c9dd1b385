/- Closed facts, by the kernel. -/
import Derived.Test.YtkjakecbclpfpaaGreatDoorRows
import Derived.JoinedOf
import Derived.ProofKit
import Derived.KernelRfl
namespace Go.Proofs.YtkjakecbclpfpaaGreatDoor
open Go
set_option maxRecDepth 100000
theorem Xm:(mapsRowed Tryz.prog)=true:=by kernel_rfl
theorem XB:((Rows.simplexCycleRow.stops==[]))=true:=by kernel_rfl
theorem XE:((Tryz.prog.stopKnobs==[]))=true:=by kernel_rfl
theorem Xd:((Rows.simplexCycleRow.recurses==Tryz.prog.recurses 4))=true:=by kernel_rfl
theorem Xg:((Rows.simplexCycleRow.ifaces==(Tryz.f4.params.toList++Rows.simplexCycleSpec.plain.varTypes Tryz.prog).any (Tryz.prog.ifacesRec ·)))=true:=by kernel_rfl
theorem Xj:((Rows.simplexCycleRow.wideKeys==(Tryz.f4.params.toList++Rows.simplexCycleSpec.plain.varTypes Tryz.prog++Tryz.f4.resultTypes.toList).any (Tryz.prog.wideKeysFrom ·)))=true:=by kernel_rfl
theorem Xn:((Rows.simplexCycleRow.ifacesOut==Tryz.f4.resultTypes.toList.any (Tryz.prog.ifacesRec ·)))=true:=by kernel_rfl
theorem Xq:(Rows.simplexCycleRow.shortTexts.isNone)=true:=by kernel_rfl
theorem Xt:((Rows.simplexCycleRow.lifted==Tryz.prog.liftsFinal))=true:=by kernel_rfl
theorem Xw:((Rows.simplexCycleRow.pinned==Rows.simplexCycleRow.pinnedBy))=true:=by kernel_rfl
end Go.Proofs.YtkjakecbclpfpaaGreatDoor
