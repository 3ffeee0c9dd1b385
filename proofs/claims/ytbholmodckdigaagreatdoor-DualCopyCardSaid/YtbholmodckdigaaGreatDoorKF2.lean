/- Closed facts, by the kernel. -/
import Derived.Test.YtbholmodckdigaaGreatDoorRows
import Derived.JoinedOf
import Derived.ProofKit
import Derived.KernelRfl
namespace Go.Proofs.YtbholmodckdigaaGreatDoor
open Go
set_option maxRecDepth 100000
theorem O':(mapsRowed Tryz.prog)=true:=by kernel_rfl
theorem Pp:((Rows.dualCopyRow.stops==[]))=true:=by kernel_rfl
theorem Ps:((Tryz.prog.stopKnobs==[]))=true:=by kernel_rfl
theorem O1:((Rows.dualCopyRow.recurses==Tryz.prog.recurses 3))=true:=by kernel_rfl
theorem O4:((Rows.dualCopyRow.ifaces==(Tryz.f3.params.toList++Rows.dualCopySpec.plain.varTypes Tryz.prog).any (Tryz.prog.ifacesRec ·)))=true:=by kernel_rfl
theorem O7:((Rows.dualCopyRow.wideKeys==(Tryz.f3.params.toList++Rows.dualCopySpec.plain.varTypes Tryz.prog++Tryz.f3.resultTypes.toList).any (Tryz.prog.wideKeysFrom ·)))=true:=by kernel_rfl
theorem Pa:((Rows.dualCopyRow.ifacesOut==Tryz.f3.resultTypes.toList.any (Tryz.prog.ifacesRec ·)))=true:=by kernel_rfl
theorem Pd:(Rows.dualCopyRow.shortTexts.isNone)=true:=by kernel_rfl
theorem Pg:((Rows.dualCopyRow.lifted==Tryz.prog.liftsFinal))=true:=by kernel_rfl
theorem Pk:((Rows.dualCopyRow.pinned==Rows.dualCopyRow.pinnedBy))=true:=by kernel_rfl
end Go.Proofs.YtbholmodckdigaaGreatDoor
