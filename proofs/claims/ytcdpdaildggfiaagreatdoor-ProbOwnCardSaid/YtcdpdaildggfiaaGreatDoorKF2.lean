/- Closed facts, by the kernel. -/
import Derived.Test.YtcdpdaildggfiaaGreatDoorRows
import Derived.JoinedOf
import Derived.ProofKit
import Derived.KernelRfl
namespace Go.Proofs.YtcdpdaildggfiaaGreatDoor
open Go
set_option maxRecDepth 100000
theorem O':(mapsRowed Tryz.prog)=true:=by kernel_rfl
theorem Pp:((Rows.probOwnRow.stops==[]))=true:=by kernel_rfl
theorem Ps:((Tryz.prog.stopKnobs==[]))=true:=by kernel_rfl
theorem O1:((Rows.probOwnRow.recurses==Tryz.prog.recurses 3))=true:=by kernel_rfl
theorem O4:((Rows.probOwnRow.ifaces==(Tryz.f3.params.toList++Rows.probOwnSpec.plain.varTypes Tryz.prog).any (Tryz.prog.ifacesRec ·)))=true:=by kernel_rfl
theorem O7:((Rows.probOwnRow.wideKeys==(Tryz.f3.params.toList++Rows.probOwnSpec.plain.varTypes Tryz.prog++Tryz.f3.resultTypes.toList).any (Tryz.prog.wideKeysFrom ·)))=true:=by kernel_rfl
theorem Pa:((Rows.probOwnRow.ifacesOut==Tryz.f3.resultTypes.toList.any (Tryz.prog.ifacesRec ·)))=true:=by kernel_rfl
theorem Pd:(Rows.probOwnRow.shortTexts.isNone)=true:=by kernel_rfl
theorem Pg:((Rows.probOwnRow.lifted==Tryz.prog.liftsFinal))=true:=by kernel_rfl
theorem Pk:((Rows.probOwnRow.pinned==Rows.probOwnRow.pinnedBy))=true:=by kernel_rfl
end Go.Proofs.YtcdpdaildggfiaaGreatDoor
