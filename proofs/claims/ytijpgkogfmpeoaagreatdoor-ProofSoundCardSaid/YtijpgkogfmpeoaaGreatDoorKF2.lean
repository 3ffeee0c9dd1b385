/- Closed facts, by the kernel. -/
import Derived.Test.YtijpgkogfmpeoaaGreatDoorRows
import Derived.JoinedOf
import Derived.ProofKit
import Derived.KernelRfl
namespace Go.Proofs.YtijpgkogfmpeoaaGreatDoor
open Go
set_option maxRecDepth 100000
theorem zw:(mapsRowed Tryz.prog)=true:=by kernel_rfl
theorem awS:((Rows.proofSoundRow.stops==[]))=true:=by kernel_rfl
theorem awT:((Tryz.prog.stopKnobs==[]))=true:=by kernel_rfl
theorem awU:((Rows.proofSoundRow.recurses==Tryz.prog.recurses 3))=true:=by kernel_rfl
theorem awV:((Rows.proofSoundRow.ifaces==(Tryz.f3.params.toList++Rows.proofSoundSpec.plain.varTypes Tryz.prog).any (Tryz.prog.ifacesRec ·)))=true:=by kernel_rfl
theorem awW:((Rows.proofSoundRow.wideKeys==(Tryz.f3.params.toList++Rows.proofSoundSpec.plain.varTypes Tryz.prog++Tryz.f3.resultTypes.toList).any (Tryz.prog.wideKeysFrom ·)))=true:=by kernel_rfl
theorem awX:((Rows.proofSoundRow.ifacesOut==Tryz.f3.resultTypes.toList.any (Tryz.prog.ifacesRec ·)))=true:=by kernel_rfl
theorem awY:(Rows.proofSoundRow.shortTexts.isNone)=true:=by kernel_rfl
theorem awZ:((Rows.proofSoundRow.lifted==Tryz.prog.liftsFinal))=true:=by kernel_rfl
theorem aw0:((Rows.proofSoundRow.pinned==Rows.proofSoundRow.pinnedBy))=true:=by kernel_rfl
end Go.Proofs.YtijpgkogfmpeoaaGreatDoor
