/- Closed facts, by the kernel. -/
import Derived.Test.YtejndadjmphbiaaGreatDoorRows
import Derived.JoinedOf
import Derived.ProofKit
import Derived.KernelRfl
namespace Go.Proofs.YtejndadjmphbiaaGreatDoor
open Go
set_option maxRecDepth 100000
theorem Xm:(mapsRowed Tryz.prog)=true:=by kernel_rfl
theorem XB:((Rows.leafSoundRow.stops==[]))=true:=by kernel_rfl
theorem XE:((Tryz.prog.stopKnobs==[]))=true:=by kernel_rfl
theorem Xd:((Rows.leafSoundRow.recurses==Tryz.prog.recurses 3))=true:=by kernel_rfl
theorem Xg:((Rows.leafSoundRow.ifaces==(Tryz.f3.params.toList++Rows.leafSoundSpec.plain.varTypes Tryz.prog).any (Tryz.prog.ifacesRec ·)))=true:=by kernel_rfl
theorem Xj:((Rows.leafSoundRow.wideKeys==(Tryz.f3.params.toList++Rows.leafSoundSpec.plain.varTypes Tryz.prog++Tryz.f3.resultTypes.toList).any (Tryz.prog.wideKeysFrom ·)))=true:=by kernel_rfl
theorem Xn:((Rows.leafSoundRow.ifacesOut==Tryz.f3.resultTypes.toList.any (Tryz.prog.ifacesRec ·)))=true:=by kernel_rfl
theorem Xq:(Rows.leafSoundRow.shortTexts.isNone)=true:=by kernel_rfl
theorem Xt:((Rows.leafSoundRow.lifted==Tryz.prog.liftsFinal))=true:=by kernel_rfl
theorem Xw:((Rows.leafSoundRow.pinned==Rows.leafSoundRow.pinnedBy))=true:=by kernel_rfl
end Go.Proofs.YtejndadjmphbiaaGreatDoor
