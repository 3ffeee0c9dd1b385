/- Closed facts, by the kernel. -/
import Derived.Test.YtpkkkofoeplceaaGreatDoorRows
import Derived.JoinedOf
import Derived.ProofKit
import Derived.KernelRfl
namespace Go.Proofs.YtpkkkofoeplceaaGreatDoor
open Go
set_option maxRecDepth 100000
theorem Xm:(mapsRowed Tryz.prog)=true:=by kernel_rfl
theorem XB:((Rows.mipRelaxRow.stops==[]))=true:=by kernel_rfl
theorem XE:((Tryz.prog.stopKnobs==[]))=true:=by kernel_rfl
theorem Xd:((Rows.mipRelaxRow.recurses==Tryz.prog.recurses 3))=true:=by kernel_rfl
theorem Xg:((Rows.mipRelaxRow.ifaces==(Tryz.f3.params.toList++Rows.mipRelaxSpec.plain.varTypes Tryz.prog).any (Tryz.prog.ifacesRec ·)))=true:=by kernel_rfl
theorem Xj:((Rows.mipRelaxRow.wideKeys==(Tryz.f3.params.toList++Rows.mipRelaxSpec.plain.varTypes Tryz.prog++Tryz.f3.resultTypes.toList).any (Tryz.prog.wideKeysFrom ·)))=true:=by kernel_rfl
theorem Xn:((Rows.mipRelaxRow.ifacesOut==Tryz.f3.resultTypes.toList.any (Tryz.prog.ifacesRec ·)))=true:=by kernel_rfl
theorem Xq:(Rows.mipRelaxRow.shortTexts.isNone)=true:=by kernel_rfl
theorem Xt:((Rows.mipRelaxRow.lifted==Tryz.prog.liftsFinal))=true:=by kernel_rfl
theorem Xw:((Rows.mipRelaxRow.pinned==Rows.mipRelaxRow.pinnedBy))=true:=by kernel_rfl
end Go.Proofs.YtpkkkofoeplceaaGreatDoor
