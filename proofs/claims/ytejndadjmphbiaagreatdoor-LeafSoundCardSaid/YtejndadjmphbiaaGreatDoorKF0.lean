/- Closed facts, by the kernel. -/
import Derived.Test.YtejndadjmphbiaaGreatDoorRows
import Derived.JoinedOf
import Derived.ProofKit
import Derived.KernelRfl
namespace Go.Proofs.YtejndadjmphbiaaGreatDoor
open Go
set_option maxRecDepth 100000
theorem Xb:(Rows.leafSoundRow.wf (OpenSpec.ofChange Rows.leafSoundSpec))=true:=by kernel_rfl
theorem Xx:(Tryz.f3.params.all (Tryz.prog.readableRec ·))=true:=by kernel_rfl
theorem XC:((Tryz.prog.stops==[]))=true:=by kernel_rfl
theorem XF:((Rows.leafSoundRow.inPlace==Tryz.prog.inPlace 3))=true:=by kernel_rfl
theorem Xe:((Rows.leafSoundRow.named==Tryz.prog.varsNamed 3))=true:=by kernel_rfl
theorem Xh:((Rows.leafSoundRow.mapsOut==Tryz.prog.mapsAmong Tryz.f3.resultTypes.toList))=true:=by kernel_rfl
theorem Xk:(Rows.leafSoundSpec.vars.all (Tryz.prog.varReadable ·))=true:=by kernel_rfl
theorem Xo:((Rows.leafSoundRow.loopsOut==Tryz.f3.resultTypes.toList.any (Tryz.prog.loopsFrom ·)))=true:=by kernel_rfl
theorem Xr:(Tryz.prog.stopsHeard)=true:=by kernel_rfl
theorem Xu:((Tryz.prog.make==some Rows.leafSoundRow.make))=true:=by kernel_rfl
theorem Xy:((Rows.leafSoundRow.veiled==(Tryz.f3.params.toList++Rows.leafSoundSpec.plain.varTypes Tryz.prog++Tryz.f3.resultTypes.toList).any (Tryz.prog.veiledRec ·)))=true:=by kernel_rfl
end Go.Proofs.YtejndadjmphbiaaGreatDoor
