/- Closed facts, by the kernel. -/
import Derived.Test.YtijpgkogfmpeoaaGreatDoorRows
import Derived.JoinedOf
import Derived.ProofKit
import Derived.KernelRfl
namespace Go.Proofs.YtijpgkogfmpeoaaGreatDoor
open Go
set_option maxRecDepth 100000
theorem jx:(Rows.proofSoundRow.wf (OpenSpec.ofChange Rows.proofSoundSpec))=true:=by kernel_rfl
theorem Fa:(Tryz.f3.params.all (Tryz.prog.readableRec ·))=true:=by kernel_rfl
theorem NY:((Tryz.prog.stops==[]))=true:=by kernel_rfl
theorem NZ:((Rows.proofSoundRow.inPlace==Tryz.prog.inPlace 3))=true:=by kernel_rfl
theorem awD:((Rows.proofSoundRow.named==Tryz.prog.varsNamed 3))=true:=by kernel_rfl
theorem awE:((Rows.proofSoundRow.mapsOut==Tryz.prog.mapsAmong Tryz.f3.resultTypes.toList))=true:=by kernel_rfl
theorem awF:(Rows.proofSoundSpec.vars.all (Tryz.prog.varReadable ·))=true:=by kernel_rfl
theorem awG:((Rows.proofSoundRow.loopsOut==Tryz.f3.resultTypes.toList.any (Tryz.prog.loopsFrom ·)))=true:=by kernel_rfl
theorem awH:(Tryz.prog.stopsHeard)=true:=by kernel_rfl
theorem awI:((Tryz.prog.make==some Rows.proofSoundRow.make))=true:=by kernel_rfl
theorem awJ:((Rows.proofSoundRow.veiled==(Tryz.f3.params.toList++Rows.proofSoundSpec.plain.varTypes Tryz.prog++Tryz.f3.resultTypes.toList).any (Tryz.prog.veiledRec ·)))=true:=by kernel_rfl
end Go.Proofs.YtijpgkogfmpeoaaGreatDoor
