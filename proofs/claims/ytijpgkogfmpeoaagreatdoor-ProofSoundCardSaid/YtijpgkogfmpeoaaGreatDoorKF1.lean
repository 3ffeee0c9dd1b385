/- Closed facts, by the kernel. -/
import Derived.Test.YtijpgkogfmpeoaaGreatDoorRows
import Derived.JoinedOf
import Derived.ProofKit
import Derived.KernelRfl
namespace Go.Proofs.YtijpgkogfmpeoaaGreatDoor
open Go
set_option maxRecDepth 100000
theorem tU:(laidOutB Tryz.prog)=true:=by kernel_rfl
theorem awK:(namedTie Tryz.prog Rows.proofSoundRow.named Rows.proofSoundSpec.vars)=true:=by kernel_rfl
theorem N0:((Rows.proofSoundRow.knobs==[]))=true:=by kernel_rfl
theorem N1:((Rows.proofSoundRow.unfollowed==Tryz.prog.unfollowed 3))=true:=by kernel_rfl
theorem awL:((Rows.proofSoundRow.maps==(Tryz.f3.params.toList++Rows.proofSoundSpec.plain.varTypes Tryz.prog).any (Tryz.prog.mapsRec ·)))=true:=by kernel_rfl
theorem awM:((Rows.proofSoundRow.loops==(Tryz.f3.params.toList++Rows.proofSoundSpec.plain.varTypes Tryz.prog).any (Tryz.prog.loopsFrom ·)))=true:=by kernel_rfl
theorem awN:(Tryz.f3.resultTypes.all (fun t=>Tryz.prog.readableRec t&&decide (t<Tryz.prog.types.size)))=true:=by kernel_rfl
theorem awO:((Rows.proofSoundRow.plainKeys==Tryz.prog.plainKeys))=true:=by kernel_rfl
theorem awP:(Tryz.prog.mayEnter)=true:=by kernel_rfl
theorem awQ:((Rows.proofSoundRow.kinds==(if Rows.proofSoundRow.domain.isEmpty then[] else Tryz.f3.params.toList.map fun t=>match Tryz.prog.underlying t with | some (.int k)=>some k | _=>none)))=true:=by kernel_rfl
theorem awR:(Rows.proofSoundRow.veiledFits Tryz.prog Tryz.f3.params.toList (Tryz.f3.params.toList++Rows.proofSoundSpec.plain.varTypes Tryz.prog++Tryz.f3.resultTypes.toList))=true:=by kernel_rfl
end Go.Proofs.YtijpgkogfmpeoaaGreatDoor
