/- Closed facts, by the kernel. -/
import Derived.Test.YtkjakecbclpfpaaGreatDoorCKB
import Derived.KernelRfl
namespace Go.Dam.Tab
open Go Go.Dam Go.Dam.C
set_option maxRecDepth 1000000
theorem EI:okB (e2 Bb ⟨0,[],none⟩ 49 [] A2)=true:=by kernel_rfl
end Go.Dam.Tab
