/- Closed facts, by the kernel. -/
import Derived.Test.YtgklfcpppenojaaGreatDoorKM2
namespace Go.Dam.Tab
open Go Go.Dam
set_option maxRecDepth 1000000
theorem top:okB (N2 ⟨0,[],none⟩ 4 [] H0)=true:=by kernel_rfl
end Go.Dam.Tab
