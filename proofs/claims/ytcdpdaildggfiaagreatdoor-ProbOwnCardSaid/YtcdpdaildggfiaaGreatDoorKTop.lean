/- Closed facts, by the kernel. -/
import Derived.Test.YtcdpdaildggfiaaGreatDoorKM2
namespace Go.Dam.Tab
open Go Go.Dam
set_option maxRecDepth 1000000
theorem top:okB (ze ⟨0,[],none⟩ 4 [] aj)=true:=by kernel_rfl
end Go.Dam.Tab
