/- Closed facts, by the kernel. -/
import Derived.Test.YtcdpdaildggfiaaGreatDoorKE10
import Derived.Test.YtcdpdaildggfiaaGreatDoorKE11
import Derived.Test.YtcdpdaildggfiaaGreatDoorKE12
namespace Go.Dam.Tab
open Go Go.Dam
set_option maxRecDepth 1000000
noncomputable def I0(f:Nat):tj:=⟨(look f l10).o++(look f Ig).o++(look f Ih).o⟩
noncomputable def F7:bY->bY:=xz I0 wj
noncomputable def eZ:bY:=vj zq F7 100000 40
end Go.Dam.Tab
