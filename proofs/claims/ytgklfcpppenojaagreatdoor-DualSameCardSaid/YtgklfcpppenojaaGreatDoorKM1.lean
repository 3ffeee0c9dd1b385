/- Closed facts, by the kernel. -/
import Derived.Test.YtgklfcpppenojaaGreatDoorKE10
import Derived.Test.YtgklfcpppenojaaGreatDoorKE11
import Derived.Test.YtgklfcpppenojaaGreatDoorKE12
namespace Go.Dam.Tab
open Go Go.Dam
set_option maxRecDepth 1000000
noncomputable def XS(f:Nat):E9:=⟨(look f l10).o++(look f nc).o++(look f Xs).o⟩
noncomputable def XT:c8->c8:=I0 XS IZ
noncomputable def iw:c8:=Ev NW XT 100000 40
end Go.Dam.Tab
