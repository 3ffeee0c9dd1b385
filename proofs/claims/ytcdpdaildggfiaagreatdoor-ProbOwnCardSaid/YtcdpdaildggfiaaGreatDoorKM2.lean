/- Closed facts, by the kernel. -/
import Derived.Test.YtcdpdaildggfiaaGreatDoorKE20
import Derived.Test.YtcdpdaildggfiaaGreatDoorKE21
import Derived.Test.YtcdpdaildggfiaaGreatDoorKE22
import Derived.Test.YtcdpdaildggfiaaGreatDoorKE23
namespace Go.Dam.Tab
open Go Go.Dam
set_option maxRecDepth 1000000
noncomputable def I2(f:Nat):tj:=⟨(look f Ii).o++(look f Ij).o++(look f Ik).o++(look f Il).o++(look f Im).o++(look f Io).o++(look f Ip).o++(look f Iq).o++(look f Ir).o++(look f Is).o++(look f It).o++(look f Iu).o++(look f Iv).o++(look f Iw).o++(look f Ix).o++(look f Iy).o++(look f Iz).o++(look f IA).o++(look f IB).o++(look f IC).o++(look f ID).o++(look f IE).o++(look f IF).o++(look f IG).o⟩
noncomputable def MG:bY->bY:=xz I2 F7
noncomputable def ze:bY:=vj Ge MG 100000 60
end Go.Dam.Tab
