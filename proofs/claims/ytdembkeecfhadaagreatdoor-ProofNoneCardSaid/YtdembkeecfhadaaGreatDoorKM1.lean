/- Closed facts, by the kernel. -/
import Derived.Test.YtdembkeecfhadaaGreatDoorKE10
import Derived.Test.YtdembkeecfhadaaGreatDoorKE11
import Derived.Test.YtdembkeecfhadaaGreatDoorKE12
namespace Go.Dam.Tab
open Go Go.Dam
set_option maxRecDepth 1000000
def memo1 (f : Nat) : MC := ⟨(bif Nat.beq f 243 then [e139] else (bif Nat.beq f 208 then [e142] else (bif Nat.beq f 132 then [e138] else (bif Nat.beq f 96 then [e63] else (bif Nat.beq f 95 then [e104, e118] else (bif Nat.beq f 88 then [e102, e103, e114, e117] else (bif Nat.beq f 82 then [e4, e10, e20, e21, e22, e31, e38, e46, e47, e53, e54, e111, e112, e147, e153, e155] else (bif Nat.beq f 64 then [e18] else (bif Nat.beq f 47 then [e7, e15, e27, e33, e35, e41, e51, e57, e59, e66, e68, e74, e76, e79, e83, e86, e89, e92, e124, e128, e134, e151] else (bif Nat.beq f 46 then [e12, e24, e48, e75, e77, e88, e125, e126, e129, e135, e136, e149] else (bif Nat.beq f 45 then [e13, e17, e19, e25, e29, e30, e49, e72, e73, e121, e122, e131, e132, e133] else (bif Nat.beq f 44 then [e8, e9, e14, e26, e28, e34, e36, e42, e43, e50, e52, e58, e60, e69, e70, e71, e80, e84, e85, e87, e90, e93, e109, e110, e137, e148, e152] else (bif Nat.beq f 42 then [e11, e23, e32, e37, e65, e67, e78, e81, e82, e91, e123, e127, e130, e150] else (bif Nat.beq f 41 then [e2, e3, e5, e6, e62, e94, e96, e98, e100, e101, e106, e108, e115, e116, e119] else (bif Nat.beq f 39 then [e1, e39, e40, e44, e45, e55, e56, e61, e95, e97, e99, e105, e107, e113, e141, e143, e144, e145, e146, e154] else (bif Nat.beq f 36 then [e0, e16, e64, e120] else []))))))))))))))))⟩
noncomputable def S1 : Orc → Orc := memoS memo1 S0
noncomputable def K1 : Orc := runF T0 S1 100000 40
end Go.Dam.Tab
