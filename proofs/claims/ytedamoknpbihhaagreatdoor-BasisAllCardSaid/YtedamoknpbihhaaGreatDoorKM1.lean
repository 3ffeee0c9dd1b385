/- Closed facts, by the kernel. -/
import Derived.Test.YtedamoknpbihhaaGreatDoorKE10
import Derived.Test.YtedamoknpbihhaaGreatDoorKE11
import Derived.Test.YtedamoknpbihhaaGreatDoorKE12
namespace Go.Dam.Tab
open Go Go.Dam
set_option maxRecDepth 1000000
def memo1 (f : Nat) : MC := ⟨(bif Nat.beq f 262 then [e141] else (bif Nat.beq f 261 then [e138] else (bif Nat.beq f 138 then [e137] else (bif Nat.beq f 128 then [e62] else (bif Nat.beq f 97 then [e17] else (bif Nat.beq f 96 then [e103, e117] else (bif Nat.beq f 82 then [e101, e102, e113, e116] else (bif Nat.beq f 44 then [e6, e14, e26, e32, e34, e40, e50, e56, e58, e65, e67, e73, e75, e78, e82, e85, e88, e91, e123, e127, e133, e150] else (bif Nat.beq f 43 then [e11, e23, e47, e74, e76, e87, e124, e125, e128, e134, e135, e148] else (bif Nat.beq f 42 then [e12, e16, e18, e24, e28, e29, e48, e71, e72, e120, e121, e130, e131, e132] else (bif Nat.beq f 41 then [e7, e8, e13, e25, e27, e33, e35, e41, e42, e49, e51, e57, e59, e68, e69, e70, e79, e83, e84, e86, e89, e92, e108, e109, e136, e147, e151] else (bif Nat.beq f 40 then [e10, e22, e31, e36, e64, e66, e77, e80, e81, e90, e122, e126, e129, e149] else (bif Nat.beq f 33 then [e0, e1, e3, e4, e61, e93, e95, e97, e99, e100, e105, e107, e114, e115, e118] else (bif Nat.beq f 25 then [e5, e15, e63, e119] else (bif Nat.beq f 17 then [e2, e9, e19, e20, e21, e30, e37, e45, e46, e52, e53, e110, e111, e146, e152] else (bif Nat.beq f 8 then [e38, e39, e43, e44, e54, e55, e60, e94, e96, e98, e104, e106, e112, e140, e142, e143, e144, e145, e153] else []))))))))))))))))⟩
noncomputable def S1 : Orc → Orc := memoS memo1 S0
noncomputable def K1 : Orc := runF T0 S1 100000 40
end Go.Dam.Tab
