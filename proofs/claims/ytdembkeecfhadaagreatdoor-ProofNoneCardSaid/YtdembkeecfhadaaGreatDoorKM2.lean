/- Closed facts, by the kernel. -/
import Derived.Test.YtdembkeecfhadaaGreatDoorKE20
import Derived.Test.YtdembkeecfhadaaGreatDoorKE21
import Derived.Test.YtdembkeecfhadaaGreatDoorKE22
import Derived.Test.YtdembkeecfhadaaGreatDoorKE23
namespace Go.Dam.Tab
open Go Go.Dam
set_option maxRecDepth 1000000
def memo2 (f : Nat) : MC := ⟨(bif Nat.beq f 122 then [e178] else (bif Nat.beq f 121 then [e177] else (bif Nat.beq f 120 then [e176] else (bif Nat.beq f 119 then [e175] else (bif Nat.beq f 117 then [e173] else (bif Nat.beq f 116 then [e172] else (bif Nat.beq f 115 then [e170] else (bif Nat.beq f 114 then [e169] else (bif Nat.beq f 113 then [e168] else (bif Nat.beq f 112 then [e167] else (bif Nat.beq f 111 then [e166] else (bif Nat.beq f 110 then [e165, e171] else (bif Nat.beq f 40 then [e181] else (bif Nat.beq f 37 then [e164] else (bif Nat.beq f 33 then [e159] else (bif Nat.beq f 22 then [e163] else (bif Nat.beq f 15 then [e160, e182, e186] else (bif Nat.beq f 13 then [e180, e184] else (bif Nat.beq f 8 then [e179, e183, e185] else (bif Nat.beq f 6 then [e157, e162] else (bif Nat.beq f 4 then [e156, e158, e161] else [])))))))))))))))))))))⟩
noncomputable def S2 : Orc → Orc := memoS memo2 S1
noncomputable def K2 : Orc := runF TG S2 100000 60
end Go.Dam.Tab
