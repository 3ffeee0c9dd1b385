/- Closed facts, by the kernel. -/
import Derived.Test.YtimhdfjkbgoncaaGreatDoorKE20
import Derived.Test.YtimhdfjkbgoncaaGreatDoorKE21
import Derived.Test.YtimhdfjkbgoncaaGreatDoorKE22
import Derived.Test.YtimhdfjkbgoncaaGreatDoorKE23
namespace Go.Dam.Tab
open Go Go.Dam
set_option maxRecDepth 1000000
def memo2 (f : Nat) : MC := ⟨(bif Nat.beq f 114 then [e174] else (bif Nat.beq f 113 then [e173] else (bif Nat.beq f 112 then [e172] else (bif Nat.beq f 111 then [e171] else (bif Nat.beq f 109 then [e169] else (bif Nat.beq f 108 then [e168] else (bif Nat.beq f 107 then [e166] else (bif Nat.beq f 106 then [e165] else (bif Nat.beq f 105 then [e164] else (bif Nat.beq f 104 then [e163] else (bif Nat.beq f 103 then [e162] else (bif Nat.beq f 102 then [e161, e167] else (bif Nat.beq f 27 then [e156, e178] else (bif Nat.beq f 26 then [e177] else (bif Nat.beq f 25 then [e176] else (bif Nat.beq f 24 then [e175] else (bif Nat.beq f 22 then [e160] else (bif Nat.beq f 21 then [e159] else (bif Nat.beq f 20 then [e158] else (bif Nat.beq f 18 then [e155] else (bif Nat.beq f 17 then [e154, e157] else [])))))))))))))))))))))⟩
noncomputable def S2 : Orc → Orc := memoS memo2 S1
noncomputable def K2 : Orc := runF TG S2 100000 60
end Go.Dam.Tab
