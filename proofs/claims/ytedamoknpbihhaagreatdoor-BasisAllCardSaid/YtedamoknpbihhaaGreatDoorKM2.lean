/- Closed facts, by the kernel. -/
import Derived.Test.YtedamoknpbihhaaGreatDoorKE20
import Derived.Test.YtedamoknpbihhaaGreatDoorKE21
import Derived.Test.YtedamoknpbihhaaGreatDoorKE22
import Derived.Test.YtedamoknpbihhaaGreatDoorKE23
namespace Go.Dam.Tab
open Go Go.Dam
set_option maxRecDepth 1000000
def memo2 (f : Nat) : MC := ⟨(bif Nat.beq f 126 then [e174] else (bif Nat.beq f 125 then [e173] else (bif Nat.beq f 124 then [e172] else (bif Nat.beq f 123 then [e171] else (bif Nat.beq f 121 then [e169] else (bif Nat.beq f 120 then [e168] else (bif Nat.beq f 119 then [e166] else (bif Nat.beq f 118 then [e165] else (bif Nat.beq f 117 then [e164] else (bif Nat.beq f 116 then [e163] else (bif Nat.beq f 115 then [e162] else (bif Nat.beq f 114 then [e161, e167] else (bif Nat.beq f 31 then [e156, e178] else (bif Nat.beq f 30 then [e177] else (bif Nat.beq f 29 then [e176] else (bif Nat.beq f 28 then [e175] else (bif Nat.beq f 26 then [e160] else (bif Nat.beq f 24 then [e159] else (bif Nat.beq f 23 then [e158] else (bif Nat.beq f 21 then [e155] else (bif Nat.beq f 20 then [e154, e157] else [])))))))))))))))))))))⟩
noncomputable def S2 : Orc → Orc := memoS memo2 S1
noncomputable def K2 : Orc := runF TG S2 100000 60
end Go.Dam.Tab
