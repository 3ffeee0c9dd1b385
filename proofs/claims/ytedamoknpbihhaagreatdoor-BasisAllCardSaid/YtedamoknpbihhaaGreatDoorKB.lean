/- The evaluator over the table. -/
import Derived.Test.YtedamoknpbihhaaGreatDoorTab
import Derived.Test.YtedamoknpbihhaaGreatDoorOvr
import Derived.KernelRfl
namespace Go.Dam.Tab
open Go Go.Dam
set_option maxRecDepth 1000000
open Go.Proofs.YtedamoknpbihhaaGreatDoor
structure OVc where
 o : Option (Perm → List Value → Heap → Option (Value × Heap))
def ovC (f : Nat) : OVc := ⟨bif Nat.beq f 343 then some gIdx else bif Nat.beq f 218 then some gCheck else bif Nat.beq f 250 then some gJoin else bif Nat.beq f 145 then some gStr else none⟩
noncomputable def S0 (K : Orc) : Orc := fun lo f args H => @Option.rec (Perm → List Value → Heap → Option (Value × Heap)) (fun _ => Option (Value × Heap)) (K lo f args H) (fun g => g lo args H) (ovC f).o
structure MC where
 o : List Ent
noncomputable def memoS (memo : Nat → MC) (S : Orc → Orc) (K : Orc) : Orc := fun lo f args H =>
 @List.rec Ent (fun _ => Option (Value × Heap)) (S K lo f args H) (fun _ _ _ => @Option.rec (Value × Heap) (fun _ => Option (Value × Heap)) (S K lo f args H) (fun r => some r) (Ent.apply (memo f).o args H)) (memo f).o
structure TC where
 o : Option DFunc
noncomputable def tc (f : Nat) : TC := ⟨tab.get f⟩
noncomputable def tcG (f : Nat) : TC := ⟨tabG.get f⟩
noncomputable def T0 (f : Nat) : Option DFunc := (tc f).o
noncomputable def TG (f : Nat) : Option DFunc := (tcG f).o
def okB (r : Option (Value × Heap)) : Bool := match r with
 | some (.bool true, _) => true
 | _ => false
def pow10 : List Value := [.int .u64 (.ofNat 1),.int .u64 (.ofNat 10),.int .u64 (.ofNat 100),.int .u64 (.ofNat 1000),.int .u64 (.ofNat 10000),.int .u64 (.ofNat 100000),.int .u64 (.ofNat 1000000),.int .u64 (.ofNat 10000000),.int .u64 (.ofNat 100000000),.int .u64 (.ofNat 1000000000),.int .u64 (.ofNat 10000000000),.int .u64 (.ofNat 100000000000),.int .u64 (.ofNat 1000000000000),.int .u64 (.ofNat 10000000000000),.int .u64 (.ofNat 100000000000000),.int .u64 (.ofNat 1000000000000000),.int .u64 (.ofNat 10000000000000000),.int .u64 (.ofNat 100000000000000000),.int .u64 (.ofNat 1000000000000000000),.int .u64 (.ofNat 10000000000000000000)]
def H0 : Heap := ⟨(Tr.lf : Tr Blk).set (.ro pow10) 1, 2⟩
noncomputable def K0 : Orc := runF T0 S0 100000 40
@[reducible] def P (n : Nat) : Value := .pointer (some ⟨n, 0, none⟩)
@[reducible] def w (n : Nat) : Value := .int .u32 (.ofNat n)
@[reducible] def S (b n c : Nat) : Value := .slice (some ⟨b, 0, none⟩) n c
@[reducible] def ff : Value := .bool false
@[reducible] def tt : Value := .bool true
end Go.Dam.Tab
