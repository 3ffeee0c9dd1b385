/- strconv.FormatUint at base 10. -/
import Derived.Test.YtgklfcpppenojaaGreatDoorJoin
import Derived.Lib.Walk
import Derived.Lib.ItoaMem
import Derived.Lib.AppendIntMem
import Derived.WalkKit
import Derived.BigCall
import Derived.BigGuard
namespace Go.Proofs
open Go.Shelf Go.RowKit Go.Sort Go.Lib
set_option maxHeartbeats 6400000 in
set_option maxRecDepth 100000 in
theorem Tryz.aFR(u:Nat)(A5:u<18446744073709551616)(w:World)(Hl:Lib.TabIs Tryz.prog w "internal/strconv.uint64pow10" .u64 Lib.pow10Tab):
 Calls Tryz.prog 183 #[.int .u64 u,.int .i64 10] w λe w'=>e=.returned (.string ⟨(Lib.decDigits u).toArray⟩)/\Below w.heap.size w w':=by
 by_cases aG:u<100
 ·go_enter Tryz.func183,Tryz.ntmps183;go_wp2_with (go_at_call 258;refine(Tryz.internal_strconv_small u aG _).mono ?_;rintro e w' ⟨rfl,rfl⟩);go_ret;exact⟨rfl,Below.refl _ _⟩
 ·have kE:1<=u:=by omega
  have aIW:Lib.nDigits u<=20:=by have:=Lib.numDigits_eq u kE A5;split at this<;>omega
  have De:Tryz.prog.arrayLen 344=24:=by simp[Program.arrayLen,Tryz.underlying344]
  have qi:∀W,(Instr.sliceAt 344 (.pointer (some ⟨w.heap.size,0,none⟩)) none (some (.int .i64 (Lib.nDigits u:Int))) none).run Tryz.prog W=.ok (.slice (some ⟨w.heap.size,0,none⟩) (Lib.nDigits u) 24) W:=λW=>by
   rw[run_sliceAt_array_h W 344 ⟨w.heap.size,0,none⟩ (by simp[Program.arrayLen,Program.elem,Tryz.underlying344]) .i64 (Lib.nDigits u:Int) (by omega) (by rw[De];omega)];go_simp
  have DC:Holds (λ(b:UInt8)=>Value.int .u8 (b.toNat:Int)) (w.alloc (.cells Lib.zeros24 344)) w.heap.size 0 (Array.replicate (Lib.nDigits u) (0:UInt8)):=λj aH=>by
   have qG:j<Lib.nDigits u:=by simpa using aH
   refine⟨?_,World.frozen?_alloc_new _ _ _ _⟩;rw[World.cell?_alloc_new,Lib.zeros24_at _ (by omega),getElem!_pos _ j aH];simp
  have as6:=Tryz.internal_strconv_formatBase10 w.heap.size 0 24 u (Array.replicate (Lib.nDigits u) 0) (w.alloc (.cells Lib.zeros24 344)) DC (by rw[Array.size_replicate];exact Lib.lt_pow_nDigits u) A5 (by rw[Array.size_replicate];omega);rw[Array.size_replicate]at as6;have aFS:=Lib.hid DC;clear DC De;go_enter Tryz.func183,Tryz.ntmps183
  go_wp2_with (first
   | (go_at_call 259;refine(Tryz.internal_strconv_numDigits u kE A5 _ (Lib.tabIs_alloc Hl _)).mono ?_;rintro e w' ⟨rfl,rfl⟩))
  go_at_call 260;refine as6.mono ?_;rintro e w' ⟨rfl,k,v',hF,rfl,ei⟩;have UG:(convert 256 9 (.slice (some ⟨w.heap.size,0,none⟩) (Lib.nDigits u) 24)).run Tryz.prog ((putRow (λ(b:UInt8)=>Value.int .u8 (b.toNat:Int)) (w.alloc (.cells Lib.zeros24 344)) w.heap.size 0 hF).drewN k)=.ok (.string ⟨(Lib.decDigits u).toArray⟩) ((putRow (λ(b:UInt8)=>Value.int .u8 (b.toNat:Int)) (w.alloc (.cells Lib.zeros24 344)) w.heap.size 0 hF).drewN k):=by
   have h:=run_convert_bytes_back (P:=Tryz.prog) ((putRow (λ(b:UInt8)=>Value.int .u8 (b.toNat:Int)) (w.alloc (.cells Lib.zeros24 344)) w.heap.size 0 hF).drewN k) 256 9 5 ⟨w.heap.size,0,none⟩ 24 (Lib.decDigits u) Tryz.underlying256 Tryz.underlying5 Tryz.underlying9 (λj aH=>by
    rw[Lib.row_is_numeral ei j aH,Lib.add_plain,World.cell?_drewN];exact cell?_putRow (λ(b:UInt8)=>Value.int .u8 (b.toNat:Int)) _ w.heap.size 0 _ hF aFS.out (by rw[ei.size,Array.size_replicate]) j (by rw[ei.size];rw[Lib.decDigits_length]at aH;exact aH))
   rw[Lib.decDigits_length]at h;exact h
  go_wp2;go_ret;refine⟨rfl,?_⟩;have EM:∃os,(putRow (λ(b:UInt8)=>Value.int .u8 (b.toNat:Int)) (w.alloc (.cells Lib.zeros24 344)) w.heap.size 0 hF).drewN k=grow (w.drewN k) os:=by
   rw[alloc_eq_grow];obtain⟨yW,_,e⟩:=putRow_grow_new (λ(b:UInt8)=>Value.int .u8 (b.toNat:Int)) w #[.cells Lib.zeros24 344] w.heap.size 0 hF (Nat.le_refl _);exact⟨yW,by rw[e];rfl⟩
  obtain⟨os,aFT⟩:=EM;rw[aFT];exact Lib.below_grow _ w (Nat.le_refl _) k os
set_option maxRecDepth 100000 in
theorem Tryz.fmt(u:Nat)(A5:u<18446744073709551616)(w:World)(Hl:Lib.TabIs Tryz.prog w "internal/strconv.uint64pow10" .u64 Lib.pow10Tab):
 Calls Tryz.prog 119 #[.int .u64 u,.int .i64 10] w λe w'=>e=.returned (.string ⟨(Lib.decDigits u).toArray⟩)/\Below w.heap.size w w':=by
 go_enter Tryz.func119,Tryz.ntmps119;go_wp2_with (go_at_call 183;refine(Tryz.aFR u A5 _ Hl).mono ?_;rintro e w' ⟨rfl,ai⟩);go_ret;exact⟨rfl,ai⟩
end Go.Proofs
