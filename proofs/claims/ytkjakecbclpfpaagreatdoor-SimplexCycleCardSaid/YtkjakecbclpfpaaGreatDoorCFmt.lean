/- strconv.FormatUint at base 10. -/
import Derived.Test.YtkjakecbclpfpaaGreatDoorCJoin
import Derived.Lib.Walk
import Derived.Lib.ItoaMem
import Derived.Lib.AppendIntMem
import Derived.WalkKit
import Derived.BigCall
import Derived.BigGuard
namespace Go.Proofs
open Go.Shelf Go.RowKit Go.Sort Go.Lib
set_option maxHeartbeats 6400000 in
set_option maxRecDepth 100000 in
theorem Tryz.W4(u:Nat)(d:u<18446744073709551616)(w:World)(l:Lib.TabIs Tryz.prog w "internal/strconv.uint64pow10" .u64 Lib.pow10Tab):
 Calls Tryz.prog 220 #[.int .u64 u,.int .i64 10] w λe ay=>e=.returned (.string ⟨(Lib.decDigits u).toArray⟩)/\Below w.heap.size w ay:=by
 by_cases m:u<100
 ·go_enter Tryz.func220,Tryz.ntmps220;go_wp2_with (go_at_call 294;refine(Tryz.internal_strconv_small u m _).mono ?_;rintro e ay ⟨rfl,rfl⟩);go_ret;exact⟨rfl,Below.refl _ _⟩
 ·have g:1<=u:=by omega
  have m:Lib.nDigits u<=20:=by have:=Lib.numDigits_eq u g d;split at this<;>omega
  have h:Tryz.prog.arrayLen 373=24:=by simp[Program.arrayLen,Tryz.underlying373]
  have m:∀W,(Instr.sliceAt 373 (.pointer (some ⟨w.heap.size,0,none⟩)) none (some (.int .i64 (Lib.nDigits u:Int))) none).run Tryz.prog W=.ok (.slice (some ⟨w.heap.size,0,none⟩) (Lib.nDigits u) 24) W:=λW=>by
   rw[run_sliceAt_array_h W 373 ⟨w.heap.size,0,none⟩ (by simp[Program.arrayLen,Program.elem,Tryz.underlying373]) .i64 (Lib.nDigits u:Int) (by omega) (by rw[h];omega)];go_simp
  have f:Holds (λ(b:UInt8)=>Value.int .u8 (b.toNat:Int)) (w.alloc (.cells Lib.zeros24 373)) w.heap.size 0 (Array.replicate (Lib.nDigits u) (0:UInt8)):=λj a=>by
   have e:j<Lib.nDigits u:=by simpa using a
   refine⟨?_,World.frozen?_alloc_new _ _ _ _⟩;rw[World.cell?_alloc_new,Lib.zeros24_at _ (by omega),getElem!_pos _ j a];simp
  have i:=Tryz.internal_strconv_formatBase10 w.heap.size 0 24 u (Array.replicate (Lib.nDigits u) 0) (w.alloc (.cells Lib.zeros24 373)) f (by rw[Array.size_replicate];exact Lib.lt_pow_nDigits u) d (by rw[Array.size_replicate];omega);rw[Array.size_replicate]at i;have n:=Lib.hid f;clear f h;go_enter Tryz.func220,Tryz.ntmps220
  go_wp2_with (first
   | (go_at_call 295;refine(Tryz.internal_strconv_numDigits u g d _ (Lib.tabIs_alloc l _)).mono ?_;rintro e ay ⟨rfl,rfl⟩))
  go_at_call 296;refine i.mono ?_;rintro e ay ⟨rfl,k,_,c,rfl,d⟩;have f:(convert 182 9 (.slice (some ⟨w.heap.size,0,none⟩) (Lib.nDigits u) 24)).run Tryz.prog ((putRow (λ(b:UInt8)=>Value.int .u8 (b.toNat:Int)) (w.alloc (.cells Lib.zeros24 373)) w.heap.size 0 c).drewN k)=.ok (.string ⟨(Lib.decDigits u).toArray⟩) ((putRow (λ(b:UInt8)=>Value.int .u8 (b.toNat:Int)) (w.alloc (.cells Lib.zeros24 373)) w.heap.size 0 c).drewN k):=by
   have h:=run_convert_bytes_back (P:=Tryz.prog) ((putRow (λ(b:UInt8)=>Value.int .u8 (b.toNat:Int)) (w.alloc (.cells Lib.zeros24 373)) w.heap.size 0 c).drewN k) 182 9 5 ⟨w.heap.size,0,none⟩ 24 (Lib.decDigits u) Tryz.underlying182 Tryz.underlying5 Tryz.underlying9 (λj a=>by
    rw[Lib.row_is_numeral d j a,Lib.add_plain,World.cell?_drewN];exact cell?_putRow (λ(b:UInt8)=>Value.int .u8 (b.toNat:Int)) _ w.heap.size 0 _ c n.out (by rw[d.size,Array.size_replicate]) j (by rw[d.size];rw[Lib.decDigits_length]at a;exact a))
   rw[Lib.decDigits_length]at h;exact h
  go_wp2;go_ret;refine⟨rfl,?_⟩;have d:∃a,(putRow (λ(b:UInt8)=>Value.int .u8 (b.toNat:Int)) (w.alloc (.cells Lib.zeros24 373)) w.heap.size 0 c).drewN k=grow (w.drewN k) a:=by
   rw[alloc_eq_grow];obtain⟨f,_,e⟩:=putRow_grow_new (λ(b:UInt8)=>Value.int .u8 (b.toNat:Int)) w #[.cells Lib.zeros24 373] w.heap.size 0 c (Nat.le_refl _);exact⟨f,by rw[e];rfl⟩
  obtain⟨a,b⟩:=d;rw[b];exact Lib.below_grow _ w (Nat.le_refl _) k a
set_option maxRecDepth 100000 in
theorem Tryz.fmt(u:Nat)(a:u<18446744073709551616)(w:World)(b:Lib.TabIs Tryz.prog w "internal/strconv.uint64pow10" .u64 Lib.pow10Tab):
 Calls Tryz.prog 159 #[.int .u64 u,.int .i64 10] w λe ay=>e=.returned (.string ⟨(Lib.decDigits u).toArray⟩)/\Below w.heap.size w ay:=by
 go_enter Tryz.func159,Tryz.ntmps159;go_wp2_with (go_at_call 220;refine(Tryz.W4 u a _ b).mono ?_;rintro e ay ⟨rfl,c⟩);go_ret;exact⟨rfl,c⟩
end Go.Proofs
