/- Functions of the library that touch memory. -/
import Derived.Test.YtbholmodckdigaaGreatDoorProg
import Derived.WalkKit
import Derived.Lib.Bytealg
import Derived.Lib.Builder
import Derived.Lib.UnsafeStr
import Derived.Shelf.Strings.Builder1
namespace Go.Proofs.YtbholmodckdigaaGreatDoor
open Go Go.RowKit
theorem Lc:(Tryz.prog.info? 255).map (·.size)=some 2:=by kernel_rfl
theorem Qg:liesAt Tryz.prog Tryz.prog.depth 257 (3/Tryz.prog.cellsOf 257) 0 255 1=true:=by kernel_rfl
set_option maxHeartbeats 1000000 in
set_option maxRecDepth 100000 in
theorem Ns(b:Nat)(w:World)(a:w.cell? ⟨b,0,none⟩=some (.pointer (some ⟨b,0,none⟩))):
 Calls Tryz.prog 266 #[.pointer (some ⟨b,0,none⟩)] w λe ao=>e=.returned (.tuple #[])/\ao=w:=by
 obtain⟨_,a,_⟩:=Option.map_eq_some_iff.1 Lc;go_enter Tryz.func266,Tryz.ntmps266;go_wp2;rw[Lib.run_neq_ptr_same w _ Tryz.underlying252 a];go_wp2;go_end0;exact⟨rfl,rfl⟩
set_option maxHeartbeats 1000000 in
set_option maxRecDepth 100000 in
theorem Nr(b:Nat)(w:World)(a:w.cell? ⟨b,0,none⟩=some (.pointer none))(a:w.shape? b=some (257,3))(c:w.frozen? ⟨b,0,none⟩=false):
 Calls Tryz.prog 266 #[.pointer (some ⟨b,0,none⟩)] w λe ao=>e=.returned (.tuple #[])/\ao=w.setCell ⟨b,0,none⟩ (.pointer (some ⟨b,0,none⟩)):=by
 obtain⟨_,c,d⟩:=Option.map_eq_some_iff.1 Lc;go_enter Tryz.func266,Tryz.ntmps266;go_wp2;rw[Lib.run_to_unsafe w ⟨b,0,none⟩ Tryz.underlying252 Tryz.underlying401 c (by rw[d];decide) a (Nat.zero_lt_succ 2)];simp only[Result.andThen];rw[Oper.upon_value];go_wp2;rw[run_callFunc_extern Tryz.func341 (by kernel_rfl) (by kernel_rfl) (by kernel_rfl) (e:=Extern.AbiNoEscape.same) (by kernel_rfl)];rw[Lib.run_noEscape];simp only[Result.andThen];rw[Oper.upon_value];go_wp2;rw[Lib.run_from_unsafe w ⟨b,0,none⟩ Tryz.underlying401 Tryz.underlying252 c a Qg];simp only[Result.andThen];rw[Oper.upon_value];go_wp2;go_end0;exact⟨rfl,rfl⟩
theorem Nt:Tryz.prog.cellsOf 5=1:=by kernel_rfl
theorem call338(s:ByteArray)(c:Int)(w:World):(callFunc 362 #[.string s,.int .u8 c]).run Tryz.prog w=.ok (.value (.int .i64 (Lib.indexByte s.data.toList c.toNat.toUInt8))) w:=by
 rw[run_callFunc_extern Tryz.func362 (by kernel_rfl) (by kernel_rfl) (by kernel_rfl) (e:=Extern.BytealgIndexByte.indexByte) (by kernel_rfl)];rw[Lib.run_indexByteString];rfl
set_option maxHeartbeats 2000000 in
set_option maxRecDepth 100000 in
theorem S3(b g cap a:Nat)(l:List UInt8)(w:World)(c:l≠[])(d:cap≠0)(f:w.cell? ⟨b,1,none⟩=some (.slice (some ⟨g,0,none⟩) l.length cap))(h:w.shape? g=some (5,a))(i:l.length<=a)(k:l.length<=9223372036854775807)
 (m:∀j x,l[j]? = some x->w.cell? ((⟨g,0,none⟩:Addr).add j)=some (.int .u8 x.toNat)):
 Calls Tryz.prog 191 #[.pointer (some ⟨b,0,none⟩)] w λe ao=>e=.returned (.string ⟨l.toArray⟩)/\ao=w.drew.freeze ⟨g,0,none⟩ l.length:=by
 have n:Tryz.prog.follows .mixedOrders=true:=by kernel_rfl
 have n:l.length≠0:=by simpa using c
 have n:w.drew.cell? ⟨b,1,none⟩=some (.slice (some ⟨g,0,none⟩) l.length cap):=f
 have f:(Builtin.unsafeSliceData_ #[253] 352 #[.slice (some ⟨g,0,none⟩) l.length cap]).run Tryz.prog w.drew=.ok (.pointer (some ⟨g,0,none⟩)) w.drew:=
  Lib.run_unsafeSliceData_row _ _ _ _ _ _ d
 have d:(Builtin.unsafeString_ #[352,3] 9 #[.pointer (some ⟨g,0,none⟩),.int .i64 l.length]).run Tryz.prog w.drew=.ok (.string ⟨l.toArray⟩) (w.drew.freeze ⟨g,0,none⟩ l.length):=
  Lib.run_unsafeString_row w.drew 352 3 9 5 Tryz.underlying352 Nt g a h l c i k m
 go_enter Tryz.func191,Tryz.ntmps191;go_wp2;go_region_o
 all_goals (go_wp2;go_ret;exact⟨rfl,rfl⟩)
end Go.Proofs.YtbholmodckdigaaGreatDoor
