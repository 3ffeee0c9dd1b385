/- Functions of the library that touch memory. -/
import Derived.Test.YtkjakecbclpfpaaGreatDoorProg
import Derived.WalkKit
import Derived.Lib.Bytealg
import Derived.Lib.Builder
import Derived.Lib.UnsafeStr
import Derived.Shelf.Strings.Builder1
namespace Go.Proofs.YtkjakecbclpfpaaGreatDoor
open Go Go.RowKit
theorem S5:(Tryz.prog.info? 292).map (·.size)=some 2:=by kernel_rfl
theorem Yv:liesAt Tryz.prog Tryz.prog.depth 294 (3/Tryz.prog.cellsOf 294) 0 292 1=true:=by kernel_rfl
set_option maxHeartbeats 1000000 in
set_option maxRecDepth 100000 in
theorem VC(b:Nat)(w:World)(aP:w.cell? ⟨b,0,none⟩=some (.pointer (some ⟨b,0,none⟩))):
 Calls Tryz.prog 300 #[.pointer (some ⟨b,0,none⟩)] w λe ay=>e=.returned (.tuple #[])/\ay=w:=by
 obtain⟨_,a,_⟩:=Option.map_eq_some_iff.1 S5;go_enter Tryz.func300,Tryz.ntmps300;go_wp2;rw[Lib.run_neq_ptr_same w _ Tryz.underlying290 a];go_wp2;go_end0;exact⟨rfl,rfl⟩
set_option maxHeartbeats 1000000 in
set_option maxRecDepth 100000 in
theorem VB(b:Nat)(w:World)(aP:w.cell? ⟨b,0,none⟩=some (.pointer none))(a:w.shape? b=some (294,3))(c:w.frozen? ⟨b,0,none⟩=false):
 Calls Tryz.prog 300 #[.pointer (some ⟨b,0,none⟩)] w λe ay=>e=.returned (.tuple #[])/\ay=w.setCell ⟨b,0,none⟩ (.pointer (some ⟨b,0,none⟩)):=by
 obtain⟨_,c,d⟩:=Option.map_eq_some_iff.1 S5;go_enter Tryz.func300,Tryz.ntmps300;go_wp2;rw[Lib.run_to_unsafe w ⟨b,0,none⟩ Tryz.underlying290 Tryz.underlying428 c (by rw[d];decide) a (Nat.zero_lt_succ 2)];simp only[Result.andThen];rw[Oper.upon_value];go_wp2;rw[run_callFunc_extern Tryz.func375 (by kernel_rfl) (by kernel_rfl) (by kernel_rfl) (e:=Extern.AbiNoEscape.same) (by kernel_rfl)];rw[Lib.run_noEscape];simp only[Result.andThen];rw[Oper.upon_value];go_wp2;rw[Lib.run_from_unsafe w ⟨b,0,none⟩ Tryz.underlying428 Tryz.underlying290 c a Yv];simp only[Result.andThen];rw[Oper.upon_value];go_wp2;go_end0;exact⟨rfl,rfl⟩
theorem VF:Tryz.prog.cellsOf 5=1:=by kernel_rfl
theorem call338(s:ByteArray)(c:Int)(w:World):(callFunc 377 #[.string s,.int .u8 c]).run Tryz.prog w=.ok (.value (.int .i64 (Lib.indexByte s.data.toList c.toNat.toUInt8))) w:=by
 rw[run_callFunc_extern Tryz.func377 (by kernel_rfl) (by kernel_rfl) (by kernel_rfl) (e:=Extern.BytealgIndexByte.indexByte) (by kernel_rfl)];rw[Lib.run_indexByteString];rfl
set_option maxHeartbeats 2000000 in
set_option maxRecDepth 100000 in
theorem abt(b g cap a:Nat)(l:List UInt8)(w:World)(aP:l≠[])(c:cap≠0)(d:w.cell? ⟨b,1,none⟩=some (.slice (some ⟨g,0,none⟩) l.length cap))(f:w.shape? g=some (5,a))(h:l.length<=a)(i:l.length<=9223372036854775807)
 (k:∀j x,l[j]? = some x->w.cell? ((⟨g,0,none⟩:Addr).add j)=some (.int .u8 x.toNat)):
 Calls Tryz.prog 226 #[.pointer (some ⟨b,0,none⟩)] w λe ay=>e=.returned (.string ⟨l.toArray⟩)/\ay=w.drew.freeze ⟨g,0,none⟩ l.length:=by
 have m:Tryz.prog.follows .mixedOrders=true:=by kernel_rfl
 have m:l.length≠0:=by simpa using aP
 have m:w.drew.cell? ⟨b,1,none⟩=some (.slice (some ⟨g,0,none⟩) l.length cap):=d
 have d:(Builtin.unsafeSliceData_ #[182] 379 #[.slice (some ⟨g,0,none⟩) l.length cap]).run Tryz.prog w.drew=.ok (.pointer (some ⟨g,0,none⟩)) w.drew:=
  Lib.run_unsafeSliceData_row _ _ _ _ _ _ c
 have c:(Builtin.unsafeString_ #[379,3] 9 #[.pointer (some ⟨g,0,none⟩),.int .i64 l.length]).run Tryz.prog w.drew=.ok (.string ⟨l.toArray⟩) (w.drew.freeze ⟨g,0,none⟩ l.length):=
  Lib.run_unsafeString_row w.drew 379 3 9 5 Tryz.underlying379 VF g a f l aP h i k
 go_enter Tryz.func226,Tryz.ntmps226;go_wp2;go_region_o
 all_goals (go_wp2;go_ret;exact⟨rfl,rfl⟩)
end Go.Proofs.YtkjakecbclpfpaaGreatDoor
