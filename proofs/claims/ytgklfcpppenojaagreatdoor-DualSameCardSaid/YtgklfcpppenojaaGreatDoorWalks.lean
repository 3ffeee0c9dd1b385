/- Functions of the library that touch memory. -/
import Derived.Test.YtgklfcpppenojaaGreatDoorProg
import Derived.WalkKit
import Derived.Lib.Bytealg
import Derived.Lib.Builder
import Derived.Lib.UnsafeStr
import Derived.Shelf.Strings.Builder1
namespace Go.Proofs.YtgklfcpppenojaaGreatDoor
open Go Go.RowKit
theorem as7:(Tryz.prog.info? 258).map (·.size)=some 2:=by kernel_rfl
theorem aFU:liesAt Tryz.prog Tryz.prog.depth 260 (3/Tryz.prog.cellsOf 260) 0 258 1=true:=by kernel_rfl
set_option maxHeartbeats 1000000 in
set_option maxRecDepth 100000 in
theorem aCi(b:Nat)(w:World)(aD:w.cell? ⟨b,0,none⟩=some (.pointer (some ⟨b,0,none⟩))):
 Calls Tryz.prog 264 #[.pointer (some ⟨b,0,none⟩)] w λe w'=>e=.returned (.tuple #[])/\w'=w:=by
 obtain⟨j,aH,_⟩:=Option.map_eq_some_iff.1 as7;go_enter Tryz.func264,Tryz.ntmps264;go_wp2;rw[Lib.run_neq_ptr_same w _ Tryz.underlying255 aH];go_wp2;go_end0;exact⟨rfl,rfl⟩
set_option maxHeartbeats 1000000 in
set_option maxRecDepth 100000 in
theorem aCh(b:Nat)(w:World)(aD:w.cell? ⟨b,0,none⟩=some (.pointer none))(Ds:w.shape? b=some (260,3))(R3:w.frozen? ⟨b,0,none⟩=false):
 Calls Tryz.prog 264 #[.pointer (some ⟨b,0,none⟩)] w λe w'=>e=.returned (.tuple #[])/\w'=w.setCell ⟨b,0,none⟩ (.pointer (some ⟨b,0,none⟩)):=by
 obtain⟨j,aH,KF⟩:=Option.map_eq_some_iff.1 as7;go_enter Tryz.func264,Tryz.ntmps264;go_wp2;rw[Lib.run_to_unsafe w ⟨b,0,none⟩ Tryz.underlying255 Tryz.underlying399 aH (by rw[KF];decide) Ds (Nat.zero_lt_succ 2)];simp only[Result.andThen];rw[Oper.upon_value];go_wp2;rw[run_callFunc_extern Tryz.func339 (by kernel_rfl) (by kernel_rfl) (by kernel_rfl) (e:=Extern.AbiNoEscape.same) (by kernel_rfl)];rw[Lib.run_noEscape];simp only[Result.andThen];rw[Oper.upon_value];go_wp2;rw[Lib.run_from_unsafe w ⟨b,0,none⟩ Tryz.underlying399 Tryz.underlying255 aH Ds aFU];simp only[Result.andThen];rw[Oper.upon_value];go_wp2;go_end0;exact⟨rfl,rfl⟩
theorem aFV:Tryz.prog.cellsOf 5=1:=by kernel_rfl
theorem call338(s:ByteArray)(c:Int)(w:World):(callFunc 341 #[.string s,.int .u8 c]).run Tryz.prog w=.ok (.value (.int .i64 (Lib.indexByte s.data.toList c.toNat.toUInt8))) w:=by
 rw[run_callFunc_extern Tryz.func341 (by kernel_rfl) (by kernel_rfl) (by kernel_rfl) (e:=Extern.BytealgIndexByte.indexByte) (by kernel_rfl)];rw[Lib.run_indexByteString];rfl
set_option maxHeartbeats 2000000 in
set_option maxRecDepth 100000 in
theorem aCl(b g cap cells:Nat)(l:List UInt8)(w:World)(aD:l≠[])(af:cap≠0)(ai:w.cell? ⟨b,1,none⟩=some (.slice (some ⟨g,0,none⟩) l.length cap))(Ds:w.shape? g=some (5,cells))(hle:l.length<=cells)(aFW:l.length<=9223372036854775807)
 (mW:∀j x,l[j]? = some x->w.cell? ((⟨g,0,none⟩:Addr).add j)=some (.int .u8 x.toNat)):
 Calls Tryz.prog 189 #[.pointer (some ⟨b,0,none⟩)] w λe w'=>e=.returned (.string ⟨l.toArray⟩)/\w'=w.drew.freeze ⟨g,0,none⟩ l.length:=by
 have mixed:Tryz.prog.follows .mixedOrders=true:=by kernel_rfl
 have IB:l.length≠0:=by simpa using aD
 have cy:w.drew.cell? ⟨b,1,none⟩=some (.slice (some ⟨g,0,none⟩) l.length cap):=ai
 have aIX:(Builtin.unsafeSliceData_ #[256] 350 #[.slice (some ⟨g,0,none⟩) l.length cap]).run Tryz.prog w.drew=.ok (.pointer (some ⟨g,0,none⟩)) w.drew:=
  Lib.run_unsafeSliceData_row _ _ _ _ _ _ af
 have aIY:(Builtin.unsafeString_ #[350,3] 9 #[.pointer (some ⟨g,0,none⟩),.int .i64 l.length]).run Tryz.prog w.drew=.ok (.string ⟨l.toArray⟩) (w.drew.freeze ⟨g,0,none⟩ l.length):=
  Lib.run_unsafeString_row w.drew 350 3 9 5 Tryz.underlying350 aFV g cells Ds l aD hle aFW mW
 go_enter Tryz.func189,Tryz.ntmps189;go_wp2;go_region_o
 all_goals (go_wp2;go_ret;exact⟨rfl,rfl⟩)
end Go.Proofs.YtgklfcpppenojaaGreatDoor
