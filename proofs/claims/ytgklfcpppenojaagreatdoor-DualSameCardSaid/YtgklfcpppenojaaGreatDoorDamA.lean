/- An abstract memory, and that the program does there what it does. -/
import GoSem.Core.Program
import GoSem.Core.View
import GoSem.Core.Utf8
import GoSem.Core.Region
import GoSem.Op.String
import GoSem.Op.Equal
import Derived.WalkKit
import Derived.Laws.Cells
import Derived.Laws.Rows
import Derived.Laws.StructEq
import Derived.Laws.BytesString
import Derived.Calls
import Derived.Orders
namespace Go.Dam
abbrev a6:=@Option.some.injEq
abbrev c2:=@Prod.mk.injEq
abbrev bH:=@Nat.le_trans
abbrev cG:=@Bool.and_eq_true
abbrev bR:=@Nat.le_refl
abbrev aU:=@if_neg
abbrev bm:=@if_pos
abbrev eh:=@decide_eq_true_eq
abbrev eD:=@Nat.lt_of_le_of_lt
abbrev ic:=@Array.getElem?_eq_some_iff
abbrev fR:=@List.mem_of_getElem?
abbrev hG:=@List.getElem?_eq_getElem
abbrev oa:=@Classical.byContradiction
abbrev hQ:=@Nat.mul_le_mul_right
abbrev iH:=@Nat.pow_le_pow_right
abbrev lA:=@List.getElem?_append_right
abbrev hR:=@Nat.lt_of_lt_of_le
abbrev jq:=@List.getElem?_eq_none
abbrev lB:=@List.getElem?_append_left
abbrev hz:=@List.all_eq_true
abbrev nD:=@List.getElem?_eq_some_iff
abbrev hS:=@Nat.le_add_right
abbrev ob:=@List.getD_eq_getElem?_getD
abbrev gw:=@Nat.mul_comm
abbrev ie:=@Nat.mul_le_mul
abbrev pT:=@List.getElem?_take_of_lt
abbrev pU:=@Array.getElem?_eq_getElem
abbrev jr:=@Rat.mul_nonneg
abbrev mN:=@Bool.not_eq_true'
abbrev lC:=@Nat.two_pow_pos
abbrev o':=@List.getElem?_drop
abbrev oc:=@Bool.false_eq_true
abbrev hT:=@Nat.pow_add
abbrev hA:=@Rat.not_lt
abbrev nE:=@Bool.or_eq_true
abbrev lD:=@List.mem_cons
abbrev q3:=@Rat.intCast_natCast
abbrev tp:=@List.take_of_length_le
abbrev od:=@Nat.not_lt_zero
abbrev oe:=@Nat.div_le_self
abbrev r8:=@Nat.mul_le_mul_left
abbrev lE:=@Rat.zero_mul
abbrev xl:=@Option.isSome_iff_exists
abbrev A7:=@Array.getElem?_setIfInBounds_ne
abbrev k3:=@Rat.le_refl
abbrev A8:=@Rat.mul_le_mul_of_nonneg_left
abbrev q4:=@Nat.mod_eq_of_lt
abbrev y0:=@of_decide_eq_true
abbrev mO:=@Rat.le_of_lt
abbrev A9:=@Option.map_eq_some_iff
abbrev tq:=@Nat.pos_of_ne_zero
abbrev og:=@Nat.mul_assoc
abbrev tr:=@List.length_append
abbrev L2:=@Nat.add_mul_div_left
abbrev DZ:=@List.mem_singleton
abbrev bZn:=@List.getElem?_cons_zero
abbrev bZh:=@Nat.pow_succ
abbrev bZN:=@Array.getD_eq_getD_getElem?
abbrev bZo:=@Option.bind_some
abbrev bZD:=@Array.getElem?_toList
abbrev bZt:=@List.length_cons
abbrev bZs:=@Option.map_some
abbrev bZE:=@List.getElem?_map
abbrev bZy:=@Option.getD_some
abbrev bZO:=@Array.length_toList
abbrev bZI:=@Option.some.inj
abbrev bZZ:=@List.getElem?_cons_succ
abbrev bZF:=@decide_eq_true
abbrev bZz:=@Nat.succ_mul
abbrev bZQ:=@List.cons_append
abbrev bYt:=@Nat.pow_lt_pow_iff_right
abbrev bYi:=@Classical.choose_spec
abbrev bYa:=@Option.bind_eq_bind
abbrev bZS:=@decide_eq_false
abbrev bZT:=@List.mem_map
abbrev bZU:=@Array.toList_inj
abbrev bZJ:=@Rat.mul_zero
abbrev bZV:=@Option.pure_def
abbrev bXe:=@List.mem_range
abbrev bZP:=@Rat.add_zero
abbrev bYj:=@List.ext_getElem?
abbrev bYI:=@Nat.div_lt_of_lt_mul
abbrev bYk:=@List.mem_of_mem_take
abbrev bYl:=@List.length_take
abbrev bXf:=@Nat.mul_lt_mul_of_lt_of_lt
abbrev bYJ:=@List.getElem?_range
abbrev bYb:=@Nat.add_assoc
abbrev bYm:=@List.all_cons
abbrev bYc:=@Int.natAbs_mul
abbrev bXg:=@Nat.le_mul_of_pos_right
abbrev bYu:=@Rat.mul_eq_zero
abbrev bYv:=@List.mem_append
abbrev bYR:=@List.length_pos_iff
abbrev bYS:=@List.length_map
abbrev bYT:=@Array.getElem?_push
abbrev bXh:=@Nat.le_mul_of_pos_left
abbrev bYn:=@Nat.lt_succ_self
abbrev bYo:=@Rat.lt_irrefl
abbrev bXv:=@Int.natAbs_ediv_le_natAbs
abbrev bYK:=@Nat.mul_ne_zero
abbrev bYL:=@Nat.min_eq_left
abbrev bYU:=@List.append_assoc
abbrev bYp:=@Rat.mul_comm
abbrev bYq:=@Nat.gcd_comm
abbrev bXw:=@List.getElem?_replicate
abbrev bYV:=@Nat.div_eq_of_lt
abbrev bWE:=@List.eq_nil_of_length_eq_zero
abbrev bXx:=@Rat.normalize_eq_mkRat
abbrev bXy:=@Nat.div_div_eq_div_mul
abbrev bXz:=@List.getElem?_set_self
abbrev bYr:=@Nat.pow_mul
abbrev bXY:=@Nat.mul_lt_mul_of_pos_right
abbrev bXA:=@List.take_append_drop
abbrev bYW:=@List.foldl_cons
abbrev bYd:=@beq_iff_eq
abbrev bYe:=@Nat.mod_lt
abbrev bXB:=@List.length_range
abbrev bXi:=@Bool.eq_false_iff
abbrev bXZ:=@Array.getElem?_append_left
abbrev bXC:=@List.getElem?_set_ne
abbrev bYX:=@Nat.one_le_pow
abbrev bXj:=@Nat.succ_le_succ
abbrev bYw:=@Nat.add_mul
abbrev bWa:=@List.map_congr_left
abbrev bWb:=@List.eq_of_mem_replicate
abbrev bXk:=@Rat.intCast_mul
abbrev bXD:=@Nat.eq_zero_or_pos
abbrev bXl:=@Nat.div_add_mod
abbrev bXm:=@List.map_cons
abbrev bXn:=@List.length_set
abbrev bWF:=@Array.all_eq_true_iff_forall_mem
abbrev bYM:=@Nat.mul_pos
abbrev bWG:=@List.mk_mem_zipIdx_iff_getElem?
abbrev bXE:=@Int.toNat_natCast
abbrev bWH:=@Rat.mul_le_mul_of_nonneg_right
abbrev bWI:=@Nat.le_of_lt
abbrev bWc:=@List.getElem?_toArray
abbrev bWJ:=@Int.mul_le_mul_of_nonneg_right
abbrev bWK:=@Array.getElem?_modify
abbrev bXF:=@Rat.normalize_eq
abbrev bXG:=@List.take_length
abbrev bWd:=@List.length_drop
abbrev bXH:=@List.getElem_mem
abbrev bWe:=@List.mem_of_mem_drop
abbrev bWf:=@List.getElem?_of_mem
abbrev cYy:=@Array.size_replicate
abbrev bXI:=@UInt8.toNat_inj
abbrev bXJ:=@Rat.num_eq_zero
abbrev bYY:=@Nat.pow_pos
abbrev bWg:=@Nat.pow_le_pow_left
abbrev bYZ:=@Nat.mul_add
abbrev bYx:=@Nat.le_succ
abbrev bXK:=@List.nil_append
abbrev bWh:=@List.getElem_of_mem
abbrev cZd:=@List.drop_succ_cons
abbrev bXL:=@Int.natCast_mul
abbrev bWL:=@Int.fdiv_eq_ediv_of_nonneg
abbrev bXM:=@Rat.zero_add
abbrev bXo:=@Nat.lt_or_ge
open Go
theorem bZa{α:Sort _}(x:α):∃A,A=x:=⟨_,rfl⟩
inductive cI(α:Type) where
 | ak
 | aP (l:cI α) (v:Option α) (r:cI α)
namespace cI
variable{α:Type}
def get:cI α->Nat->Option α
 | .ak,_=>none
 | .aP l v r,k=>bif Nat.beq k 0 then v else bif Nat.beq (k%2) 1 then l.get (k/2) else r.get (k/2-1)
def one(x:α):Nat->Nat->cI α
 | 0,_=>.ak
 | n+1,k=>bif Nat.beq k 0 then .aP .ak (some x) .ak else bif Nat.beq (k%2) 1 then .aP (one x n (k/2)) none .ak else .aP .ak none (one x n (k/2-1))
def set(x:α):cI α->Nat->cI α
 | .ak,k=>one x (k+1) k
 | .aP l v r,k=>bif Nat.beq k 0 then .aP l (some x) r else bif Nat.beq (k%2) 1 then .aP (l.set x (k/2)) v r else .aP l v (r.set x (k/2-1))
end cI
inductive Hr where
 | nat (n:Nat)
 | lF (q:Rat)
inductive dI where
 | n (k:Nat)
 | t (e:TypeId)
def dI.val:dI->Nat
 | .n k=>k
 | .t _=>0
inductive cj where
 | cells (cs:List Value) (esz:dI)
 | ro (cs:List Value)
 | map (es:List (Value×Value×Nat)) (clock:Nat)
 | iter (s:ByteArray) (pos:Nat)
 | eE (o:Hr)
 | dead
 | bytes (e:TypeId) (cW:List UInt8)
structure ah where
 t:cI cj
 next:Nat
def ah.get(H:ah)(b:Nat):Option cj:=H.t.get b
def ah.put(H:ah)(b:Nat)(x:cj):ah:=⟨H.t.set x b,H.next⟩
def ah.new(H:ah)(x:cj):ah:=⟨H.t.set x H.next,H.next+1⟩
abbrev Env:=cI Value
inductive bF where
 | ret (v:Value)
 | fail
 | get (b:Nat) (k:cj->bF)
 | put (b:Nat) (x:cj) (k:bF)
 | new (x:cj) (k:Nat->bF)
structure Perm where
 lo:Nat
 ok:List Nat
 num:Option Nat
def Perm.may(p:Perm)(b:Nat):Bool:=bif Nat.ble p.lo b then true else p.ok.contains b
def Perm.pick(p:Perm)(H:ah):Nat:=match p.num with
 | none=>H.next
 | some b=>b
def Perm.make(p:Perm)(H:ah)(x:cj):ah:=match p.num with
 | none=>H.new x
 | some b=>H.put b x
abbrev c8:=Perm->FuncId->List Value->ah->Option (Value×ah)
def bF.run(lo:Perm):bF->ah->Option (Value×ah)
 | .ret v,H=>some (v,H)
 | .fail,_=>none
 | .get b k,H=>match H.get b with
   | some x=>(k x).run lo H
   | none=>none
 | .put b x k,H=>bif lo.may b then k.run lo (H.put b x) else none
 | .new x k,H=>(k (lo.pick H)).run lo (lo.make H x)
inductive cD where
 | t (n:Nat)
 | c (v:Value)
inductive jM where
 | b | i | s
inductive xm where
 | ptr | jN | map | fn | y1 (c:Bool)
inductive pa where
 | aZ | bool | nil (k:xm) | cells (ks:List jM)
inductive iU where
 | one (k:jM) | cells (ks:List jM)
inductive Hs where
 | s | l | m
inductive Conv where
 | int (k:IntKind) | id | D0 | L3
inductive bM where
 | aM (x:cD)
 | pick (c a b:cD)
 | alloc (t:TypeId) (z:List Value)
 | box (t:TypeId) (x:cD)
 | build (z:List Value) (cH:List (Nat×Nat×cD))
 | buildSlice (z:List Value) (esz len:Nat) (cH:List (Nat×Nat×cD))
 | load (agg:Bool) (n:Nat) (a:cD)
 | store (n:Nat) (a x:cD)
 | nilCheck (x:cD)
 | bin (op:BinOp) (k:pa) (x y:cD)
 | un (op:UnOp) (x:cD)
 | conv (c:Conv) (x:cD)
 | Ht (t:TypeId) (x:cD)
 | y2 (f:FuncId) (q5:List cD)
 | mkMap
 | mkSlice (z:List Value) (bytes:Nat) (l c:cD)
 | nF (x:cD) (lo ad:Option cD)
 | nG (esz:Nat) (x:cD) (lo ad hf:Option cD)
 | D1 (n esz:Nat) (x:cD) (lo ad:Option cD)
 | fieldAddr (off:Nat) (x:cD)
 | field (agg:Bool) (off n:Nat) (x:cD)
 | ho (esz:Nat) (x i:cD)
 | y3 (n esz:Nat) (x i:cD)
 | pV (x i:cD)
 | Hu (agg:Bool) (n esz:Nat) (x i:cD)
 | lookup (bY:iU) (z:Value) (ok:Bool) (x k:cD)
 | mapUpdate (bY:iU) (m k x:cD)
 | mapEntry (bY:iU) (z:Value) (m k:cD)
 | entryStore (m s x:cD)
 | D2 (x:cD)
 | D3 (it:cD)
 | extract (x:cD) (i:Nat)
 | call (f:FuncId) (args:List cD)
 | mP (f:cD) (args:List cD)
 | len (k:Hs) (x:cD)
 | append (esz bytes:Nat) (s x:cD)
 | Ba (e bytes:Nat) (s x:cD)
 | copy (esz:Nat) (d s:cD)
 | D4 (z:List Value) (x:cD)
 | D5 (x:cD)
 | min2 (x y:cD)
 | max2 (x y:cD)
 | bad (as8:String)
structure aE where
 dst:Option Nat
 guard:Option (Nat×Bool)
 op:bM
inductive r9 where
 | slot (t:Nat)
 | cell (t:Nat) (agg:Bool) (n:Nat)
def plainCell:Value->Bool
 | .bool _ | .int .. | .string _ | .pointer none | .slice none 0 0 | .map none | .nilFunc | .nilIface=>true
 | _=>false
def Bb:Value->Bool
 | .agg cs=>cs.toList.all plainCell
 | v=>plainCell v
def xn:Nat:=1000000007
section compile
variable(P:Program)(G:Nat->Bool)
def rand:Operand->cD
 | .tmp t=>.t t
 | .const v=>if Bb v then .c v else .t xn
 | .global g=>if G g then .c (.pointer (some ⟨g,0,none⟩)) else .t xn
 | .func f=>.c (.func (.func f) #[] #[])
def oh(t:TypeId):Bool:=match P.underlying t with | some (.struct _) | some (.array _ _)=>true | _=>false
def known(t:TypeId):Bool:=(P.underlying t).isSome
def zeroOf(t:TypeId):Option Value:=match (P.info? t).bind (·.zero) with
 | some v=>if Bb v&&v.cells.size==P.cellsOf t&&known P t then some v else none
 | none=>none
def zeroCells(t:TypeId):Option (List Value):=(zeroOf P t).map (·.cells.toList)
def times(l:List Value):Nat->List Value
 | 0=>[]
 | n+1=>l++times l n
def oi(t:TypeId):Option jM:=match P.underlying t with
 | some .bool=>some .b
 | some (.int _)=>some .i
 | some .string=>some .s
 | _=>none
def xp:List Field->Nat->Option (List jM)
 | [],_=>some []
 | f::fs,i=>if f.name != "_"&&f.offset==i then(match oi P f.type,xp fs (i+1) with
   | some k,some l=>some (k::l)
   | _,_=>none) else none
def xq(t:TypeId):Option (List jM):=match P.underlying t with
 | some (.struct fs)=>if P.stoodInHeld t||P.eqGuardType P.depth t then none else xp P fs.toList 0
 | _=>none
def isConst:Operand->Bool
 | .const _=>true
 | _=>false
def vm(t:TypeId)(x y:Operand):Option pa:=match P.underlying t with
 | some (.int _) | some .string=>some .aZ
 | some .bool=>some .bool
 | some (.pointer _)=>some (.nil .ptr)
 | some (.slice _)=>some (.nil .jN)
 | some (.map ..)=>some (.nil .map)
 | some (.func ..)=>some (.nil .fn)
 | some (.interface _)=>some (.nil (.y1 (isConst x||isConst y)))
 | some (.struct _)=>(xq P t).map .cells
 | _=>none
def ma(t:TypeId):Option iU:=match oi P t with
 | some k=>some (.one k)
 | none=>(xq P t).map .cells
def pW(o:Option bM)(s:String):bM:=o.getD (.bad s)
def ig(o:Oper):bM:=
 match o.op with
 | .move x | .assign x=>.aM (rand G x)
 | .pick c a b=>.pick (rand G c) (rand G a) (rand G b)
 | .alloc e=>pW ((zeroCells P e).map (.alloc e)) "alloc"
 | .box t x=>.box t (rand G x)
 | .build t cH=>pW (do
  let z <-zeroCells P t
  match P.underlying t with
  | some (.struct fs)=>do
    let fr <-cH.toList.mapM λ(i,x)=>(fs[i]?).map λf=>(f.offset,P.cellsOf f.type,rand G x)
    if fs.all (λf=>known P f.type) then pure (.build z fr) else none
  | some (.array _ e)=>if known P e then pure (.build z (cH.toList.map λ(i,x)=>(i*P.cellsOf e,P.cellsOf e,rand G x))) else none
  | _=>none) "build"
 | .buildSlice t len cH=>pW (do
  let .slice e <-P.underlying t | none
  let z <-zeroCells P e
  if len*P.cellsOf e<=65536 then
   pure (.buildSlice (times z len) (P.cellsOf e) len (cH.toList.map λ(i,x)=>(i*P.cellsOf e,P.cellsOf e,rand G x))) else none) "buildSlice"
 | .load t a=>if known P t then .load (oh P t) (P.cellsOf t) (rand G a) else .bad "load"
 | .store t a x=>if known P t then .store (P.cellsOf t) (rand G a) (rand G x) else .bad "store"
 | .nilCheck x=>.nilCheck (rand G x)
 | .binOp op t x y _=>match op with
   | .eql | .neq=>pW ((vm P t x y).map λk=>.bin op k (rand G x) (rand G y)) "eq"
   | _=>.bin op .aZ (rand G x) (rand G y)
 | .unOp op _ x=>.un op (rand G x)
 | .convert s d x=>match P.underlying s,P.underlying d with
   | some (.int _),some (.int k)=>.conv (.int k) (rand G x)
   | some .string,some (.slice e)=>(match P.underlying e with | some (.int .u8)=>.conv .D0 (rand G x) | _=>.bad "conv")
   | some (.slice e),some .string=>(match P.underlying e with | some (.int .u8)=>.conv .L3 (rand G x) | _=>.bad "conv")
   | some .string,some .string=>.conv .id (rand G x)
   | _,_=>.bad "conv"
 | .makeInterface t x=>(match P.underlying t with | some (.interface _)=>.bad "mkIface" | some _=>.Ht t (rand G x) | none=>.bad "mkIface")
 | .makeFunc fn first q5=>(match fn with
   | .func f=>if first.isEmpty then .y2 f (q5.toList.map (rand G)) else .bad "makeFunc"
   | _=>.bad "makeFunc")
 | .makeMap _ r=>if r.isNone then .mkMap else .bad "makeMap"
 | .makeSlice t l c=>pW (do
  let .slice e <-P.underlying t | none
  let z <-zeroCells P e
  pure (.mkSlice z (P.bytesOf e) (rand G l) (rand G c))) "makeSlice"
 | .slice t x lo ad hf=>match P.underlying t with
   | some .string=>if hf.isSome then .bad "slStr" else .nF (rand G x) (lo.map (rand G)) (ad.map (rand G))
   | some (.slice e)=>if known P e&&(ad.isSome||!hf.isSome) then .nG (P.cellsOf e) (rand G x) (lo.map (rand G)) (ad.map (rand G)) (hf.map (rand G)) else .bad "type"
   | some (.array n e)=>if hf.isSome||!known P e then .bad "slArr" else .D1 n (P.cellsOf e) (rand G x) (lo.map (rand G)) (ad.map (rand G))
   | some (.pointer a)=>(match P.underlying a with
     | some (.array n e)=>if hf.isSome||!known P e then .bad "slArr" else .D1 n (P.cellsOf e) (rand G x) (lo.map (rand G)) (ad.map (rand G))
     | _=>.bad "slice")
   | _=>.bad "slice"
 | .fieldAddr t x f=>pW (do
  let .struct fs <-P.underlying t | none
  let j3 <-fs[f]?
  if known P j3.type&&P.cellsOf j3.type != 0 then pure (.fieldAddr j3.offset (rand G x)) else none) "fieldAddr"
 | .field t x f=>pW (do
  let .struct fs <-P.underlying t | none
  let j3 <-fs[f]?
  if known P j3.type then pure (.field (oh P j3.type) j3.offset (P.cellsOf j3.type) (rand G x)) else none) "field"
 | .indexAddr t x i=>match P.underlying t with
   | some (.slice e)=>if known P e then .ho (P.cellsOf e) (rand G x) (rand G i) else .bad "type"
   | some (.array n e)=>if known P e then .y3 n (P.cellsOf e) (rand G x) (rand G i) else .bad "type"
   | _=>.bad "indexAddr"
 | .index t x i=>match P.underlying t with
   | some .string=>.pV (rand G x) (rand G i)
   | some (.array n e)=>if known P e then .Hu (oh P e) n (P.cellsOf e) (rand G x) (rand G i) else .bad "index"
   | _=>.bad "index"
 | .lookup t x k ok=>pW (do
  let .map hg e <-P.underlying t | none
  let bY <-ma P hg
  let z <-zeroOf P e
  pure (.lookup bY z ok (rand G x) (rand G k))) "lookup"
 | .mapUpdate t m k x | .insert t m k x=>pW (do
  let .map hg _ <-P.underlying t | none
  let bY <-ma P hg
  pure (.mapUpdate bY (rand G m) (rand G k) (rand G x))) "mapUpdate"
 | .mapEntry t m k=>pW (do
  let .map hg e <-P.underlying t | none
  let bY <-ma P hg
  let z <-zeroOf P e
  pure (.mapEntry bY z (rand G m) (rand G k))) "mapEntry"
 | .entryStore _ m s x=>.entryStore (rand G m) (rand G s) (rand G x)
 | .range t x=>match P.underlying t with
   | some .string=>.D2 (rand G x)
   | _=>.bad "range"
 | .next it b=>if b then .D3 (rand G it) else .bad "next"
 | .extract x i=>.extract (rand G x) i
 | .call c=>match c.callee with
   | .value (.func f)=>.call f (c.args.toList.map (rand G))
   | .value tt=>.mP (rand G tt) (c.args.toList.map (rand G))
   | .builtin b=>
     match b,c.args.toList,c.argTypes.toList with
     | .len,[x],t::_=>(match P.underlying t with
       | some .string=>.len .s (rand G x)
       | some (.slice _)=>.len .l (rand G x)
       | some (.map ..)=>.len .m (rand G x)
       | _=>.bad "len")
     | .append,[s,x],[t,u]=>(match P.underlying t,P.underlying u with
       | some (.slice e),some (.slice _)=>if(zeroOf P e).isSome&&Nat.ble (P.bytesOf e) 17179869184 then .append (P.cellsOf e) (P.bytesOf e) (rand G s) (rand G x) else .bad "append"
       | some (.slice e),some .string=>if(zeroOf P e).isSome&&Nat.ble (P.bytesOf e) 17179869184&&Nat.beq (P.cellsOf e) 1 then .Ba e (P.bytesOf e) (rand G s) (rand G x) else if(zeroOf P e).isSome&&Nat.ble (P.bytesOf e) 17179869184 then .append (P.cellsOf e) (P.bytesOf e) (rand G s) (rand G x) else .bad "append"
       | _,_=>.bad "append")
     | .copy,[d,s],t::_=>(match P.underlying t with | some (.slice e)=>if known P e then .copy (P.cellsOf e) (rand G d) (rand G s) else .bad "copy" | _=>.bad "copy")
     | .clear,[x],t::_=>(match P.underlying t with
       | some (.slice e)=>pW ((zeroCells P e).map λz=>.D4 z (rand G x)) "clear"
       | some (.map ..)=>.D5 (rand G x)
       | _=>.bad "clear")
     | .min,[x,y],_=>.min2 (rand G x) (rand G y)
     | .max,[x,y],_=>.max2 (rand G x) (rand G y)
     | _,_,_=>.bad "builtin"
   | .invoke ..=>.bad "invoke"
 | _=>.bad "op"
end compile
def bB(e:Env):cD->Option Value
 | .t n=>e.get n
 | .c v=>some v
def fD(e:Env):List cD->Option (List Value)
 | []=>some []
 | r::rs=>match bB e r with
   | some v=>(match fD e rs with
     | some l=>some (v::l)
     | none=>none)
   | none=>none
def nH(e:Env):List (Nat×Nat×cD)->Option (List (Nat×Nat×Value))
 | []=>some []
 | (i,n,r)::cH=>match bB e r with
   | some v=>(match nH e cH with
     | some l=>some ((i,n,v)::l)
     | none=>none)
   | none=>none
def setCells(cs:List Value)(off:Nat)(vs:List Value):Option (List Value):=
 bif Nat.ble (off+vs.length) cs.length then some (cs.take off++(vs++cs.drop (off+vs.length))) else none
def cX(cs:List Value)(off n:Nat):Option (List Value):=
 bif Nat.ble (off+n) cs.length then some ((cs.drop off).take n) else none
def c5(l:List Value):Value:=.agg l.toArray
def ptr(b:Nat):Value:=.pointer (some ⟨b,0,none⟩)
def zWb:Value:=.tuple #[]
def hU:Option Value->bF
 | some v=>.ret v
 | none=>.fail
def rowOf:cj->Option (List Value)
 | .cells cs _=>some cs
 | .ro cs=>some cs
 | _=>none
def vn(agg:Bool)(off n:Nat)(cs:List Value):Option Value:=
 bif agg then(match cX cs off n with | some l=>some (c5 l) | none=>none) else cs[off]?
def pX(agg:Bool)(n:Nat):Option Value->bF
 | some (.pointer (some a))=>.get a.block λx=>match rowOf x with
   | some cs=>hU (vn agg a.off n cs)
   | none=>.fail
 | _=>.fail
def fG:Value->Bool
 | .agg _ | .tuple _=>false
 | _=>true
def putRow(a:Addr)(vs:List Value)(k:bF):bF:=
 .get a.block λx=>match x with
  | .cells cs z=>bif vs.all fG then(match setCells cs a.off vs with
    | some cs=>.put a.block (.cells cs z) k
    | none=>.fail) else .fail
  | _=>.fail
def q6(n:Nat):Option Value->Option Value->bF
 | some (.pointer (some a)),some v=>bif Nat.beq v.cells.size n then putRow a v.cells.toList (.ret zWb) else .fail
 | _,_=>.fail
def ew(l:List UInt8):List Value:=l.map λb=>.int .u8 (b.toNat:Int)
def hV(esz:Nat)(v:Value)(k:List Value->Nat->bF):bF:=
 match v with
 | .slice none _ _=>k [] 0
 | .slice (some a) n _=>.get a.block λx=>match rowOf x with
   | some cs=>(match cX cs a.off (n*esz) with
     | some l=>k l n
     | none=>.fail)
   | none=>.fail
 | .string s=>bif Nat.beq esz 1 then k (ew s.data.toList) s.size else .fail
 | _=>.fail
def half:IntKind->Nat
 | .i8 | .u8=>128
 | .i16 | .u16=>32768
 | .i32 | .u32=>2147483648
 | .i64 | .u64=>9223372036854775808
def wr(k:IntKind)(n:Int):Int:=
 match n with
 | .ofNat m=>bif Nat.blt m (half k) then .ofNat m else k.wrap (.ofNat m)
 | n=>k.wrap n
def lG:Int->Int->Bool
 | .ofNat a,.ofNat b=>Nat.blt a b
 | .ofNat _,.negSucc _=>false
 | .negSucc _,.ofNat _=>true
 | .negSucc a,.negSucc b=>Nat.blt b a
def jO:Int->Int->Bool
 | .ofNat a,.ofNat b=>Nat.beq a b
 | .negSucc a,.negSucc b=>Nat.beq a b
 | _,_=>false
def iI(op:BinOp)(k:IntKind)(a b:Int):Option Value:=
 match op with
 | .add=>some (.int k (wr k (a+b)))
 | .sub=>some (.int k (wr k (a-b)))
 | .mul=>some (.int k (wr k (a*b)))
 | .quo=>bif jO b 0 then none else some (.int k (wr k (a.tdiv b)))
 | .rem=>bif jO b 0 then none else some (.int k (a.tmod b))
 | .and=>some (.int k (k.wrap (BitVec.ofInt k.bits a &&& BitVec.ofInt k.bits b).toNat))
 | .or=>some (.int k (k.wrap (BitVec.ofInt k.bits a ||| BitVec.ofInt k.bits b).toNat))
 | .xor=>some (.int k (k.wrap (BitVec.ofInt k.bits a ^^^ BitVec.ofInt k.bits b).toNat))
 | .andNot=>some (.int k (k.wrap (BitVec.ofInt k.bits a &&& ~~~ BitVec.ofInt k.bits b).toNat))
 | .eql=>some (.bool (jO a b))
 | .neq=>some (.bool (!jO a b))
 | .lss=>some (.bool (lG a b))
 | .leq=>some (.bool (!lG b a))
 | .gtr=>some (.bool (lG b a))
 | .geq=>some (.bool (!lG a b))
 | _=>none
def xr(op:BinOp)(x y:ByteArray):Option Value:=
 match op with
 | .add=>bif Nat.ble (x.size+y.size) 4294967296 then some (.string (x++y)) else none
 | .eql=>some (.bool (x.toList==y.toList))
 | .neq=>some (.bool !(x.toList==y.toList))
 | .lss=>some (.bool (Op.bytesLess x.toList y.toList))
 | .leq=>some (.bool (Op.bytesLess x.toList y.toList||x.toList==y.toList))
 | .gtr=>some (.bool !(Op.bytesLess x.toList y.toList||x.toList==y.toList))
 | .geq=>some (.bool !(Op.bytesLess x.toList y.toList))
 | _=>none
def lH:jM->Value->Value->Option Bool
 | .i,.int k a,.int k' b=>if k=k' then some (jO a b) else none
 | .s,.string a,.string b=>some (a.toList==b.toList)
 | .b,.bool a,.bool b=>some (a==b)
 | _,_,_=>none
def ij:List jM->List Value->List Value->Option Bool
 | [],[],[]=>some true
 | k::ks,a::x,b::y=>match lH k a b with
   | some true=>ij ks x y
   | some false=>(match ij ks x y with | some _=>some false | none=>none)
   | none=>none
 | _,_,_=>none
def nI:xm->Value->Value->Option Bool
 | .ptr,.pointer none,.pointer b=>some b.isNone
 | .ptr,.pointer (some _),.pointer none=>some false
 | .jN,.slice none _ _,.slice b _ _=>some b.isNone
 | .jN,.slice (some _) _ _,.slice none _ _=>some false
 | .map,.map none,.map b=>some b.isNone
 | .map,.map (some _),.map none=>some false
 | .fn,.nilFunc,.nilFunc=>some true
 | .fn,.nilFunc,.func ..=>some false
 | .fn,.func ..,.nilFunc=>some false
 | .y1 c,.nilIface,.nilIface=>bif c then some true else none
 | .y1 _,.nilIface,.iface ..=>some false
 | .y1 _,.iface ..,.nilIface=>some false
 | _,_,_=>none
def L4:Value->Value->Option Bool
 | .int k a,.int k' b=>if k=k' then some (jO a b) else none
 | .string a,.string b=>some (a.toList==b.toList)
 | _,_=>none
def nJ(k:pa)(x y:Value):Option Bool:=
 match k with
 | .aZ=>L4 x y
 | .bool=>lH .b x y
 | .nil k=>nI k x y
 | .cells ks=>match x,y with | .agg a,.agg b=>ij ks a.toList b.toList | _,_=>none
def xt(op:BinOp):Value->Value->Option Value
 | .int k a,.int _ (.ofNat n)=>(match op with
   | .shl=>some (.int k (wr k (a*2^(min n k.bits))))
   | _=>some (.int k (a.fdiv (2^(min n k.bits)))))
 | _,_=>none
def Bc(op:BinOp):Value->Value->Option Value
 | .int k a,.int k' b=>if k=k' then iI op k a b else none
 | .string a,.string b=>xr op a b
 | _,_=>none
def binOp(op:BinOp)(k:pa)(x y:Value):Option Value:=
 match op with
 | .eql=>(match nJ k x y with | some b=>some (.bool b) | none=>none)
 | .neq=>(match nJ k x y with | some b=>some (.bool (!b)) | none=>none)
 | .shl=>xt .shl x y
 | .shr=>xt .shr x y
 | op=>Bc op x y
def unOp(op:UnOp)(x:Value):Option Value:=
 match op,x with
 | .neg,.int k n=>some (.int k (wr k (0-n)))
 | .xor,.int k n=>iI .xor k (if k.signed then -1 else k.max) n
 | .not,.bool b=>some (.bool !b)
 | _,_=>none
def et:Option Value->Option Nat
 | some (.int _ (.ofNat m))=>some m
 | _=>none
def bytesOf:List Value->Option (List UInt8)
 | []=>some []
 | .int .u8 n::l=>(match bytesOf l with | some r=>some (UInt8.ofNat n.toNat::r) | none=>none)
 | _=>none
def fj(e:Env)(d:Nat):Option cD->Option Nat
 | none=>some d
 | some r=>et (bB e r)
def mb(bY:iU)(x y:Value):Option Bool:=
 match bY with
 | .one k=>lH k x y
 | .cells ks=>match x,y with | .agg a,.agg b=>ij ks a.toList b.toList | _,_=>none
def findKey(bY:iU)(k:Value):List (Value×Value×Nat)->Option (Option (Value×Nat))
 | []=>(match mb bY k k with | some true=>some none | _=>none)
 | (k',v,n)::es=>match mb bY k k' with
   | some true=>some (some (v,n))
   | some false=>findKey bY k es
   | none=>none
def Bd(bY:iU)(k x:Value):List (Value×Value×Nat)->Option (List (Value×Value×Nat))
 | []=>none
 | (k',v,n)::es=>match mb bY k k' with
   | some true=>some ((k,x,n)::es)
   | some false=>(match Bd bY k x es with | some r=>some ((k',v,n)::r) | none=>none)
   | none=>none
def Hv(n:Nat)(x:Value):List (Value×Value×Nat)->Option (List (Value×Value×Nat))
 | []=>none
 | (k,v,m)::es=>bif Nat.beq n m then some ((k,x,m)::es) else(match Hv n x es with | some r=>some ((k,v,m)::r) | none=>none)
def fill(z:List Value):List (Nat×Nat×Value)->Option (List Value)
 | []=>some z
 | (off,n,v)::cH=>bif Nat.beq v.cells.toList.length n then(match setCells z off v.cells.toList with
   | some z=>fill z cH
   | none=>none) else none
def q7(c:Conv)(v:Value):bF:=
 match c with
 | .int k=>(match v with | .int _ n=>.ret (.int k (wr k n)) | _=>.fail)
 | .id=>(match v with | .string s=>.ret (.string s) | _=>.fail)
 | .D0=>(match v with
   | .string s=>.new (.cells (ew s.data.toList) (.n 1)) λb=>.ret (.slice (some ⟨b,0,none⟩) s.size s.size)
   | _=>.fail)
 | .L3=>(match v with
   | .slice ..=>hV 1 v λl _=>match bytesOf l with | some cW=>.ret (.string ⟨cW.toArray⟩) | none=>.fail
   | _=>.fail)
def nK(esz:Nat)(a:Option Addr)(l h m cap:Nat):bF:=
 bif Nat.ble l h&&Nat.ble h m&&Nat.ble m cap then(match a with
  | none=>.ret (.slice none (h-l) (m-l))
  | some a=>.get a.block λx=>match x with
    | .cells _ z=>bif Nat.beq z.val esz||Nat.beq z.val 0 then .ret (.slice (some ⟨a.block,a.off+l*esz,none⟩) (h-l) (m-l)) else .fail
    | .ro _=>.ret (.slice (some ⟨a.block,a.off+l*esz,none⟩) (h-l) (m-l))
    | _=>.fail) else .fail
def iV(esz bytes:Nat)(s:Value)(new:List Value)(n:Nat):bF:=
 match s with
 | .slice base len cap=>
   bif Nat.beq n 0 then .ret (.slice base len cap) else
   bif Nat.ble (len+n) cap then(match base with
    | some a=>putRow ⟨a.block,a.off+len*esz,none⟩ new (.ret (.slice base (len+n) cap))
    | none=>.fail)
   else bif Nat.ble ((len+n)*bytes) 17179869184&&Nat.ble 1 esz&&Nat.ble (len+n) 17179869184&&new.all fG then(match base with
    | some a=>.get a.block λx=>match x with
      | .cells cs z=>bif Nat.beq z.val esz then(match cX cs a.off (len*esz) with
       | some old=>.put a.block .dead (.new (.cells (old++new) (.n esz)) λb=>.ret (.slice (some ⟨b,0,none⟩) (len+n) (len+n)))
       | none=>.fail) else .fail
      | _=>.fail
    | none=>.new (.cells new (.n esz)) λb=>.ret (.slice (some ⟨b,0,none⟩) (len+n) (len+n))) else .fail
 | _=>.fail
def Hw(e bytes:Nat)(s x:Value):bF:=
 match s,x with
 | .slice base len cap,.string t=>
   bif Nat.ble 1 t.size&&(Nat.ble ((len+t.size)*bytes) 17179869184&&(Nat.ble (len+t.size) 17179869184&&Nat.beq cap len)) then(match base with
    | none=>.new (.bytes e t.data.toList) λb=>.ret (.slice (some ⟨b,0,none⟩) (len+t.size) (len+t.size))
    | some a=>.get a.block λx=>match x with
      | .bytes bw cW=>bif Nat.beq bw e&&(Nat.beq a.off 0&&Nat.beq len cW.length) then
       .put a.block .dead (.new (.bytes e (cW++t.data.toList)) λb=>.ret (.slice (some ⟨b,0,none⟩) (len+t.size) (len+t.size))) else .fail
      | _=>.fail) else .fail
 | _,_=>.fail
def Hx(esz:Nat)(d:Value)(src:List Value)(n:Nat):bF:=
 match d with
 | .slice none _ _=>.ret (.int .i64 0)
 | .slice (some a) len _=>bif Nat.beq (Nat.min n len) 0 then .ret (.int .i64 0) else
  putRow a (src.take (Nat.min n len*esz)) (.ret (.int .i64 (Nat.min n len:Int)))
 | _=>.fail
def y4(bY:iU)(z:Value)(ok:Bool)(k:Value):Option Value->bF
 | some (.map none)=>(match mb bY k k with
   | some true=>.ret (bif ok then .tuple #[z,.bool false] else z)
   | _=>.fail)
 | some (.map (some r))=>.get r λx=>match x with
   | .map es _=>(match findKey bY k es with
     | some (some (v,_))=>.ret (bif ok then .tuple #[v,.bool true] else v)
     | some none=>.ret (bif ok then .tuple #[z,.bool false] else z)
     | none=>.fail)
   | _=>.fail
 | _=>.fail
def Hy(bY:iU)(k x:Value):Option Value->bF
 | some (.map (some r))=>.get r λy=>match y with
   | .map es c=>(match findKey bY k es with
     | some (some _)=>(match Bd bY k x es with
       | some es=>.put r (.map es c) (.ret zWb)
       | none=>.fail)
     | some none=>.put r (.map (es++[(k,x,c)]) (c+1)) (.ret zWb)
     | none=>.fail)
   | _=>.fail
 | _=>.fail
def Hz(bY:iU)(z k:Value):Option Value->bF
 | some (.map (some r))=>.get r λy=>match y with
   | .map es c=>(match findKey bY k es with
     | some (some (v,n))=>(match Bd bY k v es with
       | some es=>.put r (.map es c) (.ret (.tuple #[v,.int .i64 (n:Int)]))
       | none=>.fail)
     | some none=>.put r (.map (es++[(k,z,c)]) (c+1)) (.ret (.tuple #[z,.int .i64 (c:Int)]))
     | none=>.fail)
   | _=>.fail
 | _=>.fail
def HA(n:Nat)(x:Value):Option Value->bF
 | some (.map (some r))=>.get r λy=>match y with
   | .map es c=>(match Hv n x es with
     | some es=>.put r (.map es c) (.ret zWb)
     | none=>.fail)
   | _=>.fail
 | _=>.fail
def HB:Option Value->bF
 | some (.pointer (some a))=>.get a.block λx=>match x with
   | .iter s pos=>bif Nat.beq a.off 0 then(bif Nat.blt pos s.size then
    .put a.block (.iter s (pos+(Utf8.decode s pos).2)) (.ret (.tuple #[.bool true,.int .i64 (pos:Int),.int .i32 (Utf8.decode s pos).1]))
    else .ret (.tuple #[.bool false])) else .fail
   | _=>.fail
 | _=>.fail
def HC(z:List Value):Option Value->bF
 | some (.slice none _ _)=>.ret zWb
 | some (.slice (some a) n _)=>bif Nat.beq n 0 then .ret zWb else putRow a (times z n) (.ret zWb)
 | _=>.fail
def HD:Option Value->bF
 | some (.map none)=>.ret zWb
 | some (.map (some r))=>.get r λx=>match x with
   | .map _ c=>.put r (.map [] c) (.ret zWb)
   | _=>.fail
 | _=>.fail
def xu:Hs->Option Value->bF
 | .s,some (.string s)=>.ret (.int .i64 (s.size:Int))
 | .l,some (.slice _ n _)=>.ret (.int .i64 (n:Int))
 | .m,some (.map none)=>.ret (.int .i64 0)
 | .m,some (.map (some r))=>.get r λx=>match x with
   | .map es _=>.ret (.int .i64 (es.length:Int))
   | _=>.fail
 | _,_=>.fail
def vo(esz:Nat):Option Value->Option Nat->bF
 | some (.slice (some a) len _),some i=>bif Nat.blt i len then .ret (.pointer (some ⟨a.block,a.off+i*esz,none⟩)) else .fail
 | _,_=>.fail
def vp(n esz:Nat):Option Value->Option Nat->bF
 | some (.pointer (some a)),some i=>bif Nat.blt i n then .ret (.pointer (some ⟨a.block,a.off+i*esz,none⟩)) else .fail
 | _,_=>.fail
def vq:Option Value->Option Nat->bF
 | some (.string s),some i=>(match s.data.toList[i]? with | some b=>.ret (.int .u8 (b.toNat:Int)) | none=>.fail)
 | _,_=>.fail
def xv(agg:Bool)(n esz:Nat):Option Value->Option Nat->bF
 | some (.agg cs),some i=>bif Nat.blt i n then hU (vn agg (i*esz) esz cs.toList) else .fail
 | _,_=>.fail
def sa:Option Value->Option Nat->Option (Nat->Option Nat)->bF
 | some (.string s),some l,some h=>(match h s.size with
   | some h=>bif Nat.ble l h&&Nat.ble h s.size then .ret (.string (s.extract l h)) else .fail
   | none=>.fail)
 | _,_,_=>.fail
def vt(n esz:Nat):Option Value->Option Nat->Option Nat->bF
 | some (.pointer (some a)),some l,some h=>bif Nat.ble l h&&Nat.ble h n then .ret (.slice (some ⟨a.block,a.off+l*esz,none⟩) (h-l) (n-l)) else .fail
 | _,_,_=>.fail
def tu(z:List Value)(bytes:Nat):Option Nat->Option Nat->bF
 | some l,some c=>bif Nat.ble l c&&Nat.ble c 1073741824&&Nat.ble (bytes*c) 17179869184 then
  .new (.cells (times z c) (.n z.length)) λb=>.ret (.slice (some ⟨b,0,none⟩) l c) else .fail
 | _,_=>.fail
def pY(hf:Bool):Option Value->Option Value->bF
 | some (.int k a),some (.int _ b)=>.ret (.int k (bif (bif hf then lG a b else lG b a) then b else a))
 | _,_=>.fail
def eN(x:Option Value)(k:Value->bF):bF:=match x with | some v=>k v | none=>.fail
def bM.cA(e:Env):bM->bF
 | .aM x=>hU (bB e x)
 | .pick c a b=>eN (bB e c) fun
   | .bool true=>hU (bB e a)
   | .bool false=>hU (bB e b)
   | _=>.fail
 | .alloc t z=>.new (.cells z (.t t)) λb=>.ret (ptr b)
 | .box t x=>eN (bB e x) λv=>.new (.cells v.cells.toList (.t t)) λb=>.ret (ptr b)
 | .build z cH=>(match nH e cH with
   | some l=>(match fill z l with | some cs=>.ret (c5 cs) | none=>.fail)
   | none=>.fail)
 | .buildSlice z esz ln cH=>(match nH e cH with
   | some l=>(match fill z l with
     | some cs=>.new (.cells cs (.n esz)) λb=>.ret (.slice (some ⟨b,0,none⟩) ln ln)
     | none=>.fail)
   | none=>.fail)
 | .load agg n a=>pX agg n (bB e a)
 | .store n a x=>q6 n (bB e a) (bB e x)
 | .nilCheck x=>eN (bB e x) fun
   | .pointer (some a)=>.ret (.pointer (some a))
   | _=>.fail
 | .bin op k x y=>eN (bB e x) λa=>eN (bB e y) λb=>hU (binOp op k a b)
 | .un op x=>eN (bB e x) λa=>hU (unOp op a)
 | .conv c x=>eN (bB e x) (q7 c)
 | .Ht t x=>eN (bB e x) λv=>.ret (.iface t v)
 | .y2 f q5=>(match fD e q5 with | some l=>.ret (.func (.func f) #[] l.toArray) | none=>.fail)
 | .mkMap=>.new (.map [] 0) λb=>.ret (.map (some b))
 | .mkSlice z bytes l c=>tu z bytes (et (bB e l)) (et (bB e c))
 | .nF x lo ad=>sa (bB e x) (fj e 0 lo) (some λn=>fj e n ad)
 | .nG esz x lo ad hf=>eN (bB e x) fun
   | .slice a ln fH=>(match fj e 0 lo,fj e ln ad,fj e fH hf with
     | some l,some h,some m=>nK esz a l h m fH
     | _,_,_=>.fail)
   | _=>.fail
 | .D1 n esz x lo ad=>vt n esz (bB e x) (fj e 0 lo) (fj e n ad)
 | .fieldAddr off x=>eN (bB e x) fun
   | .pointer (some a)=>.ret (.pointer (some ⟨a.block,a.off+off,none⟩))
   | _=>.fail
 | .field agg off n x=>eN (bB e x) fun
   | .agg cs=>hU (vn agg off n cs.toList)
   | _=>.fail
 | .ho esz x i=>vo esz (bB e x) (et (bB e i))
 | .y3 n esz x i=>vp n esz (bB e x) (et (bB e i))
 | .pV x i=>vq (bB e x) (et (bB e i))
 | .Hu agg n esz x i=>xv agg n esz (bB e x) (et (bB e i))
 | .lookup bY z ok x k=>eN (bB e k) λk=>y4 bY z ok k (bB e x)
 | .mapUpdate bY m k x=>eN (bB e k) λk=>eN (bB e x) λx=>Hy bY k x (bB e m)
 | .mapEntry bY z m k=>eN (bB e k) λk=>Hz bY z k (bB e m)
 | .entryStore m s x=>(match et (bB e s) with | some n=>eN (bB e x) λx=>HA n x (bB e m) | none=>.fail)
 | .D2 x=>eN (bB e x) fun
   | .string s=>.new (.iter s 0) λb=>.ret (ptr b)
   | _=>.fail
 | .D3 it=>HB (bB e it)
 | .extract x i=>eN (bB e x) fun
   | .tuple vs=>hU vs.toList[i]?
   | _=>.fail
 | .len k x=>xu k (bB e x)
 | .append esz bytes s x=>eN (bB e x) λx=>eN (bB e s) λs=>hV esz x λnew n=>iV esz bytes s new n
 | .Ba el bytes s x=>eN (bB e x) λx=>eN (bB e s) λs=>Hw el bytes s x
 | .copy esz d s=>eN (bB e s) λs=>eN (bB e d) λd=>hV esz s λsrc n=>Hx esz d src n
 | .D4 z x=>HC z (bB e x)
 | .D5 x=>HD (bB e x)
 | .min2 x y=>pY false (bB e x) (bB e y)
 | .max2 x y=>pY true (bB e x) (bB e y)
 | _=>.fail
def bM.run(K:c8)(lo:Perm)(e:Env)(H:ah):bM->Option (Value×ah)
 | .call f args=>(match fD e args with
   | some l=>K lo f l H
   | none=>none)
 | .mP tt args=>(match bB e tt with
   | some (.func (.func f) _ q5)=>(match fD e args with
     | some l=>K lo f (l++q5.toList) H
     | none=>none)
   | _=>none)
 | o=>(o.cA e).run lo H
def putDst(e:Env)(d:Option Nat)(v:Value):Env:=
 match d with
 | some d=>e.set v d
 | none=>e
def aE.wanted(o:aE)(e:Env):Option Bool:=
 match o.guard with
 | none=>some true
 | some (j,want)=>match e.get j with
   | some (.bool b)=>some (b==want)
   | some _=>some false
   | none=>none
def aE.run(K:c8)(lo:Perm)(o:aE)(e:Env)(H:ah):Option (Value×ah):=
 match o.wanted e with
 | some true=>o.op.run K lo e H
 | some false=>some (zWb,H)
 | none=>none
def mQ(K:c8)(lo:Perm):List aE->Env->ah->Option (Env×ah)
 | [],e,H=>some (e,H)
 | o::ops,e,H=>match o.run K lo e H with
   | some (v,H)=>mQ K lo ops (putDst e o.dst v) H
   | none=>none
end Go.Dam
namespace Go.Dam
open Go
def cD.hp:cD->List Nat
 | .t n=>[n]
 | .c _=>[]
def Bf:Option cD->List Nat
 | some r=>r.hp
 | none=>[]
def bM.hp:bM->List Nat
 | .aM x | .box _ x | .load _ _ x | .nilCheck x | .un _ x | .conv _ x | .Ht _ x | .fieldAddr _ x | .field _ _ _ x | .D2 x | .D3 x | .extract x _
 | .len _ x | .D4 _ x | .D5 x=>x.hp
 | .pick a b c | .mapUpdate _ a b c | .entryStore a b c=>a.hp++(b.hp++c.hp)
 | .alloc .. | .mkMap | .bad _=>[]
 | .build _ cH | .buildSlice _ _ _ cH=>cH.flatMap λp=>p.2.2.hp
 | .store _ a b | .bin _ _ a b | .mkSlice _ _ a b | .ho _ a b | .y3 _ _ a b | .pV a b | .Hu _ _ _ a b | .lookup _ _ _ a b | .mapEntry _ _ a b
 | .append _ _ a b | .Ba _ _ a b | .copy _ a b | .min2 a b | .max2 a b=>a.hp++b.hp
 | .y2 _ l | .call _ l=>l.flatMap cD.hp
 | .mP f l=>f.hp++l.flatMap cD.hp
 | .nF x a b | .D1 _ _ x a b=>x.hp++(Bf a++Bf b)
 | .nG _ x a b c=>x.hp++(Bf a++(Bf b++Bf c))
def bM.rd:bM->Bool
 | .load .. | .nG .. | .conv .. | .lookup .. | .len ..=>true
 | _=>false
def bM.md:bM->Bool
 | .store .. | .append .. | .Ba .. | .copy .. | .D4 .. | .D5 .. | .mapUpdate .. | .mapEntry .. | .entryStore .. | .D3 ..=>true
 | _=>false
def bM.lJ:bM->Bool
 | .alloc .. | .box .. | .buildSlice .. | .mkMap | .mkSlice .. | .conv .D0 _ | .D2 .. | .append .. | .Ba ..=>true
 | _=>false
def bM.dL:bM->Bool
 | .call .. | .mP ..=>true
 | _=>false
def aE.looks(o:aE):List Nat:=(match o.guard with | some (j,_)=>[j] | none=>[])++o.op.hp
def HI(x y:aE):Bool:=
 (match x.dst with | some d=>!y.looks.contains d&&y.dst != some d | none=>true)&&(match y.dst with | some d=>!x.looks.contains d | none=>true)
def Bg(i j:Nat)(x y:aE):Option (List (Nat×Nat)):=
 bif HI x y&&!x.op.dL&&!(y.op.dL&&x.op.md) then
  some ((bif (x.op.md||x.op.dL||x.op.lJ)&&(y.op.rd||y.op.md||y.op.dL) then[(i,j)] else[])++(bif (y.op.md||y.op.dL||y.op.lJ)&&(x.op.rd||x.op.md||x.op.dL) then[(j,i)] else[]))
 else none
def D7(bf:Nat->Nat->Bool)(oo:Nat)(j:Nat)(y:aE):List (Nat×aE)->Nat->Option (List (Nat×Nat))
 | [],_=>some []
 | x::xs,i=>bif Nat.blt i j then(bif bf x.1 oo then D7 bf oo j y xs (i+1) else
    match Bg i j x.2 y with
    | some l=>(match D7 bf oo j y xs (i+1) with | some r=>some (l++r) | none=>none)
    | none=>none) else some []
def D8(bf:Nat->Nat->Bool)(all:List (Nat×aE)):List (Nat×aE)->Nat->Option (List (Nat×Nat))
 | [],_=>some []
 | y::dz,j=>match D7 bf y.1 j y.2 all 0 with
   | some l=>(match D8 bf all dz (j+1) with | some r=>some (l++r) | none=>none)
   | none=>none
def vv(ops:Array Oper):Bool:=ops.toList.zipIdx.all λ(o,j)=>o.after.all λe=>!Region.binds .any e||e.on<j
def D'(o:aE):Bool:=o.op.rd||o.op.md||o.op.dL||o.op.lJ
def Bl(bf:Nat->Nat->Bool)(oo j:Nat):List (Nat×aE)->Nat->Bool
 | [],_=>true
 | x::xs,i=>(Nat.beq i j||!D' x.2||(bif Nat.blt i j then bf x.1 oo else bf oo x.1))&&Bl bf oo j xs (i+1)
def Bk(bf:Nat->Nat->Bool)(all:List (Nat×aE)):List (Nat×aE)->Nat->List Bool
 | [],_=>[]
 | y::dz,j=>Bl bf y.1 j all 0::Bk bf all dz (j+1)
def MZ(bf:Nat->Nat->Bool)(ds:List (Nat×aE)):Nat->List Nat->List Nat
 | 0,done=>done.reverse
 | n+1,done=>
   let rs:=ds.filter λx=>!done.contains x.1&&ds.all λy=>!bf y.1 x.1||done.contains y.1
   match rs.find? (λx=>!x.2.op.dL),rs.head? with
   | some x,_=>MZ bf ds n (x.1::done)
   | none,some x=>MZ bf ds n (x.1::done)
   | none,none=>done.reverse
structure pc where
 ord:List Nat
 fixed:List Bool
 oq:List (Nat×Nat)
def dt(ds:List aE)(ord:List Nat):List (Nat×aE):=ord.filterMap λi=>(ds[i]?).map λo=>(i,o)
def HP(ops:Array Oper)(ds:List aE):Option pc:=
 let pre:=Region.before ops
 let bf:=λi j=>(pre.getD j 0).testBit i
 let ord:=MZ bf (dt ds (List.range ds.length)) ds.length []
 let rs:=dt ds ord
 if vv ops&&decide ord.Nodup&&(List.range ds.length).all (ord.contains ·)&&rs.length==ds.length then(match D8 bf rs rs 0 with
  | some l=>some ⟨ord,Bk bf rs rs 0,l⟩
  | none=>none) else none
def bF.runT(lo:Perm):bF->ah->Option (Value×ah×List Nat×List Nat)
 | .ret v,H=>some (v,H,[],[])
 | .fail,_=>none
 | .get b k,H=>match H.get b with
   | some x=>(match (k x).runT lo H with | some (v,H,f,m)=>some (v,H,b::f,m) | none=>none)
   | none=>none
 | .put b x k,H=>bif lo.may b then(match k.runT lo (H.put b x) with | some (v,H,f,m)=>some (v,H,f,b::m) | none=>none) else none
 | .new x k,H=>match (k (lo.pick H)).runT lo (lo.make H x) with
   | some (v,H',f,m)=>some (v,H',f,lo.pick H::m)
   | none=>none
def gI(lo:Perm):List Value->List Nat
 | []=>[]
 | .pointer (some a)::l=>bif lo.may a.block then a.block::gI lo l else gI lo l
 | _::l=>gI lo l
def bM.y7(lo:Perm)(e:Env):bM->List Nat
 | .call _ args=>(match fD e args with | some l=>gI lo l | none=>[])
 | .mP _ args=>(match fD e args with | some l=>gI lo l | none=>[])
 | _=>[]
def bM.runT(K:c8)(lo:Perm)(fx:Bool)(e:Env)(H:ah)(o:bM):Option (Value×ah×List Nat×List Nat):=
 bif o.dL then bif fx then(match o.run K ⟨lo.lo,lo.ok,none⟩ e H with | some (v,H')=>some (v,H',[],[]) | none=>none) else(match o.run K ⟨H.next,o.y7 lo e,none⟩ e H with | some (v,H')=>some (v,H',[],o.y7 lo e) | none=>none)
 else(o.cA e).runT lo H
def aE.runT(K:c8)(lo:Perm)(fx:Bool)(o:aE)(e:Env)(H:ah):Option (Value×ah×List Nat×List Nat):=
 match o.wanted e with
 | some true=>o.op.runT K lo fx e H
 | some false=>some (zWb,H,[],[])
 | none=>none
structure Rec where
 xz:List Nat
 se:List Nat
 heap:ah
 val:Value
 again:ah->Option Value
def ik(H:ah)(agg:Bool)(n:Nat):Option Value->Option Value
 | some (.pointer (some a))=>match H.get a.block with
   | some x=>(match rowOf x with | some cs=>vn agg a.off n cs | none=>none)
   | none=>none
 | _=>none
def aE.again(o:aE)(e:Env)(H:ah):Option Value:=
 match o.wanted e,o.op with
 | some true,.load agg n a=>ik H agg n (bB e a)
 | _,_=>none
def me(K:c8)(lo:Perm):List aE->Nat->List Bool->Env->ah->Option (Env×ah×List Rec)
 | [],_,_,e,H=>some (e,H,[])
 | o::ops,b,fx,e,H=>match H.get b,o.runT K ⟨lo.lo,lo.ok,some b⟩ (fx.headD false) e H with
   | none,some (v,H',f,m)=>(match me K lo ops (b+1) fx.tail (putDst e o.dst v) H' with
     | some (bw,H',l)=>some (bw,H',⟨f,m,H,v,o.again e⟩::l)
     | none=>none)
   | _,_=>none
def gp(l r:List Nat):Bool:=l.all λb=>!r.contains b
def D9:Value->Value->Bool
 | .bool a,.bool b=>a==b
 | .int k a,.int k' b=>decide (k=k')&&jO a b
 | .string a,.string b=>a.data==b.data
 | .pointer none,.pointer none=>true
 | .pointer (some ⟨a,i,none⟩),.pointer (some ⟨b,j,none⟩)=>Nat.beq a b&&Nat.beq i j
 | .slice none n c,.slice none m d=>Nat.beq n m&&Nat.beq c d
 | .slice (some ⟨a,i,none⟩) n c,.slice (some ⟨b,j,none⟩) m d=>Nat.beq a b&&Nat.beq i j&&(Nat.beq n m&&Nat.beq c d)
 | .map none,.map none=>true
 | .map (some a),.map (some b)=>Nat.beq a b
 | .nilFunc,.nilFunc=>true
 | .nilIface,.nilIface=>true
 | _,_=>false
def Bi:List Value->List Value->Bool
 | [],[]=>true
 | a::x,b::y=>D9 a b&&Bi x y
 | _,_=>false
def p1:Value->Value->Bool
 | .agg a,.agg b=>Bi a.toList b.toList
 | a,b=>D9 a b
def xA(again:ah->Option Value)(v:Value)(H:ah):Bool:=
 match again H with
 | some u=>p1 u v
 | none=>false
def HQ(l:List Rec)(H:ah)(r:Rec):Bool:=(l.all λx=>xA r.again r.val x.heap)&&xA r.again r.val H
def dx(l:List Rec)(H:ah)(c:List (Nat×Nat)):Bool:=
 c.all λ(i,j)=>match l[i]?,l[j]? with
  | some x,some y=>gp x.se y.se&&(gp x.se y.xz||HQ l H y)
  | _,_=>false
def dm(l:List Rec)(b0:Nat):List Rec->Nat->Bool
 | [],_=>true
 | r::rs,q=>(r.xz.all λb=>Nat.blt b b0||Nat.ble (b0+l.length) b||Nat.beq b (b0+q)||(Nat.blt b (b0+q)&&(match l[b-b0]? with | some x=>x.se.contains b | none=>false)))&&dm l b0 rs (q+1)
def vy(K:c8)(lo:Perm)(ops:List aE)(rf:Option pc)(e:Env)(H:ah):Option (Env×ah):=
 match rf with
 | some c=>bif Nat.ble lo.lo H.next then(match me K lo ((dt ops c.ord).map (·.2)) H.next c.fixed e ⟨H.t,H.next+ops.length⟩ with
   | some (e,H',l)=>bif dx l H' c.oq&&dm l H.next l 0 then some (e,H') else none
   | none=>none) else none
 | none=>none
inductive ae where
 | skip
 | aT (ops:List aE)
 | draw (ops:List aE) (rf:Option pc)
 | seq (a b:ae)
 | cond (c:cD) (a b:ae)
 | block (id:Nat) (b:ae)
 | loop (b:ae)
 | exit (id:Nat)
 | ret
 | bad (as8:String)
structure b2 where
 lL:Nat
 body:ae
 res:List r9
section compile
variable(P:Program)(G:Nat->Bool)
def calm(o:Oper):Bool:=match o.op with
 | .call _=>true
 | _=>!(ig P G o).dL
def tw(n:Nat)(ops:Array Oper)(o:Oper):Bool:=
 (match o.dst with | some d=>decide (d<n) | none=>true)&&(match o.guard with | some (j,_)=>((ops[j]?).bind (·.dst)).isSome | none=>true)&&calm P G o
def gq(n:Nat)(ops:Array Oper)(o:Oper):aE:=
 if tw P G n ops o then{dst:=o.dst,guard:=o.guard.map λ(j,b)=>((((ops[j]?).bind (·.dst)).getD 0),b),op:=ig P G o} else{dst:=none,guard:=none,op:=.bad "slot"}
def nL(n:Nat)(ops:Array Oper):List aE:=ops.toList.map (gq P G n ops)
def ky(n:Nat):Code->ae
 | .skip=>.skip
 | .region _ ops false=>.aT (nL P G n ops)
 | .region _ ops true=>.draw (nL P G n ops) (HP ops (nL P G n ops))
 | .seq a b=>.seq (ky n a) (ky n b)
 | .cond c a b=>.cond (rand G c) (ky n a) (ky n b)
 | .block id b=>.block id (ky n b)
 | .loop b=>.loop (ky n b)
 | .exit id=>.exit id
 | .ret=>.ret
 | _=>.bad "code"
def M0:ResultVar->Bool
 | .cell _ t=>known P t
 | .tmp _=>true
def Iq:ResultVar->r9
 | .tmp t=>.slot t
 | .cell a t=>.cell a (oh P t) (P.cellsOf t)
def sh(f:Func):b2:=
 {lL:=f.ntmps,
  body:=(match f.body with | some c=>if f.ntmps<=xn/\f.results.all (M0 P)=true then ky P G f.ntmps c else .bad "wide" | none=>.bad "nobody"),
  res:=f.results.toList.map (Iq P)}
end compile
inductive gr where
 | normal | exit (id:Nat) | ret
abbrev Out:=Option (gr×Env×ah)
def iter(f:Env->ah->Out):Nat->Env->ah->Out
 | 0,_,_=>none
 | n+1,e,H=>match f e H with
   | some (.normal,e,H)=>iter f n e H
   | r=>r
def eval(K:c8)(lo:Perm)(fuel:Nat):ae->Env->ah->Out
 | .skip,e,H=>some (.normal,e,H)
 | .aT ops,e,H=>match mQ K lo ops e H with
   | some (e,H)=>some (.normal,e,H)
   | none=>none
 | .draw ops rf,e,H=>match vy K lo ops rf e H with
   | some (e,H)=>some (.normal,e,H)
   | none=>none
 | .seq a b,e,H=>match eval K lo fuel a e H with
   | some (.normal,e,H)=>eval K lo fuel b e H
   | r=>r
 | .cond c a b,e,H=>match bB e c with
   | some (.bool true)=>eval K lo fuel a e H
   | some (.bool false)=>eval K lo fuel b e H
   | _=>none
 | .block id b,e,H=>match eval K lo fuel b e H with
   | some (.exit i,e,H)=>bif Nat.beq i id then some (.normal,e,H) else some (.exit i,e,H)
   | r=>r
 | .loop b,e,H=>iter (eval K lo fuel b) fuel e H
 | .exit id,e,H=>some (.exit id,e,H)
 | .ret,e,H=>some (.ret,e,H)
 | .bad _,_,_=>none
def tG:List Value->Nat->Env->Env
 | [],_,e=>e
 | v::l,n,e=>tG l (n+1) (e.set v n)
def ou(e:Env)(H:ah):List r9->Option (List Value)
 | []=>some []
 | r::rs=>match (match r with | .slot t=>e.get t | .cell t g n=>ik H g n (e.get t)) with
   | some v=>(match ou e H rs with | some l=>some (v::l) | none=>none)
   | none=>none
def j5:List Value->Value
 | [v]=>v
 | l=>.tuple l.toArray
def By(K:c8)(lo:Perm)(fuel:Nat)(F:b2)(args:List Value)(H:ah):Option (Value×ah):=
 bif !Nat.ble args.length F.lL then none else match eval K lo fuel F.body (tG args 0 .ak) H with
 | some (.normal,e,H) | some (.ret,e,H)=>(match ou e H F.res with
   | some l=>some (j5 l,H)
   | none=>none)
 | _=>none
def runK(T:Nat->Option b2)(S:c8->c8)(fuel:Nat):Nat->c8
 | 0=>λ_ _ _ _=>none
 | n+1=>S λlo f args H=>match T f with
   | some F=>By (runK T S fuel n) lo fuel F args H
   | none=>none
theorem ed(a b:Nat):Nat.beq a b=decide (a=b):=by
 by_cases h:a=b
 ·subst h;simp
 ·simp only[h,decide_false];cases e:Nat.beq a b
  ·rfl
  ·exact absurd (Nat.eq_of_beq_eq_true e) h
theorem dA(a b:Nat):Nat.ble a b=decide (a<=b):=by
 by_cases h:a<=b
 ·simp only[h,decide_true];exact Nat.ble_eq_true_of_le h
 ·simp only[h,decide_false];cases e:Nat.ble a b
  ·rfl
  ·exact absurd (Nat.le_of_ble_eq_true e) h
theorem js(a b:Nat):Nat.blt a b=decide (a<b):=by
 unfold Nat.blt;rw[dA];rfl
namespace cI
variable{α:Type}
theorem zf(l:cI α)(v:Option α)(r:cI α)(k:Nat):(cI.aP l v r).get k=if k=0 then v else if k%2=1 then l.get (k/2) else r.get (k/2-1):=by
 rw[get,ed,ed];by_cases h:k=0<;>by_cases aa:k%2=1<;>simp[h,aa]
theorem auh(x:α)(n k:Nat):one x (n+1) k=if k=0 then .aP .ak (some x) .ak else if k%2=1 then .aP (one x n (k/2)) none .ak else .aP .ak none (one x n (k/2-1)):=by
 rw[one,ed,ed];by_cases h:k=0<;>by_cases aa:k%2=1<;>simp[h,aa]
theorem aui(x:α)(l:cI α)(v:Option α)(r:cI α)(k:Nat):set x (.aP l v r) k=if k=0 then .aP l (some x) r else if k%2=1 then .aP (l.set x (k/2)) v r else .aP l v (r.set x (k/2-1)):=by
 rw[set,ed,ed];by_cases h:k=0<;>by_cases aa:k%2=1<;>simp[h,aa]
theorem M1(k:Nat):(cI.ak:cI α).get k=none:=rfl
theorem M3(x:α):∀(n k j:Nat),k<n->(one x n k).get j=if j=k then some x else none
 | 0,_,_,h=>by omega
 | n+1,k,j,h=>by
   rw[auh];by_cases ag:k=0
   ·subst ag;rw[if_pos rfl,zf];simp only[M1];by_cases aH:j=0<;>simp[aH]
   ·rw[if_neg ag];by_cases aa:k%2=1
    ·rw[if_pos aa,zf,M3 x n (k/2) (j/2) (by omega),M1];by_cases aH:j=0
     ·subst aH;simp[Ne.symm ag]
     ·rw[if_neg aH];by_cases j8:j%2=1
      ·rw[if_pos j8];by_cases e:j=k
       ·subst e;simp
       ·rw[if_neg (by omega),if_neg e]
      ·rw[if_neg j8,if_neg (λ(e:j=k)=>j8 (e▸aa))]
    ·rw[if_neg aa,zf,M3 x n (k/2-1) (j/2-1) (by omega),M1];by_cases aH:j=0
     ·subst aH;simp[Ne.symm ag]
     ·rw[if_neg aH];by_cases j8:j%2=1
      ·rw[if_pos j8,if_neg (λ(e:j=k)=>aa (e▸j8))]
      ·rw[if_neg j8];by_cases e:j=k
       ·subst e;simp
       ·rw[if_neg (by omega),if_neg e]
theorem pb(x:α):∀(t:cI α) (k j:Nat),(set x t k).get j=if j=k then some x else t.get j
 | .ak,k,j=>by rw[set,M3 x _ _ _ (by omega)];rfl
 | .aP l v r,k,j=>by
   rw[aui,zf];by_cases ag:k=0
   ·subst ag;rw[if_pos rfl,zf];by_cases aH:j=0<;>simp[aH]
   ·rw[if_neg ag];by_cases aa:k%2=1
    ·rw[if_pos aa,zf,pb x l (k/2) (j/2)];by_cases aH:j=0
     ·subst aH;simp[Ne.symm ag]
     ·rw[if_neg aH,if_neg aH];by_cases j8:j%2=1
      ·rw[if_pos j8,if_pos j8];by_cases e:j=k
       ·subst e;simp
       ·rw[if_neg (by omega),if_neg e]
      ·rw[if_neg j8,if_neg j8,if_neg (λ(e:j=k)=>j8 (e▸aa))]
    ·rw[if_neg aa,zf,pb x r (k/2-1) (j/2-1)];by_cases aH:j=0
     ·subst aH;simp[Ne.symm ag]
     ·rw[if_neg aH,if_neg aH];by_cases j8:j%2=1
      ·rw[if_pos j8,if_pos j8,if_neg (λ(e:j=k)=>aa (e▸j8))]
      ·rw[if_neg j8,if_neg j8];by_cases e:j=k
       ·subst e;simp
       ·rw[if_neg (by omega),if_neg e]
end cI
theorem ah.fS(H:ah)(b c:Nat)(x:cj):(H.put b x).get c=if c=b then some x else H.get c:=cI.pb x H.t b c
theorem ah.qa(H:ah)(c:Nat)(x:cj):(H.new x).get c=if c=H.next then some x else H.get c:=cI.pb x H.t H.next c
structure Loc where
 bI:Nat
 d:Nat
 s:Nat
 e:Nat
abbrev bo:=Nat->Option Loc
mutual
inductive bg(γ:bo):Value->Value->Prop
 | bool (b:Bool):bg γ (.bool b) (.bool b)
 | int (k:IntKind) (n:Int):bg γ (.int k n) (.int k n)
 | str (s:ByteArray):bg γ (.string s) (.string s)
 | EI:bg γ (.pointer none) (.pointer none)
 | xH:bg γ (.slice none 0 0) (.slice none 0 0)
 | Wg:bg γ (.map none) (.map none)
 | Wh:bg γ .nilFunc .nilFunc
 | M4:bg γ .nilIface .nilIface
 | ptr {b off:Nat} {L:Loc} (h:γ b=some L):bg γ (.pointer (some ⟨b,off,none⟩)) (.pointer (some ⟨L.bI,L.d+off,none⟩))
 | jN {b off n cap dN:Nat} {L:Loc} (h:γ b=some L) (af:cap<=dN) (aF:n<=cap) (az:dN=cap∨0<L.s/\L.d+off+dN*L.s<=L.e):
  bg γ (.slice (some ⟨b,off,none⟩) n cap) (.slice (some ⟨L.bI,L.d+off,none⟩) n dN)
 | p9 {b off:Nat} {a':Addr} {L:Loc} (h:γ b=some L):bg γ (.slice (some ⟨b,off,none⟩) 0 0) (.slice (some a') 0 0)
 | Ir {r:Nat} {L:Loc} (h:γ r=some L):bg γ (.map (some r)) (.map (some L.bI))
 | func {f:FuncId} {l l':List Value} (h:cm γ l l'):bg γ (.func (.func f) #[] ⟨l⟩) (.func (.func f) #[] ⟨l'⟩)
 | iface {t:TypeId} {v v':Value} (h:bg γ v v'):bg γ (.iface t v) (.iface t v')
 | agg {l l':List Value} (h:cm γ l l'):bg γ (.agg ⟨l⟩) (.agg ⟨l'⟩)
 | tuple {l l':List Value} (h:cm γ l l'):bg γ (.tuple ⟨l⟩) (.tuple ⟨l'⟩)
inductive cm(γ:bo):List Value->List Value->Prop
 | nil:cm γ [] []
 | cons {v v':Value} {l l':List Value} (h:bg γ v v') (t:cm γ l l'):cm γ (v::l) (v'::l')
end
def bo.le(γ bk:bo):Prop:=∀b L,γ b=some L->bk b=some L
theorem bo.le.refl(γ:bo):γ.le γ:=λ_ _ h=>h
theorem bo.le.trans{γ bk Wi:bo}(h:γ.le bk)(gJ:bk.le Wi):γ.le Wi:=λb L e=>gJ b L (h b L e)
mutual
theorem bg.mono{γ bk:bo}(aK:γ.le bk):∀{v v':Value},bg γ v v'->bg bk v v'
 | _,_,.bool b=>.bool b
 | _,_,.int k n=>.int k n
 | _,_,.str s=>.str s
 | _,_,.EI=>.EI
 | _,_,.xH=>.xH
 | _,_,.Wg=>.Wg
 | _,_,.Wh=>.Wh
 | _,_,.M4=>.M4
 | _,_,.ptr h=>.ptr (aK _ _ h)
 | _,_,.jN h a b c=>.jN (aK _ _ h) a b c
 | _,_,.p9 h=>.p9 (aK _ _ h)
 | _,_,.Ir h=>.Ir (aK _ _ h)
 | _,_,.func h=>.func (cm.mono aK h)
 | _,_,.iface h=>.iface (bg.mono aK h)
 | _,_,.agg h=>.agg (cm.mono aK h)
 | _,_,.tuple h=>.tuple (cm.mono aK h)
theorem cm.mono{γ bk:bo}(aK:γ.le bk):∀{l l':List Value},cm γ l l'->cm bk l l'
 | _,_,.nil=>.nil
 | _,_,.cons h t=>.cons (bg.mono aK h) (cm.mono aK t)
end
theorem cm.length{γ:bo}:∀{l l':List Value},cm γ l l'->l.length=l'.length
 | _,_,.nil=>rfl
 | _,_,.cons _ t=>by simp[cm.length t]
theorem cm.get{γ:bo}:∀{l l':List Value},cm γ l l'->∀{i:Nat} {v:Value},l[i]? = some v->∃v',l'[i]? = some v'/\bg γ v v'
 | _,_,.nil,_,_,h=>by simp at h
 | _,_,.cons h t,0,_,e=>⟨_,rfl,by simp at e;exact e▸h⟩
 | _,_,.cons h t,i+1,_,e=>by
   obtain⟨v',bw,r⟩:=cm.get t (by simpa using e);exact⟨v',by simpa using bw,r⟩
theorem cm.vD{γ:bo}:∀{l l':List Value},l.length=l'.length->(∀(i:Nat) (v v':Value),l[i]? = some v->l'[i]? = some v'->bg γ v v')->cm γ l l'
 | [],[],_,_=>.nil
 | [],_::_,h,_=>by simp at h
 | _::_,[],h,_=>by simp at h
 | v::l,v'::l',h,f=>.cons (f 0 v v' rfl rfl) (cm.vD (by simpa using h) λi v v' a b=>f (i+1) v v' (by simpa using a) (by simpa using b))
theorem cm.append{γ:bo}:∀{l l' m eG:List Value},cm γ l l'->cm γ m eG->cm γ (l++m) (l'++eG)
 | _,_,_,_,.nil,h=>h
 | _,_,_,_,.cons h t,g=>.cons h (cm.append t g)
theorem cm.take{γ:bo}:∀{l l':List Value} (n:Nat),cm γ l l'->cm γ (l.take n) (l'.take n)
 | _,_,0,_=>by simp;exact .nil
 | _,_,_+1,.nil=>by simp;exact .nil
 | _,_,n+1,.cons h t=>by simp;exact .cons h (cm.take n t)
theorem cm.drop{γ:bo}:∀{l l':List Value} (n:Nat),cm γ l l'->cm γ (l.drop n) (l'.drop n)
 | _,_,0,h=>by simpa using h
 | _,_,_+1,.nil=>by simp;exact .nil
 | _,_,n+1,.cons h t=>by simp;exact cm.drop n t
theorem bg.plainCell{γ:bo}{v:Value}(h:plainCell v=true):bg γ v v:=by
 unfold Dam.plainCell at h;split at h<;>first | constructor | (simp at h)
theorem cm.plain{γ:bo}:∀{l:List Value},l.all Dam.plainCell=true->cm γ l l
 | [],_=>.nil
 | v::l,h=>by
   simp only[List.all_cons,Bool.and_eq_true]at h;exact .cons (.plainCell h.1) (cm.plain h.2)
theorem bg.plain{γ:bo}{v:Value}(h:Bb v=true):bg γ v v:=by
 unfold Bb at h;split at h
 ·rename_i cs;have:=cm.plain (γ:=γ) h;exact .agg (l:=cs.toList) (l':=cs.toList) this
 ·exact .plainCell h
structure da where
 rel:World->(Nat->Prop)->Nat->Hr->Prop
 zg:∀{w w':World} {N oz:Nat->Prop} {b:Nat} {o:Hr},rel w N b o->(∀c,N c->oz c/\w'.heap[c]? = w.heap[c]?)->rel w' oz b o
def dI.ok:dI->TypeId->Nat->Nat->Nat->Prop
 | .n _,_,_,_,_=>True
 | .t a,e,d,sz,len=>e=a/\d=0/\sz=len
theorem dI.auj{z:dI}{e:TypeId}{d sz len:Nat}(h:∀a,z=.t a->e=a)(U:d=0)(aa:sz=len):z.ok e d sz len:=by
 cases z with
 | n k=>trivial
 | t a=>exact⟨h a rfl,U,aa⟩
def hr:Option cj->Prop
 | some (.cells ..) | some (.map ..) | some (.iter ..) | some (.bytes ..)=>True
 | _=>False
def iJ(γ:bo)(H:ah)(w:World)(c:Nat):Prop:=c<w.heap.size/\∀b L,γ b=some L->hr (H.get b)->L.bI≠c
def si(γ:bo)(cs:List Value)(f:Nat->Option Value):Prop:=∀(i:Nat) (v:Value),cs[i]? = some v->∃v',f i=some v'/\bg γ v v'
def Wj(γ:bo)(x:Value×Value×Nat)(e:MapEntry):Prop:=e.key=x.1/\(∃bY,mb bY x.1 x.1=some true)/\bg γ x.2.1 e.val/\e.born=x.2.2
inductive k6(γ:bo):List (Value×Value×Nat)->List MapEntry->Prop
 | nil:k6 γ [] []
 | cons {x:Value×Value×Nat} {e:MapEntry} {l:List (Value×Value×Nat)} {l':List MapEntry} (h:Wj γ x e) (t:k6 γ l l'):k6 γ (x::l) (e::l')
def ph(O:da)(γ:bo)(N:Nat->Prop)(w:World)(L:Loc):cj->Prop
 | .cells cs z=>∃c elem cz,w.heap[L.bI]? = some (.cells c elem cz)/\(∀i,i<c.size->¬(cz.1<=i/\i<cz.2))/\(L.s=z.val/\z.ok elem L.d c.size cs.length)/\L.e<=c.size/\L.d+cs.length<=L.e/\si γ cs (λi=>c[L.d+i]?)
 | .ro cs=>N L.bI/\∃c elem cz,w.heap[L.bI]? = some (.cells c elem cz)/\L.s=0/\L.d+cs.length<=c.size/\si γ cs (λi=>c[L.d+i]?)
 | .map es clock=>∃es',w.heap[L.bI]? = some (.map es' clock)/\k6 γ es es'.toList
 | .iter s pos=>w.heap[L.bI]? = some (.stringIter s pos)/\L.d=0
 | .eE o=>N L.bI/\L.d=0/\O.rel w N L.bI o
 | .dead=>True
 | .bytes el cW=>∃c cz,w.heap[L.bI]? = some (.cells c el cz)/\(∀i,i<c.size->¬(cz.1<=i/\i<cz.2))/\L.s=1/\L.d=0/\L.e<=c.size/\cW.length<=L.e/\si γ (ew cW) (λi=>c[i]?)
structure Rel(O:da)(base:Nat)(γ:bo)(H:ah)(w:World):Prop where
 bI:∀b L,γ b=some L->∃x,H.get b=some x/\ph O γ (iJ γ H w) w L x
 lt:∀b L,γ b=some L->b<H.next
 new:∀b,H.next<=b->H.get b=none
 inj:∀b b' L L',γ b=some L->γ b'=some L'->hr (H.get b)->hr (H.get b')->L.bI=L'.bI->b=b'
 low:∀b L,γ b=some L->hr (H.get b)->base<=L.bI
 size:base<=w.heap.size
structure Step(O:da)(base:Nat)(pm:Perm)(γ:bo)(H:ah)(w:World)(bk:bo)(H':ah)(w':World):Prop where
 rel:Rel O base bk H' w'
 ext:γ.le bk
 fresh:∀b L,bk b=some L->γ b=none->w.heap.size<=L.bI∨∃b0 hI,γ b0=some hI/\hr (H.get b0)/\pm.may b0=true/\hI.bI=L.bI
 grow:w.heap.size<=w'.heap.size
 bT:∀c,c<w.heap.size->(∀b L,γ b=some L->hr (H.get b)->pm.may b=true->L.bI≠c)->w'.heap[c]? = w.heap[c]?
 next:H.next<=H'.next
 k4:∀b,b<H.next->pm.may b=false->H'.get b=H.get b
 mR:∀b L,γ b=some L->hr (H'.get b)->hr (H.get b)
 known:∀b L,bk b=some L->γ b=none->H.next<=b∨pm.num=some b
 os:w'.os=w.os
 tape:w'.tape=w.tape
 output:w'.output=w.output
theorem k6.mono{γ bk:bo}(aK:γ.le bk){l:List (Value×Value×Nat)}{l':List MapEntry}(h:k6 γ l l'):k6 bk l l':=by
 induction h with
 | nil=>exact .nil
 | cons h t ih=>exact .cons ⟨h.1,h.2.1,h.2.2.1.mono aK,h.2.2.2⟩ ih
theorem ph.mono{O:da}{γ bk:bo}{N oz:Nat->Prop}{w w':World}{L:Loc}{x:cj}(h:ph O γ N w L x)(aK:γ.le bk)
 (gd:∀c,N c->oz c/\w'.heap[c]? = w.heap[c]?) (hw:hr (some x)->w'.heap[L.bI]? = w.heap[L.bI]?):ph O bk oz w' L x:=by
 cases x with
 | cells cs z=>
   obtain⟨c,elem,cz,U,aa,aq,a8,cg,dj⟩:=h;exact⟨c,elem,cz,(hw trivial).trans U,aa,aq,a8,cg,λi v e=>let ⟨v',a,b⟩:=dj i v e;⟨v',a,b.mono aK⟩⟩
 | ro cs=>
   obtain⟨aD,c,elem,cz,U,aa,aq,dj⟩:=h;exact⟨(gd _ aD).1,c,elem,cz,((gd _ aD).2).trans U,aa,aq,λi v e=>let ⟨v',a,b⟩:=dj i v e;⟨v',a,b.mono aK⟩⟩
 | map es clock=>
   obtain⟨es',U,aa⟩:=h;exact⟨es',(hw trivial).trans U,aa.mono aK⟩
 | iter s pos=>exact⟨(hw trivial).trans h.1,h.2⟩
 | eE o=>exact⟨(gd _ h.1).1,h.2.1,O.zg h.2.2 gd⟩
 | dead=>trivial
 | bytes el cW=>
   obtain⟨c,cz,U,aa,aq,a8,cg,dj,j4⟩:=h;exact⟨c,cz,(hw trivial).trans U,aa,aq,a8,cg,dj,λi v e=>let ⟨v',a,b⟩:=j4 i v e;⟨v',a,b.mono aK⟩⟩
theorem Step.refl{O:da}{base:Nat}{pm:Perm}{γ:bo}{H:ah}{w:World}(h:Rel O base γ H w):Step O base pm γ H w γ H w where
 rel:=h
 ext:=.refl γ
 fresh:=λb L U aa=>by rw[aa]at U;cases U
 grow:=bR _
 bT:=λ_ _ _=>rfl
 next:=bR _
 k4:=λ_ _ _=>rfl
 mR:=λ_ _ _ h=>h
 known:=λb L U aa=>by rw[aa]at U;cases U
 os:=rfl
 tape:=rfl
 output:=rfl
theorem Step.HM{O:da}{base:Nat}{pm:Perm}{m:Option Nat}{γ zh EJ:bo}{H qc EK:ah}{w rk zi:World}
 (h:Step O base pm γ H w zh qc rk) (g:Step O base ⟨pm.lo,pm.ok,m⟩ zh qc rk EJ EK zi) (dS:∀b,m=some b->H.next<=b∨pm.num=some b):Step O base pm γ H w EJ EK zi where
 rel:=g.rel
 ext:=h.ext.trans g.ext
 fresh:=λb L U aa=>by
  cases aq:zh b with
  | some j9=>
    have e:=g.ext b j9 aq;rw[U]at e;cases e;exact h.fresh b L aq aa
  | none=>
    rcases g.fresh b L U aq with c | ⟨b0,hI,cY,fw,m0,hB⟩
    ·exact .inl (bH h.grow c)
    ·cases a8:γ b0 with
     | some M5=>
       have e:=h.ext b0 M5 a8;rw[cY]at e;cases e;exact .inr ⟨b0,hI,a8,h.mR b0 hI a8 fw,m0,hB⟩
     | none=>
       rcases h.fresh b0 hI cY a8 with c | ⟨cR,j9,ao,b4,m1,bn⟩
       ·exact .inl (hB▸c)
       ·exact .inr ⟨cR,j9,ao,b4,m1,bn.trans hB⟩
 grow:=bH h.grow g.grow
 bT:=λc af ag=>by
  rw[g.bT c (hR af h.grow) ?_,h.bT c af ag];intro b L e r m
  cases a8:γ b with
  | some M5=>
    have bw:=h.ext b M5 a8;rw[e]at bw;cases bw;exact ag b L a8 (h.mR b L a8 r) m
  | none=>
    have ek:=h.fresh b L e a8
    rcases ek with ek | ⟨cR,j9,ao,b4,m1,bn⟩
    ·intro cK;omega
    ·exact bn▸ag cR j9 ao b4 m1
 next:=bH h.next g.next
 k4:=λb ai hm=>(g.k4 b (hR ai h.next) hm).trans (h.k4 b ai hm)
 mR:=λb L ai r=>h.mR b L ai (g.mR b L (h.ext b L ai) r)
 known:=λb L U aa=>by
  cases aq:zh b with
  | some j9=>exact h.known b j9 aq aa
  | none=>
    rcases g.known b L U aq with c | c
    ·exact .inl (bH h.next c)
    ·exact dS b c
 os:=g.os.trans h.os
 tape:=g.tape.trans h.tape
 output:=g.output.trans h.output
theorem Step.trans{O:da}{base:Nat}{pm:Perm}{γ zh EJ:bo}{H qc EK:ah}{w rk zi:World}
 (h:Step O base pm γ H w zh qc rk) (g:Step O base pm zh qc rk EJ EK zi) (_:Rel O base γ H w):Step O base pm γ H w EJ EK zi:=h.HM g λ_=>.inr
theorem Step.drawn{O:da}{base:Nat}{pm:Perm}{γ:bo}{H:ah}{w:World}(h:Rel O base γ H w)(n:Nat):Step O base pm γ H w γ H {w with drawn:=n} where
 rel:=⟨λb L e=>by
    obtain⟨x,U,aa⟩:=h.bI b L e;exact⟨x,U,aa.mono (.refl γ) (λc af=>⟨af,rfl⟩) (λ_=>rfl)⟩,h.lt,h.new,h.inj,h.low,h.size⟩
 ext:=.refl γ
 fresh:=λb L U aa=>by rw[aa]at U;cases U
 grow:=bR _
 bT:=λ_ _ _=>rfl
 next:=bR _
 k4:=λ_ _ _=>rfl
 mR:=λ_ _ _ h=>h
 known:=λb L U aa=>by rw[aa]at U;cases U
 os:=rfl
 tape:=rfl
 output:=rfl
def bo.set(γ:bo)(b:Nat)(L:Loc):bo:=λk=>if k=b then some L else γ k
theorem bo.im(γ:bo)(b:Nat)(L:Loc):γ.set b L b=some L:=by simp[bo.set]
theorem bo.j'(γ:bo){b k:Nat}(L:Loc)(h:k≠b):γ.set b L k=γ k:=by simp[bo.set,h]
theorem Rel.auk{O:da}{base:Nat}{γ:bo}{H:ah}{w:World}(h:Rel O base γ H w){b:Nat}(ai:H.next<=b):γ b=none:=by
 cases e:γ b with
 | none=>rfl
 | some L=>have:=h.lt b L e;omega
theorem Rel.Wk{O:da}{base:Nat}{γ:bo}{H:ah}{w:World}(h:Rel O base γ H w)(L:Loc):γ.le (γ.set H.next L):=by
 intro b L' e;have:=h.lt b L' e;rw[bo.j' _ _ (by omega)];exact e
def Perm.gV(pm:Perm)(γ:bo)(H:ah):Prop:=∀b,pm.num=some b->b<H.next/\γ b=none/\pm.may b=true
theorem Perm.gV.none{pm:Perm}{γ:bo}{H:ah}(h:pm.num=none):pm.gV γ H:=λb e=>by rw[h]at e;cases e
theorem Perm.sb(pm:Perm)(H:ah)(x:cj)(c:Nat):(pm.make H x).get c=if c=pm.pick H then some x else H.get c:=by
 unfold Perm.make Perm.pick
 cases pm.num with
 | none=>exact ah.qa H c x
 | some b=>exact ah.fS H b c x
theorem Perm.gV.EL{O:da}{base:Nat}{pm:Perm}{γ:bo}{H:ah}{w:World}(bc:pm.gV γ H)(h:Rel O base γ H w):γ (pm.pick H)=Option.none:=by
 unfold Perm.pick
 cases e:pm.num with
 | none=>exact h.auk (bR _)
 | some b=>exact(bc b e).2.1
theorem Perm.gV.next{pm:Perm}{γ:bo}{H:ah}(bc:pm.gV γ H)(x:cj):H.next<=(pm.make H x).next/\pm.pick H<(pm.make H x).next:=by
 unfold Perm.pick Perm.make
 cases e:pm.num with
 | none=>exact⟨bYx _,bYn _⟩
 | some b=>exact⟨bR _,(bc b e).1⟩
theorem Perm.gV.may{pm:Perm}{γ:bo}{H:ah}(bc:pm.gV γ H)(h:pm.pick H<H.next):pm.may (pm.pick H)=true:=by
 unfold Perm.pick at h|-
 cases e:pm.num with
 | none=>rw[e]at h;exact absurd h (Nat.lt_irrefl _)
 | some b=>exact(bc b e).2.2
theorem Perm.Wl(pm:Perm)(H:ah):H.next<=pm.pick H∨pm.num=some (pm.pick H):=by
 unfold Perm.pick
 cases pm.num with
 | none=>exact .inl (bR _)
 | some b=>exact .inr rfl
theorem bo.M6{γ:bo}{b:Nat}(h:γ b=none)(L:Loc):γ.le (γ.set b L):=by
 intro k L' e;rw[bo.j' _ _ (by intro q;subst q;rw[h]at e;cases e)];exact e
theorem Step.alloc{O:da}{base:Nat}{pm:Perm}{γ:bo}{H:ah}{w:World}(h:Rel O base γ H w)(bc:pm.gV γ H)(x:cj)(o:Obj)(s e:Nat)
 (ai:∀(N:Nat->Prop) (bk:bo),γ.le bk->ph O bk N {w with heap:=w.heap.push o} ⟨w.heap.size,0,s,e⟩ x):
 Step O base pm γ H w (γ.set (pm.pick H) ⟨w.heap.size,0,s,e⟩) (pm.make H x) {w with heap:=w.heap.push o} where
 rel:=by
  have hle:=bo.M6 (bc.EL h) ⟨w.heap.size,0,s,e⟩;have q8:∀c,iJ γ H w c->iJ (γ.set (pm.pick H) ⟨w.heap.size,0,s,e⟩) (pm.make H x) {w with heap:=w.heap.push o} c/\({w with heap:=w.heap.push o}:World).heap[c]? = w.heap[c]?:=by
   intro c af;refine⟨⟨by simpa using Nat.lt_succ_of_lt af.1,λb L ao r=>?_⟩,by simp[bYT,Nat.ne_of_lt af.1]⟩;by_cases ec:b=(pm.pick H)
   ·subst ec;rw[bo.im]at ao;cases ao;exact Nat.ne_of_gt af.1
   ·rw[bo.j' _ _ ec]at ao;rw[Perm.sb,aU ec]at r;exact af.2 b L ao r
  refine⟨λb L ao=>?_,λb L ao=>?_,λb ec=>?_,λb b' L L' ao e2 b4 cB q=>?_,λb L ao r=>?_,?_⟩
  ·by_cases ec:b=(pm.pick H)
   ·subst ec;rw[bo.im]at ao;cases ao;exact⟨x,by rw[Perm.sb,bm rfl],ai _ _ hle⟩
   ·rw[bo.j' _ _ ec]at ao;obtain⟨y,U,aa⟩:=h.bI b L ao;refine⟨y,by rw[Perm.sb,aU ec,U],aa.mono hle q8 λr=>?_⟩;have bO:L.bI<w.heap.size:=by
     cases y<;>simp only[hr]at r<;>simp only[ph]at aa
     ·obtain⟨c,_,_,aq,_⟩:=aa;exact(ic.1 aq).1
     ·obtain⟨es',aq,_⟩:=aa;exact(ic.1 aq).1
     ·exact(ic.1 aa.1).1
     ·obtain⟨c,_,aq,_⟩:=aa;exact(ic.1 aq).1
    simp[bYT,Nat.ne_of_lt bO]
  ·by_cases ec:b=(pm.pick H)
   ·subst ec;exact(bc.next x).2
   ·rw[bo.j' _ _ ec]at ao;exact hR (h.lt b L ao) (bc.next x).1
  ·have az:=bc.next x;rw[Perm.sb,aU (by omega)];exact h.new b (by omega)
  ·have key:∀b L,γ.set (pm.pick H) ⟨w.heap.size,0,s,e⟩ b=some L->b≠(pm.pick H)->hr ((pm.make H x).get b)->γ b=some L/\hr (H.get b)/\L.bI<w.heap.size:=by
    intro b L ao ec r;rw[bo.j' _ _ ec]at ao;rw[Perm.sb,aU ec]at r;refine⟨ao,r,?_⟩;obtain⟨y,U,aa⟩:=h.bI b L ao;rw[U]at r;cases y<;>simp only[hr]at r<;>simp only[ph]at aa
    ·obtain⟨c,_,_,aq,_⟩:=aa;exact(ic.1 aq).1
    ·obtain⟨es',aq,_⟩:=aa;exact(ic.1 aq).1
    ·exact(ic.1 aa.1).1
    ·obtain⟨c,_,aq,_⟩:=aa;exact(ic.1 aq).1
   by_cases U:b=(pm.pick H)<;>by_cases aa:b'=(pm.pick H)
   ·rw[U,aa]
   ·have:=key b' L' e2 aa cB;rw[U,bo.im]at ao;cases ao;simp only at q;omega
   ·have:=key b L ao U b4;rw[aa,bo.im]at e2;cases e2;simp only at q;omega
   ·have av:=key b L ao U b4;have aI:=key b' L' e2 aa cB;exact h.inj b b' L L' av.1 aI.1 av.2.1 aI.2.1 q
  ·by_cases U:b=(pm.pick H)
   ·subst U;rw[bo.im]at ao;cases ao;exact h.size
   ·rw[bo.j' _ _ U]at ao;rw[Perm.sb,aU U]at r;exact h.low b L ao r
  ·simpa using Nat.le_succ_of_le h.size
 ext:=bo.M6 (bc.EL h) _
 fresh:=λb L ao e2=>by
  by_cases U:b=(pm.pick H)
  ·subst U;rw[bo.im]at ao;cases ao;exact .inl (bR _)
  ·rw[bo.j' _ _ U,e2]at ao;cases ao
 grow:=by simp
 bT:=λc af _=>by simp[bYT,Nat.ne_of_lt af]
 next:=(bc.next x).1
 k4:=λb ai hm=>by
  rw[Perm.sb,aU];intro q;subst q;rw[bc.may ai]at hm;cases hm
 mR:=λb L ai r=>by
  rwa [Perm.sb,aU (by intro q;subst q;rw[bc.EL h]at ai;cases ai)]at r
 known:=λb L ao e2=>by
  by_cases U:b=pm.pick H
  ·subst U;exact pm.Wl H
  ·rw[bo.j' _ _ U,e2]at ao;cases ao
 os:=rfl
 tape:=rfl
 output:=rfl
theorem ph.lt{O:da}{γ:bo}{N:Nat->Prop}{w:World}{L:Loc}{x:cj}(h:ph O γ N w L x)(az:hr (some x)):L.bI<w.heap.size:=by
 cases x<;>simp only[hr]at az<;>simp only[ph]at h
 ·obtain⟨c,_,_,aq,_⟩:=h;exact(ic.1 aq).1
 ·obtain⟨es',aq,_⟩:=h;exact(ic.1 aq).1
 ·exact(ic.1 h.1).1
 ·obtain⟨c,_,aq,_⟩:=h;exact(ic.1 aq).1
theorem Step.write{O:da}{base:Nat}{pm:Perm}{γ:bo}{H:ah}{w w':World}(h:Rel O base γ H w){b:Nat}{L:Loc}{x:cj}(bC:γ b=some L)(lQ:hr (H.get b))(xI:pm.may b=true)
 (gb:w'.heap.size=w.heap.size) (zj:∀c,c≠L.bI->w'.heap[c]? = w.heap[c]?) (EM:w'.os=w.os) (M7:w'.tape=w.tape) (cf:w'.output=w.output)
 (ai:∀(N:Nat->Prop),ph O γ N w' L x):
 Step O base pm γ H w γ (H.put b x) w' where
 rel:=by
  have BI:∀k,hr ((H.put b x).get k)->hr (H.get k):=λk r=>by
   rw[ah.fS]at r;by_cases ag:k=b
   ·subst ag;exact lQ
   ·rwa [aU ag]at r
  have q8:∀c,iJ γ H w c->iJ γ (H.put b x) w' c/\w'.heap[c]? = w.heap[c]?:=λc af=>
   ⟨⟨gb▸af.1,λk L' e r=>af.2 k L' e (BI k r)⟩,zj c (Ne.symm (af.2 b L bC lQ))⟩
  refine⟨λk L' e=>?_,λk L' e=>h.lt k L' e,λk ag=>?_,λk k' j9 kz ao e2 b4 cB q=>h.inj k k' j9 kz ao e2 (BI k b4) (BI k' cB) q,λk L' e r=>h.low k L' e (BI k r),by rw[gb];exact h.size⟩
  ·by_cases ag:k=b
   ·subst ag;rw[bC]at e;cases e;exact⟨x,by simp[ah.fS],ai _⟩
   ·obtain⟨y,U,aa⟩:=h.bI k L' e;refine⟨y,by rw[ah.fS,aU ag,U],aa.mono (.refl γ) q8 λr=>zj _ λq=>?_⟩;exact ag (h.inj k b L' L e bC (U▸r) lQ q)
  ·have vz:H.next<=k:=ag;have:=h.lt b L bC;rw[ah.fS,aU (by omega)];exact h.new k vz
 ext:=.refl γ
 fresh:=λk L' ao e2=>by rw[e2]at ao;cases ao
 grow:=by omega
 bT:=λc _ ag=>zj c (Ne.symm (ag b L bC lQ xI))
 next:=bR _
 k4:=λk _ hm=>by
  rw[ah.fS,aU];intro e;subst e;rw[xI]at hm;cases hm
 mR:=λk _ _ r=>by
  rw[ah.fS]at r;by_cases ag:k=b
  ·subst ag;exact lQ
  ·rwa [aU ag]at r
 known:=λk L' ao e2=>by rw[e2]at ao;cases ao
 os:=EM
 tape:=M7
 output:=cf
theorem Step.Wm{O:da}{base:Nat}{pm:Perm}{γ:bo}{H:ah}{w w':World}(h:Rel O base γ H w)(bc:pm.gV γ H){b:Nat}{L L':Loc}{x:cj}(bC:γ b=some L)(lQ:hr (H.get b))(xI:pm.may b=true)
 (zd:L'.bI=L.bI) (gb:w'.heap.size=w.heap.size) (zj:∀c,c≠L.bI->w'.heap[c]? = w.heap[c]?) (EM:w'.os=w.os) (M7:w'.tape=w.tape) (cf:w'.output=w.output)
 (ai:∀(N:Nat->Prop) (bk:bo),γ.le bk->ph O bk N w' L' x):
 Step O base pm γ H w (γ.set (pm.pick H) L') (pm.make (H.put b .dead) x) w':=by
 have dr:b≠pm.pick H:=λq=>by have:=bc.EL h;rw[<-q,bC]at this;cases this
 have hq:pm.pick (H.put b .dead)=pm.pick H:=rfl;have kA:=bc.EL h;have Is:H.next<=(pm.make (H.put b .dead) x).next/\pm.pick H<(pm.make (H.put b .dead) x).next:=Perm.gV.next (H:=H.put b .dead) bc x;have qd:∀k,(pm.make (H.put b .dead) x).get k=if k=pm.pick H then some x else if k=b then some .dead else H.get k:=λk=>by
  rw[Perm.sb,ah.fS,hq]
 have hle:=bo.M6 kA L';have iY:∀k ml,γ.set (pm.pick H) L' k=some ml->hr ((pm.make (H.put b .dead) x).get k)->(k=pm.pick H/\ml=L')∨(k≠pm.pick H/\k≠b/\γ k=some ml/\hr (H.get k)):=λk ml e r=>by
  by_cases ag:k=pm.pick H
  ·subst ag;rw[bo.im]at e;cases e;exact .inl ⟨rfl,rfl⟩
  ·rw[bo.j' _ _ ag]at e;rw[qd,aU ag]at r;by_cases fP:k=b
   ·rw[bm fP]at r;exact r.elim
   ·rw[aU fP]at r;exact .inr ⟨ag,fP,e,r⟩
 have q8:∀c,iJ γ H w c->iJ (γ.set (pm.pick H) L') (pm.make (H.put b .dead) x) w' c/\w'.heap[c]? = w.heap[c]?:=λc af=>
  ⟨⟨gb▸af.1,λk ml e r=>by
    rcases iY k ml e r with⟨_,rfl⟩ | ⟨_,_,bw,r'⟩
    ·rw[zd];exact af.2 b L bC lQ
    ·exact af.2 k ml bw r'⟩,zj c (Ne.symm (af.2 b L bC lQ))⟩
 exact{
  rel:=by
   refine⟨λk ml e=>?_,λk ml e=>?_,λk ag=>?_,λk k' j9 kz ao e2 b4 cB q=>?_,λk ml e r=>?_,by rw[gb];exact h.size⟩
   ·by_cases ag:k=pm.pick H
    ·subst ag;rw[bo.im]at e;cases e;exact⟨x,by rw[qd,bm rfl],ai _ _ hle⟩
    ·rw[bo.j' _ _ ag]at e;by_cases fP:k=b
     ·exact⟨.dead,by rw[qd,aU ag,bm fP],trivial⟩
     ·obtain⟨y,U,aa⟩:=h.bI k ml e;refine⟨y,by rw[qd,aU ag,aU fP,U],aa.mono hle q8 λr=>zj _ λq=>?_⟩;exact fP (h.inj k b ml L e bC (U▸r) lQ q)
   ·by_cases ag:k=pm.pick H
    ·omega
    ·rw[bo.j' _ _ ag]at e;have:=h.lt k ml e;omega
   ·have:=h.lt b L bC;rw[qd,aU (by omega),aU (by omega)];exact h.new k (by omega)
   ·rcases iY k j9 ao b4 with⟨cx,rfl⟩ | ⟨cx,a2,a3,a4⟩<;>rcases iY k' kz e2 cB with⟨cy,rfl⟩ | ⟨cy,dd,dy,iZ⟩
    ·rw[cx,cy]
    ·exact absurd (h.inj k' b kz L dy bC iZ lQ (q.symm.trans zd)) dd
    ·exact absurd (h.inj k b j9 L a3 bC a4 lQ (q.trans zd)) a2
    ·exact h.inj k k' j9 kz a3 dy a4 iZ q
   ·rcases iY k ml e r with⟨_,rfl⟩ | ⟨_,_,bw,r'⟩
    ·rw[zd];exact h.low b L bC lQ
    ·exact h.low k ml bw r'
  ext:=hle
  fresh:=λk ml ao e2=>by
   by_cases ag:k=pm.pick H
   ·subst ag;rw[bo.im]at ao;cases ao;exact .inr ⟨b,L,bC,lQ,xI,zd.symm⟩
   ·rw[bo.j' _ _ ag,e2]at ao;cases ao
  grow:=by omega
  bT:=λc _ ag=>zj c (Ne.symm (ag b L bC lQ xI))
  next:=Is.1
  k4:=λk ag hm=>by
   rw[qd,aU,aU]
   ·intro e;subst e;rw[xI]at hm;cases hm
   ·intro e;subst e;rw[bc.may ag]at hm;cases hm
  mR:=λk ml ag r=>by
   rw[qd,aU (by intro e;subst e;rw[kA]at ag;cases ag)]at r;by_cases fP:k=b
   ·rw[bm fP]at r;exact r.elim
   ·rwa [aU fP]at r
  known:=λk ml ao e2=>by
   by_cases ag:k=pm.pick H
   ·subst ag;exact pm.Wl H
   ·rw[bo.j' _ _ ag,e2]at ao;cases ao
  os:=EM
  tape:=M7
  output:=cf}
theorem Step.weaken{O:da}{base:Nat}{pm pm':Perm}{γ bk:bo}{H H':ah}{w w':World}(h:Step O base pm γ H w bk H' w')(an:Rel O base γ H w)
 (aC:∀b,b<H.next->pm.may b=true->pm'.may b=true) (aF:∀b,pm.num=some b->H.next<=b∨pm'.num=some b):Step O base pm' γ H w bk H' w' where
 rel:=h.rel
 ext:=h.ext
 fresh:=λb L ao e2=>by
  exact(h.fresh b L ao e2).imp id λ⟨b0,hI,x,y,z,q⟩=>⟨b0,hI,x,y,aC b0 (an.lt b0 hI x) z,q⟩
 grow:=h.grow
 bT:=λc af ag=>h.bT c af λb L e r m=>ag b L e r (aC b (an.lt b L e) m)
 next:=h.next
 k4:=λb ai hm=>h.k4 b ai (by
  cases e:pm.may b with
  | false=>rfl
  | true=>rw[aC b ai e]at hm;cases hm)
 mR:=h.mR
 known:=λb L ao e2=>(h.known b L ao e2).elim .inl (aF b)
 os:=h.os
 tape:=h.tape
 output:=h.output
structure eY(γ:bo)(n:Nat)(e:Env)(a:Act):Prop where
 size:n<=a.tmps.size
 ej:n<=xn
 defers:a.defers=[]
 get:∀t v,e.get t=some v->t<n/\bg γ v (a.tmps.getD t undef)
def hH(G:Nat->Bool)(γ:bo):Prop:=∀g,G g=true->∃L,γ g=some L/\L.bI=g/\L.d=0
theorem Wn{γ:bo}{n:Nat}{e:Env}{a:Act}(h:eY γ n e a):e.get xn=none:=by
 cases x:e.get xn with
 | none=>rfl
 | some v=>have:=(h.get _ _ x).1;have:=h.ej;omega
theorem du{γ:bo}{n:Nat}{e:Env}{a:Act}{G:Nat->Bool}(h:eY γ n e a)(bA:hH G γ)(r:Operand){v:Value}(aw:bB e (rand G r)=some v):bg γ v (a.eval r):=by
 cases r with
 | tmp t=>exact(h.get t v aw).2
 | const u=>
   simp only[rand]at aw;split at aw
   ·rename_i aC;simp only[bB,a6]at aw;exact aw▸bg.plain aC
   ·simp only[bB,Wn h]at aw;cases aw
 | global g=>
   simp only[rand]at aw;split at aw
   ·rename_i aK;obtain⟨L,U,aa,aq⟩:=bA g aK;simp only[bB,a6]at aw;subst aw;have:=bg.ptr (γ:=γ) (off:=0) U;rw[aa,aq]at this;exact this
   ·simp only[bB,Wn h]at aw;cases aw
 | func f=>
   simp only[rand,bB,a6]at aw;subst aw;exact .func .nil
theorem tJ{pm:Perm}{H H':ah}{o:Option Value}{v:Value}(h:(hU o).run pm H=some (v,H')):o=some v/\H'=H:=by
 cases o with
 | none=>simp[hU,bF.run]at h
 | some u=>simp only[hU,bF.run,a6,c2]at h;exact⟨by rw[h.1],h.2.symm⟩
theorem fe{pm:Perm}{H H':ah}{u v:Value}(h:(bF.ret u).run pm H=some (v,H')):u=v/\H'=H:=by
 simp only[bF.run,a6,c2]at h;exact⟨h.1,h.2.symm⟩
theorem run_get{pm:Perm}{H:ah}{r:Value×ah}{b:Nat}{k:cj->bF}(h:(bF.get b k).run pm H=some r):∃x,H.get b=some x/\(k x).run pm H=some r:=by
 simp only[bF.run]at h;split at h
 ·exact⟨_,by assumption,h⟩
 ·cases h
theorem tK{pm:Perm}{H:ah}{r:Value×ah}{b:Nat}{x:cj}{k:bF}(h:(bF.put b x k).run pm H=some r):pm.may b=true/\k.run pm (H.put b x)=some r:=by
 simp only[bF.run]at h
 cases e:pm.may b with
 | true=>rw[e]at h;exact⟨rfl,h⟩
 | false=>rw[e]at h;cases h
theorem bZ{pm:Perm}{H:ah}{r:Value×ah}(h:bF.fail.run pm H=some r):False:=by cases h
theorem nO{pm:Perm}{H:ah}{r:Value×ah}{c:Bool}{x:bF}(h:(bif c then x else .fail).run pm H=some r):c=true/\x.run pm H=some r:=by
 cases c with
 | true=>exact⟨rfl,h⟩
 | false=>cases h
theorem hJ{pm:Perm}{H:ah}{r:Value×ah}{o:Option Value}{k:Value->bF}(h:(eN o k).run pm H=some r):∃v,o=some v/\(k v).run pm H=some r:=by
 cases o with
 | none=>cases h
 | some v=>exact⟨v,rfl,h⟩
theorem tL{w:World}{b i:Nat}{c:Array Value}{t:TypeId}{cz:Nat×Nat}(h:w.heap[b]? = some (.cells c t cz)):w.cell? ⟨b,i,none⟩=c[i]?:=cell_of_row w b i c t cz h
theorem add_eq(b off j:Nat):(⟨b,off,none⟩:Addr).add j=⟨b,off+j,none⟩:=by
 unfold Addr.add;split
 ·rename_i h;subst h;rfl
 ·rfl
theorem Rel.row{O:da}{base:Nat}{γ:bo}{H:ah}{w:World}(h:Rel O base γ H w){b:Nat}{L:Loc}{x:cj}{cs:List Value}(bC:γ b=some L)(az:H.get b=some x)(af:rowOf x=some cs):
 ∃c elem cz,w.heap[L.bI]? = some (.cells c elem cz)/\L.d+cs.length<=c.size/\si γ cs (λi=>c[L.d+i]?):=by
 obtain⟨y,U,aa⟩:=h.bI b L bC;rw[az]at U;cases U;cases x<;>simp only[rowOf,a6,reduceCtorEq]at af
 ·subst af;obtain⟨c,elem,cz,U,_,_,a8,cg,dj⟩:=aa;exact⟨c,elem,cz,U,by omega,dj⟩
 ·subst af;obtain⟨_,c,elem,cz,U,_,cg,dj⟩:=aa;exact⟨c,elem,cz,U,cg,dj⟩
theorem si.Wo{γ:bo}{cs:List Value}{c:Array Value}{d off n:Nat}(h:si γ cs (λi=>c[d+i]?))(aF:off+n<=cs.length):
 cm γ ((cs.drop off).take n) ((List.range n).map λj=>(c[d+off+j]?).getD undef):=by
 refine cm.vD (by simp;omega) λi v v' U aa=>?_;have ad:i<n:=by
  have:=(nD.1 aa).1;simpa using this
 rw[pT ad,o']at U;obtain⟨u,ao,e2⟩:=h _ _ U;simp only[bZE,bYJ ad,bZs,a6]at aa;have bd:c[d+off+i]? = some u:=by rw[<-ao];show c[d+off+i]? = c[d+(off+i)]?;rw[bYb]
 rw[bd]at aa;exact aa▸e2
theorem bg.cells{γ:bo}{v v':Value}(h:bg γ v v'):cm γ v.cells.toList v'.cells.toList:=by
 cases h<;>first | exact .cons (by constructor<;>assumption) .nil | skip
 all_goals assumption
theorem bg.one{γ:bo}{v v':Value}(h:bg γ v v'):fG v=fG v':=by cases h<;>rfl
theorem It{P:Program}{b off:Nat}{elem:TypeId}{cz:Nat×Nat}:∀(vs:List Value) (i:Nat) (w:World) (c:Array Value),w.heap[b]? = some (.cells c elem cz)->(∀k,k<c.size->¬(cz.1<=k/\k<cz.2))->
 vs.all fG=true->off+i+vs.length<=c.size->
 ∃w' ek,(storeCells ⟨b,off,none⟩ vs i).run P w=.ok () w'/\w'.heap[b]? = some (.cells ek elem cz)/\ek.size=c.size/\
  (∀k,ek[k]? = if off+i<=k/\k<off+i+vs.length then vs[k-(off+i)]? else c[k]?)/\
  w'.heap.size=w.heap.size/\(∀k,k≠b->w'.heap[k]? = w.heap[k]?)/\w'.os=w.os/\w'.tape=w.tape/\w'.output=w.output
 | [],i,w,c,h,_,_,_=>⟨w,c,rfl,h,rfl,λk=>by rw[aU (by simp)],rfl,λ_ _=>rfl,rfl,rfl,rfl⟩
 | v::vs,i,w,c,h,bc,U,aF=>by
   simp only[bYm,cG]at U;simp only[bZt]at aF;have bO:off+i<c.size:=by omega
   have mW:w.cell? ⟨b,off+i,none⟩=some c[off+i]:=by rw[tL h];exact pU bO
   have e8:w.frozen? ⟨b,off+i,none⟩=false:=by
    simp only[World.frozen?,h];have:=bc (off+i) bO;simpa using this
   have oA:v.oneCell'=true:=by
    have:=U.1;cases v<;>first | rfl | (simp[fG]at this)
   have lN:(w.setCell ⟨b,off+i,none⟩ v).heap[b]? = some (.cells (c.setIfInBounds (off+i) v) elem cz):=by
    simp[World.setCell,bWK,h]
   obtain⟨w',ek,ao,e2,bd,b1,cK,il,nM,mh,pe⟩:=It (P:=P) (off:=off) vs (i+1) (w.setCell ⟨b,off+i,none⟩ v) (c.setIfInBounds (off+i) v) lN (by simpa using bc) U.2 (by rw[Array.size_setIfInBounds];omega);refine⟨w',ek,?_,e2,by simpa using bd,λk=>?_,by simpa using cK,λk ag=>?_,nM,mh,pe⟩
   ·simp only[storeCells,Sem.run_bind,add_eq,run_store P w ⟨b,off+i,none⟩ v .plain oA,mW,e8];simpa using ao
   ·rw[b1 k];simp only[bZt];by_cases ag:k=off+i
    ·subst ag;rw[aU (by omega),bm (by omega)];simp[bO]
    ·by_cases fP:off+i<=k/\k<off+i+(vs.length+1)
     ·rw[bm (by omega),bm fP,show k-(off+i)=(k-(off+(i+1)))+1 by omega,bZZ]
     ·rw[aU (by omega),aU fP];simp[A7 (show off+i≠k from Ne.symm ag)]
   ·rw[il k ag];simp[World.setCell,bWK,Ne.symm ag]
theorem M8{cs gg vs:List Value}{off:Nat}(h:setCells cs off vs=some gg):off+vs.length<=cs.length/\gg.length=cs.length/\∀k,gg[k]? = if off<=k/\k<off+vs.length then vs[k-off]? else cs[k]?:=by
 unfold setCells at h;rw[dA]at h;by_cases hle:off+vs.length<=cs.length
 ·simp only[hle,decide_true,cond_true,a6]at h;subst h;refine⟨hle,by simp;omega,λk=>?_⟩;by_cases U:k<off
  ·rw[aU (by omega),lB (by simp;omega),pT U]
  ·rw[lA (by simp;omega)];simp only[bYl,bYL (show off<=cs.length by omega)];by_cases aa:k<off+vs.length
   ·rw[bm (by omega),lB (by omega)]
   ·rw[aU (by omega),lA (by omega),o'];congr 1;omega
 ·simp only[hle,decide_false,cond_false,reduceCtorEq]at h
theorem EN{cs l:List Value}{off n:Nat}(h:cX cs off n=some l):off+n<=cs.length/\l=(cs.drop off).take n:=by
 unfold cX at h;rw[dA]at h;by_cases hle:off+n<=cs.length
 ·simp only[hle,decide_true,cond_true,a6]at h;exact⟨hle,h.symm⟩
 ·simp only[hle,decide_false,cond_false,reduceCtorEq]at h
theorem cm.M9{γ:bo}:∀{l l':List Value},cm γ l l'->l.all fG=l'.all fG
 | _,_,.nil=>rfl
 | _,_,.cons h t=>by simp only[bYm,h.one,cm.M9 t]
theorem Rel.store{O:da}{base:Nat}{γ:bo}{H:ah}{w:World}{P:Program}{pm:Perm}(h:Rel O base γ H w){b off:Nat}{z:dI}{L:Loc}{cs gg vs p':List Value}(bC:γ b=some L)(az:H.get b=some (.cells cs z))
 (aG:setCells cs off vs=some gg) (aw:cm γ vs p') (U:vs.all fG=true) (xI:pm.may b=true):
 ∃w',(storeCells ⟨L.bI,L.d+off,none⟩ p').run P w=.ok () w'/\Step O base pm γ H w γ (H.put b (.cells gg z)) w':=by
 obtain⟨y,g1,g2⟩:=h.bI b L bC;rw[az]at g1;cases g1;obtain⟨c,elem,cz,av,aI,aQ,bt,cd,cv⟩:=g2;obtain⟨s1,s2,de⟩:=M8 aG;have hlen:=aw.length;obtain⟨w',ek,ao,e2,bd,b1,cK,il,nM,mh,pe⟩:=It (P:=P) (b:=L.bI) (off:=L.d+off) p' 0 w c av aI (aw.M9▸U) (by omega);refine⟨w',ao,Step.write h bC (by rw[az];trivial) xI cK il nM mh pe λN=>⟨ek,elem,cz,e2,by rw[bd];exact aI,by rw[bd,s2];exact aQ,by omega,by omega,λi v ad=>?_⟩⟩;rw[de i]at ad;simp only[Nat.add_zero]at b1;show ∃v',ek[L.d+i]? = some v'/\_;rw[b1 (L.d+i)];by_cases gB:off<=i/\i<off+vs.length
 ·rw[bm gB]at ad;rw[bm (by omega),show L.d+i-(L.d+off)=i-off by omega];exact aw.get ad
 ·rw[aU gB]at ad;rw[aU (by omega)];exact cv i v ad
section
variable{O:da}{P:Program}{base:Nat}{pm:Perm}{γ:bo}{H H':ah}{w:World}
def hY(O:da)(P:Program)(base:Nat)(pm:Perm)(γ:bo)(H:ah)(w:World)(s:Sem Next)(v:Value)(H':ah):Prop:=
 ∃eF v' w' bk,s.run P w=.ok eF w'/\(eF=.value v'∨eF=.skip/\v'=undef)/\bg bk v v'/\Step O base pm γ H w bk H' w'
theorem Wp{s:Sem Value}{v':Value}{w':World}(h:s.run P w=.ok v' w'):(do pure (Next.value (<-s)):Sem Next).run P w=.ok (.value v') w':=by
 simp[h]
theorem hY.pure(an:Rel O base γ H w){s:Sem Next}{v v':Value}(h:s.run P w=.ok (.value v') w)(aw:bg γ v v'):hY O P base pm γ H w s v H:=
 ⟨_,v',w,γ,h,.inl rfl,aw,Step.refl an⟩
theorem hY.val(an:Rel O base γ H w){s:Sem Value}{v v':Value}(h:s.run P w=.ok v' w)(aw:bg γ v v')(he:H'=H):hY O P base pm γ H w (do Pure.pure (Next.value (<-s))) v H':=
 by subst he;exact .pure an (Wp h) aw
theorem BJ{t:TypeId}(h:known P t=true):∃d,P.underlying t=some d:=xl.1 h
theorem aul{t:TypeId}(h:known P t=true):∃i,P.info? t=some i:=by
 obtain⟨d,aB⟩:=BJ h;unfold Program.underlying at aB
 cases e:P.info? t with
 | none=>rw[e]at aB;cases aB
 | some i=>exact⟨i,rfl⟩
theorem ef{t:TypeId}{d:TypeDesc}(h:P.underlying t=some d):(underlying t).run P w=.ok d w:=by simp[underlying,h]
theorem Iu{t:TypeId}{i:TypeInfo}(h:P.info? t=some i):(typeInfo t).run P w=.ok i w:=by simp[typeInfo,h]
theorem lR{t:TypeId}(h:known P t=true):(sizeOf t).run P w=.ok (P.cellsOf t) w:=by
 obtain⟨i,ad⟩:=aul h;simp[sizeOf,Iu ad,Program.cellsOf,ad]
theorem M'{t:TypeId}(h:known P t=true):(isAgg t).run P w=.ok (oh P t) w:=by
 obtain⟨d,aB⟩:=BJ h;simp only[isAgg,Sem.run_bind,ef aB,Result.andThen_ok,oh,aB];cases d<;>rfl
theorem qe{t:TypeId}{z:Value}(h:zeroOf P t=some z):(∃i,P.info? t=some i/\i.zero=some z)/\Bb z=true/\z.cells.size=P.cellsOf t/\known P t=true:=by
 unfold zeroOf at h;split at h
 ·rename_i v e;split at h
  ·rename_i af;simp only[a6]at h;subst h;simp only[cG,bYd]at af;refine⟨?_,af.1.1,af.1.2,af.2⟩
   cases ad:P.info? t with
   | none=>rw[ad]at e;cases e
   | some i=>rw[ad]at e;exact⟨i,rfl,e⟩
  ·cases h
 ·cases h
theorem tM{t:TypeId}{z:Value}(h:zeroOf P t=some z):(zeroValue t).run P w=.ok z w:=by
 obtain⟨⟨i,ad,bl⟩,_⟩:=qe h;simp[zeroValue,Iu ad,bl]
theorem cm.BK{z:Value}(h:Bb z=true):cm γ z.cells.toList z.cells.toList:=(bg.plain h).cells
theorem bg.gC{k:IntKind}{n:Int}{v':Value}(h:bg γ (.int k n) v'):v'=.int k n:=by cases h;rfl
theorem bg.qf{b:Bool}{v':Value}(h:bg γ (.bool b) v'):v'=.bool b:=by cases h;rfl
theorem bg.jv{s:ByteArray}{v':Value}(h:bg γ (.string s) v'):v'=.string s:=by cases h;rfl
theorem bg.pj{a:Addr}{v':Value}(h:bg γ (.pointer (some a)) v'):∃L,γ a.block=some L/\a.spot=none/\v'=.pointer (some ⟨L.bI,L.d+a.off,none⟩):=by
 cases h with
 | ptr h=>exact⟨_,h,rfl,rfl⟩
theorem bg.BL{r:Nat}{v':Value}(h:bg γ (.map (some r)) v'):∃L,γ r=some L/\v'=.map (some L.bI):=by
 cases h with
 | Ir h=>exact⟨_,h,rfl⟩
theorem bg.zc{cs:Array Value}{v':Value}(h:bg γ (.agg cs) v'):∃gg,v'=.agg gg/\cm γ cs.toList gg.toList:=by
 cases h with
 | agg h=>exact⟨_,rfl,h⟩
theorem bg.Ik{cs:Array Value}{v':Value}(h:bg γ (.tuple cs) v'):∃gg,v'=.tuple gg/\cm γ cs.toList gg.toList:=by
 cases h with
 | tuple h=>exact⟨_,rfl,h⟩
theorem bg.sj{a:Addr}{n c:Nat}{v':Value}(h:bg γ (.slice (some a) n c) v'):
 ∃L,γ a.block=some L/\a.spot=none/\n<=c/\((∃ek,v'=.slice (some ⟨L.bI,L.d+a.off,none⟩) n ek/\c<=ek/\(ek=c∨0<L.s/\L.d+a.off+ek*L.s<=L.e))∨(n=0/\c=0/\∃a',v'=.slice (some a') 0 0)):=by
 cases h with
 | jN h af aF az=>exact⟨_,h,rfl,aF,.inl ⟨_,rfl,af,az⟩⟩
 | p9 h=>exact⟨_,h,rfl,bR _,.inr ⟨rfl,rfl,_,rfl⟩⟩
theorem bg.BM{n c:Nat}{v':Value}(h:bg γ (.slice none n c) v'):n=0/\c=0/\v'=.slice none 0 0:=by
 cases h;exact⟨rfl,rfl,rfl⟩
theorem cm.int:cm γ [] []:=.nil
theorem aum{l l':List Value}(h:cm γ l l'):bg γ (c5 l) (.agg l'.toArray):=.agg h
theorem Wq{agg:Bool}{off n:Nat}{cs:List Value}{v:Value}(h:vn agg off n cs=some v):(agg=true/\off+n<=cs.length/\v=c5 ((cs.drop off).take n))∨(agg=false/\cs[off]? = some v):=by
 cases agg with
 | true=>
   simp only[vn,cond_true]at h;split at h
   ·rename_i l e;obtain⟨a,b⟩:=EN e;simp only[a6]at h;exact .inl ⟨rfl,a,by rw[<-h,b]⟩
   ·cases h
 | false=>exact .inr ⟨rfl,h⟩
theorem Wr(an:Rel O base γ H w){t:TypeId}{v v' r:Value}(ag:known P t=true)(aw:bg γ v v')(h:(pX (oh P t) (P.cellsOf t) (some v)).run pm H=some (r,H')):
 ∃r',(Instr.loadAt t v').run P w=.ok r' w/\bg γ r r'/\H'=H:=by
 unfold pX at h;split at h
 ·rename_i a e;simp only[a6]at e;subst e;obtain⟨L,bC,_,rfl⟩:=aw.pj;obtain⟨x,az,h⟩:=run_get h;split at h
  ·rename_i cs af;obtain⟨aC,rfl⟩:=tJ h;obtain⟨c,elem,cz,av,aI,aQ⟩:=an.row bC az af;simp only[Instr.loadAt,Instr.sureAddr,loadVar,Sem.run_bind,Sem.run_pure,Result.andThen_ok,M' ag]
   rcases Wq aC with⟨aN,aF,rfl⟩ | ⟨aN,aK⟩
   ·rw[aN];simp only[if_true,Sem.run_bind,lR ag,Result.andThen_ok];rw[run_loadCells w ⟨L.bI,L.d+a.off,none⟩ (P.cellsOf t) (λj=>(c[L.d+a.off+j]?).getD undef) (λj aH=>by
     rw[add_eq,tL av,pU (by omega)];rfl)]
    exact⟨_,rfl,aum (aQ.Wo aF),trivial⟩
   ·obtain⟨u,ao,e2⟩:=aQ _ _ aK;rw[aN];refine⟨u,?_,e2,trivial⟩;simp only[oc,if_false,run_load,tL av];rw[show c[L.d+a.off]? = some u from ao]
  ·exact(bZ h).elim
 ·exact(bZ h).elim
theorem Iv(an:Rel O base γ H w){a:Addr}{vs p':List Value}{k:bF}{L:Loc}{r:Value×ah}(bC:γ a.block=some L)(aw:cm γ vs p')(h:(putRow a vs k).run pm H=some r):
 ∃H1 w',(storeCells ⟨L.bI,L.d+a.off,none⟩ p').run P w=.ok () w'/\Step O base pm γ H w γ H1 w'/\k.run pm H1=some r:=by
 unfold putRow at h;obtain⟨x,az,h⟩:=run_get h;split at h
 ·rename_i cs z;obtain⟨U,h⟩:=nO h;split at h
  ·rename_i gg aG;obtain⟨aC,h⟩:=tK h;obtain⟨w',ao,e2⟩:=an.store (P:=P) bC az aG aw U aC;exact⟨_,w',ao,e2,h⟩
  ·exact(bZ h).elim
 ·exact(bZ h).elim
theorem aun(an:Rel O base γ H w){t:TypeId}{v v' u k5 r:Value}(ag:known P t=true)(aw:bg γ v v')(hu:bg γ u k5)(h:(q6 (P.cellsOf t) (some v) (some u)).run pm H=some (r,H')):
 ∃w',(Instr.storeAt t v' k5).run P w=.ok () w'/\r=zWb/\Step O base pm γ H w γ H' w':=by
 unfold q6 at h;split at h
 ·rename_i a fm e e2;simp only[a6]at e e2;subst e e2;obtain⟨L,bC,_,rfl⟩:=aw.pj;obtain⟨aF,h⟩:=nO h;obtain⟨H1,w',ao,e2,bd⟩:=Iv (P:=P) an bC hu.cells h;obtain⟨b1,rfl⟩:=fe bd;refine⟨w',?_,b1.symm,e2⟩;have gb:k5.cells.size=P.cellsOf t:=by
   have:=hu.cells.length;rw[ed]at aF;have:=y0 aF;simp only[bZO]at*
   omega
  simp only[Instr.storeAt,Instr.sureAddr,storeVar,Sem.run_bind,Sem.run_pure,Result.andThen_ok,lR ag,gb,ne_eq,not_true_eq_false,if_false];exact ao
 ·exact(bZ h).elim
end
theorem sd(a b:Int):jO a b=(a==b):=by
 cases a with
 | ofNat m=>cases b with
   | ofNat n=>
     simp only[jO,ed]
     by_cases h:m=n
     ·subst h;simp
     ·have:¬(Int.ofNat m=Int.ofNat n):=λe=>h (Int.ofNat.inj e)
      rw[show(Int.ofNat m==Int.ofNat n)=false from beq_false_of_ne this];simp[h]
   | negSucc n=>rfl
 | negSucc m=>cases b with
   | ofNat n=>rfl
   | negSucc n=>
     simp only[jO,ed]
     by_cases h:m=n
     ·subst h;simp
     ·have:¬(Int.negSucc m=Int.negSucc n):=λe=>h (Int.negSucc.inj e)
      rw[show(Int.negSucc m==Int.negSucc n)=false from beq_false_of_ne this];simp[h]
theorem Iw(a b:Int):lG a b=decide (a<b):=by
 cases a with
 | ofNat m=>cases b with
   | ofNat n=>
     simp only[lG,js]
     congr 1
     exact propext ⟨λh=>by simpa using h,λh=>by simpa using h⟩
   | negSucc n=>
     simp only[lG]
     symm
     exact bZS (by have:=Int.negSucc_lt_zero n;have:(0:Int)<=Int.ofNat m:=Int.natCast_nonneg m;omega)
 | negSucc m=>cases b with
   | ofNat n=>
     simp only[lG]
     symm
     exact bZF (by have:=Int.negSucc_lt_zero m;have:(0:Int)<=Int.ofNat n:=Int.natCast_nonneg n;omega)
   | negSucc n=>
     simp only[lG,js]
     congr 1
     exact propext ⟨λh=>by simp only[Int.negSucc_eq];omega,λh=>by simp only[Int.negSucc_eq]at h;omega⟩
theorem vE(k:IntKind)(n:Int):wr k n=k.wrap n:=by
 unfold wr;split
 ·rename_i m;rw[js];by_cases h:m<half k
  ·simp only[h,decide_true,cond_true];unfold IntKind.wrap;have hm:(Int.ofNat m:Int)=(m:Int):=rfl;rw[hm];cases k<;>simp only[half]at h<;>simp only[IntKind.bits,IntKind.signed,Nat.reduceSub,Int.reducePow,Bool.true_and,Bool.false_and,oc,if_false]<;>first | omega | (rw[aU (by simp;omega)];omega)
  ·simp only[h,decide_false,cond_false]
 ·rfl
section
variable{O:da}{P:Program}{base:Nat}{pm:Perm}{γ:bo}{H H':ah}{w:World}
theorem auo{op:BinOp}{k:IntKind}{a b:Int}{v:Value}(h:iI op k a b=some v):
 ∃f,(match op with
  | .add | .sub | .mul=>f=Op.intArith op k a b
  | .quo | .rem=>f=Op.intDiv op k a b
  | .and | .or | .xor | .andNot=>f=Op.intBits op k a b
  | _=>f=Op.intCmp op a b)/\f.run P w=.ok v w/\bg γ v v:=by
 cases op<;>simp only[iI,a6,reduceCtorEq,sd,Iw,vE]at h
 case quo=>
  refine⟨_,rfl,?_⟩;by_cases ai:b=0
  ·subst ai;simp at h
  ·have:(b==0)=false:=beq_false_of_ne ai;rw[this]at h;simp only[cond_false,a6]at h;subst h;exact⟨by simp[Op.intDiv,ai],.int _ _⟩
 case rem=>
  refine⟨_,rfl,?_⟩;by_cases ai:b=0
  ·subst ai;simp at h
  ·have:(b==0)=false:=beq_false_of_ne ai;rw[this]at h;simp only[cond_false,a6]at h;subst h;exact⟨by simp[Op.intDiv,ai],.int _ _⟩
 all_goals
  subst h
  refine⟨_,rfl,?_,by constructor⟩
  first
   | rfl
   | (simp only[Op.intCmp,Sem.run_pure];first | rfl | (congr 2;rw[<-decide_not];congr 1;exact propext (by omega)) | (simp[bne];done))
theorem aup{op:BinOp}{x y:ByteArray}{v:Value}(h:xr op x y=some v):(Op.stringOp op x y).run P w=.ok v w/\bg γ v v:=by
 cases op<;>simp only[xr,a6,reduceCtorEq]at h
 case add=>
  rw[dA]at h;by_cases hle:x.size+y.size<=4294967296
  ·simp only[hle,decide_true,cond_true,a6]at h;subst h;refine⟨?_,.str _⟩;simp[Op.stringOp];omega
  ·simp[hle]at h
 all_goals
  subst h
  exact⟨by simp[Op.stringOp],.bool _⟩
end
section
variable{O:da}{P:Program}{base:Nat}{pm:Perm}{γ:bo}{H H':ah}{w:World}
theorem Ws{op:BinOp}{t:TypeId}{xo yo:Operand}{a b a' b' v:Value}(vF:op=.shl∨op=.shr)(h:xt op a b=some v)(aN:bg γ a a')(ai:bg γ b b'):
 (do eqGuard op t xo yo a' b';Go.binOp op t a' b':Sem Value).run P w=.ok v w/\bg γ v v:=by
 unfold xt at h;split at h
 ·rename_i k x aI n;obtain rfl:=aN.gC;obtain rfl:=ai.gC
  rcases vF with rfl | rfl
  ·simp only[a6,vE]at h;subst h;refine⟨?_,.int _ _⟩;simp[eqGuard,Go.binOp,Op.shift];intro mX;exact absurd mX (by omega)
  ·simp only[a6]at h;subst h;refine⟨?_,.int _ _⟩;simp[eqGuard,Go.binOp,Op.shift];intro mX;exact absurd mX (by omega)
 ·cases h
theorem auq{op:BinOp}{t:TypeId}{xo yo:Operand}{a b a' b' v:Value}(vF:op≠.shl/\op≠.shr/\op≠.eql/\op≠.neq)(h:Bc op a b=some v)(aN:bg γ a a')(ai:bg γ b b'):
 (do eqGuard op t xo yo a' b';Go.binOp op t a' b':Sem Value).run P w=.ok v w/\bg γ v v:=by
 obtain⟨U,aa,aq,a8⟩:=vF;unfold Bc at h;split at h
 ·rename_i k x aI y;obtain rfl:=aN.gC;obtain rfl:=ai.gC;split at h
  ·rename_i ag;subst ag;obtain⟨f,bc,e7,aw⟩:=auo (P:=P) (w:=w) (γ:=γ) h;refine⟨?_,aw⟩;cases op<;>first | (exact absurd rfl U) | (exact absurd rfl aa) | (exact absurd rfl aq) | (exact absurd rfl a8) | (simp only at bc;subst bc;simpa [eqGuard,Go.binOp]using e7) | (simp[iI]at h)
  ·cases h
 ·rename_i x y;obtain rfl:=aN.jv;obtain rfl:=ai.jv;obtain⟨e7,aw⟩:=aup (P:=P) (w:=w) (γ:=γ) h;refine⟨?_,aw⟩;cases op<;>first | (exact absurd rfl U) | (exact absurd rfl aa) | (exact absurd rfl aq) | (exact absurd rfl a8) | (simpa [eqGuard,Go.binOp]using e7)
 ·cases h
theorem Na{k:jM}{a b a' b':Value}{r:Bool}(h:lH k a b=some r)(aN:bg γ a a')(ai:bg γ b b'):a'=a/\b'=b:=by
 unfold lH at h;split at h
 ·exact⟨aN.gC,ai.gC⟩
 ·exact⟨aN.jv,ai.jv⟩
 ·exact⟨aN.qf,ai.qf⟩
 ·cases h
theorem Ix{d:Nat}{t:TypeId}{k:jM}{a b:Value}{r:Bool}(aS:oi P t=some k)(h:lH k a b=some r):(Op.equalIn (d+1) t a b).run P w=.ok r w:=by
 unfold oi at aS;unfold lH at h;split at h
 ·rename_i av x aI y;split at h
  ·rename_i ag;subst ag;simp only[a6,sd]at h;subst h;split at aS<;>simp only[a6,reduceCtorEq]at aS;rename_i aQ hu;exact run_equalIn_int w d t _ aQ x y hu
  ·cases h
 ·rename_i x y;simp only[a6]at h;subst h;split at aS<;>simp only[a6,reduceCtorEq]at aS;rename_i hu;exact run_equalIn_string w d t x y hu
 ·rename_i x y;simp only[a6]at h;subst h;split at aS<;>simp only[a6,reduceCtorEq]at aS;rename_i hu;exact run_equalIn_bool' w d t x y hu
 ·cases h
theorem EO{t:TypeId}{k:jM}(aS:oi P t=some k):known P t=true/\oh P t=false:=by
 unfold oi at aS;unfold known oh;split at aS<;>first | (rename_i hu;rw[hu];exact⟨rfl,rfl⟩) | cases aS
theorem Iy{t:TypeId}{cs:Array Value}{off:Nat}{v:Value}(ag:known P t=true)(aN:oh P t=false)(h:cs.toList[off]? = some v):(part t cs off).run P w=.ok v w:=by
 simp only[part,Sem.run_bind,M' ag,aN,Result.andThen_ok,oc,if_false];rw[<-bZD,h];rfl
theorem Wt{d:Nat}:∀(fs:List Field) (i:Nat) (ks:List jM) (pre BN xs dz:List Value) (r:Bool),xp P fs i=some ks->ij ks xs dz=some r->pre.length=i->BN.length=i->
 (Op.eqFields (d+1) ⟨pre++xs⟩ ⟨BN++dz⟩ fs).run P w=.ok r w
 | [],i,ks,pre,BN,xs,dz,r,aC,h,_,_=>by
   simp only[xp,a6]at aC;subst aC;cases xs<;>cases dz<;>simp only[ij,a6,reduceCtorEq]at h;subst h;rfl
 | f::fs,i,ks,pre,BN,xs,dz,r,aC,h,aO,lS=>by
   simp only[xp]at aC;split at aC
   ·rename_i af;simp only[cG,bne_iff_ne,bYd]at af;split at aC
    ·rename_i k l U aa;simp only[a6]at aC;subst aC
     cases xs with
     | nil=>simp[ij]at h
     | cons a x=>
       cases dz with
       | nil=>simp[ij]at h
       | cons b y=>
         obtain⟨bn,bh⟩:=EO U;simp only[ij]at h;have ao:(part f.type ⟨pre++a::x⟩ f.offset).run P w=.ok a w:=Iy bn bh (by rw[af.2];simp[<-aO]);have e2:(part f.type ⟨BN++b::y⟩ f.offset).run P w=.ok b w:=Iy bn bh (by rw[af.2];simp[<-lS]);simp only[Op.eqFields,ne_eq,af.1,not_false_eq_true,if_true,Sem.run_bind,ao,e2,Result.andThen_ok];split at h
         ·rename_i lT;rw[Ix U lT];simp only[Result.andThen_ok,Bool.not_true,oc,if_false];have:=Wt (d:=d) fs (i+1) l (pre++[a]) (BN++[b]) x y r aa h (by simp[aO]) (by simp[lS]);simpa using this
         ·rename_i lT;rw[Ix U lT];simp only[Result.andThen_ok,Bool.not_false,if_true,Sem.run_pure];split at h
          ·simp only[a6]at h;subst h;rfl
          ·cases h
         ·cases h
    ·cases aC
   ·cases aC
theorem Nb:∀{ks:List jM} {xs dz zk Wu:List Value} {r:Bool},ij ks xs dz=some r->cm γ xs zk->cm γ dz Wu->zk=xs/\Wu=dz
 | [],[],[],_,_,_,_,.nil,.nil=>⟨rfl,rfl⟩
 | k::ks,a::x,b::y,_,_,_,h,.cons aN az,.cons ai bu=>by
   simp only[ij]at h;split at h
   ·rename_i lT;obtain⟨rfl,rfl⟩:=Na lT aN ai;obtain⟨rfl,rfl⟩:=Nb h az bu;exact⟨rfl,rfl⟩
   ·rename_i lT;obtain⟨rfl,rfl⟩:=Na lT aN ai;split at h
    ·rename_i cB aa;obtain⟨rfl,rfl⟩:=Nb aa az bu;exact⟨rfl,rfl⟩
    ·cases h
   ·cases h
theorem EP{t:TypeId}{ks:List jM}(h:xq P t=some ks):∃fs,P.underlying t=some (.struct fs)/\P.stoodInHeld t=false/\P.eqGuardType P.depth t=false/\xp P fs.toList 0=some ks:=by
 unfold xq at h;split at h
 ·rename_i fs hu;split at h
  ·cases h
  ·rename_i af;simp only[nE,not_or,Bool.not_eq_true]at af;exact⟨fs,hu,af.1,af.2,h⟩
 ·cases h
theorem Wv{t:TypeId}{ks:List jM}{a b:Array Value}{r:Bool}{d:Nat}(aG:xq P t=some ks)(h:ij ks a.toList b.toList=some r):(Op.equalIn (d+2) t (.agg a) (.agg b)).run P w=.ok r w:=by
 obtain⟨fs,U,aa,_,a8⟩:=EP aG;have bc:P.fieldsOf t=fs:=by simp[Program.fieldsOf,U]
 rw[run_equalIn_struct w (d+1) t a b (by rw[bc];exact U) aa,bc];have:=Wt (P:=P) (w:=w) (d:=d) fs.toList 0 ks [] [] a.toList b.toList r a8 h rfl rfl;simpa using this
theorem Ww{op:BinOp}{t:TypeId}{xo yo:Operand}{a b:Value}(h:¬(a=.nilIface/\b=.nilIface))(aa:¬∃x y,a=.agg x/\b=.agg y):
 (eqGuard op t xo yo a b).run P w=.ok () w:=by
 cases op<;>first
  | (simp[eqGuard];done)
  | (cases a<;>cases b<;>first
   | (simp[eqGuard];done)
   | (exact absurd ⟨rfl,rfl⟩ h)
   | (exact absurd ⟨_,_,rfl,rfl⟩ aa))
theorem aur{op:BinOp}{t:TypeId}{xo yo:Operand}(h:(isConst xo||isConst yo)=true):(eqGuard op t xo yo .nilIface .nilIface).run P w=.ok () w:=by
 cases op<;>first
  | (simp[eqGuard];done)
  | (cases xo<;>cases yo<;>first | (simp[isConst]at h;done) | (simp[eqGuard];done))
theorem aus{nP:xm}{a b a' b':Value}{r:Bool}{t:TypeId}{d:Nat}(h:nI nP a b=some r)(aN:bg γ a a')(ai:bg γ b b')
 (aS:match nP with | .ptr=>∃e,P.underlying t=some (.pointer e) | .jN=>∃e,P.underlying t=some (.slice e) | .map=>∃k e,P.underlying t=some (.map k e) | .fn=>∃p q v,P.underlying t=some (.func p q v) | .y1 _=>∃m,P.underlying t=some (.interface m)):
 (Op.equalIn (d+1) t a' b').run P w=.ok r w:=by
 unfold nI at h;split at h
 all_goals first | (cases h;done) | skip
 all_goals (obtain⟨e,aS⟩:=aS)
 all_goals first | (obtain⟨e2,bd,aS⟩:=aS) | (obtain⟨e2,aS⟩:=aS) | skip
 all_goals (cases aN<;>cases ai)
 all_goals first
  | (simp only[a6]at h;subst h;simp[Op.equalIn,ef aS];done)
  | (rename_i c
     have an:r=true:=by cases c<;>simp at h;exact h
     subst an
     simp[Op.equalIn,ef aS])
theorem aut{nP:xm}{b:Value}{r:Bool}{x:Array Value}(h:nI nP (.agg x) b=some r):False:=by cases nP<;>cases b<;>simp[nI]at h
theorem auu{nP:xm}{r:Bool}(h:nI nP .nilIface .nilIface=some r):nP=.y1 true:=by
 cases nP<;>simp[nI]at h;rename_i c;cases c
 ·simp at h
 ·rfl
theorem auv{nP:xm}{b:Value}{r:Bool}{k:IntKind}{n:Int}(h:nI nP (.int k n) b=some r):False:=by cases nP<;>cases b<;>simp[nI]at h
theorem auw{nP:xm}{b:Value}{r:Bool}{s:ByteArray}(h:nI nP (.string s) b=some r):False:=by cases nP<;>cases b<;>simp[nI]at h
theorem Nc{t:TypeId}{xo yo:Operand}{a b a' b':Value}{r:Bool}(aN:bg γ a a')(ai:bg γ b b')(aK:∀op,(eqGuard op t xo yo a' b').run P w=.ok () w)(he:(Op.equalIn 10000 t a' b').run P w=.ok r w)
 (ad:∀k n,a≠.int k n) (aG:∀s,a≠.string s):
 (do eqGuard .eql t xo yo a' b';Go.binOp .eql t a' b':Sem Value).run P w=.ok (.bool r) w/\(do eqGuard .neq t xo yo a' b';Go.binOp .neq t a' b':Sem Value).run P w=.ok (.bool (!r)) w:=by
 have ao:Go.binOp .eql t a' b'=(do Pure.pure (.bool (<-Op.equal t a' b'))):=by
  cases aN<;>first | (exact absurd rfl (ad _ _)) | (exact absurd rfl (aG _)) | (cases ai<;>rfl)
 have e2:Go.binOp .neq t a' b'=(do Pure.pure (.bool (!(<-Op.equal t a' b')))):=by
  cases aN<;>first | (exact absurd rfl (ad _ _)) | (exact absurd rfl (aG _)) | (cases ai<;>rfl)
 rw[ao,e2];simp[aK,Op.equal,Op.maxDepth,he]
theorem ok_eq{t:TypeId}{xo yo:Operand}{k:pa}{a b a' b':Value}{r:Bool}(ag:vm P t xo yo=some k)(h:nJ k a b=some r)(aN:bg γ a a')(ai:bg γ b b'):
 (do eqGuard .eql t xo yo a' b';Go.binOp .eql t a' b':Sem Value).run P w=.ok (.bool r) w/\(do eqGuard .neq t xo yo a' b';Go.binOp .neq t a' b':Sem Value).run P w=.ok (.bool (!r)) w:=by
 cases k with
 | aZ=>
   simp only[nJ]at h;unfold L4 at h;split at h
   ·rename_i av x aI y;obtain rfl:=aN.gC;obtain rfl:=ai.gC;split at h
    ·rename_i ER;subst ER;simp only[a6,sd]at h;subst h;constructor<;>simp[eqGuard,Go.binOp,Op.intCmp,bne]
    ·cases h
   ·rename_i x y;obtain rfl:=aN.jv;obtain rfl:=ai.jv;simp only[a6]at h;subst h;constructor<;>simp[eqGuard,Go.binOp,Op.stringOp]
   ·cases h
 | bool=>
   simp only[nJ]at h;have hu:oi P t=some .b:=by
    unfold vm at ag;split at ag<;>simp only[a6,reduceCtorEq,A9,and_false,exists_const]at ag;rename_i hu;simp[oi,hu]
   obtain⟨rfl,rfl⟩:=Na h aN ai;have nQ:∃x y,a'=.bool x/\b'=.bool y:=by
    cases a'<;>cases b'<;>first | exact⟨_,_,rfl,rfl⟩ | (simp[lH]at h;done)
   obtain⟨x,y,rfl,rfl⟩:=nQ;exact Nc aN ai (λop=>Ww (by simp) (by simp)) (Ix hu h) (by simp) (by simp)
 | nil nP=>
   simp only[nJ]at h;refine Nc aN ai (λop=>?_) (aus h aN ai ?_) (λk n e=>auv (e▸h)) (λs e=>auw (e▸h))
   ·by_cases aF:a'=.nilIface/\b'=.nilIface
    ·obtain⟨rfl,rfl⟩:=aF;cases aN;cases ai;obtain rfl:=auu h;refine aur ?_;unfold vm at ag;split at ag<;>simp only[a6,reduceCtorEq,A9,and_false,exists_const,pa.nil.injEq,xm.y1.injEq]at ag;exact ag
    ·refine Ww aF ?_;rintro⟨x,y,rfl,rfl⟩;cases aN;exact aut h
   ·unfold vm at ag;split at ag<;>simp only[a6,reduceCtorEq,A9,and_false,exists_const,pa.nil.injEq]at ag
    all_goals (subst ag;first | exact⟨_,by assumption⟩ | exact⟨_,_,by assumption⟩ | exact⟨_,_,_,by assumption⟩)
 | cells ks=>
   simp only[nJ]at h;have aG:xq P t=some ks:=by
    unfold vm at ag;split at ag<;>simp only[a6,reduceCtorEq,A9,pa.cells.injEq,exists_eq_right]at ag;exact ag
   split at h
   ·rename_i x y;obtain⟨cZ,rfl,az⟩:=aN.zc;obtain⟨mi,rfl,bu⟩:=ai.zc;obtain⟨ao,e2⟩:=Nb h az bu;have auy:cZ=x:=bZU.1 ao;have gW:mi=y:=bZU.1 e2;subst auy gW;obtain⟨_,_,_,aK,_⟩:=EP aG;exact Nc aN ai (λop=>run_eqGuard_agg w op t xo yo _ _ aK) (Wv aG h) (by simp) (by simp)
   ·cases h
end
section
variable{O:da}{P:Program}{base:Nat}{pm:Perm}{γ:bo}{H H':ah}{w:World}
def pk(v:Option Value)(l d:Nat):Prop:=v=none/\l=d∨∃k,v=some (.int k (l:Int))
theorem xJ{o:Option Value}{n:Nat}(h:et o=some n):∃k,o=some (.int k (n:Int)):=by
 unfold et at h;split at h
 ·simp only[a6]at h;subst h;exact⟨_,rfl⟩
 ·cases h
theorem vG{n:Nat}{e:Env}{a:Act}{G:Nat->Bool}(bz:eY γ n e a)(bA:hH G γ){d l:Nat}{o:Option Operand}(h:fj e d (o.map (rand G))=some l):pk (o.map a.eval) l d:=by
 cases o with
 | none=>simp only[Option.map_none,fj,a6]at h;exact .inl ⟨rfl,h.symm⟩
 | some r=>
   simp only[bZs,fj]at h;obtain⟨k,ag⟩:=xJ h;exact .inr ⟨k,by rw[bZs,(du bz bA r ag).gC]⟩
theorem zl{k:IntKind}{l y:Nat}{code:BoundsCode}(h:l<=y):(Instr.sliceBound (.int k (l:Int)) y code).run P w=.ok l w:=by
 rw[run_sliceBound w k l y code (by omega) (by omega)];simp
theorem ES{sl:Bool}{len cap l h m:Nat}{lo ad hf:Option Value}(aO:pk lo l 0)(c9:pk ad h len)(hm:pk hf m cap)(U:l<=h)(aa:h<=m)(aq:m<=cap)(qg:ad.isSome=true∨hf=none):
 (Instr.sliceBounds sl len cap lo ad hf).run P w=.ok (l,h,m) w:=by
 rcases hm with⟨rfl,rfl⟩ | ⟨aF2,rfl⟩<;>rcases c9 with⟨rfl,rfl⟩ | ⟨tN,rfl⟩<;>rcases aO with⟨rfl,rfl⟩ | ⟨aF3,rfl⟩<;>
  first
   | (simp at qg;done)
   | simp[Instr.sliceBounds,zl aq,zl aa,zl U]
   | simp[Instr.sliceBounds,zl aa,zl U]
   | simp[Instr.sliceBounds,zl aa]
   | simp[Instr.sliceBounds,zl U]
   | simp[Instr.sliceBounds]
theorem auz(an:Rel O base γ H w){t e:TypeId}{a:Option Addr}{n c l h m:Nat}{v' r:Value}{lo ad hf:Option Value}(aS:P.underlying t=some (.slice e))(ag:known P e=true)(aw:bg γ (.slice a n c) v')
 (aO:pk lo l 0) (c9:pk ad h n) (hm:pk hf m c) (qg:ad.isSome=true∨hf=none) (e7:(nK (P.cellsOf e) a l h m c).run pm H=some (r,H')):
 ∃r',(Instr.sliceAt t v' lo ad hf).run P w=.ok r' w/\bg γ r r'/\H'=H:=by
 unfold nK at e7;obtain⟨af,Nd⟩:=nO e7;clear e7;simp only[dA,cG,eh]at af;obtain⟨⟨U,aa⟩,aq⟩:=af;have he:P.elem t=e:=by simp[Program.elem,aS]
 have Iz:P.underlying t=some (.slice (P.elem t)):=by rw[he];exact aS
 rw[run_sliceAt_slice w t v' lo ad hf Iz]
 cases a with
 | none=>
   obtain⟨rfl,rfl,rfl⟩:=aw.BM;obtain⟨rfl,rfl⟩:=fe Nd;refine⟨.slice none 0 0,?_,?_,rfl⟩
   ·rw[run_slice_any w t none 0 0 Iz,ES aO c9 hm U aa aq qg];simp only[Result.andThen_ok,he,lR ag,sliced];congr 2<;>first | (split<;>rfl) | omega
   ·rw[show h-l=0 by omega,show m-l=0 by omega];exact .xH
 | some a=>
   obtain⟨x,az,e7⟩:=run_get Nd;clear Nd;obtain⟨L,bC,sk,tA,iY⟩:=aw.sj;have ka:r=.slice (some ⟨a.block,a.off+l*P.cellsOf e,none⟩) (h-l) (m-l)/\H'=H/\(P.cellsOf e=L.s∨L.s=0):=by
    obtain⟨y,g1,g2⟩:=an.bI a.block L bC;rw[az]at g1;cases g1;split at e7
    ·obtain⟨bl,e7⟩:=nO e7;obtain⟨ao,e2⟩:=fe e7;simp only[ed,nE,eh]at bl;obtain⟨_,_,_,_,_,aG,_⟩:=g2;exact⟨ao.symm,e2,by rcases bl with bl | bl;(left;omega);(right;omega)⟩
    ·obtain⟨ao,e2⟩:=fe e7;obtain⟨_,_,_,_,_,aG,_⟩:=g2;exact⟨ao.symm,e2,.inr aG⟩
    ·exact(bZ e7).elim
   obtain⟨rfl,rfl,aG⟩:=ka
   rcases iY with⟨ek,rfl,mY,jw⟩ | ⟨rfl,rfl,a',rfl⟩
   ·have pZ:∃eG,pk hf eG ek/\m<=eG/\eG<=ek/\(eG=m∨eG=ek/\m=c):=by
     rcases hm with⟨rfl,rfl⟩ | ⟨k,rfl⟩
     ·exact⟨ek,.inl ⟨rfl,rfl⟩,mY,bR _,.inr ⟨rfl,rfl⟩⟩
     ·exact⟨m,.inr ⟨k,rfl⟩,bR _,by omega,.inl rfl⟩
    obtain⟨eG,pZ,aF4,auA,auB⟩:=pZ;refine⟨sliced (some ⟨L.bI,L.d+a.off,none⟩) l h eG (P.cellsOf e),?_,?_,rfl⟩
    ·rw[run_slice_any w t _ n ek Iz,ES aO c9 pZ U (by omega) auA qg];simp only[Result.andThen_ok,he,lR ag]
    ·unfold sliced;by_cases IA:eG=l
     ·have ao:h-l=0:=by omega
      have e2:m-l=0:=by omega
      have bd:eG-l=0:=by omega
      rw[bm IA,ao,e2,bd];exact .p9 bC
     ·rw[aU IA,bZs,add_eq,show L.d+a.off+l*P.cellsOf e=L.d+(a.off+l*P.cellsOf e) by omega];refine .jN bC (by omega) (by omega) ?_
      rcases auB with rfl | ⟨rfl,rfl⟩
      ·exact .inl rfl
      ·rcases jw with rfl | ⟨nR,zm⟩
       ·exact .inl rfl
       ·refine .inr ⟨nR,?_⟩
        rcases aG with aG | aG
        ·rw[aG];have:eG*L.s=l*L.s+(eG-l)*L.s:=by rw[<-bYw];congr 1;omega
         omega
        ·omega
   ·have ft:m=0:=by omega
    subst ft;have IB:l=0:=by omega
    have auC:h=0:=by omega
    subst IB auC;refine⟨.slice (some a') 0 0,?_,?_,rfl⟩
    ·rw[run_slice_any w t _ 0 0 Iz,ES aO c9 hm U aa aq qg];simp only[Result.andThen_ok,he,lR ag,sliced];rfl
    ·simpa using bg.p9 (γ:=γ) (b:=a.block) (off:=a.off+0*P.cellsOf e) (a':=a') bC
theorem Wx{t e:TypeId}{ar:Option TypeId}{a a' r:Value}{n l h:Nat}{lo ad:Option Value}(aS:match ar with | none=>P.underlying t=some (.array n e) | some x=>P.underlying t=some (.pointer x)/\P.underlying x=some (.array n e))(ag:known P e=true)
 (aw:bg γ a a') (aO:pk lo l 0) (c9:pk ad h n) (e7:(vt n (P.cellsOf e) (some a) (some l) (some h)).run pm H=some (r,H')):
 ∃r',(Instr.sliceAt t a' lo ad none).run P w=.ok r' w/\bg γ r r'/\H'=H:=by
 unfold vt at e7;split at e7
 ·rename_i x cJ aa ao e2 bd;simp only[a6]at ao e2 bd;subst ao e2 bd;obtain⟨af,e7⟩:=nO e7;simp only[dA,cG,eh]at af;obtain⟨rfl,rfl⟩:=fe e7;obtain⟨L,bC,_,rfl⟩:=aw.pj;have ai:=λ(sl:Bool)=>ES (P:=P) (w:=w) (sl:=sl) aO c9 (.inl ⟨rfl,rfl⟩:pk none n n) af.1 af.2 (bR _) (.inr rfl);refine⟨.slice (some (if n=l then⟨L.bI,L.d+x.off,none⟩ else(⟨L.bI,L.d+x.off,none⟩:Addr).add (l*P.cellsOf e))) (h-l) (n-l),?_,?_,rfl⟩
  ·cases ar with
   | none=>simp[Instr.sliceAt,ef aS,Instr.sureAddr,ai,lR ag]
   | some ar=>simp[Instr.sliceAt,Instr.slice,ef aS.1,ef aS.2,asAddr,ai,lR ag]
  ·by_cases ET:n=l
   ·rw[bm ET,show h-l=0 by omega,show n-l=0 by omega];exact .p9 bC
   ·rw[aU ET,add_eq,show L.d+x.off+l*P.cellsOf e=L.d+(x.off+l*P.cellsOf e) by omega];exact .jN bC (bR _) (by omega) (.inl rfl)
 ·exact(bZ e7).elim
end
section
variable{O:da}{P:Program}{base:Nat}{pm:Perm}{γ:bo}{H H':ah}{w:World}
theorem auD{op:UnOp}{a a' v:Value}(h:unOp op a=some v)(aN:bg γ a a'):(Op.unary op a').run P w=.ok v w/\bg γ v v:=by
 unfold unOp at h;split at h
 ·rename_i k n;obtain rfl:=aN.gC;simp only[a6,vE]at h;subst h;exact⟨by simp[Op.unary,Op.intArith],.int _ _⟩
 ·rename_i k n;obtain rfl:=aN.gC;simp only[iI,a6]at h;subst h;exact⟨by simp[Op.unary,Op.intBits],.int _ _⟩
 ·obtain rfl:=aN.qf;simp only[a6]at h;subst h;exact⟨by simp[Op.unary],.bool _⟩
 ·cases h
theorem auE{s d:TypeId}{k ks:IntKind}{v v' r:Value}(aG:P.underlying s=some (.int ks))(aB:P.underlying d=some (.int k))(aw:bg γ v v')(h:(q7 (.int k) v).run pm H=some (r,H')):
 (convert s d v').run P w=.ok r w/\bg γ r r/\H'=H:=by
 unfold q7 at h;simp only at h;split at h
 ·obtain rfl:=aw.gC;obtain⟨rfl,rfl⟩:=fe h;refine⟨?_,.int _ _,rfl⟩;rw[vE];simp[convert,ef aG,ef aB,Conv.intToInt]
 ·exact(bZ h).elim
theorem auF{s d:TypeId}{v v' r:Value}(aG:P.underlying s=some .string)(aB:P.underlying d=some .string)(aw:bg γ v v')(h:(q7 .id v).run pm H=some (r,H')):
 (convert s d v').run P w=.ok r w/\bg γ r r/\H'=H:=by
 unfold q7 at h;simp only at h;split at h
 ·obtain rfl:=aw.jv;obtain⟨rfl,rfl⟩:=fe h;refine⟨?_,.str _,rfl⟩;simp[convert,ef aG,ef aB]
 ·exact(bZ h).elim
theorem extract_toList(cs:Array Value)(i n:Nat):(cs.extract i (i+n)).toList=(cs.toList.drop i).take n:=by
 rw[Array.toList_extract,List.extract_eq_take_drop,show i+n-i=n by omega]
theorem Wy{t:TypeId}{cs gg:Array Value}{off:Nat}{v:Value}(ag:known P t=true)(af:cm γ cs.toList gg.toList)(h:vn (oh P t) off (P.cellsOf t) cs.toList=some v):
 ∃v',(part t gg off).run P w=.ok v' w/\bg γ v v':=by
 rcases Wq h with⟨aN,aF,rfl⟩ | ⟨aN,aK⟩
 ·refine⟨.agg (gg.extract off (off+P.cellsOf t)),?_,?_⟩
  ·simp[part,M' ag,aN,lR ag]
  ·have:=(af.drop off).take (P.cellsOf t);rw[<-extract_toList gg]at this;exact .agg (l':=(gg.extract off (off+P.cellsOf t)).toList) this
 ·obtain⟨u,ao,e2⟩:=af.get aK;exact⟨u,Iy ag aN ao,e2⟩
theorem auG{s:TypeId}{fs:Array Field}{j3:Field}{i:Nat}{v v':Value}{a:Addr}(aG:P.underlying s=some (.struct fs))(bc:fs[i]? = some j3)(ag:known P j3.type=true)(aD:P.cellsOf j3.type≠0)(aw:bg γ v v')(he:v=.pointer (some a)):
 ∃r',(Instr.fieldAt s v' i).run P w=.ok r' w/\bg γ (.pointer (some ⟨a.block,a.off+j3.offset,none⟩)) r':=by
 subst he;obtain⟨L,bC,_,rfl⟩:=aw.pj;refine⟨.pointer (some ⟨L.bI,L.d+(a.off+j3.offset),none⟩),?_,.ptr bC⟩;simp only[Instr.fieldAt,Sem.run_bind,ef aG,Result.andThen_ok,bc,Instr.sureAddr,Sem.run_pure,fieldPlace,lR ag,aD,if_false,add_eq,bYb]
theorem auH{s:TypeId}{fs:Array Field}{j3:Field}{i:Nat}{cs:Array Value}{v' r:Value}(aG:P.underlying s=some (.struct fs))(bc:fs[i]? = some j3)(ag:known P j3.type=true)(aw:bg γ (.agg cs) v')(h:vn (oh P j3.type) j3.offset (P.cellsOf j3.type) cs.toList=some r):
 ∃r',(Instr.field s v' i).run P w=.ok r' w/\bg γ r r':=by
 obtain⟨gg,rfl,af⟩:=aw.zc;obtain⟨r',ao,e2⟩:=Wy (P:=P) (w:=w) ag af h;refine⟨r',?_,e2⟩;simp only[Instr.field,Sem.run_bind,ef aG,Result.andThen_ok,bc,asAgg,Sem.run_pure,ao]
theorem auI{t e:TypeId}{v v' i iq r:Value}{n:Nat}(aS:P.underlying t=some (.slice e))(ag:known P e=true)(aw:bg γ v v')(ad:bg γ i iq)(aF:et (some i)=some n)(h:(vo (P.cellsOf e) (some v) (some n)).run pm H=some (r,H')):
 ∃r',(Instr.indexAt t v' iq).run P w=.ok r' w/\bg γ r r'/\H'=H:=by
 obtain⟨k,fP⟩:=xJ aF;simp only[a6]at fP;subst fP;obtain rfl:=ad.gC;unfold vo at h;split at h
 ·rename_i a len cap m ao e2;simp only[a6]at ao e2;subst ao e2;obtain⟨af,h⟩:=nO h;simp only[js,eh]at af;obtain⟨rfl,rfl⟩:=fe h;obtain⟨L,bC,_,tA,iY⟩:=aw.sj
  rcases iY with⟨ek,rfl,_,_⟩ | ⟨rfl,_⟩
  ·refine⟨.pointer (some ⟨L.bI,L.d+(a.off+n*P.cellsOf e),none⟩),?_,.ptr bC,rfl⟩;have U:(0:Int)<=(n:Int)/\(n:Int)<(len:Int):=by omega
   simp only[Instr.indexAt,asIntOf,Sem.run_bind,Sem.run_pure,Result.andThen_ok,ef aS,U,and_self,if_true,lR ag,bXE,add_eq,bYb]
  ·omega
 ·exact(bZ h).elim
theorem auJ{t e:TypeId}{v v' i iq r:Value}{n m:Nat}(aS:P.underlying t=some (.array m e))(ag:known P e=true)(aw:bg γ v v')(ad:bg γ i iq)(aF:et (some i)=some n)(h:(vp m (P.cellsOf e) (some v) (some n)).run pm H=some (r,H')):
 ∃r',(Instr.indexAt t v' iq).run P w=.ok r' w/\bg γ r r'/\H'=H:=by
 obtain⟨k,fP⟩:=xJ aF;simp only[a6]at fP;subst fP;obtain rfl:=ad.gC;unfold vp at h;split at h
 ·rename_i a q ao e2;simp only[a6]at ao e2;subst ao e2;obtain⟨af,h⟩:=nO h;simp only[js,eh]at af;obtain⟨rfl,rfl⟩:=fe h;obtain⟨L,bC,_,rfl⟩:=aw.pj;refine⟨.pointer (some ⟨L.bI,L.d+(a.off+n*P.cellsOf e),none⟩),?_,.ptr bC,rfl⟩;have U:(0:Int)<=(n:Int)/\(n:Int)<(m:Int):=by omega
  simp only[Instr.indexAt,asIntOf,Sem.run_bind,Sem.run_pure,Result.andThen_ok,ef aS,Instr.sureAddr,U,and_self,if_true,lR ag,bXE,add_eq,bYb]
 ·exact(bZ h).elim
theorem auK{t:TypeId}{v v' i iq r:Value}{n:Nat}(aS:P.underlying t=some .string)(aw:bg γ v v')(ad:bg γ i iq)(aF:et (some i)=some n)(h:(vq (some v) (some n)).run pm H=some (r,H')):
 (Instr.index t v' iq).run P w=.ok r w/\bg γ r r/\H'=H:=by
 obtain⟨k,fP⟩:=xJ aF;simp only[a6]at fP;subst fP;obtain rfl:=ad.gC;unfold vq at h;split at h
 ·rename_i s q ao e2;simp only[a6]at ao e2;subst ao e2;obtain rfl:=aw.jv;split at h
  ·rename_i b ai;obtain⟨rfl,rfl⟩:=fe h;refine⟨?_,.int _ _,rfl⟩;have U:(0:Int)<=(n:Int):=by omega
   have ec:s[n]? = some b:=by
    rw[bZD]at ai;obtain⟨bO,he⟩:=ic.1 ai;have MV:n<s.size:=bO;rw[getElem?_pos s n MV];exact congrArg some he
   simp only[Instr.index,asIntOf,Sem.run_bind,Sem.run_pure,Result.andThen_ok,ef aS,U,if_true,bXE,ec]
  ·exact(bZ h).elim
 ·exact(bZ h).elim
theorem auL{t e:TypeId}{v v' i iq r:Value}{n m:Nat}(aS:P.underlying t=some (.array m e))(ag:known P e=true)(aw:bg γ v v')(ad:bg γ i iq)(aF:et (some i)=some n)(h:(xv (oh P e) m (P.cellsOf e) (some v) (some n)).run pm H=some (r,H')):
 ∃r',(Instr.index t v' iq).run P w=.ok r' w/\bg γ r r'/\H'=H:=by
 obtain⟨k,fP⟩:=xJ aF;simp only[a6]at fP;subst fP;obtain rfl:=ad.gC;unfold xv at h;split at h
 ·rename_i cs q ao e2;simp only[a6]at ao e2;subst ao e2;obtain⟨af,h⟩:=nO h;simp only[js,eh]at af;obtain⟨aC,rfl⟩:=tJ h;obtain⟨gg,rfl,hW⟩:=aw.zc;obtain⟨r',ao,e2⟩:=Wy (P:=P) (w:=w) ag hW aC;refine⟨r',?_,e2,rfl⟩;have U:(0:Int)<=(n:Int)/\(n:Int)<(m:Int):=by omega
  simp only[Instr.index,asIntOf,Sem.run_bind,Sem.run_pure,Result.andThen_ok,ef aS,U,and_self,if_true,lR ag,bXE,ao]
 ·exact(bZ h).elim
theorem auM{t:TypeId}{v v' r:Value}{l:Nat}{lo ad:Option Value}{bc:Nat->Option Nat}(aS:P.underlying t=some .string)(aw:bg γ v v')(aO:pk lo l 0)(c9:∀n h,bc n=some h->pk ad h n)
 (h:(sa (some v) (some l) (some bc)).run pm H=some (r,H')):(Instr.sliceAt t v' lo ad none).run P w=.ok r w/\bg γ r r/\H'=H:=by
 unfold sa at h;split at h
 ·rename_i s cJ f2 ao e2 bd;simp only[a6]at ao e2 bd;subst ao e2 bd;split at h
  ·rename_i Nf auN;obtain⟨af,h⟩:=nO h;simp only[dA,cG,eh]at af;obtain⟨rfl,rfl⟩:=fe h;obtain rfl:=aw.jv;refine⟨?_,.str _,rfl⟩;have ai:=ES (P:=P) (w:=w) (sl:=false) aO (c9 _ _ auN) (.inl ⟨rfl,rfl⟩:pk none s.size s.size) af.1 af.2 (bR _) (.inr rfl);rw[run_sliceAt_string w t _ lo ad none aS];simp only[Instr.slice,Sem.run_bind,ef aS,Result.andThen_ok,Option.isSome_none,oc,if_false,ai,Sem.run_pure]
  ·exact(bZ h).elim
 ·exact(bZ h).elim
theorem auO{i:Nat}{vs:Array Value}{v' r:Value}(aw:bg γ (.tuple vs) v')(h:vs.toList[i]? = some r):∃r',(Instr.extract v' i).run P w=.ok r' w/\bg γ r r':=by
 obtain⟨p',rfl,af⟩:=aw.Ik;obtain⟨u,ao,e2⟩:=af.get h;refine⟨u,?_,e2⟩;simp only[Instr.extract];rw[<-bZD,ao];rfl
theorem Wz{hf:Bool}{ts:Array TypeId}{ty:TypeId}{a b a' b' r:Value}(aN:bg γ a a')(ai:bg γ b b')(h:(pY hf (some a) (some b)).run pm H=some (r,H')):
 (if hf then Builtin.max_ ts ty #[a',b'] else Builtin.min_ ts ty #[a',b']).run P w=.ok r w/\bg γ r r/\H'=H:=by
 unfold pY at h;split at h
 ·rename_i k x aI y ao e2;simp only[a6]at ao e2;subst ao e2;obtain rfl:=aN.gC;obtain rfl:=ai.gC;obtain⟨rfl,rfl⟩:=fe h;refine⟨?_,.int _ _,rfl⟩;cases hf
  ·simp only[oc,if_false,Builtin.min_,cond_false,Iw];simp only[List.foldlM,Builtin.min2];by_cases bO:y<x<;>simp[bO]
  ·simp only[if_true,Builtin.max_,cond_true,Iw];simp only[List.foldlM,Builtin.max2];by_cases bO:x<y<;>simp[bO]
 ·exact(bZ h).elim
end
section
variable{O:da}{P:Program}{base:Nat}{pm:Perm}{γ:bo}{H H':ah}{w:World}
theorem si.of{γ:bo}{cs:List Value}{c:Array Value}(h:cm γ cs c.toList):si γ cs (λi=>c[0+i]?):=by
 intro i v ad;obtain⟨v',ao,e2⟩:=h.get ad;refine⟨v',?_,e2⟩;show c[0+i]? = some v';rw[Nat.zero_add,<-bZD,ao]
theorem Step.IC(an:Rel O base γ H w)(bc:pm.gV γ H){cs:List Value}{c:Array Value}(elem:TypeId)(z:dI)(Ng:∀a,z=.t a->elem=a)(af:cm γ cs c.toList):
 Step O base pm γ H w (γ.set (pm.pick H) ⟨w.heap.size,0,z.val,c.size⟩) (pm.make H (.cells cs z)) {w with heap:=w.heap.push (.cells c elem)}:=
 Step.alloc an bc (.cells cs z) (.cells c elem) z.val c.size λN bk hle=>by
  refine⟨c,elem,(0,0),by simp,λi _=>by simp,⟨rfl,dI.auj Ng rfl (by have:=af.length;simp at this;omega)⟩,bR _,?_,?_⟩
  ·have:=af.length;simp only[bZO]at this;show 0+cs.length<=c.size;omega
  ·exact si.of (af.mono hle)
theorem Step.auP(an:Rel O base γ H w)(bc:pm.gV γ H){cs:List Value}{c:Array Value}(elem:TypeId)(z:dI)(Ng:∀d sz l,z.ok elem d sz l)(aO:cs.length<=c.size)(af:si γ cs (λi=>c[0+i]?)):
 Step O base pm γ H w (γ.set (pm.pick H) ⟨w.heap.size,0,z.val,c.size⟩) (pm.make H (.cells cs z)) {w with heap:=w.heap.push (.cells c elem)}:=
 Step.alloc an bc (.cells cs z) (.cells c elem) z.val c.size λN bk hle=>
  ⟨c,elem,(0,0),by simp,λi _=>by simp,⟨rfl,Ng _ _ _⟩,bR _,by show 0+cs.length<=c.size;omega,λi v ad=>let ⟨v',a,b⟩:=af i v ad;⟨v',a,b.mono hle⟩⟩
theorem bo.Nh(γ:bo){n b s e:Nat}:bg (γ.set n ⟨b,0,s,e⟩) (ptr n) (.pointer (some ⟨b,0,none⟩)):=by
 have:=bg.ptr (γ:=γ.set n ⟨b,0,s,e⟩) (off:=0) (bo.im γ n ⟨b,0,s,e⟩);simpa [ptr]using this
theorem bo.WA(γ:bo){n b s e l c:Nat}(h:l<=c):bg (γ.set n ⟨b,0,s,e⟩) (.slice (some ⟨n,0,none⟩) l c) (.slice (some ⟨b,0,none⟩) l c):=by
 have:=bg.jN (γ:=γ.set n ⟨b,0,s,e⟩) (off:=0) (bo.im γ n ⟨b,0,s,e⟩) (bR c) h (.inl rfl);simpa using this
theorem auQ(an:Rel O base γ H w)(bc:pm.gV γ H){e:TypeId}{z:Value}{r:Value}(bl:zeroOf P e=some z)(h:(bF.new (.cells z.cells.toList (.t e)) λb=>.ret (ptr b)).run pm H=some (r,H')):
 ∃r' w' bk,(Instr.alloc e true (.tuple #[])).run P w=.ok r' w'/\bg bk r r'/\Step O base pm γ H w bk H' w':=by
 simp only[bF.run,a6,c2]at h;obtain⟨rfl,rfl⟩:=h;obtain⟨_,aC,_⟩:=qe bl;refine⟨_,_,_,?_,bo.Nh γ,Step.IC an bc e (.t e) (λ_ q=>by cases q;rfl) (cm.BK aC)⟩;simp[Instr.alloc,tM bl,newVar,newRow]
theorem auR(an:Rel O base γ H w)(bc:pm.gV γ H){e:TypeId}{v v' r:Value}(aw:bg γ v v')(h:(bF.new (.cells v.cells.toList (.t e)) λb=>.ret (ptr b)).run pm H=some (r,H')):
 ∃r' w' bk,(Instr.box e v').run P w=.ok r' w'/\bg bk r r'/\Step O base pm γ H w bk H' w':=by
 simp only[bF.run,a6,c2]at h;obtain⟨rfl,rfl⟩:=h;refine⟨_,_,_,?_,bo.Nh γ,Step.IC an bc e (.t e) (λ_ q=>by cases q;rfl) aw.cells⟩;simp[Instr.box,newVar,newRow]
theorem Ni(off:Nat):∀(l:List Value) (jx:Nat) (cells:Array Value),off+jx+l.length<=cells.size->
 ((l.zipIdx jx).foldl (λcs (x:Value×Nat)=>cs.setIfInBounds (off+x.2) x.1) cells).size=cells.size/\
 ∀k,((l.zipIdx jx).foldl (λcs (x:Value×Nat)=>cs.setIfInBounds (off+x.2) x.1) cells)[k]? = if off+jx<=k/\k<off+jx+l.length then l[k-(off+jx)]? else cells[k]?
 | [],jx,cells,_=>⟨rfl,λk=>by rw[aU (by simp)];rfl⟩
 | v::l,jx,cells,h=>by
   simp only[bZt]at h;simp only[List.zipIdx_cons,bYW];obtain⟨ao,e2⟩:=Ni off l (jx+1) (cells.setIfInBounds (off+jx) v) (by rw[Array.size_setIfInBounds];omega);refine⟨by rw[ao,Array.size_setIfInBounds],λk=>?_⟩;rw[e2 k];simp only[bZt];by_cases ag:k=off+jx
   ·subst ag;rw[aU (by omega),bm (by omega)];simp[show off+jx<cells.size by omega]
   ·by_cases fP:off+jx<=k/\k<off+jx+(l.length+1)
    ·rw[bm (by omega),bm fP,show k-(off+jx)=(k-(off+(jx+1)))+1 by omega,bZZ]
    ·rw[aU (by omega),aU fP,A7 (show off+jx≠k from Ne.symm ag)]
theorem auS{cs gg vs p':List Value}{c:Array Value}{off:Nat}(aG:setCells cs off vs=some gg)(af:cm γ cs c.toList)(aw:cm γ vs p'):
 cm γ gg ((p'.zipIdx 0).foldl (λcs (x:Value×Nat)=>cs.setIfInBounds (off+x.2) x.1) c).toList:=by
 obtain⟨s1,s2,de⟩:=M8 aG;have aO:=af.length;have qh:=aw.length;simp only[bZO]at aO;obtain⟨ao,e2⟩:=Ni off p' 0 c (by omega);refine cm.vD (by simp only[bZO,ao];omega) λi v v' U aa=>?_;rw[de i]at U;rw[bZD,e2 i]at aa;simp only[Nat.add_zero]at aa;by_cases gB:off<=i/\i<off+vs.length
 ·rw[bm gB]at U;rw[bm (by omega)]at aa;obtain⟨u,cx,a2⟩:=aw.get U;rw[cx]at aa;exact bZI aa▸a2
 ·rw[aU gB]at U;rw[aU (by omega)]at aa;obtain⟨u,cx,a2⟩:=af.get U;rw[bZD,aa]at cx;exact bZI cx▸a2
inductive xK(γ:bo)(place:Nat->Option (Nat×Nat)):List (Nat×Nat×Value)->List (Nat×Value)->Prop
 | nil:xK γ place [] []
 | cons {i off n:Nat} {v v':Value} {l:List (Nat×Nat×Value)} {l':List (Nat×Value)} (aC:place i=some (off,n)) (aw:bg γ v v') (t:xK γ place l l'):xK γ place ((off,n,v)::l) ((i,v')::l')
theorem Nj{place:Nat->Option (Nat×Nat)}{l:List (Nat×Nat×Value)}{l':List (Nat×Value)}(aC:xK γ place l l'):∀{z r:List Value} {c:Array Value},fill z l=some r->cm γ z c.toList->
 ∃ek,Instr.fill place c l'=some ek/\cm γ r ek.toList/\ek.size=c.size:=by
 induction aC with
 | nil=>
   intro z r c h bl;simp only[fill,a6]at h;subst h;exact⟨c,rfl,bl,rfl⟩
 | @cons i off n v v' l l' iK aw t ih=>
   intro z r c h bl;simp only[fill,ed]at h;by_cases aF:v.cells.toList.length=n
   ·simp only[aF,decide_true,cond_true]at h;split at h
    ·rename_i z2 aG;have an:=auS aG bl aw.cells;obtain⟨s1,_,_⟩:=M8 aG;have aO:=aw.cells.length;have Nk:=bl.length;simp only[bZO]at aO Nk aF;obtain⟨ao,_⟩:=Ni off v'.cells.toList 0 c (by simp only[bZO,Nat.add_zero]at *;omega);obtain⟨ek,f1,f2,f3⟩:=ih h an;refine⟨ek,?_,f2,by rw[f3,ao]⟩;simp only[Instr.fill,iK];rw[aU (by simp only[bZO]at s1;simp only[ne_eq,nE,eh,not_or,Decidable.not_not,Nat.not_lt];omega)];rw[<-Array.foldl_toList,Array.toList_zipIdx];exact f1
    ·cases h
   ·rw[bZS aF]at h;cases h
end
section
variable{O:da}{P:Program}{base:Nat}{pm:Perm}{γ:bo}{H H':ah}{w:World}
theorem WB:∀(fs:List Field),fs.all (λf=>known P f.type)=true->
 (fs.mapM λf=>do pure (f.offset,<-sizeOf f.type):Sem (List (Nat×Nat))).run P w=.ok (fs.map λf=>(f.offset,P.cellsOf f.type)) w
 | [],_=>by simp
 | f::fs,h=>by
   simp only[bYm,cG]at h;have ih:=WB fs h.2;simp only[List.mapM_cons,Sem.run_bind,lR h.1,Result.andThen_ok,Sem.run_pure,bXm];rw[ih];rfl
theorem auT{fs:Array Field}(h:fs.all (λf=>known P f.type)=true):
 (fs.mapM λf=>do pure (f.offset,<-sizeOf f.type):Sem (Array (Nat×Nat))).run P w=.ok (fs.map λf=>(f.offset,P.cellsOf f.type)) w:=by
 rw[Array.mapM_eq_mapM_toList];have:=WB (P:=P) (w:=w) fs.toList (by simpa using h);simp only[Sem.run_map,this,Result.andThen_ok];congr 1;apply Array.ext';simp
theorem auU{t:TypeId}{fs:Array Field}{z:Value}{l:List (Nat×Nat×Value)}{parts:Array (Nat×Value)}{cs:List Value}(bl:zeroOf P t=some z)(aS:P.underlying t=some (.struct fs))(ag:fs.all (λf=>known P f.type)=true)
 (aC:xK γ (λi=>(fs.map λf=>(f.offset,P.cellsOf f.type))[i]?) l parts.toList) (h:fill z.cells.toList l=some cs):
 ∃r',(Instr.build t parts).run P w=.ok r' w/\bg γ (c5 cs) r':=by
 obtain⟨_,iK,_⟩:=qe bl;obtain⟨ek,f1,f2,_⟩:=Nj aC h (cm.BK iK);refine⟨.agg ek,?_,.agg f2⟩;simp only[Instr.build,Sem.run_bind,tM bl,Result.andThen_ok,ef aS,auT ag,f1,Sem.run_pure]
theorem auV{t e:TypeId}{n:Nat}{z:Value}{l:List (Nat×Nat×Value)}{parts:Array (Nat×Value)}{cs:List Value}(bl:zeroOf P t=some z)(aS:P.underlying t=some (.array n e))(ag:known P e=true)
 (aC:xK γ (λi=>some (i*P.cellsOf e,P.cellsOf e)) l parts.toList) (h:fill z.cells.toList l=some cs):
 ∃r',(Instr.build t parts).run P w=.ok r' w/\bg γ (c5 cs) r':=by
 obtain⟨_,iK,_⟩:=qe bl;obtain⟨ek,f1,f2,_⟩:=Nj aC h (cm.BK iK);refine⟨.agg ek,?_,.agg f2⟩;simp only[Instr.build,Sem.run_bind,tM bl,Result.andThen_ok,ef aS,lR ag,f1,Sem.run_pure]
theorem WC(l:List Value):∀n,(times l n).length=n*l.length
 | 0=>by simp[times]
 | n+1=>by simp[times,WC l n,bYw,Nat.add_comm]
theorem BO(l:List Value):∀(n i:Nat),i<n*l.length->(times l n)[i]? = some (l[i%l.length]!)
 | 0,i,h=>by simp at h
 | n+1,i,h=>by
   have nR:0<l.length:=tq λe=>by rw[e]at h;simp at h
   rw[times];by_cases ad:i<l.length
   ·rw[lB ad,q4 ad,hG ad,getElem!_pos l i ad]
   ·rw[lA (by omega),BO l n (i-l.length) (by rw[bYw]at h;omega)];congr 2;rw[Nat.mod_eq_sub_mod (by omega:i≥l.length)]
theorem Nl(z:Array Value)(n:Nat):((Array.range (n*z.size)).map λi=>z[i%z.size]!).toList=times z.toList n:=by
 apply bYj;intro i;by_cases ad:i<n*z.size
 ·rw[BO z.toList n i (by simpa using ad)];have nR:0<z.size:=tq λe=>by rw[e]at ad;simp at ad
  have hm:i%z.size<z.size:=bYe _ nR;rw[bZD,Array.getElem?_map,Array.getElem?_range,bm ad];simp only[bZs,bZO];rw[getElem!_pos z _ hm,getElem!_pos z.toList _ (by simpa using hm)];rfl
 ·rw[jq (by simpa using ad),jq (by rw[WC];simpa using ad)]
theorem ID{l:List Value}(h:cm γ l l):∀n,cm γ (times l n) (times l n)
 | 0=>.nil
 | n+1=>h.append (ID h n)
theorem auW(an:Rel O base γ H w)(bc:pm.gV γ H){t e:TypeId}{z:Value}{n:Nat}{l:List (Nat×Nat×Value)}{parts:Array (Nat×Value)}{cs:List Value}{r:Value}(aS:P.underlying t=some (.slice e))(bl:zeroOf P e=some z)(aF:n*P.cellsOf e<=65536)
 (aC:xK γ (λi=>some (i*P.cellsOf e,P.cellsOf e)) l parts.toList) (h:fill (times z.cells.toList n) l=some cs)
 (aa:(bF.new (.cells cs (.n (P.cellsOf e))) λb=>.ret (.slice (some ⟨b,0,none⟩) n n)).run pm H=some (r,H')):
 ∃r' w' bk,(Instr.buildSlice t n parts).run P w=.ok r' w'/\bg bk r r'/\Step O base pm γ H w bk H' w':=by
 simp only[bF.run,a6,c2]at aa;obtain⟨rfl,rfl⟩:=aa;obtain⟨_,iK,gb,ag⟩:=qe bl;have Nn:((Array.range (n*P.cellsOf e)).map λi=>z.cells[i%z.cells.size]!).toList=times z.cells.toList n:=by rw[<-gb];exact Nl z.cells n
 obtain⟨ek,f1,f2,f3⟩:=Nj aC h (c:=(Array.range (n*P.cellsOf e)).map λi=>z.cells[i%z.cells.size]!) (by rw[Nn];exact ID (cm.BK iK) n);refine⟨_,_,_,?_,bo.WA γ (bR n),Step.IC an bc e (.n (P.cellsOf e)) (λ_ q=>by cases q) f2⟩;simp only[Instr.buildSlice,Sem.run_bind,ef aS,Result.andThen_ok,lR ag];rw[aU (by omega)];by_cases aD:n*P.cellsOf e=0
 ·have No:((Array.range 0).map λi=>(#[]:Array Value)[i%(#[]:Array Value).size]!)=((Array.range 0).map λi=>z.cells[i%z.cells.size]!):=by
   apply Array.ext';simp
  rw[aD]at f1;simp only[aD,if_true,Sem.run_pure,Result.andThen_ok,No,f1,newRow,Sem.run_bind,run_newObj]
 ·simp only[aD,if_false,Sem.run_bind,tM bl,Result.andThen_ok,Sem.run_pure,f1,newRow,run_newObj]
theorem auX(an:Rel O base γ H w)(bc:pm.gV γ H){t:TypeId}{r:Value}(h:(bF.new (.map [] 0) λb=>.ret (.map (some b))).run pm H=some (r,H')):
 ∃r' w' bk,(Instr.makeMap t none).run P w=.ok r' w'/\bg bk r r'/\Step O base pm γ H w bk H' w':=by
 simp only[bF.run,a6,c2]at h;obtain⟨rfl,rfl⟩:=h;refine⟨.map (some w.heap.size),_,_,?_,bg.Ir (L:=⟨w.heap.size,0,0,0⟩) (bo.im γ _ _),Step.alloc an bc (.map [] 0) (.map #[] 0) 0 0 λN bk hle=>⟨#[],by simp,.nil⟩⟩;simp[Instr.makeMap]
theorem auY(an:Rel O base γ H w)(bc:pm.gV γ H){t:TypeId}{s:ByteArray}{r:Value}(aS:P.underlying t=some .string)(h:(bF.new (.iter s 0) λb=>.ret (ptr b)).run pm H=some (r,H')):
 ∃r' w' bk,(Instr.range t (.string s)).run P w=.ok r' w'/\bg bk r r'/\Step O base pm γ H w bk H' w':=by
 simp only[bF.run,a6,c2]at h;obtain⟨rfl,rfl⟩:=h;refine⟨_,_,_,?_,bo.Nh γ (s:=0) (e:=0),Step.alloc an bc (.iter s 0) (.stringIter s 0) 0 0 λN bk hle=>⟨by simp,rfl⟩⟩;simp[Instr.range,ef aS]
end
end Go.Dam
namespace Go.Dam
open Go Go.Builtin
section
variable{O:da}{P:Program}{base:Nat}{pm:Perm}{γ:bo}{H H':ah}{w:World}
theorem IE:∀l:List UInt8,cm γ (ew l) (ew l)
 | []=>.nil
 | _::l=>.cons (.int _ _) (IE l)
theorem EU(an:Rel O base γ H w){esz:Nat}{v v':Value}{k:List Value->Nat->bF}{r:Value×ah}(aw:bg γ v v')(h:(hV esz v k).run pm H=some r):
 ∃l l' n,(k l n).run pm H=some r/\cm γ l l'/\l.length=n*esz/\∀bL:World,bL.heap=w.heap->(lenOf v').run P bL=.ok n bL/\∀m,m<=n->(firstCells esz m v').run P bL=.ok (l'.take (m*esz)).toArray bL:=by
 unfold hV at h;split at h
 ·obtain⟨rfl,rfl,rfl⟩:=aw.BM;exact⟨[],[],0,h,.nil,by simp,λbL _=>⟨by simp[lenOf],λm _=>by simp[firstCells]⟩⟩
 ·rename_i a n c;obtain⟨L,bC,_,aF,af⟩:=aw.sj;obtain⟨x,az,h⟩:=run_get h;split at h
  ·rename_i cs hW;split at h
   ·rename_i l aO;obtain⟨g1,rfl⟩:=EN aO;obtain⟨c,elem,cz,av,aI,aQ⟩:=an.row bC az hW;refine⟨_,_,n,h,aQ.Wo g1,by simp;omega,λbL hw=>⟨?_,λm hm=>?_⟩⟩
    all_goals rw[<-hw]at av
    ·rcases af with⟨ek,rfl,_⟩ | ⟨rfl,_,a',rfl⟩<;>simp[lenOf]
    ·have IF:m*esz<=n*esz:=hQ _ hm
     rcases af with⟨ek,rfl,_⟩ | ⟨rfl,_,a',rfl⟩
     ·simp only[firstCells];rw[run_loadCells bL ⟨L.bI,L.d+a.off,none⟩ (m*esz) (λj=>(c[L.d+a.off+j]?).getD undef) (λj aH=>by
       rw[add_eq,tL av,pU (by omega)];rfl)]
      rw[<-List.map_take,List.take_range,bYL IF]
     ·obtain rfl:m=0:=by omega
      simp[firstCells,loadCells,loadCellsFrom]
   ·exact(bZ h).elim
  ·exact(bZ h).elim
 ·rename_i s;obtain rfl:=aw.jv;obtain⟨U,h⟩:=nO h;rw[ed]at U;obtain rfl:=y0 U;refine⟨_,_,s.size,h,IE _,by simp[ew],λbL _=>⟨by simp[lenOf],λm hm=>?_⟩⟩;simp only[firstCells,Sem.run_pure];congr 1;apply Array.ext';simp only[ew,Nat.mul_one,<-List.map_take,Array.toList_map,ByteArray.data_extract,Array.toList_extract];simp[List.extract]
 ·exact(bZ h).elim
theorem WD:∀{l l':List Value} {cW:List UInt8},bytesOf l=some cW->cm γ l l'->∃pn:List Int,l'=pn.map (Value.int .u8)/\cW=pn.map λn=>UInt8.ofNat n.toNat
 | [],_,_,h,.nil=>⟨[],rfl,by simpa [bytesOf]using h.symm⟩
 | v::l,_,cW,h,.cons aw t=>by
   unfold bytesOf at h;split at h
   ·rename_i e;exact absurd e (by simp)
   ·rename_i n cJ e;cases e;split at h
    ·rename_i r an;obtain⟨pn,ao,e2⟩:=WD an t;obtain rfl:=aw.gC;refine⟨n::pn,by simp[ao],?_⟩;simp only[a6]at h;rw[<-h,e2];rfl
    ·cases h
   ·cases h
theorem foldl_push(pn:List Int):∀b:ByteArray,pn.foldl (λr n=>r.push (UInt8.ofNat n.toNat)) b=⟨b.data++(pn.map λn=>UInt8.ofNat n.toNat).toArray⟩:=by
 induction pn with
 | nil=>intro b;simp
 | cons n pn ih=>
   intro b;simp only[bYW,ih,bXm];congr 1;apply Array.ext';simp[ByteArray.push]
theorem auZ(an:Rel O base γ H w){v v' r:Value}(aw:bg γ v v')(h:(q7 .L3 v).run pm H=some (r,H')):
 ∃r',(Conv.bytesToString v').run P w=.ok r' w/\(∃b m c,v'=.slice b m c)/\bg γ r r'/\H'=H:=by
 have aG:∀s,v≠.string s:=by
  intro s cY;subst cY;exact bZ h
 have qi:∃b m c,v'=.slice b m c:=by
  cases v<;>first | exact(bZ h).elim | (cases aw<;>exact⟨_,_,_,rfl⟩)
 have h:(hV 1 v λl _=>match bytesOf l with | some cW=>.ret (.string ⟨cW.toArray⟩) | none=>.fail).run pm H=some (r,H'):=by
  cases v<;>first | exact h | exact(bZ h).elim
 obtain⟨l,l',n,h,ao,e2,cK⟩:=EU (P:=P) an aw h;obtain⟨bd,b1⟩:=cK w rfl;split at h
 ·rename_i cW ai;obtain⟨rfl,rfl⟩:=fe h;obtain⟨pn,rfl,rfl⟩:=WD ai ao;have b1:=b1 n (bR n);have aO:=ao.length;rw[tp (by omega)]at b1;have au0:∃a len cap,v'=.slice a len cap:=by
   cases v'<;>first | exact⟨_,_,_,rfl⟩ | (cases aw;exact absurd rfl (aG _)) | (exfalso;simp[lenOf]at bd)
  ·obtain⟨a,len,cap,rfl⟩:=au0;simp only[lenOf,Sem.run_pure,Result.ok.injEq,and_true]at bd;subst bd
   cases a with
   | none=>
     simp only[firstCells,Sem.run_pure,Result.ok.injEq,and_true]at b1;have:pn=[]:=by
      have:=congrArg Array.size b1;simpa using this.symm
     subst this;refine⟨_,by simp[Conv.bytesToString];rfl,qi,?_,rfl⟩;exact .str _
   | some a=>
     simp only[firstCells,Nat.mul_one]at b1;refine⟨_,run_bytesToString w a len cap pn ?_,qi,?_,rfl⟩
     ·rw[b1]
     ·rw[foldl_push];have:(ByteArray.empty.data++(pn.map λn=>UInt8.ofNat n.toNat).toArray)=(pn.map λn=>UInt8.ofNat n.toNat).toArray:=by rw[show ByteArray.empty.data=#[] from rfl,Array.empty_append]
      rw[this];exact .str _
 ·exact(bZ h).elim
end
section
variable{O:da}{P:Program}{base:Nat}{pm:Perm}{γ:bo}{H H':ah}{w:World}
theorem wrap_small{n:Nat}(h:n<=1073741824):IntKind.i64.wrap (n:Int)=(n:Int):=by
 simp only[IntKind.wrap,IntKind.signed,IntKind.bits];simp;omega
theorem WE(k:IntKind)(n:Int):(asInt (.int k n)).run P w=.ok n w:=rfl
theorem WG{e:TypeId}{i:TypeInfo}(h:P.info? e=some i):i.bytes=P.bytesOf e:=by simp[Program.bytesOf,h]
theorem au1(an:Rel O base γ H w)(bc:pm.gV γ H){t e:TypeId}{z:Value}{r:Value}{n m:Nat}{k k':IntKind}(aS:P.underlying t=some (.slice e))(bl:zeroOf P e=some z)
 (h:(tu z.cells.toList (P.bytesOf e) (some n) (some m)).run pm H=some (r,H')):
 ∃r' w' bk,(Instr.makeSlice t (.int k (n:Int)) (.int k' (m:Int))).run P w=.ok r' w'/\bg bk r r'/\Step O base pm γ H w bk H' w':=by
 obtain⟨U,h⟩:=nO h;simp only[cG,dA,eh]at U;obtain⟨⟨cx,a2⟩,a3⟩:=U;simp only[bF.run,a6,c2]at h;obtain⟨rfl,rfl⟩:=h;obtain⟨⟨i,ad,au2⟩,iK,gb,ag⟩:=qe bl;have eo:IntKind.i64.wrap (m:Int)=m:=wrap_small a2;have lU:IntKind.i64.wrap (n:Int)=n:=wrap_small (by omega);have ai:=WG ad;have Nn:((Array.range (m*P.cellsOf e)).map λi=>z.cells[i%z.cells.size]!).toList=times z.cells.toList m:=by rw[<-gb];exact Nl z.cells m
 have WH:((P.bytesOf e:Int)*(m:Int))<=17179869184:=by rw[<-bXL];omega
 have EV:(decide ((m:Int)<0)||decide ((P.bytesOf e:Int)*(m:Int)>2^48)||decide ((n:Int)<0)||decide ((n:Int)>(m:Int)))=false:=by
  simp only[Bool.or_eq_false_iff,decide_eq_false_iff_not];refine⟨⟨⟨?_,?_⟩,?_⟩,?_⟩
  ·omega
  ·omega
  ·omega
  ·omega
 have gz:=Step.IC (pm:=pm) an bc (cs:=times z.cells.toList m) (c:=(Array.range (m*P.cellsOf e)).map λi=>z.cells[i%z.cells.size]!) e (.n z.cells.toList.length) (λ_ q=>by cases q) (by rw[Nn];exact ID (cm.BK iK) m);refine⟨_,_,_,?_,bo.WA γ cx,gz⟩;simp only[Instr.makeSlice,Sem.run_bind,ef aS,Result.andThen_ok,WE,Iu ad,ai,eo,lU,EV,oc,if_false];simp only[run_askRoom,Result.andThen_ok,lR ag,bXE];by_cases aD:m*P.cellsOf e=0
 ·have No:((Array.range 0).map λi=>(#[]:Array Value)[i%(#[]:Array Value).size]!)=((Array.range 0).map λi=>z.cells[i%z.cells.size]!):=by
   apply Array.ext';simp
  simp only[aD,if_true,Sem.run_pure,Result.andThen_ok,newRow,Sem.run_bind,run_newObj,No]
 ·simp only[aD,if_false,Sem.run_bind,tM bl,Result.andThen_ok,Sem.run_pure,newRow,run_newObj]
theorem au3(h:Array Obj)(o:Obj)(f:Obj->Obj):(h.push o).modify h.size f=h.push (f o):=by
 apply Array.ext_getElem?;intro i;simp only[bWK,bYT];by_cases ad:h.size=i
 ·subst ad;simp
 ·rw[aU ad,aU (Ne.symm ad),aU (Ne.symm ad)]
theorem au4(an:Rel O base γ H w)(bc:pm.gV γ H){e:TypeId}{s:ByteArray}{r:Value}(h:(q7 .D0 (.string s)).run pm H=some (r,H')):
 ∃r' w' bk,(Conv.stringToBytes e s).run P w=.ok r' w'/\bg bk r r'/\Step O base pm γ H w bk H' w':=by
 simp only[q7,bF.run,a6,c2]at h;obtain⟨rfl,rfl⟩:=h;generalize vH:s.size+w.tape w.drawn (.appendCap s.size 0 e)%(2^63-s.size)=cap;generalize af:(s.data.map λb=>Value.int .u8 b.toNat)++Array.replicate (cap-s.size) (.int .u8 0)=c;have hW:c.size=s.size+(cap-s.size):=by rw[<-af];simp
 have aB:Rel O base γ H {w with drawn:=w.drawn+1}:=(Step.drawn (pm:=pm) an (w.drawn+1)).rel;have gz:=(Step.drawn (pm:=pm) an (w.drawn+1)).trans (Step.alloc (pm:=pm) aB bc (.cells (ew s.data.toList) (.n 1)) (.cells c e (c.size,c.size+1)) 1 c.size λN bk hle=>by
  refine⟨c,e,(c.size,c.size+1),by simp,λi ad=>by simp;omega,⟨rfl,trivial⟩,bR _,by simp[ew];omega,λi v ad=>?_⟩;simp only[ew,bZE]at ad
  cases ai:s.data.toList[i]? with
  | none=>rw[ai]at ad;cases ad
  | some b=>
    rw[ai]at ad;simp only[bZs,a6]at ad;subst ad;refine⟨_,?_,.int _ _⟩;have bO:=(nD.1 ai).1;rw[bZO]at bO;show c[0+i]? = _;rw[Nat.zero_add,<-af,bXZ (by simpa using bO),Array.getElem?_map,<-bZD,ai];rfl) an
 refine⟨.slice (some ⟨w.heap.size,0,none⟩) s.size cap,_,_,?_,?_,gz⟩
 ·simp only[Conv.stringToBytes,Sem.run_bind,run_choose,Question.forced,oc,if_false,Result.andThen_ok,Question.cut,newRow,run_newObj,Sem.run_pure,vH,af,markStringish,run_shape,World.shape?];simp[World.freeze,au3]
 ·have:=bg.jN (γ:=γ.set (pm.pick H) ⟨w.heap.size,0,1,c.size⟩) (off:=0) (n:=s.size) (cap:=s.size) (dN:=cap) (bo.im γ (pm.pick H) ⟨w.heap.size,0,1,c.size⟩) (by omega) (bR _) (.inr ⟨Nat.zero_lt_one,by simp;omega⟩);simpa using this
end
section
variable{O:da}{P:Program}{base:Nat}{pm:Perm}{γ:bo}{H H':ah}{w:World}
theorem WI(lV:Nat):∀r c,c<=lV+(lV+768)/4->growBy lV r c<=lV+(lV+768)/4
 | 0,c,h=>h
 | r+1,c,h=>by
   unfold growBy;by_cases af:c≥lV
   ·rw[bm af];exact h
   ·rw[aU af];exact WI lV r _ (by omega)
theorem nextslicecap_le{lV old:Nat}(h:old<lV):nextslicecap lV old<=2*lV+192:=by
 unfold nextslicecap;split
 ·omega
 ·split
  ·omega
  ·have:=WI lV 4 old (by omega);omega
def EW(P:Program)(u:TypeId):Prop:=(∃e,P.underlying u=some (.slice e))∨P.underlying u=some .string
theorem IG{t u e ty:TypeId}{b:Option Addr}{ln cap n:Nat}{x:Value}{new:Array Value}(aS:P.underlying t=some (.slice e))(hu:EW P u)(ag:known P e=true)
 (aO:(lenOf x).run P w=.ok n w) (bc:(firstCells (P.cellsOf e) n x).run P w=.ok new w) (af:ln+n<=cap):
 (append_ #[t,u] ty #[.slice b ln cap,x]).run P w=Result.andThen (((match b with | some a=>storeCells (a.add (ln*P.cellsOf e)) new.toList | none=>pure ()):Sem Unit).run P w) λ_ w'=>.ok (.slice b (ln+n) cap) w':=by
 rcases hu with⟨e2,hu⟩ | hu
 all_goals
  simp only[append_,bWc,bZn,bZZ,Sem.run_bind,ef aS,ef hu,lR ag,Sem.run_pure,Result.andThen_ok,oc,if_false,aO,af,if_true,Bool.not_false,bc]
  cases b<;>simp
theorem WJ{t u e ty:TypeId}{z:Value}{b:Option Addr}{ln cap n:Nat}{x:Value}{old new:Array Value}(aS:P.underlying t=some (.slice e))(hu:EW P u)(bl:zeroOf P e=some z)
 (aO:(lenOf x).run P w=.ok n w) (bc:∀bL:World,bL.heap=w.heap->(firstCells (P.cellsOf e) n x).run P bL=.ok new bL) (au:∀bL:World,bL.heap=w.heap->(firstCells (P.cellsOf e) ln (.slice b ln cap)).run P bL=.ok old bL) (af:cap<ln+n)
 (U:(ln+n)*P.bytesOf e<=17179869184) (aa:P.bytesOf e<=17179869184) (aq:ln+n<=17179869184):
 ∃nS,ln+n<=nS/\(append_ #[t,u] ty #[.slice b ln cap,x]).run P w=
  .ok (.slice (some ⟨w.heap.size,0,none⟩) (ln+n) nS) {w with heap:=w.heap.push (.cells (old++new++Builtin.zeroCells z.cells (nS-(ln+n))) e),drawn:=w.drawn+1}:=by
 obtain⟨⟨i,ad,au2⟩,iK,gb,ag⟩:=qe bl;have ai:=WG ad;have hm:¬(((ln+n:Nat):Int)>IntKind.i64.max/\(False∨P.bytesOf e=0)):=by
  rintro⟨a,_⟩;simp only[IntKind.max,IntKind.signed,IntKind.bits]at a;simp at a;omega
 have aF:¬nextslicecap (ln+n) cap*P.bytesOf e>2^48:=by
  have:=nextslicecap_le af;have a8:=hQ (P.bytesOf e) this;rw[bYw,og]at a8;have cg:192*P.bytesOf e<=192*17179869184:=r8 _ aa;omega
 refine⟨ln+n+w.tape w.drawn (.appendCap (ln+n) cap e)%(2^63-(ln+n)),by omega,?_⟩
 rcases hu with⟨e2,hu⟩ | hu
 all_goals
  simp only[append_,bWc,bZn,bZZ,Sem.run_bind,ef aS,ef hu,lR ag,Sem.run_pure,Result.andThen_ok,oc,if_false,aO,show ¬(ln+n<=cap) by omega,Iu ad,ai,hm,aF,run_choose,Question.forced,Question.cut,run_askRoom,Bool.not_false,if_true]
  rw[au {w with drawn:=w.drawn+1} rfl]
  simp only[Result.andThen_ok]
  rw[bc {w with drawn:=w.drawn+1} rfl]
  simp only[Result.andThen_ok,tM bl,newRow,Sem.run_bind,run_newObj,Sem.run_pure]
theorem WK(z:Array Value)(n:Nat):(Builtin.zeroCells z n).size=n*z.size:=by simp[Builtin.zeroCells]
theorem Step.grown(an:Rel O base γ H w)(bc:pm.gV γ H){e:TypeId}{l l':List Value}{rest:Array Value}{esz:Nat}(h:cm γ l l'):
 Step O base pm γ H w (γ.set (pm.pick H) ⟨w.heap.size,0,esz,(l'.toArray++rest).size⟩) (pm.make H (.cells l (.n esz))) {w with heap:=w.heap.push (.cells (l'.toArray++rest) e),drawn:=w.drawn+1}:=
 (Step.drawn (pm:=pm) an (w.drawn+1)).trans (Step.auP (pm:=pm) (Step.drawn (pm:=pm) an (w.drawn+1)).rel bc e (.n esz) (λ_ _ _=>trivial) (by have:=h.length;simp;omega) λi v ad=>by
  obtain⟨v',a,b⟩:=h.get ad;refine⟨v',?_,b⟩;have bO:=(nD.1 a).1;show(l'.toArray++rest)[0+i]? = _;rw[Nat.zero_add,bXZ (by simpa using bO)];simpa using a) an
theorem WL{b BP lV nS esz sz:Nat}(U:lV<=nS)(aa:0<esz)(aq:nS*esz<=sz):bg (γ.set BP ⟨b,0,esz,sz⟩) (.slice (some ⟨BP,0,none⟩) lV lV) (.slice (some ⟨b,0,none⟩) lV nS):=by
 have:=bg.jN (γ:=γ.set BP ⟨b,0,esz,sz⟩) (off:=0) (n:=lV) (cap:=lV) (dN:=nS) (bo.im γ BP _) U (bR _) (.inr ⟨aa,by simpa using aq⟩);simpa using this
theorem WM(an:Rel O base γ H w)(e8:pm.gV γ H){t u e ty:TypeId}{z:Value}{b:Option Addr}{ln cap n:Nat}{x:Value}{old zn l l':List Value}(aS:P.underlying t=some (.slice e))(hu:EW P u)(bl:zeroOf P e=some z)
 (aO:(lenOf x).run P w=.ok n w) (bc:∀bL:World,bL.heap=w.heap->(firstCells (P.cellsOf e) n x).run P bL=.ok l'.toArray bL) (au:∀bL:World,bL.heap=w.heap->(firstCells (P.cellsOf e) ln (.slice b ln cap)).run P bL=.ok zn.toArray bL) (af:cap<ln+n)
 (U:(ln+n)*P.bytesOf e<=17179869184) (aa:P.bytesOf e<=17179869184) (aq:ln+n<=17179869184) (a8:1<=P.cellsOf e)
 (ao:cm γ old zn) (e2:cm γ l l') (bd:old.length=ln*P.cellsOf e) (b1:l.length=n*P.cellsOf e):
 ∃r' w' bk,(append_ #[t,u] ty #[.slice b ln cap,x]).run P w=.ok r' w'/\bg bk (.slice (some ⟨pm.pick H,0,none⟩) (ln+n) (ln+n)) r'/\Step O base pm γ H w bk (pm.make H (.cells (old++l) (.n (P.cellsOf e)))) w':=by
 obtain⟨nS,av,aI⟩:=WJ (ty:=ty) aS hu bl aO bc au af U aa aq;obtain⟨_,_,gb,_⟩:=qe bl;rw[show zn.toArray++l'.toArray=(zn++l').toArray by simp]at aI;refine⟨_,_,_,aI,WL av a8 ?_,Step.grown an e8 (ao.append e2)⟩;have cx:=(ao.append e2).length;rw[Array.size_append,WK,gb];simp only[tr,bd,b1]at cx;simp only[List.size_toArray,tr,<-cx,<-bYw];exact hQ _ (by omega)
theorem au5(an:Rel O base γ H w)(bc:pm.gV γ H){b off ln n dN esz:Nat}{WN:dI}{L:Loc}{cs old l l':List Value}(bl:WN.val=esz)(bC:γ b=some L)(az:H.get b=some (.cells cs WN))(eO:pm.may b=true)(hold:cX cs off (ln*esz)=some old)
 (aw:cm γ l l') (mc:l.all fG=true) (hlen:l.length=n*esz) (af:ln+n<=dN) (tC:L.d+off+dN*L.s<=L.e):
 ∃w',(storeCells ⟨L.bI,L.d+off+ln*esz,none⟩ l').run P w=.ok () w'/\
  Step O base pm γ H w (γ.set (pm.pick H) ⟨L.bI,L.d+off,esz,L.e⟩) (pm.make (H.put b .dead) (.cells (old++l) (.n esz))) w'/\L.s=esz:=by
 obtain⟨y,g1,g2⟩:=an.bI b L bC;rw[az]at g1;cases g1;obtain⟨c,elem,cz,av,aI,⟨aQ,_⟩,bt,cd,cv⟩:=g2;rw[bl]at aQ;obtain⟨s1,rfl⟩:=EN hold;have aO:=aw.length;rw[aQ]at tC;have hm:(ln+n)*esz<=dN*esz:=hQ _ af;rw[bYw]at hm;obtain⟨w',ek,ao,e2,bd,b1,cK,il,nM,mh,pe⟩:=It (P:=P) (b:=L.bI) (off:=L.d+off+ln*esz) l' 0 w c av aI (aw.M9▸mc) (by omega);refine⟨w',ao,Step.Wm (L':=⟨L.bI,L.d+off,esz,L.e⟩) an bc bC (by rw[az];trivial) eO rfl cK il nM mh pe λN bk hle=>⟨ek,elem,cz,e2,by rw[bd];exact aI,⟨rfl,trivial⟩,by rw[bd];exact bt,?_,λi v ad=>?_⟩,aQ⟩
 ·show L.d+off+_<=L.e;simp only[tr,bYl,bWd];omega
 ·show ∃v',ek[L.d+off+i]? = some v'/\_;rw[b1];simp only[Nat.add_zero];have au:((cs.drop off).take (ln*esz)).length=ln*esz:=by simp;omega
  by_cases Nf:i<ln*esz
  ·rw[lB (by omega),pT Nf,o']at ad;rw[aU (by omega)];obtain⟨v',cx,a2⟩:=cv _ _ ad;refine⟨v',?_,a2.mono hle⟩;rw[<-cx];show c[L.d+off+i]? = c[L.d+(off+i)]?;rw[bYb]
  ·rw[lA (by omega),au]at ad;obtain⟨v',cx,a2⟩:=aw.get ad;have bO:=(nD.1 cx).1;rw[bm (by omega)];refine⟨v',?_,a2.mono hle⟩;rw[<-cx];congr 1;omega
theorem au6(an:Rel O base γ H w)(bc:pm.gV γ H){t u e ty:TypeId}{z:Value}{s eZ x cZ r:Value}(aS:P.underlying t=some (.slice e))(hu:EW P u)(bl:zeroOf P e=some z)(hK:P.bytesOf e<=17179869184)(aG:bg γ s eZ)(az:bg γ x cZ)
 (h:(hV (P.cellsOf e) x λnew n=>iV (P.cellsOf e) (P.bytesOf e) s new n).run pm H=some (r,H')):
 ∃r' w' bk,(append_ #[t,u] ty #[eZ,cZ]).run P w=.ok r' w'/\bg bk r r'/\Step O base pm γ H w bk H' w':=by
 obtain⟨_,iK,gb,ag⟩:=qe bl;obtain⟨l,l',n,aD,ao,e2,cK⟩:=EU (P:=P) an az h;clear h;have h:=aD;clear aD;have hlen:=ao.length;have om:∀bL:World,bL.heap=w.heap->(firstCells (P.cellsOf e) n cZ).run P bL=.ok l'.toArray bL:=λbL hw=>by
  have:=(cK bL hw).2 n (bR n);rwa [tp (by omega)]at this
 have aO:=(cK w rfl).1;unfold iV at h;split at h
 ·rename_i b ln cap;rw[ed]at h;by_cases aF:n=0
  ·subst aF;simp only[decide_true,cond_true]at h;obtain⟨rfl,rfl⟩:=fe h;have:l'=[]:=bWE (by omega);subst this;obtain⟨b',dN,rfl,mY⟩:∃b' dN,eZ=.slice b' ln dN/\ln<=dN:=by
    cases aG with
    | xH=>exact⟨_,_,rfl,bR _⟩
    | jN _ af aF _=>exact⟨_,_,rfl,by omega⟩
    | p9 _=>exact⟨_,_,rfl,bR _⟩
   refine⟨_,w,γ,?_,aG,Step.refl an⟩;rw[IG aS hu ag aO (om w rfl) (by omega)];cases b'<;>simp[storeCells]
  ·simp only[aF,decide_false,cond_false,dA]at h;by_cases af:ln+n<=cap
   ·simp only[af,decide_true,cond_true]at h
    cases b with
    | none=>exact(bZ h).elim
    | some a=>
      obtain⟨L,bC,sk,hle,iY⟩:=aG.sj
      rcases iY with⟨dN,rfl,mY,jw⟩ | ⟨_,rfl,_⟩
      ·obtain⟨H1,w',f1,f2,f3⟩:=Iv (P:=P) an (a:=⟨a.block,a.off+ln*P.cellsOf e,none⟩) bC ao h;obtain⟨rfl,rfl⟩:=fe f3;refine⟨.slice (some ⟨L.bI,L.d+a.off,none⟩) (ln+n) dN,w',γ,?_,?_,f2⟩
       ·rw[IG aS hu ag aO (om w rfl) (by omega)];simp only[add_eq,bYb];simp only[f1,Result.andThen_ok]
       ·obtain⟨ab,aF5,aF6⟩:=a;simp only at sk;subst sk;exact .jN bC mY af jw
      ·omega
   ·simp only[af,decide_false,cond_false]at h;obtain⟨U,h⟩:=nO h;simp only[cG,eh]at U;obtain⟨⟨⟨g1,g2⟩,g3⟩,g4⟩:=U
    cases b with
    | none=>
      obtain⟨rfl,rfl,rfl⟩:=aG.BM;simp only[bF.run,a6,c2]at h;obtain⟨rfl,rfl⟩:=h;have:=WM (ty:=ty) (pm:=pm) (old:=[]) (zn:=[]) (ln:=0) (cap:=0) (b:=none) an bc aS hu bl aO om (λbL _=>by simp[firstCells]) (by omega) g1 hK g3 g2 .nil ao (by simp) e2;simpa using this
    | some a=>
      obtain⟨y,bu,h⟩:=run_get h;split at h
      ·rename_i cs aF7;obtain⟨jy,mm⟩:=nO h;clear h;rw[ed]at jy;have jy:=y0 jy;split at mm
       ·rename_i old hold;obtain⟨eO,h⟩:=tK mm;clear mm;simp only[bF.run,a6,c2]at h;obtain⟨rfl,rfl⟩:=h;obtain⟨L,bC,sk,hle,iY⟩:=aG.sj;have Np:(hV (P.cellsOf e) (.slice (some a) ln cap) λl _=>.ret (c5 l)).run pm H=some (c5 old,H):=by
         simp[hV,bF.run,bu,rowOf,hold]
        obtain⟨cJ,zn,fU,bn,bh,cu,e9⟩:=EU (P:=P) an aG Np;obtain⟨ox,_⟩:=fe bn;have:cJ=old:=by simpa [c5]using ox
        subst this;have rj:fU=ln:=by
         have:=(e9 w rfl).1
         rcases iY with⟨ek,rfl,_⟩ | ⟨rfl,_,a',rfl⟩<;>simpa [lenOf]using this.symm
        subst rj;have au7:∀bL:World,bL.heap=w.heap->(firstCells (P.cellsOf e) fU eZ).run P bL=.ok zn.toArray bL:=λbL hw=>by
         have:=(e9 bL hw).2 fU (bR _);rwa [tp (by have:=bh.length;omega)]at this
        have EX:Step O base pm γ H w γ (H.put a.block .dead) w:=Step.write an bC (by rw[bu];trivial) eO rfl (λ_ _=>rfl) rfl rfl rfl λN=>trivial;have EY:∀(b':Option Addr) (dN:Nat),eZ=.slice b' fU dN->dN<fU+n->∃r' w' bk,(append_ #[t,u] ty #[eZ,cZ]).run P w=.ok r' w'/\bg bk (.slice (some ⟨pm.pick H,0,none⟩) (fU+n) (fU+n)) r'/\Step O base pm γ H w bk (pm.make (H.put a.block .dead) (.cells (cJ++l) (.n (P.cellsOf e)))) w':=by
         rintro b' dN rfl bO;obtain⟨r',w',bk,bJ,bG,cO⟩:=WM (ty:=ty) (pm:=pm) EX.rel bc aS hu bl aO om au7 bO g1 hK g3 g2 bh ao cu e2;exact⟨r',w',bk,bJ,bG,EX.trans cO an⟩
        rcases iY with⟨dN,rfl,mY,jw⟩ | ⟨qj,_,a',rfl⟩
        ·by_cases zm:fU+n<=dN
         ·have jP:=jw.resolve_left (by omega);obtain⟨w',bJ,bG,cO⟩:=au5 (P:=P) (pm:=pm) an bc jy bC bu eO hold ao g4 e2 zm jP.2;refine⟨.slice (some ⟨L.bI,L.d+a.off,none⟩) (fU+n) dN,w',_,?_,?_,bG⟩
          ·rw[IG aS hu ag aO (om w rfl) zm];simp only[add_eq,bJ,Result.andThen_ok]
          ·have:=bg.jN (γ:=γ.set (pm.pick H) ⟨L.bI,L.d+a.off,P.cellsOf e,L.e⟩) (off:=0) (n:=fU+n) (cap:=fU+n) (dN:=dN) (bo.im γ (pm.pick H) _) zm (bR _) (.inr ⟨g2,by rw[<-cO];exact jP.2⟩);exact this
         ·exact EY _ _ rfl (by omega)
        ·subst qj;exact EY _ _ rfl (by omega)
       ·exact(bZ mm).elim
      ·exact(bZ h).elim
 ·exact(bZ h).elim
theorem BQ(l:List UInt8):(ew l).length=l.length:=by simp[ew]
theorem WO(a b:List UInt8):ew (a++b)=ew a++ew b:=by simp[ew]
theorem au8{γ:bo}{l:List UInt8}{l':List Value}(h:cm γ (ew l) l'):l'=ew l:=by
 apply bYj;intro i;have hlen:=h.length;by_cases ad:i<(ew l).length
 ·have U:(ew l)[i]? = some (ew l)[i]:=hG ad;obtain⟨v',ao,e2⟩:=h.get U;rw[ao,U];have:∃k n,(ew l)[i]=.int k n:=by simp only[ew,List.getElem_map];exact⟨_,_,rfl⟩
  obtain⟨k,n,ag⟩:=this;rw[ag]at e2|-;rw[e2.gC]
 ·rw[jq (by omega),jq (by omega)]
theorem au9(an:Rel O base γ H w)(bc:pm.gV γ H){t u e ty:TypeId}{z:Value}{s eZ x cZ r:Value}(aS:P.underlying t=some (.slice e))(hu:P.underlying u=some .string)(bl:zeroOf P e=some z)(hK:P.bytesOf e<=17179869184)(xL:P.cellsOf e=1)(aG:bg γ s eZ)(az:bg γ x cZ)
 (h:(Hw e (P.bytesOf e) s x).run pm H=some (r,H')):
 ∃r' w' bk,(append_ #[t,u] ty #[eZ,cZ]).run P w=.ok r' w'/\bg bk r r'/\Step O base pm γ H w bk H' w':=by
 obtain⟨_,iK,gb,ag⟩:=qe bl;unfold Hw at h;split at h
 ·rename_i b aF8 ln eH;obtain rfl:=az.jv;obtain⟨af,h⟩:=nO h;simp only[cG,dA,ed,eh]at af;obtain⟨cy,dd,dy,rfl⟩:=af;have Np:(hV (P.cellsOf e) (.string eH) λl _=>.ret (c5 l)).run pm H=some (c5 (ew eH.data.toList),H):=by
   rw[xL];simp[hV,bF.run]
  obtain⟨cJ,l',fU,bn,bh,cu,e9⟩:=EU (P:=P) (w:=w) an (bg.str (γ:=γ) eH) Np;obtain⟨ox,_⟩:=fe bn;have:cJ=ew eH.data.toList:=by simpa [c5]using ox
  subst this;have lS:=au8 bh;subst lS;rw[BQ,xL,Nat.mul_one]at cu;have EZ:eH.data.toList.length=eH.size:=by rw[bZO];rfl
  rw[EZ]at cu;subst cu;have aO:=(e9 w rfl).1;have om:∀bL:World,bL.heap=w.heap->(firstCells (P.cellsOf e) eH.size (.string eH)).run P bL=.ok (ew eH.data.toList).toArray bL:=λbL hw=>by
   have:=(e9 bL hw).2 eH.size (bR _);rwa [tp (by rw[BQ,EZ,xL];omega)]at this
  have WQ:∀{qc:ah} (kb:Rel O base γ qc w) (sn:pm.gV γ qc) (b':Option Addr) (dN:Nat) (old:List UInt8),old.length=ln->dN<ln+eH.size->
   (∀bL:World,bL.heap=w.heap->(firstCells (P.cellsOf e) ln (.slice b' ln dN)).run P bL=.ok (ew old).toArray bL)->
   ∃r' w' bk,(append_ #[t,u] ty #[.slice b' ln dN,.string eH]).run P w=.ok r' w'/\bg bk (.slice (some ⟨pm.pick qc,0,none⟩) (ln+eH.size) (ln+eH.size)) r'/\Step O base pm γ qc w bk (pm.make qc (.bytes e (old++eH.data.toList))) w':=by
   intro qc kb sn b' dN old Nq bO hold;obtain⟨nS,av,aI⟩:=WJ (ty:=ty) aS (.inr hu) bl aO om hold bO dd hK dy;rw[show(ew old).toArray++(ew eH.data.toList).toArray=(ew (old++eH.data.toList)).toArray by simp[WO]]at aI;generalize ava:Builtin.zeroCells z.cells (nS-(ln+eH.size))=rest at aI;have ot:rest.size=nS-(ln+eH.size):=by rw[<-ava,WK,gb,xL,Nat.mul_one]
   have eP:(ew (old++eH.data.toList)).length=ln+eH.size:=by rw[BQ,tr,Nq,EZ]
   have avb:((ew (old++eH.data.toList)).toArray++rest).size=nS:=by simp only[Array.size_append,List.size_toArray,eP,ot];omega
   refine⟨_,_,γ.set (pm.pick qc) ⟨w.heap.size,0,1,nS⟩,aI,WL (esz:=1) (sz:=nS) av (by omega) (by omega),?_⟩;refine(Step.drawn (pm:=pm) kb (w.drawn+1)).trans ?_ kb;have kB:=(Step.drawn (pm:=pm) kb (w.drawn+1)).rel;refine Step.alloc (w:={w with drawn:=w.drawn+1}) kB sn (.bytes e (old++eH.data.toList)) (.cells ((ew (old++eH.data.toList)).toArray++rest) e) 1 nS λN bk hle=>?_;refine⟨(ew (old++eH.data.toList)).toArray++rest,(0,0),by simp,λi _=>by simp,rfl,rfl,by rw[avb];exact bR _,by rw[<-BQ,eP];exact av,λi v ad=>?_⟩;refine⟨v,?_,?_⟩
   ·have bO:=(nD.1 ad).1;show((ew (old++eH.data.toList)).toArray++rest)[i]? = some v;rw[bXZ (by rw[List.size_toArray];exact bO),bWc];exact ad
   ·obtain⟨v',cx,a2⟩:=(IE (γ:=bk) (old++eH.data.toList)).get ad;rw[ad]at cx;cases cx;exact a2
  cases b with
  | none=>
    obtain⟨aD,_,rfl⟩:=aG.BM;subst aD;simp only[bF.run,a6,c2]at h;obtain⟨rfl,rfl⟩:=h;have:=WQ an bc none 0 [] rfl (by omega) (λbL _=>by simp[firstCells,ew]);simpa using this
  | some a=>
    obtain⟨y,bu,h⟩:=run_get h;split at h
    ·rename_i bw cW;obtain⟨kC,h⟩:=nO h;simp only[cG,ed,eh]at kC;obtain⟨rfl,po,rfl⟩:=kC;obtain⟨eO,h⟩:=tK h;simp only[bF.run,a6,c2]at h;obtain⟨rfl,rfl⟩:=h;obtain⟨L,bC,sk,hle,iY⟩:=aG.sj;obtain⟨iL,g1,g2⟩:=an.bI a.block L bC;rw[bu]at g1;cases g1;obtain⟨c,cz,av,aI,aQ,bt,cd,cv,dJ⟩:=g2;have EX:Step O base pm γ H w γ (H.put a.block .dead) w:=Step.write an bC (by rw[bu];trivial) eO rfl (λ_ _=>rfl) rfl rfl rfl λN=>trivial;have mW:∀i v,(ew cW)[i]? = some v->c[i]? = some v:=λi v ad=>by
      obtain⟨v',cx,a2⟩:=dJ i v ad;have:∃k n,v=.int k n:=by
       simp only[ew,bZE,A9]at ad;obtain⟨b0,_,rfl⟩:=ad;exact⟨_,_,rfl⟩
      obtain⟨k,n,rfl⟩:=this;have BR:c[i]? = some v':=cx;rw[BR,a2.gC]
     have Nq:(ew cW).length=cW.length:=BQ cW;have avc:∀(dN:Nat) (bL:World),bL.heap=w.heap->(firstCells (P.cellsOf bw) cW.length (.slice (some ⟨L.bI,L.d+a.off,none⟩) cW.length dN)).run P bL=.ok (ew cW).toArray bL:=by
      intro dN bL hw;have avd:bL.heap[L.bI]? = some (.cells c bw cz):=by rw[hw];exact av
      simp only[firstCells,xL,Nat.mul_one];rw[run_loadCells bL ⟨L.bI,L.d+a.off,none⟩ cW.length (λj=>(c[L.d+a.off+j]?).getD undef) (λj aH=>by
       rw[add_eq,tL avd,pU (by omega)];rfl)]
      congr 1;apply Array.ext';apply bYj;intro i;by_cases ad:i<cW.length
      ·have U:(ew cW)[i]? = some ((ew cW)[i]'(by omega)):=hG (by omega);rw[show((ew cW).toArray.toList)[i]? = (ew cW)[i]? from rfl,U];have aa:=mW i _ U;simp only[bZE,bYJ ad,bZs,bt,po,Nat.zero_add,aa,bZy]
      ·rw[jq (by simp;omega),jq (by simp[ew];omega)]
     have EY:∀(b':Option Addr) (dN:Nat),eZ=.slice b' cW.length dN->dN<cW.length+eH.size->(∀bL:World,bL.heap=w.heap->(firstCells (P.cellsOf bw) cW.length (.slice b' cW.length dN)).run P bL=.ok (ew cW).toArray bL)->
      ∃r' w' bk,(append_ #[t,u] ty #[eZ,.string eH]).run P w=.ok r' w'/\bg bk (.slice (some ⟨pm.pick H,0,none⟩) (cW.length+eH.size) (cW.length+eH.size)) r'/\Step O base pm γ H w bk (pm.make (H.put a.block .dead) (.bytes bw (cW++eH.data.toList))) w':=by
      rintro b' dN rfl bO hold;obtain⟨r',w',bk,bJ,bG,cO⟩:=WQ EX.rel bc b' dN cW rfl bO hold;exact⟨r',w',bk,bJ,bG,EX.trans cO an⟩
     rcases iY with⟨dN,rfl,mY,jw⟩ | ⟨qj,_,a',rfl⟩
     ·by_cases zm:cW.length+eH.size<=dN
      ·have jP:=jw.resolve_left (by omega);have tC:L.d+a.off+dN*1<=L.e:=by have:=jP.2;rwa [aQ]at this
       have mc:(ew eH.data.toList).all fG=true:=by
        rw[hz];intro v aw;simp only[ew,bZT]at aw;obtain⟨b0,_,rfl⟩:=aw;rfl
       have aF9:(ew eH.data.toList).length=eH.size:=by rw[BQ,EZ]
       obtain⟨w',ek,ao,e2,bd,b1,cK,il,nM,mh,pe⟩:=It (P:=P) (b:=L.bI) (off:=L.d+a.off+cW.length) (ew eH.data.toList) 0 w c av aI mc (by omega);refine⟨.slice (some ⟨L.bI,L.d+a.off,none⟩) (cW.length+eH.size) dN,w',γ.set (pm.pick H) ⟨L.bI,L.d+a.off,1,L.e⟩,?_,?_,?_⟩
       ·rw[IG aS (.inr hu) ag aO (om w rfl) zm];simp only[add_eq,xL,Nat.mul_one,ao,Result.andThen_ok]
       ·have:=bg.jN (γ:=γ.set (pm.pick H) ⟨L.bI,L.d+a.off,1,L.e⟩) (off:=0) (n:=cW.length+eH.size) (cap:=cW.length+eH.size) (dN:=dN) (bo.im γ (pm.pick H) _) zm (bR _) (.inr ⟨Nat.one_pos,tC⟩);exact this
       ·refine Step.Wm (L':=⟨L.bI,L.d+a.off,1,L.e⟩) an bc bC (by rw[bu];trivial) eO rfl cK il nM mh pe λN bk hle=>⟨ek,cz,e2,by rw[bd];exact aI,rfl,by rw[bt,po],by rw[bd];exact cd,?_,λi v ad=>?_⟩
        ·show(cW++eH.data.toList).length<=L.e;rw[tr,EZ];omega
        ·have aw:bg bk v v:=by
          obtain⟨v',cx,a2⟩:=(IE (γ:=bk) (cW++eH.data.toList)).get ad;rw[ad]at cx;cases cx;exact a2
         refine⟨v,?_,aw⟩;rw[WO]at ad;show ek[i]? = some v;rw[b1,bt,po];simp only[Nat.zero_add,Nat.add_zero];by_cases Nf:i<cW.length
         ·rw[aU (by omega)];rw[lB (by omega)]at ad;exact mW i v ad
         ·rw[lA (by omega),Nq]at ad;have bO:=(nD.1 ad).1;rw[bm (by omega)];exact ad
      ·exact EY _ _ rfl (by omega) (avc dN)
     ·have fE:cW=[]:=bWE qj;subst fE;exact EY _ _ rfl (by omega) (λbL _=>by simp[firstCells,loadCells,loadCellsFrom,ew])
    ·exact(bZ h).elim
 ·exact(bZ h).elim
end
section
variable{O:da}{P:Program}{base:Nat}{pm:Perm}{γ:bo}{H H':ah}{w:World}
theorem k6.length{l:List (Value×Value×Nat)}{l':List MapEntry}(h:k6 γ l l'):l.length=l'.length:=by
 induction h with
 | nil=>rfl
 | cons _ _ ih=>simp[ih]
theorem Rel.map(h:Rel O base γ H w){b c:Nat}{L:Loc}{es:List (Value×Value×Nat)}(bC:γ b=some L)(az:H.get b=some (.map es c)):∃es':Array MapEntry,w.heap[L.bI]? = some (.map es' c)/\k6 γ es es'.toList:=by
 obtain⟨y,U,aa⟩:=h.bI b L bC;rw[az]at U;cases U;exact aa
theorem Nr{r:Nat}{o:Obj}(h:w.heap[r]? = some o)(aF:∀c e f,o≠.cells c e f):(getObj r).run P w=.ok o w:=by
 cases o<;>first | exact absurd rfl (aF _ _ _) | simp[getObj,Sem.run,h]
theorem vI{r c:Nat}{es:Array MapEntry}(h:w.heap[r]? = some (.map es c)):(getObj r).run P w=.ok (.map es c) w:=Nr h λ_ _ _=>nofun
theorem WR{r:Nat}{o HH:Obj}(h:w.heap[r]? = some o)(aF:∀c e f,o≠.cells c e f):(setObj r HH).run P w=.ok () {w with heap:=w.heap.setIfInBounds r HH}:=by
 cases o<;>first | exact absurd rfl (aF _ _ _) | simp[setObj,Sem.run,h]
theorem BS{r c dd:Nat}{es mZ:Array MapEntry}(h:w.heap[r]? = some (.map es c)):(setObj r (.map mZ dd)).run P w=.ok () {w with heap:=w.heap.setIfInBounds r (.map mZ dd)}:=WR h λ_ _ _=>nofun
theorem Rel.BT(an:Rel O base γ H w){b c dd:Nat}{L:Loc}{es mZ:List (Value×Value×Nat)}{ao e2:Array MapEntry}(bC:γ b=some L)(az:H.get b=some (.map es c))(aC:pm.may b=true)(g1:w.heap[L.bI]? = some (.map ao c))(h:k6 γ mZ e2.toList):
 Step O base pm γ H w γ (H.put b (.map mZ dd)) {w with heap:=w.heap.setIfInBounds L.bI (.map e2 dd)}:=by
 have bO:=(ic.1 g1).1;exact Step.write an bC (by rw[az];trivial) aC (by simp) (λc af=>by simp[A7 (Ne.symm af)]) rfl rfl rfl λN=>⟨e2,by simp[bO],h⟩
theorem ave(an:Rel O base γ H w){ts:Array TypeId}{t e ty:TypeId}{d m' s eZ r:Value}(aS:P.underlying t=some (.slice e))(kc:ts[0]? = some t)(ag:known P e=true)(aB:bg γ d m')(aG:bg γ s eZ)
 (h:(hV (P.cellsOf e) s λsrc n=>Hx (P.cellsOf e) d src n).run pm H=some (r,H')):
 ∃r' w',(copy_ ts ty #[m',eZ]).run P w=.ok r' w'/\bg γ r r'/\Step O base pm γ H w γ H' w':=by
 obtain⟨l,l',n,aD,ao,e2,cK⟩:=EU (P:=P) an aG h;clear h;obtain⟨aO,bc⟩:=cK w rfl;have e7:∀(b:Option Addr) (len cap:Nat),(copy_ ts ty #[.slice b len cap,eZ]).run P w=Result.andThen (((match b with | some a=>storeCells a (l'.take (Nat.min n len*P.cellsOf e)) | none=>pure ()):Sem Unit).run P w) λ_ w'=>.ok (.int .i64 (Nat.min n len:Int)) w':=by
  intro b len cap;simp only[copy_,kc,bWc,bZn,bZZ,Sem.run_bind,ef aS,lR ag,Result.andThen_ok,aO,bc _ (Nat.min_le_left n len)];cases b<;>simp[goInt]
 unfold Hx at aD;split at aD
 ·obtain⟨rfl,rfl,rfl⟩:=aB.BM;obtain⟨rfl,rfl⟩:=fe aD;refine⟨.int .i64 0,w,?_,.int _ _,Step.refl an⟩;rw[e7];simp
 ·rename_i a len cap;obtain⟨L,bC,_,hle,iY⟩:=aB.sj;rw[ed]at aD;by_cases hm:Nat.min n len=0
  ·simp only[hm,decide_true,cond_true]at aD;obtain⟨rfl,rfl⟩:=fe aD;refine⟨.int .i64 0,w,?_,.int _ _,Step.refl an⟩
   rcases iY with⟨ek,rfl,_⟩ | ⟨rfl,_,a',rfl⟩<;>rw[e7]<;>simp[hm,storeCells]
  ·simp only[hm,decide_false,cond_false]at aD;obtain⟨H1,w',f1,f2,f3⟩:=Iv (P:=P) an bC (ao.take (Nat.min n len*P.cellsOf e)) aD;obtain⟨rfl,rfl⟩:=fe f3
   rcases iY with⟨ek,rfl,_⟩ | ⟨rfl,_⟩
   ·refine⟨_,w',?_,.int _ _,f2⟩;rw[e7];simp only[f1,Result.andThen_ok]
   ·exact absurd (Nat.le_zero.1 (Nat.min_le_right n 0)) hm
 ·exact(bZ aD).elim
theorem avf(an:Rel O base γ H w){ts:Array TypeId}{t e ty:TypeId}{z d m' r:Value}(aS:P.underlying t=some (.slice e))(kc:ts[0]? = some t)(bl:zeroOf P e=some z)(aB:bg γ d m')(h:(HC z.cells.toList (some d)).run pm H=some (r,H')):
 ∃w',(clear_ ts ty #[m']).run P w=.ok zWb w'/\r=zWb/\Step O base pm γ H w γ H' w':=by
 obtain⟨_,iK,_⟩:=qe bl;unfold HC at h;split at h
 ·rename_i cY;cases cY;obtain⟨rfl,rfl,rfl⟩:=aB.BM;obtain⟨rfl,rfl⟩:=fe h;exact⟨w,by simp[clear_,kc,ef aS,zWb],rfl,Step.refl an⟩
 ·rename_i a n c cY;cases cY;obtain⟨L,bC,_,hle,iY⟩:=aB.sj;rw[ed]at h;by_cases aF:n=0
  ·subst aF;simp only[decide_true,cond_true]at h;obtain⟨rfl,rfl⟩:=fe h;refine⟨w,?_,rfl,Step.refl an⟩
   rcases iY with⟨ek,rfl,_⟩ | ⟨_,rfl,a',rfl⟩<;>simp[clear_,kc,ef aS,zWb]
  ·simp only[aF,decide_false,cond_false]at h;obtain⟨H1,w',f1,f2,f3⟩:=Iv (P:=P) an bC (ID (cm.BK iK) n) h;obtain⟨rfl,rfl⟩:=fe f3;refine⟨w',?_,rfl,f2⟩
   rcases iY with⟨ek,rfl,_⟩ | ⟨rfl,_⟩
   ·have avg:(Builtin.zeroCells z.cells n).toList=times z.cells.toList n:=Nl z.cells n
    cases n with
    | zero=>omega
    | succ m=>simp[clear_,kc,ef aS,tM bl,avg,f1,zWb]
   ·omega
 ·exact(bZ h).elim
theorem avh(an:Rel O base γ H w){ts:Array TypeId}{t k e ty:TypeId}{d m' r:Value}(aS:P.underlying t=some (.map k e))(kc:ts[0]? = some t)(aB:bg γ d m')(h:(HD (some d)).run pm H=some (r,H')):
 ∃w',(clear_ ts ty #[m']).run P w=.ok zWb w'/\r=zWb/\Step O base pm γ H w γ H' w':=by
 unfold HD at h;split at h
 ·rename_i cY;cases cY;cases aB;obtain⟨rfl,rfl⟩:=fe h;exact⟨w,by simp[clear_,kc,ef aS,zWb],rfl,Step.refl an⟩
 ·rename_i fw cY;cases cY;obtain⟨L,bC,rfl⟩:=aB.BL;obtain⟨x,az,h⟩:=run_get h;split at h
  ·rename_i es c;obtain⟨aC,h⟩:=tK h;obtain⟨rfl,rfl⟩:=fe h;obtain⟨es',g1,g2⟩:=an.map bC az;refine⟨{w with heap:=w.heap.setIfInBounds L.bI (.map #[] c)},?_,rfl,?_⟩
   ·simp[clear_,kc,ef aS,vI g1,zWb,BS g1]
   ·exact an.BT bC az aC g1 .nil
  ·exact(bZ h).elim
 ·exact(bZ h).elim
theorem avi(an:Rel O base γ H w){ts:Array TypeId}{t ty:TypeId}{k:Hs}{d m' r:Value}(kc:ts[0]? = some t)(ag:match k with | .s=>P.underlying t=some .string | .l=>∃e,P.underlying t=some (.slice e) | .m=>∃k e,P.underlying t=some (.map k e))
 (aB:bg γ d m') (h:(xu k (some d)).run pm H=some (r,H')):(len_ ts ty #[m']).run P w=.ok r w/\bg γ r r/\H'=H:=by
 unfold xu at h;split at h
 ·rename_i cY;cases cY;obtain rfl:=aB.jv;obtain⟨rfl,rfl⟩:=fe h;exact⟨by simp[len_,kc,ef ag,goInt],.int _ _,rfl⟩
 ·rename_i cY;cases cY;obtain⟨e,aS⟩:=ag;obtain⟨rfl,rfl⟩:=fe h;refine⟨?_,.int _ _,rfl⟩;cases aB<;>simp[len_,kc,ef aS,goInt]
 ·rename_i cY;cases cY;obtain⟨k,e,aS⟩:=ag;cases aB;obtain⟨rfl,rfl⟩:=fe h;exact⟨by simp[len_,kc,ef aS,goInt],.int _ _,rfl⟩
 ·rename_i fw cY;cases cY;obtain⟨k,e,aS⟩:=ag;obtain⟨L,bC,rfl⟩:=aB.BL;obtain⟨x,az,h⟩:=run_get h;split at h
  ·rename_i es c;obtain⟨es',g1,g2⟩:=an.map bC az;have:=g2.length;obtain⟨rfl,rfl⟩:=fe h;refine⟨?_,.int _ _,rfl⟩;simp only[bZO]at this;simp[len_,kc,ef aS,vI g1,goInt,this]
  ·exact(bZ h).elim
 ·exact(bZ h).elim
end
section
variable{O:da}{P:Program}{base:Nat}{pm:Perm}{γ:bo}{H H':ah}{w:World}
theorem WS(a b:ByteArray):(a==b)=true↔a=b:=by
 obtain⟨x⟩:=a;obtain⟨y⟩:=b;have aD:((ByteArray.mk x)==(ByteArray.mk y))=(x==y):=rfl;rw[aD,bYd];constructor
 ·intro h;rw[h]
 ·intro h;cases h;rfl
theorem avj{a b:ByteArray}(h:(a.toList==b.toList)=true):a=b:=by
 rw[<-beq_toListBytes]at h;exact(WS a b).1 h
theorem WT{k:jM}{a b:Value}(h:lH k a b=some true):b=a:=by
 unfold lH at h;split at h
 ·split at h
  ·rename_i ag;simp only[a6,sd,bYd]at h;rw[ag,h]
  ·cases h
 ·simp only[a6]at h;rw[avj h]
 ·simp only[a6,bYd]at h;rw[h]
 ·cases h
theorem WU:∀{ks:List jM} {x y:List Value},ij ks x y=some true->y=x
 | [],[],[],_=>rfl
 | k::ks,a::x,b::y,h=>by
   simp only[ij]at h;split at h
   ·rename_i aC;rw[WT aC,WU h]
   ·split at h<;>cases h
   ·cases h
theorem avk{bY:iU}{a b:Value}(h:mb bY a b=some true):b=a:=by
 unfold mb at h;split at h
 ·exact WT h
 ·split at h
  ·rename_i x y;have:=WU h;obtain⟨x⟩:=x;obtain⟨y⟩:=y;simp only at this;rw[this]
  ·cases h
theorem zo{bY:iU}{a b:Value}{r:Bool}(h:mb bY a b=some r){a':Value}(aN:bg γ a a'):a'=a:=by
 unfold mb at h;split at h
 ·unfold lH at h;split at h
  ·exact aN.gC
  ·exact aN.jv
  ·exact aN.qf
  ·cases h
 ·split at h
  ·obtain⟨cZ,rfl,U⟩:=aN.zc;have:∀{ks:List jM} {xs dz zk:List Value} {r:Bool},ij ks xs dz=some r->cm γ xs zk->zk=xs:=by
    intro ks
    induction ks with
    | nil=>
      intro xs dz zk r h az;cases xs<;>cases dz<;>simp only[ij,reduceCtorEq]at h;cases az;rfl
    | cons k ks ih=>
      intro xs dz zk r h az
      cases xs with
      | nil=>simp[ij]at h
      | cons x xs=>
        cases dz with
        | nil=>simp[ij]at h
        | cons y dz=>
          cases az with
          | cons az rl=>
            have aC:∃cB,lH k x y=some cB:=by
             simp only[ij]at h;split at h
             ·exact⟨_,by assumption⟩
             ·exact⟨_,by assumption⟩
             ·cases h
            obtain⟨cB,aC⟩:=aC;have ao:∀{k:jM} {x y cZ:Value} {r:Bool},lH k x y=some r->bg γ x cZ->cZ=x:=by
             intro k x y cZ r h az;unfold lH at h;split at h
             ·exact az.gC
             ·exact az.jv
             ·exact az.qf
             ·cases h
            rw[ao aC az];simp only[ij,aC]at h
            cases cB with
            | true=>rw[ih h rl]
            | false=>
              simp only at h;split at h
              ·rename_i aa;rw[ih aa rl]
              ·cases h
   rw[bZU.1 (this h U)]
  ·cases h
theorem IH{t:TypeId}{bY:iU}(h:ma P t=some bY):(∃k,bY=.one k/\oi P t=some k)∨∃ks,bY=.cells ks/\xq P t=some ks:=by
 unfold ma at h;split at h
 ·rename_i k ag;simp only[a6]at h;exact .inl ⟨k,h.symm,ag⟩
 ·cases aG:xq P t with
  | none=>rw[aG]at h;cases h
  | some ks=>
    rw[aG]at h;simp only[bZs,a6]at h;exact .inr ⟨ks,h.symm,rfl⟩
theorem Ns{t:TypeId}{bY:iU}{a b:Value}{r:Bool}(ag:ma P t=some bY)(h:mb bY a b=some r):(Op.equal t a b).run P w=.ok r w:=by
 rcases IH ag with⟨k,rfl,aC⟩ | ⟨ks,rfl,aG⟩
 ·exact Ix aC h
 ·simp only[mb]at h;split at h
  ·exact Wv aG h
  ·cases h
theorem Nt{t:TypeId}{d:TypeDesc}{k:jM}{a b:Value}{r:Bool}(aS:oi P t=some k)(aB:P.underlying t=some d)(h:lH k a b=some r):Instr.sameNow d a b=some r:=by
 unfold oi at aS;rw[aB]at aS;unfold lH at h;split at h
 ·split at h
  ·rename_i ag;simp only[a6,sd]at h;subst h ag;split at aS<;>simp only[a6,reduceCtorEq]at aS;rename_i e;cases e;simp[Instr.sameNow]
  ·cases h
 ·simp only[a6]at h;subst h;split at aS<;>simp only[a6,reduceCtorEq]at aS;rename_i e;cases e;simp[Instr.sameNow,beq_toListBytes]
 ·simp only[a6]at h;subst h;split at aS<;>simp only[a6,reduceCtorEq]at aS;rename_i e;cases e;simp[Instr.sameNow]
 ·cases h
theorem Nu{k:jM}{a b:Value}{r:Bool}(h:lH k a b=some r)(n:Nat):Instr.sameBits n a a=true:=by
 unfold lH at h;split at h
 ·cases n<;>simp[Instr.sameBits]
 ·cases n<;>simp[Instr.sameBits,WS]
 ·cases n<;>simp[Instr.sameBits]
 ·cases h
theorem Nv(n:Nat):∀{ks:List jM} {x y:List Value} {r:Bool},ij ks x y=some r->((x.zip x).all λ(a,b)=>Instr.sameBits n a b)=true
 | [],[],[],_,_=>rfl
 | k::ks,a::x,b::y,r,h=>by
   simp only[ij]at h;split at h
   ·rename_i aC;simpa [Nu aC n]using Nv n h
   ·rename_i aC;split at h
    ·rename_i aa;simpa [Nu aC n]using Nv n aa
    ·cases h
   ·cases h
theorem WV{bY:iU}{a b:Value}{r:Bool}(h:mb bY a b=some r):(Instr.keyThatStays a a).run P w=.ok a w:=by
 have:Instr.sameBits 10000 a a=true:=by
  unfold mb at h;split at h
  ·exact Nu h _
  ·split at h
   ·simp only[Instr.sameBits,beq_self_eq_true,Bool.true_and];exact Nv _ h
   ·cases h
 simp[Instr.keyThatStays,this]
end
section
variable{O:da}{P:Program}{base:Nat}{pm:Perm}{γ:bo}{H H':ah}{w:World}
theorem WW{em:Bool}{n:Nat}:∀(fs:List Field) (i:Nat) (ks:List jM) (pre xs dz:List Value) (r:Bool),xp P fs i=some ks->ij ks xs dz=some r->pre.length=i->
 (forIn fs PUnit.unit λ(f:Field) _=>do
  if f.name≠ "_" then do
   Instr.checkKey em (n+1) f.type (<-part f.type ⟨pre++xs⟩ f.offset)
   pure (ForInStep.yield PUnit.unit)
   else pure (ForInStep.yield PUnit.unit):Sem PUnit).run P w=.ok () w
 | [],i,ks,pre,xs,dz,r,aC,h,_=>by simp
 | f::fs,i,ks,pre,xs,dz,r,aC,h,aO=>by
   simp only[xp]at aC;split at aC
   ·rename_i af;simp only[cG,bne_iff_ne,bYd]at af;split at aC
    ·rename_i k l U aa;simp only[a6]at aC;subst aC
     cases xs with
     | nil=>simp[ij]at h
     | cons a x=>
       cases dz with
       | nil=>simp[ij]at h
       | cons b y=>
         obtain⟨bn,bh⟩:=EO U;simp only[ij]at h;have ao:(part f.type ⟨pre++a::x⟩ f.offset).run P w=.ok a w:=Iy bn bh (by rw[af.2];simp[<-aO]);obtain⟨d,aB⟩:=BJ bn;have e2:(Instr.checkKey em (n+1) f.type a).run P w=.ok () w:=by
          unfold oi at U;rw[aB]at U;cases d<;>simp only[a6,reduceCtorEq]at U<;>simp[Instr.checkKey,ef aB]
         have aq:∃cB,ij l x y=some cB:=by
          split at h
          ·exact⟨_,h⟩
          ·split at h
           ·exact⟨_,by assumption⟩
           ·cases h
          ·cases h
         obtain⟨cB,aq⟩:=aq;have ih:=WW (em:=em) (n:=n) fs (i+1) l (pre++[a]) x y cB aa aq (by simp[aO]);simp only[bYU,List.singleton_append]at ih;simp only[List.forIn_cons,Sem.run_bind,af.1,ne_eq,not_false_eq_true,if_true,ao,Result.andThen_ok,e2,Sem.run_pure];exact ih
    ·cases aC
   ·cases aC
theorem zp{t:TypeId}{bY:iU}{a b:Value}{r em:Bool}(ag:ma P t=some bY)(h:mb bY a b=some r):(Instr.checkKey em 10000 t a).run P w=.ok () w:=by
 rcases IH ag with⟨k,rfl,aC⟩ | ⟨ks,rfl,aG⟩
 ·obtain⟨bn,bh⟩:=EO aC;obtain⟨d,aB⟩:=BJ bn;unfold oi at aC;rw[aB]at aC;show(Instr.checkKey em (9999+1) t a).run P w=_;generalize 9999=n;cases d<;>simp only[a6,reduceCtorEq]at aC<;>simp[Instr.checkKey,ef aB]
 ·obtain⟨fs,U,_,_,a8⟩:=EP aG;simp only[mb]at h;split at h
  ·rename_i x y;have:=WW (P:=P) (w:=w) (em:=em) (n:=9998) fs.toList 0 ks [] x.toList y.toList r a8 h rfl;simp only[bXK]at this;show(Instr.checkKey em (9999+1) t (.agg x)).run P w=_;unfold Instr.checkKey;simp only[Sem.run_bind,ef U,Result.andThen_ok];rw[<-Array.forIn_toList];have avl:=congrArg (λr=>Result.andThen r λ(_:PUnit) w'=>(pure ():Sem Unit).run P w') this;exact avl
  ·cases h
structure Found(γ:bo)(bY:iU)(k:Value)(v:Value)(n:Nat)(es:List (Value×Value×Nat))(es':List MapEntry)(j:Nat)(en:MapEntry):Prop where
 at_:es'[j]? = some en
 val:bg γ v en.val
 born:en.born=n
 key:en.key=k
 self:∃bY,mb bY k k=some true
 now:∀t d gP,bY=.one gP->oi P t=some gP->P.underlying t=some d->∀i0,Instr.findNow d k es' i0=some (some (i0+j,en.val))
 ask:∀t (w:World),ma P t=some bY->∀i0,(Instr.findAsking t k es' i0).run P w=.ok (some (i0+j,en.val)) w
 set:∀x mZ,Bd bY k x es=some mZ->∀f:MapEntry->MapEntry,(f en).key=k->bg γ x (f en).val->(f en).born=n->k6 γ mZ (es'.modify j f)
structure WX(bY:iU)(k:Value)(es':List MapEntry):Prop where
 self:mb bY k k=some true
 now:∀t d gP,bY=.one gP->oi P t=some gP->P.underlying t=some d->∀i0,Instr.findNow d k es' i0=some none
 ask:∀t (w:World),ma P t=some bY->∀i0,(Instr.findAsking t k es' i0).run P w=.ok none w
theorem find_spec{bY:iU}{k:Value}:∀{es:List (Value×Value×Nat)} {es':List MapEntry} {res:Option (Value×Nat)},k6 γ es es'->findKey bY k es=some res->
  match res with
  | some (v,n)=>∃j en,Found (P:=P) γ bY k v n es es' j en
  | none=>WX (P:=P) bY k es'
 | _,_,res,.nil,h=>by
   simp only[findKey]at h;split at h
   ·rename_i U;simp only[a6]at h;subst h;exact⟨U,λ_ _ _ _ _ _ i0=>rfl,λ_ _ _ i0=>rfl⟩
   ·cases h
 | _,_,res,@k6.cons _ x e l l' az t,h=>by
   obtain⟨k',v,n⟩:=x;obtain⟨df,⟨Nw,dW⟩,gZ,jz⟩:=az;simp only at df dW gZ jz;subst df jz;simp only[findKey]at h;split at h
   ·rename_i tO;simp only[a6]at h;subst h;have ER:=avk tO;refine⟨0,e,⟨rfl,gZ,rfl,ER,⟨Nw,by rw[<-ER];exact dW⟩,λt d gP bn bh cu i0=>?_,λt w bn i0=>?_,λx mZ aG f f1 f2 f3=>?_⟩⟩
    ·subst bn;simp[Instr.findNow,Nt bh cu tO]
    ·simp[Instr.findAsking,Ns bn tO]
    ·simp only[Bd,tO,a6]at aG;subst aG;rw[List.modify_zero_cons];exact .cons ⟨f1,⟨Nw,by rw[<-ER];exact dW⟩,f2,f3⟩ t
   ·rename_i tO;have ih:=find_spec t h
    cases res with
    | none=>
      obtain⟨cx,a2,a3⟩:=ih;refine⟨cx,λt d gP bn bh cu i0=>?_,λt w bn i0=>?_⟩
      ·have:=a2 t d gP bn bh cu (i0+1);subst bn;simp[Instr.findNow,Nt bh cu tO,this]
      ·simp[Instr.findAsking,Ns bn tO,a3 t w bn (i0+1)]
    | some p=>
      obtain⟨v2,fU⟩:=p;obtain⟨j,en,a⟩:=ih;refine⟨j+1,en,⟨by simpa using a.at_,a.val,a.born,a.key,a.self,λt d gP bn bh cu i0=>?_,λt w bn i0=>?_,λx mZ aG f f1 f2 f3=>?_⟩⟩
      ·have:=a.now t d gP bn bh cu (i0+1);subst bn;simp[Instr.findNow,Nt bh cu tO,this];omega
      ·simp[Instr.findAsking,Ns bn tO,a.ask t w bn (i0+1)];omega
      ·simp only[Bd,tO]at aG;split at aG
       ·rename_i avm tP;simp only[a6]at aG;subst aG;rw[List.modify_succ_cons];exact .cons ⟨rfl,⟨Nw,dW⟩,gZ,rfl⟩ (a.set x avm tP f f1 f2 f3)
       ·cases aG
   ·cases h
end
section
variable{O:da}{P:Program}{base:Nat}{pm:Perm}{γ:bo}{H H':ah}{w:World}
theorem WY{fs:Array Field}{k:Value}{e:MapEntry}{es:List MapEntry}{i:Nat}:Instr.findNow (.struct fs) k (e::es) i=none:=by simp[Instr.findNow,Instr.sameNow]
theorem Nx{t:TypeId}{bY:iU}{k v:Value}{n j:Nat}{es:List (Value×Value×Nat)}{es':List MapEntry}{en:MapEntry}(ag:ma P t=some bY)(h:Found (P:=P) γ bY k v n es es' j en):
 (Instr.findKey t k es').run P w=.ok (some (j,en.val)) w:=by
 rcases IH ag with⟨gP,rfl,aC⟩ | ⟨ks,rfl,aG⟩
 ·obtain⟨d,aB⟩:=BJ (EO aC).1;have:=h.now t d gP rfl aC aB 0;simp[Instr.findKey,ef aB,this]
 ·obtain⟨fs,U,_⟩:=EP aG;have:=h.ask t w ag 0
  cases es' with
  | nil=>have:=h.at_;simp at this
  | cons e l=>simpa [Instr.findKey,ef U,WY]using this
theorem II{t:TypeId}{bY:iU}{k:Value}{es':List MapEntry}(ag:ma P t=some bY)(h:WX (P:=P) bY k es'):(Instr.findKey t k es').run P w=.ok none w:=by
 rcases IH ag with⟨gP,rfl,aC⟩ | ⟨ks,rfl,aG⟩
 ·obtain⟨d,aB⟩:=BJ (EO aC).1;have:=h.now t d gP rfl aC aB 0;simp[Instr.findKey,ef aB,this]
 ·obtain⟨fs,U,_⟩:=EP aG;have:=h.ask t w ag 0
  cases es' with
  | nil=>simp[Instr.findKey,ef U,Instr.findNow]
  | cons e l=>simpa [Instr.findKey,ef U,WY]using this
theorem BU{bY:iU}{k:Value}:∀{es:List (Value×Value×Nat)} {res:Option (Value×Nat)},findKey bY k es=some res->∃b r,mb bY k b=some r
 | [],res,h=>by
   simp only[findKey]at h;split at h
   ·exact⟨_,_,by assumption⟩
   ·cases h
 | (k',v,n)::es,res,h=>by
   simp only[findKey]at h;split at h
   ·exact⟨_,_,by assumption⟩
   ·exact⟨_,_,by assumption⟩
   ·cases h
theorem avn(an:Rel O base γ H w){t hg e:TypeId}{bY:iU}{z x cZ k k' r:Value}{ok:Bool}(aS:P.underlying t=some (.map hg e))(ag:ma P hg=some bY)(bl:zeroOf P e=some z)(az:bg γ x cZ)(oB:bg γ k k')
 (h:(y4 bY z ok k (some x)).run pm H=some (r,H')):∃r',(Instr.lookup t cZ k' ok).run P w=.ok r' w/\bg γ r r'/\H'=H:=by
 obtain⟨_,iK,_⟩:=qe bl;have WZ:∀b,bg γ (bif ok then .tuple #[z,.bool b] else z) (if ok=true then .tuple #[z,.bool b] else z):=by
  intro b;cases ok
  ·exact bg.plain iK
  ·exact .tuple (.cons (bg.plain iK) (.cons (.bool b) .nil))
 unfold y4 at h;split at h
 ·rename_i cY;cases cY;cases az;split at h
  ·rename_i kD;obtain⟨rfl,rfl⟩:=fe h;obtain rfl:=zo kD oB;refine⟨_,?_,WZ false,rfl⟩;have aF:=II (w:=w) ag (es':=[]) ⟨kD,λ_ _ _ _ _ _ i0=>rfl,λ_ _ _ i0=>rfl⟩;have af:=zp (w:=w) (em:=true) ag kD;simp only[Instr.lookup,Sem.run_bind,ef aS,Result.andThen_ok,Sem.run_pure];rw[show(#[]:Array MapEntry).isEmpty=true from rfl,af];simp only[Result.andThen_ok];rw[aF];simp[tM bl]
  ·exact(bZ h).elim
 ·rename_i fw cY;cases cY;obtain⟨L,bC,rfl⟩:=az.BL;obtain⟨y,bu,aD⟩:=run_get h;clear h;split at aD
  ·rename_i es c;obtain⟨es',g1,g2⟩:=an.map bC bu;split at aD
   ·rename_i v n bc;obtain⟨rfl,rfl⟩:=fe aD;obtain⟨b,E0,kD⟩:=BU bc;obtain rfl:=zo kD oB;obtain⟨j,en,hs⟩:=find_spec (P:=P) g2 bc;refine⟨if ok=true then .tuple #[en.val,.bool true] else en.val,?_,?_,rfl⟩
    ·simp only[Instr.lookup,Sem.run_bind,ef aS,Result.andThen_ok,Sem.run_pure,vI g1,zp ag kD,Nx ag hs]
    ·cases ok
     ·exact hs.val
     ·exact .tuple (.cons hs.val (.cons (.bool true) .nil))
   ·rename_i bc;obtain⟨rfl,rfl⟩:=fe aD;obtain⟨b,E0,kD⟩:=BU bc;obtain rfl:=zo kD oB;have hs:=find_spec (P:=P) g2 bc;refine⟨_,?_,WZ false,rfl⟩;simp only[Instr.lookup,Sem.run_bind,ef aS,Result.andThen_ok,Sem.run_pure,vI g1,zp ag kD,II ag hs,tM bl]
   ·exact(bZ aD).elim
  ·exact(bZ aD).elim
 ·exact(bZ h).elim
theorem k6.push{es:List (Value×Value×Nat)}{es':List MapEntry}{x:Value×Value×Nat}{e:MapEntry}(h:k6 γ es es')(he:Wj γ x e):k6 γ (es++[x]) (es'++[e]):=by
 induction h with
 | nil=>exact .cons he .nil
 | cons h t ih=>exact .cons h ih
theorem getD_at{es':Array MapEntry}{j:Nat}{en:MapEntry}{α:Type}{f:MapEntry->α}{d:α}(h:es'.toList[j]? = some en):((es'[j]?).map f).getD d=f en:=by
 rw[<-bZD,h];rfl
theorem W0(an:Rel O base γ H w){t hg e:TypeId}{bY:iU}{x cZ k k' m eG r:Value}(aS:P.underlying t=some (.map hg e))(ag:ma P hg=some bY)(hm:bg γ m eG)(az:bg γ x cZ)(oB:bg γ k k')
 (h:(Hy bY k x (some m)).run pm H=some (r,H')):∃w',(Instr.mapUpdate t eG k' cZ).run P w=.ok () w'/\r=zWb/\Step O base pm γ H w γ H' w':=by
 unfold Hy at h;split at h
 ·rename_i fw cY;cases cY;obtain⟨L,bC,rfl⟩:=hm.BL;obtain⟨y,bu,aD⟩:=run_get h;clear h;split at aD
  ·rename_i es c;obtain⟨es',g1,g2⟩:=an.map bC bu;split at aD
   ·rename_i v bc;split at aD
    ·rename_i mZ aG;obtain⟨aC,U⟩:=tK aD;obtain⟨rfl,rfl⟩:=fe U;obtain⟨b,E0,kD⟩:=BU bc;obtain rfl:=zo kD oB;obtain⟨v,n⟩:=v;obtain⟨j,en,hs⟩:=find_spec (P:=P) g2 bc;obtain⟨avo,E1⟩:=hs.self;refine⟨_,?_,rfl,an.BT bC bu aC g1 (e2:=es'.modify j λe=>{e with key:=k',val:=cZ}) ?_⟩
     ·simp only[Instr.mapUpdate,Sem.run_bind,ef aS,Result.andThen_ok,vI g1,zp ag kD,Nx ag hs,getD_at hs.at_,hs.key,WV E1,BS g1]
     ·rw[Array.toList_modify];exact hs.set _ _ aG _ rfl az hs.born
    ·exact(bZ aD).elim
   ·rename_i bc;obtain⟨aC,U⟩:=tK aD;obtain⟨rfl,rfl⟩:=fe U;obtain⟨b,E0,kD⟩:=BU bc;obtain rfl:=zo kD oB;have hs:=find_spec (P:=P) g2 bc;refine⟨_,?_,rfl,an.BT bC bu aC g1 (e2:=es'.push {key:=k',val:=cZ,born:=c}) ?_⟩
    ·simp only[Instr.mapUpdate,Sem.run_bind,ef aS,Result.andThen_ok,vI g1,zp ag kD,II ag hs,BS g1]
    ·rw[Array.toList_push];exact g2.push ⟨rfl,⟨bY,hs.self⟩,az,rfl⟩
   ·exact(bZ aD).elim
  ·exact(bZ aD).elim
 ·exact(bZ h).elim
theorem avp(an:Rel O base γ H w){t hg e:TypeId}{bY:iU}{z k k' m eG r:Value}(aS:P.underlying t=some (.map hg e))(ag:ma P hg=some bY)(bl:zeroOf P e=some z)(hm:bg γ m eG)(oB:bg γ k k')
 (h:(Hz bY z k (some m)).run pm H=some (r,H')):∃r' w',(Instr.mapEntry t eG k').run P w=.ok r' w'/\bg γ r r'/\Step O base pm γ H w γ H' w':=by
 obtain⟨_,iK,_⟩:=qe bl;unfold Hz at h;split at h
 ·rename_i fw cY;cases cY;obtain⟨L,bC,rfl⟩:=hm.BL;obtain⟨y,bu,aD⟩:=run_get h;clear h;split at aD
  ·rename_i es c;obtain⟨es',g1,g2⟩:=an.map bC bu;split at aD
   ·rename_i v n bc;split at aD
    ·rename_i mZ aG;obtain⟨aC,U⟩:=tK aD;obtain⟨rfl,rfl⟩:=fe U;obtain⟨b,E0,kD⟩:=BU bc;obtain rfl:=zo kD oB;obtain⟨j,en,hs⟩:=find_spec (P:=P) g2 bc;obtain⟨avo,E1⟩:=hs.self;refine⟨.tuple #[en.val,.int .i64 (n:Int)],_,?_,.tuple (.cons hs.val (.cons (.int _ _) .nil)),an.BT bC bu aC g1 (e2:=es'.modify j λe=>{e with key:=k'}) ?_⟩
     ·simp only[Instr.mapEntry,Sem.run_bind,ef aS,Result.andThen_ok,vI g1,zp ag kD,Nx ag hs,getD_at hs.at_,hs.key,WV E1,BS g1,Sem.run_pure,hs.born,goInt]
     ·rw[Array.toList_modify];exact hs.set _ _ aG _ rfl hs.val hs.born
    ·exact(bZ aD).elim
   ·rename_i bc;obtain⟨aC,U⟩:=tK aD;obtain⟨rfl,rfl⟩:=fe U;obtain⟨b,E0,kD⟩:=BU bc;obtain rfl:=zo kD oB;have hs:=find_spec (P:=P) g2 bc;refine⟨.tuple #[z,.int .i64 (c:Int)],_,?_,.tuple (.cons (bg.plain iK) (.cons (.int _ _) .nil)),an.BT bC bu aC g1 (e2:=es'.push {key:=k',val:=z,born:=c}) ?_⟩
    ·simp only[Instr.mapEntry,Sem.run_bind,ef aS,Result.andThen_ok,vI g1,zp ag kD,II ag hs,BS g1,tM bl,Sem.run_pure,goInt]
    ·rw[Array.toList_push];exact g2.push ⟨rfl,⟨bY,hs.self⟩,bg.plain iK,rfl⟩
   ·exact(bZ aD).elim
  ·exact(bZ aD).elim
 ·exact(bZ h).elim
theorem W1{n:Nat}{x cZ:Value}(az:bg γ x cZ):∀{es mZ:List (Value×Value×Nat)} {es':List MapEntry},k6 γ es es'->Hv n x es=some mZ->
 ∃j,es'.findIdx? (λe=>(e.born:Int)==(n:Int))=some j/\k6 γ mZ (es'.modify j λe=>{e with val:=cZ})
 | _,_,_,.nil,h=>by cases h
 | _,mZ,_,@k6.cons _ y e l l' bu t,h=>by
   obtain⟨k,v,m⟩:=y;obtain⟨df,dW,gZ,jz⟩:=bu;simp only at df dW gZ jz;subst df jz;simp only[Hv,ed]at h;by_cases aF:n=e.born
   ·simp only[aF,decide_true,cond_true,a6]at h;subst h;exact⟨0,by simp[List.findIdx?_cons,aF],by rw[List.modify_zero_cons];exact .cons ⟨rfl,dW,az,rfl⟩ t⟩
   ·simp only[aF,decide_false,cond_false]at h;split at h
    ·rename_i r an;simp only[a6]at h;subst h;obtain⟨j,ao,e2⟩:=W1 az t an;refine⟨j+1,?_,by rw[List.modify_succ_cons];exact .cons ⟨rfl,dW,gZ,rfl⟩ e2⟩;rw[List.findIdx?_cons,ao];have:((e.born:Int)==(n:Int))=false:=by
      simp only[beq_eq_false_iff_ne,ne_eq];omega
     simp[this]
    ·cases h
theorem avq(an:Rel O base γ H w){t:TypeId}{x cZ m eG r:Value}{n:Nat}{k:IntKind}(hm:bg γ m eG)(az:bg γ x cZ)(h:(HA n x (some m)).run pm H=some (r,H')):
 ∃w',(Instr.entryStore t eG (.int k (n:Int)) cZ).run P w=.ok () w'/\r=zWb/\Step O base pm γ H w γ H' w':=by
 unfold HA at h;split at h
 ·rename_i fw cY;cases cY;obtain⟨L,bC,rfl⟩:=hm.BL;obtain⟨y,bu,aD⟩:=run_get h;clear h;split at aD
  ·rename_i es c;obtain⟨es',g1,g2⟩:=an.map bC bu;split at aD
   ·rename_i mZ aG;obtain⟨aC,U⟩:=tK aD;obtain⟨rfl,rfl⟩:=fe U;obtain⟨j,ao,e2⟩:=W1 az g2 aG;refine⟨_,?_,rfl,an.BT bC bu aC g1 (e2:=es'.modify j λe=>{e with val:=cZ}) (by rw[Array.toList_modify];exact e2)⟩;rw[show es'.toList.findIdx? (λe=>(e.born:Int)==(n:Int))=es'.findIdx? (λe=>(e.born:Int)==(n:Int)) by cases es';simp]at ao;simp only[Instr.entryStore,Sem.run_bind,vI g1,Result.andThen_ok,WE,ao,BS g1]
   ·exact(bZ aD).elim
  ·exact(bZ aD).elim
 ·exact(bZ h).elim
theorem avr(an:Rel O base γ H w){ty:TypeId}{x cZ r:Value}(az:bg γ x cZ)(h:(HB (some x)).run pm H=some (r,H')):
 ∃r' w',(Instr.next cZ true ty).run P w=.ok r' w'/\bg γ r r'/\Step O base pm γ H w γ H' w':=by
 unfold HB at h;split at h
 ·rename_i a cY;cases cY;obtain⟨L,bC,sk,rfl⟩:=az.pj;obtain⟨y,bu,aD⟩:=run_get h;clear h;split at aD
  ·rename_i s pos;obtain⟨iL,bn,bh⟩:=an.bI _ _ bC;rw[bu]at bn;cases bn;obtain⟨g1,aB⟩:=bh;obtain⟨bl,U⟩:=nO aD;clear aD;rw[ed]at bl;have bl:=y0 bl;have cY:L.d+a.off=0:=by omega
   rw[js]at U;by_cases bO:pos<s.size
   ·simp only[bO,decide_true,cond_true]at U;obtain⟨aC,aa⟩:=tK U;obtain⟨rfl,rfl⟩:=fe aa;have avs:=(ic.1 g1).1
    refine⟨_,{w with heap:=w.heap.setIfInBounds L.bI (.stringIter s (pos+(Utf8.decode s pos).2))},?_,.tuple (.cons (.bool true) (.cons (.int _ _) (.cons (.int _ _) .nil))),
     Step.write an bC (by rw[bu];trivial) aC (by simp) (λc af=>by simp[A7 (Ne.symm af)]) rfl rfl rfl λN=>⟨by simp[avs],aB⟩⟩
    simp only[Instr.next,cY,Sem.run_bind,Nr g1 (λ_ _ _=>nofun),Result.andThen_ok,bO,if_true,WR g1 (λ_ _ _=>nofun),Sem.run_pure,goInt]
   ·simp only[bO,decide_false,cond_false]at U;obtain⟨rfl,rfl⟩:=fe U;refine⟨_,w,?_,.tuple (.cons (.bool false) .nil),Step.refl an⟩;simp only[Instr.next,cY,Sem.run_bind,Nr g1 (λ_ _ _=>nofun),Result.andThen_ok,bO,if_false,Sem.run_pure]
  ·exact(bZ aD).elim
 ·exact(bZ h).elim
end
section
variable{O:da}{P:Program}{base:Nat}{pm:Perm}{γ bk:bo}{H H':ah}{w w':World}
theorem hY.xM{s:Sem Value}{v v':Value}(h:s.run P w=.ok v' w')(aw:bg bk v v')(aG:Step O base pm γ H w bk H' w'):hY O P base pm γ H w (do Pure.pure (Next.value (<-s))) v H':=
 ⟨_,v',w',bk,Wp h,.inl rfl,aw,aG⟩
theorem hY.W2{s:Sem Unit}{r:Value}(h:s.run P w=.ok () w')(an:r=zWb)(aG:Step O base pm γ H w γ H' w'):hY O P base pm γ H w (do s;Pure.pure Next.skip) r H':=by
 subst an;exact⟨.skip,undef,w',γ,by simp[h],.inr ⟨rfl,rfl⟩,.tuple .nil,aG⟩
theorem hY.same(an:Rel O base γ H w){s:Sem Value}{v:Value}(h:s.run P w=.ok v w/\bg γ v v/\H'=H):hY O P base pm γ H w (do Pure.pure (Next.value (<-s))) v H':=
 .val an h.1 h.2.1 h.2.2
theorem hY.ex(an:Rel O base γ H w){s:Sem Value}{v:Value}(h:∃v',s.run P w=.ok v' w/\bg γ v v'/\H'=H):hY O P base pm γ H w (do Pure.pure (Next.value (<-s))) v H':=
 let ⟨_,a,b,c⟩:=h;.val an a b c
theorem hY.new{s:Sem Value}{v:Value}(h:∃v' w' bk,s.run P w=.ok v' w'/\bg bk v v'/\Step O base pm γ H w bk H' w'):hY O P base pm γ H w (do Pure.pure (Next.value (<-s))) v H':=
 let ⟨_,_,_,a,b,c⟩:=h;.xM a b c
theorem hY.wrote{s:Sem Value}{v:Value}(h:∃v' w',s.run P w=.ok v' w'/\bg γ v v'/\Step O base pm γ H w γ H' w'):hY O P base pm γ H w (do Pure.pure (Next.value (<-s))) v H':=
 let ⟨_,_,a,b,c⟩:=h;.xM a b c
theorem hY.stored{s:Sem Unit}{r:Value}(h:∃w',s.run P w=.ok () w'/\r=zWb/\Step O base pm γ H w γ H' w'):hY O P base pm γ H w (do s;Pure.pure Next.skip) r H':=
 let ⟨_,a,b,c⟩:=h;.W2 a b c
theorem qk{o:Option bM}{s:String}{e:Env}{r:Value×ah}(h:((pW o s).cA e).run pm H=some r):∃d,o=some d/\(d.cA e).run pm H=some r:=by
 cases o with
 | none=>cases h
 | some d=>exact⟨d,rfl,h⟩
theorem E2{t:TypeId}{l:List Value}(h:Dam.zeroCells P t=some l):∃z,zeroOf P t=some z/\l=z.cells.toList:=by
 unfold Dam.zeroCells at h
 cases bl:zeroOf P t with
 | none=>rw[bl]at h;cases h
 | some z=>rw[bl]at h;exact⟨z,rfl,by simpa using h.symm⟩
variable{n:Nat}{e:Env}{a:Act}{G:Nat->Bool}
inductive BV(G:Nat->Bool)(place:Nat->Option (Nat×Nat)):List (Nat×Nat×cD)->List (Nat×Operand)->Prop
 | nil:BV G place [] []
 | cons {i off m:Nat} {x:Operand} {fr:List (Nat×Nat×cD)} {cH:List (Nat×Operand)} (aC:place i=some (off,m)) (t:BV G place fr cH):BV G place ((off,m,rand G x)::fr) ((i,x)::cH)
theorem Ny(bz:eY γ n e a)(bA:hH G γ){place:Nat->Option (Nat×Nat)}{fr:List (Nat×Nat×cD)}{cH:List (Nat×Operand)}(aV:BV G place fr cH):
 ∀{l:List (Nat×Nat×Value)},nH e fr=some l->xK γ place l (cH.map λp=>(p.1,a.eval p.2)):=by
 induction aV with
 | nil=>
   intro l h;simp only[nH,a6]at h;subst h;exact .nil
 | @cons i off m x fr cH aC t ih=>
   intro l h;simp only[nH]at h;split at h
   ·rename_i v aw;split at h
    ·rename_i cJ aO;simp only[a6]at h;subst h;exact .cons aC (du bz bA x aw) (ih aO)
    ·cases h
   ·cases h
theorem IJ(bz:eY γ n e a)(bA:hH G γ):∀{xs:List Operand} {l:List Value},fD e (xs.map (rand G))=some l->cm γ l (xs.map a.eval)
 | [],l,h=>by
   simp only[List.map_nil,fD,a6]at h;subst h;exact .nil
 | x::xs,l,h=>by
   simp only[bXm,fD]at h;split at h
   ·rename_i v aw;split at h
    ·rename_i cJ aO;simp only[a6]at h;subst h;exact .cons (du bz bA x aw) (IJ bz bA aO)
    ·cases h
   ·cases h
theorem avt(an:Rel O base γ H w)(e8:pm.gV γ H)(bz:eY γ n e a)(bA:hH G γ){d g:_}{t0:TypeId}{pos:String}{mn:Array Edge}{op:Op}{r:Value}
 (vF:match op with | .move _ | .assign _ | .pick .. | .alloc _ | .box .. | .load .. | .store .. | .nilCheck _ | .unOp .. | .makeInterface .. | .makeFunc .. | .makeMap .. | .extract .. | .field .. | .fieldAddr .. | .indexAddr .. | .index ..=>True | _=>False)
 (h:((ig P G ⟨d,op,t0,pos,mn,g⟩).cA e).run pm H=some (r,H')):hY O P base pm γ H w (execOp a.eval ⟨d,op,t0,pos,mn,g⟩) r H':=by
 cases op<;>first | (exact vF.elim) | skip
 case move x=>
  obtain⟨aw,rfl⟩:=tJ h;exact .pure an rfl (du bz bA x aw)
 case assign x=>
  obtain⟨aw,rfl⟩:=tJ h;exact .pure an rfl (du bz bA x aw)
 case pick c x y=>
  obtain⟨vc,af,h⟩:=hJ h;have W3:=du bz bA c af;split at h
  ·obtain⟨aw,rfl⟩:=tJ h;have:=W3.qf;exact .pure an (by simp[execOp,this,asBool]) (du bz bA x aw)
  ·obtain⟨aw,rfl⟩:=tJ h;have:=W3.qf;exact .pure an (by simp[execOp,this,asBool]) (du bz bA y aw)
  ·exact(bZ h).elim
 case alloc t=>
  obtain⟨gD,aB,h⟩:=qk h
  cases bl:Dam.zeroCells P t with
  | none=>rw[bl]at aB;cases aB
  | some l=>
    rw[bl]at aB;simp only[bZs,a6]at aB;subst aB;obtain⟨z,jy,rfl⟩:=E2 bl;exact .new (auQ an e8 jy h)
 case box t x=>
  obtain⟨v,aw,h⟩:=hJ h;exact .new (auR an e8 (du bz bA x aw) h)
 case load t x=>
  simp only[ig]at h;split at h
  ·rename_i ag;simp only[bM.cA]at h
   cases aw:bB e (rand G x) with
   | none=>rw[aw]at h;cases h
   | some v=>rw[aw]at h;exact .ex an (Wr an ag (du bz bA x aw) h)
  ·exact(bZ h).elim
 case store t x y=>
  simp only[ig]at h;split at h
  ·rename_i ag;simp only[bM.cA]at h
   cases aw:bB e (rand G x) with
   | none=>rw[aw]at h;cases h
   | some v=>
     cases hu:bB e (rand G y) with
     | none=>rw[aw,hu]at h;simp only[q6]at h;exact(bZ h).elim
     | some u=>rw[aw,hu]at h;exact .stored (aun an ag (du bz bA x aw) (du bz bA y hu) h)
  ·exact(bZ h).elim
 case nilCheck x=>
  obtain⟨v,aw,h⟩:=hJ h;split at h
  ·obtain⟨rfl,rfl⟩:=fe h;have az:=du bz bA x aw;obtain⟨L,bC,_,he⟩:=az.pj;refine .pure an ?_ az;simp[execOp,he]
  ·exact(bZ h).elim
 case unOp u t x=>
  obtain⟨v,aw,h⟩:=hJ h;obtain⟨hu,rfl⟩:=tJ h;obtain⟨ao,e2⟩:=auD (P:=P) (w:=w) hu (du bz bA x aw);exact .val an ao e2 rfl
 case makeInterface t x=>
  simp only[ig]at h;split at h
  ·exact(bZ h).elim
  ·rename_i td dr zq;obtain⟨v,aw,h⟩:=hJ h;obtain⟨rfl,rfl⟩:=fe h;refine .val an (v':=.iface t (a.eval x)) ?_ (.iface (du bz bA x aw)) rfl;simp only[Instr.makeInterface,Sem.run_bind,ef zq,Result.andThen_ok];cases td<;>first | rfl | exact absurd rfl (dr _)
  ·exact(bZ h).elim
 case makeFunc fn first q5=>
  simp only[ig]at h;split at h
  ·rename_i f;split at h
   ·rename_i he;simp only[bM.cA]at h;split at h
    ·rename_i cJ aO;obtain⟨rfl,rfl⟩:=fe h;have:=IJ bz bA aO;have bc:first=#[]:=by simpa using he
     subst bc;refine .pure an (v':=.func (.func f) #[] ⟨q5.toList.map a.eval⟩) ?_ (.func this);have:q5.map a.eval=⟨q5.toList.map a.eval⟩:=by apply Array.ext';simp
     simp[execOp,Instr.makeFunc,this]
    ·exact(bZ h).elim
   ·exact(bZ h).elim
  ·exact(bZ h).elim
 case makeMap t rs=>
  simp only[ig]at h;split at h
  ·rename_i aF;have:rs=none:=by simpa using aF
   subst this;exact .new (auX an e8 h)
  ·exact(bZ h).elim
 case extract x i=>
  obtain⟨v,aw,h⟩:=hJ h;split at h
  ·rename_i vs;obtain⟨aK,rfl⟩:=tJ h;obtain⟨r',ao,e2⟩:=auO (P:=P) (w:=w) (du bz bA x aw) aK;exact .val an ao e2 rfl
  ·exact(bZ h).elim
 case field t x i=>
  obtain⟨gD,aB,h⟩:=qk h
  cases hu:P.underlying t with
  | none=>rw[hu]at aB;simp at aB
  | some td=>
    rw[hu]at aB;cases td<;>simp only[bZV,bYa,bZo,reduceCtorEq]at aB;rename_i fs
    cases bc:fs[i]? with
    | none=>rw[bc]at aB;cases aB
    | some j3=>
      rw[bc]at aB;simp only[bZo]at aB;split at aB
      ·rename_i ag;simp only[a6]at aB;subst aB;obtain⟨v,aw,h⟩:=hJ h;split at h
       ·rename_i cs;obtain⟨aK,rfl⟩:=tJ h;obtain⟨r',ao,e2⟩:=auH (P:=P) (w:=w) hu bc ag (du bz bA x aw) aK;exact .val an ao e2 rfl
       ·exact(bZ h).elim
      ·cases aB
 case fieldAddr t x i=>
  obtain⟨gD,aB,h⟩:=qk h
  cases hu:P.underlying t with
  | none=>rw[hu]at aB;simp at aB
  | some td=>
    rw[hu]at aB;cases td<;>simp only[bZV,bYa,bZo,reduceCtorEq]at aB;rename_i fs
    cases bc:fs[i]? with
    | none=>rw[bc]at aB;cases aB
    | some j3=>
      rw[bc]at aB;simp only[bZo]at aB;split at aB
      ·rename_i ag;simp only[cG,bne_iff_ne]at ag;simp only[a6]at aB;subst aB;obtain⟨v,aw,h⟩:=hJ h;split at h
       ·rename_i dk;obtain⟨rfl,rfl⟩:=fe h;obtain⟨r',ao,e2⟩:=auG (P:=P) (w:=w) hu bc ag.1 ag.2 (du bz bA x aw) rfl;exact .val an ao e2 rfl
       ·exact(bZ h).elim
      ·cases aB
 case indexAddr t x i=>
  simp only[ig]at h;have tB:∀{k:Option Value->Option Nat->bF},(k (bB e (rand G x)) (et (bB e (rand G i)))).run pm H=some (r,H')->(∀m,k none m=.fail)->(∀v,k (some v) none=.fail)->∃v u m,bB e (rand G x)=some v/\bB e (rand G i)=some u/\et (some u)=some m/\(k (some v) (some m)).run pm H=some (r,H'):=by
   intro k U aa aq
   cases aw:bB e (rand G x) with
   | none=>rw[aw,aa]at U;exact(bZ U).elim
   | some v=>
     cases hu:bB e (rand G i) with
     | none=>rw[aw,hu]at U;simp only[et]at U;rw[aq]at U;exact(bZ U).elim
     | some u=>
       cases hm:et (some u) with
       | none=>rw[aw,hu,hm,aq]at U;exact(bZ U).elim
       | some m=>rw[aw,hu,hm]at U;exact⟨v,u,m,rfl,rfl,hm,U⟩
  split at h
  ·rename_i el hu;split at h
   ·rename_i ag;obtain⟨v,u,m,aw,zr,hm,U⟩:=tB (k:=vo (P.cellsOf el)) h (λ_=>rfl) (λv=>by cases v<;>first | rfl | (rename_i q _ _;cases q<;>rfl));exact .ex an (auI hu ag (du bz bA x aw) (du bz bA i zr) hm U)
   ·exact(bZ h).elim
  ·rename_i ln el hu;split at h
   ·rename_i ag;obtain⟨v,u,m,aw,zr,hm,U⟩:=tB (k:=vp ln (P.cellsOf el)) h (λ_=>rfl) (λv=>by cases v<;>first | rfl | (rename_i q;cases q<;>rfl));exact .ex an (auJ hu ag (du bz bA x aw) (du bz bA i zr) hm U)
   ·exact(bZ h).elim
  ·exact(bZ h).elim
 case index t x i=>
  simp only[ig]at h;have tB:∀{k:Option Value->Option Nat->bF},(k (bB e (rand G x)) (et (bB e (rand G i)))).run pm H=some (r,H')->(∀m,k none m=.fail)->(∀v,k (some v) none=.fail)->∃v u m,bB e (rand G x)=some v/\bB e (rand G i)=some u/\et (some u)=some m/\(k (some v) (some m)).run pm H=some (r,H'):=by
   intro k U aa aq
   cases aw:bB e (rand G x) with
   | none=>rw[aw,aa]at U;exact(bZ U).elim
   | some v=>
     cases hu:bB e (rand G i) with
     | none=>rw[aw,hu]at U;simp only[et]at U;rw[aq]at U;exact(bZ U).elim
     | some u=>
       cases hm:et (some u) with
       | none=>rw[aw,hu,hm,aq]at U;exact(bZ U).elim
       | some m=>rw[aw,hu,hm]at U;exact⟨v,u,m,rfl,rfl,hm,U⟩
  split at h
  ·rename_i hu;obtain⟨v,u,m,aw,zr,hm,U⟩:=tB (k:=vq) h (λ_=>rfl) (λv=>by cases v<;>rfl);exact .same an (auK hu (du bz bA x aw) (du bz bA i zr) hm U)
  ·rename_i ln el hu;split at h
   ·rename_i ag;obtain⟨v,u,m,aw,zr,hm,U⟩:=tB (k:=xv (oh P el) ln (P.cellsOf el)) h (λ_=>rfl) (λv=>by cases v<;>rfl);exact .ex an (auL hu ag (du bz bA x aw) (du bz bA i zr) hm U)
   ·exact(bZ h).elim
  ·exact(bZ h).elim
end
section
variable{O:da}{P:Program}{base:Nat}{pm:Perm}{γ bk:bo}{H H':ah}{w w':World}{n:Nat}{e:Env}{a:Act}{G:Nat->Bool}
theorem W4{fs:Array Field}:∀{cH:List (Nat×Operand)} {fr:List (Nat×Nat×cD)},(cH.mapM λp=>(fs[p.1]?).map λf=>(f.offset,P.cellsOf f.type,rand G p.2))=some fr->
 BV G (λi=>(fs.map λf=>(f.offset,P.cellsOf f.type))[i]?) fr cH
 | [],fr,h=>by
   simp only[List.mapM_nil,bZV,a6]at h;subst h;exact .nil
 | (i,x)::cH,fr,h=>by
   simp only[List.mapM_cons,bYa,bZV]at h
   cases bc:fs[i]? with
   | none=>rw[bc]at h;cases h
   | some f=>
     rw[bc]at h;simp only[bZs,bZo]at h
     cases aV:(cH.mapM λp=>(fs[p.1]?).map λf=>(f.offset,P.cellsOf f.type,rand G p.2)) with
     | none=>rw[aV]at h;cases h
     | some bh=>
       rw[aV]at h;simp only[bZo,a6]at h;subst h;exact .cons (by simp[bc]) (W4 aV)
theorem Nz{sz:Nat}:∀(cH:List (Nat×Operand)),BV G (λi=>some (i*sz,sz)) (cH.map λp=>(p.1*sz,sz,rand G p.2)) cH
 | []=>.nil
 | (_,_)::cH=>.cons rfl (Nz cH)
theorem avu(an:Rel O base γ H w)(e8:pm.gV γ H)(bz:eY γ n e a)(bA:hH G γ){d g:_}{t0:TypeId}{pos:String}{mn:Array Edge}{op:Op}{r:Value}
 (vF:match op with | .build .. | .buildSlice .. | .binOp .. | .convert ..=>True | _=>False)
 (h:((ig P G ⟨d,op,t0,pos,mn,g⟩).cA e).run pm H=some (r,H')):hY O P base pm γ H w (execOp a.eval ⟨d,op,t0,pos,mn,g⟩) r H':=by
 cases op<;>first | (exact vF.elim) | skip
 case build t cH=>
  obtain⟨gD,aB,h⟩:=qk h
  cases bl:Dam.zeroCells P t with
  | none=>rw[bl]at aB;cases aB
  | some NA=>
    obtain⟨z,jy,rfl⟩:=E2 bl;rw[bl]at aB;simp only[bYa,bZo]at aB;split at aB
    ·rename_i fs hu
     cases aV:(cH.toList.mapM λp=>(fs[p.1]?).map λf=>(f.offset,P.cellsOf f.type,rand G p.2)) with
     | none=>rw[aV]at aB;cases aB
     | some fr=>
       rw[aV]at aB;simp only[bZo]at aB;split at aB
       ·rename_i ag;simp only[bZV,a6]at aB;subst aB;simp only[bM.cA]at h;split at h
        ·rename_i l aO;split at h
         ·rename_i cs af;obtain⟨rfl,rfl⟩:=fe h;obtain⟨r',ao,e2⟩:=auU (P:=P) (w:=w) (parts:=cH.map λp=>(p.1,a.eval p.2)) jy hu ag (by rw[Array.toList_map];exact Ny bz bA (W4 aV) aO) af;exact .val an ao e2 rfl
         ·exact(bZ h).elim
        ·exact(bZ h).elim
       ·cases aB
    ·rename_i ln el hu;split at aB
     ·rename_i ag;simp only[bZV,a6]at aB;subst aB;simp only[bM.cA]at h;split at h
      ·rename_i l aO;split at h
       ·rename_i cs af;obtain⟨rfl,rfl⟩:=fe h;obtain⟨r',ao,e2⟩:=auV (P:=P) (w:=w) (parts:=cH.map λp=>(p.1,a.eval p.2)) jy hu ag (by rw[Array.toList_map];exact Ny bz bA (Nz cH.toList) aO) af;exact .val an ao e2 rfl
       ·exact(bZ h).elim
      ·exact(bZ h).elim
     ·cases aB
    ·cases aB
 case buildSlice t ln cH=>
  obtain⟨gD,aB,h⟩:=qk h
  cases hu:P.underlying t with
  | none=>rw[hu]at aB;simp at aB
  | some td=>
    rw[hu]at aB;cases td<;>simp only[bZV,bYa,bZo,reduceCtorEq]at aB;rename_i el
    cases bl:Dam.zeroCells P el with
    | none=>rw[bl]at aB;cases aB
    | some NA=>
      obtain⟨z,jy,rfl⟩:=E2 bl;rw[bl]at aB;simp only[bZo]at aB;split at aB
      ·rename_i ag;simp only[a6]at aB;subst aB;simp only[bM.cA]at h;split at h
       ·rename_i l aO;split at h
        ·rename_i cs af;obtain⟨r',w',bk,ao,e2,bd⟩:=auW (P:=P) (w:=w) (parts:=cH.map λp=>(p.1,a.eval p.2)) an e8 hu jy ag (by rw[Array.toList_map];exact Ny bz bA (Nz cH.toList) aO) af h;exact .xM ao e2 bd
        ·exact(bZ h).elim
       ·exact(bZ h).elim
      ·cases aB
 case binOp op t x y avv=>
  simp only[ig]at h;have NB:∀{k:pa},(op=.eql∨op=.neq->vm P t x y=some k)->((bM.bin op k (rand G x) (rand G y)).cA e).run pm H=some (r,H')->hY O P base pm γ H w (execOp a.eval ⟨d,.binOp op t x y avv,t0,pos,mn,g⟩) r H':=by
   intro k ag h;obtain⟨v,aw,h⟩:=hJ h;obtain⟨u,hu,h⟩:=hJ h;obtain⟨ai,rfl⟩:=tJ h;have az:=du bz bA x aw;have bu:=du bz bA y hu;unfold Dam.binOp at ai;split at ai
   ·split at ai
    ·rename_i b oC;simp only[a6]at ai;subst ai;exact .val an (ok_eq (ag (.inl rfl)) oC az bu).1 (.bool _) rfl
    ·cases ai
   ·split at ai
    ·rename_i b oC;simp only[a6]at ai;subst ai;exact .val an (ok_eq (ag (.inr rfl)) oC az bu).2 (.bool _) rfl
    ·cases ai
   ·obtain⟨ao,e2⟩:=Ws (P:=P) (w:=w) (t:=t) (xo:=x) (yo:=y) (.inl rfl) ai az bu;exact .val an ao e2 rfl
   ·obtain⟨ao,e2⟩:=Ws (P:=P) (w:=w) (t:=t) (xo:=x) (yo:=y) (.inr rfl) ai az bu;exact .val an ao e2 rfl
   ·rename_i n1 fU IK NC;obtain⟨ao,e2⟩:=auq (P:=P) (w:=w) (t:=t) (xo:=x) (yo:=y) ⟨IK,NC,n1,fU⟩ ai az bu;exact .val an ao e2 rfl
  split at h
  ·obtain⟨gD,aB,h⟩:=qk h
   cases ag:vm P t x y with
   | none=>rw[ag]at aB;cases aB
   | some k=>
     rw[ag]at aB;simp only[bZs,a6]at aB;subst aB;exact NB (λ_=>ag) h
  ·obtain⟨gD,aB,h⟩:=qk h
   cases ag:vm P t x y with
   | none=>rw[ag]at aB;cases aB
   | some k=>
     rw[ag]at aB;simp only[bZs,a6]at aB;subst aB;exact NB (λ_=>ag) h
  ·rename_i n1 fU;exact NB (k:=.aZ) (λq=>by rcases q with q | q;exact absurd q n1;exact absurd q fU) h
 case convert s avw x=>
  simp only[ig]at h;split at h
  ·rename_i av aI aG kd;obtain⟨v,aw,h⟩:=hJ h;exact .same an (auE aG kd (du bz bA x aw) h)
  ·rename_i el aG kd;split at h
   ·rename_i he;obtain⟨v,aw,h⟩:=hJ h;have az:=du bz bA x aw;cases v<;>first | (exact(bZ h).elim) | skip
    rename_i IL;have jw:=az.jv;obtain⟨r',w',bk,ao,e2,bd⟩:=au4 (P:=P) (e:=el) an e8 h;refine .xM (v':=r') ?_ e2 bd;simp only[convert,Sem.run_bind,ef aG,ef kd,Result.andThen_ok,jw,ef he,ao]
   ·exact(bZ h).elim
  ·rename_i el aG kd;split at h
   ·rename_i he;obtain⟨v,aw,h⟩:=hJ h;have az:=du bz bA x aw;obtain⟨r',ao,⟨b,m,c,cY⟩,e2,bd⟩:=auZ (P:=P) an az h;refine .val an (v':=r') ?_ e2 bd;rw[cY]at ao|-;exact(run_convert_bytes_string w s avw el b m c aG he kd).trans ao
   ·exact(bZ h).elim
  ·rename_i aG kd;obtain⟨v,aw,h⟩:=hJ h;exact .same an (auF aG kd (du bz bA x aw) h)
  ·exact(bZ h).elim
end
section
variable{O:da}{P:Program}{base:Nat}{pm:Perm}{γ bk:bo}{H H':ah}{w w':World}{n:Nat}{e:Env}{a:Act}{G:Nat->Bool}
theorem IM{t:TypeId}{α:Type}{f:TypeId->TypeId->Option α}{gD:α}(h:(do
 let .map hg el <-P.underlying t | none
 f hg el:Option α)=some gD):∃hg el,P.underlying t=some (.map hg el)/\f hg el=some gD:=by
 cases hu:P.underlying t with
 | none=>rw[hu]at h;simp at h
 | some td=>
   rw[hu]at h;cases td<;>simp only[bYa,bZo,reduceCtorEq]at h;exact⟨_,_,rfl,h⟩
theorem avx(an:Rel O base γ H w)(e8:pm.gV γ H)(bz:eY γ n e a)(bA:hH G γ){d g:_}{t0:TypeId}{pos:String}{mn:Array Edge}{op:Op}{r:Value}
 (vF:match op with | .makeSlice .. | .slice .. | .lookup .. | .mapUpdate .. | .insert .. | .mapEntry .. | .entryStore .. | .range .. | .next ..=>True | _=>False)
 (h:((ig P G ⟨d,op,t0,pos,mn,g⟩).cA e).run pm H=some (r,H')):hY O P base pm γ H w (execOp a.eval ⟨d,op,t0,pos,mn,g⟩) r H':=by
 cases op<;>first | (exact vF.elim) | skip
 case makeSlice t l c=>
  obtain⟨gD,aB,h⟩:=qk h
  cases hu:P.underlying t with
  | none=>rw[hu]at aB;simp at aB
  | some td=>
    rw[hu]at aB;cases td<;>simp only[bZV,bYa,bZo,reduceCtorEq]at aB;rename_i el
    cases bl:Dam.zeroCells P el with
    | none=>rw[bl]at aB;cases aB
    | some NA=>
      obtain⟨z,jy,rfl⟩:=E2 bl;rw[bl]at aB;simp only[bZo,a6]at aB;subst aB;simp only[bM.cA]at h
      cases U:et (bB e (rand G l)) with
      | none=>rw[U]at h;simp only[tu]at h;exact(bZ h).elim
      | some ln=>
        cases aa:et (bB e (rand G c)) with
        | none=>rw[U,aa]at h;simp only[tu]at h;exact(bZ h).elim
        | some fH=>
          rw[U,aa]at h;obtain⟨av,aI⟩:=xJ U;obtain⟨aQ,bt⟩:=xJ aa;have ao:=(du bz bA l aI).gC;have e2:=(du bz bA c bt).gC;obtain⟨r',w',bk,f1,f2,f3⟩:=au1 (P:=P) (t:=t) (k:=av) (k':=aQ) an e8 hu jy h;refine .xM (v':=r') ?_ f2 f3;rw[ao,e2];exact f1
 case slice t x lo ad hf=>
  simp only[ig]at h;split at h
  ·rename_i hu;split at h
   ·exact(bZ h).elim
   ·rename_i hm;have:hf=none:=by simpa using hm
    subst this;simp only[bM.cA]at h
    cases aw:bB e (rand G x) with
    | none=>rw[aw]at h;simp only[sa]at h;exact(bZ h).elim
    | some v=>
      cases aO:fj e 0 (lo.map (rand G)) with
      | none=>rw[aw,aO]at h;simp only[sa]at h;exact(bZ h).elim
      | some l=>
        rw[aw,aO]at h;exact .same an (auM hu (du bz bA x aw) (vG bz bA aO) (λm c9 q=>vG bz bA q) h)
  ·rename_i el hu;split at h
   ·rename_i ag;simp only[cG,nE,mN]at ag;obtain⟨v,aw,h⟩:=hJ h;split at h
    ·rename_i dk ln fH;split at h
     ·rename_i l c9 m bn bh cu;refine .ex an (auz an hu ag.1 (du bz bA x aw) (vG bz bA bn) (vG bz bA bh) (vG bz bA cu) ?_ h)
      rcases ag.2 with q | q
      ·exact .inl (by simpa using q)
      ·exact .inr (by cases hf<;>simp_all)
     ·exact(bZ h).elim
    ·exact(bZ h).elim
   ·exact(bZ h).elim
  ·rename_i ln el hu;split at h
   ·exact(bZ h).elim
   ·rename_i ag;simp only[nE,mN,not_or,Bool.not_eq_true,Bool.not_eq_false,Option.isSome_eq_false_iff,Option.isNone_iff_eq_none]at ag;obtain⟨rfl,fP⟩:=ag;simp only[bM.cA]at h
    cases aw:bB e (rand G x) with
    | none=>rw[aw]at h;simp only[vt]at h;exact(bZ h).elim
    | some v=>
      cases aO:fj e 0 (lo.map (rand G)) with
      | none=>rw[aw,aO]at h;cases v<;>first | exact(bZ h).elim | (rename_i q;cases q<;>exact(bZ h).elim)
      | some l=>
        cases c9:fj e ln (ad.map (rand G)) with
        | none=>rw[aw,aO,c9]at h;cases v<;>first | exact(bZ h).elim | (rename_i q;cases q<;>exact(bZ h).elim)
        | some m=>
          rw[aw,aO,c9]at h;exact .ex an (Wx (ar:=none) hu fP (du bz bA x aw) (vG bz bA aO) (vG bz bA c9) h)
  ·rename_i at_ hu;split at h
   ·rename_i ln el mo;split at h
    ·exact(bZ h).elim
    ·rename_i ag;simp only[nE,mN,not_or,Bool.not_eq_true,Bool.not_eq_false,Option.isSome_eq_false_iff,Option.isNone_iff_eq_none]at ag;obtain⟨rfl,fP⟩:=ag;simp only[bM.cA]at h
     cases aw:bB e (rand G x) with
     | none=>rw[aw]at h;simp only[vt]at h;exact(bZ h).elim
     | some v=>
       cases aO:fj e 0 (lo.map (rand G)) with
       | none=>rw[aw,aO]at h;cases v<;>first | exact(bZ h).elim | (rename_i q;cases q<;>exact(bZ h).elim)
       | some l=>
         cases c9:fj e ln (ad.map (rand G)) with
         | none=>rw[aw,aO,c9]at h;cases v<;>first | exact(bZ h).elim | (rename_i q;cases q<;>exact(bZ h).elim)
         | some m=>
           rw[aw,aO,c9]at h;exact .ex an (Wx (ar:=some at_) ⟨hu,mo⟩ fP (du bz bA x aw) (vG bz bA aO) (vG bz bA c9) h)
   ·exact(bZ h).elim
  ·exact(bZ h).elim
 case lookup t x k ok=>
  obtain⟨gD,aB,h⟩:=qk h;obtain⟨hg,el,hu,aB⟩:=IM aB
  cases ag:ma P hg with
  | none=>rw[ag]at aB;cases aB
  | some bY=>
    cases bl:zeroOf P el with
    | none=>rw[ag,bl]at aB;cases aB
    | some z=>
      rw[ag,bl]at aB;simp only[bZV,bYa,bZo,a6]at aB;subst aB;obtain⟨c3,ql,h⟩:=hJ h
      cases aw:bB e (rand G x) with
      | none=>rw[aw]at h;exact(bZ h).elim
      | some v=>
        rw[aw]at h;exact .ex an (avn an hu ag bl (du bz bA x aw) (du bz bA k ql) h)
 case mapUpdate t m k x=>
  obtain⟨gD,aB,h⟩:=qk h;obtain⟨hg,el,hu,aB⟩:=IM aB
  cases ag:ma P hg with
  | none=>rw[ag]at aB;cases aB
  | some bY=>
    rw[ag]at aB;simp only[bZV,bYa,bZo,a6]at aB;subst aB;obtain⟨c3,ql,h⟩:=hJ h;obtain⟨BW,vJ,h⟩:=hJ h
    cases aw:bB e (rand G m) with
    | none=>rw[aw]at h;exact(bZ h).elim
    | some v=>
      rw[aw]at h;exact .stored (W0 an hu ag (du bz bA m aw) (du bz bA x vJ) (du bz bA k ql) h)
 case insert t m k x=>
  obtain⟨gD,aB,h⟩:=qk h;obtain⟨hg,el,hu,aB⟩:=IM aB
  cases ag:ma P hg with
  | none=>rw[ag]at aB;cases aB
  | some bY=>
    rw[ag]at aB;simp only[bZV,bYa,bZo,a6]at aB;subst aB;obtain⟨c3,ql,h⟩:=hJ h;obtain⟨BW,vJ,h⟩:=hJ h
    cases aw:bB e (rand G m) with
    | none=>rw[aw]at h;exact(bZ h).elim
    | some v=>
      rw[aw]at h;exact .stored (W0 an hu ag (du bz bA m aw) (du bz bA x vJ) (du bz bA k ql) h)
 case mapEntry t m k=>
  obtain⟨gD,aB,h⟩:=qk h;obtain⟨hg,el,hu,aB⟩:=IM aB
  cases ag:ma P hg with
  | none=>rw[ag]at aB;cases aB
  | some bY=>
    cases bl:zeroOf P el with
    | none=>rw[ag,bl]at aB;cases aB
    | some z=>
      rw[ag,bl]at aB;simp only[bZV,bYa,bZo,a6]at aB;subst aB;obtain⟨c3,ql,h⟩:=hJ h
      cases aw:bB e (rand G m) with
      | none=>rw[aw]at h;exact(bZ h).elim
      | some v=>
        rw[aw]at h;exact .wrote (avp an hu ag bl (du bz bA m aw) (du bz bA k ql) h)
 case entryStore t m s x=>
  simp only[ig,bM.cA]at h;split at h
  ·rename_i aGa aG;obtain⟨BW,vJ,h⟩:=hJ h;obtain⟨k,ag⟩:=xJ aG;have ao:=(du bz bA s ag).gC
   cases aw:bB e (rand G m) with
   | none=>rw[aw]at h;exact(bZ h).elim
   | some v=>
     rw[aw]at h;obtain⟨w',f1,f2,f3⟩:=avq (P:=P) (t:=t) (k:=k) an (du bz bA m aw) (du bz bA x vJ) h;refine .W2 (w':=w') ?_ f2 f3;rw[ao];exact f1
  ·exact(bZ h).elim
 case range t x=>
  simp only[ig]at h;split at h
  ·rename_i hu;obtain⟨v,aw,h⟩:=hJ h;have az:=du bz bA x aw;split at h
   ·have ao:=az.jv;obtain⟨r',w',bk,f1,f2,f3⟩:=auY (P:=P) an e8 hu h;refine .xM (v':=r') ?_ f2 f3;rw[ao];exact f1
   ·exact(bZ h).elim
  ·exact(bZ h).elim
 case next it b=>
  simp only[ig]at h;split at h
  ·rename_i ai;subst ai;simp only[bM.cA]at h
   cases aw:bB e (rand G it) with
   | none=>rw[aw]at h;exact(bZ h).elim
   | some v=>
     rw[aw]at h;exact .wrote (avr an (du bz bA it aw) h)
  ·exact(bZ h).elim
end
section
variable{O:da}{P:Program}{base:Nat}{pm:Perm}{γ bk:bo}{H H':ah}{w w':World}{n:Nat}{e:Env}{a:Act}{G:Nat->Bool}
theorem ND{α β:Type}(f:α->β)(x:α):(#[x]:Array α).map f=#[f x]:=by simp
theorem rm{α β:Type}(f:α->β)(x y:α):(#[x,y]:Array α).map f=#[f x,f y]:=by simp
theorem avy(an:Rel O base γ H w)(e8:pm.gV γ H)(bz:eY γ n e a)(bA:hH G γ){d g:_}{t0:TypeId}{pos:String}{mn:Array Edge}{b:Builtin}{args:Array Operand}{nT:Array TypeId}{r:Value}
 (h:((ig P G ⟨d,.call ⟨.builtin b,args,nT⟩,t0,pos,mn,g⟩).cA e).run pm H=some (r,H')):hY O P base pm γ H w (execOp a.eval ⟨d,.call ⟨.builtin b,args,nT⟩,t0,pos,mn,g⟩) r H':=by
 simp only[ig]at h;have hex:∀{b:Builtin},execOp a.eval ⟨d,.call ⟨.builtin b,args,nT⟩,t0,pos,mn,g⟩=Go.builtin b nT t0 (args.map λ| .const _=>true | _=>false) (args.map a.eval):=λ{b}=>rfl;rw[hex];split at h
 ·rename_i x t ts ao e2;have kc:nT[0]? = some t:=by rw[<-bZD,e2];rfl
  have qb:args=#[x]:=bZU.1 (by simpa using ao);subst qb
  have key:∀{k:Hs},(match k with | .s=>P.underlying t=some .string | .l=>∃e,P.underlying t=some (.slice e) | .m=>∃k e,P.underlying t=some (.map k e))->((bM.len k (rand G x)).cA e).run pm H=some (r,H')->
   hY O P base pm γ H w (Go.builtin .len nT t0 ((#[x]:Array Operand).map λ| .const _=>true | _=>false) ((#[x]:Array Operand).map a.eval)) r H':=by
   intro k ag h;simp only[bM.cA]at h
   cases aw:bB e (rand G x) with
   | none=>rw[aw]at h;cases k<;>exact(bZ h).elim
   | some v=>
     rw[aw]at h;rw[ND a.eval];exact .same an (avi (ty:=t0) an kc (by cases k<;>exact ag) (du bz bA x aw) h)
  split at h
  ·rename_i hu;exact key (k:=.s) hu h
  ·rename_i el hu;exact key (k:=.l) ⟨el,hu⟩ h
  ·rename_i hg el hu;exact key (k:=.m) ⟨hg,el,hu⟩ h
  ·exact(bZ h).elim
 ·rename_i s x t u ao e2;have qb:args=#[s,x]:=bZU.1 (by simpa using ao);have avz:nT=#[t,u]:=bZU.1 (by simpa using e2);subst qb avz
  have key:∀{el:TypeId},P.underlying t=some (.slice el)->EW P u->((zeroOf P el).isSome&&Nat.ble (P.bytesOf el) 17179869184)=true->((bM.append (P.cellsOf el) (P.bytesOf el) (rand G s) (rand G x)).cA e).run pm H=some (r,H')->
   hY O P base pm γ H w (Go.builtin .append #[t,u] t0 ((#[s,x]:Array Operand).map λ| .const _=>true | _=>false) ((#[s,x]:Array Operand).map a.eval)) r H':=by
   intro el aS hu af h;simp only[cG,dA,eh]at af;obtain⟨z,bl⟩:=xl.1 af.1;obtain⟨BW,vJ,h⟩:=hJ h;obtain⟨IL,E3,h⟩:=hJ h;rw[rm a.eval];exact .new (au6 (ty:=t0) an e8 aS hu bl af.2 (du bz bA s E3) (du bz bA x vJ) h)
  split at h
  ·rename_i el e2 kE mo;split at h
   ·rename_i af;exact key kE (.inl ⟨_,mo⟩) af h
   ·exact(bZ h).elim
  ·rename_i el kE mo;split at h
   ·rename_i af;simp only[cG,dA,ed,eh]at af;obtain⟨z,bl⟩:=xl.1 af.1.1;obtain⟨BW,vJ,h⟩:=hJ h;obtain⟨IL,E3,h⟩:=hJ h;rw[rm a.eval];exact .new (au9 (ty:=t0) an e8 kE mo bl af.1.2 af.2 (du bz bA s E3) (du bz bA x vJ) h)
   ·split at h
    ·rename_i af;exact key kE (.inr mo) af h
    ·exact(bZ h).elim
  ·exact(bZ h).elim
 ·rename_i IN s t ts ao e2;have kc:nT[0]? = some t:=by rw[<-bZD,e2];rfl
  have qb:args=#[IN,s]:=bZU.1 (by simpa using ao);subst qb;split at h
  ·rename_i el hu;split at h
   ·rename_i ag;obtain⟨IL,E3,h⟩:=hJ h;obtain⟨aGb,E4,h⟩:=hJ h;rw[rm a.eval];exact .wrote (ave (ty:=t0) an hu kc ag (du bz bA IN E4) (du bz bA s E3) h)
   ·exact(bZ h).elim
  ·exact(bZ h).elim
 ·rename_i x t ts ao e2;have kc:nT[0]? = some t:=by rw[<-bZD,e2];rfl
  have qb:args=#[x]:=bZU.1 (by simpa using ao);subst qb;split at h
  ·rename_i el hu;obtain⟨gD,aB,h⟩:=qk h
   cases bl:Dam.zeroCells P el with
   | none=>rw[bl]at aB;cases aB
   | some NA=>
     obtain⟨z,jy,rfl⟩:=E2 bl;rw[bl]at aB;simp only[bZs,a6]at aB;subst aB;simp only[bM.cA]at h
     cases aw:bB e (rand G x) with
     | none=>rw[aw]at h;exact(bZ h).elim
     | some v=>
       rw[aw]at h;obtain⟨w',f1,f2,f3⟩:=avf (ty:=t0) (P:=P) an hu kc jy (du bz bA x aw) h;subst f2;rw[ND a.eval];exact .xM (v':=zWb) f1 (.tuple .nil) f3
  ·rename_i hg el hu;simp only[bM.cA]at h
   cases aw:bB e (rand G x) with
   | none=>rw[aw]at h;exact(bZ h).elim
   | some v=>
     rw[aw]at h;obtain⟨w',f1,f2,f3⟩:=avh (ty:=t0) (P:=P) an hu kc (du bz bA x aw) h;subst f2;rw[ND a.eval];exact .xM (v':=zWb) f1 (.tuple .nil) f3
  ·exact(bZ h).elim
 ·rename_i x y ao;have qb:args=#[x,y]:=bZU.1 (by simpa using ao);subst qb;simp only[bM.cA]at h
  cases az:bB e (rand G x) with
  | none=>rw[az]at h;exact(bZ h).elim
  | some BW=>
    cases bu:bB e (rand G y) with
    | none=>rw[az,bu]at h;simp only[pY]at h;exact(bZ h).elim
    | some avA=>
      rw[az,bu]at h;have:=Wz (P:=P) (w:=w) (ts:=nT) (ty:=t0) (du bz bA x az) (du bz bA y bu) h;rw[rm a.eval];exact .same an this
 ·rename_i x y ao;have qb:args=#[x,y]:=bZU.1 (by simpa using ao);subst qb;simp only[bM.cA]at h
  cases az:bB e (rand G x) with
  | none=>rw[az]at h;exact(bZ h).elim
  | some BW=>
    cases bu:bB e (rand G y) with
    | none=>rw[az,bu]at h;simp only[pY]at h;exact(bZ h).elim
    | some avA=>
      rw[az,bu]at h;have:=Wz (P:=P) (w:=w) (ts:=nT) (ty:=t0) (du bz bA x az) (du bz bA y bu) h;rw[rm a.eval];exact .same an this
 ·exact(bZ h).elim
theorem HL(an:Rel O base γ H w)(e8:pm.gV γ H)(bz:eY γ n e a)(bA:hH G γ)(o:Oper){r:Value}(h:((ig P G o).cA e).run pm H=some (r,H')):hY O P base pm γ H w (execOp a.eval o) r H':=by
 obtain⟨d,op,t0,pos,mn,g⟩:=o;cases op
 case call c=>
  obtain⟨callee,args,nT⟩:=c;cases callee
  case builtin b=>exact avy an e8 bz bA h
  case value f=>cases f<;>exact(bZ h).elim
  case invoke=>exact(bZ h).elim
 all_goals first
  | exact avt an e8 bz bA trivial h
  | exact avu an e8 bz bA trivial h
  | exact avx an e8 bz bA trivial h
  | exact(bZ h).elim
end
end Go.Dam
namespace Go.Dam
open Go
section
variable{O:da}{P:Program}{base:Nat}{pm:Perm}{γ bk:bo}{H H':ah}{w w':World}{n:Nat}{e:Env}{a:Act}{G:Nat->Bool}{K:c8}
theorem hH.mono(h:hH G γ)(aK:γ.le bk):hH G bk:=λg bA=>let ⟨L,a,b,c⟩:=h g bA;⟨L,aK _ _ a,b,c⟩
theorem eY.mono(h:eY γ n e a)(aK:γ.le bk):eY bk n e a:=⟨h.size,h.ej,h.defers,λt v q=>let ⟨x,y⟩:=h.get t v q;⟨x,y.mono aK⟩⟩
theorem eY.put(h:eY γ n e a){d:Option Tmp}(aB:∀t,d=some t->t<n){v v':Value}(aw:bg γ v v'):eY γ n (putDst e d v) (a.put d v'):=by
 cases d with
 | none=>exact h
 | some d=>
   have bO:=aB d rfl;refine⟨by simpa [Act.put]using h.size,h.ej,h.defers,λt u q=>?_⟩;simp only[putDst,cI.pb]at q;have aG:=h.size;by_cases aS:t=d
   ·subst aS;simp only[if_true,a6]at q;subst q;refine⟨bO,?_⟩;simp only[Act.put,bZN];rw[Array.getElem?_setIfInBounds_self_of_lt (hR bO aG)];exact aw
   ·rw[aU aS]at q;obtain⟨x,y⟩:=h.get t u q;refine⟨x,?_⟩;simp only[Act.put,bZN];rw[A7 (Ne.symm aS),<-bZN];exact y
theorem eY.Mc(h:eY γ n e a){d:Option Tmp}(aB:∀t,d=some t->t<n):eY γ n (putDst e d zWb) (a.put d undef):=h.put aB (.tuple .nil)
def tI(P:Program)(f:FuncId)(args:Array Value)(w:World)(R:Ending->World->Prop):Prop:=
 ((callFunc f args).run P w=.ok (.enter f args) w/\Calls P f args w R)∨∃v w',(callFunc f args).run P w=.ok (.value v) w'/\R (.returned v) w'
def fT(O:da)(P:Program)(G:Nat->Bool)(K:c8):Prop:=
 ∀(pm:Perm) (f:FuncId) (args:List Value) (H:ah) (v:Value) (H':ah),pm.num=none->K pm f args H=some (v,H')->∀(base:Nat) (γ:bo) (w:World) (dR:Array Value),Rel O base γ H w->hH G γ->cm γ args dR.toList->
  tI P f dR w λen w'=>∃bk v',en=.returned v'/\bg bk v v'/\Step O base pm γ H w bk H' w'
def Bh(O:da)(P:Program)(base:Nat)(pm:Perm)(γ:bo)(H:ah)(w:World)(o:Oper)(a:Act)(r:Value)(H':ah):Prop:=
 ∀(next:Act->World->Prop) (Q:Exit->Act->World->Prop),(∀bk v' w',bg bk r v'->Step O base pm γ H w bk H' w'->next (a.put o.dst v') w')->o.wp P a w next Q
theorem hY.done{o:Oper}{r:Value}(h:hY O P base pm γ H w (execOp a.eval o) r H'):Bh O P base pm γ H w o a r H':=by
 obtain⟨eF,v',w',bk,U,aa,aq,a8⟩:=h;intro next Q aF
 unfold Oper.wp;rw[U]
 rcases aa with rfl | ⟨rfl,rfl⟩
 ·exact aF _ _ _ aq a8
 ·exact aF _ _ _ aq a8
theorem W5{f:FuncId}{args:Array Value}{o:Oper}{r:Value}(e7:(execOp a.eval o).run P w=(callFunc f args).run P w)
 (h:tI P f args w λen w'=>∃bk v',en=.returned v'/\bg bk r v'/\Step O base pm γ H w bk H' w'):Bh O P base pm γ H w o a r H':=by
 intro next Q aF
 unfold Oper.wp;rw[e7]
 rcases h with⟨U,aa⟩ | ⟨v,w',U,bk,v',aa,aq,a8⟩
 ·rw[U,Oper.upon_enter];exact aa.mono λen w' ⟨bk,v',aa,aq,a8⟩=>by
   subst aa;exact aF _ _ _ aq a8
 ·rw[U];cases aa;exact aF _ _ _ aq a8
theorem avB{o:bM}(h:o.dL=false):o.run K pm e H=(o.cA e).run pm H:=by cases o<;>first | rfl | cases h
theorem Me(db:fT O P G K)(an:Rel O base γ H w)(dS:pm.num=none)(bz:eY γ n e a)(bA:hH G γ)(o:Oper)(af:calm P G o=true){r:Value}(h:(ig P G o).run K pm e H=some (r,H')):Bh O P base pm γ H w o a r H':=by
 obtain⟨d,op,t0,pos,mn,g⟩:=o;cases op
 case call c=>
  obtain⟨callee,args,nT⟩:=c;have mq:∀tt,((bM.mP (rand G tt) (args.toList.map (rand G))).run K pm e H=some (r,H'))->Bh O P base pm γ H w ⟨d,.call ⟨.value tt,args,nT⟩,t0,pos,mn,g⟩ a r H':=by
   intro tt h;simp only[bM.run]at h;split at h
   ·rename_i f first q5 bc
    split at h
    ·rename_i l aO;have e8:=du bz bA tt bc;have xN:=IJ bz bA aO;obtain⟨l',ao,e2,bd⟩:∃l',a.eval tt=.func (.func f) #[] ⟨l'⟩/\cm γ q5.toList l'/\first=#[]:=by
      generalize a.eval tt=u at e8
      cases e8 with
      | func c9=>exact⟨_,rfl,c9,rfl⟩
     have:=db _ _ _ _ _ _ dS h base γ w (args.map a.eval++⟨l'⟩) an bA (by simpa using xN.append e2);refine W5 ?_ this;simp only[execOp,resolve,ao,Deferred.ofValue,invoke,Sem.run_bind,Sem.run_pure,Result.andThen_ok,Array.empty_append]
    ·cases h
   ·cases h
  cases callee
  case builtin b=>
   have tA:(bM.run K pm e H (ig P G ⟨d,.call ⟨.builtin b,args,nT⟩,t0,pos,mn,g⟩))=((ig P G ⟨d,.call ⟨.builtin b,args,nT⟩,t0,pos,mn,g⟩).cA e).run pm H:=by
    simp only[ig];split<;>first | rfl | (split<;>first | rfl | (split<;>first | rfl | (split<;>rfl)) | (unfold pW;cases Dam.zeroCells P _<;>rfl))
   rw[tA]at h;exact(HL an (.none dS) bz bA _ h).done
  case value f=>
   cases f
   case func f=>
    simp only[ig,bM.run]at h;split at h
    ·rename_i l aO;have xN:=IJ bz bA aO;have:=db _ _ _ _ _ _ dS h base γ w (args.map a.eval) an bA (by simpa using xN);refine W5 ?_ this;have aV:Act.eval a (.func f)=.func (.func f) #[] #[]:=rfl;simp only[execOp,resolve,aV,Deferred.ofValue,invoke,Sem.run_bind,Sem.run_pure,Result.andThen_ok,Array.empty_append,Array.append_empty]
    ·cases h
   all_goals exact mq _ h
  case invoke=>cases h
 all_goals
  refine(HL an (.none dS) bz bA _ ?_).done
  rw[<-avB (K:=K) (by simpa [calm]using af)]
  exact h
theorem Eg(bz:eY γ n e a){ops:Array Oper}{o:Oper}{b:Bool}(dM:tw P G n ops o=true)(h:(gq P G n ops o).wanted e=some b):Region.wanted o (yielded ops a.tmps)=b:=by
 have aG:∀j b,o.guard=some (j,b)->((ops[j]?).bind (·.dst)).isSome:=by
  intro j b aK;simp only[tw,cG]at dM;have:=dM.1.2;rw[aK]at this;exact this
 unfold aE.wanted at h;rw[gq,bm dM]at h;simp only at h;unfold Region.wanted
 cases aK:o.guard with
 | none=>rw[aK]at h;simpa using h
 | some p=>
   obtain⟨j,want⟩:=p;rw[aK]at h;obtain⟨t,aS⟩:=xl.1 (aG j want aK);simp only[bZs,aS,bZy]at h;simp only[yielded,aS,bZo]
   cases aw:e.get t with
   | none=>rw[aw]at h;cases h
   | some v=>
     obtain⟨x,y⟩:=bz.get t v aw;have gb:=bz.size;have qd:a.tmps[t]? = some (a.tmps.getD t undef):=by
      rw[bZN,pU (by omega)];rfl
     rw[aw]at h;rw[qd];generalize a.tmps.getD t undef=u at y;cases y<;>simp only[a6]at h<;>subst h<;>first | rfl | (cases want<;>rfl) | (rename_i q;cases q<;>cases want<;>rfl)
end
section
variable{O:da}{P:Program}{base:Nat}{pm:Perm}{n:Nat}{G:Nat->Bool}{K:c8}{fuel:Nat}
theorem HK{ops:Array Oper}{o:Oper}(dM:tw P G n ops o=true):∀t,o.dst=some t->t<n:=by
 intro t aS;simp only[tw,cG]at dM;have:=dM.1.1;rw[aS]at this;exact y0 this
theorem Mf{ops:Array Oper}{o:Oper}(dM:tw P G n ops o=true):calm P G o=true:=by
 simp only[tw,cG]at dM;exact dM.2
theorem avC{γ:bo}{H H':ah}{w:World}{e:Env}{a:Act}{r:Value}(db:fT O P G K){ops:Array Oper}{o:Oper}(an:Rel O base γ H w)(dS:pm.num=none)(bz:eY γ n e a)(bA:hH G γ)(h:(gq P G n ops o).run K pm e H=some (r,H'))
 {next:Act->World->Prop} {Q:Exit->Act->World->Prop} (aF:∀bk a' w',eY bk n (putDst e (gq P G n ops o).dst r) a'->Step O base pm γ H w bk H' w'->next a' w'):
 if Region.wanted o (yielded ops a.tmps) then o.wp P a w next Q∨(o.asks P a w/\LetsOut Q) else next (a.put o.dst undef) w:=by
 by_cases dM:tw P G n ops o=true
 ·unfold aE.run at h;split at h
  ·rename_i hw;rw[Eg bz dM hw,bm rfl];rw[gq,bm dM]at h aF;exact .inl (Me db an dS bz bA o (Mf dM) h _ _ λbk v' w' U aa=>aF bk _ w' ((bz.mono aa.ext).put (HK dM) U) aa)
  ·rename_i hw;rw[Eg bz dM hw];simp only[a6,c2]at h;obtain⟨rfl,rfl⟩:=h;rw[gq,bm dM]at aF;exact aF γ _ w (bz.Mc (HK dM)) (Step.refl an)
  ·cases h
 ·rw[gq,aU dM]at h;simp[aE.run,aE.wanted,bM.run,bM.cA,bF.run]at h
theorem W6(dS:pm.num=none)(db:fT O P G K){ops:Array Oper}{Q:Exit->Act->World->Prop}:∀(l:List Oper) (k:Nat),(∀i o,l[i]? = some o->ops[k+i]? = some o)->∀{e e2:Env} {a:Act} {γ:bo} {H aJ:ah} {w:World},
 mQ K pm (l.map (gq P G n ops)) e H=some (e2,aJ)->Rel O base γ H w->eY γ n e a->hH G γ->(∀dQ a2 bL,eY dQ n e2 a2->Step O base pm γ H w dQ aJ bL->Q .normal a2 bL)->wpOps P ops Q (List.range' k l.length) a w
 | [],k,_,e,e2,a,γ,H,aJ,w,h,an,bz,bA,bU=>by
   simp only[List.map_nil,mQ,a6,c2]at h;obtain⟨rfl,rfl⟩:=h;exact bU γ a w bz (Step.refl an)
 | o::l,k,aO,e,e2,a,γ,H,aJ,w,h,an,bz,bA,bU=>by
   simp only[bXm,mQ]at h;split at h
   ·rename_i r H1 U;have au:ops[k]? = some o:=by simpa using aO 0 o rfl
    simp only[bZt,List.range'_succ,wpOps,au];refine avC db an dS bz bA U λbk a' w' bn bh=>?_
    exact W6 dS db l (k+1) (λi o ad=>by have:=aO (i+1) o (by simpa using ad);rwa [show k+(i+1)=k+1+i by omega]at this) h bh.rel bn (bA.mono bh.ext)
     λdQ a2 bL cu e9=>bU dQ a2 bL cu (bh.trans e9 an)
   ·cases h
theorem avD(dS:pm.num=none)(db:fT O P G K){ops:Array Oper}{id:Nat}{Q:Exit->Act->World->Prop}{e e2:Env}{a:Act}{γ:bo}{H aJ:ah}{w:World}
 (h:mQ K pm (nL P G n ops) e H=some (e2,aJ)) (an:Rel O base γ H w) (bz:eY γ n e a) (bA:hH G γ) (bU:∀dQ a2 bL,eY dQ n e2 a2->Step O base pm γ H w dQ aJ bL->Q .normal a2 bL):
 (Code.region id ops false).wp P Q a w:=by
 refine wp_region ?_;have:=W6 (Q:=Q) dS db ops.toList 0 (λi o ad=>by simpa using ad) h an bz bA bU;rw[bZO,<-List.range_eq_range']at this;exact this
def HS(O:da)(P:Program)(G:Nat->Bool):Prop:=
 ∀(K:c8),fT O P G K->∀(pm:Perm),pm.num=none->∀(n id:Nat) (ops:Array Oper) (Q:Exit->Act->World->Prop) (base:Nat) (e e2:Env) (a:Act) (γ:bo) (H aJ:ah) (w:World),
  vy K pm (nL P G n ops) (HP ops (nL P G n ops)) e H=some (e2,aJ)->Rel O base γ H w->eY γ n e a->hH G γ->(∀dQ a2 bL,eY dQ n e2 a2->Step O base pm γ H w dQ aJ bL->Q .normal a2 bL)->
  (Code.region id ops true).wp P Q a w
theorem avE{c:Code}{Q:Exit->Act->World->Prop}{a:Act}{w:World}(I:Nat->Act->World->Prop)(m:Nat)(avF:I m a w)(bl:∀a w,¬I 0 a w)
 (round:∀m a w,I (m+1) a w->c.wp P (Exit.then (λa' w'=>I m a' w') Q) a w):(Code.loop c).wp P Q a w:=by
 intro b k cs;have key:∀m a w,I m a w->∃e a' w',Q e a' w'/\Arrives P (lone (b.at a (.code c::.inLoop c::k)) cs w) b k cs e a' w':=by
  intro m
  induction m with
  | zero=>intro a w dw;exact(bl a w dw).elim
  | succ m ih=>
    intro a w dw;obtain⟨e,BX,rk,aV,xO⟩:=round m a w dw b (.inLoop c::k) cs
    cases e with
    | normal=>
      obtain⟨avG,avH,zi,avI,avJ⟩:=ih BX rk aV;exact⟨avG,avH,zi,avI,.of_steps (Steps.trans xO (.one step_inLoop)) avJ⟩
    | exit id=>exact⟨_,BX,rk,aV,.pass (x:=.inLoop c) rfl (λ_ _=>.inl (by simp)) xO⟩
    | goto l=>exact⟨_,BX,rk,aV,.pass (x:=.inLoop c) rfl (λ_ _=>.inl (by simp)) xO⟩
    | ret=>exact⟨_,BX,rk,aV,.pass (x:=.inLoop c) rfl (λ_ _=>.inl (by simp)) xO⟩
    | panic aGc=>exact⟨_,BX,rk,aV,.pass (x:=.inLoop c) rfl (λ_ _=>.inl (by simp)) xO⟩
    | outgrown=>exact⟨_,BX,rk,aV,.pass (x:=.inLoop c) rfl (λ_ _=>.inl (by simp)) xO⟩
 obtain⟨e,a',w',aV,xO⟩:=key m a w avF;exact⟨e,a',w',aV,.of_steps (.one step_loop) xO⟩
def NF:gr->Exit
 | .normal=>.normal
 | .exit i=>.exit i
 | .ret=>.ret
theorem W7(dS:pm.num=none)(gx:HS O P G)(db:fT O P G K):∀(c:Code) {x:gr} {e e2:Env} {a:Act} {γ:bo} {H aJ:ah} {w:World} {Q:Exit->Act->World->Prop},
 eval K pm fuel (ky P G n c) e H=some (x,e2,aJ)->Rel O base γ H w->eY γ n e a->hH G γ->(∀dQ a2 bL,eY dQ n e2 a2->Step O base pm γ H w dQ aJ bL->Q (NF x) a2 bL)->c.wp P Q a w:=by
 intro c
 induction c with
 | skip=>
   intro x e e2 a γ H aJ w Q h an bz bA bU;simp only[ky,eval,a6,c2]at h;obtain⟨rfl,rfl,rfl⟩:=h;exact wp_skip (bU γ a w bz (Step.refl an))
 | region id ops draw=>
   intro x e e2 a γ H aJ w Q h an bz bA bU
   cases draw with
   | false=>
     simp only[ky,eval]at h;split at h
     ·rename_i bd bN aq;simp only[a6,c2]at h;obtain⟨rfl,rfl,rfl⟩:=h;exact avD dS db aq an bz bA bU
     ·cases h
   | true=>
     simp only[ky,eval]at h;split at h
     ·rename_i bd bN aq;simp only[a6,c2]at h;obtain⟨rfl,rfl,rfl⟩:=h;exact gx K db pm dS n id ops Q base e _ a γ H _ w aq an bz bA bU
     ·cases h
 | seq cy dd vK vL=>
   intro x e e2 a γ H aJ w Q h an bz bA bU;simp only[ky,eval]at h;refine wp_seq ?_
   cases U:eval K pm fuel (ky P G n cy) e H with
   | none=>rw[U]at h;cases h
   | some p=>
     obtain⟨df,ao,H1⟩:=p;rw[U]at h;refine vK U an bz bA λdQ a2 bL bn bh=>?_
     cases df with
     | normal=>exact vL h bh.rel bn (bA.mono bh.ext) λNG a3 kF cu e9=>bU NG a3 kF cu (bh.trans e9 an)
     | exit i=>
       simp only[a6,c2]at h;obtain⟨rfl,rfl,rfl⟩:=h;exact bU dQ a2 bL bn bh
     | ret=>
       simp only[a6,c2]at h;obtain⟨rfl,rfl,rfl⟩:=h;exact bU dQ a2 bL bn bh
 | cond c cy dd vK vL=>
   intro x e e2 a γ H aJ w Q h an bz bA bU;simp only[ky,eval]at h;split at h
   ·rename_i af;exact wp_cond_true (du bz bA c af).qf (vK h an bz bA bU)
   ·rename_i af;exact wp_cond_false (du bz bA c af).qf (vL h an bz bA bU)
   ·cases h
 | block id c ih=>
   intro x e e2 a γ H aJ w Q h an bz bA bU;simp only[ky,eval]at h;refine wp_block ?_
   cases U:eval K pm fuel (ky P G n c) e H with
   | none=>rw[U]at h;cases h
   | some p=>
     obtain⟨df,ao,H1⟩:=p;rw[U]at h;refine ih U an bz bA λdQ a2 bL bn bh=>?_
     cases df with
     | normal=>
       simp only[a6,c2]at h;obtain⟨rfl,rfl,rfl⟩:=h;exact bU dQ a2 bL bn bh
     | exit i=>
       simp only[ed]at h;by_cases ad:i=id
       ·simp only[ad,decide_true,cond_true,a6,c2]at h;obtain⟨rfl,rfl,rfl⟩:=h;have:=bU dQ a2 bL bn bh;simpa [NF,Exit.inBlock,ad]using this
       ·simp only[ad,decide_false,cond_false,a6,c2]at h;obtain⟨rfl,rfl,rfl⟩:=h;have:=bU dQ a2 bL bn bh;simpa [NF,Exit.inBlock,ad]using this
     | ret=>
       simp only[a6,c2]at h;obtain⟨rfl,rfl,rfl⟩:=h;exact bU dQ a2 bL bn bh
 | loop c ih=>
   intro x e e2 a γ H aJ w Q h an bz bA bU;simp only[ky,eval]at h;refine avE (λm cx cS=>∃gO ao H1,iter (eval K pm fuel (ky P G n c)) m ao H1=some (x,e2,aJ)/\eY gO n ao cx/\Step O base pm γ H w gO H1 cS) fuel ⟨γ,e,H,h,bz,Step.refl an⟩ (λcx cS ⟨gO,ao,H1,U,_⟩=>by cases U) ?_;rintro m cx cS ⟨gO,ao,H1,U,bn,bh⟩;simp only[iter]at U
   cases aq:eval K pm fuel (ky P G n c) ao H1 with
   | none=>rw[aq]at U;cases U
   | some p=>
     obtain⟨df,bd,bN⟩:=p;rw[aq]at U;refine ih aq bh.rel bn (bA.mono bh.ext) λdQ a2 bL cu e9=>?_
     cases df with
     | normal=>exact⟨dQ,bd,bN,U,cu,bh.trans e9 an⟩
     | exit i=>
       simp only[a6,c2]at U;obtain⟨rfl,rfl,rfl⟩:=U;exact bU dQ a2 bL cu (bh.trans e9 an)
     | ret=>
       simp only[a6,c2]at U;obtain⟨rfl,rfl,rfl⟩:=U;exact bU dQ a2 bL cu (bh.trans e9 an)
 | exit id=>
   intro x e e2 a γ H aJ w Q h an bz bA bU;simp only[ky,eval,a6,c2]at h;obtain⟨rfl,rfl,rfl⟩:=h;exact wp_exit (bU γ a w bz (Step.refl an))
 | ret=>
   intro x e e2 a γ H aJ w Q h an bz bA bU;simp only[ky,eval,a6,c2]at h;obtain⟨rfl,rfl,rfl⟩:=h;exact wp_ret (bU γ a w bz (Step.refl an))
 | _=>intros;rename_i h _ _ _ _;cases h
end
section
variable{O:da}{P:Program}{base:Nat}{pm:Perm}{n:Nat}{G:Nat->Bool}{K:c8}{fuel:Nat}
theorem W8:∀(l:List Value) (k:Nat) (e:Env) (t:Nat),(tG l k e).get t=if k<=t/\t<k+l.length then l[t-k]? else e.get t
 | [],k,e,t=>by simp[tG];omega
 | v::l,k,e,t=>by
   rw[tG,W8 l (k+1),cI.pb];simp only[bZt];by_cases aS:t=k
   ·subst aS;rw[aU (by omega),bm rfl,bm (by omega)];simp
   ·by_cases U:k<=t/\t<k+(l.length+1)
    ·rw[bm (by omega),bm U,show t-k=(t-(k+1))+1 by omega,bZZ]
    ·rw[aU (by omega),aU aS,aU U]
theorem avK{γ:bo}{l:List Value}{args:Array Value}(h:cm γ l args.toList)(aO:l.length<=n)(aF:n<=xn):eY γ n (tG l 0 .ak) {tmps:=args++Array.replicate (n-args.size) undef,defers:=[]}:=by
 have hlen:l.length=args.size:=by simpa using h.length
 refine⟨by simp;omega,aF,rfl,λt v q=>?_⟩;rw[W8]at q;split at q
 ·rename_i af;rw[Nat.sub_zero]at q;obtain⟨v',ao,e2⟩:=h.get q;refine⟨by omega,?_⟩;have kc:t<args.size:=by rw[<-hlen];omega
  rw[bZD]at ao;show bg γ v ((args++Array.replicate (n-args.size) undef).getD t undef);rw[bZN,bXZ kc,ao];exact e2
 ·cases q
theorem W9{γ:bo}{H:ah}{w:World}{e:Env}{a:Act}(an:Rel O base γ H w)(bz:eY γ n e a):∀(rs:List ResultVar) (l:List Value),rs.all (M0 P)=true->ou e H (rs.map (Iq P))=some l->
 ∃l',(rs.mapM λr=>(match r with | .tmp t=>pure (a.tmps.getD t undef) | .cell x t=>do loadVar t (<-asAddr (a.tmps.getD x undef)):Sem Value)).run P w=.ok l' w/\cm γ l l'
 | [],l,_,h=>by
   simp only[List.map_nil,ou,a6]at h;subst h;exact⟨[],by simp,.nil⟩
 | r::rs,l,ag,h=>by
   simp only[bYm,cG]at ag;simp only[bXm,ou]at h;split at h
   ·rename_i v aw;split at h
    ·rename_i cJ aO;simp only[a6]at h;subst h;obtain⟨l',ao,e2⟩:=W9 an bz rs cJ ag.2 aO;have oA:∃v',(match r with | .tmp t=>pure (a.tmps.getD t undef) | .cell x t=>do loadVar t (<-asAddr (a.tmps.getD x undef)):Sem Value).run P w=.ok v' w/\bg γ v v':=by
      cases r with
      | tmp t=>exact⟨_,rfl,(bz.get t v aw).2⟩
      | cell x t=>
        simp only[Iq]at aw;have so:known P t=true:=ag.1
        cases az:e.get x with
        | none=>rw[az]at aw;cases aw
        | some u=>
          rw[az]at aw;have hu:=(bz.get x u az).2;have NH:(pX (oh P t) (P.cellsOf t) (some u)).run ⟨0,[],none⟩ H=some (v,H):=by
           unfold ik at aw;split at aw
           ·rename_i dk cY;cases cY
            cases ai:H.get dk.block with
            | none=>rw[ai]at aw;cases aw
            | some BY=>
              rw[ai]at aw;simp only at aw
              cases nU:rowOf BY with
              | none=>rw[nU]at aw;cases aw
              | some cs=>
                rw[nU]at aw;simp only at aw;simp[pX,bF.run,ai,nU,aw,hU]
           ·cases aw
          obtain⟨v',f1,f2,_⟩:=Wr (P:=P) an so hu NH;refine⟨v',?_,f2⟩;cases u<;>first | (exact(bZ NH).elim) | skip
          rename_i dk
          cases dk with
          | none=>exact(bZ NH).elim
          | some dk=>
            obtain⟨L,_,_,he⟩:=hu.pj;simp only[he]at f1|-;simpa [Instr.loadAt,Instr.sureAddr,asAddr]using f1
     obtain⟨v',f1,f2⟩:=oA;refine⟨v'::l',?_,.cons f2 e2⟩;simp only[List.mapM_cons,Sem.run_bind,f1,Result.andThen_ok,ao,Sem.run_pure]
    ·cases h
   ·cases h
theorem avL{γ:bo}{l l':List Value}(h:cm γ l l'):bg γ (j5 l) (if h:l'.toArray.size=1 then l'.toArray[0] else .tuple l'.toArray):=by
 cases h with
 | nil=>exact .tuple .nil
 | cons h t=>
   cases t with
   | nil=>exact h
   | cons aa t=>exact .tuple (.cons h (.cons aa t))
theorem avM(dS:pm.num=none)(gx:HS O P G)(db:fT O P G K){f:FuncId}{fn:Func}{c:Code}(bc:P.funcs[f]? = some fn)(ai:fn.body=some c){args:List Value}{dR:Array Value}{γ:bo}{H H':ah}{w:World}{v:Value}
 (h:By K pm fuel (sh P G fn) args H=some (v,H')) (an:Rel O base γ H w) (bA:hH G γ) (aN:cm γ args dR.toList):
 Calls P f dR w λen w'=>∃bk v',en=.returned v'/\bg bk v v'/\Step O base pm γ H w bk H' w':=by
 unfold By at h;rw[dA]at h;by_cases aO:args.length<=(sh P G fn).lL
 ·simp only[aO,decide_true,Bool.not_true,cond_false]at h;simp only[sh,ai]at h aO;by_cases hw:fn.ntmps<=xn/\fn.results.all (M0 P)=true
  ·rw[bm hw]at h;refine calls_of_wp bc ai ?_;have bz:=avK aN aO hw.1
   have ka:∀{e2:Env} {aJ:ah} {l:List Value},ou e2 aJ (fn.results.toList.map (Iq P))=some l->∀dQ a2 bL,eY dQ fn.ntmps e2 a2->Step O base pm γ H w dQ aJ bL->some (j5 l,aJ)=some (v,H')->
    a2.defers=[]/\∃u,(results fn a2.tmps).run P bL=.ok u bL/\∃bk v',Ending.returned u=.returned v'/\bg bk v v'/\Step O base pm γ H w bk H' bL:=by
    intro e2 aJ l qh dQ a2 bL bn bh cu;simp only[a6,c2]at cu;obtain⟨rfl,rfl⟩:=cu;obtain⟨l',f1,f2⟩:=W9 (P:=P) bh.rel bn fn.results.toList l (by simpa using hw.2) qh;refine⟨bn.defers,_,?_,dQ,_,rfl,avL f2,bh⟩;simp only[results,Sem.run_bind];rw[Array.mapM_eq_mapM_toList];simp only[Sem.run_map,Sem.run_pure];exact congrArg (λ(r:Result (List Value))=>Result.andThen (Result.andThen r λa w'=>Result.ok a.toArray w') λa w'=>Result.ok (if h:a.size=1 then a[0] else Value.tuple a) w') f1
   split at h
   ·rename_i e2 aJ NI;split at h
    ·rename_i l qh;exact W7 dS gx db c NI an bz bA λdQ a2 bL bn bh=>ka qh dQ a2 bL bn bh h
    ·cases h
   ·rename_i e2 aJ NI;split at h
    ·rename_i l qh;exact W7 dS gx db c NI an bz bA λdQ a2 bL bn bh=>ka qh dQ a2 bL bn bh h
    ·cases h
   ·cases h
  ·rw[aU hw]at h;simp[eval]at h
 ·simp only[aO,decide_false,Bool.not_false,cond_true,reduceCtorEq]at h
def NJ(P:Program)(G:Nat->Bool)(T:Nat->Option b2):Prop:=
 ∀f F,T f=some F->∃fn c,P.funcs[f]? = some fn/\fn.body=some c/\fn.name≠ "runtime.NumGoroutine"/\F=sh P G fn
theorem BZ(gx:HS O P G){T:Nat->Option b2}(bK:NJ P G T){S:c8->c8}(fk:∀K,fT O P G K->fT O P G (S K)):∀m,fT O P G (runK T S fuel m)
 | 0=>λ_ _ _ _ _ _ _ h=>by cases h
 | m+1=>by
   refine fk _ ?_;intro pm f args H v H' dS h base γ w dR an bA aN;simp only at h;split at h
   ·rename_i F ei;obtain⟨fn,c,U,aa,aq,rfl⟩:=bK f F ei;refine .inl ⟨?_,avM dS gx (BZ gx bK fk m) U aa h an bA aN⟩;simp[callFunc,U,aa,aq]
   ·cases h
end
theorem Be{pm:Perm}{b0:Nat}(dS:pm.num=some b0):∀(x:bF) {H H':ah} {v:Value} {f m:List Nat},x.runT pm H=some (v,H',f,m)->
 H'.next=H.next/\(∀b,b∉m->H'.get b=H.get b)/\(∀b∈m,pm.may b=true∨b=b0)
 | .ret u,H,H',v,f,m,h=>by
   simp only[bF.runT,a6,c2]at h;obtain⟨rfl,rfl,rfl,rfl⟩:=h;exact⟨rfl,λ_ _=>rfl,λ_ h=>by cases h⟩
 | .fail,H,H',v,f,m,h=>by cases h
 | .get b k,H,H',v,f,m,h=>by
   simp only[bF.runT]at h;split at h
   ·rename_i x az;split at h
    ·rename_i v2 aJ f2 m2 aa;simp only[a6,c2]at h;obtain⟨rfl,rfl,rfl,rfl⟩:=h;exact Be dS (k x) aa
    ·cases h
   ·cases h
 | .put b x k,H,H',v,f,m,h=>by
   simp only[bF.runT]at h
   cases hm:pm.may b with
   | false=>rw[hm]at h;cases h
   | true=>
     rw[hm]at h;simp only[cond_true]at h;split at h
     ·rename_i v2 aJ f2 m2 aa;simp only[a6,c2]at h;obtain⟨rfl,rfl,rfl,rfl⟩:=h;obtain⟨cx,a2,a3⟩:=Be dS k aa;refine⟨cx,λc af=>?_,λc af=>?_⟩
      ·simp only[lD,not_or]at af;rw[a2 c af.2,ah.fS,aU af.1]
      ·rcases lD.1 af with rfl | af
       ·exact .inl hm
       ·exact a3 c af
     ·cases h
 | .new x k,H,H',v,f,m,h=>by
   simp only[bF.runT]at h;split at h
   ·rename_i v2 aJ f2 m2 aa;simp only[a6,c2]at h;obtain⟨rfl,rfl,rfl,rfl⟩:=h;obtain⟨cx,a2,a3⟩:=Be dS (k (pm.pick H)) aa;have aC:pm.pick H=b0:=by simp[Perm.pick,dS]
    refine⟨by rw[cx];simp[Perm.make,dS,ah.put],λc af=>?_,λc af=>?_⟩
    ·simp only[lD,not_or]at af;rw[a2 c af.2,Perm.sb,aU af.1]
    ·rcases lD.1 af with rfl | af
     ·exact .inr aC
     ·exact a3 c af
   ·cases h
theorem HE{pm:Perm}{b0:Nat}(dS:pm.num=some b0){m2:Option Nat}:∀(x:bF) {H H' J:ah} {v:Value} {f m:List Nat},x.runT pm H=some (v,H',f,m)->(H.get b0=none∨J.get b0=H.get b0)->(∀b∈f,b≠b0->J.get b=H.get b)->(b0∈m->m2=some b0)->
 ∃J',x.run ⟨pm.lo,pm.ok,m2⟩ J=some (v,J')/\J'.next=J.next/\∀b,J'.get b=if b∈m then H'.get b else J.get b
 | .ret u,H,H',J,v,f,m,h,_,_,_=>by
   simp only[bF.runT,a6,c2]at h;obtain⟨rfl,rfl,rfl,rfl⟩:=h;exact⟨J,rfl,rfl,λb=>by simp⟩
 | .fail,H,H',J,v,f,m,h,_,_,_=>by cases h
 | .get b k,H,H',J,v,f,m,h,D6,bc,oj=>by
   simp only[bF.runT]at h;split at h
   ·rename_i x az;split at h
    ·rename_i v2 aJ f2 HF aa;simp only[a6,c2]at h;obtain⟨rfl,rfl,rfl,rfl⟩:=h;obtain⟨J',ao,e2,bd⟩:=HE dS (k x) aa D6 (λc af=>bc c (.tail _ af)) oj;refine⟨J',?_,e2,bd⟩;have ai:J.get b=H.get b:=by
      by_cases vu:b=b0
      ·subst vu
       rcases D6 with q | q
       ·rw[q]at az;cases az
       ·exact q
      ·exact bc b (.head _) vu
     simp only[bF.run,ai,az,ao]
    ·cases h
   ·cases h
 | .put b x k,H,H',J,v,f,m,h,D6,bc,oj=>by
   simp only[bF.runT]at h
   cases hm:pm.may b with
   | false=>rw[hm]at h;cases h
   | true=>
     rw[hm]at h;simp only[cond_true]at h;split at h
     ·rename_i v2 aJ f2 HF aa;simp only[a6,c2]at h;obtain⟨rfl,rfl,rfl,rfl⟩:=h;have mc:∀c∈f2,c≠b0->(J.put b x).get c=(H.put b x).get c:=λc af lI=>by
       rw[ah.fS,ah.fS,bc c af lI]
      have as9:(H.put b x).get b0=none∨(J.put b x).get b0=(H.put b x).get b0:=by
       rw[ah.fS,ah.fS];by_cases vu:b0=b
       ·rw[bm vu,bm vu];exact .inr rfl
       ·rw[aU vu,aU vu];exact D6
      obtain⟨J',ao,e2,bd⟩:=HE dS k aa (J:=J.put b x) as9 mc (λq=>oj (.tail _ q));obtain⟨_,a2,_⟩:=Be dS k aa;refine⟨J',?_,e2,λc=>?_⟩
      ·have pZ:Perm.may ⟨pm.lo,pm.ok,m2⟩ b=true:=hm;simp only[bF.run,pZ,cond_true,ao]
      ·rw[bd c];by_cases af:c∈HF
       ·rw[bm af,bm (.tail _ af)]
       ·rw[aU af];by_cases lI:c=b
        ·subst lI;rw[bm (.head _),a2 c af,ah.fS,ah.fS,bm rfl,bm rfl]
        ·rw[aU (by simp[lI,af]),ah.fS,aU lI]
     ·cases h
 | .new x k,H,H',J,v,f,m,h,D6,bc,oj=>by
   simp only[bF.runT]at h;split at h
   ·rename_i v2 aJ f2 HF aa;simp only[a6,c2]at h;obtain⟨rfl,rfl,rfl,rfl⟩:=h;have aC:∀X:ah,pm.pick X=b0:=λX=>by simp[Perm.pick,dS]
    have xw:∀X:ah,pm.make X x=X.put b0 x:=λX=>by simp[Perm.make,dS]
    rw[aC,xw]at aa;have ata:m2=some b0:=oj (by rw[aC];exact .head _);subst ata;have mc:∀c∈f2,c≠b0->(J.put b0 x).get c=(H.put b0 x).get c:=λc af lI=>by
     rw[ah.fS,ah.fS,bc c af lI]
    obtain⟨J',ao,e2,bd⟩:=HE dS (k b0) aa (J:=J.put b0 x) (.inr (by rw[ah.fS,ah.fS,bm rfl,bm rfl])) mc (λ_=>rfl);obtain⟨_,a2,_⟩:=Be dS (k b0) aa;refine⟨J',?_,e2,λc=>?_⟩
    ·simp only[bF.run,Perm.pick,Perm.make,ao]
    ·rw[bd c,aC];by_cases af:c∈HF
     ·rw[bm af,bm (.tail _ af)]
     ·rw[aU af];by_cases lI:c=b0
      ·subst lI;rw[bm (.head _),a2 c af,ah.fS,ah.fS,bm rfl,bm rfl]
      ·rw[aU (by simp[lI,af]),ah.fS,aU lI]
   ·cases h
theorem UP{pm:Perm}{x:bF}{H H':ah}{v:Value}{f m:List Nat}(h:x.runT pm H=some (v,H',f,m)):x.run pm H=some (v,H'):=by
 induction x generalizing H f m with
 | ret u=>simp only[bF.runT,a6,c2]at h;obtain⟨rfl,rfl,_,_⟩:=h;rfl
 | fail=>cases h
 | get b k ih=>
   simp only[bF.runT]at h;split at h
   ·rename_i x az;split at h
    ·rename_i aa;simp only[a6,c2]at h;obtain⟨rfl,rfl,_,_⟩:=h;simp only[bF.run,az];exact ih _ aa
    ·cases h
   ·cases h
 | put b x k ih=>
   simp only[bF.runT]at h
   cases hm:pm.may b with
   | false=>rw[hm]at h;cases h
   | true=>
     rw[hm]at h;simp only[cond_true]at h;split at h
     ·rename_i aa;simp only[a6,c2]at h;obtain⟨rfl,rfl,_,_⟩:=h;simp only[bF.run,hm,cond_true];exact ih aa
     ·cases h
 | new x k ih=>
   simp only[bF.runT]at h;split at h
   ·rename_i aa;simp only[a6,c2]at h;obtain⟨rfl,rfl,_,_⟩:=h;simp only[bF.run];exact ih _ aa
   ·cases h
theorem atb{pm:Perm}{x:bF}{H H':ah}{v:Value}{f m:List Nat}(h:x.runT pm H=some (v,H',f,m)):(∀b,(H.get b).isSome->(H'.get b).isSome)/\(∀b∈m,(H'.get b).isSome)/\∀b∈f,(H'.get b).isSome:=by
 induction x generalizing H f m with
 | ret u=>simp only[bF.runT,a6,c2]at h;obtain⟨rfl,rfl,rfl,rfl⟩:=h;exact⟨λ_ h=>h,(λ_ h=>nomatch h),(λ_ h=>nomatch h)⟩
 | fail=>cases h
 | get b k ih=>
   simp only[bF.runT]at h;split at h
   ·rename_i x az;split at h
    ·rename_i aa;simp only[a6,c2]at h;obtain⟨rfl,rfl,rfl,rfl⟩:=h;obtain⟨cx,a2,a3⟩:=ih _ aa;exact⟨cx,a2,λc af=>by
      rcases lD.1 af with rfl | af
      ·exact cx _ (by rw[az];rfl)
      ·exact a3 c af⟩
    ·cases h
   ·cases h
 | put b x k ih=>
   simp only[bF.runT]at h
   cases hm:pm.may b with
   | false=>rw[hm]at h;cases h
   | true=>
     rw[hm]at h;simp only[cond_true]at h;split at h
     ·rename_i aa;simp only[a6,c2]at h;obtain⟨rfl,rfl,rfl,rfl⟩:=h;obtain⟨cx,a2,a3⟩:=ih aa;have ai:∀c,(H.get c).isSome∨c=b->((H.put b x).get c).isSome:=λc af=>by
       rw[ah.fS];by_cases q:c=b
       ·rw[bm q];rfl
       ·rw[aU q];exact af.resolve_right q
      exact⟨λc af=>cx c (ai c (.inl af)),λc af=>by
       rcases lD.1 af with rfl | af
       ·exact cx _ (ai _ (.inr rfl))
       ·exact a2 c af,a3⟩
     ·cases h
 | new x k ih=>
   simp only[bF.runT]at h;split at h
   ·rename_i aa;simp only[a6,c2]at h;obtain⟨rfl,rfl,rfl,rfl⟩:=h;obtain⟨cx,a2,a3⟩:=ih _ aa;have ai:∀c,(H.get c).isSome∨c=pm.pick H->((pm.make H x).get c).isSome:=λc af=>by
     rw[Perm.sb];by_cases q:c=pm.pick H
     ·rw[bm q];rfl
     ·rw[aU q];exact af.resolve_right q
    exact⟨λc af=>cx c (ai c (.inl af)),λc af=>by
     rcases lD.1 af with rfl | af
     ·exact cx _ (ai _ (.inr rfl))
     ·exact a2 c af,a3⟩
   ·cases h
theorem Rel.congr{O:da}{base:Nat}{γ:bo}{H J:ah}{w:World}(h:Rel O base γ H w)(aK:∀b L,γ b=some L->J.get b=H.get b)(aF:H.next<=J.next)(om:∀b,J.next<=b->J.get b=none):Rel O base γ J w:=by
 have q8:∀c,iJ γ H w c->iJ γ J w c/\w.heap[c]? = w.heap[c]?:=λc af=>⟨⟨af.1,λb L e r=>af.2 b L e (by rwa [aK b L e]at r)⟩,rfl⟩;refine⟨λb L e=>?_,λb L e=>hR (h.lt b L e) aF,om,λb b' L L' ao e2 b4 cB q=>?_,λb L e r=>?_,h.size⟩
 ·obtain⟨x,U,aa⟩:=h.bI b L e;exact⟨x,by rw[aK b L e,U],aa.mono (.refl γ) q8 λ_=>rfl⟩
 ·exact h.inj b b' L L' ao e2 (by rwa [aK b L ao]at b4) (by rwa [aK b' L' e2]at cB) q
 ·exact h.low b L e (by rwa [aK b L e]at r)
theorem p0{e bw:Env}{r:cD}(h:∀t∈r.hp,bw.get t=e.get t):bB bw r=bB e r:=by
 cases r with
 | t n=>exact h n (.head _)
 | c v=>rfl
theorem HG{e bw:Env}:∀{l:List cD},(∀t∈l.flatMap cD.hp,bw.get t=e.get t)->fD bw l=fD e l
 | [],_=>rfl
 | r::l,h=>by
   simp only[List.flatMap_cons,bYv]at h;simp only[fD,p0 (λt aS=>h t (.inl aS)),HG (λt aS=>h t (.inr aS))]
theorem UQ{e bw:Env}:∀{l:List (Nat×Nat×cD)},(∀t∈l.flatMap (λp=>p.2.2.hp),bw.get t=e.get t)->nH bw l=nH e l
 | [],_=>rfl
 | (i,n,r)::l,h=>by
   simp only[List.flatMap_cons,bYv]at h;simp only[nH,p0 (λt aS=>h t (.inl aS)),UQ (λt aS=>h t (.inr aS))]
theorem y5{e bw:Env}{d:Nat}{o:Option cD}(h:∀t∈Bf o,bw.get t=e.get t):fj bw d o=fj e d o:=by
 cases o with
 | none=>rfl
 | some r=>simp only[fj];rw[p0 h]
theorem UR{e bw:Env}{o:bM}(h:∀t∈o.hp,bw.get t=e.get t):o.cA bw=o.cA e:=by
 cases o<;>simp only[bM.hp,bYv]at h<;>simp only[bM.cA]<;>first
  | rfl
  | rw[p0 h]
  | rw[HG h]
  | rw[UQ h]
  | rw[p0 λt aS=>h t (.inl aS),p0 λt aS=>h t (.inr aS)]
  | rw[p0 λt aS=>h t (.inl aS),p0 λt aS=>h t (.inr (.inl aS)),p0 λt aS=>h t (.inr (.inr aS))]
  | rw[p0 λt aS=>h t (.inl aS),y5 λt aS=>h t (.inr (.inl aS)),y5 λt aS=>h t (.inr (.inr aS))]
  | skip
 case nF x lo ad=>
  have aq:∀n,fj bw n ad=fj e n ad:=λn=>y5 λt aS=>h t (.inr (.inr aS));rw[p0 λt aS=>h t (.inl aS),y5 λt aS=>h t (.inr (.inl aS))];simp only[aq]
 case nG x lo ad hf=>
  have aa:∀n,fj bw n lo=fj e n lo:=λn=>y5 λt aS=>h t (.inr (.inl aS));have aq:∀n,fj bw n ad=fj e n ad:=λn=>y5 λt aS=>h t (.inr (.inr (.inl aS)));have a8:∀n,fj bw n hf=fj e n hf:=λn=>y5 λt aS=>h t (.inr (.inr (.inr aS)));rw[p0 λt aS=>h t (.inl aS)];simp only[aa,aq,a8]
theorem atc{e bw:Env}{o:aE}(h:∀t∈o.looks,bw.get t=e.get t):o.wanted bw=o.wanted e:=by
 unfold aE.wanted
 cases aK:o.guard with
 | none=>rfl
 | some p=>
   obtain⟨j,want⟩:=p;have:=h j (by simp[aE.looks,aK]);simp only[this]
theorem US{o:aE}{e bw:Env}(h:∀t∈o.looks,bw.get t=e.get t):∀t∈o.op.hp,bw.get t=e.get t:=λt aS=>h t (by simp[aE.looks,aS])
theorem atd{e bw:Env}{o:bM}(h:∀t∈o.hp,bw.get t=e.get t){K:c8}{pm:Perm}{H:ah}:o.run K pm bw H=o.run K pm e H:=by
 cases o<;>first
  | (simp only[bM.hp]at h;simp only[bM.run,HG h];done)
  | (simp only[bM.hp,bYv]at h;simp only[bM.run,p0 λt aS=>h t (.inl aS),HG λt aS=>h t (.inr aS)];done)
  | exact congrArg (λx=>bF.run pm x H) (UR h)
def bitsOf(acc:Array Nat)(o:Oper):Nat:=o.after.foldl (λs e=>if Region.binds .any e then s ||| 2^e.on ||| acc.getD e.on 0 else s) 0
theorem ate(ops:Array Oper):Region.before ops=ops.toList.foldl (λacc o=>acc.push (bitsOf acc o)) #[]:=by
 unfold Region.before;rw[<-Array.foldl_toList];rfl
theorem UT:∀(l:List Oper) (acc:Array Nat),(∀k,k<acc.size->(l.foldl (λacc o=>acc.push (bitsOf acc o)) acc)[k]? = acc[k]?)/\
 ∀j o,l[j]? = some o->∃y6:Array Nat,y6.size=acc.size+j/\(∀k,k<y6.size->(l.foldl (λacc o=>acc.push (bitsOf acc o)) acc)[k]? = y6[k]?)/\(l.foldl (λacc o=>acc.push (bitsOf acc o)) acc)[acc.size+j]? = some (bitsOf y6 o)
 | [],acc=>⟨λ_ _=>rfl,λj o h=>by simp at h⟩
 | x::l,acc=>by
   obtain⟨U,aa⟩:=UT l (acc.push (bitsOf acc x));simp only[bYW,Array.size_push]at U aa|-;refine⟨λk ag=>by rw[U k (by omega),bYT,aU (by omega)],λj o au=>?_⟩
   cases j with
   | zero=>
     simp only[bZn,a6]at au;subst au;refine⟨acc,rfl,λk ag=>by rw[U k (by omega),bYT,aU (by omega)],?_⟩;rw[Nat.add_zero,U acc.size (by omega),bYT,bm rfl]
   | succ j=>
     obtain⟨y6,cx,a2,a3⟩:=aa j o (by simpa using au);exact⟨y6,by omega,a2,by rw[show acc.size+(j+1)=acc.size+1+j by omega];exact a3⟩
theorem UU{acc:Array Nat}{i:Nat}:∀(l:List Edge) (s:Nat),(l.foldl (λs e=>if Region.binds .any e then s ||| 2^e.on ||| acc.getD e.on 0 else s) s).testBit i=true->
 s.testBit i=true∨∃e∈l,Region.binds .any e=true/\(e.on=i∨(acc.getD e.on 0).testBit i=true)
 | [],s,h=>.inl h
 | e::l,s,h=>by
   simp only[bYW]at h
   rcases UU l _ h with h | ⟨e2,m,r⟩
   ·by_cases ai:Region.binds .any e=true
    ·rw[bm ai]at h;simp only[Nat.testBit_or,nE,Nat.testBit_two_pow,eh]at h
     rcases h with(h | h) | h
     ·exact .inl h
     ·exact .inr ⟨e,.head _,ai,.inl h⟩
     ·exact .inr ⟨e,.head _,ai,.inr h⟩
    ·rw[aU ai]at h;exact .inl h
   ·exact .inr ⟨e2,.tail _ m,r⟩
theorem atf{ops:Array Oper}{i j:Nat}{o:Oper}(aB:vv ops=true)(au:ops[j]? = some o)(h:((Region.before ops).getD j 0).testBit i=true):
 ∃e∈o.after,Region.binds .any e=true/\(e.on=i∨((Region.before ops).getD e.on 0).testBit i=true):=by
 obtain⟨y6,cx,a2,a3⟩:=(UT ops.toList #[]).2 j o (by simpa using au);rw[<-ate]at a2 a3;simp only[List.size_toArray,List.length_nil,Nat.zero_add]at cx a3;rw[bZN,a3]at h;simp only[bZy,bitsOf]at h;rw[<-Array.foldl_toList]at h
 rcases UU _ _ h with h | ⟨e,m,ai,r⟩
 ·simp at h
 ·refine⟨e,by simpa using m,ai,r.imp id λr=>?_⟩;have bO:e.on<j:=by
   simp only[vv,hz]at aB;have:=aB (o,j) (by rw[bWG];simpa using au);simp only[bWF,nE,mN,eh]at this;exact(this e (by simpa using m)).resolve_left (by simp[ai])
  rw[bZN]at r|-;rw[a2 e.on (by omega)];exact r
theorem L5{ops:Array Oper}{T:Nat->Prop}(aB:vv ops=true)(bK:∀j o,T j->ops[j]? = some o->∀e∈o.after,Region.binds .any e=true->T e.on):
 ∀(n j i:Nat) (o:Oper),j<n->ops[j]? = some o->(∀e∈o.after,Region.binds .any e=true->T e.on)->((Region.before ops).getD j 0).testBit i=true->T i
 | 0,_,_,_,h,_,_,_=>by omega
 | n+1,j,i,o,aH,au,he,h=>by
   obtain⟨e,m,ai,r⟩:=atf aB au h
   rcases r with rfl | r
   ·exact he e m ai
   ·have bO:e.on<j:=by
     simp only[vv,hz]at aB;have:=aB (o,j) (by rw[bWG];simpa using au);simp only[bWF,nE,mN,eh]at this;exact(this e (by simpa using m)).resolve_left (by simp[ai])
    have gb:=(ic.1 au).1;have UW:ops[e.on]? = some ops[e.on]:=pU (by omega);exact L5 aB bK n e.on i _ (by omega) UW (bK e.on _ (he e m ai) UW) r
section
variable{O:da}{P:Program}{base:Nat}{pm:Perm}{n:Nat}{G:Nat->Bool}{K:c8}
theorem Step.congr{γ γ0:bo}{H H0 J:ah}{w w0:World}(h:Step O base pm γ0 H0 w0 γ H w)(aK:∀b L,γ b=some L->J.get b=H.get b)(aF:H.next<=J.next)(om:∀b,J.next<=b->J.get b=none)
 (ag:∀b,b<H0.next->pm.may b=false->J.get b=H0.get b):Step O base pm γ0 H0 w0 γ J w where
 rel:=h.rel.congr aK aF om
 ext:=h.ext
 fresh:=h.fresh
 grow:=h.grow
 bT:=h.bT
 next:=bH h.next aF
 k4:=ag
 mR:=λb L e r=>h.mR b L e (by rwa [aK b L (h.ext b L e)]at r)
 known:=h.known
 os:=h.os
 tape:=h.tape
 output:=h.output
theorem Step.UX{γ:bo}{H:ah}{w:World}(h:Rel O base γ H w)(k d:Nat):Step O base pm γ H w γ ⟨H.t,H.next+k⟩ {w with drawn:=d}:=
 (Step.drawn h d).congr (λ_ _ _=>rfl) (hS _ _) (λb ai=>h.new b (bH (hS _ _) ai)) (λ_ _ _=>rfl)
end
structure Ref(K:c8)(lo:Perm)(ops:List aE)(b:Nat)(fx:List Bool)(e:Env)(H:ah)(e2:Env)(aJ:ah)(eS:List Rec)(E:Nat->Env)(cE:Nat->ah)(V:Nat->Value)(F M:Nat->List Nat):Prop where
 cY:E 0=e
 aD:cE 0=H
 UY:E ops.length=e2
 gd:cE ops.length=aJ
 len:eS.length=ops.length
 step:∀p o,ops[p]? = some o->(cE p).get (b+p)=none/\o.runT K ⟨lo.lo,lo.ok,some (b+p)⟩ (fx.getD p false) (E p) (cE p)=some (V p,cE (p+1),F p,M p)/\E (p+1)=putDst (E p) o.dst (V p)/\eS[p]? = some ⟨F p,M p,cE p,V p,o.again (E p)⟩
theorem UZ{K:c8}{lo:Perm}:∀{ops:List aE} {b:Nat} {fx:List Bool} {e e2:Env} {H aJ:ah} {eS:List Rec},me K lo ops b fx e H=some (e2,aJ,eS)->∃E cE V F M,Ref K lo ops b fx e H e2 aJ eS E cE V F M
 | [],b,fx,e,e2,H,aJ,eS,h=>by
   simp only[me,a6,c2]at h;obtain⟨rfl,rfl,rfl⟩:=h;exact⟨λ_=>e,λ_=>H,λ_=>zWb,λ_=>[],λ_=>[],rfl,rfl,rfl,rfl,rfl,λp o h=>by simp at h⟩
 | o::ops,b,fx,e,e2,H,aJ,eS,h=>by
   simp only[me]at h;split at h
   ·rename_i v H1 f m aD U;split at h
    ·rename_i bd bN l aq;simp only[a6,c2]at h;obtain⟨rfl,rfl,rfl⟩:=h;obtain⟨E,cE,V,F,M,r⟩:=UZ aq;refine⟨λ| 0=>e | p+1=>E p,λ| 0=>H | p+1=>cE p,λ| 0=>v | p+1=>V p,λ| 0=>f | p+1=>F p,λ| 0=>m | p+1=>M p,rfl,rfl,r.UY,r.gd,by simp[r.len],λp HH au=>?_⟩
     cases p with
     | zero=>
       simp only[bZn,a6]at au;subst au;refine⟨aD,?_,r.cY,rfl⟩;have:fx.getD 0 false=fx.headD false:=by cases fx<;>rfl
       simp only[Nat.add_zero,this,r.aD];exact U
     | succ p=>
       obtain⟨a0,cx,a2,a3⟩:=r.step p HH (by simpa using au);refine⟨by rw[show b+(p+1)=b+1+p by omega];exact a0,?_,a2,by simpa using a3⟩;have:fx.getD (p+1) false=fx.tail.getD p false:=by cases fx<;>simp
       simp only[this,show b+(p+1)=b+1+p by omega];exact cx
    ·cases h
   ·cases h
theorem L6{bf:Nat->Nat->Bool}{oo j:Nat}{y:aE}:∀(xs:List (Nat×aE)) (i:Nat) (L:List (Nat×Nat)),D7 bf oo j y xs i=some L->
 ∀p x,xs[p]? = some x->i+p<j->bf x.1 oo=false->∃l,Bg (i+p) j x.2 y=some l/\∀z∈l,z∈L
 | [],i,L,_,p,x,az,_,_=>by simp at az
 | sc::xs,i,L,h,p,x,az,aC,ai=>by
   simp only[D7,js]at h;have ad:i<j:=by omega
   simp only[ad,decide_true,cond_true]at h
   cases fE:bf sc.1 oo with
   | true=>
     rw[fE]at h;simp only[cond_true]at h
     cases p with
     | zero=>
       simp only[bZn,a6]at az;subst az;rw[fE]at ai;cases ai
     | succ p=>
       have:=L6 xs (i+1) L h p x (by simpa using az) (by omega) ai;rwa [show i+1+p=i+(p+1) by omega]at this
   | false=>
     rw[fE]at h;simp only[cond_false]at h;split at h
     ·rename_i l aO;split at h
      ·rename_i r an;simp only[a6]at h;subst h
       cases p with
       | zero=>
         simp only[bZn,a6]at az;subst az;exact⟨l,aO,λz bl=>List.mem_append_left _ bl⟩
       | succ p=>
         obtain⟨cJ,ao,e2⟩:=L6 xs (i+1) r an p x (by simpa using az) (by omega) ai;rw[show i+1+p=i+(p+1) by omega]at ao;exact⟨cJ,ao,λz bl=>List.mem_append_right _ (e2 z bl)⟩
      ·cases h
     ·cases h
theorem U0{bf:Nat->Nat->Bool}{all:List (Nat×aE)}:∀(dz:List (Nat×aE)) (j:Nat) (L:List (Nat×Nat)),D8 bf all dz j=some L->
 ∀q y,dz[q]? = some y->∀p x,all[p]? = some x->p<j+q->bf x.1 y.1=false->∃l,Bg p (j+q) x.2 y.2=some l/\∀z∈l,z∈L
 | [],j,L,_,q,y,bu,_,_,_,_,_=>by simp at bu
 | tv::dz,j,L,h,q,y,bu,p,x,az,aC,ai=>by
   simp only[D8]at h;split at h
   ·rename_i l aO;split at h
    ·rename_i r an;simp only[a6]at h;subst h
     cases q with
     | zero=>
       simp only[bZn,a6]at bu;subst bu;obtain⟨cJ,ao,e2⟩:=L6 all 0 l aO p x az (by omega) ai;rw[Nat.zero_add]at ao;exact⟨cJ,ao,λz bl=>List.mem_append_left _ (e2 z bl)⟩
     | succ q=>
       obtain⟨cJ,ao,e2⟩:=U0 dz (j+1) r an q y (by simpa using bu) p x az (by omega) ai;rw[show j+1+q=j+(q+1) by omega]at ao;exact⟨cJ,ao,λz bl=>List.mem_append_right _ (e2 z bl)⟩
    ·cases h
   ·cases h
def bF.quiet:bF->Prop
 | .ret _ | .fail=>True
 | .get _ k=>∀x,(k x).quiet
 | .put ..=>False
 | .new _ k=>∀b,(k b).quiet
def bF.blind:bF->Prop
 | .ret _ | .fail=>True
 | .get ..=>False
 | .put _ _ k=>k.blind
 | .new _ k=>∀b,(k b).blind
theorem L7{pm:Perm}{b0:Nat}(dS:pm.num=some b0):∀(x:bF) {H H':ah} {v:Value} {f m:List Nat},x.quiet->x.runT pm H=some (v,H',f,m)->∀b∈m,b=b0
 | .ret u,H,H',v,f,m,_,h=>by
   simp only[bF.runT,a6,c2]at h;obtain⟨rfl,rfl,rfl,rfl⟩:=h;exact λ_ h=>by cases h
 | .fail,H,H',v,f,m,_,h=>by cases h
 | .get b k,H,H',v,f,m,aV,h=>by
   simp only[bF.runT]at h;split at h
   ·rename_i x az;split at h
    ·rename_i v2 aJ f2 m2 aa;simp only[a6,c2]at h;obtain⟨rfl,rfl,rfl,rfl⟩:=h;exact L7 dS (k x) (aV x) aa
    ·cases h
   ·cases h
 | .put b x k,H,H',v,f,m,aV,h=>aV.elim
 | .new x k,H,H',v,f,m,aV,h=>by
   simp only[bF.runT]at h;split at h
   ·rename_i v2 aJ f2 m2 aa;simp only[a6,c2]at h;obtain⟨rfl,rfl,rfl,rfl⟩:=h;intro c af
    rcases lD.1 af with rfl | af
    ·simp[Perm.pick,dS]
    ·exact L7 dS (k (pm.pick H)) (aV _) aa c af
   ·cases h
theorem L8{pm:Perm}:∀(x:bF) {H H':ah} {v:Value} {f m:List Nat},x.blind->x.runT pm H=some (v,H',f,m)->f=[]
 | .ret u,H,H',v,f,m,_,h=>by
   simp only[bF.runT,a6,c2]at h;obtain⟨rfl,rfl,rfl,rfl⟩:=h;rfl
 | .fail,H,H',v,f,m,_,h=>by cases h
 | .get b k,H,H',v,f,m,aV,h=>aV.elim
 | .put b x k,H,H',v,f,m,aV,h=>by
   simp only[bF.runT]at h
   cases hm:pm.may b with
   | false=>rw[hm]at h;cases h
   | true=>
     rw[hm]at h;simp only[cond_true]at h;split at h
     ·rename_i v2 aJ f2 m2 aa;simp only[a6,c2]at h;obtain⟨rfl,rfl,rfl,rfl⟩:=h;exact L8 k aV aa
     ·cases h
 | .new x k,H,H',v,f,m,aV,h=>by
   simp only[bF.runT]at h;split at h
   ·rename_i v2 aJ f2 m2 aa;simp only[a6,c2]at h;obtain⟨rfl,rfl,rfl,rfl⟩:=h;exact L8 (k (pm.pick H)) (aV _) aa
   ·cases h
theorem atg{c:Bool}{x y:bF}(az:x.quiet)(bu:y.quiet):(bif c then x else y).quiet:=by cases c<;>assumption
theorem ath{c:Bool}{x y:bF}(az:x.blind)(bu:y.blind):(bif c then x else y).blind:=by cases c<;>assumption
theorem ati{o:bM}{e:Env}(h:o.md=false):(o.cA e).quiet:=by
 cases o<;>first | (simp[bM.md]at h;done) | skip
 all_goals simp only[bM.cA,eN,hU,pX,q7,hV,sa,nK,vt,y4,xu,pY,tu,vo,vp,vq,xv]
 all_goals repeat' (first | trivial | (intro _;dsimp only) | (intro _) | (refine atg ?_ ?_) | split)
theorem atj{o:bM}{e:Env}(h:o.md=false)(aa:o.rd=false):(o.cA e).blind:=by
 cases o<;>first | (simp[bM.md]at h;done) | (simp[bM.rd]at aa;done) | skip
 all_goals simp only[bM.cA,eN,hU,sa,vt,pY,tu,vo,vp,vq,xv]
 all_goals repeat' (first | trivial | (intro _;dsimp only) | (intro _) | (refine ath ?_ ?_) | split)
structure U1(x y:aE):Prop where
 dst:∀d,x.dst=some d->d∉y.looks/\y.dst≠some d
 atk:∀d,y.dst=some d->d∉x.looks
 dL:x.op.dL=false
 U2:y.op.dL=true->x.op.md=false
theorem L9{i j:Nat}{x y:aE}{l:List (Nat×Nat)}(h:Bg i j x y=some l):U1 x y/\(((x.op.md||x.op.dL||x.op.lJ)&&(y.op.rd||y.op.md||y.op.dL))=true->(i,j)∈l)/\(((y.op.md||y.op.dL||y.op.lJ)&&(x.op.rd||x.op.md||x.op.dL))=true->(j,i)∈l):=by
 unfold Bg at h
 cases af:(HI x y&&!x.op.dL&&!(y.op.dL&&x.op.md)) with
 | false=>rw[af]at h;cases h
 | true=>
   rw[af]at h;simp only[cond_true,a6]at h;subst h;simp only[cG,mN,Bool.and_eq_false_iff]at af;obtain⟨⟨U,aa⟩,aq⟩:=af;refine⟨⟨λd aB=>?_,λd aB=>?_,aa,λq=>?_⟩,λq=>?_,λq=>?_⟩
   ·simp only[HI,aB,cG,mN,bne_iff_ne]at U;exact⟨by simpa using U.1.1,U.1.2⟩
   ·simp only[HI,aB,cG,mN]at U;simpa using U.2
   ·rcases aq with aq | aq
    ·rw[q]at aq;cases aq
    ·exact aq
   ·rw[q];simp
   ·rw[q];simp
section
variable{O:da}{P:Program}{base:Nat}{pm:Perm}{n:Nat}{G:Nat->Bool}{K:c8}
theorem Bh.known{γ:bo}{H H':ah}{w:World}{o:Oper}{a:Act}{r:Value}(h:Bh O P base pm γ H w o a r H'){C:Prop}(aF:∀bk v' w',bg bk r v'->Step O base pm γ H w bk H' w'->C):C:=by
 have:=h (λ_ _=>C) (λ_ _ _=>False) aF;unfold Oper.wp at this;generalize (execOp a.eval o).run P w=u at this
 cases u with
 | halt x w'=>cases x<;>simp only[Oper.upon]at this
 | ok x w'=>
   cases x<;>simp only[Oper.upon]at this
   case value=>exact this
   case skip=>exact this
   case defer=>exact this
   case enter=>
    obtain⟨e,w',_,r,_⟩:=this [];cases e<;>simp only at r
    ·exact r
    ·obtain⟨_,_,r⟩:=r;exact r.elim
   case row row args=>
    obtain⟨v,w',r,_⟩:=this (Frame.ofRow P row args .normal) [];exact r
end
def bF.still:bF->Prop
 | .ret _ | .fail=>True
 | .get _ k=>∀x,(k x).still
 | .put ..=>False
 | .new ..=>False
theorem U3{pm:Perm}{x:bF}{H H':ah}{v:Value}{f m:List Nat}(aG:x.still)(h:x.runT pm H=some (v,H',f,m)):m=[]/\H'=H:=by
 induction x generalizing H f m with
 | ret u=>simp only[bF.runT,a6,c2]at h;obtain⟨_,rfl,_,rfl⟩:=h;exact⟨rfl,rfl⟩
 | fail=>cases h
 | get b k ih=>
   simp only[bF.runT]at h;split at h
   ·rename_i y bu;split at h
    ·rename_i aa;simp only[a6,c2]at h;obtain⟨rfl,rfl,_,rfl⟩:=h;exact ih y (aG y) aa
    ·cases h
   ·cases h
 | put b x k ih=>exact aG.elim
 | new x k ih=>exact aG.elim
theorem U4{c:Bool}{x y:bF}(az:x.still)(bu:y.still):(bif c then x else y).still:=by cases c<;>assumption
theorem U5{o:bM}{e:Env}(h:o.md=false)(aa:o.lJ=false):(o.cA e).still:=by
 cases o<;>first | (simp[bM.md]at h;done) | (simp[bM.lJ]at aa;done) | skip
 case conv c x=>
  cases c
  case D0=>simp[bM.lJ]at aa
  all_goals
   simp only[bM.cA,eN,q7,hV]
   repeat' (first | trivial | (intro _;dsimp only) | (intro _) | (refine U4 ?_ ?_) | split)
 all_goals simp only[bM.cA,eN,hU,pX,sa,nK,vt,y4,xu,pY,vo,vp,vq,xv]
 all_goals repeat' (first | trivial | (intro _;dsimp only) | (intro _) | (refine U4 ?_ ?_) | split)
theorem U6{l r:List Nat}(h:gp l r=true):∀b∈l,b∉r:=by
 intro b ai;simp only[gp,hz]at h;have:=h b ai;simpa using this
theorem U7{a b:Value}(h:D9 a b=true):a=b:=by
 unfold D9 at h;split at h
 all_goals first | (simp only[cG,Nat.beq_eq,bYd,eh]at h) | skip
 all_goals first | rfl | (cases h;done) | skip
 case h_1=>subst h;rfl
 case h_2=>obtain⟨rfl,h⟩:=h;rw[sd,bYd]at h;subst h;rfl
 case h_3 a b=>cases a;cases b;simp only at h;subst h;rfl
 case h_5=>obtain⟨rfl,rfl⟩:=h;rfl
 case h_6=>obtain⟨rfl,rfl⟩:=h;rfl
 case h_7=>obtain⟨⟨rfl,rfl⟩,rfl,rfl⟩:=h;rfl
 case h_9=>subst h;rfl
theorem HJ:∀{l r:List Value},Bi l r=true->l=r
 | [],[],_=>rfl
 | a::x,b::y,h=>by
   simp only[Bi,cG]at h;rw[U7 h.1,HJ h.2]
 | [],_::_,h=>by cases h
 | _::_,[],h=>by cases h
theorem Ma{a b:Value}(h:p1 a b=true):a=b:=by
 unfold p1 at h;split at h
 ·rename_i x y;rw[bZU.1 (HJ h)]
 ·exact U7 h
structure gf(P:Program)(G:Nat->Bool)(n:Nat)(ops:Array Oper)(K:c8)(lo:Perm) where
 N:Nat
 b0:Nat
 bj:Nat->Nat
 e6:Nat->Oper
 fx:Nat->Bool
 bf:Nat->Nat->Prop
 E:Nat->Env
 cE:Nat->ah
 V:Nat->Value
 F:Nat->List Nat
 M:Nat->List Nat
 run:∀p,p<N->(gq P G n ops (e6 p)).runT K ⟨lo.lo,lo.ok,some (b0+p)⟩ (fx p) (E p) (cE p)=some (V p,cE (p+1),F p,M p)
 put:∀p,p<N->E (p+1)=putDst (E p) (gq P G n ops (e6 p)).dst (V p)
 own:∀p,p<N->(cE p).get (b0+p)=none
 apart:∀p q,p<q->q<N->¬bf p q->U1 (gq P G n ops (e6 p)) (gq P G n ops (e6 q))
 wr:∀p q,p<q->q<N->¬bf p q->((gq P G n ops (e6 p)).op.md||(gq P G n ops (e6 p)).op.dL||(gq P G n ops (e6 p)).op.lJ)=true->
  ((gq P G n ops (e6 q)).op.rd||(gq P G n ops (e6 q)).op.md||(gq P G n ops (e6 q)).op.dL)=true->
  (∀b∈M p,b∉M q)/\((∀b∈M p,b∉F q)∨∀i,i<=N->∃u,(gq P G n ops (e6 q)).again (E q) (cE i)=some u/\p1 u (V q)=true)
 Mb:∀p q,p<q->q<N->¬bf p q->((gq P G n ops (e6 q)).op.md||(gq P G n ops (e6 q)).op.dL||(gq P G n ops (e6 q)).op.lJ)=true->
  ((gq P G n ops (e6 p)).op.rd||(gq P G n ops (e6 p)).op.md||(gq P G n ops (e6 p)).op.dL)=true->
  (∀b∈M q,b∉M p)/\((∀b∈M q,b∉F p)∨∀i,i<=N->∃u,(gq P G n ops (e6 p)).again (E p) (cE i)=some u/\p1 u (V p)=true)
 fixed:∀p,p<N->fx p=true->∀q,q<N->q≠p->D' (gq P G n ops (e6 q))=true->(q<p->bf q p)/\(p<q->bf p q)
 made:∀q,q<N->∀p,p<N->b0+p∈F q->p≠q->p<q/\b0+p∈M p
namespace gf
variable{O:da}{P:Program}{base:Nat}{pm:Perm}{n:Nat}{G:Nat->Bool}{K:c8}{ops:Array Oper}
abbrev D(s:gf P G n ops K pm)(p:Nat):aE:=gq P G n ops (s.e6 p)
def iW(s:gf P G n ops K pm)(p:Nat):Prop:=(s.D p).op.dL=true/\(s.D p).wanted (s.E p)=some true
def q9(s:gf P G n ops K pm)(p b:Nat):Prop:=b∈s.M p∨(s.iW p/\(s.fx p=true∨(s.cE p).next<=b))
theorem cases(s:gf P G n ops K pm){p:Nat}(aC:p<s.N):
 ((s.D p).wanted (s.E p)=some false/\s.V p=zWb/\s.cE (p+1)=s.cE p/\s.F p=[]/\s.M p=[])∨
 ((s.D p).wanted (s.E p)=some true/\(s.D p).op.dL=false/\((s.D p).op.cA (s.E p)).runT ⟨pm.lo,pm.ok,some (s.b0+p)⟩ (s.cE p)=some (s.V p,s.cE (p+1),s.F p,s.M p))∨
 (s.iW p/\s.F p=[]/\((s.fx p=true/\s.M p=[]/\(s.D p).op.run K ⟨pm.lo,pm.ok,none⟩ (s.E p) (s.cE p)=some (s.V p,s.cE (p+1)))∨
  (s.fx p=false/\s.M p=(s.D p).op.y7 ⟨pm.lo,pm.ok,some (s.b0+p)⟩ (s.E p)/\(s.D p).op.run K ⟨(s.cE p).next,s.M p,none⟩ (s.E p) (s.cE p)=some (s.V p,s.cE (p+1))))):=by
 have h:=s.run p aC;unfold aE.runT at h;split at h
 ·rename_i hw;unfold bM.runT at h
  cases af:(s.D p).op.dL with
  | false=>
    rw[af]at h;exact .inr (.inl ⟨hw,rfl,h⟩)
  | true=>
    rw[af]at h;simp only[cond_true]at h
    cases bc:s.fx p with
    | true=>
      rw[bc]at h;simp only[cond_true]at h;split at h
      ·rename_i v H' an;simp only[Option.some.injEq,Prod.mk.injEq]at h;obtain⟨rfl,rfl,aq,a8⟩:=h;exact .inr (.inr ⟨⟨af,hw⟩,aq.symm,.inl ⟨rfl,a8.symm,an⟩⟩)
      ·cases h
    | false=>
      rw[bc]at h;simp only[cond_false]at h;split at h
      ·rename_i v H' an;simp only[Option.some.injEq,Prod.mk.injEq]at h;obtain⟨rfl,rfl,aq,a8⟩:=h;exact .inr (.inr ⟨⟨af,hw⟩,aq.symm,.inr ⟨rfl,a8.symm,a8▸an⟩⟩)
      ·cases h
 ·rename_i hw;simp only[Option.some.injEq,Prod.mk.injEq]at h;obtain⟨U,aa,aq,a8⟩:=h;exact .inl ⟨hw,U.symm,aa.symm,aq.symm,a8.symm⟩
 ·cases h
theorem ok(s:gf P G n ops K pm){p:Nat}(aC:p<s.N):tw P G n ops (s.e6 p)=true:=by
 by_cases dM:tw P G n ops (s.e6 p)=true
 ·exact dM
 ·have h:=s.run p aC;rw[gq,if_neg dM]at h;simp[aE.runT,aE.wanted,bM.runT,bM.dL,bM.cA,bF.runT]at h
theorem U8(s:gf P G n ops K pm){p:Nat}(aC:p<s.N):(s.D p).op=ig P G (s.e6 p)/\(s.D p).dst=(s.e6 p).dst:=by
 unfold D;rw[gq,if_pos (s.ok aC)];exact⟨rfl,rfl⟩
structure Fact(s:gf P G n ops K pm)(p:Nat):Prop where
 next:(s.cE p).next<=(s.cE (p+1)).next
 same:¬s.iW p->(s.cE (p+1)).next=(s.cE p).next
 bT:∀b,¬s.q9 p b->(s.cE (p+1)).get b=(s.cE p).get b
 made:¬s.iW p->∀b,b∈s.M p∨b∈s.F p->((s.cE (p+1)).get b).isSome
 new:∀b,(s.cE (p+1)).next<=b->(s.cE (p+1)).get b=none
theorem U9{lo:Perm}{e:Env}{o:bM}{b:Nat}(h:b∈o.y7 lo e):lo.may b=true:=by
 have key:∀l:List Value,b∈gI lo l->lo.may b=true:=by
  intro l
  induction l with
  | nil=>intro h;cases h
  | cons v l ih=>
    intro h;unfold gI at h;split at h
    ·rename_i gJ;cases gJ
    ·rename_i a l' heq;simp only[List.cons.injEq]at heq;obtain⟨_,rfl⟩:=heq
     cases hm:lo.may a.block with
     | true=>
       rw[hm]at h;simp only[cond_true]at h
       rcases List.mem_cons.1 h with rfl | h
       ·exact hm
       ·exact ih h
     | false=>
       rw[hm]at h;exact ih h
    ·rename_i heq;simp only[List.cons.injEq]at heq;obtain⟨_,rfl⟩:=heq;exact ih h
 cases o<;>simp only[bM.y7]at h<;>first
  | (cases h;done)
  | (split at h
     ·exact key _ h
     ·cases h)
theorem chain(s:gf P G n ops K pm)(db:fT O P G K)(dS:pm.num=none){γ:bo}{H:ah}{w:World}{a:Act}(ai:s.b0=H.next)(ey:pm.lo<=s.b0)(vw:s.cE 0=⟨H.t,H.next+s.N⟩)(an:Rel O base γ H w)(bz:eY γ n (s.E 0) a)(bA:hH G γ):
 ∀p,p<=s.N->(∃bk a' w',eY bk n (s.E p) a'/\Step O base pm γ H w bk (s.cE p) w'/\s.b0+s.N<=(s.cE p).next/\∀q,q<s.N->∀L,bk (s.b0+q)=some L->q<p)/\∀q,q<p->s.Fact q
 | 0,_=>⟨⟨γ,a,{w with drawn:=w.drawn},bz,vw▸Step.UX an s.N _,by rw[vw,ai];exact Nat.le_refl _,λq aV L h=>by have:=an.lt _ _ h;omega⟩,λq h=>by omega⟩
 | p+1,aC=>by
   obtain⟨⟨bk,a',w',Ea,fk,aF,aV⟩,ei⟩:=chain s db dS ai ey vw an bz bA p (by omega);have aC:p<s.N:=aC;have dM:=s.ok aC;have gx:=s.U8 aC;have y8:∀t,(s.D p).dst=some t->t<n:=λt aS=>HK dM t (gx.2▸aS)
   suffices c9:(∃dQ a2 bL,eY dQ n (s.E (p+1)) a2/\Step O base pm γ H w dQ (s.cE (p+1)) bL/\s.b0+s.N<=(s.cE (p+1)).next/\∀q,q<s.N->∀L,dQ (s.b0+q)=some L->q<p+1)/\s.Fact p by
    refine⟨c9.1,λq aV=>?_⟩;by_cases h:q=p
    ·exact h▸c9.2
    ·exact ei q (by omega)
   rcases s.cases aC with⟨U,aa,aq,a8,cg⟩ | ⟨U,aa,aq⟩ | ⟨U,aa,aq⟩
   ·have Eb:¬s.iW p:=λh=>by rw[h.2]at U;cases U
    refine⟨⟨bk,a'.put (s.D p).dst undef,w',?_,aq▸fk,aq▸aF,λq x L y=>Nat.lt_succ_of_lt (aV q x L y)⟩,?_⟩
    ·rw[s.put p aC,aa];exact Ea.Mc y8
    ·exact⟨by rw[aq];exact Nat.le_refl _,λ_=>by rw[aq],λb _=>by rw[aq],λ_ b ai=>by rw[a8,cg]at ai;simp at ai,λb ai=>by rw[aq]at ai|-;exact fk.rel.new b ai⟩
   ·have Eb:¬s.iW p:=λh=>by rw[h.1]at aa;cases aa
    have ag:=Be (pm:=⟨pm.lo,pm.ok,some (s.b0+p)⟩) rfl _ aq;have hm:=atb aq;have e7:=UP aq;rw[gx.1]at e7;have e8:Perm.gV ⟨pm.lo,pm.ok,some (s.b0+p)⟩ bk (s.cE p):=by
     intro b e;cases e;refine⟨by omega,?_,?_⟩
     ·cases aK:bk (s.b0+p) with
      | none=>rfl
      | some L=>have:=aV p aC L aK;omega
     ·simp only[Perm.may,dA];rw[decide_eq_true (show pm.lo<=s.b0+p by omega)];rfl
    obtain⟨eF,v',bL,dQ,ao,e2,bd,b1⟩:=HL fk.rel e8 Ea (bA.mono fk.ext) (s.e6 p) e7;refine⟨⟨dQ,a'.put (s.D p).dst v',bL,?_,fk.HM b1 (λb e=>by cases e;exact .inl (by omega)),by rw[ag.1];exact aF,λq Md L bC=>?_⟩,?_⟩
    ·rw[s.put p aC];exact(Ea.mono b1.ext).put y8 bd
    ·cases aK:bk (s.b0+q) with
     | some L'=>exact Nat.lt_succ_of_lt (aV q Md L' aK)
     | none=>
       rcases b1.known _ L bC aK with h | h
       ·omega
       ·simp only[Option.some.injEq]at h;omega
    ·exact⟨by rw[ag.1];exact Nat.le_refl _,λ_=>ag.1,λb ai=>ag.2.1 b λh=>ai (.inl h),λ_ b ai=>ai.elim (hm.2.1 b) (hm.2.2 b),λb ai=>b1.rel.new b ai⟩
   ·have key:∀pm':Perm,pm'.num=none->(∀b,b<(s.cE p).next->pm'.may b=true->pm.may b=true)->(s.D p).op.run K pm' (s.E p) (s.cE p)=some (s.V p,s.cE (p+1))->(∀b,¬s.q9 p b->b<(s.cE p).next/\pm'.may b=false)->
     (∃dQ a2 bL,eY dQ n (s.E (p+1)) a2/\Step O base pm γ H w dQ (s.cE (p+1)) bL/\s.b0+s.N<=(s.cE (p+1)).next/\∀q,q<s.N->∀L,dQ (s.b0+q)=some L->q<p+1)/\s.Fact p:=by
     intro pm' q' eO e7 hw;rw[gx.1]at e7;have:=Me db fk.rel q' Ea (bA.mono fk.ext) (s.e6 p) (Mf dM) e7;refine this.known λdQ v' bL bd b1=>?_;refine⟨⟨dQ,a'.put (s.D p).dst v',bL,?_,fk.trans (b1.weaken fk.rel eO λb e=>by rw[q']at e;cases e) an,Nat.le_trans aF b1.next,λq Md L bC=>?_⟩,?_⟩
     ·rw[s.put p aC];exact(Ea.mono b1.ext).put y8 bd
     ·cases aK:bk (s.b0+q) with
      | some L'=>exact Nat.lt_succ_of_lt (aV q Md L' aK)
      | none=>
        rcases b1.known _ L bC aK with h | h
        ·omega
        ·rw[q']at h;cases h
     ·exact⟨b1.next,λh=>(h U).elim,λb ai=>let ⟨x,y⟩:=hw b ai;b1.k4 b x y,λh=>(h U).elim,λb ai=>b1.rel.new b ai⟩
    rcases aq with⟨a8,cg,dj⟩ | ⟨a8,cg,dj⟩
    ·exact key ⟨pm.lo,pm.ok,none⟩ rfl (λb _ h=>h) dj λb ai=>(ai (.inr ⟨U,.inl a8⟩)).elim
    ·refine key ⟨(s.cE p).next,s.M p,none⟩ rfl (λb ai h=>?_) dj λb ai=>?_
     ·simp only[Perm.may,dA,decide_eq_false (Nat.not_le.2 ai),cond_false]at h;have h:b∈s.M p:=by simpa using h
      rw[cg]at h;have:=U9 h;exact this
     ·have bO:b<(s.cE p).next:=by
       apply Nat.lt_of_not_le;intro h;exact ai (.inr ⟨U,.inr h⟩)
      refine⟨bO,?_⟩;simp only[Perm.may,dA,decide_eq_false (Nat.not_le.2 bO),cond_false];have:b∉s.M p:=λh=>ai (.inl h);simpa using this
end gf
namespace gf
variable{O:da}{P:Program}{base:Nat}{pm:Perm}{n:Nat}{G:Nat->Bool}{K:c8}{ops:Array Oper}
theorem U'(s:gf P G n ops K pm)(ei:∀q,q<s.N->s.Fact q)(i:Nat):∀d,i+d<=s.N->(s.cE i).next<=(s.cE (i+d)).next
 | 0,_=>Nat.le_refl _
 | d+1,h=>Nat.le_trans (U' s ei i d (by omega)) (ei (i+d) (by omega)).next
theorem Ec(s:gf P G n ops K pm)(ei:∀q,q<s.N->s.Fact q){b:Nat}(i:Nat):∀d,i+d<=s.N->(∀k,i<=k->k<i+d->¬s.q9 k b)->(s.cE (i+d)).get b=(s.cE i).get b
 | 0,_,_=>rfl
 | d+1,h,hw=>((ei (i+d) (by omega)).bT b (hw _ (by omega) (by omega))).trans (Ec s ei i d (by omega) λk U aa=>hw k U (by omega))
theorem Mg(s:gf P G n ops K pm)(ei:∀q,q<s.N->s.Fact q)(i:Nat):∀d,i+d<=s.N->(∀k,i<=k->k<i+d->¬s.iW k)->(s.cE (i+d)).next=(s.cE i).next
 | 0,_,_=>rfl
 | d+1,h,hw=>((ei (i+d) (by omega)).same (hw _ (by omega) (by omega))).trans (Mg s ei i d (by omega) λk U aa=>hw k U (by omega))
theorem Mh(s:gf P G n ops K pm){t:Nat}(i:Nat):∀d,i+d<=s.N->(∀k,i<=k->k<i+d->(s.D k).dst≠some t)->(s.E (i+d)).get t=(s.E i).get t
 | 0,_,_=>rfl
 | d+1,h,hw=>by
   rw[show i+(d+1)=i+d+1 by omega,s.put (i+d) (by omega)];have aB:=hw (i+d) (by omega) (by omega);have:=Mh s (t:=t) i d (by omega) λk U aa=>hw k U (by omega)
   cases aV:(s.D (i+d)).dst with
   | none=>exact this
   | some ra=>
     simp only[putDst,cI.pb];rw[if_neg (λq=>aB (by rw[aV,q]))];exact this
theorem Bj(s:gf P G n ops K pm){p b:Nat}(aC:p<s.N)(af:¬s.iW p)(h:b∈s.M p):((s.D p).op.md=true∨(s.D p).op.lJ=true)/\((s.D p).op.md=false->b=s.b0+p):=by
 rcases s.cases aC with⟨_,_,_,_,cg⟩ | ⟨_,aa,aq⟩ | ⟨U,_⟩
 ·rw[cg]at h;cases h
 ·refine⟨?_,λhm=>?_⟩
  ·cases hm:(s.D p).op.md with
   | true=>exact .inl rfl
   | false=>cases aF:(s.D p).op.lJ with
     | true=>exact .inr rfl
     | false=>
       have:=(U3 (U5 (e:=s.E p) hm aF) aq).1
       rw[this]at h;cases h
  ·exact L7 (pm:=⟨pm.lo,pm.ok,some (s.b0+p)⟩) rfl _ (ati hm) aq b h
 ·exact(af U).elim
theorem Va(s:gf P G n ops K pm){p b:Nat}(aC:p<s.N)(h:b∈s.F p):((s.D p).op.rd=true∨(s.D p).op.md=true)/\¬s.iW p:=by
 rcases s.cases aC with⟨_,_,_,a8,_⟩ | ⟨_,aa,aq⟩ | ⟨_,aa,_⟩
 ·rw[a8]at h;cases h
 ·refine⟨?_,λaf=>by rw[af.1]at aa;cases aa⟩
  cases hm:(s.D p).op.md with
  | true=>exact .inr rfl
  | false=>cases aF:(s.D p).op.rd with
    | true=>exact .inl rfl
    | false=>
      have:=L8 _ (atj (e:=s.E p) hm aF) aq
      rw[this]at h;cases h
 ·rw[aa]at h;cases h
def Mi(s:gf P G n ops K pm)(q:Nat):Prop:=∀i,i<=s.N->∃u,(s.D q).again (s.E q) (s.cE i)=some u/\p1 u (s.V q)=true
theorem below(s:gf P G n ops K pm)(ei:∀q,q<s.N->s.Fact q){p q b:Nat}(hh:p<q)(aV:q<s.N)(af:¬s.iW p)(h:b∈s.M p∨b∈s.F p):b<(s.cE q).next:=by
 have U:=(ei p (by omega)).made af b h;have aa:=s.U' ei (p+1) (q-(p+1)) (by omega);rw[show p+1+(q-(p+1))=q by omega]at aa;apply Nat.lt_of_lt_of_le _ aa;apply Nat.lt_of_not_le;intro aq;rw[(ei p (by omega)).new b aq]at U;cases U
theorem xx(s:gf P G n ops K pm){p q:Nat}(hh:p<q)(aV:q<s.N)(jt:¬s.bf p q):¬s.iW p:=λh=>by
 have:=(s.apart p q hh aV jt).dL;rw[h.1]at this;cases this
theorem Vb{o:aE}(h:o.op.rd=true∨o.op.md=true∨o.op.lJ=true):D' o=true:=by
 unfold D'
 rcases h with h | h | h<;>rw[h]<;>simp
theorem Vc(s:gf P G n ops K pm)(ei:∀q,q<s.N->s.Fact q){p q b:Nat}(hh:p<q)(aV:q<s.N)(jt:¬s.bf p q)(U:s.q9 p b)(aa:s.q9 q b):False:=by
 have aC:p<s.N:=by omega
 have gy:=s.xx hh aV jt;have U:b∈s.M p:=U.resolve_right λh=>gy h.1;obtain⟨hm,pZ⟩:=s.Bj aC gy U
 rcases aa with aa | ⟨aa,aq⟩
 ·by_cases lK:((s.D q).op.rd||(s.D q).op.md||(s.D q).op.dL)=true
  ·have:=(s.wr p q hh aV jt (by rcases hm with h | h<;>rw[h]<;>simp) lK).1;exact this b U aa
  ·simp only[Bool.or_eq_true,not_or,Bool.not_eq_true]at lK;have HN:¬s.iW q:=λh=>by rw[h.1]at lK;cases lK.2
   obtain⟨aF,q'⟩:=s.Bj aV HN aa;have ai:=q' lK.1.2;have Mj:(s.D q).op.lJ=true:=aF.resolve_left λh=>by rw[lK.1.2]at h;cases h
   cases HO:(s.D p).op.md with
   | true=>
     have:=(s.Mb p q hh aV jt (by rw[Mj];simp) (by rw[HO];simp)).1;exact this b aa U
   | false=>
     have:=pZ HO;omega
 ·rcases aq with aq | aq
  ·exact jt ((s.fixed q aV aq p aC (by omega) (Vb (by rcases hm with h | h<;>simp[h]))).1 hh)
  ·have:=s.below ei hh aV gy (.inl U);omega
theorem Vd(s:gf P G n ops K pm){p q b:Nat}(hh:p<q)(aV:q<s.N)(jt:¬s.bf p q)(U:s.q9 p b)(aa:b∈s.F q):s.Mi q:=by
 have aC:p<s.N:=by omega
 have gy:=s.xx hh aV jt;have U:b∈s.M p:=U.resolve_right λh=>gy h.1;obtain⟨hm,_⟩:=s.Bj aC gy U;obtain⟨bc,_⟩:=s.Va aV aa;rcases(s.wr p q hh aV jt (by rcases hm with h | h<;>rw[h]<;>simp) (by rcases bc with h | h<;>rw[h]<;>simp)).2 with h | h
 ·exact(h b U aa).elim
 ·exact h
theorem atl(s:gf P G n ops K pm)(ei:∀q,q<s.N->s.Fact q){p q b:Nat}(hh:p<q)(aV:q<s.N)(jt:¬s.bf p q)(U:b∈s.F p)(aa:s.q9 q b):s.Mi p:=by
 have aC:p<s.N:=by omega
 have gy:=s.xx hh aV jt;obtain⟨bc,_⟩:=s.Va aC U
 rcases aa with aa | ⟨aa,aq⟩
 ·have Mk:((s.D q).op.md||(s.D q).op.dL||(s.D q).op.lJ)=true:=by
   by_cases HN:s.iW q
   ·rw[HN.1];simp
   ·obtain⟨hm,_⟩:=s.Bj aV HN aa
    rcases hm with h | h<;>rw[h]<;>simp
  rcases(s.Mb p q hh aV jt Mk (by rcases bc with h | h<;>rw[h]<;>simp)).2 with h | h
  ·exact(h b aa U).elim
  ·exact h
 ·rcases aq with aq | aq
  ·exact(jt ((s.fixed q aV aq p aC (by omega) (Vb (by rcases bc with h | h<;>simp[h]))).1 hh)).elim
  ·have:=s.below ei hh aV gy (.inr U);omega
def R(s:gf P G n ops K pm)(T:Nat->Prop)(b:Nat):Prop:=∀p,p<s.N->b=s.b0+p->T p/\b∈s.M p
structure Inv(O:da)(base:Nat)(s:gf P G n ops K pm)(T:Nat->Prop)(γ0:bo)(H0:ah)(w0:World)(e:Env)(J:ah)(γ:bo)(a:Act)(w:World):Prop where
 re:eY γ n e a
 step:Step O base pm γ0 H0 w0 γ J w
 eF:s.b0+s.N<=J.next
 hp:∀t i,i<=s.N->(∀k,k<s.N->(s.D k).dst=some t->(k<i↔T k))->e.get t=(s.E i).get t
 gK:∀b i,i<=s.N->s.R T b->(∀k,k<s.N->s.q9 k b->(k<i↔T k))->J.get b=(s.cE i).get b
 next:∀i,i<=s.N->(∀k,k<s.N->s.iW k->(k<i↔T k))->J.next=(s.cE i).next
 known:∀p,p<s.N->∀L,γ (s.b0+p)=some L->T p/\s.b0+p∈s.M p
structure Ready(s:gf P G n ops K pm)(T:Nat->Prop)(j:Nat):Prop where
 lt:j<s.N
 lL:¬T j
 closed:∀p q,p<s.N->q<s.N->s.bf p q->T q->T p
 pre:∀p,p<s.N->s.bf p j->T p
section
variable{s:gf P G n ops K pm}{T:Nat->Prop}{γ0 γ:bo}{H0 J:ah}{w0 w:World}{e:Env}{a:Act}{j:Nat}
theorem Ready.late(h:s.Ready T j){k:Nat}(ag:k<s.N)(bK:T k):¬s.bf j k:=λai=>h.lL (h.closed j k h.lt ag ai bK)
theorem Ready.early(h:s.Ready T j){k:Nat}(ag:k<s.N)(bK:¬T k):¬s.bf k j:=λai=>bK (h.pre k ag ai)
theorem Inv.looks(dw:Inv O base s T γ0 H0 w0 e J γ a w)(h:s.Ready T j):∀t∈(s.D j).looks,e.get t=(s.E j).get t:=by
 intro t aS;refine dw.hp t j (Nat.le_of_lt h.lt) λk ag aB=>⟨λmf=>?_,λbK=>?_⟩
 ·apply Classical.byContradiction;intro bK;exact((s.apart k j mf h.lt (h.early ag bK)).dst t aB).1 aS
 ·apply Classical.byContradiction;intro mf;have:j≠k:=λq=>h.lL (q▸bK);exact(s.apart j k (by omega) ag (h.late ag bK)).atk t aB aS
theorem Inv.Ve(dw:Inv O base s T γ0 H0 w0 e J γ a w)(h:s.Ready T j):∀t i,i<=s.N->(∀k,k<s.N->(s.D k).dst=some t->(k<i↔(T k∨k=j)))->(putDst e (s.D j).dst (s.V j)).get t=(s.E i).get t:=by
 intro t i ad ag;by_cases aB:(s.D j).dst=some t
 ·have Vf:j<i:=(ag j h.lt aB).2 (.inr rfl);have U:(s.E i).get t=(s.E (j+1)).get t:=by
   have:=s.Mh (t:=t) (j+1) (i-(j+1)) (by omega) λk U aa xy=>by
    have fI:k<s.N:=by omega
    have bK:T k:=((ag k fI xy).1 (by omega)).resolve_right (by omega);exact((s.apart j k (by omega) fI (h.late fI bK)).dst t aB).2 xy
   rwa [show j+1+(i-(j+1))=i by omega]at this
  rw[U,s.put j h.lt];simp only[aB,putDst,cI.pb,if_true]
 ·have U:e.get t=(s.E i).get t:=dw.hp t i ad λk fI xy=>by
   rw[ag k fI xy];exact⟨λq=>q.resolve_right λq=>aB (q▸xy),.inl⟩
  rw[<-U]
  cases aV:(s.D j).dst with
  | none=>rfl
  | some ra=>
    simp only[putDst,cI.pb];rw[if_neg (λq=>aB (by rw[aV,q]))]
theorem Inv.other(ei:∀q,q<s.N->s.Fact q)(ai:s.b0=H0.next)(dw:Inv O base s T γ0 H0 w0 e J γ a w)(h:s.Ready T j)(af:¬s.iW j){J':ah}{bk:bo}{a':Act}{w':World}{m:Option Nat}
 (Vg:J'.next=J.next) (Ml:∀b,J'.get b=if b∈s.M j then(s.cE (j+1)).get b else J.get b) (bz:eY bk n (putDst e (s.D j).dst (s.V j)) a') (fk:Step O base ⟨pm.lo,pm.ok,m⟩ γ J w bk J' w') (hm:∀b,m=some b->b=s.b0+j/\b∈s.M j):
 Inv O base s (λk=>T k∨k=j) γ0 H0 w0 (putDst e (s.D j).dst (s.V j)) J' bk a' w' where
 re:=bz
 step:=dw.step.HM fk λb e=>.inl (by have:=(hm b e).1;omega)
 eF:=by rw[Vg];exact dw.eF
 hp:=dw.Ve h
 gK:=λb i ad dD ag=>by
  rw[Ml b];by_cases tx:b∈s.M j
  ·rw[if_pos tx];have Vf:j<i:=(ag j h.lt (.inl tx)).2 (.inr rfl);have:=s.Ec ei (b:=b) (j+1) (i-(j+1)) (by omega) λk U aa hw=>by
    have fI:k<s.N:=by omega
    have bK:T k:=((ag k fI hw).1 (by omega)).resolve_right (by omega);exact s.Vc ei (by omega) fI (h.late fI bK) (.inl tx) hw
   rw[show j+1+(i-(j+1))=i by omega]at this;exact this.symm
  ·rw[if_neg tx];have Mj:¬s.q9 j b:=λq=>q.elim tx λq=>af q.1;refine dw.gK b i ad (λp aC e=>?_) λk fI hw=>?_
   ·obtain⟨U,aa⟩:=dD p aC e;exact⟨U.resolve_right λq=>tx (q▸aa),aa⟩
   ·rw[ag k fI hw];exact⟨λq=>q.resolve_right λq=>Mj (q▸hw),.inl⟩
 next:=λi ad ag=>by
  rw[Vg];refine dw.next i ad λk fI hw=>?_;rw[ag k fI hw];exact⟨λq=>q.resolve_right λq=>af (q▸hw),.inl⟩
 known:=λp aC L bC=>by
  cases aK:γ (s.b0+p) with
  | some L'=>
    obtain⟨x,y⟩:=dw.known p aC L' aK;exact⟨.inl x,y⟩
  | none=>
    rcases fk.known _ L bC aK with q | q
    ·have:=dw.eF;omega
    ·obtain⟨x,y⟩:=hm _ q;have:p=j:=by omega
     exact⟨.inr this,this▸y⟩
theorem Inv.call(ei:∀q,q<s.N->s.Fact q)(dw:Inv O base s T γ0 H0 w0 e J γ a w)(h:s.Ready T j)(af:s.iW j)(hq:s.b0+s.N<=(s.cE j).next)(Ed:Step O base pm γ0 H0 w0 γ (s.cE j) w){bk:bo}{a':Act}{w':World}
 (bz:eY bk n (putDst e (s.D j).dst (s.V j)) a') (fk:Step O base pm γ (s.cE j) w bk (s.cE (j+1)) w') (dS:pm.num=none):
 Inv O base s (λk=>T k∨k=j) γ0 H0 w0 (putDst e (s.D j).dst (s.V j)) (s.cE (j+1)) bk a' w':=by
 have Ee:∀k,k<s.N->j<k->¬T k:=λk ag Vh bK=>s.xx Vh ag (h.late ag bK) af;have Mm:∀k b,k<j->¬T k->s.q9 k b->b=s.b0+k/\b∈s.M k:=λk b mf bK hw=>by
  have fI:k<s.N:=by have:=h.lt;omega
  have jt:=h.early fI bK;have Ef:=s.xx mf h.lt jt;have ai:b∈s.M k:=hw.resolve_right λq=>Ef q.1;have HO:=(s.apart k j mf h.lt jt).U2 af.1;exact⟨(s.Bj fI Ef ai).2 HO,ai⟩
 exact{
  re:=bz
  step:=Ed.HM (m:=pm.num) fk λb e=>by rw[dS]at e;cases e
  eF:=Nat.le_trans hq fk.next
  hp:=dw.Ve h
  gK:=λb i ad dD ag=>by
   by_cases tz:i<=j+1
   ·have:=s.Ec ei (b:=b) i (j+1-i) (by have:=h.lt;omega) λk U aa hw=>by
     have fI:k<s.N:=by have:=h.lt;omega
     have bK:¬(T k∨k=j):=λq=>by have:=(ag k fI hw).2 q;omega
     have mf:k<j:=by
      have:k≠j:=λq=>bK (.inr q);omega
     obtain⟨x,y⟩:=Mm k b mf (λq=>bK (.inl q)) hw;exact bK (dD k fI x).1
    rw[show i+(j+1-i)=j+1 by omega]at this;exact this
   ·have:=s.Ec ei (b:=b) (j+1) (i-(j+1)) (by omega) λk U aa hw=>by
     have fI:k<s.N:=by omega
     have bK:T k:=((ag k fI hw).1 (by omega)).resolve_right (by omega);exact Ee k fI (by omega) bK
    rw[show j+1+(i-(j+1))=i by omega]at this;exact this.symm
  next:=λi ad ag=>by
   have Vf:j<i:=(ag j h.lt af).2 (.inr rfl);have:=s.Mg ei (j+1) (i-(j+1)) (by omega) λk U aa hw=>by
    have fI:k<s.N:=by omega
    have bK:T k:=((ag k fI hw).1 (by omega)).resolve_right (by omega);exact Ee k fI (by omega) bK
   rw[show j+1+(i-(j+1))=i by omega]at this;exact this.symm
  known:=λp aC L bC=>by
   cases aK:γ (s.b0+p) with
   | some L'=>
     obtain⟨x,y⟩:=dw.known p aC L' aK;exact⟨.inl x,y⟩
   | none=>
     rcases fk.known _ L bC aK with q | q
     ·omega
     ·rw[dS]at q;cases q}
theorem Inv.swap(ei:∀q,q<s.N->s.Fact q)(aD:∀b,(s.cE 0).next<=b->(s.cE 0).get b=none)(dw:Inv O base s T γ0 H0 w0 e J γ a w)(h:s.Ready T j)(af:s.iW j)(ai:s.b0=H0.next):
 Step O base pm γ0 H0 w0 γ (s.cE j) w/\s.b0+s.N<=(s.cE j).next:=by
 have Ee:∀k,k<s.N->T k->k<j:=λk ag bK=>by
  apply Classical.byContradiction;intro mf;have:k≠j:=λq=>h.lL (q▸bK);exact s.xx (by omega) ag (h.late ag bK) af
 have Mm:∀k b,k<j->¬T k->s.q9 k b->b=s.b0+k:=λk b mf bK hw=>by
  have fI:k<s.N:=by have:=h.lt;omega
  have jt:=h.early fI bK;have Ef:=s.xx mf h.lt jt;exact(s.Bj fI Ef (hw.resolve_right λq=>Ef q.1)).2 ((s.apart k j mf h.lt jt).U2 af.1)
 have aK:∀b,s.R T b->J.get b=(s.cE j).get b:=λb dD=>dw.gK b j (Nat.le_of_lt h.lt) dD λk ag hw=>⟨λmf=>by
  apply Classical.byContradiction;intro bK;exact bK (dD k ag (Mm k b mf bK hw)).1,Ee k ag⟩
 have aF:J.next=(s.cE j).next:=dw.next j (Nat.le_of_lt h.lt) λk ag hw=>⟨λmf=>by
  apply Classical.byContradiction;intro bK;exact s.xx mf h.lt (h.early ag bK) hw,Ee k ag⟩
 refine⟨dw.step.congr (λb L bC=>(aK b λp aC e=>?_).symm) (Nat.le_of_eq aF) (λb ai=>?_) λb ec hm=>?_,aF▸dw.eF⟩
 ·subst e;exact dw.known p aC L bC
 ·cases j with
  | zero=>exact aD b ai
  | succ j=>exact(ei j (by have:=h.lt;omega)).new b ai
 ·rw[<-aK b λp aC e=>by omega];exact dw.step.k4 b ec hm
end
end gf
end Go.Dam
