/- An abstract memory, and that the program does there what it does. -/
import GoSem.Core.Program
import GoSem.Core.View
import GoSem.Core.Utf8
import GoSem.Core.Region
import GoSem.Op.String
import GoSem.Op.Equal
import Derived.WalkKit
import Derived.Laws.Cells
import Derived.Laws.Rows
import Derived.Laws.StructEq
import Derived.Laws.BytesString
import Derived.Calls
import Derived.Orders
namespace Go.Dam
@[match_pattern] abbrev _root_.Go.Value.P(b:Nat):Value:=.pointer (some ⟨b,0,none⟩)
@[match_pattern] abbrev _root_.Go.Value.S(b n c:Nat):Value:=.slice (some ⟨b,0,none⟩) n c
@[match_pattern] abbrev _root_.Go.Value.I(n:Int):Value:=.int .i64 n
@[match_pattern] abbrev _root_.Go.Value.Z:Value:=.slice none 0 0
theorem ω{p:Prop}(h:p:=by omega):p:=h
theorem σ'{p:Prop}(h:p:=by simp):p:=h
theorem δ{p:Prop}(h:p:=by decide):p:=h
theorem π{p:Prop}(h:p:=by grind):p:=h
theorem φ{p q:Prop}(h:p)(e:p=q:=by simp):q:=e▸h
theorem ε{α:Sort _}(a:α):∃x,x=a:=⟨a,rfl⟩
abbrev aJ:=@Option.some.injEq
abbrev cp:=@Prod.mk.injEq
abbrev a8:=@Nat.le_trans
abbrev bK:=@Bool.and_eq_true
abbrev bc:=@Nat.le_refl
abbrev aw:=@if_neg
abbrev aL:=@if_pos
abbrev cP:=@decide_eq_true_eq
abbrev dk:=@Nat.lt_of_le_of_lt
abbrev gT:=@Array.getElem?_eq_some_iff
abbrev cX:=@List.mem_of_getElem?
abbrev en:=@List.getElem?_eq_getElem
abbrev o3:=@Classical.byContradiction
abbrev fV:=@Nat.mul_le_mul_right
abbrev hX:=@Nat.pow_le_pow_right
abbrev iq:=@List.getElem?_append_right
abbrev fK:=@Nat.lt_of_lt_of_le
abbrev hc:=@List.getElem?_eq_none
abbrev hY:=@List.getElem?_append_left
abbrev eA:=@List.all_eq_true
abbrev hZ:=@List.getElem?_eq_some_iff
abbrev gj:=@Nat.le_add_right
abbrev e5:=@List.getD_eq_getElem?_getD
abbrev eZ:=@Nat.mul_comm
abbrev gk:=@Nat.mul_le_mul
abbrev jY:=@List.getElem?_take_of_lt
abbrev mT:=@Array.getElem?_eq_getElem
abbrev fW:=@Rat.mul_nonneg
abbrev ir:=@Bool.not_eq_true'
abbrev jF:=@Nat.two_pow_pos
abbrev jZ:=@List.getElem?_drop
abbrev kl:=@Bool.false_eq_true
abbrev hG:=@Nat.pow_add
abbrev fy:=@Rat.not_lt
abbrev jG:=@Bool.or_eq_true
abbrev hH:=@List.mem_cons
abbrev mU:=@Rat.intCast_natCast
abbrev qn:=@List.take_of_length_le
abbrev gS:=@Nat.not_lt_zero
abbrev lA:=@Nat.div_le_self
abbrev nZ:=@Nat.mul_le_mul_left
abbrev n0:=@Option.isSome_iff_exists
abbrev kW:=@Rat.le_refl
abbrev xm:=@Rat.mul_le_mul_of_nonneg_left
abbrev n1:=@Nat.mod_eq_of_lt
abbrev tq:=@of_decide_eq_true
abbrev iJ:=@Rat.le_of_lt
abbrev xn:=@Option.map_eq_some_iff
abbrev qo:=@Nat.pos_of_ne_zero
abbrev l3:=@Nat.mul_assoc
abbrev o4:=@List.length_append
abbrev I9:=@Nat.add_mul_div_left
abbrev mV:=@List.mem_singleton
abbrev hI:=@List.getElem?_cons_zero
abbrev eB:=@Nat.pow_succ
abbrev l4:=@Array.getD_eq_getD_getElem?
abbrev hJ:=@Option.bind_some
abbrev kX:=@Array.getElem?_toList
abbrev iK:=@List.length_cons
abbrev hK:=@Option.map_some
abbrev jd:=@List.getElem?_map
abbrev je:=@Option.getD_some
abbrev l5:=@Array.length_toList
abbrev jH:=@Option.some.inj
abbrev rR:=@List.getElem?_cons_succ
abbrev hd:=@decide_eq_true
abbrev j0:=@Nat.succ_mul
abbrev mW:=@List.cons_append
abbrev rS:=@Nat.pow_lt_pow_iff_right
abbrev tr:=@Classical.choose_spec
abbrev o5:=@Option.bind_eq_bind
abbrev j1:=@decide_eq_false
abbrev gl:=@List.mem_map
abbrev n2:=@Array.toList_inj
abbrev mX:=@Rat.mul_zero
abbrev n3:=@Option.pure_def
abbrev o6:=@List.mem_range
abbrev lB:=@Rat.add_zero
abbrev n4:=@List.ext_getElem?
abbrev ts:=@Nat.div_lt_of_lt_mul
abbrev tt:=@List.mem_of_mem_take
abbrev l6:=@List.length_take
abbrev xo:=@Nat.mul_lt_mul_of_lt_of_lt
abbrev tu:=@List.getElem?_range
abbrev o7:=@Nat.add_assoc
abbrev qp:=@List.all_cons
abbrev o8:=@Int.natAbs_mul
abbrev xp:=@Nat.le_mul_of_pos_right
abbrev u9:=@Rat.mul_eq_zero
abbrev fc:=@List.mem_append
abbrev rT:=@List.length_pos_iff
abbrev rU:=@List.length_map
abbrev xq:=@Nat.le_mul_of_pos_left
abbrev qq:=@Nat.lt_succ_self
abbrev th:=@Rat.lt_irrefl
abbrev zJ:=@Int.natAbs_ediv_le_natAbs
abbrev ti:=@Nat.mul_ne_zero
abbrev tj:=@Nat.min_eq_left
abbrev xc:=@List.append_assoc
abbrev nY:=@Rat.mul_comm
abbrev ql:=@Nat.gcd_comm
abbrev xd:=@List.getElem?_replicate
abbrev u4:=@Nat.div_eq_of_lt
abbrev I1:=@List.eq_nil_of_length_eq_zero
abbrev zK:=@Rat.normalize_eq_mkRat
abbrev zL:=@Nat.div_div_eq_div_mul
abbrev tk:=@List.getElem?_set_self
abbrev qm:=@Nat.pow_mul
abbrev C9:=@Nat.mul_lt_mul_of_pos_right
abbrev zM:=@List.take_append_drop
abbrev xe:=@List.foldl_cons
abbrev o0:=@beq_iff_eq
abbrev o1:=@Nat.mod_lt
abbrev xf:=@List.length_range
abbrev lz:=@Bool.eq_false_iff
abbrev o2:=@List.getElem?_set_ne
abbrev xg:=@Nat.one_le_pow
abbrev zN:=@Nat.succ_le_succ
abbrev rP:=@Nat.add_mul
abbrev xh:=@List.map_congr_left
abbrev Da:=@List.eq_of_mem_replicate
abbrev zO:=@Rat.intCast_mul
abbrev zP:=@Nat.eq_zero_or_pos
abbrev xi:=@Nat.div_add_mod
abbrev zQ:=@List.map_cons
abbrev tl:=@List.length_set
abbrev I2:=@Array.all_eq_true_iff_forall_mem
abbrev tm:=@Nat.mul_pos
abbrev I3:=@List.mk_mem_zipIdx_iff_getElem?
abbrev zR:=@Int.toNat_natCast
abbrev I4:=@Rat.mul_le_mul_of_nonneg_right
abbrev I5:=@Nat.le_of_lt
abbrev Db:=@List.getElem?_toArray
abbrev I6:=@Int.mul_le_mul_of_nonneg_right
abbrev I7:=@Array.getElem?_modify
abbrev zS:=@Rat.normalize_eq
abbrev xj:=@List.take_length
abbrev Dc:=@List.length_drop
abbrev tn:=@List.getElem_mem
abbrev Dd:=@List.mem_of_mem_drop
abbrev u5:=@List.getElem?_of_mem
abbrev adK:=@Array.size_replicate
abbrev zT:=@UInt8.toNat_inj
abbrev u6:=@Nat.pow_pos
abbrev zU:=@Nat.pow_le_pow_left
abbrev uh:=@Nat.mul_add
abbrev rQ:=@Nat.le_succ
abbrev zV:=@List.nil_append
abbrev tp:=@List.getElem_of_mem
abbrev aao:=@List.drop_succ_cons
abbrev zW:=@Int.natCast_mul
abbrev De:=@Rat.zero_add
abbrev xk:=@Nat.lt_or_ge
open Go
inductive b6(α:Type) where
 | ag
 | ao (l:b6 α) (v:Option α) (r:b6 α)
namespace b6
variable{α:Type}
def get:b6 α->Nat->Option α
 | .ag,_=>none
 | .ao l v r,k=>bif Nat.beq k 0 then v else bif Nat.beq (k%2) 1 then l.get (k/2) else r.get (k/2-1)
def one(x:α):Nat->Nat->b6 α
 | 0,_=>.ag
 | n+1,k=>bif Nat.beq k 0 then .ao .ag (some x) .ag else bif Nat.beq (k%2) 1 then .ao (one x n (k/2)) none .ag else .ao .ag none (one x n (k/2-1))
def set(x:α):b6 α->Nat->b6 α
 | .ag,k=>one x (k+1) k
 | .ao l v r,k=>bif Nat.beq k 0 then .ao l (some x) r else bif Nat.beq (k%2) 1 then .ao (l.set x (k/2)) v r else .ao l v (r.set x (k/2-1))
end b6
inductive A' where
 | nat (n:Nat)
 | iZ (q:Rat)
inductive cM where
 | n (k:Nat)
 | t (e:TypeId)
def cM.val:cM->Nat
 | .n k=>k
 | .t _=>0
inductive bz where
 | cells (cs:List Value) (cn:cM)
 | ro (cs:List Value)
 | map (es:List (Value×Value×Nat)) (clock:Nat)
 | iter (s:ByteArray) (pos:Nat)
 | cf (o:A')
 | dead
 | bytes (e:TypeId) (cF:List UInt8)
structure ae where
 t:b6 bz
 next:Nat
def ae.get(H:ae)(b:Nat):Option bz:=H.t.get b
def ae.put(H:ae)(b:Nat)(x:bz):ae:=⟨H.t.set x b,H.next⟩
def ae.new(H:ae)(x:bz):ae:=⟨H.t.set x H.next,H.next+1⟩
abbrev Env:=b6 Value
inductive bf where
 | ret (v:Value)
 | fail
 | get (b:Nat) (k:bz->bf)
 | put (b:Nat) (x:bz) (k:bf)
 | new (x:bz) (k:Nat->bf)
structure Perm where
 ah:Nat
 ok:List Nat
 num:Option Nat
def Perm.may(p:Perm)(b:Nat):Bool:=bif Nat.ble p.ah b then true else p.ok.contains b
def Perm.pick(p:Perm)(H:ae):Nat:=match p.num with
 | none=>H.next
 | some b=>b
def Perm.make(p:Perm)(H:ae)(x:bz):ae:=match p.num with
 | none=>H.new x
 | some b=>H.put b x
abbrev cv:=Perm->FuncId->List Value->ae->Option (Value×ae)
def bf.run(ah:Perm):bf->ae->Option (Value×ae)
 | .ret v,H=>some (v,H)
 | .fail,_=>none
 | .get b k,H=>match H.get b with
   | some x=>(k x).run ah H
   | none=>none
 | .put b x k,H=>bif ah.may b then k.run ah (H.put b x) else none
 | .new x k,H=>(k (ah.pick H)).run ah (ah.make H x)
inductive b0 where
 | t (n:Nat)
 | c (v:Value)
inductive hQ where
 | b | i | s
inductive sD where
 | ptr | gV | map | fn | uG (c:Bool)
inductive lL where
 | bR | bool | nil (k:sD) | cells (aD:List hQ)
inductive hg where
 | one (k:hQ) | cells (aD:List hQ)
inductive A5 where
 | s | l | m
inductive Conv where
 | int (k:IntKind) | id | Ag | E8
inductive bh where
 | dw (x:b0)
 | pick (c a b:b0)
 | alloc (t:TypeId) (z:List Value)
 | box (t:TypeId) (x:b0)
 | build (z:List Value) (u1:List (Nat×Nat×b0))
 | buildSlice (z:List Value) (cn len:Nat) (u1:List (Nat×Nat×b0))
 | load (agg:Bool) (n:Nat) (a:b0)
 | store (n:Nat) (a x:b0)
 | nilCheck (x:b0)
 | bin (op:BinOp) (k:lL) (x y:b0)
 | un (op:UnOp) (x:b0)
 | conv (c:Conv) (x:b0)
 | CB (t:TypeId) (x:b0)
 | uM (f:FuncId) (NW:List b0)
 | mkMap
 | mkSlice (z:List Value) (bytes:Nat) (l c:b0)
 | k2 (x:b0) (ah az:Option b0)
 | ji (cn:Nat) (x:b0) (ah az adq:Option b0)
 | Al (n cn:Nat) (x:b0) (ah az:Option b0)
 | fieldAddr (off:Nat) (x:b0)
 | field (agg:Bool) (off n:Nat) (x:b0)
 | lV (cn:Nat) (x i:b0)
 | uH (n cn:Nat) (x i:b0)
 | mB (x i:b0)
 | Cn (agg:Bool) (n cn:Nat) (x i:b0)
 | lookup (nM:hg) (z:Value) (ok:Bool) (x k:b0)
 | mapUpdate (nM:hg) (m k x:b0)
 | mapEntry (nM:hg) (z:Value) (m k:b0)
 | entryStore (m s x:b0)
 | z6 (x:b0)
 | zp (it:b0)
 | extract (x:b0) (i:Nat)
 | call (f:FuncId) (args:List b0)
 | ka (f:b0) (args:List b0)
 | len (k:A5) (x:b0)
 | append (cn bytes:Nat) (s x:b0)
 | vM (e bytes:Nat) (s x:b0)
 | copy (cn:Nat) (d s:b0)
 | vW (z:List Value) (x:b0)
 | yM (x:b0)
 | min2 (x y:b0)
 | max2 (x y:b0)
 | bad (acj:String)
structure aE where
 dst:Option Nat
 guard:Option (Nat×Bool)
 op:bh
inductive n' where
 | slot (t:Nat)
 | cell (t:Nat) (agg:Bool) (n:Nat)
def plainCell:Value->Bool
 | .bool _ | .int .. | .string _ | .pointer none | .slice none 0 0 | .map none | .nilFunc | .nilIface=>true
 | _=>false
def w9:Value->Bool
 | .agg a=>a.toList.all plainCell
 | v=>plainCell v
def s':Nat:=1000000007
section compile
variable(P:Program)(G:Nat->Bool)
def rand:Operand->b0
 | .tmp t=>.t t
 | .const v=>if w9 v then .c v else .t s'
 | .global g=>if G g then .c (.pointer (some ⟨g,0,none⟩)) else .t s'
 | .func f=>.c (.func (.func f) #[] #[])
def lk(t:TypeId):Bool:=match P.underlying t with | some (.struct _) | some (.array _ _)=>true | _=>false
def known(t:TypeId):Bool:=(P.underlying t).isSome
def zeroOf(t:TypeId):Option Value:=match (P.info? t).bind (·.zero) with
 | some v=>if w9 v&&v.cells.size==P.cellsOf t&&known P t then some v else none
 | none=>none
def zeroCells(t:TypeId):Option (List Value):=(zeroOf P t).map (·.cells.toList)
def times(l:List Value):Nat->List Value
 | 0=>[]
 | n+1=>l++times l n
def lu(t:TypeId):Option hQ:=match P.underlying t with
 | some .bool=>some .b
 | some (.int _)=>some .i
 | some .string=>some .s
 | _=>none
def tf:List Field->Nat->Option (List hQ)
 | [],_=>some []
 | f::a,i=>if f.name != "_"&&f.offset==i then(match lu P f.type,tf a (i+1) with
   | some k,some l=>some (k::l)
   | _,_=>none) else none
def tH(t:TypeId):Option (List hQ):=match P.underlying t with
 | some (.struct a)=>if P.stoodInHeld t||P.eqGuardType P.depth t then none else tf P a.toList 0
 | _=>none
def isConst:Operand->Bool
 | .const _=>true
 | _=>false
def rl(t:TypeId)(x y:Operand):Option lL:=match P.underlying t with
 | some (.int _) | some .string=>some .bR
 | some .bool=>some .bool
 | some (.pointer _)=>some (.nil .ptr)
 | some (.slice _)=>some (.nil .gV)
 | some (.map ..)=>some (.nil .map)
 | some (.func ..)=>some (.nil .fn)
 | some (.interface _)=>some (.nil (.uG (isConst x||isConst y)))
 | some (.struct _)=>(tH P t).map .cells
 | _=>none
def jX(t:TypeId):Option hg:=match lu P t with
 | some k=>some (.one k)
 | none=>(tH P t).map .cells
def mL(o:Option bh)(s:String):bh:=o.getD (.bad s)
def gH(o:Oper):bh:=
 match o.op with
 | .move x | .assign x=>.dw (rand G x)
 | .pick c b d=>.pick (rand G c) (rand G b) (rand G d)
 | .alloc e=>mL ((zeroCells P e).map (.alloc e)) "alloc"
 | .box t x=>.box t (rand G x)
 | .build t b=>mL (do
  let z <-zeroCells P t
  match P.underlying t with
  | some (.struct a)=>do
    let c <-b.toList.mapM λ(i,x)=>(a[i]?).map λf=>(f.offset,P.cellsOf f.type,rand G x)
    if a.all (λf=>known P f.type) then pure (.build z c) else none
  | some (.array _ e)=>if known P e then pure (.build z (b.toList.map λ(i,x)=>(i*P.cellsOf e,P.cellsOf e,rand G x))) else none
  | _=>none) "build"
 | .buildSlice t b c=>mL (do
  let .slice e <-P.underlying t | none
  let z <-zeroCells P e
  if b*P.cellsOf e<=65536 then
   pure (.buildSlice (times z b) (P.cellsOf e) b (c.toList.map λ(i,x)=>(i*P.cellsOf e,P.cellsOf e,rand G x))) else none) "buildSlice"
 | .load t b=>if known P t then .load (lk P t) (P.cellsOf t) (rand G b) else .bad "load"
 | .store t b x=>if known P t then .store (P.cellsOf t) (rand G b) (rand G x) else .bad "store"
 | .nilCheck x=>.nilCheck (rand G x)
 | .binOp b t x y _=>match b with
   | .eql | .neq=>mL ((rl P t x y).map λk=>.bin b k (rand G x) (rand G y)) "eq"
   | _=>.bin b .bR (rand G x) (rand G y)
 | .unOp b _ x=>.un b (rand G x)
 | .convert s d x=>match P.underlying s,P.underlying d with
   | some (.int _),some (.int k)=>.conv (.int k) (rand G x)
   | some .string,some (.slice e)=>(match P.underlying e with | some (.int .u8)=>.conv .Ag (rand G x) | _=>.bad "conv")
   | some (.slice e),some .string=>(match P.underlying e with | some (.int .u8)=>.conv .E8 (rand G x) | _=>.bad "conv")
   | some .string,some .string=>.conv .id (rand G x)
   | _,_=>.bad "conv"
 | .makeInterface t x=>(match P.underlying t with | some (.interface _)=>.bad "mkIface" | some _=>.CB t (rand G x) | none=>.bad "mkIface")
 | .makeFunc fn first NW=>(match fn with
   | .func f=>if first.isEmpty then .uM f (NW.toList.map (rand G)) else .bad "makeFunc"
   | _=>.bad "makeFunc")
 | .makeMap _ r=>if r.isNone then .mkMap else .bad "makeMap"
 | .makeSlice t l c=>mL (do
  let .slice e <-P.underlying t | none
  let z <-zeroCells P e
  pure (.mkSlice z (P.bytesOf e) (rand G l) (rand G c))) "makeSlice"
 | .slice t x d b c=>match P.underlying t with
   | some .string=>if c.isSome then .bad "slStr" else .k2 (rand G x) (d.map (rand G)) (b.map (rand G))
   | some (.slice e)=>if known P e&&(b.isSome||!c.isSome) then .ji (P.cellsOf e) (rand G x) (d.map (rand G)) (b.map (rand G)) (c.map (rand G)) else .bad "type"
   | some (.array n e)=>if c.isSome||!known P e then .bad "slArr" else .Al n (P.cellsOf e) (rand G x) (d.map (rand G)) (b.map (rand G))
   | some (.pointer f)=>(match P.underlying f with
     | some (.array n e)=>if c.isSome||!known P e then .bad "slArr" else .Al n (P.cellsOf e) (rand G x) (d.map (rand G)) (b.map (rand G))
     | _=>.bad "slice")
   | _=>.bad "slice"
 | .fieldAddr t x f=>mL (do
  let .struct a <-P.underlying t | none
  let b <-a[f]?
  if known P b.type&&P.cellsOf b.type != 0 then pure (.fieldAddr b.offset (rand G x)) else none) "fieldAddr"
 | .field t x f=>mL (do
  let .struct a <-P.underlying t | none
  let b <-a[f]?
  if known P b.type then pure (.field (lk P b.type) b.offset (P.cellsOf b.type) (rand G x)) else none) "field"
 | .indexAddr t x i=>match P.underlying t with
   | some (.slice e)=>if known P e then .lV (P.cellsOf e) (rand G x) (rand G i) else .bad "type"
   | some (.array n e)=>if known P e then .uH n (P.cellsOf e) (rand G x) (rand G i) else .bad "type"
   | _=>.bad "indexAddr"
 | .index t x i=>match P.underlying t with
   | some .string=>.mB (rand G x) (rand G i)
   | some (.array n e)=>if known P e then .Cn (lk P e) n (P.cellsOf e) (rand G x) (rand G i) else .bad "index"
   | _=>.bad "index"
 | .lookup t x k b=>mL (do
  let .map pZ e <-P.underlying t | none
  let a <-jX P pZ
  let z <-zeroOf P e
  pure (.lookup a z b (rand G x) (rand G k))) "lookup"
 | .mapUpdate t m k x | .insert t m k x=>mL (do
  let .map pZ _ <-P.underlying t | none
  let a <-jX P pZ
  pure (.mapUpdate a (rand G m) (rand G k) (rand G x))) "mapUpdate"
 | .mapEntry t m k=>mL (do
  let .map pZ e <-P.underlying t | none
  let a <-jX P pZ
  let z <-zeroOf P e
  pure (.mapEntry a z (rand G m) (rand G k))) "mapEntry"
 | .entryStore _ m s x=>.entryStore (rand G m) (rand G s) (rand G x)
 | .range t x=>match P.underlying t with
   | some .string=>.z6 (rand G x)
   | _=>.bad "range"
 | .next b c=>if c then .zp (rand G b) else .bad "next"
 | .extract x i=>.extract (rand G x) i
 | .call c=>match c.callee with
   | .value (.func f)=>.call f (c.args.toList.map (rand G))
   | .value b=>.ka (rand G b) (c.args.toList.map (rand G))
   | .builtin b=>
     match b,c.args.toList,c.argTypes.toList with
     | .len,[x],t::_=>(match P.underlying t with
       | some .string=>.len .s (rand G x)
       | some (.slice _)=>.len .l (rand G x)
       | some (.map ..)=>.len .m (rand G x)
       | _=>.bad "len")
     | .append,[s,x],[t,u]=>(match P.underlying t,P.underlying u with
       | some (.slice e),some (.slice _)=>if(zeroOf P e).isSome&&Nat.ble (P.bytesOf e) 17179869184 then .append (P.cellsOf e) (P.bytesOf e) (rand G s) (rand G x) else .bad "append"
       | some (.slice e),some .string=>if(zeroOf P e).isSome&&Nat.ble (P.bytesOf e) 17179869184&&Nat.beq (P.cellsOf e) 1 then .vM e (P.bytesOf e) (rand G s) (rand G x) else if(zeroOf P e).isSome&&Nat.ble (P.bytesOf e) 17179869184 then .append (P.cellsOf e) (P.bytesOf e) (rand G s) (rand G x) else .bad "append"
       | _,_=>.bad "append")
     | .copy,[d,s],t::_=>(match P.underlying t with | some (.slice e)=>if known P e then .copy (P.cellsOf e) (rand G d) (rand G s) else .bad "copy" | _=>.bad "copy")
     | .clear,[x],t::_=>(match P.underlying t with
       | some (.slice e)=>mL ((zeroCells P e).map λz=>.vW z (rand G x)) "clear"
       | some (.map ..)=>.yM (rand G x)
       | _=>.bad "clear")
     | .min,[x,y],_=>.min2 (rand G x) (rand G y)
     | .max,[x,y],_=>.max2 (rand G x) (rand G y)
     | _,_,_=>.bad "builtin"
   | .invoke ..=>.bad "invoke"
 | _=>.bad "op"
end compile
def a7(e:Env):b0->Option Value
 | .t n=>e.get n
 | .c v=>some v
def eO(e:Env):List b0->Option (List Value)
 | []=>some []
 | r::a=>match a7 e r with
   | some v=>(match eO e a with
     | some l=>some (v::l)
     | none=>none)
   | none=>none
def kK(e:Env):List (Nat×Nat×b0)->Option (List (Nat×Nat×Value))
 | []=>some []
 | (i,n,r)::a=>match a7 e r with
   | some v=>(match kK e a with
     | some l=>some ((i,n,v)::l)
     | none=>none)
   | none=>none
def setCells(cs:List Value)(off:Nat)(aq:List Value):Option (List Value):=
 bif Nat.ble (off+aq.length) cs.length then some (cs.take off++(aq++cs.drop (off+aq.length))) else none
def bB(cs:List Value)(off n:Nat):Option (List Value):=
 bif Nat.ble (off+n) cs.length then some ((cs.drop off).take n) else none
def bA(l:List Value):Value:=.agg l.toArray
def ptr(b:Nat):Value:=.pointer (some ⟨b,0,none⟩)
def aR:Value:=.tuple #[]
def gx:Option Value->bf
 | some v=>.ret v
 | none=>.fail
def rowOf:bz->Option (List Value)
 | .cells a _=>some a
 | .ro a=>some a
 | _=>none
def rM(a:Bool)(off n:Nat)(cs:List Value):Option Value:=
 bif a then(match bB cs off n with | some l=>some (bA l) | none=>none) else cs[off]?
def mr(b:Bool)(n:Nat):Option Value->bf
 | some (.pointer (some a))=>.get a.block λx=>match rowOf x with
   | some c=>gx (rM b a.off n c)
   | none=>.fail
 | _=>.fail
def dd:Value->Bool
 | .agg _ | .tuple _=>false
 | _=>true
def putRow(a:Addr)(aq:List Value)(k:bf):bf:=
 .get a.block λx=>match x with
  | .cells b z=>bif aq.all dd then(match setCells b a.off aq with
    | some b=>.put a.block (.cells b z) k
    | none=>.fail) else .fail
  | _=>.fail
def nH(n:Nat):Option Value->Option Value->bf
 | some (.pointer (some a)),some v=>bif Nat.beq v.cells.size n then putRow a v.cells.toList (.ret aR) else .fail
 | _,_=>.fail
def dp(l:List UInt8):List Value:=l.map λb=>.int .u8 (b.toNat:Int)
def fz(cn:Nat)(v:Value)(k:List Value->Nat->bf):bf:=
 match v with
 | .slice none _ _=>k [] 0
 | .slice (some a) n _=>.get a.block λx=>match rowOf x with
   | some b=>(match bB b a.off (n*cn) with
     | some l=>k l n
     | none=>.fail)
   | none=>.fail
 | .string s=>bif Nat.beq cn 1 then k (dp s.data.toList) s.size else .fail
 | _=>.fail
def half:IntKind->Nat
 | .i8 | .u8=>128
 | .i16 | .u16=>32768
 | .i32 | .u32=>2147483648
 | .i64 | .u64=>9223372036854775808
def wr(k:IntKind)(n:Int):Int:=
 match n with
 | .ofNat m=>bif Nat.blt m (half k) then .ofNat m else k.wrap (.ofNat m)
 | n=>k.wrap n
def jA:Int->Int->Bool
 | .ofNat a,.ofNat b=>Nat.blt a b
 | .ofNat _,.negSucc _=>false
 | .negSucc _,.ofNat _=>true
 | .negSucc a,.negSucc b=>Nat.blt b a
def hS:Int->Int->Bool
 | .ofNat a,.ofNat b=>Nat.beq a b
 | .negSucc a,.negSucc b=>Nat.beq a b
 | _,_=>false
def ha(c:BinOp)(k:IntKind)(a b:Int):Option Value:=
 match c with
 | .add=>some (.int k (wr k (a+b)))
 | .sub=>some (.int k (wr k (a-b)))
 | .mul=>some (.int k (wr k (a*b)))
 | .quo=>bif hS b 0 then none else some (.int k (wr k (a.tdiv b)))
 | .rem=>bif hS b 0 then none else some (.int k (a.tmod b))
 | .and=>some (.int k (k.wrap (BitVec.ofInt k.bits a &&& BitVec.ofInt k.bits b).toNat))
 | .or=>some (.int k (k.wrap (BitVec.ofInt k.bits a ||| BitVec.ofInt k.bits b).toNat))
 | .xor=>some (.int k (k.wrap (BitVec.ofInt k.bits a ^^^ BitVec.ofInt k.bits b).toNat))
 | .andNot=>some (.int k (k.wrap (BitVec.ofInt k.bits a &&& ~~~ BitVec.ofInt k.bits b).toNat))
 | .eql=>some (.bool (hS a b))
 | .neq=>some (.bool (!hS a b))
 | .lss=>some (.bool (jA a b))
 | .leq=>some (.bool (!jA b a))
 | .gtr=>some (.bool (jA b a))
 | .geq=>some (.bool (!jA a b))
 | _=>none
def b1(s:ByteArray)(l h:Nat):ByteArray:=⟨⟨(s.data.toList.drop l).take (h-l)⟩⟩
def br(s t:ByteArray):ByteArray:=⟨⟨s.data.toList++t.data.toList⟩⟩
@[simp] theorem Dq(s:ByteArray)(l h:Nat):b1 s l h=s.extract l h:=by
  apply ByteArray.ext;rw[ByteArray.data_extract];apply Array.toList_inj.1;simp[b1]
@[simp] theorem ER(s t:ByteArray):br s t=s++t:=by
  apply ByteArray.ext;rw[ByteArray.data_append];apply Array.toList_inj.1;simp[br]
def tG(a:BinOp)(x y:ByteArray):Option Value:=
 match a with
 | .add=>bif Nat.ble (x.size+y.size) 4294967296 then some (.string (br x y)) else none
 | .eql=>some (.bool (x.toList==y.toList))
 | .neq=>some (.bool !(x.toList==y.toList))
 | .lss=>some (.bool (Op.bytesLess x.toList y.toList))
 | .leq=>some (.bool (Op.bytesLess x.toList y.toList||x.toList==y.toList))
 | .gtr=>some (.bool !(Op.bytesLess x.toList y.toList||x.toList==y.toList))
 | .geq=>some (.bool !(Op.bytesLess x.toList y.toList))
 | _=>none
def jD:hQ->Value->Value->Option Bool
 | .i,.int k a,.int b c=>if k=b then some (hS a c) else none
 | .s,.string a,.string b=>some (a.toList==b.toList)
 | .b,.bool a,.bool b=>some (a==b)
 | _,_,_=>none
def gI:List hQ->List Value->List Value->Option Bool
 | [],[],[]=>some true
 | k::a,b::x,c::y=>match jD k b c with
   | some true=>gI a x y
   | some false=>(match gI a x y with | some _=>some false | none=>none)
   | none=>none
 | _,_,_=>none
def kJ:sD->Value->Value->Option Bool
 | .ptr,.pointer none,.pointer b=>some b.isNone
 | .ptr,.pointer (some _),.pointer none=>some false
 | .gV,.slice none _ _,.slice b _ _=>some b.isNone
 | .gV,.slice (some _) _ _,.slice none _ _=>some false
 | .map,.map none,.map b=>some b.isNone
 | .map,.map (some _),.map none=>some false
 | .fn,.nilFunc,.nilFunc=>some true
 | .fn,.nilFunc,.func ..=>some false
 | .fn,.func ..,.nilFunc=>some false
 | .uG c,.nilIface,.nilIface=>bif c then some true else none
 | .uG _,.nilIface,.iface ..=>some false
 | .uG _,.iface ..,.nilIface=>some false
 | _,_,_=>none
def IP:Value->Value->Option Bool
 | .int k a,.int b c=>if k=b then some (hS a c) else none
 | .string a,.string b=>some (a.toList==b.toList)
 | _,_=>none
def k4(k:lL)(x y:Value):Option Bool:=
 match k with
 | .bR=>IP x y
 | .bool=>jD .b x y
 | .nil k=>kJ k x y
 | .cells a=>match x,y with | .agg b,.agg c=>gI a b.toList c.toList | _,_=>none
def tE(b:BinOp):Value->Value->Option Value
 | .int k a,.int _ (.ofNat n)=>(match b with
   | .shl=>some (.int k (wr k (a*2^(min n k.bits))))
   | _=>some (.int k (a.fdiv (2^(min n k.bits)))))
 | _,_=>none
def w8(a:BinOp):Value->Value->Option Value
 | .int k b,.int c d=>if k=c then ha a k b d else none
 | .string b,.string c=>tG a b c
 | _,_=>none
def binOp(a:BinOp)(k:lL)(x y:Value):Option Value:=
 match a with
 | .eql=>(match k4 k x y with | some b=>some (.bool b) | none=>none)
 | .neq=>(match k4 k x y with | some b=>some (.bool (!b)) | none=>none)
 | .shl=>tE .shl x y
 | .shr=>tE .shr x y
 | a=>w8 a x y
def unOp(a:UnOp)(x:Value):Option Value:=
 match a,x with
 | .neg,.int k n=>some (.int k (wr k (0-n)))
 | .xor,.int k n=>ha .xor k (if k.signed then -1 else k.max) n
 | .not,.bool b=>some (.bool !b)
 | _,_=>none
def c8:Option Value->Option Nat
 | some (.int _ (.ofNat m))=>some m
 | _=>none
def bytesOf:List Value->Option (List UInt8)
 | []=>some []
 | .int .u8 n::l=>(match bytesOf l with | some r=>some (UInt8.ofNat n.toNat::r) | none=>none)
 | _=>none
def ed(e:Env)(d:Nat):Option b0->Option Nat
 | none=>some d
 | some r=>c8 (a7 e r)
def jW(a:hg)(x y:Value):Option Bool:=
 match a with
 | .one k=>jD k x y
 | .cells b=>match x,y with | .agg a,.agg c=>gI b a.toList c.toList | _,_=>none
def findKey(a:hg)(k:Value):List (Value×Value×Nat)->Option (Option (Value×Nat))
 | []=>(match jW a k k with | some true=>some none | _=>none)
 | (b,v,n)::c=>match jW a k b with
   | some true=>some (some (v,n))
   | some false=>findKey a k c
   | none=>none
def xD(a:hg)(k x:Value):List (Value×Value×Nat)->Option (List (Value×Value×Nat))
 | []=>none
 | (b,v,n)::c=>match jW a k b with
   | some true=>some ((k,x,n)::c)
   | some false=>(match xD a k x c with | some r=>some ((b,v,n)::r) | none=>none)
   | none=>none
def DH(n:Nat)(x:Value):List (Value×Value×Nat)->Option (List (Value×Value×Nat))
 | []=>none
 | (k,v,m)::a=>bif Nat.beq n m then some ((k,x,m)::a) else(match DH n x a with | some r=>some ((k,v,m)::r) | none=>none)
def fill(z:List Value):List (Nat×Nat×Value)->Option (List Value)
 | []=>some z
 | (a,n,v)::b=>bif Nat.beq v.cells.toList.length n then(match setCells z a v.cells.toList with
   | some z=>fill z b
   | none=>none) else none
def nG(c:Conv)(v:Value):bf:=
 match c with
 | .int k=>(match v with | .int _ n=>.ret (.int k (wr k n)) | _=>.fail)
 | .id=>(match v with | .string s=>.ret (.string s) | _=>.fail)
 | .Ag=>(match v with
   | .string s=>.new (.cells (dp s.data.toList) (.n 1)) λb=>.ret (.slice (some ⟨b,0,none⟩) s.size s.size)
   | _=>.fail)
 | .E8=>(match v with
   | .slice ..=>fz 1 v λl _=>match bytesOf l with | some a=>.ret (.string ⟨a.toArray⟩) | none=>.fail
   | _=>.fail)
def jU(cn:Nat)(a:Option Addr)(l h m cap:Nat):bf:=
 bif Nat.ble l h&&Nat.ble h m&&Nat.ble m cap then(match a with
  | none=>.ret (.slice none (h-l) (m-l))
  | some a=>.get a.block λx=>match x with
    | .cells _ z=>bif Nat.beq z.val cn||Nat.beq z.val 0 then .ret (.slice (some ⟨a.block,a.off+l*cn,none⟩) (h-l) (m-l)) else .fail
    | .ro _=>.ret (.slice (some ⟨a.block,a.off+l*cn,none⟩) (h-l) (m-l))
    | _=>.fail) else .fail
def fj(cn bytes:Nat)(s:Value)(new:List Value)(n:Nat):bf:=
 match s with
 | .slice b a c=>
   bif Nat.beq n 0 then .ret (.slice b a c) else
   bif Nat.ble (a+n) c then(match b with
    | some d=>putRow ⟨d.block,d.off+a*cn,none⟩ new (.ret (.slice b (a+n) c))
    | none=>.fail)
   else bif Nat.ble ((a+n)*bytes) 17179869184&&Nat.ble 1 cn&&Nat.ble (a+n) 17179869184&&new.all dd then(match b with
    | some d=>.get d.block λx=>match x with
      | .cells e z=>bif Nat.beq z.val cn then(match bB e d.off (a*cn) with
       | some b=>.put d.block .dead (.new (.cells (b++new) (.n cn)) λb=>.ret (.slice (some ⟨b,0,none⟩) (a+n) (a+n)))
       | none=>.fail) else .fail
      | _=>.fail
    | none=>.new (.cells new (.n cn)) λb=>.ret (.slice (some ⟨b,0,none⟩) (a+n) (a+n))) else .fail
 | _=>.fail
def B0(e bytes:Nat)(s x:Value):bf:=
 match s,x with
 | .slice d a f,.string t=>
   bif Nat.ble 1 t.size&&(Nat.ble ((a+t.size)*bytes) 17179869184&&(Nat.ble (a+t.size) 17179869184&&Nat.beq f a)) then(match d with
    | none=>.new (.bytes e t.data.toList) λb=>.ret (.slice (some ⟨b,0,none⟩) (a+t.size) (a+t.size))
    | some b=>.get b.block λx=>match x with
      | .bytes g c=>bif Nat.beq g e&&(Nat.beq b.off 0&&Nat.beq a c.length) then
       .put b.block .dead (.new (.bytes e (c++t.data.toList)) λb=>.ret (.slice (some ⟨b,0,none⟩) (a+t.size) (a+t.size))) else .fail
      | _=>.fail) else .fail
 | _,_=>.fail
def B2(cn:Nat)(d:Value)(b:List Value)(n:Nat):bf:=
 match d with
 | .slice none _ _=>.ret (.int .i64 0)
 | .slice (some c) a _=>bif Nat.beq (Nat.min n a) 0 then .ret (.int .i64 0) else
  putRow c (b.take (Nat.min n a*cn)) (.ret (.int .i64 (Nat.min n a:Int)))
 | _=>.fail
def ur(a:hg)(z:Value)(ok:Bool)(k:Value):Option Value->bf
 | some (.map none)=>(match jW a k k with
   | some true=>.ret (bif ok then .tuple #[z,.bool false] else z)
   | _=>.fail)
 | some (.map (some r))=>.get r λx=>match x with
   | .map b _=>(match findKey a k b with
     | some (some (v,_))=>.ret (bif ok then .tuple #[v,.bool true] else v)
     | some none=>.ret (bif ok then .tuple #[z,.bool false] else z)
     | none=>.fail)
   | _=>.fail
 | _=>.fail
def B6(b:hg)(k x:Value):Option Value->bf
 | some (.map (some r))=>.get r λy=>match y with
   | .map a c=>(match findKey b k a with
     | some (some _)=>(match xD b k x a with
       | some a=>.put r (.map a c) (.ret aR)
       | none=>.fail)
     | some none=>.put r (.map (a++[(k,x,c)]) (c+1)) (.ret aR)
     | none=>.fail)
   | _=>.fail
 | _=>.fail
def B3(b:hg)(z k:Value):Option Value->bf
 | some (.map (some r))=>.get r λy=>match y with
   | .map a c=>(match findKey b k a with
     | some (some (v,n))=>(match xD b k v a with
       | some a=>.put r (.map a c) (.ret (.tuple #[v,.int .i64 (n:Int)]))
       | none=>.fail)
     | some none=>.put r (.map (a++[(k,z,c)]) (c+1)) (.ret (.tuple #[z,.int .i64 (c:Int)]))
     | none=>.fail)
   | _=>.fail
 | _=>.fail
def B5(n:Nat)(x:Value):Option Value->bf
 | some (.map (some r))=>.get r λy=>match y with
   | .map a c=>(match DH n x a with
     | some a=>.put r (.map a c) (.ret aR)
     | none=>.fail)
   | _=>.fail
 | _=>.fail
def B4:Option Value->bf
 | some (.pointer (some b))=>.get b.block λx=>match x with
   | .iter s a=>bif Nat.beq b.off 0 then(bif Nat.blt a s.size then
    .put b.block (.iter s (a+(Utf8.decode s a).2)) (.ret (.tuple #[.bool true,.int .i64 (a:Int),.int .i32 (Utf8.decode s a).1]))
    else .ret (.tuple #[.bool false])) else .fail
   | _=>.fail
 | _=>.fail
def y1(z:List Value):Option Value->bf
 | some (.slice none _ _)=>.ret aR
 | some (.slice (some a) n _)=>bif Nat.beq n 0 then .ret aR else putRow a (times z n) (.ret aR)
 | _=>.fail
def B1:Option Value->bf
 | some (.map none)=>.ret aR
 | some (.map (some r))=>.get r λx=>match x with
   | .map _ c=>.put r (.map [] c) (.ret aR)
   | _=>.fail
 | _=>.fail
def sU:A5->Option Value->bf
 | .s,some (.string s)=>.ret (.int .i64 (s.size:Int))
 | .l,some (.slice _ n _)=>.ret (.int .i64 (n:Int))
 | .m,some (.map none)=>.ret (.int .i64 0)
 | .m,some (.map (some r))=>.get r λx=>match x with
   | .map a _=>.ret (.int .i64 (a.length:Int))
   | _=>.fail
 | _,_=>.fail
def rh(cn:Nat):Option Value->Option Nat->bf
 | some (.slice (some a) b _),some i=>bif Nat.blt i b then .ret (.pointer (some ⟨a.block,a.off+i*cn,none⟩)) else .fail
 | _,_=>.fail
def rf(n cn:Nat):Option Value->Option Nat->bf
 | some (.pointer (some a)),some i=>bif Nat.blt i n then .ret (.pointer (some ⟨a.block,a.off+i*cn,none⟩)) else .fail
 | _,_=>.fail
def ri:Option Value->Option Nat->bf
 | some (.string s),some i=>(match s.data.toList[i]? with | some b=>.ret (.int .u8 (b.toNat:Int)) | none=>.fail)
 | _,_=>.fail
def sT(a:Bool)(n cn:Nat):Option Value->Option Nat->bf
 | some (.agg b),some i=>bif Nat.blt i n then gx (rM a (i*cn) cn b.toList) else .fail
 | _,_=>.fail
def oE:Option Value->Option Nat->Option (Nat->Option Nat)->bf
 | some (.string s),some l,some h=>(match h s.size with
   | some h=>bif Nat.ble l h&&Nat.ble h s.size then .ret (.string (b1 s l h)) else .fail
   | none=>.fail)
 | _,_,_=>.fail
def rj(n cn:Nat):Option Value->Option Nat->Option Nat->bf
 | some (.pointer (some a)),some l,some h=>bif Nat.ble l h&&Nat.ble h n then .ret (.slice (some ⟨a.block,a.off+l*cn,none⟩) (h-l) (n-l)) else .fail
 | _,_,_=>.fail
def pU(z:List Value)(bytes:Nat):Option Nat->Option Nat->bf
 | some l,some c=>bif Nat.ble l c&&Nat.ble c 1073741824&&Nat.ble (bytes*c) 17179869184 then
  .new (.cells (times z c) (.n z.length)) λb=>.ret (.slice (some ⟨b,0,none⟩) l c) else .fail
 | _,_=>.fail
def mu(c:Bool):Option Value->Option Value->bf
 | some (.int k a),some (.int _ b)=>.ret (.int k (bif (bif c then jA a b else jA b a) then b else a))
 | _,_=>.fail
def dC(x:Option Value)(k:Value->bf):bf:=match x with | some v=>k v | none=>.fail
def bh.J(e:Env):bh->bf
 | .dw x=>gx (a7 e x)
 | .pick c a b=>dC (a7 e c) fun
   | .bool true=>gx (a7 e a)
   | .bool false=>gx (a7 e b)
   | _=>.fail
 | .alloc t z=>.new (.cells z (.t t)) λb=>.ret (ptr b)
 | .box t x=>dC (a7 e x) λv=>.new (.cells v.cells.toList (.t t)) λb=>.ret (ptr b)
 | .build z a=>(match kK e a with
   | some l=>(match fill z l with | some a=>.ret (bA a) | none=>.fail)
   | none=>.fail)
 | .buildSlice z b a c=>(match kK e c with
   | some l=>(match fill z l with
     | some c=>.new (.cells c (.n b)) λb=>.ret (.slice (some ⟨b,0,none⟩) a a)
     | none=>.fail)
   | none=>.fail)
 | .load a n b=>mr a n (a7 e b)
 | .store n a x=>nH n (a7 e a) (a7 e x)
 | .nilCheck x=>dC (a7 e x) fun
   | .pointer (some a)=>.ret (.pointer (some a))
   | _=>.fail
 | .bin a k x y=>dC (a7 e x) λb=>dC (a7 e y) λc=>gx (binOp a k b c)
 | .un a x=>dC (a7 e x) λb=>gx (unOp a b)
 | .conv c x=>dC (a7 e x) (nG c)
 | .CB t x=>dC (a7 e x) λv=>.ret (.iface t v)
 | .uM f a=>(match eO e a with | some l=>.ret (.func (.func f) #[] l.toArray) | none=>.fail)
 | .mkMap=>.new (.map [] 0) λb=>.ret (.map (some b))
 | .mkSlice z a l c=>pU z a (c8 (a7 e l)) (c8 (a7 e c))
 | .k2 x a b=>oE (a7 e x) (ed e 0 a) (some λn=>ed e n b)
 | .ji b x c d f=>dC (a7 e x) fun
   | .slice g h a=>(match ed e 0 c,ed e h d,ed e a f with
     | some l,some h,some m=>jU b g l h m a
     | _,_,_=>.fail)
   | _=>.fail
 | .Al n a x b c=>rj n a (a7 e x) (ed e 0 b) (ed e n c)
 | .fieldAddr b x=>dC (a7 e x) fun
   | .pointer (some a)=>.ret (.pointer (some ⟨a.block,a.off+b,none⟩))
   | _=>.fail
 | .field a b n x=>dC (a7 e x) fun
   | .agg c=>gx (rM a b n c.toList)
   | _=>.fail
 | .lV a x i=>rh a (a7 e x) (c8 (a7 e i))
 | .uH n a x i=>rf n a (a7 e x) (c8 (a7 e i))
 | .mB x i=>ri (a7 e x) (c8 (a7 e i))
 | .Cn a n b x i=>sT a n b (a7 e x) (c8 (a7 e i))
 | .lookup a z b x k=>dC (a7 e k) λk=>ur a z b k (a7 e x)
 | .mapUpdate a m k x=>dC (a7 e k) λk=>dC (a7 e x) λx=>B6 a k x (a7 e m)
 | .mapEntry a z m k=>dC (a7 e k) λk=>B3 a z k (a7 e m)
 | .entryStore m s x=>(match c8 (a7 e s) with | some n=>dC (a7 e x) λx=>B5 n x (a7 e m) | none=>.fail)
 | .z6 x=>dC (a7 e x) fun
   | .string s=>.new (.iter s 0) λb=>.ret (ptr b)
   | _=>.fail
 | .zp a=>B4 (a7 e a)
 | .extract x i=>dC (a7 e x) fun
   | .tuple a=>gx a.toList[i]?
   | _=>.fail
 | .len k x=>sU k (a7 e x)
 | .append a b s x=>dC (a7 e x) λx=>dC (a7 e s) λs=>fz a x λc n=>fj a b s c n
 | .vM a b s x=>dC (a7 e x) λx=>dC (a7 e s) λs=>B0 a b s x
 | .copy a d s=>dC (a7 e s) λs=>dC (a7 e d) λd=>fz a s λb n=>B2 a d b n
 | .vW z x=>y1 z (a7 e x)
 | .yM x=>B1 (a7 e x)
 | .min2 x y=>mu false (a7 e x) (a7 e y)
 | .max2 x y=>mu true (a7 e x) (a7 e y)
 | _=>.fail
def bh.run(K:cv)(ah:Perm)(e:Env)(H:ae):bh->Option (Value×ae)
 | .call f a=>(match eO e a with
   | some l=>K ah f l H
   | none=>none)
 | .ka a b=>(match a7 e a with
   | some (.func (.func f) _ c)=>(match eO e b with
     | some l=>K ah f (l++c.toList) H
     | none=>none)
   | _=>none)
 | o=>(o.J e).run ah H
def putDst(e:Env)(d:Option Nat)(v:Value):Env:=
 match d with
 | some d=>e.set v d
 | none=>e
def aE.wanted(o:aE)(e:Env):Option Bool:=
 match o.guard with
 | none=>some true
 | some (j,a)=>match e.get j with
   | some (.bool b)=>some (b==a)
   | some _=>some false
   | none=>none
def aE.run(K:cv)(ah:Perm)(o:aE)(e:Env)(H:ae):Option (Value×ae):=
 match o.wanted e with
 | some true=>o.op.run K ah e H
 | some false=>some (aR,H)
 | none=>none
def ke(K:cv)(ah:Perm):List aE->Env->ae->Option (Env×ae)
 | [],e,H=>some (e,H)
 | o::a,e,H=>match o.run K ah e H with
   | some (v,H)=>ke K ah a (putDst e o.dst v) H
   | none=>none
end Go.Dam
namespace Go.Dam
open Go
def b0.fN:b0->List Nat
 | .t n=>[n]
 | .c _=>[]
def wZ:Option b0->List Nat
 | some r=>r.fN
 | none=>[]
def bh.fN:bh->List Nat
 | .dw x | .box _ x | .load _ _ x | .nilCheck x | .un _ x | .conv _ x | .CB _ x | .fieldAddr _ x | .field _ _ _ x | .z6 x | .zp x | .extract x _
 | .len _ x | .vW _ x | .yM x=>x.fN
 | .pick a b c | .mapUpdate _ a b c | .entryStore a b c=>a.fN++(b.fN++c.fN)
 | .alloc .. | .mkMap | .bad _=>[]
 | .build _ u1 | .buildSlice _ _ _ u1=>u1.flatMap λp=>p.2.2.fN
 | .store _ a b | .bin _ _ a b | .mkSlice _ _ a b | .lV _ a b | .uH _ _ a b | .mB a b | .Cn _ _ _ a b | .lookup _ _ _ a b | .mapEntry _ _ a b
 | .append _ _ a b | .vM _ _ a b | .copy _ a b | .min2 a b | .max2 a b=>a.fN++b.fN
 | .uM _ l | .call _ l=>l.flatMap b0.fN
 | .ka f l=>f.fN++l.flatMap b0.fN
 | .k2 x a b | .Al _ _ x a b=>x.fN++(wZ a++wZ b)
 | .ji _ x a b c=>x.fN++(wZ a++(wZ b++wZ c))
def bh.rd:bh->Bool
 | .load .. | .ji .. | .conv .. | .lookup .. | .len ..=>true
 | _=>false
def bh.md:bh->Bool
 | .store .. | .append .. | .vM .. | .copy .. | .vW .. | .yM .. | .mapUpdate .. | .mapEntry .. | .entryStore .. | .zp ..=>true
 | _=>false
def bh.ho:bh->Bool
 | .alloc .. | .box .. | .buildSlice .. | .mkMap | .mkSlice .. | .conv .Ag _ | .z6 .. | .append .. | .vM ..=>true
 | _=>false
def bh.eD:bh->Bool
 | .call .. | .ka ..=>true
 | _=>false
def aE.looks(o:aE):List Nat:=(match o.guard with | some (j,_)=>[j] | none=>[])++o.op.fN
def Bi(x y:aE):Bool:=
 (match x.dst with | some d=>!y.looks.contains d&&y.dst != some d | none=>true)&&(match y.dst with | some d=>!x.looks.contains d | none=>true)
def w5(i j:Nat)(x y:aE):Option (List (Nat×Nat)):=
 bif Bi x y&&!x.op.eD&&!(y.op.eD&&x.op.md) then
  some ((bif (x.op.md||x.op.eD||x.op.ho)&&(y.op.rd||y.op.md||y.op.eD) then[(i,j)] else[])++(bif (y.op.md||y.op.eD||y.op.ho)&&(x.op.rd||x.op.md||x.op.eD) then[(j,i)] else[]))
 else none
def zD(du:Nat->Nat->Bool)(a:Nat)(j:Nat)(y:aE):List (Nat×aE)->Nat->Option (List (Nat×Nat))
 | [],_=>some []
 | x::b,i=>bif Nat.blt i j then(bif du x.1 a then zD du a j y b (i+1) else
    match w5 i j x.2 y with
    | some l=>(match zD du a j y b (i+1) with | some r=>some (l++r) | none=>none)
    | none=>none) else some []
def zC(du:Nat->Nat->Bool)(all:List (Nat×aE)):List (Nat×aE)->Nat->Option (List (Nat×Nat))
 | [],_=>some []
 | y::a,j=>match zD du y.1 j y.2 all 0 with
   | some l=>(match zC du all a (j+1) with | some r=>some (l++r) | none=>none)
   | none=>none
def re(a:Array Oper):Bool:=a.toList.zipIdx.all λ(o,j)=>o.after.all λe=>!Region.binds .any e||e.on<j
def Au(o:aE):Bool:=o.op.rd||o.op.md||o.op.eD||o.op.ho
def wh(du:Nat->Nat->Bool)(a j:Nat):List (Nat×aE)->Nat->Bool
 | [],_=>true
 | x::b,i=>(Nat.beq i j||!Au x.2||(bif Nat.blt i j then du x.1 a else du a x.1))&&wh du a j b (i+1)
def wg(du:Nat->Nat->Bool)(all:List (Nat×aE)):List (Nat×aE)->Nat->List Bool
 | [],_=>[]
 | y::a,j=>wh du y.1 j all 0::wg du all a (j+1)
def Jf(du:Nat->Nat->Bool)(an:List (Nat×aE)):Nat->List Nat->List Nat
 | 0,done=>done.reverse
 | n+1,done=>
   let a:=an.filter λx=>!done.contains x.1&&an.all λy=>!du y.1 x.1||done.contains y.1
   match a.find? (λx=>!x.2.op.eD),a.head? with
   | some x,_=>Jf du an n (x.1::done)
   | none,some x=>Jf du an n (x.1::done)
   | none,none=>done.reverse
structure lK where
 ord:List Nat
 fixed:List Bool
 lq:List (Nat×Nat)
def b8(an:List aE)(a:List Nat):List (Nat×aE):=a.filterMap λi=>(an[i]?).map λo=>(i,o)
def BL(d:Array Oper)(an:List aE):Option lK:=
 let e:=Region.before d
 let c:=λi j=>(e.getD j 0).testBit i
 let b:=Jf c (b8 an (List.range an.length)) an.length []
 let a:=b8 an b
 if re d&&decide b.Nodup&&(List.range an.length).all (b.contains ·)&&a.length==an.length then(match zC c a a 0 with
  | some l=>some ⟨b,wg c a a 0,l⟩
  | none=>none) else none
def bf.runT(ah:Perm):bf->ae->Option (Value×ae×List Nat×List Nat)
 | .ret v,H=>some (v,H,[],[])
 | .fail,_=>none
 | .get b k,H=>match H.get b with
   | some x=>(match (k x).runT ah H with | some (v,H,f,m)=>some (v,H,b::f,m) | none=>none)
   | none=>none
 | .put b x k,H=>bif ah.may b then(match k.runT ah (H.put b x) with | some (v,H,f,m)=>some (v,H,f,b::m) | none=>none) else none
 | .new x k,H=>match (k (ah.pick H)).runT ah (ah.make H x) with
   | some (v,a,f,m)=>some (v,a,f,ah.pick H::m)
   | none=>none
def dj(ah:Perm):List Value->List Nat
 | []=>[]
 | .pointer (some a)::l=>bif ah.may a.block then a.block::dj ah l else dj ah l
 | _::l=>dj ah l
def bh.uB(ah:Perm)(e:Env):bh->List Nat
 | .call _ a=>(match eO e a with | some l=>dj ah l | none=>[])
 | .ka _ a=>(match eO e a with | some l=>dj ah l | none=>[])
 | _=>[]
def bh.runT(K:cv)(ah:Perm)(ct:Bool)(e:Env)(H:ae)(o:bh):Option (Value×ae×List Nat×List Nat):=
 bif o.eD then bif ct then(match o.run K ⟨ah.ah,ah.ok,none⟩ e H with | some (v,a)=>some (v,a,[],[]) | none=>none) else(match o.run K ⟨H.next,o.uB ah e,none⟩ e H with | some (v,a)=>some (v,a,[],o.uB ah e) | none=>none)
 else(o.J e).runT ah H
def aE.runT(K:cv)(ah:Perm)(ct:Bool)(o:aE)(e:Env)(H:ae):Option (Value×ae×List Nat×List Nat):=
 match o.wanted e with
 | some true=>o.op.runT K ah ct e H
 | some false=>some (aR,H,[],[])
 | none=>none
structure Rec where
 sW:List Nat
 oQ:List Nat
 heap:ae
 val:Value
 again:ae->Option Value
def ft(H:ae)(b:Bool)(n:Nat):Option Value->Option Value
 | some (.pointer (some a))=>match H.get a.block with
   | some x=>(match rowOf x with | some c=>rM b a.off n c | none=>none)
   | none=>none
 | _=>none
def aE.again(o:aE)(e:Env)(H:ae):Option Value:=
 match o.wanted e,o.op with
 | some true,.load a n b=>ft H a n (a7 e b)
 | _,_=>none
def jV(K:cv)(ah:Perm):List aE->Nat->List Bool->Env->ae->Option (Env×ae×List Rec)
 | [],_,_,e,H=>some (e,H,[])
 | o::d,b,c,e,H=>match H.get b,o.runT K ⟨ah.ah,ah.ok,some b⟩ (c.headD false) e H with
   | none,some (v,a,f,m)=>(match jV K ah d (b+1) c.tail (putDst e o.dst v) a with
     | some (b,a,l)=>some (b,a,⟨f,m,H,v,o.again e⟩::l)
     | none=>none)
   | _,_=>none
def c6(l r:List Nat):Bool:=l.all λb=>!r.contains b
def yL:Value->Value->Bool
 | .bool a,.bool b=>a==b
 | .int k a,.int b c=>decide (k=b)&&hS a c
 | .string a,.string b=>a.data==b.data
 | .pointer none,.pointer none=>true
 | .pointer (some ⟨a,i,none⟩),.pointer (some ⟨b,j,none⟩)=>Nat.beq a b&&Nat.beq i j
 | .slice none n c,.slice none m d=>Nat.beq n m&&Nat.beq c d
 | .slice (some ⟨a,i,none⟩) n c,.slice (some ⟨b,j,none⟩) m d=>Nat.beq a b&&Nat.beq i j&&(Nat.beq n m&&Nat.beq c d)
 | .map none,.map none=>true
 | .map (some a),.map (some b)=>Nat.beq a b
 | .nilFunc,.nilFunc=>true
 | .nilIface,.nilIface=>true
 | _,_=>false
def vV:List Value->List Value->Bool
 | [],[]=>true
 | a::x,b::y=>yL a b&&vV x y
 | _,_=>false
def ni:Value->Value->Bool
 | .agg a,.agg b=>vV a.toList b.toList
 | a,b=>yL a b
def tB(a:ae->Option Value)(v:Value)(H:ae):Bool:=
 match a H with
 | some u=>ni u v
 | none=>false
def DR(l:List Rec)(H:ae)(r:Rec):Bool:=(l.all λx=>tB r.again r.val x.heap)&&tB r.again r.val H
def b3(l:List Rec)(H:ae)(c:List (Nat×Nat)):Bool:=
 c.all λ(i,j)=>match l[i]?,l[j]? with
  | some x,some y=>c6 x.oQ y.oQ&&(c6 x.oQ y.sW||DR l H y)
  | _,_=>false
def bZ(l:List Rec)(aK:Nat):List Rec->Nat->Bool
 | [],_=>true
 | r::a,q=>(r.sW.all λb=>Nat.blt b aK||Nat.ble (aK+l.length) b||Nat.beq b (aK+q)||(Nat.blt b (aK+q)&&(match l[b-aK]? with | some x=>x.oQ.contains b | none=>false)))&&bZ l aK a (q+1)
def rm(K:cv)(ah:Perm)(a:List aE)(b:Option lK)(e:Env)(H:ae):Option (Env×ae):=
 match b with
 | some c=>bif Nat.ble ah.ah H.next then(match jV K ah ((b8 a c.ord).map (·.2)) H.next c.fixed e ⟨H.t,H.next+a.length⟩ with
   | some (e,a,l)=>bif b3 l a c.lq&&bZ l H.next l 0 then some (e,a) else none
   | none=>none) else none
 | none=>none
inductive aG where
 | skip
 | bs (ops:List aE)
 | draw (ops:List aE) (acY:Option lK)
 | seq (a b:aG)
 | cond (c:b0) (a b:aG)
 | block (id:Nat) (b:aG)
 | loop (b:aG)
 | exit (id:Nat)
 | ret
 | bad (acj:String)
structure bg where
 kh:Nat
 body:aG
 res:List n'
section compile
variable(P:Program)(G:Nat->Bool)
def calm(o:Oper):Bool:=match o.op with
 | .call _=>true
 | _=>!(gH P G o).eD
def p9(n:Nat)(a:Array Oper)(o:Oper):Bool:=
 (match o.dst with | some d=>decide (d<n) | none=>true)&&(match o.guard with | some (j,_)=>((a[j]?).bind (·.dst)).isSome | none=>true)&&calm P G o
def e3(n:Nat)(a:Array Oper)(o:Oper):aE:=
 if p9 P G n a o then{dst:=o.dst,guard:=o.guard.map λ(j,b)=>((((a[j]?).bind (·.dst)).getD 0),b),op:=gH P G o} else{dst:=none,guard:=none,op:=.bad "slot"}
def kF(n:Nat)(a:Array Oper):List aE:=a.toList.map (e3 P G n a)
def iC(n:Nat):Code->aG
 | .skip=>.skip
 | .region _ a false=>.bs (kF P G n a)
 | .region _ a true=>.draw (kF P G n a) (BL a (kF P G n a))
 | .seq a b=>.seq (iC n a) (iC n b)
 | .cond c a b=>.cond (rand G c) (iC n a) (iC n b)
 | .block id b=>.block id (iC n b)
 | .loop b=>.loop (iC n b)
 | .exit id=>.exit id
 | .ret=>.ret
 | _=>.bad "code"
def Jh:ResultVar->Bool
 | .cell _ t=>known P t
 | .tmp _=>true
def Bq:ResultVar->n'
 | .tmp t=>.slot t
 | .cell a t=>.cell a (lk P t) (P.cellsOf t)
def ox(f:Func):bg:=
 {kh:=f.ntmps,
  body:=(match f.body with | some c=>if f.ntmps<=s'/\f.results.all (Jh P)=true then iC P G f.ntmps c else .bad "wide" | none=>.bad "nobody"),
  res:=f.results.toList.map (Bq P)}
end compile
inductive e1 where
 | normal | exit (id:Nat) | ret
abbrev Out:=Option (e1×Env×ae)
def iter(f:Env->ae->Out):Nat->Env->ae->Out
 | 0,_,_=>none
 | n+1,e,H=>match f e H with
   | some (.normal,e,H)=>iter f n e H
   | r=>r
def eval(K:cv)(ah:Perm)(a:Nat):aG->Env->ae->Out
 | .skip,e,H=>some (.normal,e,H)
 | .bs b,e,H=>match ke K ah b e H with
   | some (e,H)=>some (.normal,e,H)
   | none=>none
 | .draw b c,e,H=>match rm K ah b c e H with
   | some (e,H)=>some (.normal,e,H)
   | none=>none
 | .seq b c,e,H=>match eval K ah a b e H with
   | some (.normal,e,H)=>eval K ah a c e H
   | r=>r
 | .cond c b d,e,H=>match a7 e c with
   | some (.bool true)=>eval K ah a b e H
   | some (.bool false)=>eval K ah a d e H
   | _=>none
 | .block id b,e,H=>match eval K ah a b e H with
   | some (.exit i,e,H)=>bif Nat.beq i id then some (.normal,e,H) else some (.exit i,e,H)
   | r=>r
 | .loop b,e,H=>iter (eval K ah a b) a e H
 | .exit id,e,H=>some (.exit id,e,H)
 | .ret,e,H=>some (.ret,e,H)
 | .bad _,_,_=>none
def pV:List Value->Nat->Env->Env
 | [],_,e=>e
 | v::l,n,e=>pV l (n+1) (e.set v n)
def lE(e:Env)(H:ae):List n'->Option (List Value)
 | []=>some []
 | r::a=>match (match r with | .slot t=>e.get t | .cell t g n=>ft H g n (e.get t)) with
   | some v=>(match lE e H a with | some l=>some (v::l) | none=>none)
   | none=>none
def iw:List Value->Value
 | [v]=>v
 | l=>.tuple l.toArray
def wc(K:cv)(ah:Perm)(a:Nat)(F:bg)(args:List Value)(H:ae):Option (Value×ae):=
 bif !Nat.ble args.length F.kh then none else match eval K ah a F.body (pV args 0 .ag) H with
 | some (.normal,e,H) | some (.ret,e,H)=>(match lE e H F.res with
   | some l=>some (iw l,H)
   | none=>none)
 | _=>none
def runK(T:Nat->Option bg)(S:cv->cv)(a:Nat):Nat->cv
 | 0=>λ_ _ _ _=>none
 | n+1=>S λb f c H=>match T f with
   | some F=>wc (runK T S a n) b a F c H
   | none=>none
def mR:Nat->Nat->List Bool
 | 0,_=>[]
 | f+1,k=>bif Nat.beq k 0 then[] else bif Nat.beq (Nat.mod k 2) 1 then true::mR f (Nat.div k 2) else false::mR f (Nat.sub (Nat.div k 2) 1)
structure vw where
 g:Env->(Value->Out)->Out
structure vF where
 s:Value->Env->Env
structure sE where
 f:cv->Perm->Env->ae->(Value->ae->Out)->Out
structure MU where
 f:cv->Perm->Env->ae->(Env->ae->Out)->Out
structure Mt where
 f:cv->Perm->Nat->Env->ae->(e1->Env->ae->Out)->Out
structure Ew where
 f:Value->Value->(Value->Out)->Out
structure MK where
 f:Env->(List Value->Out)->Out
noncomputable def cb{α:Type}(o:Option α)(k:α->Out):Out:=@Option.rec α (λ_=>Out) none k o
noncomputable def O':List Bool->vw:=@List.rec Bool (λ_=>vw) ⟨λe k=>@b6.rec Value (λ_=>Out) none (λ_ v _ _ _=>@Option.rec Value (λ_=>Out) none k v) e⟩
 (λb _ ih=>@Bool.rec (λ_=>vw) ⟨λe k=>@b6.rec Value (λ_=>Out) none (λ_ _ r _ _=>ih.g r k) e⟩ ⟨λe k=>@b6.rec Value (λ_=>Out) none (λl _ _ _ _=>ih.g l k) e⟩ b)
noncomputable def SW:List Bool->vF:=@List.rec Bool (λ_=>vF) ⟨λx=>@b6.rec Value (λ_=>Env) (.ao .ag (some x) .ag) (λl _ r _ _=>.ao l (some x) r)⟩
 (λb _ ih=>@Bool.rec (λ_=>vF) ⟨λx=>@b6.rec Value (λ_=>Env) (.ao .ag none (ih.s x .ag)) (λl v r _ _=>.ao l v (ih.s x r))⟩ ⟨λx=>@b6.rec Value (λ_=>Env) (.ao (ih.s x .ag) none .ag) (λl v r _ _=>.ao (ih.s x l) v r)⟩ b)
noncomputable def xI(n:Nat):vw:=O' (mR (n+1) n)
noncomputable def DN(n:Nat):vF:=SW (mR (n+1) n)
noncomputable def eb:b0->vw:=@b0.rec (λ_=>vw) xI (λv=>⟨λ_ k=>k v⟩)
noncomputable def IT:Option Nat->vF:=@Option.rec Nat (λ_=>vF) ⟨λ_ e=>e⟩ DN
noncomputable def B8:List b0->MK:=@List.rec b0 (λ_=>MK) ⟨λ_ k=>k []⟩ (λr _ ih=>⟨λe k=>(eb r).g e λv=>ih.f e λl=>k (v::l)⟩)
noncomputable def yQ(v:Value)(a:IntKind->Int->Out)(aD:ByteArray->Out):Out:=
 @Value.rec (λ_=>Out) (λ_=>PUnit) (λ_=>PUnit) (λ_=>none) a (λ_ _=>none) (λ_ _ _=>none) aD (λ_=>none) (λ_ _ _=>none) (λ_=>none) (λ_=>none) (λ_ _ _ _ _=>none) none (λ_ _ _=>none) none (λ_ _=>none) (λ_ _=>none) (λ_ _=>⟨⟩) ⟨⟩ (λ_ _ _ _=>⟨⟩) v
noncomputable def sQ(v:Value)(a:IntKind->Int->Out):Out:=yQ v a λ_=>none
noncomputable def um(v:Value)(aD:ByteArray->Out):Out:=yQ v (λ_ _=>none) aD
noncomputable def v7(v:Value)(a:Bool->Out):Out:=
 @Value.rec (λ_=>Out) (λ_=>PUnit) (λ_=>PUnit) a (λ_ _=>none) (λ_ _=>none) (λ_ _ _=>none) (λ_=>none) (λ_=>none) (λ_ _ _=>none) (λ_=>none) (λ_=>none) (λ_ _ _ _ _=>none) none (λ_ _ _=>none) none (λ_ _=>none) (λ_ _=>none) (λ_ _=>⟨⟩) ⟨⟩ (λ_ _ _ _=>⟨⟩) v
noncomputable def On(v:Value)(a:Option Addr->Out)(b:Option Addr->Nat->Nat->Out):Out:=
 @Value.rec (λ_=>Out) (λ_=>PUnit) (λ_=>PUnit) (λ_=>none) (λ_ _=>none) (λ_ _=>none) (λ_ _ _=>none) (λ_=>none) a b (λ_=>none) (λ_=>none) (λ_ _ _ _ _=>none) none (λ_ _ _=>none) none (λ_ _=>none) (λ_ _=>none) (λ_ _=>⟨⟩) ⟨⟩ (λ_ _ _ _=>⟨⟩) v
noncomputable def pS(v:Value)(k:Addr->Out):Out:=On v (λo=>cb o k) (λ_ _ _=>none)
noncomputable def BR(v:Value)(k:Option Addr->Nat->Nat->Out):Out:=On v (λ_=>none) k
noncomputable def Ok(v:Value)(k:Array Value->Out)(b:Array Value->Out):Out:=
 @Value.rec (λ_=>Out) (λ_=>PUnit) (λ_=>PUnit) (λ_=>none) (λ_ _=>none) (λ_ _=>none) (λ_ _ _=>none) (λ_=>none) (λ_=>none) (λ_ _ _=>none) (λ_=>none) (λ_=>none) (λ_ _ _ _ _=>none) none (λ_ _ _=>none) none (λa _=>k a) (λa _=>b a) (λ_ _=>⟨⟩) ⟨⟩ (λ_ _ _ _=>⟨⟩) v
noncomputable def v8(v:Value)(k:Nat->Out):Out:=sQ v λ_ n=>@Int.rec (λ_=>Out) k (λ_=>none) n
noncomputable def e'(b:Bool)(x y:Out):Out:=@Bool.rec (λ_=>Out) y x b
noncomputable def PD:IntKind->Nat:=@IntKind.rec (λ_=>Nat) 0 1 2 3 4 5 6 7
noncomputable def rr(a b:IntKind):Bool:=Nat.beq (PD a) (PD b)
noncomputable def mI{α:Type}(l:List α):Nat->(α->Out)->Out:=@List.rec α (λ_=>Nat->(α->Out)->Out) (λ_ _=>none) (λv _ ih n k=>@Nat.rec (λ_=>Out) (k v) (λm _=>ih m k) n) l
noncomputable def kq(x:Value)(l:List Value):Nat->(List Value->Out)->Out:=@List.rec Value (λ_=>Nat->(List Value->Out)->Out) (λ_ _=>none) (λv t ih n k=>@Nat.rec (λ_=>Out) (k (x::t)) (λm _=>ih m λr=>k (v::r)) n) l
noncomputable def E7(f:Int->Int->Int):Value->Value->(Value->Out)->Out:=λx y k=>sQ x λa b=>sQ y λc d=>e' (rr a c) (k (.int a (wr a (f b d)))) none
noncomputable def yO(a:BinOp)(f:Int->Int->Bool):Value->Value->(Value->Out)->Out:=λx y k=>yQ x (λb c=>sQ y λd e=>e' (rr b d) (k (.bool (f c e))) none) λs=>um y λt=>cb (tG a s t) k
def yx:List UInt8->List UInt8->Bool
 | [],[]=>true
 | a::x,b::y=>bif Nat.beq a.toNat b.toNat then yx x y else false
 | _,_=>false
noncomputable def y2(neg:Bool):lL->Ew:=@lL.rec (λ_=>Ew)
 ⟨λx y k=>yQ x (λc a=>sQ y λd b=>e' (rr c d) (k (.bool (xor neg (hS a b)))) none) λs=>um y λt=>k (.bool (xor neg (yx s.data.toList t.data.toList)))⟩
 ⟨λx y k=>v7 x λa=>v7 y λb=>k (.bool (xor neg (a==b)))⟩
 (λn=>⟨λx y k=>cb (kJ n x y) λb=>k (.bool (xor neg b))⟩)
 (λa=>⟨λx y k=>cb (k4 (.cells a) x y) λb=>k (.bool (xor neg b))⟩)
noncomputable def Fc:BinOp->lL->Ew
 | .add=>λ_=>⟨λx y k=>yQ x (λa b=>sQ y λc d=>e' (rr a c) (k (.int a (wr a (Int.add b d)))) none) λs=>um y λt=>e' (Nat.ble (s.size+t.size) 4294967296) (k (.string (br s t))) none⟩
 | .sub=>λ_=>⟨E7 Int.sub⟩
 | .mul=>λ_=>⟨E7 Int.mul⟩
 | .lss=>λ_=>⟨yO .lss jA⟩
 | .leq=>λ_=>⟨yO .leq λa b=>!jA b a⟩
 | .gtr=>λ_=>⟨yO .gtr λa b=>jA b a⟩
 | .geq=>λ_=>⟨yO .geq λa b=>!jA a b⟩
 | .eql=>λq=>y2 false q
 | .neq=>λq=>y2 true q
 | op=>λq=>⟨λx y k=>cb (binOp op q x y) k⟩
noncomputable def Ce:Nat->Nat->b6 bz->(bz->Out)->Out:=
 @Nat.rec (λ_=>Nat->b6 bz->(bz->Out)->Out) (λ_ _ _=>none) (λ_ ih b t k=>@b6.rec bz (λ_=>Out) none (λl v r _ _=>
  e' (Nat.beq b 0) (cb v k) (e' (Nat.beq (Nat.mod b 2) 1) (ih (Nat.div b 2) l k) (ih (Nat.sub (Nat.div b 2) 1) r k))) t)
noncomputable def vP(H:ae)(b:Nat)(k:bz->Out):Out:=Ce (Nat.succ b) b H.t k
noncomputable def Gk(x:bz)(k:List Value->Out):Out:=@bz.rec (λ_=>Out) (λa _=>k a) k (λ_ _=>none) (λ_ _=>none) (λ_=>none) none (λ_ _=>none) x
noncomputable def Om(x:bz)(k:List Value->cM->Out):Out:=@bz.rec (λ_=>Out) k (λ_=>none) (λ_ _=>none) (λ_ _=>none) (λ_=>none) none (λ_ _=>none) x
noncomputable def yj(o:bh):sE:=⟨λK a e H k=>cb (o.run K a e H) λp=>k p.1 p.2⟩
noncomputable def CO:Value->Bool:=@Value.rec (λ_=>Bool) (λ_=>PUnit) (λ_=>PUnit) (λ_=>true) (λ_ _=>true) (λ_ _=>true) (λ_ _ _=>true) (λ_=>true) (λ_=>true) (λ_ _ _=>true) (λ_=>true) (λ_=>true) (λ_ _ _ _ _=>true) true (λ_ _ _=>true) true (λ_ _=>false) (λ_ _=>false) (λ_ _=>⟨⟩) ⟨⟩ (λ_ _ _ _=>⟨⟩)
noncomputable def xw(x:b0)(f:Value->(Value->Out)->Out):sE:=⟨λ_ _ e H k=>(eb x).g e λv=>f v λu=>k u H⟩
noncomputable def CQ:bh->sE
 | .dw x=>⟨λ_ _ e H k=>(eb x).g e λv=>k v H⟩
 | .bin a q x y=>⟨λ_ _ e H k=>(eb x).g e λb=>(eb y).g e λc=>(Fc a q).f b c λv=>k v H⟩
 | .call f a=>⟨λK b e H k=>(B8 a).f e λl=>cb (K b f l H) λp=>k p.1 p.2⟩
 | .len .l x=>xw x λv k=>BR v λ_ n _=>k (.int .i64 (.ofNat n))
 | .len .s x=>xw x λv k=>um v λs=>k (.int .i64 (.ofNat s.size))
 | .load a n b=>@Bool.rec (λ_=>sE) ⟨λ_ _ e H k=>(eb b).g e λv=>pS v λc=>vP H c.block λx=>Gk x λd=>mI d c.off λu=>k u H⟩ (yj (.load a n b)) a
 | .store n b x=>@Bool.rec (λ_=>sE) (yj (.store n b x)) ⟨λ_ d e H k=>(eb b).g e λv=>pS v λa=>(eb x).g e λu=>e' (CO u) (vP H a.block λy=>Om y λc z=>kq u c a.off λc=>e' (d.may a.block) (k aR (H.put a.block (.cells c z))) none) (cb ((bh.store n b x).run (λ_ _ _ _=>none) d e H) λp=>k p.1 p.2)⟩ (Nat.beq n 1)
 | .pick c a b=>⟨λ_ _ e H k=>(eb c).g e λv=>v7 v λt=>e' t ((eb a).g e λu=>k u H) ((eb b).g e λu=>k u H)⟩
 | .lV b x i=>⟨λ_ _ e H k=>(eb x).g e λv=>(eb i).g e λu=>BR v λo c _=>cb o λa=>v8 u λj=>e' (Nat.ble (Nat.succ j) c) (k (.pointer (some ⟨a.block,Nat.add a.off (Nat.mul j b),none⟩)) H) none⟩
 | .uH n b x i=>⟨λ_ _ e H k=>(eb x).g e λv=>(eb i).g e λu=>pS v λa=>v8 u λj=>e' (Nat.ble (Nat.succ j) n) (k (.pointer (some ⟨a.block,Nat.add a.off (Nat.mul j b),none⟩)) H) none⟩
 | .mB x i=>⟨λ_ _ e H k=>(eb x).g e λv=>(eb i).g e λu=>um v λs=>v8 u λj=>mI s.data.toList j λb=>k (.int .u8 (.ofNat b.toNat)) H⟩
 | .k2 x a b=>⟨λ_ _ e H k=>(eb x).g e λv=>um v λs=>cb (ed e 0 a) λl=>cb (ed e s.size b) λh=>e' (Nat.ble l h&&Nat.ble h s.size) (k (.string (b1 s l h)) H) none⟩
 | .extract x i=>xw x λv k=>Ok v (λ_=>none) λa=>mI a.toList i k
 | .fieldAddr b x=>xw x λv k=>pS v λa=>k (.pointer (some ⟨a.block,Nat.add a.off b,none⟩))
 | .nilCheck x=>xw x λv k=>pS v λa=>k (.pointer (some a))
 | .conv (.int a) x=>xw x λv k=>sQ v λ_ n=>k (.int a (wr a n))
 | .box t x=>⟨λ_ a e H k=>(eb x).g e λv=>k (ptr (a.pick H)) (a.make H (.cells v.cells.toList (.t t)))⟩
 | o=>yj o
noncomputable def HY(o:aE):sE:=@Option.rec (Nat×Bool) (λ_=>sE) (CQ o.op) (λp=>⟨λK a e H k=>(xI p.1).g e λv=>cb (@Value.rec (λ_=>Option Bool) (λ_=>PUnit) (λ_=>PUnit) (λb=>some (b==p.2)) (λ_ _=>some false) (λ_ _=>some false) (λ_ _ _=>some false) (λ_=>some false) (λ_=>some false) (λ_ _ _=>some false) (λ_=>some false) (λ_=>some false) (λ_ _ _ _ _=>some false) (some false) (λ_ _ _=>some false) (some false) (λ_ _=>some false) (λ_ _=>some false) (λ_ _=>⟨⟩) ⟨⟩ (λ_ _ _ _=>⟨⟩) v) λw=>e' w ((CQ o.op).f K a e H k) (k aR H)⟩) o.guard
noncomputable def CS:List aE->MU:=@List.rec aE (λ_=>MU) ⟨λ_ _ e H k=>k e H⟩ (λo _ ih=>⟨λK a e H k=>(HY o).f K a e H λv H=>ih.f K a ((IT o.dst).s v e) H k⟩)
noncomputable def Hf(f:Env->ae->(e1->Env->ae->Out)->Out)(k:e1->Env->ae->Out):Nat->Env->ae->Out:=
 @Nat.rec (λ_=>Env->ae->Out) (λ_ _=>none) (λ_ ih e H=>f e H λx=>@e1.rec (λ_=>Env->ae->Out) ih (λi=>k (.exit i)) (k .ret) x)
noncomputable def q5:aG->Mt:=
 @aG.rec (λ_=>Mt)
  ⟨λ_ _ _ e H k=>k .normal e H⟩
  (λb=>⟨λK a _ e H k=>(CS b).f K a e H λe H=>k .normal e H⟩)
  (λb c=>⟨λK a _ e H k=>cb (rm K a b c e H) λp=>k .normal p.1 p.2⟩)
  (λ_ _ d c=>⟨λK a b e H k=>d.f K a b e H λx=>@e1.rec (λ_=>Env->ae->Out) (λe H=>c.f K a b e H k) (λi=>k (.exit i)) (k .ret) x⟩)
  (λf _ _ d c=>⟨λK a b e H k=>(eb f).g e λv=>v7 v λf=>e' f (d.f K a b e H k) (c.f K a b e H k)⟩)
  (λid _ c=>⟨λK a b e H k=>c.f K a b e H λx=>@e1.rec (λ_=>Env->ae->Out) (k .normal) (λi e H=>e' (Nat.beq i id) (k .normal e H) (k (.exit i) e H)) (k .ret) x⟩)
  (λ_ c=>⟨λK a b e H k=>Hf (c.f K a b) k b e H⟩)
  (λid=>⟨λ_ _ _ e H k=>k (.exit id) e H⟩)
  ⟨λ_ _ _ e H k=>k .ret e H⟩
  (λ_=>⟨λ_ _ _ _ _ _=>none⟩)
structure Ui where
 f:cv->Perm->Nat->List Value->ae->Out
noncomputable def B7:List Value->Nat->Env->Env:=@List.rec Value (λ_=>Nat->Env->Env) (λ_ e=>e) (λv _ ih n e=>ih (Nat.succ n) ((DN n).s v e))
noncomputable def z':List n'->Env->ae->(List Value->Out)->Out:=@List.rec n' (λ_=>Env->ae->(List Value->Out)->Out) (λ_ _ k=>k [])
 (λr _ ih e H k=>@n'.rec (λ_=>Out) (λt=>(xI t).g e λv=>ih e H λl=>k (v::l)) (λt g n=>cb (ft H g n (e.get t)) λv=>ih e H λl=>k (v::l)) r)
noncomputable def GW(F:bg):Ui:=⟨λK b c a H=>e' (Nat.ble a.length F.kh) ((q5 F.body).f K b c (B7 a 0 .ag) H λx e H=>@e1.rec (λ_=>Out) (z' F.res e H λl=>some (.normal,.ao .ag (some (iw l)) .ag,H)) (λ_=>none) (z' F.res e H λl=>some (.normal,.ao .ag (some (iw l)) .ag,H)) x) none⟩
noncomputable def CT(o:Out):Option (Value×ae):=@Option.rec (e1×Env×ae) (λ_=>Option (Value×ae)) none (λp=>@b6.rec Value (λ_=>Option (Value×ae)) none (λ_ v _ _ _=>@Option.rec Value (λ_=>Option (Value×ae)) none (λv=>some (v,p.2.2)) v) p.2.1) o
noncomputable def Af(T:Nat->Option bg)(S:cv->cv)(a:Nat):Nat->cv:=
 @Nat.rec (λ_=>cv) (λ_ _ _ _=>none) (λ_ ih=>S λb f c H=>@Option.rec bg (λ_=>Option (Value×ae)) none (λF=>CT ((GW F).f ih b a c H)) (T f))
theorem dc(a b:Nat):Nat.beq a b=decide (a=b):=by
 by_cases h:a=b
 ·subst h;simp
 ·simp only[h,decide_false];cases e:Nat.beq a b
  ·rfl
  simp_all
theorem cJ(a b:Nat):Nat.ble a b=decide (a<=b):=by
 by_cases h:a<=b
 ·simp_all
 ·simp only[h,decide_false];cases e:Nat.ble a b
  ·rfl
  ·exact absurd (Nat.le_of_ble_eq_true e) h
theorem hE(a b:Nat):Nat.blt a b=decide (a<b):=by
 unfold Nat.blt;rw[cJ];rfl
namespace b6
variable{α:Type}
theorem uz(l:b6 α)(v:Option α)(r:b6 α)(k:Nat):(b6.ao l v r).get k=if k=0 then v else if k%2=1 then l.get (k/2) else r.get (k/2-1):=by
 rw[get,dc,dc];grind
theorem ZU(x:α)(n k:Nat):one x (n+1) k=if k=0 then .ao .ag (some x) .ag else if k%2=1 then .ao (one x n (k/2)) none .ag else .ao .ag none (one x n (k/2-1)):=by
 rw[one,dc,dc];grind
theorem aa2(x:α)(l:b6 α)(v:Option α)(r:b6 α)(k:Nat):set x (.ao l v r) k=if k=0 then .ao l (some x) r else if k%2=1 then .ao (l.set x (k/2)) v r else .ao l v (r.set x (k/2-1)):=by
 rw[set,dc,dc];grind
theorem G4(k:Nat):(b6.ag:b6 α).get k=none:=rfl
theorem HX(x:α):∀(n k j:Nat),k<n->(one x n k).get j=if j=k then some x else none
 | 0,_,_,_=>by omega
 | n+1,k,j,_=>by
   rw[ZU];by_cases a:k=0
   ·subst a;rw[if_pos rfl,uz];simp only[G4];grind
   ·rw[if_neg a];by_cases a:k%2=1
    ·rw[if_pos a,uz,HX x n (k/2) (j/2) (by omega),G4];grind
    ·rw[if_neg a,uz,HX x n (k/2-1) (j/2-1) (by omega),G4];grind
theorem lS(x:α):∀(t:b6 α) (k j:Nat),(set x t k).get j=if j=k then some x else t.get j
 | .ag,k,j=>by rw[set,HX x _ _ _ (by omega)];rfl
 | .ao l _ r,k,j=>by
   rw[aa2,uz];by_cases a:k=0
   ·subst a;rw[if_pos rfl,uz];grind
   ·rw[if_neg a];by_cases a:k%2=1
    ·rw[if_pos a,uz,lS x l (k/2) (j/2)];grind
    ·rw[if_neg a,uz,lS x r (k/2-1) (j/2-1)];grind
end b6
theorem ae.eP(H:ae)(b c:Nat)(x:bz):(H.put b x).get c=if c=b then some x else H.get c:=b6.lS x H.t b c
theorem ae.mw(H:ae)(c:Nat)(x:bz):(H.new x).get c=if c=H.next then some x else H.get c:=b6.lS x H.t H.next c
structure Loc where
 bj:Nat
 d:Nat
 s:Nat
 e:Nat
abbrev aT:=Nat->Option Loc
mutual
inductive aO(γ:aT):Value->Value->Prop
 | bool (b:Bool):aO γ (.bool b) (.bool b)
 | int (k:IntKind) (n:Int):aO γ (.int k n) (.int k n)
 | str (s:ByteArray):aO γ (.string s) (.string s)
 | zF:aO γ (.pointer none) (.pointer none)
 | r1:aO γ (.slice none 0 0) (.slice none 0 0)
 | QC:aO γ (.map none) (.map none)
 | O2:aO γ .nilFunc .nilFunc
 | G':aO γ .nilIface .nilIface
 | ptr {b off:Nat} {L:Loc} (h:γ b=some L):aO γ (.pointer (some ⟨b,off,none⟩)) (.pointer (some ⟨L.bj,L.d+off,none⟩))
 | gV {b off n cap dm:Nat} {L:Loc} (h:γ b=some L) (dN:cap<=dm) (mz:n<=cap) (G8:dm=cap∨0<L.s/\L.d+off+dm*L.s<=L.e):
  aO γ (.slice (some ⟨b,off,none⟩) n cap) (.slice (some ⟨L.bj,L.d+off,none⟩) n dm)
 | nc {b off:Nat} {b5:Addr} {L:Loc} (h:γ b=some L):aO γ (.slice (some ⟨b,off,none⟩) 0 0) (.slice (some b5) 0 0)
 | Cx {r:Nat} {L:Loc} (h:γ r=some L):aO γ (.map (some r)) (.map (some L.bj))
 | func {f:FuncId} {l aU:List Value} (h:bN γ l aU):aO γ (.func (.func f) #[] ⟨l⟩) (.func (.func f) #[] ⟨aU⟩)
 | iface {t:TypeId} {v aQ:Value} (h:aO γ v aQ):aO γ (.iface t v) (.iface t aQ)
 | agg {l aU:List Value} (h:bN γ l aU):aO γ (.agg ⟨l⟩) (.agg ⟨aU⟩)
 | tuple {l aU:List Value} (h:bN γ l aU):aO γ (.tuple ⟨l⟩) (.tuple ⟨aU⟩)
inductive bN(γ:aT):List Value->List Value->Prop
 | nil:bN γ [] []
 | cons {v aQ:Value} {l aU:List Value} (h:aO γ v aQ) (t:bN γ l aU):bN γ (v::l) (aQ::aU)
end
def aT.le(γ a:aT):Prop:=∀b L,γ b=some L->a b=some L
theorem aT.le.refl(γ:aT):γ.le γ:=λ_ _ h=>h
theorem aT.le.trans{γ a b:aT}(h:γ.le a)(c:a.le b):γ.le b:=λb L e=>c b L (h b L e)
mutual
theorem aO.mono{γ a:aT}(a':γ.le a):∀{v aQ:Value},aO γ v aQ->aO a v aQ
 | _,_,.bool b=>.bool b
 | _,_,.int k n=>.int k n
 | _,_,.str s=>.str s
 | _,_,.zF=>.zF
 | _,_,.r1=>.r1
 | _,_,.QC=>.QC
 | _,_,.O2=>.O2
 | _,_,.G'=>.G'
 | _,_,.ptr h=>.ptr (a' _ _ h)
 | _,_,.gV h a b c=>.gV (a' _ _ h) a b c
 | _,_,.nc h=>.nc (a' _ _ h)
 | _,_,.Cx h=>.Cx (a' _ _ h)
 | _,_,.func h=>.func (bN.mono a' h)
 | _,_,.iface h=>.iface (aO.mono a' h)
 | _,_,.agg h=>.agg (bN.mono a' h)
 | _,_,.tuple h=>.tuple (bN.mono a' h)
theorem bN.mono{γ a:aT}(a':γ.le a):∀{l aU:List Value},bN γ l aU->bN a l aU
 | _,_,.nil=>.nil
 | _,_,.cons h t=>.cons (aO.mono a' h) (bN.mono a' t)
end
theorem bN.length{γ:aT}:∀{l aU:List Value},bN γ l aU->l.length=aU.length
 | _,_,.nil=>rfl
 | _,_,.cons _ t=>by simp[bN.length t]
theorem bN.get{γ:aT}:∀{l aU:List Value},bN γ l aU->∀{i:Nat} {v:Value},l[i]? = some v->∃aQ,aU[i]? = some aQ/\aO γ v aQ
 | _,_,.nil,_,_,h=>by simp at h
 | _,_,.cons _ _,0,_,_=>⟨_,rfl,by grind⟩
 | _,_,.cons _ t,i+1,_,e=>by
   obtain⟨aQ,_,_⟩:=bN.get t (by simpa using e);grind
theorem bN.rF{γ:aT}:∀{l aU:List Value},l.length=aU.length->(∀(i:Nat) (v aQ:Value),l[i]? = some v->aU[i]? = some aQ->aO γ v aQ)->bN γ l aU
 | [],[],_,_=>.nil
 | [],_::_,h,_=>by simp at h
 | _::_,[],h,_=>by simp at h
 | v::l,aQ::aU,h,f=>.cons (f 0 v aQ rfl rfl) (bN.rF (by simpa using h) λi v aQ a b=>f (i+1) v aQ (by simpa using a) (by simpa using b))
theorem bN.append{γ:aT}:∀{l aU m a:List Value},bN γ l aU->bN γ m a->bN γ (l++m) (aU++a)
 | _,_,_,_,.nil,h=>h
 | _,_,_,_,.cons h t,g=>.cons h (bN.append t g)
theorem bN.take{γ:aT}:∀{l aU:List Value} (n:Nat),bN γ l aU->bN γ (l.take n) (aU.take n)
 | _,_,0,_=>by simp;exact .nil
 | _,_,_+1,.nil=>by simp;exact .nil
 | _,_,n+1,.cons h t=>by simp;exact .cons h (bN.take n t)
theorem bN.drop{γ:aT}:∀{l aU:List Value} (n:Nat),bN γ l aU->bN γ (l.drop n) (aU.drop n)
 | _,_,0,h=>by simpa using h
 | _,_,_+1,.nil=>by simp;exact .nil
 | _,_,n+1,.cons _ t=>by simp;exact bN.drop n t
theorem aO.plainCell{γ:aT}{v:Value}(h:plainCell v=true):aO γ v v:=by
 unfold Dam.plainCell at h;split at h<;>first | constructor | (simp at h)
theorem bN.plain{γ:aT}:∀{l:List Value},l.all Dam.plainCell=true->bN γ l l
 | [],_=>.nil
 | v::l,h=>by
   simp only[List.all_cons,Bool.and_eq_true]at h;exact .cons (.plainCell h.1) (bN.plain h.2)
theorem aO.plain{γ:aT}{v:Value}(h:w9 v=true):aO γ v v:=by
 unfold w9 at h;split at h
 ·rename_i a;have:=bN.plain (γ:=γ) h;exact .agg (l:=a.toList) (aU:=a.toList) this
 ·exact .plainCell h
structure cy where
 rel:World->(Nat->Prop)->Nat->A'->Prop
 vh:∀{w ay:World} {N oh:Nat->Prop} {b:Nat} {o:A'},rel w N b o->(∀c,N c->oh c/\ay.heap[c]? = w.heap[c]?)->rel ay oh b o
def cM.ok:cM->TypeId->Nat->Nat->Nat->Prop
 | .n _,_,_,_,_=>True
 | .t a,e,d,b,c=>e=a/\d=0/\b=c
theorem cM.ZJ{z:cM}{e:TypeId}{d aV len:Nat}(h:∀a,z=.t a->e=a)(b7:d=0)(cH:aV=len):z.ok e d aV len:=by
 cases z with
 | n _=>trivial
 | t a=>exact⟨h a rfl,b7,cH⟩
def fL:Option bz->Prop
 | some (.cells ..) | some (.map ..) | some (.iter ..) | some (.bytes ..)=>True
 | _=>False
def gY(γ:aT)(H:ae)(w:World)(c:Nat):Prop:=c<w.heap.size/\∀b L,γ b=some L->fL (H.get b)->L.bj≠c
def oq(γ:aT)(cs:List Value)(f:Nat->Option Value):Prop:=∀(i:Nat) (v:Value),cs[i]? = some v->∃a,f i=some a/\aO γ v a
def MC(γ:aT)(x:Value×Value×Nat)(e:MapEntry):Prop:=e.key=x.1/\(∃a,jW a x.1 x.1=some true)/\aO γ x.2.1 e.val/\e.born=x.2.2
inductive iV(γ:aT):List (Value×Value×Nat)->List MapEntry->Prop
 | nil:iV γ [] []
 | cons {x:Value×Value×Nat} {e:MapEntry} {l:List (Value×Value×Nat)} {aU:List MapEntry} (h:MC γ x e) (t:iV γ l aU):iV γ (x::l) (e::aU)
def lI(O:cy)(γ:aT)(N:Nat->Prop)(w:World)(L:Loc):bz->Prop
 | .cells a z=>∃c d b,w.heap[L.bj]? = some (.cells c d b)/\(∀i,i<c.size->¬(b.1<=i/\i<b.2))/\(L.s=z.val/\z.ok d L.d c.size a.length)/\L.e<=c.size/\L.d+a.length<=L.e/\oq γ a (λi=>c[L.d+i]?)
 | .ro a=>N L.bj/\∃c b d,w.heap[L.bj]? = some (.cells c b d)/\L.s=0/\L.d+a.length<=c.size/\oq γ a (λi=>c[L.d+i]?)
 | .map b c=>∃a,w.heap[L.bj]? = some (.map a c)/\iV γ b a.toList
 | .iter s a=>w.heap[L.bj]? = some (.stringIter s a)/\L.d=0
 | .cf o=>N L.bj/\L.d=0/\O.rel w N L.bj o
 | .dead=>True
 | .bytes d b=>∃c a,w.heap[L.bj]? = some (.cells c d a)/\(∀i,i<c.size->¬(a.1<=i/\i<a.2))/\L.s=1/\L.d=0/\L.e<=c.size/\b.length<=L.e/\oq γ (dp b) (λi=>c[i]?)
structure Rel(O:cy)(base:Nat)(γ:aT)(H:ae)(w:World):Prop where
 bj:∀b L,γ b=some L->∃x,H.get b=some x/\lI O γ (gY γ H w) w L x
 lt:∀b L,γ b=some L->b<H.next
 new:∀b,H.next<=b->H.get b=none
 inj:∀b cC L ea,γ b=some L->γ cC=some ea->fL (H.get b)->fL (H.get cC)->L.bj=ea.bj->b=cC
 low:∀b L,γ b=some L->fL (H.get b)->base<=L.bj
 size:base<=w.heap.size
structure Step(O:cy)(base:Nat)(pm:Perm)(γ:aT)(H:ae)(w:World)(fe:aT)(ab:ae)(ay:World):Prop where
 rel:Rel O base fe ab ay
 ext:γ.le fe
 fresh:∀b L,fe b=some L->γ b=none->w.heap.size<=L.bj∨∃aK MJ,γ aK=some MJ/\fL (H.get aK)/\pm.may aK=true/\MJ.bj=L.bj
 grow:w.heap.size<=ay.heap.size
 u:∀c,c<w.heap.size->(∀b L,γ b=some L->fL (H.get b)->pm.may b=true->L.bj≠c)->ay.heap[c]? = w.heap[c]?
 next:H.next<=ab.next
 kO:∀b,b<H.next->pm.may b=false->ab.get b=H.get b
 kp:∀b L,γ b=some L->fL (ab.get b)->fL (H.get b)
 known:∀b L,fe b=some L->γ b=none->H.next<=b∨pm.num=some b
 os:ay.os=w.os
 tape:ay.tape=w.tape
 output:ay.output=w.output
theorem iV.mono{γ a:aT}(a':γ.le a){l:List (Value×Value×Nat)}{aU:List MapEntry}(h:iV γ l aU):iV a l aU:=by
 induction h with
 | nil=>exact .nil
 | cons h _ ih=>exact .cons ⟨h.1,h.2.1,h.2.2.1.mono a',h.2.2.2⟩ ih
theorem lI.mono{O:cy}{γ d:aT}{N e:Nat->Prop}{w ay:World}{L:Loc}{x:bz}(h:lI O γ N w L x)(a':γ.le d)
 (a:∀c,N c->e c/\ay.heap[c]? = w.heap[c]?) (b:fL (some x)->ay.heap[L.bj]? = w.heap[L.bj]?):lI O d e ay L x:=by
 cases x with
 | cells _ _=>
   obtain⟨c,d,e,f,g,i,j,k,l⟩:=h;exact⟨c,d,e,(b trivial).trans f,g,i,j,k,λm v n=>let ⟨d,e,f⟩:=l m v n;⟨d,e,f.mono a'⟩⟩
 | ro _=>
   obtain⟨d,c,e,f,g,i,j,k⟩:=h;exact⟨(a _ d).1,c,e,f,((a _ d).2).trans g,i,j,λl v m=>let ⟨d,e,f⟩:=k l v m;⟨d,e,f.mono a'⟩⟩
 | map _ _=>
   obtain⟨c,d,e⟩:=h;exact⟨c,(b trivial).trans d,e.mono a'⟩
 | iter _ _=>exact⟨(b trivial).trans h.1,h.2⟩
 | cf _=>exact⟨(a _ h.1).1,h.2.1,O.vh h.2.2 a⟩
 | dead=>trivial
 | bytes _ _=>
   obtain⟨c,a,d,e,f,g,i,j,k⟩:=h;exact⟨c,a,(b trivial).trans d,e,f,g,i,j,λl v m=>let ⟨a,b,d⟩:=k l v m;⟨a,b,d.mono a'⟩⟩
theorem Step.refl{O:cy}{a:Nat}{pm:Perm}{γ:aT}{H:ae}{w:World}(h:Rel O a γ H w):Step O a pm γ H w γ H w where
 rel:=h
 ext:=.refl γ
 fresh:=λb L c d=>by grind
 grow:=bc _
 u:=λ_ _ _=>rfl
 next:=bc _
 kO:=λ_ _ _=>rfl
 kp:=λ_ _ _ h=>h
 known:=λb L c d=>by grind
 os:=rfl
 tape:=rfl
 output:=rfl
theorem Step.D0{O:cy}{i:Nat}{pm:Perm}{m:Option Nat}{γ e n:aT}{H o p:ae}{w q s:World}
 (h:Step O i pm γ H w e o q) (g:Step O i ⟨pm.ah,pm.ok,m⟩ e o q n p s) (A:∀b,m=some b->H.next<=b∨pm.num=some b):Step O i pm γ H w n p s where
 rel:=g.rel
 ext:=h.ext.trans g.ext
 fresh:=λb L f j=>by
  cases k:e b with
  | some l=>
    have a:=g.ext b l k;rw[f]at a;cases a;exact h.fresh b L k j
  | none=>
    rcases g.fresh b L f k with c | ⟨a,l,m,u,w,t⟩
    ·exact .inl (a8 h.grow c)
    ·cases b:γ a with
     | some z=>
       have g:=h.ext a z b;rw[m]at g;cases g;exact .inr ⟨a,l,b,h.kp a l b u,w,t⟩
     | none=>
       rcases h.fresh a l m b with c | ⟨_,_,_,_,_,_⟩
       ·exact .inl (t▸c)
       grind
 grow:=a8 h.grow g.grow
 u:=λc v x=>by
  rw[g.u c (fK v h.grow) ?_,h.u c v x];intro b L k r m
  cases a:γ b with
  | some l=>
    have g:=h.ext b l a;rw[k]at g;cases g;exact x b L a (h.kp b L a r) m
  | none=>
    have g:=h.fresh b L k a;grind
 next:=a8 h.next g.next
 kO:=λb d y=>(g.kO b (fK d h.next) y).trans (h.kO b d y)
 kp:=λb L d r=>h.kp b L d (g.kp b L (h.ext b L d) r)
 known:=λb L f j=>by
  cases a:e b with
  | some g=>exact h.known b g a j
  | none=>
    rcases g.known b L f a with c | c
    ·exact .inl (a8 h.next c)
    grind
 os:=g.os.trans h.os
 tape:=g.tape.trans h.tape
 output:=g.output.trans h.output
theorem Step.trans{O:cy}{a:Nat}{pm:Perm}{γ b c:aT}{H d e:ae}{w f i:World}
 (h:Step O a pm γ H w b d f) (g:Step O a pm b d f c e i) (_:Rel O a γ H w):Step O a pm γ H w c e i:=h.D0 g λ_=>.inr
theorem Step.drawn{O:cy}{d:Nat}{pm:Perm}{γ:aT}{H:ae}{w:World}(h:Rel O d γ H w)(n:Nat):Step O d pm γ H w γ H {w with drawn:=n} where
 rel:=⟨λb L e=>by
    obtain⟨x,a,c⟩:=h.bj b L e;exact⟨x,a,c.mono (.refl γ) (λ_ f=>⟨f,rfl⟩) (λ_=>rfl)⟩,h.lt,h.new,h.inj,h.low,h.size⟩
 ext:=.refl γ
 fresh:=λb L a c=>by grind
 grow:=bc _
 u:=λ_ _ _=>rfl
 next:=bc _
 kO:=λ_ _ _=>rfl
 kp:=λ_ _ _ h=>h
 known:=λb L a c=>by grind
 os:=rfl
 tape:=rfl
 output:=rfl
def aT.set(γ:aT)(b:Nat)(L:Loc):aT:=λk=>if k=b then some L else γ k
theorem aT.gU(γ:aT)(b:Nat)(L:Loc):γ.set b L b=some L:=by simp[aT.set]
theorem aT.iu(γ:aT){b k:Nat}(L:Loc)(h:k≠b):γ.set b L k=γ k:=by simp[aT.set,h]
theorem Rel.ace{O:cy}{a:Nat}{γ:aT}{H:ae}{w:World}(h:Rel O a γ H w){b:Nat}(a:H.next<=b):γ b=none:=by
 cases e:γ b with
 | none=>rfl
 | some L=>have:=h.lt b L e;omega
theorem Rel.Qa{O:cy}{a:Nat}{γ:aT}{H:ae}{w:World}(h:Rel O a γ H w)(L:Loc):γ.le (γ.set H.next L):=by
 intro b a e;have:=h.lt b a e;rw[aT.iu _ _ (by omega)];exact e
def Perm.fo(pm:Perm)(γ:aT)(H:ae):Prop:=∀b,pm.num=some b->b<H.next/\γ b=none/\pm.may b=true
theorem Perm.fo.none{pm:Perm}{γ:aT}{H:ae}(h:pm.num=none):pm.fo γ H:=λ_ _=>by grind
theorem Perm.oG(pm:Perm)(H:ae)(x:bz)(c:Nat):(pm.make H x).get c=if c=pm.pick H then some x else H.get c:=by
 unfold Perm.make Perm.pick
 cases pm.num with
 | none=>exact ae.mw H c x
 | some b=>exact ae.eP H b c x
theorem Perm.fo.zr{O:cy}{a:Nat}{pm:Perm}{γ:aT}{H:ae}{w:World}(b:pm.fo γ H)(h:Rel O a γ H w):γ (pm.pick H)=Option.none:=by
 unfold Perm.pick
 cases e:pm.num with
 | none=>exact h.ace (bc _)
 | some a=>exact(b a e).2.1
theorem Perm.fo.next{pm:Perm}{γ:aT}{H:ae}(a:pm.fo γ H)(x:bz):H.next<=(pm.make H x).next/\pm.pick H<(pm.make H x).next:=by
 unfold Perm.pick Perm.make
 cases e:pm.num with
 | none=>exact⟨rQ _,qq _⟩
 | some b=>exact⟨bc _,(a b e).1⟩
theorem Perm.fo.may{pm:Perm}{γ:aT}{H:ae}(a:pm.fo γ H)(h:pm.pick H<H.next):pm.may (pm.pick H)=true:=by
 unfold Perm.pick at h|-
 cases e:pm.num with
 | none=>grind
 | some b=>exact(a b e).2.2
theorem Perm.RP(pm:Perm)(H:ae):H.next<=pm.pick H∨pm.num=some (pm.pick H):=by
 unfold Perm.pick;grind
theorem aT.HE{γ:aT}{b:Nat}(h:γ b=none)(L:Loc):γ.le (γ.set b L):=by
 intro _ _ e;rw[aT.iu _ _ (by grind)];exact e
theorem Step.alloc{O:cy}{p:Nat}{pm:Perm}{γ:aT}{H:ae}{w:World}(h:Rel O p γ H w)(d:pm.fo γ H)(x:bz)(o:Obj)(s e:Nat)
 (i:∀(N:Nat->Prop) (q:aT),γ.le q->lI O q N {w with heap:=w.heap.push o} ⟨w.heap.size,0,s,e⟩ x):
 Step O p pm γ H w (γ.set (pm.pick H) ⟨w.heap.size,0,s,e⟩) (pm.make H x) {w with heap:=w.heap.push o} where
 rel:=by
  have t:=aT.HE (d.zr h) ⟨w.heap.size,0,s,e⟩;have A:∀f,gY γ H w f->gY (γ.set (pm.pick H) ⟨w.heap.size,0,s,e⟩) (pm.make H x) {w with heap:=w.heap.push o} f/\({w with heap:=w.heap.push o}:World).heap[f]? = w.heap[f]?:=by
   intro f j;refine⟨⟨by simpa using Nat.lt_succ_of_lt j.1,λb L a r=>?_⟩,by simp[Array.getElem?_push,Nat.ne_of_lt j.1]⟩;by_cases c:b=(pm.pick H)
   ·subst c;rw[aT.gU]at a;cases a;exact Nat.ne_of_gt j.1
   ·rw[aT.iu _ _ c]at a;rw[Perm.oG,aw c]at r;exact j.2 b L a r
  refine⟨λb L a=>?_,λb L a=>?_,λb c=>?_,λb k L n a g u v B=>?_,λb L a r=>?_,?_⟩
  ·by_cases c:b=(pm.pick H)
   ·subst c;rw[aT.gU]at a;cases a;exact⟨x,by rw[Perm.oG,aL rfl],i _ _ t⟩
   ·rw[aT.iu _ _ c]at a;obtain⟨y,l,e⟩:=h.bj b L a;refine⟨y,by rw[Perm.oG,aw c,l],e.mono t A λr=>?_⟩;have m:L.bj<w.heap.size:=by
     cases y<;>simp only[fL]at r<;>simp only[lI]at e
     ·obtain⟨f,_,_,h,_⟩:=e;exact(gT.1 h).1
     ·obtain⟨_,h,_⟩:=e;exact(gT.1 h).1
     ·exact(gT.1 e.1).1
     ·obtain⟨f,_,h,_⟩:=e;exact(gT.1 h).1
    grind
  ·by_cases c:b=(pm.pick H)
   ·subst c;exact(d.next x).2
   ·rw[aT.iu _ _ c]at a;exact fK (h.lt b L a) (d.next x).1
  ·have e:=d.next x;rw[Perm.oG,aw (by omega)];exact h.new b (by omega)
  ·have l:∀b L,γ.set (pm.pick H) ⟨w.heap.size,0,s,e⟩ b=some L->b≠(pm.pick H)->fL ((pm.make H x).get b)->γ b=some L/\fL (H.get b)/\L.bj<w.heap.size:=by
    intro b L a c r;rw[aT.iu _ _ c]at a;rw[Perm.oG,aw c]at r;refine⟨a,r,?_⟩;obtain⟨y,e,m⟩:=h.bj b L a;rw[e]at r;cases y<;>simp only[fL]at r<;>simp only[lI]at m
    ·grind
    ·grind
    ·grind
    ·grind
   by_cases e:b=(pm.pick H)<;>by_cases m:k=(pm.pick H)
   ·rw[e,m]
   ·have:=l k n g m v;rw[e,aT.gU]at a;grind
   ·have:=l b L a e u;rw[m,aT.gU]at g;grind
   ·have o:=l b L a e u;have s:=l k n g m v;exact h.inj b k L n o.1 s.1 o.2.1 s.2.1 B
  ·by_cases e:b=(pm.pick H)
   ·subst e;rw[aT.gU]at a;cases a;exact h.size
   ·rw[aT.iu _ _ e]at a;rw[Perm.oG,aw e]at r;exact h.low b L a r
  ·simpa using Nat.le_succ_of_le h.size
 ext:=aT.HE (d.zr h) _
 fresh:=λb L a g=>by
  by_cases c:b=(pm.pick H)
  ·subst c;rw[aT.gU]at a;grind
  ·rw[aT.iu _ _ c,g]at a;cases a
 grow:=by simp
 u:=λf j _=>by grind
 next:=(d.next x).1
 kO:=λb i z=>by
  rw[Perm.oG,aw];intro c;subst c;rw[d.may i]at z;cases z
 kp:=λb L i r=>by
  rwa [Perm.oG,aw (by intro c;subst c;rw[d.zr h]at i;cases i)]at r
 known:=λb L a g=>by
  by_cases c:b=pm.pick H
  ·subst c;exact pm.RP H
  ·rw[aT.iu _ _ c,g]at a;cases a
 os:=rfl
 tape:=rfl
 output:=rfl
theorem lI.lt{O:cy}{γ:aT}{N:Nat->Prop}{w:World}{L:Loc}{x:bz}(h:lI O γ N w L x)(a:fL (some x)):L.bj<w.heap.size:=by
 cases x<;>simp only[fL]at a<;>simp only[lI]at h
 ·obtain⟨_,_,_,a,_⟩:=h;exact(gT.1 a).1
 ·obtain⟨_,a,_⟩:=h;exact(gT.1 a).1
 ·exact(gT.1 h.1).1
 grind
theorem Step.write{O:cy}{o:Nat}{pm:Perm}{γ:aT}{H:ae}{w ay:World}(h:Rel O o γ H w){b:Nat}{L:Loc}{x:bz}(f:γ b=some L)(i:fL (H.get b))(t:pm.may b=true)
 (p:ay.heap.size=w.heap.size) (j:∀c,c≠L.bj->ay.heap[c]? = w.heap[c]?) (v:ay.os=w.os) (y:ay.tape=w.tape) (z:ay.output=w.output)
 (A:∀(N:Nat->Prop),lI O γ N ay L x):
 Step O o pm γ H w γ (H.put b x) ay where
 rel:=by
  have g:∀k,fL ((H.put b x).get k)->fL (H.get k):=λk r=>by
   rw[ae.eP]at r;grind
  have u:∀c,gY γ H w c->gY γ (H.put b x) ay c/\ay.heap[c]? = w.heap[c]?:=λc l=>
   ⟨⟨p▸l.1,λk a e r=>l.2 k a e (g k r)⟩,j c (Ne.symm (l.2 b L f i))⟩
  refine⟨λk a e=>?_,λk a e=>h.lt k a e,λk d=>?_,λk s B C m n D E q=>h.inj k s B C m n (g k D) (g s E) q,λk a e r=>h.low k a e (g k r),by rw[p];exact h.size⟩
  ·by_cases d:k=b
   ·subst d;rw[f]at e;cases e;exact⟨x,by simp[ae.eP],A _⟩
   ·obtain⟨w,c,x⟩:=h.bj k a e;refine⟨w,by rw[ae.eP,aw d,c],x.mono (.refl γ) u λr=>j _ λq=>?_⟩;exact d (h.inj k b a L e f (c▸r) i q)
  ·have c:H.next<=k:=d;have:=h.lt b L f;rw[ae.eP,aw (by omega)];exact h.new k c
 ext:=.refl γ
 fresh:=λk a m n=>by grind
 grow:=by omega
 u:=λc _ d=>j c (Ne.symm (d b L f i t))
 next:=bc _
 kO:=λk _ _=>by
  rw[ae.eP,aw];grind
 kp:=λk _ _ r=>by
  rw[ae.eP]at r;grind
 known:=λk a m n=>by grind
 os:=v
 tape:=y
 output:=z
theorem Step.QE{O:cy}{v:Nat}{pm:Perm}{γ:aT}{H:ae}{w ay:World}(h:Rel O v γ H w)(l:pm.fo γ H){b:Nat}{L ea:Loc}{x:bz}(f:γ b=some L)(i:fL (H.get b))(B:pm.may b=true)
 (m:ea.bj=L.bj) (y:ay.heap.size=w.heap.size) (p:∀c,c≠L.bj->ay.heap[c]? = w.heap[c]?) (C:ay.os=w.os) (D:ay.tape=w.tape) (E:ay.output=w.output)
 (P:∀(N:Nat->Prop) (z:aT),γ.le z->lI O z N ay ea x):
 Step O v pm γ H w (γ.set (pm.pick H) ea) (pm.make (H.put b .dead) x) ay:=by
 have Q:b≠pm.pick H:=λq=>by have:=l.zr h;grind
 have F:pm.pick (H.put b .dead)=pm.pick H:=rfl;have G:=l.zr h;have I:H.next<=(pm.make (H.put b .dead) x).next/\pm.pick H<(pm.make (H.put b .dead) x).next:=Perm.fo.next (H:=H.put b .dead) l x;have s:∀k,(pm.make (H.put b .dead) x).get k=if k=pm.pick H then some x else if k=b then some .dead else H.get k:=λk=>by
  rw[Perm.oG,ae.eP,F]
 have A:=aT.HE G ea;have n:∀k a,γ.set (pm.pick H) ea k=some a->fL ((pm.make (H.put b .dead) x).get k)->(k=pm.pick H/\a=ea)∨(k≠pm.pick H/\k≠b/\γ k=some a/\fL (H.get k)):=λk a e r=>by
  by_cases c:k=pm.pick H
  ·subst c;rw[aT.gU]at e;grind
  ·rw[aT.iu _ _ c]at e;rw[s,aw c]at r;by_cases d:k=b
   ·rw[aL d]at r;exact r.elim
   grind
 have J:∀c,gY γ H w c->gY (γ.set (pm.pick H) ea) (pm.make (H.put b .dead) x) ay c/\ay.heap[c]? = w.heap[c]?:=λc o=>
  ⟨⟨y▸o.1,λk a e r=>by
    rcases n k a e r with⟨_,rfl⟩ | ⟨_,_,BZ,bG⟩
    ·rw[m];exact o.2 b L f i
    ·exact o.2 k a BZ bG⟩,p c (Ne.symm (o.2 b L f i))⟩
 exact{
  rel:=by
   refine⟨λk a e=>?_,λk a e=>?_,λk d=>?_,λk c t u g j x K q=>?_,λk a e r=>?_,by rw[y];exact h.size⟩
   ·by_cases d:k=pm.pick H
    ·subst d;rw[aT.gU]at e;grind
    ·rw[aT.iu _ _ d]at e;by_cases H:k=b
     ·exact⟨.dead,by grind,trivial⟩
     ·obtain⟨M,N,O⟩:=h.bj k a e;refine⟨M,by grind,O.mono A J λr=>p _ λq=>?_⟩;exact H (h.inj k b a L e f (N▸r) i q)
   ·by_cases d:k=pm.pick H
    ·omega
    ·rw[aT.iu _ _ d]at e;have:=h.lt k a e;omega
   ·have:=h.lt b L f;rw[s,aw (by omega),aw (by omega)];exact h.new k (by omega)
   ·rcases n k t g x with⟨EZ,rfl⟩ | ⟨EZ,a2,a3,a4⟩<;>rcases n c u j K with⟨cL,rfl⟩ | ⟨cL,dF,NM,NN⟩
    ·rw[EZ,cL]
    ·exact absurd (h.inj c b u L NM f NN i (q.symm.trans m)) dF
    ·exact absurd (h.inj k b t L a3 f a4 i (q.trans m)) a2
    ·exact h.inj k c t u a3 NM a4 NN q
   ·rcases n k a e r with⟨_,rfl⟩ | ⟨_,_,BZ,bG⟩
    ·rw[m];exact h.low b L f i
    ·exact h.low k a BZ bG
  ext:=A
  fresh:=λk a g j=>by
   by_cases d:k=pm.pick H
   ·subst d;rw[aT.gU]at g;grind
   ·rw[aT.iu _ _ d,j]at g;cases g
  grow:=by omega
  u:=λc _ d=>p c (Ne.symm (d b L f i B))
  next:=I.1
  kO:=λk d w=>by
   rw[s,aw,aw]
   ·grind
   ·intro e;subst e;rw[l.may d]at w;cases w
  kp:=λk a d r=>by
   grind
  known:=λk a g j=>by
   by_cases d:k=pm.pick H
   ·subst d;exact pm.RP H
   ·rw[aT.iu _ _ d,j]at g;cases g
  os:=C
  tape:=D
  output:=E}
theorem Step.weaken{O:cy}{a:Nat}{pm cu:Perm}{γ f:aT}{H ab:ae}{w ay:World}(h:Step O a pm γ H w f ab ay)(g:Rel O a γ H w)
 (i:∀b,b<H.next->pm.may b=true->cu.may b=true) (l:∀b,pm.num=some b->H.next<=b∨cu.num=some b):Step O a cu γ H w f ab ay where
 rel:=h.rel
 ext:=h.ext
 fresh:=λb L c d=>by
  exact(h.fresh b L c d).imp id λ⟨e,j,x,y,z,q⟩=>⟨e,j,x,y,i e (g.lt e j x) z,q⟩
 grow:=h.grow
 u:=λm n o=>h.u m n λb L k r p=>o b L k r (i b (g.lt b L k) p)
 next:=h.next
 kO:=λb s _=>h.kO b s (by
  grind)
 kp:=h.kp
 known:=λb L c d=>(h.known b L c d).elim .inl (l b)
 os:=h.os
 tape:=h.tape
 output:=h.output
structure dG(γ:aT)(n:Nat)(e:Env)(a:Act):Prop where
 size:n<=a.tmps.size
 Q:n<=s'
 defers:a.defers=[]
 get:∀t v,e.get t=some v->t<n/\aO γ v (a.tmps.getD t undef)
def fX(G:Nat->Bool)(γ:aT):Prop:=∀g,G g=true->∃L,γ g=some L/\L.bj=g/\L.d=0
theorem OO{γ:aT}{n:Nat}{e:Env}{a:Act}(h:dG γ n e a):e.get s'=none:=by
 cases x:e.get s' with
 | none=>rfl
 | some _=>have:=(h.get _ _ x).1;have:=h.Q;omega
theorem cK{γ:aT}{n:Nat}{e:Env}{a:Act}{G:Nat->Bool}(h:dG γ n e a)(c:fX G γ)(r:Operand){v:Value}(b:a7 e (rand G r)=some v):aO γ v (a.eval r):=by
 cases r with
 | tmp t=>exact(h.get t v b).2
 | const _=>
   simp only[rand]at b;split at b
   ·rename_i d;simp only[a7,aJ]at b;exact b▸aO.plain d
   ·simp only[a7,OO h]at b;cases b
 | global g=>
   simp only[rand]at b;split at b
   ·rename_i f;obtain⟨_,a,e,h⟩:=c g f;simp only[a7,aJ]at b;subst b;have:=aO.ptr (γ:=γ) (off:=0) a;rw[e,h]at this;exact this
   ·simp only[a7,OO h]at b;cases b
 | func _=>
   simp only[rand,a7,aJ]at b;subst b;exact .func .nil
theorem qu{pm:Perm}{H ab:ae}{o:Option Value}{v:Value}(h:(gx o).run pm H=some (v,ab)):o=some v/\ab=H:=by
 cases o with
 | none=>simp[gx,bf.run]at h
 | some _=>simp only[gx,bf.run,aJ,cp]at h;grind
theorem dX{pm:Perm}{H ab:ae}{u v:Value}(h:(bf.ret u).run pm H=some (v,ab)):u=v/\ab=H:=by
 simp only[bf.run,aJ,cp]at h;grind
theorem run_get{pm:Perm}{H:ae}{r:Value×ae}{b:Nat}{k:bz->bf}(h:(bf.get b k).run pm H=some r):∃x,H.get b=some x/\(k x).run pm H=some r:=by
 simp only[bf.run]at h;grind
theorem qt{pm:Perm}{H:ae}{r:Value×ae}{b:Nat}{x:bz}{k:bf}(h:(bf.put b x k).run pm H=some r):pm.may b=true/\k.run pm (H.put b x)=some r:=by
 simp only[bf.run]at h;grind
theorem bw{pm:Perm}{H:ae}{r:Value×ae}(h:bf.fail.run pm H=some r):False:=by cases h
theorem kZ{pm:Perm}{H:ae}{r:Value×ae}{c:Bool}{x:bf}(h:(bif c then x else .fail).run pm H=some r):c=true/\x.run pm H=some r:=by
 cases c with
 | true=>grind
 | false=>cases h
theorem gm{pm:Perm}{H:ae}{r:Value×ae}{o:Option Value}{k:Value->bf}(h:(dC o k).run pm H=some r):∃v,o=some v/\(k v).run pm H=some r:=by
 cases o with
 | none=>cases h
 | some v=>exact⟨v,rfl,h⟩
theorem pP{w:World}{b i:Nat}{c:Array Value}{t:TypeId}{a:Nat×Nat}(h:w.heap[b]? = some (.cells c t a)):w.cell? ⟨b,i,none⟩=c[i]?:=cell_of_row w b i c t a h
theorem add_eq(b off j:Nat):(⟨b,off,none⟩:Addr).add j=⟨b,off+j,none⟩:=by
 unfold Addr.add;grind
theorem Rel.row{O:cy}{j:Nat}{γ:aT}{H:ae}{w:World}(h:Rel O j γ H w){b:Nat}{L:Loc}{x:bz}{cs:List Value}(j:γ b=some L)(k:H.get b=some x)(d:rowOf x=some cs):
 ∃c e f,w.heap[L.bj]? = some (.cells c e f)/\L.d+cs.length<=c.size/\oq γ cs (λi=>c[L.d+i]?):=by
 obtain⟨_,a,g⟩:=h.bj b L j;rw[k]at a;cases a;cases x<;>simp only[rowOf,aJ,reduceCtorEq]at d
 ·subst d;obtain⟨c,e,f,a,_,_,_,_,_⟩:=g;grind
 ·subst d;obtain⟨_,c,e,f,a,_,_,_⟩:=g;grind
theorem oq.Qk{γ:aT}{cs:List Value}{c:Array Value}{d off n:Nat}(h:oq γ cs (λi=>c[d+i]?))(a:off+n<=cs.length):
 bN γ ((cs.drop off).take n) ((List.range n).map λj=>(c[d+off+j]?).getD undef):=by
 refine bN.rF (by simp;omega) λi _ _ a b=>?_;have e:i<n:=by
  have:=(hZ.1 b).1;simpa using this
 rw[jY e,jZ]at a;obtain⟨_,_,_⟩:=h _ _ a;grind
theorem aO.cells{γ:aT}{v aQ:Value}(h:aO γ v aQ):bN γ v.cells.toList aQ.cells.toList:=by
 cases h<;>first | exact .cons (by constructor<;>assumption) .nil | skip
 all_goals assumption
theorem aO.one{γ:aT}{v aQ:Value}(h:aO γ v aQ):dd v=dd aQ:=by cases h<;>rfl
theorem DD{P:Program}{b off:Nat}{f:TypeId}{a:Nat×Nat}:∀(aq:List Value) (i:Nat) (w:World) (c:Array Value),w.heap[b]? = some (.cells c f a)->(∀k,k<c.size->¬(a.1<=k/\k<a.2))->
 aq.all dd=true->off+i+aq.length<=c.size->
 ∃ay d,(storeCells ⟨b,off,none⟩ aq i).run P w=.ok () ay/\ay.heap[b]? = some (.cells d f a)/\d.size=c.size/\
  (∀k,d[k]? = if off+i<=k/\k<off+i+aq.length then aq[k-(off+i)]? else c[k]?)/\
  ay.heap.size=w.heap.size/\(∀k,k≠b->ay.heap[k]? = w.heap[k]?)/\ay.os=w.os/\ay.tape=w.tape/\ay.output=w.output
 | [],i,w,c,h,_,_,_=>⟨w,c,rfl,h,rfl,λk=>by grind,rfl,λ_ _=>rfl,rfl,rfl,rfl⟩
 | v::aq,i,w,c,h,j,g,l=>by
   simp only[qp,bK]at g;simp only[iK]at l;have l:off+i<c.size:=by omega
   have m:w.cell? ⟨b,off+i,none⟩=some c[off+i]:=by rw[pP h];exact mT l
   have n:w.frozen? ⟨b,off+i,none⟩=false:=by
    simp only[World.frozen?,h];have:=j (off+i) l;simpa using this
   have o:v.oneCell'=true:=by
    have:=g.1;cases v<;>first | rfl | (simp[dd]at this)
   have l:(w.setCell ⟨b,off+i,none⟩ v).heap[b]? = some (.cells (c.setIfInBounds (off+i) v) f a):=by
    simp[World.setCell,I7,h]
   obtain⟨ay,d,a,f,h,p,q,r,s,t,u⟩:=DD (P:=P) (off:=off) aq (i+1) (w.setCell ⟨b,off+i,none⟩ v) (c.setIfInBounds (off+i) v) l (by simpa using j) g.2 (by grind);refine⟨ay,d,?_,f,by simpa using h,λk=>?_,by simpa using q,λk e=>?_,s,t,u⟩
   ·simp only[storeCells,Sem.run_bind,add_eq,run_store P w ⟨b,off+i,none⟩ v .plain o,m,n];simpa using a
   ·rw[p k];simp only[iK];by_cases e:k=off+i
    ·subst e;grind
    ·by_cases a:off+i<=k/\k<off+i+(aq.length+1)
     ·rw[aL (by omega),aL a,show k-(off+i)=(k-(off+(i+1)))+1 by omega,rR]
     ·rw[aw (by omega),aw a];grind
   ·rw[r k e];simp[World.setCell,I7,Ne.symm e]
theorem vf{cs fF aq:List Value}{off:Nat}(h:setCells cs off aq=some fF):off+aq.length<=cs.length/\fF.length=cs.length/\∀k,fF[k]? = if off<=k/\k<off+aq.length then aq[k-off]? else cs[k]?:=by
 unfold setCells at h;rw[cJ]at h;by_cases a:off+aq.length<=cs.length
 ·simp only[a,decide_true,cond_true,aJ]at h;subst h;refine⟨a,by simp;omega,λk=>?_⟩;by_cases a:k<off
  ·rw[aw (by omega),hY (by simp;omega),jY a]
  ·rw[iq (by simp;omega)];simp only[l6,tj (show off<=cs.length by omega)];by_cases a:k<off+aq.length
   ·rw[aL (by omega),hY (by omega)]
   ·rw[aw (by omega),iq (by omega),jZ];congr 1;omega
 grind
theorem y'{cs l:List Value}{off n:Nat}(h:bB cs off n=some l):off+n<=cs.length/\l=(cs.drop off).take n:=by
 unfold bB at h;rw[cJ]at h;grind
theorem bN.E3{γ:aT}:∀{l aU:List Value},bN γ l aU->l.all dd=aU.all dd
 | _,_,.nil=>rfl
 | _,_,.cons h t=>by simp only[qp,h.one,bN.E3 t]
theorem Rel.store{O:cy}{d:Nat}{γ:aT}{H:ae}{w:World}{P:Program}{pm:Perm}(h:Rel O d γ H w){b off:Nat}{z:cM}{L:Loc}{cs fF aq a:List Value}(e:γ b=some L)(f:H.get b=some (.cells cs z))
 (i:setCells cs off aq=some fF) (c:bN γ aq a) (b7:aq.all dd=true) (j:pm.may b=true):
 ∃ay,(storeCells ⟨L.bj,L.d+off,none⟩ a).run P w=.ok () ay/\Step O d pm γ H w γ (H.put b (.cells fF z)) ay:=by
 obtain⟨_,g,k⟩:=h.bj b L e;rw[f]at g;cases g;obtain⟨l,m,n,o,p,_,_,_,q⟩:=k;obtain⟨_,_,k⟩:=vf i;have d:=c.length;obtain⟨ay,d,i,r,_,g,s,t,u,v,x⟩:=DD (P:=P) (b:=L.bj) (off:=L.d+off) a 0 w l o p (c.E3▸b7) (by omega);refine⟨ay,i,Step.write h e (by rw[f];trivial) j s t u v x λ_=>⟨d,m,n,r,by grind,by grind,by omega,by omega,λi v a=>?_⟩⟩;rw[k i]at a;simp only[Nat.add_zero]at g;show ∃e,d[L.d+i]? = some e/\_;rw[g (L.d+i)];by_cases d:off<=i/\i<off+aq.length
 ·rw[aL d]at a;rw[aL (by omega),show L.d+i-(L.d+off)=i-off by omega];exact c.get a
 ·rw[aw d]at a;rw[aw (by omega)];exact q i v a
section
variable{O:cy}{P:Program}{base:Nat}{pm:Perm}{γ:aT}{H ab:ae}{w:World}
def gn(O:cy)(P:Program)(base:Nat)(pm:Perm)(γ:aT)(H:ae)(w:World)(s:Sem Next)(v:Value)(ab:ae):Prop:=
 ∃a b c d,s.run P w=.ok a c/\(a=.value b∨a=.skip/\b=undef)/\aO d v b/\Step O base pm γ H w d ab c
theorem SA{s:Sem Value}{aQ:Value}{ay:World}(h:s.run P w=.ok aQ ay):(do pure (Next.value (<-s)):Sem Next).run P w=.ok (.value aQ) ay:=by
 simp[h]
theorem gn.pure(a:Rel O base γ H w){s:Sem Next}{v aQ:Value}(h:s.run P w=.ok (.value aQ) w)(b:aO γ v aQ):gn O P base pm γ H w s v H:=
 ⟨_,aQ,w,γ,h,.inl rfl,b,Step.refl a⟩
theorem gn.val(a:Rel O base γ H w){s:Sem Value}{v aQ:Value}(h:s.run P w=.ok aQ w)(b:aO γ v aQ)(c:ab=H):gn O P base pm γ H w (do Pure.pure (Next.value (<-s))) v ab:=
 by subst c;exact .pure a (SA h) b
theorem wy{t:TypeId}(h:known P t=true):∃d,P.underlying t=some d:=n0.1 h
theorem XH{t:TypeId}(h:known P t=true):∃i,P.info? t=some i:=by
 obtain⟨_,a⟩:=wy h;unfold Program.underlying at a;grind
theorem df{t:TypeId}{d:TypeDesc}(h:P.underlying t=some d):(underlying t).run P w=.ok d w:=by simp[underlying,h]
theorem DE{t:TypeId}{i:TypeInfo}(h:P.info? t=some i):(typeInfo t).run P w=.ok i w:=by simp[typeInfo,h]
theorem jI{t:TypeId}(h:known P t=true):(sizeOf t).run P w=.ok (P.cellsOf t) w:=by
 obtain⟨_,a⟩:=XH h;simp[sizeOf,DE a,Program.cellsOf,a]
theorem Jm{t:TypeId}(h:known P t=true):(isAgg t).run P w=.ok (lk P t) w:=by
 obtain⟨d,a⟩:=wy h;simp only[isAgg,Sem.run_bind,df a,Result.andThen_ok,lk,a];cases d<;>rfl
theorem nk{t:TypeId}{z:Value}(h:zeroOf P t=some z):(∃i,P.info? t=some i/\i.zero=some z)/\w9 z=true/\z.cells.size=P.cellsOf t/\known P t=true:=by
 unfold zeroOf at h;split at h
 ·rename_i _ _;split at h
  ·rename_i a;simp only[aJ]at h;subst h;simp only[bK,o0]at a;refine⟨?_,a.1.1,a.1.2,a.2⟩
   cases b:P.info? t with
   | none=>grind
   | some i=>grind
  ·cases h
 ·cases h
theorem qv{t:TypeId}{z:Value}(h:zeroOf P t=some z):(zeroValue t).run P w=.ok z w:=by
 obtain⟨⟨_,a,b⟩,_⟩:=nk h;simp[zeroValue,DE a,b]
theorem bN.wW{z:Value}(h:w9 z=true):bN γ z.cells.toList z.cells.toList:=(aO.plain h).cells
theorem aO.fa{k:IntKind}{n:Int}{aQ:Value}(h:aO γ (.int k n) aQ):aQ=.int k n:=by cases h;rfl
theorem aO.mo{b:Bool}{aQ:Value}(h:aO γ (.bool b) aQ):aQ=.bool b:=by cases h;rfl
theorem aO.hL{s:ByteArray}{aQ:Value}(h:aO γ (.string s) aQ):aQ=.string s:=by cases h;rfl
theorem aO.lZ{a:Addr}{aQ:Value}(h:aO γ (.pointer (some a)) aQ):∃L,γ a.block=some L/\a.spot=none/\aQ=.pointer (some ⟨L.bj,L.d+a.off,none⟩):=by
 cases h with
 | ptr h=>grind
theorem aO.wI{r:Nat}{aQ:Value}(h:aO γ (.map (some r)) aQ):∃L,γ r=some L/\aQ=.map (some L.bj):=by
 cases h with
 | Cx h=>grind
theorem aO.ua{cs:Array Value}{aQ:Value}(h:aO γ (.agg cs) aQ):∃fF,aQ=.agg fF/\bN γ cs.toList fF.toList:=by
 cases h with
 | agg h=>grind
theorem aO.D1{cs:Array Value}{aQ:Value}(h:aO γ (.tuple cs) aQ):∃fF,aQ=.tuple fF/\bN γ cs.toList fF.toList:=by
 cases h with
 | tuple h=>grind
theorem aO.pf{a:Addr}{n c:Nat}{aQ:Value}(h:aO γ (.slice (some a) n c) aQ):
 ∃L,γ a.block=some L/\a.spot=none/\n<=c/\((∃b,aQ=.slice (some ⟨L.bj,L.d+a.off,none⟩) n b/\c<=b/\(b=c∨0<L.s/\L.d+a.off+b*L.s<=L.e))∨(n=0/\c=0/\∃b5,aQ=.slice (some b5) 0 0)):=by
 cases h with
 | gV h _ _ _=>grind
 | nc h=>grind
theorem aO.xH{n c:Nat}{aQ:Value}(h:aO γ (.slice none n c) aQ):n=0/\c=0/\aQ=.slice none 0 0:=by
 cases h;grind
theorem bN.int:bN γ [] []:=.nil
theorem UT{l aU:List Value}(h:bN γ l aU):aO γ (bA l) (.agg aU.toArray):=.agg h
theorem RQ{a:Bool}{off n:Nat}{cs:List Value}{v:Value}(h:rM a off n cs=some v):(a=true/\off+n<=cs.length/\v=bA ((cs.drop off).take n))∨(a=false/\cs[off]? = some v):=by
 cases a with
 | true=>
   simp only[rM,cond_true]at h;split at h
   ·rename_i _ e;obtain⟨_,_⟩:=y' e;grind
   ·cases h
 | false=>exact .inr ⟨rfl,h⟩
theorem Rh(d:Rel O base γ H w){t:TypeId}{v aQ r:Value}(av:known P t=true)(f:aO γ v aQ)(h:(mr (lk P t) (P.cellsOf t) (some v)).run pm H=some (r,ab)):
 ∃bG,(Instr.loadAt t aQ).run P w=.ok bG w/\aO γ r bG/\ab=H:=by
 unfold mr at h;split at h
 ·rename_i a e;simp only[aJ]at e;subst e;obtain⟨L,g,_,rfl⟩:=f.lZ;obtain⟨_,i,h⟩:=run_get h;split at h
  ·rename_i _ k;obtain⟨l,rfl⟩:=qu h;obtain⟨m,_,_,b,_,c⟩:=d.row g i k;simp only[Instr.loadAt,Instr.sureAddr,loadVar,Sem.run_bind,Sem.run_pure,Result.andThen_ok,Jm av]
   rcases RQ l with⟨aI,mz,rfl⟩ | ⟨aI,a'⟩
   ·rw[aI];simp only[if_true,Sem.run_bind,jI av,Result.andThen_ok];rw[run_loadCells w ⟨L.bj,L.d+a.off,none⟩ (P.cellsOf t) (λj=>(m[L.d+a.off+j]?).getD undef) (λj _=>by
     rw[add_eq,pP b,mT (by omega)];rfl)]
    exact⟨_,rfl,UT (c.Qk mz),trivial⟩
   ·obtain⟨u,_,h⟩:=c _ _ a';rw[aI];refine⟨u,?_,h,trivial⟩;simp only[kl,if_false,run_load,pP b];grind
  ·exact(bw h).elim
 ·exact(bw h).elim
theorem CL(d:Rel O base γ H w){a:Addr}{aq b:List Value}{k:bf}{L:Loc}{r:Value×ae}(e:γ a.block=some L)(f:bN γ aq b)(h:(putRow a aq k).run pm H=some r):
 ∃c ay,(storeCells ⟨L.bj,L.d+a.off,none⟩ b).run P w=.ok () ay/\Step O base pm γ H w γ c ay/\k.run pm c=some r:=by
 unfold putRow at h;obtain⟨_,g,h⟩:=run_get h;split at h
 ·rename_i _ _;obtain⟨a,h⟩:=kZ h;split at h
  ·rename_i _ i;obtain⟨j,h⟩:=qt h;obtain⟨ay,_,_⟩:=d.store (P:=P) e g i f a j;grind
  ·exact(bw h).elim
 ·exact(bw h).elim
theorem ZP(f:Rel O base γ H w){t:TypeId}{v aQ u b r:Value}(av:known P t=true)(g:aO γ v aQ)(c:aO γ u b)(h:(nH (P.cellsOf t) (some v) (some u)).run pm H=some (r,ab)):
 ∃ay,(Instr.storeAt t aQ b).run P w=.ok () ay/\r=aR/\Step O base pm γ H w γ ab ay:=by
 unfold nH at h;split at h
 ·rename_i _ _ e a;simp only[aJ]at e a;subst e a;obtain⟨_,i,_,rfl⟩:=g.lZ;obtain⟨d,h⟩:=kZ h;obtain⟨_,ay,j,a,k⟩:=CL (P:=P) f i c.cells h;obtain⟨l,rfl⟩:=dX k;refine⟨ay,?_,l.symm,a⟩;have m:b.cells.size=P.cellsOf t:=by
   have:=c.cells.length;rw[dc]at d;have:=tq d;simp only[l5]at*
   omega
  simp only[Instr.storeAt,Instr.sureAddr,storeVar,Sem.run_bind,Sem.run_pure,Result.andThen_ok,jI av,m,ne_eq,not_true_eq_false,if_false];exact j
 ·exact(bw h).elim
end
theorem oF(a b:Int):hS a b=(a==b):=by
 cases a with
 | ofNat _=>cases b with
   | ofNat _=>
     simp only[hS,dc]
     grind
   | negSucc _=>rfl
 | negSucc _=>cases b with
   | ofNat _=>rfl
   | negSucc _=>
     simp only[hS,dc]
     grind
theorem Cv(a b:Int):jA a b=decide (a<b):=by
 cases a with
 | ofNat _=>cases b with
   | ofNat _=>
     simp only[jA,hE]
     grind
   | negSucc _=>
     rfl
 | negSucc _=>cases b with
   | ofNat _=>
     simp only[jA]
     grind
   | negSucc _=>
     simp only[jA,hE]
     grind
theorem r7(k:IntKind)(n:Int):wr k n=k.wrap n:=by
 unfold wr;split
 ·rename_i m;rw[hE];by_cases h:m<half k
  ·simp only[h,decide_true,cond_true];unfold IntKind.wrap;have a:(Int.ofNat m:Int)=(m:Int):=rfl;rw[a];cases k<;>simp only[half]at h<;>simp only[IntKind.bits,IntKind.signed,Nat.reduceSub,Int.reducePow,Bool.true_and,Bool.false_and,kl,if_false]<;>first | omega | (rw[aw (by simp;omega)];omega)
  grind
 ·rfl
section
variable{O:cy}{P:Program}{base:Nat}{pm:Perm}{γ:aT}{H ab:ae}{w:World}
theorem Zx{c:BinOp}{k:IntKind}{a b:Int}{v:Value}(h:ha c k a b=some v):
 ∃f,(match c with
  | .add | .sub | .mul=>f=Op.intArith c k a b
  | .quo | .rem=>f=Op.intDiv c k a b
  | .and | .or | .xor | .andNot=>f=Op.intBits c k a b
  | _=>f=Op.intCmp c a b)/\f.run P w=.ok v w/\aO γ v v:=by
 cases c<;>simp only[ha,aJ,reduceCtorEq,oF,Cv,r7]at h
 case quo=>
  refine⟨_,rfl,?_⟩;by_cases a:b=0
  ·subst a;simp at h
  ·have:(b==0)=false:=beq_false_of_ne a;rw[this]at h;simp only[cond_false,aJ]at h;subst h;exact⟨by simp[Op.intDiv,a],.int _ _⟩
 case rem=>
  refine⟨_,rfl,?_⟩;by_cases a:b=0
  ·subst a;simp at h
  ·have:(b==0)=false:=beq_false_of_ne a;rw[this]at h;simp only[cond_false,aJ]at h;subst h;exact⟨by simp[Op.intDiv,a],.int _ _⟩
 all_goals
  subst h
  refine⟨_,rfl,?_,by constructor⟩
  first
   | rfl
   | (simp only[Op.intCmp,Sem.run_pure];first | rfl | (congr 2;rw[<-decide_not];congr 1;exact propext (by omega)) | (simp[bne];done))
theorem ZQ{a:BinOp}{x y:ByteArray}{v:Value}(h:tG a x y=some v):(Op.stringOp a x y).run P w=.ok v w/\aO γ v v:=by
 cases a<;>simp only[tG,aJ,reduceCtorEq]at h
 case add=>
  rw[cJ]at h;by_cases b:x.size+y.size<=4294967296
  ·simp only[b,decide_true,cond_true,aJ]at h;subst h;refine⟨?_,.str _⟩;simp[Op.stringOp];omega
  grind
 all_goals
  subst h
  exact⟨by rfl,.bool _⟩
end
section
variable{O:cy}{P:Program}{base:Nat}{pm:Perm}{γ:aT}{H ab:ae}{w:World}
theorem Rl{c:BinOp}{t:TypeId}{iQ iR:Operand}{a b b5 cC v:Value}(d:c=.shl∨c=.shr)(h:tE c a b=some v)(aI:aO γ a b5)(e:aO γ b cC):
 (do eqGuard c t iQ iR b5 cC;Go.binOp c t b5 cC:Sem Value).run P w=.ok v w/\aO γ v v:=by
 unfold tE at h;split at h
 ·rename_i _ _ _ _;obtain rfl:=aI.fa;obtain rfl:=e.fa
  rcases d with rfl | rfl
  ·simp only[aJ,r7]at h;subst h;refine⟨?_,.int _ _⟩;rfl
  ·simp only[aJ]at h;subst h;refine⟨?_,.int _ _⟩;rfl
 ·cases h
theorem ZK{c:BinOp}{t:TypeId}{iQ iR:Operand}{a b b5 cC v:Value}(i:c≠.shl/\c≠.shr/\c≠.eql/\c≠.neq)(h:w8 c a b=some v)(aI:aO γ a b5)(d:aO γ b cC):
 (do eqGuard c t iQ iR b5 cC;Go.binOp c t b5 cC:Sem Value).run P w=.ok v w/\aO γ v v:=by
 obtain⟨a,b,e,f⟩:=i;unfold w8 at h;split at h
 ·rename_i _ _ _ _;obtain rfl:=aI.fa;obtain rfl:=d.fa;split at h
  ·rename_i j;subst j;obtain⟨_,g,k,l⟩:=Zx (P:=P) (w:=w) (γ:=γ) h;refine⟨?_,l⟩;cases c<;>first | (exact absurd rfl a) | (exact absurd rfl b) | (exact absurd rfl e) | (exact absurd rfl f) | (simp only at g;subst g;simpa [eqGuard,Go.binOp]using k) | (simp[ha]at h)
  ·cases h
 ·rename_i _ _;obtain rfl:=aI.hL;obtain rfl:=d.hL;obtain⟨g,k⟩:=ZQ (P:=P) (w:=w) (γ:=γ) h;refine⟨?_,k⟩;cases c<;>first | (exact absurd rfl a) | (exact absurd rfl b) | (exact absurd rfl e) | (exact absurd rfl f) | (simpa [eqGuard,Go.binOp]using g)
 ·cases h
theorem II{k:hQ}{a b b5 cC:Value}{r:Bool}(h:jD k a b=some r)(aI:aO γ a b5)(c:aO γ b cC):b5=a/\cC=b:=by
 unfold jD at h;split at h
 ·exact⟨aI.fa,c.fa⟩
 ·exact⟨aI.hL,c.hL⟩
 ·exact⟨aI.mo,c.mo⟩
 ·cases h
theorem CK{d:Nat}{t:TypeId}{k:hQ}{a b:Value}{r:Bool}(c:lu P t=some k)(h:jD k a b=some r):(Op.equalIn (d+1) t a b).run P w=.ok r w:=by
 unfold lu at c;unfold jD at h;split at h
 ·rename_i _ x _ y;split at h
  ·rename_i e;subst e;simp only[aJ,oF]at h;subst h;split at c<;>simp only[aJ,reduceCtorEq]at c;rename_i f g;exact run_equalIn_int w d t _ f x y g
  ·cases h
 ·rename_i i j;simp only[aJ]at h;subst h;split at c<;>simp only[aJ,reduceCtorEq]at c;rename_i l;exact run_equalIn_string w d t i j l
 ·rename_i m n;simp only[aJ]at h;subst h;split at c<;>simp only[aJ,reduceCtorEq]at c;rename_i o;exact run_equalIn_bool' w d t m n o
 ·cases h
theorem zE{t:TypeId}{k:hQ}(a:lu P t=some k):known P t=true/\lk P t=false:=by
 unfold lu at a;unfold known lk;grind
theorem DC{t:TypeId}{cs:Array Value}{off:Nat}{v:Value}(av:known P t=true)(aI:lk P t=false)(h:cs.toList[off]? = some v):(part t cs off).run P w=.ok v w:=by
 simp only[part,Sem.run_bind,Jm av,aI,Result.andThen_ok,kl,if_false];simp_all
theorem Rf{d:Nat}:∀(c2:List Field) (i:Nat) (aD:List hQ) (b c xs e:List Value) (r:Bool),tf P c2 i=some aD->gI aD xs e=some r->b.length=i->c.length=i->
 (Op.eqFields (d+1) ⟨b++xs⟩ ⟨c++e⟩ c2).run P w=.ok r w
 | [],i,aD,b,c,xs,e,r,a,h,_,_=>by
   simp only[tf,aJ]at a;subst a;cases xs<;>cases e<;>simp only[gI,aJ,reduceCtorEq]at h;subst h;rfl
 | f::c2,i,aD,b,c,xs,e,r,a,h,o,p=>by
   simp only[tf]at a;split at a
   ·rename_i l;simp only[bK,bne_iff_ne,o0]at l;split at a
    ·rename_i _ q g s;simp only[aJ]at a;subst a
     cases xs with
     | nil=>simp[gI]at h
     | cons j x=>
       cases e with
       | nil=>simp[gI]at h
       | cons k y=>
         obtain⟨m,n⟩:=zE g;simp only[gI]at h;have t:(part f.type ⟨b++j::x⟩ f.offset).run P w=.ok j w:=DC m n (by grind);have u:(part f.type ⟨c++k::y⟩ f.offset).run P w=.ok k w:=DC m n (by grind);simp only[Op.eqFields,ne_eq,l.1,not_false_eq_true,if_true,Sem.run_bind,t,u,Result.andThen_ok];split at h
         ·rename_i v;rw[CK g v];simp only[Result.andThen_ok,Bool.not_true,kl,if_false];have:=Rf (d:=d) c2 (i+1) q (b++[j]) (c++[k]) x y r s h (by simp[o]) (by simp[p]);grind
         ·rename_i z;rw[CK g z];simp only[Result.andThen_ok,Bool.not_false,if_true,Sem.run_pure];grind
         ·cases h
    ·cases a
   ·cases a
theorem F6:∀{aD:List hQ} {xs a b c:List Value} {r:Bool},gI aD xs a=some r->bN γ xs b->bN γ a c->b=xs/\c=a
 | [],[],[],_,_,_,_,.nil,.nil=>⟨rfl,rfl⟩
 | k::aD,_::_,_::_,_,_,_,h,.cons d e,.cons f g=>by
   simp only[gI]at h;split at h
   ·rename_i i;obtain⟨rfl,rfl⟩:=II i d f;obtain⟨rfl,rfl⟩:=F6 h e g;grind
   ·rename_i j;obtain⟨rfl,rfl⟩:=II j d f;split at h
    ·rename_i _ l;obtain⟨rfl,rfl⟩:=F6 l e g;grind
    ·cases h
   ·cases h
theorem Ap{t:TypeId}{aD:List hQ}(h:tH P t=some aD):∃c2,P.underlying t=some (.struct c2)/\P.stoodInHeld t=false/\P.eqGuardType P.depth t=false/\tf P c2.toList 0=some aD:=by
 unfold tH at h;grind
theorem Rn{t:TypeId}{aD:List hQ}{a b:Array Value}{r:Bool}{d:Nat}(f:tH P t=some aD)(h:gI aD a.toList b.toList=some r):(Op.equalIn (d+2) t (.agg a) (.agg b)).run P w=.ok r w:=by
 obtain⟨c,e,g,_,i⟩:=Ap f;have f:P.fieldsOf t=c:=by simp[Program.fieldsOf,e]
 rw[run_equalIn_struct w (d+1) t a b (by rw[f];exact e) g,f];have:=Rf (P:=P) (w:=w) (d:=d) c.toList 0 aD [] [] a.toList b.toList r i h rfl rfl;simp_all
theorem OM{c:BinOp}{t:TypeId}{iQ iR:Operand}{a b:Value}(h:¬(a=.nilIface/\b=.nilIface))(cH:¬∃x y,a=.agg x/\b=.agg y):
 (eqGuard c t iQ iR a b).run P w=.ok () w:=by
 cases c<;>first
  | rfl
  | (cases a<;>cases b<;>first
   | rfl
   | grind
   | grind)
theorem Wn{a:BinOp}{t:TypeId}{iQ iR:Operand}(h:(isConst iQ||isConst iR)=true):(eqGuard a t iQ iR .nilIface .nilIface).run P w=.ok () w:=by
 cases a<;>first
  | rfl
  | (cases iQ<;>cases iR<;>first | (simp[isConst]at h;done) | rfl)
theorem ZI{c:sD}{a b b5 cC:Value}{r:Bool}{t:TypeId}{d:Nat}(h:kJ c a b=some r)(aI:aO γ a b5)(f:aO γ b cC)
 (a:match c with | .ptr=>∃e,P.underlying t=some (.pointer e) | .gV=>∃e,P.underlying t=some (.slice e) | .map=>∃k e,P.underlying t=some (.map k e) | .fn=>∃p q v,P.underlying t=some (.func p q v) | .uG _=>∃m,P.underlying t=some (.interface m)):
 (Op.equalIn (d+1) t b5 cC).run P w=.ok r w:=by
 unfold kJ at h;split at h
 all_goals first | (cases h;done) | skip
 all_goals (obtain⟨e,a⟩:=a)
 all_goals first | (obtain⟨b,_,a⟩:=a) | (obtain⟨b,a⟩:=a) | skip
 all_goals (cases aI<;>cases f)
 all_goals first
  | (simp only[aJ]at h;subst h;simp[Op.equalIn,df a];done)
  | (rename_i g
     have d:r=true:=by cases g<;>simp at h;exact h
     subst d
     simp[Op.equalIn,df a])
theorem Wo{a:sD}{b:Value}{r:Bool}{x:Array Value}(h:kJ a (.agg x) b=some r):False:=by cases a<;>cases b<;>simp[kJ]at h
theorem Wp{a:sD}{r:Bool}(h:kJ a .nilIface .nilIface=some r):a=.uG true:=by
 cases a<;>simp[kJ]at h;grind
theorem Wq{a:sD}{b:Value}{r:Bool}{k:IntKind}{n:Int}(h:kJ a (.int k n) b=some r):False:=by cases a<;>cases b<;>simp[kJ]at h
theorem Wr{a:sD}{b:Value}{r:Bool}{s:ByteArray}(h:kJ a (.string s) b=some r):False:=by cases a<;>cases b<;>simp[kJ]at h
theorem HU{t:TypeId}{iQ iR:Operand}{a b b5 cC:Value}{r:Bool}(aI:aO γ a b5)(c:aO γ b cC)(a':∀e,(eqGuard e t iQ iR b5 cC).run P w=.ok () w)(f:(Op.equalIn 10000 t b5 cC).run P w=.ok r w)
 (b:∀k n,a≠.int k n) (d:∀s,a≠.string s):
 (do eqGuard .eql t iQ iR b5 cC;Go.binOp .eql t b5 cC:Sem Value).run P w=.ok (.bool r) w/\(do eqGuard .neq t iQ iR b5 cC;Go.binOp .neq t b5 cC:Sem Value).run P w=.ok (.bool (!r)) w:=by
 have g:Go.binOp .eql t b5 cC=(do Pure.pure (.bool (<-Op.equal t b5 cC))):=by
  cases aI<;>first | (exact absurd rfl (b _ _)) | (exact absurd rfl (d _)) | (cases c<;>rfl)
 have h:Go.binOp .neq t b5 cC=(do Pure.pure (.bool (!(<-Op.equal t b5 cC)))):=by
  cases aI<;>first | (exact absurd rfl (b _ _)) | (exact absurd rfl (d _)) | (cases c<;>rfl)
 rw[g,h];simp[a',Op.equal,Op.maxDepth,f]
theorem ok_eq{t:TypeId}{iQ iR:Operand}{k:lL}{a b b5 cC:Value}{r:Bool}(av:rl P t iQ iR=some k)(h:k4 k a b=some r)(aI:aO γ a b5)(c:aO γ b cC):
 (do eqGuard .eql t iQ iR b5 cC;Go.binOp .eql t b5 cC:Sem Value).run P w=.ok (.bool r) w/\(do eqGuard .neq t iQ iR b5 cC;Go.binOp .neq t b5 cC:Sem Value).run P w=.ok (.bool (!r)) w:=by
 cases k with
 | bR=>
   simp only[k4]at h;unfold IP at h;split at h
   ·rename_i _ _ _ _;obtain rfl:=aI.fa;obtain rfl:=c.fa;split at h
    ·rename_i d;subst d;simp only[aJ,oF]at h;subst h;constructor<;>simp[eqGuard,Go.binOp,Op.intCmp,bne]
    ·cases h
   ·rename_i _ _;obtain rfl:=aI.hL;obtain rfl:=c.hL;simp only[aJ]at h;subst h;constructor<;>simp[eqGuard,Go.binOp,Op.stringOp]
   ·cases h
 | bool=>
   simp only[k4]at h;have a:lu P t=some .b:=by
    unfold rl at av;split at av<;>simp only[aJ,reduceCtorEq,xn,and_false,exists_const]at av;rename_i a;simp[lu,a]
   obtain⟨rfl,rfl⟩:=II h aI c;have b:∃x y,b5=.bool x/\cC=.bool y:=by
    cases b5<;>cases cC<;>first | grind | (simp[jD]at h;done)
   obtain⟨x,y,rfl,rfl⟩:=b;exact HU aI c (λ_=>OM (by simp) (by simp)) (CK a h) (by simp) (by simp)
 | nil _=>
   simp only[k4]at h;refine HU aI c (λ_=>?_) (ZI h aI c ?_) (λk _ e=>Wq (e▸h)) (λ_ e=>Wr (e▸h))
   ·by_cases a:b5=.nilIface/\cC=.nilIface
    ·obtain⟨rfl,rfl⟩:=a;cases aI;cases c;obtain rfl:=Wp h;refine Wn ?_;unfold rl at av;split at av<;>simp only[aJ,reduceCtorEq,xn,and_false,exists_const,lL.nil.injEq,sD.uG.injEq]at av;exact av
    ·refine OM a ?_;rintro⟨_,_,rfl,rfl⟩;cases aI;exact Wo h
   ·unfold rl at av;split at av<;>simp only[aJ,reduceCtorEq,xn,and_false,exists_const,lL.nil.injEq]at av
    all_goals grind
 | cells b=>
   simp only[k4]at h;have a:tH P t=some b:=by
    unfold rl at av;split at av<;>simp only[aJ,reduceCtorEq,xn,lL.cells.injEq,exists_eq_right]at av;exact av
   split at h
   ·rename_i f g;obtain⟨e,rfl,i⟩:=aI.ua;obtain⟨j,rfl,k⟩:=c.ua;obtain⟨l,m⟩:=F6 h i k;have n:e=f:=n2.1 l;have o:j=g:=n2.1 m;subst n o;obtain⟨_,_,_,p,_⟩:=Ap a;exact HU aI c (λq=>run_eqGuard_agg w q t iQ iR _ _ p) (Rn a h) (by simp) (by simp)
   ·cases h
end
section
variable{O:cy}{P:Program}{base:Nat}{pm:Perm}{γ:aT}{H ab:ae}{w:World}
def lM(v:Option Value)(l d:Nat):Prop:=v=none/\l=d∨∃k,v=some (.int k (l:Int))
theorem s9{o:Option Value}{n:Nat}(h:c8 o=some n):∃k,o=some (.int k (n:Int)):=by
 unfold c8 at h;split at h
 ·simp_all
 ·cases h
theorem rG{n:Nat}{e:Env}{a:Act}{G:Nat->Bool}(b:dG γ n e a)(c:fX G γ){d l:Nat}{o:Option Operand}(h:ed e d (o.map (rand G))=some l):lM (o.map a.eval) l d:=by
 cases o with
 | none=>simp only[Option.map_none,ed,aJ]at h;exact .inl ⟨rfl,h.symm⟩
 | some r=>
   simp only[hK,ed]at h;obtain⟨k,a⟩:=s9 h;exact .inr ⟨k,by rw[hK,(cK b c r a).fa]⟩
theorem uf{k:IntKind}{l y:Nat}{a:BoundsCode}(h:l<=y):(Instr.sliceBound (.int k (l:Int)) y a).run P w=.ok l w:=by
 rw[run_sliceBound w k l y a (by omega) (by omega)];simp
theorem yv{aZ:Bool}{len cap l h m:Nat}{ah a b:Option Value}(aY:lM ah l 0)(c:lM a h len)(d:lM b m cap)(b7:l<=h)(cH:h<=m)(e:m<=cap)(f:a.isSome=true∨b=none):
 (Instr.sliceBounds aZ len cap ah a b).run P w=.ok (l,h,m) w:=by
 rcases d with⟨rfl,rfl⟩ | ⟨adl,rfl⟩<;>rcases c with⟨rfl,rfl⟩ | ⟨adj,rfl⟩<;>rcases aY with⟨rfl,rfl⟩ | ⟨adk,rfl⟩<;>
  first
   | (simp at f;done)
   | simp[Instr.sliceBounds,uf e,uf cH,uf b7]
   | simp[Instr.sliceBounds,uf cH,uf b7]
   | simp[Instr.sliceBounds,uf cH]
   | simp[Instr.sliceBounds,uf b7]
   | simp[Instr.sliceBounds]
theorem ZN(D:Rel O base γ H w){t e:TypeId}{a:Option Addr}{n c l h m:Nat}{aQ r:Value}{ah i g:Option Value}(y:P.underlying t=some (.slice e))(av:known P e=true)(z:aO γ (.slice a n c) aQ)
 (aY:lM ah l 0) (q:lM i h n) (s:lM g m c) (u:i.isSome=true∨g=none) (d:(jU (P.cellsOf e) a l h m c).run pm H=some (r,ab)):
 ∃bG,(Instr.sliceAt t aQ ah i g).run P w=.ok bG w/\aO γ r bG/\ab=H:=by
 unfold jU at d;obtain⟨A,v⟩:=kZ d;clear d;simp only[cJ,bK,cP]at A;obtain⟨⟨x,B⟩,C⟩:=A;have j:P.elem t=e:=by simp[Program.elem,y]
 have o:P.underlying t=some (.slice (P.elem t)):=by rw[j];exact y
 rw[run_sliceAt_slice w t aQ ah i g o]
 cases a with
 | none=>
   obtain⟨rfl,rfl,rfl⟩:=z.xH;obtain⟨rfl,rfl⟩:=dX v;refine⟨.slice none 0 0,?_,?_,rfl⟩
   ·rw[run_slice_any w t none 0 0 o,yv aY q s x B C u];simp only[Result.andThen_ok,j,jI av,sliced];congr 2<;>first | (split<;>rfl) | omega
   grind
 | some a=>
   obtain⟨_,E,d⟩:=run_get v;clear v;obtain⟨L,p,_,_,F⟩:=z.pf;have G:r=.slice (some ⟨a.block,a.off+l*P.cellsOf e,none⟩) (h-l) (m-l)/\ab=H/\(P.cellsOf e=L.s∨L.s=0):=by
    obtain⟨_,b,c⟩:=D.bj a.block L p;rw[E]at b;cases b;split at d
    ·obtain⟨a,d⟩:=kZ d;obtain⟨_,_⟩:=dX d;simp only[dc,jG,cP]at a;obtain⟨_,_,_,_,_,f,_⟩:=c;grind
    ·obtain⟨_,_⟩:=dX d;obtain⟨_,_,_,_,_,f,_⟩:=c;grind
    ·exact(bw d).elim
   obtain⟨rfl,rfl,f⟩:=G
   rcases F with⟨mq,rfl,Cj,uF⟩ | ⟨rfl,rfl,b5,rfl⟩
   ·have r:∃b,lM g b mq/\m<=b/\b<=mq/\(b=m∨b=mq/\m=c):=by
     rcases s with⟨rfl,rfl⟩ | ⟨k,rfl⟩
     ·exact⟨mq,.inl ⟨rfl,rfl⟩,Cj,bc _,.inr ⟨rfl,rfl⟩⟩
     ·exact⟨m,.inr ⟨k,rfl⟩,bc _,by omega,.inl rfl⟩
    obtain⟨b,r,_,c,k⟩:=r;refine⟨sliced (some ⟨L.bj,L.d+a.off,none⟩) l h b (P.cellsOf e),?_,?_,rfl⟩
    ·rw[run_slice_any w t _ n mq o,yv aY q r x (by omega) c u];simp only[Result.andThen_ok,j,jI av]
    ·unfold sliced;by_cases c:b=l
     ·have a:h-l=0:=by omega
      have d:m-l=0:=by omega
      have e:b-l=0:=by omega
      rw[aL c,a,d,e];exact .nc p
     ·rw[aw c,hK,add_eq,show L.d+a.off+l*P.cellsOf e=L.d+(a.off+l*P.cellsOf e) by omega];refine .gV p (by omega) (by omega) ?_
      rcases k with rfl | ⟨rfl,rfl⟩
      ·exact .inl rfl
      ·rcases uF with rfl | ⟨a,_⟩
       ·exact .inl rfl
       ·refine .inr ⟨a,?_⟩
        rcases f with f | f
        ·rw[f];have:b*L.s=l*L.s+(b-l)*L.s:=by rw[<-rP];congr 1;omega
         omega
        ·omega
   ·have c:m=0:=by omega
    subst c;have k:l=0:=by omega
    have m:h=0:=by omega
    subst k m;refine⟨.slice (some b5) 0 0,?_,?_,rfl⟩
    ·rw[run_slice_any w t _ 0 0 o,yv aY q s x B C u];simp only[Result.andThen_ok,j,jI av,sliced];rfl
    ·simpa using aO.nc (γ:=γ) (b:=a.block) (off:=a.off+0*P.cellsOf e) (b5:=b5) p
theorem Rm{t e:TypeId}{yl:Option TypeId}{a b5 r:Value}{n l h:Nat}{ah d:Option Value}(c:match yl with | none=>P.underlying t=some (.array n e) | some x=>P.underlying t=some (.pointer x)/\P.underlying x=some (.array n e))(av:known P e=true)
 (o:aO γ a b5) (aY:lM ah l 0) (p:lM d h n) (b:(rj n (P.cellsOf e) (some a) (some l) (some h)).run pm H=some (r,ab)):
 ∃bG,(Instr.sliceAt t b5 ah d none).run P w=.ok bG w/\aO γ r bG/\ab=H:=by
 unfold rj at b;split at b
 ·rename_i x _ _ f g i;simp only[aJ]at f g i;subst f g i;obtain⟨a,b⟩:=kZ b;simp only[cJ,bK,cP]at a;obtain⟨rfl,rfl⟩:=dX b;obtain⟨L,j,_,rfl⟩:=o.lZ;have k:=λ(aZ:Bool)=>yv (P:=P) (w:=w) (aZ:=aZ) aY p (.inl ⟨rfl,rfl⟩:lM none n n) a.1 a.2 (bc _) (.inr rfl);refine⟨.slice (some (if n=l then⟨L.bj,L.d+x.off,none⟩ else(⟨L.bj,L.d+x.off,none⟩:Addr).add (l*P.cellsOf e))) (h-l) (n-l),?_,?_,rfl⟩
  ·cases yl with
   | none=>simp[Instr.sliceAt,df c,Instr.sureAddr,k,jI av]
   | some yl=>simp[Instr.sliceAt,Instr.slice,df c.1,df c.2,asAddr,k,jI av]
  ·by_cases m:n=l
   ·rw[aL m,show h-l=0 by omega,show n-l=0 by omega];exact .nc j
   ·rw[aw m,add_eq,show L.d+x.off+l*P.cellsOf e=L.d+(x.off+l*P.cellsOf e) by omega];exact .gV j (bc _) (by omega) (.inl rfl)
 ·exact(bw b).elim
end
section
variable{O:cy}{P:Program}{base:Nat}{pm:Perm}{γ:aT}{H ab:ae}{w:World}
theorem ZR{b:UnOp}{a b5 v:Value}(h:unOp b a=some v)(aI:aO γ a b5):(Op.unary b b5).run P w=.ok v w/\aO γ v v:=by
 unfold unOp at h;split at h
 ·rename_i _ _;obtain rfl:=aI.fa;simp only[aJ,r7]at h;subst h;exact⟨by simp[Op.unary,Op.intArith],.int _ _⟩
 ·rename_i _ _;obtain rfl:=aI.fa;simp only[ha,aJ]at h;subst h;exact⟨by simp[Op.unary,Op.intBits],.int _ _⟩
 ·obtain rfl:=aI.mo;simp only[aJ]at h;subst h;exact⟨by simp[Op.unary],.bool _⟩
 ·cases h
theorem Zq{s d:TypeId}{k aD:IntKind}{v aQ r:Value}(a:P.underlying s=some (.int aD))(b:P.underlying d=some (.int k))(c:aO γ v aQ)(h:(nG (.int k) v).run pm H=some (r,ab)):
 (convert s d aQ).run P w=.ok r w/\aO γ r r/\ab=H:=by
 unfold nG at h;simp only at h;split at h
 ·obtain rfl:=c.fa;obtain⟨rfl,rfl⟩:=dX h;refine⟨?_,.int _ _,rfl⟩;rw[r7];simp[convert,df a,df b,Conv.intToInt]
 ·exact(bw h).elim
theorem Zp{s d:TypeId}{v aQ r:Value}(a:P.underlying s=some .string)(b:P.underlying d=some .string)(c:aO γ v aQ)(h:(nG .id v).run pm H=some (r,ab)):
 (convert s d aQ).run P w=.ok r w/\aO γ r r/\ab=H:=by
 unfold nG at h;simp only at h;split at h
 ·obtain rfl:=c.hL;obtain⟨rfl,rfl⟩:=dX h;refine⟨?_,.str _,rfl⟩;simp[convert,df a,df b]
 ·exact(bw h).elim
theorem extract_toList(cs:Array Value)(i n:Nat):(cs.extract i (i+n)).toList=(cs.toList.drop i).take n:=by
 rw[Array.toList_extract,List.extract_eq_take_drop,show i+n-i=n by omega]
theorem Rk{t:TypeId}{cs fF:Array Value}{off:Nat}{v:Value}(av:known P t=true)(a:bN γ cs.toList fF.toList)(h:rM (lk P t) off (P.cellsOf t) cs.toList=some v):
 ∃aQ,(part t fF off).run P w=.ok aQ w/\aO γ v aQ:=by
 rcases RQ h with⟨aI,mz,rfl⟩ | ⟨aI,a'⟩
 ·refine⟨.agg (fF.extract off (off+P.cellsOf t)),?_,?_⟩
  ·simp[part,Jm av,aI,jI av]
  ·have:=(a.drop off).take (P.cellsOf t);rw[<-extract_toList fF]at this;exact .agg (aU:=(fF.extract off (off+P.cellsOf t)).toList) this
 ·obtain⟨u,b,c⟩:=a.get a';exact⟨u,DC av aI b,c⟩
theorem Zv{s:TypeId}{c2:Array Field}{b:Field}{i:Nat}{v aQ:Value}{a:Addr}(c:P.underlying s=some (.struct c2))(d:c2[i]? = some b)(av:known P b.type=true)(aP:P.cellsOf b.type≠0)(e:aO γ v aQ)(f:v=.pointer (some a)):
 ∃bG,(Instr.fieldAt s aQ i).run P w=.ok bG w/\aO γ (.pointer (some ⟨a.block,a.off+b.offset,none⟩)) bG:=by
 subst f;obtain⟨L,g,_,rfl⟩:=e.lZ;refine⟨.pointer (some ⟨L.bj,L.d+(a.off+b.offset),none⟩),?_,.ptr g⟩;simp only[Instr.fieldAt,Sem.run_bind,df c,Result.andThen_ok,d,Instr.sureAddr,Sem.run_pure,fieldPlace,jI av,aP,if_false,add_eq,o7]
theorem Zu{s:TypeId}{c2:Array Field}{a:Field}{i:Nat}{cs:Array Value}{aQ r:Value}(b:P.underlying s=some (.struct c2))(c:c2[i]? = some a)(av:known P a.type=true)(d:aO γ (.agg cs) aQ)(h:rM (lk P a.type) a.offset (P.cellsOf a.type) cs.toList=some r):
 ∃bG,(Instr.field s aQ i).run P w=.ok bG w/\aO γ r bG:=by
 obtain⟨_,rfl,a⟩:=d.ua;obtain⟨bG,d,e⟩:=Rk (P:=P) (w:=w) av a h;refine⟨bG,?_,e⟩;simp only[Instr.field,Sem.run_bind,df b,Result.andThen_ok,c,asAgg,Sem.run_pure,d]
theorem ZA{t e:TypeId}{v aQ i a r:Value}{n:Nat}(f:P.underlying t=some (.slice e))(av:known P e=true)(g:aO γ v aQ)(j:aO γ i a)(k:c8 (some i)=some n)(h:(rh (P.cellsOf e) (some v) (some n)).run pm H=some (r,ab)):
 ∃bG,(Instr.indexAt t aQ a).run P w=.ok bG w/\aO γ r bG/\ab=H:=by
 obtain⟨_,b⟩:=s9 k;simp only[aJ]at b;subst b;obtain rfl:=j.fa;unfold rh at h;split at h
 ·rename_i l m _ _ c d;simp only[aJ]at c d;subst c d;obtain⟨i,h⟩:=kZ h;simp only[hE,cP]at i;obtain⟨rfl,rfl⟩:=dX h;obtain⟨L,o,_,_,p⟩:=g.pf
  rcases p with⟨mq,rfl,_,_⟩ | ⟨rfl,_⟩
  ·refine⟨.pointer (some ⟨L.bj,L.d+(l.off+n*P.cellsOf e),none⟩),?_,.ptr o,rfl⟩;have h:(0:Int)<=(n:Int)/\(n:Int)<(m:Int):=by omega
   simp only[Instr.indexAt,asIntOf,Sem.run_bind,Sem.run_pure,Result.andThen_ok,df f,h,and_self,if_true,jI av,zR,add_eq,o7]
  ·omega
 ·exact(bw h).elim
theorem Zz{t e:TypeId}{v aQ i a r:Value}{n m:Nat}(f:P.underlying t=some (.array m e))(av:known P e=true)(g:aO γ v aQ)(j:aO γ i a)(k:c8 (some i)=some n)(h:(rf m (P.cellsOf e) (some v) (some n)).run pm H=some (r,ab)):
 ∃bG,(Instr.indexAt t aQ a).run P w=.ok bG w/\aO γ r bG/\ab=H:=by
 obtain⟨_,b⟩:=s9 k;simp only[aJ]at b;subst b;obtain rfl:=j.fa;unfold rf at h;split at h
 ·rename_i l _ c d;simp only[aJ]at c d;subst c d;obtain⟨i,h⟩:=kZ h;simp only[hE,cP]at i;obtain⟨rfl,rfl⟩:=dX h;obtain⟨L,o,_,rfl⟩:=g.lZ;refine⟨.pointer (some ⟨L.bj,L.d+(l.off+n*P.cellsOf e),none⟩),?_,.ptr o,rfl⟩;have p:(0:Int)<=(n:Int)/\(n:Int)<(m:Int):=by omega
  simp only[Instr.indexAt,asIntOf,Sem.run_bind,Sem.run_pure,Result.andThen_ok,df f,Instr.sureAddr,p,and_self,if_true,jI av,zR,add_eq,o7]
 ·exact(bw h).elim
theorem ZB{t:TypeId}{v aQ i a r:Value}{n:Nat}(f:P.underlying t=some .string)(g:aO γ v aQ)(j:aO γ i a)(k:c8 (some i)=some n)(h:(ri (some v) (some n)).run pm H=some (r,ab)):
 (Instr.index t aQ a).run P w=.ok r w/\aO γ r r/\ab=H:=by
 obtain⟨_,b⟩:=s9 k;simp only[aJ]at b;subst b;obtain rfl:=j.fa;unfold ri at h;split at h
 ·rename_i s _ c d;simp only[aJ]at c d;subst c d;obtain rfl:=g.hL;split at h
  ·rename_i l e;obtain⟨rfl,rfl⟩:=dX h;refine⟨?_,.int _ _,rfl⟩;have i:(0:Int)<=(n:Int):=by omega
   have h:s[n]? = some l:=by
    rw[kX]at e;obtain⟨m,o⟩:=gT.1 e;have p:n<s.size:=m;rw[getElem?_pos s n p];exact congrArg some o
   simp only[Instr.index,asIntOf,Sem.run_bind,Sem.run_pure,Result.andThen_ok,df f,i,if_true,zR,h]
  ·exact(bw h).elim
 ·exact(bw h).elim
theorem Zy{t e:TypeId}{v aQ i c r:Value}{n m:Nat}(f:P.underlying t=some (.array m e))(av:known P e=true)(g:aO γ v aQ)(j:aO γ i c)(k:c8 (some i)=some n)(h:(sT (lk P e) m (P.cellsOf e) (some v) (some n)).run pm H=some (r,ab)):
 ∃bG,(Instr.index t aQ c).run P w=.ok bG w/\aO γ r bG/\ab=H:=by
 obtain⟨_,d⟩:=s9 k;simp only[aJ]at d;subst d;obtain rfl:=j.fa;unfold sT at h;split at h
 ·rename_i _ _ a b;simp only[aJ]at a b;subst a b;obtain⟨e,h⟩:=kZ h;simp only[hE,cP]at e;obtain⟨i,rfl⟩:=qu h;obtain⟨_,rfl,l⟩:=g.ua;obtain⟨bG,a,b⟩:=Rk (P:=P) (w:=w) av l i;refine⟨bG,?_,b,rfl⟩;have o:(0:Int)<=(n:Int)/\(n:Int)<(m:Int):=by omega
  simp only[Instr.index,asIntOf,Sem.run_bind,Sem.run_pure,Result.andThen_ok,df f,o,and_self,if_true,jI av,zR,a]
 ·exact(bw h).elim
theorem ZO{t:TypeId}{v aQ r:Value}{l:Nat}{ah a:Option Value}{c:Nat->Option Nat}(d:P.underlying t=some .string)(i:aO γ v aQ)(aY:lM ah l 0)(j:∀n h,c n=some h->lM a h n)
 (h:(oE (some v) (some l) (some c)).run pm H=some (r,ab)):(Instr.sliceAt t aQ ah a none).run P w=.ok r w/\aO γ r r/\ab=H:=by
 unfold oE at h;split at h
 ·rename_i s _ _ e f g;simp only[aJ]at e f g;subst e f g;split at h
  ·rename_i _ k;obtain⟨b,h⟩:=kZ h;simp only[cJ,bK,cP]at b;obtain⟨rfl,rfl⟩:=dX h;obtain rfl:=i.hL;refine⟨?_,.str _,rfl⟩;rw[Dq];have l:=yv (P:=P) (w:=w) (aZ:=false) aY (j _ _ k) (.inl ⟨rfl,rfl⟩:lM none s.size s.size) b.1 b.2 (bc _) (.inr rfl);rw[run_sliceAt_string w t _ ah a none d];simp only[Instr.slice,Sem.run_bind,df d,Result.andThen_ok,Option.isSome_none,kl,if_false,l,Sem.run_pure]
  ·exact(bw h).elim
 ·exact(bw h).elim
theorem Zt{i:Nat}{aq:Array Value}{aQ r:Value}(a:aO γ (.tuple aq) aQ)(h:aq.toList[i]? = some r):∃bG,(Instr.extract aQ i).run P w=.ok bG w/\aO γ r bG:=by
 obtain⟨_,rfl,b⟩:=a.D1;obtain⟨u,a,c⟩:=b.get h;refine⟨u,?_,c⟩;simp only[Instr.extract];rw[<-kX,a];rfl
theorem Rj{c:Bool}{jl:Array TypeId}{ty:TypeId}{a b b5 cC r:Value}(aI:aO γ a b5)(f:aO γ b cC)(h:(mu c (some a) (some b)).run pm H=some (r,ab)):
 (if c then Builtin.max_ jl ty #[b5,cC] else Builtin.min_ jl ty #[b5,cC]).run P w=.ok r w/\aO γ r r/\ab=H:=by
 unfold mu at h;split at h
 ·rename_i _ x _ y d e;simp only[aJ]at d e;subst d e;obtain rfl:=aI.fa;obtain rfl:=f.fa;obtain⟨rfl,rfl⟩:=dX h;refine⟨?_,.int _ _,rfl⟩;cases c
  ·simp only[kl,if_false,Builtin.min_,cond_false,Cv];simp only[List.foldlM,Builtin.min2];by_cases a:y<x<;>simp[a]
  ·simp only[if_true,Builtin.max_,cond_true,Cv];simp only[List.foldlM,Builtin.max2];by_cases a:x<y<;>simp[a]
 ·exact(bw h).elim
end
section
variable{O:cy}{P:Program}{base:Nat}{pm:Perm}{γ:aT}{H ab:ae}{w:World}
theorem oq.of{γ:aT}{cs:List Value}{c:Array Value}(h:bN γ cs c.toList):oq γ cs (λi=>c[0+i]?):=by
 intro i _ a;obtain⟨_,_,_⟩:=h.get a;grind
theorem Step.Bh(e:Rel O base γ H w)(f:pm.fo γ H){cs:List Value}{c:Array Value}(b:TypeId)(z:cM)(g:∀a,z=.t a->b=a)(d:bN γ cs c.toList):
 Step O base pm γ H w (γ.set (pm.pick H) ⟨w.heap.size,0,z.val,c.size⟩) (pm.make H (.cells cs z)) {w with heap:=w.heap.push (.cells c b)}:=
 Step.alloc e f (.cells cs z) (.cells c b) z.val c.size λ_ _ a=>by
  refine⟨c,b,(0,0),by simp,λ_ _=>by simp,⟨rfl,cM.ZJ g rfl (by have:=d.length;grind)⟩,bc _,?_,?_⟩
  ·have:=d.length;grind
  ·exact oq.of (d.mono a)
theorem Step.UX(b:Rel O base γ H w)(e:pm.fo γ H){cs:List Value}{c:Array Value}(a:TypeId)(z:cM)(f:∀d aV l,z.ok a d aV l)(aY:cs.length<=c.size)(g:oq γ cs (λi=>c[0+i]?)):
 Step O base pm γ H w (γ.set (pm.pick H) ⟨w.heap.size,0,z.val,c.size⟩) (pm.make H (.cells cs z)) {w with heap:=w.heap.push (.cells c a)}:=
 Step.alloc b e (.cells cs z) (.cells c a) z.val c.size λ_ _ d=>
  ⟨c,a,(0,0),by simp,λi _=>by simp,⟨rfl,f _ _ _⟩,bc _,by grind,λi v h=>let ⟨a,b,e⟩:=g i v h;⟨a,b,e.mono d⟩⟩
theorem aT.IQ(γ:aT){n b s e:Nat}:aO (γ.set n ⟨b,0,s,e⟩) (ptr n) (.pointer (some ⟨b,0,none⟩)):=by
 have:=aO.ptr (γ:=γ.set n ⟨b,0,s,e⟩) (off:=0) (aT.gU γ n ⟨b,0,s,e⟩);simpa [ptr]using this
theorem aT.S9(γ:aT){n b s e l c:Nat}(h:l<=c):aO (γ.set n ⟨b,0,s,e⟩) (.slice (some ⟨n,0,none⟩) l c) (.slice (some ⟨b,0,none⟩) l c):=by
 have:=aO.gV (γ:=γ.set n ⟨b,0,s,e⟩) (off:=0) (aT.gU γ n ⟨b,0,s,e⟩) (bc c) h (.inl rfl);grind
theorem Zf(c:Rel O base γ H w)(d:pm.fo γ H){e:TypeId}{z:Value}{r:Value}(a:zeroOf P e=some z)(h:(bf.new (.cells z.cells.toList (.t e)) λb=>.ret (ptr b)).run pm H=some (r,ab)):
 ∃bG ay b,(Instr.alloc e true (.tuple #[])).run P w=.ok bG ay/\aO b r bG/\Step O base pm γ H w b ab ay:=by
 simp only[bf.run,aJ,cp]at h;obtain⟨rfl,rfl⟩:=h;obtain⟨_,f,_⟩:=nk a;refine⟨_,_,_,?_,aT.IQ γ,Step.Bh c d e (.t e) (λ_ q=>by cases q;rfl) (bN.wW f)⟩;simp[Instr.alloc,qv a,newVar,newRow]
theorem Zj(c:Rel O base γ H w)(d:pm.fo γ H){e:TypeId}{v aQ r:Value}(f:aO γ v aQ)(h:(bf.new (.cells v.cells.toList (.t e)) λb=>.ret (ptr b)).run pm H=some (r,ab)):
 ∃bG ay a,(Instr.box e aQ).run P w=.ok bG ay/\aO a r bG/\Step O base pm γ H w a ab ay:=by
 simp only[bf.run,aJ,cp]at h;obtain⟨rfl,rfl⟩:=h;refine⟨_,_,_,?_,aT.IQ γ,Step.Bh c d e (.t e) (λ_ q=>by cases q;rfl) f.cells⟩;rfl
theorem GR(off:Nat):∀(l:List Value) (a:Nat) (b:Array Value),off+a+l.length<=b.size->
 ((l.zipIdx a).foldl (λcs (x:Value×Nat)=>cs.setIfInBounds (off+x.2) x.1) b).size=b.size/\
 ∀k,((l.zipIdx a).foldl (λcs (x:Value×Nat)=>cs.setIfInBounds (off+x.2) x.1) b)[k]? = if off+a<=k/\k<off+a+l.length then l[k-(off+a)]? else b[k]?
 | [],a,b,_=>⟨rfl,λk=>by rw[aw (by simp)];rfl⟩
 | v::l,a,b,h=>by
   simp only[iK]at h;simp only[List.zipIdx_cons,xe];obtain⟨c,d⟩:=GR off l (a+1) (b.setIfInBounds (off+a) v) (by rw[Array.size_setIfInBounds];omega);refine⟨by rw[c,Array.size_setIfInBounds],λk=>?_⟩;rw[d k];simp only[iK];by_cases e:k=off+a
   ·subst e;rw[aw (by omega),aL (by omega)];simp[show off+a<b.size by omega]
   grind
theorem aaZ{cs fF aq a:List Value}{c:Array Value}{off:Nat}(b:setCells cs off aq=some fF)(d:bN γ cs c.toList)(e:bN γ aq a):
 bN γ fF ((a.zipIdx 0).foldl (λcs (x:Value×Nat)=>cs.setIfInBounds (off+x.2) x.1) c).toList:=by
 obtain⟨_,_,f⟩:=vf b;have b:=d.length;have g:=e.length;simp only[l5]at b;obtain⟨_,g⟩:=GR off a 0 c (by omega);refine bN.rF (by grind) λi _ _ a b=>?_;rw[f i]at a;rw[kX,g i]at b;simp only[Nat.add_zero]at b;by_cases f:off<=i/\i<off+aq.length
 ·rw[aL f]at a;rw[aL (by omega)]at b;obtain⟨_,_,_⟩:=e.get a;grind
 ·rw[aw f]at a;rw[aw (by omega)]at b;obtain⟨_,_,_⟩:=d.get a;grind
inductive sG(γ:aT)(place:Nat->Option (Nat×Nat)):List (Nat×Nat×Value)->List (Nat×Value)->Prop
 | nil:sG γ place [] []
 | cons {i off n:Nat} {v aQ:Value} {l:List (Nat×Nat×Value)} {aU:List (Nat×Value)} (gP:place i=some (off,n)) (c1:aO γ v aQ) (t:sG γ place l aU):sG γ place ((off,n,v)::l) ((i,aQ)::aU)
theorem HV{b:Nat->Option (Nat×Nat)}{l:List (Nat×Nat×Value)}{aU:List (Nat×Value)}(i:sG γ b l aU):∀{z r:List Value} {c:Array Value},fill z l=some r->bN γ z c.toList->
 ∃a,Instr.fill b c aU=some a/\bN γ r a.toList/\a.size=c.size:=by
 induction i with
 | nil=>
   intro z r c h d;simp only[fill,aJ]at h;subst h;exact⟨c,rfl,d,rfl⟩
 | @cons _ j n v k l aU m d _ ih=>
   intro z r c h e;simp only[fill,dc]at h;by_cases f:v.cells.toList.length=n
   ·simp only[f,decide_true,cond_true]at h;split at h
    ·rename_i _ g;have l:=aaZ g e d.cells;obtain⟨o,_,_⟩:=vf g;have p:=d.cells.length;have q:=e.length;simp only[l5]at p q f;obtain⟨r,_⟩:=GR j k.cells.toList 0 c (by simp only[l5,Nat.add_zero]at *;omega);obtain⟨a,s,t,u⟩:=ih h l;refine⟨a,?_,t,by rw[u,r]⟩;simp only[Instr.fill,m];rw[aw (by simp only[l5]at o;simp only[ne_eq,jG,cP,not_or,Decidable.not_not,Nat.not_lt];omega)];rw[<-Array.foldl_toList,Array.toList_zipIdx];exact s
    ·cases h
   grind
end
section
variable{O:cy}{P:Program}{base:Nat}{pm:Perm}{γ:aT}{H ab:ae}{w:World}
theorem Sw:∀(c2:List Field),c2.all (λf=>known P f.type)=true->
 (c2.mapM λf=>do pure (f.offset,<-sizeOf f.type):Sem (List (Nat×Nat))).run P w=.ok (c2.map λf=>(f.offset,P.cellsOf f.type)) w
 | [],_=>by simp
 | f::c2,h=>by
   simp only[qp,bK]at h;have ih:=Sw c2 h.2;simp only[List.mapM_cons,Sem.run_bind,jI h.1,Result.andThen_ok,Sem.run_pure,zQ];rw[ih];rfl
theorem aaW{c2:Array Field}(h:c2.all (λf=>known P f.type)=true):
 (c2.mapM λf=>do pure (f.offset,<-sizeOf f.type):Sem (Array (Nat×Nat))).run P w=.ok (c2.map λf=>(f.offset,P.cellsOf f.type)) w:=by
 rw[Array.mapM_eq_mapM_toList];have:=Sw (P:=P) (w:=w) c2.toList (by simpa using h);simp only[Sem.run_map,this,Result.andThen_ok];congr 1;grind
theorem Zm{t:TypeId}{c2:Array Field}{z:Value}{l:List (Nat×Nat×Value)}{parts:Array (Nat×Value)}{cs:List Value}(a:zeroOf P t=some z)(b:P.underlying t=some (.struct c2))(av:c2.all (λf=>known P f.type)=true)
 (c:sG γ (λi=>(c2.map λf=>(f.offset,P.cellsOf f.type))[i]?) l parts.toList) (h:fill z.cells.toList l=some cs):
 ∃bG,(Instr.build t parts).run P w=.ok bG w/\aO γ (bA cs) bG:=by
 obtain⟨_,d,_⟩:=nk a;obtain⟨e,g,j,_⟩:=HV c h (bN.wW d);refine⟨.agg e,?_,.agg j⟩;simp only[Instr.build,Sem.run_bind,qv a,Result.andThen_ok,df b,aaW av,g,Sem.run_pure]
theorem Zk{t e:TypeId}{n:Nat}{z:Value}{l:List (Nat×Nat×Value)}{parts:Array (Nat×Value)}{cs:List Value}(a:zeroOf P t=some z)(b:P.underlying t=some (.array n e))(av:known P e=true)
 (c:sG γ (λi=>some (i*P.cellsOf e,P.cellsOf e)) l parts.toList) (h:fill z.cells.toList l=some cs):
 ∃bG,(Instr.build t parts).run P w=.ok bG w/\aO γ (bA cs) bG:=by
 obtain⟨_,d,_⟩:=nk a;obtain⟨f,g,j,_⟩:=HV c h (bN.wW d);refine⟨.agg f,?_,.agg j⟩;simp only[Instr.build,Sem.run_bind,qv a,Result.andThen_ok,df b,jI av,g,Sem.run_pure]
theorem Tu(l:List Value):∀n,(times l n).length=n*l.length
 | 0=>by simp[times]
 | n+1=>by simp[times,Tu l n,rP,Nat.add_comm]
theorem xP(l:List Value):∀(n i:Nat),i<n*l.length->(times l n)[i]? = some (l[i%l.length]!)
 | 0,i,h=>by simp at h
 | n+1,i,_=>by
   have a:0<l.length:=qo λ_=>by grind
   rw[times];by_cases a:i<l.length
   ·rw[hY a,n1 a,en a,getElem!_pos l i a]
   ·rw[iq (by omega),xP l n (i-l.length) (by grind)];congr 2;rw[Nat.mod_eq_sub_mod (by omega:i≥l.length)]
theorem JJ(z:Array Value)(n:Nat):((Array.range (n*z.size)).map λi=>z[i%z.size]!).toList=times z.toList n:=by
 apply n4;intro i;by_cases a:i<n*z.size
 ·rw[xP z.toList n i (by simpa using a)];grind
 ·rw[hc (by simpa using a),hc (by rw[Tu];simpa using a)]
theorem DY{l:List Value}(h:bN γ l l):∀n,bN γ (times l n) (times l n)
 | 0=>.nil
 | n+1=>h.append (DY h n)
theorem Zl(g:Rel O base γ H w)(j:pm.fo γ H){t e:TypeId}{z:Value}{n:Nat}{l:List (Nat×Nat×Value)}{parts:Array (Nat×Value)}{cs:List Value}{r:Value}(k:P.underlying t=some (.slice e))(f:zeroOf P e=some z)(d:n*P.cellsOf e<=65536)
 (m:sG γ (λi=>some (i*P.cellsOf e,P.cellsOf e)) l parts.toList) (h:fill (times z.cells.toList n) l=some cs)
 (cH:(bf.new (.cells cs (.n (P.cellsOf e))) λb=>.ret (.slice (some ⟨b,0,none⟩) n n)).run pm H=some (r,ab)):
 ∃bG ay d,(Instr.buildSlice t n parts).run P w=.ok bG ay/\aO d r bG/\Step O base pm γ H w d ab ay:=by
 simp only[bf.run,aJ,cp]at cH;obtain⟨rfl,rfl⟩:=cH;obtain⟨_,d,o,p⟩:=nk f;have q:((Array.range (n*P.cellsOf e)).map λi=>z.cells[i%z.cells.size]!).toList=times z.cells.toList n:=by rw[<-o];exact JJ z.cells n
 obtain⟨_,a,s,_⟩:=HV m h (c:=(Array.range (n*P.cellsOf e)).map λi=>z.cells[i%z.cells.size]!) (by rw[q];exact DY (bN.wW d) n);refine⟨_,_,_,?_,aT.S9 γ (bc n),Step.Bh g j e (.n (P.cellsOf e)) (λ_ u=>by cases u) s⟩;simp only[Instr.buildSlice,Sem.run_bind,df k,Result.andThen_ok,jI p];rw[aw (by omega)];by_cases d:n*P.cellsOf e=0
 ·have b:((Array.range 0).map λi=>(#[]:Array Value)[i%(#[]:Array Value).size]!)=((Array.range 0).map λi=>z.cells[i%z.cells.size]!):=by
   apply Array.ext';simp
  rw[d]at a;simp only[d,if_true,Sem.run_pure,Result.andThen_ok,b,a,newRow,Sem.run_bind,run_newObj]
 ·simp only[d,if_false,Sem.run_bind,qv f,Result.andThen_ok,Sem.run_pure,a,newRow,run_newObj]
theorem ZF(c:Rel O base γ H w)(d:pm.fo γ H){t:TypeId}{r:Value}(h:(bf.new (.map [] 0) λb=>.ret (.map (some b))).run pm H=some (r,ab)):
 ∃bG ay a,(Instr.makeMap t none).run P w=.ok bG ay/\aO a r bG/\Step O base pm γ H w a ab ay:=by
 simp only[bf.run,aJ,cp]at h;obtain⟨rfl,rfl⟩:=h;refine⟨.map (some w.heap.size),_,_,?_,aO.Cx (L:=⟨w.heap.size,0,0,0⟩) (aT.gU γ _ _),Step.alloc c d (.map [] 0) (.map #[] 0) 0 0 λ_ a _=>⟨#[],by simp,.nil⟩⟩;rfl
theorem ZL(c:Rel O base γ H w)(d:pm.fo γ H){t:TypeId}{s:ByteArray}{r:Value}(f:P.underlying t=some .string)(h:(bf.new (.iter s 0) λb=>.ret (ptr b)).run pm H=some (r,ab)):
 ∃bG ay a,(Instr.range t (.string s)).run P w=.ok bG ay/\aO a r bG/\Step O base pm γ H w a ab ay:=by
 simp only[bf.run,aJ,cp]at h;obtain⟨rfl,rfl⟩:=h;refine⟨_,_,_,?_,aT.IQ γ (s:=0) (e:=0),Step.alloc c d (.iter s 0) (.stringIter s 0) 0 0 λ_ a _=>⟨by simp,rfl⟩⟩;simp[Instr.range,df f]
end
end Go.Dam
namespace Go.Dam
open Go Go.Builtin
section
variable{O:cy}{P:Program}{base:Nat}{pm:Perm}{γ:aT}{H ab:ae}{w:World}
theorem Bn:∀l:List UInt8,bN γ (dp l) (dp l)
 | []=>.nil
 | _::l=>.cons (.int _ _) (Bn l)
theorem zx(g:Rel O base γ H w){cn:Nat}{v aQ:Value}{k:List Value->Nat->bf}{r:Value×ae}(b:aO γ v aQ)(h:(fz cn v k).run pm H=some r):
 ∃l aU n,(k l n).run pm H=some r/\bN γ l aU/\l.length=n*cn/\∀a:World,a.heap=w.heap->(lenOf aQ).run P a=.ok n a/\∀m,m<=n->(firstCells cn m aQ).run P a=.ok (aU.take (m*cn)).toArray a:=by
 unfold fz at h;split at h
 ·obtain⟨rfl,rfl,rfl⟩:=b.xH;exact⟨[],[],0,h,.nil,by simp,λa _=>⟨by simp[lenOf],λm _=>by simp[firstCells]⟩⟩
 ·rename_i c n d;obtain⟨L,i,_,_,e⟩:=b.pf;obtain⟨_,k,h⟩:=run_get h;split at h
  ·rename_i _ o;split at h
   ·rename_i l p;obtain⟨q,rfl⟩:=y' p;obtain⟨d,_,_,f,_,r⟩:=g.row i k o;refine⟨_,_,n,h,r.Qk q,by simp;omega,λa s=>⟨?_,λm t=>?_⟩⟩
    all_goals rw[<-s]at f
    ·rcases e with⟨mq,rfl,_⟩ | ⟨rfl,_,b5,rfl⟩<;>simp[lenOf]
    ·have h:m*cn<=n*cn:=fV _ t
     rcases e with⟨mq,rfl,_⟩ | ⟨rfl,_,b5,rfl⟩
     ·simp only[firstCells];rw[run_loadCells a ⟨L.bj,L.d+c.off,none⟩ (m*cn) (λj=>(d[L.d+c.off+j]?).getD undef) (λj _=>by
       rw[add_eq,pP f,mT (by omega)];rfl)]
      rw[<-List.map_take,List.take_range,tj h]
     ·obtain rfl:m=0:=by omega
      simp[firstCells,loadCells,loadCellsFrom]
   ·exact(bw h).elim
  ·exact(bw h).elim
 ·rename_i u;obtain rfl:=b.hL;obtain⟨e,h⟩:=kZ h;rw[dc]at e;obtain rfl:=tq e;refine⟨_,_,u.size,h,Bn _,by simp[dp],λa _=>⟨by simp[lenOf],λm _=>?_⟩⟩;simp only[firstCells,Sem.run_pure];congr 1;apply Array.ext';simp only[dp,Nat.mul_one,<-List.map_take,Array.toList_map,ByteArray.data_extract,Array.toList_extract];rfl
 ·exact(bw h).elim
theorem NK:∀{l aU:List Value} {b:List UInt8},bytesOf l=some b->bN γ l aU->∃a:List Int,aU=a.map (Value.int .u8)/\b=a.map λn=>UInt8.ofNat n.toNat
 | [],_,_,h,.nil=>⟨[],rfl,by simpa [bytesOf]using h.symm⟩
 | v::l,_,b,h,.cons c t=>by
   unfold bytesOf at h;split at h
   ·grind
   ·rename_i n _ e;cases e;split at h
    ·rename_i _ d;obtain⟨a,f,_⟩:=NK d t;obtain rfl:=c.fa;refine⟨n::a,by simp[f],?_⟩;grind
    ·cases h
   ·cases h
theorem foldl_push(a:List Int):∀b:ByteArray,a.foldl (λr n=>r.push (UInt8.ofNat n.toNat)) b=⟨b.data++(a.map λn=>UInt8.ofNat n.toNat).toArray⟩:=by
 induction a with
 | nil=>intro b;simp
 | cons n a ih=>
   simp_all
theorem Zi(o:Rel O base γ H w){v aQ r:Value}(f:aO γ v aQ)(h:(nG .E8 v).run pm H=some (r,ab)):
 ∃bG,(Conv.bytesToString aQ).run P w=.ok bG w/\(∃b m c,aQ=.slice b m c)/\aO γ r bG/\ab=H:=by
 have t:∀s,v≠.string s:=by
  intro s b;subst b;exact bw h
 have g:∃b m c,aQ=.slice b m c:=by
  cases v<;>first | exact(bw h).elim | (cases f<;>exact⟨_,_,_,rfl⟩)
 have h:(fz 1 v λl _=>match bytesOf l with | some i=>.ret (.string ⟨i.toArray⟩) | none=>.fail).run pm H=some (r,ab):=by
  cases v<;>first | exact h | grind
 obtain⟨l,_,n,h,j,_,p⟩:=zx (P:=P) o f h;obtain⟨k,a⟩:=p w rfl;split at h
 ·rename_i i q;obtain⟨rfl,rfl⟩:=dX h;obtain⟨c,rfl,rfl⟩:=NK q j;have a:=a n (bc n);have r:=j.length;rw[qn (by omega)]at a;have m:∃b d e,aQ=.slice b d e:=by
   cases aQ<;>first | grind | grind | grind
  ·obtain⟨b,d,e,rfl⟩:=m;simp only[lenOf,Sem.run_pure,Result.ok.injEq,and_true]at k;subst k
   cases b with
   | none=>
     simp only[firstCells,Sem.run_pure,Result.ok.injEq,and_true]at a;have:c=[]:=by
      have:=congrArg Array.size a;simpa using this.symm
     subst this;refine⟨_,by simp[Conv.bytesToString];rfl,g,?_,rfl⟩;exact .str _
   | some b=>
     simp only[firstCells,Nat.mul_one]at a;refine⟨_,run_bytesToString w b d e c ?_,g,?_,rfl⟩
     ·rw[a]
     ·rw[foldl_push];have:(ByteArray.empty.data++(c.map λn=>UInt8.ofNat n.toNat).toArray)=(c.map λn=>UInt8.ofNat n.toNat).toArray:=by rw[show ByteArray.empty.data=#[] from rfl,Array.empty_append]
      rw[this];exact .str _
 ·exact(bw h).elim
end
section
variable{O:cy}{P:Program}{base:Nat}{pm:Perm}{γ:aT}{H ab:ae}{w:World}
theorem wrap_small{n:Nat}(h:n<=1073741824):IntKind.i64.wrap (n:Int)=(n:Int):=by
 simp only[IntKind.wrap,IntKind.signed,IntKind.bits];simp;omega
theorem Su(k:IntKind)(n:Int):(asInt (.int k n)).run P w=.ok n w:=rfl
theorem NJ{e:TypeId}{i:TypeInfo}(h:P.info? e=some i):i.bytes=P.bytesOf e:=by simp[Program.bytesOf,h]
theorem ZG(f:Rel O base γ H w)(g:pm.fo γ H){t e:TypeId}{z:Value}{r:Value}{n m:Nat}{k dy:IntKind}(j:P.underlying t=some (.slice e))(a:zeroOf P e=some z)
 (h:(pU z.cells.toList (P.bytesOf e) (some n) (some m)).run pm H=some (r,ab)):
 ∃bG ay b,(Instr.makeSlice t (.int k (n:Int)) (.int dy (m:Int))).run P w=.ok bG ay/\aO b r bG/\Step O base pm γ H w b ab ay:=by
 obtain⟨b,h⟩:=kZ h;simp only[bK,cJ,cP]at b;obtain⟨⟨l,o⟩,_⟩:=b;simp only[bf.run,aJ,cp]at h;obtain⟨rfl,rfl⟩:=h;obtain⟨⟨i,d,_⟩,p,b,q⟩:=nk a;have s:IntKind.i64.wrap (m:Int)=m:=wrap_small o;have u:IntKind.i64.wrap (n:Int)=n:=wrap_small (by omega);have v:=NJ d;have x:((Array.range (m*P.cellsOf e)).map λi=>z.cells[i%z.cells.size]!).toList=times z.cells.toList m:=by rw[<-b];exact JJ z.cells m
 have b:((P.bytesOf e:Int)*(m:Int))<=17179869184:=by rw[<-zW];omega
 have y:(decide ((m:Int)<0)||decide ((P.bytesOf e:Int)*(m:Int)>2^48)||decide ((n:Int)<0)||decide ((n:Int)>(m:Int)))=false:=by
  simp only[Bool.or_eq_false_iff,decide_eq_false_iff_not];refine⟨⟨⟨?_,?_⟩,?_⟩,?_⟩
  ·omega
  ·omega
  ·omega
  ·omega
 have A:=Step.Bh (pm:=pm) f g (cs:=times z.cells.toList m) (c:=(Array.range (m*P.cellsOf e)).map λi=>z.cells[i%z.cells.size]!) e (.n z.cells.toList.length) (λ_ B=>by cases B) (by rw[x];exact DY (bN.wW p) m);refine⟨_,_,_,?_,aT.S9 γ l,A⟩;simp only[Instr.makeSlice,Sem.run_bind,df j,Result.andThen_ok,Su,DE d,v,s,u,y,kl,if_false];simp only[run_askRoom,Result.andThen_ok,jI q,zR];by_cases b:m*P.cellsOf e=0
 ·have c:((Array.range 0).map λi=>(#[]:Array Value)[i%(#[]:Array Value).size]!)=((Array.range 0).map λi=>z.cells[i%z.cells.size]!):=by
   apply Array.ext';simp
  simp only[b,if_true,Sem.run_pure,Result.andThen_ok,newRow,Sem.run_bind,run_newObj,c]
 ·simp only[b,if_false,Sem.run_bind,qv a,Result.andThen_ok,Sem.run_pure,newRow,run_newObj]
theorem Y1(h:Array Obj)(o:Obj)(f:Obj->Obj):(h.push o).modify h.size f=h.push (f o):=by
 grind
theorem ZM(b:Rel O base γ H w)(j:pm.fo γ H){e:TypeId}{s:ByteArray}{r:Value}(h:(nG .Ag (.string s)).run pm H=some (r,ab)):
 ∃bG ay d,(Conv.stringToBytes e s).run P w=.ok bG ay/\aO d r bG/\Step O base pm γ H w d ab ay:=by
 simp only[nG,bf.run,aJ,cp]at h;obtain⟨rfl,rfl⟩:=h;generalize k:s.size+w.tape w.drawn (.appendCap s.size 0 e)%(2^63-s.size)=cap;generalize f:(s.data.map λg=>Value.int .u8 g.toNat)++Array.replicate (cap-s.size) (.int .u8 0)=c;have l:c.size=s.size+(cap-s.size):=by rw[<-f];simp
 have l:Rel O base γ H {w with drawn:=w.drawn+1}:=(Step.drawn (pm:=pm) b (w.drawn+1)).rel;have m:=(Step.drawn (pm:=pm) b (w.drawn+1)).trans (Step.alloc (pm:=pm) l j (.cells (dp s.data.toList) (.n 1)) (.cells c e (c.size,c.size+1)) 1 c.size λ_ d _=>by
  refine⟨c,e,(c.size,c.size+1),by simp,λi a=>by simp;omega,⟨rfl,trivial⟩,bc _,by simp[dp];omega,λi _ a=>?_⟩;simp only[dp,jd]at a
  cases h:s.data.toList[i]? with
  | none=>grind
  | some g=>
    rw[h]at a;simp only[hK,aJ]at a;subst a;refine⟨_,?_,.int _ _⟩;grind) b
 refine⟨.slice (some ⟨w.heap.size,0,none⟩) s.size cap,_,_,?_,?_,m⟩
 ·simp only[Conv.stringToBytes,Sem.run_bind,run_choose,Question.forced,kl,if_false,Result.andThen_ok,Question.cut,newRow,run_newObj,Sem.run_pure,k,f,markStringish,run_shape,World.shape?];simp[World.freeze,Y1]
 ·have:=aO.gV (γ:=γ.set (pm.pick H) ⟨w.heap.size,0,1,c.size⟩) (off:=0) (n:=s.size) (cap:=s.size) (dm:=cap) (aT.gU γ (pm.pick H) ⟨w.heap.size,0,1,c.size⟩) (by omega) (bc _) (.inr ⟨Nat.zero_lt_one,by simp;omega⟩);grind
end
section
variable{O:cy}{P:Program}{base:Nat}{pm:Perm}{γ:aT}{H ab:ae}{w:World}
theorem Pd(a:Nat):∀r c,c<=a+(a+768)/4->growBy a r c<=a+(a+768)/4
 | 0,c,h=>h
 | r+1,c,_=>by
   unfold growBy;by_cases b:c≥a
   ·grind
   ·rw[aw b];exact Pd a r _ (by omega)
theorem nextslicecap_le{a ja:Nat}(h:ja<a):nextslicecap a ja<=2*a+192:=by
 unfold nextslicecap;split
 ·omega
 ·split
  ·omega
  ·have:=Pd a 4 ja (by omega);omega
def yb(P:Program)(u:TypeId):Prop:=(∃e,P.underlying u=some (.slice e))∨P.underlying u=some .string
theorem DA{t u e ty:TypeId}{b:Option Addr}{dI cap n:Nat}{x:Value}{new:Array Value}(d:P.underlying t=some (.slice e))(c:yb P u)(av:known P e=true)
 (aY:(lenOf x).run P w=.ok n w) (f:(firstCells (P.cellsOf e) n x).run P w=.ok new w) (g:dI+n<=cap):
 (append_ #[t,u] ty #[.slice b dI cap,x]).run P w=Result.andThen (((match b with | some a=>storeCells (a.add (dI*P.cellsOf e)) new.toList | none=>pure ()):Sem Unit).run P w) λ_ ay=>.ok (.slice b (dI+n) cap) ay:=by
 rcases c with⟨cA,c⟩ | c
 all_goals
  simp only[append_,Db,hI,rR,Sem.run_bind,df d,df c,jI av,Sem.run_pure,Result.andThen_ok,kl,if_false,aY,g,if_true,Bool.not_false,f]
  cases b<;>simp
theorem St{t u e ty:TypeId}{z:Value}{b:Option Addr}{dI cap n:Nat}{x:Value}{ja new:Array Value}(g:P.underlying t=some (.slice e))(c:yb P u)(d:zeroOf P e=some z)
 (aY:(lenOf x).run P w=.ok n w) (h:∀a:World,a.heap=w.heap->(firstCells (P.cellsOf e) n x).run P a=.ok new a) (i:∀a:World,a.heap=w.heap->(firstCells (P.cellsOf e) dI (.slice b dI cap)).run P a=.ok ja a) (j:cap<dI+n)
 (b7:(dI+n)*P.bytesOf e<=17179869184) (cH:P.bytesOf e<=17179869184) (a:dI+n<=17179869184):
 ∃a,dI+n<=a/\(append_ #[t,u] ty #[.slice b dI cap,x]).run P w=
  .ok (.slice (some ⟨w.heap.size,0,none⟩) (dI+n) a) {w with heap:=w.heap.push (.cells (ja++new++Builtin.zeroCells z.cells (a-(dI+n))) e),drawn:=w.drawn+1}:=by
 obtain⟨⟨_,f,_⟩,_,_,k⟩:=nk d;have l:=NJ f;have m:¬(((dI+n:Nat):Int)>IntKind.i64.max/\(False∨P.bytesOf e=0)):=by
  rintro⟨a,_⟩;simp only[IntKind.max,IntKind.signed,IntKind.bits]at a;simp at a;omega
 have o:¬nextslicecap (dI+n) cap*P.bytesOf e>2^48:=by
  have:=nextslicecap_le j;have a:=fV (P.bytesOf e) this;rw[rP,l3]at a;have a:192*P.bytesOf e<=192*17179869184:=nZ _ cH;omega
 refine⟨dI+n+w.tape w.drawn (.appendCap (dI+n) cap e)%(2^63-(dI+n)),by omega,?_⟩
 rcases c with⟨cA,c⟩ | c
 all_goals
  simp only[append_,Db,hI,rR,Sem.run_bind,df g,df c,jI k,Sem.run_pure,Result.andThen_ok,kl,if_false,aY,show ¬(dI+n<=cap) by omega,DE f,l,m,o,run_choose,Question.forced,Question.cut,run_askRoom,Bool.not_false,if_true]
  rw[i {w with drawn:=w.drawn+1} rfl]
  simp only[Result.andThen_ok]
  rw[h {w with drawn:=w.drawn+1} rfl]
  simp only[Result.andThen_ok,qv d,newRow,Sem.run_bind,run_newObj,Sem.run_pure]
theorem TL(z:Array Value)(n:Nat):(Builtin.zeroCells z n).size=n*z.size:=by simp[Builtin.zeroCells]
theorem Step.grown(a:Rel O base γ H w)(c:pm.fo γ H){e:TypeId}{l aU:List Value}{b:Array Value}{cn:Nat}(h:bN γ l aU):
 Step O base pm γ H w (γ.set (pm.pick H) ⟨w.heap.size,0,cn,(aU.toArray++b).size⟩) (pm.make H (.cells l (.n cn))) {w with heap:=w.heap.push (.cells (aU.toArray++b) e),drawn:=w.drawn+1}:=
 (Step.drawn (pm:=pm) a (w.drawn+1)).trans (Step.UX (pm:=pm) (Step.drawn (pm:=pm) a (w.drawn+1)).rel c e (.n cn) (λ_ _ _=>trivial) (by have:=h.length;simp;omega) λ_ _ b=>by
  obtain⟨_,_,_⟩:=h.get b;grind) a
theorem Pe{b c a d cn aV:Nat}(b7:a<=d)(cH:0<cn)(e:d*cn<=aV):aO (γ.set c ⟨b,0,cn,aV⟩) (.slice (some ⟨c,0,none⟩) a a) (.slice (some ⟨b,0,none⟩) a d):=by
 have:=aO.gV (γ:=γ.set c ⟨b,0,cn,aV⟩) (off:=0) (n:=a) (cap:=a) (dm:=d) (aT.gU γ c _) b7 (bc _) (.inr ⟨cH,by simpa using e⟩);grind
theorem Rg(f:Rel O base γ H w)(g:pm.fo γ H){t u e ty:TypeId}{z:Value}{b:Option Addr}{dI cap n:Nat}{x:Value}{ja uQ l aU:List Value}(h:P.underlying t=some (.slice e))(i:yb P u)(c:zeroOf P e=some z)
 (aY:(lenOf x).run P w=.ok n w) (j:∀a:World,a.heap=w.heap->(firstCells (P.cellsOf e) n x).run P a=.ok aU.toArray a) (k:∀a:World,a.heap=w.heap->(firstCells (P.cellsOf e) dI (.slice b dI cap)).run P a=.ok uQ.toArray a) (m:cap<dI+n)
 (b7:(dI+n)*P.bytesOf e<=17179869184) (cH:P.bytesOf e<=17179869184) (o:dI+n<=17179869184) (p:1<=P.cellsOf e)
 (a:bN γ ja uQ) (cA:bN γ l aU) (q:ja.length=dI*P.cellsOf e) (r:l.length=n*P.cellsOf e):
 ∃bG ay d,(append_ #[t,u] ty #[.slice b dI cap,x]).run P w=.ok bG ay/\aO d (.slice (some ⟨pm.pick H,0,none⟩) (dI+n) (dI+n)) bG/\Step O base pm γ H w d (pm.make H (.cells (ja++l) (.n (P.cellsOf e)))) ay:=by
 obtain⟨_,s,d⟩:=St (ty:=ty) h i c aY j k m b7 cH o;obtain⟨_,_,h,_⟩:=nk c;rw[show uQ.toArray++aU.toArray=(uQ++aU).toArray by simp]at d;refine⟨_,_,_,d,Pe s p ?_,Step.grown f g (a.append cA)⟩;have c:=(a.append cA).length;rw[Array.size_append,TL,h];simp only[o4,q,r]at c;simp only[List.size_toArray,o4,<-c,<-rP];grind
theorem Zw(c:Rel O base γ H w)(k:pm.fo γ H){b off dI n dm cn:Nat}{e:cM}{L:Loc}{cs ja l aU:List Value}(m:e.val=cn)(f:γ b=some L)(g:H.get b=some (.cells cs e))(o:pm.may b=true)(p:bB cs off (dI*cn)=some ja)
 (d:bN γ l aU) (q:l.all dd=true) (e:l.length=n*cn) (r:dI+n<=dm) (s:L.d+off+dm*L.s<=L.e):
 ∃ay,(storeCells ⟨L.bj,L.d+off+dI*cn,none⟩ aU).run P w=.ok () ay/\
  Step O base pm γ H w (γ.set (pm.pick H) ⟨L.bj,L.d+off,cn,L.e⟩) (pm.make (H.put b .dead) (.cells (ja++l) (.n cn))) ay/\L.s=cn:=by
 obtain⟨_,h,t⟩:=c.bj b L f;rw[g]at h;cases h;obtain⟨u,v,x,y,z,⟨a,_⟩,_,_,A⟩:=t;rw[m]at a;obtain⟨_,rfl⟩:=y' p;have e:=d.length;rw[a]at s;have e:(dI+n)*cn<=dm*cn:=fV _ r;rw[rP]at e;obtain⟨ay,i,e,B,_,C,D,E,F,G,I⟩:=DD (P:=P) (b:=L.bj) (off:=L.d+off+dI*cn) aU 0 w u y z (d.E3▸q) (by omega);refine⟨ay,e,Step.QE (ea:=⟨L.bj,L.d+off,cn,L.e⟩) c k f (by rw[g];trivial) o rfl D E F G I λ_ _ j=>⟨i,v,x,B,by grind,⟨rfl,trivial⟩,by grind,?_,λe _ c=>?_⟩,a⟩
 ·grind
 ·show ∃a,i[L.d+off+e]? = some a/\_;rw[C];simp only[Nat.add_zero];have b:((cs.drop off).take (dI*cn)).length=dI*cn:=by simp;omega
  by_cases f:e<dI*cn
  ·rw[hY (by omega),jY f,jZ]at c;rw[aw (by omega)];obtain⟨a,_,e⟩:=A _ _ c;refine⟨a,?_,e.mono j⟩;grind
  ·rw[iq (by omega),b]at c;obtain⟨a,b,e⟩:=d.get c;have c:=(hZ.1 b).1;rw[aL (by omega)];refine⟨a,?_,e.mono j⟩;grind
theorem Zg(d:Rel O base γ H w)(v:pm.fo γ H){t u e ty:TypeId}{z:Value}{s g x p r:Value}(j:P.underlying t=some (.slice e))(k:yb P u)(y:zeroOf P e=some z)(F:P.bytesOf e<=17179869184)(i:aO γ s g)(hx:aO γ x p)
 (h:(fz (P.cellsOf e) x λnew n=>fj (P.cellsOf e) (P.bytesOf e) s new n).run pm H=some (r,ab)):
 ∃bG ay f,(append_ #[t,u] ty #[g,p]).run P w=.ok bG ay/\aO f r bG/\Step O base pm γ H w f ab ay:=by
 obtain⟨_,_,_,z⟩:=nk y;obtain⟨A,G,n,I,l,B,e5⟩:=zx (P:=P) d hx h;clear h;have h:=I;clear I;have ae:=l.length;have m:∀c:World,c.heap=w.heap->(firstCells (P.cellsOf e) n p).run P c=.ok G.toArray c:=λc J=>by
  grind
 have o:=(e5 w rfl).1;unfold fj at h;split at h
 ·rename_i b dI cap;rw[dc]at h;by_cases s:n=0
  ·subst s;simp only[decide_true,cond_true]at h;obtain⟨rfl,rfl⟩:=dX h;have:G=[]:=I1 (by omega);subst this;obtain⟨a,dm,rfl,x⟩:∃a dm,g=.slice a dI dm/\dI<=dm:=by
    cases i with
    | r1=>grind
    | gV _ _ s _=>grind
    | nc _=>grind
   refine⟨_,w,γ,?_,i,Step.refl d⟩;rw[DA j k z o (m w rfl) (by omega)];cases a<;>simp[storeCells]
  ·simp only[s,decide_false,cond_false,cJ]at h;by_cases C:dI+n<=cap
   ·simp only[C,decide_true,cond_true]at h
    cases b with
    | none=>exact(bw h).elim
    | some a=>
      obtain⟨L,b,q,_,r⟩:=i.pf
      rcases r with⟨dm,rfl,x,uF⟩ | ⟨_,rfl,_⟩
      ·obtain⟨_,ay,_,t,u⟩:=CL (P:=P) d (a:=⟨a.block,a.off+dI*P.cellsOf e,none⟩) b l h;obtain⟨rfl,rfl⟩:=dX u;refine⟨.slice (some ⟨L.bj,L.d+a.off,none⟩) (dI+n) dm,ay,γ,?_,?_,t⟩
       ·rw[DA j k z o (m w rfl) (by omega)];simp only[add_eq,o7];simp_all
       ·obtain⟨_,_,_⟩:=a;simp only at q;subst q;exact .gV b x C uF
      ·omega
   ·simp only[C,decide_false,cond_false]at h;obtain⟨K,h⟩:=kZ h;simp only[bK,cP]at K;obtain⟨⟨⟨M,D⟩,N⟩,g4⟩:=K
    cases b with
    | none=>
      obtain⟨rfl,rfl,rfl⟩:=i.xH;simp only[bf.run,aJ,cp]at h;obtain⟨rfl,rfl⟩:=h;have:=Rg (ty:=ty) (pm:=pm) (ja:=[]) (uQ:=[]) (dI:=0) (cap:=0) (b:=none) d v j k y o m (λc _=>by simp[firstCells]) (by omega) M F N D .nil l (by simp) B;grind
    | some a=>
      obtain⟨_,E,h⟩:=run_get h;split at h
      ·rename_i _ _;obtain⟨q,r⟩:=kZ h;clear h;rw[dc]at q;have q:=tq q;split at r
       ·rename_i ja Q;obtain⟨R,h⟩:=qt r;clear r;simp only[bf.run,aJ,cp]at h;obtain⟨rfl,rfl⟩:=h;obtain⟨L,S,_,_,T⟩:=i.pf;have aa:(fz (P.cellsOf e) (.slice (some a) dI cap) λA _=>.ret (bA A)).run pm H=some (bA ja,H):=by
         simp[fz,bf.run,E,rowOf,Q]
        obtain⟨U,uQ,b,q1,V,q3,W⟩:=zx (P:=P) d i aa;obtain⟨q5,_⟩:=dX q1;have:U=ja:=by simpa [bA]using q5
        subst this;have ab:b=dI:=by
         have:=(W w rfl).1
         rcases T with⟨mq,rfl,_⟩ | ⟨rfl,_,b5,rfl⟩<;>simpa [lenOf]using this.symm
        subst ab;have ad:∀c:World,c.heap=w.heap->(firstCells (P.cellsOf e) b g).run P c=.ok uQ.toArray c:=λc J=>by
         have:=(W c J).2 b (bc _);rwa [qn (by have:=V.length;omega)]at this
        have X:Step O base pm γ H w γ (H.put a.block .dead) w:=Step.write d S (by rw[E];trivial) R rfl (λ_ _=>rfl) rfl rfl rfl λ_=>trivial;have Y:∀(Z:Option Addr) (dm:Nat),g=.slice Z b dm->dm<b+n->∃bG ay f,(append_ #[t,u] ty #[g,p]).run P w=.ok bG ay/\aO f (.slice (some ⟨pm.pick H,0,none⟩) (b+n) (b+n)) bG/\Step O base pm γ H w f (pm.make (H.put a.block .dead) (.cells (U++A) (.n (P.cellsOf e)))) ay:=by
         rintro Z dm rfl a;obtain⟨bG,ay,f,e,h,n⟩:=Rg (ty:=ty) (pm:=pm) X.rel v j k y o m ad a M F N D V l q3 B;exact⟨bG,ay,f,e,h,X.trans n d⟩
        rcases T with⟨dm,rfl,x,uF⟩ | ⟨G9,_,b5,rfl⟩
        ·by_cases h:b+n<=dm
         ·have t:=uF.resolve_left (by omega);obtain⟨ay,u,O,_⟩:=Zw (P:=P) (pm:=pm) d v q S E R Q l g4 B h t.2;refine⟨.slice (some ⟨L.bj,L.d+a.off,none⟩) (b+n) dm,ay,_,?_,?_,O⟩
          ·rw[DA j k z o (m w rfl) h];simp only[add_eq,u,Result.andThen_ok]
          ·have:=aO.gV (γ:=γ.set (pm.pick H) ⟨L.bj,L.d+a.off,P.cellsOf e,L.e⟩) (off:=0) (n:=b+n) (cap:=b+n) (dm:=dm) (aT.gU γ (pm.pick H) _) h (bc _) (.inr ⟨D,by grind⟩);exact this
         ·exact Y _ _ rfl (by omega)
        ·subst G9;exact Y _ _ rfl (by omega)
       ·exact(bw r).elim
      ·exact(bw h).elim
 ·exact(bw h).elim
theorem vR(l:List UInt8):(dp l).length=l.length:=by simp[dp]
theorem NL(a b:List UInt8):dp (a++b)=dp a++dp b:=by simp[dp]
theorem Vt{γ:aT}{l:List UInt8}{aU:List Value}(h:bN γ (dp l) aU):aU=dp l:=by
 apply n4;intro i;have a:=h.length;by_cases c:i<(dp l).length
 ·have a:(dp l)[i]? = some (dp l)[i]:=en c;obtain⟨_,c,b⟩:=h.get a;rw[c,a];have:∃k n,(dp l)[i]=.int k n:=by simp only[dp,List.getElem_map];exact⟨_,_,rfl⟩
  obtain⟨k,n,a⟩:=this;rw[a]at b|-;rw[b.fa]
 grind
theorem Zh(o:Rel O base γ H w)(B:pm.fo γ H){t u e ty:TypeId}{z:Value}{s y x E r:Value}(F:P.underlying t=some (.slice e))(G:P.underlying u=some .string)(I:zeroOf P e=some z)(ad:P.bytesOf e<=17179869184)(p:P.cellsOf e=1)(J:aO γ s y)(hx:aO γ x E)
 (h:(B0 e (P.bytesOf e) s x).run pm H=some (r,ab)):
 ∃bG ay f,(append_ #[t,u] ty #[y,E]).run P w=.ok bG ay/\aO f r bG/\Step O base pm γ H w f ab ay:=by
 obtain⟨_,_,af,hk⟩:=nk I;unfold B0 at h;split at h
 ·rename_i b _ j a;obtain rfl:=hx.hL;obtain⟨K,h⟩:=kZ h;simp only[bK,cJ,dc,cP]at K;obtain⟨_,c2,c3,rfl⟩:=K;have ab:(fz (P.cellsOf e) (.string a) λag _=>.ret (bA ag)).run pm H=some (bA (dp a.data.toList),H):=by
   rw[p];simp[fz,bf.run]
  obtain⟨l2,_,_,q1,q2,x,M⟩:=zx (P:=P) (w:=w) o (aO.str (γ:=γ) a) ab;obtain⟨q5,_⟩:=dX q1;have:l2=dp a.data.toList:=by simpa [bA]using q5
  subst this;have ah:=Vt q2;subst ah;rw[vR,p,Nat.mul_one]at x;have r:a.data.toList.length=a.size:=by rw[l5];rfl
  rw[r]at x;subst x;have N:=(M w rfl).1;have Q:∀d:World,d.heap=w.heap->(firstCells (P.cellsOf e) a.size (.string a)).run P d=.ok (dp a.data.toList).toArray d:=λd C=>by
   have:=(M d C).2 a.size (bc _);rwa [qn (by rw[vR,r,p];omega)]at this
  have R:∀{m:ae} (s:Rel O base γ m w) (S:pm.fo γ m) (l:Option Addr) (dm:Nat) (g:List UInt8),g.length=j->dm<j+a.size->
   (∀d:World,d.heap=w.heap->(firstCells (P.cellsOf e) j (.slice l j dm)).run P d=.ok (dp g).toArray d)->
   ∃bG ay f,(append_ #[t,u] ty #[.slice l j dm,.string a]).run P w=.ok bG ay/\aO f (.slice (some ⟨pm.pick m,0,none⟩) (j+a.size) (j+a.size)) bG/\Step O base pm γ m w f (pm.make m (.bytes e (g++a.data.toList))) ay:=by
   intro m s S l dm g k n q;obtain⟨b,v,i⟩:=St (ty:=ty) F (.inr G) I N Q q n c2 ad c3;rw[show(dp g).toArray++(dp a.data.toList).toArray=(dp (g++a.data.toList)).toArray by simp[NL]]at i;generalize D:Builtin.zeroCells z.cells (b-(j+a.size))=h at i;have H:h.size=b-(j+a.size):=by rw[<-D,TL,af,p,Nat.mul_one]
   have L:(dp (g++a.data.toList)).length=j+a.size:=by rw[vR,o4,k,r]
   have X:((dp (g++a.data.toList)).toArray++h).size=b:=by simp only[Array.size_append,List.size_toArray,L,H];omega
   refine⟨_,_,γ.set (pm.pick m) ⟨w.heap.size,0,1,b⟩,i,Pe (cn:=1) (aV:=b) v (by omega) (by omega),?_⟩;refine(Step.drawn (pm:=pm) s (w.drawn+1)).trans ?_ s;have T:=(Step.drawn (pm:=pm) s (w.drawn+1)).rel;refine Step.alloc (w:={w with drawn:=w.drawn+1}) T S (.bytes e (g++a.data.toList)) (.cells ((dp (g++a.data.toList)).toArray++h) e) 1 b λ_ f _=>?_;refine⟨(dp (g++a.data.toList)).toArray++h,(0,0),by simp,λU _=>by simp,rfl,rfl,by grind,by grind,λU V W=>?_⟩;refine⟨V,?_,?_⟩
   ·grind
   ·obtain⟨_,_,_⟩:=(Bn (γ:=f) (g++a.data.toList)).get W;grind
  cases b with
  | none=>
    obtain⟨b,_,rfl⟩:=J.xH;subst b;simp only[bf.run,aJ,cp]at h;obtain⟨rfl,rfl⟩:=h;have:=R o B none 0 [] rfl (by omega) (λd _=>by simp[firstCells,dp]);grind
  | some e=>
    obtain⟨_,z,h⟩:=run_get h;split at h
    ·rename_i A c;obtain⟨T,h⟩:=kZ h;simp only[bK,dc,cP]at T;obtain⟨rfl,U,rfl⟩:=T;obtain⟨V,h⟩:=qt h;simp only[bf.run,aJ,cp]at h;obtain⟨rfl,rfl⟩:=h;obtain⟨L,D,_,ae,ai⟩:=J.pf;obtain⟨_,W,g2⟩:=o.bj e.block L D;rw[z]at W;cases W;obtain⟨q,X,Y,k2,k3,Z,_,_,k7⟩:=g2;have aa:Step O base pm γ H w γ (H.put e.block .dead) w:=Step.write o D (by rw[z];trivial) V rfl (λ_ _=>rfl) rfl rfl rfl λaj=>trivial;have ak:∀i v,(dp c)[i]? = some v->q[i]? = some v:=λi v k=>by
      obtain⟨h,t,u⟩:=k7 i v k;have:∃b n,v=.int b n:=by
       simp only[dp,jd,xn]at k;obtain⟨_,_,rfl⟩:=k;exact⟨_,_,rfl⟩
      obtain⟨b,n,rfl⟩:=this;have w:q[i]? = some h:=t;rw[w,u.fa]
     have aq:(dp c).length=c.length:=vR c;have al:∀(dm:Nat) (d:World),d.heap=w.heap->(firstCells (P.cellsOf A) c.length (.slice (some ⟨L.bj,L.d+e.off,none⟩) c.length dm)).run P d=.ok (dp c).toArray d:=by
      intro dm d C;have n:d.heap[L.bj]? = some (.cells q A X):=by rw[C];exact Y
      simp only[firstCells,p,Nat.mul_one];rw[run_loadCells d ⟨L.bj,L.d+e.off,none⟩ c.length (λb=>(q[L.d+e.off+b]?).getD undef) (λb _=>by
       rw[add_eq,pP n,mT (by omega)];rfl)]
      congr 1;apply Array.ext';apply n4;intro i;by_cases k:i<c.length
      ·simp_all
      ·grind
     have h:∀(l:Option Addr) (dm:Nat),y=.slice l c.length dm->dm<c.length+a.size->(∀d:World,d.heap=w.heap->(firstCells (P.cellsOf A) c.length (.slice l c.length dm)).run P d=.ok (dp c).toArray d)->
      ∃bG ay f,(append_ #[t,u] ty #[y,.string a]).run P w=.ok bG ay/\aO f (.slice (some ⟨pm.pick H,0,none⟩) (c.length+a.size) (c.length+a.size)) bG/\Step O base pm γ H w f (pm.make (H.put e.block .dead) (.bytes A (c++a.data.toList))) ay:=by
      rintro l dm rfl b n;obtain⟨bG,ay,f,p1,p2,p3⟩:=R aa.rel B l dm c rfl b n;exact⟨bG,ay,f,p1,p2,aa.trans p3 o⟩
     rcases ai with⟨dm,rfl,Cj,uF⟩ | ⟨G9,_,b5,rfl⟩
     ·by_cases t:c.length+a.size<=dm
      ·have O:=uF.resolve_left (by omega);have an:L.d+e.off+dm*1<=L.e:=by have:=O.2;rwa [k3]at this
       have ao:(dp a.data.toList).all dd=true:=by
        rw[eA];intro v b;simp only[dp,gl]at b;obtain⟨_,_,rfl⟩:=b;rfl
       have ar:(dp a.data.toList).length=a.size:=by rw[vR,r]
       obtain⟨ay,u,e1,e2,_,e4,e5,e6,e7,e8,e9⟩:=DD (P:=P) (b:=L.bj) (off:=L.d+e.off+c.length) (dp a.data.toList) 0 w q Y k2 ao (by omega);refine⟨.slice (some ⟨L.bj,L.d+e.off,none⟩) (c.length+a.size) dm,ay,γ.set (pm.pick H) ⟨L.bj,L.d+e.off,1,L.e⟩,?_,?_,?_⟩
       ·rw[DA F (.inr G) hk N (Q w rfl) t];simp only[add_eq,p,Nat.mul_one,e1,Result.andThen_ok]
       ·have:=aO.gV (γ:=γ.set (pm.pick H) ⟨L.bj,L.d+e.off,1,L.e⟩) (off:=0) (n:=c.length+a.size) (cap:=c.length+a.size) (dm:=dm) (aT.gU γ (pm.pick H) _) t (bc _) (.inr ⟨Nat.one_pos,an⟩);exact this
       ·refine Step.QE (ea:=⟨L.bj,L.d+e.off,1,L.e⟩) o B D (by rw[z];trivial) V rfl e5 e6 e7 e8 e9 λaj f ae=>⟨u,X,e2,by grind,rfl,by rw[Z,U],by grind,?_,λi v k=>?_⟩
        ·grind
        ·have n:aO f v v:=by
          obtain⟨_,b,w⟩:=(Bn (γ:=f) (c++a.data.toList)).get k;rw[k]at b;cases b;exact w
         refine⟨v,?_,n⟩;rw[NL]at k;show u[i]? = some v;rw[e4,Z,U];simp only[Nat.zero_add,Nat.add_zero];by_cases b:i<c.length
         ·rw[aw (by omega)];rw[hY (by omega)]at k;exact ak i v k
         grind
      ·exact h _ _ rfl (by omega) (al dm)
     ·have b:c=[]:=I1 G9;subst b;exact h _ _ rfl (by omega) (λd _=>by simp[firstCells,loadCells,loadCellsFrom,dp])
    ·exact(bw h).elim
 ·exact(bw h).elim
end
section
variable{O:cy}{P:Program}{base:Nat}{pm:Perm}{γ:aT}{H ab:ae}{w:World}
theorem iV.length{l:List (Value×Value×Nat)}{aU:List MapEntry}(h:iV γ l aU):l.length=aU.length:=by
 induction h with
 | nil=>rfl
 | cons _ _ ih=>simp[ih]
theorem Rel.map(h:Rel O base γ H w){b c:Nat}{L:Loc}{a:List (Value×Value×Nat)}(d:γ b=some L)(e:H.get b=some (.map a c)):∃fk:Array MapEntry,w.heap[L.bj]? = some (.map fk c)/\iV γ a fk.toList:=by
 obtain⟨_,c,f⟩:=h.bj b L d;rw[e]at c;cases c;exact f
theorem Jl{r:Nat}{o:Obj}(h:w.heap[r]? = some o)(a:∀c e f,o≠.cells c e f):(getObj r).run P w=.ok o w:=by
 cases o<;>first | grind | simp[getObj,Sem.run,h]
theorem rW{r c:Nat}{a:Array MapEntry}(h:w.heap[r]? = some (.map a c)):(getObj r).run P w=.ok (.map a c) w:=Jl h λ_ _ _=>nofun
theorem Sz{r:Nat}{o a:Obj}(h:w.heap[r]? = some o)(b:∀c e f,o≠.cells c e f):(setObj r a).run P w=.ok () {w with heap:=w.heap.setIfInBounds r a}:=by
 cases o<;>first | grind | simp[setObj,Sem.run,h]
theorem xB{r c a:Nat}{d b:Array MapEntry}(h:w.heap[r]? = some (.map d c)):(setObj r (.map b a)).run P w=.ok () {w with heap:=w.heap.setIfInBounds r (.map b a)}:=Sz h λ_ _ _=>nofun
theorem Rel.xE(e:Rel O base γ H w){b c a:Nat}{L:Loc}{f d:List (Value×Value×Nat)}{g cA:Array MapEntry}(i:γ b=some L)(j:H.get b=some (.map f c))(f:pm.may b=true)(k:w.heap[L.bj]? = some (.map g c))(h:iV γ d cA.toList):
 Step O base pm γ H w γ (H.put b (.map d a)) {w with heap:=w.heap.setIfInBounds L.bj (.map cA a)}:=by
 have l:=(gT.1 k).1;exact Step.write e i (by rw[j];trivial) f (by simp) (λc _=>by grind) rfl rfl rfl λ_=>⟨cA,by simp[l],h⟩
theorem Zr(c:Rel O base γ H w){jl:Array TypeId}{t e ty:TypeId}{d j s g r:Value}(o:P.underlying t=some (.slice e))(p:jl[0]? = some t)(av:known P e=true)(k:aO γ d j)(q:aO γ s g)
 (h:(fz (P.cellsOf e) s λt n=>B2 (P.cellsOf e) d t n).run pm H=some (r,ab)):
 ∃bG ay,(copy_ jl ty #[j,g]).run P w=.ok bG ay/\aO γ r bG/\Step O base pm γ H w γ ab ay:=by
 obtain⟨_,u,n,a,v,_,x⟩:=zx (P:=P) c q h;clear h;obtain⟨y,z⟩:=x w rfl;have l:∀(f:Option Addr) (b i:Nat),(copy_ jl ty #[.slice f b i,g]).run P w=Result.andThen (((match f with | some m=>storeCells m (u.take (Nat.min n b*P.cellsOf e)) | none=>pure ()):Sem Unit).run P w) λ_ ay=>.ok (.int .i64 (Nat.min n b:Int)) ay:=by
  intro f b i;simp only[copy_,p,Db,hI,rR,Sem.run_bind,df o,jI av,Result.andThen_ok,y,z _ (Nat.min_le_left n b)];cases f<;>simp[goInt]
 unfold B2 at a;split at a
 ·obtain⟨rfl,rfl,rfl⟩:=k.xH;obtain⟨rfl,rfl⟩:=dX a;refine⟨.int .i64 0,w,?_,.int _ _,Step.refl c⟩;simp_all
 ·rename_i m b i;obtain⟨_,r,_,_,h⟩:=k.pf;rw[dc]at a;by_cases d:Nat.min n b=0
  ·simp only[d,decide_true,cond_true]at a;obtain⟨rfl,rfl⟩:=dX a;refine⟨.int .i64 0,w,?_,.int _ _,Step.refl c⟩
   rcases h with⟨mq,rfl,_⟩ | ⟨rfl,_,b5,rfl⟩<;>rw[l]<;>simp[d,storeCells]
  ·simp only[d,decide_false,cond_false]at a;obtain⟨_,ay,s,w,A⟩:=CL (P:=P) c r (v.take (Nat.min n b*P.cellsOf e)) a;obtain⟨rfl,rfl⟩:=dX A
   rcases h with⟨mq,rfl,_⟩ | ⟨rfl,_⟩
   ·refine⟨_,ay,?_,.int _ _,w⟩;rw[l];simp only[s,Result.andThen_ok]
   grind
 ·exact(bw a).elim
theorem Zo(a:Rel O base γ H w){jl:Array TypeId}{t e ty:TypeId}{z d f r:Value}(b:P.underlying t=some (.slice e))(c:jl[0]? = some t)(g:zeroOf P e=some z)(i:aO γ d f)(h:(y1 z.cells.toList (some d)).run pm H=some (r,ab)):
 ∃ay,(clear_ jl ty #[f]).run P w=.ok aR ay/\r=aR/\Step O base pm γ H w γ ab ay:=by
 obtain⟨_,j,_⟩:=nk g;unfold y1 at h;split at h
 ·rename_i k;cases k;obtain⟨rfl,rfl,rfl⟩:=i.xH;obtain⟨rfl,rfl⟩:=dX h;exact⟨w,by simp[clear_,c,df b,aR],rfl,Step.refl a⟩
 ·rename_i _ n _ l;cases l;obtain⟨_,m,_,_,d⟩:=i.pf;rw[dc]at h;by_cases e:n=0
  ·subst e;simp only[decide_true,cond_true]at h;obtain⟨rfl,rfl⟩:=dX h;refine⟨w,?_,rfl,Step.refl a⟩
   rcases d with⟨mq,rfl,_⟩ | ⟨_,rfl,b5,rfl⟩<;>simp[clear_,c,df b,aR]
  ·simp only[e,decide_false,cond_false]at h;obtain⟨_,ay,o,p,q⟩:=CL (P:=P) a m (DY (bN.wW j) n) h;obtain⟨rfl,rfl⟩:=dX q;refine⟨ay,?_,rfl,p⟩
   rcases d with⟨mq,rfl,_⟩ | ⟨rfl,_⟩
   ·have h:(Builtin.zeroCells z.cells n).toList=times z.cells.toList n:=JJ z.cells n
    cases n with
    | zero=>omega
    | succ _=>simp[clear_,c,df b,qv g,h,o,aR]
   ·omega
 ·exact(bw h).elim
theorem Zn(a:Rel O base γ H w){jl:Array TypeId}{t k e ty:TypeId}{d c r:Value}(f:P.underlying t=some (.map k e))(g:jl[0]? = some t)(i:aO γ d c)(h:(B1 (some d)).run pm H=some (r,ab)):
 ∃ay,(clear_ jl ty #[c]).run P w=.ok aR ay/\r=aR/\Step O base pm γ H w γ ab ay:=by
 unfold B1 at h;split at h
 ·rename_i j;cases j;cases i;obtain⟨rfl,rfl⟩:=dX h;exact⟨w,by simp[clear_,g,df f,aR],rfl,Step.refl a⟩
 ·rename_i _ l;cases l;obtain⟨L,d,rfl⟩:=i.wI;obtain⟨_,e,h⟩:=run_get h;split at h
  ·rename_i _ m;obtain⟨k,h⟩:=qt h;obtain⟨rfl,rfl⟩:=dX h;obtain⟨_,b,_⟩:=a.map d e;refine⟨{w with heap:=w.heap.setIfInBounds L.bj (.map #[] m)},?_,rfl,?_⟩
   ·simp[clear_,g,df f,rW b,aR,xB b]
   ·exact a.xE d e k b .nil
  ·exact(bw h).elim
 ·exact(bw h).elim
theorem ZC(f:Rel O base γ H w){jl:Array TypeId}{t ty:TypeId}{k:A5}{d c r:Value}(a:jl[0]? = some t)(av:match k with | .s=>P.underlying t=some .string | .l=>∃e,P.underlying t=some (.slice e) | .m=>∃k e,P.underlying t=some (.map k e))
 (b:aO γ d c) (h:(sU k (some d)).run pm H=some (r,ab)):(len_ jl ty #[c]).run P w=.ok r w/\aO γ r r/\ab=H:=by
 unfold sU at h;split at h
 ·rename_i g;cases g;obtain rfl:=b.hL;obtain⟨rfl,rfl⟩:=dX h;exact⟨by simp[len_,a,df av,goInt],.int _ _,rfl⟩
 ·rename_i i;cases i;obtain⟨e,d⟩:=av;obtain⟨rfl,rfl⟩:=dX h;refine⟨?_,.int _ _,rfl⟩;cases b<;>simp[len_,a,df d,goInt]
 ·rename_i j;cases j;obtain⟨k,e,d⟩:=av;cases b;obtain⟨rfl,rfl⟩:=dX h;exact⟨by simp[len_,a,df d,goInt],.int _ _,rfl⟩
 ·rename_i _ l;cases l;obtain⟨k,e,d⟩:=av;obtain⟨_,m,rfl⟩:=b.wI;obtain⟨_,n,h⟩:=run_get h;split at h
  ·rename_i _ _;obtain⟨_,e,k⟩:=f.map m n;have:=k.length;obtain⟨rfl,rfl⟩:=dX h;refine⟨?_,.int _ _,rfl⟩;simp only[l5]at this;simp[len_,a,df d,rW e,goInt,this]
  ·exact(bw h).elim
 ·exact(bw h).elim
end
section
variable{O:cy}{P:Program}{base:Nat}{pm:Perm}{γ:aT}{H ab:ae}{w:World}
theorem Nk(a b:ByteArray):(a==b)=true↔a=b:=by
 obtain⟨x⟩:=a;obtain⟨y⟩:=b;have c:((ByteArray.mk x)==(ByteArray.mk y))=(x==y):=rfl;grind
theorem Vu{a b:ByteArray}(h:(a.toList==b.toList)=true):a=b:=by
 rw[<-beq_toListBytes]at h;exact(Nk a b).1 h
theorem RS{k:hQ}{a b:Value}(h:jD k a b=some true):b=a:=by
 unfold jD at h;split at h
 ·split at h
  ·rename_i c;simp only[aJ,oF,o0]at h;rw[c,h]
  ·cases h
 ·simp only[aJ]at h;rw[Vu h]
 ·grind
 ·cases h
theorem N0:∀{aD:List hQ} {x y:List Value},gI aD x y=some true->y=x
 | [],[],[],_=>rfl
 | k::aD,_::x,_::y,h=>by
   simp only[gI]at h;split at h
   ·rename_i a;rw[RS a,N0 h]
   ·grind
   ·cases h
theorem XG{c:hg}{a b:Value}(h:jW c a b=some true):b=a:=by
 unfold jW at h;split at h
 ·exact RS h
 ·split at h
  ·rename_i _ _;have:=N0 h;simp_all
  ·cases h
theorem uI{j:hg}{a b:Value}{r:Bool}(h:jW j a b=some r){b5:Value}(aI:aO γ a b5):b5=a:=by
 unfold jW at h;split at h
 ·unfold jD at h;split at h
  ·exact aI.fa
  ·exact aI.hL
  ·exact aI.mo
  ·cases h
 ·split at h
  ·obtain⟨d,rfl,l⟩:=aI.ua;have:∀{e:List hQ} {a c f:List Value} {r:Bool},gI e a c=some r->bN γ a f->f=a:=by
    intro e
    induction e with
    | nil=>
      intro a c f r h b;cases a<;>cases c<;>simp only[gI,reduceCtorEq]at h;cases b;rfl
    | cons k e ih=>
      intro a c f r h b
      cases a with
      | nil=>simp[gI]at h
      | cons x a=>
        cases c with
        | nil=>simp[gI]at h
        | cons y c=>
          cases b with
          | cons b _=>
            have g:∃i,jD k x y=some i:=by
             simp only[gI]at h;split at h
             ·exact⟨_,by assumption⟩
             ·exact⟨_,by assumption⟩
             ·cases h
            obtain⟨i,g⟩:=g;have m:∀{k:hQ} {x y d:Value} {r:Bool},jD k x y=some r->aO γ x d->d=x:=by
             intro k x y d r h b;unfold jD at h;split at h
             ·exact b.fa
             ·exact b.hL
             ·exact b.mo
             ·cases h
            rw[m g b];simp only[gI,g]at h;grind
   rw[n2.1 (this h l)]
  ·cases h
theorem Cp{t:TypeId}{a:hg}(h:jX P t=some a):(∃k,a=.one k/\lu P t=some k)∨∃aD,a=.cells aD/\tH P t=some aD:=by
 unfold jX at h;split at h
 ·grind
 ·cases b:tH P t with
  | none=>grind
  | some aD=>
    grind
theorem Jn{t:TypeId}{c:hg}{a b:Value}{r:Bool}(av:jX P t=some c)(h:jW c a b=some r):(Op.equal t a b).run P w=.ok r w:=by
 rcases Cp av with⟨k,rfl,gP⟩ | ⟨aD,rfl,ax⟩
 ·exact CK gP h
 ·simp only[jW]at h;split at h
  ·exact Rn ax h
  ·cases h
theorem IK{t:TypeId}{d:TypeDesc}{k:hQ}{a b:Value}{r:Bool}(c:lu P t=some k)(e:P.underlying t=some d)(h:jD k a b=some r):Instr.sameNow d a b=some r:=by
 unfold lu at c;rw[e]at c;unfold jD at h;split at h
 ·split at h
  ·rename_i f;simp only[aJ,oF]at h;subst h f;split at c<;>simp only[aJ,reduceCtorEq]at c;rename_i g;cases g;simp[Instr.sameNow]
  ·cases h
 ·simp only[aJ]at h;subst h;split at c<;>simp only[aJ,reduceCtorEq]at c;rename_i i;cases i;simp[Instr.sameNow,beq_toListBytes]
 ·simp only[aJ]at h;subst h;split at c<;>simp only[aJ,reduceCtorEq]at c;rename_i j;cases j;rfl
 ·cases h
theorem IJ{k:hQ}{a b:Value}{r:Bool}(h:jD k a b=some r)(n:Nat):Instr.sameBits n a a=true:=by
 unfold jD at h;split at h
 ·cases n<;>simp[Instr.sameBits]
 ·cases n<;>simp[Instr.sameBits,Nk]
 ·cases n<;>simp[Instr.sameBits]
 ·cases h
theorem F7(n:Nat):∀{aD:List hQ} {x y:List Value} {r:Bool},gI aD x y=some r->((x.zip x).all λ(a,b)=>Instr.sameBits n a b)=true
 | [],[],[],_,_=>rfl
 | k::aD,a::x,b::y,r,h=>by
   simp only[gI]at h;split at h
   ·rename_i c;simpa [IJ c n]using F7 n h
   ·rename_i d;split at h
    ·rename_i e;simpa [IJ d n]using F7 n e
    ·cases h
   ·cases h
theorem PG{c:hg}{a b:Value}{r:Bool}(h:jW c a b=some r):(Instr.keyThatStays a a).run P w=.ok a w:=by
 have:Instr.sameBits 10000 a a=true:=by
  unfold jW at h;split at h
  ·exact IJ h _
  ·split at h
   ·simp only[Instr.sameBits,beq_self_eq_true,Bool.true_and];exact F7 _ h
   ·cases h
 simp[Instr.keyThatStays,this]
end
section
variable{O:cy}{P:Program}{base:Nat}{pm:Perm}{γ:aT}{H ab:ae}{w:World}
theorem Sv{em:Bool}{n:Nat}:∀(c2:List Field) (i:Nat) (aD:List hQ) (b xs c:List Value) (r:Bool),tf P c2 i=some aD->gI aD xs c=some r->b.length=i->
 (forIn c2 PUnit.unit λ(f:Field) _=>do
  if f.name≠ "_" then do
   Instr.checkKey em (n+1) f.type (<-part f.type ⟨b++xs⟩ f.offset)
   pure (ForInStep.yield PUnit.unit)
   else pure (ForInStep.yield PUnit.unit):Sem PUnit).run P w=.ok () w
 | [],i,aD,b,xs,c,r,_,_,_=>by simp
 | f::c2,i,aD,b,xs,c,r,a,h,k=>by
   simp only[tf]at a;split at a
   ·rename_i l;simp only[bK,bne_iff_ne,o0]at l;split at a
    ·rename_i _ m d q;simp only[aJ]at a;subst a
     cases xs with
     | nil=>simp[gI]at h
     | cons e x=>
       cases c with
       | nil=>simp[gI]at h
       | cons _ y=>
         obtain⟨o,r⟩:=zE d;simp only[gI]at h;have t:(part f.type ⟨b++e::x⟩ f.offset).run P w=.ok e w:=DC o r (by rw[l.2];simp[<-k]);obtain⟨s,p⟩:=wy o;have u:(Instr.checkKey em (n+1) f.type e).run P w=.ok () w:=by
          unfold lu at d;rw[p]at d;cases s<;>simp only[aJ,reduceCtorEq]at d<;>simp[Instr.checkKey,df p]
         have g:∃j,gI m x y=some j:=by
          split at h
          ·exact⟨_,h⟩
          ·split at h
           ·exact⟨_,by assumption⟩
           ·cases h
          ·cases h
         obtain⟨j,g⟩:=g;have ih:=Sv (em:=em) (n:=n) c2 (i+1) m (b++[e]) x y j q g (by simp[k]);simp_all
    ·cases a
   ·cases a
theorem vd{t:TypeId}{c:hg}{a b:Value}{r em:Bool}(av:jX P t=some c)(h:jW c a b=some r):(Instr.checkKey em 10000 t a).run P w=.ok () w:=by
 rcases Cp av with⟨k,rfl,gP⟩ | ⟨aD,rfl,ax⟩
 ·obtain⟨d,_⟩:=zE gP;obtain⟨e,b⟩:=wy d;unfold lu at gP;rw[b]at gP;show(Instr.checkKey em (9999+1) t a).run P w=_;generalize 9999=n;cases e<;>simp only[aJ,reduceCtorEq]at gP<;>simp[Instr.checkKey,df b]
 ·obtain⟨a,b,_,_,d⟩:=Ap ax;simp only[jW]at h;split at h
  ·rename_i x y;have:=Sv (P:=P) (w:=w) (em:=em) (n:=9998) a.toList 0 aD [] x.toList y.toList r d h rfl;simp only[zV]at this;show(Instr.checkKey em (9999+1) t (.agg x)).run P w=_;unfold Instr.checkKey;simp only[Sem.run_bind,df b,Result.andThen_ok];simp_all
  ·cases h
structure Found(γ:aT)(nM:hg)(k:Value)(v:Value)(n:Nat)(es:List (Value×Value×Nat))(fk:List MapEntry)(j:Nat)(dq:MapEntry):Prop where
 at_:fk[j]? = some dq
 val:aO γ v dq.val
 born:dq.born=n
 key:dq.key=k
 self:∃nM,jW nM k k=some true
 now:∀t d rN,nM=.one rN->lu P t=some rN->P.underlying t=some d->∀i0,Instr.findNow d k fk i0=some (some (i0+j,dq.val))
 ask:∀t (w:World),jX P t=some nM->∀i0,(Instr.findAsking t k fk i0).run P w=.ok (some (i0+j,dq.val)) w
 set:∀x ON,xD nM k x es=some ON->∀f:MapEntry->MapEntry,(f dq).key=k->aO γ x (f dq).val->(f dq).born=n->iV γ ON (fk.modify j f)
structure MQ(nM:hg)(k:Value)(fk:List MapEntry):Prop where
 self:jW nM k k=some true
 now:∀t d rN,nM=.one rN->lu P t=some rN->P.underlying t=some d->∀i0,Instr.findNow d k fk i0=some none
 ask:∀t (w:World),jX P t=some nM->∀i0,(Instr.findAsking t k fk i0).run P w=.ok none w
theorem find_spec{g:hg}{k:Value}:∀{i:List (Value×Value×Nat)} {fk:List MapEntry} {b:Option (Value×Nat)},iV γ i fk->findKey g k i=some b->
  match b with
  | some (v,n)=>∃j dq,Found (P:=P) γ g k v n i fk j dq
  | none=>MQ (P:=P) g k fk
 | _,_,b,.nil,h=>by
   simp only[findKey]at h;split at h
   ·rename_i s;simp only[aJ]at h;subst h;exact⟨s,λ_ _ _ _ _ _ a=>rfl,λ_ _ _ a=>rfl⟩
   ·cases h
 | _,_,b,@iV.cons _ x u _ _ y t,h=>by
   obtain⟨_,v,n⟩:=x;obtain⟨o,⟨k,p⟩,l,q⟩:=y;simp only at o p l q;subst o q;simp only[findKey]at h;split at h
   ·rename_i f;simp only[aJ]at h;subst h;have e:=XG f;refine⟨0,u,⟨rfl,l,rfl,e,⟨k,by grind⟩,λt _ _ a j m n=>?_,λt w a n=>?_,λx _ d _ r v z=>?_⟩⟩
    ·subst a;simp[Instr.findNow,IK j m f]
    ·simp[Instr.findAsking,Jn a f]
    ·simp only[xD,f,aJ]at d;subst d;rw[List.modify_zero_cons];exact .cons ⟨r,⟨k,by grind⟩,v,z⟩ t
   ·rename_i c;have ih:=find_spec t h
    cases b with
    | none=>
      obtain⟨m,n,r⟩:=ih;refine⟨m,λt v z a e j d=>?_,λt w a d=>?_⟩
      ·have:=n t v z a e j (d+1);subst a;simp[Instr.findNow,IK e j c,this]
      ·simp[Instr.findAsking,Jn a c,r t w a (d+1)]
    | some v=>
      obtain⟨_,_⟩:=v;obtain⟨j,dq,a⟩:=ih;refine⟨j+1,dq,⟨by simpa using a.at_,a.val,a.born,a.key,a.self,λt z A d n r m=>?_,λt w d m=>?_,λx _ e B C D E=>?_⟩⟩
      ·have:=a.now t z A d n r (m+1);subst d;simp[Instr.findNow,IK n r c,this];omega
      ·simp[Instr.findAsking,Jn d c,a.ask t w d (m+1)];omega
      ·simp only[xD,c]at e;split at e
       ·rename_i F G;simp only[aJ]at e;subst e;rw[List.modify_succ_cons];exact .cons ⟨rfl,⟨k,p⟩,l,rfl⟩ (a.set x F G B C D E)
       ·cases e
   ·cases h
end
section
variable{O:cy}{P:Program}{base:Nat}{pm:Perm}{γ:aT}{H ab:ae}{w:World}
theorem OU{c2:Array Field}{k:Value}{e:MapEntry}{a:List MapEntry}{i:Nat}:Instr.findNow (.struct c2) k (e::a) i=none:=by rfl
theorem Jk{t:TypeId}{a:hg}{k v:Value}{n j:Nat}{c:List (Value×Value×Nat)}{fk:List MapEntry}{dq:MapEntry}(av:jX P t=some a)(h:Found (P:=P) γ a k v n c fk j dq):
 (Instr.findKey t k fk).run P w=.ok (some (j,dq.val)) w:=by
 rcases Cp av with⟨rN,rfl,gP⟩ | ⟨aD,rfl,ax⟩
 ·obtain⟨d,b⟩:=wy (zE gP).1;have:=h.now t d rN rfl gP b 0;simp[Instr.findKey,df b,this]
 ·obtain⟨_,b,_⟩:=Ap ax;have:=h.ask t w av 0
  cases fk with
  | nil=>have:=h.at_;simp at this
  | cons _ _=>simpa [Instr.findKey,df b,OU]using this
theorem DB{t:TypeId}{a:hg}{k:Value}{fk:List MapEntry}(av:jX P t=some a)(h:MQ (P:=P) a k fk):(Instr.findKey t k fk).run P w=.ok none w:=by
 rcases Cp av with⟨rN,rfl,gP⟩ | ⟨aD,rfl,ax⟩
 ·obtain⟨d,b⟩:=wy (zE gP).1;have:=h.now t d rN rfl gP b 0;simp[Instr.findKey,df b,this]
 ·obtain⟨_,b,_⟩:=Ap ax;have:=h.ask t w av 0
  cases fk with
  | nil=>simp[Instr.findKey,df b,Instr.findNow]
  | cons _ _=>simpa [Instr.findKey,df b,OU]using this
theorem we{c:hg}{k:Value}:∀{d:List (Value×Value×Nat)} {a:Option (Value×Nat)},findKey c k d=some a->∃b r,jW c k b=some r
 | [],a,h=>by
   simp only[findKey]at h;grind
 | (_,_,_)::d,a,h=>by
   simp only[findKey]at h;grind
theorem ZD(u:Rel O base γ H w){t i e:TypeId}{j:hg}{z x l k dy r:Value}{ok:Bool}(c:P.underlying t=some (.map i e))(av:jX P i=some j)(d:zeroOf P e=some z)(m:aO γ x l)(f:aO γ k dy)
 (h:(ur j z ok k (some x)).run pm H=some (r,ab)):∃bG,(Instr.lookup t l dy ok).run P w=.ok bG w/\aO γ r bG/\ab=H:=by
 obtain⟨_,n,_⟩:=nk d;have o:∀b,aO γ (bif ok then .tuple #[z,.bool b] else z) (if ok=true then .tuple #[z,.bool b] else z):=by
  intro b;cases ok
  ·exact aO.plain n
  ·exact .tuple (.cons (aO.plain n) (.cons (.bool b) .nil))
 unfold ur at h;split at h
 ·rename_i v;cases v;cases m;split at h
  ·rename_i g;obtain⟨rfl,rfl⟩:=dX h;obtain rfl:=uI g f;refine⟨_,?_,o false,rfl⟩;have a:=DB (w:=w) av (fk:=[]) ⟨g,λ_ _ _ _ _ _ e=>rfl,λ_ _ _ e=>rfl⟩;have k:=vd (w:=w) (em:=true) av g;simp only[Instr.lookup,Sem.run_bind,df c,Result.andThen_ok,Sem.run_pure];rw[show(#[]:Array MapEntry).isEmpty=true from rfl,k];simp only[Result.andThen_ok];rw[a];simp[qv d]
  ·exact(bw h).elim
 ·rename_i _ y;cases y;obtain⟨_,t,rfl⟩:=m.wI;obtain⟨_,w,a⟩:=run_get h;clear h;split at a
  ·rename_i _ _;obtain⟨fk,h,k⟩:=u.map t w;split at a
   ·rename_i _ _ p;obtain⟨rfl,rfl⟩:=dX a;obtain⟨b,_,q⟩:=we p;obtain rfl:=uI q f;obtain⟨_,r,e⟩:=find_spec (P:=P) k p;refine⟨if ok=true then .tuple #[r.val,.bool true] else r.val,?_,?_,rfl⟩
    ·simp only[Instr.lookup,Sem.run_bind,df c,Result.andThen_ok,Sem.run_pure,rW h,vd av q,Jk av e]
    ·cases ok
     ·exact e.val
     ·exact .tuple (.cons e.val (.cons (.bool true) .nil))
   ·rename_i s;obtain⟨rfl,rfl⟩:=dX a;obtain⟨b,_,e⟩:=we s;obtain rfl:=uI e f;have q:=find_spec (P:=P) k s;refine⟨_,?_,o false,rfl⟩;simp only[Instr.lookup,Sem.run_bind,df c,Result.andThen_ok,Sem.run_pure,rW h,vd av e,DB av q,qv d]
   ·exact(bw a).elim
  ·exact(bw a).elim
 ·exact(bw h).elim
theorem iV.push{a:List (Value×Value×Nat)}{fk:List MapEntry}{x:Value×Value×Nat}{e:MapEntry}(h:iV γ a fk)(b:MC γ x e):iV γ (a++[x]) (fk++[e]):=by
 induction h with
 | nil=>exact .cons b .nil
 | cons h _ ih=>exact .cons h ih
theorem getD_at{fk:Array MapEntry}{j:Nat}{dq:MapEntry}{α:Type}{f:MapEntry->α}{d:α}(h:fk.toList[j]? = some dq):((fk[j]?).map f).getD d=f dq:=by
 grind
theorem Ri(f:Rel O base γ H w){t l e:TypeId}{g:hg}{x d k dy m n r:Value}(o:P.underlying t=some (.map l e))(av:jX P l=some g)(y:aO γ m n)(p:aO γ x d)(q:aO γ k dy)
 (h:(B6 g k x (some m)).run pm H=some (r,ab)):∃ay,(Instr.mapUpdate t n dy d).run P w=.ok () ay/\r=aR/\Step O base pm γ H w γ ab ay:=by
 unfold B6 at h;split at h
 ·rename_i _ z;cases z;obtain⟨_,i,rfl⟩:=y.wI;obtain⟨_,j,a⟩:=run_get h;clear h;split at a
  ·rename_i _ A;obtain⟨k,b,h⟩:=f.map i j;split at a
   ·rename_i v s;split at a
    ·rename_i _ B;obtain⟨r,t⟩:=qt a;obtain⟨rfl,rfl⟩:=dX t;obtain⟨_,_,m⟩:=we s;obtain rfl:=uI m q;obtain⟨v,_⟩:=v;obtain⟨w,_,c⟩:=find_spec (P:=P) h s;obtain⟨_,x⟩:=c.self;refine⟨_,?_,rfl,f.xE i j r b (cA:=k.modify w λe=>{e with key:=dy,val:=d}) ?_⟩
     ·simp only[Instr.mapUpdate,Sem.run_bind,df o,Result.andThen_ok,rW b,vd av m,Jk av c,getD_at c.at_,c.key,PG x,xB b]
     ·rw[Array.toList_modify];exact c.set _ _ B _ rfl p c.born
    ·exact(bw a).elim
   ·rename_i u;obtain⟨m,r⟩:=qt a;obtain⟨rfl,rfl⟩:=dX r;obtain⟨_,_,c⟩:=we u;obtain rfl:=uI c q;have e:=find_spec (P:=P) h u;refine⟨_,?_,rfl,f.xE i j m b (cA:=k.push {key:=dy,val:=d,born:=A}) ?_⟩
    ·simp only[Instr.mapUpdate,Sem.run_bind,df o,Result.andThen_ok,rW b,vd av c,DB av e,xB b]
    ·rw[Array.toList_push];exact h.push ⟨rfl,⟨g,e.self⟩,p,rfl⟩
   ·exact(bw a).elim
  ·exact(bw a).elim
 ·exact(bw h).elim
theorem ZE(d:Rel O base γ H w){t j e:TypeId}{f:hg}{z k dy m l r:Value}(n:P.underlying t=some (.map j e))(av:jX P j=some f)(o:zeroOf P e=some z)(x:aO γ m l)(p:aO γ k dy)
 (h:(B3 f z k (some m)).run pm H=some (r,ab)):∃bG ay,(Instr.mapEntry t l dy).run P w=.ok bG ay/\aO γ r bG/\Step O base pm γ H w γ ab ay:=by
 obtain⟨_,q,_⟩:=nk o;unfold B3 at h;split at h
 ·rename_i _ y;cases y;obtain⟨_,g,rfl⟩:=x.wI;obtain⟨_,i,b⟩:=run_get h;clear h;split at b
  ·rename_i _ s;obtain⟨k,c,h⟩:=d.map g i;split at b
   ·rename_i _ A u;split at b
    ·rename_i _ B;obtain⟨r,t⟩:=qt b;obtain⟨rfl,rfl⟩:=dX t;obtain⟨_,_,m⟩:=we u;obtain rfl:=uI m p;obtain⟨w,z,a⟩:=find_spec (P:=P) h u;obtain⟨_,C⟩:=a.self;refine⟨.tuple #[z.val,.int .i64 (A:Int)],_,?_,.tuple (.cons a.val (.cons (.int _ _) .nil)),d.xE g i r c (cA:=k.modify w λe=>{e with key:=dy}) ?_⟩
     ·simp only[Instr.mapEntry,Sem.run_bind,df n,Result.andThen_ok,rW c,vd av m,Jk av a,getD_at a.at_,a.key,PG C,xB c,Sem.run_pure,a.born,goInt]
     ·rw[Array.toList_modify];exact a.set _ _ B _ rfl a.val a.born
    ·exact(bw b).elim
   ·rename_i v;obtain⟨m,r⟩:=qt b;obtain⟨rfl,rfl⟩:=dX r;obtain⟨_,_,a⟩:=we v;obtain rfl:=uI a p;have e:=find_spec (P:=P) h v;refine⟨.tuple #[z,.int .i64 (s:Int)],_,?_,.tuple (.cons (aO.plain q) (.cons (.int _ _) .nil)),d.xE g i m c (cA:=k.push {key:=dy,val:=z,born:=s}) ?_⟩
    ·simp only[Instr.mapEntry,Sem.run_bind,df n,Result.andThen_ok,rW c,vd av a,DB av e,xB c,qv o,Sem.run_pure,goInt]
    ·rw[Array.toList_push];exact h.push ⟨rfl,⟨f,e.self⟩,aO.plain q,rfl⟩
   ·exact(bw b).elim
  ·exact(bw b).elim
 ·exact(bw h).elim
theorem SS{n:Nat}{x c:Value}(d:aO γ x c):∀{f a:List (Value×Value×Nat)} {fk:List MapEntry},iV γ f fk->DH n x f=some a->
 ∃j,fk.findIdx? (λe=>(e.born:Int)==(n:Int))=some j/\iV γ a (fk.modify j λe=>{e with val:=c})
 | _,_,_,.nil,h=>by cases h
 | _,a,_,@iV.cons _ y e _ _ m t,h=>by
   obtain⟨_,_,_⟩:=y;obtain⟨g,b,i,k⟩:=m;simp only at g b i k;subst g k;simp only[DH,dc]at h;by_cases l:n=e.born
   ·simp only[l,decide_true,cond_true,aJ]at h;subst h;exact⟨0,by grind,by rw[List.modify_zero_cons];exact .cons ⟨rfl,b,d,rfl⟩ t⟩
   ·simp only[l,decide_false,cond_false]at h;split at h
    ·rename_i _ o;simp only[aJ]at h;subst h;obtain⟨j,_,e⟩:=SS d t o;refine⟨j+1,?_,by rw[List.modify_succ_cons];exact .cons ⟨rfl,b,i,rfl⟩ e⟩;grind
    ·cases h
theorem Zs(f:Rel O base γ H w){t:TypeId}{x c m g r:Value}{n:Nat}{k:IntKind}(l:aO γ m g)(o:aO γ x c)(h:(B5 n x (some m)).run pm H=some (r,ab)):
 ∃ay,(Instr.entryStore t g (.int k (n:Int)) c).run P w=.ok () ay/\r=aR/\Step O base pm γ H w γ ab ay:=by
 unfold B5 at h;split at h
 ·rename_i _ p;cases p;obtain⟨_,i,rfl⟩:=l.wI;obtain⟨_,j,a⟩:=run_get h;clear h;split at a
  ·rename_i _ _;obtain⟨b,d,k⟩:=f.map i j;split at a
   ·rename_i _ q;obtain⟨m,r⟩:=qt a;obtain⟨rfl,rfl⟩:=dX r;obtain⟨s,h,cA⟩:=SS o k q;refine⟨_,?_,rfl,f.xE i j m d (cA:=b.modify s λe=>{e with val:=c}) (by grind)⟩;rw[show b.toList.findIdx? (λe=>(e.born:Int)==(n:Int))=b.findIdx? (λe=>(e.born:Int)==(n:Int)) by cases b;simp]at h;simp only[Instr.entryStore,Sem.run_bind,rW d,Result.andThen_ok,Su,h,xB d]
   ·exact(bw a).elim
  ·exact(bw a).elim
 ·exact(bw h).elim
theorem ZH(f:Rel O base γ H w){ty:TypeId}{x i r:Value}(m:aO γ x i)(h:(B4 (some x)).run pm H=some (r,ab)):
 ∃bG ay,(Instr.next i true ty).run P w=.ok bG ay/\aO γ r bG/\Step O base pm γ H w γ ab ay:=by
 unfold B4 at h;split at h
 ·rename_i n b;cases b;obtain⟨L,j,_,rfl⟩:=m.lZ;obtain⟨_,k,c⟩:=run_get h;clear h;split at c
  ·rename_i s g;obtain⟨_,l,o⟩:=f.bj _ _ j;rw[k]at l;cases l;obtain⟨d,p⟩:=o;obtain⟨h,a⟩:=kZ c;clear c;rw[dc]at h;have h:=tq h;have b:L.d+n.off=0:=by omega
   rw[hE]at a;by_cases e:g<s.size
   ·simp only[e,decide_true,cond_true]at a;obtain⟨q,r⟩:=qt a;obtain⟨rfl,rfl⟩:=dX r;have t:=(gT.1 d).1
    refine⟨_,{w with heap:=w.heap.setIfInBounds L.bj (.stringIter s (g+(Utf8.decode s g).2))},?_,.tuple (.cons (.bool true) (.cons (.int _ _) (.cons (.int _ _) .nil))),
     Step.write f j (by rw[k];trivial) q (by simp) (λ_ _=>by grind) rfl rfl rfl λ_=>⟨by simp[t],p⟩⟩
    simp only[Instr.next,b,Sem.run_bind,Jl d (λ_ _ _=>nofun),Result.andThen_ok,e,if_true,Sz d (λ_ _ _=>nofun),Sem.run_pure,goInt]
   ·simp only[e,decide_false,cond_false]at a;obtain⟨rfl,rfl⟩:=dX a;refine⟨_,w,?_,.tuple (.cons (.bool false) .nil),Step.refl f⟩;simp only[Instr.next,b,Sem.run_bind,Jl d (λ_ _ _=>nofun),Result.andThen_ok,e,if_false,Sem.run_pure]
  ·exact(bw c).elim
 ·exact(bw h).elim
end
section
variable{O:cy}{P:Program}{base:Nat}{pm:Perm}{γ fe:aT}{H ab:ae}{w ay:World}
theorem gn.tb{s:Sem Value}{v aQ:Value}(h:s.run P w=.ok aQ ay)(a:aO fe v aQ)(b:Step O base pm γ H w fe ab ay):gn O P base pm γ H w (do Pure.pure (Next.value (<-s))) v ab:=
 ⟨_,aQ,ay,fe,SA h,.inl rfl,a,b⟩
theorem gn.Rc{s:Sem Unit}{r:Value}(h:s.run P w=.ok () ay)(a:r=aR)(b:Step O base pm γ H w γ ab ay):gn O P base pm γ H w (do s;Pure.pure Next.skip) r ab:=by
 subst a;exact⟨.skip,undef,ay,γ,by simp[h],.inr ⟨rfl,rfl⟩,.tuple .nil,b⟩
theorem gn.same(a:Rel O base γ H w){s:Sem Value}{v:Value}(h:s.run P w=.ok v w/\aO γ v v/\ab=H):gn O P base pm γ H w (do Pure.pure (Next.value (<-s))) v ab:=
 .val a h.1 h.2.1 h.2.2
theorem gn.ex(a:Rel O base γ H w){s:Sem Value}{v:Value}(h:∃aQ,s.run P w=.ok aQ w/\aO γ v aQ/\ab=H):gn O P base pm γ H w (do Pure.pure (Next.value (<-s))) v ab:=
 let ⟨_,b,c,d⟩:=h;.val a b c d
theorem gn.new{s:Sem Value}{v:Value}(h:∃aQ ay fe,s.run P w=.ok aQ ay/\aO fe v aQ/\Step O base pm γ H w fe ab ay):gn O P base pm γ H w (do Pure.pure (Next.value (<-s))) v ab:=
 let ⟨_,_,_,a,b,c⟩:=h;.tb a b c
theorem gn.wrote{s:Sem Value}{v:Value}(h:∃aQ ay,s.run P w=.ok aQ ay/\aO γ v aQ/\Step O base pm γ H w γ ab ay):gn O P base pm γ H w (do Pure.pure (Next.value (<-s))) v ab:=
 let ⟨_,_,a,b,c⟩:=h;.tb a b c
theorem gn.stored{s:Sem Unit}{r:Value}(h:∃ay,s.run P w=.ok () ay/\r=aR/\Step O base pm γ H w γ ab ay):gn O P base pm γ H w (do s;Pure.pure Next.skip) r ab:=
 let ⟨_,a,b,c⟩:=h;.Rc a b c
theorem mM{o:Option bh}{s:String}{e:Env}{r:Value×ae}(h:((mL o s).J e).run pm H=some r):∃d,o=some d/\(d.J e).run pm H=some r:=by
 cases o with
 | none=>cases h
 | some d=>exact⟨d,rfl,h⟩
theorem AT{t:TypeId}{l:List Value}(h:Dam.zeroCells P t=some l):∃z,zeroOf P t=some z/\l=z.cells.toList:=by
 unfold Dam.zeroCells at h
 cases a:zeroOf P t with
 | none=>grind
 | some z=>grind
variable{n:Nat}{e:Env}{a:Act}{G:Nat->Bool}
inductive vD(G:Nat->Bool)(place:Nat->Option (Nat×Nat)):List (Nat×Nat×b0)->List (Nat×Operand)->Prop
 | nil:vD G place [] []
 | cons {i off m:Nat} {x:Operand} {R2:List (Nat×Nat×b0)} {u1:List (Nat×Operand)} (gP:place i=some (off,m)) (t:vD G place R2 u1):vD G place ((off,m,rand G x)::R2) ((i,x)::u1)
theorem IG(f:dG γ n e a)(g:fX G γ){d:Nat->Option (Nat×Nat)}{b:List (Nat×Nat×b0)}{c:List (Nat×Operand)}(i:vD G d b c):
 ∀{l:List (Nat×Nat×Value)},kK e b=some l->sG γ d l (c.map λp=>(p.1,a.eval p.2)):=by
 induction i with
 | nil=>
   intro l h;simp only[kK,aJ]at h;subst h;exact .nil
 | @cons _ _ _ x b c a _ ih=>
   intro l h;simp only[kK]at h;split at h
   ·rename_i _ j;split at h
    ·rename_i _ k;simp only[aJ]at h;subst h;exact .cons a (cK f g x j) (ih k)
    ·cases h
   ·cases h
theorem B'(b:dG γ n e a)(c:fX G γ):∀{xs:List Operand} {l:List Value},eO e (xs.map (rand G))=some l->bN γ l (xs.map a.eval)
 | [],l,h=>by
   simp only[List.map_nil,eO,aJ]at h;subst h;exact .nil
 | x::xs,l,h=>by
   simp only[zQ,eO]at h;split at h
   ·rename_i _ d;split at h
    ·rename_i _ f;simp only[aJ]at h;subst h;exact .cons (cK b c x d) (B' b c f)
    ·cases h
   ·cases h
theorem ZY(f:Rel O base γ H w)(l:pm.fo γ H)(b:dG γ n e a)(c:fX G γ){d g:_}{q:TypeId}{s:String}{z:Array Edge}{j:Op}{r:Value}
 (n:match j with | .move _ | .assign _ | .pick .. | .alloc _ | .box .. | .load .. | .store .. | .nilCheck _ | .unOp .. | .makeInterface .. | .makeFunc .. | .makeMap .. | .extract .. | .field .. | .fieldAddr .. | .indexAddr .. | .index ..=>True | _=>False)
 (h:((gH P G ⟨d,j,q,s,z,g⟩).J e).run pm H=some (r,ab)):gn O P base pm γ H w (execOp a.eval ⟨d,j,q,s,z,g⟩) r ab:=by
 cases j<;>first | (exact n.elim) | skip
 case move x=>
  obtain⟨a,rfl⟩:=qu h;exact .pure f rfl (cK b c x a)
 case assign x=>
  obtain⟨a,rfl⟩:=qu h;exact .pure f rfl (cK b c x a)
 case pick B x y=>
  obtain⟨_,d,h⟩:=gm h;have a:=cK b c B d;split at h
  ·obtain⟨e,rfl⟩:=qu h;have:=a.mo;exact .pure f (by simp[execOp,this,asBool]) (cK b c x e)
  ·obtain⟨e,rfl⟩:=qu h;have:=a.mo;exact .pure f (by simp[execOp,this,asBool]) (cK b c y e)
  ·exact(bw h).elim
 case alloc t=>
  obtain⟨_,a,h⟩:=mM h
  cases d:Dam.zeroCells P t with
  | none=>grind
  | some _=>
    rw[d]at a;simp only[hK,aJ]at a;subst a;obtain⟨_,e,rfl⟩:=AT d;exact .new (Zf f l e h)
 case box t x=>
  obtain⟨_,a,h⟩:=gm h;exact .new (Zj f l (cK b c x a) h)
 case load t x=>
  simp only[gH]at h;split at h
  ·rename_i C;simp only[bh.J]at h
   cases a:a7 e (rand G x) with
   | none=>rw[a]at h;cases h
   | some _=>rw[a]at h;exact .ex f (Rh f C (cK b c x a) h)
  ·exact(bw h).elim
 case store t x y=>
  simp only[gH]at h;split at h
  ·rename_i D;simp only[bh.J]at h
   cases a:a7 e (rand G x) with
   | none=>rw[a]at h;cases h
   | some _=>
     cases d:a7 e (rand G y) with
     | none=>rw[a,d]at h;simp only[nH]at h;exact(bw h).elim
     | some u=>rw[a,d]at h;exact .stored (ZP f D (cK b c x a) (cK b c y d) h)
  ·exact(bw h).elim
 case nilCheck x=>
  obtain⟨_,d,h⟩:=gm h;split at h
  ·obtain⟨rfl,rfl⟩:=dX h;have a:=cK b c x d;obtain⟨_,_,_,e⟩:=a.lZ;refine .pure f ?_ a;simp[execOp,e]
  ·exact(bw h).elim
 case unOp u t x=>
  obtain⟨_,a,h⟩:=gm h;obtain⟨d,rfl⟩:=qu h;obtain⟨e,g⟩:=ZR (P:=P) (w:=w) d (cK b c x a);exact .val f e g rfl
 case makeInterface t x=>
  simp only[gH]at h;split at h
  ·exact(bw h).elim
  ·rename_i _ _ E;obtain⟨_,d,h⟩:=gm h;obtain⟨rfl,rfl⟩:=dX h;refine .val f (aQ:=.iface t (a.eval x)) ?_ (.iface (cK b c x d)) rfl;simp only[Instr.makeInterface,Sem.run_bind,df E,Result.andThen_ok];rfl
  ·exact(bw h).elim
 case makeFunc _ first o=>
  simp only[gH]at h;split at h
  ·rename_i F;split at h
   ·rename_i I;simp only[bh.J]at h;split at h
    ·rename_i _ J;obtain⟨rfl,rfl⟩:=dX h;have:=B' b c J;have d:first=#[]:=by simpa using I
     subst d;refine .pure f (aQ:=.func (.func F) #[] ⟨o.toList.map a.eval⟩) ?_ (.func this);have:o.map a.eval=⟨o.toList.map a.eval⟩:=by apply Array.ext';simp
     simp[execOp,Instr.makeFunc,this]
    ·exact(bw h).elim
   ·exact(bw h).elim
  ·exact(bw h).elim
 case makeMap t K=>
  simp only[gH]at h;split at h
  ·rename_i L;have:K=none:=by simpa using L
   subst this;exact .new (ZF f l h)
  ·exact(bw h).elim
 case extract x i=>
  obtain⟨_,a,h⟩:=gm h;split at h
  ·rename_i _;obtain⟨d,rfl⟩:=qu h;obtain⟨_,e,g⟩:=Zt (P:=P) (w:=w) (cK b c x a) d;exact .val f e g rfl
  ·exact(bw h).elim
 case field t x i=>
  obtain⟨_,a,h⟩:=mM h
  cases d:P.underlying t with
  | none=>grind
  | some g=>
    rw[d]at a;cases g<;>simp only[n3,o5,hJ,reduceCtorEq]at a;rename_i M
    cases e:M[i]? with
    | none=>grind
    | some _=>
      rw[e]at a;simp only[hJ]at a;split at a
      ·rename_i N;simp only[aJ]at a;subst a;obtain⟨_,k,h⟩:=gm h;split at h
       ·rename_i _;obtain⟨m,rfl⟩:=qu h;obtain⟨_,r,v⟩:=Zu (P:=P) (w:=w) d e N (cK b c x k) m;exact .val f r v rfl
       ·exact(bw h).elim
      ·cases a
 case fieldAddr t x i=>
  obtain⟨_,a,h⟩:=mM h
  cases d:P.underlying t with
  | none=>grind
  | some g=>
    rw[d]at a;cases g<;>simp only[n3,o5,hJ,reduceCtorEq]at a;rename_i Q
    cases e:Q[i]? with
    | none=>grind
    | some _=>
      rw[e]at a;simp only[hJ]at a;split at a
      ·rename_i p;simp only[bK,bne_iff_ne]at p;simp only[aJ]at a;subst a;obtain⟨_,k,h⟩:=gm h;split at h
       ·rename_i _;obtain⟨rfl,rfl⟩:=dX h;obtain⟨_,m,r⟩:=Zv (P:=P) (w:=w) d e p.1 p.2 (cK b c x k) rfl;exact .val f m r rfl
       ·exact(bw h).elim
      ·cases a
 case indexAddr t x i=>
  simp only[gH]at h;have g:∀{k:Option Value->Option Nat->bf},(k (a7 e (rand G x)) (c8 (a7 e (rand G i)))).run pm H=some (r,ab)->(∀m,k none m=.fail)->(∀v,k (some v) none=.fail)->∃v u m,a7 e (rand G x)=some v/\a7 e (rand G i)=some u/\c8 (some u)=some m/\(k (some v) (some m)).run pm H=some (r,ab):=by
   intro k a r h
   cases d:a7 e (rand G x) with
   | none=>rw[d,r]at a;exact(bw a).elim
   | some v=>
     cases k:a7 e (rand G i) with
     | none=>rw[d,k]at a;simp only[c8]at a;rw[h]at a;exact(bw a).elim
     | some u=>
       cases e:c8 (some u) with
       | none=>rw[d,k,e,h]at a;exact(bw a).elim
       | some m=>grind
  split at h
  ·rename_i R S;split at h
   ·rename_i T;obtain⟨v,u,m,a,d,e,r⟩:=g (k:=rh (P.cellsOf R)) h (λ_=>rfl) (λv=>by cases v<;>first | rfl | (rename_i U _ _;cases U<;>rfl));exact .ex f (ZA S T (cK b c x a) (cK b c i d) e r)
   ·exact(bw h).elim
  ·rename_i V W X;split at h
   ·rename_i Y;obtain⟨v,u,m,a,d,e,r⟩:=g (k:=rf V (P.cellsOf W)) h (λ_=>rfl) (λv=>by cases v<;>first | rfl | (rename_i Z;cases Z<;>rfl));exact .ex f (Zz X Y (cK b c x a) (cK b c i d) e r)
   ·exact(bw h).elim
  ·exact(bw h).elim
 case index t x i=>
  simp only[gH]at h;have g:∀{k:Option Value->Option Nat->bf},(k (a7 e (rand G x)) (c8 (a7 e (rand G i)))).run pm H=some (r,ab)->(∀m,k none m=.fail)->(∀v,k (some v) none=.fail)->∃v u m,a7 e (rand G x)=some v/\a7 e (rand G i)=some u/\c8 (some u)=some m/\(k (some v) (some m)).run pm H=some (r,ab):=by
   intro k a r h
   cases d:a7 e (rand G x) with
   | none=>rw[d,r]at a;exact(bw a).elim
   | some v=>
     cases k:a7 e (rand G i) with
     | none=>rw[d,k]at a;simp only[c8]at a;rw[h]at a;exact(bw a).elim
     | some u=>
       cases e:c8 (some u) with
       | none=>rw[d,k,e,h]at a;exact(bw a).elim
       | some m=>grind
  split at h
  ·rename_i hu;obtain⟨v,u,m,a,d,e,r⟩:=g (k:=ri) h (λ_=>rfl) (λv=>by cases v<;>rfl);exact .same f (ZB hu (cK b c x a) (cK b c i d) e r)
  ·rename_i ln A aa;split at h
   ·rename_i hk;obtain⟨v,u,m,a,d,e,r⟩:=g (k:=sT (lk P A) ln (P.cellsOf A)) h (λ_=>rfl) (λv=>by cases v<;>rfl);exact .ex f (Zy aa hk (cK b c x a) (cK b c i d) e r)
   ·exact(bw h).elim
  ·exact(bw h).elim
end
section
variable{O:cy}{P:Program}{base:Nat}{pm:Perm}{γ fe:aT}{H ab:ae}{w ay:World}{n:Nat}{e:Env}{a:Act}{G:Nat->Bool}
theorem RT{c2:Array Field}:∀{a:List (Nat×Operand)} {b:List (Nat×Nat×b0)},(a.mapM λp=>(c2[p.1]?).map λf=>(f.offset,P.cellsOf f.type,rand G p.2))=some b->
 vD G (λi=>(c2.map λf=>(f.offset,P.cellsOf f.type))[i]?) b a
 | [],b,h=>by
   simp only[List.mapM_nil,n3,aJ]at h;subst h;exact .nil
 | (i,_)::a,b,h=>by
   simp only[List.mapM_cons,o5,n3]at h
   cases c:c2[i]? with
   | none=>grind
   | some f=>
     rw[c]at h;simp only[hK,hJ]at h
     cases d:(a.mapM λp=>(c2[p.1]?).map λf=>(f.offset,P.cellsOf f.type,rand G p.2)) with
     | none=>grind
     | some _=>
       rw[d]at h;simp only[hJ,aJ]at h;subst h;exact .cons (by simp[c]) (RT d)
theorem IL{aV:Nat}:∀(a:List (Nat×Operand)),vD G (λi=>some (i*aV,aV)) (a.map λp=>(p.1*aV,aV,rand G p.2)) a
 | []=>.nil
 | (_,_)::a=>.cons rfl (IL a)
theorem ZZ(c:Rel O base γ H w)(q:pm.fo γ H)(f:dG γ n e a)(i:fX G γ){d g:_}{l:TypeId}{m:String}{o:Array Edge}{j:Op}{r:Value}
 (ai:match j with | .build .. | .buildSlice .. | .binOp .. | .convert ..=>True | _=>False)
 (h:((gH P G ⟨d,j,l,m,o,g⟩).J e).run pm H=some (r,ab)):gn O P base pm γ H w (execOp a.eval ⟨d,j,l,m,o,g⟩) r ab:=by
 cases j<;>first | grind | skip
 case build t k=>
  obtain⟨_,b,h⟩:=mM h
  cases d:Dam.zeroCells P t with
  | none=>grind
  | some _=>
    obtain⟨_,e,rfl⟩:=AT d;rw[d]at b;simp only[o5,hJ]at b;split at b
    ·rename_i s u
     cases g:(k.toList.mapM λp=>(s[p.1]?).map λn=>(n.offset,P.cellsOf n.type,rand G p.2)) with
     | none=>grind
     | some _=>
       rw[g]at b;simp only[hJ]at b;split at b
       ·rename_i v;simp only[n3,aJ]at b;subst b;simp only[bh.J]at h;split at h
        ·rename_i _ z;split at h
         ·rename_i _ A;obtain⟨rfl,rfl⟩:=dX h;obtain⟨_,r,t⟩:=Zm (P:=P) (w:=w) (parts:=k.map λp=>(p.1,a.eval p.2)) e u v (by rw[Array.toList_map];exact IG f i (RT g) z) A;exact .val c r t rfl
         ·exact(bw h).elim
        ·exact(bw h).elim
       ·cases b
    ·rename_i B _ C;split at b
     ·rename_i D;simp only[n3,aJ]at b;subst b;simp only[bh.J]at h;split at h
      ·rename_i _ E;split at h
       ·rename_i _ F;obtain⟨rfl,rfl⟩:=dX h;obtain⟨_,g,n⟩:=Zk (P:=P) (w:=w) (parts:=k.map λp=>(p.1,a.eval p.2)) e C D (by rw[Array.toList_map];exact IG f i (IL k.toList) E) F;exact .val c g n rfl
       ·exact(bw h).elim
      ·exact(bw h).elim
     ·cases b
    ·cases b
 case buildSlice t B k=>
  obtain⟨_,b,h⟩:=mM h
  cases d:P.underlying t with
  | none=>grind
  | some g=>
    rw[d]at b;cases g<;>simp only[n3,o5,hJ,reduceCtorEq]at b;rename_i I
    cases e:Dam.zeroCells P I with
    | none=>grind
    | some _=>
      obtain⟨_,n,rfl⟩:=AT e;rw[e]at b;simp only[hJ]at b;split at b
      ·rename_i J;simp only[aJ]at b;subst b;simp only[bh.J]at h;split at h
       ·rename_i _ K;split at h
        ·rename_i _ L;obtain⟨_,ay,fe,r,t,G⟩:=Zl (P:=P) (w:=w) (parts:=k.map λp=>(p.1,a.eval p.2)) c q d n J (by rw[Array.toList_map];exact IG f i (IL k.toList) K) L h;exact .tb r t G
        ·exact(bw h).elim
       ·exact(bw h).elim
      ·cases b
 case binOp j t x y M=>
  simp only[gH]at h;have n:∀{b:lL},(j=.eql∨j=.neq->rl P t x y=some b)->((bh.bin j b (rand G x) (rand G y)).J e).run pm H=some (r,ab)->gn O P base pm γ H w (execOp a.eval ⟨d,.binOp j t x y M,l,m,o,g⟩) r ab:=by
   intro b g h;obtain⟨_,p,h⟩:=gm h;obtain⟨_,r,h⟩:=gm h;obtain⟨a,rfl⟩:=qu h;have d:=cK f i x p;have e:=cK f i y r;unfold Dam.binOp at a;split at a
   ·split at a
    ·rename_i _ N;simp only[aJ]at a;subst a;exact .val c (ok_eq (g (.inl rfl)) N d e).1 (.bool _) rfl
    ·cases a
   ·split at a
    ·rename_i _ Q;simp only[aJ]at a;subst a;exact .val c (ok_eq (g (.inr rfl)) Q d e).2 (.bool _) rfl
    ·cases a
   ·obtain⟨h,G⟩:=Rl (P:=P) (w:=w) (t:=t) (iQ:=x) (iR:=y) (.inl rfl) a d e;exact .val c h G rfl
   ·obtain⟨h,G⟩:=Rl (P:=P) (w:=w) (t:=t) (iQ:=x) (iR:=y) (.inr rfl) a d e;exact .val c h G rfl
   ·rename_i R S T U;obtain⟨h,G⟩:=ZK (P:=P) (w:=w) (t:=t) (iQ:=x) (iR:=y) ⟨T,U,R,S⟩ a d e;exact .val c h G rfl
  split at h
  ·obtain⟨_,a,h⟩:=mM h
   cases d:rl P t x y with
   | none=>rw[d]at a;cases a
   | some b=>
     rw[d]at a;simp only[hK,aJ]at a;subst a;exact n (λ_=>d) h
  ·obtain⟨_,a,h⟩:=mM h
   cases d:rl P t x y with
   | none=>rw[d]at a;cases a
   | some b=>
     rw[d]at a;simp only[hK,aJ]at a;subst a;exact n (λ_=>d) h
  grind
 case convert V W x=>
  simp only[gH]at h;split at h
  ·rename_i _ _ X Y;obtain⟨_,a,h⟩:=gm h;exact .same c (Zq X Y (cK f i x a) h)
  ·rename_i Z hs aa;split at h
   ·rename_i he;obtain⟨a,b,h⟩:=gm h;have d:=cK f i x b;cases a<;>first | (exact(bw h).elim) | skip
    rename_i _;have g:=d.hL;obtain⟨n,ay,fe,p,r,t⟩:=ZM (P:=P) (e:=Z) c q h;refine .tb (aQ:=n) ?_ r t;simp only[convert,Sem.run_bind,df hs,df aa,Result.andThen_ok,g,df he,p]
   ·exact(bw h).elim
  ·rename_i el ad ae;split at h
   ·rename_i af;obtain⟨_,b,h⟩:=gm h;have d:=cK f i x b;obtain⟨e,a,⟨g,n,p,r⟩,t,G⟩:=Zi (P:=P) c d h;refine .val c (aQ:=e) ?_ t G;rw[r]at a|-;exact(run_convert_bytes_string w V W el g n p ad af ae).trans a
   ·exact(bw h).elim
  ·rename_i ag ah;obtain⟨_,a,h⟩:=gm h;exact .same c (Zp ag ah (cK f i x a) h)
  ·exact(bw h).elim
end
section
variable{O:cy}{P:Program}{base:Nat}{pm:Perm}{γ fe:aT}{H ab:ae}{w ay:World}{n:Nat}{e:Env}{a:Act}{G:Nat->Bool}
theorem Cw{t:TypeId}{α:Type}{f:TypeId->TypeId->Option α}{a:α}(h:(do
 let .map pZ el <-P.underlying t | none
 f pZ el:Option α)=some a):∃pZ el,P.underlying t=some (.map pZ el)/\f pZ el=some a:=by
 cases b:P.underlying t with
 | none=>grind
 | some _=>
   grind
theorem Z0(f:Rel O base γ H w)(o:pm.fo γ H)(b:dG γ n e a)(c:fX G γ){d g:_}{p:TypeId}{q:String}{s:Array Edge}{i:Op}{r:Value}
 (ag:match i with | .makeSlice .. | .slice .. | .lookup .. | .mapUpdate .. | .insert .. | .mapEntry .. | .entryStore .. | .range .. | .next ..=>True | _=>False)
 (h:((gH P G ⟨d,i,p,q,s,g⟩).J e).run pm H=some (r,ab)):gn O P base pm γ H w (execOp a.eval ⟨d,i,p,q,s,g⟩) r ab:=by
 cases i<;>first | grind | skip
 case makeSlice t l u=>
  obtain⟨_,a,h⟩:=mM h
  cases n:P.underlying t with
  | none=>grind
  | some w=>
    rw[n]at a;cases w<;>simp only[n3,o5,hJ,reduceCtorEq]at a;rename_i C
    cases r:Dam.zeroCells P C with
    | none=>grind
    | some _=>
      obtain⟨_,D,rfl⟩:=AT r;rw[r]at a;simp only[hJ,aJ]at a;subst a;simp only[bh.J]at h
      cases d:c8 (a7 e (rand G l)) with
      | none=>rw[d]at h;simp only[pU]at h;exact(bw h).elim
      | some _=>
        cases g:c8 (a7 e (rand G u)) with
        | none=>rw[d,g]at h;simp only[pU]at h;exact(bw h).elim
        | some _=>
          rw[d,g]at h;obtain⟨e,E⟩:=s9 d;obtain⟨F,G⟩:=s9 g;have O:=(cK b c l E).fa;have e2:=(cK b c u G).fa;obtain⟨H,ay,fe,_,I,J⟩:=ZG (P:=P) (t:=t) (k:=e) (dy:=F) f o n D h;refine .tb (aQ:=H) ?_ I J;grind
 case slice t x j v K=>
  simp only[gH]at h;split at h
  ·rename_i L;split at h
   ·exact(bw h).elim
   ·rename_i M;have:K=none:=by simpa using M
    subst this;simp only[bh.J]at h
    cases a:a7 e (rand G x) with
    | none=>rw[a]at h;simp only[oE]at h;exact(bw h).elim
    | some _=>
      cases d:ed e 0 (j.map (rand G)) with
      | none=>rw[a,d]at h;simp only[oE]at h;exact(bw h).elim
      | some l=>
        rw[a,d]at h;exact .same f (ZO L (cK b c x a) (rG b c d) (λm _ e=>rG b c e) h)
  ·rename_i _ N;split at h
   ·rename_i y;simp only[bK,jG,ir]at y;obtain⟨_,a,h⟩:=gm h;split at h
    ·rename_i _ _ _;split at h
     ·rename_i l _ m Q R S;refine .ex f (ZN f N y.1 (cK b c x a) (rG b c Q) (rG b c R) (rG b c S) ?_ h);simp_all
     ·exact(bw h).elim
    ·exact(bw h).elim
   ·exact(bw h).elim
  ·rename_i T _ U;split at h
   ·exact(bw h).elim
   ·rename_i z;simp only[jG,ir,not_or,Bool.not_eq_true,Bool.not_eq_false,Option.isSome_eq_false_iff,Option.isNone_iff_eq_none]at z;obtain⟨rfl,n⟩:=z;simp only[bh.J]at h
    cases a:a7 e (rand G x) with
    | none=>rw[a]at h;simp only[rj]at h;exact(bw h).elim
    | some k=>
      cases d:ed e 0 (j.map (rand G)) with
      | none=>rw[a,d]at h;cases k<;>first | exact(bw h).elim | (rename_i V;cases V<;>exact(bw h).elim)
      | some l=>
        cases g:ed e T (v.map (rand G)) with
        | none=>rw[a,d,g]at h;cases k<;>first | exact(bw h).elim | (rename_i W;cases W<;>exact(bw h).elim)
        | some m=>
          rw[a,d,g]at h;exact .ex f (Rm (yl:=none) U n (cK b c x a) (rG b c d) (rG b c g) h)
  ·rename_i X Y;split at h
   ·rename_i Z _ aa;split at h
    ·exact(bw h).elim
    ·rename_i A;simp only[jG,ir,not_or,Bool.not_eq_true,Bool.not_eq_false,Option.isSome_eq_false_iff,Option.isNone_iff_eq_none]at A;obtain⟨rfl,n⟩:=A;simp only[bh.J]at h
     cases a:a7 e (rand G x) with
     | none=>rw[a]at h;simp only[rj]at h;exact(bw h).elim
     | some k=>
       cases d:ed e 0 (j.map (rand G)) with
       | none=>rw[a,d]at h;cases k<;>first | exact(bw h).elim | (rename_i ad;cases ad<;>exact(bw h).elim)
       | some l=>
         cases g:ed e Z (v.map (rand G)) with
         | none=>rw[a,d,g]at h;cases k<;>first | exact(bw h).elim | (rename_i ae;cases ae<;>exact(bw h).elim)
         | some m=>
           rw[a,d,g]at h;exact .ex f (Rm (yl:=some X) ⟨Y,aa⟩ n (cK b c x a) (rG b c d) (rG b c g) h)
   ·exact(bw h).elim
  ·exact(bw h).elim
 case lookup t x k _=>
  obtain⟨_,a,h⟩:=mM h;obtain⟨r,t,w,a⟩:=Cw a
  cases g:jX P r with
  | none=>grind
  | some _=>
    cases n:zeroOf P t with
    | none=>grind
    | some _=>
      rw[g,n]at a;simp only[n3,o5,hJ,aJ]at a;subst a;obtain⟨_,D,h⟩:=gm h
      cases d:a7 e (rand G x) with
      | none=>rw[d]at h;exact(bw h).elim
      | some _=>
        rw[d]at h;exact .ex f (ZD f w g n (cK b c x d) (cK b c k D) h)
 case mapUpdate t m k x=>
  obtain⟨_,a,h⟩:=mM h;obtain⟨n,_,r,a⟩:=Cw a
  cases g:jX P n with
  | none=>grind
  | some _=>
    rw[g]at a;simp only[n3,o5,hJ,aJ]at a;subst a;obtain⟨_,t,h⟩:=gm h;obtain⟨_,w,h⟩:=gm h
    cases d:a7 e (rand G m) with
    | none=>rw[d]at h;exact(bw h).elim
    | some _=>
      rw[d]at h;exact .stored (Ri f r g (cK b c m d) (cK b c x w) (cK b c k t) h)
 case insert t m k x=>
  obtain⟨_,a,h⟩:=mM h;obtain⟨n,_,r,a⟩:=Cw a
  cases g:jX P n with
  | none=>grind
  | some _=>
    rw[g]at a;simp only[n3,o5,hJ,aJ]at a;subst a;obtain⟨_,t,h⟩:=gm h;obtain⟨_,w,h⟩:=gm h
    cases d:a7 e (rand G m) with
    | none=>rw[d]at h;exact(bw h).elim
    | some _=>
      rw[d]at h;exact .stored (Ri f r g (cK b c m d) (cK b c x w) (cK b c k t) h)
 case mapEntry t m k=>
  obtain⟨_,a,h⟩:=mM h;obtain⟨r,t,w,a⟩:=Cw a
  cases g:jX P r with
  | none=>grind
  | some _=>
    cases n:zeroOf P t with
    | none=>grind
    | some _=>
      rw[g,n]at a;simp only[n3,o5,hJ,aJ]at a;subst a;obtain⟨_,D,h⟩:=gm h
      cases d:a7 e (rand G m) with
      | none=>rw[d]at h;exact(bw h).elim
      | some _=>
        rw[d]at h;exact .wrote (ZE f w g n (cK b c m d) (cK b c k D) h)
 case entryStore t m af x=>
  simp only[gH,bh.J]at h;split at h
  ·rename_i _ hs;obtain⟨_,d,h⟩:=gm h;obtain⟨k,g⟩:=s9 hs;have r:=(cK b c af g).fa
   cases a:a7 e (rand G m) with
   | none=>rw[a]at h;exact(bw h).elim
   | some _=>
     rw[a]at h;obtain⟨ay,_,e,n⟩:=Zs (P:=P) (t:=t) (k:=k) f (cK b c m a) (cK b c x d) h;refine .Rc (ay:=ay) ?_ e n;grind
  ·exact(bw h).elim
 case range t x=>
  simp only[gH]at h;split at h
  ·rename_i hu;obtain⟨_,a,h⟩:=gm h;have d:=cK b c x a;split at h
   ·have n:=d.hL;obtain⟨e,ay,fe,_,g,k⟩:=ZL (P:=P) f o hu h;refine .tb (aQ:=e) ?_ g k;grind
   ·exact(bw h).elim
  ·exact(bw h).elim
 case next B _=>
  simp only[gH]at h;split at h
  ·rename_i hb;subst hb;simp only[bh.J]at h
   cases a:a7 e (rand G B) with
   | none=>rw[a]at h;exact(bw h).elim
   | some _=>
     rw[a]at h;exact .wrote (ZH f (cK b c B a) h)
  ·exact(bw h).elim
end
section
variable{O:cy}{P:Program}{base:Nat}{pm:Perm}{γ fe:aT}{H ab:ae}{w ay:World}{n:Nat}{e:Env}{a:Act}{G:Nat->Bool}
theorem HI{α β:Type}(f:α->β)(x:α):(#[x]:Array α).map f=#[f x]:=by simp
theorem nN{α β:Type}(f:α->β)(x y:α):(#[x,y]:Array α).map f=#[f x,f y]:=by simp
theorem Z1(k:Rel O base γ H w)(C:pm.fo γ H)(f:dG γ n e a)(i:fX G γ){d g:_}{c:TypeId}{p:String}{q:Array Edge}{b:Builtin}{args:Array Operand}{j:Array TypeId}{r:Value}
 (h:((gH P G ⟨d,.call ⟨.builtin b,args,j⟩,c,p,q,g⟩).J e).run pm H=some (r,ab)):gn O P base pm γ H w (execOp a.eval ⟨d,.call ⟨.builtin b,args,j⟩,c,p,q,g⟩) r ab:=by
 simp only[gH]at h;have K:∀{b:Builtin},execOp a.eval ⟨d,.call ⟨.builtin b,args,j⟩,c,p,q,g⟩=Go.builtin b j c (args.map λ| .const _=>true | _=>false) (args.map a.eval):=λ{b}=>rfl;rw[K];split at h
 ·rename_i x t jl L M;have g:j[0]? = some t:=by rw[<-kX,M];rfl
  have n:args=#[x]:=n2.1 (by simpa using L);subst n
  have Q:∀{b:A5},(match b with | .s=>P.underlying t=some .string | .l=>∃e,P.underlying t=some (.slice e) | .m=>∃b e,P.underlying t=some (.map b e))->((bh.len b (rand G x)).J e).run pm H=some (r,ab)->
   gn O P base pm γ H w (Go.builtin .len j c ((#[x]:Array Operand).map λ| .const _=>true | _=>false) ((#[x]:Array Operand).map a.eval)) r ab:=by
   intro b _ h;simp only[bh.J]at h
   cases d:a7 e (rand G x) with
   | none=>rw[d]at h;cases b<;>exact(bw h).elim
   | some _=>
     rw[d]at h;rw[HI a.eval];exact .same k (ZC (ty:=c) k g (by grind) (cK f i x d) h)
  split at h
  ·grind
  ·grind
  ·grind
  ·exact(bw h).elim
 ·rename_i s l u v N D;have n:args=#[s,l]:=n2.1 (by simpa using N);have Q:j=#[u,v]:=n2.1 (by simpa using D);subst n Q
  have g:∀{b:TypeId},P.underlying u=some (.slice b)->yb P v->((zeroOf P b).isSome&&Nat.ble (P.bytesOf b) 17179869184)=true->((bh.append (P.cellsOf b) (P.bytesOf b) (rand G s) (rand G l)).J e).run pm H=some (r,ab)->
   gn O P base pm γ H w (Go.builtin .append #[u,v] c ((#[s,l]:Array Operand).map λ| .const _=>true | _=>false) ((#[s,l]:Array Operand).map a.eval)) r ab:=by
   intro b e G d h;simp only[bK,cJ,cP]at d;obtain⟨_,R⟩:=n0.1 d.1;obtain⟨_,S,h⟩:=gm h;obtain⟨_,T,h⟩:=gm h;rw[nN a.eval];exact .new (Zg (ty:=c) k C e G R d.2 (cK f i s T) (cK f i l S) h)
  split at h
  ·rename_i b D U V;split at h
   ·rename_i W;exact g U (.inl ⟨_,V⟩) W h
   ·exact(bw h).elim
  ·rename_i b E F;split at h
   ·rename_i o;simp only[bK,cJ,dc,cP]at o;obtain⟨_,d⟩:=n0.1 o.1.1;obtain⟨_,e,h⟩:=gm h;obtain⟨_,r,h⟩:=gm h;rw[nN a.eval];exact .new (Zh (ty:=c) k C E F d o.1.2 o.2 (cK f i s r) (cK f i l e) h)
   ·split at h
    ·rename_i X;exact g E (.inr F) X h
    ·exact(bw h).elim
  ·exact(bw h).elim
 ·rename_i I J Y jl Z e2;have b:j[0]? = some Y:=by rw[<-kX,e2];rfl
  have d:args=#[I,J]:=n2.1 (by simpa using Z);subst d;split at h
  ·rename_i _ hu;split at h
   ·rename_i hk;obtain⟨_,e,h⟩:=gm h;obtain⟨_,g,h⟩:=gm h;rw[nN a.eval];exact .wrote (Zr (ty:=c) k hu b hk (cK f i I g) (cK f i J e) h)
   ·exact(bw h).elim
  ·exact(bw h).elim
 ·rename_i m aa jl e1 ad;have g:j[0]? = some aa:=by rw[<-kX,ad];rfl
  have r:args=#[m]:=n2.1 (by simpa using e1);subst r;split at h
  ·rename_i el ae;obtain⟨_,b,h⟩:=mM h
   cases n:Dam.zeroCells P el with
   | none=>grind
   | some _=>
     obtain⟨_,w,rfl⟩:=AT n;rw[n]at b;simp only[hK,aJ]at b;subst b;simp only[bh.J]at h
     cases d:a7 e (rand G m) with
     | none=>rw[d]at h;exact(bw h).elim
     | some _=>
       rw[d]at h;obtain⟨ay,e,G,H⟩:=Zo (ty:=c) (P:=P) k ae g w (cK f i m d) h;subst G;rw[HI a.eval];exact .tb (aQ:=aR) e (.tuple .nil) H
  ·rename_i _ _ af;simp only[bh.J]at h
   cases b:a7 e (rand G m) with
   | none=>rw[b]at h;exact(bw h).elim
   | some _=>
     rw[b]at h;obtain⟨ay,d,e,n⟩:=Zn (ty:=c) (P:=P) k af g (cK f i m b) h;subst e;rw[HI a.eval];exact .tb (aQ:=aR) d (.tuple .nil) n
  ·exact(bw h).elim
 ·rename_i y z ag;have g:args=#[y,z]:=n2.1 (by simpa using ag);subst g;simp only[bh.J]at h
  cases b:a7 e (rand G y) with
  | none=>rw[b]at h;exact(bw h).elim
  | some _=>
    cases d:a7 e (rand G z) with
    | none=>rw[b,d]at h;simp only[mu]at h;exact(bw h).elim
    | some _=>
      rw[b,d]at h;have:=Rj (P:=P) (w:=w) (jl:=j) (ty:=c) (cK f i y b) (cK f i z d) h;rw[nN a.eval];exact .same k this
 ·rename_i A B ah;have g:args=#[A,B]:=n2.1 (by simpa using ah);subst g;simp only[bh.J]at h
  cases b:a7 e (rand G A) with
  | none=>rw[b]at h;exact(bw h).elim
  | some _=>
    cases d:a7 e (rand G B) with
    | none=>rw[b,d]at h;simp only[mu]at h;exact(bw h).elim
    | some _=>
      rw[b,d]at h;have:=Rj (P:=P) (w:=w) (jl:=j) (ty:=c) (cK f i A b) (cK f i B d) h;rw[nN a.eval];exact .same k this
 ·exact(bw h).elim
theorem CR(b:Rel O base γ H w)(c:pm.fo γ H)(d:dG γ n e a)(f:fX G γ)(o:Oper){r:Value}(h:((gH P G o).J e).run pm H=some (r,ab)):gn O P base pm γ H w (execOp a.eval o) r ab:=by
 obtain⟨_,a,_,_,_,_⟩:=o;cases a
 case call g=>
  obtain⟨e,_,_⟩:=g;cases e
  case builtin _=>exact Z1 b c d f h
  case value i=>cases i<;>exact(bw h).elim
  case invoke=>exact(bw h).elim
 all_goals first
  | exact ZY b c d f trivial h
  | exact ZZ b c d f trivial h
  | exact Z0 b c d f trivial h
  | exact(bw h).elim
end
end Go.Dam
namespace Go.Dam
open Go
section
variable{O:cy}{P:Program}{base:Nat}{pm:Perm}{γ fe:aT}{H ab:ae}{w ay:World}{n:Nat}{e:Env}{a:Act}{G:Nat->Bool}{K:cv}
theorem fX.mono(h:fX G γ)(a':γ.le fe):fX G fe:=λg b=>let ⟨L,a,c,d⟩:=h g b;⟨L,a' _ _ a,c,d⟩
theorem dG.mono(h:dG γ n e a)(a':γ.le fe):dG fe n e a:=⟨h.size,h.Q,h.defers,λt v q=>let ⟨x,y⟩:=h.get t v q;⟨x,y.mono a'⟩⟩
theorem dG.put(h:dG γ n e a){d:Option Tmp}(b:∀t,d=some t->t<n){v aQ:Value}(f:aO γ v aQ):dG γ n (putDst e d v) (a.put d aQ):=by
 cases d with
 | none=>exact h
 | some d=>
   have c:=b d rfl;refine⟨by simpa [Act.put]using h.size,h.Q,h.defers,λt u q=>?_⟩;simp only[putDst,b6.lS]at q;have b:=h.size;by_cases a:t=d
   ·subst a;simp only[if_true,aJ]at q;subst q;refine⟨c,?_⟩;simp only[Act.put,l4];grind
   ·rw[aw a]at q;obtain⟨x,y⟩:=h.get t u q;refine⟨x,?_⟩;simp only[Act.put,l4];rw[Array.getElem?_setIfInBounds_ne (Ne.symm a),<-l4];exact y
theorem dG.IU(h:dG γ n e a){d:Option Tmp}(b:∀t,d=some t->t<n):dG γ n (putDst e d aR) (a.put d undef):=h.put b (.tuple .nil)
def pD(P:Program)(f:FuncId)(args:Array Value)(w:World)(R:Ending->World->Prop):Prop:=
 ((callFunc f args).run P w=.ok (.enter f args) w/\Calls P f args w R)∨∃v ay,(callFunc f args).run P w=.ok (.value v) ay/\R (.returned v) ay
def eJ(O:cy)(P:Program)(G:Nat->Bool)(K:cv):Prop:=
 ∀(pm:Perm) (f:FuncId) (a:List Value) (H:ae) (v:Value) (ab:ae),pm.num=none->K pm f a H=some (v,ab)->∀(base:Nat) (γ:aT) (w:World) (b:Array Value),Rel O base γ H w->fX G γ->bN γ a b.toList->
  pD P f b w λb ay=>∃fe a,b=.returned a/\aO fe v a/\Step O base pm γ H w fe ab ay
def vB(O:cy)(P:Program)(base:Nat)(pm:Perm)(γ:aT)(H:ae)(w:World)(o:Oper)(a:Act)(r:Value)(ab:ae):Prop:=
 ∀(b:Act->World->Prop) (Q:Exit->Act->World->Prop),(∀fe c ay,aO fe r c->Step O base pm γ H w fe ab ay->b (a.put o.dst c) ay)->o.wp P a w b Q
theorem gn.done{o:Oper}{r:Value}(h:gn O P base pm γ H w (execOp a.eval o) r ab):vB O P base pm γ H w o a r ab:=by
 obtain⟨_,_,ay,fe,d,e,a,b⟩:=h;intro _ _ c
 unfold Oper.wp;rw[d]
 rcases e with rfl | ⟨rfl,rfl⟩
 ·exact c _ _ _ a b
 ·exact c _ _ _ a b
theorem Ow{f:FuncId}{args:Array Value}{o:Oper}{r:Value}(b:(execOp a.eval o).run P w=(callFunc f args).run P w)
 (h:pD P f args w λdq ay=>∃fe aQ,dq=.returned aQ/\aO fe r aQ/\Step O base pm γ H w fe ab ay):vB O P base pm γ H w o a r ab:=by
 intro _ _ c
 unfold Oper.wp;rw[b]
 rcases h with⟨b7,cH⟩ | ⟨v,ay,b7,fe,aQ,cH,cD,dS⟩
 ·rw[b7,Oper.upon_enter];exact cH.mono λdq ay ⟨fe,aQ,cH,cD,dS⟩=>by
   grind
 ·rw[b7];cases cH;exact c _ _ _ cD dS
theorem aaV{o:bh}(h:o.eD=false):o.run K pm e H=(o.J e).run pm H:=by cases o<;>first | rfl | cases h
theorem GB(q:eJ O P G K)(i:Rel O base γ H w)(j:pm.num=none)(g:dG γ n e a)(b:fX G γ)(o:Oper)(t:calm P G o=true){r:Value}(h:(gH P G o).run K pm e H=some (r,ab)):vB O P base pm γ H w o a r ab:=by
 obtain⟨k,u,l,m,n,p⟩:=o;cases u
 case call v=>
  obtain⟨x,c,o⟩:=v;have y:∀d,((bh.ka (rand G d) (c.toList.map (rand G))).run K pm e H=some (r,ab))->vB O P base pm γ H w ⟨k,.call ⟨.value d,c,o⟩,l,m,n,p⟩ a r ab:=by
   intro d h;simp only[bh.run]at h;split at h
   ·rename_i f first z A
    split at h
    ·rename_i _ B;have r:=cK g b d A;have C:=B' g b B;obtain⟨e,D,E,_⟩:∃e,a.eval d=.func (.func f) #[] ⟨e⟩/\bN γ z.toList e/\first=#[]:=by
      generalize a.eval d=h at r
      cases r with
      | func a=>exact⟨_,rfl,a,rfl⟩
     have:=q _ _ _ _ _ _ j h base γ w (c.map a.eval++⟨e⟩) i b (by simpa using C.append E);refine Ow ?_ this;simp only[execOp,resolve,D,Deferred.ofValue,invoke,Sem.run_bind,Sem.run_pure,Result.andThen_ok,Array.empty_append]
    ·cases h
   ·cases h
  cases x
  case builtin s=>
   have a:(bh.run K pm e H (gH P G ⟨k,.call ⟨.builtin s,c,o⟩,l,m,n,p⟩))=((gH P G ⟨k,.call ⟨.builtin s,c,o⟩,l,m,n,p⟩).J e).run pm H:=by
    simp only[gH];split<;>first | rfl | (split<;>first | rfl | (split<;>first | rfl | (split<;>rfl)) | (unfold mL;cases Dam.zeroCells P _<;>rfl))
   rw[a]at h;exact(CR i (.none j) g b _ h).done
  case value f=>
   cases f
   case func f=>
    simp only[gH,bh.run]at h;split at h
    ·rename_i _ F;have e:=B' g b F;have:=q _ _ _ _ _ _ j h base γ w (c.map a.eval) i b (by simpa using e);refine Ow ?_ this;have r:Act.eval a (.func f)=.func (.func f) #[] #[]:=rfl;simp only[execOp,resolve,r,Deferred.ofValue,invoke,Sem.run_bind,Sem.run_pure,Result.andThen_ok,Array.empty_append,Array.append_empty]
    ·cases h
   all_goals exact y _ h
  case invoke=>cases h
 all_goals
  refine(CR i (.none j) g b _ ?_).done
  rw[<-aaV (K:=K) (by simpa [calm]using t)]
  exact h
theorem Ax(g:dG γ n e a){c:Array Oper}{o:Oper}{b:Bool}(f:p9 P G n c o=true)(h:(e3 P G n c o).wanted e=some b):Region.wanted o (yielded c a.tmps)=b:=by
 have l:∀j b,o.guard=some (j,b)->((c[j]?).bind (·.dst)).isSome:=by
  intro j b d;simp only[p9,bK]at f;have:=f.1.2;rw[d]at this;exact this
 unfold aE.wanted at h;rw[e3,aL f]at h;simp only at h;unfold Region.wanted
 cases d:o.guard with
 | none=>grind
 | some p=>
   obtain⟨j,b⟩:=p;rw[d]at h;obtain⟨t,i⟩:=n0.1 (l j b d);simp only[hK,i,je]at h;simp only[yielded,i,hJ]
   cases k:e.get t with
   | none=>grind
   | some v=>
     obtain⟨_,y⟩:=g.get t v k;have m:=g.size;have e:a.tmps[t]? = some (a.tmps.getD t undef):=by
      rw[l4,mT (by omega)];rfl
     rw[k]at h;rw[e];generalize a.tmps.getD t undef=u at y;cases y<;>simp only[aJ]at h<;>subst h<;>first | rfl | (cases b<;>rfl) | (rename_i q;cases q<;>cases b<;>rfl)
end
section
variable{O:cy}{P:Program}{base:Nat}{pm:Perm}{n:Nat}{G:Nat->Bool}{K:cv}{fuel:Nat}
theorem CJ{a:Array Oper}{o:Oper}(b:p9 P G n a o=true):∀t,o.dst=some t->t<n:=by
 intro t _;simp only[p9,bK]at b;grind
theorem HT{b:Array Oper}{o:Oper}(a:p9 P G n b o=true):calm P G o=true:=by
 simp only[p9,bK]at a;exact a.2
theorem Z3{γ:aT}{H ab:ae}{w:World}{e:Env}{a:Act}{r:Value}(k:eJ O P G K){d:Array Oper}{o:Oper}(j:Rel O base γ H w)(l:pm.num=none)(c:dG γ n e a)(m:fX G γ)(h:(e3 P G n d o).run K pm e H=some (r,ab))
 {i:Act->World->Prop} {Q:Exit->Act->World->Prop} (f:∀g b5 ay,dG g n (putDst e (e3 P G n d o).dst r) b5->Step O base pm γ H w g ab ay->i b5 ay):
 if Region.wanted o (yielded d a.tmps) then o.wp P a w i Q∨(o.asks P a w/\LetsOut Q) else i (a.put o.dst undef) w:=by
 by_cases b:p9 P G n d o=true
 ·unfold aE.run at h;split at h
  ·rename_i p;rw[Ax c b p,aL rfl];rw[e3,aL b]at h f;exact .inl (GB k j l c m o (HT b) h _ _ λg _ ay e a=>f g _ ay ((c.mono a.ext).put (CJ b) e) a)
  ·rename_i q;rw[Ax c b q];simp only[aJ,cp]at h;obtain⟨rfl,rfl⟩:=h;rw[e3,aL b]at f;exact f γ _ w (c.IU (CJ b)) (Step.refl j)
  ·cases h
 ·rw[e3,aw b]at h;simp[aE.run,aE.wanted,bh.run,bh.J,bf.run]at h
theorem Ru(g:pm.num=none)(j:eJ O P G K){b:Array Oper}{Q:Exit->Act->World->Prop}:∀(l:List Oper) (k:Nat),(∀i o,l[i]? = some o->b[k+i]? = some o)->∀{e cA:Env} {a:Act} {γ:aT} {H Ut:ae} {w:World},
 ke K pm (l.map (e3 P G n b)) e H=some (cA,Ut)->Rel O base γ H w->dG γ n e a->fX G γ->(∀c d f,dG c n cA d->Step O base pm γ H w c Ut f->Q .normal d f)->wpOps P b Q (List.range' k l.length) a w
 | [],k,_,e,cA,a,γ,H,Ut,w,h,i,l,_,m=>by
   simp only[List.map_nil,ke,aJ,cp]at h;obtain⟨rfl,rfl⟩:=h;exact m γ a w l (Step.refl i)
 | o::l,k,m,e,cA,a,γ,H,Ut,w,h,n,q,p,r=>by
   simp only[zQ,ke]at h;split at h
   ·rename_i _ _ s;have e:b[k]? = some o:=by simpa using m 0 o rfl
    simp only[iK,List.range'_succ,wpOps,e];refine Z3 j n g q p s λ_ _ _ t a=>?_
    exact Ru g j l (k+1) (λi o u=>by have:=m (i+1) o (by simpa using u);grind) h a.rel t (p.mono a.ext)
     λc d f i k=>r c d f i (a.trans k n)
   ·cases h
theorem aaG(g:pm.num=none)(i:eJ O P G K){b:Array Oper}{id:Nat}{Q:Exit->Act->World->Prop}{e cA:Env}{a:Act}{γ:aT}{H Ut:ae}{w:World}
 (h:ke K pm (kF P G n b) e H=some (cA,Ut)) (j:Rel O base γ H w) (k:dG γ n e a) (l:fX G γ) (m:∀c d f,dG c n cA d->Step O base pm γ H w c Ut f->Q .normal d f):
 (Code.region id b false).wp P Q a w:=by
 refine wp_region ?_;have:=Ru (Q:=Q) g i b.toList 0 (λ_ _ b=>by simpa using b) h j k l m;rw[l5,<-List.range_eq_range']at this;exact this
def A0(O:cy)(P:Program)(G:Nat->Bool):Prop:=
 ∀(K:cv),eJ O P G K->∀(pm:Perm),pm.num=none->∀(n id:Nat) (a:Array Oper) (Q:Exit->Act->World->Prop) (base:Nat) (e b:Env) (c:Act) (γ:aT) (H d:ae) (w:World),
  rm K pm (kF P G n a) (BL a (kF P G n a)) e H=some (b,d)->Rel O base γ H w->dG γ n e c->fX G γ->(∀e f g,dG e n b f->Step O base pm γ H w e d g->Q .normal f g)->
  (Code.region id a true).wp P Q c w
theorem acn{c:Code}{Q:Exit->Act->World->Prop}{a:Act}{w:World}(I:Nat->Act->World->Prop)(m:Nat)(j:I m a w)(o:∀a w,¬I 0 a w)
 (l:∀m a w,I (m+1) a w->c.wp P (Exit.then (λb5 ay=>I m b5 ay) Q) a w):(Code.loop c).wp P Q a w:=by
 intro h k i;have n:∀m a w,I m a w->∃e b5 ay,Q e b5 ay/\Arrives P (lone (h.at a (.code c::.inLoop c::k)) i w) h k i e b5 ay:=by
  intro m
  induction m with
  | zero=>grind
  | succ m ih=>
    intro a w o;obtain⟨e,f,g,b,d⟩:=l m a w o h (.inLoop c::k) i
    cases e with
    | normal=>
      obtain⟨a,c,h,i,k⟩:=ih f g b;exact⟨a,c,h,i,.of_steps (Steps.trans d (.one step_inLoop)) k⟩
    | exit id=>exact⟨_,f,g,b,.pass (x:=.inLoop c) rfl (λ_ _=>.inl (by simp)) d⟩
    | goto _=>exact⟨_,f,g,b,.pass (x:=.inLoop c) rfl (λ_ _=>.inl (by simp)) d⟩
    | ret=>exact⟨_,f,g,b,.pass (x:=.inLoop c) rfl (λ_ _=>.inl (by simp)) d⟩
    | panic _=>exact⟨_,f,g,b,.pass (x:=.inLoop c) rfl (λ_ _=>.inl (by simp)) d⟩
    | outgrown=>exact⟨_,f,g,b,.pass (x:=.inLoop c) rfl (λ_ _=>.inl (by simp)) d⟩
 obtain⟨e,b5,ay,b,d⟩:=n m a w j;exact⟨e,b5,ay,b,.of_steps (.one step_loop) d⟩
def GI:e1->Exit
 | .normal=>.normal
 | .exit i=>.exit i
 | .ret=>.ret
theorem N4(p:pm.num=none)(v:A0 O P G)(q:eJ O P G K):∀(c:Code) {x:e1} {e cA:Env} {a:Act} {γ:aT} {H Ut:ae} {w:World} {Q:Exit->Act->World->Prop},
 eval K pm fuel (iC P G n c) e H=some (x,cA,Ut)->Rel O base γ H w->dG γ n e a->fX G γ->(∀b d f,dG b n cA d->Step O base pm γ H w b Ut f->Q (GI x) d f)->c.wp P Q a w:=by
 intro c
 induction c with
 | skip=>
   intro x e cA a γ H Ut w Q h c g _ i;simp only[iC,eval,aJ,cp]at h;obtain⟨rfl,rfl,rfl⟩:=h;exact wp_skip (i γ a w g (Step.refl c))
 | region id k l=>
   intro x e cA a γ H Ut w Q h c g i j
   cases l with
   | false=>
     simp only[iC,eval]at h;split at h
     ·rename_i _ _ y;simp only[aJ,cp]at h;obtain⟨rfl,rfl,rfl⟩:=h;exact aaG p q y c g i j
     ·cases h
   | true=>
     simp only[iC,eval]at h;split at h
     ·rename_i _ _ z;simp only[aJ,cp]at h;obtain⟨rfl,rfl,rfl⟩:=h;exact v K q pm p n id k Q base e _ a γ H _ w z c g i j
     ·cases h
 | seq k _ l m=>
   intro x e cA a γ H Ut w Q h g o i c;simp only[iC,eval]at h;refine wp_seq ?_
   cases j:eval K pm fuel (iC P G n k) e H with
   | none=>grind
   | some n=>
     obtain⟨r,_,_⟩:=n;rw[j]at h;refine l j g o i λb d f e a=>?_
     cases r with
     | normal=>exact m h a.rel e (i.mono a.ext) λs t u w x=>c s t u w (a.trans x g)
     | exit _=>
       simp only[aJ,cp]at h;obtain⟨rfl,rfl,rfl⟩:=h;exact c b d f e a
     | ret=>
       simp only[aJ,cp]at h;obtain⟨rfl,rfl,rfl⟩:=h;exact c b d f e a
 | cond c _ _ l m=>
   intro x e cA a γ H Ut w Q h j g i k;simp only[iC,eval]at h;split at h
   ·rename_i A;exact wp_cond_true (cK g i c A).mo (l h j g i k)
   ·rename_i B;exact wp_cond_false (cK g i c B).mo (m h j g i k)
   ·cases h
 | block id c ih=>
   intro x e cA a γ H Ut w Q h j k l g;simp only[iC,eval]at h;refine wp_block ?_
   cases i:eval K pm fuel (iC P G n c) e H with
   | none=>grind
   | some m=>
     obtain⟨n,_,_⟩:=m;rw[i]at h;refine ih i j k l λb d f a c=>?_
     cases n with
     | normal=>
       simp only[aJ,cp]at h;obtain⟨rfl,rfl,rfl⟩:=h;exact g b d f a c
     | exit o=>
       simp only[dc]at h;by_cases e:o=id
       ·simp only[e,decide_true,cond_true,aJ,cp]at h;obtain⟨rfl,rfl,rfl⟩:=h;have:=g b d f a c;simpa [GI,Exit.inBlock,e]using this
       ·simp only[e,decide_false,cond_false,aJ,cp]at h;obtain⟨rfl,rfl,rfl⟩:=h;have:=g b d f a c;simpa [GI,Exit.inBlock,e]using this
     | ret=>
       simp only[aJ,cp]at h;obtain⟨rfl,rfl,rfl⟩:=h;exact g b d f a c
 | loop c ih=>
   intro x e cA a γ H Ut w Q r k C D s;simp only[iC,eval]at r;refine acn (λt m o=>∃l h i,iter (eval K pm fuel (iC P G n c)) t h i=some (x,cA,Ut)/\dG l n h m/\Step O base pm γ H w l i o) fuel ⟨γ,e,H,r,C,Step.refl k⟩ (λm o ⟨l,h,i,g,_⟩=>by cases g) ?_;rintro t m o ⟨l,h,i,g,E,j⟩;simp only[iter]at g
   cases u:eval K pm fuel (iC P G n c) h i with
   | none=>grind
   | some e=>
     obtain⟨n,w,x⟩:=e;rw[u]at g;refine ih u j.rel E (D.mono j.ext) λb d f a c=>?_
     cases n with
     | normal=>exact⟨b,w,x,g,a,j.trans c k⟩
     | exit _=>
       simp only[aJ,cp]at g;obtain⟨rfl,rfl,rfl⟩:=g;exact s b d f a (j.trans c k)
     | ret=>
       simp only[aJ,cp]at g;obtain⟨rfl,rfl,rfl⟩:=g;exact s b d f a (j.trans c k)
 | exit id=>
   intro x e cA a γ H Ut w Q h c g _ i;simp only[iC,eval,aJ,cp]at h;obtain⟨rfl,rfl,rfl⟩:=h;exact wp_exit (i γ a w g (Step.refl c))
 | ret=>
   intro x e cA a γ H Ut w Q h c g _ i;simp only[iC,eval,aJ,cp]at h;obtain⟨rfl,rfl,rfl⟩:=h;exact wp_ret (i γ a w g (Step.refl c))
 | _=>intros;rename_i F _ _ _ _;cases F
end
section
variable{O:cy}{P:Program}{base:Nat}{pm:Perm}{n:Nat}{G:Nat->Bool}{K:cv}{fuel:Nat}
theorem OK:∀(l:List Value) (k:Nat) (e:Env) (t:Nat),(pV l k e).get t=if k<=t/\t<k+l.length then l[t-k]? else e.get t
 | [],k,e,t=>by simp[pV];omega
 | v::l,k,e,t=>by
   rw[pV,OK l (k+1),b6.lS];grind
theorem Wm{γ:aT}{l:List Value}{args:Array Value}(h:bN γ l args.toList)(aY:l.length<=n)(b:n<=s'):dG γ n (pV l 0 .ag) {tmps:=args++Array.replicate (n-args.size) undef,defers:=[]}:=by
 have c:l.length=args.size:=by simpa using h.length
 refine⟨by simp;omega,b,rfl,λt v q=>?_⟩;rw[OK]at q;split at q
 ·rename_i _;rw[Nat.sub_zero]at q;obtain⟨_,a,d⟩:=h.get q;refine⟨by omega,?_⟩;have e:t<args.size:=by rw[<-c];omega
  rw[kX]at a;show aO γ v ((args++Array.replicate (n-args.size) undef).getD t undef);rw[l4,Array.getElem?_append_left e,a];exact d
 ·cases q
theorem Sd{γ:aT}{H:ae}{w:World}{e:Env}{a:Act}(m:Rel O base γ H w)(g:dG γ n e a):∀(d:List ResultVar) (l:List Value),d.all (Jh P)=true->lE e H (d.map (Bq P))=some l->
 ∃aU,(d.mapM λr=>(match r with | .tmp t=>pure (a.tmps.getD t undef) | .cell x t=>do loadVar t (<-asAddr (a.tmps.getD x undef)):Sem Value)).run P w=.ok aU w/\bN γ l aU
 | [],l,_,h=>by
   simp only[List.map_nil,lE,aJ]at h;subst h;exact⟨[],by simp,.nil⟩
 | r::d,l,i,h=>by
   simp only[qp,bK]at i;simp only[zQ,lE]at h;split at h
   ·rename_i v b;split at h
    ·rename_i o p;simp only[aJ]at h;subst h;obtain⟨aU,_,q⟩:=Sd m g d o i.2 p;have s:∃c,(match r with | .tmp t=>pure (a.tmps.getD t undef) | .cell x t=>do loadVar t (<-asAddr (a.tmps.getD x undef)):Sem Value).run P w=.ok c w/\aO γ v c:=by
      cases r with
      | tmp t=>exact⟨_,rfl,(g.get t v b).2⟩
      | cell x t=>
        simp only[Bq]at b;have r:known P t=true:=i.1
        cases a:e.get x with
        | none=>rw[a]at b;cases b
        | some u=>
          rw[a]at b;have l:=(g.get x u a).2;have e:(mr (lk P t) (P.cellsOf t) (some u)).run ⟨0,[],none⟩ H=some (v,H):=by
           unfold ft at b;split at b
           ·rename_i f y;cases y
            cases j:H.get f.block with
            | none=>rw[j]at b;cases b
            | some t=>
              rw[j]at b;simp only at b
              cases k:rowOf t with
              | none=>rw[k]at b;cases b
              | some _=>
                rw[k]at b;simp only at b;simp[mr,bf.run,j,k,b,gx]
           ·cases b
          obtain⟨c,n,w,_⟩:=Rh (P:=P) m r l e;refine⟨c,?_,w⟩;cases u<;>first | (exact(bw e).elim) | skip
          rename_i f
          cases f with
          | none=>exact(bw e).elim
          | some f=>
            obtain⟨_,_,_,j⟩:=l.lZ;simp only[j]at n|-;simpa [Instr.loadAt,Instr.sureAddr,asAddr]using n
     obtain⟨c,_,a⟩:=s;refine⟨c::aU,?_,.cons a q⟩;simp_all
    ·cases h
   ·cases h
theorem ab3{γ:aT}{l aU:List Value}(h:bN γ l aU):aO γ (iw l) (if h:aU.toArray.size=1 then aU.toArray[0] else .tuple aU.toArray):=by
 cases h with
 | nil=>exact .tuple .nil
 | cons h t=>
   cases t with
   | nil=>exact h
   | cons a t=>exact .tuple (.cons h (.cons a t))
theorem WI(k:pm.num=none)(m:A0 O P G)(n:eJ O P G K){f:FuncId}{fn:Func}{c:Code}(z:P.funcs[f]? = some fn)(o:fn.body=some c){args:List Value}{hi:Array Value}{γ:aT}{H ab:ae}{w:World}{v:Value}
 (h:wc K pm fuel (ox P G fn) args H=some (v,ab)) (p:Rel O base γ H w) (q:fX G γ) (aI:bN γ args hi.toList):
 Calls P f hi w λdq ay=>∃g aQ,dq=.returned aQ/\aO g v aQ/\Step O base pm γ H w g ab ay:=by
 unfold wc at h;rw[cJ]at h;by_cases j:args.length<=(ox P G fn).kh
 ·simp only[j,decide_true,Bool.not_true,cond_false]at h;simp only[ox,o]at h j;by_cases i:fn.ntmps<=s'/\fn.results.all (Jh P)=true
  ·rw[aL i]at h;refine calls_of_wp z o ?_;have r:=Wm aI j i.1
   have s:∀{f:Env} {e:ae} {l:List Value},lE f e (fn.results.toList.map (Bq P))=some l->∀b d a,dG b fn.ntmps f d->Step O base pm γ H w b e a->some (iw l,e)=some (v,ab)->
    d.defers=[]/\∃u,(results fn d.tmps).run P a=.ok u a/\∃g aQ,Ending.returned u=.returned aQ/\aO g v aQ/\Step O base pm γ H w g ab a:=by
    intro f e l A b d a t x y;simp only[aJ,cp]at y;obtain⟨rfl,rfl⟩:=y;obtain⟨_,B,C⟩:=Sd (P:=P) x.rel t fn.results.toList l (by simpa using i.2) A;refine⟨t.defers,_,?_,b,_,rfl,ab3 C,x⟩;simp only[results,Sem.run_bind];rw[Array.mapM_eq_mapM_toList];simp only[Sem.run_map,Sem.run_pure];exact congrArg (λ(D:Result (List Value))=>Result.andThen (Result.andThen D λc ay=>Result.ok c.toArray ay) λc ay=>Result.ok (if h:c.size=1 then c[0] else Value.tuple c) ay) B
   split at h
   ·rename_i f e E;split at h
    ·rename_i l F;exact N4 k m n c E p r q λb d a t u=>s F b d a t u h
    ·cases h
   ·rename_i f e I;split at h
    ·rename_i l J;exact N4 k m n c I p r q λb d a t u=>s J b d a t u h
    ·cases h
   ·cases h
  ·rw[aw i]at h;simp[eval]at h
 grind
def EU(P:Program)(G:Nat->Bool)(T:Nat->Option bg):Prop:=
 ∀f F,T f=some F->∃a c,P.funcs[f]? = some a/\a.body=some c/\a.name≠ "runtime.NumGoroutine"/\F=ox P G a
theorem xz(a:A0 O P G){T:Nat->Option bg}(b:EU P G T){S:cv->cv}(c:∀K,eJ O P G K->eJ O P G (S K)):∀m,eJ O P G (runK T S fuel m)
 | 0=>λ_ _ _ _ _ _ _ h=>by cases h
 | m+1=>by
   refine c _ ?_;intro pm f _ _ _ _ g h base _ _ _ i j k;simp only at h;split at h
   ·rename_i F l;obtain⟨_,_,d,e,n,rfl⟩:=b f F l;refine .inl ⟨?_,WI g a (xz a b c m) d e h i j k⟩;simp[callFunc,d,e,n]
   ·cases h
end
theorem xA{pm:Perm}{aK:Nat}(a:pm.num=some aK):∀(x:bf) {H ab:ae} {v:Value} {f m:List Nat},x.runT pm H=some (v,ab,f,m)->
 ab.next=H.next/\(∀b,b∉m->ab.get b=H.get b)/\(∀b∈m,pm.may b=true∨b=aK)
 | .ret _,H,ab,v,f,m,h=>by
   simp only[bf.runT,aJ,cp]at h;grind
 | .fail,H,ab,v,f,m,h=>by cases h
 | .get b k,H,ab,v,f,m,h=>by
   simp only[bf.runT]at h;split at h
   ·rename_i x _;split at h
    ·rename_i _ _ _ _ d;simp only[aJ,cp]at h;obtain⟨rfl,rfl,rfl,rfl⟩:=h;exact xA a (k x) d
    ·cases h
   ·cases h
 | .put b x k,H,ab,v,f,m,h=>by
   simp only[bf.runT]at h
   cases e:pm.may b with
   | false=>grind
   | true=>
     rw[e]at h;simp only[cond_true]at h;split at h
     ·rename_i _ _ _ _ g;simp only[aJ,cp]at h;obtain⟨rfl,rfl,rfl,rfl⟩:=h;obtain⟨f,i,_⟩:=xA a k g;refine⟨f,λc b=>?_,λc b=>?_⟩
      ·simp only[hH,not_or]at b;rw[i c b.2,ae.eP,aw b.1]
      grind
     ·cases h
 | .new x k,H,ab,v,f,m,h=>by
   simp only[bf.runT]at h;split at h
   ·rename_i _ _ _ _ j;simp only[aJ,cp]at h;obtain⟨rfl,rfl,rfl,rfl⟩:=h;obtain⟨e,f,_⟩:=xA a (k (pm.pick H)) j;have i:pm.pick H=aK:=by simp[Perm.pick,a]
    refine⟨by rw[e];simp[Perm.make,a,ae.put],λc b=>?_,λc b=>?_⟩
    ·simp only[hH,not_or]at b;rw[f c b.2,Perm.oG,aw b.1]
    grind
   ·cases h
theorem Dz{pm:Perm}{aK:Nat}(a:pm.num=some aK){g:Option Nat}:∀(x:bf) {H ab J:ae} {v:Value} {f m:List Nat},x.runT pm H=some (v,ab,f,m)->(H.get aK=none∨J.get aK=H.get aK)->(∀b∈f,b≠aK->J.get b=H.get b)->(aK∈m->g=some aK)->
 ∃hP,x.run ⟨pm.ah,pm.ok,g⟩ J=some (v,hP)/\hP.next=J.next/\∀b,hP.get b=if b∈m then ab.get b else J.get b
 | .ret _,H,ab,J,v,f,m,h,_,_,_=>by
   simp only[bf.runT,aJ,cp]at h;obtain⟨rfl,rfl,rfl,rfl⟩:=h;exact⟨J,rfl,rfl,λb=>by simp⟩
 | .fail,H,ab,J,v,f,m,h,_,_,_=>by cases h
 | .get b k,H,ab,J,v,f,m,h,c,d,e=>by
   simp only[bf.runT]at h;split at h
   ·rename_i x l;split at h
    ·rename_i _ _ _ _ n;simp only[aJ,cp]at h;obtain⟨rfl,rfl,rfl,rfl⟩:=h;obtain⟨hP,f,m,o⟩:=Dz a (k x) n c (λp q=>d p (.tail _ q)) e;refine⟨hP,?_,m,o⟩;have r:J.get b=H.get b:=by
      by_cases u:b=aK
      ·grind
      ·grind
     simp only[bf.run,r,l,f]
    ·cases h
   ·cases h
 | .put b x k,H,ab,J,v,f,m,h,_,o,p=>by
   simp only[bf.runT]at h
   cases f:pm.may b with
   | false=>grind
   | true=>
     rw[f]at h;simp only[cond_true]at h;split at h
     ·rename_i _ _ s t j;simp only[aJ,cp]at h;obtain⟨rfl,rfl,rfl,rfl⟩:=h;have m:∀c∈s,c≠aK->(J.put b x).get c=(H.put b x).get c:=λc d e=>by
       rw[ae.eP,ae.eP,o c d e]
      have q:(H.put b x).get aK=none∨(J.put b x).get aK=(H.put b x).get aK:=by
       rw[ae.eP,ae.eP];by_cases x:aK=b
       ·grind
       ·grind
      obtain⟨hP,r,u,v⟩:=Dz a k j (J:=J.put b x) q m (λw=>p (.tail _ w));obtain⟨_,y,_⟩:=xA a k j;refine⟨hP,?_,u,λc=>?_⟩
      ·have x:Perm.may ⟨pm.ah,pm.ok,g⟩ b=true:=f;simp only[bf.run,x,cond_true,r]
      ·rw[v c];by_cases d:c∈t
       ·grind
       ·rw[aw d];by_cases e:c=b
        ·subst e;rw[aL (.head _),y c d,ae.eP,ae.eP,aL rfl,aL rfl]
        ·rw[aw (by simp[e,d]),ae.eP,aw e]
     ·cases h
 | .new x k,H,ab,J,v,f,m,h,_,o,p=>by
   simp only[bf.runT]at h;split at h
   ·rename_i _ _ z A i;simp only[aJ,cp]at h;obtain⟨rfl,rfl,rfl,rfl⟩:=h;have e:∀X:ae,pm.pick X=aK:=λX=>by simp[Perm.pick,a]
    have f:∀X:ae,pm.make X x=X.put aK x:=λX=>by simp[Perm.make,a]
    rw[e,f]at i;have m:g=some aK:=p (by grind);subst m;have q:∀c∈z,c≠aK->(J.put aK x).get c=(H.put aK x).get c:=λc b d=>by
     rw[ae.eP,ae.eP,o c b d]
    obtain⟨hP,r,u,v⟩:=Dz a (k aK) i (J:=J.put aK x) (.inr (by rw[ae.eP,ae.eP,aL rfl,aL rfl])) q (λ_=>rfl);obtain⟨_,w,_⟩:=xA a (k aK) i;refine⟨hP,?_,u,λc=>?_⟩
    ·simp only[bf.run,Perm.pick,Perm.make,r]
    ·rw[v c,e];by_cases b:c∈A
     ·grind
     ·rw[aw b];by_cases d:c=aK
      ·subst d;rw[aL (.head _),w c b,ae.eP,ae.eP,aL rfl,aL rfl]
      ·rw[aw (by simp[d,b]),ae.eP,aw d]
   ·cases h
theorem Ss{pm:Perm}{x:bf}{H ab:ae}{v:Value}{f m:List Nat}(h:x.runT pm H=some (v,ab,f,m)):x.run pm H=some (v,ab):=by
 induction x generalizing H f m with
 | ret _=>simp only[bf.runT,aJ,cp]at h;obtain⟨rfl,rfl,_,_⟩:=h;rfl
 | fail=>cases h
 | get _ _ ih=>
   simp only[bf.runT]at h;split at h
   ·rename_i x b;split at h
    ·rename_i c;simp only[aJ,cp]at h;obtain⟨rfl,rfl,_,_⟩:=h;simp only[bf.run,b];exact ih _ c
    ·cases h
   ·cases h
 | put d x _ ih=>
   simp only[bf.runT]at h
   cases a:pm.may d with
   | false=>grind
   | true=>
     rw[a]at h;simp only[cond_true]at h;split at h
     ·rename_i e;simp only[aJ,cp]at h;obtain⟨rfl,rfl,_,_⟩:=h;simp only[bf.run,a,cond_true];exact ih e
     ·cases h
 | new x _ ih=>
   simp only[bf.runT]at h;split at h
   ·rename_i g;simp only[aJ,cp]at h;obtain⟨rfl,rfl,_,_⟩:=h;simp only[bf.run];exact ih _ g
   ·cases h
theorem aaU{pm:Perm}{x:bf}{H ab:ae}{v:Value}{f m:List Nat}(h:x.runT pm H=some (v,ab,f,m)):(∀b,(H.get b).isSome->(ab.get b).isSome)/\(∀b∈m,(ab.get b).isSome)/\∀b∈f,(ab.get b).isSome:=by
 induction x generalizing H f m with
 | ret _=>simp only[bf.runT,aJ,cp]at h;grind
 | fail=>cases h
 | get b _ ih=>
   simp only[bf.runT]at h;grind
 | put b x _ ih=>
   simp only[bf.runT]at h
   cases a:pm.may b with
   | false=>grind
   | true=>
     rw[a]at h;simp only[cond_true]at h;split at h
     ·rename_i d;simp only[aJ,cp]at h;obtain⟨rfl,rfl,rfl,rfl⟩:=h;obtain⟨_,_,_⟩:=ih d;have f:∀c,(H.get c).isSome∨c=b->((H.put b x).get c).isSome:=λc e=>by
       rw[ae.eP];by_cases q:c=b
       ·rw[aL q];rfl
       ·rw[aw q];exact e.resolve_right q
      grind
     ·cases h
 | new x _ ih=>
   simp only[bf.runT]at h;split at h
   ·rename_i g;simp only[aJ,cp]at h;obtain⟨rfl,rfl,rfl,rfl⟩:=h;obtain⟨_,_,_⟩:=ih _ g;have b:∀c,(H.get c).isSome∨c=pm.pick H->((pm.make H x).get c).isSome:=λc a=>by
     rw[Perm.oG];by_cases q:c=pm.pick H
     ·rw[aL q];rfl
     ·rw[aw q];exact a.resolve_right q
    grind
   ·cases h
theorem Rel.congr{O:cy}{a:Nat}{γ:aT}{H J:ae}{w:World}(h:Rel O a γ H w)(a':∀b L,γ b=some L->J.get b=H.get b)(d:H.next<=J.next)(f:∀b,J.next<=b->J.get b=none):Rel O a γ J w:=by
 have g:∀c,gY γ H w c->gY γ J w c/\w.heap[c]? = w.heap[c]?:=λc a=>⟨⟨a.1,λb L e r=>a.2 b L e (by grind)⟩,rfl⟩;refine⟨λb L e=>?_,λb L e=>fK (h.lt b L e) d,f,λb i L j k l _ _ q=>?_,λb L e r=>?_,h.size⟩
 ·obtain⟨x,_,a⟩:=h.bj b L e;exact⟨x,by grind,a.mono (.refl γ) g λ_=>rfl⟩
 ·exact h.inj b i L j k l (by grind) (by grind) q
 ·exact h.low b L e (by grind)
theorem mv{e a:Env}{r:b0}(h:∀t∈r.fN,a.get t=e.get t):a7 a r=a7 e r:=by
 cases r with
 | t n=>exact h n (.head _)
 | c _=>rfl
theorem B9{e a:Env}:∀{l:List b0},(∀t∈l.flatMap b0.fN,a.get t=e.get t)->eO a l=eO e l
 | [],_=>rfl
 | r::l,h=>by
   simp only[List.flatMap_cons,fc]at h;simp only[eO,mv (λt a=>h t (.inl a)),B9 (λt a=>h t (.inr a))]
theorem RJ{e a:Env}:∀{l:List (Nat×Nat×b0)},(∀t∈l.flatMap (λp=>p.2.2.fN),a.get t=e.get t)->kK a l=kK e l
 | [],_=>rfl
 | (_,_,_)::l,h=>by
   simp only[List.flatMap_cons,fc]at h;simp only[kK,mv (λt a=>h t (.inl a)),RJ (λt a=>h t (.inr a))]
theorem uR{e a:Env}{d:Nat}{o:Option b0}(h:∀t∈wZ o,a.get t=e.get t):ed a d o=ed e d o:=by
 cases o with
 | none=>rfl
 | some _=>simp only[ed];rw[mv h]
theorem OH{e b:Env}{o:bh}(h:∀t∈o.fN,b.get t=e.get t):o.J b=o.J e:=by
 cases o<;>simp only[bh.fN,fc]at h<;>simp only[bh.J]<;>first
  | rfl
  | rw[mv h]
  | rw[B9 h]
  | rw[RJ h]
  | rw[mv λt a=>h t (.inl a),mv λt a=>h t (.inr a)]
  | rw[mv λt a=>h t (.inl a),mv λt a=>h t (.inr (.inl a)),mv λt a=>h t (.inr (.inr a))]
  | rw[mv λt a=>h t (.inl a),uR λt a=>h t (.inr (.inl a)),uR λt a=>h t (.inr (.inr a))]
  | skip
 case k2 x d c=>
  have g:∀n,ed b n c=ed e n c:=λn=>uR λt a=>h t (.inr (.inr a));rw[mv λt a=>h t (.inl a),uR λt a=>h t (.inr (.inl a))];simp only[g]
 case ji x d c f=>
  have g:∀n,ed b n d=ed e n d:=λn=>uR λt a=>h t (.inr (.inl a));have i:∀n,ed b n c=ed e n c:=λn=>uR λt a=>h t (.inr (.inr (.inl a)));have j:∀n,ed b n f=ed e n f:=λn=>uR λt a=>h t (.inr (.inr (.inr a)));rw[mv λt a=>h t (.inl a)];grind
theorem acg{e a:Env}{o:aE}(h:∀t∈o.looks,a.get t=e.get t):o.wanted a=o.wanted e:=by
 unfold aE.wanted
 cases b:o.guard with
 | none=>rfl
 | some p=>
   obtain⟨j,_⟩:=p;have:=h j (by simp[aE.looks,b]);grind
theorem Rr{o:aE}{e a:Env}(h:∀t∈o.looks,a.get t=e.get t):∀t∈o.op.fN,a.get t=e.get t:=λt a=>h t (by simp[aE.looks,a])
theorem U4{e a:Env}{o:bh}(h:∀t∈o.fN,a.get t=e.get t){K:cv}{pm:Perm}{H:ae}:o.run K pm a H=o.run K pm e H:=by
 cases o<;>first
  | (simp only[bh.fN]at h;simp only[bh.run,B9 h];done)
  | (simp only[bh.fN,fc]at h;simp only[bh.run,mv λt a=>h t (.inl a),B9 λt a=>h t (.inr a)];done)
  | exact congrArg (λx=>bf.run pm x H) (OH h)
def bitsOf(a:Array Nat)(o:Oper):Nat:=o.after.foldl (λs e=>if Region.binds .any e then s ||| 2^e.on ||| a.getD e.on 0 else s) 0
theorem Vc(a:Array Oper):Region.before a=a.toList.foldl (λa o=>a.push (bitsOf a o)) #[]:=by
 unfold Region.before;rw[<-Array.foldl_toList];rfl
theorem Nv:∀(l:List Oper) (a:Array Nat),(∀k,k<a.size->(l.foldl (λa o=>a.push (bitsOf a o)) a)[k]? = a[k]?)/\
 ∀j o,l[j]? = some o->∃b:Array Nat,b.size=a.size+j/\(∀k,k<b.size->(l.foldl (λa o=>a.push (bitsOf a o)) a)[k]? = b[k]?)/\(l.foldl (λa o=>a.push (bitsOf a o)) a)[a.size+j]? = some (bitsOf b o)
 | [],a=>⟨λ_ _=>rfl,λj o h=>by simp at h⟩
 | x::l,a=>by
   obtain⟨b,c⟩:=Nv l (a.push (bitsOf a x));simp only[xe,Array.size_push]at b c|-;refine⟨λk _=>by grind,λj o _=>?_⟩
   cases j with
   | zero=>
     grind
   | succ j=>
     grind
theorem Nx{b:Array Nat}{i:Nat}:∀(l:List Edge) (s:Nat),(l.foldl (λs e=>if Region.binds .any e then s ||| 2^e.on ||| b.getD e.on 0 else s) s).testBit i=true->
 s.testBit i=true∨∃e∈l,Region.binds .any e=true/\(e.on=i∨(b.getD e.on 0).testBit i=true)
 | [],s,h=>.inl h
 | e::l,s,h=>by
   simp only[xe]at h
   rcases Nx l _ h with h | ⟨_,_,_⟩
   ·by_cases a:Region.binds .any e=true
    ·rw[aL a]at h;simp only[Nat.testBit_or,jG,Nat.testBit_two_pow,cP]at h
     rcases h with(h | h) | h
     ·exact .inl h
     ·exact .inr ⟨e,.head _,a,.inl h⟩
     ·exact .inr ⟨e,.head _,a,.inr h⟩
    ·rw[aw a]at h;exact .inl h
   grind
theorem Vd{a:Array Oper}{i j:Nat}{o:Oper}(c:re a=true)(d:a[j]? = some o)(h:((Region.before a).getD j 0).testBit i=true):
 ∃e∈o.after,Region.binds .any e=true/\(e.on=i∨((Region.before a).getD e.on 0).testBit i=true):=by
 obtain⟨_,f,g,b⟩:=(Nv a.toList #[]).2 j o (by simpa using d);rw[<-Vc]at g b;simp only[List.size_toArray,List.length_nil,Nat.zero_add]at f b;rw[l4,b]at h;simp only[je,bitsOf]at h;rw[<-Array.foldl_toList]at h
 rcases Nx _ _ h with h | ⟨e,m,a,r⟩
 ·simp at h
 ·refine⟨e,by simpa using m,a,r.imp id λr=>?_⟩;have b:e.on<j:=by
   simp only[re,eA]at c;have:=c (o,j) (by rw[I3];simpa using d);simp only[I2,jG,ir,cP]at this;exact(this e (by simpa using m)).resolve_left (by simp[a])
  simp_all
theorem Fb{a:Array Oper}{T:Nat->Prop}(b:re a=true)(d:∀j o,T j->a[j]? = some o->∀e∈o.after,Region.binds .any e=true->T e.on):
 ∀(n j i:Nat) (o:Oper),j<n->a[j]? = some o->(∀e∈o.after,Region.binds .any e=true->T e.on)->((Region.before a).getD j 0).testBit i=true->T i
 | 0,_,_,_,_,_,_,_=>by omega
 | n+1,j,i,o,_,f,g,h=>by
   obtain⟨e,m,c,r⟩:=Vd b f h
   rcases r with rfl | r
   ·exact g e m c
   ·have h:e.on<j:=by
     simp only[re,eA]at b;have:=b (o,j) (by grind);simp only[I2,jG,ir,cP]at this;exact(this e (by simpa using m)).resolve_left (by simp[c])
    have h:=(gT.1 f).1;have f:a[e.on]? = some a[e.on]:=mT (by omega);exact Fb b d n e.on i _ (by omega) f (d e.on _ (g e m c) f) r
section
variable{O:cy}{P:Program}{base:Nat}{pm:Perm}{n:Nat}{G:Nat->Bool}{K:cv}
theorem Step.congr{γ gW:aT}{H ai J:ae}{w h3:World}(h:Step O base pm gW ai h3 γ H w)(a':∀b L,γ b=some L->J.get b=H.get b)(a:H.next<=J.next)(c:∀b,J.next<=b->J.get b=none)
 (av:∀b,b<ai.next->pm.may b=false->J.get b=ai.get b):Step O base pm gW ai h3 γ J w where
 rel:=h.rel.congr a' a c
 ext:=h.ext
 fresh:=h.fresh
 grow:=h.grow
 u:=h.u
 next:=a8 h.next a
 kO:=av
 kp:=λb L e r=>h.kp b L e (by rwa [a' b L (h.ext b L e)]at r)
 known:=h.known
 os:=h.os
 tape:=h.tape
 output:=h.output
theorem Step.Se{γ:aT}{H:ae}{w:World}(h:Rel O base γ H w)(k d:Nat):Step O base pm γ H w γ ⟨H.t,H.next+k⟩ {w with drawn:=d}:=
 (Step.drawn h d).congr (λ_ _ _=>rfl) (gj _ _) (λb a=>h.new b (a8 (gj _ _) a)) (λ_ _ _=>rfl)
end
structure Ref(K:cv)(ah:Perm)(ops:List aE)(b:Nat)(ct:List Bool)(e:Env)(H:ae)(cA:Env)(Ut:ae)(Sa:List Rec)(E:Nat->Env)(ca:Nat->ae)(V:Nat->Value)(F M:Nat->List Nat):Prop where
 OE:E 0=e
 aP:ca 0=H
 OF:E ops.length=cA
 Pf:ca ops.length=Ut
 len:Sa.length=ops.length
 step:∀p o,ops[p]? = some o->(ca p).get (b+p)=none/\o.runT K ⟨ah.ah,ah.ok,some (b+p)⟩ (ct.getD p false) (E p) (ca p)=some (V p,ca (p+1),F p,M p)/\E (p+1)=putDst (E p) o.dst (V p)/\Sa[p]? = some ⟨F p,M p,ca p,V p,o.again (E p)⟩
theorem OP{K:cv}{ah:Perm}:∀{c:List aE} {b:Nat} {ct:List Bool} {e cA:Env} {H Ut:ae} {a:List Rec},jV K ah c b ct e H=some (cA,Ut,a)->∃E d V F M,Ref K ah c b ct e H cA Ut a E d V F M
 | [],b,ct,e,cA,H,Ut,a,h=>by
   simp only[jV,aJ,cp]at h;obtain⟨rfl,rfl,rfl⟩:=h;exact⟨λ_=>e,λ_=>H,λ_=>aR,λ_=>[],λ_=>[],rfl,rfl,rfl,rfl,rfl,λp _ h=>by simp at h⟩
 | _::c,b,ct,e,cA,H,Ut,a,h=>by
   simp only[jV]at h;split at h
   ·rename_i v _ f m g i;split at h
    ·rename_i _ _ _ j;simp only[aJ,cp]at h;obtain⟨rfl,rfl,rfl⟩:=h;obtain⟨E,d,V,F,M,r⟩:=OP j;refine⟨λ| 0=>e | p+1=>E p,λ| 0=>H | p+1=>d p,λ| 0=>v | p+1=>V p,λ| 0=>f | p+1=>F p,λ| 0=>m | p+1=>M p,rfl,rfl,r.OF,r.Pf,by simp[r.len],λp k b=>?_⟩
     cases p with
     | zero=>
       simp only[hI,aJ]at b;subst b;refine⟨g,?_,r.OE,rfl⟩;have:ct.getD 0 false=ct.headD false:=by cases ct<;>rfl
       simp only[Nat.add_zero,this,r.aP];exact i
     | succ p=>
       obtain⟨_,_,_,_⟩:=r.step p k (by simpa using b);grind
    ·cases h
   ·cases h
theorem IF{du:Nat->Nat->Bool}{a j:Nat}{y:aE}:∀(xs:List (Nat×aE)) (i:Nat) (L:List (Nat×Nat)),zD du a j y xs i=some L->
 ∀p x,xs[p]? = some x->i+p<j->du x.1 a=false->∃l,w5 (i+p) j x.2 y=some l/\∀z∈l,z∈L
 | [],i,L,_,p,x,b,_,_=>by simp at b
 | e::xs,i,L,h,p,x,b,_,c=>by
   simp only[zD,hE]at h;have f:i<j:=by omega
   simp only[f,decide_true,cond_true]at h
   cases d:du e.1 a with
   | true=>
     rw[d]at h;simp only[cond_true]at h
     cases p with
     | zero=>
       grind
     | succ p=>
       have:=IF xs (i+1) L h p x (by simpa using b) (by omega) c;grind
   | false=>
     rw[d]at h;simp only[cond_false]at h;split at h
     ·rename_i l _;split at h
      ·rename_i r g;simp only[aJ]at h;subst h
       cases p with
       | zero=>
         grind
       | succ p=>
         obtain⟨_,_,_⟩:=IF xs (i+1) r g p x (by simpa using b) (by omega) c;grind
      ·cases h
     ·cases h
theorem RH{du:Nat->Nat->Bool}{all:List (Nat×aE)}:∀(a:List (Nat×aE)) (j:Nat) (L:List (Nat×Nat)),zC du all a j=some L->
 ∀q y,a[q]? = some y->∀p x,all[p]? = some x->p<j+q->du x.1 y.1=false->∃l,w5 p (j+q) x.2 y.2=some l/\∀z∈l,z∈L
 | [],j,L,_,q,y,b,_,_,_,_,_=>by simp at b
 | _::a,j,L,h,q,y,b,p,x,c,_,d=>by
   simp only[zC]at h;split at h
   ·rename_i l e;split at h
    ·rename_i r f;simp only[aJ]at h;subst h
     cases q with
     | zero=>
       simp only[hI,aJ]at b;subst b;obtain⟨_,_,_⟩:=IF all 0 l e p x c (by omega) d;grind
     | succ q=>
       obtain⟨_,_,_⟩:=RH a (j+1) r f q y (by simpa using b) p x c (by omega) d;grind
    ·cases h
   ·cases h
def bf.quiet:bf->Prop
 | .ret _ | .fail=>True
 | .get _ k=>∀x,(k x).quiet
 | .put ..=>False
 | .new _ k=>∀b,(k b).quiet
def bf.blind:bf->Prop
 | .ret _ | .fail=>True
 | .get ..=>False
 | .put _ _ k=>k.blind
 | .new _ k=>∀b,(k b).blind
theorem I0{pm:Perm}{aK:Nat}(a:pm.num=some aK):∀(x:bf) {H ab:ae} {v:Value} {f m:List Nat},x.quiet->x.runT pm H=some (v,ab,f,m)->∀b∈m,b=aK
 | .ret _,H,ab,v,f,m,_,h=>by
   simp only[bf.runT,aJ,cp]at h;grind
 | .fail,H,ab,v,f,m,_,h=>by cases h
 | .get b k,H,ab,v,f,m,c,h=>by
   simp only[bf.runT]at h;split at h
   ·rename_i x _;split at h
    ·rename_i _ _ _ _ d;simp only[aJ,cp]at h;obtain⟨rfl,rfl,rfl,rfl⟩:=h;exact I0 a (k x) (c x) d
    ·cases h
   ·cases h
 | .put b x _,H,ab,v,f,m,c,_=>c.elim
 | .new x k,H,ab,v,f,m,c,h=>by
   simp only[bf.runT]at h;split at h
   ·rename_i _ _ _ _ e;simp only[aJ,cp]at h;obtain⟨rfl,rfl,rfl,rfl⟩:=h;intro f b
    rcases hH.1 b with rfl | b
    ·simp[Perm.pick,a]
    ·exact I0 a (k (pm.pick H)) (c _) e f b
   ·cases h
theorem Fh{pm:Perm}:∀(x:bf) {H ab:ae} {v:Value} {f m:List Nat},x.blind->x.runT pm H=some (v,ab,f,m)->f=[]
 | .ret _,H,ab,v,f,m,_,h=>by
   simp only[bf.runT,aJ,cp]at h;grind
 | .fail,H,ab,v,f,m,_,h=>by cases h
 | .get _ _,H,ab,v,f,m,a,_=>a.elim
 | .put b x k,H,ab,v,f,m,a,h=>by
   simp only[bf.runT]at h
   cases c:pm.may b with
   | false=>grind
   | true=>
     rw[c]at h;simp only[cond_true]at h;split at h
     ·rename_i _ _ _ _ d;simp only[aJ,cp]at h;obtain⟨rfl,rfl,rfl,rfl⟩:=h;exact Fh k a d
     ·cases h
 | .new x k,H,ab,v,f,m,a,h=>by
   simp only[bf.runT]at h;split at h
   ·rename_i _ _ _ _ e;simp only[aJ,cp]at h;obtain⟨rfl,rfl,rfl,rfl⟩:=h;exact Fh (k (pm.pick H)) (a _) e
   ·cases h
theorem aan{c:Bool}{x y:bf}(a:x.quiet)(a:y.quiet):(bif c then x else y).quiet:=by grind
theorem Vn{c:Bool}{x y:bf}(a:x.blind)(a:y.blind):(bif c then x else y).blind:=by grind
theorem ZX{o:bh}{e:Env}(h:o.md=false):(o.J e).quiet:=by
 cases o<;>first | (simp[bh.md]at h;done) | skip
 all_goals simp only[bh.J,dC,gx,mr,nG,fz,oE,jU,rj,ur,sU,mu,pU,rh,rf,ri,sT]
 all_goals repeat' (first | trivial | (intro _;dsimp only) | (intro _) | (refine aan ?_ ?_) | split)
theorem ZV{o:bh}{e:Env}(h:o.md=false)(cH:o.rd=false):(o.J e).blind:=by
 cases o<;>first | (simp[bh.md]at h;done) | (simp[bh.rd]at cH;done) | skip
 all_goals simp only[bh.J,dC,gx,oE,rj,mu,pU,rh,rf,ri,sT]
 all_goals repeat' (first | trivial | (intro _;dsimp only) | (intro _) | (refine Vn ?_ ?_) | split)
structure Mo(x y:aE):Prop where
 dst:∀d,x.dst=some d->d∉y.looks/\y.dst≠some d
 Wj:∀d,y.dst=some d->d∉x.looks
 eD:x.op.eD=false
 N1:y.op.eD=true->x.op.md=false
theorem IE{i j:Nat}{x y:aE}{l:List (Nat×Nat)}(h:w5 i j x y=some l):Mo x y/\(((x.op.md||x.op.eD||x.op.ho)&&(y.op.rd||y.op.md||y.op.eD))=true->(i,j)∈l)/\(((y.op.md||y.op.eD||y.op.ho)&&(x.op.rd||x.op.md||x.op.eD))=true->(j,i)∈l):=by
 unfold w5 at h
 cases a:(Bi x y&&!x.op.eD&&!(y.op.eD&&x.op.md)) with
 | false=>grind
 | true=>
   rw[a]at h;simp only[cond_true,aJ]at h;subst h;simp only[bK,ir,Bool.and_eq_false_iff]at a;obtain⟨⟨c,d⟩,_⟩:=a;refine⟨⟨λe b=>?_,λe b=>?_,d,λq=>?_⟩,λq=>?_,λq=>?_⟩
   ·simp only[Bi,b,bK,ir,bne_iff_ne]at c;grind
   ·simp only[Bi,b,bK,ir]at c;grind
   ·grind
   ·rw[q];simp
   ·rw[q];simp
section
variable{O:cy}{P:Program}{base:Nat}{pm:Perm}{n:Nat}{G:Nat->Bool}{K:cv}
theorem vB.known{γ:aT}{H ab:ae}{w:World}{o:Oper}{a:Act}{r:Value}(h:vB O P base pm γ H w o a r ab){C:Prop}(c:∀b aQ ay,aO b r aQ->Step O base pm γ H w b ab ay->C):C:=by
 have:=h (λ_ _=>C) (λ_ _ _=>False) c;unfold Oper.wp at this;generalize (execOp a.eval o).run P w=u at this
 cases u with
 | halt x ay=>cases x<;>simp only[Oper.upon]at this
 | ok x ay=>
   cases x<;>simp only[Oper.upon]at this
   case value=>exact this
   case skip=>exact this
   case defer=>exact this
   case enter=>
    obtain⟨e,ay,_,r,_⟩:=this [];cases e<;>simp only at r
    ·exact r
    ·obtain⟨_,_,r⟩:=r;exact r.elim
   case row d f=>
    obtain⟨_,ay,r,_⟩:=this (Frame.ofRow P d f .normal) [];exact r
end
def bf.still:bf->Prop
 | .ret _ | .fail=>True
 | .get _ k=>∀x,(k x).still
 | .put ..=>False
 | .new ..=>False
theorem Tf{pm:Perm}{x:bf}{H ab:ae}{v:Value}{f m:List Nat}(a:x.still)(h:x.runT pm H=some (v,ab,f,m)):m=[]/\ab=H:=by
 induction x generalizing H f m with
 | ret _=>simp only[bf.runT,aJ,cp]at h;grind
 | fail=>cases h
 | get _ _ ih=>
   simp only[bf.runT]at h;split at h
   ·rename_i y _;split at h
    ·rename_i b;simp only[aJ,cp]at h;obtain⟨rfl,rfl,_,rfl⟩:=h;exact ih y (a y) b
    ·cases h
   ·cases h
 | put _ x _ ih=>exact a.elim
 | new x _ ih=>exact a.elim
theorem Te{c:Bool}{x y:bf}(a:x.still)(a:y.still):(bif c then x else y).still:=by grind
theorem Rs{o:bh}{e:Env}(h:o.md=false)(cH:o.ho=false):(o.J e).still:=by
 cases o<;>first | (simp[bh.md]at h;done) | (simp[bh.ho]at cH;done) | skip
 case conv c _=>
  cases c
  case Ag=>simp[bh.ho]at cH
  all_goals
   simp only[bh.J,dC,nG,fz]
   repeat' (first | trivial | (intro _;dsimp only) | (intro _) | (refine Te ?_ ?_) | split)
 all_goals simp only[bh.J,dC,gx,mr,oE,jU,rj,ur,sU,mu,rh,rf,ri,sT]
 all_goals repeat' (first | trivial | (intro _;dsimp only) | (intro _) | (refine Te ?_ ?_) | split)
theorem Ov{l r:List Nat}(h:c6 l r=true):∀b∈l,b∉r:=by
 intro b _;simp only[c6,eA]at h;grind
theorem NY{a b:Value}(h:yL a b=true):a=b:=by
 unfold yL at h;split at h
 all_goals first | (simp only[bK,Nat.beq_eq,o0,cP]at h) | skip
 all_goals first | rfl | (cases h;done) | skip
 case h_1=>subst h;rfl
 case h_2=>obtain⟨rfl,h⟩:=h;rw[oF,o0]at h;subst h;rfl
 case h_3 a b=>cases a;cases b;simp only at h;subst h;rfl
 case h_5=>obtain⟨rfl,rfl⟩:=h;rfl
 case h_6=>obtain⟨rfl,rfl⟩:=h;rfl
 case h_7=>obtain⟨⟨rfl,rfl⟩,rfl,rfl⟩:=h;rfl
 grind
theorem BH:∀{l r:List Value},vV l r=true->l=r
 | [],[],_=>rfl
 | a::_,_::_,h=>by
   simp only[vV,bK]at h;rw[NY h.1,BH h.2]
 | [],_::_,h=>by cases h
 | _::_,[],h=>by cases h
theorem JS{a b:Value}(h:ni a b=true):a=b:=by
 unfold ni at h;split at h
 ·rename_i _ _;rw[n2.1 (BH h)]
 ·exact NY h
structure eV(P:Program)(G:Nat->Bool)(n:Nat)(ops:Array Oper)(K:cv)(ah:Perm) where
 N:Nat
 aK:Nat
 B:Nat->Nat
 eY:Nat->Oper
 ct:Nat->Bool
 du:Nat->Nat->Prop
 E:Nat->Env
 ca:Nat->ae
 V:Nat->Value
 F:Nat->List Nat
 M:Nat->List Nat
 run:∀p,p<N->(e3 P G n ops (eY p)).runT K ⟨ah.ah,ah.ok,some (aK+p)⟩ (ct p) (E p) (ca p)=some (V p,ca (p+1),F p,M p)
 put:∀p,p<N->E (p+1)=putDst (E p) (e3 P G n ops (eY p)).dst (V p)
 own:∀p,p<N->(ca p).get (aK+p)=none
 apart:∀p q,p<q->q<N->¬du p q->Mo (e3 P G n ops (eY p)) (e3 P G n ops (eY q))
 wr:∀p q,p<q->q<N->¬du p q->((e3 P G n ops (eY p)).op.md||(e3 P G n ops (eY p)).op.eD||(e3 P G n ops (eY p)).op.ho)=true->
  ((e3 P G n ops (eY q)).op.rd||(e3 P G n ops (eY q)).op.md||(e3 P G n ops (eY q)).op.eD)=true->
  (∀b∈M p,b∉M q)/\((∀b∈M p,b∉F q)∨∀i,i<=N->∃u,(e3 P G n ops (eY q)).again (E q) (ca i)=some u/\ni u (V q)=true)
 J2:∀p q,p<q->q<N->¬du p q->((e3 P G n ops (eY q)).op.md||(e3 P G n ops (eY q)).op.eD||(e3 P G n ops (eY q)).op.ho)=true->
  ((e3 P G n ops (eY p)).op.rd||(e3 P G n ops (eY p)).op.md||(e3 P G n ops (eY p)).op.eD)=true->
  (∀b∈M q,b∉M p)/\((∀b∈M q,b∉F p)∨∀i,i<=N->∃u,(e3 P G n ops (eY p)).again (E p) (ca i)=some u/\ni u (V p)=true)
 fixed:∀p,p<N->ct p=true->∀q,q<N->q≠p->Au (e3 P G n ops (eY q))=true->(q<p->du q p)/\(p<q->du p q)
 made:∀q,q<N->∀p,p<N->aK+p∈F q->p≠q->p<q/\aK+p∈M p
namespace eV
variable{O:cy}{P:Program}{base:Nat}{pm:Perm}{n:Nat}{G:Nat->Bool}{K:cv}{ops:Array Oper}
abbrev D(s:eV P G n ops K pm)(p:Nat):aE:=e3 P G n ops (s.eY p)
def iY(s:eV P G n ops K pm)(p:Nat):Prop:=(s.D p).op.eD=true/\(s.D p).wanted (s.E p)=some true
def nv(s:eV P G n ops K pm)(p b:Nat):Prop:=b∈s.M p∨(s.iY p/\(s.ct p=true∨(s.ca p).next<=b))
theorem cases(s:eV P G n ops K pm){p:Nat}(e:p<s.N):
 ((s.D p).wanted (s.E p)=some false/\s.V p=aR/\s.ca (p+1)=s.ca p/\s.F p=[]/\s.M p=[])∨
 ((s.D p).wanted (s.E p)=some true/\(s.D p).op.eD=false/\((s.D p).op.J (s.E p)).runT ⟨pm.ah,pm.ok,some (s.aK+p)⟩ (s.ca p)=some (s.V p,s.ca (p+1),s.F p,s.M p))∨
 (s.iY p/\s.F p=[]/\((s.ct p=true/\s.M p=[]/\(s.D p).op.run K ⟨pm.ah,pm.ok,none⟩ (s.E p) (s.ca p)=some (s.V p,s.ca (p+1)))∨
  (s.ct p=false/\s.M p=(s.D p).op.uB ⟨pm.ah,pm.ok,some (s.aK+p)⟩ (s.E p)/\(s.D p).op.run K ⟨(s.ca p).next,s.M p,none⟩ (s.E p) (s.ca p)=some (s.V p,s.ca (p+1))))):=by
 have h:=s.run p e;unfold aE.runT at h;split at h
 ·rename_i b;unfold bh.runT at h
  cases a:(s.D p).op.eD with
  | false=>
    grind
  | true=>
    rw[a]at h;simp only[cond_true]at h
    cases c:s.ct p with
    | true=>
      rw[c]at h;simp only[cond_true]at h;split at h
      ·rename_i _ _ f;simp only[Option.some.injEq,Prod.mk.injEq]at h;obtain⟨rfl,rfl,d,g⟩:=h;exact .inr (.inr ⟨⟨a,b⟩,d.symm,.inl ⟨rfl,g.symm,f⟩⟩)
      ·cases h
    | false=>
      rw[c]at h;simp only[cond_false]at h;split at h
      ·rename_i _ _ i;simp only[Option.some.injEq,Prod.mk.injEq]at h;obtain⟨rfl,rfl,g,d⟩:=h;exact .inr (.inr ⟨⟨a,b⟩,g.symm,.inr ⟨rfl,d.symm,d▸i⟩⟩)
      ·cases h
 ·grind
 ·cases h
theorem ok(s:eV P G n ops K pm){p:Nat}(b:p<s.N):p9 P G n ops (s.eY p)=true:=by
 by_cases a:p9 P G n ops (s.eY p)=true
 ·exact a
 ·have h:=s.run p b;rw[e3,if_neg a]at h;simp[aE.runT,aE.wanted,bh.runT,bh.eD,bh.J,bf.runT]at h
theorem Mv(s:eV P G n ops K pm){p:Nat}(a:p<s.N):(s.D p).op=gH P G (s.eY p)/\(s.D p).dst=(s.eY p).dst:=by
 unfold D;rw[e3,if_pos (s.ok a)];grind
structure Fact(s:eV P G n ops K pm)(p:Nat):Prop where
 next:(s.ca p).next<=(s.ca (p+1)).next
 same:¬s.iY p->(s.ca (p+1)).next=(s.ca p).next
 u:∀b,¬s.nv p b->(s.ca (p+1)).get b=(s.ca p).get b
 made:¬s.iY p->∀b,b∈s.M p∨b∈s.F p->((s.ca (p+1)).get b).isSome
 new:∀b,(s.ca (p+1)).next<=b->(s.ca (p+1)).get b=none
theorem Pa{ah:Perm}{e:Env}{o:bh}{b:Nat}(h:b∈o.uB ah e):ah.may b=true:=by
 have a:∀l:List Value,b∈dj ah l->ah.may b=true:=by
  intro l
  induction l with
  | nil=>intro h;cases h
  | cons _ l ih=>
    intro h;unfold dj at h;grind
 cases o<;>simp only[bh.uB]at h<;>first
  | (cases h;done)
  | grind
theorem chain(s:eV P G n ops K pm)(u:eJ O P G K)(B:pm.num=none){γ:aT}{H:ae}{w:World}{a:Act}(b:s.aK=H.next)(C:pm.ah<=s.aK)(t:s.ca 0=⟨H.t,H.next+s.N⟩)(k:Rel O base γ H w)(v:dG γ n (s.E 0) a)(l:fX G γ):
 ∀p,p<=s.N->(∃d b5 ay,dG d n (s.E p) b5/\Step O base pm γ H w d (s.ca p) ay/\s.aK+s.N<=(s.ca p).next/\∀q,q<s.N->∀L,d (s.aK+q)=some L->q<p)/\∀q,q<p->s.Fact q
 | 0,_=>⟨⟨γ,a,{w with drawn:=w.drawn},v,t▸Step.Se k s.N _,by grind,λq _ L h=>by have:=k.lt _ _ h;omega⟩,λq h=>by omega⟩
 | p+1,f=>by
   obtain⟨⟨d,b5,ay,i,e,x,D⟩,_⟩:=chain s u B b C t k v l p (by omega);have f:p<s.N:=f;have y:=s.ok f;have m:=s.Mv f;have o:∀t,(s.D p).dst=some t->t<n:=λt v=>CJ y t (m.2▸v)
   suffices t:(∃c r g,dG c n (s.E (p+1)) r/\Step O base pm γ H w c (s.ca (p+1)) g/\s.aK+s.N<=(s.ca (p+1)).next/\∀q,q<s.N->∀L,c (s.aK+q)=some L->q<p+1)/\s.Fact p by
    grind
   rcases s.cases f with⟨b7,cH,cD,dS,gf⟩ | ⟨b7,cH,cD⟩ | ⟨b7,cH,cD⟩
   ·have a:¬s.iY p:=λh=>by rw[h.2]at b7;cases b7
    refine⟨⟨d,b5.put (s.D p).dst undef,ay,?_,cD▸e,cD▸x,λq a L h=>Nat.lt_succ_of_lt (D q a L h)⟩,?_⟩
    ·rw[s.put p f,cH];exact i.IU o
    ·exact⟨by grind,λ_=>by rw[cD],λa _=>by rw[cD],λ_ a b=>by grind,λa b=>by rw[cD]at b|-;exact e.rel.new a b⟩
   ·have t:¬s.iY p:=λh=>by rw[h.1]at cH;cases cH
    have n:=xA (pm:=⟨pm.ah,pm.ok,some (s.aK+p)⟩) rfl _ cD;have w:=aaU cD;have z:=Ss cD;rw[m.1]at z;have E:Perm.fo ⟨pm.ah,pm.ok,some (s.aK+p)⟩ d (s.ca p):=by
     intro a A;cases A;refine⟨by omega,?_,?_⟩
     ·cases q:d (s.aK+p) with
      | none=>rfl
      | some L=>grind
     ·simp only[Perm.may,cJ];grind
    obtain⟨_,t,g,c,_,_,v,j⟩:=CR e.rel E i (l.mono e.ext) (s.eY p) z;refine⟨⟨c,b5.put (s.D p).dst t,g,?_,e.D0 j (λa A=>by grind),by grind,λq _ L F=>?_⟩,?_⟩
    ·rw[s.put p f];exact(i.mono j.ext).put o v
    ·cases p:d (s.aK+q) with
     | some _=>grind
     | none=>
       rcases j.known _ L F p with h | h
       ·omega
       grind
    ·exact⟨by grind,λ_=>n.1,λa b=>n.2.1 a λh=>b (.inl h),λ_ a b=>b.elim (w.2.1 a) (w.2.2 a),λa b=>j.rel.new a b⟩
   ·have z:∀j:Perm,j.num=none->(∀a,a<(s.ca p).next->j.may a=true->pm.may a=true)->(s.D p).op.run K j (s.E p) (s.ca p)=some (s.V p,s.ca (p+1))->(∀a,¬s.nv p a->a<(s.ca p).next/\j.may a=false)->
     (∃c r g,dG c n (s.E (p+1)) r/\Step O base pm γ H w c (s.ca (p+1)) g/\s.aK+s.N<=(s.ca (p+1)).next/\∀q,q<s.N->∀L,c (s.aK+q)=some L->q<p+1)/\s.Fact p:=by
     intro j r t j A;rw[m.1]at j;have:=GB u e.rel r i (l.mono e.ext) (s.eY p) (HT y) j;refine this.known λc j g l h=>?_;refine⟨⟨c,b5.put (s.D p).dst j,g,?_,e.trans (h.weaken e.rel t λa _=>by grind) k,Nat.le_trans x h.next,λq _ L E=>?_⟩,?_⟩
     ·rw[s.put p f];exact(i.mono h.ext).put o l
     ·cases n:d (s.aK+q) with
      | some _=>grind
      | none=>
        rcases h.known _ L E n with c | c
        ·omega
        grind
     ·exact⟨h.next,λn=>(n b7).elim,λa b=>let ⟨x,y⟩:=A a b;h.kO a x y,λn=>(n b7).elim,λa b=>h.rel.new a b⟩
    rcases cD with⟨dS,gf,uD⟩ | ⟨dS,gf,uD⟩
    ·exact z ⟨pm.ah,pm.ok,none⟩ rfl (λa _ h=>h) uD λa b=>(b (.inr ⟨b7,.inl dS⟩)).elim
    ·refine z ⟨(s.ca p).next,s.M p,none⟩ rfl (λa b h=>?_) uD λa b=>?_
     ·simp only[Perm.may,cJ,decide_eq_false (Nat.not_le.2 b),cond_false]at h;have h:a∈s.M p:=by simpa using h
      rw[gf]at h;have:=Pa h;exact this
     ·have c:a<(s.ca p).next:=by
       apply Nat.lt_of_not_le;intro h;exact b (.inr ⟨b7,.inr h⟩)
      refine⟨c,?_⟩;simp only[Perm.may,cJ,decide_eq_false (Nat.not_le.2 c),cond_false];have:a∉s.M p:=λh=>b (.inl h);grind
end eV
namespace eV
variable{O:cy}{P:Program}{base:Nat}{pm:Perm}{n:Nat}{G:Nat->Bool}{K:cv}{ops:Array Oper}
theorem QO(s:eV P G n ops K pm)(a:∀q,q<s.N->s.Fact q)(i:Nat):∀d,i+d<=s.N->(s.ca i).next<=(s.ca (i+d)).next
 | 0,_=>Nat.le_refl _
 | d+1,_=>Nat.le_trans (QO s a i d (by omega)) (a (i+d) (by omega)).next
theorem zh(s:eV P G n ops K pm)(a:∀q,q<s.N->s.Fact q){b:Nat}(i:Nat):∀d,i+d<=s.N->(∀k,i<=k->k<i+d->¬s.nv k b)->(s.ca (i+d)).get b=(s.ca i).get b
 | 0,_,_=>rfl
 | d+1,_,c=>((a (i+d) (by omega)).u b (c _ (by omega) (by omega))).trans (zh s a i d (by omega) λk a _=>c k a (by omega))
theorem HO(s:eV P G n ops K pm)(a:∀q,q<s.N->s.Fact q)(i:Nat):∀d,i+d<=s.N->(∀k,i<=k->k<i+d->¬s.iY k)->(s.ca (i+d)).next=(s.ca i).next
 | 0,_,_=>rfl
 | d+1,_,b=>((a (i+d) (by omega)).same (b _ (by omega) (by omega))).trans (HO s a i d (by omega) λk a _=>b k a (by omega))
theorem GH(s:eV P G n ops K pm){t:Nat}(i:Nat):∀d,i+d<=s.N->(∀k,i<=k->k<i+d->(s.D k).dst≠some t)->(s.E (i+d)).get t=(s.E i).get t
 | 0,_,_=>rfl
 | d+1,_,a=>by
   rw[show i+(d+1)=i+d+1 by omega,s.put (i+d) (by omega)];have b:=a (i+d) (by omega) (by omega);have:=GH s (t:=t) i d (by omega) λk b _=>a k b (by omega)
   cases c:(s.D (i+d)).dst with
   | none=>exact this
   | some _=>
     simp only[putDst,b6.lS];grind
theorem wM(s:eV P G n ops K pm){p b:Nat}(c:p<s.N)(d:¬s.iY p)(h:b∈s.M p):((s.D p).op.md=true∨(s.D p).op.ho=true)/\((s.D p).op.md=false->b=s.aK+p):=by
 rcases s.cases c with⟨_,_,_,_,gf⟩ | ⟨_,cH,cD⟩ | ⟨b7,_⟩
 ·rw[gf]at h;cases h
 ·refine⟨?_,λa=>?_⟩
  ·cases a:(s.D p).op.md with
   | true=>exact .inl rfl
   | false=>cases b:(s.D p).op.ho with
     | true=>exact .inr rfl
     | false=>
       have:=(Tf (Rs (e:=s.E p) a b) cD).1
       rw[this]at h;cases h
  ·exact I0 (pm:=⟨pm.ah,pm.ok,some (s.aK+p)⟩) rfl _ (ZX a) cD b h
 grind
theorem O3(s:eV P G n ops K pm){p b:Nat}(a:p<s.N)(h:b∈s.F p):((s.D p).op.rd=true∨(s.D p).op.md=true)/\¬s.iY p:=by
 rcases s.cases a with⟨_,_,_,dS,_⟩ | ⟨_,cH,cD⟩ | ⟨_,cH,_⟩
 ·rw[dS]at h;cases h
 ·refine⟨?_,λa=>by rw[a.1]at cH;cases cH⟩
  cases b:(s.D p).op.md with
  | true=>exact .inr rfl
  | false=>cases c:(s.D p).op.rd with
    | true=>exact .inl rfl
    | false=>
      have:=Fh _ (ZV (e:=s.E p) b c) cD
      rw[this]at h;cases h
 grind
def ES(s:eV P G n ops K pm)(q:Nat):Prop:=∀i,i<=s.N->∃u,(s.D q).again (s.E q) (s.ca i)=some u/\ni u (s.V q)=true
theorem below(s:eV P G n ops K pm)(a:∀q,q<s.N->s.Fact q){p q b:Nat}(d:p<q)(d:q<s.N)(d:¬s.iY p)(h:b∈s.M p∨b∈s.F p):b<(s.ca q).next:=by
 have c:=(a p (by omega)).made d b h;have d:=s.QO a (p+1) (q-(p+1)) (by omega);rw[show p+1+(q-(p+1))=q by omega]at d;apply Nat.lt_of_lt_of_le _ d;apply Nat.lt_of_not_le;intro d;rw[(a p (by omega)).new b d]at c;cases c
theorem ta(s:eV P G n ops K pm){p q:Nat}(a:p<q)(b:q<s.N)(c:¬s.du p q):¬s.iY p:=λh=>by
 have:=(s.apart p q a b c).eD;rw[h.1]at this;cases this
theorem Tv{o:aE}(h:o.op.rd=true∨o.op.md=true∨o.op.ho=true):Au o=true:=by
 unfold Au;grind
theorem N3(s:eV P G n ops K pm)(i:∀q,q<s.N->s.Fact q){p q b:Nat}(c:p<q)(a:q<s.N)(d:¬s.du p q)(b7:s.nv p b)(cH:s.nv q b):False:=by
 have g:p<s.N:=by omega
 have f:=s.ta c a d;have b7:b∈s.M p:=b7.resolve_right λh=>f h.1;obtain⟨j,_⟩:=s.wM g f b7
 rcases cH with cH | ⟨cH,e⟩
 ·by_cases b:((s.D q).op.rd||(s.D q).op.md||(s.D q).op.eD)=true
  ·have:=(s.wr p q c a d (by rcases j with h | h<;>rw[h]<;>simp) b).1;grind
  ·simp only[Bool.or_eq_true,not_or,Bool.not_eq_true]at b;have k:¬s.iY q:=λh=>by rw[h.1]at b;cases b.2
   obtain⟨j,l⟩:=s.wM a k cH;have k:=l b.1.2;have m:(s.D q).op.ho=true:=j.resolve_left λh=>by grind
   cases n:(s.D p).op.md with
   | true=>
     have:=(s.J2 p q c a d (by rw[m];simp) (by rw[n];simp)).1;grind
   | false=>
     grind
 ·rcases e with e | e
  ·exact d ((s.fixed q a e p g (by omega) (Tv (by grind))).1 c)
  ·have:=s.below i c a f (.inl b7);omega
theorem N2(s:eV P G n ops K pm){p q b:Nat}(c:p<q)(a:q<s.N)(d:¬s.du p q)(b7:s.nv p b)(cH:b∈s.F q):s.ES q:=by
 have f:p<s.N:=by omega
 have e:=s.ta c a d;have b7:b∈s.M p:=b7.resolve_right λh=>e h.1;obtain⟨_,_⟩:=s.wM f e b7;obtain⟨_,_⟩:=s.O3 a cH;rcases(s.wr p q c a d (by grind) (by grind)).2 with h | h
 ·grind
 ·exact h
theorem VG(s:eV P G n ops K pm)(g:∀q,q<s.N->s.Fact q){p q b:Nat}(c:p<q)(a:q<s.N)(d:¬s.du p q)(b7:b∈s.F p)(cH:s.nv q b):s.ES p:=by
 have e:p<s.N:=by omega
 have i:=s.ta c a d;obtain⟨_,_⟩:=s.O3 e b7
 rcases cH with cH | ⟨cH,b⟩
 ·have h:((s.D q).op.md||(s.D q).op.eD||(s.D q).op.ho)=true:=by
   by_cases f:s.iY q
   ·rw[f.1];simp
   ·obtain⟨_,_⟩:=s.wM a f cH;grind
  rcases(s.J2 p q c a d h (by grind)).2 with h | h
  ·grind
  ·exact h
 ·rcases b with b | b
  ·exact(d ((s.fixed q a b p e (by omega) (Tv (by grind))).1 c)).elim
  ·have:=s.below g c a i (.inr b7);omega
def R(s:eV P G n ops K pm)(T:Nat->Prop)(b:Nat):Prop:=∀p,p<s.N->b=s.aK+p->T p/\b∈s.M p
structure Inv(O:cy)(base:Nat)(s:eV P G n ops K pm)(T:Nat->Prop)(gW:aT)(ai:ae)(h3:World)(e:Env)(J:ae)(γ:aT)(a:Act)(w:World):Prop where
 nI:dG γ n e a
 step:Step O base pm gW ai h3 γ J w
 jB:s.aK+s.N<=J.next
 fN:∀t i,i<=s.N->(∀k,k<s.N->(s.D k).dst=some t->(k<i↔T k))->e.get t=(s.E i).get t
 fi:∀b i,i<=s.N->s.R T b->(∀k,k<s.N->s.nv k b->(k<i↔T k))->J.get b=(s.ca i).get b
 next:∀i,i<=s.N->(∀k,k<s.N->s.iY k->(k<i↔T k))->J.next=(s.ca i).next
 known:∀p,p<s.N->∀L,γ (s.aK+p)=some L->T p/\s.aK+p∈s.M p
structure Ready(s:eV P G n ops K pm)(T:Nat->Prop)(j:Nat):Prop where
 lt:j<s.N
 kh:¬T j
 closed:∀p q,p<s.N->q<s.N->s.du p q->T q->T p
 pre:∀p,p<s.N->s.du p j->T p
section
variable{s:eV P G n ops K pm}{T:Nat->Prop}{gW γ:aT}{ai J:ae}{h3 w:World}{e:Env}{a:Act}{j:Nat}
theorem Ready.late(h:s.Ready T j){k:Nat}(av:k<s.N)(a:T k):¬s.du j k:=λb=>h.kh (h.closed j k h.lt av b a)
theorem Ready.early(h:s.Ready T j){k:Nat}(av:k<s.N)(a:¬T k):¬s.du k j:=λb=>a (h.pre k av b)
theorem Inv.looks(b:Inv O base s T gW ai h3 e J γ a w)(h:s.Ready T j):∀t∈(s.D j).looks,e.get t=(s.E j).get t:=by
 intro t c;refine b.fN t j (Nat.le_of_lt h.lt) λk b d=>⟨λe=>?_,λa=>?_⟩
 ·apply Classical.byContradiction;intro a;exact((s.apart k j e h.lt (h.early b a)).dst t d).1 c
 ·apply Classical.byContradiction;intro e;have:j≠k:=λq=>h.kh (q▸a);exact(s.apart j k (by omega) b (h.late b a)).Wj t d c
theorem Inv.Ta(f:Inv O base s T gW ai h3 e J γ a w)(h:s.Ready T j):∀t i,i<=s.N->(∀k,k<s.N->(s.D k).dst=some t->(k<i↔(T k∨k=j)))->(putDst e (s.D j).dst (s.V j)).get t=(s.E i).get t:=by
 intro t i g c;by_cases a:(s.D j).dst=some t
 ·have b:j<i:=(c j h.lt a).2 (.inr rfl);have d:(s.E i).get t=(s.E (j+1)).get t:=by
   have:=s.GH (t:=t) (j+1) (i-(j+1)) (by omega) λk d _ e=>by
    have b:k<s.N:=by omega
    have i:T k:=((c k b e).1 (by omega)).resolve_right (by omega);exact((s.apart j k (by omega) b (h.late b i)).dst t a).2 e
   rwa [show j+1+(i-(j+1))=i by omega]at this
  rw[d,s.put j h.lt];simp only[a,putDst,b6.lS,if_true]
 ·have a:e.get t=(s.E i).get t:=f.fN t i g λk _ _=>by
   grind
  rw[<-a]
  cases b:(s.D j).dst with
  | none=>rfl
  | some _=>
    simp only[putDst,b6.lS];grind
theorem Inv.other(o:∀q,q<s.N->s.Fact q)(A:s.aK=ai.next)(c:Inv O base s T gW ai h3 e J γ a w)(h:s.Ready T j)(u:¬s.iY j){hP:ae}{d:aT}{b5:Act}{ay:World}{m:Option Nat}
 (r:hP.next=J.next) (v:∀b,hP.get b=if b∈s.M j then(s.ca (j+1)).get b else J.get b) (x:dG d n (putDst e (s.D j).dst (s.V j)) b5) (t:Step O base ⟨pm.ah,pm.ok,m⟩ γ J w d hP ay) (B:∀b,m=some b->b=s.aK+j/\b∈s.M j):
 Inv O base s (λk=>T k∨k=j) gW ai h3 (putDst e (s.D j).dst (s.V j)) hP d b5 ay where
 nI:=x
 step:=c.step.D0 t λb e=>.inl (by grind)
 jB:=by rw[r];exact c.jB
 fN:=c.Ta h
 fi:=λb i f y g=>by
  rw[v b];by_cases a:b∈s.M j
  ·rw[if_pos a];have m:j<i:=(g j h.lt (.inl a)).2 (.inr rfl);have:=s.zh o (b:=b) (j+1) (i-(j+1)) (by omega) λk _ _ e=>by
    have b:k<s.N:=by omega
    have j:T k:=((g k b e).1 (by omega)).resolve_right (by omega);exact s.N3 o (by omega) b (h.late b j) (.inl a) e
   grind
  ·rw[if_neg a];have m:¬s.nv j b:=λq=>q.elim a λq=>u q.1;refine c.fi b i f (λp l e=>?_) λk _ _=>?_
   ·obtain⟨h,b⟩:=y p l e;exact⟨h.resolve_right λq=>a (q▸b),b⟩
   grind
 next:=λi f g=>by
  rw[r];refine c.next i f λk _ _=>?_;grind
 known:=λp l L z=>by
  cases a:γ (s.aK+p) with
  | some b=>
    obtain⟨_,_⟩:=c.known p l b a;grind
  | none=>
    rcases t.known _ L z a with q | q
    ·have:=c.jB;omega
    grind
theorem Inv.call(g:∀q,q<s.N->s.Fact q)(r:Inv O base s T gW ai h3 e J γ a w)(h:s.Ready T j)(l:s.iY j)(u:s.aK+s.N<=(s.ca j).next)(v:Step O base pm gW ai h3 γ (s.ca j) w){o:aT}{b5:Act}{ay:World}
 (x:dG o n (putDst e (s.D j).dst (s.V j)) b5) (p:Step O base pm γ (s.ca j) w o (s.ca (j+1)) ay) (D:pm.num=none):
 Inv O base s (λk=>T k∨k=j) gW ai h3 (putDst e (s.D j).dst (s.V j)) (s.ca (j+1)) o b5 ay:=by
 have t:∀k,k<s.N->j<k->¬T k:=λk c y a=>s.ta y c (h.late c a) l;have z:∀k b,k<j->¬T k->s.nv k b->b=s.aK+k/\b∈s.M k:=λk b f a d=>by
  have e:k<s.N:=by have:=h.lt;omega
  have i:=h.early e a;have m:=s.ta f h.lt i;have n:b∈s.M k:=d.resolve_right λq=>m q.1;have w:=(s.apart k j f h.lt i).N1 l.1;exact⟨(s.wM e m n).2 w,n⟩
 exact{
  nI:=x
  step:=v.D0 (m:=pm.num) p λb e=>by grind
  jB:=Nat.le_trans u p.next
  fN:=r.Ta h
  fi:=λb i w A c=>by
   by_cases E:i<=j+1
   ·have:=s.zh g (b:=b) i (j+1-i) (by have:=h.lt;omega) λk _ _ d=>by
     have e:k<s.N:=by have:=h.lt;omega
     have a:¬(T k∨k=j):=λq=>by have:=(c k e d).2 q;omega
     have f:k<j:=by
      have:k≠j:=λq=>a (.inr q);omega
     obtain⟨m,_⟩:=z k b f (λq=>a (.inl q)) d;exact a (A k e m).1
    grind
   ·have:=s.zh g (b:=b) (j+1) (i-(j+1)) (by omega) λk _ _ d=>by
     have b:k<s.N:=by omega
     have a:T k:=((c k b d).1 (by omega)).resolve_right (by omega);exact t k b (by omega) a
    grind
  next:=λi w c=>by
   have e:j<i:=(c j h.lt l).2 (.inr rfl);have:=s.HO g (j+1) (i-(j+1)) (by omega) λk _ _ d=>by
    have b:k<s.N:=by omega
    have a:T k:=((c k b d).1 (by omega)).resolve_right (by omega);exact t k b (by omega) a
   grind
  known:=λn B L C=>by
   cases b:γ (s.aK+n) with
   | some e=>
     obtain⟨_,_⟩:=r.known n B e b;grind
   | none=>
     rcases p.known _ L C b with q | q
     ·omega
     grind}
theorem Inv.swap(t:∀q,q<s.N->s.Fact q)(aP:∀b,(s.ca 0).next<=b->(s.ca 0).get b=none)(f:Inv O base s T gW ai h3 e J γ a w)(h:s.Ready T j)(l:s.iY j)(i:s.aK=ai.next):
 Step O base pm gW ai h3 γ (s.ca j) w/\s.aK+s.N<=(s.ca j).next:=by
 have m:∀k,k<s.N->T k->k<j:=λk c a=>by
  apply Classical.byContradiction;intro d;have:k≠j:=λq=>h.kh (q▸a);exact s.ta (by omega) c (h.late c a) l
 have u:∀k b,k<j->¬T k->s.nv k b->b=s.aK+k:=λk b d a g=>by
  have b:k<s.N:=by have:=h.lt;omega
  have e:=h.early b a;have n:=s.ta d h.lt e;exact(s.wM b n (g.resolve_right λq=>n q.1)).2 ((s.apart k j d h.lt e).N1 l.1)
 have o:∀b,s.R T b->J.get b=(s.ca j).get b:=λb l=>f.fi b j (Nat.le_of_lt h.lt) l λk c g=>⟨λd=>by
  apply Classical.byContradiction;intro a;exact a (l k c (u k b d a g)).1,m k c⟩
 have l:J.next=(s.ca j).next:=f.next j (Nat.le_of_lt h.lt) λk c g=>⟨λd=>by
  apply Classical.byContradiction;intro a;exact s.ta d h.lt (h.early c a) g,m k c⟩
 refine⟨f.step.congr (λb L v=>(o b λp r e=>?_).symm) (Nat.le_of_eq l) (λb i=>?_) λb x y=>?_,l▸f.jB⟩
 ·subst e;exact f.known p r L v
 ·cases j with
  | zero=>exact aP b i
  | succ j=>exact(t j (by have:=h.lt;omega)).new b i
 ·rw[<-o b λp r e=>by omega];exact f.step.kO b x y
end
end eV
theorem OR(S T:Nat->Prop):∀N,(∀k dy,k<dy->dy<N->S k->S dy->T dy->T k)->∃i,i<=N/\∀k,k<N->S k->(k<i↔T k)
 | 0,_=>⟨0,Nat.le_refl _,λk _=>by omega⟩
 | N+1,h=>by
   obtain⟨i,_,_⟩:=OR S T N λk dy a _=>h k dy a (by omega);by_cases a:S N/\T N
   ·refine⟨N+1,Nat.le_refl _,λk a _=>⟨λ_=>?_,λ_=>a⟩⟩;grind
   ·refine⟨i,by omega,λk _ _=>?_⟩;grind
theorem YA{pm:Perm}{J:ae}{a:Bool}{m:Nat}{x:Option Value}{v:Value}(h:ft J a m x=some v):(mr a m x).run pm J=some (v,J):=by
 unfold ft at h;split at h
 ·rename_i _;split at h
  ·rename_i _ b;split at h
   ·rename_i _ c;simp only[mr,bf.run,b,c,h,gx]
   ·cases h
  ·cases h
 ·cases h
theorem Yz{J H:ae}{b:Bool}{m:Nat}{a:Addr}(h:J.get a.block=H.get a.block):ft J b m (some (.pointer (some a)))=ft H b m (some (.pointer (some a))):=by
 simp only[ft,h]
namespace eV
variable{O:cy}{P:Program}{base:Nat}{pm:Perm}{n:Nat}{G:Nat->Bool}{K:cv}{ops:Array Oper}
variable{s:eV P G n ops K pm}{T:Nat->Prop}{gW γ:aT}{ai J:ae}{h3 w:World}{e:Env}{a:Act}{j:Nat}
theorem Inv.same(n:∀q,q<s.N->s.Fact q)(aP:∀b,s.aK<=b->(s.ca 0).get b=none)(p:Inv O base s T gW ai h3 e J γ a w)(h:s.Ready T j)(r:(s.D j).wanted (s.E j)=some true)(t:(s.D j).op.eD=false)
 (u:((s.D j).op.J (s.E j)).runT ⟨pm.ah,pm.ok,some (s.aK+j)⟩ (s.ca j)=some (s.V j,s.ca (j+1),s.F j,s.M j)) (v:Option Nat) (z:s.aK+j∈s.M j->v=some (s.aK+j)):
 ∃hP,((s.D j).op.J (s.E j)).run ⟨pm.ah,pm.ok,v⟩ J=some (s.V j,hP)/\hP.next=J.next/\∀b,hP.get b=if b∈s.M j then(s.ca (j+1)).get b else J.get b:=by
 by_cases c:s.ES j
 ·obtain⟨A,d,_⟩:=c 0 (Nat.zero_le _);unfold aE.again at d;rw[r]at d;split at d
  ·rename_i g m x _ f;have L:=Tf (Rs (e:=s.E j) (o:=(s.D j).op) (by rw[f];rfl) (by rw[f];rfl)) u;have B:∀i,(s.D j).again (s.E j) (s.ca i)=ft (s.ca i) g m (a7 (s.E j) x):=λi=>by
    unfold aE.again;rw[r,f]
   have l:∀i,i<=s.N->ft (s.ca i) g m (a7 (s.E j) x)=some (s.V j):=λi e=>by
    obtain⟨A,a,b⟩:=c i e;rw[B]at a;rw[a,JS b]
   have C:ft J g m (a7 (s.E j) x)=some (s.V j):=by
    have a:=l 0 (Nat.zero_le _)
    cases o:a7 (s.E j) x with
    | none=>rw[o]at a;cases a
    | some D=>
      rw[o]at a l;cases D<;>try (cases a;done)
      rename_i y
      cases y with
      | none=>cases a
      | some b=>
        have M:b.block<s.aK:=by
         apply Nat.lt_of_not_le;intro h;simp only[ft,aP _ h]at a;cases a
        obtain⟨i,e,E⟩:=OR (λk=>s.nv k b.block) T s.N λk j F w G H I=>by
         apply Classical.byContradiction;intro J;have K:¬s.du k j:=λq=>J (h.closed k j (by omega) w q I);exact s.N3 n F w K G H
        rw[Yz (p.fi b.block i e (λy _ q=>by omega) E)];exact l i e
   refine⟨J,?_,rfl,λb=>by grind⟩;rw[f];exact YA C
  ·cases d
 ·have B:¬s.iY j:=λq=>by rw[q.1]at t;cases t
  refine Dz (pm:=⟨pm.ah,pm.ok,some (s.aK+j)⟩) rfl _ u (.inl (s.own j h.lt)) (λb d _=>?_) z;refine p.fi b j (Nat.le_of_lt h.lt) (λo i w=>?_) λA e k=>⟨λl=>?_,λa=>?_⟩
  ·subst w;obtain⟨q,b⟩:=s.made j h.lt o i d (by omega);refine⟨?_,b⟩;apply Classical.byContradiction;intro a;exact c (s.N2 q h.lt (h.early i a) (.inl b) d)
  ·apply Classical.byContradiction;intro a;exact c (s.N2 l h.lt (h.early e a) k d)
  ·apply Classical.byContradiction;intro l;have:A≠j:=λq=>h.kh (q▸a);exact c (s.VG n (by omega) e (h.late e a) d k)
theorem Inv.oper(i:∀q,q<s.N->s.Fact q)(p:s.aK=ai.next)(M:pm.ah<=s.aK)(aP:∀b,s.aK<=b->(s.ca 0).get b=none)(N:s.aK<=(s.ca 0).next)(B:eJ O P G K)(C:pm.num=none)(D:fX G gW)
 (c:Inv O base s T gW ai h3 e J γ a w) (h:s.Ready T j) {g:Act->World->Prop} {Q:Exit->Act->World->Prop}
 (r:∀E hP l b5 ay,Inv O base s (λk=>T k∨k=j) gW ai h3 E hP l b5 ay->g b5 ay):
 if Region.wanted (s.eY j) (yielded ops a.tmps) then(s.eY j).wp P a w g Q∨((s.eY j).asks P a w/\LetsOut Q) else g (a.put (s.eY j).dst undef) w:=by
 have u:=c.looks h;have o:=s.ok h.lt;have d:=s.Mv h.lt;have v:∀t,(s.D j).dst=some t->t<n:=λt f=>CJ o t (d.2▸f);have x:(s.D j).wanted e=(s.D j).wanted (s.E j):=acg u;have y:=D.mono c.step.ext
 rcases s.cases h.lt with⟨b7,cH,cD,dS,gf⟩ | ⟨b7,cH,cD⟩ | ⟨b7,cH,cD⟩
 ·rw[Ax c.nI o (x.trans b7)];have a:¬s.iY j:=λq=>by rw[q.2]at b7;cases b7
  refine r _ J γ _ w (c.other i p h a (hP:=J) (m:=none) rfl (λb=>by rw[gf];simp) ?_ (Step.refl c.step.rel) λb q=>by cases q);rw[cH,d.2];exact c.nI.IU λt f=>v t (d.2▸f)
 ·rw[Ax c.nI o (x.trans b7),if_pos rfl];have n:¬s.iY j:=λq=>by rw[q.1]at cH;cases cH
  by_cases k:s.aK+j∈s.M j
  all_goals
   obtain⟨a,e⟩:∃a:Option Nat,(s.aK+j∈s.M j->a=some (s.aK+j))/\∀b,a=some b->b=s.aK+j/\b∈s.M j:=by
    first
     | exact⟨some (s.aK+j),λ_=>rfl,λb q=>by cases q;exact⟨rfl,k⟩⟩
     | exact⟨none,λq=>(k q).elim,λb q=>by cases q⟩
   obtain⟨hP,m,w,F⟩:=c.same i aP h b7 cH cD a e.1
   rw[<-OH (Rr u),d.1]at m
   have G:Perm.fo ⟨pm.ah,pm.ok,a⟩ γ J:=by
    intro b q;obtain⟨rfl,_⟩:=e.2 b q;have:=c.jB;have:=h.lt;refine⟨by omega,?_,?_⟩
    ·cases b:γ (s.aK+j) with
     | none=>rfl
     | some L=>exact(h.kh (c.known j h.lt L b).1).elim
    ·simp only[Perm.may,cJ];rw[decide_eq_true (show pm.ah<=s.aK+j by omega)];rfl
   refine .inl ((CR c.step.rel G c.nI y (s.eY j) m).done g Q λl _ ay H z=>?_)
   refine r _ hP l _ ay (c.other i p h n w F ?_ z e.2)
   rw[d.2]
   exact(c.nI.mono z.ext).put (λt f=>v t (d.2▸f)) H
 ·rw[Ax c.nI o (x.trans b7.2),if_pos rfl];obtain⟨m,F⟩:=c.swap i (λb n=>aP b (by omega)) h b7 p;have q:∀k:Perm,k.num=none->(∀b,b<(s.ca j).next->k.may b=true->pm.may b=true)->(s.D j).op.run K k (s.E j) (s.ca j)=some (s.V j,s.ca (j+1))->(s.eY j).wp P a w g Q:=by
   intro k a G w;rw[<-U4 (Rr u),d.1]at w;refine GB B m.rel a c.nI y (s.eY j) (HT o) w g Q λl _ ay I A=>?_
   have J:=A.weaken m.rel G λb e=>by rw[a]at e;cases e
   refine r _ _ l _ ay (c.call i h b7 F m ?_ J C);rw[d.2];exact(c.nI.mono A.ext).put (λt f=>v t (d.2▸f)) I
  rcases cD with⟨dS,gf,uD⟩ | ⟨dS,gf,uD⟩
  ·exact .inl (q ⟨pm.ah,pm.ok,none⟩ rfl (λb _ h=>h) uD)
  ·refine .inl (q ⟨(s.ca j).next,s.M j,none⟩ rfl (λb n a=>?_) uD);simp only[Perm.may,cJ,decide_eq_false (Nat.not_le.2 n),cond_false]at a;have a:b∈s.M j:=by simpa using a
   rw[gf]at a;have:=Pa a;exact this
end eV
def mH:List Bool->Nat
 | []=>0
 | true::l=>mH l
 | false::l=>mH l+1
theorem QQ:∀{l:List Bool} {i:Nat},l[i]? = some false->mH (l.set i true)+1=mH l
 | [],i,h=>by simp at h
 | b::l,0,h=>by
   simp only[hI,aJ]at h;subst h;rfl
 | b::l,i+1,h=>by
   have:=QQ (l:=l) (i:=i) (by simpa using h);cases b<;>simp only[List.set_cons_succ,mH]<;>omega
theorem QR:∀{l:List Bool} {i:Nat},mH l=0->l[i]? = some false->False
 | [],i,_,h=>by simp at h
 | b::l,0,a,h=>by
   simp only[hI,aJ]at h;subst h;simp[mH]at a
 | b::l,i+1,a,h=>by
   cases b
   ·simp[mH]at a
   ·exact QR (l:=l) (i:=i) (by simpa [mH]using a) (by simpa using h)
theorem QP:∀N,mH (List.replicate N false)=N
 | 0=>rfl
 | N+1=>by simp[List.replicate_succ,mH,QP N]
theorem OG{a:Array Oper}(b:re a=true){j:Nat}{o:Oper}(c:a[j]? = some o){e:Edge}(a:e∈o.after)(a:Region.binds .any e=true):e.on<j:=by
 simp only[re,eA]at b;have:=b (o,j) (by rw[I3];simpa using c);simp only[I2,jG,ir,cP]at this;grind
theorem W6{an:List aE}{a:List Nat}{x:Nat×aE}(h:x∈b8 an a):an[x.1]? = some x.2/\x.1∈a:=by
 unfold b8 at h;grind
theorem W7{an:List aE}{a:List Nat}(h:a.Nodup):(b8 an a).Pairwise λx y=>x.1≠y.1:=by
 unfold b8;grind
theorem OY{du:Nat->Nat->Bool}{all:List (Nat×aE)}:∀(a:List (Nat×aE)) (j p:Nat) (y:Nat×aE),a[p]? = some y->(wg du all a j).getD p false=true->wh du y.1 (j+p) all 0=true
 | [],j,p,y,h,_=>by simp at h
 | _::a,j,0,y,h,b=>by
   simp only[hI,aJ]at h;subst h;simpa [wg]using b
 | _::a,j,p+1,y,h,b=>by
   have:=OY (du:=du) (all:=all) a (j+1) p y (by simpa using h) (by simpa [wg]using b);grind
theorem OZ{du:Nat->Nat->Bool}{a j:Nat}:∀(xs:List (Nat×aE)) (i q:Nat) (x:Nat×aE),xs[q]? = some x->wh du a j xs i=true->i+q≠j->Au x.2=true->(i+q<j->du x.1 a=true)/\(j<i+q->du a x.1=true)
 | [],i,q,x,h,_,_,_=>by simp at h
 | _::xs,i,0,x,h,b,_,c=>by
   simp only[hI,aJ]at h;subst h;simp only[wh,bK,jG,Nat.beq_eq,ir,c,hE]at b;grind
 | _::xs,i,q+1,x,h,a,_,b=>by
   simp only[wh,bK]at a;have:=OZ xs (i+1) q x (by simpa using h) a.2 (by omega) b;grind
theorem Qq{l:List Rec}{aK:Nat}:∀(a:List Rec) (i q:Nat) (r:Rec),a[q]? = some r->bZ l aK a i=true->∀p,p<l.length->aK+p∈r.sW->p≠i+q->p<i+q/\∃x,l[p]? = some x/\aK+p∈x.oQ
 | [],i,q,r,h,_,_,_,_,_=>by simp at h
 | _::a,i,0,r,h,b,p,_,c,_=>by
   simp only[hI,aJ]at h;subst h;simp only[bZ,bK,eA]at b;have:=b.1 (aK+p) c;simp only[jG,hE,cJ,dc,cP,bK]at this;grind
 | _::a,i,q+1,r,h,b,p,c,d,_=>by
   simp only[bZ,bK]at b;have:=Qq a (i+1) q r (by simpa using h) b.2 p c d (by omega);grind
theorem SP{a:ae->Option Value}{v:Value}{H:ae}(h:tB a v H=true):∃u,a H=some u/\ni u v=true:=by
 unfold tB at h;grind
end Go.Dam
