/- An abstract memory, and that the program does there what it does. -/
import GoSem.Core.Program
import GoSem.Core.View
import GoSem.Core.Utf8
import GoSem.Core.Region
import GoSem.Op.String
import GoSem.Op.Equal
import Derived.WalkKit
import Derived.Laws.Cells
import Derived.Laws.Rows
import Derived.Laws.StructEq
import Derived.Laws.BytesString
import Derived.Calls
import Derived.Orders
namespace Go.Dam
abbrev ax:=@Option.some.injEq
abbrev bT:=@Prod.mk.injEq
abbrev aY:=@Nat.le_trans
abbrev b3:=@Bool.and_eq_true
abbrev bg:=@Nat.le_refl
abbrev aC:=@if_neg
abbrev aT:=@if_pos
abbrev df:=@decide_eq_true_eq
abbrev cV:=@Nat.lt_of_le_of_lt
abbrev e':=@Array.getElem?_eq_some_iff
abbrev eB:=@List.mem_of_getElem?
abbrev eu:=@List.getElem?_eq_getElem
abbrev lW:=@Classical.byContradiction
abbrev e8:=@Nat.mul_le_mul_right
abbrev fX:=@Nat.pow_le_pow_right
abbrev hR:=@List.getElem?_append_right
abbrev eC:=@Nat.lt_of_lt_of_le
abbrev gr:=@List.getElem?_eq_none
abbrev hi:=@List.getElem?_append_left
abbrev eD:=@List.all_eq_true
abbrev je:=@List.getElem?_eq_some_iff
abbrev e9:=@Nat.le_add_right
abbrev il:=@List.getD_eq_getElem?_getD
abbrev dW:=@Nat.mul_comm
abbrev gK:=@Nat.mul_le_mul
abbrev kZ:=@List.getElem?_take_of_lt
abbrev kh:=@Array.getElem?_eq_getElem
abbrev im:=@Rat.mul_nonneg
abbrev iq:=@Bool.not_eq_true'
abbrev hj:=@Nat.two_pow_pos
abbrev ki:=@List.getElem?_drop
abbrev kj:=@Bool.false_eq_true
abbrev fH:=@Nat.pow_add
abbrev pD:=@Rat.not_lt
abbrev ir:=@Bool.or_eq_true
abbrev hk:=@List.mem_cons
abbrev oq:=@Rat.intCast_natCast
abbrev mZ:=@List.take_of_length_le
abbrev hz:=@Nat.not_lt_zero
abbrev kk:=@Nat.div_le_self
abbrev lX:=@Nat.mul_le_mul_left
abbrev u7:=@Option.isSome_iff_exists
abbrev sD:=@Array.getElem?_setIfInBounds_ne
abbrev sE:=@Rat.le_refl
abbrev sF:=@Rat.mul_le_mul_of_nonneg_left
abbrev k0:=@Nat.mod_eq_of_lt
abbrev qP:=@of_decide_eq_true
abbrev iu:=@Rat.le_of_lt
abbrev sG:=@Option.map_eq_some_iff
abbrev m':=@Nat.pos_of_ne_zero
abbrev jC:=@Nat.mul_assoc
abbrev ot:=@List.length_append
abbrev CI:=@Nat.add_mul_div_left
abbrev lY:=@List.mem_singleton
abbrev fI:=@List.getElem?_cons_zero
abbrev dH:=@Nat.pow_succ
abbrev jD:=@Array.getD_eq_getD_getElem?
abbrev fJ:=@Option.bind_some
abbrev iv:=@Array.getElem?_toList
abbrev gu:=@List.length_cons
abbrev gL:=@Option.map_some
abbrev iw:=@List.getElem?_map
abbrev jf:=@Option.getD_some
abbrev jE:=@Array.length_toList
abbrev jF:=@Option.some.inj
abbrev ou:=@List.getElem?_cons_succ
abbrev ix:=@decide_eq_true
abbrev hS:=@Nat.succ_mul
abbrev kl:=@List.cons_append
abbrev ov:=@Nat.pow_lt_pow_iff_right
abbrev pE:=@Classical.choose_spec
abbrev lZ:=@Option.bind_eq_bind
abbrev l0:=@decide_eq_false
abbrev k1:=@List.mem_map
abbrev k2:=@Array.toList_inj
abbrev ow:=@Rat.mul_zero
abbrev k3:=@Option.pure_def
abbrev VX:=@List.mem_range
abbrev na:=@Rat.add_zero
abbrev nb:=@List.ext_getElem?
abbrev ox:=@Nat.div_lt_of_lt_mul
abbrev sH:=@List.mem_of_mem_take
abbrev k4:=@List.length_take
abbrev sI:=@Nat.mul_lt_mul_of_lt_of_lt
abbrev pF:=@List.getElem?_range
abbrev l1:=@Nat.add_assoc
abbrev nc:=@List.all_cons
abbrev oy:=@Int.natAbs_mul
abbrev sJ:=@Nat.le_mul_of_pos_right
abbrev u9:=@Rat.mul_eq_zero
abbrev l2:=@List.mem_append
abbrev qQ:=@List.length_pos_iff
abbrev pG:=@List.length_map
abbrev qR:=@Array.getElem?_push
abbrev sK:=@Nat.le_mul_of_pos_left
abbrev nd:=@Nat.lt_succ_self
abbrev qK:=@Rat.lt_irrefl
abbrev uT:=@Int.natAbs_ediv_le_natAbs
abbrev pA:=@Nat.mul_ne_zero
abbrev pB:=@Nat.min_eq_left
abbrev sw:=@List.append_assoc
abbrev sx:=@Rat.mul_comm
abbrev mX:=@Nat.gcd_comm
abbrev uU:=@List.getElem?_replicate
abbrev qL:=@Nat.div_eq_of_lt
abbrev Cy:=@List.eq_nil_of_length_eq_zero
abbrev uV:=@Rat.normalize_eq_mkRat
abbrev uW:=@Nat.div_div_eq_div_mul
abbrev uX:=@List.getElem?_set_self
abbrev mY:=@Nat.pow_mul
abbrev x0:=@Nat.mul_lt_mul_of_pos_right
abbrev uY:=@List.take_append_drop
abbrev sy:=@List.foldl_cons
abbrev lV:=@beq_iff_eq
abbrev kY:=@Nat.mod_lt
abbrev x1:=@List.length_range
abbrev VW:=@Bool.eq_false_iff
abbrev x2:=@Array.getElem?_append_left
abbrev sz:=@List.getElem?_set_ne
abbrev sA:=@Nat.one_le_pow
abbrev Cz:=@Nat.succ_le_succ
abbrev om:=@Nat.add_mul
abbrev x3:=@List.eq_of_mem_replicate
abbrev x4:=@Rat.intCast_mul
abbrev uZ:=@Nat.eq_zero_or_pos
abbrev qM:=@Nat.div_add_mod
abbrev u0:=@List.map_cons
abbrev sB:=@List.length_set
abbrev CA:=@Array.all_eq_true_iff_forall_mem
abbrev pC:=@Nat.mul_pos
abbrev CB:=@List.mk_mem_zipIdx_iff_getElem?
abbrev u1:=@Int.toNat_natCast
abbrev CC:=@Rat.mul_le_mul_of_nonneg_right
abbrev CD:=@Nat.le_of_lt
abbrev x5:=@List.getElem?_toArray
abbrev CE:=@Int.mul_le_mul_of_nonneg_right
abbrev CF:=@Array.getElem?_modify
abbrev u2:=@Rat.normalize_eq
abbrev V5:=@List.take_length
abbrev x6:=@List.length_drop
abbrev x7:=@List.getElem_mem
abbrev x8:=@List.mem_of_mem_drop
abbrev CG:=@List.getElem?_of_mem
abbrev U8:=@Array.size_replicate
abbrev u3:=@UInt8.toNat_inj
abbrev qN:=@Nat.pow_pos
abbrev x9:=@Nat.pow_le_pow_left
abbrev qO:=@Nat.mul_add
abbrev oo:=@Nat.le_succ
abbrev u4:=@List.nil_append
abbrev u5:=@List.getElem_of_mem
abbrev R5:=@List.drop_succ_cons
abbrev u6:=@Int.natCast_mul
abbrev CH:=@Int.fdiv_eq_ediv_of_nonneg
abbrev sC:=@Nat.lt_or_ge
open Go
inductive bG(α:Type) where
 | ag
 | an (l:bG α) (v:Option α) (r:bG α)
namespace bG
variable{α:Type}
def get:bG α->Nat->Option α
 | .ag,_=>none
 | .an l v r,k=>bif Nat.beq k 0 then v else bif Nat.beq (k%2) 1 then l.get (k/2) else r.get (k/2-1)
def one(x:α):Nat->Nat->bG α
 | 0,_=>.ag
 | n+1,k=>bif Nat.beq k 0 then .an .ag (some x) .ag else bif Nat.beq (k%2) 1 then .an (one x n (k/2)) none .ag else .an .ag none (one x n (k/2-1))
def set(x:α):bG α->Nat->bG α
 | .ag,k=>one x (k+1) k
 | .an l v r,k=>bif Nat.beq k 0 then .an l (some x) r else bif Nat.beq (k%2) 1 then .an (l.set x (k/2)) v r else .an l v (r.set x (k/2-1))
end bG
inductive wc where
 | nat (n:Nat)
 | gY (q:Rat)
inductive cz where
 | n (k:Nat)
 | t (e:TypeId)
def cz.val:cz->Nat
 | .n k=>k
 | .t _=>0
inductive bk where
 | cells (cs:List Value) (bZ:cz)
 | ro (cs:List Value)
 | map (es:List (Value×Value×Nat)) (clock:Nat)
 | iter (s:ByteArray) (pos:Nat)
 | cr (o:wc)
 | dead
 | bytes (e:TypeId) (Ug:List UInt8)
structure ad where
 t:bG bk
 next:Nat
def ad.get(H:ad)(b:Nat):Option bk:=H.t.get b
def ad.put(H:ad)(b:Nat)(x:bk):ad:=⟨H.t.set x b,H.next⟩
def ad.new(H:ad)(x:bk):ad:=⟨H.t.set x H.next,H.next+1⟩
abbrev Env:=bG Value
inductive aQ where
 | ret (v:Value)
 | fail
 | get (b:Nat) (k:bk->aQ)
 | put (b:Nat) (x:bk) (k:aQ)
 | new (x:bk) (k:Nat->aQ)
structure Perm where
 ah:Nat
 ok:List Nat
 num:Option Nat
def Perm.may(p:Perm)(b:Nat):Bool:=bif Nat.ble p.ah b then true else p.ok.contains b
def Perm.pick(p:Perm)(H:ad):Nat:=match p.num with
 | none=>H.next
 | some b=>b
def Perm.make(p:Perm)(H:ad)(x:bk):ad:=match p.num with
 | none=>H.new x
 | some b=>H.put b x
abbrev bY:=Perm->FuncId->List Value->ad->Option (Value×ad)
def aQ.run(ah:Perm):aQ->ad->Option (Value×ad)
 | .ret v,H=>some (v,H)
 | .fail,_=>none
 | .get b k,H=>match H.get b with
   | some x=>(k x).run ah H
   | none=>none
 | .put b x k,H=>bif ah.may b then k.run ah (H.put b x) else none
 | .new x k,H=>(k (ah.pick H)).run ah (ah.make H x)
inductive bC where
 | t (n:Nat)
 | c (v:Value)
inductive fP where
 | b | i | s
inductive oY where
 | ptr | fb | map | fn | qs (c:Bool)
inductive jo where
 | bE | bool | nil (k:oY) | cells (au:List fP)
inductive fk where
 | one (k:fP) | cells (au:List fP)
inductive v8 where
 | s | l | m
inductive Conv where
 | int (k:IntKind) | id | vk | zB
inductive aV where
 | cM (x:bC)
 | pick (c a b:bC)
 | alloc (t:TypeId) (z:List Value)
 | box (t:TypeId) (x:bC)
 | build (z:List Value) (qI:List (Nat×Nat×bC))
 | buildSlice (z:List Value) (bZ len:Nat) (qI:List (Nat×Nat×bC))
 | load (agg:Bool) (n:Nat) (a:bC)
 | store (n:Nat) (a x:bC)
 | nilCheck (x:bC)
 | bin (op:BinOp) (k:jo) (x y:bC)
 | un (op:UnOp) (x:bC)
 | conv (c:Conv) (x:bC)
 | xB (t:TypeId) (x:bC)
 | qy (f:FuncId) (GS:List bC)
 | mkMap
 | mkSlice (z:List Value) (bytes:Nat) (l c:bC)
 | iB (x:bC) (ah aJ:Option bC)
 | iA (bZ:Nat) (x:bC) (ah aJ UP:Option bC)
 | vp (n bZ:Nat) (x:bC) (ah aJ:Option bC)
 | fieldAddr (off:Nat) (x:bC)
 | field (agg:Bool) (off n:Nat) (x:bC)
 | iW (bZ:Nat) (x i:bC)
 | qv (n bZ:Nat) (x i:bC)
 | j2 (x i:bC)
 | xn (agg:Bool) (n bZ:Nat) (x i:bC)
 | lookup (kO:fk) (z:Value) (ok:Bool) (x k:bC)
 | mapUpdate (kO:fk) (m k x:bC)
 | mapEntry (kO:fk) (z:Value) (m k:bC)
 | entryStore (m s x:bC)
 | vc (x:bC)
 | uG (it:bC)
 | extract (x:bC) (i:Nat)
 | call (f:FuncId) (args:List bC)
 | hG (f:bC) (args:List bC)
 | len (k:v8) (x:bC)
 | append (bZ bytes:Nat) (s x:bC)
 | ry (e bytes:Nat) (s x:bC)
 | copy (bZ:Nat) (d s:bC)
 | tU (z:List Value) (x:bC)
 | tT (x:bC)
 | min2 (x y:bC)
 | max2 (x y:bC)
 | bad (TR:String)
structure aw where
 dst:Option Nat
 guard:Option (Nat×Bool)
 op:aV
inductive ld where
 | slot (t:Nat)
 | cell (t:Nat) (agg:Bool) (n:Nat)
def plainCell:Value->Bool
 | .bool _ | .int .. | .string _ | .pointer none | .slice none 0 0 | .map none | .nilFunc | .nilIface=>true
 | _=>false
def ss:Value->Bool
 | .agg a=>a.toList.all plainCell
 | v=>plainCell v
def pr:Nat:=1000000007
section compile
variable(P:Program)(G:Nat->Bool)
def rand:Operand->bC
 | .tmp t=>.t t
 | .const v=>if ss v then .c v else .t pr
 | .global g=>if G g then .c (.pointer (some ⟨g,0,none⟩)) else .t pr
 | .func f=>.c (.func (.func f) #[] #[])
def iV(t:TypeId):Bool:=match P.underlying t with | some (.struct _) | some (.array _ _)=>true | _=>false
def known(t:TypeId):Bool:=(P.underlying t).isSome
def zeroOf(t:TypeId):Option Value:=match (P.info? t).bind (·.zero) with
 | some v=>if ss v&&v.cells.size==P.cellsOf t&&known P t then some v else none
 | none=>none
def zeroCells(t:TypeId):Option (List Value):=(zeroOf P t).map (·.cells.toList)
def times(l:List Value):Nat->List Value
 | 0=>[]
 | n+1=>l++times l n
def jb(t:TypeId):Option fP:=match P.underlying t with
 | some .bool=>some .b
 | some (.int _)=>some .i
 | some .string=>some .s
 | _=>none
def pz:List Field->Nat->Option (List fP)
 | [],_=>some []
 | f::a,i=>if f.name != "_"&&f.offset==i then(match jb P f.type,pz a (i+1) with
   | some k,some l=>some (k::l)
   | _,_=>none) else none
def pP(t:TypeId):Option (List fP):=match P.underlying t with
 | some (.struct a)=>if P.stoodInHeld t||P.eqGuardType P.depth t then none else pz P a.toList 0
 | _=>none
def isConst:Operand->Bool
 | .const _=>true
 | _=>false
def nY(t:TypeId)(x y:Operand):Option jo:=match P.underlying t with
 | some (.int _) | some .string=>some .bE
 | some .bool=>some .bool
 | some (.pointer _)=>some (.nil .ptr)
 | some (.slice _)=>some (.nil .fb)
 | some (.map ..)=>some (.nil .map)
 | some (.func ..)=>some (.nil .fn)
 | some (.interface _)=>some (.nil (.qs (isConst x||isConst y)))
 | some (.struct _)=>(pP P t).map .cells
 | _=>none
def hv(t:TypeId):Option fk:=match jb P t with
 | some k=>some (.one k)
 | none=>(pP P t).map .cells
def kb(o:Option aV)(s:String):aV:=o.getD (.bad s)
def e0(o:Oper):aV:=
 match o.op with
 | .move x | .assign x=>.cM (rand G x)
 | .pick c b d=>.pick (rand G c) (rand G b) (rand G d)
 | .alloc e=>kb ((zeroCells P e).map (.alloc e)) "alloc"
 | .box t x=>.box t (rand G x)
 | .build t b=>kb (do
  let z <-zeroCells P t
  match P.underlying t with
  | some (.struct a)=>do
    let c <-b.toList.mapM λ(i,x)=>(a[i]?).map λf=>(f.offset,P.cellsOf f.type,rand G x)
    if a.all (λf=>known P f.type) then pure (.build z c) else none
  | some (.array _ e)=>if known P e then pure (.build z (b.toList.map λ(i,x)=>(i*P.cellsOf e,P.cellsOf e,rand G x))) else none
  | _=>none) "build"
 | .buildSlice t b c=>kb (do
  let .slice e <-P.underlying t | none
  let z <-zeroCells P e
  if b*P.cellsOf e<=65536 then
   pure (.buildSlice (times z b) (P.cellsOf e) b (c.toList.map λ(i,x)=>(i*P.cellsOf e,P.cellsOf e,rand G x))) else none) "buildSlice"
 | .load t b=>if known P t then .load (iV P t) (P.cellsOf t) (rand G b) else .bad "load"
 | .store t b x=>if known P t then .store (P.cellsOf t) (rand G b) (rand G x) else .bad "store"
 | .nilCheck x=>.nilCheck (rand G x)
 | .binOp b t x y _=>match b with
   | .eql | .neq=>kb ((nY P t x y).map λk=>.bin b k (rand G x) (rand G y)) "eq"
   | _=>.bin b .bE (rand G x) (rand G y)
 | .unOp b _ x=>.un b (rand G x)
 | .convert s d x=>match P.underlying s,P.underlying d with
   | some (.int _),some (.int k)=>.conv (.int k) (rand G x)
   | some .string,some (.slice e)=>(match P.underlying e with | some (.int .u8)=>.conv .vk (rand G x) | _=>.bad "conv")
   | some (.slice e),some .string=>(match P.underlying e with | some (.int .u8)=>.conv .zB (rand G x) | _=>.bad "conv")
   | some .string,some .string=>.conv .id (rand G x)
   | _,_=>.bad "conv"
 | .makeInterface t x=>(match P.underlying t with | some (.interface _)=>.bad "mkIface" | some _=>.xB t (rand G x) | none=>.bad "mkIface")
 | .makeFunc fn first GS=>(match fn with
   | .func f=>if first.isEmpty then .qy f (GS.toList.map (rand G)) else .bad "makeFunc"
   | _=>.bad "makeFunc")
 | .makeMap _ r=>if r.isNone then .mkMap else .bad "makeMap"
 | .makeSlice t l c=>kb (do
  let .slice e <-P.underlying t | none
  let z <-zeroCells P e
  pure (.mkSlice z (P.bytesOf e) (rand G l) (rand G c))) "makeSlice"
 | .slice t x d b c=>match P.underlying t with
   | some .string=>if c.isSome then .bad "slStr" else .iB (rand G x) (d.map (rand G)) (b.map (rand G))
   | some (.slice e)=>if known P e&&(b.isSome||!c.isSome) then .iA (P.cellsOf e) (rand G x) (d.map (rand G)) (b.map (rand G)) (c.map (rand G)) else .bad "type"
   | some (.array n e)=>if c.isSome||!known P e then .bad "slArr" else .vp n (P.cellsOf e) (rand G x) (d.map (rand G)) (b.map (rand G))
   | some (.pointer f)=>(match P.underlying f with
     | some (.array n e)=>if c.isSome||!known P e then .bad "slArr" else .vp n (P.cellsOf e) (rand G x) (d.map (rand G)) (b.map (rand G))
     | _=>.bad "slice")
   | _=>.bad "slice"
 | .fieldAddr t x f=>kb (do
  let .struct a <-P.underlying t | none
  let b <-a[f]?
  if known P b.type&&P.cellsOf b.type != 0 then pure (.fieldAddr b.offset (rand G x)) else none) "fieldAddr"
 | .field t x f=>kb (do
  let .struct a <-P.underlying t | none
  let b <-a[f]?
  if known P b.type then pure (.field (iV P b.type) b.offset (P.cellsOf b.type) (rand G x)) else none) "field"
 | .indexAddr t x i=>match P.underlying t with
   | some (.slice e)=>if known P e then .iW (P.cellsOf e) (rand G x) (rand G i) else .bad "type"
   | some (.array n e)=>if known P e then .qv n (P.cellsOf e) (rand G x) (rand G i) else .bad "type"
   | _=>.bad "indexAddr"
 | .index t x i=>match P.underlying t with
   | some .string=>.j2 (rand G x) (rand G i)
   | some (.array n e)=>if known P e then .xn (iV P e) n (P.cellsOf e) (rand G x) (rand G i) else .bad "index"
   | _=>.bad "index"
 | .lookup t x k a=>kb (do
  let .map mF e <-P.underlying t | none
  let b <-hv P mF
  let z <-zeroOf P e
  pure (.lookup b z a (rand G x) (rand G k))) "lookup"
 | .mapUpdate t m k x | .insert t m k x=>kb (do
  let .map mF _ <-P.underlying t | none
  let a <-hv P mF
  pure (.mapUpdate a (rand G m) (rand G k) (rand G x))) "mapUpdate"
 | .mapEntry t m k=>kb (do
  let .map mF e <-P.underlying t | none
  let a <-hv P mF
  let z <-zeroOf P e
  pure (.mapEntry a z (rand G m) (rand G k))) "mapEntry"
 | .entryStore _ m s x=>.entryStore (rand G m) (rand G s) (rand G x)
 | .range t x=>match P.underlying t with
   | some .string=>.vc (rand G x)
   | _=>.bad "range"
 | .next a b=>if b then .uG (rand G a) else .bad "next"
 | .extract x i=>.extract (rand G x) i
 | .call c=>match c.callee with
   | .value (.func f)=>.call f (c.args.toList.map (rand G))
   | .value a=>.hG (rand G a) (c.args.toList.map (rand G))
   | .builtin b=>
     match b,c.args.toList,c.argTypes.toList with
     | .len,[x],t::_=>(match P.underlying t with
       | some .string=>.len .s (rand G x)
       | some (.slice _)=>.len .l (rand G x)
       | some (.map ..)=>.len .m (rand G x)
       | _=>.bad "len")
     | .append,[s,x],[t,u]=>(match P.underlying t,P.underlying u with
       | some (.slice e),some (.slice _)=>if(zeroOf P e).isSome&&Nat.ble (P.bytesOf e) 17179869184 then .append (P.cellsOf e) (P.bytesOf e) (rand G s) (rand G x) else .bad "append"
       | some (.slice e),some .string=>if(zeroOf P e).isSome&&Nat.ble (P.bytesOf e) 17179869184&&Nat.beq (P.cellsOf e) 1 then .ry e (P.bytesOf e) (rand G s) (rand G x) else if(zeroOf P e).isSome&&Nat.ble (P.bytesOf e) 17179869184 then .append (P.cellsOf e) (P.bytesOf e) (rand G s) (rand G x) else .bad "append"
       | _,_=>.bad "append")
     | .copy,[d,s],t::_=>(match P.underlying t with | some (.slice e)=>if known P e then .copy (P.cellsOf e) (rand G d) (rand G s) else .bad "copy" | _=>.bad "copy")
     | .clear,[x],t::_=>(match P.underlying t with
       | some (.slice e)=>kb ((zeroCells P e).map λz=>.tU z (rand G x)) "clear"
       | some (.map ..)=>.tT (rand G x)
       | _=>.bad "clear")
     | .min,[x,y],_=>.min2 (rand G x) (rand G y)
     | .max,[x,y],_=>.max2 (rand G x) (rand G y)
     | _,_,_=>.bad "builtin"
   | .invoke ..=>.bad "invoke"
 | _=>.bad "op"
end compile
def aO(e:Env):bC->Option Value
 | .t n=>e.get n
 | .c v=>some v
def dN(e:Env):List bC->Option (List Value)
 | []=>some []
 | r::a=>match aO e r with
   | some v=>(match dN e a with
     | some l=>some (v::l)
     | none=>none)
   | none=>none
def h9(e:Env):List (Nat×Nat×bC)->Option (List (Nat×Nat×Value))
 | []=>some []
 | (i,n,r)::a=>match aO e r with
   | some v=>(match h9 e a with
     | some l=>some ((i,n,v)::l)
     | none=>none)
   | none=>none
def setCells(cs:List Value)(off:Nat)(az:List Value):Option (List Value):=
 bif Nat.ble (off+az.length) cs.length then some (cs.take off++(az++cs.drop (off+az.length))) else none
def bx(cs:List Value)(off n:Nat):Option (List Value):=
 bif Nat.ble (off+n) cs.length then some ((cs.drop off).take n) else none
def bB(l:List Value):Value:=.agg l.toArray
def ptr(b:Nat):Value:=.pointer (some ⟨b,0,none⟩)
def bz:Value:=.tuple #[]
def eT:Option Value->aQ
 | some v=>.ret v
 | none=>.fail
def rowOf:bk->Option (List Value)
 | .cells a _=>some a
 | .ro a=>some a
 | _=>none
def oi(a:Bool)(off n:Nat)(cs:List Value):Option Value:=
 bif a then(match bx cs off n with | some l=>some (bB l) | none=>none) else cs[off]?
def jV(b:Bool)(n:Nat):Option Value->aQ
 | some (.pointer (some a))=>.get a.block λx=>match rowOf x with
   | some c=>eT (oi b a.off n c)
   | none=>.fail
 | _=>.fail
def c6:Value->Bool
 | .agg _ | .tuple _=>false
 | _=>true
def putRow(a:Addr)(az:List Value)(k:aQ):aQ:=
 .get a.block λx=>match x with
  | .cells b z=>bif az.all c6 then(match setCells b a.off az with
    | some b=>.put a.block (.cells b z) k
    | none=>.fail) else .fail
  | _=>.fail
def kH(n:Nat):Option Value->Option Value->aQ
 | some (.pointer (some a)),some v=>bif Nat.beq v.cells.size n then putRow a v.cells.toList (.ret bz) else .fail
 | _,_=>.fail
def cI(l:List UInt8):List Value:=l.map λb=>.int .u8 (b.toNat:Int)
def ei(bZ:Nat)(v:Value)(k:List Value->Nat->aQ):aQ:=
 match v with
 | .slice none _ _=>k [] 0
 | .slice (some a) n _=>.get a.block λx=>match rowOf x with
   | some b=>(match bx b a.off (n*bZ) with
     | some l=>k l n
     | none=>.fail)
   | none=>.fail
 | .string s=>bif Nat.beq bZ 1 then k (cI s.data.toList) s.size else .fail
 | _=>.fail
def half:IntKind->Nat
 | .i8 | .u8=>128
 | .i16 | .u16=>32768
 | .i32 | .u32=>2147483648
 | .i64 | .u64=>9223372036854775808
def wr(k:IntKind)(n:Int):Int:=
 match n with
 | .ofNat m=>bif Nat.blt m (half k) then .ofNat m else k.wrap (.ofNat m)
 | n=>k.wrap n
def ha:Int->Int->Bool
 | .ofNat a,.ofNat b=>Nat.blt a b
 | .ofNat _,.negSucc _=>false
 | .negSucc _,.ofNat _=>true
 | .negSucc a,.negSucc b=>Nat.blt b a
def fQ:Int->Int->Bool
 | .ofNat a,.ofNat b=>Nat.beq a b
 | .negSucc a,.negSucc b=>Nat.beq a b
 | _,_=>false
def fi(c:BinOp)(k:IntKind)(a b:Int):Option Value:=
 match c with
 | .add=>some (.int k (wr k (a+b)))
 | .sub=>some (.int k (wr k (a-b)))
 | .mul=>some (.int k (wr k (a*b)))
 | .quo=>bif fQ b 0 then none else some (.int k (wr k (a.tdiv b)))
 | .rem=>bif fQ b 0 then none else some (.int k (a.tmod b))
 | .and=>some (.int k (k.wrap (BitVec.ofInt k.bits a &&& BitVec.ofInt k.bits b).toNat))
 | .or=>some (.int k (k.wrap (BitVec.ofInt k.bits a ||| BitVec.ofInt k.bits b).toNat))
 | .xor=>some (.int k (k.wrap (BitVec.ofInt k.bits a ^^^ BitVec.ofInt k.bits b).toNat))
 | .andNot=>some (.int k (k.wrap (BitVec.ofInt k.bits a &&& ~~~ BitVec.ofInt k.bits b).toNat))
 | .eql=>some (.bool (fQ a b))
 | .neq=>some (.bool (!fQ a b))
 | .lss=>some (.bool (ha a b))
 | .leq=>some (.bool (!ha b a))
 | .gtr=>some (.bool (ha b a))
 | .geq=>some (.bool (!ha a b))
 | _=>none
def pO(a:BinOp)(x y:ByteArray):Option Value:=
 match a with
 | .add=>bif Nat.ble (x.size+y.size) 4294967296 then some (.string (x++y)) else none
 | .eql=>some (.bool (x.toList==y.toList))
 | .neq=>some (.bool !(x.toList==y.toList))
 | .lss=>some (.bool (Op.bytesLess x.toList y.toList))
 | .leq=>some (.bool (Op.bytesLess x.toList y.toList||x.toList==y.toList))
 | .gtr=>some (.bool !(Op.bytesLess x.toList y.toList||x.toList==y.toList))
 | .geq=>some (.bool !(Op.bytesLess x.toList y.toList))
 | _=>none
def hg:fP->Value->Value->Option Bool
 | .i,.int k a,.int b c=>if k=b then some (fQ a c) else none
 | .s,.string a,.string b=>some (a.toList==b.toList)
 | .b,.bool a,.bool b=>some (a==b)
 | _,_,_=>none
def et:List fP->List Value->List Value->Option Bool
 | [],[],[]=>some true
 | k::a,b::x,c::y=>match hg k b c with
   | some true=>et a x y
   | some false=>(match et a x y with | some _=>some false | none=>none)
   | none=>none
 | _,_,_=>none
def h8:oY->Value->Value->Option Bool
 | .ptr,.pointer none,.pointer b=>some b.isNone
 | .ptr,.pointer (some _),.pointer none=>some false
 | .fb,.slice none _ _,.slice b _ _=>some b.isNone
 | .fb,.slice (some _) _ _,.slice none _ _=>some false
 | .map,.map none,.map b=>some b.isNone
 | .map,.map (some _),.map none=>some false
 | .fn,.nilFunc,.nilFunc=>some true
 | .fn,.nilFunc,.func ..=>some false
 | .fn,.func ..,.nilFunc=>some false
 | .qs c,.nilIface,.nilIface=>bif c then some true else none
 | .qs _,.nilIface,.iface ..=>some false
 | .qs _,.iface ..,.nilIface=>some false
 | _,_,_=>none
def Co:Value->Value->Option Bool
 | .int k a,.int b c=>if k=b then some (fQ a c) else none
 | .string a,.string b=>some (a.toList==b.toList)
 | _,_=>none
def iC(k:jo)(x y:Value):Option Bool:=
 match k with
 | .bE=>Co x y
 | .bool=>hg .b x y
 | .nil k=>h8 k x y
 | .cells a=>match x,y with | .agg b,.agg c=>et a b.toList c.toList | _,_=>none
def pL(b:BinOp):Value->Value->Option Value
 | .int k a,.int _ (.ofNat n)=>(match b with
   | .shl=>some (.int k (wr k (a*2^(min n k.bits))))
   | _=>some (.int k (a.fdiv (2^(min n k.bits)))))
 | _,_=>none
def sr(a:BinOp):Value->Value->Option Value
 | .int k b,.int c d=>if k=c then fi a k b d else none
 | .string b,.string c=>pO a b c
 | _,_=>none
def binOp(a:BinOp)(k:jo)(x y:Value):Option Value:=
 match a with
 | .eql=>(match iC k x y with | some b=>some (.bool b) | none=>none)
 | .neq=>(match iC k x y with | some b=>some (.bool (!b)) | none=>none)
 | .shl=>pL .shl x y
 | .shr=>pL .shr x y
 | a=>sr a x y
def unOp(a:UnOp)(x:Value):Option Value:=
 match a,x with
 | .neg,.int k n=>some (.int k (wr k (0-n)))
 | .xor,.int k n=>fi .xor k (if k.signed then -1 else k.max) n
 | .not,.bool b=>some (.bool !b)
 | _,_=>none
def cH:Option Value->Option Nat
 | some (.int _ (.ofNat m))=>some m
 | _=>none
def bytesOf:List Value->Option (List UInt8)
 | []=>some []
 | .int .u8 n::l=>(match bytesOf l with | some r=>some (UInt8.ofNat n.toNat::r) | none=>none)
 | _=>none
def de(e:Env)(d:Nat):Option bC->Option Nat
 | none=>some d
 | some r=>cH (aO e r)
def ht(a:fk)(x y:Value):Option Bool:=
 match a with
 | .one k=>hg k x y
 | .cells b=>match x,y with | .agg a,.agg c=>et b a.toList c.toList | _,_=>none
def findKey(a:fk)(k:Value):List (Value×Value×Nat)->Option (Option (Value×Nat))
 | []=>(match ht a k k with | some true=>some none | _=>none)
 | (b,v,n)::c=>match ht a k b with
   | some true=>some (some (v,n))
   | some false=>findKey a k c
   | none=>none
def sU(a:fk)(k x:Value):List (Value×Value×Nat)->Option (List (Value×Value×Nat))
 | []=>none
 | (b,v,n)::c=>match ht a k b with
   | some true=>some ((k,x,n)::c)
   | some false=>(match sU a k x c with | some r=>some ((b,v,n)::r) | none=>none)
   | none=>none
def yu(n:Nat)(x:Value):List (Value×Value×Nat)->Option (List (Value×Value×Nat))
 | []=>none
 | (k,v,m)::a=>bif Nat.beq n m then some ((k,x,m)::a) else(match yu n x a with | some r=>some ((k,v,m)::r) | none=>none)
def fill(z:List Value):List (Nat×Nat×Value)->Option (List Value)
 | []=>some z
 | (a,n,v)::b=>bif Nat.beq v.cells.toList.length n then(match setCells z a v.cells.toList with
   | some z=>fill z b
   | none=>none) else none
def kG(c:Conv)(v:Value):aQ:=
 match c with
 | .int k=>(match v with | .int _ n=>.ret (.int k (wr k n)) | _=>.fail)
 | .id=>(match v with | .string s=>.ret (.string s) | _=>.fail)
 | .vk=>(match v with
   | .string s=>.new (.cells (cI s.data.toList) (.n 1)) λb=>.ret (.slice (some ⟨b,0,none⟩) s.size s.size)
   | _=>.fail)
 | .zB=>(match v with
   | .slice ..=>ei 1 v λl _=>match bytesOf l with | some a=>.ret (.string ⟨a.toArray⟩) | none=>.fail
   | _=>.fail)
def h7(bZ:Nat)(a:Option Addr)(l h m cap:Nat):aQ:=
 bif Nat.ble l h&&Nat.ble h m&&Nat.ble m cap then(match a with
  | none=>.ret (.slice none (h-l) (m-l))
  | some a=>.get a.block λx=>match x with
    | .cells _ z=>bif Nat.beq z.val bZ||Nat.beq z.val 0 then .ret (.slice (some ⟨a.block,a.off+l*bZ,none⟩) (h-l) (m-l)) else .fail
    | .ro _=>.ret (.slice (some ⟨a.block,a.off+l*bZ,none⟩) (h-l) (m-l))
    | _=>.fail) else .fail
def eN(bZ bytes:Nat)(s:Value)(new:List Value)(n:Nat):aQ:=
 match s with
 | .slice b a c=>
   bif Nat.beq n 0 then .ret (.slice b a c) else
   bif Nat.ble (a+n) c then(match b with
    | some d=>putRow ⟨d.block,d.off+a*bZ,none⟩ new (.ret (.slice b (a+n) c))
    | none=>.fail)
   else bif Nat.ble ((a+n)*bytes) 17179869184&&Nat.ble 1 bZ&&Nat.ble (a+n) 17179869184&&new.all c6 then(match b with
    | some d=>.get d.block λx=>match x with
      | .cells e z=>bif Nat.beq z.val bZ then(match bx e d.off (a*bZ) with
       | some b=>.put d.block .dead (.new (.cells (b++new) (.n bZ)) λb=>.ret (.slice (some ⟨b,0,none⟩) (a+n) (a+n)))
       | none=>.fail) else .fail
      | _=>.fail
    | none=>.new (.cells new (.n bZ)) λb=>.ret (.slice (some ⟨b,0,none⟩) (a+n) (a+n))) else .fail
 | _=>.fail
def w1(e bytes:Nat)(s x:Value):aQ:=
 match s,x with
 | .slice c a d,.string t=>
   bif Nat.ble 1 t.size&&(Nat.ble ((a+t.size)*bytes) 17179869184&&(Nat.ble (a+t.size) 17179869184&&Nat.beq d a)) then(match c with
    | none=>.new (.bytes e t.data.toList) λb=>.ret (.slice (some ⟨b,0,none⟩) (a+t.size) (a+t.size))
    | some b=>.get b.block λx=>match x with
      | .bytes d c=>bif Nat.beq d e&&(Nat.beq b.off 0&&Nat.beq a c.length) then
       .put b.block .dead (.new (.bytes e (c++t.data.toList)) λb=>.ret (.slice (some ⟨b,0,none⟩) (a+t.size) (a+t.size))) else .fail
      | _=>.fail) else .fail
 | _,_=>.fail
def w4(bZ:Nat)(d:Value)(b:List Value)(n:Nat):aQ:=
 match d with
 | .slice none _ _=>.ret (.int .i64 0)
 | .slice (some c) a _=>bif Nat.beq (Nat.min n a) 0 then .ret (.int .i64 0) else
  putRow c (b.take (Nat.min n a*bZ)) (.ret (.int .i64 (Nat.min n a:Int)))
 | _=>.fail
def qg(a:fk)(z:Value)(ok:Bool)(k:Value):Option Value->aQ
 | some (.map none)=>(match ht a k k with
   | some true=>.ret (bif ok then .tuple #[z,.bool false] else z)
   | _=>.fail)
 | some (.map (some r))=>.get r λx=>match x with
   | .map b _=>(match findKey a k b with
     | some (some (v,_))=>.ret (bif ok then .tuple #[v,.bool true] else v)
     | some none=>.ret (bif ok then .tuple #[z,.bool false] else z)
     | none=>.fail)
   | _=>.fail
 | _=>.fail
def w8(b:fk)(k x:Value):Option Value->aQ
 | some (.map (some r))=>.get r λy=>match y with
   | .map a c=>(match findKey b k a with
     | some (some _)=>(match sU b k x a with
       | some a=>.put r (.map a c) (.ret bz)
       | none=>.fail)
     | some none=>.put r (.map (a++[(k,x,c)]) (c+1)) (.ret bz)
     | none=>.fail)
   | _=>.fail
 | _=>.fail
def w5(b:fk)(z k:Value):Option Value->aQ
 | some (.map (some r))=>.get r λy=>match y with
   | .map a c=>(match findKey b k a with
     | some (some (v,n))=>(match sU b k v a with
       | some a=>.put r (.map a c) (.ret (.tuple #[v,.int .i64 (n:Int)]))
       | none=>.fail)
     | some none=>.put r (.map (a++[(k,z,c)]) (c+1)) (.ret (.tuple #[z,.int .i64 (c:Int)]))
     | none=>.fail)
   | _=>.fail
 | _=>.fail
def w7(n:Nat)(x:Value):Option Value->aQ
 | some (.map (some r))=>.get r λy=>match y with
   | .map a c=>(match yu n x a with
     | some a=>.put r (.map a c) (.ret bz)
     | none=>.fail)
   | _=>.fail
 | _=>.fail
def w6:Option Value->aQ
 | some (.pointer (some b))=>.get b.block λx=>match x with
   | .iter s a=>bif Nat.beq b.off 0 then(bif Nat.blt a s.size then
    .put b.block (.iter s (a+(Utf8.decode s a).2)) (.ret (.tuple #[.bool true,.int .i64 (a:Int),.int .i32 (Utf8.decode s a).1]))
    else .ret (.tuple #[.bool false])) else .fail
   | _=>.fail
 | _=>.fail
def w2(z:List Value):Option Value->aQ
 | some (.slice none _ _)=>.ret bz
 | some (.slice (some a) n _)=>bif Nat.beq n 0 then .ret bz else putRow a (times z n) (.ret bz)
 | _=>.fail
def w3:Option Value->aQ
 | some (.map none)=>.ret bz
 | some (.map (some r))=>.get r λx=>match x with
   | .map _ c=>.put r (.map [] c) (.ret bz)
   | _=>.fail
 | _=>.fail
def pd:v8->Option Value->aQ
 | .s,some (.string s)=>.ret (.int .i64 (s.size:Int))
 | .l,some (.slice _ n _)=>.ret (.int .i64 (n:Int))
 | .m,some (.map none)=>.ret (.int .i64 0)
 | .m,some (.map (some r))=>.get r λx=>match x with
   | .map a _=>.ret (.int .i64 (a.length:Int))
   | _=>.fail
 | _,_=>.fail
def nU(bZ:Nat):Option Value->Option Nat->aQ
 | some (.slice (some a) b _),some i=>bif Nat.blt i b then .ret (.pointer (some ⟨a.block,a.off+i*bZ,none⟩)) else .fail
 | _,_=>.fail
def nT(n bZ:Nat):Option Value->Option Nat->aQ
 | some (.pointer (some a)),some i=>bif Nat.blt i n then .ret (.pointer (some ⟨a.block,a.off+i*bZ,none⟩)) else .fail
 | _,_=>.fail
def nV:Option Value->Option Nat->aQ
 | some (.string s),some i=>(match s.data.toList[i]? with | some b=>.ret (.int .u8 (b.toNat:Int)) | none=>.fail)
 | _,_=>.fail
def pc(a:Bool)(n bZ:Nat):Option Value->Option Nat->aQ
 | some (.agg b),some i=>bif Nat.blt i n then eT (oi a (i*bZ) bZ b.toList) else .fail
 | _,_=>.fail
def lA:Option Value->Option Nat->Option (Nat->Option Nat)->aQ
 | some (.string s),some l,some h=>(match h s.size with
   | some h=>bif Nat.ble l h&&Nat.ble h s.size then .ret (.string (s.extract l h)) else .fail
   | none=>.fail)
 | _,_,_=>.fail
def nW(n bZ:Nat):Option Value->Option Nat->Option Nat->aQ
 | some (.pointer (some a)),some l,some h=>bif Nat.ble l h&&Nat.ble h n then .ret (.slice (some ⟨a.block,a.off+l*bZ,none⟩) (h-l) (n-l)) else .fail
 | _,_,_=>.fail
def mD(z:List Value)(bytes:Nat):Option Nat->Option Nat->aQ
 | some l,some c=>bif Nat.ble l c&&Nat.ble c 1073741824&&Nat.ble (bytes*c) 17179869184 then
  .new (.cells (times z c) (.n z.length)) λb=>.ret (.slice (some ⟨b,0,none⟩) l c) else .fail
 | _,_=>.fail
def jW(c:Bool):Option Value->Option Value->aQ
 | some (.int k a),some (.int _ b)=>.ret (.int k (bif (bif c then ha a b else ha b a) then b else a))
 | _,_=>.fail
def cS(x:Option Value)(k:Value->aQ):aQ:=match x with | some v=>k v | none=>.fail
def aV.B(e:Env):aV->aQ
 | .cM x=>eT (aO e x)
 | .pick c a b=>cS (aO e c) fun
   | .bool true=>eT (aO e a)
   | .bool false=>eT (aO e b)
   | _=>.fail
 | .alloc t z=>.new (.cells z (.t t)) λb=>.ret (ptr b)
 | .box t x=>cS (aO e x) λv=>.new (.cells v.cells.toList (.t t)) λb=>.ret (ptr b)
 | .build z a=>(match h9 e a with
   | some l=>(match fill z l with | some a=>.ret (bB a) | none=>.fail)
   | none=>.fail)
 | .buildSlice z b a c=>(match h9 e c with
   | some l=>(match fill z l with
     | some c=>.new (.cells c (.n b)) λb=>.ret (.slice (some ⟨b,0,none⟩) a a)
     | none=>.fail)
   | none=>.fail)
 | .load a n b=>jV a n (aO e b)
 | .store n a x=>kH n (aO e a) (aO e x)
 | .nilCheck x=>cS (aO e x) fun
   | .pointer (some a)=>.ret (.pointer (some a))
   | _=>.fail
 | .bin a k x y=>cS (aO e x) λb=>cS (aO e y) λc=>eT (binOp a k b c)
 | .un a x=>cS (aO e x) λb=>eT (unOp a b)
 | .conv c x=>cS (aO e x) (kG c)
 | .xB t x=>cS (aO e x) λv=>.ret (.iface t v)
 | .qy f a=>(match dN e a with | some l=>.ret (.func (.func f) #[] l.toArray) | none=>.fail)
 | .mkMap=>.new (.map [] 0) λb=>.ret (.map (some b))
 | .mkSlice z a l c=>mD z a (cH (aO e l)) (cH (aO e c))
 | .iB x a b=>lA (aO e x) (de e 0 a) (some λn=>de e n b)
 | .iA b x c d f=>cS (aO e x) fun
   | .slice g h a=>(match de e 0 c,de e h d,de e a f with
     | some l,some h,some m=>h7 b g l h m a
     | _,_,_=>.fail)
   | _=>.fail
 | .vp n a x b c=>nW n a (aO e x) (de e 0 b) (de e n c)
 | .fieldAddr b x=>cS (aO e x) fun
   | .pointer (some a)=>.ret (.pointer (some ⟨a.block,a.off+b,none⟩))
   | _=>.fail
 | .field a b n x=>cS (aO e x) fun
   | .agg c=>eT (oi a b n c.toList)
   | _=>.fail
 | .iW a x i=>nU a (aO e x) (cH (aO e i))
 | .qv n a x i=>nT n a (aO e x) (cH (aO e i))
 | .j2 x i=>nV (aO e x) (cH (aO e i))
 | .xn a n b x i=>pc a n b (aO e x) (cH (aO e i))
 | .lookup a z b x k=>cS (aO e k) λk=>qg a z b k (aO e x)
 | .mapUpdate a m k x=>cS (aO e k) λk=>cS (aO e x) λx=>w8 a k x (aO e m)
 | .mapEntry a z m k=>cS (aO e k) λk=>w5 a z k (aO e m)
 | .entryStore m s x=>(match cH (aO e s) with | some n=>cS (aO e x) λx=>w7 n x (aO e m) | none=>.fail)
 | .vc x=>cS (aO e x) fun
   | .string s=>.new (.iter s 0) λb=>.ret (ptr b)
   | _=>.fail
 | .uG a=>w6 (aO e a)
 | .extract x i=>cS (aO e x) fun
   | .tuple a=>eT a.toList[i]?
   | _=>.fail
 | .len k x=>pd k (aO e x)
 | .append a b s x=>cS (aO e x) λx=>cS (aO e s) λs=>ei a x λc n=>eN a b s c n
 | .ry a b s x=>cS (aO e x) λx=>cS (aO e s) λs=>w1 a b s x
 | .copy a d s=>cS (aO e s) λs=>cS (aO e d) λd=>ei a s λb n=>w4 a d b n
 | .tU z x=>w2 z (aO e x)
 | .tT x=>w3 (aO e x)
 | .min2 x y=>jW false (aO e x) (aO e y)
 | .max2 x y=>jW true (aO e x) (aO e y)
 | _=>.fail
def aV.run(K:bY)(ah:Perm)(e:Env)(H:ad):aV->Option (Value×ad)
 | .call f a=>(match dN e a with
   | some l=>K ah f l H
   | none=>none)
 | .hG a b=>(match aO e a with
   | some (.func (.func f) _ c)=>(match dN e b with
     | some l=>K ah f (l++c.toList) H
     | none=>none)
   | _=>none)
 | o=>(o.B e).run ah H
def putDst(e:Env)(d:Option Nat)(v:Value):Env:=
 match d with
 | some d=>e.set v d
 | none=>e
def aw.wanted(o:aw)(e:Env):Option Bool:=
 match o.guard with
 | none=>some true
 | some (j,a)=>match e.get j with
   | some (.bool b)=>some (b==a)
   | some _=>some false
   | none=>none
def aw.run(K:bY)(ah:Perm)(o:aw)(e:Env)(H:ad):Option (Value×ad):=
 match o.wanted e with
 | some true=>o.op.run K ah e H
 | some false=>some (bz,H)
 | none=>none
def hK(K:bY)(ah:Perm):List aw->Env->ad->Option (Env×ad)
 | [],e,H=>some (e,H)
 | o::a,e,H=>match o.run K ah e H with
   | some (v,H)=>hK K ah a (putDst e o.dst v) H
   | none=>none
end Go.Dam
namespace Go.Dam
open Go
def bC.Z:bC->List Nat
 | .t n=>[n]
 | .c _=>[]
def sk:Option bC->List Nat
 | some r=>r.Z
 | none=>[]
def aV.Z:aV->List Nat
 | .cM x | .box _ x | .load _ _ x | .nilCheck x | .un _ x | .conv _ x | .xB _ x | .fieldAddr _ x | .field _ _ _ x | .vc x | .uG x | .extract x _
 | .len _ x | .tU _ x | .tT x=>x.Z
 | .pick a b c | .mapUpdate _ a b c | .entryStore a b c=>a.Z++(b.Z++c.Z)
 | .alloc .. | .mkMap | .bad _=>[]
 | .build _ qI | .buildSlice _ _ _ qI=>qI.flatMap λp=>p.2.2.Z
 | .store _ a b | .bin _ _ a b | .mkSlice _ _ a b | .iW _ a b | .qv _ _ a b | .j2 a b | .xn _ _ _ a b | .lookup _ _ _ a b | .mapEntry _ _ a b
 | .append _ _ a b | .ry _ _ a b | .copy _ a b | .min2 a b | .max2 a b=>a.Z++b.Z
 | .qy _ l | .call _ l=>l.flatMap bC.Z
 | .hG f l=>f.Z++l.flatMap bC.Z
 | .iB x a b | .vp _ _ x a b=>x.Z++(sk a++sk b)
 | .iA _ x a b c=>x.Z++(sk a++(sk b++sk c))
def aV.rd:aV->Bool
 | .load .. | .iA .. | .conv .. | .lookup .. | .len ..=>true
 | _=>false
def aV.md:aV->Bool
 | .store .. | .append .. | .ry .. | .copy .. | .tU .. | .tT .. | .mapUpdate .. | .mapEntry .. | .entryStore .. | .uG ..=>true
 | _=>false
def aV.fw:aV->Bool
 | .alloc .. | .box .. | .buildSlice .. | .mkMap | .mkSlice .. | .conv .vk _ | .vc .. | .append .. | .ry ..=>true
 | _=>false
def aV.dE:aV->Bool
 | .call .. | .hG ..=>true
 | _=>false
def aw.looks(o:aw):List Nat:=(match o.guard with | some (j,_)=>[j] | none=>[])++o.op.Z
def wq(x y:aw):Bool:=
 (match x.dst with | some d=>!y.looks.contains d&&y.dst != some d | none=>true)&&(match y.dst with | some d=>!x.looks.contains d | none=>true)
def sq(i j:Nat)(x y:aw):Option (List (Nat×Nat)):=
 bif wq x y&&!x.op.dE&&!(y.op.dE&&x.op.md) then
  some ((bif (x.op.md||x.op.dE||x.op.fw)&&(y.op.rd||y.op.md||y.op.dE) then[(i,j)] else[])++(bif (y.op.md||y.op.dE||y.op.fw)&&(x.op.rd||x.op.md||x.op.dE) then[(j,i)] else[]))
 else none
def uO(cK:Nat->Nat->Bool)(a:Nat)(j:Nat)(y:aw):List (Nat×aw)->Nat->Option (List (Nat×Nat))
 | [],_=>some []
 | x::b,i=>bif Nat.blt i j then(bif cK x.1 a then uO cK a j y b (i+1) else
    match sq i j x.2 y with
    | some l=>(match uO cK a j y b (i+1) with | some r=>some (l++r) | none=>none)
    | none=>none) else some []
def uN(cK:Nat->Nat->Bool)(all:List (Nat×aw)):List (Nat×aw)->Nat->Option (List (Nat×Nat))
 | [],_=>some []
 | y::a,j=>match uO cK y.1 j y.2 all 0 with
   | some l=>(match uN cK all a (j+1) with | some r=>some (l++r) | none=>none)
   | none=>none
def nS(a:Array Oper):Bool:=a.toList.zipIdx.all λ(o,j)=>o.after.all λe=>!Region.binds .any e||e.on<j
def vw(o:aw):Bool:=o.op.rd||o.op.md||o.op.dE||o.op.fw
def rS(cK:Nat->Nat->Bool)(a j:Nat):List (Nat×aw)->Nat->Bool
 | [],_=>true
 | x::b,i=>(Nat.beq i j||!vw x.2||(bif Nat.blt i j then cK x.1 a else cK a x.1))&&rS cK a j b (i+1)
def rR(cK:Nat->Nat->Bool)(all:List (Nat×aw)):List (Nat×aw)->Nat->List Bool
 | [],_=>[]
 | y::a,j=>rS cK y.1 j all 0::rR cK all a (j+1)
def CY(cK:Nat->Nat->Bool)(al:List (Nat×aw)):Nat->List Nat->List Nat
 | 0,done=>done.reverse
 | n+1,done=>
   let a:=al.filter λx=>!done.contains x.1&&al.all λy=>!cK y.1 x.1||done.contains y.1
   match a.find? (λx=>!x.2.op.dE),a.head? with
   | some x,_=>CY cK al n (x.1::done)
   | none,some x=>CY cK al n (x.1::done)
   | none,none=>done.reverse
structure jn where
 ord:List Nat
 fixed:List Bool
 ja:List (Nat×Nat)
def b7(al:List aw)(a:List Nat):List (Nat×aw):=a.filterMap λi=>(al[i]?).map λo=>(i,o)
def wJ(d:Array Oper)(al:List aw):Option jn:=
 let e:=Region.before d
 let c:=λi j=>(e.getD j 0).testBit i
 let b:=CY c (b7 al (List.range al.length)) al.length []
 let a:=b7 al b
 if nS d&&decide b.Nodup&&(List.range al.length).all (b.contains ·)&&a.length==al.length then(match uN c a a 0 with
  | some l=>some ⟨b,rR c a a 0,l⟩
  | none=>none) else none
def aQ.runT(ah:Perm):aQ->ad->Option (Value×ad×List Nat×List Nat)
 | .ret v,H=>some (v,H,[],[])
 | .fail,_=>none
 | .get b k,H=>match H.get b with
   | some x=>(match (k x).runT ah H with | some (v,H,f,m)=>some (v,H,b::f,m) | none=>none)
   | none=>none
 | .put b x k,H=>bif ah.may b then(match k.runT ah (H.put b x) with | some (v,H,f,m)=>some (v,H,f,b::m) | none=>none) else none
 | .new x k,H=>match (k (ah.pick H)).runT ah (ah.make H x) with
   | some (v,a,f,m)=>some (v,a,f,ah.pick H::m)
   | none=>none
def ed(ah:Perm):List Value->List Nat
 | []=>[]
 | .pointer (some a)::l=>bif ah.may a.block then a.block::ed ah l else ed ah l
 | _::l=>ed ah l
def aV.qm(ah:Perm)(e:Env):aV->List Nat
 | .call _ a=>(match dN e a with | some l=>ed ah l | none=>[])
 | .hG _ a=>(match dN e a with | some l=>ed ah l | none=>[])
 | _=>[]
def aV.runT(K:bY)(ah:Perm)(bW:Bool)(e:Env)(H:ad)(o:aV):Option (Value×ad×List Nat×List Nat):=
 bif o.dE then bif bW then(match o.run K ⟨ah.ah,ah.ok,none⟩ e H with | some (v,a)=>some (v,a,[],[]) | none=>none) else(match o.run K ⟨H.next,o.qm ah e,none⟩ e H with | some (v,a)=>some (v,a,[],o.qm ah e) | none=>none)
 else(o.B e).runT ah H
def aw.runT(K:bY)(ah:Perm)(bW:Bool)(o:aw)(e:Env)(H:ad):Option (Value×ad×List Nat×List Nat):=
 match o.wanted e with
 | some true=>o.op.runT K ah bW e H
 | some false=>some (bz,H,[],[])
 | none=>none
structure Rec where
 pe:List Nat
 lL:List Nat
 heap:ad
 val:Value
 again:ad->Option Value
def dG(H:ad)(b:Bool)(n:Nat):Option Value->Option Value
 | some (.pointer (some a))=>match H.get a.block with
   | some x=>(match rowOf x with | some c=>oi b a.off n c | none=>none)
   | none=>none
 | _=>none
def aw.again(o:aw)(e:Env)(H:ad):Option Value:=
 match o.wanted e,o.op with
 | some true,.load a n b=>dG H a n (aO e b)
 | _,_=>none
def hq(K:bY)(ah:Perm):List aw->Nat->List Bool->Env->ad->Option (Env×ad×List Rec)
 | [],_,_,e,H=>some (e,H,[])
 | o::d,b,c,e,H=>match H.get b,o.runT K ⟨ah.ah,ah.ok,some b⟩ (c.headD false) e H with
   | none,some (v,a,f,m)=>(match hq K ah d (b+1) c.tail (putDst e o.dst v) a with
     | some (b,a,l)=>some (b,a,⟨f,m,H,v,o.again e⟩::l)
     | none=>none)
   | _,_=>none
def du(l r:List Nat):Bool:=l.all λb=>!r.contains b
def tS:Value->Value->Bool
 | .bool a,.bool b=>a==b
 | .int k a,.int b c=>decide (k=b)&&fQ a c
 | .string a,.string b=>a.data==b.data
 | .pointer none,.pointer none=>true
 | .pointer (some ⟨a,i,none⟩),.pointer (some ⟨b,j,none⟩)=>Nat.beq a b&&Nat.beq i j
 | .slice none n c,.slice none m d=>Nat.beq n m&&Nat.beq c d
 | .slice (some ⟨a,i,none⟩) n c,.slice (some ⟨b,j,none⟩) m d=>Nat.beq a b&&Nat.beq i j&&(Nat.beq n m&&Nat.beq c d)
 | .map none,.map none=>true
 | .map (some a),.map (some b)=>Nat.beq a b
 | .nilFunc,.nilFunc=>true
 | .nilIface,.nilIface=>true
 | _,_=>false
def rD:List Value->List Value->Bool
 | [],[]=>true
 | a::x,b::y=>tS a b&&rD x y
 | _,_=>false
def ku:Value->Value->Bool
 | .agg a,.agg b=>rD a.toList b.toList
 | a,b=>tS a b
def pK(a:ad->Option Value)(v:Value)(H:ad):Bool:=
 match a H with
 | some u=>ku u v
 | none=>false
def yD(l:List Rec)(H:ad)(r:Rec):Bool:=(l.all λx=>pK r.again r.val x.heap)&&pK r.again r.val H
def cj(l:List Rec)(H:ad)(c:List (Nat×Nat)):Bool:=
 c.all λ(i,j)=>match l[i]?,l[j]? with
  | some x,some y=>du x.lL y.lL&&(du x.lL y.pe||yD l H y)
  | _,_=>false
def cd(l:List Rec)(aE:Nat):List Rec->Nat->Bool
 | [],_=>true
 | r::a,q=>(r.pe.all λb=>Nat.blt b aE||Nat.ble (aE+l.length) b||Nat.beq b (aE+q)||(Nat.blt b (aE+q)&&(match l[b-aE]? with | some x=>x.lL.contains b | none=>false)))&&cd l aE a (q+1)
def nZ(K:bY)(ah:Perm)(a:List aw)(b:Option jn)(e:Env)(H:ad):Option (Env×ad):=
 match b with
 | some c=>bif Nat.ble ah.ah H.next then(match hq K ah ((b7 a c.ord).map (·.2)) H.next c.fixed e ⟨H.t,H.next+a.length⟩ with
   | some (e,a,l)=>bif cj l a c.ja&&cd l H.next l 0 then some (e,a) else none
   | none=>none) else none
 | none=>none
inductive aM where
 | skip
 | bj (ops:List aw)
 | draw (ops:List aw) (Uo:Option jn)
 | seq (a b:aM)
 | cond (c:bC) (a b:aM)
 | block (id:Nat) (b:aM)
 | loop (b:aM)
 | exit (id:Nat)
 | ret
 | bad (TR:String)
structure aZ where
 hN:Nat
 body:aM
 res:List ld
section compile
variable(P:Program)(G:Nat->Bool)
def calm(o:Oper):Bool:=match o.op with
 | .call _=>true
 | _=>!(e0 P G o).dE
def mO(n:Nat)(a:Array Oper)(o:Oper):Bool:=
 (match o.dst with | some d=>decide (d<n) | none=>true)&&(match o.guard with | some (j,_)=>((a[j]?).bind (·.dst)).isSome | none=>true)&&calm P G o
def dU(n:Nat)(a:Array Oper)(o:Oper):aw:=
 if mO P G n a o then{dst:=o.dst,guard:=o.guard.map λ(j,b)=>((((a[j]?).bind (·.dst)).getD 0),b),op:=e0 P G o} else{dst:=none,guard:=none,op:=.bad "slot"}
def h5(n:Nat)(a:Array Oper):List aw:=a.toList.map (dU P G n a)
def gh(n:Nat):Code->aM
 | .skip=>.skip
 | .region _ a false=>.bj (h5 P G n a)
 | .region _ a true=>.draw (h5 P G n a) (wJ a (h5 P G n a))
 | .seq a b=>.seq (gh n a) (gh n b)
 | .cond c a b=>.cond (rand G c) (gh n a) (gh n b)
 | .block id b=>.block id (gh n b)
 | .loop b=>.loop (gh n b)
 | .exit id=>.exit id
 | .ret=>.ret
 | _=>.bad "code"
def C0:ResultVar->Bool
 | .cell _ t=>known P t
 | .tmp _=>true
def wC:ResultVar->ld
 | .tmp t=>.slot t
 | .cell a t=>.cell a (iV P t) (P.cellsOf t)
def lv(f:Func):aZ:=
 {hN:=f.ntmps,
  body:=(match f.body with | some c=>if f.ntmps<=pr/\f.results.all (C0 P)=true then gh P G f.ntmps c else .bad "wide" | none=>.bad "nobody"),
  res:=f.results.toList.map (wC P)}
end compile
inductive dS where
 | normal | exit (id:Nat) | ret
abbrev Out:=Option (dS×Env×ad)
def iter(f:Env->ad->Out):Nat->Env->ad->Out
 | 0,_,_=>none
 | n+1,e,H=>match f e H with
   | some (.normal,e,H)=>iter f n e H
   | r=>r
def eval(K:bY)(ah:Perm)(a:Nat):aM->Env->ad->Out
 | .skip,e,H=>some (.normal,e,H)
 | .bj b,e,H=>match hK K ah b e H with
   | some (e,H)=>some (.normal,e,H)
   | none=>none
 | .draw b c,e,H=>match nZ K ah b c e H with
   | some (e,H)=>some (.normal,e,H)
   | none=>none
 | .seq b c,e,H=>match eval K ah a b e H with
   | some (.normal,e,H)=>eval K ah a c e H
   | r=>r
 | .cond c b d,e,H=>match aO e c with
   | some (.bool true)=>eval K ah a b e H
   | some (.bool false)=>eval K ah a d e H
   | _=>none
 | .block id b,e,H=>match eval K ah a b e H with
   | some (.exit i,e,H)=>bif Nat.beq i id then some (.normal,e,H) else some (.exit i,e,H)
   | r=>r
 | .loop b,e,H=>iter (eval K ah a b) a e H
 | .exit id,e,H=>some (.exit id,e,H)
 | .ret,e,H=>some (.ret,e,H)
 | .bad _,_,_=>none
def mE:List Value->Nat->Env->Env
 | [],_,e=>e
 | v::l,n,e=>mE l (n+1) (e.set v n)
def ji(e:Env)(H:ad):List ld->Option (List Value)
 | []=>some []
 | r::a=>match (match r with | .slot t=>e.get t | .cell t g n=>dG H g n (e.get t)) with
   | some v=>(match ji e H a with | some l=>some (v::l) | none=>none)
   | none=>none
def f':List Value->Value
 | [v]=>v
 | l=>.tuple l.toArray
def rO(K:bY)(ah:Perm)(a:Nat)(F:aZ)(args:List Value)(H:ad):Option (Value×ad):=
 bif !Nat.ble args.length F.hN then none else match eval K ah a F.body (mE args 0 .ag) H with
 | some (.normal,e,H) | some (.ret,e,H)=>(match ji e H F.res with
   | some l=>some (f' l,H)
   | none=>none)
 | _=>none
def runK(T:Nat->Option aZ)(S:bY->bY)(a:Nat):Nat->bY
 | 0=>λ_ _ _ _=>none
 | n+1=>S λb f c H=>match T f with
   | some F=>rO (runK T S a n) b a F c H
   | none=>none
theorem cC(a b:Nat):Nat.beq a b=decide (a=b):=by
 by_cases h:a=b
 ·subst h;simp
 ·simp only[h,decide_false];cases e:Nat.beq a b
  ·rfl
  ·exact absurd (Nat.eq_of_beq_eq_true e) h
theorem cg(a b:Nat):Nat.ble a b=decide (a<=b):=by
 by_cases h:a<=b
 ·simp only[h,decide_true];exact Nat.ble_eq_true_of_le h
 ·simp only[h,decide_false];cases e:Nat.ble a b
  ·rfl
  ·exact absurd (Nat.le_of_ble_eq_true e) h
theorem fG(a b:Nat):Nat.blt a b=decide (a<b):=by
 unfold Nat.blt;rw[cg];rfl
namespace bG
variable{α:Type}
theorem qj(l:bG α)(v:Option α)(r:bG α)(k:Nat):(bG.an l v r).get k=if k=0 then v else if k%2=1 then l.get (k/2) else r.get (k/2-1):=by
 rw[get,cC,cC];by_cases h:k=0<;>by_cases a:k%2=1<;>simp[h,a]
theorem RA(x:α)(n k:Nat):one x (n+1) k=if k=0 then .an .ag (some x) .ag else if k%2=1 then .an (one x n (k/2)) none .ag else .an .ag none (one x n (k/2-1)):=by
 rw[one,cC,cC];by_cases h:k=0<;>by_cases a:k%2=1<;>simp[h,a]
theorem SH(x:α)(l:bG α)(v:Option α)(r:bG α)(k:Nat):set x (.an l v r) k=if k=0 then .an l (some x) r else if k%2=1 then .an (l.set x (k/2)) v r else .an l v (r.set x (k/2-1)):=by
 rw[set,cC,cC];by_cases h:k=0<;>by_cases a:k%2=1<;>simp[h,a]
theorem AV(k:Nat):(bG.ag:bG α).get k=none:=rfl
theorem B0(x:α):∀(n k j:Nat),k<n->(one x n k).get j=if j=k then some x else none
 | 0,_,_,_=>by omega
 | n+1,k,j,_=>by
   rw[RA];by_cases a:k=0
   ·subst a;rw[if_pos rfl,qj];simp only[AV];by_cases b:j=0<;>simp[b]
   ·rw[if_neg a];by_cases b:k%2=1
    ·rw[if_pos b,qj,B0 x n (k/2) (j/2) (by omega),AV];by_cases d:j=0
     ·subst d;simp[Ne.symm a]
     ·rw[if_neg d];by_cases c:j%2=1
      ·rw[if_pos c];by_cases e:j=k
       ·subst e;simp
       ·rw[if_neg (by omega),if_neg e]
      ·rw[if_neg c,if_neg (λ(e:j=k)=>c (e▸b))]
    ·rw[if_neg b,qj,B0 x n (k/2-1) (j/2-1) (by omega),AV];by_cases c:j=0
     ·subst c;simp[Ne.symm a]
     ·rw[if_neg c];by_cases a:j%2=1
      ·rw[if_pos a,if_neg (λ(e:j=k)=>b (e▸a))]
      ·rw[if_neg a];by_cases e:j=k
       ·subst e;simp
       ·rw[if_neg (by omega),if_neg e]
theorem jw(x:α):∀(t:bG α) (k j:Nat),(set x t k).get j=if j=k then some x else t.get j
 | .ag,k,j=>by rw[set,B0 x _ _ _ (by omega)];rfl
 | .an l _ r,k,j=>by
   rw[SH,qj];by_cases b:k=0
   ·subst b;rw[if_pos rfl,qj];by_cases a:j=0<;>simp[a]
   ·rw[if_neg b];by_cases c:k%2=1
    ·rw[if_pos c,qj,jw x l (k/2) (j/2)];by_cases d:j=0
     ·subst d;simp[Ne.symm b]
     ·rw[if_neg d,if_neg d];by_cases a:j%2=1
      ·rw[if_pos a,if_pos a];by_cases e:j=k
       ·subst e;simp
       ·rw[if_neg (by omega),if_neg e]
      ·rw[if_neg a,if_neg a,if_neg (λ(e:j=k)=>a (e▸c))]
    ·rw[if_neg c,qj,jw x r (k/2-1) (j/2-1)];by_cases a:j=0
     ·subst a;simp[Ne.symm b]
     ·rw[if_neg a,if_neg a];by_cases a:j%2=1
      ·rw[if_pos a,if_pos a,if_neg (λ(e:j=k)=>c (e▸a))]
      ·rw[if_neg a,if_neg a];by_cases e:j=k
       ·subst e;simp
       ·rw[if_neg (by omega),if_neg e]
end bG
theorem ad.O(H:ad)(b c:Nat)(x:bk):(H.put b x).get c=if c=b then some x else H.get c:=bG.jw x H.t b c
theorem ad.jZ(H:ad)(c:Nat)(x:bk):(H.new x).get c=if c=H.next then some x else H.get c:=bG.jw x H.t H.next c
structure Loc where
 aW:Nat
 d:Nat
 s:Nat
 e:Nat
abbrev aL:=Nat->Option Loc
mutual
inductive aD(γ:aL):Value->Value->Prop
 | bool (b:Bool):aD γ (.bool b) (.bool b)
 | int (k:IntKind) (n:Int):aD γ (.int k n) (.int k n)
 | str (s:ByteArray):aD γ (.string s) (.string s)
 | uQ:aD γ (.pointer none) (.pointer none)
 | pM:aD γ (.slice none 0 0) (.slice none 0 0)
 | I9:aD γ (.map none) (.map none)
 | HJ:aD γ .nilFunc .nilFunc
 | A3:aD γ .nilIface .nilIface
 | ptr {b off:Nat} {L:Loc} (h:γ b=some L):aD γ (.pointer (some ⟨b,off,none⟩)) (.pointer (some ⟨L.aW,L.d+off,none⟩))
 | fb {b off n cap cG:Nat} {L:Loc} (h:γ b=some L) (da:cap<=cG) (AY:n<=cap) (A1:cG=cap∨0<L.s/\L.d+off+cG*L.s<=L.e):
  aD γ (.slice (some ⟨b,off,none⟩) n cap) (.slice (some ⟨L.aW,L.d+off,none⟩) n cG)
 | ks {b off:Nat} {bF:Addr} {L:Loc} (h:γ b=some L):aD γ (.slice (some ⟨b,off,none⟩) 0 0) (.slice (some bF) 0 0)
 | xx {r:Nat} {L:Loc} (h:γ r=some L):aD γ (.map (some r)) (.map (some L.aW))
 | func {f:FuncId} {l aN:List Value} (h:br γ l aN):aD γ (.func (.func f) #[] ⟨l⟩) (.func (.func f) #[] ⟨aN⟩)
 | iface {t:TypeId} {v aH:Value} (h:aD γ v aH):aD γ (.iface t v) (.iface t aH)
 | agg {l aN:List Value} (h:br γ l aN):aD γ (.agg ⟨l⟩) (.agg ⟨aN⟩)
 | tuple {l aN:List Value} (h:br γ l aN):aD γ (.tuple ⟨l⟩) (.tuple ⟨aN⟩)
inductive br(γ:aL):List Value->List Value->Prop
 | nil:br γ [] []
 | cons {v aH:Value} {l aN:List Value} (h:aD γ v aH) (t:br γ l aN):br γ (v::l) (aH::aN)
end
def aL.le(γ a:aL):Prop:=∀b L,γ b=some L->a b=some L
theorem aL.le.refl(γ:aL):γ.le γ:=λ_ _ h=>h
theorem aL.le.trans{γ a b:aL}(h:γ.le a)(c:a.le b):γ.le b:=λb L e=>c b L (h b L e)
mutual
theorem aD.mono{γ a:aL}(AW:γ.le a):∀{v aH:Value},aD γ v aH->aD a v aH
 | _,_,.bool b=>.bool b
 | _,_,.int k n=>.int k n
 | _,_,.str s=>.str s
 | _,_,.uQ=>.uQ
 | _,_,.pM=>.pM
 | _,_,.I9=>.I9
 | _,_,.HJ=>.HJ
 | _,_,.A3=>.A3
 | _,_,.ptr h=>.ptr (AW _ _ h)
 | _,_,.fb h a b c=>.fb (AW _ _ h) a b c
 | _,_,.ks h=>.ks (AW _ _ h)
 | _,_,.xx h=>.xx (AW _ _ h)
 | _,_,.func h=>.func (br.mono AW h)
 | _,_,.iface h=>.iface (aD.mono AW h)
 | _,_,.agg h=>.agg (br.mono AW h)
 | _,_,.tuple h=>.tuple (br.mono AW h)
theorem br.mono{γ a:aL}(AW:γ.le a):∀{l aN:List Value},br γ l aN->br a l aN
 | _,_,.nil=>.nil
 | _,_,.cons h t=>.cons (aD.mono AW h) (br.mono AW t)
end
theorem br.length{γ:aL}:∀{l aN:List Value},br γ l aN->l.length=aN.length
 | _,_,.nil=>rfl
 | _,_,.cons _ t=>by simp[br.length t]
theorem br.get{γ:aL}:∀{l aN:List Value},br γ l aN->∀{i:Nat} {v:Value},l[i]? = some v->∃aH,aN[i]? = some aH/\aD γ v aH
 | _,_,.nil,_,_,h=>by simp at h
 | _,_,.cons h _,0,_,e=>⟨_,rfl,by simp at e;exact e▸h⟩
 | _,_,.cons _ t,i+1,_,e=>by
   obtain⟨aH,a,r⟩:=br.get t (by simpa using e);exact⟨aH,by simpa using a,r⟩
theorem br.oc{γ:aL}:∀{l aN:List Value},l.length=aN.length->(∀(i:Nat) (v aH:Value),l[i]? = some v->aN[i]? = some aH->aD γ v aH)->br γ l aN
 | [],[],_,_=>.nil
 | [],_::_,h,_=>by simp at h
 | _::_,[],h,_=>by simp at h
 | v::l,aH::aN,h,f=>.cons (f 0 v aH rfl rfl) (br.oc (by simpa using h) λi v aH a b=>f (i+1) v aH (by simpa using a) (by simpa using b))
theorem br.append{γ:aL}:∀{l aN m a:List Value},br γ l aN->br γ m a->br γ (l++m) (aN++a)
 | _,_,_,_,.nil,h=>h
 | _,_,_,_,.cons h t,g=>.cons h (br.append t g)
theorem br.take{γ:aL}:∀{l aN:List Value} (n:Nat),br γ l aN->br γ (l.take n) (aN.take n)
 | _,_,0,_=>by simp;exact .nil
 | _,_,_+1,.nil=>by simp;exact .nil
 | _,_,n+1,.cons h t=>by simp;exact .cons h (br.take n t)
theorem br.drop{γ:aL}:∀{l aN:List Value} (n:Nat),br γ l aN->br γ (l.drop n) (aN.drop n)
 | _,_,0,h=>by simpa using h
 | _,_,_+1,.nil=>by simp;exact .nil
 | _,_,n+1,.cons _ t=>by simp;exact br.drop n t
theorem aD.plainCell{γ:aL}{v:Value}(h:plainCell v=true):aD γ v v:=by
 unfold Dam.plainCell at h;split at h<;>first | constructor | (simp at h)
theorem br.plain{γ:aL}:∀{l:List Value},l.all Dam.plainCell=true->br γ l l
 | [],_=>.nil
 | v::l,h=>by
   simp only[List.all_cons,Bool.and_eq_true]at h;exact .cons (.plainCell h.1) (br.plain h.2)
theorem aD.plain{γ:aL}{v:Value}(h:ss v=true):aD γ v v:=by
 unfold ss at h;split at h
 ·rename_i a;have:=br.plain (γ:=γ) h;exact .agg (l:=a.toList) (aN:=a.toList) this
 ·exact .plainCell h
structure b0 where
 rel:World->(Nat->Prop)->Nat->wc->Prop
 qV:∀{w ao:World} {N lj:Nat->Prop} {b:Nat} {o:wc},rel w N b o->(∀c,N c->lj c/\ao.heap[c]? = w.heap[c]?)->rel ao lj b o
def cz.ok:cz->TypeId->Nat->Nat->Nat->Prop
 | .n _,_,_,_,_=>True
 | .t a,e,d,b,c=>e=a/\d=0/\b=c
theorem cz.Rp{z:cz}{e:TypeId}{d aS len:Nat}(h:∀a,z=.t a->e=a)(b:d=0)(c:aS=len):z.ok e d aS len:=by
 cases z with
 | n _=>trivial
 | t a=>exact⟨h a rfl,b,c⟩
def ev:Option bk->Prop
 | some (.cells ..) | some (.map ..) | some (.iter ..) | some (.bytes ..)=>True
 | _=>False
def fg(γ:aL)(H:ad)(w:World)(c:Nat):Prop:=c<w.heap.size/\∀b L,γ b=some L->ev (H.get b)->L.aW≠c
def lo(γ:aL)(cs:List Value)(f:Nat->Option Value):Prop:=∀(i:Nat) (v:Value),cs[i]? = some v->∃a,f i=some a/\aD γ v a
def FL(γ:aL)(x:Value×Value×Nat)(e:MapEntry):Prop:=e.key=x.1/\(∃a,ht a x.1 x.1=some true)/\aD γ x.2.1 e.val/\e.born=x.2.2
inductive gD(γ:aL):List (Value×Value×Nat)->List MapEntry->Prop
 | nil:gD γ [] []
 | cons {x:Value×Value×Nat} {e:MapEntry} {l:List (Value×Value×Nat)} {aN:List MapEntry} (h:FL γ x e) (t:gD γ l aN):gD γ (x::l) (e::aN)
def jl(O:b0)(γ:aL)(N:Nat->Prop)(w:World)(L:Loc):bk->Prop
 | .cells a z=>∃c d b,w.heap[L.aW]? = some (.cells c d b)/\(∀i,i<c.size->¬(b.1<=i/\i<b.2))/\(L.s=z.val/\z.ok d L.d c.size a.length)/\L.e<=c.size/\L.d+a.length<=L.e/\lo γ a (λi=>c[L.d+i]?)
 | .ro a=>N L.aW/\∃c b d,w.heap[L.aW]? = some (.cells c b d)/\L.s=0/\L.d+a.length<=c.size/\lo γ a (λi=>c[L.d+i]?)
 | .map b c=>∃a,w.heap[L.aW]? = some (.map a c)/\gD γ b a.toList
 | .iter s a=>w.heap[L.aW]? = some (.stringIter s a)/\L.d=0
 | .cr o=>N L.aW/\L.d=0/\O.rel w N L.aW o
 | .dead=>True
 | .bytes d b=>∃c a,w.heap[L.aW]? = some (.cells c d a)/\(∀i,i<c.size->¬(a.1<=i/\i<a.2))/\L.s=1/\L.d=0/\L.e<=c.size/\b.length<=L.e/\lo γ (cI b) (λi=>c[i]?)
structure Rel(O:b0)(base:Nat)(γ:aL)(H:ad)(w:World):Prop where
 aW:∀b L,γ b=some L->∃x,H.get b=some x/\jl O γ (fg γ H w) w L x
 lt:∀b L,γ b=some L->b<H.next
 new:∀b,H.next<=b->H.get b=none
 inj:∀b b6 L kB,γ b=some L->γ b6=some kB->ev (H.get b)->ev (H.get b6)->L.aW=kB.aW->b=b6
 low:∀b L,γ b=some L->ev (H.get b)->base<=L.aW
 size:base<=w.heap.size
structure Step(O:b0)(base:Nat)(pm:Perm)(γ:aL)(H:ad)(w:World)(dZ:aL)(aa:ad)(ao:World):Prop where
 rel:Rel O base dZ aa ao
 ext:γ.le dZ
 fresh:∀b L,dZ b=some L->γ b=none->w.heap.size<=L.aW∨∃aE FR,γ aE=some FR/\ev (H.get aE)/\pm.may aE=true/\FR.aW=L.aW
 grow:w.heap.size<=ao.heap.size
 u:∀c,c<w.heap.size->(∀b L,γ b=some L->ev (H.get b)->pm.may b=true->L.aW≠c)->ao.heap[c]? = w.heap[c]?
 next:H.next<=aa.next
 ib:∀b,b<H.next->pm.may b=false->aa.get b=H.get b
 hW:∀b L,γ b=some L->ev (aa.get b)->ev (H.get b)
 known:∀b L,dZ b=some L->γ b=none->H.next<=b∨pm.num=some b
 os:ao.os=w.os
 tape:ao.tape=w.tape
 output:ao.output=w.output
theorem gD.mono{γ a:aL}(AW:γ.le a){l:List (Value×Value×Nat)}{aN:List MapEntry}(h:gD γ l aN):gD a l aN:=by
 induction h with
 | nil=>exact .nil
 | cons h _ ih=>exact .cons ⟨h.1,h.2.1,h.2.2.1.mono AW,h.2.2.2⟩ ih
theorem jl.mono{O:b0}{γ d:aL}{N e:Nat->Prop}{w ao:World}{L:Loc}{x:bk}(h:jl O γ N w L x)(AW:γ.le d)
 (a:∀c,N c->e c/\ao.heap[c]? = w.heap[c]?) (b:ev (some x)->ao.heap[L.aW]? = w.heap[L.aW]?):jl O d e ao L x:=by
 cases x with
 | cells _ _=>
   obtain⟨c,d,e,f,g,i,j,k,l⟩:=h;exact⟨c,d,e,(b trivial).trans f,g,i,j,k,λm v n=>let ⟨d,e,f⟩:=l m v n;⟨d,e,f.mono AW⟩⟩
 | ro _=>
   obtain⟨d,c,e,f,g,i,j,k⟩:=h;exact⟨(a _ d).1,c,e,f,((a _ d).2).trans g,i,j,λl v m=>let ⟨d,e,f⟩:=k l v m;⟨d,e,f.mono AW⟩⟩
 | map _ _=>
   obtain⟨c,d,e⟩:=h;exact⟨c,(b trivial).trans d,e.mono AW⟩
 | iter _ _=>exact⟨(b trivial).trans h.1,h.2⟩
 | cr _=>exact⟨(a _ h.1).1,h.2.1,O.qV h.2.2 a⟩
 | dead=>trivial
 | bytes _ _=>
   obtain⟨c,a,d,e,f,g,i,j,k⟩:=h;exact⟨c,a,(b trivial).trans d,e,f,g,i,j,λl v m=>let ⟨a,b,d⟩:=k l v m;⟨a,b,d.mono AW⟩⟩
theorem Step.refl{O:b0}{c:Nat}{pm:Perm}{γ:aL}{H:ad}{w:World}(h:Rel O c γ H w):Step O c pm γ H w γ H w where
 rel:=h
 ext:=.refl γ
 fresh:=λd L a b=>by rw[b]at a;cases a
 grow:=bg _
 u:=λ_ _ _=>rfl
 next:=bg _
 ib:=λ_ _ _=>rfl
 hW:=λ_ _ _ h=>h
 known:=λd L a b=>by rw[b]at a;cases a
 os:=rfl
 tape:=rfl
 output:=rfl
theorem Step.yJ{O:b0}{i:Nat}{pm:Perm}{m:Option Nat}{γ e o:aL}{H p q:ad}{w s t:World}
 (h:Step O i pm γ H w e p s) (g:Step O i ⟨pm.ah,pm.ok,m⟩ e p s o q t) (y:∀b,m=some b->H.next<=b∨pm.num=some b):Step O i pm γ H w o q t where
 rel:=g.rel
 ext:=h.ext.trans g.ext
 fresh:=λb L f j=>by
  cases k:e b with
  | some l=>
    have a:=g.ext b l k;rw[f]at a;cases a;exact h.fresh b L k j
  | none=>
    rcases g.fresh b L f k with c | ⟨a,l,u,w,z,m⟩
    ·exact .inl (aY h.grow c)
    ·cases b:γ a with
     | some A=>
       have g:=h.ext a A b;rw[u]at g;cases g;exact .inr ⟨a,l,b,h.hW a l b w,z,m⟩
     | none=>
       rcases h.fresh a l u b with c | ⟨g,A,B,C,D,E⟩
       ·exact .inl (m▸c)
       ·exact .inr ⟨g,A,B,C,D,E.trans m⟩
 grow:=aY h.grow g.grow
 u:=λc v n=>by
  rw[g.u c (eC v h.grow) ?_,h.u c v n];intro b L k r m
  cases a:γ b with
  | some l=>
    have g:=h.ext b l a;rw[k]at g;cases g;exact n b L a (h.hW b L a r) m
  | none=>
    have g:=h.fresh b L k a
    rcases g with g | ⟨l,m,u,w,z,A⟩
    ·intro _;omega
    ·exact A▸n l m u w z
 next:=aY h.next g.next
 ib:=λb d x=>(g.ib b (eC d h.next) x).trans (h.ib b d x)
 hW:=λb L d r=>h.hW b L d (g.hW b L (h.ext b L d) r)
 known:=λb L f j=>by
  cases a:e b with
  | some g=>exact h.known b g a j
  | none=>
    rcases g.known b L f a with c | c
    ·exact .inl (aY h.next c)
    ·exact y b c
 os:=g.os.trans h.os
 tape:=g.tape.trans h.tape
 output:=g.output.trans h.output
theorem Step.trans{O:b0}{a:Nat}{pm:Perm}{γ b c:aL}{H d e:ad}{w f i:World}
 (h:Step O a pm γ H w b d f) (g:Step O a pm b d f c e i) (_:Rel O a γ H w):Step O a pm γ H w c e i:=h.yJ g λ_=>.inr
theorem Step.drawn{O:b0}{d:Nat}{pm:Perm}{γ:aL}{H:ad}{w:World}(h:Rel O d γ H w)(n:Nat):Step O d pm γ H w γ H {w with drawn:=n} where
 rel:=⟨λc L e=>by
    obtain⟨x,a,b⟩:=h.aW c L e;exact⟨x,a,b.mono (.refl γ) (λ_ f=>⟨f,rfl⟩) (λ_=>rfl)⟩,h.lt,h.new,h.inj,h.low,h.size⟩
 ext:=.refl γ
 fresh:=λc L a b=>by rw[b]at a;cases a
 grow:=bg _
 u:=λ_ _ _=>rfl
 next:=bg _
 ib:=λ_ _ _=>rfl
 hW:=λ_ _ _ h=>h
 known:=λc L a b=>by rw[b]at a;cases a
 os:=rfl
 tape:=rfl
 output:=rfl
def aL.set(γ:aL)(b:Nat)(L:Loc):aL:=λk=>if k=b then some L else γ k
theorem aL.fa(γ:aL)(b:Nat)(L:Loc):γ.set b L b=some L:=by simp[aL.set]
theorem aL.fZ(γ:aL){b k:Nat}(L:Loc)(h:k≠b):γ.set b L k=γ k:=by simp[aL.set,h]
theorem Rel.TM{O:b0}{a:Nat}{γ:aL}{H:ad}{w:World}(h:Rel O a γ H w){b:Nat}(a:H.next<=b):γ b=none:=by
 cases e:γ b with
 | none=>rfl
 | some L=>have:=h.lt b L e;omega
theorem Rel.IK{O:b0}{a:Nat}{γ:aL}{H:ad}{w:World}(h:Rel O a γ H w)(L:Loc):γ.le (γ.set H.next L):=by
 intro b a e;have:=h.lt b a e;rw[aL.fZ _ _ (by omega)];exact e
def Perm.X(pm:Perm)(γ:aL)(H:ad):Prop:=∀b,pm.num=some b->b<H.next/\γ b=none/\pm.may b=true
theorem Perm.X.none{pm:Perm}{γ:aL}{H:ad}(h:pm.num=none):pm.X γ H:=λ_ e=>by rw[h]at e;cases e
theorem Perm.lE(pm:Perm)(H:ad)(x:bk)(c:Nat):(pm.make H x).get c=if c=pm.pick H then some x else H.get c:=by
 unfold Perm.make Perm.pick
 cases pm.num with
 | none=>exact ad.jZ H c x
 | some b=>exact ad.O H b c x
theorem Perm.X.uH{O:b0}{a:Nat}{pm:Perm}{γ:aL}{H:ad}{w:World}(b:pm.X γ H)(h:Rel O a γ H w):γ (pm.pick H)=Option.none:=by
 unfold Perm.pick
 cases e:pm.num with
 | none=>exact h.TM (bg _)
 | some a=>exact(b a e).2.1
theorem Perm.X.next{pm:Perm}{γ:aL}{H:ad}(a:pm.X γ H)(x:bk):H.next<=(pm.make H x).next/\pm.pick H<(pm.make H x).next:=by
 unfold Perm.pick Perm.make
 cases e:pm.num with
 | none=>exact⟨oo _,nd _⟩
 | some b=>exact⟨bg _,(a b e).1⟩
theorem Perm.X.may{pm:Perm}{γ:aL}{H:ad}(a:pm.X γ H)(h:pm.pick H<H.next):pm.may (pm.pick H)=true:=by
 unfold Perm.pick at h|-
 cases e:pm.num with
 | none=>rw[e]at h;exact absurd h (Nat.lt_irrefl _)
 | some b=>exact(a b e).2.2
theorem Perm.J8(pm:Perm)(H:ad):H.next<=pm.pick H∨pm.num=some (pm.pick H):=by
 unfold Perm.pick
 cases pm.num with
 | none=>exact .inl (bg _)
 | some _=>exact .inr rfl
theorem aL.BE{γ:aL}{b:Nat}(h:γ b=none)(L:Loc):γ.le (γ.set b L):=by
 intro _ _ e;rw[aL.fZ _ _ (by intro q;subst q;rw[h]at e;cases e)];exact e
theorem Step.alloc{O:b0}{p:Nat}{pm:Perm}{γ:aL}{H:ad}{w:World}(h:Rel O p γ H w)(f:pm.X γ H)(x:bk)(o:Obj)(s e:Nat)
 (i:∀(N:Nat->Prop) (t:aL),γ.le t->jl O t N {w with heap:=w.heap.push o} ⟨w.heap.size,0,s,e⟩ x):
 Step O p pm γ H w (γ.set (pm.pick H) ⟨w.heap.size,0,s,e⟩) (pm.make H x) {w with heap:=w.heap.push o} where
 rel:=by
  have u:=aL.BE (f.uH h) ⟨w.heap.size,0,s,e⟩;have A:∀d,fg γ H w d->fg (γ.set (pm.pick H) ⟨w.heap.size,0,s,e⟩) (pm.make H x) {w with heap:=w.heap.push o} d/\({w with heap:=w.heap.push o}:World).heap[d]? = w.heap[d]?:=by
   intro d j;refine⟨⟨by simpa using Nat.lt_succ_of_lt j.1,λb L a r=>?_⟩,by simp[qR,Nat.ne_of_lt j.1]⟩;by_cases c:b=(pm.pick H)
   ·subst c;rw[aL.fa]at a;cases a;exact Nat.ne_of_gt j.1
   ·rw[aL.fZ _ _ c]at a;rw[Perm.lE,aC c]at r;exact j.2 b L a r
  refine⟨λb L a=>?_,λb L a=>?_,λb c=>?_,λb k L n a g v y q=>?_,λb L a r=>?_,?_⟩
  ·by_cases c:b=(pm.pick H)
   ·subst c;rw[aL.fa]at a;cases a;exact⟨x,by rw[Perm.lE,aT rfl],i _ _ u⟩
   ·rw[aL.fZ _ _ c]at a;obtain⟨l,m,e⟩:=h.aW b L a;refine⟨l,by rw[Perm.lE,aC c,m],e.mono u A λr=>?_⟩;have o:L.aW<w.heap.size:=by
     cases l<;>simp only[ev]at r<;>simp only[jl]at e
     ·obtain⟨d,_,_,h,_⟩:=e;exact(e'.1 h).1
     ·obtain⟨_,h,_⟩:=e;exact(e'.1 h).1
     ·exact(e'.1 e.1).1
     ·obtain⟨d,_,h,_⟩:=e;exact(e'.1 h).1
    simp[qR,Nat.ne_of_lt o]
  ·by_cases c:b=(pm.pick H)
   ·subst c;exact(f.next x).2
   ·rw[aL.fZ _ _ c]at a;exact eC (h.lt b L a) (f.next x).1
  ·have e:=f.next x;rw[Perm.lE,aC (by omega)];exact h.new b (by omega)
  ·have l:∀b L,γ.set (pm.pick H) ⟨w.heap.size,0,s,e⟩ b=some L->b≠(pm.pick H)->ev ((pm.make H x).get b)->γ b=some L/\ev (H.get b)/\L.aW<w.heap.size:=by
    intro b L a c r;rw[aL.fZ _ _ c]at a;rw[Perm.lE,aC c]at r;refine⟨a,r,?_⟩;obtain⟨m,o,e⟩:=h.aW b L a;rw[o]at r;cases m<;>simp only[ev]at r<;>simp only[jl]at e
    ·obtain⟨d,_,_,h,_⟩:=e;exact(e'.1 h).1
    ·obtain⟨_,h,_⟩:=e;exact(e'.1 h).1
    ·exact(e'.1 e.1).1
    ·obtain⟨d,_,h,_⟩:=e;exact(e'.1 h).1
   by_cases e:b=(pm.pick H)<;>by_cases m:k=(pm.pick H)
   ·rw[e,m]
   ·have:=l k n g m y;rw[e,aL.fa]at a;cases a;simp only at q;omega
   ·have:=l b L a e v;rw[m,aL.fa]at g;cases g;simp only at q;omega
   ·have o:=l b L a e v;have s:=l k n g m y;exact h.inj b k L n o.1 s.1 o.2.1 s.2.1 q
  ·by_cases e:b=(pm.pick H)
   ·subst e;rw[aL.fa]at a;cases a;exact h.size
   ·rw[aL.fZ _ _ e]at a;rw[Perm.lE,aC e]at r;exact h.low b L a r
  ·simpa using Nat.le_succ_of_le h.size
 ext:=aL.BE (f.uH h) _
 fresh:=λb L a g=>by
  by_cases c:b=(pm.pick H)
  ·subst c;rw[aL.fa]at a;cases a;exact .inl (bg _)
  ·rw[aL.fZ _ _ c,g]at a;cases a
 grow:=by simp
 u:=λd j _=>by simp[qR,Nat.ne_of_lt j]
 next:=(f.next x).1
 ib:=λb i z=>by
  rw[Perm.lE,aC];intro q;subst q;rw[f.may i]at z;cases z
 hW:=λb L i r=>by
  rwa [Perm.lE,aC (by intro q;subst q;rw[f.uH h]at i;cases i)]at r
 known:=λb L a g=>by
  by_cases c:b=pm.pick H
  ·subst c;exact pm.J8 H
  ·rw[aL.fZ _ _ c,g]at a;cases a
 os:=rfl
 tape:=rfl
 output:=rfl
theorem jl.lt{O:b0}{γ:aL}{N:Nat->Prop}{w:World}{L:Loc}{x:bk}(h:jl O γ N w L x)(a:ev (some x)):L.aW<w.heap.size:=by
 cases x<;>simp only[ev]at a<;>simp only[jl]at h
 ·obtain⟨_,_,_,a,_⟩:=h;exact(e'.1 a).1
 ·obtain⟨_,a,_⟩:=h;exact(e'.1 a).1
 ·exact(e'.1 h.1).1
 ·obtain⟨_,_,a,_⟩:=h;exact(e'.1 a).1
theorem Step.write{O:b0}{n:Nat}{pm:Perm}{γ:aL}{H:ad}{w ao:World}(h:Rel O n γ H w){b:Nat}{L:Loc}{x:bk}(rK:γ b=some L)(g:ev (H.get b))(o:pm.may b=true)
 (p:ao.heap.size=w.heap.size) (l:∀c,c≠L.aW->ao.heap[c]? = w.heap[c]?) (v:ao.os=w.os) (y:ao.tape=w.tape) (z:ao.output=w.output)
 (A:∀(N:Nat->Prop),jl O γ N ao L x):
 Step O n pm γ H w γ (H.put b x) ao where
 rel:=by
  have j:∀k,ev ((H.put b x).get k)->ev (H.get k):=λk r=>by
   rw[ad.O]at r;by_cases a:k=b
   ·subst a;exact g
   ·rwa [aC a]at r
  have u:∀c,fg γ H w c->fg γ (H.put b x) ao c/\ao.heap[c]? = w.heap[c]?:=λc m=>
   ⟨⟨p▸m.1,λk d e r=>m.2 k d e (j k r)⟩,l c (Ne.symm (m.2 b L rK g))⟩
  refine⟨λk d e=>?_,λk d e=>h.lt k d e,λk a=>?_,λk s B C f i D E q=>h.inj k s B C f i (j k D) (j s E) q,λk d e r=>h.low k d e (j k r),by rw[p];exact h.size⟩
  ·by_cases a:k=b
   ·subst a;rw[rK]at e;cases e;exact⟨x,by simp[ad.O],A _⟩
   ·obtain⟨w,c,x⟩:=h.aW k d e;refine⟨w,by rw[ad.O,aC a,c],x.mono (.refl γ) u λr=>l _ λq=>?_⟩;exact a (h.inj k b d L e rK (c▸r) g q)
  ·have c:H.next<=k:=a;have:=h.lt b L rK;rw[ad.O,aC (by omega)];exact h.new k c
 ext:=.refl γ
 fresh:=λk d f i=>by rw[i]at f;cases f
 grow:=by omega
 u:=λc _ a=>l c (Ne.symm (a b L rK g o))
 next:=bg _
 ib:=λk _ t=>by
  rw[ad.O,aC];intro e;subst e;rw[o]at t;cases t
 hW:=λk _ _ r=>by
  rw[ad.O]at r;by_cases a:k=b
  ·subst a;exact g
  ·rwa [aC a]at r
 known:=λk d f i=>by rw[i]at f;cases f
 os:=v
 tape:=y
 output:=z
theorem Step.I'{O:b0}{y:Nat}{pm:Perm}{γ:aL}{H:ad}{w ao:World}(h:Rel O y γ H w)(m:pm.X γ H){b:Nat}{L kB:Loc}{x:bk}(rK:γ b=some L)(g:ev (H.get b))(s:pm.may b=true)
 (j:kB.aW=L.aW) (z:ao.heap.size=w.heap.size) (t:∀c,c≠L.aW->ao.heap[c]? = w.heap[c]?) (D:ao.os=w.os) (E:ao.tape=w.tape) (F:ao.output=w.output)
 (G:∀(N:Nat->Prop) (A:aL),γ.le A->jl O A N ao kB x):
 Step O y pm γ H w (γ.set (pm.pick H) kB) (pm.make (H.put b .dead) x) ao:=by
 have P:b≠pm.pick H:=λq=>by have:=m.uH h;rw[<-q,rK]at this;cases this
 have I:pm.pick (H.put b .dead)=pm.pick H:=rfl;have B:=m.uH h;have J:H.next<=(pm.make (H.put b .dead) x).next/\pm.pick H<(pm.make (H.put b .dead) x).next:=Perm.X.next (H:=H.put b .dead) m x;have i:∀k,(pm.make (H.put b .dead) x).get k=if k=pm.pick H then some x else if k=b then some .dead else H.get k:=λk=>by
  rw[Perm.lE,ad.O,I]
 have v:=aL.BE B kB;have n:∀k d,γ.set (pm.pick H) kB k=some d->ev ((pm.make (H.put b .dead) x).get k)->(k=pm.pick H/\d=kB)∨(k≠pm.pick H/\k≠b/\γ k=some d/\ev (H.get k)):=λk d e r=>by
  by_cases a:k=pm.pick H
  ·subst a;rw[aL.fa]at e;cases e;exact .inl ⟨rfl,rfl⟩
  ·rw[aL.fZ _ _ a]at e;rw[i,aC a]at r;by_cases c:k=b
   ·rw[aT c]at r;exact r.elim
   ·rw[aC c]at r;exact .inr ⟨a,c,e,r⟩
 have K:∀c,fg γ H w c->fg (γ.set (pm.pick H) kB) (pm.make (H.put b .dead) x) ao c/\ao.heap[c]? = w.heap[c]?:=λc o=>
  ⟨⟨z▸o.1,λk d e r=>by
    rcases n k d e r with⟨_,rfl⟩ | ⟨_,_,qf,bn⟩
    ·rw[j];exact o.2 b L rK g
    ·exact o.2 k d qf bn⟩,t c (Ne.symm (o.2 b L rK g))⟩
 exact{
  rel:=by
   refine⟨λk d e=>?_,λk d e=>?_,λk a=>?_,λk c u w f l M N q=>?_,λk d e r=>?_,by rw[z];exact h.size⟩
   ·by_cases a:k=pm.pick H
    ·subst a;rw[aL.fa]at e;cases e;exact⟨x,by rw[i,aT rfl],G _ _ v⟩
    ·rw[aL.fZ _ _ a]at e;by_cases x:k=b
     ·exact⟨.dead,by rw[i,aC a,aT x],trivial⟩
     ·obtain⟨H,C,O⟩:=h.aW k d e;refine⟨H,by rw[i,aC a,aC x,C],O.mono v K λr=>t _ λq=>?_⟩;exact x (h.inj k b d L e rK (C▸r) g q)
   ·by_cases a:k=pm.pick H
    ·omega
    ·rw[aL.fZ _ _ a]at e;have:=h.lt k d e;omega
   ·have:=h.lt b L rK;rw[i,aC (by omega),aC (by omega)];exact h.new k (by omega)
   ·rcases n k u f M with⟨zt,rfl⟩ | ⟨zt,a2,a3,a4⟩<;>rcases n c w l N with⟨GI,rfl⟩ | ⟨GI,Ni,GJ,GK⟩
    ·rw[zt,GI]
    ·exact absurd (h.inj c b w L GJ rK GK g (q.symm.trans j)) Ni
    ·exact absurd (h.inj k b u L a3 rK a4 g (q.trans j)) a2
    ·exact h.inj k c u w a3 GJ a4 GK q
   ·rcases n k d e r with⟨_,rfl⟩ | ⟨_,_,qf,bn⟩
    ·rw[j];exact h.low b L rK g
    ·exact h.low k d qf bn
  ext:=v
  fresh:=λk d f l=>by
   by_cases a:k=pm.pick H
   ·subst a;rw[aL.fa]at f;cases f;exact .inr ⟨b,L,rK,g,s,j.symm⟩
   ·rw[aL.fZ _ _ a,l]at f;cases f
  grow:=by omega
  u:=λc _ a=>t c (Ne.symm (a b L rK g s))
  next:=J.1
  ib:=λk a p=>by
   rw[i,aC,aC]
   ·intro e;subst e;rw[s]at p;cases p
   ·intro e;subst e;rw[m.may a]at p;cases p
  hW:=λk d a r=>by
   rw[i,aC (by intro e;subst e;rw[B]at a;cases a)]at r;by_cases c:k=b
   ·rw[aT c]at r;exact r.elim
   ·rwa [aC c]at r
  known:=λk d f l=>by
   by_cases a:k=pm.pick H
   ·subst a;exact pm.J8 H
   ·rw[aL.fZ _ _ a,l]at f;cases f
  os:=D
  tape:=E
  output:=F}
theorem Step.weaken{O:b0}{a:Nat}{pm dC:Perm}{γ i:aL}{H aa:ad}{w ao:World}(h:Step O a pm γ H w i aa ao)(j:Rel O a γ H w)
 (c:∀b,b<H.next->pm.may b=true->dC.may b=true) (n:∀b,pm.num=some b->H.next<=b∨dC.num=some b):Step O a dC γ H w i aa ao where
 rel:=h.rel
 ext:=h.ext
 fresh:=λb L d f=>by
  exact(h.fresh b L d f).imp id λ⟨g,k,x,y,z,q⟩=>⟨g,k,x,y,c g (j.lt g k x) z,q⟩
 grow:=h.grow
 u:=λo p r=>h.u o p λb L e s t=>r b L e s (c b (j.lt b L e) t)
 next:=h.next
 ib:=λb l m=>h.ib b l (by
  cases e:pm.may b with
  | false=>rfl
  | true=>rw[c b l e]at m;cases m)
 hW:=h.hW
 known:=λb L d f=>(h.known b L d f).elim .inl (n b)
 os:=h.os
 tape:=h.tape
 output:=h.output
structure cW(γ:aL)(n:Nat)(e:Env)(a:Act):Prop where
 size:n<=a.tmps.size
 G:n<=pr
 defers:a.defers=[]
 get:∀t v,e.get t=some v->t<n/\aD γ v (a.tmps.getD t undef)
def eF(G:Nat->Bool)(γ:aL):Prop:=∀g,G g=true->∃L,γ g=some L/\L.aW=g/\L.d=0
theorem Hw{γ:aL}{n:Nat}{e:Env}{a:Act}(h:cW γ n e a):e.get pr=none:=by
 cases x:e.get pr with
 | none=>rfl
 | some _=>have:=(h.get _ _ x).1;have:=h.G;omega
theorem b'{γ:aL}{n:Nat}{e:Env}{a:Act}{G:Nat->Bool}(h:cW γ n e a)(c:eF G γ)(r:Operand){v:Value}(b:aO e (rand G r)=some v):aD γ v (a.eval r):=by
 cases r with
 | tmp t=>exact(h.get t v b).2
 | const _=>
   simp only[rand]at b;split at b
   ·rename_i d;simp only[aO,ax]at b;exact b▸aD.plain d
   ·simp only[aO,Hw h]at b;cases b
 | global g=>
   simp only[rand]at b;split at b
   ·rename_i f;obtain⟨_,a,e,h⟩:=c g f;simp only[aO,ax]at b;subst b;have:=aD.ptr (γ:=γ) (off:=0) a;rw[e,h]at this;exact this
   ·simp only[aO,Hw h]at b;cases b
 | func _=>
   simp only[rand,aO,ax]at b;subst b;exact .func .nil
theorem ni{pm:Perm}{H aa:ad}{o:Option Value}{v:Value}(h:(eT o).run pm H=some (v,aa)):o=some v/\aa=H:=by
 cases o with
 | none=>simp[eT,aQ.run]at h
 | some _=>simp only[eT,aQ.run,ax,bT]at h;exact⟨by rw[h.1],h.2.symm⟩
theorem db{pm:Perm}{H aa:ad}{u v:Value}(h:(aQ.ret u).run pm H=some (v,aa)):u=v/\aa=H:=by
 simp only[aQ.run,ax,bT]at h;exact⟨h.1,h.2.symm⟩
theorem run_get{pm:Perm}{H:ad}{r:Value×ad}{b:Nat}{k:bk->aQ}(h:(aQ.get b k).run pm H=some r):∃x,H.get b=some x/\(k x).run pm H=some r:=by
 simp only[aQ.run]at h;split at h
 ·exact⟨_,by assumption,h⟩
 ·cases h
theorem nh{pm:Perm}{H:ad}{r:Value×ad}{b:Nat}{x:bk}{k:aQ}(h:(aQ.put b x k).run pm H=some r):pm.may b=true/\k.run pm (H.put b x)=some r:=by
 simp only[aQ.run]at h
 cases e:pm.may b with
 | true=>rw[e]at h;exact⟨rfl,h⟩
 | false=>rw[e]at h;cases h
theorem ba{pm:Perm}{H:ad}{r:Value×ad}(h:aQ.fail.run pm H=some r):False:=by cases h
theorem iz{pm:Perm}{H:ad}{r:Value×ad}{c:Bool}{x:aQ}(h:(bif c then x else .fail).run pm H=some r):c=true/\x.run pm H=some r:=by
 cases c with
 | true=>exact⟨rfl,h⟩
 | false=>cases h
theorem eI{pm:Perm}{H:ad}{r:Value×ad}{o:Option Value}{k:Value->aQ}(h:(cS o k).run pm H=some r):∃v,o=some v/\(k v).run pm H=some r:=by
 cases o with
 | none=>cases h
 | some v=>exact⟨v,rfl,h⟩
theorem my{w:World}{b i:Nat}{c:Array Value}{t:TypeId}{a:Nat×Nat}(h:w.heap[b]? = some (.cells c t a)):w.cell? ⟨b,i,none⟩=c[i]?:=cell_of_row w b i c t a h
theorem add_eq(b off j:Nat):(⟨b,off,none⟩:Addr).add j=⟨b,off+j,none⟩:=by
 unfold Addr.add;split
 ·rename_i h;subst h;rfl
 ·rfl
theorem Rel.row{O:b0}{j:Nat}{γ:aL}{H:ad}{w:World}(h:Rel O j γ H w){b:Nat}{L:Loc}{x:bk}{cs:List Value}(rK:γ b=some L)(j:H.get b=some x)(f:rowOf x=some cs):
 ∃c d e,w.heap[L.aW]? = some (.cells c d e)/\L.d+cs.length<=c.size/\lo γ cs (λi=>c[L.d+i]?):=by
 obtain⟨_,a,g⟩:=h.aW b L rK;rw[j]at a;cases a;cases x<;>simp only[rowOf,ax,reduceCtorEq]at f
 ·subst f;obtain⟨c,d,e,a,_,_,_,_,b⟩:=g;exact⟨c,d,e,a,by omega,b⟩
 ·subst f;obtain⟨_,c,d,e,a,_,b,f⟩:=g;exact⟨c,d,e,a,b,f⟩
theorem lo.IU{γ:aL}{cs:List Value}{c:Array Value}{d off n:Nat}(h:lo γ cs (λi=>c[d+i]?))(a:off+n<=cs.length):
 br γ ((cs.drop off).take n) ((List.range n).map λj=>(c[d+off+j]?).getD undef):=by
 refine br.oc (by simp;omega) λi _ _ b a=>?_;have e:i<n:=by
  have:=(je.1 a).1;simpa using this
 rw[kZ e,ki]at b;obtain⟨u,f,g⟩:=h _ _ b;simp only[iw,pF e,gL,ax]at a;have b:c[d+off+i]? = some u:=by rw[<-f];show c[d+off+i]? = c[d+(off+i)]?;rw[l1]
 rw[b]at a;exact a▸g
theorem aD.cells{γ:aL}{v aH:Value}(h:aD γ v aH):br γ v.cells.toList aH.cells.toList:=by
 cases h<;>first | exact .cons (by constructor<;>assumption) .nil | skip
 all_goals assumption
theorem aD.one{γ:aL}{v aH:Value}(h:aD γ v aH):c6 v=c6 aH:=by cases h<;>rfl
theorem ys{P:Program}{b off:Nat}{f:TypeId}{a:Nat×Nat}:∀(az:List Value) (i:Nat) (w:World) (c:Array Value),w.heap[b]? = some (.cells c f a)->(∀k,k<c.size->¬(a.1<=k/\k<a.2))->
 az.all c6=true->off+i+az.length<=c.size->
 ∃ao d,(storeCells ⟨b,off,none⟩ az i).run P w=.ok () ao/\ao.heap[b]? = some (.cells d f a)/\d.size=c.size/\
  (∀k,d[k]? = if off+i<=k/\k<off+i+az.length then az[k-(off+i)]? else c[k]?)/\
  ao.heap.size=w.heap.size/\(∀k,k≠b->ao.heap[k]? = w.heap[k]?)/\ao.os=w.os/\ao.tape=w.tape/\ao.output=w.output
 | [],i,w,c,h,_,_,_=>⟨w,c,rfl,h,rfl,λk=>by rw[aC (by simp)],rfl,λ_ _=>rfl,rfl,rfl,rfl⟩
 | v::az,i,w,c,h,l,g,m=>by
   simp only[nc,b3]at g;simp only[gu]at m;have j:off+i<c.size:=by omega
   have n:w.cell? ⟨b,off+i,none⟩=some c[off+i]:=by rw[my h];exact kh j
   have o:w.frozen? ⟨b,off+i,none⟩=false:=by
    simp only[World.frozen?,h];have:=l (off+i) j;simpa using this
   have p:v.oneCell'=true:=by
    have:=g.1;cases v<;>first | rfl | (simp[c6]at this)
   have m:(w.setCell ⟨b,off+i,none⟩ v).heap[b]? = some (.cells (c.setIfInBounds (off+i) v) f a):=by
    simp[World.setCell,CF,h]
   obtain⟨ao,d,a,f,h,q,r,s,t,u,x⟩:=ys (P:=P) (off:=off) az (i+1) (w.setCell ⟨b,off+i,none⟩ v) (c.setIfInBounds (off+i) v) m (by simpa using l) g.2 (by rw[Array.size_setIfInBounds];omega);refine⟨ao,d,?_,f,by simpa using h,λk=>?_,by simpa using r,λk e=>?_,t,u,x⟩
   ·simp only[storeCells,Sem.run_bind,add_eq,run_store P w ⟨b,off+i,none⟩ v .plain p,n,o];simpa using a
   ·rw[q k];simp only[gu];by_cases e:k=off+i
    ·subst e;rw[aC (by omega),aT (by omega)];simp[j]
    ·by_cases a:off+i<=k/\k<off+i+(az.length+1)
     ·rw[aT (by omega),aT a,show k-(off+i)=(k-(off+(i+1)))+1 by omega,ou]
     ·rw[aC (by omega),aC a];simp[sD (show off+i≠k from Ne.symm e)]
   ·rw[s k e];simp[World.setCell,CF,Ne.symm e]
theorem Dc{cs a az:List Value}{off:Nat}(h:setCells cs off az=some a):off+az.length<=cs.length/\a.length=cs.length/\∀k,a[k]? = if off<=k/\k<off+az.length then az[k-off]? else cs[k]?:=by
 unfold setCells at h;rw[cg]at h;by_cases b:off+az.length<=cs.length
 ·simp only[b,decide_true,cond_true,ax]at h;subst h;refine⟨b,by simp;omega,λk=>?_⟩;by_cases a:k<off
  ·rw[aC (by omega),hi (by simp;omega),kZ a]
  ·rw[hR (by simp;omega)];simp only[k4,pB (show off<=cs.length by omega)];by_cases a:k<off+az.length
   ·rw[aT (by omega),hi (by omega)]
   ·rw[aC (by omega),hR (by omega),ki];congr 1;omega
 ·simp only[b,decide_false,cond_false,reduceCtorEq]at h
theorem um{cs l:List Value}{off n:Nat}(h:bx cs off n=some l):off+n<=cs.length/\l=(cs.drop off).take n:=by
 unfold bx at h;rw[cg]at h;by_cases a:off+n<=cs.length
 ·simp only[a,decide_true,cond_true,ax]at h;exact⟨a,h.symm⟩
 ·simp only[a,decide_false,cond_false,reduceCtorEq]at h
theorem br.zw{γ:aL}:∀{l aN:List Value},br γ l aN->l.all c6=aN.all c6
 | _,_,.nil=>rfl
 | _,_,.cons h t=>by simp only[nc,h.one,br.zw t]
theorem Rel.store{O:b0}{d:Nat}{γ:aL}{H:ad}{w:World}{P:Program}{pm:Perm}(h:Rel O d γ H w){b off:Nat}{z:cz}{L:Loc}{cs e az a:List Value}(rK:γ b=some L)(f:H.get b=some (.cells cs z))
 (i:setCells cs off az=some e) (c:br γ az a) (k:az.all c6=true) (l:pm.may b=true):
 ∃ao,(storeCells ⟨L.aW,L.d+off,none⟩ a).run P w=.ok () ao/\Step O d pm γ H w γ (H.put b (.cells e z)) ao:=by
 obtain⟨_,g,j⟩:=h.aW b L rK;rw[f]at g;cases g;obtain⟨m,n,o,p,d,q,_,_,r⟩:=j;obtain⟨_,s,t⟩:=Dc i;have e:=c.length;obtain⟨ao,e,i,u,g,j,v,x,y,A,B⟩:=ys (P:=P) (b:=L.aW) (off:=L.d+off) a 0 w m p d (c.zw▸k) (by omega);refine⟨ao,i,Step.write h rK (by rw[f];trivial) l v x y A B λ_=>⟨e,n,o,u,by rw[g];exact d,by rw[g,s];exact q,by omega,by omega,λi v a=>?_⟩⟩;rw[t i]at a;simp only[Nat.add_zero]at j;show ∃d,e[L.d+i]? = some d/\_;rw[j (L.d+i)];by_cases d:off<=i/\i<off+az.length
 ·rw[aT d]at a;rw[aT (by omega),show L.d+i-(L.d+off)=i-off by omega];exact c.get a
 ·rw[aC d]at a;rw[aC (by omega)];exact r i v a
section
variable{O:b0}{P:Program}{base:Nat}{pm:Perm}{γ:aL}{H aa:ad}{w:World}
def eK(O:b0)(P:Program)(base:Nat)(pm:Perm)(γ:aL)(H:ad)(w:World)(s:Sem Next)(v:Value)(aa:ad):Prop:=
 ∃a b c d,s.run P w=.ok a c/\(a=.value b∨a=.skip/\b=undef)/\aD d v b/\Step O base pm γ H w d aa c
theorem KN{s:Sem Value}{aH:Value}{ao:World}(h:s.run P w=.ok aH ao):(do pure (Next.value (<-s)):Sem Next).run P w=.ok (.value aH) ao:=by
 simp[h]
theorem eK.pure(a:Rel O base γ H w){s:Sem Next}{v aH:Value}(h:s.run P w=.ok (.value aH) w)(b:aD γ v aH):eK O P base pm γ H w s v H:=
 ⟨_,aH,w,γ,h,.inl rfl,b,Step.refl a⟩
theorem eK.val(a:Rel O base γ H w){s:Sem Value}{v aH:Value}(h:s.run P w=.ok aH w)(b:aD γ v aH)(c:aa=H):eK O P base pm γ H w (do Pure.pure (Next.value (<-s))) v aa:=
 by subst c;exact .pure a (KN h) b
theorem rY{t:TypeId}(h:known P t=true):∃d,P.underlying t=some d:=u7.1 h
theorem Pw{t:TypeId}(h:known P t=true):∃i,P.info? t=some i:=by
 obtain⟨_,a⟩:=rY h;unfold Program.underlying at a
 cases e:P.info? t with
 | none=>rw[e]at a;cases a
 | some i=>exact⟨i,rfl⟩
theorem cD{t:TypeId}{d:TypeDesc}(h:P.underlying t=some d):(underlying t).run P w=.ok d w:=by simp[underlying,h]
theorem yt{t:TypeId}{i:TypeInfo}(h:P.info? t=some i):(typeInfo t).run P w=.ok i w:=by simp[typeInfo,h]
theorem hl{t:TypeId}(h:known P t=true):(sizeOf t).run P w=.ok (P.cellsOf t) w:=by
 obtain⟨_,a⟩:=Pw h;simp[sizeOf,yt a,Program.cellsOf,a]
theorem C6{t:TypeId}(h:known P t=true):(isAgg t).run P w=.ok (iV P t) w:=by
 obtain⟨d,a⟩:=rY h;simp only[isAgg,Sem.run_bind,cD a,Result.andThen_ok,iV,a];cases d<;>rfl
theorem ky{t:TypeId}{z:Value}(h:zeroOf P t=some z):(∃i,P.info? t=some i/\i.zero=some z)/\ss z=true/\z.cells.size=P.cellsOf t/\known P t=true:=by
 unfold zeroOf at h;split at h
 ·rename_i _ e;split at h
  ·rename_i a;simp only[ax]at h;subst h;simp only[b3,lV]at a;refine⟨?_,a.1.1,a.1.2,a.2⟩
   cases b:P.info? t with
   | none=>rw[b]at e;cases e
   | some i=>rw[b]at e;exact⟨i,rfl,e⟩
  ·cases h
 ·cases h
theorem nj{t:TypeId}{z:Value}(h:zeroOf P t=some z):(zeroValue t).run P w=.ok z w:=by
 obtain⟨⟨_,a,b⟩,_⟩:=ky h;simp[zeroValue,yt a,b]
theorem br.sf{z:Value}(h:ss z=true):br γ z.cells.toList z.cells.toList:=(aD.plain h).cells
theorem aD.U{k:IntKind}{n:Int}{aH:Value}(h:aD γ (.int k n) aH):aH=.int k n:=by cases h;rfl
theorem aD.jP{b:Bool}{aH:Value}(h:aD γ (.bool b) aH):aH=.bool b:=by cases h;rfl
theorem aD.fK{s:ByteArray}{aH:Value}(h:aD γ (.string s) aH):aH=.string s:=by cases h;rfl
theorem aD.jA{a:Addr}{aH:Value}(h:aD γ (.pointer (some a)) aH):∃L,γ a.block=some L/\a.spot=none/\aH=.pointer (some ⟨L.aW,L.d+a.off,none⟩):=by
 cases h with
 | ptr h=>exact⟨_,h,rfl,rfl⟩
theorem aD.r4{r:Nat}{aH:Value}(h:aD γ (.map (some r)) aH):∃L,γ r=some L/\aH=.map (some L.aW):=by
 cases h with
 | xx h=>exact⟨_,h,rfl⟩
theorem aD.p6{cs:Array Value}{aH:Value}(h:aD γ (.agg cs) aH):∃a,aH=.agg a/\br γ cs.toList a.toList:=by
 cases h with
 | agg h=>exact⟨_,rfl,h⟩
theorem aD.yK{cs:Array Value}{aH:Value}(h:aD γ (.tuple cs) aH):∃a,aH=.tuple a/\br γ cs.toList a.toList:=by
 cases h with
 | tuple h=>exact⟨_,rfl,h⟩
theorem aD.l8{a:Addr}{n c:Nat}{aH:Value}(h:aD γ (.slice (some a) n c) aH):
 ∃L,γ a.block=some L/\a.spot=none/\n<=c/\((∃b,aH=.slice (some ⟨L.aW,L.d+a.off,none⟩) n b/\c<=b/\(b=c∨0<L.s/\L.d+a.off+b*L.s<=L.e))∨(n=0/\c=0/\∃bF,aH=.slice (some bF) 0 0)):=by
 cases h with
 | fb h a c d=>exact⟨_,h,rfl,c,.inl ⟨_,rfl,a,d⟩⟩
 | ks h=>exact⟨_,h,rfl,bg _,.inr ⟨rfl,rfl,_,rfl⟩⟩
theorem aD.sW{n c:Nat}{aH:Value}(h:aD γ (.slice none n c) aH):n=0/\c=0/\aH=.slice none 0 0:=by
 cases h;exact⟨rfl,rfl,rfl⟩
theorem br.int:br γ [] []:=.nil
theorem MP{l aN:List Value}(h:br γ l aN):aD γ (bB l) (.agg aN.toArray):=.agg h
theorem J9{a:Bool}{off n:Nat}{cs:List Value}{v:Value}(h:oi a off n cs=some v):(a=true/\off+n<=cs.length/\v=bB ((cs.drop off).take n))∨(a=false/\cs[off]? = some v):=by
 cases a with
 | true=>
   simp only[oi,cond_true]at h;split at h
   ·rename_i _ e;obtain⟨b,c⟩:=um e;simp only[ax]at h;exact .inl ⟨rfl,b,by rw[<-h,c]⟩
   ·cases h
 | false=>exact .inr ⟨rfl,h⟩
theorem JF(g:Rel O base γ H w){t:TypeId}{v aH r:Value}(b:known P t=true)(i:aD γ v aH)(h:(jV (iV P t) (P.cellsOf t) (some v)).run pm H=some (r,aa)):
 ∃bn,(Instr.loadAt t aH).run P w=.ok bn w/\aD γ r bn/\aa=H:=by
 unfold jV at h;split at h
 ·rename_i a e;simp only[ax]at e;subst e;obtain⟨L,k,_,rfl⟩:=i.jA;obtain⟨_,l,h⟩:=run_get h;split at h
  ·rename_i _ m;obtain⟨n,rfl⟩:=ni h;obtain⟨c,_,_,d,_,f⟩:=g.row k l m;simp only[Instr.loadAt,Instr.sureAddr,loadVar,Sem.run_bind,Sem.run_pure,Result.andThen_ok,C6 b]
   rcases J9 n with⟨eA,AY,rfl⟩ | ⟨eA,AW⟩
   ·rw[eA];simp only[if_true,Sem.run_bind,hl b,Result.andThen_ok];rw[run_loadCells w ⟨L.aW,L.d+a.off,none⟩ (P.cellsOf t) (λj=>(c[L.d+a.off+j]?).getD undef) (λj _=>by
     rw[add_eq,my d,kh (by omega)];rfl)]
    exact⟨_,rfl,MP (f.IU AY),trivial⟩
   ·obtain⟨u,h,j⟩:=f _ _ AW;rw[eA];refine⟨u,?_,j,trivial⟩;simp only[kj,if_false,run_load,my d];rw[show c[L.d+a.off]? = some u from h]
  ·exact(ba h).elim
 ·exact(ba h).elim
theorem xK(d:Rel O base γ H w){a:Addr}{az b:List Value}{k:aQ}{L:Loc}{r:Value×ad}(rK:γ a.block=some L)(e:br γ az b)(h:(putRow a az k).run pm H=some r):
 ∃c ao,(storeCells ⟨L.aW,L.d+a.off,none⟩ b).run P w=.ok () ao/\Step O base pm γ H w γ c ao/\k.run pm c=some r:=by
 unfold putRow at h;obtain⟨_,f,h⟩:=run_get h;split at h
 ·rename_i _ _;obtain⟨a,h⟩:=iz h;split at h
  ·rename_i _ g;obtain⟨i,h⟩:=nh h;obtain⟨ao,j,k⟩:=d.store (P:=P) rK f g e a i;exact⟨_,ao,j,k,h⟩
  ·exact(ba h).elim
 ·exact(ba h).elim
theorem Rv(f:Rel O base γ H w){t:TypeId}{v aH u b r:Value}(g:known P t=true)(i:aD γ v aH)(c:aD γ u b)(h:(kH (P.cellsOf t) (some v) (some u)).run pm H=some (r,aa)):
 ∃ao,(Instr.storeAt t aH b).run P w=.ok () ao/\r=bz/\Step O base pm γ H w γ aa ao:=by
 unfold kH at h;split at h
 ·rename_i _ _ e a;simp only[ax]at e a;subst e a;obtain⟨_,j,_,rfl⟩:=i.jA;obtain⟨d,h⟩:=iz h;obtain⟨_,ao,k,a,l⟩:=xK (P:=P) f j c.cells h;obtain⟨m,rfl⟩:=db l;refine⟨ao,?_,m.symm,a⟩;have n:b.cells.size=P.cellsOf t:=by
   have:=c.cells.length;rw[cC]at d;have:=qP d;simp only[jE]at*
   omega
  simp only[Instr.storeAt,Instr.sureAddr,storeVar,Sem.run_bind,Sem.run_pure,Result.andThen_ok,hl g,n,ne_eq,not_true_eq_false,if_false];exact k
 ·exact(ba h).elim
end
theorem lB(a b:Int):fQ a b=(a==b):=by
 cases a with
 | ofNat m=>cases b with
   | ofNat n=>
     simp only[fQ,cC]
     by_cases h:m=n
     ·subst h;simp
     ·have:¬(Int.ofNat m=Int.ofNat n):=λe=>h (Int.ofNat.inj e)
      rw[show(Int.ofNat m==Int.ofNat n)=false from beq_false_of_ne this];simp[h]
   | negSucc _=>rfl
 | negSucc m=>cases b with
   | ofNat _=>rfl
   | negSucc n=>
     simp only[fQ,cC]
     by_cases h:m=n
     ·subst h;simp
     ·have:¬(Int.negSucc m=Int.negSucc n):=λe=>h (Int.negSucc.inj e)
      rw[show(Int.negSucc m==Int.negSucc n)=false from beq_false_of_ne this];simp[h]
theorem xv(a b:Int):ha a b=decide (a<b):=by
 cases a with
 | ofNat m=>cases b with
   | ofNat _=>
     simp only[ha,fG]
     congr 1
     exact propext ⟨λh=>by simpa using h,λh=>by simpa using h⟩
   | negSucc n=>
     simp only[ha]
     symm
     exact l0 (by have:=Int.negSucc_lt_zero n;have:(0:Int)<=Int.ofNat m:=Int.natCast_nonneg m;omega)
 | negSucc m=>cases b with
   | ofNat n=>
     simp only[ha]
     symm
     exact ix (by have:=Int.negSucc_lt_zero m;have:(0:Int)<=Int.ofNat n:=Int.natCast_nonneg n;omega)
   | negSucc _=>
     simp only[ha,fG]
     congr 1
     exact propext ⟨λh=>by simp only[Int.negSucc_eq];omega,λh=>by simp only[Int.negSucc_eq]at h;omega⟩
theorem oI(k:IntKind)(n:Int):wr k n=k.wrap n:=by
 unfold wr;split
 ·rename_i m;rw[fG];by_cases h:m<half k
  ·simp only[h,decide_true,cond_true];unfold IntKind.wrap;have a:(Int.ofNat m:Int)=(m:Int):=rfl;rw[a];cases k<;>simp only[half]at h<;>simp only[IntKind.bits,IntKind.signed,Nat.reduceSub,Int.reducePow,Bool.true_and,Bool.false_and,kj,if_false]<;>first | omega | (rw[aC (by simp;omega)];omega)
  ·simp only[h,decide_false,cond_false]
 ·rfl
section
variable{O:b0}{P:Program}{base:Nat}{pm:Perm}{γ:aL}{H aa:ad}{w:World}
theorem Rd{c:BinOp}{k:IntKind}{a b:Int}{v:Value}(h:fi c k a b=some v):
 ∃f,(match c with
  | .add | .sub | .mul=>f=Op.intArith c k a b
  | .quo | .rem=>f=Op.intDiv c k a b
  | .and | .or | .xor | .andNot=>f=Op.intBits c k a b
  | _=>f=Op.intCmp c a b)/\f.run P w=.ok v w/\aD γ v v:=by
 cases c<;>simp only[fi,ax,reduceCtorEq,lB,xv,oI]at h
 case quo=>
  refine⟨_,rfl,?_⟩;by_cases a:b=0
  ·subst a;simp at h
  ·have:(b==0)=false:=beq_false_of_ne a;rw[this]at h;simp only[cond_false,ax]at h;subst h;exact⟨by simp[Op.intDiv,a],.int _ _⟩
 case rem=>
  refine⟨_,rfl,?_⟩;by_cases a:b=0
  ·subst a;simp at h
  ·have:(b==0)=false:=beq_false_of_ne a;rw[this]at h;simp only[cond_false,ax]at h;subst h;exact⟨by simp[Op.intDiv,a],.int _ _⟩
 all_goals
  subst h
  refine⟨_,rfl,?_,by constructor⟩
  first
   | rfl
   | (simp only[Op.intCmp,Sem.run_pure];first | rfl | (congr 2;rw[<-decide_not];congr 1;exact propext (by omega)) | (simp[bne];done))
theorem Rw{a:BinOp}{x y:ByteArray}{v:Value}(h:pO a x y=some v):(Op.stringOp a x y).run P w=.ok v w/\aD γ v v:=by
 cases a<;>simp only[pO,ax,reduceCtorEq]at h
 case add=>
  rw[cg]at h;by_cases b:x.size+y.size<=4294967296
  ·simp only[b,decide_true,cond_true,ax]at h;subst h;refine⟨?_,.str _⟩;simp[Op.stringOp];omega
  ·simp[b]at h
 all_goals
  subst h
  exact⟨by simp[Op.stringOp],.bool _⟩
end
section
variable{O:b0}{P:Program}{base:Nat}{pm:Perm}{γ:aL}{H aa:ad}{w:World}
theorem JJ{c:BinOp}{t:TypeId}{gy gz:Operand}{a b bF b6 v:Value}(d:c=.shl∨c=.shr)(h:pL c a b=some v)(eA:aD γ a bF)(e:aD γ b b6):
 (do eqGuard c t gy gz bF b6;Go.binOp c t bF b6:Sem Value).run P w=.ok v w/\aD γ v v:=by
 unfold pL at h;split at h
 ·rename_i _ _ _ _;obtain rfl:=eA.U;obtain rfl:=e.U
  rcases d with rfl | rfl
  ·simp only[ax,oI]at h;subst h;refine⟨?_,.int _ _⟩;simp[eqGuard,Go.binOp,Op.shift];intro a;exact absurd a (by omega)
  ·simp only[ax]at h;subst h;refine⟨?_,.int _ _⟩;simp[eqGuard,Go.binOp,Op.shift];intro a;exact absurd a (by omega)
 ·cases h
theorem Rq{c:BinOp}{t:TypeId}{gy gz:Operand}{a b bF b6 v:Value}(i:c≠.shl/\c≠.shr/\c≠.eql/\c≠.neq)(h:sr c a b=some v)(eA:aD γ a bF)(d:aD γ b b6):
 (do eqGuard c t gy gz bF b6;Go.binOp c t bF b6:Sem Value).run P w=.ok v w/\aD γ v v:=by
 obtain⟨a,b,e,f⟩:=i;unfold sr at h;split at h
 ·rename_i _ _ _ _;obtain rfl:=eA.U;obtain rfl:=d.U;split at h
  ·rename_i j;subst j;obtain⟨_,g,k,l⟩:=Rd (P:=P) (w:=w) (γ:=γ) h;refine⟨?_,l⟩;cases c<;>first | (exact absurd rfl a) | (exact absurd rfl b) | (exact absurd rfl e) | (exact absurd rfl f) | (simp only at g;subst g;simpa [eqGuard,Go.binOp]using k) | (simp[fi]at h)
  ·cases h
 ·rename_i _ _;obtain rfl:=eA.fK;obtain rfl:=d.fK;obtain⟨g,k⟩:=Rw (P:=P) (w:=w) (γ:=γ) h;refine⟨?_,k⟩;cases c<;>first | (exact absurd rfl a) | (exact absurd rfl b) | (exact absurd rfl e) | (exact absurd rfl f) | (simpa [eqGuard,Go.binOp]using g)
 ·cases h
theorem Ck{k:fP}{a b bF b6:Value}{r:Bool}(h:hg k a b=some r)(eA:aD γ a bF)(c:aD γ b b6):bF=a/\b6=b:=by
 unfold hg at h;split at h
 ·exact⟨eA.U,c.U⟩
 ·exact⟨eA.fK,c.fK⟩
 ·exact⟨eA.jP,c.jP⟩
 ·cases h
theorem xJ{d:Nat}{t:TypeId}{k:fP}{a b:Value}{r:Bool}(c:jb P t=some k)(h:hg k a b=some r):(Op.equalIn (d+1) t a b).run P w=.ok r w:=by
 unfold jb at c;unfold hg at h;split at h
 ·rename_i _ x _ y;split at h
  ·rename_i e;subst e;simp only[ax,lB]at h;subst h;split at c<;>simp only[ax,reduceCtorEq]at c;rename_i f g;exact run_equalIn_int w d t _ f x y g
  ·cases h
 ·rename_i i j;simp only[ax]at h;subst h;split at c<;>simp only[ax,reduceCtorEq]at c;rename_i l;exact run_equalIn_string w d t i j l
 ·rename_i m n;simp only[ax]at h;subst h;split at c<;>simp only[ax,reduceCtorEq]at c;rename_i o;exact run_equalIn_bool' w d t m n o
 ·cases h
theorem uP{t:TypeId}{k:fP}(a:jb P t=some k):known P t=true/\iV P t=false:=by
 unfold jb at a;unfold known iV;split at a<;>first | (rename_i b;rw[b];exact⟨rfl,rfl⟩) | cases a
theorem yr{t:TypeId}{cs:Array Value}{off:Nat}{v:Value}(a:known P t=true)(eA:iV P t=false)(h:cs.toList[off]? = some v):(part t cs off).run P w=.ok v w:=by
 simp only[part,Sem.run_bind,C6 a,eA,Result.andThen_ok,kj,if_false];rw[<-iv,h];rfl
theorem JD{d:Nat}:∀(cx:List Field) (i:Nat) (au:List fP) (b c xs e:List Value) (r:Bool),pz P cx i=some au->et au xs e=some r->b.length=i->c.length=i->
 (Op.eqFields (d+1) ⟨b++xs⟩ ⟨c++e⟩ cx).run P w=.ok r w
 | [],i,au,b,c,xs,e,r,a,h,_,_=>by
   simp only[pz,ax]at a;subst a;cases xs<;>cases e<;>simp only[et,ax,reduceCtorEq]at h;subst h;rfl
 | f::cx,i,au,b,c,xs,e,r,a,h,m,n=>by
   simp only[pz]at a;split at a
   ·rename_i g;simp only[b3,bne_iff_ne,lV]at g;split at a
    ·rename_i _ q j s;simp only[ax]at a;subst a
     cases xs with
     | nil=>simp[et]at h
     | cons k x=>
       cases e with
       | nil=>simp[et]at h
       | cons l y=>
         obtain⟨o,p⟩:=uP j;simp only[et]at h;have t:(part f.type ⟨b++k::x⟩ f.offset).run P w=.ok k w:=yr o p (by rw[g.2];simp[<-m]);have u:(part f.type ⟨c++l::y⟩ f.offset).run P w=.ok l w:=yr o p (by rw[g.2];simp[<-n]);simp only[Op.eqFields,ne_eq,g.1,not_false_eq_true,if_true,Sem.run_bind,t,u,Result.andThen_ok];split at h
         ·rename_i v;rw[xJ j v];simp only[Result.andThen_ok,Bool.not_true,kj,if_false];have:=JD (d:=d) cx (i+1) q (b++[k]) (c++[l]) x y r s h (by simp[m]) (by simp[n]);simpa using this
         ·rename_i z;rw[xJ j z];simp only[Result.andThen_ok,Bool.not_false,if_true,Sem.run_pure];split at h
          ·simp only[ax]at h;subst h;rfl
          ·cases h
         ·cases h
    ·cases a
   ·cases a
theorem zS:∀{au:List fP} {xs a b c:List Value} {r:Bool},et au xs a=some r->br γ xs b->br γ a c->b=xs/\c=a
 | [],[],[],_,_,_,_,.nil,.nil=>⟨rfl,rfl⟩
 | k::au,_::_,_::_,_,_,_,h,.cons d e,.cons f g=>by
   simp only[et]at h;split at h
   ·rename_i i;obtain⟨rfl,rfl⟩:=Ck i d f;obtain⟨rfl,rfl⟩:=zS h e g;exact⟨rfl,rfl⟩
   ·rename_i j;obtain⟨rfl,rfl⟩:=Ck j d f;split at h
    ·rename_i _ l;obtain⟨rfl,rfl⟩:=zS l e g;exact⟨rfl,rfl⟩
    ·cases h
   ·cases h
theorem vs{t:TypeId}{au:List fP}(h:pP P t=some au):∃cx,P.underlying t=some (.struct cx)/\P.stoodInHeld t=false/\P.eqGuardType P.depth t=false/\pz P cx.toList 0=some au:=by
 unfold pP at h;split at h
 ·rename_i cx b;split at h
  ·cases h
  ·rename_i a;simp only[ir,not_or,Bool.not_eq_true]at a;exact⟨cx,b,a.1,a.2,h⟩
 ·cases h
theorem JL{t:TypeId}{au:List fP}{a b:Array Value}{r:Bool}{d:Nat}(f:pP P t=some au)(h:et au a.toList b.toList=some r):(Op.equalIn (d+2) t (.agg a) (.agg b)).run P w=.ok r w:=by
 obtain⟨c,e,g,_,i⟩:=vs f;have f:P.fieldsOf t=c:=by simp[Program.fieldsOf,e]
 rw[run_equalIn_struct w (d+1) t a b (by rw[f];exact e) g,f];have:=JD (P:=P) (w:=w) (d:=d) c.toList 0 au [] [] a.toList b.toList r i h rfl rfl;simpa using this
theorem Hu{c:BinOp}{t:TypeId}{gy gz:Operand}{a b:Value}(h:¬(a=.nilIface/\b=.nilIface))(d:¬∃x y,a=.agg x/\b=.agg y):
 (eqGuard c t gy gz a b).run P w=.ok () w:=by
 cases c<;>first
  | (simp[eqGuard];done)
  | (cases a<;>cases b<;>first
   | (simp[eqGuard];done)
   | (exact absurd ⟨rfl,rfl⟩ h)
   | (exact absurd ⟨_,_,rfl,rfl⟩ d))
theorem Og{a:BinOp}{t:TypeId}{gy gz:Operand}(h:(isConst gy||isConst gz)=true):(eqGuard a t gy gz .nilIface .nilIface).run P w=.ok () w:=by
 cases a<;>first
  | (simp[eqGuard];done)
  | (cases gy<;>cases gz<;>first | (simp[isConst]at h;done) | (simp[eqGuard];done))
theorem Ro{c:oY}{a b bF b6:Value}{r:Bool}{t:TypeId}{d:Nat}(h:h8 c a b=some r)(eA:aD γ a bF)(f:aD γ b b6)
 (a:match c with | .ptr=>∃e,P.underlying t=some (.pointer e) | .fb=>∃e,P.underlying t=some (.slice e) | .map=>∃k e,P.underlying t=some (.map k e) | .fn=>∃p q v,P.underlying t=some (.func p q v) | .qs _=>∃m,P.underlying t=some (.interface m)):
 (Op.equalIn (d+1) t bF b6).run P w=.ok r w:=by
 unfold h8 at h;split at h
 all_goals first | (cases h;done) | skip
 all_goals (obtain⟨e,a⟩:=a)
 all_goals first | (obtain⟨b,_,a⟩:=a) | (obtain⟨b,a⟩:=a) | skip
 all_goals (cases eA<;>cases f)
 all_goals first
  | (simp only[ax]at h;subst h;simp[Op.equalIn,cD a];done)
  | (rename_i g
     have d:r=true:=by cases g<;>simp at h;exact h
     subst d
     simp[Op.equalIn,cD a])
theorem Oh{a:oY}{b:Value}{r:Bool}{x:Array Value}(h:h8 a (.agg x) b=some r):False:=by cases a<;>cases b<;>simp[h8]at h
theorem Oi{a:oY}{r:Bool}(h:h8 a .nilIface .nilIface=some r):a=.qs true:=by
 cases a<;>simp[h8]at h;rename_i c;cases c
 ·simp at h
 ·rfl
theorem Oj{a:oY}{b:Value}{r:Bool}{k:IntKind}{n:Int}(h:h8 a (.int k n) b=some r):False:=by cases a<;>cases b<;>simp[h8]at h
theorem Ok{a:oY}{b:Value}{r:Bool}{s:ByteArray}(h:h8 a (.string s) b=some r):False:=by cases a<;>cases b<;>simp[h8]at h
theorem BX{t:TypeId}{gy gz:Operand}{a b bF b6:Value}{r:Bool}(eA:aD γ a bF)(c:aD γ b b6)(AW:∀d,(eqGuard d t gy gz bF b6).run P w=.ok () w)(e:(Op.equalIn 10000 t bF b6).run P w=.ok r w)
 (aJ:∀k n,a≠.int k n) (b:∀s,a≠.string s):
 (do eqGuard .eql t gy gz bF b6;Go.binOp .eql t bF b6:Sem Value).run P w=.ok (.bool r) w/\(do eqGuard .neq t gy gz bF b6;Go.binOp .neq t bF b6:Sem Value).run P w=.ok (.bool (!r)) w:=by
 have f:Go.binOp .eql t bF b6=(do Pure.pure (.bool (<-Op.equal t bF b6))):=by
  cases eA<;>first | (exact absurd rfl (aJ _ _)) | (exact absurd rfl (b _)) | (cases c<;>rfl)
 have g:Go.binOp .neq t bF b6=(do Pure.pure (.bool (!(<-Op.equal t bF b6)))):=by
  cases eA<;>first | (exact absurd rfl (aJ _ _)) | (exact absurd rfl (b _)) | (cases c<;>rfl)
 rw[f,g];simp[AW,Op.equal,Op.maxDepth,e]
theorem ok_eq{t:TypeId}{gy gz:Operand}{k:jo}{a b bF b6:Value}{r:Bool}(c:nY P t gy gz=some k)(h:iC k a b=some r)(eA:aD γ a bF)(d:aD γ b b6):
 (do eqGuard .eql t gy gz bF b6;Go.binOp .eql t bF b6:Sem Value).run P w=.ok (.bool r) w/\(do eqGuard .neq t gy gz bF b6;Go.binOp .neq t bF b6:Sem Value).run P w=.ok (.bool (!r)) w:=by
 cases k with
 | bE=>
   simp only[iC]at h;unfold Co at h;split at h
   ·rename_i _ _ _ _;obtain rfl:=eA.U;obtain rfl:=d.U;split at h
    ·rename_i f;subst f;simp only[ax,lB]at h;subst h;constructor<;>simp[eqGuard,Go.binOp,Op.intCmp,bne]
    ·cases h
   ·rename_i _ _;obtain rfl:=eA.fK;obtain rfl:=d.fK;simp only[ax]at h;subst h;constructor<;>simp[eqGuard,Go.binOp,Op.stringOp]
   ·cases h
 | bool=>
   simp only[iC]at h;have a:jb P t=some .b:=by
    unfold nY at c;split at c<;>simp only[ax,reduceCtorEq,sG,and_false,exists_const]at c;rename_i a;simp[jb,a]
   obtain⟨rfl,rfl⟩:=Ck h eA d;have b:∃x y,bF=.bool x/\b6=.bool y:=by
    cases bF<;>cases b6<;>first | exact⟨_,_,rfl,rfl⟩ | (simp[hg]at h;done)
   obtain⟨x,y,rfl,rfl⟩:=b;exact BX eA d (λ_=>Hu (by simp) (by simp)) (xJ a h) (by simp) (by simp)
 | nil _=>
   simp only[iC]at h;refine BX eA d (λ_=>?_) (Ro h eA d ?_) (λk _ e=>Oj (e▸h)) (λ_ e=>Ok (e▸h))
   ·by_cases a:bF=.nilIface/\b6=.nilIface
    ·obtain⟨rfl,rfl⟩:=a;cases eA;cases d;obtain rfl:=Oi h;refine Og ?_;unfold nY at c;split at c<;>simp only[ax,reduceCtorEq,sG,and_false,exists_const,jo.nil.injEq,oY.qs.injEq]at c;exact c
    ·refine Hu a ?_;rintro⟨_,_,rfl,rfl⟩;cases eA;exact Oh h
   ·unfold nY at c;split at c<;>simp only[ax,reduceCtorEq,sG,and_false,exists_const,jo.nil.injEq]at c
    all_goals (subst c;first | exact⟨_,by assumption⟩ | exact⟨_,_,by assumption⟩ | exact⟨_,_,_,by assumption⟩)
 | cells b=>
   simp only[iC]at h;have a:pP P t=some b:=by
    unfold nY at c;split at c<;>simp only[ax,reduceCtorEq,sG,jo.cells.injEq,exists_eq_right]at c;exact c
   split at h
   ·rename_i g i;obtain⟨e,rfl,j⟩:=eA.p6;obtain⟨k,rfl,l⟩:=d.p6;obtain⟨m,n⟩:=zS h j l;have o:e=g:=k2.1 m;have p:k=i:=k2.1 n;subst o p;obtain⟨_,_,_,q,_⟩:=vs a;exact BX eA d (λr=>run_eqGuard_agg w r t gy gz _ _ q) (JL a h) (by simp) (by simp)
   ·cases h
end
section
variable{O:b0}{P:Program}{base:Nat}{pm:Perm}{γ:aL}{H aa:ad}{w:World}
def jq(v:Option Value)(l d:Nat):Prop:=v=none/\l=d∨∃k,v=some (.int k (l:Int))
theorem pq{o:Option Value}{n:Nat}(h:cH o=some n):∃k,o=some (.int k (n:Int)):=by
 unfold cH at h;split at h
 ·simp only[ax]at h;subst h;exact⟨_,rfl⟩
 ·cases h
theorem od{n:Nat}{e:Env}{a:Act}{G:Nat->Bool}(b:cW γ n e a)(c:eF G γ){d l:Nat}{o:Option Operand}(h:de e d (o.map (rand G))=some l):jq (o.map a.eval) l d:=by
 cases o with
 | none=>simp only[Option.map_none,de,ax]at h;exact .inl ⟨rfl,h.symm⟩
 | some r=>
   simp only[gL,de]at h;obtain⟨k,a⟩:=pq h;exact .inr ⟨k,by rw[gL,(b' b c r a).U]⟩
theorem p9{k:IntKind}{l y:Nat}{a:BoundsCode}(h:l<=y):(Instr.sliceBound (.int k (l:Int)) y a).run P w=.ok l w:=by
 rw[run_sliceBound w k l y a (by omega) (by omega)];simp
theorem tK{aP:Bool}{len cap l h m:Nat}{ah aJ a:Option Value}(g':jq ah l 0)(d:jq aJ h len)(e:jq a m cap)(b:l<=h)(c:h<=m)(f:m<=cap)(g:aJ.isSome=true∨a=none):
 (Instr.sliceBounds aP len cap ah aJ a).run P w=.ok (l,h,m) w:=by
 rcases e with⟨rfl,rfl⟩ | ⟨UK,rfl⟩<;>rcases d with⟨rfl,rfl⟩ | ⟨UI,rfl⟩<;>rcases g' with⟨rfl,rfl⟩ | ⟨UJ,rfl⟩<;>
  first
   | (simp at g;done)
   | simp[Instr.sliceBounds,p9 f,p9 c,p9 b]
   | simp[Instr.sliceBounds,p9 c,p9 b]
   | simp[Instr.sliceBounds,p9 c]
   | simp[Instr.sliceBounds,p9 b]
   | simp[Instr.sliceBounds]
theorem Rt(D:Rel O base γ H w){t e:TypeId}{a:Option Addr}{n c l h m:Nat}{aH r:Value}{ah aJ g:Option Value}(y:P.underlying t=some (.slice e))(p:known P e=true)(z:aD γ (.slice a n c) aH)
 (g':jq ah l 0) (q:jq aJ h n) (s:jq g m c) (u:aJ.isSome=true∨g=none) (d:(h7 (P.cellsOf e) a l h m c).run pm H=some (r,aa)):
 ∃bn,(Instr.sliceAt t aH ah aJ g).run P w=.ok bn w/\aD γ r bn/\aa=H:=by
 unfold h7 at d;obtain⟨A,v⟩:=iz d;clear d;simp only[cg,b3,df]at A;obtain⟨⟨x,B⟩,C⟩:=A;have i:P.elem t=e:=by simp[Program.elem,y]
 have j:P.underlying t=some (.slice (P.elem t)):=by rw[i];exact y
 rw[run_sliceAt_slice w t aH ah aJ g j]
 cases a with
 | none=>
   obtain⟨rfl,rfl,rfl⟩:=z.sW;obtain⟨rfl,rfl⟩:=db v;refine⟨.slice none 0 0,?_,?_,rfl⟩
   ·rw[run_slice_any w t none 0 0 j,tK g' q s x B C u];simp only[Result.andThen_ok,i,hl p,sliced];congr 2<;>first | (split<;>rfl) | omega
   ·rw[show h-l=0 by omega,show m-l=0 by omega];exact .pM
 | some a=>
   obtain⟨_,E,d⟩:=run_get v;clear v;obtain⟨L,o,_,_,F⟩:=z.l8;have G:r=.slice (some ⟨a.block,a.off+l*P.cellsOf e,none⟩) (h-l) (m-l)/\aa=H/\(P.cellsOf e=L.s∨L.s=0):=by
    obtain⟨_,b,c⟩:=D.aW a.block L o;rw[E]at b;cases b;split at d
    ·obtain⟨a,d⟩:=iz d;obtain⟨b,e⟩:=db d;simp only[cC,ir,df]at a;obtain⟨_,_,_,_,_,f,_⟩:=c;exact⟨b.symm,e,by rcases a with a | a;(left;omega);(right;omega)⟩
    ·obtain⟨a,b⟩:=db d;obtain⟨_,_,_,_,_,f,_⟩:=c;exact⟨a.symm,b,.inr f⟩
    ·exact(ba d).elim
   obtain⟨rfl,rfl,f⟩:=G
   rcases F with⟨jQ,rfl,xl,qq⟩ | ⟨rfl,rfl,bF,rfl⟩
   ·have r:∃b,jq g b jQ/\m<=b/\b<=jQ/\(b=m∨b=jQ/\m=c):=by
     rcases s with⟨rfl,rfl⟩ | ⟨k,rfl⟩
     ·exact⟨jQ,.inl ⟨rfl,rfl⟩,xl,bg _,.inr ⟨rfl,rfl⟩⟩
     ·exact⟨m,.inr ⟨k,rfl⟩,bg _,by omega,.inl rfl⟩
    obtain⟨b,r,_,c,k⟩:=r;refine⟨sliced (some ⟨L.aW,L.d+a.off,none⟩) l h b (P.cellsOf e),?_,?_,rfl⟩
    ·rw[run_slice_any w t _ n jQ j,tK g' q r x (by omega) c u];simp only[Result.andThen_ok,i,hl p]
    ·unfold sliced;by_cases c:b=l
     ·have a:h-l=0:=by omega
      have d:m-l=0:=by omega
      have e:b-l=0:=by omega
      rw[aT c,a,d,e];exact .ks o
     ·rw[aC c,gL,add_eq,show L.d+a.off+l*P.cellsOf e=L.d+(a.off+l*P.cellsOf e) by omega];refine .fb o (by omega) (by omega) ?_
      rcases k with rfl | ⟨rfl,rfl⟩
      ·exact .inl rfl
      ·rcases qq with rfl | ⟨a,_⟩
       ·exact .inl rfl
       ·refine .inr ⟨a,?_⟩
        rcases f with f | f
        ·rw[f];have:b*L.s=l*L.s+(b-l)*L.s:=by rw[<-om];congr 1;omega
         omega
        ·omega
   ·have c:m=0:=by omega
    subst c;have k:l=0:=by omega
    have m:h=0:=by omega
    subst k m;refine⟨.slice (some bF) 0 0,?_,?_,rfl⟩
    ·rw[run_slice_any w t _ 0 0 j,tK g' q s x B C u];simp only[Result.andThen_ok,i,hl p,sliced];rfl
    ·simpa using aD.ks (γ:=γ) (b:=a.block) (off:=a.off+0*P.cellsOf e) (bF:=bF) o
theorem JK{t e:TypeId}{tE:Option TypeId}{a bF r:Value}{n l h:Nat}{ah aJ:Option Value}(c:match tE with | none=>P.underlying t=some (.array n e) | some x=>P.underlying t=some (.pointer x)/\P.underlying x=some (.array n e))(d:known P e=true)
 (o:aD γ a bF) (g':jq ah l 0) (p:jq aJ h n) (b:(nW n (P.cellsOf e) (some a) (some l) (some h)).run pm H=some (r,aa)):
 ∃bn,(Instr.sliceAt t bF ah aJ none).run P w=.ok bn w/\aD γ r bn/\aa=H:=by
 unfold nW at b;split at b
 ·rename_i x _ _ f g i;simp only[ax]at f g i;subst f g i;obtain⟨a,b⟩:=iz b;simp only[cg,b3,df]at a;obtain⟨rfl,rfl⟩:=db b;obtain⟨L,j,_,rfl⟩:=o.jA;have k:=λ(aP:Bool)=>tK (P:=P) (w:=w) (aP:=aP) g' p (.inl ⟨rfl,rfl⟩:jq none n n) a.1 a.2 (bg _) (.inr rfl);refine⟨.slice (some (if n=l then⟨L.aW,L.d+x.off,none⟩ else(⟨L.aW,L.d+x.off,none⟩:Addr).add (l*P.cellsOf e))) (h-l) (n-l),?_,?_,rfl⟩
  ·cases tE with
   | none=>simp[Instr.sliceAt,cD c,Instr.sureAddr,k,hl d]
   | some tE=>simp[Instr.sliceAt,Instr.slice,cD c.1,cD c.2,asAddr,k,hl d]
  ·by_cases m:n=l
   ·rw[aT m,show h-l=0 by omega,show n-l=0 by omega];exact .ks j
   ·rw[aC m,add_eq,show L.d+x.off+l*P.cellsOf e=L.d+(x.off+l*P.cellsOf e) by omega];exact .fb j (bg _) (by omega) (.inl rfl)
 ·exact(ba b).elim
end
section
variable{O:b0}{P:Program}{base:Nat}{pm:Perm}{γ:aL}{H aa:ad}{w:World}
theorem Rx{b:UnOp}{a bF v:Value}(h:unOp b a=some v)(eA:aD γ a bF):(Op.unary b bF).run P w=.ok v w/\aD γ v v:=by
 unfold unOp at h;split at h
 ·rename_i _ _;obtain rfl:=eA.U;simp only[ax,oI]at h;subst h;exact⟨by simp[Op.unary,Op.intArith],.int _ _⟩
 ·rename_i _ _;obtain rfl:=eA.U;simp only[fi,ax]at h;subst h;exact⟨by simp[Op.unary,Op.intBits],.int _ _⟩
 ·obtain rfl:=eA.jP;simp only[ax]at h;subst h;exact⟨by simp[Op.unary],.bool _⟩
 ·cases h
theorem Q7{s d:TypeId}{k au:IntKind}{v aH r:Value}(a:P.underlying s=some (.int au))(b:P.underlying d=some (.int k))(c:aD γ v aH)(h:(kG (.int k) v).run pm H=some (r,aa)):
 (convert s d aH).run P w=.ok r w/\aD γ r r/\aa=H:=by
 unfold kG at h;simp only at h;split at h
 ·obtain rfl:=c.U;obtain⟨rfl,rfl⟩:=db h;refine⟨?_,.int _ _,rfl⟩;rw[oI];simp[convert,cD a,cD b,Conv.intToInt]
 ·exact(ba h).elim
theorem Q6{s d:TypeId}{v aH r:Value}(a:P.underlying s=some .string)(b:P.underlying d=some .string)(c:aD γ v aH)(h:(kG .id v).run pm H=some (r,aa)):
 (convert s d aH).run P w=.ok r w/\aD γ r r/\aa=H:=by
 unfold kG at h;simp only at h;split at h
 ·obtain rfl:=c.fK;obtain⟨rfl,rfl⟩:=db h;refine⟨?_,.str _,rfl⟩;simp[convert,cD a,cD b]
 ·exact(ba h).elim
theorem extract_toList(cs:Array Value)(i n:Nat):(cs.extract i (i+n)).toList=(cs.toList.drop i).take n:=by
 rw[Array.toList_extract,List.extract_eq_take_drop,show i+n-i=n by omega]
theorem JI{t:TypeId}{cs a:Array Value}{off:Nat}{v:Value}(b:known P t=true)(c:br γ cs.toList a.toList)(h:oi (iV P t) off (P.cellsOf t) cs.toList=some v):
 ∃aH,(part t a off).run P w=.ok aH w/\aD γ v aH:=by
 rcases J9 h with⟨eA,AY,rfl⟩ | ⟨eA,AW⟩
 ·refine⟨.agg (a.extract off (off+P.cellsOf t)),?_,?_⟩
  ·simp[part,C6 b,eA,hl b]
  ·have:=(c.drop off).take (P.cellsOf t);rw[<-extract_toList a]at this;exact .agg (aN:=(a.extract off (off+P.cellsOf t)).toList) this
 ·obtain⟨u,a,d⟩:=c.get AW;exact⟨u,yr b eA a,d⟩
theorem Rb{s:TypeId}{cx:Array Field}{b:Field}{i:Nat}{v aH:Value}{a:Addr}(c:P.underlying s=some (.struct cx))(d:cx[i]? = some b)(e:known P b.type=true)(ez:P.cellsOf b.type≠0)(f:aD γ v aH)(g:v=.pointer (some a)):
 ∃bn,(Instr.fieldAt s aH i).run P w=.ok bn w/\aD γ (.pointer (some ⟨a.block,a.off+b.offset,none⟩)) bn:=by
 subst g;obtain⟨L,h,_,rfl⟩:=f.jA;refine⟨.pointer (some ⟨L.aW,L.d+(a.off+b.offset),none⟩),?_,.ptr h⟩;simp only[Instr.fieldAt,Sem.run_bind,cD c,Result.andThen_ok,d,Instr.sureAddr,Sem.run_pure,fieldPlace,hl e,ez,if_false,add_eq,l1]
theorem Ra{s:TypeId}{cx:Array Field}{a:Field}{i:Nat}{cs:Array Value}{aH r:Value}(b:P.underlying s=some (.struct cx))(c:cx[i]? = some a)(d:known P a.type=true)(e:aD γ (.agg cs) aH)(h:oi (iV P a.type) a.offset (P.cellsOf a.type) cs.toList=some r):
 ∃bn,(Instr.field s aH i).run P w=.ok bn w/\aD γ r bn:=by
 obtain⟨_,rfl,a⟩:=e.p6;obtain⟨bn,e,f⟩:=JI (P:=P) (w:=w) d a h;refine⟨bn,?_,f⟩;simp only[Instr.field,Sem.run_bind,cD b,Result.andThen_ok,c,asAgg,Sem.run_pure,e]
theorem Rg{t e:TypeId}{v aH i a r:Value}{n:Nat}(f:P.underlying t=some (.slice e))(g:known P e=true)(j:aD γ v aH)(aJ:aD γ i a)(k:cH (some i)=some n)(h:(nU (P.cellsOf e) (some v) (some n)).run pm H=some (r,aa)):
 ∃bn,(Instr.indexAt t aH a).run P w=.ok bn w/\aD γ r bn/\aa=H:=by
 obtain⟨_,b⟩:=pq k;simp only[ax]at b;subst b;obtain rfl:=aJ.U;unfold nU at h;split at h
 ·rename_i l m _ _ c d;simp only[ax]at c d;subst c d;obtain⟨i,h⟩:=iz h;simp only[fG,df]at i;obtain⟨rfl,rfl⟩:=db h;obtain⟨L,o,_,_,p⟩:=j.l8
  rcases p with⟨jQ,rfl,_,_⟩ | ⟨rfl,_⟩
  ·refine⟨.pointer (some ⟨L.aW,L.d+(l.off+n*P.cellsOf e),none⟩),?_,.ptr o,rfl⟩;have h:(0:Int)<=(n:Int)/\(n:Int)<(m:Int):=by omega
   simp only[Instr.indexAt,asIntOf,Sem.run_bind,Sem.run_pure,Result.andThen_ok,cD f,h,and_self,if_true,hl g,u1,add_eq,l1]
  ·omega
 ·exact(ba h).elim
theorem Rf{t e:TypeId}{v aH i a r:Value}{n m:Nat}(f:P.underlying t=some (.array m e))(g:known P e=true)(j:aD γ v aH)(aJ:aD γ i a)(k:cH (some i)=some n)(h:(nT m (P.cellsOf e) (some v) (some n)).run pm H=some (r,aa)):
 ∃bn,(Instr.indexAt t aH a).run P w=.ok bn w/\aD γ r bn/\aa=H:=by
 obtain⟨_,b⟩:=pq k;simp only[ax]at b;subst b;obtain rfl:=aJ.U;unfold nT at h;split at h
 ·rename_i l _ c d;simp only[ax]at c d;subst c d;obtain⟨i,h⟩:=iz h;simp only[fG,df]at i;obtain⟨rfl,rfl⟩:=db h;obtain⟨L,o,_,rfl⟩:=j.jA;refine⟨.pointer (some ⟨L.aW,L.d+(l.off+n*P.cellsOf e),none⟩),?_,.ptr o,rfl⟩;have p:(0:Int)<=(n:Int)/\(n:Int)<(m:Int):=by omega
  simp only[Instr.indexAt,asIntOf,Sem.run_bind,Sem.run_pure,Result.andThen_ok,cD f,Instr.sureAddr,p,and_self,if_true,hl g,u1,add_eq,l1]
 ·exact(ba h).elim
theorem Rh{t:TypeId}{v aH i a r:Value}{n:Nat}(f:P.underlying t=some .string)(g:aD γ v aH)(aJ:aD γ i a)(j:cH (some i)=some n)(h:(nV (some v) (some n)).run pm H=some (r,aa)):
 (Instr.index t aH a).run P w=.ok r w/\aD γ r r/\aa=H:=by
 obtain⟨_,b⟩:=pq j;simp only[ax]at b;subst b;obtain rfl:=aJ.U;unfold nV at h;split at h
 ·rename_i s _ c d;simp only[ax]at c d;subst c d;obtain rfl:=g.fK;split at h
  ·rename_i k e;obtain⟨rfl,rfl⟩:=db h;refine⟨?_,.int _ _,rfl⟩;have i:(0:Int)<=(n:Int):=by omega
   have h:s[n]? = some k:=by
    rw[iv]at e;obtain⟨l,m⟩:=e'.1 e;have o:n<s.size:=l;rw[getElem?_pos s n o];exact congrArg some m
   simp only[Instr.index,asIntOf,Sem.run_bind,Sem.run_pure,Result.andThen_ok,cD f,i,if_true,u1,h]
  ·exact(ba h).elim
 ·exact(ba h).elim
theorem Re{t e:TypeId}{v aH i c r:Value}{n m:Nat}(f:P.underlying t=some (.array m e))(d:known P e=true)(g:aD γ v aH)(aJ:aD γ i c)(j:cH (some i)=some n)(h:(pc (iV P e) m (P.cellsOf e) (some v) (some n)).run pm H=some (r,aa)):
 ∃bn,(Instr.index t aH c).run P w=.ok bn w/\aD γ r bn/\aa=H:=by
 obtain⟨_,e⟩:=pq j;simp only[ax]at e;subst e;obtain rfl:=aJ.U;unfold pc at h;split at h
 ·rename_i _ _ a b;simp only[ax]at a b;subst a b;obtain⟨i,h⟩:=iz h;simp only[fG,df]at i;obtain⟨k,rfl⟩:=ni h;obtain⟨_,rfl,l⟩:=g.p6;obtain⟨bn,a,b⟩:=JI (P:=P) (w:=w) d l k;refine⟨bn,?_,b,rfl⟩;have o:(0:Int)<=(n:Int)/\(n:Int)<(m:Int):=by omega
  simp only[Instr.index,asIntOf,Sem.run_bind,Sem.run_pure,Result.andThen_ok,cD f,o,and_self,if_true,hl d,u1,a]
 ·exact(ba h).elim
theorem Ru{t:TypeId}{v aH r:Value}{l:Nat}{ah aJ:Option Value}{b:Nat->Option Nat}(c:P.underlying t=some .string)(g:aD γ v aH)(g':jq ah l 0)(i:∀n h,b n=some h->jq aJ h n)
 (h:(lA (some v) (some l) (some b)).run pm H=some (r,aa)):(Instr.sliceAt t aH ah aJ none).run P w=.ok r w/\aD γ r r/\aa=H:=by
 unfold lA at h;split at h
 ·rename_i s _ _ d e f;simp only[ax]at d e f;subst d e f;split at h
  ·rename_i _ j;obtain⟨a,h⟩:=iz h;simp only[cg,b3,df]at a;obtain⟨rfl,rfl⟩:=db h;obtain rfl:=g.fK;refine⟨?_,.str _,rfl⟩;have k:=tK (P:=P) (w:=w) (aP:=false) g' (i _ _ j) (.inl ⟨rfl,rfl⟩:jq none s.size s.size) a.1 a.2 (bg _) (.inr rfl);rw[run_sliceAt_string w t _ ah aJ none c];simp only[Instr.slice,Sem.run_bind,cD c,Result.andThen_ok,Option.isSome_none,kj,if_false,k,Sem.run_pure]
  ·exact(ba h).elim
 ·exact(ba h).elim
theorem Q'{i:Nat}{az:Array Value}{aH r:Value}(a:aD γ (.tuple az) aH)(h:az.toList[i]? = some r):∃bn,(Instr.extract aH i).run P w=.ok bn w/\aD γ r bn:=by
 obtain⟨_,rfl,b⟩:=a.yK;obtain⟨u,a,c⟩:=b.get h;refine⟨u,?_,c⟩;simp only[Instr.extract];rw[<-iv,a];rfl
theorem JH{c:Bool}{gN:Array TypeId}{ty:TypeId}{a b bF b6 r:Value}(eA:aD γ a bF)(f:aD γ b b6)(h:(jW c (some a) (some b)).run pm H=some (r,aa)):
 (if c then Builtin.max_ gN ty #[bF,b6] else Builtin.min_ gN ty #[bF,b6]).run P w=.ok r w/\aD γ r r/\aa=H:=by
 unfold jW at h;split at h
 ·rename_i _ x _ y d e;simp only[ax]at d e;subst d e;obtain rfl:=eA.U;obtain rfl:=f.U;obtain⟨rfl,rfl⟩:=db h;refine⟨?_,.int _ _,rfl⟩;cases c
  ·simp only[kj,if_false,Builtin.min_,cond_false,xv];simp only[List.foldlM,Builtin.min2];by_cases a:y<x<;>simp[a]
  ·simp only[if_true,Builtin.max_,cond_true,xv];simp only[List.foldlM,Builtin.max2];by_cases a:x<y<;>simp[a]
 ·exact(ba h).elim
end
section
variable{O:b0}{P:Program}{base:Nat}{pm:Perm}{γ:aL}{H aa:ad}{w:World}
theorem lo.of{γ:aL}{cs:List Value}{c:Array Value}(h:br γ cs c.toList):lo γ cs (λi=>c[0+i]?):=by
 intro i _ b;obtain⟨a,d,e⟩:=h.get b;refine⟨a,?_,e⟩;show c[0+i]? = some a;rw[Nat.zero_add,<-iv,d]
theorem Step.wo(e:Rel O base γ H w)(f:pm.X γ H){cs:List Value}{c:Array Value}(b:TypeId)(z:cz)(g:∀a,z=.t a->b=a)(d:br γ cs c.toList):
 Step O base pm γ H w (γ.set (pm.pick H) ⟨w.heap.size,0,z.val,c.size⟩) (pm.make H (.cells cs z)) {w with heap:=w.heap.push (.cells c b)}:=
 Step.alloc e f (.cells cs z) (.cells c b) z.val c.size λ_ _ a=>by
  refine⟨c,b,(0,0),by simp,λ_ _=>by simp,⟨rfl,cz.Rp g rfl (by have:=d.length;simp at this;omega)⟩,bg _,?_,?_⟩
  ·have:=d.length;simp only[jE]at this;show 0+cs.length<=c.size;omega
  ·exact lo.of (d.mono a)
theorem Step.MR(b:Rel O base γ H w)(e:pm.X γ H){cs:List Value}{c:Array Value}(a:TypeId)(z:cz)(f:∀d aS l,z.ok a d aS l)(g':cs.length<=c.size)(g:lo γ cs (λi=>c[0+i]?)):
 Step O base pm γ H w (γ.set (pm.pick H) ⟨w.heap.size,0,z.val,c.size⟩) (pm.make H (.cells cs z)) {w with heap:=w.heap.push (.cells c a)}:=
 Step.alloc b e (.cells cs z) (.cells c a) z.val c.size λ_ _ d=>
  ⟨c,a,(0,0),by simp,λi _=>by simp,⟨rfl,f _ _ _⟩,bg _,by show 0+cs.length<=c.size;omega,λi v h=>let ⟨a,b,e⟩:=g i v h;⟨a,b,e.mono d⟩⟩
theorem aL.Cp(γ:aL){n b s e:Nat}:aD (γ.set n ⟨b,0,s,e⟩) (ptr n) (.pointer (some ⟨b,0,none⟩)):=by
 have:=aD.ptr (γ:=γ.set n ⟨b,0,s,e⟩) (off:=0) (aL.fa γ n ⟨b,0,s,e⟩);simpa [ptr]using this
theorem aL.Le(γ:aL){n b s e l c:Nat}(h:l<=c):aD (γ.set n ⟨b,0,s,e⟩) (.slice (some ⟨n,0,none⟩) l c) (.slice (some ⟨b,0,none⟩) l c):=by
 have:=aD.fb (γ:=γ.set n ⟨b,0,s,e⟩) (off:=0) (aL.fa γ n ⟨b,0,s,e⟩) (bg c) h (.inl rfl);simpa using this
theorem QW(c:Rel O base γ H w)(d:pm.X γ H){e:TypeId}{z:Value}{r:Value}(a:zeroOf P e=some z)(h:(aQ.new (.cells z.cells.toList (.t e)) λb=>.ret (ptr b)).run pm H=some (r,aa)):
 ∃bn ao b,(Instr.alloc e true (.tuple #[])).run P w=.ok bn ao/\aD b r bn/\Step O base pm γ H w b aa ao:=by
 simp only[aQ.run,ax,bT]at h;obtain⟨rfl,rfl⟩:=h;obtain⟨_,f,_⟩:=ky a;refine⟨_,_,_,?_,aL.Cp γ,Step.wo c d e (.t e) (λ_ q=>by cases q;rfl) (br.sf f)⟩;simp[Instr.alloc,nj a,newVar,newRow]
theorem Q0(c:Rel O base γ H w)(d:pm.X γ H){e:TypeId}{v aH r:Value}(f:aD γ v aH)(h:(aQ.new (.cells v.cells.toList (.t e)) λb=>.ret (ptr b)).run pm H=some (r,aa)):
 ∃bn ao a,(Instr.box e aH).run P w=.ok bn ao/\aD a r bn/\Step O base pm γ H w a aa ao:=by
 simp only[aQ.run,ax,bT]at h;obtain⟨rfl,rfl⟩:=h;refine⟨_,_,_,?_,aL.Cp γ,Step.wo c d e (.t e) (λ_ q=>by cases q;rfl) f.cells⟩;simp[Instr.box,newVar,newRow]
theorem AL(off:Nat):∀(l:List Value) (a:Nat) (b:Array Value),off+a+l.length<=b.size->
 ((l.zipIdx a).foldl (λcs (x:Value×Nat)=>cs.setIfInBounds (off+x.2) x.1) b).size=b.size/\
 ∀k,((l.zipIdx a).foldl (λcs (x:Value×Nat)=>cs.setIfInBounds (off+x.2) x.1) b)[k]? = if off+a<=k/\k<off+a+l.length then l[k-(off+a)]? else b[k]?
 | [],a,b,_=>⟨rfl,λk=>by rw[aC (by simp)];rfl⟩
 | v::l,a,b,h=>by
   simp only[gu]at h;simp only[List.zipIdx_cons,sy];obtain⟨d,e⟩:=AL off l (a+1) (b.setIfInBounds (off+a) v) (by rw[Array.size_setIfInBounds];omega);refine⟨by rw[d,Array.size_setIfInBounds],λk=>?_⟩;rw[e k];simp only[gu];by_cases c:k=off+a
   ·subst c;rw[aC (by omega),aT (by omega)];simp[show off+a<b.size by omega]
   ·by_cases b:off+a<=k/\k<off+a+(l.length+1)
    ·rw[aT (by omega),aT b,show k-(off+a)=(k-(off+(a+1)))+1 by omega,ou]
    ·rw[aC (by omega),aC b,sD (show off+a≠k from Ne.symm c)]
theorem SE{cs b az a:List Value}{c:Array Value}{off:Nat}(f:setCells cs off az=some b)(d:br γ cs c.toList)(e:br γ az a):
 br γ b ((a.zipIdx 0).foldl (λcs (x:Value×Nat)=>cs.setIfInBounds (off+x.2) x.1) c).toList:=by
 obtain⟨_,_,g⟩:=Dc f;have b:=d.length;have f:=e.length;simp only[jE]at b;obtain⟨b,f⟩:=AL off a 0 c (by omega);refine br.oc (by simp only[jE,b];omega) λi _ _ b a=>?_;rw[g i]at b;rw[iv,f i]at a;simp only[Nat.add_zero]at a;by_cases f:off<=i/\i<off+az.length
 ·rw[aT f]at b;rw[aT (by omega)]at a;obtain⟨_,c,g⟩:=e.get b;rw[c]at a;exact jF a▸g
 ·rw[aC f]at b;rw[aC (by omega)]at a;obtain⟨_,c,e⟩:=d.get b;rw[iv,a]at c;exact jF c▸e
inductive o2(γ:aL)(place:Nat->Option (Nat×Nat)):List (Nat×Nat×Value)->List (Nat×Value)->Prop
 | nil:o2 γ place [] []
 | cons {i off n:Nat} {v aH:Value} {l:List (Nat×Nat×Value)} {aN:List (Nat×Value)} (fF:place i=some (off,n)) (cw:aD γ v aH) (t:o2 γ place l aN):o2 γ place ((off,n,v)::l) ((i,aH)::aN)
theorem BY{d:Nat->Option (Nat×Nat)}{l:List (Nat×Nat×Value)}{aN:List (Nat×Value)}(i:o2 γ d l aN):∀{z r:List Value} {c:Array Value},fill z l=some r->br γ z c.toList->
 ∃a,Instr.fill d c aN=some a/\br γ r a.toList/\a.size=c.size:=by
 induction i with
 | nil=>
   intro z r c h b;simp only[fill,ax]at h;subst h;exact⟨c,rfl,b,rfl⟩
 | @cons _ j n v k l aN m e _ ih=>
   intro z r c h f;simp only[fill,cC]at h;by_cases b:v.cells.toList.length=n
   ·simp only[b,decide_true,cond_true]at h;split at h
    ·rename_i _ g;have l:=SE g f e.cells;obtain⟨o,_,_⟩:=Dc g;have p:=e.cells.length;have q:=f.length;simp only[jE]at p q b;obtain⟨r,_⟩:=AL j k.cells.toList 0 c (by simp only[jE,Nat.add_zero]at *;omega);obtain⟨a,s,t,u⟩:=ih h l;refine⟨a,?_,t,by rw[u,r]⟩;simp only[Instr.fill,m];rw[aC (by simp only[jE]at o;simp only[ne_eq,ir,df,not_or,Decidable.not_not,Nat.not_lt];omega)];rw[<-Array.foldl_toList,Array.toList_zipIdx];exact s
    ·cases h
   ·rw[l0 b]at h;cases h
end
section
variable{O:b0}{P:Program}{base:Nat}{pm:Perm}{γ:aL}{H aa:ad}{w:World}
theorem KJ:∀(cx:List Field),cx.all (λf=>known P f.type)=true->
 (cx.mapM λf=>do pure (f.offset,<-sizeOf f.type):Sem (List (Nat×Nat))).run P w=.ok (cx.map λf=>(f.offset,P.cellsOf f.type)) w
 | [],_=>by simp
 | f::cx,h=>by
   simp only[nc,b3]at h;have ih:=KJ cx h.2;simp only[List.mapM_cons,Sem.run_bind,hl h.1,Result.andThen_ok,Sem.run_pure,u0];rw[ih];rfl
theorem Sz{cx:Array Field}(h:cx.all (λf=>known P f.type)=true):
 (cx.mapM λf=>do pure (f.offset,<-sizeOf f.type):Sem (Array (Nat×Nat))).run P w=.ok (cx.map λf=>(f.offset,P.cellsOf f.type)) w:=by
 rw[Array.mapM_eq_mapM_toList];have:=KJ (P:=P) (w:=w) cx.toList (by simpa using h);simp only[Sem.run_map,this,Result.andThen_ok];congr 1;apply Array.ext';simp
theorem Q3{t:TypeId}{cx:Array Field}{z:Value}{l:List (Nat×Nat×Value)}{parts:Array (Nat×Value)}{cs:List Value}(a:zeroOf P t=some z)(b:P.underlying t=some (.struct cx))(c:cx.all (λf=>known P f.type)=true)
 (d:o2 γ (λi=>(cx.map λf=>(f.offset,P.cellsOf f.type))[i]?) l parts.toList) (h:fill z.cells.toList l=some cs):
 ∃bn,(Instr.build t parts).run P w=.ok bn w/\aD γ (bB cs) bn:=by
 obtain⟨_,e,_⟩:=ky a;obtain⟨g,j,k,_⟩:=BY d h (br.sf e);refine⟨.agg g,?_,.agg k⟩;simp only[Instr.build,Sem.run_bind,nj a,Result.andThen_ok,cD b,Sz c,j,Sem.run_pure]
theorem Q1{t e:TypeId}{n:Nat}{z:Value}{l:List (Nat×Nat×Value)}{parts:Array (Nat×Value)}{cs:List Value}(a:zeroOf P t=some z)(b:P.underlying t=some (.array n e))(c:known P e=true)
 (d:o2 γ (λi=>some (i*P.cellsOf e,P.cellsOf e)) l parts.toList) (h:fill z.cells.toList l=some cs):
 ∃bn,(Instr.build t parts).run P w=.ok bn w/\aD γ (bB cs) bn:=by
 obtain⟨_,f,_⟩:=ky a;obtain⟨g,j,k,_⟩:=BY d h (br.sf f);refine⟨.agg g,?_,.agg k⟩;simp only[Instr.build,Sem.run_bind,nj a,Result.andThen_ok,cD b,hl c,j,Sem.run_pure]
theorem Lv(l:List Value):∀n,(times l n).length=n*l.length
 | 0=>by simp[times]
 | n+1=>by simp[times,Lv l n,om,Nat.add_comm]
theorem s5(l:List Value):∀(n i:Nat),i<n*l.length->(times l n)[i]? = some (l[i%l.length]!)
 | 0,i,h=>by simp at h
 | n+1,i,h=>by
   have a:0<l.length:=m' λe=>by rw[e]at h;simp at h
   rw[times];by_cases a:i<l.length
   ·rw[hi a,k0 a,eu a,getElem!_pos l i a]
   ·rw[hR (by omega),s5 l n (i-l.length) (by rw[om]at h;omega)];congr 2;rw[Nat.mod_eq_sub_mod (by omega:i≥l.length)]
theorem Ds(z:Array Value)(n:Nat):((Array.range (n*z.size)).map λi=>z[i%z.size]!).toList=times z.toList n:=by
 apply nb;intro i;by_cases a:i<n*z.size
 ·rw[s5 z.toList n i (by simpa using a)];have c:0<z.size:=m' λe=>by rw[e]at a;simp at a
  have b:i%z.size<z.size:=kY _ c;rw[iv,Array.getElem?_map,Array.getElem?_range,aT a];simp only[gL,jE];rw[getElem!_pos z _ b,getElem!_pos z.toList _ (by simpa using b)];rfl
 ·rw[gr (by simpa using a),gr (by rw[Lv];simpa using a)]
theorem yH{l:List Value}(h:br γ l l):∀n,br γ (times l n) (times l n)
 | 0=>.nil
 | n+1=>h.append (yH h n)
theorem Q2(j:Rel O base γ H w)(k:pm.X γ H){t e:TypeId}{z:Value}{n:Nat}{l:List (Nat×Nat×Value)}{parts:Array (Nat×Value)}{cs:List Value}{r:Value}(m:P.underlying t=some (.slice e))(f:zeroOf P e=some z)(g:n*P.cellsOf e<=65536)
 (o:o2 γ (λi=>some (i*P.cellsOf e,P.cellsOf e)) l parts.toList) (h:fill (times z.cells.toList n) l=some cs)
 (d:(aQ.new (.cells cs (.n (P.cellsOf e))) λb=>.ret (.slice (some ⟨b,0,none⟩) n n)).run pm H=some (r,aa)):
 ∃bn ao g,(Instr.buildSlice t n parts).run P w=.ok bn ao/\aD g r bn/\Step O base pm γ H w g aa ao:=by
 simp only[aQ.run,ax,bT]at d;obtain⟨rfl,rfl⟩:=d;obtain⟨_,d,g,p⟩:=ky f;have q:((Array.range (n*P.cellsOf e)).map λi=>z.cells[i%z.cells.size]!).toList=times z.cells.toList n:=by rw[<-g];exact Ds z.cells n
 obtain⟨_,a,s,_⟩:=BY o h (c:=(Array.range (n*P.cellsOf e)).map λi=>z.cells[i%z.cells.size]!) (by rw[q];exact yH (br.sf d) n);refine⟨_,_,_,?_,aL.Le γ (bg n),Step.wo j k e (.n (P.cellsOf e)) (λ_ u=>by cases u) s⟩;simp only[Instr.buildSlice,Sem.run_bind,cD m,Result.andThen_ok,hl p];rw[aC (by omega)];by_cases d:n*P.cellsOf e=0
 ·have b:((Array.range 0).map λi=>(#[]:Array Value)[i%(#[]:Array Value).size]!)=((Array.range 0).map λi=>z.cells[i%z.cells.size]!):=by
   apply Array.ext';simp
  rw[d]at a;simp only[d,if_true,Sem.run_pure,Result.andThen_ok,b,a,newRow,Sem.run_bind,run_newObj]
 ·simp only[d,if_false,Sem.run_bind,nj f,Result.andThen_ok,Sem.run_pure,a,newRow,run_newObj]
theorem Rl(c:Rel O base γ H w)(d:pm.X γ H){t:TypeId}{r:Value}(h:(aQ.new (.map [] 0) λb=>.ret (.map (some b))).run pm H=some (r,aa)):
 ∃bn ao a,(Instr.makeMap t none).run P w=.ok bn ao/\aD a r bn/\Step O base pm γ H w a aa ao:=by
 simp only[aQ.run,ax,bT]at h;obtain⟨rfl,rfl⟩:=h;refine⟨.map (some w.heap.size),_,_,?_,aD.xx (L:=⟨w.heap.size,0,0,0⟩) (aL.fa γ _ _),Step.alloc c d (.map [] 0) (.map #[] 0) 0 0 λ_ a _=>⟨#[],by simp,.nil⟩⟩;simp[Instr.makeMap]
theorem Rr(c:Rel O base γ H w)(d:pm.X γ H){t:TypeId}{s:ByteArray}{r:Value}(f:P.underlying t=some .string)(h:(aQ.new (.iter s 0) λb=>.ret (ptr b)).run pm H=some (r,aa)):
 ∃bn ao a,(Instr.range t (.string s)).run P w=.ok bn ao/\aD a r bn/\Step O base pm γ H w a aa ao:=by
 simp only[aQ.run,ax,bT]at h;obtain⟨rfl,rfl⟩:=h;refine⟨_,_,_,?_,aL.Cp γ (s:=0) (e:=0),Step.alloc c d (.iter s 0) (.stringIter s 0) 0 0 λ_ a _=>⟨by simp,rfl⟩⟩;simp[Instr.range,cD f]
end
end Go.Dam
namespace Go.Dam
open Go Go.Builtin
section
variable{O:b0}{P:Program}{base:Nat}{pm:Perm}{γ:aL}{H aa:ad}{w:World}
theorem wz:∀l:List UInt8,br γ (cI l) (cI l)
 | []=>.nil
 | _::l=>.cons (.int _ _) (wz l)
theorem uL(g:Rel O base γ H w){bZ:Nat}{v aH:Value}{k:List Value->Nat->aQ}{r:Value×ad}(b:aD γ v aH)(h:(ei bZ v k).run pm H=some r):
 ∃l aN n,(k l n).run pm H=some r/\br γ l aN/\l.length=n*bZ/\∀a:World,a.heap=w.heap->(lenOf aH).run P a=.ok n a/\∀m,m<=n->(firstCells bZ m aH).run P a=.ok (aN.take (m*bZ)).toArray a:=by
 unfold ei at h;split at h
 ·obtain⟨rfl,rfl,rfl⟩:=b.sW;exact⟨[],[],0,h,.nil,by simp,λa _=>⟨by simp[lenOf],λm _=>by simp[firstCells]⟩⟩
 ·rename_i c n d;obtain⟨L,i,_,_,e⟩:=b.l8;obtain⟨_,k,h⟩:=run_get h;split at h
  ·rename_i _ o;split at h
   ·rename_i l p;obtain⟨q,rfl⟩:=um p;obtain⟨d,_,_,f,_,r⟩:=g.row i k o;refine⟨_,_,n,h,r.IU q,by simp;omega,λa s=>⟨?_,λm t=>?_⟩⟩
    all_goals rw[<-s]at f
    ·rcases e with⟨jQ,rfl,_⟩ | ⟨rfl,_,bF,rfl⟩<;>simp[lenOf]
    ·have h:m*bZ<=n*bZ:=e8 _ t
     rcases e with⟨jQ,rfl,_⟩ | ⟨rfl,_,bF,rfl⟩
     ·simp only[firstCells];rw[run_loadCells a ⟨L.aW,L.d+c.off,none⟩ (m*bZ) (λj=>(d[L.d+c.off+j]?).getD undef) (λj _=>by
       rw[add_eq,my f,kh (by omega)];rfl)]
      rw[<-List.map_take,List.take_range,pB h]
     ·obtain rfl:m=0:=by omega
      simp[firstCells,loadCells,loadCellsFrom]
   ·exact(ba h).elim
  ·exact(ba h).elim
 ·rename_i u;obtain rfl:=b.fK;obtain⟨e,h⟩:=iz h;rw[cC]at e;obtain rfl:=qP e;refine⟨_,_,u.size,h,wz _,by simp[cI],λa _=>⟨by simp[lenOf],λm _=>?_⟩⟩;simp only[firstCells,Sem.run_pure];congr 1;apply Array.ext';simp only[cI,Nat.mul_one,<-List.map_take,Array.toList_map,ByteArray.data_extract,Array.toList_extract];rfl
 ·exact(ba h).elim
theorem GG:∀{l aN:List Value} {b:List UInt8},bytesOf l=some b->br γ l aN->∃a:List Int,aN=a.map (Value.int .u8)/\b=a.map λn=>UInt8.ofNat n.toNat
 | [],_,_,h,.nil=>⟨[],rfl,by simpa [bytesOf]using h.symm⟩
 | v::l,_,b,h,.cons c t=>by
   unfold bytesOf at h;split at h
   ·grind
   ·rename_i n _ e;cases e;split at h
    ·rename_i _ d;obtain⟨a,f,_⟩:=GG d t;obtain rfl:=c.U;refine⟨n::a,by simp[f],?_⟩;grind
    ·cases h
   ·cases h
theorem foldl_push(a:List Int):∀b:ByteArray,a.foldl (λr n=>r.push (UInt8.ofNat n.toNat)) b=⟨b.data++(a.map λn=>UInt8.ofNat n.toNat).toArray⟩:=by
 induction a with
 | nil=>intro b;simp
 | cons n a ih=>
   simp_all
theorem QZ(o:Rel O base γ H w){v aH r:Value}(f:aD γ v aH)(h:(kG .zB v).run pm H=some (r,aa)):
 ∃bn,(Conv.bytesToString aH).run P w=.ok bn w/\(∃b m c,aH=.slice b m c)/\aD γ r bn/\aa=H:=by
 have t:∀s,v≠.string s:=by
  intro s b;subst b;exact ba h
 have g:∃b m c,aH=.slice b m c:=by
  cases v<;>first | exact(ba h).elim | (cases f<;>exact⟨_,_,_,rfl⟩)
 have h:(ei 1 v λl _=>match bytesOf l with | some i=>.ret (.string ⟨i.toArray⟩) | none=>.fail).run pm H=some (r,aa):=by
  cases v<;>first | exact h | grind
 obtain⟨l,_,n,h,j,_,p⟩:=uL (P:=P) o f h;obtain⟨k,a⟩:=p w rfl;split at h
 ·rename_i i q;obtain⟨rfl,rfl⟩:=db h;obtain⟨c,rfl,rfl⟩:=GG q j;have a:=a n (bg n);have r:=j.length;rw[mZ (by omega)]at a;have m:∃b d e,aH=.slice b d e:=by
   cases aH<;>first | grind | grind | grind
  ·obtain⟨b,d,e,rfl⟩:=m;simp only[lenOf,Sem.run_pure,Result.ok.injEq,and_true]at k;subst k
   cases b with
   | none=>
     simp only[firstCells,Sem.run_pure,Result.ok.injEq,and_true]at a;have:c=[]:=by
      have:=congrArg Array.size a;simpa using this.symm
     subst this;refine⟨_,by simp[Conv.bytesToString];rfl,g,?_,rfl⟩;exact .str _
   | some b=>
     simp only[firstCells,Nat.mul_one]at a;refine⟨_,run_bytesToString w b d e c ?_,g,?_,rfl⟩
     ·rw[a]
     ·rw[foldl_push];have:(ByteArray.empty.data++(c.map λn=>UInt8.ofNat n.toNat).toArray)=(c.map λn=>UInt8.ofNat n.toNat).toArray:=by rw[show ByteArray.empty.data=#[] from rfl,Array.empty_append]
      rw[this];exact .str _
 ·exact(ba h).elim
end
section
variable{O:b0}{P:Program}{base:Nat}{pm:Perm}{γ:aL}{H aa:ad}{w:World}
theorem wrap_small{n:Nat}(h:n<=1073741824):IntKind.i64.wrap (n:Int)=(n:Int):=by
 simp only[IntKind.wrap,IntKind.signed,IntKind.bits];simp;omega
theorem KH(k:IntKind)(n:Int):(asInt (.int k n)).run P w=.ok n w:=rfl
theorem GF{e:TypeId}{i:TypeInfo}(h:P.info? e=some i):i.bytes=P.bytesOf e:=by simp[Program.bytesOf,h]
theorem Rm(f:Rel O base γ H w)(g:pm.X γ H){t e:TypeId}{z:Value}{r:Value}{n m:Nat}{k dd:IntKind}(j:P.underlying t=some (.slice e))(a:zeroOf P e=some z)
 (h:(mD z.cells.toList (P.bytesOf e) (some n) (some m)).run pm H=some (r,aa)):
 ∃bn ao b,(Instr.makeSlice t (.int k (n:Int)) (.int dd (m:Int))).run P w=.ok bn ao/\aD b r bn/\Step O base pm γ H w b aa ao:=by
 obtain⟨b,h⟩:=iz h;simp only[b3,cg,df]at b;obtain⟨⟨l,o⟩,_⟩:=b;simp only[aQ.run,ax,bT]at h;obtain⟨rfl,rfl⟩:=h;obtain⟨⟨i,d,_⟩,p,b,q⟩:=ky a;have s:IntKind.i64.wrap (m:Int)=m:=wrap_small o;have u:IntKind.i64.wrap (n:Int)=n:=wrap_small (by omega);have v:=GF d;have x:((Array.range (m*P.cellsOf e)).map λi=>z.cells[i%z.cells.size]!).toList=times z.cells.toList m:=by rw[<-b];exact Ds z.cells m
 have b:((P.bytesOf e:Int)*(m:Int))<=17179869184:=by rw[<-u6];omega
 have y:(decide ((m:Int)<0)||decide ((P.bytesOf e:Int)*(m:Int)>2^48)||decide ((n:Int)<0)||decide ((n:Int)>(m:Int)))=false:=by
  simp only[Bool.or_eq_false_iff,decide_eq_false_iff_not];refine⟨⟨⟨?_,?_⟩,?_⟩,?_⟩
  ·omega
  ·omega
  ·omega
  ·omega
 have A:=Step.wo (pm:=pm) f g (cs:=times z.cells.toList m) (c:=(Array.range (m*P.cellsOf e)).map λi=>z.cells[i%z.cells.size]!) e (.n z.cells.toList.length) (λ_ B=>by cases B) (by rw[x];exact yH (br.sf p) m);refine⟨_,_,_,?_,aL.Le γ l,A⟩;simp only[Instr.makeSlice,Sem.run_bind,cD j,Result.andThen_ok,KH,yt d,v,s,u,y,kj,if_false];simp only[run_askRoom,Result.andThen_ok,hl q,u1];by_cases b:m*P.cellsOf e=0
 ·have c:((Array.range 0).map λi=>(#[]:Array Value)[i%(#[]:Array Value).size]!)=((Array.range 0).map λi=>z.cells[i%z.cells.size]!):=by
   apply Array.ext';simp
  simp only[b,if_true,Sem.run_pure,Result.andThen_ok,newRow,Sem.run_bind,run_newObj,c]
 ·simp only[b,if_false,Sem.run_bind,nj a,Result.andThen_ok,Sem.run_pure,newRow,run_newObj]
theorem QF(h:Array Obj)(o:Obj)(f:Obj->Obj):(h.push o).modify h.size f=h.push (f o):=by
 apply Array.ext_getElem?;intro i;simp only[CF,qR];by_cases a:h.size=i
 ·subst a;simp
 ·rw[aC a,aC (Ne.symm a),aC (Ne.symm a)]
theorem Rs(d:Rel O base γ H w)(k:pm.X γ H){e:TypeId}{s:ByteArray}{r:Value}(h:(kG .vk (.string s)).run pm H=some (r,aa)):
 ∃bn ao f,(Conv.stringToBytes e s).run P w=.ok bn ao/\aD f r bn/\Step O base pm γ H w f aa ao:=by
 simp only[kG,aQ.run,ax,bT]at h;obtain⟨rfl,rfl⟩:=h;generalize l:s.size+w.tape w.drawn (.appendCap s.size 0 e)%(2^63-s.size)=cap;generalize g:(s.data.map λj=>Value.int .u8 j.toNat)++Array.replicate (cap-s.size) (.int .u8 0)=c;have m:c.size=s.size+(cap-s.size):=by rw[<-g];simp
 have m:Rel O base γ H {w with drawn:=w.drawn+1}:=(Step.drawn (pm:=pm) d (w.drawn+1)).rel;have o:=(Step.drawn (pm:=pm) d (w.drawn+1)).trans (Step.alloc (pm:=pm) m k (.cells (cI s.data.toList) (.n 1)) (.cells c e (c.size,c.size+1)) 1 c.size λ_ f _=>by
  refine⟨c,e,(c.size,c.size+1),by simp,λi a=>by simp;omega,⟨rfl,trivial⟩,bg _,by simp[cI];omega,λi _ a=>?_⟩;simp only[cI,iw]at a
  cases b:s.data.toList[i]? with
  | none=>rw[b]at a;cases a
  | some j=>
    rw[b]at a;simp only[gL,ax]at a;subst a;refine⟨_,?_,.int _ _⟩;have a:=(je.1 b).1;rw[jE]at a;show c[0+i]? = _;rw[Nat.zero_add,<-g,x2 (by simpa using a),Array.getElem?_map,<-iv,b];rfl) d
 refine⟨.slice (some ⟨w.heap.size,0,none⟩) s.size cap,_,_,?_,?_,o⟩
 ·simp only[Conv.stringToBytes,Sem.run_bind,run_choose,Question.forced,kj,if_false,Result.andThen_ok,Question.cut,newRow,run_newObj,Sem.run_pure,l,g,markStringish,run_shape,World.shape?];simp[World.freeze,QF]
 ·have:=aD.fb (γ:=γ.set (pm.pick H) ⟨w.heap.size,0,1,c.size⟩) (off:=0) (n:=s.size) (cap:=s.size) (cG:=cap) (aL.fa γ (pm.pick H) ⟨w.heap.size,0,1,c.size⟩) (by omega) (bg _) (.inr ⟨Nat.zero_lt_one,by simp;omega⟩);simpa using this
end
section
variable{O:b0}{P:Program}{base:Nat}{pm:Perm}{γ:aL}{H aa:ad}{w:World}
theorem HT(a:Nat):∀r c,c<=a+(a+768)/4->growBy a r c<=a+(a+768)/4
 | 0,c,h=>h
 | r+1,c,h=>by
   unfold growBy;by_cases b:c≥a
   ·rw[aT b];exact h
   ·rw[aC b];exact HT a r _ (by omega)
theorem nextslicecap_le{a gp:Nat}(h:gp<a):nextslicecap a gp<=2*a+192:=by
 unfold nextslicecap;split
 ·omega
 ·split
  ·omega
  ·have:=HT a 4 gp (by omega);omega
def tq(P:Program)(u:TypeId):Prop:=(∃e,P.underlying u=some (.slice e))∨P.underlying u=some .string
theorem yp{t u e ty:TypeId}{b:Option Addr}{cY cap n:Nat}{x:Value}{new:Array Value}(d:P.underlying t=some (.slice e))(c:tq P u)(f:known P e=true)
 (g':(lenOf x).run P w=.ok n w) (g:(firstCells (P.cellsOf e) n x).run P w=.ok new w) (h:cY+n<=cap):
 (append_ #[t,u] ty #[.slice b cY cap,x]).run P w=Result.andThen (((match b with | some a=>storeCells (a.add (cY*P.cellsOf e)) new.toList | none=>pure ()):Sem Unit).run P w) λ_ ao=>.ok (.slice b (cY+n) cap) ao:=by
 rcases c with⟨cq,c⟩ | c
 all_goals
  simp only[append_,x5,fI,ou,Sem.run_bind,cD d,cD c,hl f,Sem.run_pure,Result.andThen_ok,kj,if_false,g',h,if_true,Bool.not_false,g]
  cases b<;>simp
theorem KG{t u e ty:TypeId}{z:Value}{b:Option Addr}{cY cap n:Nat}{x:Value}{gp new:Array Value}(g:P.underlying t=some (.slice e))(c:tq P u)(d:zeroOf P e=some z)
 (g':(lenOf x).run P w=.ok n w) (h:∀a:World,a.heap=w.heap->(firstCells (P.cellsOf e) n x).run P a=.ok new a) (i:∀a:World,a.heap=w.heap->(firstCells (P.cellsOf e) cY (.slice b cY cap)).run P a=.ok gp a) (j:cap<cY+n)
 (a:(cY+n)*P.bytesOf e<=17179869184) (k:P.bytesOf e<=17179869184) (a:cY+n<=17179869184):
 ∃a,cY+n<=a/\(append_ #[t,u] ty #[.slice b cY cap,x]).run P w=
  .ok (.slice (some ⟨w.heap.size,0,none⟩) (cY+n) a) {w with heap:=w.heap.push (.cells (gp++new++Builtin.zeroCells z.cells (a-(cY+n))) e),drawn:=w.drawn+1}:=by
 obtain⟨⟨_,f,_⟩,_,_,l⟩:=ky d;have m:=GF f;have o:¬(((cY+n:Nat):Int)>IntKind.i64.max/\(False∨P.bytesOf e=0)):=by
  rintro⟨a,_⟩;simp only[IntKind.max,IntKind.signed,IntKind.bits]at a;simp at a;omega
 have p:¬nextslicecap (cY+n) cap*P.bytesOf e>2^48:=by
  have:=nextslicecap_le j;have a:=e8 (P.bytesOf e) this;rw[om,jC]at a;have a:192*P.bytesOf e<=192*17179869184:=lX _ k;omega
 refine⟨cY+n+w.tape w.drawn (.appendCap (cY+n) cap e)%(2^63-(cY+n)),by omega,?_⟩
 rcases c with⟨cq,c⟩ | c
 all_goals
  simp only[append_,x5,fI,ou,Sem.run_bind,cD g,cD c,hl l,Sem.run_pure,Result.andThen_ok,kj,if_false,g',show ¬(cY+n<=cap) by omega,yt f,m,o,p,run_choose,Question.forced,Question.cut,run_askRoom,Bool.not_false,if_true]
  rw[i {w with drawn:=w.drawn+1} rfl]
  simp only[Result.andThen_ok]
  rw[h {w with drawn:=w.drawn+1} rfl]
  simp only[Result.andThen_ok,nj d,newRow,Sem.run_bind,run_newObj,Sem.run_pure]
theorem LN(z:Array Value)(n:Nat):(Builtin.zeroCells z n).size=n*z.size:=by simp[Builtin.zeroCells]
theorem Step.grown(a:Rel O base γ H w)(c:pm.X γ H){e:TypeId}{l aN:List Value}{b:Array Value}{bZ:Nat}(h:br γ l aN):
 Step O base pm γ H w (γ.set (pm.pick H) ⟨w.heap.size,0,bZ,(aN.toArray++b).size⟩) (pm.make H (.cells l (.n bZ))) {w with heap:=w.heap.push (.cells (aN.toArray++b) e),drawn:=w.drawn+1}:=
 (Step.drawn (pm:=pm) a (w.drawn+1)).trans (Step.MR (pm:=pm) (Step.drawn (pm:=pm) a (w.drawn+1)).rel c e (.n bZ) (λ_ _ _=>trivial) (by have:=h.length;simp;omega) λi _ d=>by
  obtain⟨e,c,f⟩:=h.get d;refine⟨e,?_,f⟩;have d:=(je.1 c).1;show(aN.toArray++b)[0+i]? = _;rw[Nat.zero_add,x2 (by simpa using d)];simpa using c) a
theorem HU{b c a d bZ aS:Nat}(e:a<=d)(f:0<bZ)(g:d*bZ<=aS):aD (γ.set c ⟨b,0,bZ,aS⟩) (.slice (some ⟨c,0,none⟩) a a) (.slice (some ⟨b,0,none⟩) a d):=by
 have:=aD.fb (γ:=γ.set c ⟨b,0,bZ,aS⟩) (off:=0) (n:=a) (cap:=a) (cG:=d) (aL.fa γ c _) e (bg _) (.inr ⟨f,by simpa using g⟩);simpa using this
theorem JE(f:Rel O base γ H w)(g:pm.X γ H){t u e ty:TypeId}{z:Value}{b:Option Addr}{cY cap n:Nat}{x:Value}{gp qB l aN:List Value}(h:P.underlying t=some (.slice e))(i:tq P u)(c:zeroOf P e=some z)
 (g':(lenOf x).run P w=.ok n w) (j:∀a:World,a.heap=w.heap->(firstCells (P.cellsOf e) n x).run P a=.ok aN.toArray a) (k:∀a:World,a.heap=w.heap->(firstCells (P.cellsOf e) cY (.slice b cY cap)).run P a=.ok qB.toArray a) (m:cap<cY+n)
 (o:(cY+n)*P.bytesOf e<=17179869184) (p:P.bytesOf e<=17179869184) (q:cY+n<=17179869184) (r:1<=P.cellsOf e)
 (a:br γ gp qB) (cq:br γ l aN) (s:gp.length=cY*P.cellsOf e) (v:l.length=n*P.cellsOf e):
 ∃bn ao d,(append_ #[t,u] ty #[.slice b cY cap,x]).run P w=.ok bn ao/\aD d (.slice (some ⟨pm.pick H,0,none⟩) (cY+n) (cY+n)) bn/\Step O base pm γ H w d (pm.make H (.cells (gp++l) (.n (P.cellsOf e)))) ao:=by
 obtain⟨_,y,d⟩:=KG (ty:=ty) h i c g' j k m o p q;obtain⟨_,_,h,_⟩:=ky c;rw[show qB.toArray++aN.toArray=(qB++aN).toArray by simp]at d;refine⟨_,_,_,d,HU y r ?_,Step.grown f g (a.append cq)⟩;have c:=(a.append cq).length;rw[Array.size_append,LN,h];simp only[ot,s,v]at c;simp only[List.size_toArray,ot,<-c,<-om];exact e8 _ (by omega)
theorem Rc(c:Rel O base γ H w)(o:pm.X γ H){b off cY n cG bZ:Nat}{f:cz}{L:Loc}{cs gp l aN:List Value}(p:f.val=bZ)(rK:γ b=some L)(g:H.get b=some (.cells cs f))(q:pm.may b=true)(r:bx cs off (cY*bZ)=some gp)
 (d:br γ l aN) (s:l.all c6=true) (f:l.length=n*bZ) (t:cY+n<=cG) (u:L.d+off+cG*L.s<=L.e):
 ∃ao,(storeCells ⟨L.aW,L.d+off+cY*bZ,none⟩ aN).run P w=.ok () ao/\
  Step O base pm γ H w (γ.set (pm.pick H) ⟨L.aW,L.d+off,bZ,L.e⟩) (pm.make (H.put b .dead) (.cells (gp++l) (.n bZ))) ao/\L.s=bZ:=by
 obtain⟨_,h,v⟩:=c.aW b L rK;rw[g]at h;cases h;obtain⟨e,x,y,z,i,⟨a,_⟩,A,_,B⟩:=v;rw[p]at a;obtain⟨_,rfl⟩:=um r;have f:=d.length;rw[a]at u;have f:(cY+n)*bZ<=cG*bZ:=e8 _ t;rw[om]at f;obtain⟨ao,j,f,C,k,D,E,F,G,I,J⟩:=ys (P:=P) (b:=L.aW) (off:=L.d+off+cY*bZ) aN 0 w e z i (d.zw▸s) (by omega);refine⟨ao,f,Step.I' (kB:=⟨L.aW,L.d+off,bZ,L.e⟩) c o rK (by rw[g];trivial) q rfl E F G I J λ_ _ m=>⟨j,x,y,C,by rw[k];exact i,⟨rfl,trivial⟩,by rw[k];exact A,?_,λi _ c=>?_⟩,a⟩
 ·show L.d+off+_<=L.e;simp only[ot,k4,x6];omega
 ·show ∃a,j[L.d+off+i]? = some a/\_;rw[D];simp only[Nat.add_zero];have b:((cs.drop off).take (cY*bZ)).length=cY*bZ:=by simp;omega
  by_cases f:i<cY*bZ
  ·rw[hi (by omega),kZ f,ki]at c;rw[aC (by omega)];obtain⟨a,f,g⟩:=B _ _ c;refine⟨a,?_,g.mono m⟩;rw[<-f];show e[L.d+off+i]? = e[L.d+(off+i)]?;rw[l1]
  ·rw[hR (by omega),b]at c;obtain⟨a,b,e⟩:=d.get c;have c:=(je.1 b).1;rw[aT (by omega)];refine⟨a,?_,e.mono m⟩;rw[<-b];congr 1;omega
theorem QX(d:Rel O base γ H w)(v:pm.X γ H){t u e ty:TypeId}{z:Value}{s g x p r:Value}(j:P.underlying t=some (.slice e))(k:tq P u)(y:zeroOf P e=some z)(G:P.bytesOf e<=17179869184)(i:aD γ s g)(hx:aD γ x p)
 (h:(ei (P.cellsOf e) x λnew n=>eN (P.cellsOf e) (P.bytesOf e) s new n).run pm H=some (r,aa)):
 ∃bn ao f,(append_ #[t,u] ty #[g,p]).run P w=.ok bn ao/\aD f r bn/\Step O base pm γ H w f aa ao:=by
 obtain⟨_,_,_,z⟩:=ky y;obtain⟨A,I,n,J,l,B,K⟩:=uL (P:=P) d hx h;clear h;have h:=J;clear J;have ae:=l.length;have m:∀c:World,c.heap=w.heap->(firstCells (P.cellsOf e) n p).run P c=.ok I.toArray c:=λc C=>by
  have:=(K c C).2 n (bg n);rwa [mZ (by omega)]at this
 have o:=(K w rfl).1;unfold eN at h;split at h
 ·rename_i b cY cap;rw[cC]at h;by_cases s:n=0
  ·subst s;simp only[decide_true,cond_true]at h;obtain⟨rfl,rfl⟩:=db h;have:I=[]:=Cy (by omega);subst this;obtain⟨a,cG,rfl,x⟩:∃a cG,g=.slice a cY cG/\cY<=cG:=by
    cases i with
    | pM=>exact⟨_,_,rfl,bg _⟩
    | fb _ _ s _=>exact⟨_,_,rfl,by omega⟩
    | ks _=>exact⟨_,_,rfl,bg _⟩
   refine⟨_,w,γ,?_,i,Step.refl d⟩;rw[yp j k z o (m w rfl) (by omega)];cases a<;>simp[storeCells]
  ·simp only[s,decide_false,cond_false,cg]at h;by_cases D:cY+n<=cap
   ·simp only[D,decide_true,cond_true]at h
    cases b with
    | none=>exact(ba h).elim
    | some a=>
      obtain⟨L,b,q,_,r⟩:=i.l8
      rcases r with⟨cG,rfl,x,qq⟩ | ⟨_,rfl,_⟩
      ·obtain⟨_,ao,t,u,E⟩:=xK (P:=P) d (a:=⟨a.block,a.off+cY*P.cellsOf e,none⟩) b l h;obtain⟨rfl,rfl⟩:=db E;refine⟨.slice (some ⟨L.aW,L.d+a.off,none⟩) (cY+n) cG,ao,γ,?_,?_,u⟩
       ·rw[yp j k z o (m w rfl) (by omega)];simp only[add_eq,l1];simp only[t,Result.andThen_ok]
       ·obtain⟨_,_,_⟩:=a;simp only at q;subst q;exact .fb b x D qq
      ·omega
   ·simp only[D,decide_false,cond_false]at h;obtain⟨M,h⟩:=iz h;simp only[b3,df]at M;obtain⟨⟨⟨N,E⟩,Q⟩,g4⟩:=M
    cases b with
    | none=>
      obtain⟨rfl,rfl,rfl⟩:=i.sW;simp only[aQ.run,ax,bT]at h;obtain⟨rfl,rfl⟩:=h;have:=JE (ty:=ty) (pm:=pm) (gp:=[]) (qB:=[]) (cY:=0) (cap:=0) (b:=none) d v j k y o m (λc _=>by simp[firstCells]) (by omega) N G Q E .nil l (by simp) B;simpa using this
    | some a=>
      obtain⟨_,F,h⟩:=run_get h;split at h
      ·rename_i _ _;obtain⟨q,r⟩:=iz h;clear h;rw[cC]at q;have q:=qP q;split at r
       ·rename_i gp R;obtain⟨S,h⟩:=nh r;clear r;simp only[aQ.run,ax,bT]at h;obtain⟨rfl,rfl⟩:=h;obtain⟨L,T,_,_,U⟩:=i.l8;have aa:(ei (P.cellsOf e) (.slice (some a) cY cap) λA _=>.ret (bB A)).run pm H=some (bB gp,H):=by
         simp[ei,aQ.run,F,rowOf,R]
        obtain⟨V,qB,b,q1,W,q3,X⟩:=uL (P:=P) d i aa;obtain⟨q5,_⟩:=db q1;have:V=gp:=by simpa [bB]using q5
        subst this;have ab:b=cY:=by
         have:=(X w rfl).1
         rcases U with⟨jQ,rfl,_⟩ | ⟨rfl,_,bF,rfl⟩<;>simpa [lenOf]using this.symm
        subst ab;have ad:∀c:World,c.heap=w.heap->(firstCells (P.cellsOf e) b g).run P c=.ok qB.toArray c:=λc C=>by
         have:=(X c C).2 b (bg _);rwa [mZ (by have:=W.length;omega)]at this
        have Y:Step O base pm γ H w γ (H.put a.block .dead) w:=Step.write d T (by rw[F];trivial) S rfl (λ_ _=>rfl) rfl rfl rfl λ_=>trivial;have Z:∀(b':Option Addr) (cG:Nat),g=.slice b' b cG->cG<b+n->∃bn ao f,(append_ #[t,u] ty #[g,p]).run P w=.ok bn ao/\aD f (.slice (some ⟨pm.pick H,0,none⟩) (b+n) (b+n)) bn/\Step O base pm γ H w f (pm.make (H.put a.block .dead) (.cells (V++A) (.n (P.cellsOf e)))) ao:=by
         rintro b' cG rfl a;obtain⟨bn,ao,f,e,h,n⟩:=JE (ty:=ty) (pm:=pm) Y.rel v j k y o m ad a N G Q E W l q3 B;exact⟨bn,ao,f,e,h,Y.trans n d⟩
        rcases U with⟨cG,rfl,x,qq⟩ | ⟨A2,_,bF,rfl⟩
        ·by_cases h:b+n<=cG
         ·have t:=qq.resolve_left (by omega);obtain⟨ao,u,O,p3⟩:=Rc (P:=P) (pm:=pm) d v q T F S R l g4 B h t.2;refine⟨.slice (some ⟨L.aW,L.d+a.off,none⟩) (b+n) cG,ao,_,?_,?_,O⟩
          ·rw[yp j k z o (m w rfl) h];simp only[add_eq,u,Result.andThen_ok]
          ·have:=aD.fb (γ:=γ.set (pm.pick H) ⟨L.aW,L.d+a.off,P.cellsOf e,L.e⟩) (off:=0) (n:=b+n) (cap:=b+n) (cG:=cG) (aL.fa γ (pm.pick H) _) h (bg _) (.inr ⟨E,by rw[<-p3];exact t.2⟩);exact this
         ·exact Z _ _ rfl (by omega)
        ·subst A2;exact Z _ _ rfl (by omega)
       ·exact(ba r).elim
      ·exact(ba h).elim
 ·exact(ba h).elim
theorem rC(l:List UInt8):(cI l).length=l.length:=by simp[cI]
theorem GH(a b:List UInt8):cI (a++b)=cI a++cI b:=by simp[cI]
theorem Ng{γ:aL}{l:List UInt8}{aN:List Value}(h:br γ (cI l) aN):aN=cI l:=by
 apply nb;intro i;have a:=h.length;by_cases c:i<(cI l).length
 ·have a:(cI l)[i]? = some (cI l)[i]:=eu c;obtain⟨_,c,b⟩:=h.get a;rw[c,a];have:∃k n,(cI l)[i]=.int k n:=by simp only[cI,List.getElem_map];exact⟨_,_,rfl⟩
  obtain⟨k,n,a⟩:=this;rw[a]at b|-;rw[b.U]
 ·rw[gr (by omega),gr (by omega)]
theorem QY(o:Rel O base γ H w)(B:pm.X γ H){t u e ty:TypeId}{z:Value}{s y x G r:Value}(I:P.underlying t=some (.slice e))(J:P.underlying u=some .string)(K:zeroOf P e=some z)(ae:P.bytesOf e<=17179869184)(p:P.cellsOf e=1)(M:aD γ s y)(hx:aD γ x G)
 (h:(w1 e (P.bytesOf e) s x).run pm H=some (r,aa)):
 ∃bn ao f,(append_ #[t,u] ty #[y,G]).run P w=.ok bn ao/\aD f r bn/\Step O base pm γ H w f aa ao:=by
 obtain⟨_,_,af,hk⟩:=ky K;unfold w1 at h;split at h
 ·rename_i b _ k a;obtain rfl:=hx.fK;obtain⟨N,h⟩:=iz h;simp only[b3,cg,cC,df]at N;obtain⟨_,c2,c3,rfl⟩:=N;have ag:(ei (P.cellsOf e) (.string a) λah _=>.ret (bB ah)).run pm H=some (bB (cI a.data.toList),H):=by
   rw[p];simp[ei,aQ.run]
  obtain⟨l2,_,_,q1,q2,x,Q⟩:=uL (P:=P) (w:=w) o (aD.str (γ:=γ) a) ag;obtain⟨q5,_⟩:=db q1;have:l2=cI a.data.toList:=by simpa [bB]using q5
  subst this;have ai:=Ng q2;subst ai;rw[rC,p,Nat.mul_one]at x;have q:a.data.toList.length=a.size:=by rw[jE];rfl
  rw[q]at x;subst x;have R:=(Q w rfl).1;have S:∀d:World,d.heap=w.heap->(firstCells (P.cellsOf e) a.size (.string a)).run P d=.ok (cI a.data.toList).toArray d:=λd C=>by
   have:=(Q d C).2 a.size (bg _);rwa [mZ (by rw[rC,q,p];omega)]at this
  have T:∀{m:ad} (s:Rel O base γ m w) (U:pm.X γ m) (l:Option Addr) (cG:Nat) (g:List UInt8),g.length=k->cG<k+a.size->
   (∀d:World,d.heap=w.heap->(firstCells (P.cellsOf e) k (.slice l k cG)).run P d=.ok (cI g).toArray d)->
   ∃bn ao f,(append_ #[t,u] ty #[.slice l k cG,.string a]).run P w=.ok bn ao/\aD f (.slice (some ⟨pm.pick m,0,none⟩) (k+a.size) (k+a.size)) bn/\Step O base pm γ m w f (pm.make m (.bytes e (g++a.data.toList))) ao:=by
   intro m s U l cG g F j H;obtain⟨b,r,n⟩:=KG (ty:=ty) I (.inr J) K R S H j c2 ae c3;rw[show(cI g).toArray++(cI a.data.toList).toArray=(cI (g++a.data.toList)).toArray by simp[GH]]at n;generalize L:Builtin.zeroCells z.cells (b-(k+a.size))=h at n;have V:h.size=b-(k+a.size):=by rw[<-L,LN,af,p,Nat.mul_one]
   have v:(cI (g++a.data.toList)).length=k+a.size:=by rw[rC,ot,F,q]
   have W:((cI (g++a.data.toList)).toArray++h).size=b:=by simp only[Array.size_append,List.size_toArray,v,V];omega
   refine⟨_,_,γ.set (pm.pick m) ⟨w.heap.size,0,1,b⟩,n,HU (bZ:=1) (aS:=b) r (by omega) (by omega),?_⟩;refine(Step.drawn (pm:=pm) s (w.drawn+1)).trans ?_ s;have X:=(Step.drawn (pm:=pm) s (w.drawn+1)).rel;refine Step.alloc (w:={w with drawn:=w.drawn+1}) X U (.bytes e (g++a.data.toList)) (.cells ((cI (g++a.data.toList)).toArray++h) e) 1 b λ_ f _=>?_;refine⟨(cI (g++a.data.toList)).toArray++h,(0,0),by simp,λD _=>by simp,rfl,rfl,by rw[W];exact bg _,by rw[<-rC,v];exact r,λD E i=>?_⟩;refine⟨E,?_,?_⟩
   ·have j:=(je.1 i).1;show((cI (g++a.data.toList)).toArray++h)[D]? = some E;rw[x2 (by rw[List.size_toArray];exact j),x5];exact i
   ·obtain⟨_,e,t⟩:=(wz (γ:=f) (g++a.data.toList)).get i;rw[i]at e;cases e;exact t
  cases b with
  | none=>
    obtain⟨b,_,rfl⟩:=M.sW;subst b;simp only[aQ.run,ax,bT]at h;obtain⟨rfl,rfl⟩:=h;have:=T o B none 0 [] rfl (by omega) (λd _=>by simp[firstCells,cI]);simpa using this
  | some j=>
    obtain⟨_,z,h⟩:=run_get h;split at h
    ·rename_i A c;obtain⟨V,h⟩:=iz h;simp only[b3,cC,df]at V;obtain⟨rfl,D,rfl⟩:=V;obtain⟨W,h⟩:=nh h;simp only[aQ.run,ax,bT]at h;obtain⟨rfl,rfl⟩:=h;obtain⟨L,E,_,aj,ak⟩:=M.l8;obtain⟨_,X,g2⟩:=o.aW j.block L E;rw[z]at X;cases X;obtain⟨r,Y,Z,k2,k3,F,k5,_,k7⟩:=g2;have aa:Step O base pm γ H w γ (H.put j.block .dead) w:=Step.write o E (by rw[z];trivial) W rfl (λ_ _=>rfl) rfl rfl rfl λal=>trivial;have ab:∀i v,(cI c)[i]? = some v->r[i]? = some v:=λi v e=>by
      obtain⟨h,t,u⟩:=k7 i v e;have:∃b n,v=.int b n:=by
       simp only[cI,iw,sG]at e;obtain⟨_,_,rfl⟩:=e;exact⟨_,_,rfl⟩
      obtain⟨b,n,rfl⟩:=this;have w:r[i]? = some h:=t;rw[w,u.U]
     have an:(cI c).length=c.length:=rC c;have aq:∀(cG:Nat) (d:World),d.heap=w.heap->(firstCells (P.cellsOf A) c.length (.slice (some ⟨L.aW,L.d+j.off,none⟩) c.length cG)).run P d=.ok (cI c).toArray d:=by
      intro cG d C;have n:d.heap[L.aW]? = some (.cells r A Y):=by rw[C];exact Z
      simp only[firstCells,p,Nat.mul_one];rw[run_loadCells d ⟨L.aW,L.d+j.off,none⟩ c.length (λb=>(r[L.d+j.off+b]?).getD undef) (λb _=>by
       rw[add_eq,my n,kh (by omega)];rfl)]
      congr 1;apply Array.ext';apply nb;intro i;by_cases e:i<c.length
      ·have h:(cI c)[i]? = some ((cI c)[i]'(by omega)):=eu (by omega);rw[show((cI c).toArray.toList)[i]? = (cI c)[i]? from rfl,h];have t:=ab i _ h;simp only[iw,pF e,gL,F,D,Nat.zero_add,t,jf]
      ·rw[gr (by simp;omega),gr (by simp[cI];omega)]
     have ad:∀(l:Option Addr) (cG:Nat),y=.slice l c.length cG->cG<c.length+a.size->(∀d:World,d.heap=w.heap->(firstCells (P.cellsOf A) c.length (.slice l c.length cG)).run P d=.ok (cI c).toArray d)->
      ∃bn ao f,(append_ #[t,u] ty #[y,.string a]).run P w=.ok bn ao/\aD f (.slice (some ⟨pm.pick H,0,none⟩) (c.length+a.size) (c.length+a.size)) bn/\Step O base pm γ H w f (pm.make (H.put j.block .dead) (.bytes A (c++a.data.toList))) ao:=by
      rintro l cG rfl b h;obtain⟨bn,ao,f,n,p2,p3⟩:=T aa.rel B l cG c rfl b h;exact⟨bn,ao,f,n,p2,aa.trans p3 o⟩
     rcases ak with⟨cG,rfl,xl,qq⟩ | ⟨A2,_,bF,rfl⟩
     ·by_cases h:c.length+a.size<=cG
      ·have O:=qq.resolve_left (by omega);have ar:L.d+j.off+cG*1<=L.e:=by have:=O.2;rwa [k3]at this
       have au:(cI a.data.toList).all c6=true:=by
        rw[eD];intro v b;simp only[cI,k1]at b;obtain⟨_,_,rfl⟩:=b;rfl
       have av:(cI a.data.toList).length=a.size:=by rw[rC,q]
       obtain⟨ao,t,e1,e2,u,e4,e5,e6,e7,e8,e9⟩:=ys (P:=P) (b:=L.aW) (off:=L.d+j.off+c.length) (cI a.data.toList) 0 w r Z k2 au (by omega);refine⟨.slice (some ⟨L.aW,L.d+j.off,none⟩) (c.length+a.size) cG,ao,γ.set (pm.pick H) ⟨L.aW,L.d+j.off,1,L.e⟩,?_,?_,?_⟩
       ·rw[yp I (.inr J) hk R (S w rfl) h];simp only[add_eq,p,Nat.mul_one,e1,Result.andThen_ok]
       ·have:=aD.fb (γ:=γ.set (pm.pick H) ⟨L.aW,L.d+j.off,1,L.e⟩) (off:=0) (n:=c.length+a.size) (cap:=c.length+a.size) (cG:=cG) (aL.fa γ (pm.pick H) _) h (bg _) (.inr ⟨Nat.one_pos,ar⟩);exact this
       ·refine Step.I' (kB:=⟨L.aW,L.d+j.off,1,L.e⟩) o B E (by rw[z];trivial) W rfl e5 e6 e7 e8 e9 λal f aj=>⟨t,Y,e2,by rw[u];exact k2,rfl,by rw[F,D],by rw[u];exact k5,?_,λi v e=>?_⟩
        ·show(c++a.data.toList).length<=L.e;rw[ot,q];omega
        ·have n:aD f v v:=by
          obtain⟨_,b,w⟩:=(wz (γ:=f) (c++a.data.toList)).get e;rw[e]at b;cases b;exact w
         refine⟨v,?_,n⟩;rw[GH]at e;show t[i]? = some v;rw[e4,F,D];simp only[Nat.zero_add,Nat.add_zero];by_cases b:i<c.length
         ·rw[aC (by omega)];rw[hi (by omega)]at e;exact ab i v e
         ·rw[hR (by omega),an]at e;have w:=(je.1 e).1;rw[aT (by omega)];exact e
      ·exact ad _ _ rfl (by omega) (aq cG)
     ·have b:c=[]:=Cy A2;subst b;exact ad _ _ rfl (by omega) (λd _=>by simp[firstCells,loadCells,loadCellsFrom,cI])
    ·exact(ba h).elim
 ·exact(ba h).elim
end
section
variable{O:b0}{P:Program}{base:Nat}{pm:Perm}{γ:aL}{H aa:ad}{w:World}
theorem gD.length{l:List (Value×Value×Nat)}{aN:List MapEntry}(h:gD γ l aN):l.length=aN.length:=by
 induction h with
 | nil=>rfl
 | cons _ _ ih=>simp[ih]
theorem Rel.map(h:Rel O base γ H w){b c:Nat}{L:Loc}{a:List (Value×Value×Nat)}(rK:γ b=some L)(d:H.get b=some (.map a c)):∃ea:Array MapEntry,w.heap[L.aW]? = some (.map ea c)/\gD γ a ea.toList:=by
 obtain⟨_,c,e⟩:=h.aW b L rK;rw[d]at c;cases c;exact e
theorem C5{r:Nat}{o:Obj}(h:w.heap[r]? = some o)(a:∀c e f,o≠.cells c e f):(getObj r).run P w=.ok o w:=by
 cases o<;>first | exact absurd rfl (a _ _ _) | simp[getObj,Sem.run,h]
theorem oz{r c:Nat}{a:Array MapEntry}(h:w.heap[r]? = some (.map a c)):(getObj r).run P w=.ok (.map a c) w:=C5 h λ_ _ _=>nofun
theorem KM{r:Nat}{o a:Obj}(h:w.heap[r]? = some o)(b:∀c e f,o≠.cells c e f):(setObj r a).run P w=.ok () {w with heap:=w.heap.setIfInBounds r a}:=by
 cases o<;>first | exact absurd rfl (b _ _ _) | simp[setObj,Sem.run,h]
theorem sR{r c a:Nat}{d b:Array MapEntry}(h:w.heap[r]? = some (.map d c)):(setObj r (.map b a)).run P w=.ok () {w with heap:=w.heap.setIfInBounds r (.map b a)}:=KM h λ_ _ _=>nofun
theorem Rel.sV(e:Rel O base γ H w){b c a:Nat}{L:Loc}{f d:List (Value×Value×Nat)}{g cq:Array MapEntry}(rK:γ b=some L)(i:H.get b=some (.map f c))(f:pm.may b=true)(j:w.heap[L.aW]? = some (.map g c))(h:gD γ d cq.toList):
 Step O base pm γ H w γ (H.put b (.map d a)) {w with heap:=w.heap.setIfInBounds L.aW (.map cq a)}:=by
 have k:=(e'.1 j).1;exact Step.write e rK (by rw[i];trivial) f (by simp) (λc a=>by simp[sD (Ne.symm a)]) rfl rfl rfl λ_=>⟨cq,by simp[k],h⟩
theorem Q8(c:Rel O base γ H w){gN:Array TypeId}{t e ty:TypeId}{d k s g r:Value}(o:P.underlying t=some (.slice e))(p:gN[0]? = some t)(q:known P e=true)(l:aD γ d k)(u:aD γ s g)
 (h:(ei (P.cellsOf e) s λt n=>w4 (P.cellsOf e) d t n).run pm H=some (r,aa)):
 ∃bn ao,(copy_ gN ty #[k,g]).run P w=.ok bn ao/\aD γ r bn/\Step O base pm γ H w γ aa ao:=by
 obtain⟨_,v,n,a,x,_,y⟩:=uL (P:=P) c u h;clear h;obtain⟨z,A⟩:=y w rfl;have i:∀(f:Option Addr) (b j:Nat),(copy_ gN ty #[.slice f b j,g]).run P w=Result.andThen (((match f with | some m=>storeCells m (v.take (Nat.min n b*P.cellsOf e)) | none=>pure ()):Sem Unit).run P w) λ_ ao=>.ok (.int .i64 (Nat.min n b:Int)) ao:=by
  intro f b j;simp only[copy_,p,x5,fI,ou,Sem.run_bind,cD o,hl q,Result.andThen_ok,z,A _ (Nat.min_le_left n b)];cases f<;>simp[goInt]
 unfold w4 at a;split at a
 ·obtain⟨rfl,rfl,rfl⟩:=l.sW;obtain⟨rfl,rfl⟩:=db a;refine⟨.int .i64 0,w,?_,.int _ _,Step.refl c⟩;rw[i];simp
 ·rename_i m b j;obtain⟨_,r,_,_,h⟩:=l.l8;rw[cC]at a;by_cases d:Nat.min n b=0
  ·simp only[d,decide_true,cond_true]at a;obtain⟨rfl,rfl⟩:=db a;refine⟨.int .i64 0,w,?_,.int _ _,Step.refl c⟩
   rcases h with⟨jQ,rfl,_⟩ | ⟨rfl,_,bF,rfl⟩<;>rw[i]<;>simp[d,storeCells]
  ·simp only[d,decide_false,cond_false]at a;obtain⟨_,ao,s,w,B⟩:=xK (P:=P) c r (x.take (Nat.min n b*P.cellsOf e)) a;obtain⟨rfl,rfl⟩:=db B
   rcases h with⟨jQ,rfl,_⟩ | ⟨rfl,_⟩
   ·refine⟨_,ao,?_,.int _ _,w⟩;rw[i];simp only[s,Result.andThen_ok]
   ·exact absurd (Nat.le_zero.1 (Nat.min_le_right n 0)) d
 ·exact(ba a).elim
theorem Q5(a:Rel O base γ H w){gN:Array TypeId}{t e ty:TypeId}{z d f r:Value}(b:P.underlying t=some (.slice e))(c:gN[0]? = some t)(g:zeroOf P e=some z)(i:aD γ d f)(h:(w2 z.cells.toList (some d)).run pm H=some (r,aa)):
 ∃ao,(clear_ gN ty #[f]).run P w=.ok bz ao/\r=bz/\Step O base pm γ H w γ aa ao:=by
 obtain⟨_,j,_⟩:=ky g;unfold w2 at h;split at h
 ·rename_i k;cases k;obtain⟨rfl,rfl,rfl⟩:=i.sW;obtain⟨rfl,rfl⟩:=db h;exact⟨w,by simp[clear_,c,cD b,bz],rfl,Step.refl a⟩
 ·rename_i _ n _ l;cases l;obtain⟨_,m,_,_,d⟩:=i.l8;rw[cC]at h;by_cases e:n=0
  ·subst e;simp only[decide_true,cond_true]at h;obtain⟨rfl,rfl⟩:=db h;refine⟨w,?_,rfl,Step.refl a⟩
   rcases d with⟨jQ,rfl,_⟩ | ⟨_,rfl,bF,rfl⟩<;>simp[clear_,c,cD b,bz]
  ·simp only[e,decide_false,cond_false]at h;obtain⟨_,ao,o,p,q⟩:=xK (P:=P) a m (yH (br.sf j) n) h;obtain⟨rfl,rfl⟩:=db q;refine⟨ao,?_,rfl,p⟩
   rcases d with⟨jQ,rfl,_⟩ | ⟨rfl,_⟩
   ·have h:(Builtin.zeroCells z.cells n).toList=times z.cells.toList n:=Ds z.cells n
    cases n with
    | zero=>omega
    | succ _=>simp[clear_,c,cD b,nj g,h,o,bz]
   ·omega
 ·exact(ba h).elim
theorem Q4(a:Rel O base γ H w){gN:Array TypeId}{t k e ty:TypeId}{d c r:Value}(f:P.underlying t=some (.map k e))(g:gN[0]? = some t)(i:aD γ d c)(h:(w3 (some d)).run pm H=some (r,aa)):
 ∃ao,(clear_ gN ty #[c]).run P w=.ok bz ao/\r=bz/\Step O base pm γ H w γ aa ao:=by
 unfold w3 at h;split at h
 ·rename_i j;cases j;cases i;obtain⟨rfl,rfl⟩:=db h;exact⟨w,by simp[clear_,g,cD f,bz],rfl,Step.refl a⟩
 ·rename_i _ l;cases l;obtain⟨L,d,rfl⟩:=i.r4;obtain⟨_,e,h⟩:=run_get h;split at h
  ·rename_i _ m;obtain⟨k,h⟩:=nh h;obtain⟨rfl,rfl⟩:=db h;obtain⟨_,b,_⟩:=a.map d e;refine⟨{w with heap:=w.heap.setIfInBounds L.aW (.map #[] m)},?_,rfl,?_⟩
   ·simp[clear_,g,cD f,oz b,bz,sR b]
   ·exact a.sV d e k b .nil
  ·exact(ba h).elim
 ·exact(ba h).elim
theorem Ri(g:Rel O base γ H w){gN:Array TypeId}{t ty:TypeId}{k:v8}{d f r:Value}(a:gN[0]? = some t)(b:match k with | .s=>P.underlying t=some .string | .l=>∃e,P.underlying t=some (.slice e) | .m=>∃k e,P.underlying t=some (.map k e))
 (c:aD γ d f) (h:(pd k (some d)).run pm H=some (r,aa)):(len_ gN ty #[f]).run P w=.ok r w/\aD γ r r/\aa=H:=by
 unfold pd at h;split at h
 ·rename_i i;cases i;obtain rfl:=c.fK;obtain⟨rfl,rfl⟩:=db h;exact⟨by simp[len_,a,cD b,goInt],.int _ _,rfl⟩
 ·rename_i j;cases j;obtain⟨e,d⟩:=b;obtain⟨rfl,rfl⟩:=db h;refine⟨?_,.int _ _,rfl⟩;cases c<;>simp[len_,a,cD d,goInt]
 ·rename_i l;cases l;obtain⟨k,e,d⟩:=b;cases c;obtain⟨rfl,rfl⟩:=db h;exact⟨by simp[len_,a,cD d,goInt],.int _ _,rfl⟩
 ·rename_i _ m;cases m;obtain⟨k,e,d⟩:=b;obtain⟨_,n,rfl⟩:=c.r4;obtain⟨_,o,h⟩:=run_get h;split at h
  ·rename_i _ _;obtain⟨_,e,k⟩:=g.map n o;have:=k.length;obtain⟨rfl,rfl⟩:=db h;refine⟨?_,.int _ _,rfl⟩;simp only[jE]at this;simp[len_,a,cD d,oz e,goInt,this]
  ·exact(ba h).elim
 ·exact(ba h).elim
end
section
variable{O:b0}{P:Program}{base:Nat}{pm:Perm}{γ:aL}{H aa:ad}{w:World}
theorem Gn(a b:ByteArray):(a==b)=true↔a=b:=by
 obtain⟨x⟩:=a;obtain⟨y⟩:=b;have c:((ByteArray.mk x)==(ByteArray.mk y))=(x==y):=rfl;rw[c,lV];constructor
 ·intro h;rw[h]
 ·intro h;cases h;rfl
theorem Nh{a b:ByteArray}(h:(a.toList==b.toList)=true):a=b:=by
 rw[<-beq_toListBytes]at h;exact(Gn a b).1 h
theorem Ka{k:fP}{a b:Value}(h:hg k a b=some true):b=a:=by
 unfold hg at h;split at h
 ·split at h
  ·rename_i c;simp only[ax,lB,lV]at h;rw[c,h]
  ·cases h
 ·simp only[ax]at h;rw[Nh h]
 ·simp only[ax,lV]at h;rw[h]
 ·cases h
theorem GV:∀{au:List fP} {x y:List Value},et au x y=some true->y=x
 | [],[],[],_=>rfl
 | k::au,_::x,_::y,h=>by
   simp only[et]at h;split at h
   ·rename_i a;rw[Ka a,GV h]
   ·split at h<;>cases h
   ·cases h
theorem Pv{c:fk}{a b:Value}(h:ht c a b=some true):b=a:=by
 unfold ht at h;split at h
 ·exact Ka h
 ·split at h
  ·rename_i x y;have:=GV h;obtain⟨x⟩:=x;obtain⟨y⟩:=y;simp only at this;rw[this]
  ·cases h
theorem qw{l:fk}{a b:Value}{r:Bool}(h:ht l a b=some r){bF:Value}(eA:aD γ a bF):bF=a:=by
 unfold ht at h;split at h
 ·unfold hg at h;split at h
  ·exact eA.U
  ·exact eA.fK
  ·exact eA.jP
  ·cases h
 ·split at h
  ·obtain⟨d,rfl,m⟩:=eA.p6;have:∀{e:List fP} {a c f:List Value} {r:Bool},et e a c=some r->br γ a f->f=a:=by
    intro e
    induction e with
    | nil=>
      intro a c f r h b;cases a<;>cases c<;>simp only[et,reduceCtorEq]at h;cases b;rfl
    | cons k e ih=>
      intro a c f r h b
      cases a with
      | nil=>simp[et]at h
      | cons x a=>
        cases c with
        | nil=>simp[et]at h
        | cons y c=>
          cases b with
          | cons b j=>
            have g:∃i,hg k x y=some i:=by
             simp only[et]at h;split at h
             ·exact⟨_,by assumption⟩
             ·exact⟨_,by assumption⟩
             ·cases h
            obtain⟨i,g⟩:=g;have n:∀{k:fP} {x y d:Value} {r:Bool},hg k x y=some r->aD γ x d->d=x:=by
             intro k x y d r h b;unfold hg at h;split at h
             ·exact b.U
             ·exact b.fK
             ·exact b.jP
             ·cases h
            rw[n g b];simp only[et,g]at h
            cases i with
            | true=>rw[ih h j]
            | false=>
              simp only at h;split at h
              ·rename_i o;rw[ih o j]
              ·cases h
   rw[k2.1 (this h m)]
  ·cases h
theorem xp{t:TypeId}{a:fk}(h:hv P t=some a):(∃k,a=.one k/\jb P t=some k)∨∃au,a=.cells au/\pP P t=some au:=by
 unfold hv at h;split at h
 ·rename_i k c;simp only[ax]at h;exact .inl ⟨k,h.symm,c⟩
 ·cases b:pP P t with
  | none=>rw[b]at h;cases h
  | some au=>
    rw[b]at h;simp only[gL,ax]at h;exact .inr ⟨au,h.symm,rfl⟩
theorem C7{t:TypeId}{c:fk}{a b:Value}{r:Bool}(d:hv P t=some c)(h:ht c a b=some r):(Op.equal t a b).run P w=.ok r w:=by
 rcases xp d with⟨k,rfl,fF⟩ | ⟨au,rfl,hL⟩
 ·exact xJ fF h
 ·simp only[ht]at h;split at h
  ·exact JL hL h
  ·cases h
theorem Cm{t:TypeId}{d:TypeDesc}{k:fP}{a b:Value}{r:Bool}(c:jb P t=some k)(e:P.underlying t=some d)(h:hg k a b=some r):Instr.sameNow d a b=some r:=by
 unfold jb at c;rw[e]at c;unfold hg at h;split at h
 ·split at h
  ·rename_i f;simp only[ax,lB]at h;subst h f;split at c<;>simp only[ax,reduceCtorEq]at c;rename_i g;cases g;simp[Instr.sameNow]
  ·cases h
 ·simp only[ax]at h;subst h;split at c<;>simp only[ax,reduceCtorEq]at c;rename_i i;cases i;simp[Instr.sameNow,beq_toListBytes]
 ·simp only[ax]at h;subst h;split at c<;>simp only[ax,reduceCtorEq]at c;rename_i j;cases j;simp[Instr.sameNow]
 ·cases h
theorem Cl{k:fP}{a b:Value}{r:Bool}(h:hg k a b=some r)(n:Nat):Instr.sameBits n a a=true:=by
 unfold hg at h;split at h
 ·cases n<;>simp[Instr.sameBits]
 ·cases n<;>simp[Instr.sameBits,Gn]
 ·cases n<;>simp[Instr.sameBits]
 ·cases h
theorem zT(n:Nat):∀{au:List fP} {x y:List Value} {r:Bool},et au x y=some r->((x.zip x).all λ(a,b)=>Instr.sameBits n a b)=true
 | [],[],[],_,_=>rfl
 | k::au,a::x,b::y,r,h=>by
   simp only[et]at h;split at h
   ·rename_i c;simpa [Cl c n]using zT n h
   ·rename_i d;split at h
    ·rename_i e;simpa [Cl d n]using zT n e
    ·cases h
   ·cases h
theorem Ie{c:fk}{a b:Value}{r:Bool}(h:ht c a b=some r):(Instr.keyThatStays a a).run P w=.ok a w:=by
 have:Instr.sameBits 10000 a a=true:=by
  unfold ht at h;split at h
  ·exact Cl h _
  ·split at h
   ·simp only[Instr.sameBits,beq_self_eq_true,Bool.true_and];exact zT _ h
   ·cases h
 simp[Instr.keyThatStays,this]
end
section
variable{O:b0}{P:Program}{base:Nat}{pm:Perm}{γ:aL}{H aa:ad}{w:World}
theorem KI{em:Bool}{n:Nat}:∀(cx:List Field) (i:Nat) (au:List fP) (b xs c:List Value) (r:Bool),pz P cx i=some au->et au xs c=some r->b.length=i->
 (forIn cx PUnit.unit λ(f:Field) _=>do
  if f.name≠ "_" then do
   Instr.checkKey em (n+1) f.type (<-part f.type ⟨b++xs⟩ f.offset)
   pure (ForInStep.yield PUnit.unit)
   else pure (ForInStep.yield PUnit.unit):Sem PUnit).run P w=.ok () w
 | [],i,au,b,xs,c,r,_,_,_=>by simp
 | f::cx,i,au,b,xs,c,r,a,h,l=>by
   simp only[pz]at a;split at a
   ·rename_i g;simp only[b3,bne_iff_ne,lV]at g;split at a
    ·rename_i _ m d q;simp only[ax]at a;subst a
     cases xs with
     | nil=>simp[et]at h
     | cons e x=>
       cases c with
       | nil=>simp[et]at h
       | cons _ y=>
         obtain⟨o,r⟩:=uP d;simp only[et]at h;have s:(part f.type ⟨b++e::x⟩ f.offset).run P w=.ok e w:=yr o r (by rw[g.2];simp[<-l]);obtain⟨t,p⟩:=rY o;have u:(Instr.checkKey em (n+1) f.type e).run P w=.ok () w:=by
          unfold jb at d;rw[p]at d;cases t<;>simp only[ax,reduceCtorEq]at d<;>simp[Instr.checkKey,cD p]
         have j:∃k,et m x y=some k:=by
          split at h
          ·exact⟨_,h⟩
          ·split at h
           ·exact⟨_,by assumption⟩
           ·cases h
          ·cases h
         obtain⟨k,j⟩:=j;have ih:=KI (em:=em) (n:=n) cx (i+1) m (b++[e]) x y k q j (by simp[l]);simp only[sw,List.singleton_append]at ih;simp only[List.forIn_cons,Sem.run_bind,g.1,ne_eq,not_false_eq_true,if_true,s,Result.andThen_ok,u,Sem.run_pure];exact ih
    ·cases a
   ·cases a
theorem qU{t:TypeId}{c:fk}{a b:Value}{r em:Bool}(d:hv P t=some c)(h:ht c a b=some r):(Instr.checkKey em 10000 t a).run P w=.ok () w:=by
 rcases xp d with⟨k,rfl,fF⟩ | ⟨au,rfl,hL⟩
 ·obtain⟨e,_⟩:=uP fF;obtain⟨f,b⟩:=rY e;unfold jb at fF;rw[b]at fF;show(Instr.checkKey em (9999+1) t a).run P w=_;generalize 9999=n;cases f<;>simp only[ax,reduceCtorEq]at fF<;>simp[Instr.checkKey,cD b]
 ·obtain⟨a,b,_,_,e⟩:=vs hL;simp only[ht]at h;split at h
  ·rename_i x y;have:=KI (P:=P) (w:=w) (em:=em) (n:=9998) a.toList 0 au [] x.toList y.toList r e h rfl;simp only[u4]at this;show(Instr.checkKey em (9999+1) t (.agg x)).run P w=_;unfold Instr.checkKey;simp only[Sem.run_bind,cD b,Result.andThen_ok];rw[<-Array.forIn_toList];have f:=congrArg (λr=>Result.andThen r λ(_:PUnit) g=>(pure ():Sem Unit).run P g) this;exact f
  ·cases h
structure Found(γ:aL)(kO:fk)(k:Value)(v:Value)(n:Nat)(es:List (Value×Value×Nat))(ea:List MapEntry)(j:Nat)(cJ:MapEntry):Prop where
 at_:ea[j]? = some cJ
 val:aD γ v cJ.val
 born:cJ.born=n
 key:cJ.key=k
 self:∃kO,ht kO k k=some true
 now:∀t d oj,kO=.one oj->jb P t=some oj->P.underlying t=some d->∀i0,Instr.findNow d k ea i0=some (some (i0+j,cJ.val))
 ask:∀t (w:World),hv P t=some kO->∀i0,(Instr.findAsking t k ea i0).run P w=.ok (some (i0+j,cJ.val)) w
 set:∀x Hv,sU kO k x es=some Hv->∀f:MapEntry->MapEntry,(f cJ).key=k->aD γ x (f cJ).val->(f cJ).born=n->gD γ Hv (ea.modify j f)
structure F1(kO:fk)(k:Value)(ea:List MapEntry):Prop where
 self:ht kO k k=some true
 now:∀t d oj,kO=.one oj->jb P t=some oj->P.underlying t=some d->∀i0,Instr.findNow d k ea i0=some none
 ask:∀t (w:World),hv P t=some kO->∀i0,(Instr.findAsking t k ea i0).run P w=.ok none w
theorem find_spec{i:fk}{k:Value}:∀{l:List (Value×Value×Nat)} {ea:List MapEntry} {b:Option (Value×Nat)},gD γ l ea->findKey i k l=some b->
  match b with
  | some (v,n)=>∃j cJ,Found (P:=P) γ i k v n l ea j cJ
  | none=>F1 (P:=P) i k ea
 | _,_,b,.nil,h=>by
   simp only[findKey]at h;split at h
   ·rename_i s;simp only[ax]at h;subst h;exact⟨s,λ_ _ _ _ _ _ a=>rfl,λ_ _ _ a=>rfl⟩
   ·cases h
 | _,_,b,@gD.cons _ x u _ _ y t,h=>by
   obtain⟨_,v,n⟩:=x;obtain⟨o,⟨k,f⟩,m,p⟩:=y;simp only at o f m p;subst o p;simp only[findKey]at h;split at h
   ·rename_i g;simp only[ax]at h;subst h;have a:=Pv g;refine⟨0,u,⟨rfl,m,rfl,a,⟨k,by rw[<-a];exact f⟩,λt _ _ d j n q=>?_,λt w d q=>?_,λx _ e _ r v z=>?_⟩⟩
    ·subst d;simp[Instr.findNow,Cm j n g]
    ·simp[Instr.findAsking,C7 d g]
    ·simp only[sU,g,ax]at e;subst e;rw[List.modify_zero_cons];exact .cons ⟨r,⟨k,by rw[<-a];exact f⟩,v,z⟩ t
   ·rename_i c;have ih:=find_spec t h
    cases b with
    | none=>
      obtain⟨n,q,r⟩:=ih;refine⟨n,λt v z a e j d=>?_,λt w a d=>?_⟩
      ·have:=q t v z a e j (d+1);subst a;simp[Instr.findNow,Cm e j c,this]
      ·simp[Instr.findAsking,C7 a c,r t w a (d+1)]
    | some v=>
      obtain⟨_,_⟩:=v;obtain⟨j,cJ,a⟩:=ih;refine⟨j+1,cJ,⟨by simpa using a.at_,a.val,a.born,a.key,a.self,λt z A d q r n=>?_,λt w d n=>?_,λx _ e B C D E=>?_⟩⟩
      ·have:=a.now t z A d q r (n+1);subst d;simp[Instr.findNow,Cm q r c,this];omega
      ·simp[Instr.findAsking,C7 d c,a.ask t w d (n+1)];omega
      ·simp only[sU,c]at e;split at e
       ·rename_i F G;simp only[ax]at e;subst e;rw[List.modify_succ_cons];exact .cons ⟨rfl,⟨k,f⟩,m,rfl⟩ (a.set x F G B C D E)
       ·cases e
   ·cases h
end
section
variable{O:b0}{P:Program}{base:Nat}{pm:Perm}{γ:aL}{H aa:ad}{w:World}
theorem HC{cx:Array Field}{k:Value}{e:MapEntry}{a:List MapEntry}{i:Nat}:Instr.findNow (.struct cx) k (e::a) i=none:=by simp[Instr.findNow,Instr.sameNow]
theorem C4{t:TypeId}{a:fk}{k v:Value}{n j:Nat}{d:List (Value×Value×Nat)}{ea:List MapEntry}{cJ:MapEntry}(b:hv P t=some a)(h:Found (P:=P) γ a k v n d ea j cJ):
 (Instr.findKey t k ea).run P w=.ok (some (j,cJ.val)) w:=by
 rcases xp b with⟨oj,rfl,fF⟩ | ⟨au,rfl,hL⟩
 ·obtain⟨d,c⟩:=rY (uP fF).1;have:=h.now t d oj rfl fF c 0;simp[Instr.findKey,cD c,this]
 ·obtain⟨_,c,_⟩:=vs hL;have:=h.ask t w b 0
  cases ea with
  | nil=>have:=h.at_;simp at this
  | cons _ _=>simpa [Instr.findKey,cD c,HC]using this
theorem yq{t:TypeId}{a:fk}{k:Value}{ea:List MapEntry}(b:hv P t=some a)(h:F1 (P:=P) a k ea):(Instr.findKey t k ea).run P w=.ok none w:=by
 rcases xp b with⟨oj,rfl,fF⟩ | ⟨au,rfl,hL⟩
 ·obtain⟨d,c⟩:=rY (uP fF).1;have:=h.now t d oj rfl fF c 0;simp[Instr.findKey,cD c,this]
 ·obtain⟨_,c,_⟩:=vs hL;have:=h.ask t w b 0
  cases ea with
  | nil=>simp[Instr.findKey,cD c,Instr.findNow]
  | cons _ _=>simpa [Instr.findKey,cD c,HC]using this
theorem rQ{c:fk}{k:Value}:∀{d:List (Value×Value×Nat)} {a:Option (Value×Nat)},findKey c k d=some a->∃b r,ht c k b=some r
 | [],a,h=>by
   simp only[findKey]at h;split at h
   ·exact⟨_,_,by assumption⟩
   ·cases h
 | (_,_,_)::d,a,h=>by
   simp only[findKey]at h;split at h
   ·exact⟨_,_,by assumption⟩
   ·exact⟨_,_,by assumption⟩
   ·cases h
theorem Rj(v:Rel O base γ H w){t j e:TypeId}{l:fk}{z x m k dd r:Value}{ok:Bool}(d:P.underlying t=some (.map j e))(a:hv P j=some l)(f:zeroOf P e=some z)(n:aD γ x m)(g:aD γ k dd)
 (h:(qg l z ok k (some x)).run pm H=some (r,aa)):∃bn,(Instr.lookup t m dd ok).run P w=.ok bn w/\aD γ r bn/\aa=H:=by
 obtain⟨_,o,_⟩:=ky f;have p:∀b,aD γ (bif ok then .tuple #[z,.bool b] else z) (if ok=true then .tuple #[z,.bool b] else z):=by
  intro b;cases ok
  ·exact aD.plain o
  ·exact .tuple (.cons (aD.plain o) (.cons (.bool b) .nil))
 unfold qg at h;split at h
 ·rename_i y;cases y;cases n;split at h
  ·rename_i i;obtain⟨rfl,rfl⟩:=db h;obtain rfl:=qw i g;refine⟨_,?_,p false,rfl⟩;have c:=yq (w:=w) a (ea:=[]) ⟨i,λ_ _ _ _ _ _ e=>rfl,λ_ _ _ e=>rfl⟩;have k:=qU (w:=w) (em:=true) a i;simp only[Instr.lookup,Sem.run_bind,cD d,Result.andThen_ok,Sem.run_pure];rw[show(#[]:Array MapEntry).isEmpty=true from rfl,k];simp only[Result.andThen_ok];rw[c];simp[nj f]
  ·exact(ba h).elim
 ·rename_i _ A;cases A;obtain⟨_,t,rfl⟩:=n.r4;obtain⟨_,w,c⟩:=run_get h;clear h;split at c
  ·rename_i _ _;obtain⟨ea,h,k⟩:=v.map t w;split at c
   ·rename_i _ _ q;obtain⟨rfl,rfl⟩:=db c;obtain⟨b,_,r⟩:=rQ q;obtain rfl:=qw r g;obtain⟨_,s,e⟩:=find_spec (P:=P) k q;refine⟨if ok=true then .tuple #[s.val,.bool true] else s.val,?_,?_,rfl⟩
    ·simp only[Instr.lookup,Sem.run_bind,cD d,Result.andThen_ok,Sem.run_pure,oz h,qU a r,C4 a e]
    ·cases ok
     ·exact e.val
     ·exact .tuple (.cons e.val (.cons (.bool true) .nil))
   ·rename_i u;obtain⟨rfl,rfl⟩:=db c;obtain⟨b,_,e⟩:=rQ u;obtain rfl:=qw e g;have r:=find_spec (P:=P) k u;refine⟨_,?_,p false,rfl⟩;simp only[Instr.lookup,Sem.run_bind,cD d,Result.andThen_ok,Sem.run_pure,oz h,qU a e,yq a r,nj f]
   ·exact(ba c).elim
  ·exact(ba c).elim
 ·exact(ba h).elim
theorem gD.push{a:List (Value×Value×Nat)}{ea:List MapEntry}{x:Value×Value×Nat}{e:MapEntry}(h:gD γ a ea)(b:FL γ x e):gD γ (a++[x]) (ea++[e]):=by
 induction h with
 | nil=>exact .cons b .nil
 | cons h _ ih=>exact .cons h ih
theorem getD_at{ea:Array MapEntry}{j:Nat}{cJ:MapEntry}{α:Type}{f:MapEntry->α}{d:α}(h:ea.toList[j]? = some cJ):((ea[j]?).map f).getD d=f cJ:=by
 rw[<-iv,h];rfl
theorem JG(g:Rel O base γ H w){t l e:TypeId}{i:fk}{x d k dd m n r:Value}(o:P.underlying t=some (.map l e))(f:hv P l=some i)(y:aD γ m n)(p:aD γ x d)(q:aD γ k dd)
 (h:(w8 i k x (some m)).run pm H=some (r,aa)):∃ao,(Instr.mapUpdate t n dd d).run P w=.ok () ao/\r=bz/\Step O base pm γ H w γ aa ao:=by
 unfold w8 at h;split at h
 ·rename_i _ z;cases z;obtain⟨_,j,rfl⟩:=y.r4;obtain⟨_,k,a⟩:=run_get h;clear h;split at a
  ·rename_i _ A;obtain⟨m,b,h⟩:=g.map j k;split at a
   ·rename_i v s;split at a
    ·rename_i _ B;obtain⟨t,w⟩:=nh a;obtain⟨rfl,rfl⟩:=db w;obtain⟨_,_,r⟩:=rQ s;obtain rfl:=qw r q;obtain⟨v,_⟩:=v;obtain⟨x,_,c⟩:=find_spec (P:=P) h s;obtain⟨_,C⟩:=c.self;refine⟨_,?_,rfl,g.sV j k t b (cq:=m.modify x λe=>{e with key:=dd,val:=d}) ?_⟩
     ·simp only[Instr.mapUpdate,Sem.run_bind,cD o,Result.andThen_ok,oz b,qU f r,C4 f c,getD_at c.at_,c.key,Ie C,sR b]
     ·rw[Array.toList_modify];exact c.set _ _ B _ rfl p c.born
    ·exact(ba a).elim
   ·rename_i u;obtain⟨r,t⟩:=nh a;obtain⟨rfl,rfl⟩:=db t;obtain⟨_,_,c⟩:=rQ u;obtain rfl:=qw c q;have e:=find_spec (P:=P) h u;refine⟨_,?_,rfl,g.sV j k r b (cq:=m.push {key:=dd,val:=d,born:=A}) ?_⟩
    ·simp only[Instr.mapUpdate,Sem.run_bind,cD o,Result.andThen_ok,oz b,qU f c,yq f e,sR b]
    ·rw[Array.toList_push];exact h.push ⟨rfl,⟨i,e.self⟩,p,rfl⟩
   ·exact(ba a).elim
  ·exact(ba a).elim
 ·exact(ba h).elim
theorem Rk(f:Rel O base γ H w){t l e:TypeId}{g:fk}{z k dd m n r:Value}(o:P.underlying t=some (.map l e))(d:hv P l=some g)(p:zeroOf P e=some z)(y:aD γ m n)(q:aD γ k dd)
 (h:(w5 g z k (some m)).run pm H=some (r,aa)):∃bn ao,(Instr.mapEntry t n dd).run P w=.ok bn ao/\aD γ r bn/\Step O base pm γ H w γ aa ao:=by
 obtain⟨_,s,_⟩:=ky p;unfold w5 at h;split at h
 ·rename_i _ A;cases A;obtain⟨_,i,rfl⟩:=y.r4;obtain⟨_,j,b⟩:=run_get h;clear h;split at b
  ·rename_i _ u;obtain⟨k,c,h⟩:=f.map i j;split at b
   ·rename_i _ B v;split at b
    ·rename_i _ C;obtain⟨r,t⟩:=nh b;obtain⟨rfl,rfl⟩:=db t;obtain⟨_,_,m⟩:=rQ v;obtain rfl:=qw m q;obtain⟨w,z,a⟩:=find_spec (P:=P) h v;obtain⟨_,D⟩:=a.self;refine⟨.tuple #[z.val,.int .i64 (B:Int)],_,?_,.tuple (.cons a.val (.cons (.int _ _) .nil)),f.sV i j r c (cq:=k.modify w λe=>{e with key:=dd}) ?_⟩
     ·simp only[Instr.mapEntry,Sem.run_bind,cD o,Result.andThen_ok,oz c,qU d m,C4 d a,getD_at a.at_,a.key,Ie D,sR c,Sem.run_pure,a.born,goInt]
     ·rw[Array.toList_modify];exact a.set _ _ C _ rfl a.val a.born
    ·exact(ba b).elim
   ·rename_i x;obtain⟨m,r⟩:=nh b;obtain⟨rfl,rfl⟩:=db r;obtain⟨_,_,a⟩:=rQ x;obtain rfl:=qw a q;have e:=find_spec (P:=P) h x;refine⟨.tuple #[z,.int .i64 (u:Int)],_,?_,.tuple (.cons (aD.plain s) (.cons (.int _ _) .nil)),f.sV i j m c (cq:=k.push {key:=dd,val:=z,born:=u}) ?_⟩
    ·simp only[Instr.mapEntry,Sem.run_bind,cD o,Result.andThen_ok,oz c,qU d a,yq d e,sR c,nj p,Sem.run_pure,goInt]
    ·rw[Array.toList_push];exact h.push ⟨rfl,⟨g,e.self⟩,aD.plain s,rfl⟩
   ·exact(ba b).elim
  ·exact(ba b).elim
 ·exact(ba h).elim
theorem K4{n:Nat}{x d:Value}(f:aD γ x d):∀{g a:List (Value×Value×Nat)} {ea:List MapEntry},gD γ g ea->yu n x g=some a->
 ∃j,ea.findIdx? (λe=>(e.born:Int)==(n:Int))=some j/\gD γ a (ea.modify j λe=>{e with val:=d})
 | _,_,_,.nil,h=>by cases h
 | _,a,_,@gD.cons _ y e _ _ m t,h=>by
   obtain⟨_,_,_⟩:=y;obtain⟨i,b,k,l⟩:=m;simp only at i b k l;subst i l;simp only[yu,cC]at h;by_cases c:n=e.born
   ·simp only[c,decide_true,cond_true,ax]at h;subst h;exact⟨0,by simp[List.findIdx?_cons,c],by rw[List.modify_zero_cons];exact .cons ⟨rfl,b,f,rfl⟩ t⟩
   ·simp only[c,decide_false,cond_false]at h;split at h
    ·rename_i _ o;simp only[ax]at h;subst h;obtain⟨j,p,q⟩:=K4 f t o;refine⟨j+1,?_,by rw[List.modify_succ_cons];exact .cons ⟨rfl,b,k,rfl⟩ q⟩;rw[List.findIdx?_cons,p];have:((e.born:Int)==(n:Int))=false:=by
      simp only[beq_eq_false_iff_ne,ne_eq];omega
     simp[this]
    ·cases h
theorem Q9(f:Rel O base γ H w){t:TypeId}{x c m g r:Value}{n:Nat}{k:IntKind}(l:aD γ m g)(o:aD γ x c)(h:(w7 n x (some m)).run pm H=some (r,aa)):
 ∃ao,(Instr.entryStore t g (.int k (n:Int)) c).run P w=.ok () ao/\r=bz/\Step O base pm γ H w γ aa ao:=by
 unfold w7 at h;split at h
 ·rename_i _ p;cases p;obtain⟨_,i,rfl⟩:=l.r4;obtain⟨_,j,a⟩:=run_get h;clear h;split at a
  ·rename_i _ _;obtain⟨b,d,k⟩:=f.map i j;split at a
   ·rename_i _ q;obtain⟨m,r⟩:=nh a;obtain⟨rfl,rfl⟩:=db r;obtain⟨s,h,cq⟩:=K4 o k q;refine⟨_,?_,rfl,f.sV i j m d (cq:=b.modify s λe=>{e with val:=c}) (by rw[Array.toList_modify];exact cq)⟩;rw[show b.toList.findIdx? (λe=>(e.born:Int)==(n:Int))=b.findIdx? (λe=>(e.born:Int)==(n:Int)) by cases b;simp]at h;simp only[Instr.entryStore,Sem.run_bind,oz d,Result.andThen_ok,KH,h,sR d]
   ·exact(ba a).elim
  ·exact(ba a).elim
 ·exact(ba h).elim
theorem Rn(f:Rel O base γ H w){ty:TypeId}{x i r:Value}(m:aD γ x i)(h:(w6 (some x)).run pm H=some (r,aa)):
 ∃bn ao,(Instr.next i true ty).run P w=.ok bn ao/\aD γ r bn/\Step O base pm γ H w γ aa ao:=by
 unfold w6 at h;split at h
 ·rename_i n b;cases b;obtain⟨L,j,_,rfl⟩:=m.jA;obtain⟨_,k,c⟩:=run_get h;clear h;split at c
  ·rename_i s g;obtain⟨_,l,o⟩:=f.aW _ _ j;rw[k]at l;cases l;obtain⟨d,p⟩:=o;obtain⟨h,a⟩:=iz c;clear c;rw[cC]at h;have h:=qP h;have b:L.d+n.off=0:=by omega
   rw[fG]at a;by_cases e:g<s.size
   ·simp only[e,decide_true,cond_true]at a;obtain⟨q,r⟩:=nh a;obtain⟨rfl,rfl⟩:=db r;have t:=(e'.1 d).1
    refine⟨_,{w with heap:=w.heap.setIfInBounds L.aW (.stringIter s (g+(Utf8.decode s g).2))},?_,.tuple (.cons (.bool true) (.cons (.int _ _) (.cons (.int _ _) .nil))),
     Step.write f j (by rw[k];trivial) q (by simp) (λ_ u=>by simp[sD (Ne.symm u)]) rfl rfl rfl λ_=>⟨by simp[t],p⟩⟩
    simp only[Instr.next,b,Sem.run_bind,C5 d (λ_ _ _=>nofun),Result.andThen_ok,e,if_true,KM d (λ_ _ _=>nofun),Sem.run_pure,goInt]
   ·simp only[e,decide_false,cond_false]at a;obtain⟨rfl,rfl⟩:=db a;refine⟨_,w,?_,.tuple (.cons (.bool false) .nil),Step.refl f⟩;simp only[Instr.next,b,Sem.run_bind,C5 d (λ_ _ _=>nofun),Result.andThen_ok,e,if_false,Sem.run_pure]
  ·exact(ba c).elim
 ·exact(ba h).elim
end
section
variable{O:b0}{P:Program}{base:Nat}{pm:Perm}{γ dZ:aL}{H aa:ad}{w ao:World}
theorem eK.pt{s:Sem Value}{v aH:Value}(h:s.run P w=.ok aH ao)(a:aD dZ v aH)(b:Step O base pm γ H w dZ aa ao):eK O P base pm γ H w (do Pure.pure (Next.value (<-s))) v aa:=
 ⟨_,aH,ao,dZ,KN h,.inl rfl,a,b⟩
theorem eK.JA{s:Sem Unit}{r:Value}(h:s.run P w=.ok () ao)(a:r=bz)(b:Step O base pm γ H w γ aa ao):eK O P base pm γ H w (do s;Pure.pure Next.skip) r aa:=by
 subst a;exact⟨.skip,undef,ao,γ,by simp[h],.inr ⟨rfl,rfl⟩,.tuple .nil,b⟩
theorem eK.same(a:Rel O base γ H w){s:Sem Value}{v:Value}(h:s.run P w=.ok v w/\aD γ v v/\aa=H):eK O P base pm γ H w (do Pure.pure (Next.value (<-s))) v aa:=
 .val a h.1 h.2.1 h.2.2
theorem eK.ex(a:Rel O base γ H w){s:Sem Value}{v:Value}(h:∃aH,s.run P w=.ok aH w/\aD γ v aH/\aa=H):eK O P base pm γ H w (do Pure.pure (Next.value (<-s))) v aa:=
 let ⟨_,b,c,d⟩:=h;.val a b c d
theorem eK.new{s:Sem Value}{v:Value}(h:∃aH ao dZ,s.run P w=.ok aH ao/\aD dZ v aH/\Step O base pm γ H w dZ aa ao):eK O P base pm γ H w (do Pure.pure (Next.value (<-s))) v aa:=
 let ⟨_,_,_,a,b,c⟩:=h;.pt a b c
theorem eK.wrote{s:Sem Value}{v:Value}(h:∃aH ao,s.run P w=.ok aH ao/\aD γ v aH/\Step O base pm γ H w γ aa ao):eK O P base pm γ H w (do Pure.pure (Next.value (<-s))) v aa:=
 let ⟨_,_,a,b,c⟩:=h;.pt a b c
theorem eK.stored{s:Sem Unit}{r:Value}(h:∃ao,s.run P w=.ok () ao/\r=bz/\Step O base pm γ H w γ aa ao):eK O P base pm γ H w (do s;Pure.pure Next.skip) r aa:=
 let ⟨_,a,b,c⟩:=h;.JA a b c
theorem kc{o:Option aV}{s:String}{e:Env}{r:Value×ad}(h:((kb o s).B e).run pm H=some r):∃d,o=some d/\(d.B e).run pm H=some r:=by
 cases o with
 | none=>cases h
 | some d=>exact⟨d,rfl,h⟩
theorem vM{t:TypeId}{l:List Value}(h:Dam.zeroCells P t=some l):∃z,zeroOf P t=some z/\l=z.cells.toList:=by
 unfold Dam.zeroCells at h
 cases a:zeroOf P t with
 | none=>rw[a]at h;cases h
 | some z=>rw[a]at h;exact⟨z,rfl,by simpa using h.symm⟩
variable{n:Nat}{e:Env}{a:Act}{G:Nat->Bool}
inductive rm(G:Nat->Bool)(place:Nat->Option (Nat×Nat)):List (Nat×Nat×bC)->List (Nat×Operand)->Prop
 | nil:rm G place [] []
 | cons {i off m:Nat} {x:Operand} {Kh:List (Nat×Nat×bC)} {qI:List (Nat×Operand)} (fF:place i=some (off,m)) (t:rm G place Kh qI):rm G place ((off,m,rand G x)::Kh) ((i,x)::qI)
theorem Cg(f:cW γ n e a)(g:eF G γ){d:Nat->Option (Nat×Nat)}{b:List (Nat×Nat×bC)}{c:List (Nat×Operand)}(i:rm G d b c):
 ∀{l:List (Nat×Nat×Value)},h9 e b=some l->o2 γ d l (c.map λp=>(p.1,a.eval p.2)):=by
 induction i with
 | nil=>
   intro l h;simp only[h9,ax]at h;subst h;exact .nil
 | @cons _ _ _ x b c a _ ih=>
   intro l h;simp only[h9]at h;split at h
   ·rename_i _ j;split at h
    ·rename_i _ k;simp only[ax]at h;subst h;exact .cons a (b' f g x j) (ih k)
    ·cases h
   ·cases h
theorem xb(b:cW γ n e a)(c:eF G γ):∀{xs:List Operand} {l:List Value},dN e (xs.map (rand G))=some l->br γ l (xs.map a.eval)
 | [],l,h=>by
   simp only[List.map_nil,dN,ax]at h;subst h;exact .nil
 | x::xs,l,h=>by
   simp only[u0,dN]at h;split at h
   ·rename_i _ d;split at h
    ·rename_i _ f;simp only[ax]at h;subst h;exact .cons (b' b c x d) (xb b c f)
    ·cases h
   ·cases h
theorem RE(f:Rel O base γ H w)(l:pm.X γ H)(b:cW γ n e a)(c:eF G γ){d g:_}{q:TypeId}{s:String}{z:Array Edge}{j:Op}{r:Value}
 (B:match j with | .move _ | .assign _ | .pick .. | .alloc _ | .box .. | .load .. | .store .. | .nilCheck _ | .unOp .. | .makeInterface .. | .makeFunc .. | .makeMap .. | .extract .. | .field .. | .fieldAddr .. | .indexAddr .. | .index ..=>True | _=>False)
 (h:((e0 P G ⟨d,j,q,s,z,g⟩).B e).run pm H=some (r,aa)):eK O P base pm γ H w (execOp a.eval ⟨d,j,q,s,z,g⟩) r aa:=by
 cases j<;>first | (exact B.elim) | skip
 case move x=>
  obtain⟨a,rfl⟩:=ni h;exact .pure f rfl (b' b c x a)
 case assign x=>
  obtain⟨a,rfl⟩:=ni h;exact .pure f rfl (b' b c x a)
 case pick C x y=>
  obtain⟨_,d,h⟩:=eI h;have a:=b' b c C d;split at h
  ·obtain⟨e,rfl⟩:=ni h;have:=a.jP;exact .pure f (by simp[execOp,this,asBool]) (b' b c x e)
  ·obtain⟨e,rfl⟩:=ni h;have:=a.jP;exact .pure f (by simp[execOp,this,asBool]) (b' b c y e)
  ·exact(ba h).elim
 case alloc t=>
  obtain⟨_,a,h⟩:=kc h
  cases d:Dam.zeroCells P t with
  | none=>rw[d]at a;cases a
  | some _=>
    rw[d]at a;simp only[gL,ax]at a;subst a;obtain⟨_,e,rfl⟩:=vM d;exact .new (QW f l e h)
 case box t x=>
  obtain⟨_,a,h⟩:=eI h;exact .new (Q0 f l (b' b c x a) h)
 case load t x=>
  simp only[e0]at h;split at h
  ·rename_i D;simp only[aV.B]at h
   cases a:aO e (rand G x) with
   | none=>rw[a]at h;cases h
   | some _=>rw[a]at h;exact .ex f (JF f D (b' b c x a) h)
  ·exact(ba h).elim
 case store t x y=>
  simp only[e0]at h;split at h
  ·rename_i E;simp only[aV.B]at h
   cases a:aO e (rand G x) with
   | none=>rw[a]at h;cases h
   | some _=>
     cases d:aO e (rand G y) with
     | none=>rw[a,d]at h;simp only[kH]at h;exact(ba h).elim
     | some u=>rw[a,d]at h;exact .stored (Rv f E (b' b c x a) (b' b c y d) h)
  ·exact(ba h).elim
 case nilCheck x=>
  obtain⟨_,d,h⟩:=eI h;split at h
  ·obtain⟨rfl,rfl⟩:=db h;have a:=b' b c x d;obtain⟨_,_,_,e⟩:=a.jA;refine .pure f ?_ a;simp[execOp,e]
  ·exact(ba h).elim
 case unOp u t x=>
  obtain⟨_,a,h⟩:=eI h;obtain⟨d,rfl⟩:=ni h;obtain⟨e,g⟩:=Rx (P:=P) (w:=w) d (b' b c x a);exact .val f e g rfl
 case makeInterface t x=>
  simp only[e0]at h;split at h
  ·exact(ba h).elim
  ·rename_i F I J;obtain⟨_,d,h⟩:=eI h;obtain⟨rfl,rfl⟩:=db h;refine .val f (aH:=.iface t (a.eval x)) ?_ (.iface (b' b c x d)) rfl;simp only[Instr.makeInterface,Sem.run_bind,cD J,Result.andThen_ok];cases F<;>first | rfl | exact absurd rfl (I _)
  ·exact(ba h).elim
 case makeFunc _ first o=>
  simp only[e0]at h;split at h
  ·rename_i K;split at h
   ·rename_i L;simp only[aV.B]at h;split at h
    ·rename_i _ M;obtain⟨rfl,rfl⟩:=db h;have:=xb b c M;have d:first=#[]:=by simpa using L
     subst d;refine .pure f (aH:=.func (.func K) #[] ⟨o.toList.map a.eval⟩) ?_ (.func this);have:o.map a.eval=⟨o.toList.map a.eval⟩:=by apply Array.ext';simp
     simp[execOp,Instr.makeFunc,this]
    ·exact(ba h).elim
   ·exact(ba h).elim
  ·exact(ba h).elim
 case makeMap t N=>
  simp only[e0]at h;split at h
  ·rename_i Q;have:N=none:=by simpa using Q
   subst this;exact .new (Rl f l h)
  ·exact(ba h).elim
 case extract x i=>
  obtain⟨_,a,h⟩:=eI h;split at h
  ·rename_i _;obtain⟨d,rfl⟩:=ni h;obtain⟨_,e,g⟩:=Q' (P:=P) (w:=w) (b' b c x a) d;exact .val f e g rfl
  ·exact(ba h).elim
 case field t x i=>
  obtain⟨_,a,h⟩:=kc h
  cases d:P.underlying t with
  | none=>rw[d]at a;simp at a
  | some g=>
    rw[d]at a;cases g<;>simp only[k3,lZ,fJ,reduceCtorEq]at a;rename_i R
    cases e:R[i]? with
    | none=>rw[e]at a;cases a
    | some _=>
      rw[e]at a;simp only[fJ]at a;split at a
      ·rename_i S;simp only[ax]at a;subst a;obtain⟨_,k,h⟩:=eI h;split at h
       ·rename_i _;obtain⟨m,rfl⟩:=ni h;obtain⟨_,n,r⟩:=Ra (P:=P) (w:=w) d e S (b' b c x k) m;exact .val f n r rfl
       ·exact(ba h).elim
      ·cases a
 case fieldAddr t x i=>
  obtain⟨_,a,h⟩:=kc h
  cases d:P.underlying t with
  | none=>rw[d]at a;simp at a
  | some g=>
    rw[d]at a;cases g<;>simp only[k3,lZ,fJ,reduceCtorEq]at a;rename_i T
    cases e:T[i]? with
    | none=>rw[e]at a;cases a
    | some _=>
      rw[e]at a;simp only[fJ]at a;split at a
      ·rename_i p;simp only[b3,bne_iff_ne]at p;simp only[ax]at a;subst a;obtain⟨_,k,h⟩:=eI h;split at h
       ·rename_i _;obtain⟨rfl,rfl⟩:=db h;obtain⟨_,m,n⟩:=Rb (P:=P) (w:=w) d e p.1 p.2 (b' b c x k) rfl;exact .val f m n rfl
       ·exact(ba h).elim
      ·cases a
 case indexAddr t x i=>
  simp only[e0]at h;have n:∀{k:Option Value->Option Nat->aQ},(k (aO e (rand G x)) (cH (aO e (rand G i)))).run pm H=some (r,aa)->(∀m,k none m=.fail)->(∀v,k (some v) none=.fail)->∃v u m,aO e (rand G x)=some v/\aO e (rand G i)=some u/\cH (some u)=some m/\(k (some v) (some m)).run pm H=some (r,aa):=by
   intro k a r h
   cases d:aO e (rand G x) with
   | none=>rw[d,r]at a;exact(ba a).elim
   | some v=>
     cases g:aO e (rand G i) with
     | none=>rw[d,g]at a;simp only[cH]at a;rw[h]at a;exact(ba a).elim
     | some u=>
       cases e:cH (some u) with
       | none=>rw[d,g,e,h]at a;exact(ba a).elim
       | some m=>rw[d,g,e]at a;exact⟨v,u,m,rfl,rfl,e,a⟩
  split at h
  ·rename_i U V;split at h
   ·rename_i W;obtain⟨v,u,m,a,d,e,g⟩:=n (k:=nU (P.cellsOf U)) h (λ_=>rfl) (λv=>by cases v<;>first | rfl | (rename_i X _ _;cases X<;>rfl));exact .ex f (Rg V W (b' b c x a) (b' b c i d) e g)
   ·exact(ba h).elim
  ·rename_i Y Z hu;split at h
   ·rename_i hk;obtain⟨v,u,m,a,d,e,g⟩:=n (k:=nT Y (P.cellsOf Z)) h (λ_=>rfl) (λv=>by cases v<;>first | rfl | (rename_i ab;cases ab<;>rfl));exact .ex f (Rf hu hk (b' b c x a) (b' b c i d) e g)
   ·exact(ba h).elim
  ·exact(ba h).elim
 case index t x i=>
  simp only[e0]at h;have n:∀{k:Option Value->Option Nat->aQ},(k (aO e (rand G x)) (cH (aO e (rand G i)))).run pm H=some (r,aa)->(∀m,k none m=.fail)->(∀v,k (some v) none=.fail)->∃v u m,aO e (rand G x)=some v/\aO e (rand G i)=some u/\cH (some u)=some m/\(k (some v) (some m)).run pm H=some (r,aa):=by
   intro k a r h
   cases d:aO e (rand G x) with
   | none=>rw[d,r]at a;exact(ba a).elim
   | some v=>
     cases g:aO e (rand G i) with
     | none=>rw[d,g]at a;simp only[cH]at a;rw[h]at a;exact(ba a).elim
     | some u=>
       cases e:cH (some u) with
       | none=>rw[d,g,e,h]at a;exact(ba a).elim
       | some m=>rw[d,g,e]at a;exact⟨v,u,m,rfl,rfl,e,a⟩
  split at h
  ·rename_i ad;obtain⟨v,u,m,a,d,e,g⟩:=n (k:=nV) h (λ_=>rfl) (λv=>by cases v<;>rfl);exact .same f (Rh ad (b' b c x a) (b' b c i d) e g)
  ·rename_i ln A ae;split at h
   ·rename_i af;obtain⟨v,u,m,a,d,e,g⟩:=n (k:=pc (iV P A) ln (P.cellsOf A)) h (λ_=>rfl) (λv=>by cases v<;>rfl);exact .ex f (Re ae af (b' b c x a) (b' b c i d) e g)
   ·exact(ba h).elim
  ·exact(ba h).elim
end
section
variable{O:b0}{P:Program}{base:Nat}{pm:Perm}{γ dZ:aL}{H aa:ad}{w ao:World}{n:Nat}{e:Env}{a:Act}{G:Nat->Bool}
theorem Kb{cx:Array Field}:∀{a:List (Nat×Operand)} {b:List (Nat×Nat×bC)},(a.mapM λp=>(cx[p.1]?).map λf=>(f.offset,P.cellsOf f.type,rand G p.2))=some b->
 rm G (λi=>(cx.map λf=>(f.offset,P.cellsOf f.type))[i]?) b a
 | [],b,h=>by
   simp only[List.mapM_nil,k3,ax]at h;subst h;exact .nil
 | (i,_)::a,b,h=>by
   simp only[List.mapM_cons,lZ,k3]at h
   cases c:cx[i]? with
   | none=>rw[c]at h;cases h
   | some f=>
     rw[c]at h;simp only[gL,fJ]at h
     cases d:(a.mapM λp=>(cx[p.1]?).map λf=>(f.offset,P.cellsOf f.type,rand G p.2)) with
     | none=>rw[d]at h;cases h
     | some _=>
       rw[d]at h;simp only[fJ,ax]at h;subst h;exact .cons (by simp[c]) (Kb d)
theorem Cn{aS:Nat}:∀(a:List (Nat×Operand)),rm G (λi=>some (i*aS,aS)) (a.map λp=>(p.1*aS,aS,rand G p.2)) a
 | []=>.nil
 | (_,_)::a=>.cons rfl (Cn a)
theorem RF(c:Rel O base γ H w)(u:pm.X γ H)(f:cW γ n e a)(i:eF G γ){d g:_}{m:TypeId}{o:String}{s:Array Edge}{j:Op}{r:Value}
 (v:match j with | .build .. | .buildSlice .. | .binOp .. | .convert ..=>True | _=>False)
 (h:((e0 P G ⟨d,j,m,o,s,g⟩).B e).run pm H=some (r,aa)):eK O P base pm γ H w (execOp a.eval ⟨d,j,m,o,s,g⟩) r aa:=by
 cases j<;>first | (exact v.elim) | skip
 case build t l=>
  obtain⟨_,b,h⟩:=kc h
  cases d:Dam.zeroCells P t with
  | none=>rw[d]at b;cases b
  | some _=>
    obtain⟨_,g,rfl⟩:=vM d;rw[d]at b;simp only[lZ,fJ]at b;split at b
    ·rename_i z A
     cases e:(l.toList.mapM λp=>(z[p.1]?).map λk=>(k.offset,P.cellsOf k.type,rand G p.2)) with
     | none=>rw[e]at b;cases b
     | some _=>
       rw[e]at b;simp only[fJ]at b;split at b
       ·rename_i B;simp only[k3,ax]at b;subst b;simp only[aV.B]at h;split at h
        ·rename_i _ C;split at h
         ·rename_i _ D;obtain⟨rfl,rfl⟩:=db h;obtain⟨_,n,q⟩:=Q3 (P:=P) (w:=w) (parts:=l.map λp=>(p.1,a.eval p.2)) g A B (by rw[Array.toList_map];exact Cg f i (Kb e) C) D;exact .val c n q rfl
         ·exact(ba h).elim
        ·exact(ba h).elim
       ·cases b
    ·rename_i E _ F;split at b
     ·rename_i I;simp only[k3,ax]at b;subst b;simp only[aV.B]at h;split at h
      ·rename_i _ J;split at h
       ·rename_i _ K;obtain⟨rfl,rfl⟩:=db h;obtain⟨_,e,k⟩:=Q1 (P:=P) (w:=w) (parts:=l.map λp=>(p.1,a.eval p.2)) g F I (by rw[Array.toList_map];exact Cg f i (Cn l.toList) J) K;exact .val c e k rfl
       ·exact(ba h).elim
      ·exact(ba h).elim
     ·cases b
    ·cases b
 case buildSlice t E l=>
  obtain⟨_,b,h⟩:=kc h
  cases d:P.underlying t with
  | none=>rw[d]at b;simp at b
  | some g=>
    rw[d]at b;cases g<;>simp only[k3,lZ,fJ,reduceCtorEq]at b;rename_i L
    cases e:Dam.zeroCells P L with
    | none=>rw[e]at b;cases b
    | some _=>
      obtain⟨_,k,rfl⟩:=vM e;rw[e]at b;simp only[fJ]at b;split at b
      ·rename_i M;simp only[ax]at b;subst b;simp only[aV.B]at h;split at h
       ·rename_i _ N;split at h
        ·rename_i _ Q;obtain⟨_,ao,dZ,n,q,r⟩:=Q2 (P:=P) (w:=w) (parts:=l.map λp=>(p.1,a.eval p.2)) c u d k M (by rw[Array.toList_map];exact Cg f i (Cn l.toList) N) Q h;exact .pt n q r
        ·exact(ba h).elim
       ·exact(ba h).elim
      ·cases b
 case binOp j t x y R=>
  simp only[e0]at h;have n:∀{k:jo},(j=.eql∨j=.neq->nY P t x y=some k)->((aV.bin j k (rand G x) (rand G y)).B e).run pm H=some (r,aa)->eK O P base pm γ H w (execOp a.eval ⟨d,.binOp j t x y R,m,o,s,g⟩) r aa:=by
   intro k e h;obtain⟨_,g,h⟩:=eI h;obtain⟨_,p,h⟩:=eI h;obtain⟨a,rfl⟩:=ni h;have b:=b' f i x g;have d:=b' f i y p;unfold Dam.binOp at a;split at a
   ·split at a
    ·rename_i _ S;simp only[ax]at a;subst a;exact .val c (ok_eq (e (.inl rfl)) S b d).1 (.bool _) rfl
    ·cases a
   ·split at a
    ·rename_i _ T;simp only[ax]at a;subst a;exact .val c (ok_eq (e (.inr rfl)) T b d).2 (.bool _) rfl
    ·cases a
   ·obtain⟨h,k⟩:=JJ (P:=P) (w:=w) (t:=t) (gy:=x) (gz:=y) (.inl rfl) a b d;exact .val c h k rfl
   ·obtain⟨h,k⟩:=JJ (P:=P) (w:=w) (t:=t) (gy:=x) (gz:=y) (.inr rfl) a b d;exact .val c h k rfl
   ·rename_i U V W X;obtain⟨h,k⟩:=Rq (P:=P) (w:=w) (t:=t) (gy:=x) (gz:=y) ⟨W,X,U,V⟩ a b d;exact .val c h k rfl
  split at h
  ·obtain⟨_,a,h⟩:=kc h
   cases b:nY P t x y with
   | none=>rw[b]at a;cases a
   | some k=>
     rw[b]at a;simp only[gL,ax]at a;subst a;exact n (λ_=>b) h
  ·obtain⟨_,a,h⟩:=kc h
   cases b:nY P t x y with
   | none=>rw[b]at a;cases a
   | some k=>
     rw[b]at a;simp only[gL,ax]at a;subst a;exact n (λ_=>b) h
  ·rename_i Y Z;exact n (k:=.bE) (λq=>by rcases q with q | q;exact absurd q Y;exact absurd q Z) h
 case convert ab dt x=>
  simp only[e0]at h;split at h
  ·rename_i _ _ hs ad;obtain⟨_,a,h⟩:=eI h;exact .same c (Q7 hs ad (b' f i x a) h)
  ·rename_i el ae af;split at h
   ·rename_i he;obtain⟨a,b,h⟩:=eI h;have d:=b' f i x b;cases a<;>first | (exact(ba h).elim) | skip
    rename_i _;have g:=d.fK;obtain⟨k,ao,dZ,n,p,q⟩:=Rs (P:=P) (e:=el) c u h;refine .pt (aH:=k) ?_ p q;simp only[convert,Sem.run_bind,cD ae,cD af,Result.andThen_ok,g,cD he,n]
   ·exact(ba h).elim
  ·rename_i ag ah ai;split at h
   ·rename_i aj;obtain⟨_,b,h⟩:=eI h;have d:=b' f i x b;obtain⟨e,a,⟨g,k,n,p⟩,q,r⟩:=QZ (P:=P) c d h;refine .val c (aH:=e) ?_ q r;rw[p]at a|-;exact(run_convert_bytes_string w ab dt ag g k n ah aj ai).trans a
   ·exact(ba h).elim
  ·rename_i ak al;obtain⟨_,a,h⟩:=eI h;exact .same c (Q6 ak al (b' f i x a) h)
  ·exact(ba h).elim
end
section
variable{O:b0}{P:Program}{base:Nat}{pm:Perm}{γ dZ:aL}{H aa:ad}{w ao:World}{n:Nat}{e:Env}{a:Act}{G:Nat->Bool}
theorem xw{t:TypeId}{α:Type}{f:TypeId->TypeId->Option α}{a:α}(h:(do
 let .map mF el <-P.underlying t | none
 f mF el:Option α)=some a):∃mF el,P.underlying t=some (.map mF el)/\f mF el=some a:=by
 cases b:P.underlying t with
 | none=>rw[b]at h;simp at h
 | some c=>
   rw[b]at h;cases c<;>simp only[lZ,fJ,reduceCtorEq]at h;exact⟨_,_,rfl,h⟩
theorem RG(f:Rel O base γ H w)(q:pm.X γ H)(b:cW γ n e a)(c:eF G γ){d g:_}{s:TypeId}{u:String}{v:Array Edge}{i:Op}{r:Value}
 (E:match i with | .makeSlice .. | .slice .. | .lookup .. | .mapUpdate .. | .insert .. | .mapEntry .. | .entryStore .. | .range .. | .next ..=>True | _=>False)
 (h:((e0 P G ⟨d,i,s,u,v,g⟩).B e).run pm H=some (r,aa)):eK O P base pm γ H w (execOp a.eval ⟨d,i,s,u,v,g⟩) r aa:=by
 cases i<;>first | (exact E.elim) | skip
 case makeSlice t l y=>
  obtain⟨_,a,h⟩:=kc h
  cases g:P.underlying t with
  | none=>rw[g]at a;simp at a
  | some r=>
    rw[g]at a;cases r<;>simp only[k3,lZ,fJ,reduceCtorEq]at a;rename_i F
    cases j:Dam.zeroCells P F with
    | none=>rw[j]at a;cases a
    | some _=>
      obtain⟨_,w,rfl⟩:=vM j;rw[j]at a;simp only[fJ,ax]at a;subst a;simp only[aV.B]at h
      cases d:cH (aO e (rand G l)) with
      | none=>rw[d]at h;simp only[mD]at h;exact(ba h).elim
      | some _=>
        cases n:cH (aO e (rand G y)) with
        | none=>rw[d,n]at h;simp only[mD]at h;exact(ba h).elim
        | some _=>
          rw[d,n]at h;obtain⟨e,G⟩:=pq d;obtain⟨H,I⟩:=pq n;have J:=(b' b c l G).U;have K:=(b' b c y I).U;obtain⟨L,ao,dZ,M,N,O⟩:=Rm (P:=P) (t:=t) (k:=e) (dd:=H) f q g w h;refine .pt (aH:=L) ?_ N O;rw[J,K];exact M
 case slice t x o z A=>
  simp only[e0]at h;split at h
  ·rename_i Q;split at h
   ·exact(ba h).elim
   ·rename_i R;have:A=none:=by simpa using R
    subst this;simp only[aV.B]at h
    cases a:aO e (rand G x) with
    | none=>rw[a]at h;simp only[lA]at h;exact(ba h).elim
    | some _=>
      cases d:de e 0 (o.map (rand G)) with
      | none=>rw[a,d]at h;simp only[lA]at h;exact(ba h).elim
      | some l=>
        rw[a,d]at h;exact .same f (Ru Q (b' b c x a) (od b c d) (λm _ e=>od b c e) h)
  ·rename_i _ S;split at h
   ·rename_i p;simp only[b3,ir,iq]at p;obtain⟨_,d,h⟩:=eI h;split at h
    ·rename_i _ _ _;split at h
     ·rename_i l _ m T U V;refine .ex f (Rt f S p.1 (b' b c x d) (od b c T) (od b c U) (od b c V) ?_ h)
      rcases p.2 with a | a
      ·exact .inl (by simpa using a)
      ·exact .inr (by cases A<;>simp_all)
     ·exact(ba h).elim
    ·exact(ba h).elim
   ·exact(ba h).elim
  ·rename_i W _ X;split at h
   ·exact(ba h).elim
   ·rename_i B;simp only[ir,iq,not_or,Bool.not_eq_true,Bool.not_eq_false,Option.isSome_eq_false_iff,Option.isNone_iff_eq_none]at B;obtain⟨rfl,k⟩:=B;simp only[aV.B]at h
    cases a:aO e (rand G x) with
    | none=>rw[a]at h;simp only[nW]at h;exact(ba h).elim
    | some j=>
      cases d:de e 0 (o.map (rand G)) with
      | none=>rw[a,d]at h;cases j<;>first | exact(ba h).elim | (rename_i Y;cases Y<;>exact(ba h).elim)
      | some l=>
        cases g:de e W (z.map (rand G)) with
        | none=>rw[a,d,g]at h;cases j<;>first | exact(ba h).elim | (rename_i Z;cases Z<;>exact(ba h).elim)
        | some m=>
          rw[a,d,g]at h;exact .ex f (JK (tE:=none) X k (b' b c x a) (od b c d) (od b c g) h)
  ·rename_i ab hu;split at h
   ·rename_i ln _ ad;split at h
    ·exact(ba h).elim
    ·rename_i C;simp only[ir,iq,not_or,Bool.not_eq_true,Bool.not_eq_false,Option.isSome_eq_false_iff,Option.isNone_iff_eq_none]at C;obtain⟨rfl,k⟩:=C;simp only[aV.B]at h
     cases a:aO e (rand G x) with
     | none=>rw[a]at h;simp only[nW]at h;exact(ba h).elim
     | some j=>
       cases d:de e 0 (o.map (rand G)) with
       | none=>rw[a,d]at h;cases j<;>first | exact(ba h).elim | (rename_i ae;cases ae<;>exact(ba h).elim)
       | some l=>
         cases g:de e ln (z.map (rand G)) with
         | none=>rw[a,d,g]at h;cases j<;>first | exact(ba h).elim | (rename_i af;cases af<;>exact(ba h).elim)
         | some m=>
           rw[a,d,g]at h;exact .ex f (JK (tE:=some ab) ⟨hu,ad⟩ k (b' b c x a) (od b c d) (od b c g) h)
   ·exact(ba h).elim
  ·exact(ba h).elim
 case lookup t x k _=>
  obtain⟨_,a,h⟩:=kc h;obtain⟨n,r,t,a⟩:=xw a
  cases d:hv P n with
  | none=>rw[d]at a;cases a
  | some _=>
    cases g:zeroOf P r with
    | none=>rw[d,g]at a;cases a
    | some _=>
      rw[d,g]at a;simp only[k3,lZ,fJ,ax]at a;subst a;obtain⟨_,w,h⟩:=eI h
      cases j:aO e (rand G x) with
      | none=>rw[j]at h;exact(ba h).elim
      | some _=>
        rw[j]at h;exact .ex f (Rj f t d g (b' b c x j) (b' b c k w) h)
 case mapUpdate t m k x=>
  obtain⟨_,a,h⟩:=kc h;obtain⟨j,_,n,a⟩:=xw a
  cases d:hv P j with
  | none=>rw[d]at a;cases a
  | some _=>
    rw[d]at a;simp only[k3,lZ,fJ,ax]at a;subst a;obtain⟨_,r,h⟩:=eI h;obtain⟨_,t,h⟩:=eI h
    cases g:aO e (rand G m) with
    | none=>rw[g]at h;exact(ba h).elim
    | some _=>
      rw[g]at h;exact .stored (JG f n d (b' b c m g) (b' b c x t) (b' b c k r) h)
 case insert t m k x=>
  obtain⟨_,a,h⟩:=kc h;obtain⟨j,_,n,a⟩:=xw a
  cases d:hv P j with
  | none=>rw[d]at a;cases a
  | some _=>
    rw[d]at a;simp only[k3,lZ,fJ,ax]at a;subst a;obtain⟨_,r,h⟩:=eI h;obtain⟨_,t,h⟩:=eI h
    cases g:aO e (rand G m) with
    | none=>rw[g]at h;exact(ba h).elim
    | some _=>
      rw[g]at h;exact .stored (JG f n d (b' b c m g) (b' b c x t) (b' b c k r) h)
 case mapEntry t m k=>
  obtain⟨_,a,h⟩:=kc h;obtain⟨n,r,t,a⟩:=xw a
  cases d:hv P n with
  | none=>rw[d]at a;cases a
  | some _=>
    cases g:zeroOf P r with
    | none=>rw[d,g]at a;cases a
    | some _=>
      rw[d,g]at a;simp only[k3,lZ,fJ,ax]at a;subst a;obtain⟨_,w,h⟩:=eI h
      cases j:aO e (rand G m) with
      | none=>rw[j]at h;exact(ba h).elim
      | some _=>
        rw[j]at h;exact .wrote (Rk f t d g (b' b c m j) (b' b c k w) h)
 case entryStore t m ag x=>
  simp only[e0,aV.B]at h;split at h
  ·rename_i _ hs;obtain⟨_,d,h⟩:=eI h;obtain⟨k,g⟩:=pq hs;have j:=(b' b c ag g).U
   cases a:aO e (rand G m) with
   | none=>rw[a]at h;exact(ba h).elim
   | some _=>
     rw[a]at h;obtain⟨ao,e,n,r⟩:=Q9 (P:=P) (t:=t) (k:=k) f (b' b c m a) (b' b c x d) h;refine .JA (ao:=ao) ?_ n r;rw[j];exact e
  ·exact(ba h).elim
 case range t x=>
  simp only[e0]at h;split at h
  ·rename_i ah;obtain⟨_,a,h⟩:=eI h;have d:=b' b c x a;split at h
   ·have e:=d.fK;obtain⟨g,ao,dZ,j,k,n⟩:=Rr (P:=P) f q ah h;refine .pt (aH:=g) ?_ k n;rw[e];exact j
   ·exact(ba h).elim
  ·exact(ba h).elim
 case next D _=>
  simp only[e0]at h;split at h
  ·rename_i hb;subst hb;simp only[aV.B]at h
   cases a:aO e (rand G D) with
   | none=>rw[a]at h;exact(ba h).elim
   | some _=>
     rw[a]at h;exact .wrote (Rn f (b' b c D a) h)
  ·exact(ba h).elim
end
section
variable{O:b0}{P:Program}{base:Nat}{pm:Perm}{γ dZ:aL}{H aa:ad}{w ao:World}{n:Nat}{e:Env}{a:Act}{G:Nat->Bool}
theorem BJ{α β:Type}(f:α->β)(x:α):(#[x]:Array α).map f=#[f x]:=by simp
theorem kP{α β:Type}(f:α->β)(x y:α):(#[x,y]:Array α).map f=#[f x,f y]:=by simp
theorem RH(l:Rel O base γ H w)(D:pm.X γ H)(f:cW γ n e a)(i:eF G γ){d g:_}{c:TypeId}{q:String}{u:Array Edge}{b:Builtin}{args:Array Operand}{j:Array TypeId}{r:Value}
 (h:((e0 P G ⟨d,.call ⟨.builtin b,args,j⟩,c,q,u,g⟩).B e).run pm H=some (r,aa)):eK O P base pm γ H w (execOp a.eval ⟨d,.call ⟨.builtin b,args,j⟩,c,q,u,g⟩) r aa:=by
 simp only[e0]at h;have n:∀{b:Builtin},execOp a.eval ⟨d,.call ⟨.builtin b,args,j⟩,c,q,u,g⟩=Go.builtin b j c (args.map λ| .const _=>true | _=>false) (args.map a.eval):=λ{b}=>rfl;rw[n];split at h
 ·rename_i x t gN L M;have g:j[0]? = some t:=by rw[<-iv,M];rfl
  have N:args=#[x]:=k2.1 (by simpa using L);subst N
  have b:∀{k:v8},(match k with | .s=>P.underlying t=some .string | .l=>∃e,P.underlying t=some (.slice e) | .m=>∃k e,P.underlying t=some (.map k e))->((aV.len k (rand G x)).B e).run pm H=some (r,aa)->
   eK O P base pm γ H w (Go.builtin .len j c ((#[x]:Array Operand).map λ| .const _=>true | _=>false) ((#[x]:Array Operand).map a.eval)) r aa:=by
   intro k Q h;simp only[aV.B]at h
   cases d:aO e (rand G x) with
   | none=>rw[d]at h;cases k<;>exact(ba h).elim
   | some _=>
     rw[d]at h;rw[BJ a.eval];exact .same l (Ri (ty:=c) l g (by cases k<;>exact Q) (b' f i x d) h)
  split at h
  ·rename_i R;exact b (k:=.s) R h
  ·rename_i S T;exact b (k:=.l) ⟨S,T⟩ h
  ·rename_i U V W;exact b (k:=.m) ⟨U,V,W⟩ h
  ·exact(ba h).elim
 ·rename_i s m v y X E;have k:args=#[s,m]:=k2.1 (by simpa using X);have N:j=#[v,y]:=k2.1 (by simpa using E);subst k N
  have g:∀{b:TypeId},P.underlying v=some (.slice b)->tq P y->((zeroOf P b).isSome&&Nat.ble (P.bytesOf b) 17179869184)=true->((aV.append (P.cellsOf b) (P.bytesOf b) (rand G s) (rand G m)).B e).run pm H=some (r,aa)->
   eK O P base pm γ H w (Go.builtin .append #[v,y] c ((#[s,m]:Array Operand).map λ| .const _=>true | _=>false) ((#[s,m]:Array Operand).map a.eval)) r aa:=by
   intro b e G d h;simp only[b3,cg,df]at d;obtain⟨_,Q⟩:=u7.1 d.1;obtain⟨_,Y,h⟩:=eI h;obtain⟨_,Z,h⟩:=eI h;rw[kP a.eval];exact .new (QX (ty:=c) l D e G Q d.2 (b' f i s Z) (b' f i m Y) h)
  split at h
  ·rename_i b E ab ad;split at h
   ·rename_i hc;exact g ab (.inl ⟨_,ad⟩) hc h
   ·exact(ba h).elim
  ·rename_i b F I;split at h
   ·rename_i p;simp only[b3,cg,cC,df]at p;obtain⟨_,d⟩:=u7.1 p.1.1;obtain⟨_,e,h⟩:=eI h;obtain⟨_,r,h⟩:=eI h;rw[kP a.eval];exact .new (QY (ty:=c) l D F I d p.1.2 p.2 (b' f i s r) (b' f i m e) h)
   ·split at h
    ·rename_i ae;exact g F (.inr I) ae h
    ·exact(ba h).elim
  ·exact(ba h).elim
 ·rename_i J K af gN e1 e2;have b:j[0]? = some af:=by rw[<-iv,e2];rfl
  have d:args=#[J,K]:=k2.1 (by simpa using e1);subst d;split at h
  ·rename_i _ hu;split at h
   ·rename_i hk;obtain⟨_,e,h⟩:=eI h;obtain⟨_,g,h⟩:=eI h;rw[kP a.eval];exact .wrote (Q8 (ty:=c) l hu b hk (b' f i J g) (b' f i K e) h)
   ·exact(ba h).elim
  ·exact(ba h).elim
 ·rename_i o ag gN ah ai;have k:j[0]? = some ag:=by rw[<-iv,ai];rfl
  have r:args=#[o]:=k2.1 (by simpa using ah);subst r;split at h
  ·rename_i el aj;obtain⟨_,b,h⟩:=kc h
   cases d:Dam.zeroCells P el with
   | none=>rw[d]at b;cases b
   | some _=>
     obtain⟨_,w,rfl⟩:=vM d;rw[d]at b;simp only[gL,ax]at b;subst b;simp only[aV.B]at h
     cases g:aO e (rand G o) with
     | none=>rw[g]at h;exact(ba h).elim
     | some _=>
       rw[g]at h;obtain⟨ao,e,G,H⟩:=Q5 (ty:=c) (P:=P) l aj k w (b' f i o g) h;subst G;rw[BJ a.eval];exact .pt (aH:=bz) e (.tuple .nil) H
  ·rename_i _ _ ak;simp only[aV.B]at h
   cases b:aO e (rand G o) with
   | none=>rw[b]at h;exact(ba h).elim
   | some _=>
     rw[b]at h;obtain⟨ao,d,e,g⟩:=Q4 (ty:=c) (P:=P) l ak k (b' f i o b) h;subst e;rw[BJ a.eval];exact .pt (aH:=bz) d (.tuple .nil) g
  ·exact(ba h).elim
 ·rename_i z A al;have g:args=#[z,A]:=k2.1 (by simpa using al);subst g;simp only[aV.B]at h
  cases b:aO e (rand G z) with
  | none=>rw[b]at h;exact(ba h).elim
  | some _=>
    cases d:aO e (rand G A) with
    | none=>rw[b,d]at h;simp only[jW]at h;exact(ba h).elim
    | some _=>
      rw[b,d]at h;have:=JH (P:=P) (w:=w) (gN:=j) (ty:=c) (b' f i z b) (b' f i A d) h;rw[kP a.eval];exact .same l this
 ·rename_i B C an;have g:args=#[B,C]:=k2.1 (by simpa using an);subst g;simp only[aV.B]at h
  cases b:aO e (rand G B) with
  | none=>rw[b]at h;exact(ba h).elim
  | some _=>
    cases d:aO e (rand G C) with
    | none=>rw[b,d]at h;simp only[jW]at h;exact(ba h).elim
    | some _=>
      rw[b,d]at h;have:=JH (P:=P) (w:=w) (gN:=j) (ty:=c) (b' f i B b) (b' f i C d) h;rw[kP a.eval];exact .same l this
 ·exact(ba h).elim
theorem xO(b:Rel O base γ H w)(c:pm.X γ H)(d:cW γ n e a)(f:eF G γ)(o:Oper){r:Value}(h:((e0 P G o).B e).run pm H=some (r,aa)):eK O P base pm γ H w (execOp a.eval o) r aa:=by
 obtain⟨_,a,_,_,_,_⟩:=o;cases a
 case call g=>
  obtain⟨e,_,_⟩:=g;cases e
  case builtin _=>exact RH b c d f h
  case value i=>cases i<;>exact(ba h).elim
  case invoke=>exact(ba h).elim
 all_goals first
  | exact RE b c d f trivial h
  | exact RF b c d f trivial h
  | exact RG b c d f trivial h
  | exact(ba h).elim
end
end Go.Dam
namespace Go.Dam
open Go
section
variable{O:b0}{P:Program}{base:Nat}{pm:Perm}{γ dZ:aL}{H aa:ad}{w ao:World}{n:Nat}{e:Env}{a:Act}{G:Nat->Bool}{K:bY}
theorem eF.mono(h:eF G γ)(AW:γ.le dZ):eF G dZ:=λg b=>let ⟨L,a,c,d⟩:=h g b;⟨L,AW _ _ a,c,d⟩
theorem cW.mono(h:cW γ n e a)(AW:γ.le dZ):cW dZ n e a:=⟨h.size,h.G,h.defers,λt v q=>let ⟨x,y⟩:=h.get t v q;⟨x,y.mono AW⟩⟩
theorem cW.put(h:cW γ n e a){d:Option Tmp}(c:∀t,d=some t->t<n){v aH:Value}(f:aD γ v aH):cW γ n (putDst e d v) (a.put d aH):=by
 cases d with
 | none=>exact h
 | some d=>
   have b:=c d rfl;refine⟨by simpa [Act.put]using h.size,h.G,h.defers,λt u q=>?_⟩;simp only[putDst,bG.jw]at q;have e:=h.size;by_cases a:t=d
   ·subst a;simp only[if_true,ax]at q;subst q;refine⟨b,?_⟩;simp only[Act.put,jD];rw[Array.getElem?_setIfInBounds_self_of_lt (eC b e)];exact f
   ·rw[aC a]at q;obtain⟨x,y⟩:=h.get t u q;refine⟨x,?_⟩;simp only[Act.put,jD];rw[sD (Ne.symm a),<-jD];exact y
theorem cW.Cs(h:cW γ n e a){d:Option Tmp}(b:∀t,d=some t->t<n):cW γ n (putDst e d bz) (a.put d undef):=h.put b (.tuple .nil)
def ml(P:Program)(f:FuncId)(args:Array Value)(w:World)(R:Ending->World->Prop):Prop:=
 ((callFunc f args).run P w=.ok (.enter f args) w/\Calls P f args w R)∨∃v ao,(callFunc f args).run P w=.ok (.value v) ao/\R (.returned v) ao
def dK(O:b0)(P:Program)(G:Nat->Bool)(K:bY):Prop:=
 ∀(pm:Perm) (f:FuncId) (a:List Value) (H:ad) (v:Value) (aa:ad),pm.num=none->K pm f a H=some (v,aa)->∀(base:Nat) (γ:aL) (w:World) (b:Array Value),Rel O base γ H w->eF G γ->br γ a b.toList->
  ml P f b w λb ao=>∃dZ a,b=.returned a/\aD dZ v a/\Step O base pm γ H w dZ aa ao
def rk(O:b0)(P:Program)(base:Nat)(pm:Perm)(γ:aL)(H:ad)(w:World)(o:Oper)(a:Act)(r:Value)(aa:ad):Prop:=
 ∀(b:Act->World->Prop) (Q:Exit->Act->World->Prop),(∀dZ c ao,aD dZ r c->Step O base pm γ H w dZ aa ao->b (a.put o.dst c) ao)->o.wp P a w b Q
theorem eK.done{o:Oper}{r:Value}(h:eK O P base pm γ H w (execOp a.eval o) r aa):rk O P base pm γ H w o a r aa:=by
 obtain⟨_,_,ao,dZ,d,e,a,b⟩:=h;intro _ _ c
 unfold Oper.wp;rw[d]
 rcases e with rfl | ⟨rfl,rfl⟩
 ·exact c _ _ _ a b
 ·exact c _ _ _ a b
theorem He{f:FuncId}{args:Array Value}{o:Oper}{r:Value}(c:(execOp a.eval o).run P w=(callFunc f args).run P w)
 (h:ml P f args w λcJ ao=>∃dZ aH,cJ=.returned aH/\aD dZ r aH/\Step O base pm γ H w dZ aa ao):rk O P base pm γ H w o a r aa:=by
 intro _ _ b
 unfold Oper.wp;rw[c]
 rcases h with⟨bX,cv⟩ | ⟨v,ao,bX,dZ,aH,cv,cF,dw⟩
 ·rw[bX,Oper.upon_enter];exact cv.mono λcJ ao ⟨dZ,aH,cv,cF,dw⟩=>by
   subst cv;exact b _ _ _ cF dw
 ·rw[bX];cases cv;exact b _ _ _ cF dw
theorem Sy{o:aV}(h:o.dE=false):o.run K pm e H=(o.B e).run pm H:=by cases o<;>first | rfl | cases h
theorem Ax(q:dK O P G K)(i:Rel O base γ H w)(j:pm.num=none)(g:cW γ n e a)(b:eF G γ)(o:Oper)(t:calm P G o=true){r:Value}(h:(e0 P G o).run K pm e H=some (r,aa)):rk O P base pm γ H w o a r aa:=by
 obtain⟨k,u,l,m,n,p⟩:=o;cases u
 case call v=>
  obtain⟨x,c,o⟩:=v;have y:∀d,((aV.hG (rand G d) (c.toList.map (rand G))).run K pm e H=some (r,aa))->rk O P base pm γ H w ⟨k,.call ⟨.value d,c,o⟩,l,m,n,p⟩ a r aa:=by
   intro d h;simp only[aV.run]at h;split at h
   ·rename_i f first z A
    split at h
    ·rename_i _ B;have r:=b' g b d A;have C:=xb g b B;obtain⟨e,D,E,_⟩:∃e,a.eval d=.func (.func f) #[] ⟨e⟩/\br γ z.toList e/\first=#[]:=by
      generalize a.eval d=h at r
      cases r with
      | func a=>exact⟨_,rfl,a,rfl⟩
     have:=q _ _ _ _ _ _ j h base γ w (c.map a.eval++⟨e⟩) i b (by simpa using C.append E);refine He ?_ this;simp only[execOp,resolve,D,Deferred.ofValue,invoke,Sem.run_bind,Sem.run_pure,Result.andThen_ok,Array.empty_append]
    ·cases h
   ·cases h
  cases x
  case builtin s=>
   have a:(aV.run K pm e H (e0 P G ⟨k,.call ⟨.builtin s,c,o⟩,l,m,n,p⟩))=((e0 P G ⟨k,.call ⟨.builtin s,c,o⟩,l,m,n,p⟩).B e).run pm H:=by
    simp only[e0];split<;>first | rfl | (split<;>first | rfl | (split<;>first | rfl | (split<;>rfl)) | (unfold kb;cases Dam.zeroCells P _<;>rfl))
   rw[a]at h;exact(xO i (.none j) g b _ h).done
  case value f=>
   cases f
   case func f=>
    simp only[e0,aV.run]at h;split at h
    ·rename_i _ F;have e:=xb g b F;have:=q _ _ _ _ _ _ j h base γ w (c.map a.eval) i b (by simpa using e);refine He ?_ this;have r:Act.eval a (.func f)=.func (.func f) #[] #[]:=rfl;simp only[execOp,resolve,r,Deferred.ofValue,invoke,Sem.run_bind,Sem.run_pure,Result.andThen_ok,Array.empty_append,Array.append_empty]
    ·cases h
   all_goals exact y _ h
  case invoke=>cases h
 all_goals
  refine(xO i (.none j) g b _ ?_).done
  rw[<-Sy (K:=K) (by simpa [calm]using t)]
  exact h
theorem vy(i:cW γ n e a){d:Array Oper}{o:Oper}{b:Bool}(f:mO P G n d o=true)(h:(dU P G n d o).wanted e=some b):Region.wanted o (yielded d a.tmps)=b:=by
 have l:∀j b,o.guard=some (j,b)->((d[j]?).bind (·.dst)).isSome:=by
  intro j b c;simp only[mO,b3]at f;have:=f.1.2;rw[c]at this;exact this
 unfold aw.wanted at h;rw[dU,aT f]at h;simp only at h;unfold Region.wanted
 cases c:o.guard with
 | none=>rw[c]at h;simpa using h
 | some p=>
   obtain⟨j,b⟩:=p;rw[c]at h;obtain⟨t,k⟩:=u7.1 (l j b c);simp only[gL,k,jf]at h;simp only[yielded,k,fJ]
   cases g:e.get t with
   | none=>rw[g]at h;cases h
   | some v=>
     obtain⟨_,y⟩:=i.get t v g;have m:=i.size;have e:a.tmps[t]? = some (a.tmps.getD t undef):=by
      rw[jD,kh (by omega)];rfl
     rw[g]at h;rw[e];generalize a.tmps.getD t undef=u at y;cases y<;>simp only[ax]at h<;>subst h<;>first | rfl | (cases b<;>rfl) | (rename_i q;cases q<;>cases b<;>rfl)
end
section
variable{O:b0}{P:Program}{base:Nat}{pm:Perm}{n:Nat}{G:Nat->Bool}{K:bY}{fuel:Nat}
theorem xI{b:Array Oper}{o:Oper}(a:mO P G n b o=true):∀t,o.dst=some t->t<n:=by
 intro t b;simp only[mO,b3]at a;have:=a.1.1;rw[b]at this;exact qP this
theorem BW{b:Array Oper}{o:Oper}(a:mO P G n b o=true):calm P G o=true:=by
 simp only[mO,b3]at a;exact a.2
theorem RJ{γ:aL}{H aa:ad}{w:World}{e:Env}{a:Act}{r:Value}(k:dK O P G K){d:Array Oper}{o:Oper}(j:Rel O base γ H w)(l:pm.num=none)(c:cW γ n e a)(m:eF G γ)(h:(dU P G n d o).run K pm e H=some (r,aa))
 {i:Act->World->Prop} {Q:Exit->Act->World->Prop} (f:∀g bF ao,cW g n (putDst e (dU P G n d o).dst r) bF->Step O base pm γ H w g aa ao->i bF ao):
 if Region.wanted o (yielded d a.tmps) then o.wp P a w i Q∨(o.asks P a w/\LetsOut Q) else i (a.put o.dst undef) w:=by
 by_cases b:mO P G n d o=true
 ·unfold aw.run at h;split at h
  ·rename_i p;rw[vy c b p,aT rfl];rw[dU,aT b]at h f;exact .inl (Ax k j l c m o (BW b) h _ _ λg _ ao e a=>f g _ ao ((c.mono a.ext).put (xI b) e) a)
  ·rename_i q;rw[vy c b q];simp only[ax,bT]at h;obtain⟨rfl,rfl⟩:=h;rw[dU,aT b]at f;exact f γ _ w (c.Cs (xI b)) (Step.refl j)
  ·cases h
 ·rw[dU,aC b]at h;simp[aw.run,aw.wanted,aV.run,aV.B,aQ.run]at h
theorem JS(j:pm.num=none)(m:dK O P G K){b:Array Oper}{Q:Exit->Act->World->Prop}:∀(l:List Oper) (k:Nat),(∀i o,l[i]? = some o->b[k+i]? = some o)->∀{e cq:Env} {a:Act} {γ:aL} {H c:ad} {w:World},
 hK K pm (l.map (dU P G n b)) e H=some (cq,c)->Rel O base γ H w->cW γ n e a->eF G γ->(∀d f g,cW d n cq f->Step O base pm γ H w d c g->Q .normal f g)->wpOps P b Q (List.range' k l.length) a w
 | [],k,_,e,cq,a,γ,H,c,w,h,i,l,_,n=>by
   simp only[List.map_nil,hK,ax,bT]at h;obtain⟨rfl,rfl⟩:=h;exact n γ a w l (Step.refl i)
 | o::l,k,n,e,cq,a,γ,H,c,w,h,p,r,q,s=>by
   simp only[u0,hK]at h;split at h
   ·rename_i _ _ t;have e:b[k]? = some o:=by simpa using n 0 o rfl
    simp only[gu,List.range'_succ,wpOps,e];refine RJ m p j r q t λ_ _ _ u a=>?_
    exact JS j m l (k+1) (λi o v=>by have:=n (i+1) o (by simpa using v);rwa [show k+(i+1)=k+1+i by omega]at this) h a.rel u (q.mono a.ext)
     λd f g i k=>s d f g i (a.trans k p)
   ·cases h
theorem Si(i:pm.num=none)(j:dK O P G K){b:Array Oper}{id:Nat}{Q:Exit->Act->World->Prop}{e cq:Env}{a:Act}{γ:aL}{H c:ad}{w:World}
 (h:hK K pm (h5 P G n b) e H=some (cq,c)) (k:Rel O base γ H w) (l:cW γ n e a) (m:eF G γ) (o:∀d f g,cW d n cq f->Step O base pm γ H w d c g->Q .normal f g):
 (Code.region id b false).wp P Q a w:=by
 refine wp_region ?_;have:=JS (Q:=Q) i j b.toList 0 (λ_ _ b=>by simpa using b) h k l m o;rw[jE,<-List.range_eq_range']at this;exact this
def vU(O:b0)(P:Program)(G:Nat->Bool):Prop:=
 ∀(K:bY),dK O P G K->∀(pm:Perm),pm.num=none->∀(n id:Nat) (a:Array Oper) (Q:Exit->Act->World->Prop) (base:Nat) (e b:Env) (c:Act) (γ:aL) (H d:ad) (w:World),
  nZ K pm (h5 P G n a) (wJ a (h5 P G n a)) e H=some (b,d)->Rel O base γ H w->cW γ n e c->eF G γ->(∀e f g,cW e n b f->Step O base pm γ H w e d g->Q .normal f g)->
  (Code.region id a true).wp P Q c w
theorem TU{c:Code}{Q:Exit->Act->World->Prop}{a:Act}{w:World}(I:Nat->Act->World->Prop)(m:Nat)(j:I m a w)(l:∀a w,¬I 0 a w)
 (n:∀m a w,I (m+1) a w->c.wp P (Exit.then (λbF ao=>I m bF ao) Q) a w):(Code.loop c).wp P Q a w:=by
 intro h k i;have o:∀m a w,I m a w->∃e bF ao,Q e bF ao/\Arrives P (lone (h.at a (.code c::.inLoop c::k)) i w) h k i e bF ao:=by
  intro m
  induction m with
  | zero=>intro a w c;exact(l a w c).elim
  | succ m ih=>
    intro a w l;obtain⟨e,f,g,b,d⟩:=n m a w l h (.inLoop c::k) i
    cases e with
    | normal=>
      obtain⟨a,c,h,i,k⟩:=ih f g b;exact⟨a,c,h,i,.of_steps (Steps.trans d (.one step_inLoop)) k⟩
    | exit id=>exact⟨_,f,g,b,.pass (x:=.inLoop c) rfl (λ_ _=>.inl (by simp)) d⟩
    | goto _=>exact⟨_,f,g,b,.pass (x:=.inLoop c) rfl (λ_ _=>.inl (by simp)) d⟩
    | ret=>exact⟨_,f,g,b,.pass (x:=.inLoop c) rfl (λ_ _=>.inl (by simp)) d⟩
    | panic _=>exact⟨_,f,g,b,.pass (x:=.inLoop c) rfl (λ_ _=>.inl (by simp)) d⟩
    | outgrown=>exact⟨_,f,g,b,.pass (x:=.inLoop c) rfl (λ_ _=>.inl (by simp)) d⟩
 obtain⟨e,bF,ao,b,d⟩:=o m a w j;exact⟨e,bF,ao,b,.of_steps (.one step_loop) d⟩
def AE:dS->Exit
 | .normal=>.normal
 | .exit i=>.exit i
 | .ret=>.ret
theorem GZ(r:pm.num=none)(y:vU O P G)(s:dK O P G K):∀(c:Code) {x:dS} {e cq:Env} {a:Act} {γ:aL} {H g:ad} {w:World} {Q:Exit->Act->World->Prop},
 eval K pm fuel (gh P G n c) e H=some (x,cq,g)->Rel O base γ H w->cW γ n e a->eF G γ->(∀b d f,cW b n cq d->Step O base pm γ H w b g f->Q (AE x) d f)->c.wp P Q a w:=by
 intro c
 induction c with
 | skip=>
   intro x e cq a γ H g w Q h c i _ j;simp only[gh,eval,ax,bT]at h;obtain⟨rfl,rfl,rfl⟩:=h;exact wp_skip (j γ a w i (Step.refl c))
 | region id l m=>
   intro x e cq a γ H g w Q h c i j k
   cases m with
   | false=>
     simp only[gh,eval]at h;split at h
     ·rename_i _ _ z;simp only[ax,bT]at h;obtain⟨rfl,rfl,rfl⟩:=h;exact Si r s z c i j k
     ·cases h
   | true=>
     simp only[gh,eval]at h;split at h
     ·rename_i _ _ A;simp only[ax,bT]at h;obtain⟨rfl,rfl,rfl⟩:=h;exact y K s pm r n id l Q base e _ a γ H _ w A c i j k
     ·cases h
 | seq l _ m o=>
   intro x e cq a γ H g w Q h j p k c;simp only[gh,eval]at h;refine wp_seq ?_
   cases i:eval K pm fuel (gh P G n l) e H with
   | none=>rw[i]at h;cases h
   | some n=>
     obtain⟨q,_,_⟩:=n;rw[i]at h;refine m i j p k λb d f e a=>?_
     cases q with
     | normal=>exact o h a.rel e (k.mono a.ext) λt u v w x=>c t u v w (a.trans x j)
     | exit _=>
       simp only[ax,bT]at h;obtain⟨rfl,rfl,rfl⟩:=h;exact c b d f e a
     | ret=>
       simp only[ax,bT]at h;obtain⟨rfl,rfl,rfl⟩:=h;exact c b d f e a
 | cond c _ _ m n=>
   intro x e cq a γ H g w Q h k i j l;simp only[gh,eval]at h;split at h
   ·rename_i B;exact wp_cond_true (b' i j c B).jP (m h k i j l)
   ·rename_i C;exact wp_cond_false (b' i j c C).jP (n h k i j l)
   ·cases h
 | block id c ih=>
   intro x e cq a γ H g w Q h k l m i;simp only[gh,eval]at h;refine wp_block ?_
   cases j:eval K pm fuel (gh P G n c) e H with
   | none=>rw[j]at h;cases h
   | some p=>
     obtain⟨n,_,_⟩:=p;rw[j]at h;refine ih j k l m λb d f a c=>?_
     cases n with
     | normal=>
       simp only[ax,bT]at h;obtain⟨rfl,rfl,rfl⟩:=h;exact i b d f a c
     | exit o=>
       simp only[cC]at h;by_cases e:o=id
       ·simp only[e,decide_true,cond_true,ax,bT]at h;obtain⟨rfl,rfl,rfl⟩:=h;have:=i b d f a c;simpa [AE,Exit.inBlock,e]using this
       ·simp only[e,decide_false,cond_false,ax,bT]at h;obtain⟨rfl,rfl,rfl⟩:=h;have:=i b d f a c;simpa [AE,Exit.inBlock,e]using this
     | ret=>
       simp only[ax,bT]at h;obtain⟨rfl,rfl,rfl⟩:=h;exact i b d f a c
 | loop c ih=>
   intro x e cq a γ H g w Q t l D E u;simp only[gh,eval]at t;refine TU (λv o p=>∃m i j,iter (eval K pm fuel (gh P G n c)) v i j=some (x,cq,g)/\cW m n i o/\Step O base pm γ H w m j p) fuel ⟨γ,e,H,t,D,Step.refl l⟩ (λo p ⟨m,i,j,h,_⟩=>by cases h) ?_;rintro v o p ⟨m,i,j,h,F,k⟩;simp only[iter]at h
   cases q:eval K pm fuel (gh P G n c) i j with
   | none=>rw[q]at h;cases h
   | some e=>
     obtain⟨n,w,x⟩:=e;rw[q]at h;refine ih q k.rel F (E.mono k.ext) λb d f a c=>?_
     cases n with
     | normal=>exact⟨b,w,x,h,a,k.trans c l⟩
     | exit _=>
       simp only[ax,bT]at h;obtain⟨rfl,rfl,rfl⟩:=h;exact u b d f a (k.trans c l)
     | ret=>
       simp only[ax,bT]at h;obtain⟨rfl,rfl,rfl⟩:=h;exact u b d f a (k.trans c l)
 | exit id=>
   intro x e cq a γ H g w Q h c i _ j;simp only[gh,eval,ax,bT]at h;obtain⟨rfl,rfl,rfl⟩:=h;exact wp_exit (j γ a w i (Step.refl c))
 | ret=>
   intro x e cq a γ H g w Q h c i _ j;simp only[gh,eval,ax,bT]at h;obtain⟨rfl,rfl,rfl⟩:=h;exact wp_ret (j γ a w i (Step.refl c))
 | _=>intros;rename_i I _ _ _ _;cases I
end
section
variable{O:b0}{P:Program}{base:Nat}{pm:Perm}{n:Nat}{G:Nat->Bool}{K:bY}{fuel:Nat}
theorem Hs:∀(l:List Value) (k:Nat) (e:Env) (t:Nat),(mE l k e).get t=if k<=t/\t<k+l.length then l[t-k]? else e.get t
 | [],k,e,t=>by simp[mE];omega
 | v::l,k,e,t=>by
   rw[mE,Hs l (k+1),bG.jw];simp only[gu];by_cases a:t=k
   ·subst a;rw[aC (by omega),aT rfl,aT (by omega)];simp
   ·by_cases b:k<=t/\t<k+(l.length+1)
    ·rw[aT (by omega),aT b,show t-k=(t-(k+1))+1 by omega,ou]
    ·rw[aC (by omega),aC a,aC b]
theorem Of{γ:aL}{l:List Value}{args:Array Value}(h:br γ l args.toList)(g':l.length<=n)(b:n<=pr):cW γ n (mE l 0 .ag) {tmps:=args++Array.replicate (n-args.size) undef,defers:=[]}:=by
 have c:l.length=args.size:=by simpa using h.length
 refine⟨by simp;omega,b,rfl,λt v q=>?_⟩;rw[Hs]at q;split at q
 ·rename_i _;rw[Nat.sub_zero]at q;obtain⟨_,a,d⟩:=h.get q;refine⟨by omega,?_⟩;have e:t<args.size:=by rw[<-c];omega
  rw[iv]at a;show aD γ v ((args++Array.replicate (n-args.size) undef).getD t undef);rw[jD,x2 e,a];exact d
 ·cases q
theorem Kr{γ:aL}{H:ad}{w:World}{e:Env}{a:Act}(m:Rel O base γ H w)(g:cW γ n e a):∀(d:List ResultVar) (l:List Value),d.all (C0 P)=true->ji e H (d.map (wC P))=some l->
 ∃aN,(d.mapM λr=>(match r with | .tmp t=>pure (a.tmps.getD t undef) | .cell x t=>do loadVar t (<-asAddr (a.tmps.getD x undef)):Sem Value)).run P w=.ok aN w/\br γ l aN
 | [],l,_,h=>by
   simp only[List.map_nil,ji,ax]at h;subst h;exact⟨[],by simp,.nil⟩
 | r::d,l,i,h=>by
   simp only[nc,b3]at i;simp only[u0,ji]at h;split at h
   ·rename_i v b;split at h
    ·rename_i o p;simp only[ax]at h;subst h;obtain⟨aN,q,s⟩:=Kr m g d o i.2 p;have y:∃c,(match r with | .tmp t=>pure (a.tmps.getD t undef) | .cell x t=>do loadVar t (<-asAddr (a.tmps.getD x undef)):Sem Value).run P w=.ok c w/\aD γ v c:=by
      cases r with
      | tmp t=>exact⟨_,rfl,(g.get t v b).2⟩
      | cell x t=>
        simp only[wC]at b;have r:known P t=true:=i.1
        cases a:e.get x with
        | none=>rw[a]at b;cases b
        | some u=>
          rw[a]at b;have l:=(g.get x u a).2;have e:(jV (iV P t) (P.cellsOf t) (some u)).run ⟨0,[],none⟩ H=some (v,H):=by
           unfold dG at b;split at b
           ·rename_i f z;cases z
            cases j:H.get f.block with
            | none=>rw[j]at b;cases b
            | some t=>
              rw[j]at b;simp only at b
              cases k:rowOf t with
              | none=>rw[k]at b;cases b
              | some _=>
                rw[k]at b;simp only at b;simp[jV,aQ.run,j,k,b,eT]
           ·cases b
          obtain⟨c,n,w,_⟩:=JF (P:=P) m r l e;refine⟨c,?_,w⟩;cases u<;>first | (exact(ba e).elim) | skip
          rename_i f
          cases f with
          | none=>exact(ba e).elim
          | some f=>
            obtain⟨_,_,_,j⟩:=l.jA;simp only[j]at n|-;simpa [Instr.loadAt,Instr.sureAddr,asAddr]using n
     obtain⟨c,a,e⟩:=y;refine⟨c::aN,?_,.cons e s⟩;simp only[List.mapM_cons,Sem.run_bind,a,Result.andThen_ok,q,Sem.run_pure]
    ·cases h
   ·cases h
theorem TD{γ:aL}{l aN:List Value}(h:br γ l aN):aD γ (f' l) (if h:aN.toArray.size=1 then aN.toArray[0] else .tuple aN.toArray):=by
 cases h with
 | nil=>exact .tuple .nil
 | cons h t=>
   cases t with
   | nil=>exact h
   | cons a t=>exact .tuple (.cons h (.cons a t))
theorem OB(k:pm.num=none)(m:vU O P G)(n:dK O P G K){f:FuncId}{fn:Func}{c:Code}(z:P.funcs[f]? = some fn)(o:fn.body=some c){args:List Value}{fm:Array Value}{γ:aL}{H aa:ad}{w:World}{v:Value}
 (h:rO K pm fuel (lv P G fn) args H=some (v,aa)) (p:Rel O base γ H w) (q:eF G γ) (eA:br γ args fm.toList):
 Calls P f fm w λcJ ao=>∃g aH,cJ=.returned aH/\aD g v aH/\Step O base pm γ H w g aa ao:=by
 unfold rO at h;rw[cg]at h;by_cases i:args.length<=(lv P G fn).hN
 ·simp only[i,decide_true,Bool.not_true,cond_false]at h;simp only[lv,o]at h i;by_cases j:fn.ntmps<=pr/\fn.results.all (C0 P)=true
  ·rw[aT j]at h;refine calls_of_wp z o ?_;have r:=Of eA i j.1
   have s:∀{f:Env} {e:ad} {l:List Value},ji f e (fn.results.toList.map (wC P))=some l->∀b d a,cW b fn.ntmps f d->Step O base pm γ H w b e a->some (f' l,e)=some (v,aa)->
    d.defers=[]/\∃u,(results fn d.tmps).run P a=.ok u a/\∃g aH,Ending.returned u=.returned aH/\aD g v aH/\Step O base pm γ H w g aa a:=by
    intro f e l A b d a t x y;simp only[ax,bT]at y;obtain⟨rfl,rfl⟩:=y;obtain⟨_,B,C⟩:=Kr (P:=P) x.rel t fn.results.toList l (by simpa using j.2) A;refine⟨t.defers,_,?_,b,_,rfl,TD C,x⟩;simp only[results,Sem.run_bind];rw[Array.mapM_eq_mapM_toList];simp only[Sem.run_map,Sem.run_pure];exact congrArg (λ(D:Result (List Value))=>Result.andThen (Result.andThen D λc ao=>Result.ok c.toArray ao) λc ao=>Result.ok (if h:c.size=1 then c[0] else Value.tuple c) ao) B
   split at h
   ·rename_i f e E;split at h
    ·rename_i l F;exact GZ k m n c E p r q λb d a t u=>s F b d a t u h
    ·cases h
   ·rename_i f e I;split at h
    ·rename_i l J;exact GZ k m n c I p r q λb d a t u=>s J b d a t u h
    ·cases h
   ·cases h
  ·rw[aC j]at h;simp[eval]at h
 ·simp only[i,decide_false,Bool.not_false,cond_true,reduceCtorEq]at h
def zr(P:Program)(G:Nat->Bool)(T:Nat->Option aZ):Prop:=
 ∀f F,T f=some F->∃a c,P.funcs[f]? = some a/\a.body=some c/\a.name≠ "runtime.NumGoroutine"/\F=lv P G a
theorem sP(a:vU O P G){T:Nat->Option aZ}(b:zr P G T){S:bY->bY}(c:∀K,dK O P G K->dK O P G (S K)):∀m,dK O P G (runK T S fuel m)
 | 0=>λ_ _ _ _ _ _ _ h=>by cases h
 | m+1=>by
   refine c _ ?_;intro pm f _ _ _ _ g h base _ _ _ i j k;simp only at h;split at h
   ·rename_i F l;obtain⟨_,_,d,e,n,rfl⟩:=b f F l;refine .inl ⟨?_,OB g a (sP a b c m) d e h i j k⟩;simp[callFunc,d,e,n]
   ·cases h
end
theorem sQ{pm:Perm}{aE:Nat}(c:pm.num=some aE):∀(x:aQ) {H aa:ad} {v:Value} {f m:List Nat},x.runT pm H=some (v,aa,f,m)->
 aa.next=H.next/\(∀b,b∉m->aa.get b=H.get b)/\(∀b∈m,pm.may b=true∨b=aE)
 | .ret _,H,aa,v,f,m,h=>by
   simp only[aQ.runT,ax,bT]at h;obtain⟨rfl,rfl,rfl,rfl⟩:=h;exact⟨rfl,λ_ _=>rfl,λ_ h=>by cases h⟩
 | .fail,H,aa,v,f,m,h=>by cases h
 | .get b k,H,aa,v,f,m,h=>by
   simp only[aQ.runT]at h;split at h
   ·rename_i x _;split at h
    ·rename_i _ _ _ _ e;simp only[ax,bT]at h;obtain⟨rfl,rfl,rfl,rfl⟩:=h;exact sQ c (k x) e
    ·cases h
   ·cases h
 | .put b x k,H,aa,v,f,m,h=>by
   simp only[aQ.runT]at h
   cases d:pm.may b with
   | false=>rw[d]at h;cases h
   | true=>
     rw[d]at h;simp only[cond_true]at h;split at h
     ·rename_i _ _ _ _ g;simp only[ax,bT]at h;obtain⟨rfl,rfl,rfl,rfl⟩:=h;obtain⟨f,i,j⟩:=sQ c k g;refine⟨f,λb a=>?_,λb a=>?_⟩
      ·simp only[hk,not_or]at a;rw[i b a.2,ad.O,aC a.1]
      ·rcases hk.1 a with rfl | a
       ·exact .inl d
       ·exact j b a
     ·cases h
 | .new x k,H,aa,v,f,m,h=>by
   simp only[aQ.runT]at h;split at h
   ·rename_i _ _ _ _ l;simp only[ax,bT]at h;obtain⟨rfl,rfl,rfl,rfl⟩:=h;obtain⟨d,f,i⟩:=sQ c (k (pm.pick H)) l;have j:pm.pick H=aE:=by simp[Perm.pick,c]
    refine⟨by rw[d];simp[Perm.make,c,ad.put],λb a=>?_,λb a=>?_⟩
    ·simp only[hk,not_or]at a;rw[f b a.2,Perm.lE,aC a.1]
    ·rcases hk.1 a with rfl | a
     ·exact .inr j
     ·exact i b a
   ·cases h
theorem yo{pm:Perm}{aE:Nat}(a:pm.num=some aE){g:Option Nat}:∀(x:aQ) {H aa J:ad} {v:Value} {f m:List Nat},x.runT pm H=some (v,aa,f,m)->(H.get aE=none∨J.get aE=H.get aE)->(∀b∈f,b≠aE->J.get b=H.get b)->(aE∈m->g=some aE)->
 ∃fN,x.run ⟨pm.ah,pm.ok,g⟩ J=some (v,fN)/\fN.next=J.next/\∀b,fN.get b=if b∈m then aa.get b else J.get b
 | .ret _,H,aa,J,v,f,m,h,_,_,_=>by
   simp only[aQ.runT,ax,bT]at h;obtain⟨rfl,rfl,rfl,rfl⟩:=h;exact⟨J,rfl,rfl,λb=>by simp⟩
 | .fail,H,aa,J,v,f,m,h,_,_,_=>by cases h
 | .get b j,H,aa,J,v,f,m,h,c,d,l=>by
   simp only[aQ.runT]at h;split at h
   ·rename_i x i;split at h
    ·rename_i _ _ _ _ o;simp only[ax,bT]at h;obtain⟨rfl,rfl,rfl,rfl⟩:=h;obtain⟨fN,f,m,p⟩:=yo a (j x) o c (λr s=>d r (.tail _ s)) l;refine⟨fN,?_,m,p⟩;have t:J.get b=H.get b:=by
      by_cases e:b=aE
      ·subst e
       rcases c with q | q
       ·rw[q]at i;cases i
       ·exact q
      ·exact d b (.head _) e
     simp only[aQ.run,t,i,f]
    ·cases h
   ·cases h
 | .put b x l,H,aa,J,v,f,m,h,p,q,r=>by
   simp only[aQ.runT]at h
   cases j:pm.may b with
   | false=>rw[j]at h;cases h
   | true=>
     rw[j]at h;simp only[cond_true]at h;split at h
     ·rename_i _ _ u w n;simp only[ax,bT]at h;obtain⟨rfl,rfl,rfl,rfl⟩:=h;have m:∀c∈u,c≠aE->(J.put b x).get c=(H.put b x).get c:=λc d e=>by
       rw[ad.O,ad.O,q c d e]
      have s:(H.put b x).get aE=none∨(J.put b x).get aE=(H.put b x).get aE:=by
       rw[ad.O,ad.O];by_cases f:aE=b
       ·rw[aT f,aT f];exact .inr rfl
       ·rw[aC f,aC f];exact p
      obtain⟨fN,t,v,y⟩:=yo a l n (J:=J.put b x) s m (λz=>r (.tail _ z));obtain⟨_,A,_⟩:=sQ a l n;refine⟨fN,?_,v,λc=>?_⟩
      ·have f:Perm.may ⟨pm.ah,pm.ok,g⟩ b=true:=j;simp only[aQ.run,f,cond_true,t]
      ·rw[y c];by_cases d:c∈w
       ·rw[aT d,aT (.tail _ d)]
       ·rw[aC d];by_cases e:c=b
        ·subst e;rw[aT (.head _),A c d,ad.O,ad.O,aT rfl,aT rfl]
        ·rw[aC (by simp[e,d]),ad.O,aC e]
     ·cases h
 | .new x j,H,aa,J,v,f,m,h,_,l,p=>by
   simp only[aQ.runT]at h;split at h
   ·rename_i _ _ B C k;simp only[ax,bT]at h;obtain⟨rfl,rfl,rfl,rfl⟩:=h;have e:∀X:ad,pm.pick X=aE:=λX=>by simp[Perm.pick,a]
    have f:∀X:ad,pm.make X x=X.put aE x:=λX=>by simp[Perm.make,a]
    rw[e,f]at k;have m:g=some aE:=p (by rw[e];exact .head _);subst m;have q:∀c∈B,c≠aE->(J.put aE x).get c=(H.put aE x).get c:=λc b d=>by
     rw[ad.O,ad.O,l c b d]
    obtain⟨fN,r,s,t⟩:=yo a (j aE) k (J:=J.put aE x) (.inr (by rw[ad.O,ad.O,aT rfl,aT rfl])) q (λ_=>rfl);obtain⟨_,v,_⟩:=sQ a (j aE) k;refine⟨fN,?_,s,λc=>?_⟩
    ·simp only[aQ.run,Perm.pick,Perm.make,r]
    ·rw[t c,e];by_cases b:c∈C
     ·rw[aT b,aT (.tail _ b)]
     ·rw[aC b];by_cases d:c=aE
      ·subst d;rw[aT (.head _),v c b,ad.O,ad.O,aT rfl,aT rfl]
      ·rw[aC (by simp[d,b]),ad.O,aC d]
   ·cases h
theorem KF{pm:Perm}{x:aQ}{H aa:ad}{v:Value}{f m:List Nat}(h:x.runT pm H=some (v,aa,f,m)):x.run pm H=some (v,aa):=by
 induction x generalizing H f m with
 | ret _=>simp only[aQ.runT,ax,bT]at h;obtain⟨rfl,rfl,_,_⟩:=h;rfl
 | fail=>cases h
 | get _ _ ih=>
   simp only[aQ.runT]at h;split at h
   ·rename_i x b;split at h
    ·rename_i c;simp only[ax,bT]at h;obtain⟨rfl,rfl,_,_⟩:=h;simp only[aQ.run,b];exact ih _ c
    ·cases h
   ·cases h
 | put d x _ ih=>
   simp only[aQ.runT]at h
   cases a:pm.may d with
   | false=>rw[a]at h;cases h
   | true=>
     rw[a]at h;simp only[cond_true]at h;split at h
     ·rename_i e;simp only[ax,bT]at h;obtain⟨rfl,rfl,_,_⟩:=h;simp only[aQ.run,a,cond_true];exact ih e
     ·cases h
 | new x _ ih=>
   simp only[aQ.runT]at h;split at h
   ·rename_i g;simp only[ax,bT]at h;obtain⟨rfl,rfl,_,_⟩:=h;simp only[aQ.run];exact ih _ g
   ·cases h
theorem Sx{pm:Perm}{x:aQ}{H aa:ad}{v:Value}{f m:List Nat}(h:x.runT pm H=some (v,aa,f,m)):(∀b,(H.get b).isSome->(aa.get b).isSome)/\(∀b∈m,(aa.get b).isSome)/\∀b∈f,(aa.get b).isSome:=by
 induction x generalizing H f m with
 | ret _=>simp only[aQ.runT,ax,bT]at h;obtain⟨rfl,rfl,rfl,rfl⟩:=h;exact⟨λ_ h=>h,(λ_ h=>nomatch h),(λ_ h=>nomatch h)⟩
 | fail=>cases h
 | get b _ ih=>
   simp only[aQ.runT]at h;split at h
   ·rename_i x g;split at h
    ·rename_i i;simp only[ax,bT]at h;obtain⟨rfl,rfl,rfl,rfl⟩:=h;obtain⟨b,c,d⟩:=ih _ i;exact⟨b,c,λe a=>by
      rcases hk.1 a with rfl | a
      ·exact b _ (by rw[g];rfl)
      ·exact d e a⟩
    ·cases h
   ·cases h
 | put b x _ ih=>
   simp only[aQ.runT]at h
   cases d:pm.may b with
   | false=>rw[d]at h;cases h
   | true=>
     rw[d]at h;simp only[cond_true]at h;split at h
     ·rename_i j;simp only[ax,bT]at h;obtain⟨rfl,rfl,rfl,rfl⟩:=h;obtain⟨e,k,l⟩:=ih j;have f:∀c,(H.get c).isSome∨c=b->((H.put b x).get c).isSome:=λc a=>by
       rw[ad.O];by_cases q:c=b
       ·rw[aT q];rfl
       ·rw[aC q];exact a.resolve_right q
      exact⟨λc a=>e c (f c (.inl a)),λc a=>by
       rcases hk.1 a with rfl | a
       ·exact e _ (f _ (.inr rfl))
       ·exact k c a,l⟩
     ·cases h
 | new x _ ih=>
   simp only[aQ.runT]at h;split at h
   ·rename_i n;simp only[ax,bT]at h;obtain⟨rfl,rfl,rfl,rfl⟩:=h;obtain⟨b,e,f⟩:=ih _ n;have d:∀c,(H.get c).isSome∨c=pm.pick H->((pm.make H x).get c).isSome:=λc a=>by
     rw[Perm.lE];by_cases q:c=pm.pick H
     ·rw[aT q];rfl
     ·rw[aC q];exact a.resolve_right q
    exact⟨λc a=>b c (d c (.inl a)),λc a=>by
     rcases hk.1 a with rfl | a
     ·exact b _ (d _ (.inr rfl))
     ·exact e c a,f⟩
   ·cases h
theorem Rel.congr{O:b0}{a:Nat}{γ:aL}{H J:ad}{w:World}(h:Rel O a γ H w)(AW:∀b L,γ b=some L->J.get b=H.get b)(j:H.next<=J.next)(k:∀b,J.next<=b->J.get b=none):Rel O a γ J w:=by
 have l:∀c,fg γ H w c->fg γ J w c/\w.heap[c]? = w.heap[c]?:=λc a=>⟨⟨a.1,λb L e r=>a.2 b L e (by rwa [AW b L e]at r)⟩,rfl⟩;refine⟨λb L e=>?_,λb L e=>eC (h.lt b L e) j,k,λb d L f g i m n q=>?_,λb L e r=>?_,h.size⟩
 ·obtain⟨x,a,c⟩:=h.aW b L e;exact⟨x,by rw[AW b L e,a],c.mono (.refl γ) l λ_=>rfl⟩
 ·exact h.inj b d L f g i (by rwa [AW b L g]at m) (by rwa [AW d f i]at n) q
 ·exact h.low b L e (by rwa [AW b L e]at r)
theorem jX{e a:Env}{r:bC}(h:∀t∈r.Z,a.get t=e.get t):aO a r=aO e r:=by
 cases r with
 | t n=>exact h n (.head _)
 | c _=>rfl
theorem xa{e a:Env}:∀{l:List bC},(∀t∈l.flatMap bC.Z,a.get t=e.get t)->dN a l=dN e l
 | [],_=>rfl
 | r::l,h=>by
   simp only[List.flatMap_cons,l2]at h;simp only[dN,jX (λt a=>h t (.inl a)),xa (λt a=>h t (.inr a))]
theorem J1{e a:Env}:∀{l:List (Nat×Nat×bC)},(∀t∈l.flatMap (λp=>p.2.2.Z),a.get t=e.get t)->h9 a l=h9 e l
 | [],_=>rfl
 | (_,_,_)::l,h=>by
   simp only[List.flatMap_cons,l2]at h;simp only[h9,jX (λt a=>h t (.inl a)),J1 (λt a=>h t (.inr a))]
theorem qC{e a:Env}{d:Nat}{o:Option bC}(h:∀t∈sk o,a.get t=e.get t):de a d o=de e d o:=by
 cases o with
 | none=>rfl
 | some _=>simp only[de];rw[jX h]
theorem Hp{e b:Env}{o:aV}(h:∀t∈o.Z,b.get t=e.get t):o.B b=o.B e:=by
 cases o<;>simp only[aV.Z,l2]at h<;>simp only[aV.B]<;>first
  | rfl
  | rw[jX h]
  | rw[xa h]
  | rw[J1 h]
  | rw[jX λt a=>h t (.inl a),jX λt a=>h t (.inr a)]
  | rw[jX λt a=>h t (.inl a),jX λt a=>h t (.inr (.inl a)),jX λt a=>h t (.inr (.inr a))]
  | rw[jX λt a=>h t (.inl a),qC λt a=>h t (.inr (.inl a)),qC λt a=>h t (.inr (.inr a))]
  | skip
 case iB x d c=>
  have g:∀n,de b n c=de e n c:=λn=>qC λt a=>h t (.inr (.inr a));rw[jX λt a=>h t (.inl a),qC λt a=>h t (.inr (.inl a))];simp only[g]
 case iA x d c f=>
  have g:∀n,de b n d=de e n d:=λn=>qC λt a=>h t (.inr (.inl a));have i:∀n,de b n c=de e n c:=λn=>qC λt a=>h t (.inr (.inr (.inl a)));have j:∀n,de b n f=de e n f:=λn=>qC λt a=>h t (.inr (.inr (.inr a)));rw[jX λt a=>h t (.inl a)];simp only[g,i,j]
theorem TO{e a:Env}{o:aw}(h:∀t∈o.looks,a.get t=e.get t):o.wanted a=o.wanted e:=by
 unfold aw.wanted
 cases b:o.guard with
 | none=>rfl
 | some p=>
   obtain⟨j,_⟩:=p;have:=h j (by simp[aw.looks,b]);simp only[this]
theorem JP{o:aw}{e a:Env}(h:∀t∈o.looks,a.get t=e.get t):∀t∈o.op.Z,a.get t=e.get t:=λt a=>h t (by simp[aw.looks,a])
theorem MX{e a:Env}{o:aV}(h:∀t∈o.Z,a.get t=e.get t){K:bY}{pm:Perm}{H:ad}:o.run K pm a H=o.run K pm e H:=by
 cases o<;>first
  | (simp only[aV.Z]at h;simp only[aV.run,xa h];done)
  | (simp only[aV.Z,l2]at h;simp only[aV.run,jX λt a=>h t (.inl a),xa λt a=>h t (.inr a)];done)
  | exact congrArg (λx=>aQ.run pm x H) (Hp h)
def bitsOf(a:Array Nat)(o:Oper):Nat:=o.after.foldl (λs e=>if Region.binds .any e then s ||| 2^e.on ||| a.getD e.on 0 else s) 0
theorem M4(a:Array Oper):Region.before a=a.toList.foldl (λa o=>a.push (bitsOf a o)) #[]:=by
 unfold Region.before;rw[<-Array.foldl_toList];rfl
theorem Gx:∀(l:List Oper) (a:Array Nat),(∀k,k<a.size->(l.foldl (λa o=>a.push (bitsOf a o)) a)[k]? = a[k]?)/\
 ∀j o,l[j]? = some o->∃b:Array Nat,b.size=a.size+j/\(∀k,k<b.size->(l.foldl (λa o=>a.push (bitsOf a o)) a)[k]? = b[k]?)/\(l.foldl (λa o=>a.push (bitsOf a o)) a)[a.size+j]? = some (bitsOf b o)
 | [],a=>⟨λ_ _=>rfl,λj o h=>by simp at h⟩
 | x::l,a=>by
   obtain⟨c,e⟩:=Gx l (a.push (bitsOf a x));simp only[sy,Array.size_push]at c e|-;refine⟨λk f=>by rw[c k (by omega),qR,aC (by omega)],λj o d=>?_⟩
   cases j with
   | zero=>
     simp only[fI,ax]at d;subst d;refine⟨a,rfl,λk f=>by rw[c k (by omega),qR,aC (by omega)],?_⟩;rw[Nat.add_zero,c a.size (by omega),qR,aT rfl]
   | succ j=>
     obtain⟨b,_,c,f⟩:=e j o (by simpa using d);exact⟨b,by omega,c,by rw[show a.size+(j+1)=a.size+1+j by omega];exact f⟩
theorem Gy{b:Array Nat}{i:Nat}:∀(l:List Edge) (s:Nat),(l.foldl (λs e=>if Region.binds .any e then s ||| 2^e.on ||| b.getD e.on 0 else s) s).testBit i=true->
 s.testBit i=true∨∃e∈l,Region.binds .any e=true/\(e.on=i∨(b.getD e.on 0).testBit i=true)
 | [],s,h=>.inl h
 | e::l,s,h=>by
   simp only[sy]at h
   rcases Gy l _ h with h | ⟨c,m,r⟩
   ·by_cases a:Region.binds .any e=true
    ·rw[aT a]at h;simp only[Nat.testBit_or,ir,Nat.testBit_two_pow,df]at h
     rcases h with(h | h) | h
     ·exact .inl h
     ·exact .inr ⟨e,.head _,a,.inl h⟩
     ·exact .inr ⟨e,.head _,a,.inr h⟩
    ·rw[aC a]at h;exact .inl h
   ·exact .inr ⟨c,.tail _ m,r⟩
theorem M5{a:Array Oper}{i j:Nat}{o:Oper}(c:nS a=true)(d:a[j]? = some o)(h:((Region.before a).getD j 0).testBit i=true):
 ∃e∈o.after,Region.binds .any e=true/\(e.on=i∨((Region.before a).getD e.on 0).testBit i=true):=by
 obtain⟨_,g,f,b⟩:=(Gx a.toList #[]).2 j o (by simpa using d);rw[<-M4]at f b;simp only[List.size_toArray,List.length_nil,Nat.zero_add]at g b;rw[jD,b]at h;simp only[jf,bitsOf]at h;rw[<-Array.foldl_toList]at h
 rcases Gy _ _ h with h | ⟨e,m,a,r⟩
 ·simp at h
 ·refine⟨e,by simpa using m,a,r.imp id λr=>?_⟩;have b:e.on<j:=by
   simp only[nS,eD]at c;have:=c (o,j) (by rw[CB];simpa using d);simp only[CA,ir,iq,df]at this;exact(this e (by simpa using m)).resolve_left (by simp[a])
  rw[jD]at r|-;rw[f e.on (by omega)];exact r
theorem zF{a:Array Oper}{T:Nat->Prop}(b:nS a=true)(f:∀j o,T j->a[j]? = some o->∀e∈o.after,Region.binds .any e=true->T e.on):
 ∀(n j i:Nat) (o:Oper),j<n->a[j]? = some o->(∀e∈o.after,Region.binds .any e=true->T e.on)->((Region.before a).getD j 0).testBit i=true->T i
 | 0,_,_,_,_,_,_,_=>by omega
 | n+1,j,i,o,_,c,g,h=>by
   obtain⟨e,m,d,r⟩:=M5 b c h
   rcases r with rfl | r
   ·exact g e m d
   ·have h:e.on<j:=by
     simp only[nS,eD]at b;have:=b (o,j) (by rw[CB];simpa using c);simp only[CA,ir,iq,df]at this;exact(this e (by simpa using m)).resolve_left (by simp[d])
    have h:=(e'.1 c).1;have c:a[e.on]? = some a[e.on]:=kh (by omega);exact zF b f n e.on i _ (by omega) c (f e.on _ (g e m d) c) r
section
variable{O:b0}{P:Program}{base:Nat}{pm:Perm}{n:Nat}{G:Nat->Bool}{K:bY}
theorem Step.congr{γ fe:aL}{H aj J:ad}{w fS:World}(h:Step O base pm fe aj fS γ H w)(AW:∀b L,γ b=some L->J.get b=H.get b)(a:H.next<=J.next)(c:∀b,J.next<=b->J.get b=none)
 (d:∀b,b<aj.next->pm.may b=false->J.get b=aj.get b):Step O base pm fe aj fS γ J w where
 rel:=h.rel.congr AW a c
 ext:=h.ext
 fresh:=h.fresh
 grow:=h.grow
 u:=h.u
 next:=aY h.next a
 ib:=d
 hW:=λb L e r=>h.hW b L e (by rwa [AW b L (h.ext b L e)]at r)
 known:=h.known
 os:=h.os
 tape:=h.tape
 output:=h.output
theorem Step.Ks{γ:aL}{H:ad}{w:World}(h:Rel O base γ H w)(k d:Nat):Step O base pm γ H w γ ⟨H.t,H.next+k⟩ {w with drawn:=d}:=
 (Step.drawn h d).congr (λ_ _ _=>rfl) (e9 _ _) (λb a=>h.new b (aY (e9 _ _) a)) (λ_ _ _=>rfl)
end
structure Ref(K:bY)(ah:Perm)(ops:List aw)(b:Nat)(bW:List Bool)(e:Env)(H:ad)(cq:Env)(Mr:ad)(Ko:List Rec)(E:Nat->Env)(bI:Nat->ad)(V:Nat->Value)(F M:Nat->List Nat):Prop where
 Hk:E 0=e
 ez:bI 0=H
 Hl:E ops.length=cq
 HV:bI ops.length=Mr
 len:Ko.length=ops.length
 step:∀p o,ops[p]? = some o->(bI p).get (b+p)=none/\o.runT K ⟨ah.ah,ah.ok,some (b+p)⟩ (bW.getD p false) (E p) (bI p)=some (V p,bI (p+1),F p,M p)/\E (p+1)=putDst (E p) o.dst (V p)/\Ko[p]? = some ⟨F p,M p,bI p,V p,o.again (E p)⟩
theorem Hx{K:bY}{ah:Perm}:∀{d:List aw} {b:Nat} {bW:List Bool} {e cq:Env} {H a:ad} {c:List Rec},hq K ah d b bW e H=some (cq,a,c)->∃E f V F M,Ref K ah d b bW e H cq a c E f V F M
 | [],b,bW,e,cq,H,a,c,h=>by
   simp only[hq,ax,bT]at h;obtain⟨rfl,rfl,rfl⟩:=h;exact⟨λ_=>e,λ_=>H,λ_=>bz,λ_=>[],λ_=>[],rfl,rfl,rfl,rfl,rfl,λp _ h=>by simp at h⟩
 | _::d,b,bW,e,cq,H,a,c,h=>by
   simp only[hq]at h;split at h
   ·rename_i v _ i m j k;split at h
    ·rename_i _ _ _ l;simp only[ax,bT]at h;obtain⟨rfl,rfl,rfl⟩:=h;obtain⟨E,f,V,F,M,r⟩:=Hx l;refine⟨λ| 0=>e | p+1=>E p,λ| 0=>H | p+1=>f p,λ| 0=>v | p+1=>V p,λ| 0=>i | p+1=>F p,λ| 0=>m | p+1=>M p,rfl,rfl,r.Hl,r.HV,by simp[r.len],λp n g=>?_⟩
     cases p with
     | zero=>
       simp only[fI,ax]at g;subst g;refine⟨j,?_,r.Hk,rfl⟩;have:bW.getD 0 false=bW.headD false:=by cases bW<;>rfl
       simp only[Nat.add_zero,this,r.ez];exact k
     | succ p=>
       obtain⟨e,o,q,s⟩:=r.step p n (by simpa using g);refine⟨by rw[show b+(p+1)=b+1+p by omega];exact e,?_,q,by simpa using s⟩;have:bW.getD (p+1) false=bW.tail.getD p false:=by cases bW<;>simp
       simp only[this,show b+(p+1)=b+1+p by omega];exact o
    ·cases h
   ·cases h
theorem Cf{cK:Nat->Nat->Bool}{c j:Nat}{y:aw}:∀(xs:List (Nat×aw)) (i:Nat) (L:List (Nat×Nat)),uO cK c j y xs i=some L->
 ∀p x,xs[p]? = some x->i+p<j->cK x.1 c=false->∃l,sq (i+p) j x.2 y=some l/\∀z∈l,z∈L
 | [],i,L,_,p,x,a,_,_=>by simp at a
 | f::xs,i,L,h,p,x,a,_,b=>by
   simp only[uO,fG]at h;have g:i<j:=by omega
   simp only[g,decide_true,cond_true]at h
   cases d:cK f.1 c with
   | true=>
     rw[d]at h;simp only[cond_true]at h
     cases p with
     | zero=>
       simp only[fI,ax]at a;subst a;rw[d]at b;cases b
     | succ p=>
       have:=Cf xs (i+1) L h p x (by simpa using a) (by omega) b;rwa [show i+1+p=i+(p+1) by omega]at this
   | false=>
     rw[d]at h;simp only[cond_false]at h;split at h
     ·rename_i l k;split at h
      ·rename_i r m;simp only[ax]at h;subst h
       cases p with
       | zero=>
         simp only[fI,ax]at a;subst a;exact⟨l,k,λz e=>List.mem_append_left _ e⟩
       | succ p=>
         obtain⟨j,e,l⟩:=Cf xs (i+1) r m p x (by simpa using a) (by omega) b;rw[show i+1+p=i+(p+1) by omega]at e;exact⟨j,e,λz n=>List.mem_append_right _ (l z n)⟩
      ·cases h
     ·cases h
theorem JZ{cK:Nat->Nat->Bool}{all:List (Nat×aw)}:∀(a:List (Nat×aw)) (j:Nat) (L:List (Nat×Nat)),uN cK all a j=some L->
 ∀q y,a[q]? = some y->∀p x,all[p]? = some x->p<j+q->cK x.1 y.1=false->∃l,sq p (j+q) x.2 y.2=some l/\∀z∈l,z∈L
 | [],j,L,_,q,y,b,_,_,_,_,_=>by simp at b
 | _::a,j,L,h,q,y,b,p,x,c,_,d=>by
   simp only[uN]at h;split at h
   ·rename_i l f;split at h
    ·rename_i r g;simp only[ax]at h;subst h
     cases q with
     | zero=>
       simp only[fI,ax]at b;subst b;obtain⟨i,e,j⟩:=Cf all 0 l f p x c (by omega) d;rw[Nat.zero_add]at e;exact⟨i,e,λz k=>List.mem_append_left _ (j z k)⟩
     | succ q=>
       obtain⟨i,e,k⟩:=JZ a (j+1) r g q y (by simpa using b) p x c (by omega) d;rw[show j+1+q=j+(q+1) by omega]at e;exact⟨i,e,λz l=>List.mem_append_right _ (k z l)⟩
    ·cases h
   ·cases h
def aQ.quiet:aQ->Prop
 | .ret _ | .fail=>True
 | .get _ k=>∀x,(k x).quiet
 | .put ..=>False
 | .new _ k=>∀b,(k b).quiet
def aQ.blind:aQ->Prop
 | .ret _ | .fail=>True
 | .get ..=>False
 | .put _ _ k=>k.blind
 | .new _ k=>∀b,(k b).blind
theorem Cx{pm:Perm}{aE:Nat}(a:pm.num=some aE):∀(x:aQ) {H aa:ad} {v:Value} {f m:List Nat},x.quiet->x.runT pm H=some (v,aa,f,m)->∀b∈m,b=aE
 | .ret _,H,aa,v,f,m,_,h=>by
   simp only[aQ.runT,ax,bT]at h;obtain⟨rfl,rfl,rfl,rfl⟩:=h;exact λ_ h=>by cases h
 | .fail,H,aa,v,f,m,_,h=>by cases h
 | .get b k,H,aa,v,f,m,c,h=>by
   simp only[aQ.runT]at h;split at h
   ·rename_i x _;split at h
    ·rename_i _ _ _ _ d;simp only[ax,bT]at h;obtain⟨rfl,rfl,rfl,rfl⟩:=h;exact Cx a (k x) (c x) d
    ·cases h
   ·cases h
 | .put b x _,H,aa,v,f,m,c,_=>c.elim
 | .new x k,H,aa,v,f,m,c,h=>by
   simp only[aQ.runT]at h;split at h
   ·rename_i _ _ _ _ e;simp only[ax,bT]at h;obtain⟨rfl,rfl,rfl,rfl⟩:=h;intro f b
    rcases hk.1 b with rfl | b
    ·simp[Perm.pick,a]
    ·exact Cx a (k (pm.pick H)) (c _) e f b
   ·cases h
theorem zK{pm:Perm}:∀(x:aQ) {H aa:ad} {v:Value} {f m:List Nat},x.blind->x.runT pm H=some (v,aa,f,m)->f=[]
 | .ret _,H,aa,v,f,m,_,h=>by
   simp only[aQ.runT,ax,bT]at h;obtain⟨rfl,rfl,rfl,rfl⟩:=h;rfl
 | .fail,H,aa,v,f,m,_,h=>by cases h
 | .get _ _,H,aa,v,f,m,a,_=>a.elim
 | .put b x k,H,aa,v,f,m,c,h=>by
   simp only[aQ.runT]at h
   cases a:pm.may b with
   | false=>rw[a]at h;cases h
   | true=>
     rw[a]at h;simp only[cond_true]at h;split at h
     ·rename_i _ _ _ _ d;simp only[ax,bT]at h;obtain⟨rfl,rfl,rfl,rfl⟩:=h;exact zK k c d
     ·cases h
 | .new x k,H,aa,v,f,m,a,h=>by
   simp only[aQ.runT]at h;split at h
   ·rename_i _ _ _ _ e;simp only[ax,bT]at h;obtain⟨rfl,rfl,rfl,rfl⟩:=h;exact zK (k (pm.pick H)) (a _) e
   ·cases h
theorem R4{c:Bool}{x y:aQ}(a:x.quiet)(a:y.quiet):(bif c then x else y).quiet:=by cases c<;>assumption
theorem Nb{c:Bool}{x y:aQ}(a:x.blind)(a:y.blind):(bif c then x else y).blind:=by cases c<;>assumption
theorem RD{o:aV}{e:Env}(h:o.md=false):(o.B e).quiet:=by
 cases o<;>first | (simp[aV.md]at h;done) | skip
 all_goals simp only[aV.B,cS,eT,jV,kG,ei,lA,h7,nW,qg,pd,jW,mD,nU,nT,nV,pc]
 all_goals repeat' (first | trivial | (intro _;dsimp only) | (intro _) | (refine R4 ?_ ?_) | split)
theorem RB{o:aV}{e:Env}(h:o.md=false)(a:o.rd=false):(o.B e).blind:=by
 cases o<;>first | (simp[aV.md]at h;done) | (simp[aV.rd]at a;done) | skip
 all_goals simp only[aV.B,cS,eT,lA,nW,jW,mD,nU,nT,nV,pc]
 all_goals repeat' (first | trivial | (intro _;dsimp only) | (intro _) | (refine Nb ?_ ?_) | split)
structure Fy(x y:aw):Prop where
 dst:∀d,x.dst=some d->d∉y.looks/\y.dst≠some d
 N9:∀d,y.dst=some d->d∉x.looks
 dE:x.op.dE=false
 GW:y.op.dE=true->x.op.md=false
theorem Ce{i j:Nat}{x y:aw}{l:List (Nat×Nat)}(h:sq i j x y=some l):Fy x y/\(((x.op.md||x.op.dE||x.op.fw)&&(y.op.rd||y.op.md||y.op.dE))=true->(i,j)∈l)/\(((y.op.md||y.op.dE||y.op.fw)&&(x.op.rd||x.op.md||x.op.dE))=true->(j,i)∈l):=by
 unfold sq at h
 cases c:(wq x y&&!x.op.dE&&!(y.op.dE&&x.op.md)) with
 | false=>rw[c]at h;cases h
 | true=>
   rw[c]at h;simp only[cond_true,ax]at h;subst h;simp only[b3,iq,Bool.and_eq_false_iff]at c;obtain⟨⟨b,e⟩,a⟩:=c;refine⟨⟨λf d=>?_,λf d=>?_,e,λq=>?_⟩,λq=>?_,λq=>?_⟩
   ·simp only[wq,d,b3,iq,bne_iff_ne]at b;exact⟨by simpa using b.1.1,b.1.2⟩
   ·simp only[wq,d,b3,iq]at b;simpa using b.2
   ·rcases a with a | a
    ·rw[q]at a;cases a
    ·exact a
   ·rw[q];simp
   ·rw[q];simp
section
variable{O:b0}{P:Program}{base:Nat}{pm:Perm}{n:Nat}{G:Nat->Bool}{K:bY}
theorem rk.known{γ:aL}{H aa:ad}{w:World}{o:Oper}{a:Act}{r:Value}(h:rk O P base pm γ H w o a r aa){C:Prop}(c:∀b aH ao,aD b r aH->Step O base pm γ H w b aa ao->C):C:=by
 have:=h (λ_ _=>C) (λ_ _ _=>False) c;unfold Oper.wp at this;generalize (execOp a.eval o).run P w=u at this
 cases u with
 | halt x ao=>cases x<;>simp only[Oper.upon]at this
 | ok x ao=>
   cases x<;>simp only[Oper.upon]at this
   case value=>exact this
   case skip=>exact this
   case defer=>exact this
   case enter=>
    obtain⟨e,ao,_,r,_⟩:=this [];cases e<;>simp only at r
    ·exact r
    ·obtain⟨_,_,r⟩:=r;exact r.elim
   case row d f=>
    obtain⟨_,ao,r,_⟩:=this (Frame.ofRow P d f .normal) [];exact r
end
def aQ.still:aQ->Prop
 | .ret _ | .fail=>True
 | .get _ k=>∀x,(k x).still
 | .put ..=>False
 | .new ..=>False
theorem Lj{pm:Perm}{x:aQ}{H aa:ad}{v:Value}{f m:List Nat}(a:x.still)(h:x.runT pm H=some (v,aa,f,m)):m=[]/\aa=H:=by
 induction x generalizing H f m with
 | ret _=>simp only[aQ.runT,ax,bT]at h;obtain⟨_,rfl,_,rfl⟩:=h;exact⟨rfl,rfl⟩
 | fail=>cases h
 | get _ _ ih=>
   simp only[aQ.runT]at h;split at h
   ·rename_i y _;split at h
    ·rename_i b;simp only[ax,bT]at h;obtain⟨rfl,rfl,_,rfl⟩:=h;exact ih y (a y) b
    ·cases h
   ·cases h
 | put _ x _ ih=>exact a.elim
 | new x _ ih=>exact a.elim
theorem Li{c:Bool}{x y:aQ}(a:x.still)(a:y.still):(bif c then x else y).still:=by cases c<;>assumption
theorem JQ{o:aV}{e:Env}(h:o.md=false)(a:o.fw=false):(o.B e).still:=by
 cases o<;>first | (simp[aV.md]at h;done) | (simp[aV.fw]at a;done) | skip
 case conv c _=>
  cases c
  case vk=>simp[aV.fw]at a
  all_goals
   simp only[aV.B,cS,kG,ei]
   repeat' (first | trivial | (intro _;dsimp only) | (intro _) | (refine Li ?_ ?_) | split)
 all_goals simp only[aV.B,cS,eT,jV,lA,h7,nW,qg,pd,jW,nU,nT,nV,pc]
 all_goals repeat' (first | trivial | (intro _;dsimp only) | (intro _) | (refine Li ?_ ?_) | split)
theorem Hd{l r:List Nat}(h:du l r=true):∀b∈l,b∉r:=by
 intro b a;simp only[du,eD]at h;have:=h b a;simpa using this
theorem GU{a b:Value}(h:tS a b=true):a=b:=by
 unfold tS at h;split at h
 all_goals first | (simp only[b3,Nat.beq_eq,lV,df]at h) | skip
 all_goals first | rfl | (cases h;done) | skip
 case h_1=>subst h;rfl
 case h_2=>obtain⟨rfl,h⟩:=h;rw[lB,lV]at h;subst h;rfl
 case h_3 a b=>cases a;cases b;simp only at h;subst h;rfl
 case h_5=>obtain⟨rfl,rfl⟩:=h;rfl
 case h_6=>obtain⟨rfl,rfl⟩:=h;rfl
 case h_7=>obtain⟨⟨rfl,rfl⟩,rfl,rfl⟩:=h;rfl
 case h_9=>subst h;rfl
theorem wF:∀{l r:List Value},rD l r=true->l=r
 | [],[],_=>rfl
 | a::_,_::_,h=>by
   simp only[rD,b3]at h;rw[GU h.1,wF h.2]
 | [],_::_,h=>by cases h
 | _::_,[],h=>by cases h
theorem Dy{a b:Value}(h:ku a b=true):a=b:=by
 unfold ku at h;split at h
 ·rename_i _ _;rw[k2.1 (wF h)]
 ·exact GU h
structure dQ(P:Program)(G:Nat->Bool)(n:Nat)(ops:Array Oper)(K:bY)(ah:Perm) where
 N:Nat
 aE:Nat
 y:Nat->Nat
 Q:Nat->Oper
 bW:Nat->Bool
 cK:Nat->Nat->Prop
 E:Nat->Env
 bI:Nat->ad
 V:Nat->Value
 F:Nat->List Nat
 M:Nat->List Nat
 run:∀p,p<N->(dU P G n ops (Q p)).runT K ⟨ah.ah,ah.ok,some (aE+p)⟩ (bW p) (E p) (bI p)=some (V p,bI (p+1),F p,M p)
 put:∀p,p<N->E (p+1)=putDst (E p) (dU P G n ops (Q p)).dst (V p)
 own:∀p,p<N->(bI p).get (aE+p)=none
 apart:∀p q,p<q->q<N->¬cK p q->Fy (dU P G n ops (Q p)) (dU P G n ops (Q q))
 wr:∀p q,p<q->q<N->¬cK p q->((dU P G n ops (Q p)).op.md||(dU P G n ops (Q p)).op.dE||(dU P G n ops (Q p)).op.fw)=true->
  ((dU P G n ops (Q q)).op.rd||(dU P G n ops (Q q)).op.md||(dU P G n ops (Q q)).op.dE)=true->
  (∀b∈M p,b∉M q)/\((∀b∈M p,b∉F q)∨∀i,i<=N->∃u,(dU P G n ops (Q q)).again (E q) (bI i)=some u/\ku u (V q)=true)
 DF:∀p q,p<q->q<N->¬cK p q->((dU P G n ops (Q q)).op.md||(dU P G n ops (Q q)).op.dE||(dU P G n ops (Q q)).op.fw)=true->
  ((dU P G n ops (Q p)).op.rd||(dU P G n ops (Q p)).op.md||(dU P G n ops (Q p)).op.dE)=true->
  (∀b∈M q,b∉M p)/\((∀b∈M q,b∉F p)∨∀i,i<=N->∃u,(dU P G n ops (Q p)).again (E p) (bI i)=some u/\ku u (V p)=true)
 fixed:∀p,p<N->bW p=true->∀q,q<N->q≠p->vw (dU P G n ops (Q q))=true->(q<p->cK q p)/\(p<q->cK p q)
 made:∀q,q<N->∀p,p<N->aE+p∈F q->p≠q->p<q/\aE+p∈M p
namespace dQ
variable{O:b0}{P:Program}{base:Nat}{pm:Perm}{n:Nat}{G:Nat->Bool}{K:bY}{ops:Array Oper}
abbrev D(s:dQ P G n ops K pm)(p:Nat):aw:=dU P G n ops (s.Q p)
def gF(s:dQ P G n ops K pm)(p:Nat):Prop:=(s.D p).op.dE=true/\(s.D p).wanted (s.E p)=some true
def kE(s:dQ P G n ops K pm)(p b:Nat):Prop:=b∈s.M p∨(s.gF p/\(s.bW p=true∨(s.bI p).next<=b))
theorem cases(s:dQ P G n ops K pm){p:Nat}(e:p<s.N):
 ((s.D p).wanted (s.E p)=some false/\s.V p=bz/\s.bI (p+1)=s.bI p/\s.F p=[]/\s.M p=[])∨
 ((s.D p).wanted (s.E p)=some true/\(s.D p).op.dE=false/\((s.D p).op.B (s.E p)).runT ⟨pm.ah,pm.ok,some (s.aE+p)⟩ (s.bI p)=some (s.V p,s.bI (p+1),s.F p,s.M p))∨
 (s.gF p/\s.F p=[]/\((s.bW p=true/\s.M p=[]/\(s.D p).op.run K ⟨pm.ah,pm.ok,none⟩ (s.E p) (s.bI p)=some (s.V p,s.bI (p+1)))∨
  (s.bW p=false/\s.M p=(s.D p).op.qm ⟨pm.ah,pm.ok,some (s.aE+p)⟩ (s.E p)/\(s.D p).op.run K ⟨(s.bI p).next,s.M p,none⟩ (s.E p) (s.bI p)=some (s.V p,s.bI (p+1))))):=by
 have h:=s.run p e;unfold aw.runT at h;split at h
 ·rename_i b;unfold aV.runT at h
  cases a:(s.D p).op.dE with
  | false=>
    rw[a]at h;exact .inr (.inl ⟨b,rfl,h⟩)
  | true=>
    rw[a]at h;simp only[cond_true]at h
    cases c:s.bW p with
    | true=>
      rw[c]at h;simp only[cond_true]at h;split at h
      ·rename_i _ _ f;simp only[Option.some.injEq,Prod.mk.injEq]at h;obtain⟨rfl,rfl,d,g⟩:=h;exact .inr (.inr ⟨⟨a,b⟩,d.symm,.inl ⟨rfl,g.symm,f⟩⟩)
      ·cases h
    | false=>
      rw[c]at h;simp only[cond_false]at h;split at h
      ·rename_i _ _ i;simp only[Option.some.injEq,Prod.mk.injEq]at h;obtain⟨rfl,rfl,g,d⟩:=h;exact .inr (.inr ⟨⟨a,b⟩,g.symm,.inr ⟨rfl,d.symm,d▸i⟩⟩)
      ·cases h
 ·rename_i j;simp only[Option.some.injEq,Prod.mk.injEq]at h;obtain⟨a,c,d,g⟩:=h;exact .inl ⟨j,a.symm,c.symm,d.symm,g.symm⟩
 ·cases h
theorem ok(s:dQ P G n ops K pm){p:Nat}(b:p<s.N):mO P G n ops (s.Q p)=true:=by
 by_cases a:mO P G n ops (s.Q p)=true
 ·exact a
 ·have h:=s.run p b;rw[dU,if_neg a]at h;simp[aw.runT,aw.wanted,aV.runT,aV.dE,aV.B,aQ.runT]at h
theorem FE(s:dQ P G n ops K pm){p:Nat}(a:p<s.N):(s.D p).op=e0 P G (s.Q p)/\(s.D p).dst=(s.Q p).dst:=by
 unfold D;rw[dU,if_pos (s.ok a)];exact⟨rfl,rfl⟩
structure Fact(s:dQ P G n ops K pm)(p:Nat):Prop where
 next:(s.bI p).next<=(s.bI (p+1)).next
 same:¬s.gF p->(s.bI (p+1)).next=(s.bI p).next
 u:∀b,¬s.kE p b->(s.bI (p+1)).get b=(s.bI p).get b
 made:¬s.gF p->∀b,b∈s.M p∨b∈s.F p->((s.bI (p+1)).get b).isSome
 new:∀b,(s.bI (p+1)).next<=b->(s.bI (p+1)).get b=none
theorem HQ{ah:Perm}{e:Env}{o:aV}{b:Nat}(h:b∈o.qm ah e):ah.may b=true:=by
 have e:∀l:List Value,b∈ed ah l->ah.may b=true:=by
  intro l
  induction l with
  | nil=>intro h;cases h
  | cons _ l ih=>
    intro h;unfold ed at h;split at h
    ·rename_i f;cases f
    ·rename_i g _ c;simp only[List.cons.injEq]at c;obtain⟨_,rfl⟩:=c
     cases a:ah.may g.block with
     | true=>
       rw[a]at h;simp only[cond_true]at h
       rcases List.mem_cons.1 h with rfl | h
       ·exact a
       ·exact ih h
     | false=>
       rw[a]at h;exact ih h
    ·rename_i d;simp only[List.cons.injEq]at d;obtain⟨_,rfl⟩:=d;exact ih h
 cases o<;>simp only[aV.qm]at h<;>first
  | (cases h;done)
  | (split at h
     ·exact e _ h
     ·cases h)
theorem chain(s:dQ P G n ops K pm)(z:dK O P G K)(D:pm.num=none){γ:aL}{H:ad}{w:World}{a:Act}(b:s.aE=H.next)(E:pm.ah<=s.aE)(o:s.bI 0=⟨H.t,H.next+s.N⟩)(l:Rel O base γ H w)(t:cW γ n (s.E 0) a)(r:eF G γ):
 ∀p,p<=s.N->(∃d bF ao,cW d n (s.E p) bF/\Step O base pm γ H w d (s.bI p) ao/\s.aE+s.N<=(s.bI p).next/\∀q,q<s.N->∀L,d (s.aE+q)=some L->q<p)/\∀q,q<p->s.Fact q
 | 0,_=>⟨⟨γ,a,{w with drawn:=w.drawn},t,o▸Step.Ks l s.N _,by rw[o,b];exact Nat.le_refl _,λq _ L h=>by have:=l.lt _ _ h;omega⟩,λq h=>by omega⟩
 | p+1,e=>by
   obtain⟨⟨d,bF,ao,i,f,u,j⟩,F⟩:=chain s z D b E o l t r p (by omega);have e:p<s.N:=e;have A:=s.ok e;have v:=s.FE e;have x:∀t,(s.D p).dst=some t->t<n:=λt o=>xI A t (v.2▸o)
   suffices o:(∃c y g,cW c n (s.E (p+1)) y/\Step O base pm γ H w c (s.bI (p+1)) g/\s.aE+s.N<=(s.bI (p+1)).next/\∀q,q<s.N->∀L,c (s.aE+q)=some L->q<p+1)/\s.Fact p by
    refine⟨o.1,λq j=>?_⟩;by_cases h:q=p
    ·exact h▸o.2
    ·exact F q (by omega)
   rcases s.cases e with⟨bX,cv,cF,dw,gZ⟩ | ⟨bX,cv,cF⟩ | ⟨bX,cv,cF⟩
   ·have a:¬s.gF p:=λh=>by rw[h.2]at bX;cases bX
    refine⟨⟨d,bF.put (s.D p).dst undef,ao,?_,cF▸f,cF▸u,λq a L h=>Nat.lt_succ_of_lt (j q a L h)⟩,?_⟩
    ·rw[s.put p e,cv];exact i.Cs x
    ·exact⟨by rw[cF];exact Nat.le_refl _,λ_=>by rw[cF],λa _=>by rw[cF],λ_ a b=>by rw[dw,gZ]at b;simp at b,λa b=>by rw[cF]at b|-;exact f.rel.new a b⟩
   ·have o:¬s.gF p:=λh=>by rw[h.1]at cv;cases cv
    have k:=sQ (pm:=⟨pm.ah,pm.ok,some (s.aE+p)⟩) rfl _ cF;have w:=Sx cF;have B:=KF cF;rw[v.1]at B;have C:Perm.X ⟨pm.ah,pm.ok,some (s.aE+p)⟩ d (s.bI p):=by
     intro a n;cases n;refine⟨by omega,?_,?_⟩
     ·cases q:d (s.aE+p) with
      | none=>rfl
      | some L=>have:=j p e L q;omega
     ·simp only[Perm.may,cg];rw[decide_eq_true (show pm.ah<=s.aE+p by omega)];rfl
    obtain⟨_,o,g,c,_,_,G,m⟩:=xO f.rel C i (r.mono f.ext) (s.Q p) B;refine⟨⟨c,bF.put (s.D p).dst o,g,?_,f.yJ m (λa n=>by cases n;exact .inl (by omega)),by rw[k.1];exact u,λq H L I=>?_⟩,?_⟩
    ·rw[s.put p e];exact(i.mono m.ext).put x G
    ·cases p:d (s.aE+q) with
     | some n=>exact Nat.lt_succ_of_lt (j q H n p)
     | none=>
       rcases m.known _ L I p with h | h
       ·omega
       ·simp only[Option.some.injEq]at h;omega
    ·exact⟨by rw[k.1];exact Nat.le_refl _,λ_=>k.1,λa b=>k.2.1 a λh=>b (.inl h),λ_ a b=>b.elim (w.2.1 a) (w.2.2 a),λa b=>m.rel.new a b⟩
   ·have B:∀k:Perm,k.num=none->(∀a,a<(s.bI p).next->k.may a=true->pm.may a=true)->(s.D p).op.run K k (s.E p) (s.bI p)=some (s.V p,s.bI (p+1))->(∀a,¬s.kE p a->a<(s.bI p).next/\k.may a=false)->
     (∃c y g,cW c n (s.E (p+1)) y/\Step O base pm γ H w c (s.bI (p+1)) g/\s.aE+s.N<=(s.bI (p+1)).next/\∀q,q<s.N->∀L,c (s.aE+q)=some L->q<p+1)/\s.Fact p:=by
     intro k m o k G;rw[v.1]at k;have:=Ax z f.rel m i (r.mono f.ext) (s.Q p) (BW A) k;refine this.known λc k g I h=>?_;refine⟨⟨c,bF.put (s.D p).dst k,g,?_,f.trans (h.weaken f.rel o λa C=>by rw[m]at C;cases C) l,Nat.le_trans u h.next,λq J L K=>?_⟩,?_⟩
     ·rw[s.put p e];exact(i.mono h.ext).put x I
     ·cases p:d (s.aE+q) with
      | some c=>exact Nat.lt_succ_of_lt (j q J c p)
      | none=>
        rcases h.known _ L K p with n | n
        ·omega
        ·rw[m]at n;cases n
     ·exact⟨h.next,λn=>(n bX).elim,λa b=>let ⟨x,y⟩:=G a b;h.ib a x y,λn=>(n bX).elim,λa b=>h.rel.new a b⟩
    rcases cF with⟨dw,gZ,qo⟩ | ⟨dw,gZ,qo⟩
    ·exact B ⟨pm.ah,pm.ok,none⟩ rfl (λa _ h=>h) qo λa b=>(b (.inr ⟨bX,.inl dw⟩)).elim
    ·refine B ⟨(s.bI p).next,s.M p,none⟩ rfl (λa b h=>?_) qo λa b=>?_
     ·simp only[Perm.may,cg,decide_eq_false (Nat.not_le.2 b),cond_false]at h;have h:a∈s.M p:=by simpa using h
      rw[gZ]at h;have:=HQ h;exact this
     ·have c:a<(s.bI p).next:=by
       apply Nat.lt_of_not_le;intro h;exact b (.inr ⟨bX,.inr h⟩)
      refine⟨c,?_⟩;simp only[Perm.may,cg,decide_eq_false (Nat.not_le.2 c),cond_false];have:a∉s.M p:=λh=>b (.inl h);simpa using this
end dQ
namespace dQ
variable{O:b0}{P:Program}{base:Nat}{pm:Perm}{n:Nat}{G:Nat->Bool}{K:bY}{ops:Array Oper}
theorem Jj(s:dQ P G n ops K pm)(a:∀q,q<s.N->s.Fact q)(i:Nat):∀d,i+d<=s.N->(s.bI i).next<=(s.bI (i+d)).next
 | 0,_=>Nat.le_refl _
 | d+1,_=>Nat.le_trans (Jj s a i d (by omega)) (a (i+d) (by omega)).next
theorem uw(s:dQ P G n ops K pm)(a:∀q,q<s.N->s.Fact q){b:Nat}(i:Nat):∀d,i+d<=s.N->(∀k,i<=k->k<i+d->¬s.kE k b)->(s.bI (i+d)).get b=(s.bI i).get b
 | 0,_,_=>rfl
 | d+1,_,c=>((a (i+d) (by omega)).u b (c _ (by omega) (by omega))).trans (uw s a i d (by omega) λk a _=>c k a (by omega))
theorem BR(s:dQ P G n ops K pm)(a:∀q,q<s.N->s.Fact q)(i:Nat):∀d,i+d<=s.N->(∀k,i<=k->k<i+d->¬s.gF k)->(s.bI (i+d)).next=(s.bI i).next
 | 0,_,_=>rfl
 | d+1,_,b=>((a (i+d) (by omega)).same (b _ (by omega) (by omega))).trans (BR s a i d (by omega) λk a _=>b k a (by omega))
theorem AD(s:dQ P G n ops K pm){t:Nat}(i:Nat):∀d,i+d<=s.N->(∀k,i<=k->k<i+d->(s.D k).dst≠some t)->(s.E (i+d)).get t=(s.E i).get t
 | 0,_,_=>rfl
 | d+1,_,a=>by
   rw[show i+(d+1)=i+d+1 by omega,s.put (i+d) (by omega)];have b:=a (i+d) (by omega) (by omega);have:=AD s (t:=t) i d (by omega) λk c _=>a k c (by omega)
   cases e:(s.D (i+d)).dst with
   | none=>exact this
   | some _=>
     simp only[putDst,bG.jw];rw[if_neg (λq=>b (by rw[e,q]))];exact this
theorem r7(s:dQ P G n ops K pm){p b:Nat}(c:p<s.N)(d:¬s.gF p)(h:b∈s.M p):((s.D p).op.md=true∨(s.D p).op.fw=true)/\((s.D p).op.md=false->b=s.aE+p):=by
 rcases s.cases c with⟨_,_,_,_,gZ⟩ | ⟨_,cv,cF⟩ | ⟨bX,_⟩
 ·rw[gZ]at h;cases h
 ·refine⟨?_,λa=>?_⟩
  ·cases a:(s.D p).op.md with
   | true=>exact .inl rfl
   | false=>cases b:(s.D p).op.fw with
     | true=>exact .inr rfl
     | false=>
       have:=(Lj (JQ (e:=s.E p) a b) cF).1
       rw[this]at h;cases h
  ·exact Cx (pm:=⟨pm.ah,pm.ok,some (s.aE+p)⟩) rfl _ (RD a) cF b h
 ·exact(d bX).elim
theorem HK(s:dQ P G n ops K pm){p b:Nat}(a:p<s.N)(h:b∈s.F p):((s.D p).op.rd=true∨(s.D p).op.md=true)/\¬s.gF p:=by
 rcases s.cases a with⟨_,_,_,dw,_⟩ | ⟨_,cv,cF⟩ | ⟨_,cv,_⟩
 ·rw[dw]at h;cases h
 ·refine⟨?_,λa=>by rw[a.1]at cv;cases cv⟩
  cases b:(s.D p).op.md with
  | true=>exact .inr rfl
  | false=>cases c:(s.D p).op.rd with
    | true=>exact .inl rfl
    | false=>
      have:=zK _ (RB (e:=s.E p) b c) cF
      rw[this]at h;cases h
 ·rw[cv]at h;cases h
def zo(s:dQ P G n ops K pm)(q:Nat):Prop:=∀i,i<=s.N->∃u,(s.D q).again (s.E q) (s.bI i)=some u/\ku u (s.V q)=true
theorem below(s:dQ P G n ops K pm)(a:∀q,q<s.N->s.Fact q){p q b:Nat}(d:p<q)(d:q<s.N)(d:¬s.gF p)(h:b∈s.M p∨b∈s.F p):b<(s.bI q).next:=by
 have c:=(a p (by omega)).made d b h;have d:=s.Jj a (p+1) (q-(p+1)) (by omega);rw[show p+1+(q-(p+1))=q by omega]at d;apply Nat.lt_of_lt_of_le _ d;apply Nat.lt_of_not_le;intro d;rw[(a p (by omega)).new b d]at c;cases c
theorem ps(s:dQ P G n ops K pm){p q:Nat}(a:p<q)(b:q<s.N)(c:¬s.cK p q):¬s.gF p:=λh=>by
 have:=(s.apart p q a b c).dE;rw[h.1]at this;cases this
theorem Lw{o:aw}(h:o.op.rd=true∨o.op.md=true∨o.op.fw=true):vw o=true:=by
 unfold vw
 rcases h with h | h | h<;>rw[h]<;>simp
theorem GY(s:dQ P G n ops K pm)(o:∀q,q<s.N->s.Fact q){p q b:Nat}(f:p<q)(a:q<s.N)(g:¬s.cK p q)(c:s.kE p b)(d:s.kE q b):False:=by
 have k:p<s.N:=by omega
 have j:=s.ps f a g;have c:b∈s.M p:=c.resolve_right λh=>j h.1;obtain⟨l,n⟩:=s.r7 k j c
 rcases d with d | ⟨d,i⟩
 ·by_cases e:((s.D q).op.rd||(s.D q).op.md||(s.D q).op.dE)=true
  ·have:=(s.wr p q f a g (by rcases l with h | h<;>rw[h]<;>simp) e).1;exact this b c d
  ·simp only[Bool.or_eq_true,not_or,Bool.not_eq_true]at e;have r:¬s.gF q:=λh=>by rw[h.1]at e;cases e.2
   obtain⟨t,u⟩:=s.r7 a r d;have r:=u e.1.2;have v:(s.D q).op.fw=true:=t.resolve_left λh=>by rw[e.1.2]at h;cases h
   cases m:(s.D p).op.md with
   | true=>
     have:=(s.DF p q f a g (by rw[v];simp) (by rw[m];simp)).1;exact this b d c
   | false=>
     have:=n m;omega
 ·rcases i with i | i
  ·exact g ((s.fixed q a i p k (by omega) (Lw (by rcases l with h | h<;>simp[h]))).1 f)
  ·have:=s.below o f a j (.inl c);omega
theorem GX(s:dQ P G n ops K pm){p q b:Nat}(d:p<q)(c:q<s.N)(e:¬s.cK p q)(a:s.kE p b)(f:b∈s.F q):s.zo q:=by
 have i:p<s.N:=by omega
 have g:=s.ps d c e;have a:b∈s.M p:=a.resolve_right λh=>g h.1;obtain⟨j,_⟩:=s.r7 i g a;obtain⟨k,_⟩:=s.HK c f;rcases(s.wr p q d c e (by rcases j with h | h<;>rw[h]<;>simp) (by rcases k with h | h<;>rw[h]<;>simp)).2 with h | h
 ·exact(h b a f).elim
 ·exact h
theorem Nw(s:dQ P G n ops K pm)(k:∀q,q<s.N->s.Fact q){p q b:Nat}(d:p<q)(a:q<s.N)(f:¬s.cK p q)(g:b∈s.F p)(c:s.kE q b):s.zo p:=by
 have i:p<s.N:=by omega
 have l:=s.ps d a f;obtain⟨j,_⟩:=s.HK i g
 rcases c with c | ⟨c,e⟩
 ·have m:((s.D q).op.md||(s.D q).op.dE||(s.D q).op.fw)=true:=by
   by_cases b:s.gF q
   ·rw[b.1];simp
   ·obtain⟨h,_⟩:=s.r7 a b c
    rcases h with h | h<;>rw[h]<;>simp
  rcases(s.DF p q d a f m (by rcases j with h | h<;>rw[h]<;>simp)).2 with h | h
  ·exact(h b c g).elim
  ·exact h
 ·rcases e with e | e
  ·exact(f ((s.fixed q a e p i (by omega) (Lw (by rcases j with h | h<;>simp[h]))).1 d)).elim
  ·have:=s.below k d a l (.inr g);omega
def R(s:dQ P G n ops K pm)(T:Nat->Prop)(b:Nat):Prop:=∀p,p<s.N->b=s.aE+p->T p/\b∈s.M p
structure Inv(O:b0)(base:Nat)(s:dQ P G n ops K pm)(T:Nat->Prop)(fe:aL)(aj:ad)(fS:World)(e:Env)(J:ad)(γ:aL)(a:Act)(w:World):Prop where
 kI:cW γ n e a
 step:Step O base pm fe aj fS γ J w
 hc:s.aE+s.N<=J.next
 Z:∀t i,i<=s.N->(∀k,k<s.N->(s.D k).dst=some t->(k<i↔T k))->e.get t=(s.E i).get t
 W:∀b i,i<=s.N->s.R T b->(∀k,k<s.N->s.kE k b->(k<i↔T k))->J.get b=(s.bI i).get b
 next:∀i,i<=s.N->(∀k,k<s.N->s.gF k->(k<i↔T k))->J.next=(s.bI i).next
 known:∀p,p<s.N->∀L,γ (s.aE+p)=some L->T p/\s.aE+p∈s.M p
structure Ready(s:dQ P G n ops K pm)(T:Nat->Prop)(j:Nat):Prop where
 lt:j<s.N
 hN:¬T j
 closed:∀p q,p<s.N->q<s.N->s.cK p q->T q->T p
 pre:∀p,p<s.N->s.cK p j->T p
section
variable{s:dQ P G n ops K pm}{T:Nat->Prop}{fe γ:aL}{aj J:ad}{fS w:World}{e:Env}{a:Act}{j:Nat}
theorem Ready.late(h:s.Ready T j){k:Nat}(a:k<s.N)(b:T k):¬s.cK j k:=λc=>h.hN (h.closed j k h.lt a c b)
theorem Ready.early(h:s.Ready T j){k:Nat}(a:k<s.N)(b:¬T k):¬s.cK k j:=λc=>b (h.pre k a c)
theorem Inv.looks(b:Inv O base s T fe aj fS e J γ a w)(h:s.Ready T j):∀t∈(s.D j).looks,e.get t=(s.E j).get t:=by
 intro t c;refine b.Z t j (Nat.le_of_lt h.lt) λk b d=>⟨λe=>?_,λa=>?_⟩
 ·apply Classical.byContradiction;intro a;exact((s.apart k j e h.lt (h.early b a)).dst t d).1 c
 ·apply Classical.byContradiction;intro e;have:j≠k:=λq=>h.hN (q▸a);exact(s.apart j k (by omega) b (h.late b a)).N9 t d c
theorem Inv.Lg(f:Inv O base s T fe aj fS e J γ a w)(h:s.Ready T j):∀t i,i<=s.N->(∀k,k<s.N->(s.D k).dst=some t->(k<i↔(T k∨k=j)))->(putDst e (s.D j).dst (s.V j)).get t=(s.E i).get t:=by
 intro t i g b;by_cases a:(s.D j).dst=some t
 ·have c:j<i:=(b j h.lt a).2 (.inr rfl);have d:(s.E i).get t=(s.E (j+1)).get t:=by
   have:=s.AD (t:=t) (j+1) (i-(j+1)) (by omega) λk d _ e=>by
    have c:k<s.N:=by omega
    have i:T k:=((b k c e).1 (by omega)).resolve_right (by omega);exact((s.apart j k (by omega) c (h.late c i)).dst t a).2 e
   rwa [show j+1+(i-(j+1))=i by omega]at this
  rw[d,s.put j h.lt];simp only[a,putDst,bG.jw,if_true]
 ·have d:e.get t=(s.E i).get t:=f.Z t i g λk f c=>by
   rw[b k f c];exact⟨λq=>q.resolve_right λq=>a (q▸c),.inl⟩
  rw[<-d]
  cases e:(s.D j).dst with
  | none=>rfl
  | some _=>
    simp only[putDst,bG.jw];rw[if_neg (λq=>a (by rw[e,q]))]
theorem Inv.other(o:∀q,q<s.N->s.Fact q)(B:s.aE=aj.next)(c:Inv O base s T fe aj fS e J γ a w)(h:s.Ready T j)(r:¬s.gF j){fN:ad}{f:aL}{bF:Act}{ao:World}{m:Option Nat}
 (t:fN.next=J.next) (x:∀b,fN.get b=if b∈s.M j then(s.bI (j+1)).get b else J.get b) (y:cW f n (putDst e (s.D j).dst (s.V j)) bF) (u:Step O base ⟨pm.ah,pm.ok,m⟩ γ J w f fN ao) (v:∀b,m=some b->b=s.aE+j/\b∈s.M j):
 Inv O base s (λk=>T k∨k=j) fe aj fS (putDst e (s.D j).dst (s.V j)) fN f bF ao where
 kI:=y
 step:=c.step.yJ u λb e=>.inl (by have:=(v b e).1;omega)
 hc:=by rw[t];exact c.hc
 Z:=c.Lg h
 W:=λb i g z d=>by
  rw[x b];by_cases a:b∈s.M j
  ·rw[if_pos a];have m:j<i:=(d j h.lt (.inl a)).2 (.inr rfl);have:=s.uw o (b:=b) (j+1) (i-(j+1)) (by omega) λk _ _ e=>by
    have b:k<s.N:=by omega
    have j:T k:=((d k b e).1 (by omega)).resolve_right (by omega);exact s.GY o (by omega) b (h.late b j) (.inl a) e
   rw[show j+1+(i-(j+1))=i by omega]at this;exact this.symm
  ·rw[if_neg a];have m:¬s.kE j b:=λq=>q.elim a λq=>r q.1;refine c.W b i g (λp l e=>?_) λk n h=>?_
   ·obtain⟨j,b⟩:=z p l e;exact⟨j.resolve_right λq=>a (q▸b),b⟩
   ·rw[d k n h];exact⟨λq=>q.resolve_right λq=>m (q▸h),.inl⟩
 next:=λi g d=>by
  rw[t];refine c.next i g λk b a=>?_;rw[d k b a];exact⟨λq=>q.resolve_right λq=>r (q▸a),.inl⟩
 known:=λp l L A=>by
  cases a:γ (s.aE+p) with
  | some b=>
    obtain⟨e,h⟩:=c.known p l b a;exact⟨.inl e,h⟩
  | none=>
    rcases u.known _ L A a with q | q
    ·have:=c.hc;omega
    ·obtain⟨_,b⟩:=v _ q;have:p=j:=by omega
     exact⟨.inr this,this▸b⟩
theorem Inv.call(g:∀q,q<s.N->s.Fact q)(r:Inv O base s T fe aj fS e J γ a w)(h:s.Ready T j)(l:s.gF j)(v:s.aE+s.N<=(s.bI j).next)(x:Step O base pm fe aj fS γ (s.bI j) w){o:aL}{bF:Act}{ao:World}
 (y:cW o n (putDst e (s.D j).dst (s.V j)) bF) (p:Step O base pm γ (s.bI j) w o (s.bI (j+1)) ao) (t:pm.num=none):
 Inv O base s (λk=>T k∨k=j) fe aj fS (putDst e (s.D j).dst (s.V j)) (s.bI (j+1)) o bF ao:=by
 have u:∀k,k<s.N->j<k->¬T k:=λk c z a=>s.ps z c (h.late c a) l;have A:∀k b,k<j->¬T k->s.kE k b->b=s.aE+k/\b∈s.M k:=λk b f a d=>by
  have e:k<s.N:=by have:=h.lt;omega
  have i:=h.early e a;have m:=s.ps f h.lt i;have n:b∈s.M k:=d.resolve_right λq=>m q.1;have w:=(s.apart k j f h.lt i).GW l.1;exact⟨(s.r7 e m n).2 w,n⟩
 exact{
  kI:=y
  step:=x.yJ (m:=pm.num) p λb e=>by rw[t]at e;cases e
  hc:=Nat.le_trans v p.next
  Z:=r.Lg h
  W:=λb i w B c=>by
   by_cases E:i<=j+1
   ·have:=s.uw g (b:=b) i (j+1-i) (by have:=h.lt;omega) λk _ _ d=>by
     have e:k<s.N:=by have:=h.lt;omega
     have a:¬(T k∨k=j):=λq=>by have:=(c k e d).2 q;omega
     have f:k<j:=by
      have:k≠j:=λq=>a (.inr q);omega
     obtain⟨m,_⟩:=A k b f (λq=>a (.inl q)) d;exact a (B k e m).1
    rw[show i+(j+1-i)=j+1 by omega]at this;exact this
   ·have:=s.uw g (b:=b) (j+1) (i-(j+1)) (by omega) λk _ _ d=>by
     have b:k<s.N:=by omega
     have a:T k:=((c k b d).1 (by omega)).resolve_right (by omega);exact u k b (by omega) a
    rw[show j+1+(i-(j+1))=i by omega]at this;exact this.symm
  next:=λi w c=>by
   have e:j<i:=(c j h.lt l).2 (.inr rfl);have:=s.BR g (j+1) (i-(j+1)) (by omega) λk _ _ d=>by
    have b:k<s.N:=by omega
    have a:T k:=((c k b d).1 (by omega)).resolve_right (by omega);exact u k b (by omega) a
   rw[show j+1+(i-(j+1))=i by omega]at this;exact this.symm
  known:=λn C L D=>by
   cases b:γ (s.aE+n) with
   | some e=>
     obtain⟨h,j⟩:=r.known n C e b;exact⟨.inl h,j⟩
   | none=>
     rcases p.known _ L D b with q | q
     ·omega
     ·rw[t]at q;cases q}
theorem Inv.swap(t:∀q,q<s.N->s.Fact q)(ez:∀b,(s.bI 0).next<=b->(s.bI 0).get b=none)(f:Inv O base s T fe aj fS e J γ a w)(h:s.Ready T j)(l:s.gF j)(i:s.aE=aj.next):
 Step O base pm fe aj fS γ (s.bI j) w/\s.aE+s.N<=(s.bI j).next:=by
 have m:∀k,k<s.N->T k->k<j:=λk c a=>by
  apply Classical.byContradiction;intro d;have:k≠j:=λq=>h.hN (q▸a);exact s.ps (by omega) c (h.late c a) l
 have u:∀k b,k<j->¬T k->s.kE k b->b=s.aE+k:=λk b d a g=>by
  have b:k<s.N:=by have:=h.lt;omega
  have e:=h.early b a;have n:=s.ps d h.lt e;exact(s.r7 b n (g.resolve_right λq=>n q.1)).2 ((s.apart k j d h.lt e).GW l.1)
 have o:∀b,s.R T b->J.get b=(s.bI j).get b:=λb l=>f.W b j (Nat.le_of_lt h.lt) l λk c g=>⟨λd=>by
  apply Classical.byContradiction;intro a;exact a (l k c (u k b d a g)).1,m k c⟩
 have l:J.next=(s.bI j).next:=f.next j (Nat.le_of_lt h.lt) λk c g=>⟨λd=>by
  apply Classical.byContradiction;intro a;exact s.ps d h.lt (h.early c a) g,m k c⟩
 refine⟨f.step.congr (λb L v=>(o b λp r e=>?_).symm) (Nat.le_of_eq l) (λb i=>?_) λb x y=>?_,l▸f.hc⟩
 ·subst e;exact f.known p r L v
 ·cases j with
  | zero=>exact ez b i
  | succ j=>exact(t j (by have:=h.lt;omega)).new b i
 ·rw[<-o b λp r e=>by omega];exact f.step.ib b x y
end
end dQ
theorem Hz(S T:Nat->Prop):∀N,(∀k dd,k<dd->dd<N->S k->S dd->T dd->T k)->∃i,i<=N/\∀k,k<N->S k->(k<i↔T k)
 | 0,_=>⟨0,Nat.le_refl _,λk _=>by omega⟩
 | N+1,h=>by
   obtain⟨i,_,c⟩:=Hz S T N λk dd d _=>h k dd d (by omega);by_cases a:S N/\T N
   ·refine⟨N+1,Nat.le_refl _,λk b d=>⟨λ_=>?_,λ_=>b⟩⟩;by_cases q:k=N
    ·exact q▸a.2
    ·exact h k N (by omega) (by omega) d a.1 a.2
   ·refine⟨i,by omega,λk _ b=>?_⟩;by_cases q:k=N
    ·subst q;exact⟨λq=>by omega,λq=>(a ⟨b,q⟩).elim⟩
    ·exact c k (by omega) b
theorem Ql{pm:Perm}{J:ad}{a:Bool}{m:Nat}{x:Option Value}{v:Value}(h:dG J a m x=some v):(jV a m x).run pm J=some (v,J):=by
 unfold dG at h;split at h
 ·rename_i _;split at h
  ·rename_i _ b;split at h
   ·rename_i _ c;simp only[jV,aQ.run,b,c,h,eT]
   ·cases h
  ·cases h
 ·cases h
theorem Qk{J H:ad}{b:Bool}{m:Nat}{a:Addr}(h:J.get a.block=H.get a.block):dG J b m (some (.pointer (some a)))=dG H b m (some (.pointer (some a))):=by
 simp only[dG,h]
namespace dQ
variable{O:b0}{P:Program}{base:Nat}{pm:Perm}{n:Nat}{G:Nat->Bool}{K:bY}{ops:Array Oper}
variable{s:dQ P G n ops K pm}{T:Nat->Prop}{fe γ:aL}{aj J:ad}{fS w:World}{e:Env}{a:Act}{j:Nat}
theorem Inv.same(n:∀q,q<s.N->s.Fact q)(ez:∀b,s.aE<=b->(s.bI 0).get b=none)(p:Inv O base s T fe aj fS e J γ a w)(h:s.Ready T j)(r:(s.D j).wanted (s.E j)=some true)(t:(s.D j).op.dE=false)
 (u:((s.D j).op.B (s.E j)).runT ⟨pm.ah,pm.ok,some (s.aE+j)⟩ (s.bI j)=some (s.V j,s.bI (j+1),s.F j,s.M j)) (v:Option Nat) (z:s.aE+j∈s.M j->v=some (s.aE+j)):
 ∃fN,((s.D j).op.B (s.E j)).run ⟨pm.ah,pm.ok,v⟩ J=some (s.V j,fN)/\fN.next=J.next/\∀b,fN.get b=if b∈s.M j then(s.bI (j+1)).get b else J.get b:=by
 by_cases c:s.zo j
 ·obtain⟨A,d,_⟩:=c 0 (Nat.zero_le _);unfold aw.again at d;rw[r]at d;split at d
  ·rename_i g m x _ f;have B:=Lj (JQ (e:=s.E j) (o:=(s.D j).op) (by rw[f];rfl) (by rw[f];rfl)) u;have C:∀i,(s.D j).again (s.E j) (s.bI i)=dG (s.bI i) g m (aO (s.E j) x):=λi=>by
    unfold aw.again;rw[r,f]
   have l:∀i,i<=s.N->dG (s.bI i) g m (aO (s.E j) x)=some (s.V j):=λi e=>by
    obtain⟨A,a,b⟩:=c i e;rw[C]at a;rw[a,Dy b]
   have D:dG J g m (aO (s.E j) x)=some (s.V j):=by
    have a:=l 0 (Nat.zero_le _)
    cases o:aO (s.E j) x with
    | none=>rw[o]at a;cases a
    | some E=>
      rw[o]at a l;cases E<;>try (cases a;done)
      rename_i y
      cases y with
      | none=>cases a
      | some b=>
        have M:b.block<s.aE:=by
         apply Nat.lt_of_not_le;intro h;simp only[dG,ez _ h]at a;cases a
        obtain⟨i,e,F⟩:=Hz (λk=>s.kE k b.block) T s.N λk j G w H I J=>by
         apply Classical.byContradiction;intro K;have L:¬s.cK k j:=λq=>K (h.closed k j (by omega) w q J);exact s.GY n G w L H I
        rw[Qk (p.W b.block i e (λy _ q=>by omega) F)];exact l i e
   refine⟨J,?_,rfl,λb=>by rw[B.1];simp⟩;rw[f];exact Ql D
  ·cases d
 ·have B:¬s.gF j:=λq=>by rw[q.1]at t;cases t
  refine yo (pm:=⟨pm.ah,pm.ok,some (s.aE+j)⟩) rfl _ u (.inl (s.own j h.lt)) (λb d _=>?_) z;refine p.W b j (Nat.le_of_lt h.lt) (λo i w=>?_) λA e k=>⟨λl=>?_,λa=>?_⟩
  ·subst w;obtain⟨q,b⟩:=s.made j h.lt o i d (by omega);refine⟨?_,b⟩;apply Classical.byContradiction;intro a;exact c (s.GX q h.lt (h.early i a) (.inl b) d)
  ·apply Classical.byContradiction;intro a;exact c (s.GX l h.lt (h.early e a) k d)
  ·apply Classical.byContradiction;intro l;have:A≠j:=λq=>h.hN (q▸a);exact c (s.Nw n (by omega) e (h.late e a) d k)
theorem Inv.oper(i:∀q,q<s.N->s.Fact q)(p:s.aE=aj.next)(M:pm.ah<=s.aE)(ez:∀b,s.aE<=b->(s.bI 0).get b=none)(N:s.aE<=(s.bI 0).next)(B:dK O P G K)(C:pm.num=none)(D:eF G fe)
 (c:Inv O base s T fe aj fS e J γ a w) (h:s.Ready T j) {g:Act->World->Prop} {Q:Exit->Act->World->Prop}
 (r:∀E fN l bF ao,Inv O base s (λk=>T k∨k=j) fe aj fS E fN l bF ao->g bF ao):
 if Region.wanted (s.Q j) (yielded ops a.tmps) then(s.Q j).wp P a w g Q∨((s.Q j).asks P a w/\LetsOut Q) else g (a.put (s.Q j).dst undef) w:=by
 have u:=c.looks h;have o:=s.ok h.lt;have d:=s.FE h.lt;have v:∀t,(s.D j).dst=some t->t<n:=λt f=>xI o t (d.2▸f);have x:(s.D j).wanted e=(s.D j).wanted (s.E j):=TO u;have y:=D.mono c.step.ext
 rcases s.cases h.lt with⟨bX,cv,cF,dw,gZ⟩ | ⟨bX,cv,cF⟩ | ⟨bX,cv,cF⟩
 ·rw[vy c.kI o (x.trans bX)];have a:¬s.gF j:=λq=>by rw[q.2]at bX;cases bX
  refine r _ J γ _ w (c.other i p h a (fN:=J) (m:=none) rfl (λb=>by rw[gZ];simp) ?_ (Step.refl c.step.rel) λb q=>by cases q);rw[cv,d.2];exact c.kI.Cs λt f=>v t (d.2▸f)
 ·rw[vy c.kI o (x.trans bX),if_pos rfl];have n:¬s.gF j:=λq=>by rw[q.1]at cv;cases cv
  by_cases k:s.aE+j∈s.M j
  all_goals
   obtain⟨a,e⟩:∃a:Option Nat,(s.aE+j∈s.M j->a=some (s.aE+j))/\∀b,a=some b->b=s.aE+j/\b∈s.M j:=by
    first
     | exact⟨some (s.aE+j),λ_=>rfl,λb q=>by cases q;exact⟨rfl,k⟩⟩
     | exact⟨none,λq=>(k q).elim,λb q=>by cases q⟩
   obtain⟨fN,m,w,F⟩:=c.same i ez h bX cv cF a e.1
   rw[<-Hp (JP u),d.1]at m
   have G:Perm.X ⟨pm.ah,pm.ok,a⟩ γ J:=by
    intro b q;obtain⟨rfl,_⟩:=e.2 b q;have:=c.hc;have:=h.lt;refine⟨by omega,?_,?_⟩
    ·cases b:γ (s.aE+j) with
     | none=>rfl
     | some L=>exact(h.hN (c.known j h.lt L b).1).elim
    ·simp only[Perm.may,cg];rw[decide_eq_true (show pm.ah<=s.aE+j by omega)];rfl
   refine .inl ((xO c.step.rel G c.kI y (s.Q j) m).done g Q λl _ ao H z=>?_)
   refine r _ fN l _ ao (c.other i p h n w F ?_ z e.2)
   rw[d.2]
   exact(c.kI.mono z.ext).put (λt f=>v t (d.2▸f)) H
 ·rw[vy c.kI o (x.trans bX.2),if_pos rfl];obtain⟨m,F⟩:=c.swap i (λb n=>ez b (by omega)) h bX p;have q:∀k:Perm,k.num=none->(∀b,b<(s.bI j).next->k.may b=true->pm.may b=true)->(s.D j).op.run K k (s.E j) (s.bI j)=some (s.V j,s.bI (j+1))->(s.Q j).wp P a w g Q:=by
   intro k a G w;rw[<-MX (JP u),d.1]at w;refine Ax B m.rel a c.kI y (s.Q j) (BW o) w g Q λl _ ao I A=>?_
   have J:=A.weaken m.rel G λb e=>by rw[a]at e;cases e
   refine r _ _ l _ ao (c.call i h bX F m ?_ J C);rw[d.2];exact(c.kI.mono A.ext).put (λt f=>v t (d.2▸f)) I
  rcases cF with⟨dw,gZ,qo⟩ | ⟨dw,gZ,qo⟩
  ·exact .inl (q ⟨pm.ah,pm.ok,none⟩ rfl (λb _ h=>h) qo)
  ·refine .inl (q ⟨(s.bI j).next,s.M j,none⟩ rfl (λb n a=>?_) qo);simp only[Perm.may,cg,decide_eq_false (Nat.not_le.2 n),cond_false]at a;have a:b∈s.M j:=by simpa using a
   rw[gZ]at a;have:=HQ a;exact this
end dQ
def j8:List Bool->Nat
 | []=>0
 | true::l=>j8 l
 | false::l=>j8 l+1
theorem Jl:∀{l:List Bool} {i:Nat},l[i]? = some false->j8 (l.set i true)+1=j8 l
 | [],i,h=>by simp at h
 | b::l,0,h=>by
   simp only[fI,ax]at h;subst h;rfl
 | b::l,i+1,h=>by
   have:=Jl (l:=l) (i:=i) (by simpa using h);cases b<;>simp only[List.set_cons_succ,j8]<;>omega
theorem Jm:∀{l:List Bool} {i:Nat},j8 l=0->l[i]? = some false->False
 | [],i,_,h=>by simp at h
 | b::l,0,a,h=>by
   simp only[fI,ax]at h;subst h;simp[j8]at a
 | b::l,i+1,a,h=>by
   cases b
   ·simp[j8]at a
   ·exact Jm (l:=l) (i:=i) (by simpa [j8]using a) (by simpa using h)
theorem Jk:∀N,j8 (List.replicate N false)=N
 | 0=>rfl
 | N+1=>by simp[List.replicate_succ,j8,Jk N]
theorem Ho{a:Array Oper}(b:nS a=true){j:Nat}{o:Oper}(c:a[j]? = some o){e:Edge}(a:e∈o.after)(d:Region.binds .any e=true):e.on<j:=by
 simp only[nS,eD]at b;have:=b (o,j) (by rw[CB];simpa using c);simp only[CA,ir,iq,df]at this;exact(this e a).resolve_left (by simp[d])
theorem OV{al:List aw}{b:List Nat}{x:Nat×aw}(h:x∈b7 al b):al[x.1]? = some x.2/\x.1∈b:=by
 unfold b7 at h;obtain⟨i,c,h⟩:=List.mem_filterMap.1 h
 cases a:al[i]? with
 | none=>rw[a]at h;cases h
 | some _=>
   rw[a]at h;simp only[gL,ax]at h;subst h;exact⟨a,c⟩
theorem OW{al:List aw}{c:List Nat}(h:c.Nodup):(b7 al c).Pairwise λx y=>x.1≠y.1:=by
 unfold b7;rw[List.pairwise_filterMap];refine List.Pairwise.imp ?_ h;intro i j f x a y b
 cases d:al[i]? with
 | none=>rw[d]at a;cases a
 | some _=>
   cases e:al[j]? with
   | none=>rw[e]at b;cases b
   | some _=>
     rw[d]at a;rw[e]at b;simp only[gL,ax]at a b;subst a;subst b;exact f
theorem HG{cK:Nat->Nat->Bool}{all:List (Nat×aw)}:∀(a:List (Nat×aw)) (j p:Nat) (y:Nat×aw),a[p]? = some y->(rR cK all a j).getD p false=true->rS cK y.1 (j+p) all 0=true
 | [],j,p,y,h,_=>by simp at h
 | _::a,j,0,y,h,b=>by
   simp only[fI,ax]at h;subst h;simpa [rR]using b
 | _::a,j,p+1,y,h,b=>by
   have:=HG (cK:=cK) (all:=all) a (j+1) p y (by simpa using h) (by simpa [rR]using b);rwa [show j+1+p=j+(p+1) by omega]at this
theorem HH{cK:Nat->Nat->Bool}{b j:Nat}:∀(xs:List (Nat×aw)) (i q:Nat) (x:Nat×aw),xs[q]? = some x->rS cK b j xs i=true->i+q≠j->vw x.2=true->(i+q<j->cK x.1 b=true)/\(j<i+q->cK b x.1=true)
 | [],i,q,x,h,_,_,_=>by simp at h
 | _::xs,i,0,x,h,a,c,d=>by
   simp only[fI,ax]at h;subst h;simp only[rS,b3,ir,Nat.beq_eq,iq,d,fG]at a;have a:=a.1.resolve_left (λq=>q.elim (λq=>c (by omega)) (λq=>by cases q));rw[Nat.add_zero]at*
   refine⟨λq=>?_,λq=>?_⟩
   ·simpa [q]using a
   ·simpa [show ¬i<j by omega]using a
 | _::xs,i,q+1,x,h,a,_,b=>by
   simp only[rS,b3]at a;have:=HH xs (i+1) q x (by simpa using h) a.2 (by omega) b;rwa [show i+1+q=i+(q+1) by omega]at this
theorem IX{l:List Rec}{aE:Nat}:∀(a:List Rec) (i q:Nat) (r:Rec),a[q]? = some r->cd l aE a i=true->∀p,p<l.length->aE+p∈r.pe->p≠i+q->p<i+q/\∃x,l[p]? = some x/\aE+p∈x.lL
 | [],i,q,r,h,_,_,_,_,_=>by simp at h
 | _::a,i,0,r,h,b,p,_,c,_=>by
   simp only[fI,ax]at h;subst h;simp only[cd,b3,eD]at b;have:=b.1 (aE+p) c;simp only[ir,fG,cg,cC,df,b3]at this
   rcases this with((q | q) | q) | ⟨q,xZ⟩
   ·omega
   ·omega
   ·omega
   ·refine⟨by omega,?_⟩;rw[show aE+p-aE=p by omega]at xZ;split at xZ
    ·rename_i x d;exact⟨x,d,by simpa using xZ⟩
    ·cases xZ
 | _::a,i,q+1,r,h,b,p,c,e,_=>by
   simp only[cd,b3]at b;have:=IX a (i+1) q r (by simpa using h) b.2 p c e (by omega);rwa [show i+1+q=i+(q+1) by omega]at this
theorem K1{a:ad->Option Value}{v:Value}{H:ad}(h:pK a v H=true):∃u,a H=some u/\ku u v=true:=by
 unfold pK at h;split at h
 ·rename_i u b;exact⟨u,b,h⟩
 ·cases h
end Go.Dam
