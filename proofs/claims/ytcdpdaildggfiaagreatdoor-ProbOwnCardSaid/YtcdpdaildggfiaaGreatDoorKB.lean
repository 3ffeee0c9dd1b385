/- The evaluator over the table. -/
import Derived.Test.YtcdpdaildggfiaaGreatDoorTab
import Derived.Test.YtcdpdaildggfiaaGreatDoorOvr
import Derived.KernelRfl
namespace Go.Dam.Tab
open Go Go.Dam
set_option maxRecDepth 1000000
open Go.Proofs.YtcdpdaildggfiaaGreatDoor
structure MC where
 o:Option (Perm->List Value->ad->Option (Value×ad))
def fz(f:Nat):MC:=⟨bif Nat.beq f 361 then some qi else bif Nat.beq f 265 then some AO else bif Nat.beq f 222 then some AP else bif Nat.beq f 190 then some AQ else none⟩
noncomputable def wj(K:bY):bY:=λa f b H=>@Option.rec (Perm->List Value->ad->Option (Value×ad)) (λ_=>Option (Value×ad)) (K a f b H) (λg=>g a b H) (fz f).o
structure tj where
 o:List ch
noncomputable def xz(iY:Nat->tj)(S:bY->bY)(K:bY):bY:=λb f a H=>
 @List.rec ch (λ_=>Option (Value×ad)) (S K b f a H) (λ_ _ _=>@Option.rec (Value×ad) (λ_=>Option (Value×ad)) (S K b f a H) (λr=>some r) (ch.apply (iY f).o a H)) (iY f).o
noncomputable def look(f:Nat)(l:List (Nat×List ch)):tj:=⟨@List.rec (Nat×List ch) (λ_=>List ch) [] (λx _ r=>@Bool.rec (λ_=>List ch) r x.2 (Nat.beq f x.1)) l⟩
noncomputable def eH(K:bY)(l:List (Nat×List ch)):Bool:=l.all λx=>x.2.all λe=>ch.ok K x.1 e
structure Gd where
 o:Option aZ
noncomputable def Tk(f:Nat):Gd:=⟨dD.get f⟩
noncomputable def Tl(f:Nat):Gd:=⟨Ln.get f⟩
noncomputable def zq(f:Nat):Option aZ:=(Tk f).o
noncomputable def Ge(f:Nat):Option aZ:=(Tl f).o
def okB(r:Option (Value×ad)):Bool:=match r with
 | some (.bool true,_)=>true
 | _=>false
def uR:List Value:=[.int .u64 (.ofNat 1),.int .u64 (.ofNat 10),.int .u64 (.ofNat 100),.int .u64 (.ofNat 1000),.int .u64 (.ofNat 10000),.int .u64 (.ofNat 100000),.int .u64 (.ofNat 1000000),.int .u64 (.ofNat 10000000),.int .u64 (.ofNat 100000000),.int .u64 (.ofNat 1000000000),.int .u64 (.ofNat 10000000000),.int .u64 (.ofNat 100000000000),.int .u64 (.ofNat 1000000000000),.int .u64 (.ofNat 10000000000000),.int .u64 (.ofNat 100000000000000),.int .u64 (.ofNat 1000000000000000),.int .u64 (.ofNat 10000000000000000),.int .u64 (.ofNat 100000000000000000),.int .u64 (.ofNat 1000000000000000000),.int .u64 (.ofNat 10000000000000000000)]
def aj:ad:=⟨(bG.ag:bG bk).set (.ro uR) 1,2⟩
noncomputable def rh:bY:=vj zq wj 100000 40
@[reducible] def P(n:Nat):Value:=.pointer (some ⟨n,0,none⟩)
@[reducible] def w(n:Nat):Value:=.int .u32 (.ofNat n)
@[reducible] def S(b n c:Nat):Value:=.slice (some ⟨b,0,none⟩) n c
@[reducible] def s(l:List UInt8):Value:=.string ⟨l.toArray⟩
@[reducible] def dv:Value:=.bool false
@[reducible] def cm:Value:=.bool true
def bl:List Value:=[P 0,P 1]
def AF(g a b:Nat):bk:=.cells [.bool (Nat.beq g 1),P a,P b] (.t 111)
def r9(i:Nat)(a:Nat×List Nat):bk:=.cells [S i a.1 a.2.length] (.t 206)
def rH(a:Nat×List Nat):bk:=.cells (a.2.map w) (.n 1)
def bO(g h:Nat)(a b c d:Nat×List Nat):List bk:=[AF g 2 3,AF h 4 5,r9 6 a,r9 7 b,r9 8 c,r9 9 d,rH a,rH b,rH c,rH d]
def dA(g:Nat)(a b:Nat×List Nat):List bk:=[AF g 1 2,r9 3 a,r9 4 b,rH a,rH b]
def bD(n g a b:Nat):Nat×List Value×cz:=(n,[.bool (Nat.beq g 1),P a,P b],.t 111)
def a'(n i l c:Nat):Nat×List Value×cz:=(n,[S i l c],.t 206)
def a8(n:Nat)(l:List Nat):Nat×List Value×cz:=(n,l.map w,.n 1)
end Go.Dam.Tab
