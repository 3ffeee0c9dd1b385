/- The evaluator over the table. -/
import Derived.Test.YtgklfcpppenojaaGreatDoorTab
import Derived.Test.YtgklfcpppenojaaGreatDoorOvr
import Derived.KernelRfl
namespace Go.Dam.Tab
open Go Go.Dam
set_option maxRecDepth 1000000
open Go.Proofs.YtgklfcpppenojaaGreatDoor
structure av6 where
 o:Option (Perm->List Value->ah->Option (Value×ah))
def jc(f:Nat):av6:=⟨bif Nat.beq f 341 then some zu else bif Nat.beq f 264 then some NT else bif Nat.beq f 232 then some NU else bif Nat.beq f 189 then some NV else none⟩
noncomputable def IZ(K:c8):c8:=λlo f args H=>@Option.rec (Perm->List Value->ah->Option (Value×ah)) (λ_=>Option (Value×ah)) (K lo f args H) (λg=>g lo args H) (jc f).o
structure E9 where
 o:List dF
noncomputable def I0(oH:Nat->E9)(S:c8->c8)(K:c8):c8:=λlo f args H=>
 @List.rec dF (λ_=>Option (Value×ah)) (S K lo f args H) (λ_ _ _=>@Option.rec (Value×ah) (λ_=>Option (Value×ah)) (S K lo f args H) (λr=>some r) (dF.apply (oH f).o args H)) (oH f).o
noncomputable def look(f:Nat)(l:List (Nat×List dF)):E9:=⟨@List.rec (Nat×List dF) (λ_=>List dF) [] (λx _ r=>@Bool.rec (λ_=>List dF) r x.2 (Nat.beq f x.1)) l⟩
noncomputable def hN(K:c8)(l:List (Nat×List dF)):Bool:=l.all λx=>x.2.all λe=>dF.ok K x.1 e
structure Xo where
 o:Option b2
noncomputable def av7(f:Nat):Xo:=⟨fJ.get f⟩
noncomputable def av8(f:Nat):Xo:=⟨Xp.get f⟩
noncomputable def NW(f:Nat):Option b2:=(av7 f).o
noncomputable def Xq(f:Nat):Option b2:=(av8 f).o
def okB(r:Option (Value×ah)):Bool:=match r with
 | some (.bool true,_)=>true
 | _=>false
def E':List Value:=[.int .u64 (.ofNat 1),.int .u64 (.ofNat 10),.int .u64 (.ofNat 100),.int .u64 (.ofNat 1000),.int .u64 (.ofNat 10000),.int .u64 (.ofNat 100000),.int .u64 (.ofNat 1000000),.int .u64 (.ofNat 10000000),.int .u64 (.ofNat 100000000),.int .u64 (.ofNat 1000000000),.int .u64 (.ofNat 10000000000),.int .u64 (.ofNat 100000000000),.int .u64 (.ofNat 1000000000000),.int .u64 (.ofNat 10000000000000),.int .u64 (.ofNat 100000000000000),.int .u64 (.ofNat 1000000000000000),.int .u64 (.ofNat 10000000000000000),.int .u64 (.ofNat 100000000000000000),.int .u64 (.ofNat 1000000000000000000),.int .u64 (.ofNat 10000000000000000000)]
def H0:ah:=⟨(cI.ak:cI cj).set (.ro E') 1,2⟩
noncomputable def vQ:c8:=Ev NW IZ 100000 40
@[reducible] def P(n:Nat):Value:=.pointer (some ⟨n,0,none⟩)
@[reducible] def w(n:Nat):Value:=.int .u32 (.ofNat n)
@[reducible] def S(b n c:Nat):Value:=.slice (some ⟨b,0,none⟩) n c
@[reducible] def s(l:List UInt8):Value:=.string ⟨l.toArray⟩
@[reducible] def fF:Value:=.bool false
@[reducible] def dK:Value:=.bool true
def bG:List Value:=[P 0,P 1]
def NX(g a b:Nat):cj:=.cells [.bool (Nat.beq g 1),P a,P b] (.t 104)
def B4(i:Nat)(a:Nat×List Nat):cj:=.cells [S i a.1 a.2.length] (.t 203)
def B5(a:Nat×List Nat):cj:=.cells (a.2.map w) (.n 1)
def b9(g h:Nat)(a b c d:Nat×List Nat):List cj:=[NX g 2 3,NX h 4 5,B4 6 a,B4 7 b,B4 8 c,B4 9 d,B5 a,B5 b,B5 c,B5 d]
def cR(g:Nat)(a b:Nat×List Nat):List cj:=[NX g 1 2,B4 3 a,B4 4 b,B5 a,B5 b]
def cF(n g a b:Nat):Nat×List Value×dI:=(n,[.bool (Nat.beq g 1),P a,P b],.t 104)
def bV(n i l c:Nat):Nat×List Value×dI:=(n,[S i l c],.t 203)
def bW(n:Nat)(l:List Nat):Nat×List Value×dI:=(n,l.map w,.n 1)
end Go.Dam.Tab
