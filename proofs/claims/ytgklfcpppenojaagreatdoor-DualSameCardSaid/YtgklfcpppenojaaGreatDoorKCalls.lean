/- The self-test returns true. -/
import Derived.Test.YtgklfcpppenojaaGreatDoorKSnd
import Derived.Lib.LaidTab
namespace Go.Dam.Tab
open Go Go.Dam Go.Proofs Go.RowKit
set_option maxRecDepth 1000000
def zv:List Int:=[1,10,100,1000,10000,100000,1000000,10000000,100000000,1000000000,10000000000,100000000000,1000000000000,10000000000000,100000000000000,1000000000000000,10000000000000000,100000000000000000,1000000000000000000,10000000000000000000]
theorem I1:Tryz.prog.globalNamed "internal/strconv.uint64pow10"=some 1:=by kernel_rfl
theorem av9{r:Option (Value×ah)}(h:okB r=true):∃H',r=some (.bool true,H'):=by
 unfold okB at h;split at h
 ·rename_i H';exact⟨H',rfl⟩
 ·cases h
def gO:bo:=λb=>if b=1 then some ⟨1,0,0,0⟩ else none
theorem qq{b:Nat}{L:Dam.Loc}(h:gO b=some L):b=1/\L=⟨1,0,0,0⟩:=by
 unfold gO at h;split at h
 ·simp only[a6]at h;exact⟨by assumption,h.symm⟩
 ·cases h
theorem B6(b:Nat):H0.get b=if b=1 then some (.ro E') else none:=by
 show((cI.ak:cI cj).set (.ro E') 1).get b=_;rw[cI.pb];by_cases h:b=1
 ·rw[bm h,bm h]
 ·rw[aU h,aU h];rfl
theorem Xr:E'=zv.map λz=>Value.int .u64 z:=by rfl
theorem awa(W:World)(bK:Lib.TabIs Tryz.prog W "internal/strconv.uint64pow10" .u64 zv):
 Calls Tryz.prog 4 #[] W λe w'=>e=.returned (.bool true)/\Below W.heap.size W w':=by
 obtain⟨elem,cz,HR⟩:∃elem cz,W.heap[1]? = some (.cells (zv.map λz=>Value.int .u64 z).toArray elem cz):=by
  unfold Lib.TabIs World.var? at bK;rw[I1]at bK;simp only[bZo]at bK;split at bK
  ·rename_i cs e f c9;simp only[a6]at bK;subst bK;exact⟨e,f,c9⟩
  ·cases bK
 have tT:Rel sv 0 gO H0 W:=by
  refine⟨λb L h=>?_,λb L h=>?_,λb h=>?_,λb b' L L' h gJ r r' q=>?_,λb L h r=>?_,Nat.zero_le _⟩
  ·obtain⟨rfl,rfl⟩:=qq h;refine⟨.ro E',by rw[B6,bm rfl],⟨(ic.1 HR).1,λb L h r=>?_⟩,_,elem,cz,HR,rfl,?_,λi v ad=>?_⟩
   ·obtain⟨rfl,_⟩:=qq h;rw[B6,bm rfl]at r;exact r.elim
   ·rw[Xr];simp
   ·rw[Xr]at ad;refine⟨v,by simpa using ad,?_⟩;rw[bZE]at ad
    cases bl:zv[i]? with
    | none=>rw[bl]at ad;cases ad
    | some z=>rw[bl]at ad;simp only[bZs,a6]at ad;subst ad;exact .int _ _
  ·obtain⟨rfl,_⟩:=qq h;show 1<2;omega
  ·rw[B6,aU];have:2<=b:=h;omega
  ·obtain⟨rfl,_⟩:=qq h;rw[B6,bm rfl]at r;exact r.elim
  ·obtain⟨rfl,_⟩:=qq h;rw[B6,bm rfl]at r;exact r.elim
 have bA:hH h2 gO:=by
  intro g aK;have U:g=1:=by
   simp only[h2,ed,eh]at aK;exact aK
  subst U;exact⟨⟨1,0,0,0⟩,rfl,rfl,rfl⟩
 obtain⟨H',e7⟩:=av9 top;have aB:=awb ⟨0,[],none⟩ 4 [] H0 (.bool true) H' rfl e7 0 gO W #[] tT bA .nil;have af:(callFunc 4 #[]).run Tryz.prog W=.ok (.enter 4 #[]) W:=by simp[callFunc,Tryz.func4];rfl
 rcases aB with⟨_,h⟩ | ⟨v,w',h,_⟩
 ·refine h.mono λen w' ⟨bk,v',U,aa,aq⟩=>⟨?_,aq.os,aq.tape,aq.output,aq.grow,λc af=>aq.bT c af λb L ai r=>?_⟩
  ·rw[U,aa.qf]
  ·obtain⟨rfl,_⟩:=qq ai;rw[B6,bm rfl]at r;exact r.elim
 ·rw[af]at h;cases h
end Go.Dam.Tab
