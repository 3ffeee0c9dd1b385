/- The self-test returns true. -/
import Derived.Test.YtcdpdaildggfiaaGreatDoorKSnd
import Derived.Lib.LaidTab
namespace Go.Dam.Tab
open Go Go.Dam Go.Proofs Go.RowKit
set_option maxRecDepth 1000000
def q4:List Int:=[1,10,100,1000,10000,100000,1000000,10000000,100000000,1000000000,10000000000,100000000000,1000000000000,10000000000000,100000000000000,1000000000000000,10000000000000000,100000000000000000,1000000000000000000,10000000000000000000]
theorem xj:Tryz.prog.globalNamed "internal/strconv.uint64pow10"=some 1:=by kernel_rfl
theorem QV{r:Option (Value×ad)}(h:okB r=true):∃aa,r=some (.bool true,aa):=by
 unfold okB at h;split at h
 ·rename_i aa;exact⟨aa,rfl⟩
 ·cases h
def mi:aL:=λb=>if b=1 then some ⟨1,0,0,0⟩ else none
theorem kz{b:Nat}{L:Dam.Loc}(h:mi b=some L):b=1/\L=⟨1,0,0,0⟩:=by
 unfold mi at h;split at h
 ·simp only[ax]at h;exact⟨by assumption,h.symm⟩
 ·cases h
theorem rV(b:Nat):aj.get b=if b=1 then some (.ro uR) else none:=by
 show((bG.ag:bG bk).set (.ro uR) 1).get b=_;rw[bG.jw];by_cases h:b=1
 ·rw[aT h,aT h]
 ·rw[aC h,aC h];rfl
theorem Kf:uR=q4.map λz=>Value.int .u64 z:=by rfl
theorem Nl(W:World)(b:Lib.TabIs Tryz.prog W "internal/strconv.uint64pow10" .u64 q4):
 Calls Tryz.prog 4 #[] W λe ao=>e=.returned (.bool true)/\Below W.heap.size W ao:=by
 obtain⟨d,f,i⟩:∃d f,W.heap[1]? = some (.cells (q4.map λz=>Value.int .u64 z).toArray d f):=by
  unfold Lib.TabIs World.var? at b;rw[xj]at b;simp only[fJ]at b;split at b
  ·rename_i _ e j k;simp only[ax]at b;subst b;exact⟨e,j,k⟩
  ·cases b
 have l:Rel lN 0 mi aj W:=by
  refine⟨λc L h=>?_,λc L h=>?_,λc h=>?_,λc _ L _ h _ r _ _=>?_,λc L h r=>?_,Nat.zero_le _⟩
  ·obtain⟨rfl,rfl⟩:=kz h;refine⟨.ro uR,by rw[rV,aT rfl],⟨(e'.1 i).1,λc L h r=>?_⟩,_,d,f,i,rfl,?_,λm v a=>?_⟩
   ·obtain⟨rfl,_⟩:=kz h;rw[rV,aT rfl]at r;exact r.elim
   ·rw[Kf];simp
   ·rw[Kf]at a;refine⟨v,by simpa using a,?_⟩;rw[iw]at a
    cases e:q4[m]? with
    | none=>rw[e]at a;cases a
    | some z=>rw[e]at a;simp only[gL,ax]at a;subst a;exact .int _ _
  ·obtain⟨rfl,_⟩:=kz h;show 1<2;omega
  ·rw[rV,aC];have:2<=c:=h;omega
  ·obtain⟨rfl,_⟩:=kz h;rw[rV,aT rfl]at r;exact r.elim
  ·obtain⟨rfl,_⟩:=kz h;rw[rV,aT rfl]at r;exact r.elim
 have n:eF eR mi:=by
  intro c a;have e:c=1:=by
   simp only[eR,cC,df]at a;exact a
  subst e;exact⟨⟨1,0,0,0⟩,rfl,rfl,rfl⟩
 obtain⟨o,p⟩:=QV top;have q:=My ⟨0,[],none⟩ 4 [] aj (.bool true) o rfl p 0 mi W #[] l n .nil;have g:(callFunc 4 #[]).run Tryz.prog W=.ok (.enter 4 #[]) W:=by simp[callFunc,Tryz.func4];rfl
 rcases q with⟨_,h⟩ | ⟨v,ao,h,_⟩
 ·refine h.mono λ_ ao ⟨_,_,c,e,a⟩=>⟨?_,a.os,a.tape,a.output,a.grow,λm g=>a.u m g λ_ _ s r=>?_⟩
  ·rw[c,e.jP]
  ·obtain⟨rfl,_⟩:=kz s;rw[rV,aT rfl]at r;exact r.elim
 ·rw[g]at h;cases h
end Go.Dam.Tab
