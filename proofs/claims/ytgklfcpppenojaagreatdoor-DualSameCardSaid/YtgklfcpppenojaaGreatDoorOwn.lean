/- The call returns true. -/
import Derived.Test.YtgklfcpppenojaaGreatDoorBodies
import Derived.Test.YtgklfcpppenojaaGreatDoorLawD
namespace Go.Dam.C
open Go Go.Dam Go.Proofs Go.RowKit Go.Dam.Tab
set_option maxRecDepth 1000000
theorem aFQ{f:FuncId}{args:List Value}{dR:Array Value}{R:Value->ah->Prop}{W:World}{γ:bo}{H:ah}{v:Value}(h:In iG (λ_=>True) W γ H)(af:Call DY ⟨0,[],none⟩ f args H R)(dD:∀r H,R r H->r=v)(aN:cm γ args dR.toList)
 (aw:∀γ v',bg γ v v'->v'=v) (he:(callFunc f dR).run Tryz.prog W=.ok (.enter f dR) W):
 Calls Tryz.prog f dR W λe w'=>e=.returned v/\Below W.heap.size W w':=by
 obtain⟨r,H',⟨N,e7⟩,cg⟩:=af;obtain rfl:=dD r H' cg;have bA:hH h2 γ:=by
  intro g aK;obtain rfl:=as2 g aK;obtain⟨L,g1,g2,g3⟩:=h.FE;exact⟨L,g1,g2,g3⟩
 have aB:=aFP N N ⟨0,[],none⟩ f args H r H' rfl (e7 N N (bR _) (bR _)) 0 γ W dR h.rel bA aN
 rcases aB with⟨_,aB⟩ | ⟨v,w',aB,_⟩
 ·refine aB.mono λen w' ⟨bk,v',U,aa,aq⟩=>⟨?_,aq.os,aq.tape,aq.output,aq.grow,λc af=>aq.bT c af λb L ai r=>(h.ro b r).elim⟩;rw[U,aw _ _ aa]
 ·rw[he]at aB;cases aB
theorem aw9{W:World}(bK:Lib.TabIs Tryz.prog W "internal/strconv.uint64pow10" .u64 zv){yz:Value}(kH:I5 W yz):
 Calls Tryz.prog 3 #[yz] W λe w'=>e=.returned (.bool true)/\Below W.heap.size W w':=by
 obtain⟨e,cz,c9⟩:∃elem cz,W.heap[1]? = some (.cells Dl elem cz):=by
  unfold Lib.TabIs World.var? at bK;rw[I1]at bK;simp only[bZo]at bK;split at bK
  ·rename_i cs e f c9;simp only[a6]at bK;subst bK;exact⟨e,f,c9⟩
  ·cases bK
 obtain⟨ayV,c0⟩:=kH.lift (O:=iG);obtain⟨γ0,H0,v0,i0,m0,sc,fw,t0⟩:=c0 _ _ (In.start (O:=iG) (N:=λ_=>True) (λ_ h=>⟨rfl,h,e,cz,c9⟩) c9 trivial);have aK:cl ⟨0,[],none⟩ H0:=⟨i0.ok,i0.fJ⟩;have cYx:=t0;have af:=cZJ cYw aK cYx;exact aFQ (f:=3) (args:=[v0]) (dR:=#[yz]) i0 af (λr H h=>h.2) (.cons fw .nil) (λγ v' h=>h.qf) (by simp[callFunc,Tryz.func3];rfl)
end Go.Dam.C
