/- The call returns true. -/
import Derived.Test.YtijpgkogfmpeoaaGreatDoorBodies
import Derived.Test.YtijpgkogfmpeoaaGreatDoorLawD
namespace Go.Dam.C
open Go Go.Dam Go.Proofs Go.RowKit Go.Dam.Tab
set_option maxRecDepth 1000000
theorem aFQ{f:FuncId}{args:List Value}{dR:Array Value}{R:Value→ah→Prop}{W:World}{γ:bo}{H:ah}{v:Value}(h:In iG (fun _=>True) W γ H)(af:Call DY ⟨0,[],none⟩ f args H R)(dD:∀r H,R r H→r=v)(aN:cm γ args dR.toList)
 (aw:∀γ v',bg γ v v'→v'=v) (he:(callFunc f dR).run Tryz.prog W=.ok (.enter f dR) W):
 Calls Tryz.prog f dR W fun e w'=>e=.returned v∧Below W.heap.size W w':=by
 obtain⟨r,H',⟨N,e7⟩,cg⟩:=af;obtain rfl:=dD r H' cg;have bA:hH h2 γ:=by
  intro g aK;obtain rfl:=as2 g aK;obtain⟨L,g1,g2,g3⟩:=h.FE;exact⟨L,g1,g2,g3⟩
 have aB:=aFP N N ⟨0,[],none⟩ f args H r H' rfl (e7 N N (bR _) (bR _)) 0 γ W dR h.rel bA aN
 rcases aB with⟨_,aB⟩ | ⟨v,w',aB,_⟩
 ·refine aB.mono fun en w' ⟨bk,v',U,aa,aq⟩=>⟨?_,aq.os,aq.tape,aq.output,aq.grow,fun c af=>aq.bT c af fun b L ai r=>(h.ro b r).elim⟩;rw[U,aw _ _ aa]
 ·rw[he]at aB;cases aB
theorem aw9{W:World}(bK:Lib.TabIs Tryz.prog W "internal/strconv.uint64pow10" .u64 zv){UL UM UN:Value}(cy:I5 W UL)(dd:Fb W UM)(dy:Fb W UN):
 Calls Tryz.prog 3 #[UL,UM,UN] W fun e w'=>e=.returned (.bool true)∧Below W.heap.size W w':=by
 obtain⟨e,cz,c9⟩:∃elem cz,W.heap[1]? = some (.cells Dl elem cz):=by
  unfold Lib.TabIs World.var? at bK;rw[I1]at bK;simp only[Option.bind_some]at bK;split at bK
  ·rename_i cs e f c9;simp only[a6]at bK;subst bK;exact⟨e,f,c9⟩
  ·cases bK
 obtain⟨lp,ck⟩:=cy.lift (O:=iG);obtain⟨a,cJ⟩:=dd.lift (O:=iG);obtain⟨b,eT⟩:=dy.lift (O:=iG);obtain⟨aIQ,aIR,v1,Et,ir,aIS,b4,cx⟩:=ck _ _ (In.start (O:=iG) (N:=fun _=>True) (fun _ h=>⟨rfl,h,e,cz,c9⟩) c9 trivial);obtain⟨aIT,aIU,v2,vC,iM,GU,cB,a2⟩:=cJ _ _ Et;obtain⟨aIV,uW,v3,UO,lc,as5,dh,a3⟩:=eT _ _ vC;have aK:cl ⟨0,[],none⟩ uW:=⟨UO.ok,UO.fJ⟩;have af:=ayb as4 (ayP as4) aK (cx.ext (GU.trans as5)) (a2.ext as5) a3;exact aFQ (f:=3) (args:=[v1,v2,v3]) (dR:=#[UL,UM,UN]) UO af (fun r H h=>h.2) (.cons ((b4.mono iM).mono lc) (.cons (cB.mono lc) (.cons dh .nil))) (fun γ v' h=>h.qf) (by simp[callFunc,Tryz.func3];rfl)
end Go.Dam.C
