/- The evaluators are sound. -/
import Derived.Test.YtgklfcpppenojaaGreatDoorKTop
import Derived.Test.YtgklfcpppenojaaGreatDoorTabOk
import Derived.Test.YtgklfcpppenojaaGreatDoorSnd
namespace Go.Dam.Tab
open Go Go.Dam Go.Proofs Go.Proofs.YtgklfcpppenojaaGreatDoor
set_option maxRecDepth 1000000
theorem h3{K:c8}{f:Nat}:∀{l:List (Nat×List dF)},hN K l=true->∀E∈(look f l).o,E.ok K f=true
 | [],_,E,bz=>nomatch bz
 | x::l,h,E,bz=>by
   simp only[hN,bYm,cG]at h;have bz:E∈@Bool.rec (λ_=>List dF) (look f l).o x.2 (Nat.beq f x.1):=bz
   cases ai:Nat.beq f x.1 with
   | false=>rw[ai]at bz;exact h3 h.2 E bz
   | true=>
     rw[ai]at bz;rw[ed,eh]at ai;rw[ai];exact hz.1 h.1 E bz
theorem jd{K:c8}{f:Nat}{l r:List dF}(h:∀E∈l,E.ok K f=true)(t:∀E∈r,E.ok K f=true):∀E∈l++r,E.ok K f=true:=λE bz=>(bYv.1 bz).elim (h E) (t E)
theorem XY(f:Nat):∀E∈(XS f).o,E.ok vQ f=true:=(jd (jd (h3 awc) (h3 awd)) (h3 awe))
theorem axb(f:Nat):∀E∈(XU f).o,E.ok iw f=true:=(jd (jd (jd (jd (jd (jd (jd (jd (jd (jd (jd (jd (jd (jd (jd (jd (jd (jd (jd (jd (jd (jd (jd (h3 awf) (h3 awg)) (h3 awh)) (h3 awi)) (h3 awj)) (h3 awk)) (h3 awl)) (h3 awm)) (h3 awn)) (h3 awo)) (h3 awp)) (h3 awq)) (h3 awr)) (h3 aws)) (h3 awt)) (h3 awu)) (h3 awv)) (h3 aww)) (h3 awx)) (h3 awy)) (h3 awz)) (h3 awA)) (h3 awB)) (h3 awC))
def sv:da:=⟨λ_ _ _ _=>False,λh _=>h.elim⟩
theorem mixed:Tryz.prog.follows .mixedOrders=true:=by kernel_rfl
theorem XZ:NJ Tryz.prog B8 NW:=by
 intro f F h;have:=axc.get (k:=f) (F:=F) h;rwa [Nat.one_mul,Nat.zero_add]at this
theorem axd:NJ Tryz.prog h2 Xq:=by
 intro f F h;have:=axe.get (k:=f) (F:=F) h;rwa [Nat.one_mul,Nat.zero_add]at this
theorem N6{G:Nat->Bool}{K:c8}(db:fT sv Tryz.prog G K):fT sv Tryz.prog G (IZ K):=by
 have h:=N7 db (ov:=λf=>(jc f).o) (λf g aK=>by
  simp only[jc,ed]at aK;by_cases U:f=341
  ·subst U;simp only[decide_true,cond_true,a6]at aK;subst aK;exact X0
  simp only[U,decide_false,cond_false]at aK;by_cases aa:f=264
  ·subst aa;simp only[decide_true,cond_true,a6]at aK;subst aK;exact axf
  simp only[aa,decide_false,cond_false]at aK;by_cases aq:f=232
  ·subst aq;simp only[decide_true,cond_true,a6]at aK;subst aK;exact axg
  simp only[aq,decide_false,cond_false]at aK;by_cases a8:f=189
  ·subst a8;simp only[decide_true,cond_true,a6]at aK;subst aK;exact axh
  simp only[a8,decide_false,cond_false,reduceCtorEq]at aK)
 have e:IZ K=λlo f args H=>match (jc f).o with | some g=>g lo args H | none=>K lo f args H:=by
  funext lo f args H;show @Option.rec _ (λ_=>Option (Value×ah)) (K lo f args H) (λg=>g lo args H) (jc f).o=_;cases (jc f).o<;>rfl
 rw[e];exact h
theorem N8{G:Nat->Bool}{X1:c8}(axi:fT sv Tryz.prog B8 X1){oH:Nat->E9}(hm:∀f,∀E∈(oH f).o,E.ok X1 f=true){S:c8->c8}(fk:∀K,fT sv Tryz.prog G K->fT sv Tryz.prog G (S K)):∀K,fT sv Tryz.prog G K->fT sv Tryz.prog G (I0 oH S K):=by
 intro K db;have h:=axj (fk K db) axi (oH:=λf=>(oH f).o) hm;have e:I0 oH S K=λlo f args H=>match (oH f).o with | []=>S K lo f args H | es=>(match dF.apply es args H with | some r=>some r | none=>S K lo f args H):=by
  funext lo f args H;show @List.rec dF (λ_=>Option (Value×ah)) (S K lo f args H) (λ_ _ _=>@Option.rec (Value×ah) (λ_=>Option (Value×ah)) (S K lo f args H) (λr=>some r) (dF.apply (oH f).o args H)) (oH f).o=_
  cases aV:(oH f).o with
  | nil=>rfl
  | cons E l=>
    show @Option.rec (Value×ah) (λ_=>Option (Value×ah)) (S K lo f args H) (λr=>some r) (dF.apply (E::l) args H)=(match dF.apply (E::l) args H with | some r=>some r | none=>S K lo f args H);cases dF.apply (E::l) args H<;>rfl
 rw[e];exact h
theorem X2:fT sv Tryz.prog B8 vQ:=by
 unfold vQ;rw[Ib];exact BZ (Em mixed) XZ (λK db=>N6 db) 40
theorem axk:fT sv Tryz.prog B8 iw:=by
 unfold iw;rw[Ib];exact BZ (Em mixed) XZ (N8 X2 XY λK db=>N6 db) 40
theorem awb:fT sv Tryz.prog h2 N2:=by
 unfold N2;rw[Ib];exact BZ (Em mixed) axd (N8 axk axb (N8 X2 XY λK db=>N6 db)) 60
end Go.Dam.Tab
