/- The evaluators are sound. -/
import Derived.Test.YtcdpdaildggfiaaGreatDoorKTop
import Derived.Test.YtcdpdaildggfiaaGreatDoorTabOk
import Derived.Test.YtcdpdaildggfiaaGreatDoorSnd
namespace Go.Dam.Tab
open Go Go.Dam Go.Proofs Go.Proofs.YtcdpdaildggfiaaGreatDoor
set_option maxRecDepth 1000000
theorem eP{K:bY}{f:Nat}:∀{l:List (Nat×List ch)},eH K l=true->∀E∈(look f l).o,E.ok K f=true
 | [],_,E,a=>nomatch a
 | x::l,h,E,a=>by
   simp only[eH,nc,b3]at h;have a:E∈@Bool.rec (λ_=>List ch) (look f l).o x.2 (Nat.beq f x.1):=a
   cases b:Nat.beq f x.1 with
   | false=>rw[b]at a;exact eP h.2 E a
   | true=>
     rw[b]at a;rw[cC,df]at b;rw[b];exact eD.1 h.1 E a
theorem fy{K:bY}{f:Nat}{l r:List ch}(h:∀E∈l,E.ok K f=true)(t:∀E∈r,E.ok K f=true):∀E∈l++r,E.ok K f=true:=λE a=>(l2.1 a).elim (h E) (t E)
theorem I1(f:Nat):∀E∈(I0 f).o,E.ok rh f=true:=(fy (fy (eP Px) (eP Py)) (eP Pz))
theorem Qx(f:Nat):∀E∈(I2 f).o,E.ok eZ f=true:=(fy (fy (fy (fy (fy (fy (fy (fy (fy (fy (fy (fy (fy (fy (fy (fy (fy (fy (fy (fy (fy (fy (fy (eP PA) (eP PB)) (eP PC)) (eP PD)) (eP PE)) (eP PF)) (eP PG)) (eP PH)) (eP PI)) (eP PJ)) (eP PK)) (eP PL)) (eP PM)) (eP PN)) (eP PO)) (eP PQ)) (eP PR)) (eP PS)) (eP PT)) (eP PU)) (eP PV)) (eP PW)) (eP PX)) (eP PY))
def lN:b0:=⟨λ_ _ _ _=>False,λh _=>h.elim⟩
theorem mixed:Tryz.prog.follows .mixedOrders=true:=by kernel_rfl
theorem Lq:zr Tryz.prog sb zq:=by
 intro f F h;have:=Td.get (k:=f) (F:=F) h;rwa [Nat.one_mul,Nat.zero_add]at this
theorem Te:zr Tryz.prog eR Ge:=by
 intro f F h;have:=Tb.get (k:=f) (F:=F) h;rwa [Nat.one_mul,Nat.zero_add]at this
theorem zn{G:Nat->Bool}{K:bY}(j:dK lN Tryz.prog G K):dK lN Tryz.prog G (wj K):=by
 have k:=B4 j (eS:=λf=>(fz f).o) (λf g a=>by
  simp only[fz,cC]at a;by_cases d:f=361
  ·subst d;simp only[decide_true,cond_true,ax]at a;subst a;exact HM
  simp only[d,decide_false,cond_false]at a;by_cases e:f=265
  ·subst e;simp only[decide_true,cond_true,ax]at a;subst a;exact OD
  simp only[e,decide_false,cond_false]at a;by_cases h:f=222
  ·subst h;simp only[decide_true,cond_true,ax]at a;subst a;exact OE
  simp only[h,decide_false,cond_false]at a;by_cases i:f=190
  ·subst i;simp only[decide_true,cond_true,ax]at a;subst a;exact OF
  simp only[i,decide_false,cond_false,reduceCtorEq]at a)
 have l:wj K=λb f c H=>match (fz f).o with | some g=>g b c H | none=>K b f c H:=by
  funext b f c H;show @Option.rec _ (λ_=>Option (Value×ad)) (K b f c H) (λg=>g b c H) (fz f).o=_;cases (fz f).o<;>rfl
 rw[l];exact k
theorem BL{G:Nat->Bool}{c:bY}(d:dK lN Tryz.prog sb c){iY:Nat->tj}(e:∀f,∀E∈(iY f).o,E.ok c f=true){S:bY->bY}(c:∀K,dK lN Tryz.prog G K->dK lN Tryz.prog G (S K)):∀K,dK lN Tryz.prog G K->dK lN Tryz.prog G (xz iY S K):=by
 intro K g;have h:=Qy (c K g) d (iY:=λf=>(iY f).o) e;have i:xz iY S K=λb f a H=>match (iY f).o with | []=>S K b f a H | es=>(match ch.apply es a H with | some r=>some r | none=>S K b f a H):=by
  funext b f a H;show @List.rec ch (λ_=>Option (Value×ad)) (S K b f a H) (λ_ _ _=>@Option.rec (Value×ad) (λ_=>Option (Value×ad)) (S K b f a H) (λr=>some r) (ch.apply (iY f).o a H)) (iY f).o=_
  cases j:(iY f).o with
  | nil=>rfl
  | cons E l=>
    show @Option.rec (Value×ad) (λ_=>Option (Value×ad)) (S K b f a H) (λr=>some r) (ch.apply (E::l) a H)=(match ch.apply (E::l) a H with | some r=>some r | none=>S K b f a H);cases ch.apply (E::l) a H<;>rfl
 rw[i];exact h
theorem FQ:dK lN Tryz.prog sb rh:=by
 unfold rh;rw[yn];exact sP (ue mixed) Lq (λ_ a=>zn a) 40
theorem Mx:dK lN Tryz.prog sb eZ:=by
 unfold eZ;rw[yn];exact sP (ue mixed) Lq (BL FQ I1 λ_ a=>zn a) 40
theorem My:dK lN Tryz.prog eR ze:=by
 unfold ze;rw[yn];exact sP (ue mixed) Te (BL Mx Qx (BL FQ I1 λ_ a=>zn a)) 60
end Go.Dam.Tab
