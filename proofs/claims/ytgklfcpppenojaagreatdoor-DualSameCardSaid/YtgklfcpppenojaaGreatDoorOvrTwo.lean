/- Functions of the library, as the evaluator takes them. -/
import Derived.Test.YtgklfcpppenojaaGreatDoorKCalls
import Derived.Test.YtgklfcpppenojaaGreatDoorFmt
import Derived.Test.YtgklfcpppenojaaGreatDoorLawD
import Derived.Shelf.Strings.SlTrimAscii
namespace Go.Dam.C
open Go Go.Dam Go.Proofs Go.RowKit Go.Proofs.YtgklfcpppenojaaGreatDoor
set_option maxRecDepth 100000
theorem asX{O:da}(kZ:∀w N b,O.rel w N b (.nat 0)->∃e cz,w.heap[b]? = some (.cells Dl e cz)){base:Nat}{γ:bo}{H:ah}{w:World}(an:Rel O base γ H w)(bA:hH Dam.Tab.h2 γ)(h:qI H=true):Lib.TabIs Tryz.prog w "internal/strconv.uint64pow10" .u64 Dam.Tab.zv:=by
 obtain⟨L,bC,ai,aB⟩:=bA 1 rfl;obtain⟨x,U,aa⟩:=an.bI 1 L bC;rw[abr h]at U;cases U;obtain⟨_,_,aa⟩:=aa;obtain⟨e,cz,hw⟩:=kZ _ _ _ aa;rw[ai]at hw;unfold Lib.TabIs World.var?;rw[Dam.Tab.I1];simp only[bZo,hw];rfl
theorem aFw:∀w N b,nz.rel w N b (.nat 0)->∃e cz,w.heap[b]? = some (.cells Dl e cz):=λ_ _ _ ⟨_,_,h⟩=>h
theorem aFx:∀w N b,iG.rel w N b (.nat 0)->∃e cz,w.heap[b]? = some (.cells Dl e cz):=λ_ _ _ ⟨_,_,h⟩=>h
theorem Hp{O:da}{base:Nat}{pm:Perm}{γ:bo}{H:ah}{w:World}{f:FuncId}{args:Array Value}{v:Value}(an:Rel O base γ H w)(aw:bg γ v v)(he:∃fn,(callFunc f args).run Tryz.prog w=.ok (.enter f args) w/\fn=())
 (af:Calls Tryz.prog f args w λe w'=>e=.returned v/\Below w.heap.size w w'):tI Tryz.prog f args w λen w'=>∃bk v',en=.returned v'/\bg bk v v'/\Step O base pm γ H w bk H w':=by
 obtain⟨_,he,_⟩:=he;exact .inl ⟨he,af.mono λen w' ⟨bn,bh⟩=>⟨γ,_,bn,aw,Step.below an bh⟩⟩
theorem aFy:gY nz Tryz.prog Dam.Tab.h2 341 C.zu:=X0
theorem aFz:gY iG Tryz.prog Dam.Tab.h2 4 Fu:=by
 intro pm args H v H' _ h base γ w dR an bA aN;unfold Fu at h;split at h
 ·cases aS:qI H with
  | false=>rw[aS]at h;cases h
  | true=>
    rw[aS]at h;simp only[cond_true,a6,c2]at h;obtain⟨rfl,rfl⟩:=h;obtain⟨l⟩:=dR;cases aN;exact Hp an (.bool _) ⟨(),by simp[callFunc,Tryz.func4];rfl,rfl⟩ (Dam.Tab.awa w (asX aFx an bA aS))
 ·cases h
theorem aFA:gY nz Tryz.prog Dam.Tab.h2 119 DV:=by
 intro pm args H v H' _ h base γ w dR an bA aN;unfold DV at h;split at h
 ·rename_i u b
  cases af:(jO b 10&&(Nat.blt u 18446744073709551616&&qI H)) with
  | false=>rw[af]at h;cases h
  | true=>
    rw[af]at h;simp only[cond_true,a6,c2]at h;obtain⟨rfl,rfl⟩:=h;simp only[cG,js,eh,sd,bYd]at af;obtain⟨rfl,dd,dy⟩:=af;obtain⟨l⟩:=dR
    cases aN with
    | cons U aa=>
      cases aa with
      | cons aq a8=>
        cases a8;rw[U.gC,aq.gC];exact Hp an (.str _) ⟨(),by simp[callFunc,Tryz.func119];rfl,rfl⟩ (Tryz.fmt u dd w (asX aFw an bA dy))
 ·cases h
theorem aFB:gY nz Tryz.prog Dam.Tab.h2 120 DW:=by
 intro pm args H v H' _ h base γ w dR an bA aN;unfold DW at h;split at h
 ·rename_i s c
  cases af:(Nat.ble c 1000&&Nat.ble s.size 1000) with
  | false=>rw[af]at h;cases h
  | true=>
    rw[af]at h;simp only[cond_true,a6,c2]at h;obtain⟨rfl,rfl⟩:=h;simp only[cG,dA,eh]at af;obtain⟨l⟩:=dR
    cases aN with
    | cons U aa=>
      cases aa with
      | cons aq a8=>
        cases a8;rw[U.jv,aq.gC];exact Hp an (.str _) ⟨(),by simp[callFunc,Tryz.func120];rfl,rfl⟩ (Tryz.strings_Repeat s c w (by omega) (bH (ie af.2 af.1) (by omega)))
 ·cases h
theorem aFC:gY nz Tryz.prog Dam.Tab.h2 127 Hm:=by
 intro pm args H v H' _ h base γ w dR an bA aN;unfold Hm at h;split at h
 ·rename_i s c
  cases af:(Nat.ble s.size 1000000&&(Nat.ble c.size 1000&&c.data.toList.all λb=>Nat.blt b.toNat 128)) with
  | false=>rw[af]at h;cases h
  | true=>
    rw[af]at h;simp only[cond_true,a6,c2]at h;obtain⟨rfl,rfl⟩:=h;simp only[cG,dA,eh]at af;obtain⟨l⟩:=dR
    cases aN with
    | cons U aa=>
      cases aa with
      | cons aq a8=>
        cases a8;rw[U.jv,aq.jv];exact Hp an (.str _) ⟨(),by simp[callFunc,Tryz.func127];rfl,rfl⟩ (Any.strings_Trim_laid Tryz.asJ (by kernel_rfl) s c w (by omega) (by omega) λj b ai=>by
         have:=hz.1 af.2.2 b (fR ai);simpa [js]using this)
 ·cases h
theorem aFD(w:World)(t:TypeId)(s:ByteArray):Below w.heap.size w (Lib.bytesWorld w t s):=
 ⟨rfl,rfl,rfl,by rw[Lib.bytesWorld_size];omega,λj aH=>Lib.bytesWorld_at_old w t s j aH⟩
theorem aFE:gY nz Tryz.prog Dam.Tab.h2 128 Hn:=by
 intro pm args H v H' _ h base γ w dR an bA aN;unfold Hn at h;split at h
 ·rename_i s b c
  cases af:(jO b 10&&(jO c 32&&Nat.ble s.size 1000000)) with
  | false=>rw[af]at h;cases h
  | true=>
    rw[af]at h;simp only[cond_true]at h;simp only[cG,dA,eh,sd,bYd]at af;obtain⟨rfl,rfl,dy⟩:=af;split at h
    ·rename_i u hu;simp only[a6,c2]at h;obtain⟨rfl,rfl⟩:=h;obtain⟨l⟩:=dR
     cases aN with
     | cons U aa=>
       cases aa with
       | cons aq a8=>
         cases a8 with
         | cons cg dj=>
           cases dj;rw[U.jv,aq.gC,cg.gC];refine Hp an ?_ ⟨(),by simp[callFunc,Tryz.func128];rfl,rfl⟩ ((Tryz.strconv_ParseUint_10_at32_ok s (by omega) u hu w).mono λe w' ⟨bn,bh⟩=>⟨bn,?_⟩)
           ·exact .tuple (.cons (.int _ _) (.cons .M4 .nil))
           ·rcases bh with rfl | rfl
            ·exact Below.refl _ _
            ·exact aFD _ _ _
    ·cases h
 ·cases h
end Go.Dam.C
