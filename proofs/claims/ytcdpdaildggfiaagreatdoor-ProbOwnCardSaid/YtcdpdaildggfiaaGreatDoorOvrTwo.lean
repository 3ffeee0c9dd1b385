/- Functions of the library, as the evaluator takes them. -/
import Derived.Test.YtcdpdaildggfiaaGreatDoorKCalls
import Derived.Test.YtcdpdaildggfiaaGreatDoorFmt
import Derived.Test.YtcdpdaildggfiaaGreatDoorLawD
import Derived.Test.YtcdpdaildggfiaaGreatDoorLawC
import Derived.Shelf.Strings.SlTrimAscii
namespace Go.Dam.C
open Go Go.Dam Go.Proofs Go.RowKit Go.Proofs.YtcdpdaildggfiaaGreatDoor
set_option maxRecDepth 100000
theorem Lp{O:b0}(d:∀w N b,O.rel w N b (.nat 0)->∃e c,w.heap[b]? = some (.cells s4 e c)){f:Nat}{γ:aL}{H:ad}{w:World}(g:Rel O f γ H w)(f:eF Dam.Tab.eR γ)(h:j0 H=true):Lib.TabIs Tryz.prog w "internal/strconv.uint64pow10" .u64 Dam.Tab.q4:=by
 obtain⟨L,i,j,_⟩:=f 1 rfl;obtain⟨_,b,a⟩:=g.aW 1 L i;rw[HW h]at b;cases b;obtain⟨_,_,a⟩:=a;obtain⟨e,c,b⟩:=d _ _ _ a;rw[j]at b;unfold Lib.TabIs World.var?;rw[Dam.Tab.xj];simp only[fJ,b];rfl
theorem Tc:∀w N b,hZ.rel w N b (.nat 0)->∃e a,w.heap[b]? = some (.cells s4 e a):=λ_ _ _ ⟨_,_,h⟩=>h
theorem Oy:∀w N b,fh.rel w N b (.nat 0)->∃e a,w.heap[b]? = some (.cells s4 e a):=λ_ _ _ ⟨_,_,h⟩=>h
theorem tO{O:b0}{b:Nat}{pm:Perm}{γ:aL}{H:ad}{w:World}{f:FuncId}{args:Array Value}{v:Value}(d:Rel O b γ H w)(g:aD γ v v)(a:∃fn,(callFunc f args).run Tryz.prog w=.ok (.enter f args) w/\fn=())
 (h:Calls Tryz.prog f args w λe ao=>e=.returned v/\Below w.heap.size w ao):ml Tryz.prog f args w λcJ ao=>∃c aH,cJ=.returned aH/\aD c v aH/\Step O b pm γ H w c H ao:=by
 obtain⟨_,a,_⟩:=a;exact .inl ⟨a,h.mono λcJ ao ⟨a,b⟩=>⟨γ,_,a,g,Step.below d b⟩⟩
theorem SV:eh hZ Tryz.prog Dam.Tab.eR 361 C.qi:=HM
theorem SS:eh fh Tryz.prog Dam.Tab.eR 4 uh:=by
 intro _ _ H _ _ _ h _ _ w c b d e;unfold uh at h;split at h
 ·cases a:j0 H with
  | false=>rw[a]at h;cases h
  | true=>
    rw[a]at h;simp only[cond_true,ax,bT]at h;obtain⟨rfl,rfl⟩:=h;obtain⟨_⟩:=c;cases e;exact tO b (.bool _) ⟨(),by simp[callFunc,Tryz.func4];rfl,rfl⟩ (Dam.Tab.Nl w (Lp Oy b d a))
 ·cases h
theorem SU:eh hZ Tryz.prog Dam.Tab.eR 122 rT:=by
 intro _ _ H _ _ _ h _ _ w c b d e;unfold rT at h;split at h
 ·rename_i u f
  cases a:(fQ f 10&&(Nat.blt u 18446744073709551616&&j0 H)) with
  | false=>rw[a]at h;cases h
  | true=>
    rw[a]at h;simp only[cond_true,ax,bT]at h;obtain⟨rfl,rfl⟩:=h;simp only[b3,fG,df,lB,lV]at a;obtain⟨rfl,g,i⟩:=a;obtain⟨_⟩:=c
    cases e with
    | cons j k=>
      cases k with
      | cons l m=>
        cases m;rw[j.U,l.U];exact tO b (.str _) ⟨(),by simp[callFunc,Tryz.func122];rfl,rfl⟩ (Tryz.fmt u g w (Lp Tc b d i))
 ·cases h
theorem SX:eh hZ Tryz.prog Dam.Tab.eR 123 rU:=by
 intro _ _ _ _ _ _ h _ _ w b d _ e;unfold rU at h;split at h
 ·rename_i s c
  cases a:(Nat.ble c 1000&&Nat.ble s.size 1000) with
  | false=>rw[a]at h;cases h
  | true=>
    rw[a]at h;simp only[cond_true,ax,bT]at h;obtain⟨rfl,rfl⟩:=h;simp only[b3,cg,df]at a;obtain⟨_⟩:=b
    cases e with
    | cons f g=>
      cases g with
      | cons i j=>
        cases j;rw[f.fK,i.U];exact tO d (.str _) ⟨(),by simp[callFunc,Tryz.func123];rfl,rfl⟩ (Tryz.strings_Repeat s c w (by omega) (aY (gK a.2 a.1) (by omega)))
 ·cases h
theorem SY:eh hZ Tryz.prog Dam.Tab.eR 178 uj:=by
 intro _ _ _ _ _ _ h _ _ w d e _ f;unfold uj at h;split at h
 ·rename_i s c
  cases a:(Nat.ble s.size 1000000&&(Nat.ble c.size 1000&&c.data.toList.all λb=>Nat.blt b.toNat 128)) with
  | false=>rw[a]at h;cases h
  | true=>
    rw[a]at h;simp only[cond_true,ax,bT]at h;obtain⟨rfl,rfl⟩:=h;simp only[b3,cg,df]at a;obtain⟨_⟩:=d
    cases f with
    | cons g i=>
      cases i with
      | cons j k=>
        cases k;rw[g.fK,j.fK];exact tO e (.str _) ⟨(),by simp[callFunc,Tryz.func178];rfl,rfl⟩ (Any.strings_Trim_laid Tryz.IJ (by kernel_rfl) s c w (by omega) (by omega) λ_ b l=>by
         have:=eD.1 a.2.2 b (eB l);simpa [fG]using this)
 ·cases h
theorem M7(w:World)(t:TypeId)(s:ByteArray):Below w.heap.size w (Lib.bytesWorld w t s):=
 ⟨rfl,rfl,rfl,by rw[Lib.bytesWorld_size];omega,λj a=>Lib.bytesWorld_at_old w t s j a⟩
theorem SW:eh hZ Tryz.prog Dam.Tab.eR 179 ui:=by
 intro _ _ _ _ _ _ h _ _ w b c _ d;unfold ui at h;split at h
 ·rename_i s e f
  cases a:(fQ e 10&&(fQ f 32&&Nat.ble s.size 1000000)) with
  | false=>rw[a]at h;cases h
  | true=>
    rw[a]at h;simp only[cond_true]at h;simp only[b3,cg,df,lB,lV]at a;obtain⟨rfl,rfl,_⟩:=a;split at h
    ·rename_i u g;simp only[ax,bT]at h;obtain⟨rfl,rfl⟩:=h;obtain⟨_⟩:=b
     cases d with
     | cons i j=>
       cases j with
       | cons k l=>
         cases l with
         | cons m n=>
           cases n;rw[i.fK,k.U,m.U];refine tO c ?_ ⟨(),by simp[callFunc,Tryz.func179];rfl,rfl⟩ ((Tryz.strconv_ParseUint_10_at32_ok s (by omega) u g w).mono λ_ _ ⟨o,p⟩=>⟨o,?_⟩)
           ·exact .tuple (.cons (.int _ _) (.cons .A3 .nil))
           ·rcases p with rfl | rfl
            ·exact Below.refl _ _
            ·exact M7 _ _ _
    ·cases h
 ·cases h
end Go.Dam.C
