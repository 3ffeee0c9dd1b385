/- Functions of the library, as the evaluator takes them. -/
import Derived.Test.YtkjakecbclpfpaaGreatDoorCTabOk
import Derived.Test.YtkjakecbclpfpaaGreatDoorCFmt
import Derived.Test.YtkjakecbclpfpaaGreatDoorCOvr
import Derived.Test.YtkjakecbclpfpaaGreatDoorCLawB
import Derived.Test.YtkjakecbclpfpaaGreatDoorCLawC
import Derived.Shelf.Strings.SlTrimAscii
namespace Go.Dam.C
open Go Go.Dam Go.Proofs Go.RowKit Go.Proofs.YtkjakecbclpfpaaGreatDoor
set_option maxRecDepth 100000
theorem Tn{O:cy}(d:∀w N b,O.rel w N b (.nat 0)->∃e c,w.heap[b]? = some (.cells xO e c)){f:Nat}{γ:aT}{H:ae}{w:World}(g:Rel O f γ H w)(f:fX Dam.Tab.gu γ)(h:my H=true):Lib.TabIs Tryz.prog w "internal/strconv.uint64pow10" .u64 Dam.Tab.vr:=by
 obtain⟨L,i,j,_⟩:=f 1 rfl;obtain⟨_,b,a⟩:=g.bj 1 L i;rw[Pg h]at b;cases b;obtain⟨_,_,a⟩:=a;obtain⟨e,c,b⟩:=d _ _ _ a;rw[j]at b;unfold Lib.TabIs World.var?;rw[Dam.Tab.Ci];simp only[hJ,b];rfl
theorem abB:∀w N b,ks.rel w N b (.nat 0)->∃e a,w.heap[b]? = some (.cells xO e a):=λ_ _ _ ⟨_,_,h⟩=>h
theorem WE:∀w N b,gN.rel w N b (.nat 0)->∃e a,w.heap[b]? = some (.cells xO e a):=λ_ _ _ ⟨_,_,h⟩=>h
theorem yH{O:cy}{b:Nat}{pm:Perm}{γ:aT}{H:ae}{w:World}{f:FuncId}{args:Array Value}{v:Value}(d:Rel O b γ H w)(g:aO γ v v)(a:∃fn,(callFunc f args).run Tryz.prog w=.ok (.enter f args) w/\fn=())
 (h:Calls Tryz.prog f args w λe ay=>e=.returned v/\Below w.heap.size w ay):pD Tryz.prog f args w λdq ay=>∃c aQ,dq=.returned aQ/\aO c v aQ/\Step O b pm γ H w c H ay:=by
 obtain⟨_,a,_⟩:=a;exact .inl ⟨a,h.mono λdq ay ⟨a,b⟩=>⟨γ,_,a,g,Step.below d b⟩⟩
theorem abi{O:cy}:fq O Tryz.prog Dam.Tab.gu 377 C.uw:=O8
theorem abh{O:cy}(d:∀w N b,O.rel w N b (.nat 0)->∃e f,w.heap[b]? = some (.cells xO e f)):fq O Tryz.prog Dam.Tab.gu 159 wi:=by
 intro _ _ H _ _ _ h _ _ w e c g i;unfold wi at h;split at h
 ·rename_i u b
  cases a:(hS b 10&&(Nat.blt u 18446744073709551616&&my H)) with
  | false=>rw[a]at h;cases h
  | true=>
    rw[a]at h;simp only[cond_true,aJ,cp]at h;obtain⟨rfl,rfl⟩:=h;simp only[bK,hE,cP,oF,o0]at a;obtain⟨rfl,b,j⟩:=a;obtain⟨_⟩:=e
    cases i with
    | cons k l=>
      cases l with
      | cons m n=>
        cases n;rw[k.fa,m.fa];exact yH c (.str _) ⟨(),by simp[callFunc,Tryz.func159];rfl,rfl⟩ (Tryz.fmt u b w (Tn d c g j))
 ·cases h
theorem abk{O:cy}:fq O Tryz.prog Dam.Tab.gu 160 wj:=by
 intro _ _ _ _ _ _ h _ _ w b d _ e;unfold wj at h;split at h
 ·rename_i s c
  cases a:(Nat.ble c 1000&&Nat.ble s.size 1000) with
  | false=>rw[a]at h;cases h
  | true=>
    rw[a]at h;simp only[cond_true,aJ,cp]at h;obtain⟨rfl,rfl⟩:=h;simp only[bK,cJ,cP]at a;obtain⟨_⟩:=b
    cases e with
    | cons f g=>
      cases g with
      | cons i j=>
        cases j;rw[f.hL,i.fa];exact yH d (.str _) ⟨(),by simp[callFunc,Tryz.func160];rfl,rfl⟩ (Tryz.strings_Repeat s c w (by omega) (a8 (gk a.2 a.1) (by omega)))
 ·cases h
theorem abl{O:cy}:fq O Tryz.prog Dam.Tab.gu 167 y8:=by
 intro _ _ _ _ _ _ h _ _ w d e _ f;unfold y8 at h;split at h
 ·rename_i s c
  cases a:(Nat.ble s.size 1000000&&(Nat.ble c.size 1000&&c.data.toList.all λb=>Nat.blt b.toNat 128)) with
  | false=>rw[a]at h;cases h
  | true=>
    rw[a]at h;simp only[cond_true,aJ,cp]at h;obtain⟨rfl,rfl⟩:=h;simp only[bK,cJ,cP]at a;obtain⟨_⟩:=d
    cases f with
    | cons g i=>
      cases i with
      | cons j k=>
        cases k;rw[g.hL,j.hL];exact yH e (.str _) ⟨(),by simp[callFunc,Tryz.func167];rfl,rfl⟩ (Any.strings_Trim_laid Tryz.P' (by kernel_rfl) s c w (by omega) (by omega) λ_ b l=>by
         have:=eA.1 a.2.2 b (cX l);simpa [hE]using this)
 ·cases h
theorem Vh(w:World)(t:TypeId)(s:ByteArray):Below w.heap.size w (Lib.bytesWorld w t s):=
 ⟨rfl,rfl,rfl,by rw[Lib.bytesWorld_size];omega,λj a=>Lib.bytesWorld_at_old w t s j a⟩
theorem abj{O:cy}:fq O Tryz.prog Dam.Tab.gu 168 y7:=by
 intro _ _ _ _ _ _ h _ _ w b c _ d;unfold y7 at h;split at h
 ·rename_i s e f
  cases a:(hS e 10&&(hS f 32&&Nat.ble s.size 1000000)) with
  | false=>rw[a]at h;cases h
  | true=>
    rw[a]at h;simp only[cond_true]at h;simp only[bK,cJ,cP,oF,o0]at a;obtain⟨rfl,rfl,_⟩:=a;split at h
    ·rename_i u g;simp only[aJ,cp]at h;obtain⟨rfl,rfl⟩:=h;obtain⟨_⟩:=b
     cases d with
     | cons i j=>
       cases j with
       | cons k l=>
         cases l with
         | cons m n=>
           cases n;rw[i.hL,k.fa,m.fa];refine yH c ?_ ⟨(),by simp[callFunc,Tryz.func168];rfl,rfl⟩ ((Tryz.strconv_ParseUint_10_at32_ok s (by omega) u g w).mono λ_ _ ⟨o,p⟩=>⟨o,?_⟩)
           ·exact .tuple (.cons (.int _ _) (.cons .G' .nil))
           ·rcases p with rfl | rfl
            ·exact Below.refl _ _
            ·exact Vh _ _ _
    ·cases h
 ·cases h
end Go.Dam.C
