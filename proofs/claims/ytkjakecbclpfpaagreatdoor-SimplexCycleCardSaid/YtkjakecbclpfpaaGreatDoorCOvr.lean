/- Functions of the library, as the evaluator takes them. -/
import Derived.Test.YtkjakecbclpfpaaGreatDoorCWalks
import Derived.Test.YtkjakecbclpfpaaGreatDoorCDamB
import Derived.Test.YtkjakecbclpfpaaGreatDoorCJoin
namespace Go.Proofs.YtkjakecbclpfpaaGreatDoor
open Go Go.Dam Go.RowKit
def uw(_:Perm)(args:List Value)(H:ae):Option (Value×ae):=match args with
 | [.string s,.int .u8 (.ofNat c)]=>bif Nat.blt c 256 then some (.int .i64 (lj c s.data.toList 0),H) else none
 | _=>none
theorem O8{O:cy}{G:Nat->Bool}:fq O Tryz.prog G 377 uw:=by
 intro _ _ _ _ _ _ h _ γ w b d _ e;unfold uw at h;split at h
 ·rename_i s c;rw[hE]at h;by_cases a:c<256
  ·simp only[a,decide_true,cond_true,Option.some.injEq,Prod.mk.injEq]at h;obtain⟨rfl,rfl⟩:=h;obtain⟨_⟩:=b
   cases e with
   | cons f g=>
     cases g with
     | cons i j=>
       cases j;rw[f.hL,i.fa];refine .inr ⟨_,w,call338 s (.ofNat c) w,γ,_,rfl,?_,Step.refl d⟩;rw[Pp c a];have:(Int.ofNat c).toNat.toUInt8=c.toUInt8:=rfl;rw[this];split
       ·rename_i k;rw[k];exact .int _ _
       ·simp only[Int.natCast_zero,Int.zero_add];exact .int _ _
  ·simp[a]at h
 ·cases h
def GY(_:Perm)(args:List Value)(H:ae):Option (Value×ae):=match args with
 | [.slice (some a) n _,.string b]=>(match H.get a.block with
   | some x=>(match rowOf x with
     | some c=>(match bB c a.off n with
       | some l=>(match Ao l with
         | some a=>bif Nat.ble 1 n&&(Nat.ble n 140737488355328&&Nat.ble (Lib.join (a.map (·.data.toList)) b.data.toList).length 140737488355328) then some (.string ⟨(Lib.join (a.map (·.data.toList)) b.data.toList).toArray⟩,H) else none
         | none=>none)
       | none=>none)
     | none=>none)
   | none=>none)
 | _=>none
theorem WM{O:cy}{G:Nat->Bool}:fq O Tryz.prog G 269 GY:=by
 intro _ _ _ _ _ _ h _ γ w p d _ q;unfold GY at h;split at h
 ·rename_i a n _ e;split at h
  ·rename_i _ r;split at h
   ·rename_i s t;split at h
    ·rename_i _ u;split at h
     ·rename_i c f
      cases b:(Nat.ble 1 n&&(Nat.ble n 140737488355328&&Nat.ble (Lib.join (c.map (·.data.toList)) e.data.toList).length 140737488355328)) with
      | false=>rw[b]at h;cases h
      | true=>
        rw[b]at h;simp only[cond_true,Option.some.injEq,Prod.mk.injEq]at h;obtain⟨rfl,rfl⟩:=h;simp only[Bool.and_eq_true,cJ,decide_eq_true_eq]at b;obtain⟨_,_,v⟩:=b;obtain⟨_⟩:=p
        cases q with
        | cons x y=>
          cases y with
          | cons z A=>
            cases A;rw[z.hL];obtain⟨L,B,_,_,C⟩:=x.pf;obtain⟨_,rfl⟩:=y' u;obtain⟨g,_,_,i,_,D⟩:=d.row B r t;have E:c.length=n:=by
             have:=congrArg List.length (JE f);simp only[List.length_take,List.length_drop,List.length_map]at this;omega
            rcases C with⟨dm,rfl,Cj,_⟩ | ⟨W1,_⟩
            ·have k:=Go.Proofs.Tryz.strings_Join L.bj (L.d+a.off) dm c e w (λj F l=>by
              rw[pP i];have I:=(List.getElem?_eq_some_iff.1 l).1;have m:((s.drop a.off).take n)[j]? = some (.string F):=by
               rw[JE f,List.getElem?_map,l];rfl
              rw[List.getElem?_take_of_lt (by omega),List.getElem?_drop]at m;obtain⟨_,o,H⟩:=D _ _ m;rw[H.hL]at o;rw[<-o];show g[L.d+a.off+j]? = g[L.d+(a.off+j)]?;rw[Nat.add_assoc]) (by exact(Array.getElem?_eq_some_iff.1 i).1) (by omega) (by omega) v
             rw[E]at k;refine .inl ⟨by simp[callFunc,Tryz.func269];rfl,k.mono λ_ _ ⟨m,o⟩=>⟨γ,_,m,.str _,Step.below d o⟩⟩
            ·omega
     ·cases h
    ·cases h
   ·cases h
  ·cases h
 ·cases h
theorem TA{O:cy}{f:Nat}{γ:aT}{H:ae}{w:World}{b:Nat}{L:Dam.Loc}{cs:List Value}{t:TypeId}(g:Rel O f γ H w)(f:γ b=some L)(h:H.get b=some (.cells cs (.t t))):
 ∃c a,w.heap[L.bj]? = some (.cells c t a)/\(∀i,i<c.size->¬(a.1<=i/\i<a.2))/\L.d=0/\c.size=cs.length/\oq γ cs (λi=>c[i]?):=by
 obtain⟨_,d,j⟩:=g.bj b L f;rw[h]at d;cases d;obtain⟨c,_,a,k,l,⟨_,m,e,n⟩,_,_,o⟩:=j;subst m;refine⟨c,a,k,l,e,n,λi v f=>?_⟩;obtain⟨d,a,g⟩:=o i v f;have a:c[L.d+i]? = some d:=a;rw[e,Nat.zero_add]at a;exact⟨d,a,g⟩
def GX(ah:Perm)(args:List Value)(H:ae):Option (Value×ae):=match args with
 | [.pointer (some a)]=>(match H.get a.block with
   | some (.cells b (.t t))=>bif Nat.beq t 294&&(Nat.beq b.length 3&&Nat.beq a.off 0) then(match (b[0]? : Option Value) with
     | some (.pointer none)=>(match setCells b 0 [ptr a.block]with
       | some b=>bif ah.may a.block then some (aR,H.put a.block (.cells b (.t t))) else none
       | none=>none)
     | some (.pointer (some b))=>bif Nat.beq b.block a.block&&Nat.beq b.off 0 then some (aR,H) else none
     | _=>none) else none
   | _=>none)
 | _=>none
theorem WL{O:cy}{G:Nat->Bool}:fq O Tryz.prog G 300 GX:=by
 intro q _ _ _ _ _ h _ γ w r f _ s;unfold GX at h;split at h
 ·rename_i a;split at h
  ·rename_i t u j
   cases c:(Nat.beq u 294&&(Nat.beq t.length 3&&Nat.beq a.off 0)) with
   | false=>rw[c]at h;cases h
   | true=>
     rw[c]at h;simp only[cond_true]at h;simp only[Bool.and_eq_true,dc,decide_eq_true_eq]at c;obtain⟨rfl,v,_⟩:=c;obtain⟨_⟩:=r
     cases s with
     | cons x y=>
       cases y;obtain⟨L,d,_,rfl⟩:=x.lZ;obtain⟨_,_,e,z,g,A,k⟩:=TA f d j;have B:L.d+a.off=0:=by omega
       rw[B];have l:∀i:World,(callFunc 300 #[.pointer (some ⟨L.bj,0,none⟩)]).run Tryz.prog i=.ok (.enter 300 #[.pointer (some ⟨L.bj,0,none⟩)]) i:=λi=>by
        simp[callFunc,Tryz.func300];rfl
       split at h
       ·rename_i C;split at h
        ·rename_i _ D
         cases b:q.may a.block with
         | false=>rw[b]at h;cases h
         | true=>
           rw[b]at h;simp only[cond_true,Option.some.injEq,Prod.mk.injEq]at h;obtain⟨rfl,rfl⟩:=h;obtain⟨E,F,H⟩:=k 0 _ C;have I:E=.pointer none:=by cases H;rfl
           subst I;have m:w.cell? ⟨L.bj,0,none⟩=some (.pointer none):=by rw[pP e];exact F
           have J:w.shape? L.bj=some (294,3):=by simp[World.shape?,e,A,v]
           have n:w.frozen? ⟨L.bj,0,none⟩=false:=by
            simp only[World.frozen?,e];have:=z 0 (by omega);simpa using this
           have K:bN γ [ptr a.block] [.pointer (some ⟨L.bj,0,none⟩)]:=by
            refine .cons ?_ .nil;have:=aO.ptr (γ:=γ) (off:=0) d;rw[g]at this;exact this
           obtain⟨M,o,N⟩:=Rel.store (P:=Tryz.prog) f d j D K rfl b;have O:M=w.setCell ⟨L.bj,0,none⟩ (.pointer (some ⟨L.bj,0,none⟩)):=by
            have P:(storeCells ⟨L.bj,L.d+0,none⟩ [.pointer (some ⟨L.bj,0,none⟩)]).run Tryz.prog w=.ok () (w.setCell ⟨L.bj,0,none⟩ (.pointer (some ⟨L.bj,0,none⟩))):=by
             rw[g];simp only[storeCells,Sem.run_bind,add_eq,run_store Tryz.prog w ⟨L.bj,0,none⟩ (.pointer (some ⟨L.bj,0,none⟩)) .plain rfl,m,n];simp
            rw[P]at o;cases o;rfl
           refine .inl ⟨l w,(VB L.bj w m J n).mono λ_ _ ⟨Q,R⟩=>⟨γ,_,Q,.tuple .nil,?_⟩⟩;rw[R,<-O];exact N
        ·cases h
       ·rename_i p S
        cases b:(Nat.beq p.block a.block&&Nat.beq p.off 0) with
        | false=>rw[b]at h;cases h
        | true=>
          rw[b]at h;simp only[cond_true,Option.some.injEq,Prod.mk.injEq]at h;obtain⟨rfl,rfl⟩:=h;simp only[Bool.and_eq_true,dc,decide_eq_true_eq]at b;obtain⟨_,m,o⟩:=k 0 _ S;obtain⟨_,n,_,rfl⟩:=o.lZ;rw[b.1,d]at n;cases n;rw[b.2,g]at m;have E:w.cell? ⟨L.bj,0,none⟩=some (.pointer (some ⟨L.bj,0,none⟩)):=by rw[pP e];exact m
          refine .inl ⟨l w,(VC L.bj w E).mono λ_ _ ⟨F,H⟩=>⟨γ,_,F,.tuple .nil,?_⟩⟩;rw[H];exact Step.refl f
       ·cases h
  ·cases h
 ·cases h
def GZ(ah:Perm)(args:List Value)(H:ae):Option (Value×ae):=match args with
 | [.pointer (some a)]=>(match H.get a.block with
   | some (.cells b (.t t))=>bif Nat.beq t 294&&(Nat.beq b.length 3&&Nat.beq a.off 0) then(match (b[1]? : Option Value) with
     | some (.slice (some g) n _)=>(match H.get g.block with
       | some (.bytes e a)=>bif (Nat.beq e 5&&Nat.beq g.off 0)&&(Nat.beq n a.length&&(Nat.ble 1 n&&(Nat.ble n 9223372036854775807&&ah.may g.block))) then some (.string ⟨a.toArray⟩,H.put g.block .dead) else none
       | _=>none)
     | _=>none) else none
   | _=>none)
 | _=>none
theorem WN{O:cy}{G:Nat->Bool}:fq O Tryz.prog G 226 GZ:=by
 intro pm _ _ _ _ _ h _ γ w q a _ r;unfold GZ at h;split at h
 ·rename_i e;split at h
  ·rename_i s t u
   cases b:(Nat.beq t 294&&(Nat.beq s.length 3&&Nat.beq e.off 0)) with
   | false=>rw[b]at h;cases h
   | true=>
     rw[b]at h;simp only[cond_true]at h;simp only[Bool.and_eq_true,dc,decide_eq_true_eq]at b;obtain⟨rfl,_,_⟩:=b;split at h
     ·rename_i g n _ v;split at h
      ·rename_i x d f
       cases c:((Nat.beq x 5&&Nat.beq g.off 0)&&(Nat.beq n d.length&&(Nat.ble 1 n&&(Nat.ble n 9223372036854775807&&pm.may g.block)))) with
       | false=>rw[c]at h;cases h
       | true=>
         rw[c]at h;simp only[cond_true,Option.some.injEq,Prod.mk.injEq]at h;obtain⟨rfl,rfl⟩:=h;simp only[Bool.and_eq_true,dc,cJ,decide_eq_true_eq]at c;obtain⟨⟨rfl,y⟩,rfl,z,A,B⟩:=c;obtain⟨_⟩:=q
         cases r with
         | cons C D=>
           cases D;obtain⟨L,E,_,rfl⟩:=C.lZ;obtain⟨_,_,F,_,_,_,H⟩:=TA a E u;have I:L.d+e.off=0:=by omega
           rw[I];obtain⟨_,i,J⟩:=H 1 _ v;obtain⟨j,k,_,_,K⟩:=J.pf;obtain⟨_,l,M⟩:=a.bj g.block j k;rw[f]at l;cases l;obtain⟨N,_,m,_,_,O,_,_,P⟩:=M
           rcases K with⟨dm,rfl,Cj,_⟩ | ⟨W1,_⟩
           ·rw[O,y]at i;have Q:d≠[]:=by intro R;subst R;simp at z
            have S:=abt L.bj j.bj dm N.size d w Q (by omega) (by rw[pP F];exact i) (by simp[World.shape?,m]) (by omega) A (λT U V=>by
             rw[add_eq,pP m,Nat.zero_add];obtain⟨_,o,W⟩:=P T (.int .u8 U.toNat) (by simp[dp,V]);rw[W.fa]at o;exact o)
            refine .inl ⟨by simp[callFunc,Tryz.func226];rfl,S.mono λ_ _ ⟨X,Y⟩=>⟨γ,_,X,.str _,?_⟩⟩;subst Y;have p:=Step.drawn (pm:=pm) a (w.drawn+1);refine p.trans ?_ a;refine Step.write p.rel k (by rw[f];trivial) B ?_ ?_ ?_ ?_ ?_ λ_=>trivial
            ·simp only[World.freeze];split
             ·rfl
             ·simp only[Array.size_modify];rfl
            ·intro _ o;simp only[World.freeze];split
             ·rfl
             ·simp only[Array.getElem?_modify];rw[if_neg (Ne.symm o)];rfl
            ·simp only[World.freeze];split<;>rfl
            ·simp only[World.freeze];split<;>rfl
            ·simp only[World.freeze];split<;>rfl
           ·omega
      ·cases h
     ·cases h
  ·cases h
 ·cases h
end Go.Proofs.YtkjakecbclpfpaaGreatDoor
