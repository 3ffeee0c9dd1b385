/- Functions of the library, as the evaluator takes them. -/
import Derived.Test.YtgklfcpppenojaaGreatDoorWalks
import Derived.Test.YtgklfcpppenojaaGreatDoorDamB
import Derived.Test.YtgklfcpppenojaaGreatDoorJoin
namespace Go.Proofs.YtgklfcpppenojaaGreatDoor
open Go Go.Dam Go.RowKit
def zu(_:Perm)(args:List Value)(H:ah):Option (Value×ah):=match args with
 | [.string s,.int .u8 (.ofNat c)]=>bif Nat.blt c 256 then some (.int .i64 (oy c s.data.toList 0),H) else none
 | _=>none
theorem X0{O:da}{G:Nat->Bool}:gY O Tryz.prog G 341 zu:=by
 intro pm args H v H' _ h base γ w dR an _ aN;unfold zu at h;split at h
 ·rename_i s c;rw[js]at h;by_cases af:c<256
  ·simp only[af,decide_true,cond_true,Option.some.injEq,Prod.mk.injEq]at h;obtain⟨rfl,rfl⟩:=h;obtain⟨l⟩:=dR
   cases aN with
   | cons U aa=>
     cases aa with
     | cons aq a8=>
       cases a8;rw[U.jv,aq.gC];refine .inr ⟨_,w,call338 s (.ofNat c) w,γ,_,rfl,?_,Step.refl an⟩;rw[Wf c af];have:(Int.ofNat c).toNat.toUInt8=c.toUInt8:=rfl;rw[this];split
       ·rename_i aV;rw[aV];exact .int _ _
       ·simp only[Int.natCast_zero,Int.zero_add];exact .int _ _
  ·simp[af]at h
 ·cases h
def NU(_:Perm)(args:List Value)(H:ah):Option (Value×ah):=match args with
 | [.slice (some a) n _,.string sep]=>(match H.get a.block with
   | some x=>(match rowOf x with
     | some cs=>(match cX cs a.off n with
       | some l=>(match EH l with
         | some xs=>bif Nat.ble 1 n&&(Nat.ble n 140737488355328&&Nat.ble (Lib.join (xs.map (·.data.toList)) sep.data.toList).length 140737488355328) then some (.string ⟨(Lib.join (xs.map (·.data.toList)) sep.data.toList).toArray⟩,H) else none
         | none=>none)
       | none=>none)
     | none=>none)
   | none=>none)
 | _=>none
theorem axg{O:da}{G:Nat->Bool}:gY O Tryz.prog G 232 NU:=by
 intro pm args H v H' _ h base γ w dR an _ aN;unfold NU at h;split at h
 ·rename_i a n fH sep;split at h
  ·rename_i x az;split at h
   ·rename_i cs hW;split at h
    ·rename_i l aO;split at h
     ·rename_i xs rl
      cases af:(Nat.ble 1 n&&(Nat.ble n 140737488355328&&Nat.ble (Lib.join (xs.map (·.data.toList)) sep.data.toList).length 140737488355328)) with
      | false=>rw[af]at h;cases h
      | true=>
        rw[af]at h;simp only[cond_true,Option.some.injEq,Prod.mk.injEq]at h;obtain⟨rfl,rfl⟩:=h;simp only[Bool.and_eq_true,dA,decide_eq_true_eq]at af;obtain⟨cy,dd,dy⟩:=af;obtain⟨cJ⟩:=dR
        cases aN with
        | cons U aa=>
          cases aa with
          | cons aq a8=>
            cases a8;rw[aq.jv];obtain⟨L,bC,_,aF,iY⟩:=U.sj;obtain⟨g1,rfl⟩:=EN aO;obtain⟨c,elem,cz,av,aI,aQ⟩:=an.row bC az hW;have hlen:xs.length=n:=by
             have:=congrArg List.length (MY rl);simp only[List.length_take,List.length_drop,List.length_map]at this;omega
            rcases iY with⟨dN,rfl,mY,_⟩ | ⟨bl,_⟩
            ·have abS:=Go.Proofs.Tryz.strings_Join L.bI (L.d+a.off) dN xs sep w (λj y aH=>by
              rw[tL av];have zJ:=(List.getElem?_eq_some_iff.1 aH).1;have cg:((cs.drop a.off).take n)[j]? = some (.string y):=by
               rw[MY rl,List.getElem?_map,aH];rfl
              rw[List.getElem?_take_of_lt (by omega),List.getElem?_drop]at cg;obtain⟨u,ao,e2⟩:=aQ _ _ cg;rw[e2.jv]at ao;rw[<-ao];show c[L.d+a.off+j]? = c[L.d+(a.off+j)]?;rw[Nat.add_assoc]) (by exact(Array.getElem?_eq_some_iff.1 av).1) (by omega) (by omega) dy
             rw[hlen]at abS;refine .inl ⟨by simp[callFunc,Tryz.func232];rfl,abS.mono λen w' ⟨bn,bh⟩=>⟨γ,_,bn,.str _,Step.below an bh⟩⟩
            ·omega
     ·cases h
    ·cases h
   ·cases h
  ·cases h
 ·cases h
theorem abT{O:da}{base:Nat}{γ:bo}{H:ah}{w:World}{b:Nat}{L:Dam.Loc}{cs:List Value}{t:TypeId}(an:Rel O base γ H w)(bC:γ b=some L)(az:H.get b=some (.cells cs (.t t))):
 ∃c cz,w.heap[L.bI]? = some (.cells c t cz)/\(∀i,i<c.size->¬(cz.1<=i/\i<cz.2))/\L.d=0/\c.size=cs.length/\si γ cs (λi=>c[i]?):=by
 obtain⟨y,U,aa⟩:=an.bI b L bC;rw[az]at U;cases U;obtain⟨c,elem,cz,av,aI,⟨_,ao,e2,bd⟩,bt,cd,cv⟩:=aa;subst ao;refine⟨c,cz,av,aI,e2,bd,λi v ad=>?_⟩;obtain⟨v',bn,bh⟩:=cv i v ad;have bn:c[L.d+i]? = some v':=bn;rw[e2,Nat.zero_add]at bn;exact⟨v',bn,bh⟩
def NT(lo:Perm)(args:List Value)(H:ah):Option (Value×ah):=match args with
 | [.pointer (some a)]=>(match H.get a.block with
   | some (.cells cs (.t t))=>bif Nat.beq t 260&&(Nat.beq cs.length 3&&Nat.beq a.off 0) then(match (cs[0]? : Option Value) with
     | some (.pointer none)=>(match setCells cs 0 [ptr a.block]with
       | some gg=>bif lo.may a.block then some (zWb,H.put a.block (.cells gg (.t t))) else none
       | none=>none)
     | some (.pointer (some a'))=>bif Nat.beq a'.block a.block&&Nat.beq a'.off 0 then some (zWb,H) else none
     | _=>none) else none
   | _=>none)
 | _=>none
theorem axf{O:da}{G:Nat->Bool}:gY O Tryz.prog G 264 NT:=by
 intro pm args H v H' _ h base γ w dR an _ aN;unfold NT at h;split at h
 ·rename_i a;split at h
  ·rename_i cs t az
   cases af:(Nat.beq t 260&&(Nat.beq cs.length 3&&Nat.beq a.off 0)) with
   | false=>rw[af]at h;cases h
   | true=>
     rw[af]at h;simp only[cond_true]at h;simp only[Bool.and_eq_true,ed,decide_eq_true_eq]at af;obtain⟨rfl,abU,po⟩:=af;obtain⟨l⟩:=dR
     cases aN with
     | cons U aa=>
       cases aa;obtain⟨L,bC,_,rfl⟩:=U.pj;obtain⟨c,cz,av,aI,aQ,bt,cd⟩:=abT an bC az;have gh:L.d+a.off=0:=by omega
       rw[gh];have K':∀w0:World,(callFunc 264 #[.pointer (some ⟨L.bI,0,none⟩)]).run Tryz.prog w0=.ok (.enter 264 #[.pointer (some ⟨L.bI,0,none⟩)]) w0:=λw0=>by
        simp[callFunc,Tryz.func264];rfl
       split at h
       ·rename_i aD;split at h
        ·rename_i gg aCg
         cases hm:pm.may a.block with
         | false=>rw[hm]at h;cases h
         | true=>
           rw[hm]at h;simp only[cond_true,Option.some.injEq,Prod.mk.injEq]at h;obtain⟨rfl,rfl⟩:=h;obtain⟨v0,bn,bh⟩:=cd 0 _ aD;have iy:v0=.pointer none:=by cases bh;rfl
           subst iy;have mW:w.cell? ⟨L.bI,0,none⟩=some (.pointer none):=by rw[tL av];exact bn
           have Ds:w.shape? L.bI=some (260,3):=by simp[World.shape?,av,bt,abU]
           have R3:w.frozen? ⟨L.bI,0,none⟩=false:=by
            simp only[World.frozen?,av];have:=aI 0 (by omega);simpa using this
           have mF:cm γ [ptr a.block] [.pointer (some ⟨L.bI,0,none⟩)]:=by
            refine .cons ?_ .nil;have:=bg.ptr (γ:=γ) (off:=0) bC;rw[aQ]at this;exact this
           obtain⟨cS,ao,e2⟩:=Rel.store (P:=Tryz.prog) an bC az aCg mF rfl hm;have eo:cS=w.setCell ⟨L.bI,0,none⟩ (.pointer (some ⟨L.bI,0,none⟩)):=by
            have bd:(storeCells ⟨L.bI,L.d+0,none⟩ [.pointer (some ⟨L.bI,0,none⟩)]).run Tryz.prog w=.ok () (w.setCell ⟨L.bI,0,none⟩ (.pointer (some ⟨L.bI,0,none⟩))):=by
             rw[aQ];simp only[storeCells,Sem.run_bind,add_eq,run_store Tryz.prog w ⟨L.bI,0,none⟩ (.pointer (some ⟨L.bI,0,none⟩)) .plain rfl,mW,R3];simp
            rw[bd]at ao;cases ao;rfl
           refine .inl ⟨K' w,(aCh L.bI w mW Ds R3).mono λen w' ⟨bJ,bG⟩=>⟨γ,_,bJ,.tuple .nil,?_⟩⟩;rw[bG,<-eo];exact e2
        ·cases h
       ·rename_i a' aD
        cases hm:(Nat.beq a'.block a.block&&Nat.beq a'.off 0) with
        | false=>rw[hm]at h;cases h
        | true=>
          rw[hm]at h;simp only[cond_true,Option.some.injEq,Prod.mk.injEq]at h;obtain⟨rfl,rfl⟩:=h;simp only[Bool.and_eq_true,ed,decide_eq_true_eq]at hm;obtain⟨v0,bn,bh⟩:=cd 0 _ aD;obtain⟨L',abV,_,rfl⟩:=bh.pj;rw[hm.1,bC]at abV;cases abV;rw[hm.2,aQ]at bn;have mW:w.cell? ⟨L.bI,0,none⟩=some (.pointer (some ⟨L.bI,0,none⟩)):=by rw[tL av];exact bn
          refine .inl ⟨K' w,(aCi L.bI w mW).mono λen w' ⟨bJ,bG⟩=>⟨γ,_,bJ,.tuple .nil,?_⟩⟩;rw[bG];exact Step.refl an
       ·cases h
  ·cases h
 ·cases h
def NV(lo:Perm)(args:List Value)(H:ah):Option (Value×ah):=match args with
 | [.pointer (some a)]=>(match H.get a.block with
   | some (.cells cs (.t t))=>bif Nat.beq t 260&&(Nat.beq cs.length 3&&Nat.beq a.off 0) then(match (cs[1]? : Option Value) with
     | some (.slice (some g) n _)=>(match H.get g.block with
       | some (.bytes e cW)=>bif (Nat.beq e 5&&Nat.beq g.off 0)&&(Nat.beq n cW.length&&(Nat.ble 1 n&&(Nat.ble n 9223372036854775807&&lo.may g.block))) then some (.string ⟨cW.toArray⟩,H.put g.block .dead) else none
       | _=>none)
     | _=>none) else none
   | _=>none)
 | _=>none
theorem axh{O:da}{G:Nat->Bool}:gY O Tryz.prog G 189 NV:=by
 intro pm args H v H' _ h base γ w dR an _ aN;unfold NV at h;split at h
 ·rename_i a;split at h
  ·rename_i cs t az
   cases af:(Nat.beq t 260&&(Nat.beq cs.length 3&&Nat.beq a.off 0)) with
   | false=>rw[af]at h;cases h
   | true=>
     rw[af]at h;simp only[cond_true]at h;simp only[Bool.and_eq_true,ed,decide_eq_true_eq]at af;obtain⟨rfl,abU,po⟩:=af;split at h
     ·rename_i g n fH xL;split at h
      ·rename_i e cW aK
       cases kC:((Nat.beq e 5&&Nat.beq g.off 0)&&(Nat.beq n cW.length&&(Nat.ble 1 n&&(Nat.ble n 9223372036854775807&&pm.may g.block)))) with
       | false=>rw[kC]at h;cases h
       | true=>
         rw[kC]at h;simp only[cond_true,Option.some.injEq,Prod.mk.injEq]at h;obtain⟨rfl,rfl⟩:=h;simp only[Bool.and_eq_true,ed,dA,decide_eq_true_eq]at kC;obtain⟨⟨rfl,aCj⟩,rfl,j6,rj,hm⟩:=kC;obtain⟨l⟩:=dR
         cases aN with
         | cons U aa=>
           cases aa;obtain⟨L,bC,_,rfl⟩:=U.pj;obtain⟨c,cz,av,aI,aQ,bt,cd⟩:=abT an bC az;have gh:L.d+a.off=0:=by omega
           rw[gh];obtain⟨v1,bn,bh⟩:=cd 1 _ xL;obtain⟨abW,abX,_,aHf,iY⟩:=bh.sj;obtain⟨y,g1,g2⟩:=an.bI g.block abW abX;rw[aK]at g1;cases g1;obtain⟨aCk,aHg,m1,m2,m3,m4,m5,m6,m7⟩:=g2
           rcases iY with⟨dN,rfl,mY,_⟩ | ⟨bl,_⟩
           ·rw[m4,aCj]at bn;have dr:cW≠[]:=by intro cY;subst cY;simp at j6
            have hw:=aCl L.bI abW.bI dN aCk.size cW w dr (by omega) (by rw[tL av];exact bn) (by simp[World.shape?,m1]) (by omega) rj (λj x aH=>by
             rw[add_eq,tL m1,Nat.zero_add];obtain⟨u,ao,e2⟩:=m7 j (.int .u8 x.toNat) (by simp[ew,aH]);rw[e2.gC]at ao;exact ao)
            refine .inl ⟨by simp[callFunc,Tryz.func189];rfl,hw.mono λen w' ⟨bJ,bG⟩=>⟨γ,_,bJ,.str _,?_⟩⟩;subst bG;have Dj:=Step.drawn (pm:=pm) an (w.drawn+1);refine Dj.trans ?_ an;refine Step.write Dj.rel abX (by rw[aK];trivial) hm ?_ ?_ ?_ ?_ ?_ λN=>trivial
            ·simp only[World.freeze];split
             ·rfl
             ·simp only[Array.size_modify];rfl
            ·intro k ag;simp only[World.freeze];split
             ·rfl
             ·simp only[Array.getElem?_modify];rw[if_neg (Ne.symm ag)];rfl
            ·simp only[World.freeze];split<;>rfl
            ·simp only[World.freeze];split<;>rfl
            ·simp only[World.freeze];split<;>rfl
           ·omega
      ·cases h
     ·cases h
  ·cases h
 ·cases h
end Go.Proofs.YtgklfcpppenojaaGreatDoor
