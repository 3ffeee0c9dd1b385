/- What the functions of the program compute, for every input. -/
import Derived.Test.YtijpgkogfmpeoaaGreatDoorLawC
import Derived.Test.YtijpgkogfmpeoaaGreatDoorLawB
import Derived.Deep.Slices
import Derived.SliceStrings
namespace Go.Dam.C
section
variable{lp:bD}
def QW(kind:Int)(s b:Rat):Prop:=(kind=1→s≤b)∧(kind=3→b≤s)∧(kind≠1→kind≠3→s=b)
def nw(lp:bD)(x:Nat→Rat)(i:Nat):Rat:=bs (fun j=>lp.aX.A i j*x j) lp.aj.length
theorem Kj{kind:Int}{s b:Rat}:ug kind (kL s b)=true↔QW kind s b:=by
 by_cases U:kind=1
 ·rw[show ug kind (kL s b)=decide (kL s b≤0) from bm U,eh];constructor
  ·intro h;refine⟨fun _=>hA.1 fun bO=>?_,fun aq=>by omega,fun h=>absurd U h⟩;rw[←xT s b]at bO;omega
  ·rintro⟨h,_⟩;refine Int.not_lt.1 fun bO=>?_;rw[xT]at bO;exact hA.2 (h U) bO
 ·by_cases aq:kind=3
  ·rw[show ug kind (kL s b)=decide (0≤kL s b) from(aU U).trans (bm aq),eh];constructor
   ·intro h;refine⟨fun h=>absurd h U,fun _=>hA.1 fun bO=>?_,fun _ h=>absurd aq h⟩;rw[←rz s b]at bO;omega
   ·rintro⟨_,h,_⟩;refine Int.not_lt.1 fun bO=>?_;rw[rz]at bO;exact hA.2 (h aq) bO
  ·rw[show ug kind (kL s b)=decide (kL s b=0) from(aU U).trans (aU aq),eh,cmp_eq];exact⟨fun h=>⟨fun e=>absurd e U,fun e=>absurd e aq,fun _ _=>h⟩,fun h=>h.2.2 U aq⟩
theorem ZY(q:Rat):cT q=kL q 0:=rfl
theorem ZZ{c:eu}{q:Rat}:sG c q=true↔(c.low≠[]→rd c.low≤q)∧(c.up≠[]→q≤rd c.up):=by
 unfold sG;rw[←hA,←hA];cases U:c.low<;>cases aa:c.up<;>simp
structure sW(lp:bD)(x:Nat→Rat):Prop where
 c:∀j,j<lp.aj.length→((lp.col j).low≠[]→rd (lp.col j).low≤x j)∧((lp.col j).up≠[]→x j≤rd (lp.col j).up)
 r:∀i,i<lp.rows.length→QW (lp.row i).kind (nw lp x i) (rd (lp.row i).rhs)
theorem Z0{p:di→Bool}:lp.rows.all p=true↔∀i,i<lp.rows.length→p (lp.row i)=true:=by
 rw[hz];constructor
 ·intro h i ad;exact h _ (fR (bD.rowAt ad))
 ·intro h r an;obtain⟨i,ad,rfl⟩:=List.getElem_of_mem an;have:=h i ad;have e:=bD.rowAt ad;rw[hG ad]at e;rw[Option.some.inj e];exact this
theorem QX(hm:lp.dP=true){x:Nat→Rat}:Fl lp x=true↔sW lp x:=by
 unfold Fl;rw[cG,Ox,Z0];constructor
 ·rintro⟨U,aa⟩;refine⟨fun j aH=>ZZ.1 (U j aH),fun i ad=>?_⟩;have:=aa i ad;unfold zD at this;rw[F1 hm ad]at this;exact Kj.1 this
 ·rintro⟨U,aa⟩;refine⟨fun j aH=>ZZ.2 (U j aH),fun i ad=>?_⟩;unfold zD;rw[F1 hm ad];exact Kj.2 (aa i ad)
structure Z1(lp:bD)(d:Nat→Rat)(s q:Rat)(k:Nat):Prop where
 ok:∀j,j<k→d j≠0→(if d j<0 then(lp.col j).up else(lp.col j).low)≠[]
 sum:q=s+bs (fun j=>d j*rd (if d j<0 then(lp.col j).up else(lp.col j).low)) k
theorem Kk{d:Nat→Rat}{s:Rat}:∀{k:Nat} {q:Rat},l0 lp d s k=some q↔Z1 lp d s q k
 | 0,q=>by
   simp only[l0,a6];constructor
   ·rintro rfl;exact⟨fun j aH=>absurd aH (od _),by simp[bs,Rat.add_zero]⟩
   ·rintro⟨_,h⟩;rw[h];simp[bs,Rat.add_zero]
 | k+1,q=>by
   rw[l0];have aO:∀(h:¬(d k≠0∧(if d k<0 then(lp.col k).up else(lp.col k).low).isEmpty=true)),wg (lp.col k) (d k)=some (d k*rd (if d k<0 then(lp.col k).up else(lp.col k).low)):=fun h=>aU h;constructor
   ·intro h
    cases e:l0 lp d s k with
    | none=>rw[e]at h;cases h
    | some p=>
      rw[e]at h;simp only at h;obtain⟨i1,i2⟩:=Kk.1 e;by_cases af:d k≠0∧(if d k<0 then(lp.col k).up else(lp.col k).low).isEmpty=true
      ·rw[show wg (lp.col k) (d k)=none from bm af]at h;cases h
      ·rw[aO af]at h;simp only[a6]at h;refine⟨fun j aH aB=>?_,?_⟩
       ·by_cases azN:j=k
        ·subst azN;intro he;exact af ⟨aB,by simp[he]⟩
        ·exact i1 j (by omega) aB
       ·rw[bs,←h,i2];grind
   ·rintro⟨U,aa⟩;have e:l0 lp d s k=some (s+bs (fun j=>d j*rd (if d j<0 then(lp.col j).up else(lp.col j).low)) k):=Kk.2 ⟨fun j aH=>U j (by omega),rfl⟩;rw[e];simp only;have af:¬(d k≠0∧(if d k<0 then(lp.col k).up else(lp.col k).low).isEmpty=true):=by
     rintro⟨aB,he⟩;exact U k (by omega) aB (by simpa using he)
    rw[aO af];simp only[a6];rw[aa,bs];grind
def gD(lp:bD)(wc:Bool)(y:Nat→Rat)(j:Nat):Rat:=d0 lp wc j-bs (fun i=>y i*lp.aX.A i j) lp.rows.length
structure sX(lp:bD)(wc:Bool)(y:Nat→Rat)(b:Rat):Prop where
 ko:∀i,i<lp.rows.length→((lp.row i).kind=1→y i≤0)∧((lp.row i).kind=3→0≤y i)
 ls:Z1 lp (gD lp wc y) (bs (fun i=>y i*rd (lp.row i).rhs) lp.rows.length) b lp.aj.length
theorem Z2{y:Nat→Rat}{i:Nat}:Ct lp y i=true↔((lp.row i).kind=1→y i≤0)∧((lp.row i).kind=3→0≤y i):=by
 unfold Ct;rw[←hA,←hA];by_cases U:(lp.row i).kind=1<;>by_cases aq:(lp.row i).kind=3<;>simp[U,aq]
theorem QY(hm:lp.dP=true){wc:Bool}{y:Nat→Rat}{b:Rat}:zH lp wc y=some b↔sX lp wc y b:=by
 have e:wh lp wc y lp.rows.length=gD lp wc y:=by
  funext j;exact ZR hm (bR _) j
 unfold zH;rw[e];constructor
 ·intro h;split at h
  ·rename_i aG;exact⟨fun i ad=>Z2.1 (Jk.1 aG i ad),Kk.1 h⟩
  ·cases h
 ·rintro⟨U,aa⟩;rw[bm (Jk.2 fun i ad=>Z2.2 (U i ad))];exact Kk.2 aa
theorem QZ(wc:Bool)(y x:Nat→Rat):bs (fun j=>d0 lp wc j*x j) lp.aj.length=bs (fun j=>gD lp wc y j*x j) lp.aj.length+bs (fun i=>y i*nw lp x i) lp.rows.length:=by
 have ao:bs (fun i=>y i*nw lp x i) lp.rows.length=bs (fun j=>bs (fun i=>y i*lp.aX.A i j) lp.rows.length*x j) lp.aj.length:=by
  have:bs (fun i=>y i*nw lp x i) lp.rows.length=bs (fun i=>bs (fun j=>y i*lp.aX.A i j*x j) lp.aj.length) lp.rows.length:=eB fun i _=>by
   rw[nw,←jl];exact eB fun j _=>by grind
  rw[this,FG];refine eB fun j _=>?_;have:bs (fun i=>y i*lp.aX.A i j*x j) lp.rows.length=bs (fun i=>x j*(y i*lp.aX.A i j)) lp.rows.length:=eB fun i _=>by grind
  rw[this,jl,Rat.mul_comm]
 rw[ao,←pC];exact eB fun j _=>by unfold gD;grind
theorem Q0(wc:Bool)(x:Nat→Rat):bs (fun j=>d0 lp wc j*x j) lp.aj.length=if wc then lp.nh x else 0:=by
 cases wc with
 | true=>exact eB fun j _=>rfl
 | false=>exact rN fun j _=>by simp[d0]
theorem Z3{wc:Bool}{x y:Nat→Rat}{b:Rat}(bc:sW lp x)(ai:sX lp wc y b):b≤if wc then lp.nh x else 0:=by
 rw[←Q0,QZ wc y x,ai.ls.sum];have U:bs (fun i=>y i*rd (lp.row i).rhs) lp.rows.length≤bs (fun i=>y i*nw lp x i) lp.rows.length:=FH fun i ad=>by
  obtain⟨b4,cB,dh⟩:=bc.r i ad;obtain⟨s1,s2⟩:=ai.ko i ad;by_cases av:(lp.row i).kind=1
  ·have a:=b4 av;have c:=s1 av;have:=jr (show 0≤-y i by grind) (show 0≤rd (lp.row i).rhs-nw lp x i by grind);grind
  ·by_cases aQ:(lp.row i).kind=3
   ·have a:=cB aQ;have c:=s2 aQ;have:=jr c (show 0≤nw lp x i-rd (lp.row i).rhs by grind);grind
   ·rw[dh av aQ];exact k3
 have aa:bs (fun j=>gD lp wc y j*rd (if gD lp wc y j<0 then(lp.col j).up else(lp.col j).low)) lp.aj.length≤bs (fun j=>gD lp wc y j*x j) lp.aj.length:=FH fun j aH=>by
  obtain⟨cy,dd⟩:=bc.c j aH;have ok:=ai.ls.ok j aH;generalize gD lp wc y j=d at*
  by_cases aD:d=0
  ·rw[aD,lE,lE];exact k3
  ·have ok:=ok aD;by_cases aF:d<0
   ·simp only[aF,if_true]at ok⊢;have:=jr (show 0≤-d by grind) (show 0≤rd (lp.col j).up-x j by have:=dd ok;grind);grind
   ·simp only[aF,if_false]at ok⊢;have:=jr (show 0≤d by grind) (show 0≤x j-rd (lp.col j).low by have:=cy ok;grind);grind
 grind
structure Ai(lp:bD)(x:Nat→Rat):Prop where
 c:∀j,j<lp.aj.length→((lp.col j).low≠[]→0≤x j)∧((lp.col j).up≠[]→x j≤0)
 r:∀i,i<lp.rows.length→QW (lp.row i).kind (nw lp x i) 0
 n:lp.nh x<0
theorem Z4(hm:lp.dP=true){x:Nat→Rat}:Cr lp x=true↔Ai lp x:=by
 have af:∀{c:eu} {q:Rat},qB c q=true↔(c.low≠[]→0≤q)∧(c.up≠[]→q≤0):=fun{c q}=>by
  unfold qB;rw[←hA,←hA];cases U:c.low<;>cases aa:c.up<;>simp
 unfold Cr;rw[cG,cG,OF,Z0,eh];constructor
 ·rintro⟨U,aa,aq⟩;refine⟨fun j aH=>af.1 (U j aH),fun i ad=>?_,aq⟩;have:=aa i ad;unfold x1 at this;rw[F1 hm ad,ZY]at this;exact Kj.1 this
 ·rintro⟨U,aa,aq⟩;refine⟨fun j aH=>af.2 (U j aH),fun i ad=>?_,aq⟩;unfold x1;rw[F1 hm ad,ZY];exact Kj.2 (aa i ad)
theorem Z5{x y:Nat→Rat}{b:Rat}(bc:Ai lp x)(ai:sX lp true y b):False:=by
 have aF:=bc.n;have e:=Q0 (lp:=lp) true x;simp only[if_true]at e;rw[←e,QZ true y x]at aF;have U:0≤bs (fun i=>y i*nw lp x i) lp.rows.length:=Ql fun i ad=>by
  obtain⟨b4,cB,dh⟩:=bc.r i ad;obtain⟨s1,s2⟩:=ai.ko i ad;by_cases av:(lp.row i).kind=1
  ·have a:=b4 av;have c:=s1 av;have:=jr (show 0≤-y i by grind) (show 0≤-nw lp x i by grind);grind
  ·by_cases aQ:(lp.row i).kind=3
   ·exact jr (s2 aQ) (cB aQ)
   ·rw[dh av aQ,Rat.mul_zero];exact k3
 have aa:0≤bs (fun j=>gD lp true y j*x j) lp.aj.length:=Ql fun j aH=>by
  obtain⟨cy,dd⟩:=bc.c j aH;have ok:=ai.ls.ok j aH;generalize gD lp true y j=d at*
  by_cases aD:d=0
  ·rw[aD,lE];exact k3
  ·have ok:=ok aD;by_cases aF:d<0
   ·simp only[aF,if_true]at ok;have:=jr (show 0≤-d by grind) (show 0≤-x j by have:=dd ok;grind);grind
   ·simp only[aF,if_false]at ok;exact jr (show 0≤d by grind) (cy ok)
 grind
end
section
variable{lp:bD}
theorem JA{xs:List (List UInt8)}{m:Nat}(h:h5 lp xs m=true):lp.dP=true:=by
 unfold h5 at h;simp only[cG]at h;exact h.2.2
inductive Shown(lp:bD)(a:iz):Prop
 | opt (x y:Nat→Rat) (b:Rat):a.st=1→sW lp x→sX lp true y b→lp.nh x=b→a.val=dB b→Shown lp a
 | inf (y:Nat→Rat) (b:Rat):a.st=2→sX lp false y b→0<b→a.val=[]→Shown lp a
 | Q1 (x r:Nat→Rat):a.st=3→sW lp x→Ai lp r→a.val=[]→Shown lp a
theorem Z6(hm:lp.dP=true){xs:List (List UInt8)}(h:lg lp xs=true):sW lp (e1 xs):=by
 unfold lg at h;rw[cG]at h;exact(QX hm).1 h.2
theorem Q2(hm:lp.dP=true){dz:List (List UInt8)}{wc:Bool}{b:Rat}(h:gR lp dz wc=some b):sX lp wc (e1 dz) b:=by
 unfold gR at h;split at h
 ·exact(QY hm).1 h
 ·cases h
theorem PE{a:iz}(h:kQ lp a=true):lp.dP=true∧Shown lp a:=by
 unfold kQ at h;split at h
 ·rename_i s1;simp only[cG,eh]at h;obtain⟨U,aa,aq,a8,cg,_⟩:=h;obtain⟨v,aw⟩:=xl.1 U;obtain⟨b,ai⟩:=xl.1 aa;have hm:lp.dP=true:=by
   unfold lg at cg;rw[cG]at cg;exact JA cg.1
  rw[aw]at aq;rw[ai]at a8;have oC:v=b:=ZV (aq.trans a8.symm);have af:lp.nh (e1 a.x)=v:=by
   unfold kN at aw;split at aw
   ·exact Option.some.inj aw
   ·cases aw
  exact⟨hm,.opt _ _ b s1 (Z6 hm cg) (Q2 hm ai) (af.trans oC) a8.symm⟩
 ·split at h
  ·rename_i s2;simp only[cG,eh]at h;obtain⟨U,aa,aq,_⟩:=h;obtain⟨b,ai⟩:=xl.1 U;have hm:lp.dP=true:=by
    have:=ai;unfold gR at this;split at this
    ·exact JA (by assumption)
    ·cases this
   have nR:0<b:=by
    rw[ai]at aa;have aa:0<rd (dB b):=aa;unfold rd at aa
    cases e:jD (dB b) with
    | none=>rw[e]at aa;exact absurd aa (by decide)
    | some q=>
      rw[e]at aa;have aa:0<q:=aa;have:dB q=dB b:=by
       unfold jD qu at e;split at e
       ·rename_i af;rw[←Option.some.inj e];exact af.2.2.2
       ·cases e
      rw[←ZV this];exact aa
   exact⟨hm,.inf _ b s2 (Q2 hm ai) nR aq⟩
  ·split at h
   ·rename_i de;simp only[cG,eh]at h;obtain⟨U,aa,aq,_⟩:=h;have hm:lp.dP=true:=by
     have:=U;unfold lg at this;rw[cG]at this;exact JA this.1
    unfold pw at aa;rw[cG]at aa;exact⟨hm,.Q1 _ _ de (Z6 hm U) ((Z4 hm).1 aa.2) aq⟩
   ·cases h
theorem Shown.agree{a c:iz}(h:Shown lp a)(g:Shown lp c):a.st=c.st∧a.val=c.val:=by
 have Kl:∀{x y:Nat→Rat} {b:Rat},sW lp x→sX lp false y b→0<b→False:=fun f wD ai=>by
  have:=Z3 f wD;simp only[oc,if_false]at this;exact hA.2 this ai
 have Z7:∀{x y:Nat→Rat} {b:Rat},sW lp x→sX lp true y b→b≤lp.nh x:=fun f wD=>by
  have:=Z3 f wD;simpa using this
 rcases h with⟨x,y,b,s,f,wD,e,v⟩ | ⟨y,b,s,wD,ai,v⟩ | ⟨x,r,s,f,azO,v⟩<;>rcases g with⟨cZ,mi,b',eZ,f',F9,bw,v'⟩ | ⟨mi,b',eZ,F9,ec,v'⟩ | ⟨cZ,r',eZ,f',azP,v'⟩
 ·have U:=Z7 f F9;have aa:=Z7 f' wD;have:b=b':=by grind
  exact⟨s.trans eZ.symm,by rw[v,v',this]⟩
 ·exact(Kl f F9 ec).elim
 ·exact(Z5 azP wD).elim
 ·exact(Kl f' wD ai).elim
 ·exact⟨s.trans eZ.symm,v.trans v'.symm⟩
 ·exact(Kl f' wD ai).elim
 ·exact(Z5 azO F9).elim
 ·exact(Kl f F9 ec).elim
 ·exact⟨s.trans eZ.symm,v.trans v'.symm⟩
theorem ayw{a c:iz}(h:kQ lp a=true)(g:kQ lp c=true):a.st=c.st∧a.val=c.val:=(PE h).2.agree (PE g).2
end
section
variable{lp:bD}{T:b8}{P:cr}
def ind(a b:Nat):Rat:=if a=b then 1 else 0
def lu(P:cr)(T:b8)(e:Nat→Rat)(x:Nat):Rat:=bs (fun k=>e k*ind (T.aj k) x) P.n
theorem Z8{x j:Nat}(az:x<P.n+P.m)(aH:j<P.n):form P x j=ind x j+bs (fun i=>ind x (P.n+i)*P.A i j) P.m:=by
 unfold form ind;by_cases h:x<P.n
 ·rw[bm h,rN fun i _=>by rw[aU (by omega),lE],Rat.add_zero]
 ·rw[aU h,aU (by omega),qL (j:=x-P.n) (by omega) fun i _ aF=>by rw[aU (by omega),lE],bm (by omega)];grind
theorem Z9(h:fh P T)(e:Nat→Rat){j:Nat}(aH:j<P.n):bs (fun k=>e k*form P (T.aj k) j) P.n=lu P T e j+bs (fun i=>lu P T e (P.n+i)*P.A i j) P.m:=by
 have ao:bs (fun i=>lu P T e (P.n+i)*P.A i j) P.m=bs (fun k=>bs (fun i=>e k*ind (T.aj k) (P.n+i)*P.A i j) P.m) P.n:=by
  rw[FG];refine eB fun i _=>?_;have:=jl (P.A i j) (fun k=>e k*ind (T.aj k) (P.n+i)) P.n;rw[lu,Rat.mul_comm,←this];exact eB fun k _=>by grind
 rw[ao,lu,←pC];refine eB fun k ag=>?_;rw[Z8 (h.c k ag) aH];have:=jl (e k) (fun i=>ind (T.aj k) (P.n+i)*P.A i j) P.m;have e2:bs (fun i=>e k*ind (T.aj k) (P.n+i)*P.A i j) P.m=bs (fun i=>e k*(ind (T.aj k) (P.n+i)*P.A i j)) P.m:=eB fun i _=>by grind
 rw[e2,this];grind
theorem azQ(h:fh P T)(e:Nat→Rat){k:Nat}(ag:k<P.n):lu P T e (T.aj k)=e k:=by
 rw[lu,qL (j:=k) ag fun i ad aF=>by rw[ind,aU fun e=>aF (h.ci i k ad ag e),Rat.mul_zero],ind,bm rfl,Rat.mul_one]
theorem Z'{e:Nat→Rat}{x:Nat}(az:∀k,k<P.n→T.aj k≠x):lu P T e x=0:=rN fun k ag=>by rw[ind,aU (az k ag),Rat.mul_zero]
theorem Km(h:fh P T)(e:Nat→Rat)(x:Nat):(∃k,k<P.n∧T.aj k=x∧lu P T e x=e k)∨((∀k,k<P.n→T.aj k≠x)∧lu P T e x=0):=by
 by_cases az:∃k,k<P.n∧T.aj k=x
 ·obtain⟨k,ag,rfl⟩:=az;exact .inl ⟨k,ag,rfl,azQ h e ag⟩
 ·exact .inr ⟨fun k ag e=>az ⟨k,ag,e⟩,Z' fun k ag e=>az ⟨k,ag,e⟩⟩
def want(P:cr)(w:Rat)(x:Nat):Option Rat:=if w<0 then P.up x else P.lo x
theorem cert(_hm:lp.dP=true){wc:Bool}{y W β:Nat→Rat}(bu:∀i,i<lp.rows.length→y i=W (lp.aj.length+i))(aB:∀j,j<lp.aj.length→gD lp wc y j=W j)(ai:∀x,x<lp.aj.length+lp.rows.length→W x≠0→want lp.aX (W x) x=some (β x)):
 sX lp wc y (bs (fun i=>W (lp.aj.length+i)*β (lp.aj.length+i)) lp.rows.length+bs (fun j=>W j*β j) lp.aj.length):=by
 refine⟨fun i ad=>?_,fun j aH h=>?_,?_⟩
 ·have az:=ai (lp.aj.length+i) (by omega);rw[bu i ad];generalize W (lp.aj.length+i)=w at az;refine⟨fun av=>hA.1 fun bO=>?_,fun aQ=>hA.1 fun bO=>?_⟩
  ·have:=az (by grind);rw[want,aU (by grind),CW,bm av]at this;cases this
  ·have:=az (by grind);rw[want,bm bO,CX,bm aQ]at this;cases this
 ·have az:=ai j (by omega);rw[aB j aH]at h⊢;have az:=az h;unfold want at az;split at az
  ·rename_i bO;rw[bm bO];rw[Ah aH]at az;exact(sU az).1
  ·rename_i bO;rw[aU bO];rw[Ag aH]at az;exact(sU az).1
 ·congr 1
  ·refine eB fun i ad=>?_;rw[bu i ad];have az:=ai (lp.aj.length+i) (by omega);generalize W (lp.aj.length+i)=w at az;by_cases aD:w=0
   ·rw[aD,lE,lE]
   ·have az:=az aD;unfold want at az;rw[CW,CX]at az;have:rd (lp.row i).rhs=β (lp.aj.length+i):=by
     split at az
     ·split at az
      ·cases az
      ·exact(sU az).2.symm
     ·split at az
      ·cases az
      ·exact(sU az).2.symm
    rw[this]
  ·refine eB fun j aH=>?_;rw[aB j aH];have az:=ai j (by omega);generalize W j=w at az;by_cases aD:w=0
   ·rw[aD,lE,lE]
   ·have az:=az aD;unfold want at az;rw[Ag aH,Ah aH]at az;split at az
    ·rename_i bO;rw[bm bO,(sU az).2]
    ·rename_i bO;rw[aU bO,(sU az).2]
theorem aaa{w:Rat}{x:Nat}{v:Nat→Rat}(aD:w≠0)(af:can P v x (-cT w)=false)(hw:oS P v x):want P w x=some (v x):=by
 unfold want
 rcases lq aD with⟨h,e⟩ | ⟨h,e⟩<;>rw[e]at af
 ·rw[aU (by grind)];obtain⟨l,U,aa⟩:=JT (by decide) af;have:=hw.1 l U;rw[U];congr 1;grind
 ·rw[bm h];obtain⟨l,U,aa⟩:=JS (by decide) af;have:=hw.2 l U;rw[U];congr 1;grind
theorem aab(h:Inv lp.aX T){i:Nat}(ad:i<lp.rows.length):nw lp T.v i=T.v (lp.aj.length+i):=(h.val i ad).symm
theorem aac(h:Inv lp.aX T){wc:Bool}{y W:Nat→Rat}(bu:∀i,i<lp.rows.length→y i=W (lp.aj.length+i))(aB:∀j,j<lp.aj.length→gD lp wc y j=W j):
 bs (fun i=>W (lp.aj.length+i)*T.v (lp.aj.length+i)) lp.rows.length+bs (fun j=>W j*T.v j) lp.aj.length=if wc then lp.nh T.v else 0:=by
 rw[←Q0,QZ wc y T.v,Rat.add_comm];congr 1
 ·exact eB fun j aH=>by rw[aB j aH]
 ·exact eB fun i ad=>by rw[bu i ad,aab h ad]
theorem azR(hm:lp.dP=true)(h:Inv lp.aX T)(bc:uE lp.aX T)(he:enters lp.aX lp.cs T=none){y:Nat→Rat}(bu:∀i,i<lp.rows.length→y i=lu lp.aX T (red lp.aX lp.cs T) (lp.aj.length+i)):sX lp true y (lp.nh T.v):=by
 have aB:∀j,j<lp.aj.length→gD lp true y j=lu lp.aX T (red lp.aX lp.cs T) j:=fun j aH=>by
  have U:=ZF (c:=lp.cs) h (j:=j) aH;rw[Z9 h.bj (red lp.aX lp.cs T) aH]at U;have e:bs (fun i=>y i*lp.aX.A i j) lp.rows.length=bs (fun i=>lu lp.aX T (red lp.aX lp.cs T) (lp.aX.n+i)*lp.aX.A i j) lp.aX.m:=eB fun i ad=>by rw[bu i ad];rfl
  unfold gD;rw[e];show lp.cs j-_=_;rw[U];grind
 have kg:=cert hm (wc:=true) (β:=T.v) bu aB fun x az aD=>by
  rcases Km h.bj (red lp.aX lp.cs T) x with⟨k,ag,ao,e2⟩ | ⟨_,e2⟩
  ·rw[e2]at aD⊢;have:=FI he k ag;simp only[Bool.and_eq_false_iff,decide_eq_false_iff_not]at this;rw[←ao];exact aaa aD (this.resolve_left fun h=>h aD) (bc _ (by rw[ao];exact az))
  ·exact absurd e2 aD
 rw[aac h (wc:=true) bu aB]at kg;exact kg
theorem uE.fits(hm:lp.dP=true)(h:Inv lp.aX T)(bc:uE lp.aX T):sW lp T.v:=by
 refine⟨fun j aH=>?_,fun i ad=>?_⟩
 ·obtain⟨U,aa⟩:=bc j (show j<lp.aj.length+lp.rows.length by omega);rw[Ag aH]at U;rw[Ah aH]at aa;exact⟨fun e=>U _ (by rw[gT,aU e]),fun e=>aa _ (by rw[gT,aU e])⟩
 ·obtain⟨U,aa⟩:=bc (lp.aj.length+i) (show lp.aj.length+i<lp.aj.length+lp.rows.length by omega);rw[CW]at U;rw[CX]at aa;rw[aab h ad];have aF:isNum (lp.row i).rhs=true:=by
   have:=Kb hm ad;simp only[k8,cG]at this;exact this.2.1
  have dr:(lp.row i).rhs≠[]:=by
   intro e;rw[e]at aF;simp[isNum,Jj]at aF
  have aS:gT (lp.row i).rhs=some (rd (lp.row i).rhs):=by rw[gT,aU dr]
  refine⟨fun av=>aa _ (by rw[aU (by omega)];exact aS),fun aQ=>U _ (by rw[aU (by omega)];exact aS),fun av aQ=>?_⟩;have a:=aa _ (by rw[aU aQ];exact aS);have b:=U _ (by rw[aU av];exact aS);grind
end
section
variable{lp:bD}{T:b8}{P:cr}
def jJ(P:cr)(T:b8)(a x:Nat):Rat:=(off P T.v (T.rows a):Rat)*ind (T.rows a) x+lu P T (mH P T a) x
theorem Q3{a k:Nat}(au:off P T.v (T.rows a)≠0):mH P T a k=-((off P T.v (T.rows a):Rat)*T.M a k):=by
 unfold mH
 rcases Ab au with e | e<;>rw[e]
 ·simp
 ·simp;grind
theorem Kn{a:Nat}(h:fh P T)(aN:a<P.m):jJ P T a (T.rows a)=(off P T.v (T.rows a):Rat):=by
 rw[jJ,Z' fun k ag e=>h.rc a k aN ag e.symm,ind,bm rfl,Rat.mul_one,Rat.add_zero]
theorem Q4{a x:Nat}(az:x≠T.rows a):jJ P T a x=lu P T (mH P T a) x:=by
 rw[jJ,ind,aU (Ne.symm az),Rat.mul_zero,Rat.zero_add]
def yq(P:cr)(T:b8)(a x:Nat):Rat:=if x=T.rows a then goal P (T.rows a) (off P T.v (T.rows a)) else T.v x
def qP(P:cr)(T:b8)(a:Nat):Rat:=(off P T.v (T.rows a):Rat)*(goal P (T.rows a) (off P T.v (T.rows a))-T.v (T.rows a))
theorem azS{a:Nat}(au:off P T.v (T.rows a)≠0):0<qP P T a:=by
 unfold qP goal
 rcases yj au with⟨e,l,aO,h⟩ | ⟨e,l,aO,h⟩<;>rw[e]
 ·rw[aU (by decide),aO];simp;grind
 ·rw[bm (by decide),aO];simp;grind
theorem azT(hm:lp.dP=true)(h:Inv lp.aX T)(aF:Aa lp.aX T){a:Nat}(hw:uC lp.aX T=some a)(c9:sP lp.aX T a (off lp.aX T.v (T.rows a))=none){y:Nat→Rat}(bu:∀i,i<lp.rows.length→y i=jJ lp.aX T a (lp.aj.length+i)):sX lp false y (qP lp.aX T a):=by
 obtain⟨aN,au,_⟩:=n2 hw;have au:off lp.aX T.v (T.rows a)≠0:=by simpa using au
 have nU:=h.bj.r a aN;have aB:∀j,j<lp.aj.length→gD lp false y j=jJ lp.aX T a j:=fun j aH=>by
  have ao:=Z9 h.bj (mH lp.aX T a) (j:=j) aH;have e2:=Z8 (P:=lp.aX) nU (j:=j) aH;have bd:=QF h aN (j:=j) aH;have b1:bs (fun k=>mH lp.aX T a k*form lp.aX (T.aj k) j) lp.aX.n=-((off lp.aX T.v (T.rows a):Rat)*form lp.aX (T.rows a) j):=by
   have:=jl (-(off lp.aX T.v (T.rows a):Rat)) (fun k=>T.M a k*form lp.aX (T.aj k) j) lp.aX.n;rw[bd];rw[show -((off lp.aX T.v (T.rows a):Rat)*bs (fun k=>T.M a k*form lp.aX (T.aj k) j) lp.aX.n)=-(off lp.aX T.v (T.rows a):Rat)*bs (fun k=>T.M a k*form lp.aX (T.aj k) j) lp.aX.n by grind,←this];exact eB fun k _=>by rw[Q3 au];grind
  have cK:bs (fun i=>y i*lp.aX.A i j) lp.rows.length=(off lp.aX T.v (T.rows a):Rat)*bs (fun i=>ind (T.rows a) (lp.aX.n+i)*lp.aX.A i j) lp.aX.m+bs (fun i=>lu lp.aX T (mH lp.aX T a) (lp.aX.n+i)*lp.aX.A i j) lp.aX.m:=by
   rw[←jl,←pC];refine eB fun i ad=>?_;rw[bu i ad];show jJ lp.aX T a (lp.aX.n+i)*_=_;unfold jJ;grind
  unfold gD;rw[cK];show(0:Rat)-_=_;rw[jJ];rw[b1]at ao;rw[e2]at ao;grind
 have kg:=cert hm (wc:=false) (β:=yq lp.aX T a) bu aB fun x az aD=>by
  by_cases e:x=T.rows a
  ·subst e;rw[Kn h.bj aN]at aD⊢;unfold yq goal want;rw[bm rfl]
   rcases yj au with⟨e,l,aO,_⟩ | ⟨e,l,aO,_⟩<;>rw[e]
   ·rw[aU (by decide),aU (by decide),aO];rfl
   ·rw[bm (by decide),bm (by decide),aO];rfl
  ·rw[Q4 e]at aD⊢;unfold yq;rw[aU e]
   rcases Km h.bj (mH lp.aX T a) x with⟨k,ag,ao,e2⟩ | ⟨_,e2⟩
   ·rw[e2]at aD⊢;have af:=FI c9 k ag;simp only[Bool.and_eq_false_iff,decide_eq_false_iff_not]at af;rw[←ao];have dp:T.M a k≠0:=by
     intro dp;rw[Q3 au,dp]at aD;exact aD (by grind)
    have af:=af.resolve_left fun h=>h dp;refine aaa aD ?_ (aF k ag);have:-cT (mH lp.aX T a k)=off lp.aX T.v (T.rows a)*cT (T.M a k):=by
     rw[Q3 au]
     rcases Ab au with e | e<;>rw[e]
     ·rcases lq dp with⟨U,ao⟩ | ⟨U,ao⟩<;>rw[ao]
      ·have:cT (-(((1:Int):Rat)*T.M a k))=-1:=by unfold cT;rw[bm (by simp;grind)]
       rw[this];rfl
      ·have:cT (-(((1:Int):Rat)*T.M a k))=1:=by unfold cT;rw[aU (by simp;grind),aU (by simp;grind)]
       rw[this];rfl
     ·rcases lq dp with⟨U,ao⟩ | ⟨U,ao⟩<;>rw[ao]
      ·have:cT (-(((-1:Int):Rat)*T.M a k))=1:=by unfold cT;rw[aU (by simp;grind),aU (by simp;grind)]
       rw[this];rfl
      ·have:cT (-(((-1:Int):Rat)*T.M a k))=-1:=by unfold cT;rw[bm (by simp;grind)]
       rw[this];rfl
    rw[this];exact af
   ·exact absurd e2 aD
 have aD:=aac h (wc:=false) bu aB;simp only[oc,if_false]at aD;have az:∀x,jJ lp.aX T a x*yq lp.aX T a x=jJ lp.aX T a x*T.v x+qP lp.aX T a*ind (T.rows a) x:=fun x=>by
  by_cases e:x=T.rows a
  ·subst e;rw[Kn h.bj aN];unfold yq ind qP;rw[bm rfl,bm rfl];grind
  ·unfold yq ind;rw[aU e,aU (Ne.symm e)];grind
 have ao:bs (fun i=>jJ lp.aX T a (lp.aj.length+i)*yq lp.aX T a (lp.aj.length+i)) lp.rows.length=bs (fun i=>jJ lp.aX T a (lp.aj.length+i)*T.v (lp.aj.length+i)) lp.rows.length+qP lp.aX T a*bs (fun i=>ind (T.rows a) (lp.aj.length+i)) lp.rows.length:=by
  rw[←jl,←pC];exact eB fun i _=>az _
 have e2:bs (fun j=>jJ lp.aX T a j*yq lp.aX T a j) lp.aj.length=bs (fun j=>jJ lp.aX T a j*T.v j) lp.aj.length+qP lp.aX T a*bs (fun j=>ind (T.rows a) j) lp.aj.length:=by
  rw[←jl,←pC];exact eB fun i _=>az _
 have nU:T.rows a<lp.aj.length+lp.rows.length:=nU;have bd:bs (fun i=>ind (T.rows a) (lp.aj.length+i)) lp.rows.length+bs (fun j=>ind (T.rows a) j) lp.aj.length=1:=by
  by_cases an:T.rows a<lp.aj.length
  ·rw[rN (f:=fun i=>ind (T.rows a) (lp.aj.length+i)) fun i _=>by show ind _ _=0;rw[ind,aU (by omega)],qL (f:=fun j=>ind (T.rows a) j) an fun i _ aF=>by show ind _ _=0;rw[ind,aU (Ne.symm aF)]];show 0+ind _ _=1;rw[ind,bm rfl,Rat.zero_add]
  ·rw[qL (f:=fun i=>ind (T.rows a) (lp.aj.length+i)) (j:=T.rows a-lp.aj.length) (by omega) fun i _ aF=>by show ind _ _=0;rw[ind,aU (by omega)],rN (f:=fun j=>ind (T.rows a) j) fun i ad=>by show ind _ _=0;rw[ind,aU (by omega)]];show ind _ _+0=1;rw[ind,bm (by omega),Rat.add_zero]
 rw[ao,e2]at kg;have:bs (fun i=>jJ lp.aX T a (lp.aj.length+i)*T.v (lp.aj.length+i)) lp.rows.length+qP lp.aX T a*bs (fun i=>ind (T.rows a) (lp.aj.length+i)) lp.rows.length+(bs (fun j=>jJ lp.aX T a j*T.v j) lp.aj.length+qP lp.aX T a*bs (fun j=>ind (T.rows a) j) lp.aj.length)=qP lp.aX T a:=by grind
 rw[this]at kg;exact kg
theorem azU(h:fh P T){col:Nat}{way:Int}(af:col<P.n)(hw:way=1∨way=-1)(iE:(fv P T col way P.m).gH=none){x:Nat}(az:x<P.n+P.m):(0<kU P T col way x→P.up x=none)∧(kU P T col way x<0→P.lo x=none):=by
 obtain⟨gu,fU⟩:=(J1 P T col way P.m).FT iE;have uI:∀{x:Nat} {w:Int},room P T.v x w=none→(w=1→P.up x=none)∧(w=-1→P.lo x=none):=fun{x w} an=>by
  constructor
  ·rintro rfl
   cases e:P.up x with
   | none=>rfl
   | some u=>rw[JX e]at an;cases an
  ·rintro rfl
   cases e:P.lo x with
   | none=>rfl
   | some u=>rw[JY e]at an;cases an
 rcases h.mE x az with⟨i,ad,rfl⟩ | ⟨k,ag,rfl⟩
 ·rw[CT h af ad];by_cases dp:T.M i col=0
  ·rw[dp,lE];exact⟨fun h=>absurd h (by decide),fun h=>absurd h (by decide)⟩
  ·have an:=fU i ad dp;have aC:=oU dp;rw[Rat.mul_comm]
   rcases CR hw dp with⟨ao,e2⟩ | ⟨ao,e2⟩<;>rw[e2]
   ·exact⟨fun _=>(uI an).1 ao,fun h=>by grind⟩
   ·exact⟨fun h=>by grind,fun _=>(uI an).2 ao⟩
 ·rw[uF h af ag];by_cases e:k=col
  ·subst e;rw[bm rfl]
   rcases hw with rfl | rfl
   ·exact⟨fun _=>(uI gu).1 rfl,fun h=>absurd h (by decide)⟩
   ·exact⟨fun h=>absurd h (by decide),fun _=>(uI gu).2 rfl⟩
  ·rw[aU e];exact⟨fun h=>absurd h (by decide),fun h=>absurd h (by decide)⟩
theorem azV(hm:lp.dP=true)(h:Inv lp.aX T){col:Nat}(he:enters lp.aX lp.cs T=some col)(iE:(fv lp.aX T col (gl lp.aX lp.cs T col) lp.aX.m).gH=none):Ai lp (kU lp.aX T col (gl lp.aX lp.cs T col)):=by
 obtain⟨af,gy,_⟩:=n2 he;simp only[cG,eh]at gy;have hw:gl lp.aX lp.cs T col=1∨gl lp.aX lp.cs T col=-1:=by
  unfold gl
  rcases lq gy.1 with⟨_,e⟩ | ⟨_,e⟩<;>rw[e]<;>simp
 have eW:=fun x az=>azU h.bj af hw iE (x:=x) az;refine⟨fun j aH=>?_,fun i ad=>?_,?_⟩
 ·obtain⟨f1,f2⟩:=eW j (show j<lp.aj.length+lp.rows.length by omega);rw[Ah aH]at f1;rw[Ag aH]at f2;exact⟨fun e=>hA.1 fun bO=>e (QL.1 (f2 bO)),fun e=>hA.1 fun bO=>e (QL.1 (f1 bO))⟩
 ·obtain⟨f1,f2⟩:=eW (lp.aj.length+i) (show lp.aj.length+i<lp.aj.length+lp.rows.length by omega);have Pg:nw lp (kU lp.aX T col (gl lp.aX lp.cs T col)) i=kU lp.aX T col (gl lp.aX lp.cs T col) (lp.aj.length+i):=(Qu h af i ad).symm;rw[Pg];rw[CX]at f1;rw[CW]at f2;have dr:(lp.row i).rhs≠[]:=by
   intro e;have:=Kb hm ad;simp only[k8,cG]at this;rw[e]at this;simp[isNum,Jj]at this
  have aS:¬gT (lp.row i).rhs=none:=fun e=>dr (QL.1 e);have u:(lp.row i).kind≠3→kU lp.aX T col (gl lp.aX lp.cs T col) (lp.aj.length+i)≤0:=fun aQ=>hA.1 fun bO=>by
   have:=f1 bO;rw[aU aQ]at this;exact aS this
  have l:(lp.row i).kind≠1→0≤kU lp.aX T col (gl lp.aX lp.cs T col) (lp.aj.length+i):=fun av=>hA.1 fun bO=>by
   have:=f2 bO;rw[aU av]at this;exact aS this
  exact⟨fun av=>u (by omega),fun aQ=>l (by omega),fun av aQ=>by have a:=u aQ;have b:=l av;grind⟩
 ·have e:=Zw (c:=lp.cs) h (way:=gl lp.aX lp.cs T col) af;have e2:lp.nh (kU lp.aX T col (gl lp.aX lp.cs T col))=obj lp.aX lp.cs (kU lp.aX T col (gl lp.aX lp.cs T col)):=rfl;rw[e2,e];unfold gl
  rcases lq gy.1 with⟨aD,e⟩ | ⟨aD,e⟩<;>rw[e]
  ·simp;grind
  ·simp;grind
end
section
variable{lp:bD}{T:b8}{P:cr}
theorem aad:dB 0=[48]:=by
 have:Lib.decDigits 0=[48]:=by rw[Lib.decDigits_one (by decide)];rfl
 simp[dB,this]
theorem azW:dB 1=[49]:=by
 have:Lib.decDigits 1=[49]:=by rw[Lib.decDigits_one (by decide)];rfl
 have h:¬(1:Rat)<0:=by decide
 simp[dB,this,h]
theorem azX:dB (-1)=[45,49]:=by
 have:Lib.decDigits 1=[49]:=by rw[Lib.decDigits_one (by decide)];rfl
 have h:(-1:Rat)<0:=by decide
 have U:(-1:Rat).num.natAbs=1:=by decide
 have aa:(-1:Rat).den=1:=by decide
 simp[dB,this,h,aa]
theorem aae{d:Nat→Rat}{i:Nat}:∀{K:Nat},(∀k,k<K→T.aj k≠P.n+i)→rS P T d K i=[48]
 | 0,_=>rfl
 | K+1,h=>by rw[rS,aU (h K (by omega)),aae fun k ag=>h k (by omega)]
theorem aaf(bj:fh P T){d:Nat→Rat}{i k:Nat}:∀{K:Nat},K≤P.n→k<K→T.aj k=P.n+i→rS P T d K i=dB (d k)
 | K+1,db,ag,e=>by
   rw[rS];by_cases h:k=K
   ·subst h;rw[bm e]
   ·rw[aU fun e2=>h (bj.ci k K (by omega) (by omega) (e.trans e2.symm)),aaf bj (by omega) (by omega) e]
theorem aag(bj:fh P T)(d:Nat→Rat)(i:Nat):rS P T d P.n i=dB (lu P T d (P.n+i)):=by
 rcases Km bj d (P.n+i) with⟨k,ag,ao,e2⟩ | ⟨h,e⟩
 ·rw[e2,aaf bj (bR _) ag ao]
 ·rw[e,aae h,aad]
theorem aah(bj:fh P T){a:Nat}(aN:a<P.m)(au:off P T.v (T.rows a)≠0)(i:Nat):qQ P T a i=dB (jJ P T a (P.n+i)):=by
 unfold qQ;by_cases h:T.rows a=P.n+i
 ·rw[bm h,←h,Kn bj aN]
  rcases Ab au with e | e<;>rw[e]
  ·rw[bm (by decide)];exact azW.symm
  ·rw[aU (by decide)];exact azX.symm
 ·rw[aU h,Q4 (Ne.symm h),aag bj]
theorem aai(bj:fh P T){col:Nat}{way:Int}{i:Nat}(ad:i<P.m):∀{K:Nat},K≤P.m→i<K→oX T col way K (T.rows i)=dB (T.M i col*(way:Rat))
 | K+1,db,h=>by
   rw[oX];by_cases e:i=K
   ·subst e;rw[bm rfl]
   ·rw[aU fun e2=>e (bj.qM i K ad (by omega) e2),aai bj ad (by omega) (by omega)]
theorem aaj(bj:fh P T){col:Nat}{way:Int}(af:col<P.n){k:Nat}(ag:k<P.n):∀{K:Nat},K≤P.m→oX T col way K (T.aj k)=dB (if k=col then(way:Rat) else 0)
 | 0,_=>by
   rw[oX];by_cases e:k=col
   ·subst e;rw[bm rfl,bm rfl]
   ·rw[aU fun e2=>e (bj.ci k col ag af e2),aU e,aad]
 | K+1,db=>by rw[oX,aU fun e=>bj.rc K k (by omega) ag e.symm,aaj bj af ag (by omega)]
theorem azY(bj:fh P T){col:Nat}{way:Int}(af:col<P.n){x:Nat}(az:x<P.n+P.m):oX T col way P.m x=dB (kU P T col way x):=by
 rcases bj.mE x az with⟨i,ad,rfl⟩ | ⟨k,ag,rfl⟩
 ·rw[CT bj af ad,aai bj ad (bR _) ad]
 ·rw[uF bj af ag,aaj bj af ag (bR _)]
theorem Aj{m:Nat}{f:Nat→Rat}{i:Nat}(ad:i<m)(h:cP kV (f i)):e1 ((List.range m).map fun i=>dB (f i)) i=f i:=by
 unfold e1;rw[ob,List.getElem?_map,List.getElem?_range ad];exact h.rd
theorem CY(hm:lp.dP=true){m:Nat}{f:Nat→Rat}(h:∀i,i<m→cP kV (f i)):h5 lp ((List.range m).map fun i=>dB (f i)) m=true:=by
 unfold h5;rw[hm];simp only[List.length_map,List.length_range,decide_true,Bool.and_true];rw[hz];intro s aG;obtain⟨i,ad,rfl⟩:=List.mem_map.1 aG;exact(h i (List.mem_range.1 ad)).isNum
theorem F'{m:Nat}(hm:m≤1000){f:Nat→Rat}(h:∀i,i<m→cP kV (f i)):qy ((List.range m).map fun i=>dB (f i)):=by
 refine⟨by simp;omega,fun s aG=>?_⟩;obtain⟨i,ad,rfl⟩:=List.mem_map.1 aG;exact(h i (List.mem_range.1 ad)).len
theorem sW.congr{x cZ:Nat→Rat}(h:sW lp x)(e:∀j,j<lp.aj.length→cZ j=x j):sW lp cZ:=
 ⟨fun j aH=>by rw[e j aH];exact h.c j aH,fun i ad=>by
  rw[show nw lp cZ i=nw lp x i from eB fun j aH=>by rw[e j aH]];exact h.r i ad⟩
theorem aak{x cZ:Nat→Rat}(e:∀j,j<lp.aj.length→cZ j=x j):lp.nh cZ=lp.nh x:=eB fun j aH=>by rw[e j aH]
theorem Ai.congr{x cZ:Nat→Rat}(h:Ai lp x)(e:∀j,j<lp.aj.length→cZ j=x j):Ai lp cZ:=
 ⟨fun j aH=>by rw[e j aH];exact h.c j aH,fun i ad=>by
  rw[show nw lp cZ i=nw lp x i from eB fun j aH=>by rw[e j aH]];exact h.r i ad,by rw[aak e];exact h.n⟩
theorem Q5{B:Nat}{q:Rat}(h:cP B q):cP B (-q):=by
 unfold cP at*
 rw[Rat.neg_num,Rat.neg_den,Int.natAbs_neg];exact h
theorem aal{B:Nat}(h:1≤B):cP B 1:=⟨h,h⟩
theorem aam{B:Nat}(dC:1≤B){w:Int}(h:w=1∨w=-1):cP B (w:Rat):=by
 rcases h with rfl | rfl
 ·exact aal dC
 ·exact Q5 (aal dC)
theorem aan{B:Nat}{q:Rat}(h:cP B q){w:Int}(hw:w=1∨w=-1):cP B (q*(w:Rat)):=by
 rcases hw with rfl | rfl
 ·have:q*((1:Int):Rat)=q:=by simp
  rw[this];exact h
 ·have:q*((-1:Int):Rat)=-q:=by simp;grind
  rw[this];exact Q5 h
theorem Ko:1≤kV:=bZf 1900
theorem aao(bj:fh P T){e:Nat→Rat}{B:Nat}(dC:1≤B)(h:∀k,k<P.n→cP B (e k))(x:Nat):cP B (lu P T e x):=by
 rcases Km bj e x with⟨k,ag,_,e2⟩ | ⟨_,e2⟩
 ·rw[e2];exact h k ag
 ·rw[e2];exact Af dC
theorem azZ{a b:Nat}{p q:Rat}(aC:cP a p)(aV:cP b q):cP (a*b+b*a) (p-q):=by
 have e:(p-q)*((p.den:Rat)*(q.den:Rat))=((p.num*q.den-q.num*p.den:Int):Rat):=by
  simp only[Rat.intCast_sub,Rat.intCast_mul,←Ad p,←Ad q,q3];grind
 refine FW e ⟨_,rfl,?_⟩ (⟨((p.den*q.den:Nat):Int),?_,bR _⟩:fz _ (p.den*q.den)) ?_ (bR _) ?_
 ·refine bH (Int.natAbs_sub_le _ _) ?_;rw[Int.natAbs_mul,Int.natAbs_mul];exact Nat.add_le_add (ie aC.1 aV.2) (ie aV.1 aC.2)
 ·rw[q3,Rat.natCast_mul]
 ·intro h
  rcases Rat.mul_eq_zero.1 h with h | h
  ·exact p.den_nz (by exact_mod_cast h)
  ·exact q.den_nz (by exact_mod_cast h)
 ·exact bH (ie aC.2 aV.2) (hS _ _)
end
section
variable{lp:bD}{T:b8}
theorem az0{lp:bD}{T:b8}{col:Nat}(he:enters lp.aX lp.cs T=some col):gl lp.aX lp.cs T col=1∨gl lp.aX lp.cs T col=-1:=by
 obtain⟨_,gy,_⟩:=n2 he;simp only[cG,eh]at gy;unfold gl
 rcases lq gy.1 with⟨_,e⟩ | ⟨_,e⟩<;>rw[e]<;>simp
theorem j0.az1(h:iA lp)(bK:j0 lp.aX (hE lp) T){col:Nat}(af:col<lp.aj.length){way:Int}(hw:way=1∨way=-1){x:Nat}(az:x<lp.aj.length+lp.rows.length):cP kV (kU lp.aX T col way x):=by
 rcases bK.inv.bj.mE x az with⟨i,ad,rfl⟩ | ⟨k,ag,rfl⟩
 ·rw[CT bK.inv.bj af ad];exact aan (sV (bK.Kg h ad af) (by decide)) hw
 ·rw[uF bK.inv.bj af ag];split
  ·exact aam Ko hw
  ·exact Af Ko
theorem az2{P:cr}{B a k:Nat}(h:cP B (T.M a k)):cP B (mH P T a k):=by
 unfold mH;split
 ·exact Q5 h
 ·exact h
theorem aap{P:cr}(bj:fh P T){B a:Nat}(dC:1≤B)(aN:a<P.m)(au:off P T.v (T.rows a)≠0)(h:∀k,k<P.n→cP B (T.M a k))(x:Nat):cP B (jJ P T a x):=by
 by_cases e:x=T.rows a
 ·rw[e,Kn bj aN];exact aam dC (Ab au)
 ·rw[Q4 e];exact aao bj dC (fun k ag=>az2 (h k ag)) x
theorem az3{P:cr}{V x:Nat}(eI:F0 P V)(w:Int):cP V (goal P x w):=by
 unfold goal;split
 ·cases e:P.up x with
  | none=>exact Af eI.v1
  | some u=>exact eI.up x u e
 ·cases e:P.lo x with
  | none=>exact Af eI.v1
  | some u=>exact eI.lo x u e
theorem az4(h:iA lp)(bK:j0 lp.aX (hE lp) T){a:Nat}(aN:a<lp.rows.length)(au:off lp.aX T.v (T.rows a)≠0):cP kV (qP lp.aX T a):=by
 have U:=azZ (az3 (x:=T.rows a) h.F4 (off lp.aX T.v (T.rows a))) (bK.F8 h (bK.inv.bj.r a aN));have aa:hc*bZa 1660+bZa 1660*hc≤bZa 1900:=by
  have e:hc*bZa 1660=bZa 1690:=by rw[show hc=bZa 30 from(bZb 30).symm];exact bZd (by decide)
  rw[gw (bZa 1660),e];have:bZa 1900=bZa 210*bZa 1690:=(bZd (by decide)).symm;rw[this];have az5:2≤bZa 210:=bH (show 2≤bZa 1 by rw[bZb];decide) (bZc (by decide));have:=hQ (bZa 1690) az5;generalize bZa 1690=p at*
  omega
 have aq:cP kV (goal lp.aX (T.rows a) (off lp.aX T.v (T.rows a))-T.v (T.rows a)):=U.mono (show _≤kV by unfold kV;exact aa);unfold qP;rw[Rat.mul_comm];exact aan aq (Ab au)
theorem aym(h:iA lp)(hm:lp.dP=true){c:iz}(aG:CZ lp (wC lp.aX (hE lp)) (uG lp.aX (hE lp)) c):kQ lp c=true∧c.ok:=by
 have Q6:=h.n;have Ga:=h.m
 rcases aG with⟨T,a,bK,hw,c9⟩ | ⟨T,col,bK,he,iE⟩ | ⟨T,bK,he⟩
 ·obtain⟨aN,au,_⟩:=n2 hw;have au:off lp.aX T.v (T.rows a)≠0:=by simpa using au
  have uJ:∀i,i<lp.rows.length→cP kV (jJ lp.aX T a (lp.aj.length+i)):=fun i _=>aap bK.1.inv.bj Ko aN au (fun k ag=>sV (bK.1.Kg h aN ag) (by decide)) _;have az:(List.range lp.aX.m).map (qQ lp.aX T a)=(List.range lp.rows.length).map fun i=>dB (jJ lp.aX T a (lp.aj.length+i)):=List.map_congr_left fun i ad=>aah bK.1.inv.bj aN au i;rw[az];have ai:gR lp ((List.range lp.rows.length).map fun i=>dB (jJ lp.aX T a (lp.aj.length+i))) false=some (qP lp.aX T a):=by
   unfold gR;rw[bm (CY hm uJ)];exact(QY hm).2 (azT hm bK.1.inv bK.2 hw c9 fun i ad=>Aj ad (uJ i ad))
  refine⟨?_,⟨⟨by simp,by simp⟩,F' (by omega) uJ,⟨by simp,by simp⟩⟩⟩;unfold kQ;rw[aU (show ¬((2:Int)=1) by decide),bm rfl];simp only[ai,jj,(az4 h bK.1 aN au).rd];simp[azS au]
 ·obtain⟨d',_,_⟩:=n2 he;have kn:=az0 he;have rT:∀j,j<lp.aj.length→cP kV (T.v j):=fun j aH=>sV (bK.1.F8 h (by omega)) (by decide);have ya:∀j,j<lp.aj.length→cP kV (kU lp.aX T col (gl lp.aX lp.cs T col) j):=fun j aH=>bK.1.az1 h d' kn (by omega);have az:(List.range lp.aX.n).map (oX T col (gl lp.aX lp.cs T col) lp.aX.m)=(List.range lp.aj.length).map fun j=>dB (kU lp.aX T col (gl lp.aX lp.cs T col) j):=List.map_congr_left fun j aH=>azY bK.1.inv.bj d' (by have:=List.mem_range.1 aH;omega);rw[az];have aC:nv lp T=(List.range lp.aj.length).map fun j=>dB (T.v j):=rfl;have bc:lg lp (nv lp T)=true:=by
   unfold lg;rw[aC,show lp.aj.length=lp.aj.length from rfl,CY hm rT,Bool.true_and];exact(QX hm).2 ((uE.fits hm bK.1.inv bK.2).congr fun j aH=>Aj aH (rT j aH))
  have an:pw lp ((List.range lp.aj.length).map fun j=>dB (kU lp.aX T col (gl lp.aX lp.cs T col) j))=true:=by
   unfold pw;rw[CY hm ya,Bool.true_and];exact(Z4 hm).2 ((azV hm bK.1.inv he iE).congr fun j aH=>Aj aH (ya j aH))
  refine⟨?_,⟨aC▸F' (by omega) rT,⟨by simp,by simp⟩,F' (by omega) ya⟩⟩;unfold kQ;rw[aU (show ¬((3:Int)=1) by decide),aU (show ¬((3:Int)=2) by decide),bm rfl];simp[bc,an]
 ·have rT:∀j,j<lp.aj.length→cP kV (T.v j):=fun j aH=>sV (bK.1.F8 h (by omega)) (by decide);have aC:nv lp T=(List.range lp.aj.length).map fun j=>dB (T.v j):=rfl;have uJ:∀i,i<lp.rows.length→cP kV (lu lp.aX T (red lp.aX lp.cs T) (lp.aj.length+i)):=fun i _=>aao bK.1.inv.bj Ko (fun k ag=>sV (bK.1.azM h ag) (by decide)) _;have aB:Q7 lp T=(List.range lp.rows.length).map fun i=>dB (lu lp.aX T (red lp.aX lp.cs T) (lp.aj.length+i)):=List.map_congr_left fun i _=>aag bK.1.inv.bj _ i;have bc:lg lp (nv lp T)=true:=by
   unfold lg;rw[aC,CY hm rT,Bool.true_and];exact(QX hm).2 ((uE.fits hm bK.1.inv bK.2).congr fun j aH=>Aj aH (rT j aH))
  have aw:kN lp (nv lp T)=some (lp.nh T.v):=by
   unfold kN;rw[aC,bm (CY hm rT),aak fun j aH=>Aj aH (rT j aH)]
  have ai:gR lp (Q7 lp T) true=some (lp.nh T.v):=by
   unfold gR;rw[aB,bm (CY hm uJ)];exact(QY hm).2 (azR hm bK.1.inv bK.2 he fun i ad=>Aj ad (uJ i ad))
  refine⟨?_,⟨aC▸F' (by omega) rT,aB▸F' (by omega) uJ,⟨by simp,by simp⟩⟩⟩;unfold kQ;rw[bm rfl];simp[bc,aw,ai,Gb,jj]
end
section
variable{lp:bD}
theorem az6{q:Rat}{k:Nat}(h:sz q k)(ag:1≤k):(dB q).length≤20*k+2:=by
 have ck:=Gc h.1 ag;have cJ:=Gc h.2 ag;unfold dB;simp only[tr];split<;>split<;>simp<;>omega
theorem az7(h:iA lp)(i j:Nat):sz (lp.aX.A i j) 30:=by
 rcases QK (l:=(lp.row i).cM) (f:=fun _=>0) j with e | ⟨c,af,e⟩
 ·show sz (nu _ j) _;rw[nu,e];exact uh (by decide)
 ·show sz (nu _ j) _;rw[nu,e];exact jf ((F3 h i).2 c af) (by decide)
theorem Pz(h:iA lp)(hm:lp.dP=true){wc:Bool}{dz:List (List UInt8)}(bu:∀i,sz (e1 dz i) 400):(jj (gR lp dz wc)).length<1000000:=by
 have aF:=h.n;have Ga:=h.m
 cases e:gR lp dz wc with
 | none=>simp[jj]
 | some b=>
   have ai:=(Q2 hm e).ls.sum;have U:sz (bs (fun i=>e1 dz i*rd (lp.row i).rhs) lp.rows.length) 2600:=by
    refine ff (Ch (t:=400+30) fun i _=>la (bu i) (jf (F3 h i).1 (by decide))) ?_;exact bH (Nat.succ_le_succ (ie Ga (bR (400+30+1)))) (by decide)
   have aa:∀j,sz (gD lp wc (e1 dz) j) 2640:=fun j=>by
    have aG:sz (bs (fun i=>e1 dz i*lp.aX.A i j) lp.rows.length) 2600:=by
     refine ff (Ch (t:=400+30) fun i _=>la (bu i) (az7 h i j)) ?_;exact bH (Nat.succ_le_succ (ie Ga (bR (400+30+1)))) (by decide)
    have aD:sz (d0 lp wc j) 30:=by
     unfold d0;split
     ·exact jf (yn h j).2.2 (by decide)
     ·exact uh (by decide)
    exact ff (Yv aD aG) (by omega)
   have aq:sz (bs (fun j=>gD lp wc (e1 dz) j*rd (if gD lp wc (e1 dz) j<0 then(lp.col j).up else(lp.col j).low)) lp.aj.length) 16100:=by
    refine ff (Ch (t:=2640+30) fun j _=>la (aa j) ?_) ?_
    ·split
     ·exact jf (yn h j).2.1 (by decide)
     ·exact jf (yn h j).1 (by decide)
    ·exact bH (Nat.succ_le_succ (ie aF (bR (2640+30+1)))) (by decide)
   have a8:sz b 20000:=by rw[ai];exact ff (zz U aq) (by omega)
   have:=az6 a8 (by decide);show(dB b).length<_;omega
theorem bZi(c a b:Nat)(af:1<c)(h:a<b):c^a<c^b:=Nat.pow_lt_pow_right af h
theorem az8{q:Rat}(h:cP (bZa 1446) q):sz q 400:=by
 have dC:bZa 1446<4294967296^400:=by
  have:bZa 1446≤bZa 9^161:=by rw[bZh];exact bZc (by decide)
  have aa:bZa 9^161≤4294967296^161:=Nat.pow_le_pow_left (by rw[bZb];decide) _;exact eD (bH this aa) (bZi 4294967296 161 400 (by decide) (by decide))
 exact⟨eD h.1 dC,eD h.2 dC⟩
theorem YM{xs:List (List UInt8)}(h:∀s∈xs,s.length≤400)(i:Nat):sz (e1 xs i) 400:=by
 unfold e1;rw[ob]
 cases e:xs[i]? with
 | none=>exact jf (by simp) (by decide)
 | some s=>exact jf (h s (fR e)) (by decide)
theorem ayo(h:iA lp)(hm:lp.dP=true){c:iz}(aG:CZ lp (wC lp.aX (hE lp)) (uG lp.aX (hE lp)) c)(aa:c.st=2):(jj (gR lp c.d false)).length<1000000:=by
 rcases aG with⟨T,a,bK,hw,c9⟩ | ⟨T,col,bK,he,iE⟩ | ⟨T,bK,he⟩
 ·obtain⟨aN,au,_⟩:=n2 hw;have au:off lp.aX T.v (T.rows a)≠0:=by simpa using au
  have az:(List.range lp.aX.m).map (qQ lp.aX T a)=(List.range lp.rows.length).map fun i=>dB (jJ lp.aX T a (lp.aj.length+i)):=List.map_congr_left fun i ad=>aah bK.1.inv.bj aN au i;have dC:1≤bZa 1446:=bZf 1446;have uJ:∀i,cP (bZa 1446) (jJ lp.aX T a (lp.aj.length+i)):=fun i=>aap (B:=bZa 1446) bK.1.inv.bj dC aN au (fun k ag=>bK.1.Kg h aN ag) _;refine Pz h hm fun i=>?_;show sz (e1 ((List.range lp.aX.m).map (qQ lp.aX T a)) i) 400;rw[az];by_cases ad:i<lp.rows.length
  ·rw[Aj ad (sV (uJ i) (by decide))];exact az8 (uJ i)
  ·unfold e1;rw[ob,jq (by simp;omega)];exact jf (by simp) (by decide)
 ·cases aa
 ·cases aa
end
end Go.Dam.C
namespace Go.Dam.C
open Go Go.Dam
def Fu(_:Perm)(args:List Value)(H:ah):Option (Value×ah):=match args with
 | []=>bif qI H then some (.bool true,H) else none
 | _=>none
structure wj(X:aY):Prop extends hj X where
 begun:X.ov F.O9=some Fu
 ll:Has X F.ll C.ll
 sI:Has X F.sI C.sI
 uo:Has X F.uo C.uo
 wk:Has X F.wk C.wk
 x8:Has X F.x8 C.x8
variable{X:aY}{pm:Perm}{H H' cL H0:ah}{n:Nat}
theorem ax2(al:wj X)(aS:Tab H):Call X pm F.O9 [] H fun r H'=>H'=H∧r=.bool true:=by
 refine Call.over al.begun (v:=.bool true) (H':=H) ?_ ⟨rfl,rfl⟩;simp only[Fu,rE aS];rfl
theorem zK(al:wj X){l:List UInt8}{n:Nat}(_aF:n≤1000):Call X pm F.ll [aW l,.int .i64 (n:Int)] H fun r H'=>H'=H∧r=aW (l.take n):=by
 refine Call.has al.ll rfl ?_;by_cases h:n<l.length
 ·simp[h,show n≤l.length by omega]
 ·simp[h];rw[tp (by omega)]
def uq(l:List (List UInt8))(i:Nat):List UInt8:=(l.getD i []).take 20
theorem ax3(l:List (List UInt8))(n:Nat):(List.range (min n l.length)).map (uq l)=(l.take n).map (·.take 20):=by
 apply List.ext_getElem
 ·simp
 ·intro i U aa;have ad:i<min n l.length:=by simpa using U
  have aO:i<l.length:=by omega
  simp[uq,hG aO]
def kP(H:ah)(ba:Nat)(v:Value)(k:Nat)(f:Nat→List UInt8):Prop:=∃c,v=sl c k∧(0<k→ba≤c∧gv H c k f)
theorem kP.strs{ba k:Nat}{v:Value}{f:Nat→List UInt8}(h:kP H ba v k f):kh H v ((List.range k).map f):=by
 obtain⟨c,rfl,h⟩:=h;by_cases e:k=0
 ·subst e;exact kh.nil
 ·rw[eQ (by omega)];exact(h (by omega)).2.strs
theorem kP.k{ba k:Nat}{v:Value}{f:Nat→List UInt8}(h:kP H ba v k f)(g:cl pm H)(u:K pm H H'):kP H' ba v k f:=by
 obtain⟨c,e,h⟩:=h;exact⟨c,e,fun ag=>⟨(h ag).1,(h ag).2.k g u⟩⟩
theorem kP.mono{ba gu k:Nat}{v:Value}{f:Nat→List UInt8}(h:kP H ba v k f)(aF:gu≤ba):kP H gu v k f:=by
 obtain⟨c,e,h⟩:=h;exact⟨c,e,fun ag=>⟨bH aF (h ag).1,(h ag).2⟩⟩
theorem kP.put{ba k b:Nat}{v:Value}{f:Nat→List UInt8}(h:kP H ba v k f)(ai:b<ba)(x:cj):kP (H.put b x) ba v k f:=by
 obtain⟨c,e,h⟩:=h;exact⟨c,e,fun ag=>⟨(h ag).1,(h ag).2.h7 (by have:=(h ag).1;omega) x⟩⟩
theorem O'(al:wj X)(g0:cl pm H0){v:Value}{l:List (List UInt8)}{n:Nat}(aF:n≤1000)(aw:kh H0 v l):
 Call X pm F.sI [v,.int .i64 (n:Int)] H0 fun r H'=>K pm H0 H'∧kP H' H0.next r (min n l.length) (uq l):=by
 refine Call.h6 al.sI rfl fun Q bU=>?_;obtain⟨base,cap,rfl,eU⟩:=aw.ex;simp[-Pa]
 refine hv.of (σ:=Nat×Nat) (fun s=>[(0,.slice base l.length cap),(1,.int .i64 (n:Int)),(5,sl s.2 s.1),(6,.int .i64 (s.1:Int))])
  (fun s H'=>s.1≤n∧s.1≤l.length∧K pm H0 H'∧(0<s.1→H0.next≤s.2∧gv H' s.2 s.1 (uq l))) (fun s=>n-s.1) (0,0) (by simp[sl]) ⟨Nat.zero_le _,Nat.zero_le _,K.refl g0,fun h=>absurd h (Nat.lt_irrefl 0)⟩ ?_
 rintro⟨k,c⟩ H1 ⟨zL,sJ,av,aG⟩;simp only at zL sJ aG;have g1:=av.aL;by_cases oJ:k<l.length
 ·by_cases j6:k<n
  ·obtain⟨b,off,y,row,w,rfl,e2,bd,b1,s,cK,rfl⟩:=eU k oJ;have gW:=av.some g0 e2;have ax4:uq l k=s.take 20:=by rw[uq,ob,cK];rfl
   simp[oJ,j6,gW,bd,b1,-Pb];refine aR.of (vs:=[aW s,.int .i64 20]) (by simp) (by simp) (zK al (n:=20) (by omega)) ?_;rintro _ H1 ⟨rfl,rfl⟩;have jV:=K.new g1 (.cells [aW (s.take 20)] (.n 1));obtain⟨ss,o,gs,au,Jl⟩:∃ss o,wm (H1.new (.cells [aW (s.take 20)] (.n 1))) (sl c k) 1 k ss o∧(∀d,o=some d→H0.next≤d∧pm.may d=true)∧∀j,j<k→ss[j]? = some (aW (uq l j)):=by
    by_cases e:k=0
    ·subst e;exact⟨[],none,⟨rfl,rfl,rfl⟩,by simp,by simp⟩
    ·obtain⟨U,aa⟩:=aG (by omega);obtain⟨ss,bn,bh,cu⟩:=aa.k g1 jV;exact⟨ss,some c,⟨eQ (by omega),by simpa using bh,bn⟩,fun d aB=>by cases aB;exact⟨U,g0.may U⟩,cu⟩
   obtain⟨aJ,cx,a2,a3,a4,a5⟩:=YF jV.aL (by':=16) (n:=H0.next) gs (xs:=[aW (s.take 20)]) rfl rfl (bR _) (by omega) (by omega) (by have:=av.next;show H0.next≤H1.next+1;omega) au;have cS:wr .i64 ((k:Int)+1)=((k+1:Nat):Int):=by rw[dv (by omega) (by omega)];simp
   simp[g1.pick,g1.make,cx,cS];refine rF.of (k+1,H1.next+1) (by show n-(k+1)<n-k;omega) (by simp[sl]) ⟨by show k+1≤n;omega,by show k+1≤l.length;omega,bp.trans (K.trans av jV) a3,fun _=>⟨by have:=av.next;show H0.next≤H1.next+1;omega,?_⟩⟩;obtain⟨_,b9,fK⟩:=a2;refine⟨_,fK,by simpa using b9,fun j aH=>?_⟩;have hlen:=gs.len;by_cases e:j=k
   ·subst e;rw[lA (by omega),ax4];simp[hlen]
   ·rw[lB (by omega)];exact Jl j (by omega)
  ·simp[oJ,j6];refine bU _ _ _ ?_;simp;have:min n l.length=k:=by omega
   exact⟨av,by rw[this];exact⟨c,rfl,aG⟩⟩
 ·simp[oJ,br];refine bU _ _ _ ?_;simp;have:min n l.length=k:=by omega
  exact⟨av,by rw[this];exact⟨c,rfl,aG⟩⟩
def iz.cut(a:iz):iz:=⟨a.st,a.val.take 20,(a.x.take 7).map (·.take 20),(a.d.take 7).map (·.take 20),(a.r.take 7).map (·.take 20)⟩
abbrev tyL:Nat:=T.ax5
def px(H:ah)(ba:Nat)(r:Value)(a:iz):Prop:=∃mC oM vr,r=.agg #[.int .i64 a.st,aW (a.val.take 20),mC,oM,vr]∧kP H ba mC (min 7 a.x.length) (uq a.x)∧kP H ba oM (min 7 a.d.length) (uq a.d)∧kP H ba vr (min 7 a.r.length) (uq a.r)
theorem px.YG{ba:Nat}{r:Value}{a:iz}(h:px H ba r a):ur H r a.cut:=by
 obtain⟨mC,oM,vr,rfl,U,aa,aq⟩:=h;have s1:=U.strs;have s2:=aa.strs;have de:=aq.strs;rw[ax3]at s1 s2 de;exact⟨mC,oM,vr,rfl,s1,s2,de⟩
theorem px.k{ba:Nat}{r:Value}{a:iz}(h:px H ba r a)(g:cl pm H)(u:K pm H H'):px H' ba r a:=by
 obtain⟨mC,oM,vr,rfl,U,aa,aq⟩:=h;exact⟨mC,oM,vr,rfl,U.k g u,aa.k g u,aq.k g u⟩
theorem px.put{ba b:Nat}{r:Value}{a:iz}(h:px H ba r a)(ai:b<ba)(x:cj):px (H.put b x) ba r a:=by
 obtain⟨mC,oM,vr,rfl,U,aa,aq⟩:=h;exact⟨mC,oM,vr,rfl,U.put ai x,aa.put ai x,aq.put ai x⟩
theorem YH(al:wj X)(g:cl pm H){w:Value}{a:iz}(hw:ur H w a):Call X pm F.uo [w] H fun r H'=>K pm H H'∧px H' H.next r a:=by
 refine Call.h6 al.uo rfl fun Q bU=>?_;obtain⟨mC,oM,vr,rfl,az,aB,nk⟩:=hw;obtain⟨bx,sK,Pc,_⟩:=az.ex;obtain⟨cP,uu,Pd,_⟩:=aB.ex;obtain⟨ev,wo,Fv,_⟩:=nk.ex;subst Pc Pd Fv;obtain⟨b0,fE⟩:∃b,b=H.next:=⟨_,rfl⟩;obtain⟨H1,cw⟩:∃H1,H1=H.new (.cells [.int .i64 a.st,aW a.val,.slice bx a.x.length sK,.slice cP a.d.length uu,.slice ev a.r.length wo] (.t tyL)):=⟨_,rfl⟩;have av:K pm H H1:=by rw[cw];exact K.new g _
 have g1:=av.aL;have h4:H1.get b0=some (.cells [.int .i64 a.st,aW a.val,.slice bx a.x.length sK,.slice cP a.d.length uu,.slice ev a.r.length wo] (.t tyL)):=by rw[cw,fE];exact dT
 obtain⟨kl,wq⟩:∃b,b=H1.next:=⟨_,rfl⟩;obtain⟨aJ,ee⟩:∃aJ,aJ=H1.new (.cells [.int .i64 0,.string ⟨#[]⟩,.slice none 0 0,.slice none 0 0,.slice none 0 0] (.t tyL)):=⟨_,rfl⟩;have aI:K pm H1 aJ:=by rw[ee];exact K.new g1 _
 have g2:=aI.aL;have eA:aJ.get kl=some (.cells [.int .i64 0,.string ⟨#[]⟩,.slice none 0 0,.slice none 0 0,.slice none 0 0] (.t tyL)):=by rw[ee,wq];exact dT
 have rG:=aI.some g1 h4;have h8:=av.trans aI;have gu:H1.next=b0+1:=by rw[cw,fE];rfl
 have fU:aJ.next=kl+1:=by rw[ee,wq];rfl
 have l1:=g2.lt rG;have ax6:=g2.lt eA;simp[g.pick,g.make,ptr,←fE,←cw,←wq,←ee];refine eg.of g2.lo rfl ?_;have bE:K pm aJ (aJ.up 16):=(K.refl g2).up 16;have x9:=fun o=>jh (lo:=pm.lo) (ok:=pm.ok) (o:=o) (b:=kl) (bH g1.lo (by omega));simp[dt,g2.none,g2.fo,rG];refine GA bE.aL (vs:=[aW a.val,.int .i64 20]) (by simp[g2.none]) (by simp) (by simp) rfl (fun pm' bS=>kM bS (zK al (n:=20) (by omega))) ?_;rintro _ _-⟨rfl,rfl⟩;simp;refine GA bE.aL (vs:=[.slice bx a.x.length sK,.int .i64 7]) (by simp[g2.none]) (by simp) (by simp) rfl (fun pm' bS=>O' al bS (n:=7) (by omega) (az.ext ((h8.trans bE).ext g))) ?_;rintro bJ bN aQ f1;have gZ:=aQ.res g2;simp;refine GA aQ.aL (vs:=[.slice cP a.d.length uu,.int .i64 7]) (by simp[gZ]) (by simp) (by simp) rfl (fun pm' bS=>O' al bS (n:=7) (by omega) (aB.ext (((h8.trans bE).trans aQ).ext g))) ?_;rintro bG cp bt f2;have ji:=K.trans aQ bt;have jz:=ji.res g2;simp;refine GA bt.aL (vs:=[.slice ev a.r.length wo,.int .i64 7]) (by simp[jz]) (by simp) (by simp) rfl (fun pm' bS=>O' al bS (n:=7) (by omega) (nk.ext (((h8.trans bE).trans ji).ext g))) ?_;rintro cO cV cd f3;have Fw:=K.trans ji cd;have nn:=Fw.res g2;have jS:=bE.trans Fw;have qH:=jS.some g2 eA;obtain⟨cy,rfl,d1⟩:=f1;obtain⟨dd,rfl,d2⟩:=f2;obtain⟨dy,rfl,d3⟩:=f3;obtain⟨ep,mA⟩:∃ep,ep=cV.put kl (.cells [.int .i64 a.st,aW (a.val.take 20),sl cy (min 7 a.x.length),sl dd (min 7 a.d.length),sl dy (min 7 a.r.length)] (.t tyL)):=⟨_,rfl⟩;have oN:∀b i,fG (sl b i)=true:=fun b i=>by unfold sl;split<;>rfl
 have oO:∀b i,(sl b i).cells=#[sl b i]:=fun b i=>by unfold sl;split<;>rfl
 simp[nn,setCells,c5,oO,oN,qH,x9,←mA,dx,dm,l1,ax6,eJ,ez,gI];refine bU _ _ _ ?_;have kk:bp pm H.next cV ep:=by rw[mA];exact bp.put (.refl jS.aL) (by omega) qH (by simp) _
 have qA:ep.get kl=some (.cells [.int .i64 a.st,aW (a.val.take 20),sl cy (min 7 a.x.length),sl dd (min 7 a.d.length),sl dy (min 7 a.r.length)] (.t tyL)):=by rw[mA];exact dX
 simp[ik,qA,cX,c5];have ax7:kl<(aJ.up 16).next:=by show kl<aJ.next+16;omega
 have YI:=aQ.next;have aGm:=bt.next;have s1:=((kP.k (⟨cy,rfl,d1⟩:kP bN _ _ _ _) aQ.aL (bt.trans cd)).put ax7 (.cells [.int .i64 a.st,aW (a.val.take 20),sl cy (min 7 a.x.length),sl dd (min 7 a.d.length),sl dy (min 7 a.r.length)] (.t tyL)));have s2:=((kP.k (⟨dd,rfl,d2⟩:kP cp _ _ _ _) bt.aL cd).put (show kl<bN.next by omega) (.cells [.int .i64 a.st,aW (a.val.take 20),sl cy (min 7 a.x.length),sl dd (min 7 a.d.length),sl dy (min 7 a.r.length)] (.t tyL)));have de:=(kP.put (⟨dy,rfl,d3⟩:kP cV _ _ _ _) (show kl<cp.next by omega) (.cells [.int .i64 a.st,aW (a.val.take 20),sl cy (min 7 a.x.length),sl dd (min 7 a.d.length),sl dy (min 7 a.r.length)] (.t tyL)));rw[←mA]at s1 s2 de;have mS:H.next≤(aJ.up 16).next:=by have:=h8.next;show H.next≤aJ.next+16;omega
 exact⟨bp.trans (K.trans h8 jS) kk,_,_,_,rfl,s1.mono mS,s2.mono (by omega),de.mono (by omega)⟩
end Go.Dam.C
namespace Go.Dam.C
open Go Go.Dam
variable{X:aY}{pm:Perm}{H H' cL H0:ah}{n:Nat}
def np(ba:Nat):Value→Prop
 | .slice (some a) _ _=>ba≤a.block
 | _=>True
theorem hi.put{v:Value}{m w ba b:Nat}{P sA:Nat→List Value→Prop}(h:hi H v m w P)(bc:np ba v)(ai:b<ba)(x:cj)(aC:∀i cs,i<m→P i cs→sA i cs):hi (H.put b x) v m w sA:=by
 obtain⟨base,cap,rfl,eU⟩:=h.ex;refine⟨base,cap,rfl,fun i ad=>?_⟩;obtain⟨c,off,y,row,cs,rfl,e2,bd,b1,cK⟩:=eU i ad;have bc:ba≤c:=bc;exact⟨c,off,y,row,cs,rfl,by rw[cq (by omega)];exact e2,bd,b1,aC i cs ad cK⟩
def uv(H:ah)(ba:Nat)(v:Value)(l:List di):Prop:=hi H v l.length 5 fun i cs=>∃r vc,l[i]? = some r∧cs=r.cells vc∧nX H vc r.cM∧np ba vc
theorem uv.rows{ba:Nat}{v:Value}{l:List di}(h:uv H ba v l):nY H v l:=hi.imp h (fun _ _ e=>e) fun _ _ _ ⟨r,vc,ao,e2,bd,_⟩=>⟨r,vc,ao,e2,bd⟩
theorem uv.ext{ba:Nat}{v:Value}{l:List di}(h:uv H ba v l)(e:Ext H H'):uv H' ba v l:=hi.imp h e fun _ _ _ ⟨r,vc,ao,e2,bd,b1⟩=>⟨r,vc,ao,e2,bd.ext e,b1⟩
theorem uv.put{ba b:Nat}{v:Value}{l:List di}(h:uv H ba v l)(bc:np ba v)(ai:b<ba)(x:cj):uv (H.put b x) ba v l:=
 hi.put h bc ai x fun _ _ _ ⟨r,vc,ao,e2,bd,b1⟩=>⟨r,vc,ao,e2,hi.put bd b1 ai x fun _ _ _ h=>h,b1⟩
def sL(H:ah)(ba:Nat)(r:Value)(lp:bD):Prop:=∃v1 v2,r=.agg #[v1,v2]∧kI H v1 lp.aj∧uv H ba v2 lp.rows∧np ba v1∧np ba v2
theorem sL.lp{ba:Nat}{r:Value}{lp:bD}(h:sL H ba r lp):ps H r lp:=by
 obtain⟨v1,v2,rfl,U,aa,_⟩:=h;exact⟨v1,v2,rfl,U,aa.rows⟩
theorem sL.ext{ba:Nat}{r:Value}{lp:bD}(h:sL H ba r lp)(e:Ext H H'):sL H' ba r lp:=by
 obtain⟨v1,v2,rfl,U,aa,aq⟩:=h;exact⟨v1,v2,rfl,U.ext e,aa.ext e,aq⟩
theorem sL.put{ba b:Nat}{r:Value}{lp:bD}(h:sL H ba r lp)(ai:b<ba)(x:cj):sL (H.put b x) ba r lp:=by
 obtain⟨v1,v2,rfl,U,aa,aq,a8⟩:=h;exact⟨v1,v2,rfl,hi.put U aq ai x fun _ _ _ h=>h,aa.put a8 ai x,aq,a8⟩
def eu.cut(c:eu):eu:={c with low:=c.low.take 20,up:=c.up.take 20,cost:=c.cost.take 20}
def di.cut(r:di):di:={r with cM:=(r.cM.take 8).map fun c=>{c with v:=c.v.take 20},rhs:=r.rhs.take 30}
def bD.cut(lp:bD):bD:=⟨(lp.aj.take 6).map eu.cut,(lp.rows.take 6).map di.cut⟩
theorem bD.ax8(lp:bD):iA lp.cut:=by
 refine⟨by simp[bD.cut];omega,by simp[bD.cut];omega,fun c af=>?_,fun r an=>?_⟩
 ·obtain⟨c,_,rfl⟩:=List.mem_map.1 af;simp only[eu.cut,List.length_take];omega
 ·obtain⟨r,_,rfl⟩:=List.mem_map.1 an;simp only[di.cut,List.length_take,List.length_map];refine⟨by omega,by omega,fun c af=>?_⟩;obtain⟨c,_,rfl⟩:=List.mem_map.1 af;simp only[List.length_take];omega
theorem Pe(a:iz):a.cut.ok∧∀s∈a.cut.d,s.length≤400:=by
 have h:∀(l:List (List UInt8)),qy ((l.take 7).map (·.take 20))∧∀s∈(l.take 7).map (·.take 20),s.length≤400:=fun l=>by
  have aG:∀s∈(l.take 7).map (·.take 20),s.length≤20:=fun s aG=>by
   obtain⟨t,_,rfl⟩:=List.mem_map.1 aG;simp only[List.length_take];omega
  exact⟨⟨by simp;omega,fun s h=>by have:=aG s h;omega⟩,fun s h=>by have:=aG s h;omega⟩
 exact⟨⟨(h a.x).1,(h a.d).1,(h a.r).1⟩,(h a.d).2⟩
def hO(H:ah)(v:Value)(m w:Nat)(P:Nat→List Value→Prop):Prop:=∃base cap,v=.slice base m cap∧m≤cap∧(base=none→m=0)∧∀a,base=some a→∃b off row,a=⟨b,off,none⟩∧H.get b=some (.ro row)∧off+m*w≤row.length∧∀i,i<m→∃cs,cX row (off+i*w) w=some cs∧P i cs
theorem hO.sl{v:Value}{m w:Nat}{P:Nat→List Value→Prop}(h:hO H v m w P):hi H v m w P:=by
 obtain⟨base,cap,rfl,_,aD,U⟩:=h;refine⟨base,cap,rfl,fun i ad=>?_⟩
 cases base with
 | none=>have:=aD rfl;omega
 | some a=>
   obtain⟨b,off,row,rfl,aa,_,aq⟩:=U _ rfl;obtain⟨cs,a8,cg⟩:=aq i ad;exact⟨b,off,_,row,cs,rfl,aa,rfl,a8,cg⟩
theorem hO.imp{v:Value}{m w:Nat}{P sA:Nat→List Value→Prop}(h:hO H v m w P)(e:Ext H H')(aC:∀i cs,i<m→P i cs→sA i cs):hO H' v m w sA:=by
 obtain⟨base,cap,rfl,hm,aD,U⟩:=h;refine⟨base,cap,rfl,hm,aD,fun a aN=>?_⟩;obtain⟨b,off,row,rfl,aa,ai,aq⟩:=U a aN;exact⟨b,off,row,rfl,e _ _ aa,ai,fun i ad=>(aq i ad).imp fun cs h=>⟨h.1,aC i cs ad h.2⟩⟩
def CF(H:ah)(v:Value)(l:List di):Prop:=hO H v l.length 5 fun i cs=>∃r vc,l[i]? = some r∧cs=r.cells vc∧hO H vc r.cM.length 2 fun i cs=>∃c,r.cM[i]? = some c∧cs=c.cells
def x'(H:ah)(v:Value)(lp:bD):Prop:=∃v1 v2,v=.agg #[v1,v2]∧(hO H v1 lp.aj.length 5 fun i cs=>∃c,lp.aj[i]? = some c∧cs=c.cells)∧CF H v2 lp.rows
theorem CF.ext{v:Value}{l:List di}(h:CF H v l)(e:Ext H H'):CF H' v l:=hO.imp h e fun _ _ _ ⟨r,vc,ao,e2,bd⟩=>⟨r,vc,ao,e2,bd.imp e fun _ _ _ h=>h⟩
theorem x'.ext{v:Value}{lp:bD}(h:x' H v lp)(e:Ext H H'):x' H' v lp:=by
 obtain⟨v1,v2,rfl,U,aa⟩:=h;exact⟨v1,v2,rfl,U.imp e fun _ _ _ h=>h,aa.ext e⟩
theorem x'.lp{v:Value}{lp:bD}(h:x' H v lp):ps H v lp:=by
 obtain⟨v1,v2,rfl,U,aa⟩:=h;exact⟨v1,v2,rfl,U.sl,hi.imp aa.sl (fun _ _ e=>e) fun _ _ _ ⟨r,vc,ao,e2,bd⟩=>⟨r,vc,ao,e2,bd.sl⟩⟩
theorem Fy{row cs:List Value}{o w:Nat}(h:cX row o w=some cs):o+w≤row.length∧cs=(row.drop o).take w:=by
 unfold cX at h;by_cases ai:o+w≤row.length
 ·rw[dA,decide_eq_true ai,cond_true]at h;exact⟨ai,(Option.some.inj h).symm⟩
 ·rw[dA,decide_eq_false ai,cond_false]at h;cases h
theorem CG{row:List Value}{o w:Nat}(h:o+w≤row.length):cX row o w=some ((row.drop o).take w):=by
 unfold cX;rw[dA,decide_eq_true h,cond_true]
theorem ayx{row:List Value}{off w n:Nat}(aF:0<n)(h:∀i,i<n→∃cs,cX row (off+i*w) w=some cs):∃l,cX row off (n*w)=some l∧l.length=n*w∧∀i,i<n→cX l (i*w) w=cX row (off+i*w) w:=by
 obtain⟨cs,af⟩:=h (n-1) (by omega);have ai:=(Fy af).1;have e:(n-1)*w+w=n*w:=by
  rw[←Nat.succ_mul];congr 1;omega
 have hlen:off+n*w≤row.length:=by omega
 refine⟨_,CG hlen,by simp;omega,fun i ad=>?_⟩;have pA:i*w+w≤n*w:=by
  rw[←Nat.succ_mul];exact hQ _ ad
 rw[CG (show off+i*w+w≤row.length by omega),CG (by simp;omega)];congr 1;rw[List.drop_take,List.take_take,List.drop_drop];congr 1;omega
theorem ayy{w by' n lo b:Nat}{okl:List Nat}{l:List Value}(aF:0<n)(aO:l.all fG=true)(hw:1≤w)(Fz:n≤1000)(hK:by'≤200):
 (iV w by' (.slice none 0 0) l n).runT ⟨lo,okl,some b⟩ H=some (.slice (some ⟨b,0,none⟩) n n,H.put b (.cells l (.n w)),[],[b]):=by
 have ai:n*by'≤17179869184:=bH (ie Fz hK) (by decide);unfold iV;simp only[aO];simp[Perm.make,Perm.pick,ai,hw,show ¬n=0 by omega,show n≤17179869184 by omega]
theorem YU{w by' lo b:Nat}{okl:List Nat}{l:List Value}:(iV w by' (.slice none 0 0) l 0).runT ⟨lo,okl,some b⟩ H=some (.slice none 0 0,H,[],[]):=by
 unfold iV;simp
def mD(H:ah)(b n w:Nat)(l:List Value):ah:=if n=0 then H else H.put b (.cells l (.n w))
def rI(b n:Nat):List Nat:=if n=0 then[] else[b]
theorem copyV{w by' n lo b:Nat}{okl:List Nat}{l:List Value}(aO:l.all fG=true)(hw:1≤w)(Fz:n≤1000)(hK:by'≤200):
 (iV w by' (.slice none 0 0) l n).runT ⟨lo,okl,some b⟩ H=some (sl b n,mD H b n w l,[],rI b n):=by
 by_cases h:n=0
 ·subst h;exact YU
 ·rw[ayy (by omega) aO hw Fz hK,eQ (by omega),mD,aU h,rI,aU h]
theorem JD{b n w c:Nat}{l:List Value}(h:c≠b):(mD H b n w l).get c=H.get c:=by
 unfold mD;split
 ·rfl
 ·rw[cq h]
@[simp] theorem PV{b n w:Nat}{l:List Value}:(mD H b n w l).next=H.next:=by unfold mD;split<;>rfl
theorem PW{b n w:Nat}{l:List Value}(h:0<n):(mD H b n w l).get b=some (.cells l (.n w)):=by
 unfold mD;rw[aU (by omega),dX]
theorem YV{b n x:Nat}(h:b≠x):gp (rI b n) [x]=true∧gp [x] (rI b n)=true:=by
 unfold rI;split
 ·exact⟨rfl,rfl⟩
 ·exact⟨kS h,kS (Ne.symm h)⟩
abbrev tyU0:Nat:=T.ayz
abbrev tyU1:Nat:=T.ayA
abbrev tyU2:Nat:=T.ayB
theorem YW(m:Nat):et (some (Value.int .i64 (if 6<m then 6 else(m:Int))))=some (min m 6):=by
 by_cases h:6<m
 ·rw[bm h,Nat.min_eq_right (by omega)];rfl
 ·rw[aU h,Nat.min_eq_left (by omega)];simp[et]
theorem ayC(m:Nat):et (some (Value.int .i64 (if 8<m then 8 else(m:Int))))=some (min m 8):=by
 by_cases h:8<m
 ·rw[bm h,Nat.min_eq_right (by omega)];rfl
 ·rw[aU h,Nat.min_eq_left (by omega)];simp[et]
theorem PX{m w cap by' k:Nat}{base:Option Addr}{P:Nat→List Value→Prop}(h:hO H (.slice base m cap) m w P)(ag:k≤m)(hw:1≤w)(ayD:k≤1000)(hK:by'≤200)(zt:∀i cs,P i cs→cs.all fG=true):
 ∃f l,(∀x∈f,∃y,H.get x=some (.ro y))∧(0<k→l.length=k*w∧∀i,i<k→∃cs,cX l (i*w) w=some cs∧P i cs)∧
  ∀H',Ext H H'→∀lo b okl,(nK w base 0 k cap cap).runT ⟨lo,okl,some b⟩ H'=some (.slice base k cap,H',f,[])∧
   (hV w (.slice base k cap) fun new n=>iV w by' (.slice none 0 0) new n).runT ⟨lo,okl,some b⟩ H'=some (sl b k,mD H' b k w l,f,rI b k):=by
 obtain⟨_,_,e,hm,aD,U⟩:=h;cases e
 cases base with
 | none=>
   obtain rfl:m=0:=aD rfl;obtain rfl:k=0:=by omega
   refine⟨[],[],(by simp),fun h=>absurd h (Nat.lt_irrefl 0),fun H' _ lo b okl=>⟨by unfold nK;simp,?_⟩⟩;unfold hV;exact YU
 | some a=>
   obtain⟨c,off,row,rfl,aa,aq,a8⟩:=U _ rfl;have ai:k*w≤m*w:=hQ _ ag;have aO:∀i,i<k→∃cs,cX ((row.drop off).take (k*w)) (i*w) w=some cs∧P i cs:=fun i ad=>by
    obtain⟨cs,cg,dj⟩:=a8 i (by omega);obtain⟨l,ao,e2,bd⟩:=ayx (n:=k) (row:=row) (off:=off) (w:=w) (by omega) (fun i ad=>(a8 i (by omega)).imp fun _ h=>h.1);have:=(Fy ao).2;exact⟨cs,by rw[←this,bd i ad,cg],dj⟩
   refine⟨[c],(row.drop off).take (k*w),fun x az=>⟨row,by rw[DZ.1 az];exact aa⟩,fun CH=>⟨by simp;omega,aO⟩,fun H' az lo b okl=>⟨?_,?_⟩⟩
   ·unfold nK;simp[show k≤cap by omega,az _ _ aa]
   ·have mc:((row.drop off).take (k*w)).all fG=true:=by
     rw[hz];intro v aw;obtain⟨p,aC,rfl⟩:=List.getElem_of_mem aw;have ri:p<k*w:=by
      have:=aC;simp at this;omega
     have aV:p/w<k:=Nat.div_lt_of_lt_mul (by rw[gw];exact ri);obtain⟨cs,cg,dj⟩:=aO (p/w) aV;have j4:=(Fy cg).2;have Ei:=hz.1 (zt _ _ dj);have ayE:p%w<w:=Nat.mod_lt _ (by omega);have e:p/w*w+p%w=p:=by rw[gw];exact Nat.div_add_mod p w
     refine Ei _ ?_;rw[j4];refine List.mem_iff_getElem?.2 ⟨p%w,?_⟩;rw[pT ayE,o',e];exact hG aC
    unfold hV;simp only[bF.runT,az _ _ aa,rowOf];rw[CG (by show off+k*w≤row.length;omega)];simp only;rw[copyV mc hw ayD hK]
def jk(L:List Value)(w n:Nat)(f:Nat→List Value):Prop:=L.length=n*w∧∀j,j<n→(f j).length=w∧∀k,k<w→L[j*w+k]? = (f j)[k]?
theorem jk.of{L:List Value}{w n:Nat}{f:Nat→List Value}(aO:L.length=n*w)(h:∀j,j<n→cX L (j*w) w=some (f j)):jk L w n f:=by
 refine⟨aO,fun j aH=>?_⟩;obtain⟨U,aa⟩:=Fy (h j aH);refine⟨by rw[aa];simp;omega,fun k ag=>?_⟩;rw[aa,pT ag,o']
theorem jk.lt{L:List Value}{w n j k:Nat}{f:Nat→List Value}(h:jk L w n f)(aH:j<n)(ag:k<w):j*w+k<L.length:=by
 have ai:j*w+w≤n*w:=by rw[←Nat.succ_mul];exact hQ _ aH
 rw[h.1];omega
theorem jk.row{L:List Value}{w n j:Nat}{f:Nat→List Value}(h:jk L w n f)(aH:j<n):cX L (j*w) w=some (f j):=by
 have ai:j*w+w≤n*w:=by rw[←Nat.succ_mul];exact hQ _ aH
 rw[CG (by rw[h.1];exact ai)];congr 1;apply List.ext_getElem?;intro k;by_cases ag:k<w
 ·rw[pT ag,o'];exact(h.2 j aH).2 k ag
 ·rw[jq (by simp;omega),jq (by rw[(h.2 j aH).1];omega)]
theorem jk.set{L:List Value}{w n j k:Nat}{f f':Nat→List Value}(h:jk L w n f)(aH:j<n)(ag:k<w)(v:Value)(he:f' j=(f j).set k v)(aF:∀i,i<n→i≠j→f' i=f i):jk (L.set (j*w+k) v) w n f':=by
 refine⟨by simp[h.1],fun i ad=>⟨?_,fun p aC=>?_⟩⟩
 ·by_cases e:i=j
  ·subst e;rw[he];simp;exact(h.2 i ad).1
  ·rw[aF i ad e];exact(h.2 i ad).1
 ·by_cases e:i=j
  ·subst e;rw[he];by_cases e2:p=k
   ·subst e2;rw[List.getElem?_set_self (h.lt aH ag),List.getElem?_set_self (by rw[(h.2 i ad).1];exact ag)]
   ·rw[List.getElem?_set_ne (by omega),List.getElem?_set_ne (Ne.symm e2)];exact(h.2 i ad).2 p aC
  ·rw[aF i ad e,List.getElem?_set_ne]
   ·exact(h.2 i ad).2 p aC
   ·rcases Nat.lt_or_gt_of_ne e with e | e
    ·have:i*w+w≤j*w:=by rw[←Nat.succ_mul];exact hQ _ e
     omega
    ·have:j*w+w≤i*w:=by rw[←Nat.succ_mul];exact hQ _ e
     omega
theorem jk.ex{l:List Value}{w n:Nat}{P:Nat→List Value→Prop}(aO:l.length=n*w)(h:∀i,i<n→∃cs,cX l (i*w) w=some cs∧P i cs):∃f,jk l w n f∧∀i,i<n→P i (f i):=by
 refine⟨fun i=>(cX l (i*w) w).getD [],jk.of aO fun j aH=>?_,fun j aH=>?_⟩
 ·obtain⟨cs,e,_⟩:=h j aH;rw[e];rfl
 ·obtain⟨cs,e,p⟩:=h j aH;show P j ((cX l (j*w) w).getD []);rw[e];exact p
abbrev tyS0:Nat:=T.ax9
abbrev tyS1:Nat:=T.aya
def YJ(X:aY):Prop:=∀(pm:Perm) (H:ah),cl pm H→∀(v:Value) (lp:bD),x' H v lp→Call X pm F.wk [v] H fun r H'=>K pm H H'∧sL H' H.next r lp.cut
theorem ayb(al:wj X)(Mn:YJ X)(g:cl pm H){v cS bL:Value}{lp:bD}{a b:iz}(YK:x' H v lp)(aN:ur H cS a)(ai:ur H bL b):Call X pm F.x8 [v,cS,bL] H fun r H'=>K pm H H'∧r=.bool true:=by
 refine Call.h6 al.x8 rfl fun Q bU=>?_;have aw:=YK.lp;have uw:=aN;have Pf:=ai;obtain⟨v1,v2,rfl,af,an⟩:=aw;obtain⟨base,cap,rfl,_⟩:=af.at;obtain⟨dG,dE,rfl,_⟩:=an.at;obtain⟨ax,dk,ar,rfl,Pg,ayc,py⟩:=aN;obtain⟨Ph,Pj,ao,_⟩:=Pg.ex;obtain⟨Pk,Pl,e2,_⟩:=ayc.ex;obtain⟨Pm,Pn,bd,_⟩:=py.ex;subst ao e2 bd;obtain⟨bx,cP,ev,rfl,pz,ayd,ya⟩:=ai;obtain⟨Jx,Po,ao,_⟩:=pz.ex;obtain⟨Pp,Pq,e2,_⟩:=ayd.ex;obtain⟨Pr,Ps,bd,_⟩:=ya.ex;subst ao e2 bd;obtain⟨jW,jR⟩:∃b,b=H.next:=⟨_,rfl⟩;obtain⟨H1,cw⟩:∃H1,H1=H.new (.cells [.slice base lp.aj.length cap,.slice dG lp.rows.length dE] (.t tyS0)):=⟨_,rfl⟩;have av:K pm H H1:=by rw[cw];exact K.new g _
 have g1:=av.aL;have h4:H1.get jW=some (.cells [.slice base lp.aj.length cap,.slice dG lp.rows.length dE] (.t tyS0)):=by rw[cw,jR];exact dT
 obtain⟨bJ,n1⟩:∃b,b=H1.next:=⟨_,rfl⟩;obtain⟨aJ,ee⟩:∃aJ,aJ=H1.new (.cells [.int .i64 a.st,aW a.val,.slice Ph a.x.length Pj,.slice Pk a.d.length Pl,.slice Pm a.r.length Pn] (.t tyS1)):=⟨_,rfl⟩;have aI:K pm H1 aJ:=by rw[ee];exact K.new g1 _
 have g2:=aI.aL;have eA:aJ.get bJ=some (.cells [.int .i64 a.st,aW a.val,.slice Ph a.x.length Pj,.slice Pk a.d.length Pl,.slice Pm a.r.length Pn] (.t tyS1)):=by rw[ee,n1];exact dT
 obtain⟨bG,lk⟩:∃b,b=aJ.next:=⟨_,rfl⟩;obtain⟨bN,iO⟩:∃bN,bN=aJ.new (.cells [.int .i64 b.st,aW b.val,.slice Jx b.x.length Po,.slice Pp b.d.length Pq,.slice Pr b.r.length Ps] (.t tyS1)):=⟨_,rfl⟩;have aQ:K pm aJ bN:=by rw[iO];exact K.new g2 _
 have g3:=aQ.aL;have jU:bN.get bG=some (.cells [.int .i64 b.st,aW b.val,.slice Jx b.x.length Po,.slice Pp b.d.length Pq,.slice Pr b.r.length Ps] (.t tyS1)):=by rw[iO,lk];exact dT
 have Pt:=aQ.some g2 eA;have Pv:=(aI.trans aQ).some g1 h4;have jH:=(av.trans aI).trans aQ;have gu:H1.next=jW+1:=by rw[cw,jR];rfl
 have fU:aJ.next=bJ+1:=by rw[ee,n1];rfl
 have IK:bN.next=bG+1:=by rw[iO,lk];rfl
 simp[g.pick,g.make,ptr,←jR,←cw,←n1,←ee,←lk,←iO,-Pw,-Px];refine aR.of (vs:=[]) (by simp) (by simp) (ax2 al g3.fJ) ?_;rintro _ bN ⟨rfl,rfl⟩;have l1:=g3.lt Pv;have jG:=g3.lt Pt;have nj:=g3.lt jU;simp[-zM];refine eg.of g3.lo rfl ?_;have bE:K pm bN (bN.up 9):=(K.refl g3).up 9;simp[dt,g3.none,g3.fo,Pv,Pt,jU,cX,c5,-zM];refine GA bE.aL (vs:=[.agg #[.slice base lp.aj.length cap,.slice dG lp.rows.length dE]]) (by simp[g3.none]) (by simp) (by simp) rfl (fun pm' bS=>Mn pm' _ bS _ lp (YK.ext ((jH.trans bE).ext g))) ?_;rintro b4 cp bt f1;have jz:=bt.res g3;simp[-zM];refine GA bt.aL (vs:=[.agg #[.int .i64 a.st,aW a.val,.slice Ph a.x.length Pj,.slice Pk a.d.length Pl,.slice Pm a.r.length Pn]]) (by simp[jz]) (by simp) (by simp) rfl (fun pm' bS=>YH al bS (uw.ext (((jH.trans bE).trans bt).ext g))) ?_;rintro cB cV cd f2;have ki:=K.trans bt cd;have nn:=ki.res g3;simp[-zM];refine Fq cd.aL (vs:=[.agg #[.int .i64 b.st,aW b.val,.slice Jx b.x.length Po,.slice Pp b.d.length Pq,.slice Pr b.r.length Ps]]) (by simp[nn]) (by simp) (by simp) rfl (fun pm' bS=>YH al bS (Pf.ext (((jH.trans bE).trans ki).ext g))) ?_;rintro dh ep cv f3;have zE:=K.trans ki cv;have nq:=zE.res g3;have yb:=bE.trans zE;have g6:=yb.aL;have hB:=yb.some g3 Pv;have bn:=yb.some g3 Pt;have bh:=yb.some g3 jU;have uk:=f1.ext ((K.trans cd cv).ext bt.aL);have xX:=f2.k cd.aL cv;have aGn:(bN.up 9).next=bG+10:=by show bN.next+9=_;omega
 have NC:=bt.next;have aye:=cd.next;obtain⟨fQ,fm,rfl,kE,mo,sn,Py⟩:=uk;obtain⟨zN,zO,rfl,_⟩:=kE.at;obtain⟨zP,zQ,rfl,_⟩:=mo.rows.at;obtain⟨cy,dd,dy,rfl,U,aa,aq⟩:=xX;obtain⟨d1,d2,d3,rfl,i1,i2,i3⟩:=f3;obtain⟨yc,rfl,_⟩:=id U;obtain⟨yd,rfl,_⟩:=id aa;obtain⟨ye,rfl,_⟩:=id aq;obtain⟨zR,rfl,_⟩:=id i1;obtain⟨zS,rfl,_⟩:=id i2;obtain⟨zT,rfl,_⟩:=id i3;have oN:∀b i,fG (sl b i)=true:=fun b i=>by unfold sl;split<;>rfl
 have oO:∀b i,(sl b i).cells=#[sl b i]:=fun b i=>by unfold sl;split<;>rfl
 obtain⟨fL,fc⟩:∃A,A=ep.put jW (.cells [.slice zN lp.cut.aj.length zO,.slice zP lp.cut.rows.length zQ] (.t tyS0)):=⟨_,rfl⟩;obtain⟨fV,fg⟩:∃A,A=fL.put bJ (.cells [.int .i64 a.st,aW (a.val.take 20),sl yc (min 7 a.x.length),sl yd (min 7 a.d.length),sl ye (min 7 a.r.length)] (.t tyS1)):=⟨_,rfl⟩;obtain⟨fW,fp⟩:∃A,A=fV.put bG (.cells [.int .i64 b.st,aW (b.val.take 20),sl zR (min 7 b.x.length),sl zS (min 7 b.d.length),sl zT (min 7 b.r.length)] (.t tyS1)):=⟨_,rfl⟩;have ze:fL.get bJ=_:=(by rw[fc,cq (by omega)]:fL.get bJ=ep.get bJ).trans bn;have EG:fV.get bG=_:=(by rw[fg,cq (by omega),fc,cq (by omega)]:fV.get bG=ep.get bG).trans bh;have y:∀j,ep.get (bN.next+j)=none→fL.get (bN.next+j)=none∧fV.get (bN.next+j)=none:=fun j aH=>⟨by rw[fc,cq (by omega)];exact aH,by rw[fg,cq (by omega),fc,cq (by omega)];exact aH⟩;have Jy:=y 7 (nq 7 (by decide));have Jz:=y 8 (nq 8 (by decide));have ft:=fun o=>jh (lo:=pm.lo) (ok:=pm.ok) (o:=o) (b:=jW) (bH g.lo (by omega));have rH:=fun o=>jh (lo:=pm.lo) (ok:=pm.ok) (o:=o) (b:=bJ) (bH g.lo (by omega));have oj:=fun o=>jh (lo:=pm.lo) (ok:=pm.ok) (o:=o) (b:=bG) (bH g.lo (by omega));simp[nq,Jy,Jz,setCells,oN,hB,ze,EG,ft,rH,oj,←fc,←fg,←fp,dx,dm,l1,jG,nj,eJ,ez,gI,-zM];have ayf:bp pm H.next ep fW:=by
  have v1:bp pm H.next ep fL:=by rw[fc];exact bp.put (.refl g6) (by omega) hB (by simp) _
  have v2:bp pm H.next fL fV:=by rw[fg];exact bp.put (.refl v1.aL) (by omega) ze (by simp) _
  have v3:bp pm H.next fV fW:=by rw[fp];exact bp.put (.refl v2.aL) (by omega) EG (by simp) _
  exact(v1.trans v2).trans v3
 have Cx:K pm H fW:=bp.trans (K.trans jH yb) ayf;have nr:=Cx.aL;have YL:sL fW (bN.up 9).next (.agg #[.slice zN lp.cut.aj.length zO,.slice zP lp.cut.rows.length zQ]) lp.cut:=by
  rw[fp,fg,fc];exact((sL.put ⟨_,_,rfl,kE,mo,sn,Py⟩ (by omega) _).put (by omega) _).put (by omega) _
 have ayg:px fW cp.next (.agg #[.int .i64 a.st,aW (a.val.take 20),sl yc (min 7 a.x.length),sl yd (min 7 a.d.length),sl ye (min 7 a.r.length)]) a:=by
  rw[fp,fg,fc];exact((px.put ⟨_,_,_,rfl,U,aa,aq⟩ (by omega) _).put (by omega) _).put (by omega) _
 have ayh:px fW cV.next (.agg #[.int .i64 b.st,aW (b.val.take 20),sl zR (min 7 b.x.length),sl zS (min 7 b.d.length),sl zT (min 7 b.r.length)]) b:=by
  rw[fp,fg,fc];exact((px.put ⟨_,_,_,rfl,i1,i2,i3⟩ (by omega) _).put (by omega) _).put (by omega) _
 have fw:fW.get jW=some (.cells [.slice zN lp.cut.aj.length zO,.slice zP lp.cut.rows.length zQ] (.t tyS0)):=by rw[fp,cq (by omega),fg,cq (by omega),fc];exact dX
 have b4:fW.get bJ=some (.cells [.int .i64 a.st,aW (a.val.take 20),sl yc (min 7 a.x.length),sl yd (min 7 a.d.length),sl ye (min 7 a.r.length)] (.t tyS1)):=by rw[fp,cq (by omega),fg];exact dX
 have cB:fW.get bG=some (.cells [.int .i64 b.st,aW (b.val.take 20),sl zR (min 7 b.x.length),sl zS (min 7 b.d.length),sl zT (min 7 b.r.length)] (.t tyS1)):=by rw[fp];exact dX
 clear fc fg fp y Jy Jz hB bn bh ze EG;have wu:=lp.ax8;have fin:∀l' H',K pm H H'→a7 6 l'=some (.bool true)→Q .ret l' H':=fun l' H' k h1=>bU _ _ _ (by simp[h1];exact k);have hx:∀{c:iz} {H':ah},c.st=2→lp.cut.dP=true→(∀s∈c.d,s.length≤400)→(jj (gR lp.cut c.d false)).length<1000000:=fun _ hm aB=>Pz wu hm (YM aB);simp[fw,cX,c5,-PA,-PB];refine aR.of (vs:=[.agg #[.slice zN lp.cut.aj.length zO,.slice zP lp.cut.rows.length zQ]]) (by simp) (by simp) (ayi al.tohj nr wu.ok YL.lp (fun hm=>runs wu hm)) ?_;rintro PC hM ⟨dJ,j4⟩;have g7:=dJ.aL;have wv:=Cx.trans dJ;have PD:=YL.ext (dJ.ext nr);have YN:=ayg.k nr dJ;have ayj:=ayh.k nr dJ;have iQ:=dJ.some nr fw;have s1:=dJ.some nr b4;have s2:=dJ.some nr cB;obtain⟨Cy,Fx⟩:∃c,c=hM.next:=⟨_,rfl⟩;have YO:pm.may Cy=true:=g7.may (by omega);have YP:∀x,(hM.new x).get Cy=some x:=fun x=>by rw[Fx];exact dT
 have ayk:lp.cut.dP=false→∀c:iz,kQ lp.cut c=false:=fun hm c=>by
  rw[Bool.eq_false_iff];intro h;have:=(PE h).1;rw[hm]at this;cases this
 rcases j4 with⟨hm,rfl⟩ | ⟨hm,c,u,rfl,hu,aG⟩
 ·obtain⟨ns,Cz⟩:∃ns,ns=(hM.new (.cells [.int .i64 0,.string ⟨#[]⟩,.slice none 0 0,.slice none 0 0,.slice none 0 0] (.t tyS1))).put Cy (.cells [.int .i64 0,.string ⟨#[]⟩,.slice none 0 0,.slice none 0 0,.slice none 0 0] (.t tyS1)):=⟨_,rfl⟩;have jZ:K pm hM ns:=by rw[Cz,Fx];exact mv g7 _ _ (by simp)
  have t0:=jZ.some g7 iQ;have t1:=jZ.some g7 s1;simp[g7.pick,g7.make,ptr,c5,←Fx,YP,YO,←Cz,t0,t1,cX,-PF,-PG];refine aR.of (vs:=[.agg #[.slice zN lp.cut.aj.length zO,.slice zP lp.cut.rows.length zQ],.agg #[.int .i64 a.st,aW (a.val.take 20),sl yc (min 7 a.x.length),sl yd (min 7 a.d.length),sl ye (min 7 a.r.length)]]) (by simp) (by simp) (PH al.tohj jZ.aL wu.ok (PD.ext (jZ.ext g7)).lp (YN.k g7 jZ).YG (Pe a).1 (fun aa=>by
   have:gR lp.cut a.cut.d false=none:=by
    cases e:gR lp.cut a.cut.d false with
    | none=>rfl
    | some q=>
      unfold gR at e;split at e
      ·rename_i h;have:=JA h;rw[hm]at this;cases this
      ·cases e
   rw[this];simp[jj])) ?_
  rintro _ yf ⟨ux,rfl⟩;simp[ayk hm];exact fin _ _ ((wv.trans jZ).trans ux) (by simp)
 ·have zU:=hu;obtain⟨df,dW,gZ,rfl,kR,jw,jP⟩:=hu;obtain⟨PI,PJ,ao,_⟩:=kR.ex;obtain⟨PK,PL,e2,_⟩:=jw.ex;obtain⟨PM,PN,bd,_⟩:=jP.ex;subst ao e2 bd;obtain⟨YQ,ayl⟩:=aym wu hm aG;have ayn:=fun aa=>ayo wu hm aG aa;obtain⟨ns,Cz⟩:∃ns,ns=(hM.new (.cells [.int .i64 0,.string ⟨#[]⟩,.slice none 0 0,.slice none 0 0,.slice none 0 0] (.t tyS1))).put Cy (.cells [.int .i64 c.st,aW c.val,.slice PI c.x.length PJ,.slice PK c.d.length PL,.slice PM c.r.length PN] (.t tyS1)):=⟨_,rfl⟩;have jZ:K pm hM ns:=by rw[Cz,Fx];exact mv g7 _ _ (by simp)
  have g8:=jZ.aL;have t0:=jZ.some g7 iQ;have t1:=jZ.some g7 s1;have t2:=jZ.some g7 s2;have t8:ns.get Cy=some (.cells [.int .i64 c.st,aW c.val,.slice PI c.x.length PJ,.slice PK c.d.length PL,.slice PM c.r.length PN] (.t tyS1)):=by rw[Cz];exact dX
  simp[g7.pick,g7.make,ptr,c5,←Fx,YP,YO,←Cz,t0,t1,t2,cX,setCells,-PO,-PQ];obtain⟨yf,PR⟩:∃yf,yf=ns.new (.cells [.int .i64 a.st,aW (a.val.take 20),sl yc (min 7 a.x.length),sl yd (min 7 a.d.length),sl ye (min 7 a.r.length),.int .i64 b.st,aW (b.val.take 20),sl zR (min 7 b.x.length),sl zS (min 7 b.d.length),sl zT (min 7 b.r.length)] (.n 5)):=⟨_,rfl⟩;have ux:K pm ns yf:=by rw[PR];exact K.new g8 _
  have g9:=ux.aL;have YR:=K.trans jZ ux;have t9:yf.get ns.next=some (.cells [.int .i64 a.st,aW (a.val.take 20),sl yc (min 7 a.x.length),sl yd (min 7 a.d.length),sl ye (min 7 a.r.length),.int .i64 b.st,aW (b.val.take 20),sl zR (min 7 b.x.length),sl zS (min 7 b.d.length),sl zT (min 7 b.r.length)] (.n 5)):=by rw[PR];exact dT
  obtain⟨ayp,YS⟩:∃c,c=ns.next:=⟨_,rfl⟩;rw[←YS]at t9;rw[←PR,←YS];have t80:=ux.some g8 t0;have t88:=ux.some g8 t8;refine gG (σ:=Unit) 2 (fun _ _=>[(3,.pointer (some ⟨jW,0,none⟩)),(8,.pointer (some ⟨Cy,0,none⟩)),(34,.slice (some ⟨ayp,0,none⟩) 2 2)]) (fun _ _ H'=>K pm yf H') () (by decide) (by omega) (by simp) (K.refl g9) (by simp) ?_ ?_
  ·rintro k _ qJ ag hD;have zV:=hD.aL;have bY:=K.trans YR hD;have w0:=hD.some g9 t80;have zW:=hD.some g9 t88;have ayq:=hD.some g9 t9;obtain⟨z,CA,CB,CC,YT,bl,x7⟩:∃(z:iz) (CA CB CC YT:Nat),px qJ YT (.agg #[.int .i64 z.st,aW (z.val.take 20),sl CA (min 7 z.x.length),sl CB (min 7 z.d.length),sl CC (min 7 z.r.length)]) z∧cX [.int .i64 a.st,aW (a.val.take 20),sl yc (min 7 a.x.length),sl yd (min 7 a.d.length),sl ye (min 7 a.r.length),.int .i64 b.st,aW (b.val.take 20),sl zR (min 7 b.x.length),sl zS (min 7 b.d.length),sl zT (min 7 b.r.length)] (k*5) 5=some [.int .i64 z.st,aW (z.val.take 20),sl CA (min 7 z.x.length),sl CB (min 7 z.d.length),sl CC (min 7 z.r.length)]:=by
    have fP:k=0∨k=1:=by omega
    rcases fP with rfl | rfl
    ·exact⟨a,yc,yd,ye,_,YN.k g7 bY,rfl⟩
    ·exact⟨b,zR,zS,zT,_,ayj.k g7 bY,rfl⟩
   obtain⟨JB,PS⟩:∃c,c=qJ.next:=⟨_,rfl⟩;have qg:pm.may JB=true:=zV.may (by omega);have ayr:∀x,(qJ.new x).get JB=some x:=fun x=>by rw[PS];exact dT
   obtain⟨sM,yg⟩:∃sM,sM=(qJ.new (.cells [.int .i64 0,.string ⟨#[]⟩,.slice none 0 0,.slice none 0 0,.slice none 0 0] (.t tyS1))).put JB (.cells [.int .i64 z.st,aW (z.val.take 20),sl CA (min 7 z.x.length),sl CB (min 7 z.d.length),sl CC (min 7 z.r.length)] (.t tyS1)):=⟨_,rfl⟩;have wx:K pm qJ sM:=by rw[yg,PS];exact mv zV _ _ (by simp)
   have JC:=wx.aL;have v0:=wx.some zV w0;have ays:=wx.some zV zW;have mC:sM.get JB=some (.cells [.int .i64 z.st,aW (z.val.take 20),sl CA (min 7 z.x.length),sl CB (min 7 z.d.length),sl CC (min 7 z.r.length)] (.t tyS1)):=by rw[yg];exact dX
   have g5:∀(p q r s t:Value),cX [p,q,r,s,t] 0 5=some [p,q,r,s,t]:=fun _ _ _ _ _=>rfl;have ayt:∀(p q:Value),cX [p,q] 0 2=some [p,q]:=fun _ _=>rfl;simp[ag,ayq,x7,c5,zV.pick,zV.make,ptr,←PS,ayr,oN,qg,←yg,v0,mC,g5,ayt,-PT];refine aR.of (vs:=[.agg #[.slice zN lp.cut.aj.length zO,.slice zP lp.cut.rows.length zQ],.agg #[.int .i64 z.st,aW (z.val.take 20),sl CA (min 7 z.x.length),sl CB (min 7 z.d.length),sl CC (min 7 z.r.length)]]) (by simp) (by simp) (PH al.tohj JC wu.ok (PD.ext ((K.trans bY wx).ext g7)).lp (bl.k zV wx).YG (Pe z).1 (fun aa=>Pz wu hm (YM (Pe z).2))) ?_;rintro _ CD ⟨CE,rfl⟩;have ayu:=CE.some JC ays;have ayv:=CE.some JC mC
   cases aV:kQ lp.cut z.cut with
   | false=>
     simp[br];exact K.trans (K.trans hD wx) CE
   | true=>
     obtain⟨ao,e2⟩:=ayw aV YQ;have ao:z.st=c.st:=ao;have e2:z.val.take 20=c.val:=e2;simp[ayu,ayv,ao,e2,gi];exact K.trans (K.trans hD wx) CE
  ·rintro _ qJ hD;have bY:=K.trans YR hD;have w0:=hD.some g9 t80;have zW:=hD.some g9 t88;simp[w0,zW,cX,c5,-PU];refine aR.of (vs:=[.agg #[.slice zN lp.cut.aj.length zO,.slice zP lp.cut.rows.length zQ],.agg #[.int .i64 c.st,aW c.val,.slice PI c.x.length PJ,.slice PK c.d.length PL,.slice PM c.r.length PN]]) (by simp) (by simp) (PH al.tohj hD.aL wu.ok (PD.ext (bY.ext g7)).lp (zU.ext (bY.ext g7)) ayl ayn) ?_;rintro _ sM ⟨wx,rfl⟩;simp[YQ];exact fin _ _ ((wv.trans bY).trans wx) (by simp)
end Go.Dam.C
namespace Go.Dam.C
open Go Go.Dam
variable{X:aY}{pm:Perm}{H H' cL H0:ah}{n:Nat}
theorem bp.mD(u:bp pm n H H'){b k w:Nat}{l:List Value}(h:n≤b)(aK:H'.get b=none)(ai:b<H'.next):bp pm n H (C.mD H' b k w l):=by
 unfold C.mD;split
 ·exact u
 ·exact bp.fill u h aK ai _
theorem zX{a b:List Nat}{n:Nat}(h:∀x∈a,x<n)(gJ:∀x∈b,n≤x):gp a b=true∧gp b a=true:=by
 unfold gp;simp only[hz,mN,List.contains_eq_mem,decide_eq_false_iff_not];exact⟨fun x az ai=>by have:=h x az;have:=gJ x ai;omega,fun x az ai=>by have:=h x ai;have:=gJ x az;omega⟩
theorem JE{b n x:Nat}(h:x∈rI b n):x=b:=by
 unfold rI at h;split at h
 ·cases h
 ·simpa using h
structure iR(pm:Perm)(H0 H:ah)(bJ cO dZ ev dn dc:Nat)(gM eW:Nat→List Value):Prop where
 k:K pm H0 H
 r:H.get bJ=some (.cells [.slice none 0 0,.slice none 0 0] (.t tyU1))
 x:H.get cO=some (.cells [sl dZ dn,sl ev dc] (.t tyU2))
 c:0<dn→∃L,H.get dZ=some (.cells L (.n 5))∧jk L 5 dn gM
 w:0<dc→∃L,H.get ev=some (.cells L (.n 5))∧jk L 5 dc eW
structure CI(H0:ah)(bJ cO dZ ev:Nat):Prop where
 U:H0.next≤bJ
 aa:bJ<dZ
 aq:dZ<ev
 a8:ev<cO
variable{bJ cO dZ ev dn dc:Nat}{gM eW:Nat→List Value}
theorem iR.up(s:iR pm H0 H bJ cO dZ ev dn dc gM eW)(u:K pm H H'):iR pm H0 H' bJ cO dZ ev dn dc gM eW where
 k:=K.trans s.k u
 r:=u.some s.k.aL s.r
 x:=u.some s.k.aL s.x
 c:=fun h=>(s.c h).imp fun _ h=>⟨u.some s.k.aL h.1,h.2⟩
 w:=fun h=>(s.w h).imp fun _ h=>⟨u.some s.k.aL h.1,h.2⟩
theorem iR.put(s:iR pm H0 H bJ cO dZ ev dn dc gM eW)(q:CI H0 bJ cO dZ ev){b:Nat}{y x:cj}(ai:cO<b)(aK:H.get b=some y)(bu:∀o,y≠.eE o):iR pm H0 (H.put b x) bJ cO dZ ev dn dc gM eW where
 k:=bp.put s.k (by have:=q.U;have:=q.aa;have:=q.aq;have:=q.a8;omega) aK bu _
 r:=by rw[cq (by have:=q.U;have:=q.aa;have:=q.aq;have:=q.a8;omega)];exact s.r
 x:=by rw[cq (by omega)];exact s.x
 c:=fun h=>(s.c h).imp fun _ h=>⟨by rw[cq (by have:=q.aq;have:=q.a8;omega)];exact h.1,h.2⟩
 w:=fun h=>(s.w h).imp fun _ h=>⟨by rw[cq (by have:=q.a8;omega)];exact h.1,h.2⟩
theorem iR.row(s:iR pm H0 H bJ cO dZ ev dn dc gM eW)(q:CI H0 bJ cO dZ ev){PY:Nat→List Value}{i k:Nat}{v:Value}(ad:i<dc)(ag:k<5)(bc:PY i=(eW i).set k v)(aF:∀j,j<dc→j≠i→PY j=eW j){L:List Value}(bC:H.get ev=some (.cells L (.n 5))):
 iR pm H0 (H.put ev (.cells (L.set (i*5+k) v) (.n 5))) bJ cO dZ ev dn dc gM PY where
 k:=bp.put s.k (by have:=q.U;have:=q.aa;have:=q.aq;have:=q.a8;omega) bC (by simp) _
 r:=by rw[cq (by have:=q.U;have:=q.aa;have:=q.aq;have:=q.a8;omega)];exact s.r
 x:=by rw[cq (by have:=q.a8;omega)];exact s.x
 c:=fun h=>(s.c h).imp fun _ h=>⟨by rw[cq (by have:=q.aq;have:=q.a8;omega)];exact h.1,h.2⟩
 w:=fun h=>by
  obtain⟨L',U,aa⟩:=s.w h;rw[bC]at U;cases U;exact⟨_,dX,aa.set ad ag v bc aF⟩
theorem iR.col(s:iR pm H0 H bJ cO dZ ev dn dc gM eW)(q:CI H0 bJ cO dZ ev){PZ:Nat→List Value}{i k:Nat}{v:Value}(ad:i<dn)(ag:k<5)(bc:PZ i=(gM i).set k v)(aF:∀j,j<dn→j≠i→PZ j=gM j){L:List Value}(bC:H.get dZ=some (.cells L (.n 5))):
 iR pm H0 (H.put dZ (.cells (L.set (i*5+k) v) (.n 5))) bJ cO dZ ev dn dc PZ eW where
 k:=bp.put s.k (by have:=q.U;have:=q.aa;have:=q.aq;have:=q.a8;omega) bC (by simp) _
 r:=by rw[cq (by have:=q.U;have:=q.aa;have:=q.aq;have:=q.a8;omega)];exact s.r
 x:=by rw[cq (by have:=q.aq;have:=q.a8;omega)];exact s.x
 c:=fun h=>by
  obtain⟨L',U,aa⟩:=s.c h;rw[bC]at U;cases U;exact⟨_,dX,aa.set ad ag v bc aF⟩
 w:=fun h=>(s.w h).imp fun _ h=>⟨by rw[cq (by have:=q.aq;have:=q.a8;omega)];exact h.1,h.2⟩
def JF(c:fb):fb:={c with v:=c.v.take 20}
def ayF:fb:=⟨0,[]⟩
theorem ayG(al:wj X)(g0:cl pm H0)(q:CI H0 bJ cO dZ ev)(s:iR pm H0 H bJ cO dZ ev dn dc gM eW)(oB:dc≤6){i:Nat}(ad:i<dc){r:di}{vc:Value}(an:eW i=r.cells vc)
 (nd:hO H0 vc r.cM.length 2 fun i cs=>∃c,r.cM[i]? = some c∧cs=c.cells) {R:c'}
 (dD:∀l' H' rJ,Sub [(27,.int .i64 (i:Int)),(26,.int .i64 (dc:Int)),(2,.pointer (some ⟨bJ,0,none⟩)),(3,.pointer (some ⟨cO,0,none⟩))] l'→iR pm H0 H' bJ cO dZ ev dn dc gM (fun j=>if j=i then r.cut.cells rJ else eW j)→nX H' rJ r.cut.cM→np H.next rJ→(∀b y,b≠ev→H.get b=some y→H'.get b=some y)→R .normal l' H'):
 wp X pm (.code (.seq (.aT [m 29 27,m 4 29]) C.P0)) [(28,.bool true),(27,.int .i64 (i:Int)),(26,.int .i64 (dc:Int)),(2,.pointer (some ⟨bJ,0,none⟩)),(3,.pointer (some ⟨cO,0,none⟩))] H [] R:=by
 have g:=s.k.aL;have bn:=q.U;have bh:=q.aa;have cu:=q.aq;have e9:=q.a8;have eT:=g.lt s.x;obtain⟨L,bC,mV⟩:=s.w (by omega);have CJ:=s.x;rw[eQ (show 0<dc by omega)]at CJ;have e2:L[i*5+2]? = some vc:=by rw[(mV.2 i ad).2 2 (by decide),an];rfl
 obtain⟨base,cap,rfl,_⟩:=id nd;obtain⟨f,ak,bc,Ek,gy⟩:=PX (by':=24) (k:=min r.cM.length 8) (nd.imp (s.k.ext g0) fun _ _ _ h=>h) (Nat.min_le_left _ _) (by decide) (by omega) (by decide) (fun i cs ⟨c,_,e⟩=>by rw[e];rfl);have CK:∀x∈f,x<H.next:=fun x az=>by obtain⟨y,bu⟩:=bc x az;exact g.lt bu
 obtain⟨eG,pZ⟩:∃k,k=min r.cM.length 8:=⟨_,rfl⟩;have m8:=ayC r.cM.length;rw[←pZ]at gy Ek m8;obtain⟨z,bl⟩:∃z,z=H.next:=⟨_,rfl⟩;have bE:K pm H (H.up 22):=(K.refl g).up 22;have cy:=(gy _ (bE.ext g) pm.lo (z+17) pm.ok).1;have dd:=(gy _ (bE.ext g) pm.lo (z+18) pm.ok).2;obtain⟨fL,fc⟩:∃A,A=mD (H.up 22) (z+18) eG 2 ak:=⟨_,rfl⟩;have hD:K pm H fL:=by rw[fc];exact bp.mD bE (by omega) (by rw[bl];exact g.none 18) (by show z+18<H.next+22;omega)
 rw[←fc]at dd;have oP:∀j,j≠18→fL.get (z+j)=none:=fun j aH=>by rw[fc,JD (by omega),bl];exact g.none j
 have P1:fL.next=z+22:=by rw[fc,PV,bl];rfl
 have YX:=hD.some g bC;have YY:=hD.some g CJ;obtain⟨fV,fg⟩:∃A,A=fL.put ev (.cells (L.set (i*5+2) (sl (z+18) eG)) (.n 5)):=⟨_,rfl⟩;have s2:iR pm H0 fV bJ cO dZ ev dn dc gM (fun j=>if j=i then r.cells (sl (z+18) eG) else eW j):=by
  rw[fg];exact(s.up hD).row q ad (by decide) (by rw[an];simp[di.cells]) (fun j _ h=>by simp[h]) YX
 have oN:∀b i,fG (sl b i)=true:=fun b i=>by unfold sl;split<;>rfl
 have oO:∀b i,(sl b i).cells=#[sl b i]:=fun b i=>by unfold sl;split<;>rfl
 have hlen:=mV.lt ad (show 2<5 by decide);have JG:setCells L (i*5+2) [sl (z+18) eG]=some (L.set (i*5+2) (sl (z+18) eG)):=setCells_one hlen;have ya:=fun o=>jh (lo:=pm.lo) (ok:=pm.ok) (o:=o) (b:=ev) (by have:=g0.lo;omega);have d1:=(zX (a:=[cO]) (b:=rI (z+18) eG) (n:=z) (fun x az=>by rw[DZ.1 az];omega) (fun x az=>by rw[JE az];omega)).2;have hP:cO<z:=by omega
 have lf:ev<z:=by omega
 have mS:=fun j=>(by rw[bl];exact g.none j:(H.up 22).get (z+j)=none);have FA:=(by rw[bl];exact g.fo:(H.up 22).get z=none);simp[-JH];refine eg.of g.lo rfl ?_;rw[←bl];simp[dt,mS,FA,CJ,bC,ad,e2,m8,cy,dd,oP,YX,oO,oN,JG,ya,←fg,d1,hP,lf,dx,dm,ez,-hV,-JH];refine⟨⟨fun x az=>.inl (.inl (.inl (by have:=CK x az;omega))),fun x az=>.inl (.inl (.inl (by have:=CK x az;omega)))⟩,?_⟩;clear m8 cy dd oP YY JG mS FA;have g2:=s2.k.aL;have YZ:=s2.x;rw[eQ (show 0<dc by omega)]at YZ;obtain⟨kz,wy,Y0⟩:=s2.w (by omega);have fU:fV.next=z+22:=by rw[fg];exact P1
 have bd:kz[i*5+3]? = some (aW r.rhs):=by rw[(Y0.2 i ad).2 3 (by decide)];simp[di.cells]
 obtain⟨fW,fp⟩:∃A,A=(fV.up 13).put ev (.cells (kz.set (i*5+3) (aW (r.rhs.take 30))) (.n 5)):=⟨_,rfl⟩;have pB:K pm fV (fV.up 13):=(K.refl g2).up 13;have de:iR pm H0 fW bJ cO dZ ev dn dc gM (fun j=>if j=i then({r with rhs:=r.rhs.take 30}:di).cells (sl (z+18) eG) else eW j):=by
  rw[fp];exact(s2.up pB).row q ad (by decide) (by simp[di.cells]) (fun j _ h=>by simp[h]) wy
 have P2:setCells kz (i*5+3) [aW (r.rhs.take 30)]=some (kz.set (i*5+3) (aW (r.rhs.take 30))):=setCells_one (Y0.lt ad (by decide));have h1:cO<fV.next:=by omega
 have dO:ev<fV.next:=by omega
 simp[-FB];refine eg.of g2.lo rfl ?_;simp[dt,g2.none,g2.fo,YZ,wy,ad,bd,-FB];refine GA pB.aL (vs:=[aW r.rhs,.int .i64 30]) (by simp[g2.none]) (by simp) (by simp) rfl (fun pm' bS=>kM bS (zK al (n:=30) (by omega))) ?_;rintro _ _-⟨rfl,rfl⟩;simp[g2.none,wy,ad,P2,ya,←fp,h1,dO,dx,dm,eJ,ez,gI,-FB];have g3:=de.k.aL;have Y1:=de.x;rw[eQ (show 0<dc by omega)]at Y1;obtain⟨JI,JJ,ayH⟩:=de.w (by omega);have b1:JI[i*5+2]? = some (sl (z+18) eG):=by rw[(ayH.2 i ad).2 2 (by decide)];simp[di.cells]
 obtain⟨aGo,jQ⟩:∃a,sl (z+18) eG=.slice a eG eG:=by
  unfold sl;split
  ·rename_i h;exact⟨none,by rw[h]⟩
  ·exact⟨_,rfl⟩
 rw[jQ]at b1;simp[Y1,JJ,ad,b1,-P3];obtain⟨cQ,mY⟩:∃cQ:Nat→fb,∀j,j<r.cM.length→r.cM[j]? = some (cQ j):=⟨fun j=>r.cM.getD j ayF,fun j aH=>by simp[aH]⟩;have CH:∀b y,b≠ev→H.get b=some y→fW.get b=some y:=fun b y ai h=>by
  rw[fp,cq ai,zY,fg,cq ai];exact hD.some g h
 have dp:0<eG→∃M,fW.get (z+18)=some (.cells M (.n 2))∧jk M 2 eG (fun j=>if j<0 then(JF (cQ j)).cells else(cQ j).cells):=fun h=>by
  obtain⟨U,aa⟩:=Ek h;refine⟨ak,by rw[fp,cq (by omega),zY,fg,cq (by omega),fc];exact PW h,jk.of U fun j aH=>?_⟩;obtain⟨cs,ao,c,e2,rfl⟩:=aa j aH;rw[ao];rw[mY j (by omega)]at e2;cases e2;simp
 clear fc fg fp Ek gy
 refine gG (σ:=Unit) eG (fun _ _=>[(27,.int .i64 (i:Int)),(26,.int .i64 (dc:Int)),(2,.pointer (some ⟨bJ,0,none⟩)),(3,.pointer (some ⟨cO,0,none⟩)),(4,.int .i64 (i:Int))])
  (fun k _ H'=>iR pm H0 H' bJ cO dZ ev dn dc gM (fun j=>if j=i then({r with rhs:=r.rhs.take 30}:di).cells (sl (z+18) eG) else eW j)∧(0<eG→∃M,H'.get (z+18)=some (.cells M (.n 2))∧jk M 2 eG (fun j=>if j<k then(JF (cQ j)).cells else(cQ j).cells))∧∀b y,b≠ev→H.get b=some y→H'.get b=some y)
  () (by decide) (by omega) (by simp) ⟨de,dp,CH⟩ (by simp) ?_ ?_
 ·rintro k _ qJ ag ⟨qK,P4,P5⟩;obtain⟨M,CL,FC⟩:=P4 (by omega);have nr:=qK.k.aL;have P6:=qK.x;rw[eQ (show 0<dc by omega)]at P6;obtain⟨ayI,Y2,ayJ⟩:=qK.w (by omega);have cK:ayI[i*5+2]? = some (sl (z+18) eG):=by rw[(ayJ.2 i ad).2 2 (by decide)];simp[di.cells]
  rw[eQ (show 0<eG by omega)]at cK;obtain⟨eH,Y3⟩:∃t,t=(cQ k).v:=⟨_,rfl⟩;have il:M[k*2+1]? = some (aW eH):=by rw[(FC.2 k ag).2 1 (by decide),Y3];simp[fb.cells]
  have Y4:K pm qJ (qJ.up 21):=(K.refl nr).up 21;obtain⟨sM,yg⟩:∃A,A=(qJ.up 21).put (z+18) (.cells (M.set (k*2+1) (aW (eH.take 20))) (.n 2)):=⟨_,rfl⟩;have P7:setCells M (k*2+1) [aW (eH.take 20)]=some (M.set (k*2+1) (aW (eH.take 20))):=setCells_one (FC.lt ag (by decide));have ayK:=fun o=>jh (lo:=pm.lo) (ok:=pm.ok) (o:=o) (b:=z+18) (by have:=g0.lo;omega);have rK:iR pm H0 sM bJ cO dZ ev dn dc gM (fun j=>if j=i then({r with rhs:=r.rhs.take 30}:di).cells (sl (z+18) eG) else eW j):=by
   rw[yg];exact(qK.up Y4).put q (by omega) CL (by simp)
  have m1:=nr.lt P6;have m2:=nr.lt Y2;have m3:=nr.lt CL;have aGp:z+18≠ev:=by omega
  simp;refine eg.of nr.lo rfl ?_;simp[dt,nr.none,nr.fo,P6,Y2,ad,cK,CL,ag,il];refine GA Y4.aL (vs:=[aW eH,.int .i64 20]) (by simp[nr.none]) (by simp) (by simp) rfl (fun pm' bS=>kM bS (zK al (n:=20) (by omega))) ?_;rintro _ _-⟨rfl,rfl⟩;simp[nr.none,CL,ag,P7,ayK,←yg,m1,m2,m3,dx,dm,eJ,ez,gI];refine⟨rK,fun _=>⟨_,by rw[yg];exact dX,FC.set ag (by decide) _ ?_ fun j aH Vh=>?_⟩,fun b y ai h=>?_⟩
  ·simp[JF,fb.cells,Y3]
  ·by_cases e:j<k
   ·simp[e,show j<k+1 by omega]
   ·simp[e,show ¬j<k+1 by omega]
  ·have:=g.lt h;rw[yg,cq (by omega),zY];exact P5 b y ai h
 ·rintro _ qJ ⟨qK,P4,P5⟩;simp;have d':r.cut.cM.length=eG:=by simp[di.cut];omega
  refine dD _ _ (sl (z+18) eG) (by simp) ?_ ?_ ?_ P5
  ·have e:(fun j=>if j=i then r.cut.cells (sl (z+18) eG) else eW j)=(fun j=>if j=i then({r with rhs:=r.rhs.take 30}:di).cells (sl (z+18) eG) else eW j):=by
    funext j;split<;>rfl
   rw[e];exact qK
  ·by_cases aD:eG=0
   ·refine⟨none,0,by rw[d',aD];rfl,fun j aH=>by omega⟩
   ·obtain⟨M,CL,FC⟩:=P4 (by omega);refine⟨_,eG,by rw[d',eQ (by omega)],fun j aH=>⟨z+18,0,_,M,_,rfl,CL,rfl,by rw[Nat.zero_add];exact FC.row (by omega),JF (cQ j),?_,by simp[show j<eG by omega]⟩⟩;have qG:j<8:=by omega
    simp[di.cut,qG,mY j (by omega)];rfl
  ·unfold sl;split
   ·trivial
   ·show H.next≤z+18;omega
end Go.Dam.C
namespace Go.Dam.C
open Go Go.Dam
variable{X:aY}{pm:Perm}{H H' cL H0:ah}{n bJ cO dZ ev dn dc:Nat}{gM eW:Nat→List Value}
theorem ayL(al:wj X)(g0:cl pm H0)(q:CI H0 bJ cO dZ ev)(s:iR pm H0 H bJ cO dZ ev dn dc gM eW)(sN:dn≤6){i:Nat}(ad:i<dn){c:eu}(af:gM i=c.cells){R:c'}
 (dD:∀l' H',Sub [(98,.int .i64 (i:Int)),(97,.int .i64 (dn:Int)),(2,.pointer (some ⟨bJ,0,none⟩)),(3,.pointer (some ⟨cO,0,none⟩))] l'→iR pm H0 H' bJ cO dZ ev dn dc (fun j=>if j=i then c.cut.cells else gM j) eW→(∀b y,b≠dZ→H.get b=some y→H'.get b=some y)→R .normal l' H'):
 wp X pm (.code (.seq (.aT [m 100 98,m 6 100]) C.P8)) [(99,.bool true),(98,.int .i64 (i:Int)),(97,.int .i64 (dn:Int)),(2,.pointer (some ⟨bJ,0,none⟩)),(3,.pointer (some ⟨cO,0,none⟩))] H [] R:=by
 have g:=s.k.aL;have bn:=q.U;have bh:=q.aa;have cu:=q.aq;have e9:=q.a8;have eT:=g.lt s.x;obtain⟨L,bC,mV⟩:=s.c (by omega);have CJ:=s.x;rw[eQ (show 0<dn by omega)]at CJ;have hP:=g.lt bC;have ao:L[i*5+1]? = some (aW c.low):=by rw[(mV.2 i ad).2 1 (by decide),af];rfl
 have e2:L[i*5+2]? = some (aW c.up):=by rw[(mV.2 i ad).2 2 (by decide),af];rfl
 have bd:L[i*5+3]? = some (aW c.cost):=by rw[(mV.2 i ad).2 3 (by decide),af];rfl
 have cR:=mV.lt ad (show 1<5 by decide);have b9:=mV.lt ad (show 2<5 by decide);have fK:=mV.lt ad (show 3<5 by decide);have bE:K pm H (H.up 39):=(K.refl g).up 39;have sg:=fun o=>jh (lo:=pm.lo) (ok:=pm.ok) (o:=o) (b:=dZ) (by have:=g0.lo;omega);obtain⟨j9,FD⟩:∃l,l=L.set (i*5+1) (aW (c.low.take 20)):=⟨_,rfl⟩;obtain⟨kz,wy⟩:∃l,l=j9.set (i*5+2) (aW (c.up.take 20)):=⟨_,rfl⟩;obtain⟨JI,JJ⟩:∃l,l=kz.set (i*5+3) (aW (c.cost.take 20)):=⟨_,rfl⟩;obtain⟨fL,fc⟩:∃A,A=(H.up 39).put dZ (.cells j9 (.n 5)):=⟨_,rfl⟩;obtain⟨fV,fg⟩:∃A,A=fL.put dZ (.cells kz (.n 5)):=⟨_,rfl⟩;obtain⟨fW,fp⟩:∃A,A=fV.put dZ (.cells JI (.n 5)):=⟨_,rfl⟩;have cx:fL.get dZ=some (.cells j9 (.n 5)):=by rw[fc];exact dX
 have a2:fV.get dZ=some (.cells kz (.n 5)):=by rw[fg];exact dX
 have JG:setCells L (i*5+1) [aW (c.low.take 20)]=some j9:=by rw[FD];exact setCells_one cR
 have P2:setCells j9 (i*5+2) [aW (c.up.take 20)]=some kz:=by rw[wy];exact setCells_one (by rw[FD];simpa using b9)
 have P7:setCells kz (i*5+3) [aW (c.cost.take 20)]=some JI:=by rw[JJ];exact setCells_one (by rw[wy,FD];simpa using fK)
 have s1:iR pm H0 fL bJ cO dZ ev dn dc (fun j=>if j=i then({c with low:=c.low.take 20}:eu).cells else gM j) eW:=by
  rw[fc,FD];exact(s.up bE).col q ad (by decide) (by rw[af];simp[eu.cells]) (fun j _ h=>by simp[h]) bC
 have s2:iR pm H0 fV bJ cO dZ ev dn dc (fun j=>if j=i then({c with low:=c.low.take 20,up:=c.up.take 20}:eu).cells else gM j) eW:=by
  rw[fg,wy];exact s1.col q ad (by decide) (by simp[eu.cells]) (fun j _ h=>by simp[h]) cx
 have de:iR pm H0 fW bJ cO dZ ev dn dc (fun j=>if j=i then c.cut.cells else gM j) eW:=by
  rw[fp,JJ];exact s2.col q ad (by decide) (by simp[eu.cells,eu.cut]) (fun j _ h=>by simp[h]) a2
 have Y5:∀j,fL.get (H.next+j)=none∧fV.get (H.next+j)=none:=fun j=>by
  have U:fL.get (H.next+j)=none:=by rw[fc,cq (by omega)];exact g.none j
  exact⟨U,by rw[fg,cq (by omega)];exact U⟩
 have ayM:gp [dZ] [cO]=true:=kS (by omega);have ayN:=fun j=>(Y5 j).1;have ayO:=fun j=>(Y5 j).2;simp;refine eg.of g.lo rfl ?_;simp[dt,g.none,g.fo,CJ,bC,ad,ao,e2,bd];refine GA bE.aL (vs:=[aW c.low,.int .i64 20]) (by simp[g.none]) (by simp) (by simp) rfl (fun pm' bS=>kM bS (zK al (n:=20) (by omega))) ?_;rintro _ _-⟨rfl,rfl⟩;simp;refine GA bE.aL (vs:=[aW c.up,.int .i64 20]) (by simp[g.none]) (by simp) (by simp) rfl (fun pm' bS=>kM bS (zK al (n:=20) (by omega))) ?_;rintro _ _-⟨rfl,rfl⟩;simp;refine GA bE.aL (vs:=[aW c.cost,.int .i64 20]) (by simp[g.none]) (by simp) (by simp) rfl (fun pm' bS=>kM bS (zK al (n:=20) (by omega))) ?_;rintro _ _-⟨rfl,rfl⟩;simp[g.none,bC,ad,JG,sg,←fc,ayN,cx,P2,←fg,ayO,a2,P7,←fp,ayM,eT,hP,dx,dm,eJ,ez,gI];refine dD _ _ ?_ de fun b y ai h=>?_
 ·simp
 rw[fp,cq ai,fg,cq ai,fc,cq ai,zY];exact h
end Go.Dam.C
namespace Go.Dam.C
open Go Go.Dam
variable{X:aY}{pm:Perm}{H H' cL H0:ah}{n:Nat}
theorem jk.Y6{b k w:Nat}{f:Nat→List Value}{P:Nat→List Value→Prop}(h:0<k→∃L,H.get b=some (.cells L (.n w))∧jk L w k f)(aC:∀i,i<k→P i (f i)):hi H (sl b k) k w P:=by
 by_cases ag:0<k
 ·obtain⟨L,U,aa⟩:=h ag;exact⟨_,k,eQ ag,fun i ad=>⟨b,0,_,L,_,rfl,U,rfl,by rw[Nat.zero_add];exact aa.row ad,aC i ad⟩⟩
 ·obtain rfl:k=0:=by omega
  exact⟨none,0,rfl,fun i ad=>by omega⟩
theorem np.mono{ba gu:Nat}{v:Value}(h:np ba v)(aF:gu≤ba):np gu v:=by
 unfold np at*
 split
 ·exact bH aF h
 ·trivial
theorem np.sl{ba b k:Nat}(h:ba≤b):np ba (sl b k):=by
 unfold C.sl;split
 ·trivial
 ·exact h
theorem hi.ne{v:Value}{m w ba b:Nat}{P:Nat→List Value→Prop}(h:hi H v m w P)(bc:np ba v)(ai:b<ba)(aK:∀c y,c≠b→H.get c=some y→H'.get c=some y):hi H' v m w P:=by
 obtain⟨base,cap,rfl,eU⟩:=h.ex;refine⟨base,cap,rfl,fun i ad=>?_⟩;obtain⟨c,off,y,row,cs,rfl,e2,bd,b1,cK⟩:=eU i ad;have bc:ba≤c:=bc;exact⟨c,off,y,row,cs,rfl,aK _ _ (by omega) e2,bd,b1,cK⟩
theorem ayP(al:wj X):YJ X:=by
 intro pm H g v lp aw;refine Call.h6 al.wk rfl fun Q bU=>?_;obtain⟨v1,v2,rfl,af,an⟩:=aw;obtain⟨base,cap,rfl,kj⟩:=id af;obtain⟨dG,dE,rfl,rr⟩:=id an;obtain⟨jW,jR⟩:∃b,b=H.next:=⟨_,rfl⟩;obtain⟨H1,cw⟩:∃H1,H1=H.new (.cells [.slice base lp.aj.length cap,.slice dG lp.rows.length dE] (.t tyU0)):=⟨_,rfl⟩;have av:K pm H H1:=by rw[cw];exact K.new g _
 have g1:=av.aL;have h4:H1.get jW=some (.cells [.slice base lp.aj.length cap,.slice dG lp.rows.length dE] (.t tyU0)):=by rw[cw,jR];exact dT
 obtain⟨bJ,n1⟩:∃b,b=H1.next:=⟨_,rfl⟩;obtain⟨aJ,ee⟩:∃aJ,aJ=H1.new (.cells [.slice none 0 0,.slice none 0 0] (.t tyU1)):=⟨_,rfl⟩;have aI:K pm H1 aJ:=by rw[ee];exact K.new g1 _
 have g2:=aI.aL;have ayQ:aJ.get bJ=some (.cells [.slice none 0 0,.slice none 0 0] (.t tyU1)):=by rw[ee,n1];exact dT
 have P9:=aI.some g1 h4;have h8:=av.trans aI;have gu:H1.next=jW+1:=by rw[cw,jR];rfl
 have fU:aJ.next=bJ+1:=by rw[ee,n1];rfl
 obtain⟨gM,lc,ayR,JK,mY⟩:=PX (by':=72) (k:=min lp.aj.length 6) (af.imp (h8.ext g) fun _ _ _ h=>h) (Nat.min_le_left _ _) (by decide) (by omega) (by decide) (fun i cs ⟨c,_,e⟩=>by rw[e];rfl);obtain⟨eW,cc,e8,P',nk⟩:=PX (by':=80) (k:=min lp.rows.length 6) (hO.imp an (h8.ext g) fun _ _ _ h=>h) (Nat.min_le_left _ _) (by decide) (by omega) (by decide) (fun i cs ⟨c,vc,_,e,e2⟩=>by
  rw[e];obtain⟨_,_,bd,_⟩:=e2;rw[bd];rfl)
 have Qa:∀x∈gM,x<aJ.next:=fun x az=>by obtain⟨y,bu⟩:=ayR x az;exact g2.lt bu
 have JL:∀x∈eW,x<aJ.next:=fun x az=>by obtain⟨y,bu⟩:=e8 x az;exact g2.lt bu
 obtain⟨dn,sN⟩:∃k,k=min lp.aj.length 6:=⟨_,rfl⟩;obtain⟨dc,oB⟩:∃k,k=min lp.rows.length 6:=⟨_,rfl⟩;rw[←sN]at mY JK;rw[←oB]at nk P';have m1:=YW lp.aj.length;have m2:=YW lp.rows.length;rw[←sN]at m1;rw[←oB]at m2;obtain⟨z,bl⟩:∃z,z=aJ.next:=⟨_,rfl⟩;have bE:K pm aJ (aJ.up 19):=(K.refl g2).up 19;have Y7:=bE.ext g2;obtain⟨fL,fc⟩:∃A,A=mD (aJ.up 19) (z+7) dn 5 lc:=⟨_,rfl⟩;have hD:K pm aJ fL:=by rw[fc];exact bp.mD bE (by omega) (by rw[bl];exact g2.none 7) (by show z+7<aJ.next+19;omega)
 have cy:=(mY _ Y7 pm.lo (z+6) pm.ok).1;have dd:=(mY _ Y7 pm.lo (z+7) pm.ok).2;have Y8:=hD.ext g2;obtain⟨fV,fg⟩:∃A,A=mD fL (z+15) dc 5 cc:=⟨_,rfl⟩;have oP:∀j,j≠7→fL.get (z+j)=none:=fun j aH=>by rw[fc,JD (by omega),bl];exact g2.none j
 have P1:fL.next=z+19:=by rw[fc,PV,bl];rfl
 have Y9:K pm aJ fV:=by rw[fg];exact bp.mD hD (by omega) (oP 15 (by decide)) (by omega)
 have dy:=(nk _ Y8 pm.lo (z+14) pm.ok).1;have iZ:=(nk _ Y8 pm.lo (z+15) pm.ok).2;have rL:∀j,j≠7→j≠15→fV.get (z+j)=none:=fun j aH j8=>by rw[fg,JD (by omega)];exact oP j aH
 have ayS:fV.next=z+19:=by rw[fg,PV,P1]
 rw[←fc]at dd;rw[←fg]at iZ;have ayT:=hD.some g2 P9;have ayU:=Y9.some g2 P9;simp[g.pick,g.make,ptr,←jR,←cw,←n1,←ee,-JM];refine eg.of g2.lo rfl ?_;rw[←bl];have mS:=fun j=>(by rw[bl];exact g2.none j:(aJ.up 19).get (z+j)=none);have FA:=(by rw[bl];exact g2.fo:(aJ.up 19).get z=none);have oN:∀b i,fG (sl b i)=true:=fun b i=>by unfold sl;split<;>rfl
 have oO:∀b i,(sl b i).cells=#[sl b i]:=fun b i=>by unfold sl;split<;>rfl
 obtain⟨fW,fp⟩:∃A,A=fV.put (z+17) (.cells [.slice none 0 0,.slice none 0 0] (.t tyU2)):=⟨_,rfl⟩;obtain⟨oQ,km⟩:∃A,A=fW.put (z+17) (.cells [sl (z+7) dn,sl (z+15) dc] (.t tyU2)):=⟨_,rfl⟩;have uy:fW.get (z+18)=none:=by rw[fp,cq (by omega)];exact rL 18 (by decide) (by decide)
 have Qb:fW.get (z+17)=some (.cells [.slice none 0 0,.slice none 0 0] (.t tyU2)):=by rw[fp];exact dX
 have x9:=fun o=>jh (lo:=pm.lo) (ok:=pm.ok) (o:=o) (b:=z+17) (by have:=g2.lo;omega);have ayV:jW<z:=by omega
 have lb:∀j k,∀x∈rI (z+j) k,z≤x:=fun j k x az=>by rw[JE az];omega
 have jR:∀x∈[jW],x<z:=fun x az=>by rw[DZ.1 az];omega
 have Qc:∀x∈[z+17],z≤x:=fun x az=>by rw[DZ.1 az];omega
 rw[←bl]at Qa JL;have d1:=fun j k=>(zX jR (lb j k)).2;have d2:=fun j k=>(zX JL (lb j k)).2;have d3:=(zX jR Qc).2;have d4:=(zX Qa Qc).2;have d5:=(zX JL Qc).2;have d6:=(YV (n:=dn) (show z+7≠z+17 by omega)).2;have d7:=(YV (n:=dc) (show z+15≠z+17 by omega)).2;have d8:=zX (a:=rI (z+7) dn) (b:=rI (z+15) dc) (n:=z+8) (fun x az=>by rw[JE az];omega) (fun x az=>by rw[JE az];omega);have f1:∀b∈gM,b<z∨z+19≤b:=fun b ai=>.inl (Qa b ai);have f2:∀b∈eW,b<z∨z+19≤b:=fun b ai=>.inl (JL b ai);simp[d1,d2,d3,d4,d5,d6,d7,ayV,ez,dt,mS,FA,P9,m1,cy,dd,oP,ayT,m2,dy,iZ,rL,oO,oN,setCells,c5,Perm.make,Perm.pick,ptr,←fp,uy,Qb,x9,←km,dx,dm,-hV,-JM];refine⟨⟨fun x az=>.inl (.inl (f1 x az)),fun x az=>.inl (.inl (f1 x az)),fun x az=>.inl (.inl (f2 x az)),fun x az=>.inl (.inl (f2 x az))⟩,?_⟩;have ayW:fW.next=z+19:=by rw[fp];exact ayS
 have ayX:K pm aJ fW:=by rw[fp];exact bp.fill Y9 (by omega) (rL 17 (by decide) (by decide)) (by omega) _
 have JN:K pm aJ oQ:=by rw[km];exact bp.put ayX (by omega) Qb (by simp) _
 have aGq:oQ.next=z+19:=by rw[km];exact ayW
 have q:CI H bJ (z+17) (z+7) (z+15):=⟨by omega,by omega,by omega,by omega⟩;obtain⟨ac,rM⟩:∃f:Nat→eu,∀j,j<lp.aj.length→lp.aj[j]? = some (f j):=⟨fun j=>lp.aj.getD j ⟨[],[],[],[],false⟩,fun j aH=>by simp[aH]⟩;obtain⟨ar,py⟩:∃f:Nat→di,∀j,j<lp.rows.length→lp.rows[j]? = some (f j):=⟨fun j=>lp.rows.getD j ⟨[],0,[],[],[]⟩,fun j aH=>by simp[aH]⟩;obtain⟨v0,iy⟩:∃v0:Nat→Value,∀j,j<dc→(cX cc (j*5) 5=some ((ar j).cells (v0 j))∧hO H (v0 j) (ar j).cM.length 2 fun i cs=>∃c,(ar j).cM[i]? = some c∧cs=c.cells):=by
  have:∀j,∃v,j<dc→(cX cc (j*5) 5=some ((ar j).cells v)∧hO H v (ar j).cM.length 2 fun i cs=>∃c,(ar j).cM[i]? = some c∧cs=c.cells):=fun j=>by
   by_cases aH:j<dc
   ·obtain⟨cs,ao,r,vc,e2,rfl,bd⟩:=(P' (by omega)).2 j aH;rw[py j (by omega)]at e2;cases e2;exact⟨vc,fun _=>⟨ao,bd⟩⟩
   ·exact⟨.bool true,fun h=>absurd h aH⟩
  exact⟨fun j=>(this j).choose,fun j=>(this j).choose_spec⟩
 have iQ:iR pm H oQ bJ (z+17) (z+7) (z+15) dn dc (fun j=>(ac j).cells) (fun j=>(ar j).cells (v0 j)):=by
  refine⟨K.trans h8 JN,JN.some g2 ayQ,by rw[km];exact dX,fun h=>⟨lc,?_,jk.of (JK h).1 fun j aH=>?_⟩,fun h=>⟨cc,?_,jk.of (P' h).1 fun j aH=>(iy j aH).1⟩⟩
  ·rw[km,cq (by omega),fp,cq (by omega),fg,JD (by omega),fc];exact PW h
  ·obtain⟨cs,ao,c,e2,rfl⟩:=(JK h).2 j aH;rw[rM j (by omega)]at e2;cases e2;exact ao
  ·rw[km,cq (by omega),fp,cq (by omega),fg];exact PW h
 have aGr:=JN.aL;have aGs:K pm H oQ:=K.trans h8 JN;clear fc fg fp km nk mY cy dd dy iZ oP rL uy Qb d1 d2 d3 d4 d5 d6 d7 d8 f1 f2 mS FA lb;obtain⟨iS,uz,_⟩:=uA (z+7) dn;obtain⟨aGt,Y',_⟩:=uA (z+15) dc;have sc:=iQ.x;rw[uz,Y']at sc;simp[sc,-Qd,-Qe]
 refine gG (σ:=Nat→Value) dc (fun _ _=>[(2,.pointer (some ⟨bJ,0,none⟩)),(3,.pointer (some ⟨z+17,0,none⟩))])
  (fun i vcs H'=>iR pm H H' bJ (z+17) (z+7) (z+15) dn dc (fun j=>(ac j).cells) (fun j=>if j<i then(ar j).cut.cells (vcs j) else(ar j).cells (v0 j))∧∀j,j<i→nX H' (vcs j) (ar j).cut.cM∧np (z+16) (vcs j))
  v0 (by decide) (by omega) (by simp) ⟨by simpa using iQ,fun j aH=>absurd aH (od _)⟩ (by simp) ?_ ?_
 ·rintro i vcs qJ ad ⟨qK,Qf⟩;refine ayG al g q qK (by omega) ad (r:=ar i) (vc:=v0 i) (by simp) (iy i ad).2 ?_;intro l' sM rJ Qg rK Fh e8 aK;have aGu:=qK.k.aL.lt qK.x;refine⟨fun j=>if j=i then rJ else vcs j,Qg,?_,fun j aH=>?_⟩
  ·have e:(fun j=>if j=i then(ar i).cut.cells rJ else if j<i then(ar j).cut.cells (vcs j) else(ar j).cells (v0 j))=(fun j=>if j<i+1 then(ar j).cut.cells (if j=i then rJ else vcs j) else(ar j).cells (v0 j)):=by
    funext j;by_cases e:j=i
    ·subst e;simp
    ·by_cases e2:j<i
     ·simp[e,e2,show j<i+1 by omega]
     ·simp[e,e2,show ¬j<i+1 by omega]
   rw[←e];exact rK
  ·by_cases e:j=i
   ·subst e;simp only[if_true];exact⟨Fh,e8.mono (by omega)⟩
   ·simp only[e,if_false];obtain⟨U,aa⟩:=Qf j (by omega);exact⟨hi.ne U aa (by omega) aK,aa⟩
 ·rintro vcs qJ ⟨qK,Qf⟩;have Za:=qK.x;rw[uz,Y']at Za;simp[Za,-Qh,-Qi]
  refine gG (σ:=Unit) dn (fun _ _=>[(2,.pointer (some ⟨bJ,0,none⟩)),(3,.pointer (some ⟨z+17,0,none⟩))])
   (fun i _ H'=>iR pm H H' bJ (z+17) (z+7) (z+15) dn dc (fun j=>if j<i then(ac j).cut.cells else(ac j).cells) (fun j=>if j<dc then(ar j).cut.cells (vcs j) else(ar j).cells (v0 j))∧∀j,j<dc→nX H' (vcs j) (ar j).cut.cM∧np (z+16) (vcs j))
   () (by decide) (by omega) (by simp) ⟨by simpa using qK,Qf⟩ (by simp) ?_ ?_
  ·rintro i _ sM ad ⟨rK,zZ⟩;refine ayL al g q rK (by omega) ad (c:=ac i) (by simp) ?_;intro l' CD Qg ayY aK;refine⟨(),Qg,?_,fun j aH=>?_⟩
   ·have e:(fun j=>if j=i then(ac i).cut.cells else if j<i then(ac j).cut.cells else(ac j).cells)=(fun j=>if j<i+1 then(ac j).cut.cells else(ac j).cells):=by
     funext j;by_cases e:j=i
     ·subst e;simp
     ·by_cases e2:j<i
      ·simp[e,e2,show j<i+1 by omega]
      ·simp[e,e2,show ¬j<i+1 by omega]
    rw[←e];exact ayY
   ·obtain⟨U,aa⟩:=zZ j aH;exact⟨hi.ne U aa (by omega) aK,aa⟩
  ·rintro _ sM ⟨rK,zZ⟩;have ayZ:=rK.x;have Zb:=rK.r;have JC:=rK.k.aL;have oN:∀b i,fG (sl b i)=true:=fun b i=>by unfold sl;split<;>rfl
   have oO:∀b i,(sl b i).cells=#[sl b i]:=fun b i=>by unfold sl;split<;>rfl
   have rH:pm.may bJ=true:=g.may (by omega);obtain⟨CD,CM⟩:∃A,A=sM.put bJ (.cells [sl (z+7) dn,sl (z+15) dc] (.t tyU1)):=⟨_,rfl⟩;simp[ayZ,Zb,cX,c5,oN,setCells,rH,←CM];refine bU _ _ _ ?_;have ay0:CD.get bJ=some (.cells [sl (z+7) dn,sl (z+15) dc] (.t tyU1)):=by rw[CM];exact dX
   have CE:K pm H CD:=by rw[CM];exact bp.put rK.k (by omega) Zb (by simp) _
   simp[ik,ay0,cX,c5];refine⟨CE,?_⟩;have d':lp.cut.aj.length=dn:=by simp[bD.cut];omega
   have ld:lp.cut.rows.length=dc:=by simp[bD.cut];omega
   have ay1:0<dn→∃L,CD.get (z+7)=some (.cells L (.n 5))∧jk L 5 dn (fun j=>if j<dn then(ac j).cut.cells else(ac j).cells):=fun h=>(rK.c h).imp fun L h=>⟨by rw[CM,cq (by omega)];exact h.1,h.2⟩;have z1:0<dc→∃L,CD.get (z+15)=some (.cells L (.n 5))∧jk L 5 dc (fun j=>if j<dc then(ar j).cut.cells (vcs j) else(ar j).cells (v0 j)):=fun h=>(rK.w h).imp fun L h=>⟨by rw[CM,cq (by omega)];exact h.1,h.2⟩;refine⟨_,_,rfl,?_,?_,np.sl (by omega),np.sl (by omega)⟩
   ·unfold kI;rw[d'];refine jk.Y6 ay1 fun i ad=>⟨(ac i).cut,?_,by simp[ad]⟩;simp[bD.cut,show i<6 by omega,rM i (by omega)]
   ·unfold uv;rw[ld];refine jk.Y6 z1 fun i ad=>⟨(ar i).cut,vcs i,?_,by simp[ad],?_,(zZ i ad).2.mono (by omega)⟩
    ·simp[bD.cut,show i<6 by omega,py i (by omega)]
    ·exact hi.ne (zZ i ad).1 (zZ i ad).2 (b:=bJ) (by omega) fun c y af h=>by rw[CM,cq af];exact h
end Go.Dam.C
namespace Go.Dam.C
open Go Go.Dam Go.RowKit
section
variable{O:da}{P:Program}{W:World}
def hy(O:da)(W:World)(v':Value)(Q:ah→Value→Prop):Prop:=∀γ H,In O (fun _=>True) W γ H→∃bk H' v,In O (fun _=>True) W bk H'∧γ.le bk∧Ext H H'∧bg bk v v'∧Q H' v
def JO(Q:ah→Value→Prop):Prop:=∀H H' v,Ext H H'→Q H v→Q H' v
theorem hy.plain{v:Value}(h:plainCell v=true):hy O W v fun _ u=>u=v:=fun γ H ad=>⟨γ,H,v,ad,.refl _,.refl _,.plainCell h,rfl⟩
theorem hy.imp{v:Value}{Q ha:ah→Value→Prop}(h:hy O W v Q)(g:∀H u,Q H u→ha H u):hy O W v ha:=fun γ H ad=>
 let ⟨bk,H',u,a,b,c,d,e⟩:=h γ H ad;⟨bk,H',u,a,b,c,d,g _ _ e⟩
theorem hy.list{V:Nat→Value}{Q:Nat→ah→Value→Prop}(aG:∀i,JO (Q i)):∀k,(∀i,i<k→hy O W (V i) (Q i))→∀γ H,In O (fun _=>True) W γ H→
 ∃bk H',∃u:Nat→Value,In O (fun _=>True) W bk H'∧γ.le bk∧Ext H H'∧∀i,i<k→bg bk (u i) (V i)∧Q i H' (u i)
 | 0,_,γ,H,ad=>⟨γ,H,fun _=>.bool true,ad,.refl _,.refl _,fun i ad=>absurd ad (od _)⟩
 | k+1,h,γ,H,ad=>by
   obtain⟨gO,H1,u,i1,ck,df,U⟩:=hy.list aG k (fun i ad=>h i (by omega)) γ H ad;obtain⟨dQ,aJ,v,i2,cJ,dW,aw,aV⟩:=h k (by omega) gO H1 i1;refine⟨dQ,aJ,fun i=>if i=k then v else u i,i2,ck.trans cJ,df.trans dW,fun i JP=>?_⟩;by_cases e:i=k
   ·subst e;simp only[if_true];exact⟨aw,aV⟩
   ·simp only[e,if_false];obtain⟨p,q⟩:=U i (by omega);exact⟨p.mono cJ,aG i _ _ _ dW q⟩
theorem hy.nil{w:Nat}{Q:ah→Nat→List Value→Prop}:hy O W (.slice none 0 0) fun H u=>hO H u 0 w (Q H):=fun γ H ad=>
 ⟨γ,H,_,ad,.refl _,.refl _,.xH,none,0,rfl,bR _,fun _=>rfl,fun a h=>by cases h⟩
theorem hy.slice{a:Addr}{len cap w:Nat}{V:Nat→Value}{Q:Nat→ah→Value→Prop}(aG:∀i,JO (Q i))(aO:len≤cap)(hw:0<w)(eI:∀j,j<cap*w→W.cell? (a.add j)=some (V j))(h:∀j,j<len*w→hy O W (V j) (Q j)):
 hy O W (.slice (some a) len cap) fun H v=>hO H v len w fun i cs=>∃u:Nat→Value,cs=(List.range w).map (fun k=>u (i*w+k))∧∀k,k<w→Q (i*w+k) H (u (i*w+k)):=by
 intro γ H ad;obtain⟨gO,H1,u,i1,ck,df,U⟩:=hy.list aG (len*w) h γ H ad;have hlen:((List.range (len*w)).map u).length=len*w:=by simp
 have an:cm gO ((List.range (len*w)).map u) ((List.range (len*w)).map V):=cm.vD (by simp) fun i v v' p q=>by
  rw[List.getElem?_map]at p q;by_cases z6:i<len*w
  ·rw[List.getElem?_range z6]at p q;cases p;cases q;exact(U i z6).1
  ·rw[jq (by simpa using z6)]at p;cases p
 obtain⟨j9,g1,g2,_⟩:=i1.FE;obtain⟨b,o,ay2,tT⟩:∃b o,wz W (fun _=>True) b o ((List.range (len*w)).map V)∧bg (gO.set H1.next ⟨b,o,0,0⟩) (.slice (some ⟨H1.next,0,none⟩) len cap) (.slice (some a) len cap):=by
  by_cases af:cap=0
  ·subst af;obtain rfl:len=0:=by omega
   obtain⟨c,e,cz,c9⟩:=i1.Qj;exact⟨1,0,⟨trivial,c,e,cz,c9,by simp,by simp⟩,.p9 (bo.im _ _ _)⟩
  ·have nR:0<cap*w:=Nat.mul_pos (by omega) hw;have aD:=eI 0 nR;obtain⟨b,o,sp⟩:=a;have sk:sp=none:=by simpa [Addr.add]using World.cell?_spot aD
   subst sk;obtain⟨c,elem,cz,c9⟩:∃c elem cz,W.heap[b]? = some (.cells c elem cz):=by
    unfold World.cell? at aD;split at aD
    ·rename_i c e f c9;exact⟨c,e,f,by simpa [Addr.add]using c9⟩
    ·cases aD
   have mW:∀i,i<cap*w→c[o+i]? = some (V i):=by
    intro i ad;have aa:=eI i ad;rw[add_eq]at aa;simpa [World.cell?,c9]using aa
   have Qk:=(ic.1 (mW (cap*w-1) (by omega))).1;have hle:len*w≤cap*w:=hQ _ aO;refine⟨b,o,⟨trivial,c,elem,cz,c9,by simp;omega,fun i v e=>?_⟩,?_⟩
   ·rw[List.getElem?_map]at e;by_cases z6:i<len*w
    ·rw[List.getElem?_range z6]at e;cases e;exact mW i (by omega)
    ·rw[jq (by simpa using z6)]at e;cases e
   ·have:=bg.jN (γ:=gO.set H1.next ⟨b,o,0,0⟩) (b:=H1.next) (off:=0) (n:=len) (cap:=cap) (dN:=cap) (L:=⟨b,o,0,0⟩) (bo.im _ _ _) (bR _) aO (.inl rfl);simpa using this
 obtain⟨i2,cJ,dW⟩:=i1.add ay2 an;refine⟨_,_,_,i2,ck.trans cJ,df.trans dW,tT,_,cap,rfl,aO,(fun h=>by cases h),fun a h=>?_⟩;cases h;refine⟨H1.next,0,_,rfl,dT,by simp,fun i ad=>⟨_,CG ?_,u,?_,fun k ag=>aG _ _ _ _ dW (U _ ?_).2⟩⟩
 ·have:i*w+w≤len*w:=by rw[←Nat.succ_mul];exact hQ _ ad
  simp;omega
 ·apply List.ext_getElem?;intro k;by_cases ag:k<w
  ·have:i*w+w≤len*w:=by rw[←Nat.succ_mul];exact hQ _ ad
   rw[pT ag,o',List.getElem?_map,List.getElem?_map,List.getElem?_range ag,List.getElem?_range (by omega),Nat.zero_add];rfl
  ·rw[jq (by simp;omega),jq (by simpa using ag)]
 ·have:i*w+w≤len*w:=by rw[←Nat.succ_mul];exact hQ _ ad
  omega
theorem JQ{v:Value}:JO fun _ u=>u=v:=fun _ _ _ _ h=>h
theorem hO.zg{m w:Nat}{P:Nat→List Value→Prop}:JO fun H v=>hO H v m w P:=fun _ _ _ e h=>hO.imp h e fun _ _ _ h=>h
def iB:Value→List UInt8
 | .string s=>s.data.toList
 | _=>[]
def z7:Value→Int
 | .int _ n=>n
 | _=>0
def JR:Value→Bool
 | .bool b=>b
 | _=>false
def oR(v:Value):Prop:=∃s,v=.string s
def yh(v:Value):Prop:=∃n,v=.int .i64 n
def CN(v:Value):Prop:=∃b,v=.bool b
theorem oR.st{v:Value}(h:oR v):v=aW (iB v):=by obtain⟨s,rfl⟩:=h;rfl
theorem yh.int{v:Value}(h:yh v):v=.int .i64 (z7 v):=by obtain⟨s,rfl⟩:=h;rfl
theorem CN.bool{v:Value}(h:CN v):v=.bool (JR v):=by obtain⟨s,rfl⟩:=h;rfl
theorem oR.lift{v:Value}(h:oR v):hy O W v fun _ u=>u=v:=by obtain⟨s,rfl⟩:=h;exact .plain rfl
theorem yh.lift{v:Value}(h:yh v):hy O W v fun _ u=>u=v:=by obtain⟨s,rfl⟩:=h;exact .plain rfl
theorem CN.lift{v:Value}(h:CN v):hy O W v fun _ u=>u=v:=by obtain⟨s,rfl⟩:=h;exact .plain rfl
def FF(W:World)(w:Nat)(v:Value)(E:(Nat→Value)→Prop):Prop:=v=.slice none 0 0∨∃a len cap,∃V:Nat→Value,v=.slice (some a) len cap∧len≤cap∧(∀j,j<cap*w→W.cell? (a.add j)=some (V j))∧∀i,i<cap→E fun k=>V (i*w+k)
def B7(W:World)(v:Value):Prop:=FF W 1 v fun V=>oR (V 0)
def I3(W:World)(v:Value):Prop:=FF W 2 v fun V=>yh (V 0)∧oR (V 1)
def I4(W:World)(v:Value):Prop:=FF W 5 v fun V=>oR (V 0)∧oR (V 1)∧oR (V 2)∧oR (V 3)∧CN (V 4)
def RowsIn(W:World)(v:Value):Prop:=FF W 5 v fun V=>oR (V 0)∧yh (V 1)∧I3 W (V 2)∧oR (V 3)∧oR (V 4)
theorem B7.lift{v:Value}(h:B7 W v):∃l,hy O W v fun H u=>kh H u l:=by
 rcases h with rfl | ⟨a,len,cap,V,rfl,aO,eI,bz⟩
 ·exact⟨[],fun γ H ad=>⟨γ,H,_,ad,.refl _,.refl _,.xH,kh.nil⟩⟩
 ·refine⟨(List.range len).map fun i=>iB (V i),(hy.slice (w:=1) (Q:=fun j _ u=>u=V j) (fun _=>JQ) aO (by decide) eI fun j aH=>?_).imp fun H u h=>?_⟩
  ·have:=bz j (by omega);simp only[Nat.mul_one,Nat.add_zero]at this;exact this.lift
  ·obtain⟨base,cap,rfl,_,aD,U⟩:=h;refine⟨base,cap,by simp,fun i ad=>?_⟩;have ad:i<len:=by simpa using ad
   cases base with
   | none=>have:=aD rfl;omega
   | some a=>
     obtain⟨b,off,row,rfl,aa,aq,a8⟩:=U _ rfl;obtain⟨cs,cg,u,rfl,dj⟩:=a8 i ad;have j4:=dj 0 (by decide);simp only[Nat.mul_one,Nat.add_zero]at j4;have Ei:=(Fy cg).2;have mm:=congrArg (fun l=>l[0]?) Ei;simp[j4]at mm;have aG:=bz i (by omega);simp only[Nat.mul_one,Nat.add_zero]at aG;exact⟨b,off,_,row,V i,rfl,aa,rfl,mm.symm,iB (V i),by simp[ad],aG.st⟩
theorem I3.lift{v:Value}(h:I3 W v):∃l:List fb,hy O W v fun H u=>hO H u l.length 2 fun i cs=>∃c,l[i]? = some c∧cs=c.cells:=by
 rcases h with rfl | ⟨a,len,cap,V,rfl,aO,eI,bz⟩
 ·exact⟨[],hy.nil⟩
 ·refine⟨(List.range len).map fun i=>⟨z7 (V (i*2+0)),iB (V (i*2+1))⟩,(hy.slice (w:=2) (Q:=fun j _ u=>u=V j) (fun _=>JQ) aO (by decide) eI fun j aH=>?_).imp fun H u h=>?_⟩
  ·obtain⟨U,aa⟩:=bz (j/2) (by omega);have e:j=j/2*2+0∨j=j/2*2+1:=by omega
   rcases e with e | e<;>rw[e]
   ·exact U.lift
   ·exact aa.lift
  ·simp only[List.length_map,List.length_range];refine hO.imp h (fun _ _ e=>e) fun i cs ad ⟨u,e,hu⟩=>⟨⟨z7 (V (i*2+0)),iB (V (i*2+1))⟩,by simp[ad],?_⟩;obtain⟨U,aa⟩:=bz i (by omega);have cY:=hu 0 (by decide);have ao:=hu 1 (by decide);rw[e];show[u (i*2+0),u (i*2+1)]=_;rw[cY,ao];show[V (i*2+0),V (i*2+1)]=[.int .i64 (z7 (V (i*2+0))),aW (iB (V (i*2+1)))];rw[←U.int,←aa.st]
theorem I4.lift{v:Value}(h:I4 W v):∃l:List eu,hy O W v fun H u=>hO H u l.length 5 fun i cs=>∃c,l[i]? = some c∧cs=c.cells:=by
 rcases h with rfl | ⟨a,len,cap,V,rfl,aO,eI,bz⟩
 ·exact⟨[],hy.nil⟩
 ·refine⟨(List.range len).map fun i=>⟨iB (V (i*5+0)),iB (V (i*5+1)),iB (V (i*5+2)),iB (V (i*5+3)),JR (V (i*5+4))⟩,(hy.slice (w:=5) (Q:=fun j _ u=>u=V j) (fun _=>JQ) aO (by decide) eI fun j aH=>?_).imp fun H u h=>?_⟩
  ·obtain⟨aD,U,aa,aq,a8⟩:=bz (j/5) (by omega);have e:j=j/5*5+0∨j=j/5*5+1∨j=j/5*5+2∨j=j/5*5+3∨j=j/5*5+4:=by omega
   rcases e with e | e | e | e | e<;>rw[e]
   ·exact aD.lift
   ·exact U.lift
   ·exact aa.lift
   ·exact aq.lift
   ·exact a8.lift
  ·simp only[List.length_map,List.length_range];refine hO.imp h (fun _ _ e=>e) fun i cs ad ⟨u,e,hu⟩=>⟨⟨iB (V (i*5+0)),iB (V (i*5+1)),iB (V (i*5+2)),iB (V (i*5+3)),JR (V (i*5+4))⟩,by simp[ad],?_⟩;obtain⟨aD,U,aa,aq,a8⟩:=bz i (by omega);rw[e];show[u (i*5+0),u (i*5+1),u (i*5+2),u (i*5+3),u (i*5+4)]=[aW (iB (V (i*5+0))),aW (iB (V (i*5+1))),aW (iB (V (i*5+2))),aW (iB (V (i*5+3))),.bool (JR (V (i*5+4)))];rw[hu 0 (by decide),hu 1 (by decide),hu 2 (by decide),hu 3 (by decide),hu 4 (by decide),←aD.st,←U.st,←aa.st,←aq.st,←a8.bool]
theorem RowsIn.lift{v:Value}(h:RowsIn W v):∃l:List di,hy O W v fun H u=>CF H u l:=by
 rcases h with rfl | ⟨a,len,cap,V,rfl,aO,eI,bz⟩
 ·exact⟨[],fun γ H ad=>⟨γ,H,_,ad,.refl _,.refl _,.xH,none,0,rfl,bR _,fun _=>rfl,fun a h=>by cases h⟩⟩
 ·have af:∀i,∃l:List fb,i<cap→hy O W (V (i*5+2)) fun H u=>hO H u l.length 2 fun i cs=>∃c,l[i]? = some c∧cs=c.cells:=fun i=>by
   by_cases ad:i<cap
   ·obtain⟨l,h⟩:=(bz i ad).2.2.1.lift (O:=O);exact⟨l,fun _=>h⟩
   ·exact⟨[],fun h=>absurd h ad⟩
  obtain⟨co,Fh⟩:∃co:Nat→List fb,∀i,i<cap→hy O W (V (i*5+2)) fun H u=>hO H u (co i).length 2 fun iq cs=>∃c,(co i)[iq]? = some c∧cs=c.cells:=⟨fun i=>(af i).choose,fun i=>(af i).choose_spec⟩
  refine⟨(List.range len).map fun i=>⟨iB (V (i*5+0)),z7 (V (i*5+1)),co i,iB (V (i*5+3)),iB (V (i*5+4))⟩,
   (hy.slice (w:=5) (Q:=fun j H u=>if j%5=2 then hO H u (co (j/5)).length 2 fun iq cs=>∃c,(co (j/5))[iq]? = some c∧cs=c.cells else u=V j) (fun j=>?_) aO (by decide) eI fun j aH=>?_).imp fun H u h=>?_⟩
  ·by_cases e:j%5=2
   ·simp only[e,if_true];exact hO.zg
   ·simp only[e,if_false];exact JQ
  ·obtain⟨aD,U,aa,aq,a8⟩:=bz (j/5) (by omega);have e:j=j/5*5+0∨j=j/5*5+1∨j=j/5*5+2∨j=j/5*5+3∨j=j/5*5+4:=by omega
   rcases e with e | e | e | e | e
   ·simp only[show ¬j%5=2 by omega,if_false];rw[e];exact aD.lift
   ·simp only[show ¬j%5=2 by omega,if_false];rw[e];exact U.lift
   ·have:=Fh (j/5) (by omega);rw[←e]at this;simp only[show j%5=2 by omega,if_true];exact this
   ·simp only[show ¬j%5=2 by omega,if_false];rw[e];exact aq.lift
   ·simp only[show ¬j%5=2 by omega,if_false];rw[e];exact a8.lift
  ·unfold CF;simp only[List.length_map,List.length_range];refine hO.imp h (fun _ _ e=>e) fun i cs ad ⟨u,e,hu⟩=>⟨⟨iB (V (i*5+0)),z7 (V (i*5+1)),co i,iB (V (i*5+3)),iB (V (i*5+4))⟩,u (i*5+2),by simp[ad],?_,?_⟩
   ·obtain⟨aD,U,aa,aq,a8⟩:=bz i (by omega);have u0:=hu 0 (by decide);have fQ:=hu 1 (by decide);have fu:=hu 3 (by decide);have eX:=hu 4 (by decide);rw[aU (by omega)]at u0 fQ fu eX;rw[e];show[u (i*5+0),u (i*5+1),u (i*5+2),u (i*5+3),u (i*5+4)]=[aW (iB (V (i*5+0))),.int .i64 (z7 (V (i*5+1))),u (i*5+2),aW (iB (V (i*5+3))),aW (iB (V (i*5+4)))];rw[u0,fQ,fu,eX,←aD.st,←U.int,←aq.st,←a8.st]
   ·have fm:=hu 2 (by decide);rw[bm (by omega),show(i*5+2)/5=i by omega]at fm;exact fm
def I5(W:World)(v:Value):Prop:=∃v1 v2,v=.agg #[v1,v2]∧I4 W v1∧RowsIn W v2
def Fb(W:World)(v:Value):Prop:=∃v0 v1 v2 v3 v4,v=.agg #[v0,v1,v2,v3,v4]∧yh v0∧oR v1∧B7 W v2∧B7 W v3∧B7 W v4
theorem I5.lift{v:Value}(h:I5 W v):∃lp:bD,hy O W v fun H u=>x' H u lp:=by
 obtain⟨v1,v2,rfl,U,aa⟩:=h;obtain⟨aj,ck⟩:=U.lift (O:=O);obtain⟨rows,cJ⟩:=aa.lift (O:=O);refine⟨⟨aj,rows⟩,fun γ H ad=>?_⟩;obtain⟨gO,H1,fQ,i1,ao,df,b4,bn⟩:=ck γ H ad;obtain⟨dQ,aJ,fm,i2,e2,dW,cB,bh⟩:=cJ gO H1 i1;exact⟨dQ,aJ,.agg #[fQ,fm],i2,ao.trans e2,df.trans dW,.agg (.cons (b4.mono e2) (.cons cB .nil)),fQ,fm,rfl,hO.zg _ _ _ dW bn,bh⟩
theorem Fb.lift{v:Value}(h:Fb W v):∃a:iz,hy O W v fun H u=>ur H u a:=by
 obtain⟨v0,v1,v2,v3,v4,rfl,aD,U,aa,aq,a8⟩:=h;obtain⟨x,cJ⟩:=aa.lift (O:=O);obtain⟨d,eT⟩:=aq.lift (O:=O);obtain⟨r,hP⟩:=a8.lift (O:=O);obtain⟨n,rfl⟩:=aD;obtain⟨s,rfl⟩:=U;refine⟨⟨n,s.data.toList,x,d,r⟩,fun γ H ad=>?_⟩;obtain⟨dQ,aJ,fm,i2,e2,dW,cB,bh⟩:=cJ γ H ad;obtain⟨NG,bN,fu,i3,bd,gZ,dh,cu⟩:=eT dQ aJ i2;obtain⟨ay3,cp,eX,i4,b1,jz,kf,e9⟩:=hP NG bN i3;exact⟨ay3,cp,.agg #[.int .i64 n,.string s,fm,fu,eX],i4,(e2.trans bd).trans b1,(dW.trans gZ).trans jz,.agg (.cons (.int _ _) (.cons (.str _) (.cons ((cB.mono bd).mono b1) (.cons (dh.mono b1) (.cons kf .nil))))),fm,fu,eX,rfl,bh.ext (gZ.trans jz),cu.ext jz,e9⟩
section
variable{CO:Type}{enc:TypeId×Value→CO}{base:Nat}{held:Bool}
theorem I2{t e fuel w:Nat}{v:Value}{x:DataW CO×List MemPlace}{E:(Nat→Value)→Prop}(aS:P.underlying t=some (.slice e))(af:P.cellsOf e=w)(h:DataW.trod enc P W base (fun _=>true) held fuel t [v]=some x)
 (bz:∀(V:Nat→Value) n y,DataW.trod enc P W base (fun _=>true) held n e ((List.range w).map V)=some y→E V):FF W w v E:=by
 rcases Deep.open_slice aS h with⟨ao,_⟩ | ⟨a,len,cap,m,n,D,Zc,ao,_,aO,_,hm,_,az⟩
 ·exact .inl (by simpa using ao)
 ·have hm:m=cap:=by simpa using hm
  subst hm;rw[af]at az;refine .inr ⟨a,len,m,fun j=>(W.cell? (a.add j)).getD (.bool true),by simpa using ao,aO,?_⟩;have mW:∀i,i<m→∃cs,cs.length=w∧(∀k,k<w→W.cell? (a.add (i*w+k))=cs[k]?)∧DataW.trod enc P W base (fun _=>true) held n e cs=some (D i,Zc i):=fun i ad=>by
   obtain⟨cs,U,aa⟩:=az i ad;obtain⟨_,aq,a8⟩:=World.cells?_some U;exact⟨cs,aq,fun k ag=>by rw[←a8 k ag,Deep.add_add],aa⟩
  refine⟨fun j aH=>?_,fun i ad=>?_⟩
  ·have hw:0<w:=tq fun e=>by subst e;simp at aH
   obtain⟨cs,U,aa,_⟩:=mW (j/w) (Nat.div_lt_of_lt_mul (by rw[gw];exact aH));have aq:=aa (j%w) (Nat.mod_lt _ hw);rw[show j/w*w+j%w=j by rw[gw];exact Nat.div_add_mod j w]at aq;rw[hG (by rw[U];exact Nat.mod_lt _ hw)]at aq;show _=some ((W.cell? (a.add j)).getD _);rw[aq];rfl
  ·obtain⟨cs,U,aa,aq⟩:=mW i ad;refine bz _ n (D i,Zc i) ?_;rw[←aq];congr 1;apply List.ext_getElem?;intro k;by_cases ag:k<w
   ·rw[List.getElem?_map,List.getElem?_range ag,←aa k ag];have:=aa k ag;rw[hG (by omega)]at this;rw[this];simp[this]
   ·rw[jq (by simpa using ag),jq (by omega)]
theorem lY{e fuel:Nat}{fs:Array Field}{cs:List Value}{x:DataW CO×List MemPlace}{i:Nat}{f:Field}{u:Value}(aS:P.underlying e=some (.struct fs))(h:DataW.trod enc P W base (fun _=>true) held fuel e cs=some x)
 (bc:fs[i]? = some f) (af:P.cellsOf f.type=1) (hu:cs[f.offset]? = some u):∃n y,DataW.trod enc P W base (fun _=>true) held n f.type [u]=some y:=by
 obtain⟨xs,n,_,_,_,hlen,az⟩:=DataW.trod_struct aS h;have U:=az i f bc;have ad:=(ic.1 bc).1;have e:(cs.drop f.offset).take 1=[u]:=by
  apply List.ext_getElem?;intro k
  cases k with
  | zero=>simp[hu]
  | succ k=>simp[List.getElem?_take]
 rw[af,e,hG (by omega)]at U;exact⟨n,_,U⟩
theorem tV{t fuel:Nat}{u:Value}{y:DataW CO×List MemPlace}(aS:P.underlying t=some .string)(h:DataW.trod enc P W base (fun _=>true) held fuel t [u]=some y):oR u:=by
 obtain⟨s,e,_⟩:=DataW.trod_string aS h;exact⟨s,by simpa using e⟩
theorem N4{t fuel:Nat}{u:Value}{y:DataW CO×List MemPlace}(aS:P.underlying t=some (.int .i64))(h:DataW.trod enc P W base (fun _=>true) held fuel t [u]=some y):yh u:=by
 obtain⟨s,e,_⟩:=DataW.trod_int aS h;exact⟨s,by simpa using e⟩
theorem aw5{t fuel:Nat}{u:Value}{y:DataW CO×List MemPlace}(aS:P.underlying t=some .bool)(h:DataW.trod enc P W base (fun _=>true) held fuel t [u]=some y):CN u:=by
 obtain⟨s,e,_⟩:=DataW.trod_bool aS h;exact⟨s,by simpa using e⟩
end
end
end Go.Dam.C
