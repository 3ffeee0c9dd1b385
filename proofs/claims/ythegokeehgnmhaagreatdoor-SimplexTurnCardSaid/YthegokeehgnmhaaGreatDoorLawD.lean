/- What the functions of the program compute, for every input. -/
import Derived.Test.YthegokeehgnmhaaGreatDoorLawC
import Derived.Test.YthegokeehgnmhaaGreatDoorLawB
import Derived.Test.YthegokeehgnmhaaGreatDoorDamB
import Derived.Deep.Slices
import Derived.SliceStrings
namespace Go.Dam.C
section
variable{lp:bD}{T:b8}{P:cr}
def jJ(P:cr)(T:b8)(a x:Nat):Rat:=(off P T.v (T.rows a):Rat)*ind (T.rows a) x+lu P T (mH P T a) x
theorem Q3{a k:Nat}(au:off P T.v (T.rows a)≠0):mH P T a k=-((off P T.v (T.rows a):Rat)*T.M a k):=by
 unfold mH
 rcases Ab au with e | e<;>rw[e]
 ·simp
 ·simp;grind
theorem Kn{a:Nat}(h:fh P T)(aN:a<P.m):jJ P T a (T.rows a)=(off P T.v (T.rows a):Rat):=by
 rw[jJ,Z' λk ag e=>h.rc a k aN ag e.symm,ind,bm rfl,Rat.mul_one,bZC]
theorem Q4{a x:Nat}(az:x≠T.rows a):jJ P T a x=lu P T (mH P T a) x:=by
 rw[jJ,ind,aU (Ne.symm az),bZB,bYQ]
def yq(P:cr)(T:b8)(a x:Nat):Rat:=if x=T.rows a then goal P (T.rows a) (off P T.v (T.rows a)) else T.v x
def qP(P:cr)(T:b8)(a:Nat):Rat:=(off P T.v (T.rows a):Rat)*(goal P (T.rows a) (off P T.v (T.rows a))-T.v (T.rows a))
theorem azS{a:Nat}(au:off P T.v (T.rows a)≠0):0<qP P T a:=by
 unfold qP goal
 rcases yj au with⟨e,l,aO,h⟩ | ⟨e,l,aO,h⟩<;>rw[e]
 ·rw[aU (by decide),aO];simp;grind
 ·rw[bm (by decide),aO];simp;grind
theorem azT(hm:lp.dP=true)(h:Inv lp.aX T)(aF:Aa lp.aX T){a:Nat}(hw:uC lp.aX T=some a)(c9:sP lp.aX T a (off lp.aX T.v (T.rows a))=none){y:Nat->Rat}(bu:∀i,i<lp.rows.length->y i=jJ lp.aX T a (lp.aj.length+i)):sX lp false y (qP lp.aX T a):=by
 obtain⟨aN,au,_⟩:=n2 hw;have au:off lp.aX T.v (T.rows a)≠0:=by simpa using au
 have nU:=h.bj.r a aN;have aB:∀j,j<lp.aj.length->gD lp false y j=jJ lp.aX T a j:=λj aH=>by
  have ao:=Z9 h.bj (mH lp.aX T a) (j:=j) aH;have e2:=Z8 (P:=lp.aX) nU (j:=j) aH;have bd:=QF h aN (j:=j) aH;have b1:bs (λk=>mH lp.aX T a k*form lp.aX (T.aj k) j) lp.aX.n=-((off lp.aX T.v (T.rows a):Rat)*form lp.aX (T.rows a) j):=by
   have:=jl (-(off lp.aX T.v (T.rows a):Rat)) (λk=>T.M a k*form lp.aX (T.aj k) j) lp.aX.n;rw[bd];rw[show -((off lp.aX T.v (T.rows a):Rat)*bs (λk=>T.M a k*form lp.aX (T.aj k) j) lp.aX.n)=-(off lp.aX T.v (T.rows a):Rat)*bs (λk=>T.M a k*form lp.aX (T.aj k) j) lp.aX.n by grind,<-this];exact eB λk _=>by rw[Q3 au];grind
  have cK:bs (λi=>y i*lp.aX.A i j) lp.rows.length=(off lp.aX T.v (T.rows a):Rat)*bs (λi=>ind (T.rows a) (lp.aX.n+i)*lp.aX.A i j) lp.aX.m+bs (λi=>lu lp.aX T (mH lp.aX T a) (lp.aX.n+i)*lp.aX.A i j) lp.aX.m:=by
   rw[<-jl,<-pC];refine eB λi ad=>?_;rw[bu i ad];show jJ lp.aX T a (lp.aX.n+i)*_=_;unfold jJ;grind
  unfold gD;rw[cK];show(0:Rat)-_=_;rw[jJ];rw[b1]at ao;rw[e2]at ao;grind
 have kg:=cert hm (wc:=false) (β:=yq lp.aX T a) bu aB λx az aD=>by
  by_cases e:x=T.rows a
  ·subst e;rw[Kn h.bj aN]at aD|-;unfold yq goal want;rw[bm rfl]
   rcases yj au with⟨e,l,aO,_⟩ | ⟨e,l,aO,_⟩<;>rw[e]
   ·rw[aU (by decide),aU (by decide),aO];rfl
   ·rw[bm (by decide),bm (by decide),aO];rfl
  ·rw[Q4 e]at aD|-;unfold yq;rw[aU e]
   rcases Km h.bj (mH lp.aX T a) x with⟨k,ag,ao,e2⟩ | ⟨_,e2⟩
   ·rw[e2]at aD|-;have af:=FI c9 k ag;simp only[Bool.and_eq_false_iff,decide_eq_false_iff_not]at af;rw[<-ao];have dp:T.M a k≠0:=by
     intro dp;rw[Q3 au,dp]at aD;exact aD (by grind)
    have af:=af.resolve_left λh=>h dp;refine aaa aD ?_ (aF k ag);have:-cT (mH lp.aX T a k)=off lp.aX T.v (T.rows a)*cT (T.M a k):=by
     rw[Q3 au]
     rcases Ab au with e | e<;>rw[e]
     ·rcases lq dp with⟨U,ao⟩ | ⟨U,ao⟩<;>rw[ao]
      ·have:cT (-(((1:Int):Rat)*T.M a k))=-1:=by unfold cT;rw[bm (by simp;grind)]
       rw[this];rfl
      ·have:cT (-(((1:Int):Rat)*T.M a k))=1:=by unfold cT;rw[aU (by simp;grind),aU (by simp;grind)]
       rw[this];rfl
     ·rcases lq dp with⟨U,ao⟩ | ⟨U,ao⟩<;>rw[ao]
      ·have:cT (-(((-1:Int):Rat)*T.M a k))=1:=by unfold cT;rw[aU (by simp;grind),aU (by simp;grind)]
       rw[this];rfl
      ·have:cT (-(((-1:Int):Rat)*T.M a k))=-1:=by unfold cT;rw[bm (by simp;grind)]
       rw[this];rfl
    rw[this];exact af
   ·exact absurd e2 aD
 have aD:=aac h (wc:=false) bu aB;simp only[oc,if_false]at aD;have az:∀x,jJ lp.aX T a x*yq lp.aX T a x=jJ lp.aX T a x*T.v x+qP lp.aX T a*ind (T.rows a) x:=λx=>by
  by_cases e:x=T.rows a
  ·subst e;rw[Kn h.bj aN];unfold yq ind qP;rw[bm rfl,bm rfl];grind
  ·unfold yq ind;rw[aU e,aU (Ne.symm e)];grind
 have ao:bs (λi=>jJ lp.aX T a (lp.aj.length+i)*yq lp.aX T a (lp.aj.length+i)) lp.rows.length=bs (λi=>jJ lp.aX T a (lp.aj.length+i)*T.v (lp.aj.length+i)) lp.rows.length+qP lp.aX T a*bs (λi=>ind (T.rows a) (lp.aj.length+i)) lp.rows.length:=by
  rw[<-jl,<-pC];exact eB λi _=>az _
 have e2:bs (λj=>jJ lp.aX T a j*yq lp.aX T a j) lp.aj.length=bs (λj=>jJ lp.aX T a j*T.v j) lp.aj.length+qP lp.aX T a*bs (λj=>ind (T.rows a) j) lp.aj.length:=by
  rw[<-jl,<-pC];exact eB λi _=>az _
 have nU:T.rows a<lp.aj.length+lp.rows.length:=nU;have bd:bs (λi=>ind (T.rows a) (lp.aj.length+i)) lp.rows.length+bs (λj=>ind (T.rows a) j) lp.aj.length=1:=by
  by_cases an:T.rows a<lp.aj.length
  ·rw[rN (f:=λi=>ind (T.rows a) (lp.aj.length+i)) λi _=>by show ind _ _=0;rw[ind,aU (by omega)],qL (f:=λj=>ind (T.rows a) j) an λi _ aF=>by show ind _ _=0;rw[ind,aU (Ne.symm aF)]];show 0+ind _ _=1;rw[ind,bm rfl,bYQ]
  ·rw[qL (f:=λi=>ind (T.rows a) (lp.aj.length+i)) (j:=T.rows a-lp.aj.length) (by omega) λi _ aF=>by show ind _ _=0;rw[ind,aU (by omega)],rN (f:=λj=>ind (T.rows a) j) λi ad=>by show ind _ _=0;rw[ind,aU (by omega)]];show ind _ _+0=1;rw[ind,bm (by omega),bZC]
 rw[ao,e2]at kg;have:bs (λi=>jJ lp.aX T a (lp.aj.length+i)*T.v (lp.aj.length+i)) lp.rows.length+qP lp.aX T a*bs (λi=>ind (T.rows a) (lp.aj.length+i)) lp.rows.length+(bs (λj=>jJ lp.aX T a j*T.v j) lp.aj.length+qP lp.aX T a*bs (λj=>ind (T.rows a) j) lp.aj.length)=qP lp.aX T a:=by grind
 rw[this]at kg;exact kg
theorem azU(h:fh P T){col:Nat}{way:Int}(af:col<P.n)(hw:way=1∨way=-1)(iE:(fv P T col way P.m).gH=none){x:Nat}(az:x<P.n+P.m):(0<kU P T col way x->P.up x=none)/\(kU P T col way x<0->P.lo x=none):=by
 obtain⟨n1,n2⟩:=(J1 P T col way P.m).FT iE;have uI:∀{x:Nat} {w:Int},room P T.v x w=none->(w=1->P.up x=none)/\(w=-1->P.lo x=none):=λ{x w} an=>by
  constructor
  ·rintro rfl
   cases e:P.up x with
   | none=>rfl
   | some u=>rw[JX e]at an;cases an
  ·rintro rfl
   cases e:P.lo x with
   | none=>rfl
   | some u=>rw[JY e]at an;cases an
 rcases h.mE x az with⟨i,ad,rfl⟩ | ⟨k,ag,rfl⟩
 ·rw[CT h af ad];by_cases dp:T.M i col=0
  ·rw[dp,lE];exact⟨λh=>absurd h (by decide),λh=>absurd h (by decide)⟩
  ·have an:=n2 i ad dp;have aC:=oU dp;rw[bZY]
   rcases CR hw dp with⟨ao,e2⟩ | ⟨ao,e2⟩<;>rw[e2]
   ·exact⟨λ_=>(uI an).1 ao,λh=>by grind⟩
   ·exact⟨λh=>by grind,λ_=>(uI an).2 ao⟩
 ·rw[uF h af ag];by_cases e:k=col
  ·subst e;rw[bm rfl]
   rcases hw with rfl | rfl
   ·exact⟨λ_=>(uI n1).1 rfl,λh=>absurd h (by decide)⟩
   ·exact⟨λh=>absurd h (by decide),λ_=>(uI n1).2 rfl⟩
  ·rw[aU e];exact⟨λh=>absurd h (by decide),λh=>absurd h (by decide)⟩
theorem azV(hm:lp.dP=true)(h:Inv lp.aX T){col:Nat}(he:enters lp.aX lp.cs T=some col)(iE:(fv lp.aX T col (gl lp.aX lp.cs T col) lp.aX.m).gH=none):Ai lp (kU lp.aX T col (gl lp.aX lp.cs T col)):=by
 obtain⟨af,gy,_⟩:=n2 he;simp only[cG,eh]at gy;have hw:gl lp.aX lp.cs T col=1∨gl lp.aX lp.cs T col=-1:=by
  unfold gl
  rcases lq gy.1 with⟨_,e⟩ | ⟨_,e⟩<;>rw[e]<;>simp
 have eW:=λx az=>azU h.bj af hw iE (x:=x) az;refine⟨λj aH=>?_,λi ad=>?_,?_⟩
 ·obtain⟨f1,f2⟩:=eW j (show j<lp.aj.length+lp.rows.length by omega);rw[Ah aH]at f1;rw[Ag aH]at f2;exact⟨λe=>hA.1 λbO=>e (QL.1 (f2 bO)),λe=>hA.1 λbO=>e (QL.1 (f1 bO))⟩
 ·obtain⟨f1,f2⟩:=eW (lp.aj.length+i) (show lp.aj.length+i<lp.aj.length+lp.rows.length by omega);have Pg:nw lp (kU lp.aX T col (gl lp.aX lp.cs T col)) i=kU lp.aX T col (gl lp.aX lp.cs T col) (lp.aj.length+i):=(Qu h af i ad).symm;rw[Pg];rw[CX]at f1;rw[CW]at f2;have dr:(lp.row i).rhs≠[]:=by
   intro e;have:=Kb hm ad;simp only[k8,cG]at this;rw[e]at this;simp[isNum,Jj]at this
  have aS:¬gT (lp.row i).rhs=none:=λe=>dr (QL.1 e);have u:(lp.row i).kind≠3->kU lp.aX T col (gl lp.aX lp.cs T col) (lp.aj.length+i)<=0:=λaQ=>hA.1 λbO=>by
   have:=f1 bO;rw[aU aQ]at this;exact aS this
  have l:(lp.row i).kind≠1->0<=kU lp.aX T col (gl lp.aX lp.cs T col) (lp.aj.length+i):=λav=>hA.1 λbO=>by
   have:=f2 bO;rw[aU av]at this;exact aS this
  exact⟨λav=>u (by omega),λaQ=>l (by omega),λav aQ=>by have a:=u aQ;have b:=l av;grind⟩
 ·have e:=Zw (c:=lp.cs) h (way:=gl lp.aX lp.cs T col) af;have e2:lp.nh (kU lp.aX T col (gl lp.aX lp.cs T col))=obj lp.aX lp.cs (kU lp.aX T col (gl lp.aX lp.cs T col)):=rfl;rw[e2,e];unfold gl
  rcases lq gy.1 with⟨aD,e⟩ | ⟨aD,e⟩<;>rw[e]
  ·simp;grind
  ·simp;grind
end
section
variable{lp:bD}{T:b8}{P:cr}
theorem aad:dB 0=[48]:=by
 have:Lib.decDigits 0=[48]:=by rw[Lib.decDigits_one (by decide)];rfl
 simp[dB,this]
theorem azW:dB 1=[49]:=by
 have:Lib.decDigits 1=[49]:=by rw[Lib.decDigits_one (by decide)];rfl
 have h:¬(1:Rat)<0:=by decide
 simp[dB,this,h]
theorem azX:dB (-1)=[45,49]:=by
 have:Lib.decDigits 1=[49]:=by rw[Lib.decDigits_one (by decide)];rfl
 have h:(-1:Rat)<0:=by decide
 have U:(-1:Rat).num.natAbs=1:=by decide
 have aa:(-1:Rat).den=1:=by decide
 simp[dB,this,h, aa]
theorem aae{d:Nat->Rat}{i:Nat}:∀{K:Nat},(∀k,k<K->T.aj k≠P.n+i)->rS P T d K i=[48]
 | 0,_=>rfl
 | K+1,h=>by rw[rS,aU (h K (by omega)),aae λk ag=>h k (by omega)]
theorem aaf(bj:fh P T){d:Nat->Rat}{i k:Nat}:∀{K:Nat},K<=P.n->k<K->T.aj k=P.n+i->rS P T d K i=dB (d k)
 | K+1,db,ag,e=>by
   rw[rS];by_cases h:k=K
   ·subst h;rw[bm e]
   ·rw[aU λe2=>h (bj.ci k K (by omega) (by omega) (e.trans e2.symm)),aaf bj (by omega) (by omega) e]
theorem aag(bj:fh P T)(d:Nat->Rat)(i:Nat):rS P T d P.n i=dB (lu P T d (P.n+i)):=by
 rcases Km bj d (P.n+i) with⟨k,ag,ao,e2⟩ | ⟨h,e⟩
 ·rw[e2,aaf bj (bR _) ag ao]
 ·rw[e,aae h,aad]
theorem aah(bj:fh P T){a:Nat}(aN:a<P.m)(au:off P T.v (T.rows a)≠0)(i:Nat):qQ P T a i=dB (jJ P T a (P.n+i)):=by
 unfold qQ;by_cases h:T.rows a=P.n+i
 ·rw[bm h,<-h,Kn bj aN]
  rcases Ab au with e | e<;>rw[e]
  ·rw[bm (by decide)];exact azW.symm
  ·rw[aU (by decide)];exact azX.symm
 ·rw[aU h,Q4 (Ne.symm h),aag bj]
theorem aai(bj:fh P T){col:Nat}{way:Int}{i:Nat}(ad:i<P.m):∀{K:Nat},K<=P.m->i<K->oX T col way K (T.rows i)=dB (T.M i col*(way:Rat))
 | K+1,db,h=>by
   rw[oX];by_cases e:i=K
   ·subst e;rw[bm rfl]
   ·rw[aU λe2=>e (bj.qM i K ad (by omega) e2),aai bj ad (by omega) (by omega)]
theorem aaj(bj:fh P T){col:Nat}{way:Int}(af:col<P.n){k:Nat}(ag:k<P.n):∀{K:Nat},K<=P.m->oX T col way K (T.aj k)=dB (if k=col then(way:Rat) else 0)
 | 0,_=>by
   rw[oX];by_cases e:k=col
   ·subst e;rw[bm rfl,bm rfl]
   ·rw[aU λe2=>e (bj.ci k col ag af e2),aU e,aad]
 | K+1,db=>by rw[oX,aU λe=>bj.rc K k (by omega) ag e.symm,aaj bj af ag (by omega)]
theorem azY(bj:fh P T){col:Nat}{way:Int}(af:col<P.n){x:Nat}(az:x<P.n+P.m):oX T col way P.m x=dB (kU P T col way x):=by
 rcases bj.mE x az with⟨i,ad,rfl⟩ | ⟨k,ag,rfl⟩
 ·rw[CT bj af ad,aai bj ad (bR _) ad]
 ·rw[uF bj af ag,aaj bj af ag (bR _)]
theorem Aj{m:Nat}{f:Nat->Rat}{i:Nat}(ad:i<m)(h:cP kV (f i)):e1 ((List.range m).map λi=>dB (f i)) i=f i:=by
 unfold e1;rw[ob,bZv,bYl ad];exact h.rd
theorem CY(hm:lp.dP=true){m:Nat}{f:Nat->Rat}(h:∀i,i<m->cP kV (f i)):h5 lp ((List.range m).map λi=>dB (f i)) m=true:=by
 unfold h5;rw[hm];simp only[bYm,bYK,decide_true,Bool.and_true];rw[hz];intro s aG;obtain⟨i,ad,rfl⟩:=bZx.1 aG;exact(h i (bZJ.1 ad)).isNum
theorem F'{m:Nat}(hm:m<=1000){f:Nat->Rat}(h:∀i,i<m->cP kV (f i)):qy ((List.range m).map λi=>dB (f i)):=by
 refine⟨by simp;omega,λs aG=>?_⟩;obtain⟨i,ad,rfl⟩:=bZx.1 aG;exact(h i (bZJ.1 ad)).len
theorem sW.congr{x cZ:Nat->Rat}(h:sW lp x)(e:∀j,j<lp.aj.length->cZ j=x j):sW lp cZ:=
 ⟨λj aH=>by rw[e j aH];exact h.c j aH,λi ad=>by
  rw[show nw lp cZ i=nw lp x i from eB λj aH=>by rw[e j aH]];exact h.r i ad⟩
theorem aak{x cZ:Nat->Rat}(e:∀j,j<lp.aj.length->cZ j=x j):lp.nh cZ=lp.nh x:=eB λj aH=>by rw[e j aH]
theorem Ai.congr{x cZ:Nat->Rat}(h:Ai lp x)(e:∀j,j<lp.aj.length->cZ j=x j):Ai lp cZ:=
 ⟨λj aH=>by rw[e j aH];exact h.c j aH,λi ad=>by
  rw[show nw lp cZ i=nw lp x i from eB λj aH=>by rw[e j aH]];exact h.r i ad,by rw[aak e];exact h.n⟩
theorem Q5{B:Nat}{q:Rat}(h:cP B q):cP B (-q):=by
 unfold cP at*
 rw[Rat.neg_num,Rat.neg_den,Int.natAbs_neg];exact h
theorem aal{B:Nat}(h:1<=B):cP B 1:=⟨h,h⟩
theorem aam{B:Nat}(dC:1<=B){w:Int}(h:w=1∨w=-1):cP B (w:Rat):=by
 rcases h with rfl | rfl
 ·exact aal dC
 ·exact Q5 (aal dC)
theorem aan{B:Nat}{q:Rat}(h:cP B q){w:Int}(hw:w=1∨w=-1):cP B (q*(w:Rat)):=by
 rcases hw with rfl | rfl
 ·have:q*((1:Int):Rat)=q:=by simp
  rw[this];exact h
 ·have:q*((-1:Int):Rat)=-q:=by simp;grind
  rw[this];exact Q5 h
theorem Ko:1<=kV:=bVt 1900
theorem aao(bj:fh P T){e:Nat->Rat}{B:Nat}(dC:1<=B)(h:∀k,k<P.n->cP B (e k))(x:Nat):cP B (lu P T e x):=by
 rcases Km bj e x with⟨k,ag,_,e2⟩ | ⟨_,e2⟩
 ·rw[e2];exact h k ag
 ·rw[e2];exact Af dC
theorem azZ{a b:Nat}{p q:Rat}(aC:cP a p)(aV:cP b q):cP (a*b+b*a) (p-q):=by
 have e:(p-q)*((p.den:Rat)*(q.den:Rat))=((p.num*q.den-q.num*p.den:Int):Rat):=by
  simp only[Rat.intCast_sub,bYN,<-Ad p,<-Ad q,q3];grind
 refine FW e ⟨_,rfl,?_⟩ (⟨((p.den*q.den:Nat):Int),?_,bR _⟩:fz _ (p.den*q.den)) ?_ (bR _) ?_
 ·refine bH (Int.natAbs_sub_le _ _) ?_;rw[bZS,bZS];exact Nat.add_le_add (ie aC.1 aV.2) (ie aV.1 aC.2)
 ·rw[q3,Rat.natCast_mul]
 ·intro h
  rcases bYf.1 h with h | h
  ·exact p.den_nz (by exact_mod_cast h)
  ·exact q.den_nz (by exact_mod_cast h)
 ·exact bH (ie aC.2 aV.2) (hS _ _)
end
section
variable{lp:bD}{T:b8}
theorem az0{lp:bD}{T:b8}{col:Nat}(he:enters lp.aX lp.cs T=some col):gl lp.aX lp.cs T col=1∨gl lp.aX lp.cs T col=-1:=by
 obtain⟨_,gy,_⟩:=n2 he;simp only[cG,eh]at gy;unfold gl
 rcases lq gy.1 with⟨_,e⟩ | ⟨_,e⟩<;>rw[e]<;>simp
theorem j0.az1(h:iA lp)(bK:j0 lp.aX (hE lp) T){col:Nat}(af:col<lp.aj.length){way:Int}(hw:way=1∨way=-1){x:Nat}(az:x<lp.aj.length+lp.rows.length):cP kV (kU lp.aX T col way x):=by
 rcases bK.inv.bj.mE x az with⟨i,ad,rfl⟩ | ⟨k,ag,rfl⟩
 ·rw[CT bK.inv.bj af ad];exact aan (sV (bK.Kg h ad af) (by decide)) hw
 ·rw[uF bK.inv.bj af ag];split
  ·exact aam Ko hw
  ·exact Af Ko
theorem az2{P:cr}{B a k:Nat}(h:cP B (T.M a k)):cP B (mH P T a k):=by
 unfold mH;split
 ·exact Q5 h
 ·exact h
theorem aap{P:cr}(bj:fh P T){B a:Nat}(dC:1<=B)(aN:a<P.m)(au:off P T.v (T.rows a)≠0)(h:∀k,k<P.n->cP B (T.M a k))(x:Nat):cP B (jJ P T a x):=by
 by_cases e:x=T.rows a
 ·rw[e,Kn bj aN];exact aam dC (Ab au)
 ·rw[Q4 e];exact aao bj dC (λk ag=>az2 (h k ag)) x
theorem az3{P:cr}{V x:Nat}(eI:F0 P V)(w:Int):cP V (goal P x w):=by
 unfold goal;split
 ·cases e:P.up x with
  | none=>exact Af eI.v1
  | some u=>exact eI.up x u e
 ·cases e:P.lo x with
  | none=>exact Af eI.v1
  | some u=>exact eI.lo x u e
theorem az4(h:iA lp)(bK:j0 lp.aX (hE lp) T){a:Nat}(aN:a<lp.rows.length)(au:off lp.aX T.v (T.rows a)≠0):cP kV (qP lp.aX T a):=by
 have U:=azZ (az3 (x:=T.rows a) h.F4 (off lp.aX T.v (T.rows a))) (bK.F8 h (bK.inv.bj.r a aN));have aa:hc*bZg 1660+bZg 1660*hc<=bZg 1900:=by
  have e:hc*bZg 1660=bZg 1690:=by rw[show hc=bZg 30 from(bZp 30).symm];exact bXv (by decide)
  rw[gw (bZg 1660),e];have:bZg 1900=bZg 210*bZg 1690:=(bXv (by decide)).symm;rw[this];have az5:2<=bZg 210:=bH (show 2<=bZg 1 by rw[bZp];decide) (bYU (by decide));have:=hQ (bZg 1690) az5;generalize bZg 1690=p at*
  omega
 have aq:cP kV (goal lp.aX (T.rows a) (off lp.aX T.v (T.rows a))-T.v (T.rows a)):=U.mono (show _<=kV by unfold kV;exact aa);unfold qP;rw[bZY];exact aan aq (Ab au)
theorem aym(h:iA lp)(hm:lp.dP=true){c:iz}(aG:CZ lp (wC lp.aX (hE lp)) (uG lp.aX (hE lp)) c):kQ lp c=true/\c.ok:=by
 have Q6:=h.n;have Ga:=h.m
 rcases aG with⟨T,a,bK,hw,c9⟩ | ⟨T,col,bK,he,iE⟩ | ⟨T,bK,he⟩
 ·obtain⟨aN,au,_⟩:=n2 hw;have au:off lp.aX T.v (T.rows a)≠0:=by simpa using au
  have uJ:∀i,i<lp.rows.length->cP kV (jJ lp.aX T a (lp.aj.length+i)):=λi _=>aap bK.1.inv.bj Ko aN au (λk ag=>sV (bK.1.Kg h aN ag) (by decide)) _;have az:(List.range lp.aX.m).map (qQ lp.aX T a)=(List.range lp.rows.length).map λi=>dB (jJ lp.aX T a (lp.aj.length+i)):=bXc λi ad=>aah bK.1.inv.bj aN au i;rw[az];have ai:gR lp ((List.range lp.rows.length).map λi=>dB (jJ lp.aX T a (lp.aj.length+i))) false=some (qP lp.aX T a):=by
   unfold gR;rw[bm (CY hm uJ)];exact(QY hm).2 (azT hm bK.1.inv bK.2 hw c9 λi ad=>Aj ad (uJ i ad))
  refine⟨?_,⟨⟨by simp,by simp⟩,F' (by omega) uJ,⟨by simp,by simp⟩⟩⟩;unfold kQ;rw[aU (show ¬((2:Int)=1) by decide),bm rfl];simp only[ai,jj,(az4 h bK.1 aN au).rd];simp[azS au]
 ·obtain⟨d',_,_⟩:=n2 he;have kn:=az0 he;have rT:∀j,j<lp.aj.length->cP kV (T.v j):=λj aH=>sV (bK.1.F8 h (by omega)) (by decide);have ya:∀j,j<lp.aj.length->cP kV (kU lp.aX T col (gl lp.aX lp.cs T col) j):=λj aH=>bK.1.az1 h d' kn (by omega);have az:(List.range lp.aX.n).map (oX T col (gl lp.aX lp.cs T col) lp.aX.m)=(List.range lp.aj.length).map λj=>dB (kU lp.aX T col (gl lp.aX lp.cs T col) j):=bXc λj aH=>azY bK.1.inv.bj d' (by have:=bZJ.1 aH;omega);rw[az];have aC:nv lp T=(List.range lp.aj.length).map λj=>dB (T.v j):=rfl;have bc:lg lp (nv lp T)=true:=by
   unfold lg;rw[aC,show lp.aj.length=lp.aj.length from rfl,CY hm rT,Bool.true_and];exact(QX hm).2 ((uE.fits hm bK.1.inv bK.2).congr λj aH=>Aj aH (rT j aH))
  have an:pw lp ((List.range lp.aj.length).map λj=>dB (kU lp.aX T col (gl lp.aX lp.cs T col) j))=true:=by
   unfold pw;rw[CY hm ya,Bool.true_and];exact(Z4 hm).2 ((azV hm bK.1.inv he iE).congr λj aH=>Aj aH (ya j aH))
  refine⟨?_,⟨aC▸F' (by omega) rT,⟨by simp,by simp⟩,F' (by omega) ya⟩⟩;unfold kQ;rw[aU (show ¬((3:Int)=1) by decide),aU (show ¬((3:Int)=2) by decide),bm rfl];simp[bc,an]
 ·have rT:∀j,j<lp.aj.length->cP kV (T.v j):=λj aH=>sV (bK.1.F8 h (by omega)) (by decide);have aC:nv lp T=(List.range lp.aj.length).map λj=>dB (T.v j):=rfl;have uJ:∀i,i<lp.rows.length->cP kV (lu lp.aX T (red lp.aX lp.cs T) (lp.aj.length+i)):=λi _=>aao bK.1.inv.bj Ko (λk ag=>sV (bK.1.azM h ag) (by decide)) _;have aB:Q7 lp T=(List.range lp.rows.length).map λi=>dB (lu lp.aX T (red lp.aX lp.cs T) (lp.aj.length+i)):=bXc λi _=>aag bK.1.inv.bj _ i;have bc:lg lp (nv lp T)=true:=by
   unfold lg;rw[aC,CY hm rT,Bool.true_and];exact(QX hm).2 ((uE.fits hm bK.1.inv bK.2).congr λj aH=>Aj aH (rT j aH))
  have aw:kN lp (nv lp T)=some (lp.nh T.v):=by
   unfold kN;rw[aC,bm (CY hm rT),aak λj aH=>Aj aH (rT j aH)]
  have ai:gR lp (Q7 lp T) true=some (lp.nh T.v):=by
   unfold gR;rw[aB,bm (CY hm uJ)];exact(QY hm).2 (azR hm bK.1.inv bK.2 he λi ad=>Aj ad (uJ i ad))
  refine⟨?_,⟨aC▸F' (by omega) rT,aB▸F' (by omega) uJ,⟨by simp,by simp⟩⟩⟩;unfold kQ;rw[bm rfl];simp[bc,aw,ai,Gb,jj]
end
section
variable{lp:bD}
theorem az6{q:Rat}{k:Nat}(h:sz q k)(ag:1<=k):(dB q).length<=20*k+2:=by
 have ck:=Gc h.1 ag;have cJ:=Gc h.2 ag;unfold dB;simp only[tr];split<;>split<;>simp<;>omega
theorem az7(h:iA lp)(i j:Nat):sz (lp.aX.A i j) 30:=by
 rcases QK (l:=(lp.row i).cM) (f:=λ_=>0) j with e | ⟨c,af,e⟩
 ·show sz (nu _ j) _;rw[nu,e];exact uh (by decide)
 ·show sz (nu _ j) _;rw[nu,e];exact jf ((F3 h i).2 c af) (by decide)
theorem Pz(h:iA lp)(hm:lp.dP=true){wc:Bool}{dz:List (List UInt8)}(bu:∀i,sz (e1 dz i) 400):(jj (gR lp dz wc)).length<1000000:=by
 have aF:=h.n;have Ga:=h.m
 cases e:gR lp dz wc with
 | none=>simp[jj]
 | some b=>
   have ai:=(Q2 hm e).ls.sum;have U:sz (bs (λi=>e1 dz i*rd (lp.row i).rhs) lp.rows.length) 2600:=by
    refine ff (Ch (t:=400+30) λi _=>la (bu i) (jf (F3 h i).1 (by decide))) ?_;exact bH (bYM (ie Ga (bR (400+30+1)))) (by decide)
   have aa:∀j,sz (gD lp wc (e1 dz) j) 2640:=λj=>by
    have aG:sz (bs (λi=>e1 dz i*lp.aX.A i j) lp.rows.length) 2600:=by
     refine ff (Ch (t:=400+30) λi _=>la (bu i) (az7 h i j)) ?_;exact bH (bYM (ie Ga (bR (400+30+1)))) (by decide)
    have aD:sz (d0 lp wc j) 30:=by
     unfold d0;split
     ·exact jf (yn h j).2.2 (by decide)
     ·exact uh (by decide)
    exact ff (Yv aD aG) (by omega)
   have aq:sz (bs (λj=>gD lp wc (e1 dz) j*rd (if gD lp wc (e1 dz) j<0 then(lp.col j).up else(lp.col j).low)) lp.aj.length) 16100:=by
    refine ff (Ch (t:=2640+30) λj _=>la (aa j) ?_) ?_
    ·split
     ·exact jf (yn h j).2.1 (by decide)
     ·exact jf (yn h j).1 (by decide)
    ·exact bH (bYM (ie aF (bR (2640+30+1)))) (by decide)
   have a8:sz b 20000:=by rw[ai];exact ff (zz U aq) (by omega)
   have:=az6 a8 (by decide);show(dB b).length<_;omega
theorem bUW(c a b:Nat)(af:1<c)(h:a<b):c^a<c^b:=Nat.pow_lt_pow_right af h
theorem az8{q:Rat}(h:cP (bZg 1446) q):sz q 400:=by
 have dC:bZg 1446<4294967296^400:=by
  have:bZg 1446<=bZg 9^161:=by rw[bUU];exact bYU (by decide)
  have aa:bZg 9^161<=4294967296^161:=bXG (by rw[bZp];decide) _;exact eD (bH this aa) (bUW 4294967296 161 400 (by decide) (by decide))
 exact⟨eD h.1 dC,eD h.2 dC⟩
theorem ayo(h:iA lp)(hm:lp.dP=true){c:iz}(aG:CZ lp (wC lp.aX (hE lp)) (uG lp.aX (hE lp)) c)(aa:c.st=2):(jj (gR lp c.d false)).length<1000000:=by
 rcases aG with⟨T,a,bK,hw,c9⟩ | ⟨T,col,bK,he,iE⟩ | ⟨T,bK,he⟩
 ·obtain⟨aN,au,_⟩:=n2 hw;have au:off lp.aX T.v (T.rows a)≠0:=by simpa using au
  have az:(List.range lp.aX.m).map (qQ lp.aX T a)=(List.range lp.rows.length).map λi=>dB (jJ lp.aX T a (lp.aj.length+i)):=bXc λi ad=>aah bK.1.inv.bj aN au i;have dC:1<=bZg 1446:=bVt 1446;have uJ:∀i,cP (bZg 1446) (jJ lp.aX T a (lp.aj.length+i)):=λi=>aap (B:=bZg 1446) bK.1.inv.bj dC aN au (λk ag=>bK.1.Kg h aN ag) _;refine Pz h hm λi=>?_;show sz (e1 ((List.range lp.aX.m).map (qQ lp.aX T a)) i) 400;rw[az];by_cases ad:i<lp.rows.length
  ·rw[Aj ad (sV (uJ i) (by decide))];exact az8 (uJ i)
  ·unfold e1;rw[ob,jq (by simp;omega)];exact jf (by simp) (by decide)
 ·cases aa
 ·cases aa
end
end Go.Dam.C
namespace Go.Dam.C
open Go Go.Dam
def Fu(_:Perm)(args:List Value)(H:ah):Option (Value×ah):=match args with
 | []=>bif qI H then some (.bool true,H) else none
 | _=>none
structure bYF(X:aY):Prop extends hj X where
 begun:X.ov F.O9=some Fu
 ll:Has X F.ll C.ll
 wk:Has X F.wk C.wk
variable{X:aY}{pm:Perm}{H H' cL H0:ah}{n:Nat}
theorem ax2(al:bYF X)(aS:Tab H):Call X pm F.O9 [] H λr H'=>H'=H/\r=.bool true:=by
 refine Call.over al.begun (v:=.bool true) (H':=H) ?_ ⟨rfl,rfl⟩;simp only[Fu,rE aS];rfl
theorem zK(al:bYF X){l:List UInt8}{n:Nat}(_bQA:n<=1000):Call X pm F.ll [aW l,.int .i64 (n:Int)] H λr H'=>H'=H/\r=aW (l.take n):=by
 refine Call.has al.ll rfl ?_;by_cases h:n<l.length
 ·simp[h,show n<=l.length by omega,]
 ·simp[h,];rw[tp (by omega)]
end Go.Dam.C
namespace Go.Dam.C
open Go Go.Dam
variable{X:aY}{pm:Perm}{H H' cL H0:ah}{n:Nat}
def np(n0:Nat):Value->Prop
 | .slice (some a) n _=>n0<=a.block/\0<n
 | _=>True
theorem hi.put{v:Value}{m w n0 b:Nat}{P sA:Nat->List Value->Prop}(h:hi H v m w P)(bc:np n0 v)(ai:b<n0)(x:cj)(aC:∀i cs,i<m->P i cs->sA i cs):hi (H.put b x) v m w sA:=by
 obtain⟨base,cap,rfl,eU⟩:=h.ex;refine⟨base,cap,rfl,λi ad=>?_⟩;obtain⟨c,off,y,row,cs,rfl,e2,bd,b1,cK⟩:=eU i ad;have bc:n0<=c:=bc.1;exact⟨c,off,y,row,cs,rfl,by rw[cq (by omega)];exact e2,bd,b1,aC i cs ad cK⟩
def uv(H:ah)(n0:Nat)(v:Value)(l:List di):Prop:=hi H v l.length 5 λi cs=>∃r vc,l[i]? = some r/\cs=r.cells vc/\nX H vc r.cM/\np n0 vc
theorem uv.rows{n0:Nat}{v:Value}{l:List di}(h:uv H n0 v l):nY H v l:=hi.imp h (λ_ _ e=>e) λ_ _ _ ⟨r,vc,ao,e2,bd,_⟩=>⟨r,vc,ao,e2,bd⟩
theorem uv.ext{n0:Nat}{v:Value}{l:List di}(h:uv H n0 v l)(e:Ext H H'):uv H' n0 v l:=hi.imp h e λ_ _ _ ⟨r,vc,ao,e2,bd,b1⟩=>⟨r,vc,ao,e2,bd.ext e,b1⟩
theorem uv.put{n0 b:Nat}{v:Value}{l:List di}(h:uv H n0 v l)(bc:np n0 v)(ai:b<n0)(x:cj):uv (H.put b x) n0 v l:=
 hi.put h bc ai x λ_ _ _ ⟨r,vc,ao,e2,bd,b1⟩=>⟨r,vc,ao,e2,hi.put bd b1 ai x λ_ _ _ h=>h,b1⟩
def sL(H:ah)(n0:Nat)(r:Value)(lp:bD):Prop:=∃v1 v2,r=.agg #[v1,v2]/\kI H v1 lp.aj/\uv H n0 v2 lp.rows/\np n0 v1/\np n0 v2
theorem sL.lp{n0:Nat}{r:Value}{lp:bD}(h:sL H n0 r lp):ps H r lp:=by
 obtain⟨v1,v2,rfl,U,aa,_⟩:=h;exact⟨v1,v2,rfl,U,aa.rows⟩
theorem sL.ext{n0:Nat}{r:Value}{lp:bD}(h:sL H n0 r lp)(e:Ext H H'):sL H' n0 r lp:=by
 obtain⟨v1,v2,rfl,U,aa,aq⟩:=h;exact⟨v1,v2,rfl,U.ext e,aa.ext e,aq⟩
theorem sL.put{n0 b:Nat}{r:Value}{lp:bD}(h:sL H n0 r lp)(ai:b<n0)(x:cj):sL (H.put b x) n0 r lp:=by
 obtain⟨v1,v2,rfl,U,aa,aq,a8⟩:=h;exact⟨v1,v2,rfl,hi.put U aq ai x λ_ _ _ h=>h,aa.put a8 ai x,aq,a8⟩
def eu.cut(c:eu):eu:={c with low:=c.low.take 20,up:=c.up.take 20,cost:=c.cost.take 20}
def di.cut(r:di):di:={r with cM:=(r.cM.take 8).map λc=>{c with v:=c.v.take 20},rhs:=r.rhs.take 30}
def bD.cut(lp:bD):bD:=⟨(lp.aj.take 6).map eu.cut,(lp.rows.take 6).map di.cut⟩
theorem bD.ax8(lp:bD):iA lp.cut:=by
 refine⟨by simp[bD.cut];omega,by simp[bD.cut];omega,λc af=>?_,λr an=>?_⟩
 ·obtain⟨c,_,rfl⟩:=bZx.1 af;simp only[eu.cut,bYe];omega
 ·obtain⟨r,_,rfl⟩:=bZx.1 an;simp only[di.cut,bYe,bYm];refine⟨by omega,by omega,λc af=>?_⟩;obtain⟨c,_,rfl⟩:=bZx.1 af;simp only[bYe];omega
def hO(H:ah)(v:Value)(m w:Nat)(P:Nat->List Value->Prop):Prop:=∃base cap,v=.slice base m cap/\m<=cap/\(base=none->m=0)/\∀a,base=some a->∃b off row,a=⟨b,off,none⟩/\H.get b=some (.ro row)/\off+m*w<=row.length/\∀i,i<m->∃cs,cX row (off+i*w) w=some cs/\P i cs
theorem hO.sl{v:Value}{m w:Nat}{P:Nat->List Value->Prop}(h:hO H v m w P):hi H v m w P:=by
 obtain⟨base,cap,rfl,_,aD,U⟩:=h;refine⟨base,cap,rfl,λi ad=>?_⟩
 cases base with
 | none=>have:=aD rfl;omega
 | some a=>
   obtain⟨b,off,row,rfl,aa,_,aq⟩:=U _ rfl;obtain⟨cs,a8,cg⟩:=aq i ad;exact⟨b,off,_,row,cs,rfl,aa,rfl,a8,cg⟩
theorem hO.imp{v:Value}{m w:Nat}{P sA:Nat->List Value->Prop}(h:hO H v m w P)(e:Ext H H')(aC:∀i cs,i<m->P i cs->sA i cs):hO H' v m w sA:=by
 obtain⟨base,cap,rfl,hm,aD,U⟩:=h;refine⟨base,cap,rfl,hm,aD,λa aN=>?_⟩;obtain⟨b,off,row,rfl,aa,ai,aq⟩:=U a aN;exact⟨b,off,row,rfl,e _ _ aa,ai,λi ad=>(aq i ad).imp λcs h=>⟨h.1,aC i cs ad h.2⟩⟩
def CF(H:ah)(v:Value)(l:List di):Prop:=hO H v l.length 5 λi cs=>∃r vc,l[i]? = some r/\cs=r.cells vc/\hO H vc r.cM.length 2 λi cs=>∃c,r.cM[i]? = some c/\cs=c.cells
def x'(H:ah)(v:Value)(lp:bD):Prop:=∃v1 v2,v=.agg #[v1,v2]/\(hO H v1 lp.aj.length 5 λi cs=>∃c,lp.aj[i]? = some c/\cs=c.cells)/\CF H v2 lp.rows
theorem CF.ext{v:Value}{l:List di}(h:CF H v l)(e:Ext H H'):CF H' v l:=hO.imp h e λ_ _ _ ⟨r,vc,ao,e2,bd⟩=>⟨r,vc,ao,e2,bd.imp e λ_ _ _ h=>h⟩
theorem x'.ext{v:Value}{lp:bD}(h:x' H v lp)(e:Ext H H'):x' H' v lp:=by
 obtain⟨v1,v2,rfl,U,aa⟩:=h;exact⟨v1,v2,rfl,U.imp e λ_ _ _ h=>h,aa.ext e⟩
theorem x'.lp{v:Value}{lp:bD}(h:x' H v lp):ps H v lp:=by
 obtain⟨v1,v2,rfl,U,aa⟩:=h;exact⟨v1,v2,rfl,U.sl,hi.imp aa.sl (λ_ _ e=>e) λ_ _ _ ⟨r,vc,ao,e2,bd⟩=>⟨r,vc,ao,e2,bd.sl⟩⟩
def YJ(X:aY):Prop:=∀(pm:Perm) (H:ah),cl pm H->∀(v:Value) (lp:bD),x' H v lp->Call X pm F.wk [v] H λr H'=>K pm H H'/\sL H' H.next r lp.cut
theorem Fy{row cs:List Value}{o w:Nat}(h:cX row o w=some cs):o+w<=row.length/\cs=(row.drop o).take w:=by
 unfold cX at h;by_cases ai:o+w<=row.length
 ·rw[dA,bZw ai,cond_true]at h;exact⟨ai,(bZA h).symm⟩
 ·rw[dA,bZP ai,cond_false]at h;cases h
theorem CG{row:List Value}{o w:Nat}(h:o+w<=row.length):cX row o w=some ((row.drop o).take w):=by
 unfold cX;rw[dA,bZw h,cond_true]
theorem ayx{row:List Value}{off w n:Nat}(aF:0<n)(h:∀i,i<n->∃cs,cX row (off+i*w) w=some cs):∃l,cX row off (n*w)=some l/\l.length=n*w/\∀i,i<n->cX l (i*w) w=cX row (off+i*w) w:=by
 obtain⟨cs,af⟩:=h (n-1) (by omega);have ai:=(Fy af).1;have e:(n-1)*w+w=n*w:=by
  rw[<-bZs];congr 1;omega
 have hlen:off+n*w<=row.length:=by omega
 refine⟨_,CG hlen,by simp;omega,λi ad=>?_⟩;have pA:i*w+w<=n*w:=by
  rw[<-bZs];exact hQ _ ad
 rw[CG (show off+i*w+w<=row.length by omega),CG (by simp;omega)];congr 1;rw[List.drop_take,List.take_take,List.drop_drop];congr 1;omega
theorem ayy{w by' n lo b:Nat}{okl:List Nat}{l:List Value}(aF:0<n)(aO:l.all fG=true)(hw:1<=w)(Fz:n<=1000)(hK:by'<=200):
 (iV w by' (.slice none 0 0) l n).runT ⟨lo,okl,some b⟩ H=some (.slice (some ⟨b,0,none⟩) n n,H.put b (.cells l (.n w)),[],[b]):=by
 have ai:n*by'<=17179869184:=bH (ie Fz hK) (by decide);unfold iV;simp only[aO];simp[Perm.make,Perm.pick,ai,hw,show ¬n=0 by omega,show n<=17179869184 by omega]
theorem YU{w by' lo b:Nat}{okl:List Nat}{l:List Value}:(iV w by' (.slice none 0 0) l 0).runT ⟨lo,okl,some b⟩ H=some (.slice none 0 0,H,[],[]):=by
 unfold iV;simp
def mD(H:ah)(b n w:Nat)(l:List Value):ah:=if n=0 then H else H.put b (.cells l (.n w))
def rI(b n:Nat):List Nat:=if n=0 then[] else[b]
theorem copyV{w by' n lo b:Nat}{okl:List Nat}{l:List Value}(aO:l.all fG=true)(hw:1<=w)(Fz:n<=1000)(hK:by'<=200):
 (iV w by' (.slice none 0 0) l n).runT ⟨lo,okl,some b⟩ H=some (sl b n,mD H b n w l,[],rI b n):=by
 by_cases h:n=0
 ·subst h;exact YU
 ·rw[ayy (by omega) aO hw Fz hK,eQ (by omega),mD,aU h,rI,aU h]
theorem JD{b n w c:Nat}{l:List Value}(h:c≠b):(mD H b n w l).get c=H.get c:=by
 unfold mD;split
 ·rfl
 ·rw[cq h]
@[simp] theorem PV{b n w:Nat}{l:List Value}:(mD H b n w l).next=H.next:=by unfold mD;split<;>rfl
theorem PW{b n w:Nat}{l:List Value}(h:0<n):(mD H b n w l).get b=some (.cells l (.n w)):=by
 unfold mD;rw[aU (by omega),dX]
theorem YV{b n x:Nat}(h:b≠x):gp (rI b n) [x]=true/\gp [x] (rI b n)=true:=by
 unfold rI;split
 ·exact⟨rfl,rfl⟩
 ·exact⟨kS h,kS (Ne.symm h)⟩
abbrev tyU0:Nat:=T.ayz
abbrev tyU1:Nat:=T.ayA
abbrev tyU2:Nat:=T.ayB
theorem YW(m:Nat):et (some (Value.int .i64 (if 6<m then 6 else(m:Int))))=some (min m 6):=by
 by_cases h:6<m
 ·rw[bm h,Nat.min_eq_right (by omega)];rfl
 ·rw[aU h,bYp (by omega)];simp[et]
theorem ayC(m:Nat):et (some (Value.int .i64 (if 8<m then 8 else(m:Int))))=some (min m 8):=by
 by_cases h:8<m
 ·rw[bm h,Nat.min_eq_right (by omega)];rfl
 ·rw[aU h,bYp (by omega)];simp[et]
theorem PX{m w cap by' k:Nat}{base:Option Addr}{P:Nat->List Value->Prop}(h:hO H (.slice base m cap) m w P)(ag:k<=m)(hw:1<=w)(ayD:k<=1000)(hK:by'<=200)(zt:∀i cs,P i cs->cs.all fG=true):
 ∃f l,(∀x∈f,∃y,H.get x=some (.ro y))/\(0<k->l.length=k*w/\∀i,i<k->∃cs,cX l (i*w) w=some cs/\P i cs)/\
  ∀H',Ext H H'->∀lo b okl,(nK w base 0 k cap cap).runT ⟨lo,okl,some b⟩ H'=some (.slice base k cap,H',f,[])/\
   (hV w (.slice base k cap) λnew n=>iV w by' (.slice none 0 0) new n).runT ⟨lo,okl,some b⟩ H'=some (sl b k,mD H' b k w l,f,rI b k):=by
 obtain⟨_,_,e,hm,aD,U⟩:=h;cases e
 cases base with
 | none=>
   obtain rfl:m=0:=aD rfl;obtain rfl:k=0:=by omega
   refine⟨[],[],(by simp),λh=>absurd h (Nat.lt_irrefl 0),λH' _ lo b okl=>⟨by unfold nK;simp,?_⟩⟩;unfold hV;exact YU
 | some a=>
   obtain⟨c,off,row,rfl,aa,aq,a8⟩:=U _ rfl;have ai:k*w<=m*w:=hQ _ ag;have aO:∀i,i<k->∃cs,cX ((row.drop off).take (k*w)) (i*w) w=some cs/\P i cs:=λi ad=>by
    obtain⟨cs,cg,dj⟩:=a8 i (by omega);obtain⟨l,ao,e2,bd⟩:=ayx (n:=k) (row:=row) (off:=off) (w:=w) (by omega) (λi ad=>(a8 i (by omega)).imp λ_ h=>h.1);have:=(Fy ao).2;exact⟨cs,by rw[<-this,bd i ad,cg],dj⟩
   refine⟨[c],(row.drop off).take (k*w),λx az=>⟨row,by rw[DZ.1 az];exact aa⟩,λCH=>⟨by simp;omega,aO⟩,λH' az lo b okl=>⟨?_,?_⟩⟩
   ·unfold nK;simp[show k<=cap by omega,az _ _ aa]
   ·have mc:((row.drop off).take (k*w)).all fG=true:=by
     rw[hz];intro v aw;obtain⟨p,aC,rfl⟩:=bXH aw;have ri:p<k*w:=by
      have:=aC;simp at this;omega
     have aV:p/w<k:=bYj (by rw[gw];exact ri);obtain⟨cs,cg,dj⟩:=aO (p/w) aV;have j4:=(Fy cg).2;have Ei:=hz.1 (zt _ _ dj);have ayE:p%w<w:=bZU _ (by omega);have e:p/w*w+p%w=p:=by rw[gw];exact bYO p w
     refine Ei _ ?_;rw[j4];refine List.mem_iff_getElem?.2 ⟨p%w,?_⟩;rw[pT ayE,o',e];exact hG aC
    unfold hV;simp only[bF.runT,az _ _ aa,rowOf];rw[CG (by show off+k*w<=row.length;omega)];simp only;rw[copyV mc hw ayD hK]
def jk(L:List Value)(w n:Nat)(f:Nat->List Value):Prop:=L.length=n*w/\∀j,j<n->(f j).length=w/\∀k,k<w->L[j*w+k]? = (f j)[k]?
theorem jk.of{L:List Value}{w n:Nat}{f:Nat->List Value}(aO:L.length=n*w)(h:∀j,j<n->cX L (j*w) w=some (f j)):jk L w n f:=by
 refine⟨aO,λj aH=>?_⟩;obtain⟨U,aa⟩:=Fy (h j aH);refine⟨by rw[aa];simp;omega,λk ag=>?_⟩;rw[aa,pT ag,o']
theorem jk.lt{L:List Value}{w n j k:Nat}{f:Nat->List Value}(h:jk L w n f)(aH:j<n)(ag:k<w):j*w+k<L.length:=by
 have ai:j*w+w<=n*w:=by rw[<-bZs];exact hQ _ aH
 rw[h.1];omega
theorem jk.row{L:List Value}{w n j:Nat}{f:Nat->List Value}(h:jk L w n f)(aH:j<n):cX L (j*w) w=some (f j):=by
 have ai:j*w+w<=n*w:=by rw[<-bZs];exact hQ _ aH
 rw[CG (by rw[h.1];exact ai)];congr 1;apply bZW;intro k;by_cases ag:k<w
 ·rw[pT ag,o'];exact(h.2 j aH).2 k ag
 ·rw[jq (by simp;omega),jq (by rw[(h.2 j aH).1];omega)]
theorem jk.set{L:List Value}{w n j k:Nat}{f f':Nat->List Value}(h:jk L w n f)(aH:j<n)(ag:k<w)(v:Value)(he:f' j=(f j).set k v)(aF:∀i,i<n->i≠j->f' i=f i):jk (L.set (j*w+k) v) w n f':=by
 refine⟨by simp[h.1],λi ad=>⟨?_,λp aC=>?_⟩⟩
 ·by_cases e:i=j
  ·subst e;rw[he];simp;exact(h.2 i ad).1
  ·rw[aF i ad e];exact(h.2 i ad).1
 ·by_cases e:i=j
  ·subst e;rw[he];by_cases e2:p=k
   ·subst e2;rw[bYZ (h.lt aH ag),bYZ (by rw[(h.2 i ad).1];exact ag)]
   ·rw[bXb (by omega),bXb (Ne.symm e2)];exact(h.2 i ad).2 p aC
  ·rw[aF i ad e,bXb]
   ·exact(h.2 i ad).2 p aC
   ·rcases Nat.lt_or_gt_of_ne e with e | e
    ·have:i*w+w<=j*w:=by rw[<-bZs];exact hQ _ e
     omega
    ·have:j*w+w<=i*w:=by rw[<-bZs];exact hQ _ e
     omega
theorem jk.ex{l:List Value}{w n:Nat}{P:Nat->List Value->Prop}(aO:l.length=n*w)(h:∀i,i<n->∃cs,cX l (i*w) w=some cs/\P i cs):∃f,jk l w n f/\∀i,i<n->P i (f i):=by
 refine⟨λi=>(cX l (i*w) w).getD [],jk.of aO λj aH=>?_,λj aH=>?_⟩
 ·obtain⟨cs,e,_⟩:=h j aH;rw[e];rfl
 ·obtain⟨cs,e,p⟩:=h j aH;show P j ((cX l (j*w) w).getD []);rw[e];exact p
end Go.Dam.C
namespace Go.Dam.C
open Go Go.Dam
variable{X:aY}{pm:Perm}{H H' cL H0:ah}{n:Nat}
theorem bp.mD(u:bp pm n H H'){b k w:Nat}{l:List Value}(h:n<=b)(aK:H'.get b=none)(ai:b<H'.next):bp pm n H (C.mD H' b k w l):=by
 unfold C.mD;split
 ·exact u
 ·exact bp.fill u h aK ai _
theorem zX{a b:List Nat}{n:Nat}(h:∀x∈a,x<n)(gJ:∀x∈b,n<=x):gp a b=true/\gp b a=true:=by
 unfold gp;simp only[hz,mN,List.contains_eq_mem,decide_eq_false_iff_not];exact⟨λx az ai=>by have:=h x az;have:=gJ x ai;omega,λx az ai=>by have:=h x ai;have:=gJ x az;omega⟩
theorem JE{b n x:Nat}(h:x∈rI b n):x=b:=by
 unfold rI at h;split at h
 ·cases h
 ·simpa using h
structure iR(pm:Perm)(H0 H:ah)(bJ cO dZ ev dn dc:Nat)(gM eW:Nat->List Value):Prop where
 k:K pm H0 H
 r:H.get bJ=some (.cells [.slice none 0 0,.slice none 0 0] (.t tyU1))
 x:H.get cO=some (.cells [sl dZ dn,sl ev dc] (.t tyU2))
 c:0<dn->∃L,H.get dZ=some (.cells L (.n 5))/\jk L 5 dn gM
 w:0<dc->∃L,H.get ev=some (.cells L (.n 5))/\jk L 5 dc eW
structure CI(H0:ah)(bJ cO dZ ev:Nat):Prop where
 U:H0.next<=bJ
 aa:bJ<dZ
 aq:dZ<ev
 a8:ev<cO
variable{bJ cO dZ ev dn dc:Nat}{gM eW:Nat->List Value}
theorem iR.up(s:iR pm H0 H bJ cO dZ ev dn dc gM eW)(u:K pm H H'):iR pm H0 H' bJ cO dZ ev dn dc gM eW where
 k:=K.trans s.k u
 r:=u.some s.k.aL s.r
 x:=u.some s.k.aL s.x
 c:=λh=>(s.c h).imp λ_ h=>⟨u.some s.k.aL h.1,h.2⟩
 w:=λh=>(s.w h).imp λ_ h=>⟨u.some s.k.aL h.1,h.2⟩
theorem iR.put(s:iR pm H0 H bJ cO dZ ev dn dc gM eW)(q:CI H0 bJ cO dZ ev){b:Nat}{y x:cj}(ai:cO<b)(aK:H.get b=some y)(bu:∀o,y≠.eE o):iR pm H0 (H.put b x) bJ cO dZ ev dn dc gM eW where
 k:=bp.put s.k (by have:=q.U;have:=q.aa;have:=q.aq;have:=q.a8;omega) aK bu _
 r:=by rw[cq (by have:=q.U;have:=q.aa;have:=q.aq;have:=q.a8;omega)];exact s.r
 x:=by rw[cq (by omega)];exact s.x
 c:=λh=>(s.c h).imp λ_ h=>⟨by rw[cq (by have:=q.aq;have:=q.a8;omega)];exact h.1,h.2⟩
 w:=λh=>(s.w h).imp λ_ h=>⟨by rw[cq (by have:=q.a8;omega)];exact h.1,h.2⟩
theorem iR.row(s:iR pm H0 H bJ cO dZ ev dn dc gM eW)(q:CI H0 bJ cO dZ ev){PY:Nat->List Value}{i k:Nat}{v:Value}(ad:i<dc)(ag:k<5)(bc:PY i=(eW i).set k v)(aF:∀j,j<dc->j≠i->PY j=eW j){L:List Value}(bC:H.get ev=some (.cells L (.n 5))):
 iR pm H0 (H.put ev (.cells (L.set (i*5+k) v) (.n 5))) bJ cO dZ ev dn dc gM PY where
 k:=bp.put s.k (by have:=q.U;have:=q.aa;have:=q.aq;have:=q.a8;omega) bC (by simp) _
 r:=by rw[cq (by have:=q.U;have:=q.aa;have:=q.aq;have:=q.a8;omega)];exact s.r
 x:=by rw[cq (by have:=q.a8;omega)];exact s.x
 c:=λh=>(s.c h).imp λ_ h=>⟨by rw[cq (by have:=q.aq;have:=q.a8;omega)];exact h.1,h.2⟩
 w:=λh=>by
  obtain⟨L',U,aa⟩:=s.w h;rw[bC]at U;cases U;exact⟨_,dX,aa.set ad ag v bc aF⟩
theorem iR.col(s:iR pm H0 H bJ cO dZ ev dn dc gM eW)(q:CI H0 bJ cO dZ ev){PZ:Nat->List Value}{i k:Nat}{v:Value}(ad:i<dn)(ag:k<5)(bc:PZ i=(gM i).set k v)(aF:∀j,j<dn->j≠i->PZ j=gM j){L:List Value}(bC:H.get dZ=some (.cells L (.n 5))):
 iR pm H0 (H.put dZ (.cells (L.set (i*5+k) v) (.n 5))) bJ cO dZ ev dn dc PZ eW where
 k:=bp.put s.k (by have:=q.U;have:=q.aa;have:=q.aq;have:=q.a8;omega) bC (by simp) _
 r:=by rw[cq (by have:=q.U;have:=q.aa;have:=q.aq;have:=q.a8;omega)];exact s.r
 x:=by rw[cq (by have:=q.aq;have:=q.a8;omega)];exact s.x
 c:=λh=>by
  obtain⟨L',U,aa⟩:=s.c h;rw[bC]at U;cases U;exact⟨_,dX,aa.set ad ag v bc aF⟩
 w:=λh=>(s.w h).imp λ_ h=>⟨by rw[cq (by have:=q.aq;have:=q.a8;omega)];exact h.1,h.2⟩
def JF(c:fb):fb:={c with v:=c.v.take 20}
def ayF:fb:=⟨0,[]⟩
theorem ayG(al:bYF X)(g0:cl pm H0)(q:CI H0 bJ cO dZ ev)(s:iR pm H0 H bJ cO dZ ev dn dc gM eW)(oB:dc<=6){i:Nat}(ad:i<dc){r:di}{vc:Value}(an:eW i=r.cells vc)
 (nd:hO H0 vc r.cM.length 2 λi cs=>∃c,r.cM[i]? = some c/\cs=c.cells) {R:c'}
 (dD:∀l' H' rJ,Sub [(27,.int .i64 (i:Int)),(26,.int .i64 (dc:Int)),(2,.pointer (some ⟨bJ,0,none⟩)),(3,.pointer (some ⟨cO,0,none⟩))] l'->iR pm H0 H' bJ cO dZ ev dn dc gM (λj=>if j=i then r.cut.cells rJ else eW j)->nX H' rJ r.cut.cM->np H.next rJ->(∀b y,b≠ev->H.get b=some y->H'.get b=some y)->R .normal l' H'):
 wp X pm (.code (.seq (.aT [m 29 27,m 4 29]) C.P0)) [(28,.bool true),(27,.int .i64 (i:Int)),(26,.int .i64 (dc:Int)),(2,.pointer (some ⟨bJ,0,none⟩)),(3,.pointer (some ⟨cO,0,none⟩))] H [] R:=by
 have g:=s.k.aL;have bn:=q.U;have bh:=q.aa;have cu:=q.aq;have e9:=q.a8;have eT:=g.lt s.x;obtain⟨L,bC,mV⟩:=s.w (by omega);have CJ:=s.x;rw[eQ (show 0<dc by omega)]at CJ;have e2:L[i*5+2]? = some vc:=by rw[(mV.2 i ad).2 2 (by decide),an];rfl
 obtain⟨base,cap,rfl,_⟩:=id nd;obtain⟨f,ak,bc,Ek,gy⟩:=PX (by':=24) (k:=min r.cM.length 8) (nd.imp (s.k.ext g0) λ_ _ _ h=>h) (Nat.min_le_left _ _) (by decide) (by omega) (by decide) (λi cs ⟨c,_,e⟩=>by rw[e];rfl);have CK:∀x∈f,x<H.next:=λx az=>by obtain⟨y,bu⟩:=bc x az;exact g.lt bu
 obtain⟨eG,pZ⟩:∃k,k=min r.cM.length 8:=⟨_,rfl⟩;have m8:=ayC r.cM.length;rw[<-pZ]at gy Ek m8;obtain⟨z,bl⟩:∃z,z=H.next:=⟨_,rfl⟩;have bE:K pm H (H.up 22):=(K.refl g).up 22;have cy:=(gy _ (bE.ext g) pm.lo (z+17) pm.ok).1;have dd:=(gy _ (bE.ext g) pm.lo (z+18) pm.ok).2;obtain⟨fL,fc⟩:∃A,A=mD (H.up 22) (z+18) eG 2 ak:=⟨_,rfl⟩;have hD:K pm H fL:=by rw[fc];exact bp.mD bE (by omega) (by rw[bl];exact g.none 18) (by show z+18<H.next+22;omega)
 rw[<-fc]at dd;have oP:∀j,j≠18->fL.get (z+j)=none:=λj aH=>by rw[fc,JD (by omega),bl];exact g.none j
 have P1:fL.next=z+22:=by rw[fc,PV,bl];rfl
 have YX:=hD.some g bC;have YY:=hD.some g CJ;obtain⟨fV,fg⟩:∃A,A=fL.put ev (.cells (L.set (i*5+2) (sl (z+18) eG)) (.n 5)):=⟨_,rfl⟩;have s2:iR pm H0 fV bJ cO dZ ev dn dc gM (λj=>if j=i then r.cells (sl (z+18) eG) else eW j):=by
  rw[fg];exact(s.up hD).row q ad (by decide) (by rw[an];simp[di.cells]) (λj _ h=>by simp[h]) YX
 have oN:∀b i,fG (sl b i)=true:=λb i=>by unfold sl;split<;>rfl
 have oO:∀b i,(sl b i).cells=#[sl b i]:=λb i=>by unfold sl;split<;>rfl
 have hlen:=mV.lt ad (show 2<5 by decide);have JG:setCells L (i*5+2) [sl (z+18) eG]=some (L.set (i*5+2) (sl (z+18) eG)):=setCells_one hlen;have ya:=λo=>jh (lo:=pm.lo) (ok:=pm.ok) (o:=o) (b:=ev) (by have:=g0.lo;omega);have d1:=(zX (a:=[cO]) (b:=rI (z+18) eG) (n:=z) (λx az=>by rw[DZ.1 az];omega) (λx az=>by rw[JE az];omega)).2;have hP:cO<z:=by omega
 have lf:ev<z:=by omega
 have mS:=λj=>(by rw[bl];exact g.none j:(H.up 22).get (z+j)=none);have FA:=(by rw[bl];exact g.fo:(H.up 22).get z=none);simp[-JH];refine eg.of g.lo rfl ?_;rw[<-bl];simp[dt,mS,FA,CJ,bC,ad,e2,m8,cy,dd,oP,YX, oO,oN,JG,ya,<-fg,d1,hP,lf,dx,dm,ez,-hV,-JH];refine⟨⟨λx az=>.inl (.inl (.inl (by have:=CK x az;omega))),λx az=>.inl (.inl (.inl (by have:=CK x az;omega)))⟩,?_⟩;clear m8 cy dd oP YY JG mS FA;have g2:=s2.k.aL;have YZ:=s2.x;rw[eQ (show 0<dc by omega)]at YZ;obtain⟨kz,wy,Y0⟩:=s2.w (by omega);have n2:fV.next=z+22:=by rw[fg];exact P1
 have bd:kz[i*5+3]? = some (aW r.rhs):=by rw[(Y0.2 i ad).2 3 (by decide)];simp[di.cells]
 obtain⟨fW,fp⟩:∃A,A=(fV.up 13).put ev (.cells (kz.set (i*5+3) (aW (r.rhs.take 30))) (.n 5)):=⟨_,rfl⟩;have pB:K pm fV (fV.up 13):=(K.refl g2).up 13;have de:iR pm H0 fW bJ cO dZ ev dn dc gM (λj=>if j=i then({r with rhs:=r.rhs.take 30}:di).cells (sl (z+18) eG) else eW j):=by
  rw[fp];exact(s2.up pB).row q ad (by decide) (by simp[di.cells]) (λj _ h=>by simp[h]) wy
 have P2:setCells kz (i*5+3) [aW (r.rhs.take 30)]=some (kz.set (i*5+3) (aW (r.rhs.take 30))):=setCells_one (Y0.lt ad (by decide));have h1:cO<fV.next:=by omega
 have dO:ev<fV.next:=by omega
 simp[-FB];refine eg.of g2.lo rfl ?_;simp[dt,g2.none,g2.fo,YZ,wy,ad,bd,-FB];refine GA pB.aL (vs:=[aW r.rhs,.int .i64 30]) (by simp[g2.none]) (by simp) (by simp) rfl (λpm' bS=>kM bS (zK al (n:=30) (by omega))) ?_;rintro _ _-⟨rfl,rfl⟩;simp[g2.none,wy,ad,P2,ya,<-fp,h1,dO,dx,dm,eJ,ez,gI,-FB];have g3:=de.k.aL;have Y1:=de.x;rw[eQ (show 0<dc by omega)]at Y1;obtain⟨JI,JJ,ayH⟩:=de.w (by omega);have b1:JI[i*5+2]? = some (sl (z+18) eG):=by rw[(ayH.2 i ad).2 2 (by decide)];simp[di.cells]
 obtain⟨aGo,jQ⟩:∃a,sl (z+18) eG=.slice a eG eG:=by
  unfold sl;split
  ·rename_i h;exact⟨none,by rw[h]⟩
  ·exact⟨_,rfl⟩
 rw[jQ]at b1;simp[Y1,JJ,ad,b1,-P3];obtain⟨cQ,mY⟩:∃cQ:Nat->fb,∀j,j<r.cM.length->r.cM[j]? = some (cQ j):=⟨λj=>r.cM.getD j ayF,λj aH=>by simp[aH]⟩;have CH:∀b y,b≠ev->H.get b=some y->fW.get b=some y:=λb y ai h=>by
  rw[fp,cq ai,zY,fg,cq ai];exact hD.some g h
 have dp:0<eG->∃M,fW.get (z+18)=some (.cells M (.n 2))/\jk M 2 eG (λj=>if j<0 then(JF (cQ j)).cells else(cQ j).cells):=λh=>by
  obtain⟨U,aa⟩:=Ek h;refine⟨ak,by rw[fp,cq (by omega),zY,fg,cq (by omega),fc];exact PW h,jk.of U λj aH=>?_⟩;obtain⟨cs,ao,c,e2,rfl⟩:=aa j aH;rw[ao];rw[mY j (by omega)]at e2;cases e2;simp
 clear fc fg fp Ek gy
 refine gG (σ:=Unit) eG (λ_ _=>[(27,.int .i64 (i:Int)),(26,.int .i64 (dc:Int)),(2,.pointer (some ⟨bJ,0,none⟩)),(3,.pointer (some ⟨cO,0,none⟩)),(4,.int .i64 (i:Int))])
  (λk _ H'=>iR pm H0 H' bJ cO dZ ev dn dc gM (λj=>if j=i then({r with rhs:=r.rhs.take 30}:di).cells (sl (z+18) eG) else eW j)/\(0<eG->∃M,H'.get (z+18)=some (.cells M (.n 2))/\jk M 2 eG (λj=>if j<k then(JF (cQ j)).cells else(cQ j).cells))/\∀b y,b≠ev->H.get b=some y->H'.get b=some y)
  () (by decide) (by omega) (by simp) ⟨de,dp,CH⟩ (by simp) ?_ ?_
 ·rintro k _ qJ ag ⟨qK,P4,P5⟩;obtain⟨M,CL,FC⟩:=P4 (by omega);have nr:=qK.k.aL;have P6:=qK.x;rw[eQ (show 0<dc by omega)]at P6;obtain⟨ayI,Y2,ayJ⟩:=qK.w (by omega);have cK:ayI[i*5+2]? = some (sl (z+18) eG):=by rw[(ayJ.2 i ad).2 2 (by decide)];simp[di.cells]
  rw[eQ (show 0<eG by omega)]at cK;obtain⟨eH,Y3⟩:∃t,t=(cQ k).v:=⟨_,rfl⟩;have il:M[k*2+1]? = some (aW eH):=by rw[(FC.2 k ag).2 1 (by decide),Y3];simp[fb.cells]
  have Y4:K pm qJ (qJ.up 21):=(K.refl nr).up 21;obtain⟨sM,yg⟩:∃A,A=(qJ.up 21).put (z+18) (.cells (M.set (k*2+1) (aW (eH.take 20))) (.n 2)):=⟨_,rfl⟩;have P7:setCells M (k*2+1) [aW (eH.take 20)]=some (M.set (k*2+1) (aW (eH.take 20))):=setCells_one (FC.lt ag (by decide));have ayK:=λo=>jh (lo:=pm.lo) (ok:=pm.ok) (o:=o) (b:=z+18) (by have:=g0.lo;omega);have rK:iR pm H0 sM bJ cO dZ ev dn dc gM (λj=>if j=i then({r with rhs:=r.rhs.take 30}:di).cells (sl (z+18) eG) else eW j):=by
   rw[yg];exact(qK.up Y4).put q (by omega) CL (by simp)
  have m1:=nr.lt P6;have m2:=nr.lt Y2;have m3:=nr.lt CL;have aGp:z+18≠ev:=by omega
  simp;refine eg.of nr.lo rfl ?_;simp[dt,nr.none,nr.fo,P6,Y2,ad,cK,CL,ag,il];refine GA Y4.aL (vs:=[aW eH,.int .i64 20]) (by simp[nr.none]) (by simp) (by simp) rfl (λpm' bS=>kM bS (zK al (n:=20) (by omega))) ?_;rintro _ _-⟨rfl,rfl⟩;simp[nr.none,CL,ag,P7,ayK,<-yg,m1,m2,m3,dx,dm,eJ,ez,gI];refine⟨rK,λ_=>⟨_,by rw[yg];exact dX,FC.set ag (by decide) _ ?_ λj aH Vh=>?_⟩,λb y ai h=>?_⟩
  ·simp[JF,fb.cells,Y3]
  ·by_cases e:j<k
   ·simp[e,show j<k+1 by omega]
   ·simp[e,show ¬j<k+1 by omega]
  ·have:=g.lt h;rw[yg,cq (by omega),zY];exact P5 b y ai h
 ·rintro _ qJ ⟨qK,P4,P5⟩;simp;have d':r.cut.cM.length=eG:=by simp[di.cut];omega
  refine dD _ _ (sl (z+18) eG) (by simp) ?_ ?_ ?_ P5
  ·have e:(λj=>if j=i then r.cut.cells (sl (z+18) eG) else eW j)=(λj=>if j=i then({r with rhs:=r.rhs.take 30}:di).cells (sl (z+18) eG) else eW j):=by
    funext j;split<;>rfl
   rw[e];exact qK
  ·by_cases aD:eG=0
   ·refine⟨none,0,by rw[d',aD];rfl,λj aH=>by omega⟩
   ·obtain⟨M,CL,FC⟩:=P4 (by omega);refine⟨_,eG,by rw[d',eQ (by omega)],λj aH=>⟨z+18,0,_,M,_,rfl,CL,rfl,by rw[Nat.zero_add];exact FC.row (by omega),JF (cQ j),?_,by simp[show j<eG by omega]⟩⟩;have qG:j<8:=by omega
    simp[di.cut, qG,mY j (by omega)];rfl
  ·unfold sl;split
   ·trivial
   ·rename_i aD;exact⟨by show H.next<=z+18;omega,by omega⟩
end Go.Dam.C
namespace Go.Dam.C
open Go Go.Dam
variable{X:aY}{pm:Perm}{H H' cL H0:ah}{n bJ cO dZ ev dn dc:Nat}{gM eW:Nat->List Value}
theorem ayL(al:bYF X)(g0:cl pm H0)(q:CI H0 bJ cO dZ ev)(s:iR pm H0 H bJ cO dZ ev dn dc gM eW)(sN:dn<=6){i:Nat}(ad:i<dn){c:eu}(af:gM i=c.cells){R:c'}
 (dD:∀l' H',Sub [(98,.int .i64 (i:Int)),(97,.int .i64 (dn:Int)),(2,.pointer (some ⟨bJ,0,none⟩)),(3,.pointer (some ⟨cO,0,none⟩))] l'->iR pm H0 H' bJ cO dZ ev dn dc (λj=>if j=i then c.cut.cells else gM j) eW->(∀b y,b≠dZ->H.get b=some y->H'.get b=some y)->R .normal l' H'):
 wp X pm (.code (.seq (.aT [m 100 98,m 6 100]) C.P8)) [(99,.bool true),(98,.int .i64 (i:Int)),(97,.int .i64 (dn:Int)),(2,.pointer (some ⟨bJ,0,none⟩)),(3,.pointer (some ⟨cO,0,none⟩))] H [] R:=by
 have g:=s.k.aL;have bn:=q.U;have bh:=q.aa;have cu:=q.aq;have e9:=q.a8;have eT:=g.lt s.x;obtain⟨L,bC,mV⟩:=s.c (by omega);have CJ:=s.x;rw[eQ (show 0<dn by omega)]at CJ;have hP:=g.lt bC;have ao:L[i*5+1]? = some (aW c.low):=by rw[(mV.2 i ad).2 1 (by decide),af];rfl
 have e2:L[i*5+2]? = some (aW c.up):=by rw[(mV.2 i ad).2 2 (by decide),af];rfl
 have bd:L[i*5+3]? = some (aW c.cost):=by rw[(mV.2 i ad).2 3 (by decide),af];rfl
 have cR:=mV.lt ad (show 1<5 by decide);have b9:=mV.lt ad (show 2<5 by decide);have fK:=mV.lt ad (show 3<5 by decide);have bE:K pm H (H.up 39):=(K.refl g).up 39;have sg:=λo=>jh (lo:=pm.lo) (ok:=pm.ok) (o:=o) (b:=dZ) (by have:=g0.lo;omega);obtain⟨j9,FD⟩:∃l,l=L.set (i*5+1) (aW (c.low.take 20)):=⟨_,rfl⟩;obtain⟨kz,wy⟩:∃l,l=j9.set (i*5+2) (aW (c.up.take 20)):=⟨_,rfl⟩;obtain⟨JI,JJ⟩:∃l,l=kz.set (i*5+3) (aW (c.cost.take 20)):=⟨_,rfl⟩;obtain⟨fL,fc⟩:∃A,A=(H.up 39).put dZ (.cells j9 (.n 5)):=⟨_,rfl⟩;obtain⟨fV,fg⟩:∃A,A=fL.put dZ (.cells kz (.n 5)):=⟨_,rfl⟩;obtain⟨fW,fp⟩:∃A,A=fV.put dZ (.cells JI (.n 5)):=⟨_,rfl⟩;have cx:fL.get dZ=some (.cells j9 (.n 5)):=by rw[fc];exact dX
 have a2:fV.get dZ=some (.cells kz (.n 5)):=by rw[fg];exact dX
 have JG:setCells L (i*5+1) [aW (c.low.take 20)]=some j9:=by rw[FD];exact setCells_one cR
 have P2:setCells j9 (i*5+2) [aW (c.up.take 20)]=some kz:=by rw[wy];exact setCells_one (by rw[FD];simpa using b9)
 have P7:setCells kz (i*5+3) [aW (c.cost.take 20)]=some JI:=by rw[JJ];exact setCells_one (by rw[wy,FD];simpa using fK)
 have s1:iR pm H0 fL bJ cO dZ ev dn dc (λj=>if j=i then({c with low:=c.low.take 20}:eu).cells else gM j) eW:=by
  rw[fc,FD];exact(s.up bE).col q ad (by decide) (by rw[af];simp[eu.cells]) (λj _ h=>by simp[h]) bC
 have s2:iR pm H0 fV bJ cO dZ ev dn dc (λj=>if j=i then({c with low:=c.low.take 20,up:=c.up.take 20}:eu).cells else gM j) eW:=by
  rw[fg,wy];exact s1.col q ad (by decide) (by simp[eu.cells]) (λj _ h=>by simp[h]) cx
 have de:iR pm H0 fW bJ cO dZ ev dn dc (λj=>if j=i then c.cut.cells else gM j) eW:=by
  rw[fp,JJ];exact s2.col q ad (by decide) (by simp[eu.cells,eu.cut]) (λj _ h=>by simp[h]) a2
 have Y5:∀j,fL.get (H.next+j)=none/\fV.get (H.next+j)=none:=λj=>by
  have U:fL.get (H.next+j)=none:=by rw[fc,cq (by omega)];exact g.none j
  exact⟨U,by rw[fg,cq (by omega)];exact U⟩
 have ayM:gp [dZ] [cO]=true:=kS (by omega);have ayN:=λj=>(Y5 j).1;have ayO:=λj=>(Y5 j).2;simp;refine eg.of g.lo rfl ?_;simp[dt,g.none,g.fo,CJ,bC,ad,ao,e2,bd];refine GA bE.aL (vs:=[aW c.low,.int .i64 20]) (by simp[g.none]) (by simp) (by simp) rfl (λpm' bS=>kM bS (zK al (n:=20) (by omega))) ?_;rintro _ _-⟨rfl,rfl⟩;simp;refine GA bE.aL (vs:=[aW c.up,.int .i64 20]) (by simp[g.none]) (by simp) (by simp) rfl (λpm' bS=>kM bS (zK al (n:=20) (by omega))) ?_;rintro _ _-⟨rfl,rfl⟩;simp;refine GA bE.aL (vs:=[aW c.cost,.int .i64 20]) (by simp[g.none]) (by simp) (by simp) rfl (λpm' bS=>kM bS (zK al (n:=20) (by omega))) ?_;rintro _ _-⟨rfl,rfl⟩;simp[g.none,bC,ad,JG,sg,<-fc,ayN,cx,P2,<-fg,ayO,a2,P7,<-fp,ayM,eT,hP,dx,dm,eJ,ez,gI];refine dD _ _ ?_ de λb y ai h=>?_
 ·simp
 rw[fp,cq ai,fg,cq ai,fc,cq ai,zY];exact h
end Go.Dam.C
namespace Go.Dam.C
open Go Go.Dam
variable{X:aY}{pm:Perm}{H H' cL H0:ah}{n:Nat}
theorem jk.Y6{b k w:Nat}{f:Nat->List Value}{P:Nat->List Value->Prop}(h:0<k->∃L,H.get b=some (.cells L (.n w))/\jk L w k f)(aC:∀i,i<k->P i (f i)):hi H (sl b k) k w P:=by
 by_cases ag:0<k
 ·obtain⟨L,U,aa⟩:=h ag;exact⟨_,k,eQ ag,λi ad=>⟨b,0,_,L,_,rfl,U,rfl,by rw[Nat.zero_add];exact aa.row ad,aC i ad⟩⟩
 ·obtain rfl:k=0:=by omega
  exact⟨none,0,rfl,λi ad=>by omega⟩
theorem np.mono{n0 n1:Nat}{v:Value}(h:np n0 v)(aF:n1<=n0):np n1 v:=by
 unfold np at*
 split
 ·exact⟨bH aF h.1,h.2⟩
 ·trivial
theorem np.sl{n0 b k:Nat}(h:n0<=b):np n0 (sl b k):=by
 unfold C.sl;split
 ·trivial
 ·rename_i aD;exact⟨h,by omega⟩
theorem hi.ne{v:Value}{m w n0 b:Nat}{P:Nat->List Value->Prop}(h:hi H v m w P)(bc:np n0 v)(ai:b<n0)(aK:∀c y,c≠b->H.get c=some y->H'.get c=some y):hi H' v m w P:=by
 obtain⟨base,cap,rfl,eU⟩:=h.ex;refine⟨base,cap,rfl,λi ad=>?_⟩;obtain⟨c,off,y,row,cs,rfl,e2,bd,b1,cK⟩:=eU i ad;have bc:n0<=c:=bc.1;exact⟨c,off,y,row,cs,rfl,aK _ _ (by omega) e2,bd,b1,cK⟩
theorem ayP(al:bYF X):YJ X:=by
 intro pm H g v lp aw;refine Call.h6 al.wk rfl λQ bU=>?_;obtain⟨v1,v2,rfl,af,an⟩:=aw;obtain⟨base,cap,rfl,kj⟩:=id af;obtain⟨dG,dE,rfl,rr⟩:=id an;obtain⟨jW,jR⟩:∃b,b=H.next:=⟨_,rfl⟩;obtain⟨H1,cw⟩:∃H1,H1=H.new (.cells [.slice base lp.aj.length cap,.slice dG lp.rows.length dE] (.t tyU0)):=⟨_,rfl⟩;have av:K pm H H1:=by rw[cw];exact K.new g _
 have g1:=av.aL;have h4:H1.get jW=some (.cells [.slice base lp.aj.length cap,.slice dG lp.rows.length dE] (.t tyU0)):=by rw[cw,jR];exact dT
 obtain⟨bJ,zq1⟩:∃b,b=H1.next:=⟨_,rfl⟩;obtain⟨aJ,ee⟩:∃aJ,aJ=H1.new (.cells [.slice none 0 0,.slice none 0 0] (.t tyU1)):=⟨_,rfl⟩;have aI:K pm H1 aJ:=by rw[ee];exact K.new g1 _
 have g2:=aI.aL;have ayQ:aJ.get bJ=some (.cells [.slice none 0 0,.slice none 0 0] (.t tyU1)):=by rw[ee,zq1];exact dT
 have P9:=aI.some g1 h4;have h8:=av.trans aI;have n1:H1.next=jW+1:=by rw[cw,jR];rfl
 have n2:aJ.next=bJ+1:=by rw[ee,zq1];rfl
 obtain⟨gM,lc,ayR,JK,mY⟩:=PX (by':=72) (k:=min lp.aj.length 6) (af.imp (h8.ext g) λ_ _ _ h=>h) (Nat.min_le_left _ _) (by decide) (by omega) (by decide) (λi cs ⟨c,_,e⟩=>by rw[e];rfl);obtain⟨eW,cc,e8,P',nk⟩:=PX (by':=80) (k:=min lp.rows.length 6) (hO.imp an (h8.ext g) λ_ _ _ h=>h) (Nat.min_le_left _ _) (by decide) (by omega) (by decide) (λi cs ⟨c,vc,_,e,e2⟩=>by
  rw[e];obtain⟨_,_,bd,_⟩:=e2;rw[bd];rfl)
 have Qa:∀x∈gM,x<aJ.next:=λx az=>by obtain⟨y,bu⟩:=ayR x az;exact g2.lt bu
 have JL:∀x∈eW,x<aJ.next:=λx az=>by obtain⟨y,bu⟩:=e8 x az;exact g2.lt bu
 obtain⟨dn,sN⟩:∃k,k=min lp.aj.length 6:=⟨_,rfl⟩;obtain⟨dc,oB⟩:∃k,k=min lp.rows.length 6:=⟨_,rfl⟩;rw[<-sN]at mY JK;rw[<-oB]at nk P';have m1:=YW lp.aj.length;have m2:=YW lp.rows.length;rw[<-sN]at m1;rw[<-oB]at m2;obtain⟨z,bl⟩:∃z,z=aJ.next:=⟨_,rfl⟩;have bE:K pm aJ (aJ.up 19):=(K.refl g2).up 19;have Y7:=bE.ext g2;obtain⟨fL,fc⟩:∃A,A=mD (aJ.up 19) (z+7) dn 5 lc:=⟨_,rfl⟩;have hD:K pm aJ fL:=by rw[fc];exact bp.mD bE (by omega) (by rw[bl];exact g2.none 7) (by show z+7<aJ.next+19;omega)
 have cy:=(mY _ Y7 pm.lo (z+6) pm.ok).1;have dd:=(mY _ Y7 pm.lo (z+7) pm.ok).2;have Y8:=hD.ext g2;obtain⟨fV,fg⟩:∃A,A=mD fL (z+15) dc 5 cc:=⟨_,rfl⟩;have oP:∀j,j≠7->fL.get (z+j)=none:=λj aH=>by rw[fc,JD (by omega),bl];exact g2.none j
 have P1:fL.next=z+19:=by rw[fc,PV,bl];rfl
 have Y9:K pm aJ fV:=by rw[fg];exact bp.mD hD (by omega) (oP 15 (by decide)) (by omega)
 have dy:=(nk _ Y8 pm.lo (z+14) pm.ok).1;have iZ:=(nk _ Y8 pm.lo (z+15) pm.ok).2;have rL:∀j,j≠7->j≠15->fV.get (z+j)=none:=λj aH j8=>by rw[fg,JD (by omega)];exact oP j aH
 have ayS:fV.next=z+19:=by rw[fg,PV,P1]
 rw[<-fc]at dd;rw[<-fg]at iZ;have ayT:=hD.some g2 P9;have ayU:=Y9.some g2 P9;simp[g.pick,g.make,ptr,<-jR,<-cw,  <-zq1,<-ee,-JM];refine eg.of g2.lo rfl ?_;rw[<-bl];have mS:=λj=>(by rw[bl];exact g2.none j:(aJ.up 19).get (z+j)=none);have FA:=(by rw[bl];exact g2.fo:(aJ.up 19).get z=none);have oN:∀b i,fG (sl b i)=true:=λb i=>by unfold sl;split<;>rfl
 have oO:∀b i,(sl b i).cells=#[sl b i]:=λb i=>by unfold sl;split<;>rfl
 obtain⟨fW,fp⟩:∃A,A=fV.put (z+17) (.cells [.slice none 0 0,.slice none 0 0] (.t tyU2)):=⟨_,rfl⟩;obtain⟨oQ,km⟩:∃A,A=fW.put (z+17) (.cells [sl (z+7) dn,sl (z+15) dc] (.t tyU2)):=⟨_,rfl⟩;have uy:fW.get (z+18)=none:=by rw[fp,cq (by omega)];exact rL 18 (by decide) (by decide)
 have Qb:fW.get (z+17)=some (.cells [.slice none 0 0,.slice none 0 0] (.t tyU2)):=by rw[fp];exact dX
 have x9:=λo=>jh (lo:=pm.lo) (ok:=pm.ok) (o:=o) (b:=z+17) (by have:=g2.lo;omega);have ayV:jW<z:=by omega
 have lb:∀j k,∀x∈rI (z+j) k,z<=x:=λj k x az=>by rw[JE az];omega
 have jR:∀x∈[jW],x<z:=λx az=>by rw[DZ.1 az];omega
 have Qc:∀x∈[z+17],z<=x:=λx az=>by rw[DZ.1 az];omega
 rw[<-bl]at Qa JL;have d1:=λj k=>(zX jR (lb j k)).2;have d2:=λj k=>(zX JL (lb j k)).2;have d3:=(zX jR Qc).2;have d4:=(zX Qa Qc).2;have d5:=(zX JL Qc).2;have d6:=(YV (n:=dn) (show z+7≠z+17 by omega)).2;have d7:=(YV (n:=dc) (show z+15≠z+17 by omega)).2;have d8:=zX (a:=rI (z+7) dn) (b:=rI (z+15) dc) (n:=z+8) (λx az=>by rw[JE az];omega) (λx az=>by rw[JE az];omega);have f1:∀b∈gM,b<z∨z+19<=b:=λb ai=>.inl (Qa b ai);have f2:∀b∈eW,b<z∨z+19<=b:=λb ai=>.inl (JL b ai);simp[d1,d2,d3,d4,d5,d6,d7,  ayV, ez,dt,mS,FA,P9,m1,cy,dd,oP,ayT,m2,dy,iZ,rL, oO,oN,setCells,c5,Perm.make,Perm.pick,ptr,<-fp,uy,Qb,x9,<-km,dx,dm,-hV,-JM];refine⟨⟨λx az=>.inl (.inl (f1 x az)),λx az=>.inl (.inl (f1 x az)),λx az=>.inl (.inl (f2 x az)),λx az=>.inl (.inl (f2 x az))⟩,?_⟩;have ayW:fW.next=z+19:=by rw[fp];exact ayS
 have ayX:K pm aJ fW:=by rw[fp];exact bp.fill Y9 (by omega) (rL 17 (by decide) (by decide)) (by omega) _
 have JN:K pm aJ oQ:=by rw[km];exact bp.put ayX (by omega) Qb (by simp) _
 have aGq:oQ.next=z+19:=by rw[km];exact ayW
 have q:CI H bJ (z+17) (z+7) (z+15):=⟨by omega,by omega,by omega,by omega⟩;obtain⟨ac,rM⟩:∃f:Nat->eu,∀j,j<lp.aj.length->lp.aj[j]? = some (f j):=⟨λj=>lp.aj.getD j ⟨[],[],[],[],false⟩,λj aH=>by simp[aH]⟩;obtain⟨ar,py⟩:∃f:Nat->di,∀j,j<lp.rows.length->lp.rows[j]? = some (f j):=⟨λj=>lp.rows.getD j ⟨[],0,[],[],[]⟩,λj aH=>by simp[aH]⟩;obtain⟨v0,iy⟩:∃v0:Nat->Value,∀j,j<dc->(cX cc (j*5) 5=some ((ar j).cells (v0 j))/\hO H (v0 j) (ar j).cM.length 2 λi cs=>∃c,(ar j).cM[i]? = some c/\cs=c.cells):=by
  have:∀j,∃v,j<dc->(cX cc (j*5) 5=some ((ar j).cells v)/\hO H v (ar j).cM.length 2 λi cs=>∃c,(ar j).cM[i]? = some c/\cs=c.cells):=λj=>by
   by_cases aH:j<dc
   ·obtain⟨cs,ao,r,vc,e2,rfl,bd⟩:=(P' (by omega)).2 j aH;rw[py j (by omega)]at e2;cases e2;exact⟨vc,λ_=>⟨ao,bd⟩⟩
   ·exact⟨.bool true,λh=>absurd h aH⟩
  exact⟨λj=>(this j).choose,λj=>(this j).choose_spec⟩
 have iQ:iR pm H oQ bJ (z+17) (z+7) (z+15) dn dc (λj=>(ac j).cells) (λj=>(ar j).cells (v0 j)):=by
  refine⟨K.trans h8 JN,JN.some g2 ayQ,by rw[km];exact dX,λh=>⟨lc,?_,jk.of (JK h).1 λj aH=>?_⟩,λh=>⟨cc,?_,jk.of (P' h).1 λj aH=>(iy j aH).1⟩⟩
  ·rw[km,cq (by omega),fp,cq (by omega),fg,JD (by omega),fc];exact PW h
  ·obtain⟨cs,ao,c,e2,rfl⟩:=(JK h).2 j aH;rw[rM j (by omega)]at e2;cases e2;exact ao
  ·rw[km,cq (by omega),fp,cq (by omega),fg];exact PW h
 have aGr:=JN.aL;have aGs:K pm H oQ:=K.trans h8 JN;clear fc fg fp km nk mY cy dd dy iZ oP rL uy Qb d1 d2 d3 d4 d5 d6 d7 d8 f1 f2 mS FA lb;obtain⟨iS,uz,_⟩:=uA (z+7) dn;obtain⟨aGt,Y',_⟩:=uA (z+15) dc;have sc:=iQ.x;rw[uz,Y']at sc;simp[sc,-Qd,-Qe]
 refine gG (σ:=Nat->Value) dc (λ_ _=>[(2,.pointer (some ⟨bJ,0,none⟩)),(3,.pointer (some ⟨z+17,0,none⟩))])
  (λi vcs H'=>iR pm H H' bJ (z+17) (z+7) (z+15) dn dc (λj=>(ac j).cells) (λj=>if j<i then(ar j).cut.cells (vcs j) else(ar j).cells (v0 j))/\∀j,j<i->nX H' (vcs j) (ar j).cut.cM/\np (z+16) (vcs j))
  v0 (by decide) (by omega) (by simp) ⟨by simpa using iQ,λj aH=>absurd aH (od _)⟩ (by simp) ?_ ?_
 ·rintro i vcs qJ ad ⟨qK,Qf⟩;refine ayG al g q qK (by omega) ad (r:=ar i) (vc:=v0 i) (by simp) (iy i ad).2 ?_;intro l' sM rJ Qg rK Fh e8 aK;have aGu:=qK.k.aL.lt qK.x;refine⟨λj=>if j=i then rJ else vcs j,Qg,?_,λj aH=>?_⟩
  ·have e:(λj=>if j=i then(ar i).cut.cells rJ else if j<i then(ar j).cut.cells (vcs j) else(ar j).cells (v0 j))=(λj=>if j<i+1 then(ar j).cut.cells (if j=i then rJ else vcs j) else(ar j).cells (v0 j)):=by
    funext j;by_cases e:j=i
    ·subst e;simp
    ·by_cases e2:j<i
     ·simp[e,e2,show j<i+1 by omega]
     ·simp[e,e2,show ¬j<i+1 by omega]
   rw[<-e];exact rK
  ·by_cases e:j=i
   ·subst e;simp only[if_true];exact⟨Fh,e8.mono (by omega)⟩
   ·simp only[e,if_false];obtain⟨U,aa⟩:=Qf j (by omega);exact⟨hi.ne U aa (by omega) aK,aa⟩
 ·rintro vcs qJ ⟨qK,Qf⟩;have Za:=qK.x;rw[uz,Y']at Za;simp[Za,-Qh,-Qi]
  refine gG (σ:=Unit) dn (λ_ _=>[(2,.pointer (some ⟨bJ,0,none⟩)),(3,.pointer (some ⟨z+17,0,none⟩))])
   (λi _ H'=>iR pm H H' bJ (z+17) (z+7) (z+15) dn dc (λj=>if j<i then(ac j).cut.cells else(ac j).cells) (λj=>if j<dc then(ar j).cut.cells (vcs j) else(ar j).cells (v0 j))/\∀j,j<dc->nX H' (vcs j) (ar j).cut.cM/\np (z+16) (vcs j))
   () (by decide) (by omega) (by simp) ⟨by simpa using qK,Qf⟩ (by simp) ?_ ?_
  ·rintro i _ sM ad ⟨rK,zZ⟩;refine ayL al g q rK (by omega) ad (c:=ac i) (by simp) ?_;intro l' CD Qg ayY aK;refine⟨(),Qg,?_,λj aH=>?_⟩
   ·have e:(λj=>if j=i then(ac i).cut.cells else if j<i then(ac j).cut.cells else(ac j).cells)=(λj=>if j<i+1 then(ac j).cut.cells else(ac j).cells):=by
     funext j;by_cases e:j=i
     ·subst e;simp
     ·by_cases e2:j<i
      ·simp[e,e2,show j<i+1 by omega]
      ·simp[e,e2,show ¬j<i+1 by omega]
    rw[<-e];exact ayY
   ·obtain⟨U,aa⟩:=zZ j aH;exact⟨hi.ne U aa (by omega) aK,aa⟩
  ·rintro _ sM ⟨rK,zZ⟩;have ayZ:=rK.x;have Zb:=rK.r;have JC:=rK.k.aL;have oN:∀b i,fG (sl b i)=true:=λb i=>by unfold sl;split<;>rfl
   have oO:∀b i,(sl b i).cells=#[sl b i]:=λb i=>by unfold sl;split<;>rfl
   have rH:pm.may bJ=true:=g.may (by omega);obtain⟨CD,CM⟩:∃A,A=sM.put bJ (.cells [sl (z+7) dn,sl (z+15) dc] (.t tyU1)):=⟨_,rfl⟩;simp[ayZ,Zb,cX,c5, oN,setCells,rH,<-CM];refine bU _ _ _ ?_;have ay0:CD.get bJ=some (.cells [sl (z+7) dn,sl (z+15) dc] (.t tyU1)):=by rw[CM];exact dX
   have CE:K pm H CD:=by rw[CM];exact bp.put rK.k (by omega) Zb (by simp) _
   simp[ik,ay0,cX,c5];refine⟨CE,?_⟩;have d':lp.cut.aj.length=dn:=by simp[bD.cut];omega
   have ld:lp.cut.rows.length=dc:=by simp[bD.cut];omega
   have ay1:0<dn->∃L,CD.get (z+7)=some (.cells L (.n 5))/\jk L 5 dn (λj=>if j<dn then(ac j).cut.cells else(ac j).cells):=λh=>(rK.c h).imp λL h=>⟨by rw[CM,cq (by omega)];exact h.1,h.2⟩;have z1:0<dc->∃L,CD.get (z+15)=some (.cells L (.n 5))/\jk L 5 dc (λj=>if j<dc then(ar j).cut.cells (vcs j) else(ar j).cells (v0 j)):=λh=>(rK.w h).imp λL h=>⟨by rw[CM,cq (by omega)];exact h.1,h.2⟩;refine⟨_,_,rfl,?_,?_,np.sl (by omega),np.sl (by omega)⟩
   ·unfold kI;rw[d'];refine jk.Y6 ay1 λi ad=>⟨(ac i).cut,?_,by simp[ad]⟩;simp[bD.cut, show i<6 by omega,rM i (by omega)]
   ·unfold uv;rw[ld];refine jk.Y6 z1 λi ad=>⟨(ar i).cut,vcs i,?_,by simp[ad],?_,(zZ i ad).2.mono (by omega)⟩
    ·simp[bD.cut, show i<6 by omega,py i (by omega)]
    ·exact hi.ne (zZ i ad).1 (zZ i ad).2 (b:=bJ) (by omega) λc y af h=>by rw[CM,cq af];exact h
end Go.Dam.C
namespace Go.Dam.C
open Go Go.Dam
variable{X:aY}{pm:Perm}{H H' cL H0:ah}{n:Nat}
structure bWa(X:aY):Prop extends bYF X where
 bYi:Has X F.bYi C.bYi
abbrev bWR:Nat:=T.bVV
theorem bWb{m w cap by' n0:Nat}{base:Option Addr}{P:Nat->List Value->Prop}(h:hi H (.slice base m cap) m w P)(bc:np n0 (.slice base m cap))(hw:1<=w)(ayD:m<=1000)(hK:by'<=200)(zt:∀i cs,P i cs->cs.all fG=true):
 ∃f l,(∀x∈f,∃y,H.get x=some y)/\(0<m->l.length=m*w/\∀i,i<m->∃cs,cX l (i*w) w=some cs/\P i cs)/\
  ∀H',Ext H H'->∀lo b okl,(hV w (.slice base m cap) λnew n=>iV w by' (.slice none 0 0) new n).runT ⟨lo,okl,some b⟩ H'=some (sl b m,mD H' b m w l,f,rI b m):=by
 obtain⟨_,_,e,eU⟩:=h.ex;cases e
 cases base with
 | none=>
   have ft:m=0:=by
    apply oa;intro hm;obtain⟨_,_,_,_,_,e,_⟩:=eU 0 (by omega);cases e
   subst ft;refine⟨[],[],(by simp),λh=>absurd h (Nat.lt_irrefl 0),λH' _ lo b okl=>?_⟩;unfold hV;exact YU
 | some a=>
   have hm:0<m:=bc.2;obtain⟨c,off,y,row,_,bWc,aa,aq,_⟩:=eU 0 hm;cases bWc;have bWS:∀i,i<m->∃cs,cX row (off+i*w) w=some cs/\P i cs:=λi ad=>by
    obtain⟨ek,aAr,mi,bQm,cs,bWc,g2,g3,g4,g5⟩:=eU i ad;cases bWc;rw[aa]at g2;cases g2;rw[aq]at g3;cases g3;exact⟨cs,g4,g5⟩
   obtain⟨l,ao,e2,bd⟩:=ayx hm (λi ad=>(bWS i ad).imp λ_ h=>h.1);have aO:∀i,i<m->∃cs,cX l (i*w) w=some cs/\P i cs:=λi ad=>by
    obtain⟨cs,cg,dj⟩:=bWS i ad;exact⟨cs,by rw[bd i ad,cg],dj⟩
   refine⟨[c],l,λx az=>⟨y,by rw[DZ.1 az];exact aa⟩,λ_=>⟨e2,aO⟩,λH' az lo b okl=>?_⟩;have mc:l.all fG=true:=by
    rw[hz];intro v aw;obtain⟨p,aC,rfl⟩:=bXH aw;have ri:p<m*w:=by omega
    have aV:p/w<m:=bYj (by rw[gw];exact ri);obtain⟨cs,cg,dj⟩:=aO (p/w) aV;have j4:=(Fy cg).2;have Ei:=hz.1 (zt _ _ dj);have ayE:p%w<w:=bZU _ (by omega);have e:p/w*w+p%w=p:=by rw[gw];exact bYO p w
    refine Ei _ ?_;rw[j4];refine List.mem_iff_getElem?.2 ⟨p%w,?_⟩;rw[pT ayE,o',e];exact hG aC
   unfold hV;simp only[bF.runT,az _ _ aa,aq,ao];rw[copyV mc hw ayD hK]
structure bVW(H:ah)(n0 dZ ev:Nat)(lp:bD)(vb:Nat->Nat):Prop where
 b:n0<=dZ/\dZ<ev/\ev<H.next/\∀i,i<lp.rows.length->ev<vb i
 c:0<lp.aj.length->∃L,H.get dZ=some (.cells L (.n 5))/\jk L 5 lp.aj.length λj=>(lp.col j).cells
 w:0<lp.rows.length->∃L,H.get ev=some (.cells L (.n 5))/\jk L 5 lp.rows.length λi=>(lp.row i).cells (sl (vb i) (lp.row i).cM.length)
 v:∀i,i<lp.rows.length->0<(lp.row i).cM.length->∃M,H.get (vb i)=some (.cells M (.n 2))/\jk M 2 (lp.row i).cM.length λk=>((lp.row i).cM.getD k ayF).cells
variable{bJ cO dZ ev dn dc:Nat}{gM eW:Nat->List Value}
theorem bVX(g0:cl pm H0)(q:CI H0 bJ cO dZ ev)(s:iR pm H0 H bJ cO dZ ev dn dc gM eW)(oB:dc<=6){i:Nat}(ad:i<dc){r:di}{vc:Value}{n0:Nat}(an:eW i=r.cells vc)
 (nd:nX H0 vc r.cM) (bVY:np n0 vc) (hlen:r.cM.length<=1000) {R:c'}
 (dD:∀l' H' b,Sub [(15,.int .i64 (i:Int)),(14,.int .i64 (dc:Int)),(2,.pointer (some ⟨bJ,0,none⟩)),(3,.pointer (some ⟨cO,0,none⟩))] l'->iR pm H0 H' bJ cO dZ ev dn dc gM (λj=>if j=i then r.cells (sl b r.cM.length) else eW j)->
  (0<r.cM.length->∃M,H'.get b=some (.cells M (.n 2))/\jk M 2 r.cM.length λk=>(r.cM.getD k ayF).cells)->H.next<=b->(∀b y,b≠ev->H.get b=some y->H'.get b=some y)->R .normal l' H'):
 wp X pm (.code (.seq (.aT [m 17 15,m 4 17]) C.bWd)) [(16,.bool true),(15,.int .i64 (i:Int)),(14,.int .i64 (dc:Int)),(2,.pointer (some ⟨bJ,0,none⟩)),(3,.pointer (some ⟨cO,0,none⟩))] H [] R:=by
 have g:=s.k.aL;have bn:=q.U;have bh:=q.aa;have cu:=q.aq;have e9:=q.a8;have eT:=g.lt s.x;obtain⟨L,bC,mV⟩:=s.w (by omega);have CJ:=s.x;rw[eQ (show 0<dc by omega)]at CJ;have e2:L[i*5+2]? = some vc:=by rw[(mV.2 i ad).2 2 (by decide),an];rfl
 obtain⟨base,cap,rfl,_⟩:=nd.ex;have aDG:nX H (.slice base r.cM.length cap) r.cM:=nd.ext (s.k.ext g0);obtain⟨f,ak,bc,Ek,gy⟩:=bWb (by':=24) aDG bVY (by decide) hlen (by decide) (λi cs ⟨c,_,e⟩=>by rw[e];rfl);have CK:∀x∈f,x<H.next:=λx az=>by obtain⟨y,bu⟩:=bc x az;exact g.lt bu
 obtain⟨z,bl⟩:∃z,z=H.next:=⟨_,rfl⟩;obtain⟨eG,pZ⟩:∃k,k=r.cM.length:=⟨_,rfl⟩;rw[<-pZ]at gy Ek dD;rw[<-pZ]at e2;have bE:K pm H (H.up 13):=(K.refl g).up 13;have dd:=gy _ (bE.ext g) pm.lo (z+9) pm.ok;obtain⟨fL,fc⟩:∃A,A=mD (H.up 13) (z+9) eG 2 ak:=⟨_,rfl⟩;have hD:K pm H fL:=by rw[fc];exact bp.mD bE (by omega) (by rw[bl];exact g.none 9) (by show z+9<H.next+13;omega)
 rw[<-fc]at dd;have oP:∀j,j≠9->fL.get (z+j)=none:=λj aH=>by rw[fc,JD (by omega),bl];exact g.none j
 have YX:=hD.some g bC;have YY:=hD.some g CJ;obtain⟨fV,fg⟩:∃A,A=fL.put ev (.cells (L.set (i*5+2) (sl (z+9) eG)) (.n 5)):=⟨_,rfl⟩;have s2:iR pm H0 fV bJ cO dZ ev dn dc gM (λj=>if j=i then r.cells (sl (z+9) eG) else eW j):=by
  rw[fg];exact(s.up hD).row q ad (by decide) (by rw[an];simp[di.cells]) (λj _ h=>by simp[h]) YX
 have oN:∀b i,fG (sl b i)=true:=λb i=>by unfold sl;split<;>rfl
 have oO:∀b i,(sl b i).cells=#[sl b i]:=λb i=>by unfold sl;split<;>rfl
 have JG:setCells L (i*5+2) [sl (z+9) eG]=some (L.set (i*5+2) (sl (z+9) eG)):=setCells_one (mV.lt ad (show 2<5 by decide));have ya:=λo=>jh (lo:=pm.lo) (ok:=pm.ok) (o:=o) (b:=ev) (by have:=g0.lo;omega);have d1:=(zX (a:=[cO]) (b:=rI (z+9) eG) (n:=z) (λx az=>by rw[DZ.1 az];omega) (λx az=>by rw[JE az];omega)).2;have hP:cO<z:=by omega
 have lf:ev<z:=by omega
 have mS:=λj=>(by rw[bl];exact g.none j:(H.up 13).get (z+j)=none);have FA:=(by rw[bl];exact g.fo:(H.up 13).get z=none);simp;refine eg.of g.lo rfl ?_;rw[<-bl];simp[dt,mS,FA,CJ,bC,ad,e2,dd,oP,YX, oO,oN,JG,ya,<-fg,d1,hP,lf,dx,dm,ez,-hV];refine⟨λx az=>.inl (.inl (.inl (by have:=CK x az;omega))),?_⟩;refine dD _ _ (z+9) ?_ s2 (λh=>?_) (by omega) λb y ai h=>?_
 ·simp
 ·obtain⟨U,aa⟩:=Ek h;refine⟨ak,by rw[fg,cq (by omega),fc];exact PW h,jk.of U λj aH=>?_⟩;obtain⟨cs,ao,c,e2,rfl⟩:=aa j aH;rw[ao,ob,e2];rfl
 ·rw[fg,cq ai];exact hD.some g h
end Go.Dam.C
namespace Go.Dam.C
open Go Go.Dam
variable{X:aY}{pm:Perm}{H H' cL H0:ah}{n:Nat}
theorem bVZ(al:bWa X)(g:cl pm H){v:Value}{lp:bD}{n0:Nat}(aw:sL H n0 v lp)(aG:iA lp)(Fh:∀i,i<lp.rows.length->(lp.row i).cM.length<=1000):
 Call X pm F.bYi [v] H λr H'=>K pm H H'/\∃dZ ev vb,r=.agg #[sl dZ lp.aj.length,sl ev lp.rows.length]/\bVW H' H.next dZ ev lp vb:=by
 refine Call.h6 al.bYi rfl λQ bU=>?_;obtain⟨v1,v2,rfl,af,an,sn,Py⟩:=aw;have bUa:=aG.n;have bWT:=aG.m;obtain⟨base,cap,rfl,_⟩:=af.ex;obtain⟨dG,dE,rfl,_⟩:=hi.ex an;obtain⟨jW,jR⟩:∃b,b=H.next:=⟨_,rfl⟩;obtain⟨H1,cw⟩:∃H1,H1=H.new (.cells [.slice base lp.aj.length cap,.slice dG lp.rows.length dE] (.t bWR)):=⟨_,rfl⟩;have av:K pm H H1:=by rw[cw];exact K.new g _
 have g1:=av.aL;have h4:H1.get jW=some (.cells [.slice base lp.aj.length cap,.slice dG lp.rows.length dE] (.t bWR)):=by rw[cw,jR];exact dT
 obtain⟨bJ,zq1⟩:∃b,b=H1.next:=⟨_,rfl⟩;obtain⟨aJ,ee⟩:∃aJ,aJ=H1.new (.cells [.slice none 0 0,.slice none 0 0] (.t tyU1)):=⟨_,rfl⟩;have aI:K pm H1 aJ:=by rw[ee];exact K.new g1 _
 have g2:=aI.aL;have ayQ:aJ.get bJ=some (.cells [.slice none 0 0,.slice none 0 0] (.t tyU1)):=by rw[ee,zq1];exact dT
 have P9:=aI.some g1 h4;have h8:=av.trans aI;have n1:H1.next=jW+1:=by rw[cw,jR];rfl
 have n2:aJ.next=bJ+1:=by rw[ee,zq1];rfl
 obtain⟨gM,lc,ayR,JK,mY⟩:=bWb (by':=72) (kI.ext af (h8.ext g)) sn (by decide) (by omega) (by decide) (λi cs ⟨c,_,e⟩=>by rw[e];rfl);obtain⟨eW,cc,e8,P',nk⟩:=bWb (by':=80) (hi.imp an (h8.ext g) λ_ _ _ h=>h) Py (by decide) (by omega) (by decide) (λi cs ⟨c,vc,_,e,e2,_⟩=>by
  rw[e];obtain⟨_,_,bd,_⟩:=e2.ex;rw[bd];rfl)
 have Qa:∀x∈gM,x<aJ.next:=λx az=>by obtain⟨y,bu⟩:=ayR x az;exact g2.lt bu
 have JL:∀x∈eW,x<aJ.next:=λx az=>by obtain⟨y,bu⟩:=e8 x az;exact g2.lt bu
 obtain⟨dn,sN⟩:∃k,k=lp.aj.length:=⟨_,rfl⟩;obtain⟨dc,oB⟩:∃k,k=lp.rows.length:=⟨_,rfl⟩;rw[<-sN]at mY JK P9;rw[<-oB]at nk P' P9;obtain⟨z,bl⟩:∃z,z=aJ.next:=⟨_,rfl⟩;have bE:K pm aJ (aJ.up 9):=(K.refl g2).up 9;have Y7:=bE.ext g2;obtain⟨fL,fc⟩:∃A,A=mD (aJ.up 9) (z+2) dn 5 lc:=⟨_,rfl⟩;have hD:K pm aJ fL:=by rw[fc];exact bp.mD bE (by omega) (by rw[bl];exact g2.none 2) (by show z+2<aJ.next+9;omega)
 have dd:=mY _ Y7 pm.lo (z+2) pm.ok;have Y8:=hD.ext g2;obtain⟨fV,fg⟩:∃A,A=mD fL (z+5) dc 5 cc:=⟨_,rfl⟩;have oP:∀j,j≠2->fL.get (z+j)=none:=λj aH=>by rw[fc,JD (by omega),bl];exact g2.none j
 have P1:fL.next=z+9:=by rw[fc,PV,bl];rfl
 have Y9:K pm aJ fV:=by rw[fg];exact bp.mD hD (by omega) (oP 5 (by decide)) (by omega)
 have iZ:=nk _ Y8 pm.lo (z+5) pm.ok;have rL:∀j,j≠2->j≠5->fV.get (z+j)=none:=λj aH j8=>by rw[fg,JD (by omega)];exact oP j aH
 have ayS:fV.next=z+9:=by rw[fg,PV,P1]
 rw[<-fc]at dd;rw[<-fg]at iZ;have ayT:=hD.some g2 P9;have ayU:=Y9.some g2 P9;simp[g.pick,g.make,ptr,<-jR,<-cw,  <-zq1,<-ee,-bXJ];refine eg.of g2.lo rfl ?_;rw[<-bl];have mS:=λj=>(by rw[bl];exact g2.none j:(aJ.up 9).get (z+j)=none);have FA:=(by rw[bl];exact g2.fo:(aJ.up 9).get z=none);have oN:∀b i,fG (sl b i)=true:=λb i=>by unfold sl;split<;>rfl
 have oO:∀b i,(sl b i).cells=#[sl b i]:=λb i=>by unfold sl;split<;>rfl
 obtain⟨fW,fp⟩:∃A,A=fV.put (z+7) (.cells [.slice none 0 0,.slice none 0 0] (.t tyU2)):=⟨_,rfl⟩;obtain⟨oQ,km⟩:∃A,A=fW.put (z+7) (.cells [sl (z+2) dn,sl (z+5) dc] (.t tyU2)):=⟨_,rfl⟩;have uy:fW.get (z+8)=none:=by rw[fp,cq (by omega)];exact rL 8 (by decide) (by decide)
 have Qb:fW.get (z+7)=some (.cells [.slice none 0 0,.slice none 0 0] (.t tyU2)):=by rw[fp];exact dX
 have x9:=λo=>jh (lo:=pm.lo) (ok:=pm.ok) (o:=o) (b:=z+7) (by have:=g2.lo;omega);have ayV:jW<z:=by omega
 have lb:∀j k,∀x∈rI (z+j) k,z<=x:=λj k x az=>by rw[JE az];omega
 have jR:∀x∈[jW],x<z:=λx az=>by rw[DZ.1 az];omega
 have Qc:∀x∈[z+7],z<=x:=λx az=>by rw[DZ.1 az];omega
 rw[<-bl]at Qa JL;have d1:=λj k=>(zX jR (lb j k)).2;have d2:=λj k=>(zX JL (lb j k)).2;have d3:=(zX jR Qc).2;have d4:=(zX Qa Qc).2;have d5:=(zX JL Qc).2;have d6:=(YV (n:=dn) (show z+2≠z+7 by omega)).2;have d7:=(YV (n:=dc) (show z+5≠z+7 by omega)).2;have f1:∀b∈gM,b<z∨z+9<=b:=λb ai=>.inl (Qa b ai);have f2:∀b∈eW,b<z∨z+9<=b:=λb ai=>.inl (JL b ai);rw[<-sN,<-oB];simp[d1, d3,d4,d5,d6,d7,ayV,ez,dt,mS,FA,P9,dd,oP,ayT,iZ,rL,oO,oN,setCells,c5,Perm.make,Perm.pick,ptr,<-fp,uy,Qb,x9,<-km,dx,dm,-hV,-bXJ];refine⟨⟨λx az=>.inl (.inl (f1 x az)),λx az=>.inl (.inl (f2 x az))⟩,?_⟩;have ayW:fW.next=z+9:=by rw[fp];exact ayS
 have ayX:K pm aJ fW:=by rw[fp];exact bp.fill Y9 (by omega) (rL 7 (by decide) (by decide)) (by omega) _
 have JN:K pm aJ oQ:=by rw[km];exact bp.put ayX (by omega) Qb (by simp) _
 have aGq:oQ.next=z+9:=by rw[km];exact ayW
 have q:CI H bJ (z+7) (z+2) (z+5):=⟨by omega,by omega,by omega,by omega⟩;obtain⟨v0,iy⟩:∃v0:Nat->Value,∀j,j<dc->(cX cc (j*5) 5=some ((lp.row j).cells (v0 j))/\nX H (v0 j) (lp.row j).cM/\np n0 (v0 j)):=by
  have:∀j,∃v,j<dc->(cX cc (j*5) 5=some ((lp.row j).cells v)/\nX H v (lp.row j).cM/\np n0 v):=λj=>by
   by_cases aH:j<dc
   ·obtain⟨cs,ao,r,vc,e2,rfl,bd,b1⟩:=(P' (by omega)).2 j aH;rw[bD.rowAt (by omega)]at e2;cases e2;exact⟨vc,λ_=>⟨ao,bd,b1⟩⟩
   ·exact⟨.bool true,λh=>absurd h aH⟩
  exact⟨λj=>(this j).choose,λj=>(this j).choose_spec⟩
 have iQ:iR pm H oQ bJ (z+7) (z+2) (z+5) dn dc (λj=>(lp.col j).cells) (λj=>(lp.row j).cells (v0 j)):=by
  refine⟨K.trans h8 JN,JN.some g2 ayQ,by rw[km];exact dX,λh=>⟨lc,?_,jk.of (JK h).1 λj aH=>?_⟩,λh=>⟨cc,?_,jk.of (P' h).1 λj aH=>(iy j aH).1⟩⟩
  ·rw[km,cq (by omega),fp,cq (by omega),fg,JD (by omega),fc];exact PW h
  ·obtain⟨cs,ao,c,e2,rfl⟩:=(JK h).2 j aH;rw[bD.Cn (by omega)]at e2;cases e2;exact ao
  ·rw[km,cq (by omega),fp,cq (by omega),fg];exact PW h
 clear fc fg fp km nk mY dd iZ oP rL uy Qb d1 d2 d3 d4 d5 d6 d7 f1 f2 mS FA lb;obtain⟨iS,uz,_⟩:=uA (z+2) dn;obtain⟨aGt,Y',_⟩:=uA (z+5) dc;have sc:=iQ.x;rw[uz,Y']at sc;simp[sc,-bWe,-bWf]
 refine gG (σ:=Nat->Nat) dc (λ_ _=>[(2,.pointer (some ⟨bJ,0,none⟩)),(3,.pointer (some ⟨z+7,0,none⟩))])
  (λi vb H'=>iR pm H H' bJ (z+7) (z+2) (z+5) dn dc (λj=>(lp.col j).cells) (λj=>if j<i then(lp.row j).cells (sl (vb j) (lp.row j).cM.length) else(lp.row j).cells (v0 j))/\
   ∀j,j<i->(0<(lp.row j).cM.length->∃M,H'.get (vb j)=some (.cells M (.n 2))/\jk M 2 (lp.row j).cM.length λk=>((lp.row j).cM.getD k ayF).cells)/\z+6<=vb j)
  (λ_=>0) (by decide) (by omega) (by simp) ⟨by simpa using iQ,λj aH=>absurd aH (od _)⟩ (by simp) ?_ ?_
 ·rintro i vb qJ ad ⟨qK,Qf⟩;refine bVX g q qK (by omega) ad (r:=lp.row i) (vc:=v0 i) (n0:=n0) (by simp) (iy i ad).2.1 (iy i ad).2.2 (Fh i (by omega)) ?_;intro l' sM b Qg rK dp ai aK;have aGu:=qK.k.aL.lt qK.x;refine⟨λj=>if j=i then b else vb j,Qg,?_,λj aH=>?_⟩
  ·have e:(λj=>if j=i then(lp.row i).cells (sl b (lp.row i).cM.length) else if j<i then(lp.row j).cells (sl (vb j) (lp.row j).cM.length) else(lp.row j).cells (v0 j))=(λj=>if j<i+1 then(lp.row j).cells (sl (if j=i then b else vb j) (lp.row j).cM.length) else(lp.row j).cells (v0 j)):=by
    funext j;by_cases e:j=i
    ·subst e;simp
    ·by_cases e2:j<i
     ·simp[e,e2,show j<i+1 by omega]
     ·simp[e,e2,show ¬j<i+1 by omega]
   rw[<-e];exact rK
  ·by_cases e:j=i
   ·subst e;simp only[if_true];exact⟨dp,by omega⟩
   ·simp only[e,if_false];obtain⟨U,aa⟩:=Qf j (by omega);exact⟨λh=>(U h).imp λM dp=>⟨aK _ _ (by omega) dp.1,dp.2⟩,aa⟩
 ·rintro vb sM ⟨rK,zZ⟩;have ayZ:=rK.x;have Zb:=rK.r;have JC:=rK.k.aL;have rH:pm.may bJ=true:=g.may (by omega);obtain⟨CD,CM⟩:∃A,A=sM.put bJ (.cells [sl (z+2) dn,sl (z+5) dc] (.t tyU1)):=⟨_,rfl⟩;simp[ayZ,Zb,cX,c5, oN,setCells,rH,<-CM];refine bU _ _ _ ?_;have ay0:CD.get bJ=some (.cells [sl (z+2) dn,sl (z+5) dc] (.t tyU1)):=by rw[CM];exact dX
  have CE:K pm H CD:=by rw[CM];exact bp.put rK.k (by omega) Zb (by simp) _
  simp[ik,ay0,cX,c5];refine⟨CE,z+2,z+5,⟨by rw[sN],by rw[oB]⟩,vb,⟨by omega,by omega,by have:=CE.aL.lt ay0;have:=JC.lt ayZ;rw[CM];show z+5<sM.next;omega,λi ad=>by have:=(zZ i (by omega)).2;omega⟩,λh=>?_,λh=>?_,λi ad h=>?_⟩
  ·obtain⟨L,U,aa⟩:=rK.c (by omega);exact⟨L,by rw[CM,cq (by omega)];exact U,by rw[<-sN];exact aa⟩
  ·obtain⟨L,U,aa⟩:=rK.w (by omega);refine⟨L,by rw[CM,cq (by omega)];exact U,?_⟩;rw[<-oB];refine⟨aa.1,λj aH=>?_⟩;have:=aa.2 j aH;simp only[aH,if_true]at this;exact this
  ·obtain⟨U,aa⟩:=zZ i (by omega);exact(U h).imp λM dp=>⟨by rw[CM,cq (by omega)];exact dp.1,dp.2⟩
def bZG:List Rat->Rat
 | []=>0
 | a::l=>a+bZG l
theorem bUX(l r:List Rat):bZG (l++r)=bZG l+bZG r:=by
 induction l with
 | nil=>simp[bZG,bYQ]
 | cons a l ih=>simp only[bZF,bZG,ih];grind
theorem bVv{l r:List Rat}(h:l.Perm r):bZG l=bZG r:=by
 induction h with
 | nil=>rfl
 | cons x _ ih=>simp only[bZG,ih]
 | swap x y l=>simp only[bZG];grind
 | trans _ _ U aa=>rw[U,aa]
theorem bWP(f:Nat->Rat):∀n,bs f n=bZG ((List.range n).map f)
 | 0=>rfl
 | n+1=>by rw[bs,List.range_succ,List.map_append,bUX,bWP f n];simp[bZG,bZC]
def Inv2(n:Nat)(σ:Nat->Nat):Prop:=∀j,j<n->σ j<n/\σ (σ j)=j
theorem bUY{n:Nat}{σ:Nat->Nat}(h:Inv2 n σ):((List.range n).map σ).Perm (List.range n):=by
 rw[List.perm_ext_iff_of_nodup]
 ·intro a;rw[bZx,bZJ];constructor
  ·rintro⟨b,ai,rfl⟩;exact(h b (bZJ.1 ai)).1
  ·intro aN;exact⟨σ a,bZJ.2 (h a aN).1,(h a aN).2⟩
 ·rw[List.nodup_iff_pairwise_ne,List.pairwise_map];have:=(List.nodup_range (n:=n));rw[List.nodup_iff_pairwise_ne]at this;refine this.imp_of_mem λ{a b} aN ai nQ e=>nQ ?_;rw[<-(h a (bZJ.1 aN)).2,e,(h b (bZJ.1 ai)).2]
 ·exact List.nodup_range
theorem bXw{n:Nat}{σ:Nat->Nat}(h:Inv2 n σ)(f:Nat->Rat):bs (λj=>f (σ j)) n=bs f n:=by
 rw[bWP,bWP,show(List.range n).map (λj=>f (σ j))=((List.range n).map σ).map f by rw[List.map_map];rfl];exact bVv ((bUY h).map f)
structure bZy(lp bZk:bD)(σ bZa:Nat->Nat):Prop where
 n:bZk.aj.length=lp.aj.length
 m:bZk.rows.length=lp.rows.length
 s:Inv2 lp.aj.length σ
 t:Inv2 lp.rows.length bZa
 c:∀j,j<lp.aj.length->(bZk.col (σ j)).low=(lp.col j).low/\(bZk.col (σ j)).up=(lp.col j).up/\(bZk.col (σ j)).cost=(lp.col j).cost
 k:∀i,i<lp.rows.length->(bZk.row (bZa i)).kind=(lp.row i).kind/\(bZk.row (bZa i)).rhs=(lp.row i).rhs
 a:∀i j,i<lp.rows.length->j<lp.aj.length->bZk.aX.A (bZa i) (σ j)=lp.aX.A i j
section
variable{lp bZk:bD}{σ bZa:Nat->Nat}
theorem bZy.ax(p:bZy lp bZk σ bZa)(x:Nat->Rat){i:Nat}(ad:i<lp.rows.length):nw lp (λj=>x (σ j)) i=nw bZk x (bZa i):=by
 unfold nw;rw[p.n,<-bXw p.s (λj=>bZk.aX.A (bZa i) j*x j)];exact eB λj aH=>by rw[p.a i j ad aH]
theorem bZy.nh(p:bZy lp bZk σ bZa)(x:Nat->Rat):lp.nh (λj=>x (σ j))=bZk.nh x:=by
 unfold bD.nh;rw[p.n,<-bXw p.s (λj=>rd (bZk.col j).cost*x j)];exact eB λj aH=>by rw[(p.c j aH).2.2]
theorem bZy.fits(p:bZy lp bZk σ bZa){x:Nat->Rat}(h:sW bZk x):sW lp (λj=>x (σ j)) where
 c:=λj aH=>by
  obtain⟨cy,dd,_⟩:=p.c j aH;have:=h.c (σ j) (by rw[p.n];exact(p.s j aH).1);rw[cy,dd]at this;exact this
 r:=λi ad=>by
  obtain⟨av,aI⟩:=p.k i ad;have:=h.r (bZa i) (by rw[p.m];exact(p.t i ad).1);rw[av,aI,<-p.ax x ad]at this;exact this
theorem bZy.bUZ(p:bZy lp bZk σ bZa){x:Nat->Rat}(h:Ai bZk x):Ai lp (λj=>x (σ j)) where
 c:=λj aH=>by
  obtain⟨cy,dd,_⟩:=p.c j aH;have:=h.c (σ j) (by rw[p.n];exact(p.s j aH).1);rw[cy,dd]at this;exact this
 r:=λi ad=>by
  obtain⟨av,aI⟩:=p.k i ad;have:=h.r (bZa i) (by rw[p.m];exact(p.t i ad).1);rw[av,<-p.ax x ad]at this;exact this
 n:=by rw[p.nh];exact h.n
theorem bZy.gD(p:bZy lp bZk σ bZa)(wc:Bool)(y:Nat->Rat){j:Nat}(aH:j<lp.aj.length):C.gD lp wc (λi=>y (bZa i)) j=C.gD bZk wc y (σ j):=by
 unfold C.gD;have ao:d0 bZk wc (σ j)=d0 lp wc j:=by unfold d0;rw[(p.c j aH).2.2]
 rw[ao,p.m,<-bXw p.t (λi=>y i*bZk.aX.A i (σ j))];congr 1;exact eB λi ad=>by rw[p.a i j ad aH]
theorem bZy.bound(p:bZy lp bZk σ bZa){wc:Bool}{y:Nat->Rat}{b:Rat}(h:sX bZk wc y b):sX lp wc (λi=>y (bZa i)) b where
 ko:=λi ad=>by
  have:=h.ko (bZa i) (by rw[p.m];exact(p.t i ad).1);rw[(p.k i ad).1]at this;exact this
 ls:=by
  obtain⟨U,aa⟩:=h.ls;refine⟨λj aH aB=>?_,?_⟩
  ·obtain⟨cy,dd,_⟩:=p.c j aH;have:=U (σ j) (by rw[p.n];exact(p.s j aH).1);rw[cy,dd,<-p.gD wc y aH]at this;exact this aB
  ·rw[aa,p.n,p.m];congr 1
   ·rw[<-bXw p.t (λi=>y i*rd (bZk.row i).rhs)];exact eB λi ad=>by rw[(p.k i ad).2]
   ·rw[<-bXw p.s (λj=>C.gD bZk wc y j*rd (if C.gD bZk wc y j<0 then(bZk.col j).up else(bZk.col j).low))];exact eB λj aH=>by
     obtain⟨cy,dd,_⟩:=p.c j aH;rw[cy,dd,<-p.gD wc y aH]
theorem bZy.shown(p:bZy lp bZk σ bZa){a:iz}(h:Shown bZk a):Shown lp a:=by
 cases h with
 | opt x y b U aa aq a8 cg=>exact .opt _ _ b U (p.fits aa) (p.bound aq) (by rw[p.nh];exact a8) cg
 | inf y b U aa aq a8=>exact .inf _ b U (p.bound aa) aq a8
 | Q1 x r U aa aq a8=>exact .Q1 _ _ U (p.fits aa) (p.bUZ aq) a8
theorem bZy.agree(p:bZy lp bZk σ bZa){a c:iz}(h:kQ lp a=true)(g:kQ bZk c=true):a.st=c.st/\a.val=c.val:=(PE h).2.agree (p.shown (PE g).2)
end
theorem bWQ{n:Int}:∀{l:List fb} {last:Int},jE n last l=true↔(∀c∈l,isNum c.v=true/\c.v≠[48]/\last<c.col/\c.col<n)/\l.Pairwise (λa b=>a.col<b.col)
 | [],last=>by simp[jE]
 | c::l,last=>by
   rw[jE];simp only[cG,bne_iff_ne,ne_eq,eh,bWQ (l:=l),List.pairwise_cons,lD,forall_eq_or_imp];constructor
   ·rintro⟨U,aa,aq,a8,cg,dj⟩;exact⟨⟨⟨U,aa,aq,a8⟩,λa aN=>⟨(cg a aN).1,(cg a aN).2.1,by have:=(cg a aN).2.2.1;omega,(cg a aN).2.2.2⟩⟩,λa aN=>(cg a aN).2.2.1,dj⟩
   ·rintro⟨⟨⟨U,aa,aq,a8⟩,cg⟩,dj,j4⟩;exact⟨U,aa,aq,a8,λa aN=>⟨(cg a aN).1,(cg a aN).2.1,dj a aN,(cg a aN).2.2.2⟩,j4⟩
def fb.rev(n:Nat)(c:fb):fb:=⟨(n:Int)-1-c.col,c.v⟩
def di.rev(n:Nat)(r:di):di:={r with cM:=(r.cM.reverse).map (fb.rev n)}
theorem bQa{n:Nat}{l:List fb}(h:jE n (-1) l=true):jE n (-1) (l.reverse.map (fb.rev n))=true:=by
 obtain⟨U,aa⟩:=bWQ.1 h;refine bWQ.2 ⟨λc af=>?_,?_⟩
 ·obtain⟨d,aB,rfl⟩:=bZx.1 af;obtain⟨cx,a2,a3,a4⟩:=U d (bXh.1 aB);exact⟨cx,a2,by simp only[fb.rev];omega,by simp only[fb.rev];omega⟩
 ·rw[List.pairwise_map,List.pairwise_reverse];exact aa.imp λ{a b} nQ=>by simp only[fb.rev];omega
theorem bQb{n:Nat}{r:di}(h:k8 r n=true):k8 (r.rev n) n=true:=by
 simp only[k8,cG]at h|-;exact⟨bQa h.1,h.2⟩
def bXx(l:List fb)(j:Nat):List Rat:=l.map λc=>if j=c.col.toNat then rd c.v else 0
theorem bVw(l:List fb)(j:Nat):n3 l j=bZG (bXx l j):=by
 induction l with
 | nil=>rfl
 | cons c l ih=>simp only[bXx,bYB,bZG]at ih|-;rw[<-ih,n3];grind
theorem bQc{n j:Nat}{l:List fb}(aH:j<n)(h:∀c∈l,0<=c.col/\c.col<n):n3 (l.reverse.map (fb.rev n)) (n-1-j)=n3 l j:=by
 rw[bVw,bVw];have e:bXx (l.reverse.map (fb.rev n)) (n-1-j)=(bXx l j).reverse:=by
  unfold bXx;rw[List.map_map,<-List.map_reverse];refine bXc λc af=>?_;obtain⟨U,aa⟩:=h c (bXh.1 af);have:(n-1-j=(c.rev n).col.toNat)↔j=c.col.toNat:=by simp only[fb.rev];omega
  show(if n-1-j=(c.rev n).col.toNat then rd c.v else 0)=_;by_cases e:j=c.col.toNat
  ·rw[bm (this.2 e),bm e]
  ·rw[aU (λx=>e (this.1 x)),aU e]
 rw[e];exact bVv (List.reverse_perm _)
def bZj(i k t:Nat):Nat:=if t=i then k else if t=k then i else t
theorem bUS{m i k:Nat}(ad:i<m)(ag:k<m):Inv2 m (bZj i k):=λt aS=>by
 unfold bZj;by_cases U:t=i
 ·subst U;simp only[if_true];refine⟨ag,?_⟩;by_cases aa:k=t
  ·rw[bm aa];exact aa
  ·rw[aU aa]
 ·by_cases aa:t=k
  ·subst aa;simp only[U,if_false,if_true];exact⟨ad,trivial⟩
  ·simp[U,aa,aS]
theorem bQd(n:Nat):Inv2 n λj=>n-1-j:=λj aH=>by
 show n-1-j<n/\n-1-(n-1-j)=j;omega
def bD.bZm(lp:bD)(i k:Nat):bD:=⟨lp.aj.reverse,(List.range lp.rows.length).map λt=>(lp.row (bZj i k t)).rev lp.aj.length⟩
section
variable{lp:bD}{i k:Nat}
theorem bWL{t:Nat}(aS:t<lp.rows.length):(lp.bZm i k).row t=(lp.row (bZj i k t)).rev lp.aj.length:=bD.Yq (by simp[bD.bZm,aS])
theorem bVo{j:Nat}(aH:j<lp.aj.length):(lp.bZm i k).col (lp.aj.length-1-j)=lp.col j:=by
 unfold bD.col;rw[ob,ob];show((lp.aj.reverse)[_]?).getD _=_;rw[List.getElem?_reverse (by omega)];congr 2;omega
theorem bVj(aw:Inv2 lp.rows.length (bZj i k))(hm:lp.dP=true):(lp.bZm i k).dP=true:=by
 have aD:=hm;unfold bD.dP at hm|-;simp only[cG,hz,bD.bZm,List.length_reverse,bYm,bYK]at hm|-;refine⟨hm.1,λc af=>hm.2.1 c (bXh.1 af),λr an=>?_⟩;obtain⟨t,aS,rfl⟩:=bZx.1 an;exact bQb (Kb aD (aw t (bZJ.1 aS)).1)
theorem bQe(aw:Inv2 lp.rows.length (bZj i k))(hm:lp.dP=true):bZy lp (lp.bZm i k) (λj=>lp.aj.length-1-j) (bZj i k) where
 n:=by simp[bD.bZm]
 m:=by simp[bD.bZm]
 s:=bQd _
 t:=aw
 c:=λj aH=>by rw[bVo aH];exact⟨rfl,rfl,rfl⟩
 k:=λt aS=>by
  obtain⟨U,aa⟩:=aw t aS;rw[bWL U,aa];exact⟨rfl,rfl⟩
 a:=λt j aS aH=>by
  obtain⟨U,aa⟩:=aw t aS;have aF:(lp.bZm i k).aj.length=lp.aj.length:=by simp[bD.bZm]
  rw[ZQ (bVj aw hm) (by simp[bD.bZm];exact U),ZQ hm aS,bWL U,aa];exact bQc aH (ZP (Kb hm aS)).2
theorem bUH(aw:Inv2 lp.rows.length (bZj i k)){a c:iz}(h:kQ lp a=true)(g:kQ (lp.bZm i k) c=true):a.st=c.st/\a.val=c.val:=(bQe aw (PE h).1).agree h g
theorem bUB(h:iA lp)(aw:Inv2 lp.rows.length (bZj i k)):iA (lp.bZm i k):=by
 obtain⟨U,aa,aq,a8⟩:=h;refine⟨by simpa [bD.bZm]using U,by simpa [bD.bZm]using aa,λc af=>aq c (bXh.1 af),λr an=>?_⟩;obtain⟨t,aS,rfl⟩:=bZx.1 an;have:=a8 _ (fR (bD.rowAt (aw t (bZJ.1 aS)).1));refine⟨this.1,by simpa [di.rev]using this.2.1,λc af=>?_⟩;obtain⟨d,aB,rfl⟩:=bZx.1 af;exact this.2.2 d (bXh.1 aB)
end
end Go.Dam.C
namespace Go.Dam.C
open Go Go.Dam
variable{X:aY}{pm:Perm}{H H' cL H0:ah}{n:Nat}
structure bWU(X:aY):Prop extends bWa X where
 bYr:Has X F.bYr C.bYr
abbrev bXK:Nat:=T.bUb
structure bZl(pm:Perm)(H0 H:ah)(p dZ ev n m:Nat)(gM eW:Nat->List Value):Prop where
 k:K pm H0 H
 x:H.get p=some (.cells [sl dZ n,sl ev m] (.t bXK))
 c:0<n->∃L,H.get dZ=some (.cells L (.n 5))/\jk L 5 n gM
 w:0<m->∃L,H.get ev=some (.cells L (.n 5))/\jk L 5 m eW
structure bYG(H0:ah)(p dZ ev:Nat):Prop where
 U:H0.next<=dZ
 aa:dZ<ev
 aq:ev<p
theorem jk.setRow{L vs:List Value}{w n j:Nat}{f f':Nat->List Value}(h:jk L w n f)(aH:j<n)(aO:vs.length=w)(he:f' j=vs)(aF:∀i,i<n->i≠j->f' i=f i):∃L',setCells L (j*w) vs=some L'/\jk L' w n f':=by
 have ai:j*w+w<=n*w:=by rw[<-bZs];exact hQ _ aH
 obtain⟨L',abV⟩:∃L',setCells L (j*w) vs=some L':=by
  unfold setCells;rw[dA,aO,h.1,bZw ai];exact⟨_,rfl⟩
 obtain⟨_,e2,bd⟩:=M8 abV;refine⟨L',abV,by rw[e2,h.1],λi ad=>?_⟩;by_cases e:i=j
 ·subst e;rw[he];refine⟨aO,λk ag=>?_⟩;rw[bd,bm ⟨by omega,by omega⟩];congr 1;omega
 ·rw[aF i ad e];refine⟨(h.2 i ad).1,λk ag=>?_⟩;rw[bd,aU]
  ·exact(h.2 i ad).2 k ag
  ·rintro⟨U,aa⟩
   rcases Nat.lt_or_gt_of_ne e with e | e
   ·have:i*w+w<=j*w:=by rw[<-bZs];exact hQ _ e
    omega
   ·have:j*w+w<=i*w:=by rw[<-bZs];exact hQ _ e
    omega
variable{p dZ ev bZd bZe:Nat}{gM eW:Nat->List Value}
theorem bZl.up(s:bZl pm H0 H p dZ ev bZd bZe gM eW)(u:K pm H H'):bZl pm H0 H' p dZ ev bZd bZe gM eW where
 k:=K.trans s.k u
 x:=u.some s.k.aL s.x
 c:=λh=>(s.c h).imp λ_ h=>⟨u.some s.k.aL h.1,h.2⟩
 w:=λh=>(s.w h).imp λ_ h=>⟨u.some s.k.aL h.1,h.2⟩
theorem bZl.bWg(s:bZl pm H0 H p dZ ev bZd bZe gM eW)(q:bYG H0 p dZ ev){L L':List Value}{PY:Nat->List Value}(bC:H.get ev=some (.cells L (.n 5)))(af:jk L' 5 bZe PY):bZl pm H0 (H.put ev (.cells L' (.n 5))) p dZ ev bZd bZe gM PY where
 k:=bp.put s.k (by have:=q.U;have:=q.aa;omega) bC (by simp) _
 x:=by rw[cq (by have:=q.aq;omega)];exact s.x
 c:=λh=>(s.c h).imp λ_ h=>⟨by rw[cq (by have:=q.aa;omega)];exact h.1,h.2⟩
 w:=λ_=>⟨L',dX,af⟩
theorem bZl.bWV(s:bZl pm H0 H p dZ ev bZd bZe gM eW)(q:bYG H0 p dZ ev){L L':List Value}{PZ:Nat->List Value}(bC:H.get dZ=some (.cells L (.n 5)))(af:jk L' 5 bZd PZ):bZl pm H0 (H.put dZ (.cells L' (.n 5))) p dZ ev bZd bZe PZ eW where
 k:=bp.put s.k (by have:=q.U;omega) bC (by simp) _
 x:=by rw[cq (by have:=q.aa;have:=q.aq;omega)];exact s.x
 c:=λ_=>⟨L',dX,af⟩
 w:=λh=>(s.w h).imp λ_ h=>⟨by rw[cq (by have:=q.aa;omega)];exact h.1,h.2⟩
theorem bUc(g0:cl pm H0)(q:bYG H0 p dZ ev)(s:bZl pm H0 H p dZ ev bZd bZe gM eW){i k:Nat}(ad:i<bZe)(ag:k<bZe){bXL bYS:List Value}(bWh:eW i=bXL)(bWW:eW k=bYS)(bXn:bXL.length=5)(bXo:bYS.length=5)(Kl:bXL.all fG=true)(ok:bYS.all fG=true){l:bQ}{ks:List Fr}{Q:c'}
 (bYb:a7 10 l=some (.pointer (some ⟨p,0,none⟩))) (bUd:a7 12 l=some (.int .i64 (i:Int))) (bUe:a7 13 l=some (.int .i64 (k:Int)))
 (eF:∀l' H',a7 10 l'=a7 10 l->a7 8 l'=a7 8 l->bZl pm H0 H' p dZ ev bZd bZe gM (λt=>eW (bZj i k t))->(∀b y,b≠ev->H.get b=some y->H'.get b=some y)->wp X pm (.res .normal) l' H' ks Q):
 wp X pm (.code C.bXp) l H ks Q:=by
 have g:=s.k.aL;have bn:=q.U;have bh:=q.aa;have cu:=q.aq;obtain⟨L,bC,mV⟩:=s.w (by omega);have CJ:=s.x;rw[eQ (show 0<bZe by omega)]at CJ;have eT:=g.lt CJ;have hP:=g.lt bC;have qM:=mV.row ad;have xh:=mV.row ag;rw[bWh]at qM;rw[bWW]at xh;have bE:K pm H (H.up 20):=(K.refl g).up 20;obtain⟨j9,ao,cy⟩:=mV.setRow (f':=λt=>if t=i then bYS else eW t) ad bXo (by simp) (λt _ aS=>by simp[aS]);obtain⟨kz,e2,dd⟩:=cy.setRow (f':=λt=>eW (bZj i k t)) ag bXn (by
  show eW (bZj i k k)=bXL;unfold bZj;by_cases h:k=i
  ·subst h;simp only[if_true];exact bWh
  ·rw[aU h,bm rfl];exact bWh) (λt _ aS=>by
  show eW (bZj i k t)=if t=i then bYS else eW t
  unfold bZj;by_cases h:t=i
  ·rw[bm h,bm h];exact bWW
  ·rw[aU h,aU aS,aU h])
 have ya:=λo=>jh (lo:=pm.lo) (ok:=pm.ok) (o:=o) (b:=ev) (by have:=g0.lo;omega);obtain⟨fL,fc⟩:∃A,A=(H.up 20).put ev (.cells j9 (.n 5)):=⟨_,rfl⟩;obtain⟨fV,fg⟩:∃A,A=fL.put ev (.cells kz (.n 5)):=⟨_,rfl⟩;have cx:fL.get ev=some (.cells j9 (.n 5)):=by rw[fc];exact dX
 have s1:bZl pm H0 fL p dZ ev bZd bZe gM (λt=>if t=i then bYS else eW t):=by rw[fc];exact(s.up bE).bWg q bC cy
 have s2:bZl pm H0 fV p dZ ev bZd bZe gM (λt=>eW (bZj i k t)):=by rw[fg];exact s1.bWg q cx dd
 have Y5:∀j,fL.get (H.next+j)=none:=λj=>by rw[fc,cq (by omega)];exact g.none j
 have ayM:gp [ev] [p]=true:=kS (by omega);have bQn:=Kl;simp;refine eg.of g.lo rfl ?_;simp[bYb,bUd,bUe,dt,g.none,g.fo,CJ,bC,ad,ag,qM,xh,c5,bXn,bXo,Kl,ok,ao,ya,<-fc,Y5,cx,e2,<-fg,ayM,eT,hP,dx,dm,ez];refine eF _ _ ?_ ?_ s2 λb y ai h=>?_
 ·simp
 ·simp
 ·rw[fg,cq ai,fc,cq ai,zY];exact h
end Go.Dam.C
namespace Go.Dam.C
open Go Go.Dam
variable{X:aY}{pm:Perm}{H H' cL H0:ah}{n p dZ ev bZd bZe:Nat}{gM eW:Nat->List Value}
theorem bUf(g0:cl pm H0)(q:bYG H0 p dZ ev)(s:bZl pm H0 H p dZ ev bZd bZe gM eW)(aF:0<bZd)(Q6:bZd<=6)(AQ:∀j,j<bZd->(gM j).length=5/\(gM j).all fG=true){v8:Value}{l:bQ}{ks:List Fr}{Q:c'}
 (bYb:a7 10 l=some (.pointer (some ⟨p,0,none⟩))) (Ei:a7 8 l=some v8) (bWi:a7 14 l=some (.int .i64 (bZd:Int))) (bUg:a7 15 l=some (.int .i64 0))
 (eF:∀l' H',Sub [(10,.pointer (some ⟨p,0,none⟩)),(8,v8),(14,.int .i64 (bZd:Int))] l'->bZl pm H0 H' p dZ ev bZd bZe (λj=>if j<bZd then gM (bZd-1-j) else gM j) eW->(∀b y,b≠dZ->H.get b=some y->H'.get b=some y)->wp X pm (.res .normal) l' H' ks Q):
 wp X pm (.code C.bXM) l H ks Q:=by
 have bn:=q.U;have bh:=q.aa;have cu:=q.aq;simp[-bWj]
 refine hv.of (σ:=Nat) (λi=>[(10,.pointer (some ⟨p,0,none⟩)),(8,v8),(14,.int .i64 (bZd:Int)),(15,.int .i64 (i:Int))])
  (λi H'=>i<=bZd/2/\bZl pm H0 H' p dZ ev bZd bZe (λj=>if j<bZd then gM (if j<i∨bZd-1-j<i then bZd-1-j else j) else gM j) eW/\∀b y,b≠dZ->H.get b=some y->H'.get b=some y) (λi=>bZd-i) 0 (by simp[bYb,Ei,bWi,bUg]) ⟨Nat.zero_le _,by simpa using s,λ_ _ _ h=>h⟩ ?_
 rintro i H1 ⟨Nf,s1,h4⟩;have bQo:wr .i64 ((bZd:Int).tdiv 2)=((bZd/2:Nat):Int):=by
  rw[show(bZd:Int).tdiv 2=((bZd/2:Nat):Int) by rw[Int.tdiv_eq_ediv_of_nonneg (by omega)];omega,dv (by omega) (by omega)]
 by_cases ad:i<bZd/2
 ·have g:=s1.k.aL;obtain⟨L,bC,mV⟩:=s1.c aF;have CJ:=s1.x;rw[eQ aF]at CJ;have eT:=g.lt CJ;have hP:=g.lt bC;have pA:i<bZd:=by omega
  obtain⟨k,tO⟩:∃k,k=bZd-1-i:=⟨_,rfl⟩;have ag:k<bZd:=by omega
  have qM:=mV.row pA;have xh:=mV.row ag;rw[bm pA,aU (by omega)]at qM;rw[bm ag,aU (by omega)]at xh;obtain⟨bXn,Kl⟩:=AQ i pA;obtain⟨bXo,ok⟩:=AQ k ag;have bE:K pm H1 (H1.up 26):=(K.refl g).up 26;have bO:(i:Int)<wr .i64 ((bZd:Int)/2):=by rw[dv (by omega) (by omega)];omega
  have cS:wr .i64 ((bZd:Int)-1)=(bZd:Int)-1:=dv (by omega) (by omega);have bL:wr .i64 ((bZd:Int)-1-i)=(k:Int):=by rw[dv (by omega) (by omega)];omega
  have kF:wr .i64 ((i:Int)+1)=((i+1:Nat):Int):=by rw[dv (by omega) (by omega)];simp
  obtain⟨j9,ao,cy⟩:=mV.setRow (f':=λt=>if t=i then gM k else if t<bZd then gM (if t<i∨bZd-1-t<i then bZd-1-t else t) else gM t) pA bXo (by simp) (λt _ aS=>by simp[aS]);obtain⟨kz,e2,dd⟩:=cy.setRow (f':=λj=>if j<bZd then gM (if j<i+1∨bZd-1-j<i+1 then bZd-1-j else j) else gM j) ag bXn (by
   show(if k<bZd then gM (if k<i+1∨bZd-1-k<i+1 then bZd-1-k else k) else gM k)=gM i;rw[bm ag,bm (by omega)];congr 1;omega) (λt aS ui=>by
   show(if t<bZd then gM (if t<i+1∨bZd-1-t<i+1 then bZd-1-t else t) else gM t)=if t=i then gM k else if t<bZd then gM (if t<i∨bZd-1-t<i then bZd-1-t else t) else gM t
   rw[bm aS,bm aS];by_cases h:t=i
   ·rw[bm h,bm (by omega)];congr 1;omega
   ·rw[aU h];by_cases a8:t<i∨bZd-1-t<i
    ·rw[bm a8,bm (by omega)]
    ·rw[aU a8,aU (by omega)])
  have ya:=λo=>jh (lo:=pm.lo) (ok:=pm.ok) (o:=o) (b:=dZ) (by have:=g0.lo;omega);obtain⟨fL,fc⟩:∃A,A=(H1.up 26).put dZ (.cells j9 (.n 5)):=⟨_,rfl⟩;obtain⟨fV,fg⟩:∃A,A=fL.put dZ (.cells kz (.n 5)):=⟨_,rfl⟩;have cx:fL.get dZ=some (.cells j9 (.n 5)):=by rw[fc];exact dX
  have s2:bZl pm H0 fL p dZ ev bZd bZe (λt=>if t=i then gM k else if t<bZd then gM (if t<i∨bZd-1-t<i then bZd-1-t else t) else gM t) eW:=by rw[fc];exact(s1.up bE).bWV q bC cy
  have de:bZl pm H0 fV p dZ ev bZd bZe (λj=>if j<bZd then gM (if j<i+1∨bZd-1-j<i+1 then bZd-1-j else j) else gM j) eW:=by rw[fg];exact s2.bWV q cx dd
  have Y5:∀j,fL.get (H1.next+j)=none:=λj=>by rw[fc,cq (by omega)];exact g.none j
  have ayM:gp [dZ] [p]=true:=kS (by omega);simp[bO];refine eg.of g.lo rfl ?_;simp[dt,g.none,g.fo,CJ,bC,pA,ag,cS,bL,qM,xh,c5,bXn,bXo,Kl,ok,ao,ya,<-fc,Y5,cx,e2,<-fg,ayM,eT,hP,dx,dm,ez,kF];refine rF.of (i+1) (by show bZd-(i+1)<bZd-i;omega) (by simp) ⟨by omega,de,λb y ai h=>?_⟩;rw[fg,cq ai,fc,cq ai,zY];exact h4 b y ai h
 ·have e:i=bZd/2:=by omega
  have bO:¬(i:Int)<wr .i64 ((bZd:Int)/2):=by rw[dv (by omega) (by omega)];omega
  simp[bO];refine eF _ _ (by simp) ?_ h4;have aCZ:(λj=>if j<bZd then gM (if j<i∨bZd-1-j<i then bZd-1-j else j) else gM j)=(λj=>if j<bZd then gM (bZd-1-j) else gM j):=by
   funext j;by_cases aH:j<bZd
   ·rw[bm aH,bm aH];by_cases h:j<i∨bZd-1-j<i
    ·rw[bm h]
    ·rw[aU h];congr 1;omega
   ·rw[aU aH,aU aH]
  rw[<-aCZ];exact s1
end Go.Dam.C
namespace Go.Dam.C
open Go Go.Dam
variable{X:aY}{pm:Perm}{H H' cL H0:ah}{n p dZ ev bZd bZe:Nat}{gM eW:Nat->List Value}
theorem jk.snoc{L vs:List Value}{w n:Nat}{f:Nat->List Value}(h:jk L w n f)(aO:vs.length=w)(he:f n=vs):jk (L++vs) w (n+1) f:=by
 refine⟨by rw[tr,h.1,aO,bZs],λj aH=>?_⟩;by_cases e:j=n
 ·subst e;rw[he];refine⟨aO,λk ag=>?_⟩;rw[lA (by rw[h.1];omega),h.1];congr 1;omega
 ·have mB:j<n:=by omega
  refine⟨(h.2 j mB).1,λk ag=>?_⟩;rw[lB (h.lt mB ag)];exact(h.2 j mB).2 k ag
theorem bUh(g0:cl pm H0)(q:bYG H0 p dZ ev)(s:bZl pm H0 H p dZ ev bZd bZe gM eW)(Q6:bZd<=6)(av1:bZe<=6){i:Nat}(ad:i<bZe){r:di}{vb:Nat}(an:eW i=r.cells (sl vb r.cM.length))
 (dp:0<r.cM.length->∃M,H.get vb=some (.cells M (.n 2))/\jk M 2 r.cM.length λk=>(r.cM.getD k ayF).cells) (bYT:∀c∈r.cM,0<=c.col/\c.col<bZd) (hlen:r.cM.length<=1000) {v8:Value} {R:c'}
 (dD:∀l' H' b,Sub [(110,.int .i64 (i:Int)),(109,.int .i64 (bZe:Int)),(10,.pointer (some ⟨p,0,none⟩)),(8,v8),(14,.int .i64 (bZd:Int))] l'->bZl pm H0 H' p dZ ev bZd bZe gM (λj=>if j=i then(r.rev bZd).cells (sl b r.cM.length) else eW j)->
  (0<r.cM.length->H.next<=b/\∃M,H'.get b=some (.cells M (.n 2))/\jk M 2 r.cM.length λk=>((r.rev bZd).cM.getD k ayF).cells)->(∀b y,b≠ev->H.get b=some y->H'.get b=some y)->R .normal l' H'):
 wp X pm (.code (.seq (.aT [m 112 110,m 16 112]) C.bWk)) [(111,.bool true),(110,.int .i64 (i:Int)),(109,.int .i64 (bZe:Int)),(10,.pointer (some ⟨p,0,none⟩)),(8,v8),(14,.int .i64 (bZd:Int))] H [] R:=by
 have g:=s.k.aL;have bn:=q.U;have bh:=q.aa;have cu:=q.aq;obtain⟨L,bC,mV⟩:=s.w (by omega);have CJ:=s.x;rw[eQ (show 0<bZe by omega)]at CJ;obtain⟨len,hle⟩:∃k,k=r.cM.length:=⟨_,rfl⟩;rw[<-hle]at an dp hlen dD;obtain⟨aGo,jQ,aBt⟩:=uA vb len;have e2:L[i*5+2]? = some (.slice aGo len len):=by rw[(mV.2 i ad).2 2 (by decide),an,jQ];rfl
 obtain⟨cQ,mY⟩:∃cQ:Nat->fb,∀j,j<len->r.cM[j]? = some (cQ j):=⟨λj=>r.cM.getD j ayF,λj aH=>by simp[show j<r.cM.length by omega]⟩;have w0:wr .i64 ((len:Int)-1)=(len:Int)-1-(0:Nat):=by rw[dv (by omega) (by omega)];simp
 simp[CJ,bC,ad,e2,w0,-bWl,-bWm]
 refine hv.of (σ:=Nat×Nat) (λt=>[(110,.int .i64 (i:Int)),(109,.int .i64 (bZe:Int)),(10,.pointer (some ⟨p,0,none⟩)),(8,v8),(14,.int .i64 (bZd:Int)),(16,.int .i64 (i:Int)),(17,sl t.2 t.1),(18,.int .i64 ((len:Int)-1-(t.1:Int)))])
  (λt H'=>t.1<=len/\K pm H H'/\∃ss,(0<t.1->H'.get t.2=some (.cells ss (.n 2))/\H.next<=t.2)/\jk ss 2 t.1 λk=>((cQ (len-1-k)).rev bZd).cells) (λt=>len-t.1) (0,0) (by simp[sl]) ⟨Nat.zero_le _,K.refl g,[],λh=>absurd h (Nat.lt_irrefl 0),rfl,λj aH=>absurd aH (od _)⟩ ?_
 rintro⟨a,c⟩ H1 ⟨aN,av,ss,Jl,cs⟩;simp only at aN Jl cs;have g1:=av.aL;have s1:=s.up av;have bWn:=av.some g CJ;have FD:=av.some g bC;by_cases De:a<len
 ·obtain⟨Bt,aaM⟩:∃k,k=len-1-a:=⟨_,rfl⟩;have sJ:Bt<len:=by omega
  obtain⟨M,CL,bWX⟩:=dp (by omega);have FC:=av.some g CL;have hZ:=aBt (by omega);have bWY:r.cM.getD Bt ayF=cQ Bt:=by rw[ob,mY Bt sJ];rfl
  obtain⟨bYc,UG⟩:∃x,x=(cQ Bt).col:=⟨_,rfl⟩;obtain⟨b3,bWZ⟩:∃x,x=(cQ Bt).v:=⟨_,rfl⟩;have m0:M[Bt*2]? = some (.int .i64 bYc):=by
   have:=(bWX.2 Bt sJ).2 0 (by decide);simp only[bWY]at this;rw[UG];exact this
  have m1:M[Bt*2+1]? = some (aW b3):=by
   have:=(bWX.2 Bt sJ).2 1 (by decide);simp only[bWY]at this;rw[bWZ];exact this
  have lI:=bYT (cQ Bt) (fR (mY Bt sJ));rw[<-UG]at lI;have cS:wr .i64 ((bZd:Int)-1)=(bZd:Int)-1:=dv (by omega) (by omega);have bL:wr .i64 ((bZd:Int)-1-bYc)=(bZd:Int)-1-bYc:=dv (by omega) (by omega);have kF:wr .i64 ((len:Int)-1-(a:Int)-1)=(len:Int)-1-((a+1:Nat):Int):=by rw[dv (by omega) (by omega)];omega
  have BH:(a:Int)<=(len:Int)-1:=by omega
  have bWo:¬((len:Int)-1-(a:Int)<0):=by omega
  have bUi:et (some (Value.int .i64 ((len:Int)-1-(a:Int))))=some Bt:=by
   rw[show(len:Int)-1-(a:Int)=(Bt:Int) by omega];simp[et]
  rw[hZ]at e2;obtain⟨z,bl⟩:∃z,z=H1.next:=⟨_,rfl⟩;have bE:K pm H1 (H1.up 28):=(K.refl g1).up 28;obtain⟨fL,fc⟩:∃A,A=(H1.up 28).put (z+25) (.cells [.int .i64 ((bZd:Int)-1-bYc),.string ⟨b3.toArray⟩] (.n 2)):=⟨_,rfl⟩;have hD:K pm H1 fL:=by rw[fc];exact bp.fill bE (by omega) (by rw[bl];exact g1.none 25) (by show z+25<H1.next+28;omega) _
  have bUj:fL.get (z+25)=some (.cells [.int .i64 ((bZd:Int)-1-bYc),.string ⟨b3.toArray⟩] (.n 2)):=by rw[fc];exact dX
  have oP:∀j,j≠25->fL.get (z+j)=none:=λj aH=>by rw[fc,cq (by omega),bl];exact g1.none j
  have P1:fL.next=z+28:=by rw[fc,bl];rfl
  have bWp:0<a->c<z:=λh=>by rw[bl];exact g1.lt (Jl h).1
  have auA:0<a->Perm.may ⟨pm.lo,pm.ok,some (z+26)⟩ c=true:=λh=>jh (lo:=pm.lo) (ok:=pm.ok) (o:=some (z+26)) (b:=c) (by have:=(Jl h).2;have:=g.lo;omega);have ao:=G5 (H:=fL) (w:=2) (by':=24) (c:=c) (i:=a) (lo:=pm.lo) (okl:=pm.ok) (b:=z+26) (ss:=ss) (xs:=[.int .i64 ((bZd:Int)-1-bYc),.string ⟨b3.toArray⟩]) (λh=>⟨hD.some g1 (Jl h).1,cs.1,auA h⟩) (λh=>by have:=cs.1;rw[h]at this;exact bXy (by omega)) rfl (by decide) (by omega) (by decide);obtain⟨fV,fg⟩:∃A,A=hF fL c a:=⟨_,rfl⟩;obtain⟨fW,fp⟩:∃A,A=fV.put (z+26) (.cells (ss++[.int .i64 ((bZd:Int)-1-bYc),.string ⟨b3.toArray⟩]) (.n 2)):=⟨_,rfl⟩;rw[<-fg,<-fp]at ao;have bQp:fW.next=z+28:=by rw[fp,fg];exact(yP).trans P1
  have Y9:K pm H fV:=by rw[fg];exact bp.hF (K.trans av hD) (λh=>⟨(Jl h).2,hD.some g1 (Jl h).1⟩)
  have bQq:H.next<=z:=by rw[bl];exact av.next
  have ayX:K pm H fW:=by rw[fp];exact bp.fill Y9 (by omega) (by rw[fg,l8 (λh=>by have:=bWp h;omega)];exact oP 26 (by decide)) (by rw[fg,yP,P1];omega) _
  have bUk:p<z:=by rw[bl];exact g1.lt bWn
  have bUl:ev<z:=by rw[bl];exact g1.lt FD
  have bUm:vb<z:=by rw[bl];exact g1.lt FC
  have uy:fW.get (z+27)=none:=by rw[fp,cq (by omega),fg,l8 (λh=>by have:=bWp h;omega)];exact oP 27 (by decide)
  have bUn:∀x∈AU c a,x<z:=λx az=>G4 bWp az;have bUo:cX [Value.int .i64 ((bZd:Int)-1-bYc),.string ⟨b3.toArray⟩] 0 2=some [.int .i64 ((bZd:Int)-1-bYc),.string ⟨b3.toArray⟩]:=rfl;simp[bWo];refine eg.of g1.lo rfl ?_;rw[<-bl];have mS:=λj=>(by rw[bl];exact g1.none j:(H1.up 28).get (z+j)=none);have FA:=(by rw[bl];exact g1.fo:(H1.up 28).get z=none);simp[dt,mS,FA,bWn,FD,ad,e2,bUi,sJ,FC,m0,m1,cS,bL,Perm.make,Perm.pick,<-fc,oP,bUj,bUo,ao,uy,dx,dm,kF,bUk,bUl,bUm];refine⟨λx az=>.inl (.inl (.inl (bUn x az))),?_⟩;refine rF.of (a+1,z+26) (by show len-(a+1)<len-a;omega) (by simp) ⟨by show a+1<=len;omega,ayX,ss++[.int .i64 ((bZd:Int)-1-bYc),.string ⟨b3.toArray⟩],λ_=>⟨by rw[fp];exact dX,by show H.next<=z+26;omega⟩,cs.snoc rfl ?_⟩;rw[<-aaM];simp only[fb.rev,fb.cells,UG,bWZ]
 ·have e:a=len:=by omega
  subst e;have bWo:(a:Int)-1-(a:Int)<0:=by omega
  have BH:¬(a:Int)<=(a:Int)-1:=by omega
  have oN:∀b i,fG (sl b i)=true:=λb i=>by unfold sl;split<;>rfl
  have oO:∀b i,(sl b i).cells=#[sl b i]:=λb i=>by unfold sl;split<;>rfl
  have ya:pm.may ev=true:=g0.may (by omega);obtain⟨A,nd⟩:∃A,A=H1.put ev (.cells (L.set (i*5+2) (sl c a)) (.n 5)):=⟨_,rfl⟩;have JG:setCells L (i*5+2) [sl c a]=some (L.set (i*5+2) (sl c a)):=setCells_one (mV.lt ad (show 2<5 by decide));simp[bWo,bWn,FD,ad,oO,oN,JG,ya,<-nd];refine dD _ _ c (by simp) ?_ (λh=>?_) λb y ai h=>by rw[nd,cq ai];exact av.some g h
  ·rw[nd];exact s1.bWg q FD (mV.set ad (by decide) _ (by rw[an];simp[di.rev,di.cells]) (λj _ h=>by simp[h]))
  ·obtain⟨U,aa⟩:=Jl h;refine⟨aa,ss,by rw[nd,cq (by have:=g.lt bC;omega)];exact U,cs.1,λk ag=>?_⟩;have e:(r.rev bZd).cM.getD k ayF=(cQ (a-1-k)).rev bZd:=by
    show(r.cM.reverse.map (fb.rev bZd)).getD k ayF=_;rw[ob,bZv,List.getElem?_reverse (by omega),<-hle,mY (a-1-k) (by omega)];rfl
   simp only[e];exact cs.2 k ag
end Go.Dam.C
namespace Go.Dam.C
open Go Go.Dam
variable{X:aY}{pm:Perm}{H H' cL H0:ah}{n p dZ ev bZd bZe:Nat}{gM eW:Nat->List Value}
theorem bUp(g0:cl pm H0)(q:bYG H0 p dZ ev)(s:bZl pm H0 H p dZ ev bZd bZe gM eW)(Q6:bZd<=6)(av1:bZe<=6){rw':Nat->di}{vb:Nat->Nat}(an:∀i,i<bZe->eW i=(rw' i).cells (sl (vb i) (rw' i).cM.length))
 (dp:∀i,i<bZe->0<(rw' i).cM.length->ev<vb i/\∃M,H.get (vb i)=some (.cells M (.n 2))/\jk M 2 (rw' i).cM.length λk=>((rw' i).cM.getD k ayF).cells) (bYT:∀i,i<bZe->∀c∈(rw' i).cM,0<=c.col/\c.col<bZd) (hlen:∀i,i<bZe->(rw' i).cM.length<=1000) {v8:Value} {l:bQ} {ks:List Fr} {Q:c'}
 (bYb:a7 10 l=some (.pointer (some ⟨p,0,none⟩))) (Ei:a7 8 l=some v8) (bWi:a7 14 l=some (.int .i64 (bZd:Int)))
 (eF:∀(l':bQ) (H':ah) (Lu:Nat->Nat),Sub [(10,.pointer (some ⟨p,0,none⟩)),(8,v8),(14,.int .i64 (bZd:Int))] l'->bZl pm H0 H' p dZ ev bZd bZe gM (λi=>if i<bZe then((rw' i).rev bZd).cells (sl (Lu i) (rw' i).cM.length) else eW i)->
  (∀i,i<bZe->0<(rw' i).cM.length->ev<Lu i/\∃M,H'.get (Lu i)=some (.cells M (.n 2))/\jk M 2 (rw' i).cM.length λk=>(((rw' i).rev bZd).cM.getD k ayF).cells)->(∀b y,b≠ev->H.get b=some y->H'.get b=some y)->wp X pm (.res .normal) l' H' ks Q):
 wp X pm (.code C.bXq) l H ks Q:=by
 have bn:=q.U;have bh:=q.aa;have cu:=q.aq;obtain⟨aGt,Y',_⟩:=uA ev bZe;have sc:=s.x;rw[Y']at sc;have bUq:∀{H':ah},K pm H0 H'->H'.get p=some (.cells [sl dZ bZd,sl ev bZe] (.t bXK))->ev<H'.next:=λk h=>by have:=k.aL.lt h;omega
 simp[bYb,sc,-bWq]
 refine gG (σ:=Nat->Nat) bZe (λ_ _=>[(10,.pointer (some ⟨p,0,none⟩)),(8,v8),(14,.int .i64 (bZd:Int))])
  (λi Lu H'=>bZl pm H0 H' p dZ ev bZd bZe gM (λj=>if j<i then((rw' j).rev bZd).cells (sl (Lu j) (rw' j).cM.length) else eW j)/\
   (∀j,j<i->0<(rw' j).cM.length->ev<Lu j/\∃M,H'.get (Lu j)=some (.cells M (.n 2))/\jk M 2 (rw' j).cM.length λk=>(((rw' j).rev bZd).cM.getD k ayF).cells)/\∀b y,b≠ev->H.get b=some y->H'.get b=some y)
  vb (by decide) (by omega) (by simp[bYb,Ei,bWi]) ⟨by simpa using s,λj aH=>absurd aH (od _),λ_ _ _ h=>h⟩ (by simp) ?_ ?_
 ·rintro i Lu qJ ad ⟨qK,Qf,bXN⟩;refine bUh g0 q qK Q6 av1 ad (r:=rw' i) (vb:=vb i) (by simp only[Nat.lt_irrefl,if_false];exact an i ad) (λh=>?_) (bYT i ad) (hlen i ad) (v8:=v8) ?_
  ·obtain⟨U,M,aa,aq⟩:=dp i ad h;exact⟨M,bXN _ _ (by omega) aa,aq⟩
  ·intro l' sM b Qg rK dC aK;refine⟨λj=>if j=i then b else Lu j,Qg,?_,λj aH aO=>?_,λb y ai h=>aK b y ai (bXN b y ai h)⟩
   ·have e:(λj=>if j=i then((rw' i).rev bZd).cells (sl b (rw' i).cM.length) else if j<i then((rw' j).rev bZd).cells (sl (Lu j) (rw' j).cM.length) else eW j)=(λj=>if j<i+1 then((rw' j).rev bZd).cells (sl (if j=i then b else Lu j) (rw' j).cM.length) else eW j):=by
     funext j;by_cases e:j=i
     ·subst e;simp
     ·by_cases e2:j<i
      ·simp[e,e2,show j<i+1 by omega]
      ·simp[e,e2,show ¬j<i+1 by omega]
    rw[<-e];exact rK
   ·by_cases e:j=i
    ·subst e;simp only[if_true];obtain⟨U,M,aa,aq⟩:=dC aO;exact⟨by have:=bUq qK.k qK.x;omega,M,aa,aq⟩
    ·simp only[e,if_false];obtain⟨U,M,aa,aq⟩:=Qf j (by omega) aO;exact⟨U,M,aK _ _ (by omega) aa,aq⟩
 ·rintro Lu qJ ⟨qK,Qf,bXN⟩;simp;exact eF _ _ Lu (by simp) qK Qf bXN
end Go.Dam.C
namespace Go.Dam.C
open Go Go.Dam
variable{X:aY}{pm:Perm}{H H' cL H0:ah}{n:Nat}
theorem bVa{lp:bD}{i:Nat}(ad:i<lp.cut.rows.length):(lp.cut.row i).cM.length<=1000:=by
 obtain⟨r,_,e⟩:=bZx.1 (fR (bD.rowAt ad):lp.cut.row i∈(lp.rows.take 6).map di.cut);rw[<-e];simp only[di.cut,bYm,bYe];omega
abbrev bXO:Nat:=T.bUr
abbrev bYs:Nat:=T.bUs
theorem bZl.congr{p dZ ev bZd bZe:Nat}{gM eW PZ PY:Nat->List Value}(s:bZl pm H0 H p dZ ev bZd bZe gM eW)(U:∀j,j<bZd->PZ j=gM j)(aa:∀j,j<bZe->PY j=eW j):bZl pm H0 H p dZ ev bZd bZe PZ PY where
 k:=s.k
 x:=s.x
 c:=λh=>(s.c h).imp λL h=>⟨h.1,h.2.1,λj aH=>by rw[U j aH];exact h.2.2 j aH⟩
 w:=λh=>(s.w h).imp λL h=>⟨h.1,h.2.1,λj aH=>by rw[aa j aH];exact h.2.2 j aH⟩
theorem bUt(al:bWU X)(g:cl pm H){v:Value}{lp:bD}{a b:Int}(_bQr:-9223372036854775808<=a)(_bQs:a<=9223372036854775807)(_bQt:-9223372036854775808<=b)(_bQu:b<=9223372036854775807)(YK:x' H v lp):
 Call X pm F.bYr [v,.int .i64 a,.int .i64 b] H λr H'=>K pm H H'/\r=.bool true:=by
 refine Call.h6 al.bYr rfl λQ bU=>?_;have aw:=YK.lp;obtain⟨v1,v2,rfl,af,an⟩:=aw;obtain⟨base,cap,rfl,_⟩:=af.at;obtain⟨dG,dE,rfl,_⟩:=an.at;obtain⟨jW,jR⟩:∃b,b=H.next:=⟨_,rfl⟩;obtain⟨H1,cw⟩:∃H1,H1=H.new (.cells [.slice base lp.aj.length cap,.slice dG lp.rows.length dE] (.t bXO)):=⟨_,rfl⟩;have av:K pm H H1:=by rw[cw];exact K.new g _
 have g1:=av.aL;have h4:H1.get jW=some (.cells [.slice base lp.aj.length cap,.slice dG lp.rows.length dE] (.t bXO)):=by rw[cw,jR];exact dT
 have n1:H1.next=jW+1:=by rw[cw,jR];rfl
 have bUu:pm.may jW=true:=g.may (by omega);simp[g.pick,g.make,ptr,<-jR,<-cw,-bWr,-bWs];refine aR.of (vs:=[]) (by simp) (by simp) (ax2 al.tobYF g1.fJ) ?_;rintro _ H1 ⟨rfl,rfl⟩;simp[h4,cX,c5,-bWt,-bWu];refine aR.of (vs:=[.agg #[.slice base lp.aj.length cap,.slice dG lp.rows.length dE]]) (by simp) (by simp) (ayP al.tobYF pm _ g1 _ lp (YK.ext (av.ext g))) ?_;rintro cB aJ ⟨aI,f2⟩;have g2:=aI.aL;have eA:=aI.some g1 h4;obtain⟨fQ,fm,rfl,kE,mo,sn,Py⟩:=f2;obtain⟨zN,zO,rfl,_⟩:=kE.at;obtain⟨zP,zQ,rfl,_⟩:=mo.rows.at;obtain⟨bN,iO⟩:∃A,A=aJ.put jW (.cells [.slice zN lp.cut.aj.length zO,.slice zP lp.cut.rows.length zQ] (.t bXO)):=⟨_,rfl⟩;have fu:bp pm H.next aJ bN:=by rw[iO];exact bp.put (.refl g2) (by omega) eA (by simp) _
 have aQ:K pm H bN:=bp.trans (K.trans av aI) fu;have g3:=aQ.aL;have dh:bN.get jW=some (.cells [.slice zN lp.cut.aj.length zO,.slice zP lp.cut.rows.length zQ] (.t bXO)):=by rw[iO];exact dX
 have bVb:sL bN H1.next (.agg #[.slice zN lp.cut.aj.length zO,.slice zP lp.cut.rows.length zQ]) lp.cut:=by
  rw[iO];exact sL.put ⟨_,_,rfl,kE,mo,sn,Py⟩ (by omega) _
 have wu:=lp.ax8;have fin:∀l' H',K pm H H'->a7 6 l'=some (.bool true)->Q .ret l' H':=λl' H' k h1=>bU _ _ _ (by simp[h1];exact k);simp[eA,setCells,bUu,<-iO,dh,cX,c5,-bWv,-bWw];refine aR.of (vs:=[.agg #[.slice zN lp.cut.aj.length zO,.slice zP lp.cut.rows.length zQ]]) (by simp) (by simp) (ayi al.tohj g3 wu.ok bVb.lp (λhm=>runs wu hm)) ?_;rintro kf cp ⟨bt,a8⟩;have g4:=bt.aL;have jY:=K.trans aQ bt;have bUv:=bVb.ext (bt.ext g3);have iQ:=bt.some g3 dh;obtain⟨Cy,Fx⟩:∃c,c=cp.next:=⟨_,rfl⟩;have YO:pm.may Cy=true:=g4.may (by omega);have bVc:∀x,(cp.new x).get Cy=some x:=λx=>by rw[Fx];exact dT
 have oN:∀b i,fG (sl b i)=true:=λb i=>by unfold sl;split<;>rfl
 have oO:∀b i,(sl b i).cells=#[sl b i]:=λb i=>by unfold sl;split<;>rfl
 rcases a8 with⟨hm,rfl⟩ | ⟨hm,c,u,rfl,hu,aG⟩
 ·obtain⟨ns,Cz⟩:∃ns,ns=(cp.new (.cells [.int .i64 0,.string ⟨#[]⟩,.slice none 0 0,.slice none 0 0,.slice none 0 0] (.t bYs))).put Cy (.cells [.int .i64 0,.string ⟨#[]⟩,.slice none 0 0,.slice none 0 0,.slice none 0 0] (.t bYs)):=⟨_,rfl⟩;have jZ:K pm cp ns:=by rw[Cz,Fx];exact mv g4 _ _ (by simp)
  simp[g4.pick,g4.make,ptr,c5,<-Fx,bVc,YO,<-Cz,setCells];exact fin _ _ (K.trans jY jZ) (by simp)
 ·have zU:=hu;obtain⟨df,dW,gZ,rfl,kR,jw,jP⟩:=hu;obtain⟨PI,PJ,ao,_⟩:=kR.ex;obtain⟨PK,PL,e2,_⟩:=jw.ex;obtain⟨PM,PN,bd,_⟩:=jP.ex;subst ao e2 bd;obtain⟨YQ,ayl⟩:=aym wu hm aG;obtain⟨ns,Cz⟩:∃ns,ns=(cp.new (.cells [.int .i64 0,.string ⟨#[]⟩,.slice none 0 0,.slice none 0 0,.slice none 0 0] (.t bYs))).put Cy (.cells [.int .i64 c.st,aW c.val,.slice PI c.x.length PJ,.slice PK c.d.length PL,.slice PM c.r.length PN] (.t bYs)):=⟨_,rfl⟩;have jZ:K pm cp ns:=by rw[Cz,Fx];exact mv g4 _ _ (by simp)
  have g8:=jZ.aL;have t0:=jZ.some g4 iQ;have t8:ns.get Cy=some (.cells [.int .i64 c.st,aW c.val,.slice PI c.x.length PJ,.slice PK c.d.length PL,.slice PM c.r.length PN] (.t bYs)):=by rw[Cz];exact dX
  have bUw:=bUv.ext (jZ.ext g4);simp[g4.pick,g4.make,ptr,c5,<-Fx,bVc,YO,<-Cz,setCells,  t0,cX,-bWx,-bWy];refine aR.of (vs:=[.agg #[.slice zN lp.cut.aj.length zO,.slice zP lp.cut.rows.length zQ]]) (by simp) (by simp) (bVZ al.tobWa g8 bUw wu (λi ad=>bVa ad)) ?_;rintro _ yf ⟨ux,dZ,ev,vb,rfl,own⟩;have g9:=ux.aL;have t9:=ux.some g8 t8;obtain⟨p,aC⟩:∃c,c=yf.next:=⟨_,rfl⟩;have bUx:∀x,(yf.new x).get p=some x:=λx=>by rw[aC];exact dT
  have bUy:pm.may p=true:=g9.may (by omega);obtain⟨bZd,tA⟩:∃k,k=lp.cut.aj.length:=⟨_,rfl⟩;obtain⟨bZe,bXr⟩:∃k,k=lp.cut.rows.length:=⟨_,rfl⟩;obtain⟨aGt,Y',bQv⟩:=uA ev bZe;obtain⟨iS,uz,bQw⟩:=uA dZ bZd;obtain⟨qJ,bXP⟩:∃A,A=(yf.new (.cells [.slice none 0 0,.slice none 0 0] (.t bXK))).put p (.cells [sl dZ bZd,sl ev bZe] (.t bXK)):=⟨_,rfl⟩;have bXQ:K pm yf qJ:=by rw[bXP,aC];exact mv g9 _ _ (by simp)
  have q:bYG ns p dZ ev:=⟨own.b.1,own.b.2.1,by rw[aC];exact own.b.2.2.1⟩;have qK:bZl pm ns qJ p dZ ev bZd bZe (λj=>(lp.cut.col j).cells) (λi=>(lp.cut.row i).cells (sl (vb i) (lp.cut.row i).cM.length)):=by
   refine⟨K.trans ux bXQ,by rw[bXP];exact dX,λh=>?_,λh=>?_⟩
   ·obtain⟨L,U,aa⟩:=own.c (by omega);exact⟨L,bXQ.some g9 U,by rw[tA];exact aa⟩
   ·obtain⟨L,U,aa⟩:=own.w (by omega);exact⟨L,bXQ.some g9 U,by rw[bXr];exact aa⟩
  rw[uz,Y']at bXP;have bVd:=qK.x;rw[uz,Y']at bVd;have nr:=qK.k.aL
  have bVe:∀(i k:Nat),Inv2 bZe (bZj i k)->∀(l':bQ) (H':ah),a7 10 l'=some (.pointer (some ⟨p,0,none⟩))->a7 8 l'=some (.pointer (some ⟨Cy,0,none⟩))->
   bZl pm ns H' p dZ ev bZd bZe (λj=>(lp.cut.col j).cells) (λt=>(lp.cut.row (bZj i k t)).cells (sl (vb (bZj i k t)) (lp.cut.row (bZj i k t)).cM.length))->(∀b y,b≠ev->qJ.get b=some y->H'.get b=some y)->wp X pm (.code C.bYt) l' H' [] Q:=by
   intro i k bVf l' H' bYb Ei bXs aK;have bWz:Inv2 lp.cut.rows.length (bZj i k):=by rw[<-bXr];exact bVf
   have bVg:=bXs.x;rw[uz,Y']at bVg;have bUa:lp.cut.aj.length<=6:=wu.n;have bWT:lp.cut.rows.length<=6:=wu.m
   have bVh:∀(YA:bQ) (bN:ah) (Lu:Nat->Nat),a7 10 YA=some (.pointer (some ⟨p,0,none⟩))->a7 8 YA=some (.pointer (some ⟨Cy,0,none⟩))->
    bZl pm ns bN p dZ ev bZd bZe (λj=>((lp.cut.bZm i k).col j).cells) (λt=>((lp.cut.bZm i k).row t).cells (sl (Lu t) ((lp.cut.bZm i k).row t).cM.length))->
    (∀t,t<bZe->0<((lp.cut.bZm i k).row t).cM.length->∃M,bN.get (Lu t)=some (.cells M (.n 2))/\jk M 2 ((lp.cut.bZm i k).row t).cM.length λk'=>(((lp.cut.bZm i k).row t).cM.getD k' ayF).cells)->wp X pm (.code C.bYu) YA bN [] Q:=by
    intro YA bN Lu i10 i8 de C9;have bXR:=de.k.aL;have bVi:=de.x;have bUz:(lp.cut.bZm i k).aj.length=bZd:=by simp[bD.bZm,tA]
    have bUA:(lp.cut.bZm i k).rows.length=bZe:=by simp[bD.bZm,bXr]
    have TF:=bVj bWz hm;have bXt:=bUB wu bWz;have bVk:ps bN (.agg #[sl dZ bZd,sl ev bZe]) (lp.cut.bZm i k):=by
     refine⟨_,_,rfl,?_,?_⟩
     ·unfold kI;rw[bUz];exact jk.Y6 de.c λj aH=>⟨_,bD.Cn (by omega),rfl⟩
     ·unfold nY;rw[bUA];refine jk.Y6 de.w λt aS=>⟨_,_,bD.rowAt (by omega),rfl,?_⟩;exact jk.Y6 (C9 t aS) λk' vz=>⟨_,by rw[ob,hG vz];rfl,rfl⟩
    have bUC:=de.k.some g8 t8;simp[i10,bVi,cX,c5,-bWA,-bWB];refine aR.of (vs:=[.agg #[sl dZ bZd,sl ev bZe]]) (by simp) (by simp) (ayi al.tohj bXR bXt.ok bVk (λhm=>runs bXt hm)) ?_;rintro vN cV ⟨cd,cg⟩;have g5:=cd.aL
    rcases cg with⟨pZ,_⟩ | ⟨_,dd,bL,rfl,lU,tP⟩
    ·rw[TF]at pZ;cases pZ
    ·have RA:=lU;obtain⟨s6,iL,qV,rfl,rW,wS,pJ⟩:=lU;obtain⟨bWC,bWD,ao,_⟩:=rW.ex;obtain⟨bWE,bWF,e2,_⟩:=wS.ex;obtain⟨bWG,bWH,bd,_⟩:=pJ.ex;subst ao e2 bd;obtain⟨bVl,bUD⟩:=aym bXt TF tP;have bUE:=λaa=>ayo bXt TF tP aa;obtain⟨bUF,bUG⟩:=bUH bWz YQ bVl;obtain⟨ayp,YS⟩:∃c,c=cV.next:=⟨_,rfl⟩;have bUI:pm.may ayp=true:=g5.may (by omega);have abi:∀x,(cV.new x).get ayp=some x:=λx=>by rw[YS];exact dT
     obtain⟨bWI,bWJ⟩:∃A,A=(cV.new (.cells [.int .i64 0,.string ⟨#[]⟩,.slice none 0 0,.slice none 0 0,.slice none 0 0] (.t bYs))).put ayp (.cells [.int .i64 dd.st,aW dd.val,.slice bWC dd.x.length bWD,.slice bWE dd.d.length bWF,.slice bWG dd.r.length bWH] (.t bYs)):=⟨_,rfl⟩;have bXu:K pm cV bWI:=by rw[bWJ,YS];exact mv g5 _ _ (by simp)
     have bUJ:=bXu.aL;have z9:bWI.get ayp=some (.cells [.int .i64 dd.st,aW dd.val,.slice bWC dd.x.length bWD,.slice bWE dd.d.length bWF,.slice bWG dd.r.length bWH] (.t bYs)):=by rw[bWJ];exact dX
     have bUK:=bXu.some g5 (cd.some bXR bUC);have bUL:=bXu.some g5 (cd.some bXR bVi);have bVm:=K.trans cd bXu;have bUM:K pm H bWI:=K.trans (K.trans (K.trans jY jZ) de.k) bVm;simp[g5.pick,g5.make,ptr,c5,<-YS,abi,bUI,<-bWJ,setCells,  i8,i10,bUK,z9,bUL,cX,bUF,bUG,-bWK];refine aR.of (vs:=[.agg #[sl dZ bZd,sl ev bZe],.agg #[.int .i64 dd.st,aW dd.val,.slice bWC dd.x.length bWD,.slice bWE dd.d.length bWF,.slice bWG dd.r.length bWH]]) (by simp) (by simp) (PH al.tohj bUJ bXt.ok (bVk.ext (bVm.ext bXR)) (RA.ext (bXu.ext g5)) bUD bUE) ?_;rintro _ bQx ⟨bUN,rfl⟩;simp[bVl];exact fin _ _ (K.trans bUM bUN) (by simp)
   have bXS:∀t,t<bZe->bZj i k t<lp.cut.rows.length:=λt aS=>by rw[<-bXr];exact(bVf t aS).1
   have bYT:∀t,t<bZe->∀c∈(lp.cut.row (bZj i k t)).cM,0<=c.col/\c.col<bZd:=λt aS c af=>by rw[tA];exact(ZP (Kb hm (bXS t aS))).2 c af
   have nU:∀t,t<bZe->(lp.cut.bZm i k).row t=(lp.cut.row (bZj i k t)).rev bZd:=λt aS=>by rw[bWL (by omega),tA]
   have oC:∀t,t<bZe->0<(lp.cut.row (bZj i k t)).cM.length->ev<vb (bZj i k t)/\∃M,H'.get (vb (bZj i k t))=some (.cells M (.n 2))/\jk M 2 (lp.cut.row (bZj i k t)).cM.length λk'=>((lp.cut.row (bZj i k t)).cM.getD k' ayF).cells:=λt aS aO=>by
    have ai:=own.b.2.2.2 _ (bXS t aS);obtain⟨M,U,aa⟩:=own.v _ (bXS t aS) aO;exact⟨ai,M,aK _ _ (by omega) (bXQ.some g9 U),aa⟩
   have vu:=own.b.2.1;simp[bYb,bVg,-bWM,-bYu];by_cases gy:0<bZd
   ·simp[gy,-bXM,-bXq,-bYu];refine bUf g8 q bXs gy (by omega) (λj aH=>⟨rfl,rfl⟩) (v8:=.pointer (some ⟨Cy,0,none⟩)) (by simp[bYb]) (by simp[Ei]) (by simp) (by simp) ?_;intro ck sM Qg rK bUO;simp[-bXq,-bYu];refine bUp g8 q rK (by omega) (by omega) (rw':=λt=>lp.cut.row (bZj i k t)) (vb:=λt=>vb (bZj i k t)) (λt aS=>rfl) (λt aS aO=>?_) bYT (λt aS=>bVa (bXS t aS)) (v8:=.pointer (some ⟨Cy,0,none⟩)) Qg.1 Qg.2.1 Qg.2.2.1 ?_
    ·obtain⟨U,M,aa,aq⟩:=oC t aS aO;exact⟨U,M,bUO _ _ (by omega) aa,aq⟩
    ·intro cJ CD Lu bVn ayY bUP ay0;simp[-bYu];refine bVh cJ CD Lu bVn.1 bVn.2.1 (ayY.congr (λj aH=>?_) (λt aS=>?_)) (λt aS aO=>?_)
     ·rw[bm aH];have:=bVo (lp:=lp.cut) (i:=i) (k:=k) (j:=bZd-1-j) (by omega);rw[show lp.cut.aj.length-1-(bZd-1-j)=j by omega]at this;rw[this]
     ·rw[bm aS,nU t aS];simp[di.rev]
     ·rw[nU t aS]at aO|-;have lS:0<(lp.cut.row (bZj i k t)).cM.length:=by simpa [di.rev]using aO
      obtain⟨_,M,aa,aq⟩:=bUP t aS lS;exact⟨M,aa,by simpa [di.rev]using aq⟩
   ·have kj:bZd=0:=by omega
    have bVp:∀t,t<bZe->(lp.cut.row (bZj i k t)).cM=[]:=λt aS=>by
     rw[List.eq_nil_iff_forall_not_mem];intro c af;have:=bYT t aS c af;omega
    simp[gy,-bYu];refine bVh _ H' (λt=>vb (bZj i k t)) (by simp[bYb]) (by simp[Ei]) (bXs.congr (λj aH=>by omega) (λt aS=>?_)) (λt aS aO=>?_)
    ·rw[nU t aS];simp[di.rev,di.cells,bVp t aS]
    ·rw[nU t aS]at aO;simp[di.rev,bVp t aS]at aO
  have bWT:=wu.m;simp[<-tA,<-bXr,uz,Y',g9.pick,g9.make,ptr,c5,<-aC,bUx,bUy,setCells,<-bXP,bVd,-bWN,-bYt];by_cases aD:0<bZe
  ·obtain⟨i,ad,gB⟩:∃i:Nat,i<bZe/\((a.tmod bZe+bZe).tmod bZe)=(i:Int):=by
    have U:-(bZe:Int)<a.tmod bZe:=by have:=Int.lt_tmod_of_pos a (show(0:Int)<bZe by omega);omega
    have aa:=Int.tmod_lt_of_pos (a.tmod bZe+bZe) (show(0:Int)<bZe by omega);have aq:0<=(a.tmod bZe+bZe).tmod bZe:=Int.tmod_nonneg _ (by omega);exact⟨((a.tmod bZe+bZe).tmod bZe).toNat,by omega,by omega⟩
   obtain⟨k,ag,zL⟩:∃k:Nat,k<bZe/\((b.tmod bZe+bZe).tmod bZe)=(k:Int):=by
    have U:-(bZe:Int)<b.tmod bZe:=by have:=Int.lt_tmod_of_pos b (show(0:Int)<bZe by omega);omega
    have aa:=Int.tmod_lt_of_pos (b.tmod bZe+bZe) (show(0:Int)<bZe by omega);have aq:0<=(b.tmod bZe+bZe).tmod bZe:=Int.tmod_nonneg _ (by omega);exact⟨((b.tmod bZe+bZe).tmod bZe).toNat,by omega,by omega⟩
   have cP:∀x:Int,-(bZe:Int)<x.tmod bZe/\x.tmod bZe<bZe:=λx=>⟨by have:=Int.lt_tmod_of_pos x (show(0:Int)<bZe by omega);omega,Int.tmod_lt_of_pos x (by omega)⟩;have bQy:wr .i64 (a.tmod bZe)=a.tmod bZe:=dv (by have:=cP a;omega) (by have:=cP a;omega);have bUQ:wr .i64 (a.tmod bZe+bZe)=a.tmod bZe+bZe:=dv (by have:=cP a;omega) (by have:=cP a;omega);have bQz:wr .i64 (b.tmod bZe)=b.tmod bZe:=dv (by have:=cP b;omega) (by have:=cP b;omega);have bUR:wr .i64 (b.tmod bZe+bZe)=b.tmod bZe+bZe:=dv (by have:=cP b;omega) (by have:=cP b;omega);simp[aD,-bXp,-bYt];refine eg.of nr.lo rfl ?_;simp[dt,nr.none,nr.fo, bUQ, bUR,gB,zL,show ¬bZe=0 by omega,dx,dm,-bXp,-bYt];have bVq:∀(r:di) (b k:Nat),(r.cells (sl b k)).all fG=true:=λr b k=>by
    simp only[di.cells,bZR,List.all_nil,oN];rfl
   refine bUc g8 q (qK.up ((K.refl nr).up 16)) ad ag rfl rfl rfl rfl (bVq _ _ _) (bVq _ _ _) (by simp) (by simp) (by simp) ?_;intro l' H' Mw mh bXs aK;simp[-bYt];exact bVe i k (bUS ad ag) l' H' (by rw[Mw];simp) (by rw[mh];simp) bXs (λb y ai h=>aK b y ai h)
  ·have rr:bZe=0:=by omega
   simp[rr,-bYt];exact bVe 0 0 (λt aS=>by omega) _ _ (by simp) (by simp) ⟨qK.k,qK.x,qK.c,λh=>absurd h (by omega)⟩ (λ_ _ _ h=>h)
end Go.Dam.C
namespace Go.Dam.C
open Go Go.Dam Go.RowKit
def jn.post:jn->Value->ah->Prop
 | .eW q,v,H=>jC H v q
 | .val u,v,_=>v=u/\plainCell u=true
 | .no,v,_=>v=.tuple #[.pointer none,.bool false]
 | .yes q,v,H=>∃p,v=.tuple #[p,.bool true]/\jC H p q
theorem aB6{γ:bo}{v v':Value}(h:bg γ v v')(aC:plainCell v=true):v'=v:=by
 cases h<;>first | rfl | (simp[plainCell]at aC)
theorem abr{H:ah}(h:qI H=true):H.get 1=some (.eE (.nat 0)):=by
 unfold qI at h;split at h
 ·assumption
 ·cases h
theorem RQ{base:Nat}{γ:bo}{H:ah}{w:World}(an:Rel iG base γ H w){a a':Value}{p:Rat}(h:qD H a=some p)(aw:bg γ a a'):yD w (iJ γ H w) a' p:=by
 unfold qD at h;split at h
 ·cases aw;simp only[a6]at h;exact .inl ⟨rfl,h.symm⟩
 ·rename_i b;split at h
  ·rename_i q aK;obtain⟨L,bC,_,rfl⟩:=aw.pj;obtain⟨x,U,aa⟩:=an.bI b L bC;rw[aK]at U;cases U;obtain⟨gd,aB,aV⟩:=aa;simp only[a6]at h;subst h;simp only[aB];exact aV
  ·cases h
 ·cases h
theorem Step.eE{O:da}{base:Nat}{pm:Perm}{γ:bo}{H:ah}{w w':World}(an:Rel O base γ H w)(ai:Below w.heap.size w w'){o:Hr}{c:Nat}(af:w.heap.size<=c)(hW:c<w'.heap.size)
 (kZ:O.rel w' (λb=>b<w'.heap.size/\(iJ γ H w b∨w.heap.size<=b)) c o):Step O base pm γ H w (γ.set H.next ⟨c,0,0,0⟩) (H.new (.eE o)) w':=by
 have hle:=an.Wk ⟨c,0,0,0⟩;have ag:∀c,c<w.heap.size->w'.heap[c]? = w.heap[c]?:=ai.block;have bO:∀b L,γ b=some L->hr (H.get b)->L.bI<w.heap.size:=λb L h r=>by
  obtain⟨x,U,aa⟩:=an.bI b L h;rw[U]at r;exact aa.lt r
 have aK:∀b,(H.new (.eE o)).get b=if b=H.next then some (.eE o) else H.get b:=λb=>ah.qa H b _
 have lQ:∀b L,γ.set H.next ⟨c,0,0,0⟩ b=some L->hr ((H.new (.eE o)).get b)->γ b=some L/\hr (H.get b):=λb L h r=>by
  rw[aK]at r;by_cases e:b=H.next
  ·rw[bm e]at r;exact r.elim
  ·rw[bo.j' _ _ e]at h;rw[aU e]at r;exact⟨h,r⟩
 have e8:∀b,(b<w'.heap.size/\(iJ γ H w b∨w.heap.size<=b))->iJ (γ.set H.next ⟨c,0,0,0⟩) (H.new (.eE o)) w' b:=λb ⟨U,aa⟩=>⟨U,λd L h r=>by
  obtain⟨bn,bh⟩:=lQ d L h r
  rcases aa with aa | aa
  ·exact aa.2 d L bn bh
  ·have:=bO d L bn bh;omega⟩
 have aB7:∀b,iJ γ H w b->iJ (γ.set H.next ⟨c,0,0,0⟩) (H.new (.eE o)) w' b/\w'.heap[b]? = w.heap[b]?:=λb h=>⟨e8 b ⟨hR h.1 ai.size,.inl h⟩,ag b h.1⟩;refine⟨⟨λb L h=>?_,λb L h=>?_,λb h=>?_,λb b' L L' h gJ r r' q=>?_,λb L h r=>?_,bH an.size ai.size⟩,hle,λb L U aa=>?_,ai.size,λc af _=>ag c af,bYE _,λb ai _=>?_,λb L h r=>?_,λb L U aa=>?_,ai.os,ai.tape,ai.output⟩
 ·rw[aK];by_cases e:b=H.next
  ·subst e;rw[bo.im]at h;cases h;rw[bm rfl];exact⟨_,rfl,e8 c ⟨hW,.inr af⟩,rfl,O.zg kZ λb ai=>⟨e8 b ai,rfl⟩⟩
  ·rw[bo.j' _ _ e]at h;obtain⟨x,U,aa⟩:=an.bI b L h;rw[aU e];exact⟨x,U,aa.mono hle aB7 λr=>ag _ (aa.lt r)⟩
 ·show b<H.next+1;by_cases e:b=H.next
  ·omega
  ·rw[bo.j' _ _ e]at h;have:=an.lt b L h;omega
 ·have h:H.next+1<=b:=h;rw[aK,aU (by omega)];exact an.new b (by omega)
 ·obtain⟨bn,bh⟩:=lQ b L h r;obtain⟨cu,e9⟩:=lQ b' L' gJ r';exact an.inj b b' L L' bn cu bh e9 q
 ·obtain⟨bn,bh⟩:=lQ b L h r;exact an.low b L bn bh
 ·by_cases e:b=H.next
  ·subst e;rw[bo.im]at U;cases U;exact .inl af
  ·rw[bo.j' _ _ e,aa]at U;cases U
 ·rw[aK,aU (by omega)]
 ·have:=an.lt b L h;rw[aK,aU (by omega)]at r;exact r
 ·by_cases e:b=H.next
  ·exact .inl (by omega)
  ·rw[bo.j' _ _ e,aa]at U;cases U
section
variable{P:Program}{G:Nat->Bool}{X:aY}
theorem aB8(jb:∀g,G g=true->g=1)(db:∀m d,fT nz P G (X.K m d)){N:Nat->Prop}{W:World}{γ:bo}{H:ah}(h:In nz N W γ H){f:FuncId}{args:List Value}{dR:Array Value}{R:Value->ah->Prop}(af:Call X ⟨0,[],none⟩ f args H R)(aN:cm γ args dR.toList):
 tI P f dR W λen w'=>∃r v' bk H',en=.returned v'/\R r H'/\bg bk r v'/\Rel nz 0 bk H' w'/\Below W.heap.size W w'/\(∀b L,bk b=some L->N L.bI∨W.heap.size<=L.bI)/\∀b L,bk b=some L->hr (H'.get b)->W.heap.size<=L.bI:=by
 obtain⟨r,H',⟨M,e7⟩,dD⟩:=af;have bA:hH G γ:=by
  intro g aK;obtain rfl:=jb g aK;obtain⟨L,g1,g2,g3⟩:=h.FE;exact⟨L,g1,g2,g3⟩
 have aB:=db M M ⟨0,[],none⟩ f args H r H' rfl (e7 M M (bR _) (bR _)) 0 γ W dR h.rel bA aN;refine aB.mono λen w' ⟨bk,v',U,aa,aq⟩=>⟨r,v',bk,H',U,dD,aa,aq.rel,⟨aq.os,aq.tape,aq.output,aq.grow,λc af=>aq.bT c af λb L ai r=>(h.ro b r).elim⟩,λb L ai=>?_,λb L ai rw=>?_⟩
 ·cases e:γ b with
  | some hI=>
    have:=aq.ext b hI e;rw[ai]at this;cases this;exact .inl (h.n b L e)
  | none=>
    rcases aq.fresh b L ai e with q | ⟨b0,_,_,q,_⟩
    ·exact .inr q
    ·exact(h.ro b0 q).elim
 ·cases e:γ b with
  | some hI=>exact(h.ro b (aq.mR b hI e rw)).elim
  | none=>
    rcases aq.fresh b L ai e with q | ⟨b0,_,_,q,_⟩
    ·exact q
    ·exact(h.ro b0 q).elim
theorem KY(j7:G 1=true)(jb:∀g,G g=true->g=1)(db:∀m d,fT nz P G (X.K m d)){f:FuncId}{r:List Value->ah->Option jn}
 (h:∀args H x,r args H=some x->∀base γ w dR,Rel iG base γ H w->cm γ args dR->∀γ0 H0,In nz (iJ γ H w) w γ0 H0->∃RR RS cH,In nz (iJ γ H w) w RR RS/\cm RR cH dR/\Call X ⟨0,[],none⟩ f cH RS x.post):gY iG P G f (eM r):=by
 intro pm args H v H' _ aK base γ w dR an bA aN;unfold eM at aK
 cases aS:qI H with
 | false=>rw[aS]at aK;cases aK
 | true=>
   rw[aS]at aK;simp only[cond_true]at aK;split at aK
   ·rename_i x az;simp only[a6]at aK;obtain⟨L,bC,ai,_⟩:=bA 1 j7;obtain⟨y,U,aa⟩:=an.bI 1 L bC;rw[abr aS]at U;cases U;obtain⟨gd,_,_,_,e,cz,hw⟩:=aa;rw[ai]at gd hw;obtain⟨RR,RS,cH,ad,aC,af⟩:=h args H x az base γ w dR.toList an aN _ _ (In.start (λ_ h=>⟨rfl,h,e,cz,hw⟩) hw gd);refine(aB8 jb db ad af aC).mono λen w' ⟨r,v',bk,aJ,U,dD,aa,aq,dC,a8,cg⟩=>?_;have eW:∀{p yk:Value} {q:Rat},jC aJ p q->bg bk p yk->∃c,yk=.pointer (some ⟨c,0,none⟩)/\Step iG base pm γ H w (γ.set H.next ⟨c,0,0,0⟩) (H.new (.eE (.lF q))) w'/\bg (γ.set H.next ⟨c,0,0,0⟩) (.pointer (some ⟨H.next,0,none⟩)) yk:=λ{p yk q} bc aw=>by
     obtain⟨c,L,b,rfl,g1,rfl,g2,g3⟩:=jC.out (N:=λc=>iJ γ H w c∨w.heap.size<=c) aq a8 bc aw;have hW:L.bI<w'.heap.size:=by
      obtain⟨x,av,aI⟩:=aq.bI b L g1;rw[av]at g2;exact aI.lt g2
     exact⟨L.bI,rfl,Step.eE an dC (cg b L g1 g2) hW (g3.mono λc af aO=>⟨⟨aO,af⟩,rfl⟩),RO⟩
    cases x with
    | eW q=>
      cases aK;obtain⟨c,rfl,g1,g2⟩:=eW dD aa;exact⟨_,_,U,g2,g1⟩
    | val u=>
      cases aK;obtain⟨rfl,hu⟩:=dD;obtain rfl:=aB6 aa hu;exact⟨γ,_,U,.plainCell hu,Step.below an dC⟩
    | no=>
      cases aK;cases dD;obtain⟨gg,rfl,c9⟩:=aa.Ik;obtain⟨gg⟩:=gg
      cases c9 with
      | cons cx a2=>
        cases a2 with
        | cons a2 a3=>
          cases a3;cases cx;cases a2;exact⟨γ,_,U,.tuple (.cons .EI (.cons (.bool _) .nil)),Step.below an dC⟩
    | yes q=>
      cases aK;obtain⟨p,rfl,bc⟩:=dD;obtain⟨gg,rfl,c9⟩:=aa.Ik;obtain⟨gg⟩:=gg
      cases c9 with
      | cons cx a2=>
        cases a2 with
        | cons a2 a3=>
          cases a3;obtain⟨c,rfl,g1,g2⟩:=eW bc cx;obtain rfl:=a2.qf;exact⟨_,_,U,.tuple (.cons g2 (.cons (.bool _) .nil)),g1⟩
   ·cases aK
theorem In.ok{O:da}{N:Nat->Prop}{W:World}{γ:bo}{H:ah}(h:In O N W γ H):cU ⟨0,[],none⟩ H:=⟨rfl,Nat.zero_le _,h.rel.new,λ_ _=>trivial⟩
theorem Gv(j7:G 1=true)(jb:∀g,G g=true->g=1)(db:∀m d,fT nz P G (X.K m d)){f:FuncId}{k:Rat->jn}
 (h:∀{H v q},cU ⟨0,[],none⟩ H->Tab H->iv H v q->ca q=true->Call X ⟨0,[],none⟩ f [v] H (k q).post):gY iG P G f (eM (b4 k)):=by
 refine KY j7 jb db λargs H x an base γ w dR tT aN γ0 H0 ad=>?_;unfold b4 at an;split at an
 ·rename_i a;split at an
  ·rename_i p aC
   cases aG:ca p with
   | false=>rw[aG]at an;cases an
   | true=>
     rw[aG]at an;simp only[cond_true,a6]at an;subst an
     cases aN with
     | cons U aa=>
       cases aa;obtain⟨gO,H1,jW,i1,ck,df,v1,f1⟩:=ad.lF (RQ tT aC U);exact⟨gO,H1,[jW],i1,.cons v1 .nil,h i1.ok i1.fJ f1 aG⟩
  ·cases an
 ·cases an
theorem Gw(j7:G 1=true)(jb:∀g,G g=true->g=1)(db:∀m d,fT nz P G (X.K m d)){f:FuncId}{k:Rat->Rat->jn}
 (h:∀{H v u p q},cU ⟨0,[],none⟩ H->iv H v p->iv H u q->ca p=true->ca q=true->Call X ⟨0,[],none⟩ f [v,u] H (k p q).post):gY iG P G f (eM (cB k)):=by
 refine KY j7 jb db λargs H x an base γ w dR tT aN γ0 H0 ad=>?_;unfold cB at an;split at an
 ·rename_i a b;split at an
  ·rename_i p aC;split at an
   ·rename_i q aV
    cases aG:(ca p&&ca q) with
    | false=>rw[aG]at an;cases an
    | true=>
      rw[aG]at an;simp only[cond_true,a6]at an;subst an;rw[cG]at aG
      cases aN with
      | cons U aa=>
        cases aa with
        | cons aa aq=>
          cases aq;obtain⟨gO,H1,jW,i1,ck,df,v1,f1⟩:=ad.lF (RQ tT aC U);obtain⟨dQ,aJ,hB,i2,cJ,dW,v2,f2⟩:=i1.lF (RQ tT aV aa);exact⟨dQ,aJ,[jW,hB],i2,.cons (v1.mono cJ) (.cons v2 .nil),h i2.ok (f1.le dW) f2 aG.1 aG.2⟩
   ·cases an
  ·cases an
 ·cases an
structure abt(P:Program)(G:Nat->Bool):Prop where
 abu:gY iG P G F.kp (eM Gx)
 abv:gY iG P G F.nx (eM Dp)
 abw:gY iG P G F.kG (eM KZ)
 abx:gY iG P G F.nW (eM K0)
 aby:gY iG P G F.ke (eM K1)
 abz:gY iG P G F.oG (eM K2)
 abA:gY iG P G F.k7 (eM K3)
 abB:gY iG P G F.nV (eM K4)
 abC:gY iG P G F.gE (eM K5)
 abD:gY iG P G F.tS (eM RT)
 abE:gY iG P G F.su (eM RU)
 abF:gY iG P G F.mI (eM K6)
theorem aB9(j7:G 1=true)(jb:∀g,G g=true->g=1)(db:∀m d,fT nz P G (X.K m d))(al:kr X):abt P G where
 abu:=KY j7 jb db λargs H x an base γ w dR tT aN γ0 H0 ad=>by
  unfold Gx at an;split at an
  ·rename_i n
   cases af:(decide (-9223372036854775808<=n)&&decide (n<=9223372036854775807)) with
   | false=>rw[af]at an;cases an
   | true=>
     rw[af]at an;simp only[cond_true,a6]at an;subst an;simp only[cG,eh]at af;exact⟨γ0,H0,[.int .i64 n],ad,(by cases aN with | cons U aa=>cases aa;rw[U.gC];exact .cons (.int _ _) .nil),(aCa al ad.ok af.1 af.2).mono λ_ _ h=>h.2⟩
  ·cases an
 abv:=KY j7 jb db λargs H x an base γ w dR tT aN γ0 H0 ad=>by
  unfold Dp at an;split at an
  ·rename_i s
   cases af:Nat.blt s.size 1000000 with
   | false=>rw[af]at an;cases an
   | true=>
     rw[af]at an;simp only[cond_true,a6]at an;subst an;rw[js,eh]at af;refine⟨γ0,H0,[.string s],ad,(by cases aN with | cons U aa=>cases aa;rw[U.jv];exact .cons (.str _) .nil),?_⟩;refine(aCb (l:=s.data.toList) al ad.ok ad.fJ af).mono λr H' h=>?_
     rcases h.2 with⟨e,h⟩ | ⟨q,p,e,h,aC⟩
     ·rw[e];exact h
     ·rw[e];exact⟨p,h,aC⟩
  ·cases an
 abw:=Gw j7 jb db λau U aa s1 s2=>(Xl al.tofa au U aa (ca.sz s1) (ca.sz s2) (by decide)).mono λ_ _ h=>h.2
 abx:=Gw j7 jb db λau U aa s1 s2=>(Xm al.tofa au U aa (ca.sz s1) (ca.sz s2) (by decide)).mono λ_ _ h=>h.2
 aby:=Gw j7 jb db λau U aa s1 s2=>(avW al.tofa au U aa (ca.sz s1) (ca.sz s2) (by decide)).mono λ_ _ h=>h.2
 abz:=Gw j7 jb db λ{H v u p q} au U aa s1 s2=>(avX al.tofa au U aa (ca.sz s1) (ca.sz s2) (by decide)).mono λr H' h=>by
  rcases h.2 with⟨e,h⟩ | ⟨e,x,h,aC⟩
  ·rw[bm e];exact h
  ·rw[aU e];exact⟨x,h,aC⟩
 abA:=Gw j7 jb db λau U aa s1 s2=>(av2 al.tofa au U aa (ca.sz s1) (ca.sz s2) (Dq (ca.sz s1) (ca.sz s2)) (by decide)).mono λ_ _ h=>⟨h.2,rfl⟩
 abB:=Gv j7 jb db λau _ h s=>(Xg al.tofa au h (ca.sz s) (by decide)).mono λ_ _ h=>h.2
 abC:=Gv j7 jb db λau _ h s=>(Xe al.tofa au h (ca.sz s) (by decide)).mono λ_ _ h=>⟨h.2,rfl⟩
 abD:=Gv j7 jb db λau _ h s=>(av5 al.tofa au h (ca.sz s) (by decide)).mono λ_ _ h=>h.2
 abE:=Gv j7 jb db λau _ h s=>(av3 al.tofa au h (ca.sz s) (by decide)).mono λ_ _ h=>⟨h.2,rfl⟩
 abF:=Gv j7 jb db λau aS h s=>(abG al au aS h (ca.sz s) (by decide) (by decide)).mono λ_ _ h=>⟨h.2,rfl⟩
end
section
variable{O:da}{P:Program}{W:World}
def hy(O:da)(W:World)(v':Value)(Q:ah->Value->Prop):Prop:=∀γ H,In O (λ_=>True) W γ H->∃bk H' v,In O (λ_=>True) W bk H'/\γ.le bk/\Ext H H'/\bg bk v v'/\Q H' v
def JO(Q:ah->Value->Prop):Prop:=∀H H' v,Ext H H'->Q H v->Q H' v
theorem hy.plain{v:Value}(h:plainCell v=true):hy O W v λ_ u=>u=v:=λγ H ad=>⟨γ,H,v,ad,.refl _,.refl _,.plainCell h,rfl⟩
theorem hy.imp{v:Value}{Q ha:ah->Value->Prop}(h:hy O W v Q)(g:∀H u,Q H u->ha H u):hy O W v ha:=λγ H ad=>
 let ⟨bk,H',u,a,b,c,d,e⟩:=h γ H ad;⟨bk,H',u,a,b,c,d,g _ _ e⟩
theorem hy.list{V:Nat->Value}{Q:Nat->ah->Value->Prop}(aG:∀i,JO (Q i)):∀k,(∀i,i<k->hy O W (V i) (Q i))->∀γ H,In O (λ_=>True) W γ H->
 ∃bk H',∃u:Nat->Value,In O (λ_=>True) W bk H'/\γ.le bk/\Ext H H'/\∀i,i<k->bg bk (u i) (V i)/\Q i H' (u i)
 | 0,_,γ,H,ad=>⟨γ,H,λ_=>.bool true,ad,.refl _,.refl _,λi ad=>absurd ad (od _)⟩
 | k+1,h,γ,H,ad=>by
   obtain⟨gO,H1,u,i1,ck,df,U⟩:=hy.list aG k (λi ad=>h i (by omega)) γ H ad;obtain⟨dQ,aJ,v,i2,cJ,dW,aw,aV⟩:=h k (by omega) gO H1 i1;refine⟨dQ,aJ,λi=>if i=k then v else u i,i2,ck.trans cJ,df.trans dW,λi JP=>?_⟩;by_cases e:i=k
   ·subst e;simp only[if_true];exact⟨aw,aV⟩
   ·simp only[e,if_false];obtain⟨p,q⟩:=U i (by omega);exact⟨p.mono cJ,aG i _ _ _ dW q⟩
theorem hy.nil{w:Nat}{Q:ah->Nat->List Value->Prop}:hy O W (.slice none 0 0) λH u=>hO H u 0 w (Q H):=λγ H ad=>
 ⟨γ,H,_,ad,.refl _,.refl _,.xH,none,0,rfl,bR _,λ_=>rfl,λa h=>by cases h⟩
theorem hy.slice{a:Addr}{len cap w:Nat}{V:Nat->Value}{Q:Nat->ah->Value->Prop}(aG:∀i,JO (Q i))(aO:len<=cap)(hw:0<w)(eI:∀j,j<cap*w->W.cell? (a.add j)=some (V j))(h:∀j,j<len*w->hy O W (V j) (Q j)):
 hy O W (.slice (some a) len cap) λH v=>hO H v len w λi cs=>∃u:Nat->Value,cs=(List.range w).map (λk=>u (i*w+k))/\∀k,k<w->Q (i*w+k) H (u (i*w+k)):=by
 intro γ H ad;obtain⟨gO,H1,u,i1,ck,df,U⟩:=hy.list aG (len*w) h γ H ad;have hlen:((List.range (len*w)).map u).length=len*w:=by simp
 have an:cm gO ((List.range (len*w)).map u) ((List.range (len*w)).map V):=cm.vD (by simp) λi v v' p q=>by
  rw[bZv]at p q;by_cases z6:i<len*w
  ·rw[bYl z6]at p q;cases p;cases q;exact(U i z6).1
  ·rw[jq (by simpa using z6)]at p;cases p
 obtain⟨j9,g1,g2,_⟩:=i1.FE;obtain⟨b,o,ay2,tT⟩:∃b o,wz W (λ_=>True) b o ((List.range (len*w)).map V)/\bg (gO.set H1.next ⟨b,o,0,0⟩) (.slice (some ⟨H1.next,0,none⟩) len cap) (.slice (some a) len cap):=by
  by_cases af:cap=0
  ·subst af;obtain rfl:len=0:=by omega
   obtain⟨c,e,cz,c9⟩:=i1.Qj;exact⟨1,0,⟨trivial,c,e,cz,c9,by simp,by simp⟩,.p9 (bo.im _ _ _)⟩
  ·have nR:0<cap*w:=bYq (by omega) hw;have aD:=eI 0 nR;obtain⟨b,o,sp⟩:=a;have sk:sp=none:=by simpa [Addr.add]using World.cell?_spot aD
   subst sk;obtain⟨c,elem,cz,c9⟩:∃c elem cz,W.heap[b]? = some (.cells c elem cz):=by
    unfold World.cell? at aD;split at aD
    ·rename_i c e f c9;exact⟨c,e,f,by simpa [Addr.add]using c9⟩
    ·cases aD
   have mW:∀i,i<cap*w->c[o+i]? = some (V i):=by
    intro i ad;have aa:=eI i ad;rw[add_eq]at aa;simpa [World.cell?,c9]using aa
   have Qk:=(ic.1 (mW (cap*w-1) (by omega))).1;have hle:len*w<=cap*w:=hQ _ aO;refine⟨b,o,⟨trivial,c,elem,cz,c9,by simp;omega,λi v e=>?_⟩,?_⟩
   ·rw[bZv]at e;by_cases z6:i<len*w
    ·rw[bYl z6]at e;cases e;exact mW i (by omega)
    ·rw[jq (by simpa using z6)]at e;cases e
   ·have:=bg.jN (γ:=gO.set H1.next ⟨b,o,0,0⟩) (b:=H1.next) (off:=0) (n:=len) (cap:=cap) (dN:=cap) (L:=⟨b,o,0,0⟩) (bo.im _ _ _) (bR _) aO (.inl rfl);simpa using this
 obtain⟨i2,cJ,dW⟩:=i1.add ay2 an;refine⟨_,_,_,i2,ck.trans cJ,df.trans dW,tT,_,cap,rfl,aO,(λh=>by cases h),λa h=>?_⟩;cases h;refine⟨H1.next,0,_,rfl,dT,by simp,λi ad=>⟨_,CG ?_,u,?_,λk ag=>aG _ _ _ _ dW (U _ ?_).2⟩⟩
 ·have:i*w+w<=len*w:=by rw[<-bZs];exact hQ _ ad
  simp;omega
 ·apply bZW;intro k;by_cases ag:k<w
  ·have:i*w+w<=len*w:=by rw[<-bZs];exact hQ _ ad
   rw[pT ag,o',bZv,bZv,bYl ag,bYl (by omega),Nat.zero_add];rfl
  ·rw[jq (by simp;omega),jq (by simpa using ag)]
 ·have:i*w+w<=len*w:=by rw[<-bZs];exact hQ _ ad
  omega
theorem JQ{v:Value}:JO λ_ u=>u=v:=λ_ _ _ _ h=>h
theorem hO.zg{m w:Nat}{P:Nat->List Value->Prop}:JO λH v=>hO H v m w P:=λ_ _ _ e h=>hO.imp h e λ_ _ _ h=>h
def iB:Value->List UInt8
 | .string s=>s.data.toList
 | _=>[]
def z7:Value->Int
 | .int _ n=>n
 | _=>0
def JR:Value->Bool
 | .bool b=>b
 | _=>false
def oR(v:Value):Prop:=∃s,v=.string s
def yh(v:Value):Prop:=∃n,v=.int .i64 n
def CN(v:Value):Prop:=∃b,v=.bool b
theorem oR.st{v:Value}(h:oR v):v=aW (iB v):=by obtain⟨s,rfl⟩:=h;rfl
theorem yh.int{v:Value}(h:yh v):v=.int .i64 (z7 v):=by obtain⟨s,rfl⟩:=h;rfl
theorem CN.bool{v:Value}(h:CN v):v=.bool (JR v):=by obtain⟨s,rfl⟩:=h;rfl
theorem oR.lift{v:Value}(h:oR v):hy O W v λ_ u=>u=v:=by obtain⟨s,rfl⟩:=h;exact .plain rfl
theorem yh.lift{v:Value}(h:yh v):hy O W v λ_ u=>u=v:=by obtain⟨s,rfl⟩:=h;exact .plain rfl
theorem CN.lift{v:Value}(h:CN v):hy O W v λ_ u=>u=v:=by obtain⟨s,rfl⟩:=h;exact .plain rfl
def FF(W:World)(w:Nat)(v:Value)(E:(Nat->Value)->Prop):Prop:=v=.slice none 0 0∨∃a len cap,∃V:Nat->Value,v=.slice (some a) len cap/\len<=cap/\(∀j,j<cap*w->W.cell? (a.add j)=some (V j))/\∀i,i<cap->E λk=>V (i*w+k)
def B7(W:World)(v:Value):Prop:=FF W 1 v λV=>oR (V 0)
def I3(W:World)(v:Value):Prop:=FF W 2 v λV=>yh (V 0)/\oR (V 1)
def I4(W:World)(v:Value):Prop:=FF W 5 v λV=>oR (V 0)/\oR (V 1)/\oR (V 2)/\oR (V 3)/\CN (V 4)
def RowsIn(W:World)(v:Value):Prop:=FF W 5 v λV=>oR (V 0)/\yh (V 1)/\I3 W (V 2)/\oR (V 3)/\oR (V 4)
theorem B7.lift{v:Value}(h:B7 W v):∃l,hy O W v λH u=>kh H u l:=by
 rcases h with rfl | ⟨a,len,cap,V,rfl,aO,eI,bz⟩
 ·exact⟨[],λγ H ad=>⟨γ,H,_,ad,.refl _,.refl _,.xH,kh.nil⟩⟩
 ·refine⟨(List.range len).map λi=>iB (V i),(hy.slice (w:=1) (Q:=λj _ u=>u=V j) (λ_=>JQ) aO (by decide) eI λj aH=>?_).imp λH u h=>?_⟩
  ·have:=bz j (by omega);simp only[Nat.mul_one,Nat.add_zero]at this;exact this.lift
  ·obtain⟨base,cap,rfl,_,aD,U⟩:=h;refine⟨base,cap,by simp,λi ad=>?_⟩;have ad:i<len:=by simpa using ad
   cases base with
   | none=>have:=aD rfl;omega
   | some a=>
     obtain⟨b,off,row,rfl,aa,aq,a8⟩:=U _ rfl;obtain⟨cs,cg,u,rfl,dj⟩:=a8 i ad;have j4:=dj 0 (by decide);simp only[Nat.mul_one,Nat.add_zero]at j4;have Ei:=(Fy cg).2;have mm:=congrArg (λl=>l[0]?) Ei;simp[j4]at mm;have aG:=bz i (by omega);simp only[Nat.mul_one,Nat.add_zero]at aG;exact⟨b,off,_,row,V i,rfl,aa,rfl,mm.symm,iB (V i),by simp[ad],aG.st⟩
theorem I3.lift{v:Value}(h:I3 W v):∃l:List fb,hy O W v λH u=>hO H u l.length 2 λi cs=>∃c,l[i]? = some c/\cs=c.cells:=by
 rcases h with rfl | ⟨a,len,cap,V,rfl,aO,eI,bz⟩
 ·exact⟨[],hy.nil⟩
 ·refine⟨(List.range len).map λi=>⟨z7 (V (i*2+0)),iB (V (i*2+1))⟩,(hy.slice (w:=2) (Q:=λj _ u=>u=V j) (λ_=>JQ) aO (by decide) eI λj aH=>?_).imp λH u h=>?_⟩
  ·obtain⟨U,aa⟩:=bz (j/2) (by omega);have e:j=j/2*2+0∨j=j/2*2+1:=by omega
   rcases e with e | e<;>rw[e]
   ·exact U.lift
   ·exact aa.lift
  ·simp only[bYm,bYK];refine hO.imp h (λ_ _ e=>e) λi cs ad ⟨u,e,hu⟩=>⟨⟨z7 (V (i*2+0)),iB (V (i*2+1))⟩,by simp[ad],?_⟩;obtain⟨U,aa⟩:=bz i (by omega);have cY:=hu 0 (by decide);have ao:=hu 1 (by decide);rw[e];show[u (i*2+0),u (i*2+1)]=_;rw[cY,ao];show[V (i*2+0),V (i*2+1)]=[.int .i64 (z7 (V (i*2+0))),aW (iB (V (i*2+1)))];rw[<-U.int,<-aa.st]
theorem I4.lift{v:Value}(h:I4 W v):∃l:List eu,hy O W v λH u=>hO H u l.length 5 λi cs=>∃c,l[i]? = some c/\cs=c.cells:=by
 rcases h with rfl | ⟨a,len,cap,V,rfl,aO,eI,bz⟩
 ·exact⟨[],hy.nil⟩
 ·refine⟨(List.range len).map λi=>⟨iB (V (i*5+0)),iB (V (i*5+1)),iB (V (i*5+2)),iB (V (i*5+3)),JR (V (i*5+4))⟩,(hy.slice (w:=5) (Q:=λj _ u=>u=V j) (λ_=>JQ) aO (by decide) eI λj aH=>?_).imp λH u h=>?_⟩
  ·obtain⟨aD,U,aa,aq,a8⟩:=bz (j/5) (by omega);have e:j=j/5*5+0∨j=j/5*5+1∨j=j/5*5+2∨j=j/5*5+3∨j=j/5*5+4:=by omega
   rcases e with e | e | e | e | e<;>rw[e]
   ·exact aD.lift
   ·exact U.lift
   ·exact aa.lift
   ·exact aq.lift
   ·exact a8.lift
  ·simp only[bYm,bYK];refine hO.imp h (λ_ _ e=>e) λi cs ad ⟨u,e,hu⟩=>⟨⟨iB (V (i*5+0)),iB (V (i*5+1)),iB (V (i*5+2)),iB (V (i*5+3)),JR (V (i*5+4))⟩,by simp[ad],?_⟩;obtain⟨aD,U,aa,aq,a8⟩:=bz i (by omega);rw[e];show[u (i*5+0),u (i*5+1),u (i*5+2),u (i*5+3),u (i*5+4)]=[aW (iB (V (i*5+0))),aW (iB (V (i*5+1))),aW (iB (V (i*5+2))),aW (iB (V (i*5+3))),.bool (JR (V (i*5+4)))];rw[hu 0 (by decide),hu 1 (by decide),hu 2 (by decide),hu 3 (by decide),hu 4 (by decide),<-aD.st,<-U.st,<-aa.st,<-aq.st,<-a8.bool]
theorem RowsIn.lift{v:Value}(h:RowsIn W v):∃l:List di,hy O W v λH u=>CF H u l:=by
 rcases h with rfl | ⟨a,len,cap,V,rfl,aO,eI,bz⟩
 ·exact⟨[],λγ H ad=>⟨γ,H,_,ad,.refl _,.refl _,.xH,none,0,rfl,bR _,λ_=>rfl,λa h=>by cases h⟩⟩
 ·have af:∀i,∃l:List fb,i<cap->hy O W (V (i*5+2)) λH u=>hO H u l.length 2 λi cs=>∃c,l[i]? = some c/\cs=c.cells:=λi=>by
   by_cases ad:i<cap
   ·obtain⟨l,h⟩:=(bz i ad).2.2.1.lift (O:=O);exact⟨l,λ_=>h⟩
   ·exact⟨[],λh=>absurd h ad⟩
  obtain⟨co,Fh⟩:∃co:Nat->List fb,∀i,i<cap->hy O W (V (i*5+2)) λH u=>hO H u (co i).length 2 λiq cs=>∃c,(co i)[iq]? = some c/\cs=c.cells:=⟨λi=>(af i).choose,λi=>(af i).choose_spec⟩
  refine⟨(List.range len).map λi=>⟨iB (V (i*5+0)),z7 (V (i*5+1)),co i,iB (V (i*5+3)),iB (V (i*5+4))⟩,
   (hy.slice (w:=5) (Q:=λj H u=>if j%5=2 then hO H u (co (j/5)).length 2 λiq cs=>∃c,(co (j/5))[iq]? = some c/\cs=c.cells else u=V j) (λj=>?_) aO (by decide) eI λj aH=>?_).imp λH u h=>?_⟩
  ·by_cases e:j%5=2
   ·simp only[e,if_true];exact hO.zg
   ·simp only[e,if_false];exact JQ
  ·obtain⟨aD,U,aa,aq,a8⟩:=bz (j/5) (by omega);have e:j=j/5*5+0∨j=j/5*5+1∨j=j/5*5+2∨j=j/5*5+3∨j=j/5*5+4:=by omega
   rcases e with e | e | e | e | e
   ·simp only[show ¬j%5=2 by omega,if_false];rw[e];exact aD.lift
   ·simp only[show ¬j%5=2 by omega,if_false];rw[e];exact U.lift
   ·have:=Fh (j/5) (by omega);rw[<-e]at this;simp only[show j%5=2 by omega,if_true];exact this
   ·simp only[show ¬j%5=2 by omega,if_false];rw[e];exact aq.lift
   ·simp only[show ¬j%5=2 by omega,if_false];rw[e];exact a8.lift
  ·unfold CF;simp only[bYm,bYK];refine hO.imp h (λ_ _ e=>e) λi cs ad ⟨u,e,hu⟩=>⟨⟨iB (V (i*5+0)),z7 (V (i*5+1)),co i,iB (V (i*5+3)),iB (V (i*5+4))⟩,u (i*5+2),by simp[ad],?_,?_⟩
   ·obtain⟨aD,U,aa,aq,a8⟩:=bz i (by omega);have u0:=hu 0 (by decide);have fQ:=hu 1 (by decide);have fu:=hu 3 (by decide);have eX:=hu 4 (by decide);rw[aU (by omega)]at u0 fQ fu eX;rw[e];show[u (i*5+0),u (i*5+1),u (i*5+2),u (i*5+3),u (i*5+4)]=[aW (iB (V (i*5+0))),.int .i64 (z7 (V (i*5+1))),u (i*5+2),aW (iB (V (i*5+3))),aW (iB (V (i*5+4)))];rw[u0,fQ,fu,eX,<-aD.st,<-U.int,<-aq.st,<-a8.st]
   ·have fm:=hu 2 (by decide);rw[bm (by omega),show(i*5+2)/5=i by omega]at fm;exact fm
def I5(W:World)(v:Value):Prop:=∃v1 v2,v=.agg #[v1,v2]/\I4 W v1/\RowsIn W v2
def Fb(W:World)(v:Value):Prop:=∃v0 v1 v2 v3 v4,v=.agg #[v0,v1,v2,v3,v4]/\yh v0/\oR v1/\B7 W v2/\B7 W v3/\B7 W v4
theorem I5.lift{v:Value}(h:I5 W v):∃lp:bD,hy O W v λH u=>x' H u lp:=by
 obtain⟨v1,v2,rfl,U,aa⟩:=h;obtain⟨aj,ck⟩:=U.lift (O:=O);obtain⟨rows,cJ⟩:=aa.lift (O:=O);refine⟨⟨aj,rows⟩,λγ H ad=>?_⟩;obtain⟨gO,H1,fQ,i1,ao,df,b4,bn⟩:=ck γ H ad;obtain⟨dQ,aJ,fm,i2,e2,dW,cB,bh⟩:=cJ gO H1 i1;exact⟨dQ,aJ,.agg #[fQ,fm],i2,ao.trans e2,df.trans dW,.agg (.cons (b4.mono e2) (.cons cB .nil)),fQ,fm,rfl,hO.zg _ _ _ dW bn,bh⟩
theorem Fb.lift{v:Value}(h:Fb W v):∃a:iz,hy O W v λH u=>ur H u a:=by
 obtain⟨v0,v1,v2,v3,v4,rfl,aD,U,aa,aq,a8⟩:=h;obtain⟨x,cJ⟩:=aa.lift (O:=O);obtain⟨d,eT⟩:=aq.lift (O:=O);obtain⟨r,hP⟩:=a8.lift (O:=O);obtain⟨n,rfl⟩:=aD;obtain⟨s,rfl⟩:=U;refine⟨⟨n,s.data.toList,x,d,r⟩,λγ H ad=>?_⟩;obtain⟨dQ,aJ,fm,i2,e2,dW,cB,bh⟩:=cJ γ H ad;obtain⟨NG,bN,fu,i3,bd,gZ,dh,cu⟩:=eT dQ aJ i2;obtain⟨ay3,cp,eX,i4,b1,jz,kf,e9⟩:=hP NG bN i3;exact⟨ay3,cp,.agg #[.int .i64 n,.string s,fm,fu,eX],i4,(e2.trans bd).trans b1,(dW.trans gZ).trans jz,.agg (.cons (.int _ _) (.cons (.str _) (.cons ((cB.mono bd).mono b1) (.cons (dh.mono b1) (.cons kf .nil))))),fm,fu,eX,rfl,bh.ext (gZ.trans jz),cu.ext jz,e9⟩
section
variable{CO:Type}{enc:TypeId×Value->CO}{base:Nat}{held:Bool}
theorem I2{t e fuel w:Nat}{v:Value}{x:DataW CO×List MemPlace}{E:(Nat->Value)->Prop}(aS:P.underlying t=some (.slice e))(af:P.cellsOf e=w)(h:DataW.trod enc P W base (λ_=>true) held fuel t [v]=some x)
 (bz:∀(V:Nat->Value) n y,DataW.trod enc P W base (λ_=>true) held n e ((List.range w).map V)=some y->E V):FF W w v E:=by
 rcases Deep.open_slice aS h with⟨ao,_⟩ | ⟨a,len,cap,m,n,D,Zc,ao,_,aO,_,hm,_,az⟩
 ·exact .inl (by simpa using ao)
 ·have hm:m=cap:=by simpa using hm
  subst hm;rw[af]at az;refine .inr ⟨a,len,m,λj=>(W.cell? (a.add j)).getD (.bool true),by simpa using ao,aO,?_⟩;have mW:∀i,i<m->∃cs,cs.length=w/\(∀k,k<w->W.cell? (a.add (i*w+k))=cs[k]?)/\DataW.trod enc P W base (λ_=>true) held n e cs=some (D i,Zc i):=λi ad=>by
   obtain⟨cs,U,aa⟩:=az i ad;obtain⟨_,aq,a8⟩:=World.cells?_some U;exact⟨cs,aq,λk ag=>by rw[<-a8 k ag,Deep.add_add],aa⟩
  refine⟨λj aH=>?_,λi ad=>?_⟩
  ·have hw:0<w:=tq λe=>by subst e;simp at aH
   obtain⟨cs,U,aa,_⟩:=mW (j/w) (bYj (by rw[gw];exact aH));have aq:=aa (j%w) (bZU _ hw);rw[show j/w*w+j%w=j by rw[gw];exact bYO j w]at aq;rw[hG (by rw[U];exact bZU _ hw)]at aq;show _=some ((W.cell? (a.add j)).getD _);rw[aq];rfl
  ·obtain⟨cs,U,aa,aq⟩:=mW i ad;refine bz _ n (D i,Zc i) ?_;rw[<-aq];congr 1;apply bZW;intro k;by_cases ag:k<w
   ·rw[bZv,bYl ag,<-aa k ag];have:=aa k ag;rw[hG (by omega)]at this;rw[this];simp[this]
   ·rw[jq (by simpa using ag),jq (by omega)]
theorem lY{e fuel:Nat}{fs:Array Field}{cs:List Value}{x:DataW CO×List MemPlace}{i:Nat}{f:Field}{u:Value}(aS:P.underlying e=some (.struct fs))(h:DataW.trod enc P W base (λ_=>true) held fuel e cs=some x)
 (bc:fs[i]? = some f) (af:P.cellsOf f.type=1) (hu:cs[f.offset]? = some u):∃n y,DataW.trod enc P W base (λ_=>true) held n f.type [u]=some y:=by
 obtain⟨xs,n,_,_,_,hlen,az⟩:=DataW.trod_struct aS h;have U:=az i f bc;have ad:=(ic.1 bc).1;have e:(cs.drop f.offset).take 1=[u]:=by
  apply bZW;intro k
  cases k with
  | zero=>simp[hu]
  | succ k=>simp[List.getElem?_take]
 rw[af,e,hG (by omega)]at U;exact⟨n,_,U⟩
theorem tV{t fuel:Nat}{u:Value}{y:DataW CO×List MemPlace}(aS:P.underlying t=some .string)(h:DataW.trod enc P W base (λ_=>true) held fuel t [u]=some y):oR u:=by
 obtain⟨s,e,_⟩:=DataW.trod_string aS h;exact⟨s,by simpa using e⟩
theorem N4{t fuel:Nat}{u:Value}{y:DataW CO×List MemPlace}(aS:P.underlying t=some (.int .i64))(h:DataW.trod enc P W base (λ_=>true) held fuel t [u]=some y):yh u:=by
 obtain⟨s,e,_⟩:=DataW.trod_int aS h;exact⟨s,by simpa using e⟩
theorem aw5{t fuel:Nat}{u:Value}{y:DataW CO×List MemPlace}(aS:P.underlying t=some .bool)(h:DataW.trod enc P W base (λ_=>true) held fuel t [u]=some y):CN u:=by
 obtain⟨s,e,_⟩:=DataW.trod_bool aS h;exact⟨s,by simpa using e⟩
end
end
end Go.Dam.C
