/- What the functions of the program compute, for every input. -/
import Derived.Test.YtgklfcpppenojaaGreatDoorLawB
namespace Go.Dam.C
def iD(P:cr)(c:Nat->Rat)(x:Nat):Rat:=if x<P.n then c x else 0
def red(P:cr)(c:Nat->Rat)(T:b8)(k:Nat):Rat:=iD P c (T.aj k)+bs (λi=>iD P c (T.rows i)*T.M i k) P.m
def obj(P:cr)(c:Nat->Rat)(z:Nat->Rat):Rat:=bs (λj=>c j*z j) P.n
def room(P:cr)(v:Nat->Rat)(x:Nat)(way:Int):Option Rat:=match (if 0<way then P.up x else none) with
 | some u=>some (u-v x)
 | none=>(match (if way<0 then P.lo x else none) with
   | some l=>some (v x-l)
   | none=>none)
def e4(q:Rat):Rat:=if q<0 then -q else q
structure jI where
 gH:Option Rat
 ind:Option Nat
 rP:Nat
def jI.add(f:jI)(q:Rat)(i x:Nat):jI:=match f.gH with
 | none=>⟨some q,some i,x⟩
 | some p=>if q<p∨(q=p/\x<f.rP) then⟨some q,some i,x⟩ else f
def fv(P:cr)(T:b8)(col:Nat)(way:Int):Nat->jI
 | 0=>⟨room P T.v (T.aj col) way,none,T.aj col⟩
 | i+1=>if T.M i col=0 then fv P T col way i else match room P T.v (T.rows i) (way*cT (T.M i col)) with
   | none=>fv P T col way i
   | some r=>(fv P T col way i).add (r/e4 (T.M i col)) i (T.rows i)
def enters(P:cr)(c:Nat->Rat)(T:b8):Option Nat:=fX (λk=>decide (red P c T k≠0)&&can P T.v (T.aj k) (-cT (red P c T k))) T.aj P.n
def gl(P:cr)(c:Nat->Rat)(T:b8)(col:Nat):Int:=-cT (red P c T col)
def l3(P:cr)(T:b8)(col:Nat)(way:Int)(q:Rat):Option Nat->b8
 | none=>T.iC P col (if way<0 then -q else q)
 | some a=>(T.iC P col (if way<0 then -q else q)).fy a col
def pE(P:cr)(c:Nat->Rat)(T:b8):Option b8:=match enters P c T with
 | none=>none
 | some col=>(match (fv P T col (gl P c T col) P.m).gH with
   | none=>none
   | some q=>some (l3 P T col (gl P c T col) q (fv P T col (gl P c T col) P.m).ind))
section
variable{P:cr}{c:Nat->Rat}{T:b8}
theorem FP(h:Inv P T){z:Nat->Rat}(bl:CP P z):obj P c z=bs (λk=>red P c T k*z (T.aj k)) P.n:=by
 have aG:=h.sum λx=>iD P c x*z x;have ao:bs (λx=>iD P c x*z x) P.n=obj P c z:=eB λj aH=>by simp[iD,aH]
 have e2:bs (λi=>iD P c (P.n+i)*z (P.n+i)) P.m=0:=rN λi _=>by
  have:¬P.n+i<P.n:=by omega
  simp[iD,this]
 rw[ao,e2]at aG;have bd:bs (λi=>iD P c (T.rows i)*z (T.rows i)) P.m=bs (λk=>bs (λi=>iD P c (T.rows i)*T.M i k) P.m*z (T.aj k)) P.n:=by
  have:bs (λi=>iD P c (T.rows i)*z (T.rows i)) P.m=bs (λi=>bs (λk=>iD P c (T.rows i)*T.M i k*z (T.aj k)) P.n) P.m:=eB λi ad=>by
   rw[(h.fJ z).1 bl i ad,<-jl];exact eB λk _=>by grind
  rw[this,FG];refine eB λk _=>?_;have:bs (λi=>iD P c (T.rows i)*T.M i k*z (T.aj k)) P.m=bs (λi=>z (T.aj k)*(iD P c (T.rows i)*T.M i k)) P.m:=eB λi _=>by grind
  rw[this,jl];grind
 rw[bd,<-pC]at aG;have b1:bs (λk=>iD P c (T.aj k)*z (T.aj k)+bs (λi=>iD P c (T.rows i)*T.M i k) P.m*z (T.aj k)) P.n=bs (λk=>red P c T k*z (T.aj k)) P.n:=eB λk _=>by
  unfold red;grind
 rw[b1]at aG;grind
theorem azc{a b:Rat}(aN:0<=a)(ai:0<b):0<=a/b:=by
 apply hA.1;intro h;have U:0<(-(a/b))*b:=Rat.mul_pos (by grind) ai;have:a/b*b=a:=by grind
 grind
theorem oU{q:Rat}(h:q≠0):0<e4 q:=by
 unfold e4;by_cases U:q<0
 ·rw[bm U];grind
 ·rw[aU U];grind
theorem FQ{v:Nat->Rat}{x:Nat}{r:Rat}(h:room P v x 1=some r):∃u,P.up x=some u/\r=u-v x:=by
 unfold room at h;simp only[show(0:Int)<1 by decide,if_true,show ¬((1:Int)<0) by decide,if_false]at h
 cases hu:P.up x with
 | none=>rw[hu]at h;simp at h
 | some u=>rw[hu]at h;simp only[a6]at h;exact⟨u,rfl,h.symm⟩
theorem FR{v:Nat->Rat}{x:Nat}{r:Rat}(h:room P v x (-1)=some r):∃l,P.lo x=some l/\r=v x-l:=by
 unfold room at h;simp only[show ¬((0:Int) < -1) by decide,if_false,show((-1:Int)<0) by decide,if_true]at h
 cases hu:P.lo x with
 | none=>rw[hu]at h;simp at h
 | some u=>rw[hu]at h;simp only[a6]at h;exact⟨u,rfl,h.symm⟩
theorem JX{v:Nat->Rat}{x:Nat}{u:Rat}(h:P.up x=some u):room P v x 1=some (u-v x):=by
 unfold room;simp[h]
theorem JY{v:Nat->Rat}{x:Nat}{l:Rat}(h:P.lo x=some l):room P v x (-1)=some (v x-l):=by
 unfold room;simp[h]
theorem Zp{v:Nat->Rat}{x:Nat}{w:Int}(hw:w=1∨w=-1)(az:oS P v x){r:Rat}(h:room P v x w=some r):0<=r:=by
 rcases hw with rfl | rfl
 ·obtain⟨u,U,rfl⟩:=FQ h;have:=az.2 u U;grind
 ·obtain⟨u,U,rfl⟩:=FR h;have:=az.1 u U;grind
structure JZ(P:cr)(T:b8)(col:Nat)(way:Int)(k:Nat)(f:jI):Prop where
 FT:f.gH=none->room P T.v (T.aj col) way=none/\∀i,i<k->T.M i col≠0->room P T.v (T.rows i) (way*cT (T.M i col))=none
 own:f.ind=none->f.gH=room P T.v (T.aj col) way/\f.rP=T.aj col
 row:∀a,f.ind=some a->a<k/\T.M a col≠0/\f.rP=T.rows a/\∃r,room P T.v (T.rows a) (way*cT (T.M a col))=some r/\f.gH=some (r/e4 (T.M a col))
 J0:∀q,f.gH=some q->∀r,room P T.v (T.aj col) way=some r->q<=r/\(q=r->f.rP<=T.aj col)
 min:∀q,f.gH=some q->∀i,i<k->T.M i col≠0->∀r,room P T.v (T.rows i) (way*cT (T.M i col))=some r->q<=r/e4 (T.M i col)/\(q=r/e4 (T.M i col)->f.rP<=T.rows i)
theorem J1(P:cr)(T:b8)(col:Nat)(way:Int):∀k,JZ P T col way k (fv P T col way k)
 | 0=>by
   refine⟨λh=>⟨h,λi ad=>absurd ad (od _)⟩,λ_=>⟨rfl,rfl⟩,λa h=>(by cases h),λq h r an=>?_,λq h i ad=>absurd ad (od _)⟩;have h:room P T.v (T.aj col) way=some q:=h;rw[h]at an;cases an;exact⟨k3,λ_=>bR _⟩
 | k+1=>by
   have ih:=J1 P T col way k;generalize bc:fv P T col way k=f at ih;have stay:(∀r,T.M k col≠0->room P T.v (T.rows k) (way*cT (T.M k col))=some r->∃q,f.gH=some q/\q<=r/e4 (T.M k col)/\(q=r/e4 (T.M k col)->f.rP<=T.rows k))->JZ P T col way (k+1) f:=λag=>by
    refine⟨λh=>⟨(ih.FT h).1,λi ad dp=>?_⟩,ih.own,λa aN=>?_,ih.J0,λq aV i ad dp r an=>?_⟩
    ·by_cases e:i=k
     ·subst e
      cases an:room P T.v (T.rows i) (way*cT (T.M i col)) with
      | none=>rfl
      | some r=>
        obtain⟨q,U,_⟩:=ag r dp an;rw[h]at U;cases U
     ·exact(ih.FT h).2 i (by omega) dp
    ·obtain⟨U,aa⟩:=ih.row a aN;exact⟨by omega,aa⟩
    ·by_cases e:i=k
     ·subst e;obtain⟨kv,U,aa⟩:=ag r dp an;rw[aV]at U;cases U;exact aa
     ·exact ih.min q aV i (by omega) dp r an
   rw[fv,bc];by_cases dp:T.M k col=0
   ·rw[bm dp];exact stay λr h _=>absurd dp h
   ·rw[aU dp]
    cases an:room P T.v (T.rows k) (way*cT (T.M k col)) with
    | none=>exact stay λr _ h=>by rw[an]at h;cases h
    | some r=>
      obtain⟨q,aV⟩:=bZa (r/e4 (T.M k col));simp only[<-aV];have take:(∀p,f.gH=some p->q<p∨(q=p/\T.rows k<f.rP))->JZ P T col way (k+1) ⟨some q,some k,T.rows k⟩:=λaC=>by
       refine⟨λh=>(by cases h),λh=>(by cases h),λa aN=>?_,λkv h r' oV=>?_,λkv h i ad Zq r' oV=>?_⟩
       ·cases aN;exact⟨by omega,dp,rfl,r,an,by rw[aV]⟩
       ·cases h
        cases e:f.gH with
        | none=>rw[(ih.FT e).1]at oV;cases oV
        | some p=>
          obtain⟨U,aa⟩:=ih.J0 p e r' oV
          rcases aC p e with aq | ⟨aq,a8⟩
          ·exact⟨by grind,λe2=>by grind⟩
          ·exact⟨by grind,λe2=>by have:=aa (by grind);show T.rows k<=_;omega⟩
       ·cases h;by_cases FU:i=k
        ·subst FU;rw[an]at oV;cases oV;rw[<-aV];exact⟨k3,λ_=>bR _⟩
        ·cases e:f.gH with
         | none=>rw[(ih.FT e).2 i (by omega) Zq]at oV;cases oV
         | some p=>
           obtain⟨U,aa⟩:=ih.min p e i (by omega) Zq r' oV
           rcases aC p e with aq | ⟨aq,a8⟩
           ·exact⟨by grind,λe2=>by grind⟩
           ·exact⟨by grind,λe2=>by have:=aa (by grind);show T.rows k<=_;omega⟩
      unfold jI.add
      cases e:f.gH with
      | none=>exact take λp h=>by rw[e]at h;cases h
      | some p=>
        simp only;by_cases af:q<p∨(q=p/\T.rows k<f.rP)
        ·rw[bm af];exact take λyk h=>by rw[e]at h;cases h;exact af
        ·rw[aU af];refine stay λr' _ h=>?_;rw[an]at h;cases h;rw[<-aV];refine⟨p,e,?_,λe2=>?_⟩
         ·apply oa;intro aF;exact af (.inl (Rat.not_le.1 aF))
         ·apply oa;intro aF;exact af (.inr ⟨e2.symm,by omega⟩)
structure kT(P:cr)(c:Nat->Rat)(T:b8)(col:Nat)(way:Int)(f:jI)(q:Rat):Prop where
 af:col<P.n
 d:red P c T col≠0
 yl:way=-cT (red P c T col)
 can:can P T.v (T.aj col) way=true
 FM:∀k,k<P.n->red P c T k≠0->C.can P T.v (T.aj k) (-cT (red P c T k))=true->T.aj col<=T.aj k
 ej:JZ P T col way P.m f
 gH:f.gH=some q
theorem Zr{dY:b8}(h:pE P c T=some dY):∃col way f q,kT P c T col way f q/\dY=l3 P T col way q f.ind:=by
 unfold pE at h;split at h
 ·cases h
 ·rename_i col af;split at h
  ·cases h
  ·rename_i q aV;obtain⟨cy,dd,dy⟩:=zWd af;simp only[cG,eh]at dd dy;exact⟨col,_,_,q,⟨cy,dd.1,rfl,dd.2,λk ag U aa=>dy k ag ⟨U,aa⟩,J1 P T col _ P.m,aV⟩,(bZI h).symm⟩
def uE(P:cr)(T:b8):Prop:=∀x,x<P.n+P.m->oS P T.v x
theorem kT.cS{col:Nat}{way:Int}{f:jI}{q:Rat}(g:kT P c T col way f q):way=1∨way=-1:=by
 rw[g.yl]
 rcases lq g.d with⟨_,e⟩ | ⟨_,e⟩<;>rw[e]<;>simp
theorem CR{way:Int}(hw:way=1∨way=-1){M:Rat}(dp:M≠0):(way*cT M=1/\(way:Rat)*M=e4 M)∨(way*cT M=-1/\(way:Rat)*M=-e4 M):=by
 unfold e4
 rcases lq dp with⟨aD,e⟩ | ⟨aD,e⟩<;>rcases hw with rfl | rfl<;>rw[e]
 ·left;rw[aU (by grind)];refine⟨by decide,?_⟩;simp;try grind
 ·right;rw[aU (by grind)];refine⟨by decide,?_⟩;simp;try grind
 ·right;rw[bm aD];refine⟨by decide,?_⟩;simp;try grind
 ·left;rw[bm aD];refine⟨by decide,?_⟩;simp;try grind
theorem J2{way:Int}(hw:way=1∨way=-1){M:Rat}(dp:M≠0):way*cT M=1∨way*cT M=-1:=(CR hw dp).imp (·.1) (·.1)
theorem Zs{way:Int}(hw:way=1∨way=-1)(q:Rat):(if way<0 then -q else q)=(way:Rat)*q:=by
 rcases hw with rfl | rfl
 ·simp
 ·simp;grind
theorem kT.hB(bc:uE P T)(h:fh P T){col:Nat}{way:Int}{f:jI}{q:Rat}(g:kT P c T col way f q):0<=q:=by
 cases aN:f.ind with
 | none=>
   have:=(g.ej.own aN).1;rw[g.gH]at this;exact Zp g.cS (bc _ (h.c _ g.af)) this.symm
 | some a=>
   obtain⟨U,aa,_,r,aq,a8⟩:=g.ej.row a aN;rw[g.gH]at a8;cases a8;have:=Zp (J2 g.cS aa) (bc _ (h.r _ U)) aq;exact azc this (oU aa)
theorem kT.FV(h:fh P T){col:Nat}{way:Int}{f:jI}{q:Rat}(g:kT P c T col way f q){k:Nat}(ag:k<P.n):(l3 P T col way q f.ind).v (T.aj k)=if k=col then T.v (T.aj k)+(way:Rat)*q else T.v (T.aj k):=by
 have:(l3 P T col way q f.ind).v=(T.iC P col (if way<0 then -q else q)).v:=by cases f.ind<;>rfl
 rw[this,CQ h g.af ag,Zs g.cS]
theorem kT.Zt(h:fh P T){col:Nat}{way:Int}{f:jI}{q:Rat}(g:kT P c T col way f q){i:Nat}(ad:i<P.m):(l3 P T col way q f.ind).v (T.rows i)=T.v (T.rows i)+(way:Rat)*T.M i col*q:=by
 have:(l3 P T col way q f.ind).v=(T.iC P col (if way<0 then -q else q)).v:=by cases f.ind<;>rfl
 rw[this,Qp h g.af ad,Zs g.cS];grind
theorem kT.inv(h:Inv P T){col:Nat}{way:Int}{f:jI}{q:Rat}(g:kT P c T col way f q):Inv P (l3 P T col way q f.ind):=by
 cases aN:f.ind with
 | none=>exact h.iC g.af _
 | some a=>
   obtain⟨U,aa,_⟩:=g.ej.row a aN;exact(h.iC g.af _).fy U g.af aa
theorem kT.Qt(h:Inv P T)(bc:uE P T){col:Nat}{way:Int}{f:jI}{q:Rat}(g:kT P c T col way f q):uE P (l3 P T col way q f.ind):=by
 have aV:=g.hB bc h.bj;intro x az
 rcases h.bj.mE x az with⟨i,ad,rfl⟩ | ⟨k,ag,rfl⟩
 ·have hw:=bc _ (h.bj.r i ad);unfold oS;rw[g.Zt h.bj ad];by_cases dp:T.M i col=0
  ·rw[dp];have:T.v (T.rows i)+(way:Rat)*0*q=T.v (T.rows i):=by grind
   rw[this];exact hw
  ·have aC:=oU dp;have Zu:0<=e4 (T.M i col)*q:=jr (mO aC) aV
   rcases CR g.cS dp with⟨ao,e2⟩ | ⟨ao,e2⟩<;>rw[e2]
   ·refine⟨λl aO=>by have:=hw.1 l aO;grind,λu hu=>?_⟩;have an:=JX (v:=T.v) hu;have:=(g.ej.min q g.gH i ad dp _ (by rw[ao];exact an)).1;have:e4 (T.M i col)*q<=e4 (T.M i col)*((u-T.v (T.rows i))/e4 (T.M i col)):=A8 this (mO aC);have e:e4 (T.M i col)*((u-T.v (T.rows i))/e4 (T.M i col))=u-T.v (T.rows i):=by
     have:e4 (T.M i col)≠0:=by grind
     grind
    grind
   ·refine⟨λl aO=>?_,λu hu=>by have:=hw.2 u hu;grind⟩;have an:=JY (v:=T.v) aO;have:=(g.ej.min q g.gH i ad dp _ (by rw[ao];exact an)).1;have:e4 (T.M i col)*q<=e4 (T.M i col)*((T.v (T.rows i)-l)/e4 (T.M i col)):=A8 this (mO aC);have e:e4 (T.M i col)*((T.v (T.rows i)-l)/e4 (T.M i col))=T.v (T.rows i)-l:=by
     have:e4 (T.M i col)≠0:=by grind
     grind
    grind
 ·have hw:=bc _ (h.bj.c k ag);unfold oS;rw[g.FV h.bj ag];by_cases e:k=col
  ·subst e;simp only[if_true]
   rcases g.cS with rfl | rfl
   ·refine⟨λl aO=>by have:=hw.1 l aO;simp;grind,λu hu=>?_⟩;have:=(g.ej.J0 q g.gH _ (JX hu)).1;simp;grind
   ·refine⟨λl aO=>?_,λu hu=>by have:=hw.2 u hu;simp;grind⟩;have:=(g.ej.J0 q g.gH _ (JY aO)).1;simp;grind
  ·simp only[e,if_false];exact hw
theorem kT.obj(h:Inv P T){col:Nat}{way:Int}{f:jI}{q:Rat}(g:kT P c T col way f q):C.obj P c (l3 P T col way q f.ind).v=C.obj P c T.v-e4 (red P c T col)*q:=by
 rw[FP h (g.inv h).val,FP h h.val,sO g.af,sO (f:=λk=>red P c T k*T.v (T.aj k)) g.af,g.FV h.bj g.af,bm rfl];have e:bs (λk=>if k=col then 0 else red P c T k*(l3 P T col way q f.ind).v (T.aj k)) P.n=bs (λk=>if k=col then 0 else red P c T k*T.v (T.aj k)) P.n:=eB λk ag=>by
  by_cases e:k=col
  ·simp[e]
  ·simp only[e,if_false,g.FV h.bj ag]
 rw[e];have:red P c T col*(way:Rat)=-e4 (red P c T col):=by
  rw[g.yl];unfold e4
  rcases lq g.d with⟨aD,e⟩ | ⟨aD,e⟩<;>rw[e]
  ·rw[aU (by grind)];simp;try grind
  ·rw[bm aD];simp;try grind
 grind
end
section
variable{P:cr}{c:Nat->Rat}
structure CS(P:cr)(c:Nat->Rat)(T:b8)(a col:Nat)(way:Int):Prop where
 aN:a<P.m
 af:col<P.n
 uD:T.M a col≠0
 d:red P c T col≠0
 yl:way=-cT (red P c T col)
 can:can P T.v (T.aj col) way=true
 FM:∀k,k<P.n->red P c T k≠0->C.can P T.v (T.aj k) (-cT (red P c T k))=true->T.aj col<=T.aj k
 zero:room P T.v (T.rows a) (way*cT (T.M a col))=some 0
 Qq:∀i,i<P.m->T.M i col≠0->room P T.v (T.rows i) (way*cT (T.M i col))=some 0->T.rows a<=T.rows i
theorem CS.cS{T:b8}{a col:Nat}{way:Int}(g:CS P c T a col way):way=1∨way=-1:=by
 rw[g.yl]
 rcases lq g.d with⟨_,e⟩ | ⟨_,e⟩<;>rw[e]<;>simp
theorem kT.azd{T:b8}{col:Nat}{way:Int}{f:jI}(g:kT P c T col way f 0):∃a,f.ind=some a/\CS P c T a col way:=by
 cases aN:f.ind with
 | none=>
   exfalso;have h:=(g.ej.own aN).1;rw[g.gH]at h;have hk:=g.can
   rcases g.cS with rfl | rfl
   ·obtain⟨u,U,aa⟩:=FQ h.symm;have:=FK (by decide) hk u U;grind
   ·obtain⟨u,U,aa⟩:=FR h.symm;have:=FL (by decide) hk u U;grind
 | some a=>
   obtain⟨U,aa,aq,r,a8,cg⟩:=g.ej.row a aN;rw[g.gH]at cg;have aC:=oU aa;have an:r=0:=by
    have:(0:Rat)=r/e4 (T.M a col):=bZI cg;have dj:e4 (T.M a col)≠0:=by grind
    grind
   refine⟨a,rfl,U,g.af,aa,g.d,g.yl,g.can,g.FM,by rw[a8,an],λi ad dp h=>?_⟩;have j4:=(g.ej.min 0 g.gH i ad dp 0 h).2 (by
    have:=oU dp;have:e4 (T.M i col)≠0:=by grind
    grind)
   rw[aq]at j4;exact j4
theorem Zv{v:Nat->Rat}{x:Nat}{w:Int}(hw:w=1∨w=-1)(h:room P v x w=some 0):(w=1/\P.up x=some (v x))∨(w=-1/\P.lo x=some (v x)):=by
 rcases hw with rfl | rfl
 ·obtain⟨u,U,aa⟩:=FQ h;have:u=v x:=by grind
  exact .inl ⟨rfl,by rw[U,this]⟩
 ·obtain⟨u,U,aa⟩:=FR h;have:u=v x:=by grind
  exact .inr ⟨rfl,by rw[U,this]⟩
def kU(P:cr)(T:b8)(col:Nat)(way:Int)(x:Nat):Rat:=if x=T.aj col then(way:Rat) else bs (λi=>if T.rows i=x then T.M i col*(way:Rat) else 0) P.m
theorem uF{T:b8}(h:fh P T){col:Nat}{way:Int}(af:col<P.n){k:Nat}(ag:k<P.n):kU P T col way (T.aj k)=if k=col then(way:Rat) else 0:=by
 unfold kU;by_cases e:k=col
 ·subst e;simp
 ·have:T.aj k≠T.aj col:=λe2=>e (h.ci k col ag af e2);rw[aU this,aU e,rN λi ad=>by rw[aU (h.rc i k ad ag)]]
theorem CT{T:b8}(h:fh P T){col:Nat}{way:Int}(af:col<P.n){i:Nat}(ad:i<P.m):kU P T col way (T.rows i)=T.M i col*(way:Rat):=by
 unfold kU;rw[aU (h.rc i col ad af),qL (j:=i) ad λj aH aF=>by rw[aU λe=>aF (h.qM j i aH ad e)],bm rfl]
theorem Qu{T:b8}(h:Inv P T){col:Nat}{way:Int}(af:col<P.n):CP P (kU P T col way):=(h.fJ _).2 λi ad=>by
 rw[CT h.bj af ad,qL (j:=col) af λk ag aF=>by rw[uF h.bj af ag,aU aF,bZJ],uF h.bj af af,bm rfl]
theorem Zw{T:b8}(h:Inv P T){col:Nat}{way:Int}(af:col<P.n):obj P c (kU P T col way)=red P c T col*(way:Rat):=by
 rw[FP h (Qu h af),qL (j:=col) af λk ag aF=>by rw[uF h.bj af ag,aU aF,bZJ],uF h.bj af af,bm rfl]
structure Qv(P:cr)(c:Nat->Rat)(st:Nat->b8)(a dL:Nat->Nat)(w:Nat->Int)(L:Nat)(v:Nat->Rat):Prop where
 go:∀t,t<L->CS P c (st t) (a t) (dL t) (w t)
 eF:∀t,t<L->(st (t+1)).rows=((st t).fy (a t) (dL t)).rows
 inv:∀t,t<=L->Inv P (st t)
 Qt:∀x,x<P.n+P.m->oS P v x
 val:∀t,t<=L->∀x,x<P.n+P.m->(st t).v x=v x
theorem J3{v w:Nat->Rat}{x:Nat}{s:Int}(h:v x=w x):can P v x s=can P w x s:=by simp only[can,h]
theorem aze{v w:Nat->Rat}{x:Nat}{s:Int}(h:v x=w x):room P v x s=room P w x s:=by simp only[room,h]
theorem Zx{T:b8}(h:fh P T){a col:Nat}(aN:a<P.m)(af:col<P.n){dY:b8}(e:dY.rows=(T.fy a col).rows)(x:Nat):bas P dY x↔(x=T.aj col∨(bas P T x/\x≠T.rows a)):=by
 rw[<-FO h aN af x];unfold bas;rw[e]
theorem Qv.core{st:Nat->b8}{a dL:Nat->Nat}{w:Nat->Int}{L:Nat}{v:Nat->Rat}(R:Qv P c st a dL w L v)(s t r:Nat)(gz:s<t)(aS:t<L)(aO:(st s).rows (a s)=r)(he:(st t).aj (dL t)=r)
 (hle:∀u,s<=u->u<=t->(st u).rows (a u)<=r/\(st u).aj (dL u)<=r):False:=by
 have gs:=R.go s (by omega);have gt:=R.go t aS;have is:=R.inv s (by omega);have it:=R.inv t (by omega);have hw:=gs.cS;have nQ:∀j,r<j->∀d,s+d<=t->(bas P (st (s+d)) j↔bas P (st s) j):=by
  intro j aH d
  induction d with
  | zero=>exact λ_=>Iff.rfl
  | succ d ih=>
    intro aB;obtain⟨bn,bh⟩:=hle (s+d) (by omega) (by omega);have g:=R.go (s+d) (by omega);have i:=R.inv (s+d) (by omega);refine((Zx i.bj g.aN g.af (R.eF (s+d) (by omega)) j).trans ⟨λh=>?_,λh=>.inr ⟨h,by omega⟩⟩).trans (ih (by omega))
    rcases h with h | ⟨h,_⟩
    ·omega
    ·exact h
 obtain⟨W,kg⟩:=bZa (kU P (st s) (dL s) (w s));have azf:CP P W:=kg▸Qu is gs.af;have U:obj P c W<0:=by
  rw[kg,Zw is gs.af,gs.yl]
  rcases lq gs.d with⟨aD,e⟩ | ⟨aD,e⟩<;>rw[e]
  ·simp;grind
  ·simp;grind
 rw[FP it azf]at U;have We:(st s).aj (dL s)<r:=by
  have:=(hle s (bR _) (by omega)).2;have aF:(st s).aj (dL s)≠r:=λe=>is.bj.rc _ _ gs.aN gs.af (aO.trans e.symm);omega
 have mF:=R.val s (by omega);have Qw:=R.val t (by omega);have z1:r<P.n+P.m:=by rw[<-aO];exact is.bj.r _ gs.aN
 have Zy:W r=(st s).M (a s) (dL s)*(w s:Rat):=by rw[kg,<-aO];exact CT is.bj gs.af gs.aN
 have sk:=CR hw gs.uD;have bl:=Zv (J2 hw gs.uD) gs.zero;rw[aO,mF r z1]at bl;refine absurd (ay5 (f:=λk=>red P c (st t) k*W ((st t).aj k)) gt.af (λk ag=>?_) ?_) (hA.2 (mO U))
 ·have sR:=it.bj.c k ag;by_cases aB:red P c (st t) k=0
  ·show 0<=red P c (st t) k*_;rw[aB,lE];exact k3
  by_cases aH:r<(st t).aj k
  ·have hL:¬bas P (st t) ((st t).aj k):=λ⟨i,ad,e⟩=>it.bj.rc i k ad ag e;have aa:=nQ _ aH (t-s) (by omega);rw[show s+(t-s)=t by omega]at aa;obtain⟨k',vz,bw⟩:=Zn is.bj sR λh=>hL (aa.2 h);have:W ((st t).aj k)=0:=by
    rw[kg,<-bw,uF is.bj gs.af vz,aU];rintro rfl;omega
   show 0<=_*W _;rw[this,bZJ];exact k3
  ·by_cases JW:(st t).aj k=r
   ·have sN:k=dL t:=it.bj.ci _ _ ag gt.af (JW.trans he.symm);have hk:=gt.can;rw[he,gt.yl,<-sN]at hk;rw[J3 (Qw r z1)]at hk;show 0<=red P c (st t) k*W ((st t).aj k);rw[JW,Zy,bYp ((st s).M (a s) (dL s))]
    rcases lq aB with⟨aD,e⟩ | ⟨aD,e⟩<;>rw[e]at hk<;>rcases sk with⟨s1,s2⟩ | ⟨s1,s2⟩<;>rw[s1]at bl
    ·have:=jr (mO aD) (mO (oU gs.uD));rw[s2];grind
    ·rcases bl with⟨z,_⟩ | ⟨_,z⟩
     ·cases z
     ·have:=FL (by decide) hk _ z;exact absurd this bYo
    ·rcases bl with⟨_,z⟩ | ⟨z,_⟩
     ·have:=FK (by decide) hk _ z;exact absurd this bYo
     ·cases z
    ·have aq:0<=-red P c (st t) k:=by grind
     have:=jr aq (mO (oU gs.uD));rw[s2];grind
   ·have azg:(st t).aj k<r:=by omega
    have tA:can P (st t).v ((st t).aj k) (-cT (red P c (st t) k))=false:=by
     cases hk:can P (st t).v ((st t).aj k) (-cT (red P c (st t) k)) with
     | false=>rfl
     | true=>have:=gt.FM k ag aB hk;omega
    rw[J3 (Qw _ sR)]at tA;obtain⟨j,Zz⟩:=bZa ((st t).aj k);rw[<-Zz]at tA azg sR;show 0<=red P c (st t) k*W ((st t).aj k);rw[<-Zz];have key:∀(σ:Int),(σ=1∨σ=-1)->room P v j σ=some 0->(σ:Rat)*W j<=0:=by
     intro σ lP ym
     rcases is.bj.mE j sR with⟨i,ad,FU⟩ | ⟨k',vz,Qx⟩
     ·have CU:W j=(st s).M i (dL s)*(w s:Rat):=by rw[kg,<-FU];exact CT is.bj gs.af ad
      by_cases dp:(st s).M i (dL s)=0
      ·rw[CU,dp,lE,bZJ];exact k3
      ·have EV:w s*cT ((st s).M i (dL s))≠σ:=λe=>by
        have:=gs.Qq i ad dp (by rw[FU,e,aze (mF j sR)];exact ym);rw[aO,FU]at this;omega
       have aC:=oU dp;rw[CU]
       rcases CR hw dp with⟨s1,s2⟩ | ⟨s1,s2⟩<;>rw[s1]at EV<;>rcases lP with rfl | rfl
       ·exact absurd rfl EV
       ·simp;grind
       ·simp;grind
       ·exact absurd rfl EV
     ·by_cases sN:k'=dL s
      ·have CU:W j=(w s:Rat):=by rw[kg,<-Qx,uF is.bj gs.af vz,bm sN]
       have hk:=gs.can;rw[<-sN,Qx,J3 (mF j sR)]at hk;have azh:=Zv lP ym;rw[CU]
       rcases hw with eo | eo<;>rw[eo]at hk|-<;>rcases azh with⟨rfl,z⟩ | ⟨rfl,z⟩
       ·exact absurd (FK (by decide) hk _ z) bYo
       ·simp;grind
       ·simp;grind
       ·exact absurd (FL (by decide) hk _ z) bYo
      ·have CU:W j=0:=by rw[kg,<-Qx,uF is.bj gs.af vz,aU sN]
       rw[CU,bZJ];exact k3
    have ZA:=R.Qt j sR
    rcases lq aB with⟨aD,e⟩ | ⟨aD,e⟩<;>rw[e]at tA
    ·obtain⟨l,ck,cJ⟩:=JT (by decide) tA;have eT:=ZA.1 l ck;have:=key (-1) (.inr rfl) (by rw[JY ck];congr 1;grind);have a8:0<=W j:=by simp at this;grind
     exact jr (mO aD) a8
    ·obtain⟨l,ck,cJ⟩:=JS (by decide) tA;have eT:=ZA.2 l ck;have:=key 1 (.inl rfl) (by rw[JX ck];congr 1;grind);have a8:0<=-W j:=by simp at this;grind
     have cg:0<=-red P c (st t) k:=by grind
     have:=jr cg a8;grind
 ·have hk:=gt.can;rw[he,gt.yl]at hk;rw[J3 (Qw r z1)]at hk;show 0<red P c (st t) (dL t)*W ((st t).aj (dL t));rw[he,Zy,bYp ((st s).M (a s) (dL s))]
  rcases lq gt.d with⟨aD,e⟩ | ⟨aD,e⟩<;>rw[e]at hk<;>rcases sk with⟨s1,s2⟩ | ⟨s1,s2⟩<;>rw[s1]at bl
  ·have:=Rat.mul_pos aD (oU gs.uD);rw[s2];grind
  ·rcases bl with⟨z,_⟩ | ⟨_,z⟩
   ·cases z
   ·exact absurd (FL (by decide) hk _ z) bYo
  ·rcases bl with⟨_,z⟩ | ⟨z,_⟩
   ·exact absurd (FK (by decide) hk _ z) bYo
   ·cases z
  ·have aq:0 < -red P c (st t) (dL t):=by grind
   have:=Rat.mul_pos aq (oU gs.uD);rw[s2];grind
def cP(B:Nat)(q:Rat):Prop:=q.num.natAbs<=B/\q.den<=B
theorem Ad(q:Rat):q*(q.den:Rat)=(q.num:Rat):=by
 have h:=Rat.num_divInt_den q;rw[Rat.divInt_eq_div]at h;have aB:(q.den:Rat)≠0:=by
  intro e;have:q.den=0:=by exact_mod_cast e
  exact q.den_nz this
 have e:((q.den:Int):Rat)=(q.den:Rat):=q3 _;rw[e]at h;grind
theorem azi{B:Nat}{p q:Rat}(aC:cP B p)(aV:cP B q)(h:p<q):1<=(q-p)*((B:Rat)*B):=by
 have qo:(0:Rat)<p.den:=by exact_mod_cast p.den_pos
 have ru:(0:Rat)<q.den:=by exact_mod_cast q.den_pos
 have Qy:p*p.den=p.num:=Ad p;have azj:q*q.den=q.num:=Ad q;have U:0<(q-p)*((p.den:Rat)*q.den):=Rat.mul_pos (by grind) (Rat.mul_pos qo ru);have e:(q-p)*((p.den:Rat)*q.den)=((q.num*p.den-p.num*q.den:Int):Rat):=by
  simp only[Rat.intCast_sub,bXk,<-Qy,<-azj,q3];grind
 rw[e]at U;have aa:0<q.num*p.den-p.num*q.den:=by exact_mod_cast U
 have aq:(1:Rat)<=((q.num*p.den-p.num*q.den:Int):Rat):=by exact_mod_cast aa
 rw[<-e]at aq;have azk:(p.den:Rat)<=B:=by exact_mod_cast aC.2
 have azl:(q.den:Rat)<=B:=by exact_mod_cast aV.2
 have a8:(p.den:Rat)*q.den<=(B:Rat)*B:=by
  have cx:=bWH azk (mO ru);have dC:(0:Rat)<=B:=by grind
  have a2:=A8 azl dC;grind
 have cg:=A8 a8 (show(0:Rat)<=q-p by grind);grind
theorem ZB{B:Nat}{p:Rat}(aC:cP B p):-(B:Rat)<=p/\p<=B:=by
 have qo:(1:Rat)<=p.den:=by exact_mod_cast p.den_pos
 have Qy:p*p.den=p.num:=Ad p;have U:-(B:Int)<=p.num/\p.num<=B:=by have:=aC.1;omega
 have aa:-(B:Rat)<=p.num:=by
  have h:((-(B:Int):Int):Rat)<=p.num:=by exact_mod_cast U.1
  rwa [Rat.intCast_neg,q3]at h
 have aq:(p.num:Rat)<=B:=by exact_mod_cast U.2
 rw[<-Qy]at aa aq;have dC:(0:Rat)<=B:=by exact_mod_cast Nat.zero_le B
 constructor
 ·apply hA.1;intro h;have a8:p<0:=by grind
  have:=A8 qo (show(0:Rat)<=-p by grind);grind
 ·apply hA.1;intro h;have a8:0<p:=by grind
  have:=A8 qo (mO a8);grind
theorem ZC{T:b8}{col:Nat}{q:Rat}(aV:q=0):∀k x,iT T col q k x=T.v x
 | 0,x=>by
   show(if x=T.aj col then _ else _)=_;subst aV;split<;>grind
 | k+1,x=>by
   show(if x=T.rows k then iT T col q k x+T.M k col*q else iT T col q k x)=_;rw[ZC aV k x,aV];split<;>grind
theorem azm(G:b8->Prop)(bA:∀T dY,G T->pE P c T=some dY->G dY)(ad:∀T,G T->Inv P T/\uE P T){B:Nat}(dC:∀T,G T->cP B (obj P c T.v)){T:b8}(bK:G T):Ends (pE P c) T:=by
 apply oa;intro dr;obtain⟨st,aD,gz⟩:=Zj dr;have aK:∀t,G (st t):=by
  intro t
  induction t with
  | zero=>rw[aD];exact bK
  | succ t ih=>exact bA _ _ ih (gz t)
 have lM:∀t,∃p:Nat×Int×jI×Rat,kT P c (st t) p.1 p.2.1 p.2.2.1 p.2.2.2/\st (t+1)=l3 P (st t) p.1 p.2.1 p.2.2.2 p.2.2.1.ind:=λt=>by
  obtain⟨col,way,f,q,U,aa⟩:=Zr (gz t);exact⟨(col,way,f,q),U,aa⟩
 have BI:∀t,obj P c (st (t+1)).v<=obj P c (st t).v:=λt=>by
  obtain⟨p,g,e⟩:=lM t;obtain⟨i1,i2⟩:=ad _ (aK t);rw[e,g.obj i1];have:=jr (mO (oU g.d)) (g.hB i2 i1.bj);grind
 have azn:∀d t,obj P c (st (t+d)).v<=obj P c (st t).v:=by
  intro d
  induction d with
  | zero=>exact λt=>k3
  | succ d ih=>exact λt=>Rat.le_trans (BI (t+d)) (ih t)
 have Bp:∀t,∃u,t<=u/\obj P c (st (u+1)).v<obj P c (st u).v:=by
  intro t;apply oa;intro aF;have aV:∀u,t<=u->∃p:Nat×Nat×Int,CS P c (st u) p.1 p.2.1 p.2.2/\(st (u+1)).rows=((st u).fy p.1 p.2.1).rows/\∀x,(st (u+1)).v x=(st u).v x:=λu hu=>by
   obtain⟨⟨col,way,f,q⟩,g,e⟩:=lM u;simp only at g e;obtain⟨i1,i2⟩:=ad _ (aK u);have sS:=g.hB i2 i1.bj;have bl:q=0:=by
    apply oa;intro dr;apply aF;refine⟨u,hu,?_⟩;rw[e,g.obj i1];have:=Rat.mul_pos (oU g.d) (show 0<q by grind);grind
   subst bl;obtain⟨a,aN,aB⟩:=g.azd;rw[aN]at e;refine⟨(a,col,way),aB,by rw[e];rfl,λx=>?_⟩;rw[e];show iT (st u) col (if way<0 then -0 else 0) P.m x=_;exact ZC (by split<;>grind) _ _
  have ju:∀d,∃p:Nat×Nat×Int,CS P c (st (t+d)) p.1 p.2.1 p.2.2/\(st (t+d+1)).rows=((st (t+d)).fy p.1 p.2.1).rows/\∀x,(st (t+d+1)).v x=(st (t+d)).v x:=λd=>aV (t+d) (by omega);have mq:∀d,∀x,(st (t+d)).v x=(st t).v x:=by
   intro d
   induction d with
   | zero=>exact λx=>rfl
   | succ d ih=>exact λx=>((bYi (ju d)).2.2 x).trans (ih x)
  have R:Qv P c (λd=>st (t+d)) (λd=>(Classical.choose (ju d)).1) (λd=>(Classical.choose (ju d)).2.1) (λd=>(Classical.choose (ju d)).2.2) (3^(P.n+P.m)) (st t).v:=
   ⟨λd _=>(bYi (ju d)).1,λd _=>(bYi (ju d)).2.1,λd _=>(ad _ (aK _)).1,(ad _ (aK t)).2,λd _ x _=>mq d x⟩
  refine Qm (bas:=λd x=>bas P (st (t+d)) x) (lv:=λd=>(st (t+d)).rows ((Classical.choose (ju d)).1)) (en:=λd=>(st (t+d)).aj ((Classical.choose (ju d)).2.1)) (λd aB x=>?_) (λd aB=>?_) (λs u r U aa aq a8 cg _=>R.core s u r U aa aq a8 cg) (P.n+P.m) 0 (λd _ aB=>?_) (by omega)
  ·have g:=R.go d aB;exact Zx (ad _ (aK _)).1.bj g.aN g.af (R.eF d aB) x
  ·have g:=R.go d aB;have i:=(ad _ (aK (t+d))).1;exact⟨⟨_,g.aN,rfl⟩,λ⟨j,aH,e⟩=>i.bj.rc j _ aH g.af e⟩
  ·have g:=R.go d (by omega);have i:=(ad _ (aK (t+d))).1;exact⟨i.bj.r _ g.aN,i.bj.c _ g.af⟩
 have iE:∀K:Nat,∃t,(K:Rat)<=(obj P c (st 0).v-obj P c (st t).v)*((B:Rat)*B):=by
  intro K
  induction K with
  | zero=>exact⟨0,by simp;grind⟩
  | succ K ih=>
    obtain⟨t,h⟩:=ih;obtain⟨u,U,aa⟩:=Bp t;have aq:=azn (u-t) t;rw[show t+(u-t)=u by omega]at aq;have a8:=azi (dC _ (aK (u+1))) (dC _ (aK u)) aa;have Qz:(0:Rat)<=(B:Rat)*B:=by
     have dC:(0:Rat)<=B:=by exact_mod_cast Nat.zero_le B
     exact jr dC dC
    have cg:=bWH aq Qz;refine⟨u+1,?_⟩;have:((K+1:Nat):Rat)=(K:Rat)+1:=by simp
    rw[this];grind
 obtain⟨t,h⟩:=iE (2*B*(B*B)+1);obtain⟨cR,b9⟩:=ZB (dC _ (aK 0));obtain⟨fK,rQ⟩:=ZB (dC _ (aK t));have Qz:(0:Rat)<=(B:Rat)*B:=by
  have dC:(0:Rat)<=B:=by exact_mod_cast Nat.zero_le B
  exact jr dC dC
 have cg:=bWH (show obj P c (st 0).v-obj P c (st t).v<=2*(B:Rat) by grind) Qz;have e:((2*B*(B*B)+1:Nat):Rat)=2*(B:Rat)*((B:Rat)*B)+1:=by simp
 rw[e]at h;grind
end
def ko(j l:Nat):Rat:=if j<l then 1 else if l<j then -1 else 0
theorem azo(j l:Nat):ko l j=-ko j l:=by
 unfold ko;by_cases U:j<l
 ·rw[aU (by omega),bm U,bm U]
 ·by_cases aa:l<j
  ·rw[bm aa,aU U,bm aa];grind
  ·rw[aU aa,aU U,aU U,aU aa];grind
def fZ(n:Nat):List (Nat->Rat)->(Nat->Rat)->Rat
 | [],_=>1
 | r::rs,w=>bs (λj=>r j*w j*fZ n rs (λl=>w l*ko j l)) n
section
variable{n:Nat}
theorem azp(r s:Nat->Rat)(B:List (Nat->Rat))(w:Nat->Rat):fZ n (r::s::B) w=-fZ n (s::r::B) w:=by
 have ex:∀(r s:Nat->Rat),fZ n (r::s::B) w=bs (λj=>bs (λl=>r j*s l*(w j*w l*ko j l*fZ n B (λx=>w x*ko j x*ko l x))) n) n:=λr s=>by
  simp only[fZ];refine eB λj _=>?_;rw[<-jl];exact eB λl _=>by grind
 rw[ex,ex,FG];have:∀(f:Nat->Rat) (N:Nat),-bs f N=bs (λi=>-f i) N:=λf N=>by
  have:=jl (-1) f N;rw[show(λi=>-f i)=λi=>(-1)*f i from funext λi=>by grind,this];grind
 rw[this];refine eB λj _=>?_;rw[this];refine eB λl _=>?_;have e:(λx=>w x*ko l x*ko j x)=λx=>w x*ko j x*ko l x:=funext λx=>by grind
 rw[e,azo j l];grind
theorem QA(r s:Nat->Rat)(B:List (Nat->Rat)):∀(A:List (Nat->Rat)) (w:Nat->Rat),fZ n (A++r::s::B) w=-fZ n (A++s::r::B) w
 | [],w=>azp r s B w
 | a::A,w=>by
   simp only[bZQ,fZ];have:=jl (-1) (λj=>a j*w j*fZ n (A++s::r::B) (λl=>w l*ko j l)) n;have e:bs (λj=>a j*w j*fZ n (A++r::s::B) (λl=>w l*ko j l)) n=bs (λj=>(-1)*(a j*w j*fZ n (A++s::r::B) (λl=>w l*ko j l))) n:=eB λj _=>by
    rw[QA r s B A];grind
   rw[e,this];grind
theorem QB(r:Nat->Rat)(w:Nat->Rat):∀(B A:List (Nat->Rat)),r∈B->fZ n (A++r::B) w=0
 | [],_,h=>by cases h
 | s::B,A,h=>by
   by_cases e:r=s
   ·subst e;have:=QA (n:=n) r r B A w;grind
   ·have dC:r∈B:=by
     rcases lD.1 h with h | h
     ·exact absurd h e
     ·exact h
    rw[QA];have:=QB r w B (A++[s]) dC;rw[bYU]at this;have e2:A++([s]++r::B)=A++s::r::B:=rfl;rw[e2]at this;rw[this];grind
theorem azq(r:Nat->Rat)(w:Nat->Rat){A B:List (Nat->Rat)}(h:r∈A∨r∈B):fZ n (A++r::B) w=0:=by
 rcases h with h | h
 ·obtain⟨fL,fV,rfl⟩:=List.append_of_mem h;rw[bYU];exact QB r w (fV++r::B) fL (List.mem_append_right _ (.head _))
 ·exact QB r w B A h
theorem QC:∀{A A':List (Nat->Rat)} (w:Nat->Rat),A.length=A'.length->(∀(i:Nat) (r r':Nat->Rat),A[i]? = some r->A'[i]? = some r'->∀j,j<n->r j=r' j)->fZ n A w=fZ n A' w
 | [],[],_,_,_=>rfl
 | r::A,r'::A',w,aO,h=>by
   simp only[fZ];refine eB λj aH=>?_;rw[h 0 r r' rfl rfl j aH,QC (λl=>w l*ko j l) (by simpa using aO) λi a a' e bw=>h (i+1) a a' (by simpa using e) (by simpa using bw)]
 | [],_::_,_,aO,_=>by simp at aO
 | _::_,[],_,aO,_=>by simp at aO
theorem QD(a b:Rat)(r s:Nat->Rat)(B:List (Nat->Rat)):∀(A:List (Nat->Rat)) (w:Nat->Rat),fZ n (A++(λj=>a*r j+b*s j)::B) w=a*fZ n (A++r::B) w+b*fZ n (A++s::B) w
 | [],w=>by
   simp only[bXK,fZ];rw[<-jl,<-jl,<-pC];exact eB λj _=>by grind
 | c::A,w=>by
   simp only[bZQ,fZ];rw[<-jl,<-jl,<-pC];refine eB λj _=>?_;rw[QD a b r s B A];grind
theorem ZD(f:Nat->Nat->Rat)(m:Nat->Rat)(A B:List (Nat->Rat))(w:Nat->Rat):∀N,fZ n (A++(λj=>bs (λi=>m i*f i j) N)::B) w=bs (λi=>m i*fZ n (A++f i::B) w) N
 | 0=>by
   have:=QD (n:=n) 0 0 (λ_=>0) (λ_=>0) B A w;have e:(λj=>bs (λi=>m i*f i j) 0)=λj=>(0:Rat)*(λ_=>(0:Rat)) j+0*(λ_=>(0:Rat)) j:=by
    funext j;simp[bs,bZP]
   rw[e,this];simp only[bs];grind
 | N+1=>by
   have e:(λj=>bs (λi=>m i*f i j) (N+1))=λj=>1*(λj=>bs (λi=>m i*f i j) N) j+m N*f N j:=by
    funext j;simp only[bs];grind
   rw[e,QD,ZD f m A B w N];simp only[bs];grind
theorem azr{N:Nat}{C:Nat->Nat->Rat}{g m:Nat->Rat}(aK:∀j,j<n->g j=bs (λk=>m k*C k j) N){k:Nat}(ag:k<N)(w:Nat->Rat):
 fZ n (((List.range N).map C).take k++g::((List.range N).map C).drop (k+1)) w=m k*fZ n ((List.range N).map C) w:=by
 have ao:fZ n (((List.range N).map C).take k++g::((List.range N).map C).drop (k+1)) w=fZ n (((List.range N).map C).take k++(λj=>bs (λi=>m i*C i j) N)::((List.range N).map C).drop (k+1)) w:=by
  refine QC w (by simp) λi r r' h gJ j aH=>?_;have aO:(((List.range N).map C).take k).length=k:=by simp;omega
  by_cases ad:i<k
  ·rw[lB (by omega)]at h gJ;rw[h]at gJ;cases gJ;rfl
  ·rw[lA (by omega),aO]at h gJ;by_cases JP:i=k
   ·subst JP;simp at h gJ;subst h gJ;exact aK j aH
   ·obtain⟨d,aB⟩:∃d,i-k=d+1:=⟨i-k-1,by omega⟩;rw[aB]at h gJ;simp only[bZZ]at h gJ;rw[h]at gJ;cases gJ;rfl
 rw[ao,ZD,qL (j:=k) ag λi ad aF=>?_]
 ·congr 1;have:((List.range N).map C).take k++C k::((List.range N).map C).drop (k+1)=(List.range N).map C:=by
   have h:((List.range N).map C)[k]'(by simpa using ag)=C k:=by simp
   rw[<-h,<-List.drop_eq_getElem_cons,bXA]
  rw[this]
 ·rw[azq (C i) w,bZJ];have J4:∀(l:List (Nat->Rat)) (q:Nat),l[q]? = some (C i)->C i∈l:=λl q h=>fR h;by_cases h:i<k
  ·refine .inl (J4 _ i ?_);rw[pT h];simp[ad]
  ·refine .inr (J4 _ (i-(k+1)) ?_);rw[o',show k+1+(i-(k+1))=i by omega];simp[ad]
theorem azs{N:Nat}{C J5:Nat->Nat->Rat}{g:Nat->Rat}{k:Nat}(ag:k<N)(h:∀i,i<N->J5 i=if i=k then g else C i)(_cYR:Nat->Rat):(List.range N).map J5=((List.range N).map C).take k++g::((List.range N).map C).drop (k+1):=by
 apply bYj;intro i;have aO:(((List.range N).map C).take k).length=k:=by simp;omega
 by_cases ad:i<N
 ·have e:((List.range N).map J5)[i]? = some (J5 i):=by simp[ad]
  rw[e,h i ad];by_cases U:i<k
  ·rw[aU (by omega),lB (by omega),pT U];simp[ad]
  ·rw[lA (by omega),aO];by_cases aa:i=k
   ·subst aa;simp
   ·obtain⟨d,aB⟩:∃d,i-k=d+1:=⟨i-k-1,by omega⟩;rw[aB,aU aa,bZZ,o',show k+1+d=i by omega];simp[ad]
 ·rw[jq (by simp;omega),jq (by simp;omega)]
def fz(q:Rat)(b:Nat):Prop:=∃z:Int,q=z/\z.natAbs<=b
theorem fz.mono{q:Rat}{a b:Nat}(h:fz q a)(nQ:a<=b):fz q b:=let ⟨z,U,aa⟩:=h;⟨z,U,bH aa nQ⟩
theorem fz.add{p q:Rat}{a b:Nat}(h:fz p a)(g:fz q b):fz (p+q) (a+b):=by
 obtain⟨x,rfl,U⟩:=h;obtain⟨y,rfl,aa⟩:=g;exact⟨x+y,by simp[Rat.intCast_add],bH (Int.natAbs_add_le _ _) (by omega)⟩
theorem fz.mul{p q:Rat}{a b:Nat}(h:fz p a)(g:fz q b):fz (p*q) (a*b):=by
 obtain⟨x,rfl,U⟩:=h;obtain⟨y,rfl,aa⟩:=g;exact⟨x*y,by simp,by rw[bYc];exact ie U aa⟩
theorem fz.sum{f:Nat->Rat}{b:Nat}:∀{n:Nat},(∀i,i<n->fz (f i) b)->fz (bs f n) (n*b)
 | 0,_=>⟨0,by simp[bs],by simp⟩
 | n+1,h=>by
   rw[bs,bZz];exact(fz.sum λi ad=>h i (by omega)).add (h n (by omega))
theorem azt(j l:Nat):fz (ko j l) 1:=by
 unfold ko;by_cases U:j<l
 ·rw[bm U];exact⟨1,by simp,by decide⟩
 ·by_cases aa:l<j
  ·rw[aU U,bm aa];exact⟨-1,by simp,by decide⟩
  ·rw[aU U,aU aa];exact⟨0,by simp,by decide⟩
theorem QE{E:Nat}:∀{A:List (Nat->Rat)} {w:Nat->Rat},(∀r∈A,∀j,j<n->fz (r j) E)->(∀j,fz (w j) 1)->fz (fZ n A w) ((n*E)^A.length)
 | [],_,_,_=>⟨1,by simp[fZ],by simp⟩
 | r::A,w,h,hw=>by
   simp only[fZ,bZt,bZh];have:=fz.sum (f:=λj=>r j*w j*fZ n A (λl=>w l*ko j l)) (b:=E*1*(n*E)^A.length) (n:=n) λj aH=>
    ((h r (.head _) j aH).mul (hw j)).mul (QE (λr an=>h r (.tail _ an)) λl=>(hw l).mul (azt j l))
   refine this.mono (Nat.le_of_eq ?_);rw[Nat.mul_one,<-og,gw]
theorem FW{q p r:Rat}{a b B:Nat}(h:q*r=p)(aC:fz p a)(an:fz r b)(aD:r≠0)(aN:a<=B)(ai:b<=B):cP B q:=by
 obtain⟨x,rfl,U⟩:=aC;obtain⟨y,rfl,aa⟩:=an;have bu:y≠0:=by rintro rfl;exact aD (by simp)
 have e:q.num*y=x*q.den:=by
  have U:((q.num*y:Int):Rat)=((x*(q.den:Int):Int):Rat):=by
   rw[bXk,bXk,<-Ad q,q3];grind
  exact_mod_cast U
 have e2:q.num.natAbs*y.natAbs=x.natAbs*q.den:=by
  have:=congrArg Int.natAbs e;simpa [bYc]using this
 have aB:q.den∣y.natAbs:=q.reduced.symm.dvd_of_dvd_mul_left (e2▸Nat.dvd_mul_left _ _);have aF:q.num.natAbs∣x.natAbs:=q.reduced.dvd_of_dvd_mul_right (e2▸Nat.dvd_mul_right _ _);have azu:0<y.natAbs:=Int.natAbs_pos.2 bu;refine⟨?_,bH (Nat.le_of_dvd azu aB) (by omega)⟩;by_cases az:x=0
 ·subst az;rw[Int.natAbs_zero,Nat.zero_mul]at e2
  rcases Nat.mul_eq_zero.1 e2 with e2 | e2
  ·rw[e2];exact Nat.zero_le _
  ·omega
 ·exact bH (Nat.le_of_dvd (Int.natAbs_pos.2 az) aF) (by omega)
end
def form(P:cr)(x j:Nat):Rat:=if x<P.n then(if x=j then 1 else 0) else P.A (x-P.n) j
section
variable{P:cr}{c:Nat->Rat}{T:b8}
theorem ZE(P:cr){j:Nat}(aH:j<P.n):CP P λx=>form P x j:=λi ad=>by
 have U:¬P.n+i<P.n:=by omega
 show form P (P.n+i) j=bs (λk=>P.A i k*form P k j) P.n;rw[qL (j:=j) aH λk ag aF=>by simp[form,ag,aF]];simp only[form,U,if_false,aH,if_true,Nat.add_sub_cancel_left];grind
theorem QF(h:Inv P T){i:Nat}(ad:i<P.m){j:Nat}(aH:j<P.n):form P (T.rows i) j=bs (λk=>T.M i k*form P (T.aj k) j) P.n:=(h.fJ _).1 (ZE P aH) i ad
theorem ZF(h:Inv P T){j:Nat}(aH:j<P.n):c j=bs (λk=>red P c T k*form P (T.aj k) j) P.n:=by
 rw[<-FP (c:=c) h (ZE P aH),obj,qL (j:=j) aH λk ag aF=>by simp[form,ag,aF]];simp only[form,aH,if_true];grind
structure rR(P:cr)(s:Nat->Nat)(S E:Nat):Prop where
 pos:∀x,1<=s x
 le:∀x,s x<=S
 one:∀x,x<P.n->s x=1
 z:∀x j,x<P.n+P.m->j<P.n->fz ((s x:Rat)*form P x j) E
def nt(P:cr)(s:Nat->Nat)(T:b8)(k j:Nat):Rat:=(s (T.aj k):Rat)*form P (T.aj k) j
def h9(P:cr)(s:Nat->Nat)(T:b8):Rat:=fZ P.n ((List.range P.n).map (nt P s T)) λ_=>1
theorem FX{s:Nat->Nat}(h:∀x,1<=s x)(x:Nat):(s x:Rat)≠0:=by
 have:=h x;intro e;have:s x=0:=by exact_mod_cast e
 omega
theorem QG{s:Nat->Nat}(aG:∀x,1<=s x){g:Nat->Rat}{m:Nat->Rat}{t:Nat}(aK:∀j,j<P.n->g j=bs (λk=>m k*form P (T.aj k) j) P.n){k:Nat}(ag:k<P.n):
 fZ P.n (((List.range P.n).map (nt P s T)).take k++(λj=>(t:Rat)*g j)::((List.range P.n).map (nt P s T)).drop (k+1)) (λ_=>1)*(s (T.aj k):Rat)=m k*((t:Rat)*h9 P s T):=by
 have U:∀j,j<P.n->(λj=>(t:Rat)*g j) j=bs (λk=>((t:Rat)*m k/(s (T.aj k):Rat))*nt P s T k j) P.n:=λj aH=>by
  show(t:Rat)*g j=_;rw[aK j aH,<-jl];refine eB λk _=>?_;unfold nt;have:=FX aG (T.aj k);grind
 rw[azr U ag,h9];have:=FX aG (T.aj k);grind
theorem ZG{s:Nat->Nat}(aG:∀x,1<=s x)(h:Inv P T){a col:Nat}(aN:a<P.m)(af:col<P.n)(aC:T.M a col≠0)(gx:h9 P s T≠0):h9 P s (T.fy a col)≠0:=by
 have U:=QG (T:=T) aG (t:=s (T.rows a)) (λj aH=>QF h aN aH) af;have aa:(List.range P.n).map (nt P s (T.fy a col))=((List.range P.n).map (nt P s T)).take col++(λj=>(s (T.rows a):Rat)*form P (T.rows a) j)::((List.range P.n).map (nt P s T)).drop (col+1):=by
  refine azs af (λi ad=>?_) (λ_=>1);funext j;unfold nt;by_cases e:i=col
  ·subst e;show(s (if i=i then _ else _):Rat)*form P (if i=i then _ else _) j=_;simp
  ·show(s (if i=col then _ else _):Rat)*form P (if i=col then _ else _) j=_;simp[e]
 rw[<-aa]at U;intro aD;have aq:fZ P.n ((List.range P.n).map (nt P s (T.fy a col))) (λ_=>1)=0:=aD;rw[aq,lE]at U;have:=FX aG (T.rows a);have a8:T.M a col*((s (T.rows a):Rat)*h9 P s T)=0:=U.symm
 rcases bYu.1 a8 with cg | cg
 ·exact aC cg
 ·rcases bYu.1 cg with dj | dj
  ·exact this dj
  ·exact gx dj
theorem J6{s:Nat->Nat}{S:Nat}(h:∀x,s x<=S)(x:Nat):fz (s x:Rat) S:=⟨(s x:Int),(q3 _).symm,by simpa using h x⟩
variable{s:Nat->Nat}{S E:Nat}
theorem QH(aG:rR P s S E)(h:fh P T):∀r∈(List.range P.n).map (nt P s T),∀j,j<P.n->fz (r j) E:=by
 intro r an j aH;obtain⟨k,ag,rfl⟩:=bZT.1 an;exact aG.z _ j (h.c k (bXe.1 ag)) aH
theorem FY(aG:rR P s S E)(h:fh P T):fz (h9 P s T) ((P.n*E)^P.n):=by
 have:=QE (n:=P.n) (w:=λ_=>1) (QH aG h) λ_=>⟨1,by simp,by decide⟩;simpa [h9]using this
theorem ZH(aG:rR P s S E)(h:fh P T){g:Nat->Rat}(aK:∀j,j<P.n->fz (g j) E){k:Nat}(ag:k<P.n):fz (fZ P.n (((List.range P.n).map (nt P s T)).take k++g::((List.range P.n).map (nt P s T)).drop (k+1)) λ_=>1) ((P.n*E)^P.n):=by
 have:=QE (n:=P.n) (E:=E) (w:=λ_=>1) (A:=((List.range P.n).map (nt P s T)).take k++g::((List.range P.n).map (nt P s T)).drop (k+1)) (λr an j aH=>by
  rcases bYv.1 an with an | an
  ·exact QH aG h r (bYk an) j aH
  ·rcases lD.1 an with rfl | an
   ·exact aK j aH
   ·exact QH aG h r (bWe an) j aH) λ_=>⟨1,by simp,by decide⟩
 have aO:(((List.range P.n).map (nt P s T)).take k++g::((List.range P.n).map (nt P s T)).drop (k+1)).length=P.n:=by simp;omega
 rwa [aO]at this
theorem ZI(aG:rR P s S E)(h:Inv P T){i k:Nat}(ad:i<P.m)(ag:k<P.n):fz (T.M i k*((s (T.rows i):Rat)*h9 P s T)) ((P.n*E)^P.n*S):=by
 rw[<-QG (T:=T) aG.pos (t:=s (T.rows i)) (λj aH=>QF h ad aH) ag];exact(ZH aG h.bj (λj aH=>aG.z _ j (h.bj.r i ad) aH) ag).mul (J6 aG.le _)
theorem azv(aG:rR P s S E)(h:Inv P T)(gx:h9 P s T≠0){i k:Nat}(ad:i<P.m)(ag:k<P.n):cP ((P.n*E)^P.n*S) (T.M i k):=
 FW rfl (ZI aG h ad ag) ((J6 aG.le _).mul (FY aG h.bj)) (λe=>by
  rcases bYu.1 e with dj | dj
  ·exact FX aG.pos _ dj
  ·exact gx dj) (bR _) (Nat.le_of_eq (gw _ _))
theorem azw(aG:rR P s S E)(h:Inv P T)(gx:h9 P s T≠0){iS:Nat}(hb:1<=iS)(J7:iS<=S)(af:∀j,j<P.n->fz ((iS:Rat)*c j) E){k:Nat}(ag:k<P.n):cP ((P.n*E)^P.n*S) (red P c T k):=by
 have bl:=QG (T:=T) aG.pos (t:=iS) (λj aH=>ZF (c:=c) h aH) ag;have uz:(iS:Rat)≠0:=by
  intro e;have:iS=0:=by exact_mod_cast e
  omega
 refine FW bl.symm ((ZH aG h.bj af ag).mul (J6 aG.le _)) ((show fz (iS:Rat) S from⟨(iS:Int),(q3 _).symm,by simpa using J7⟩).mul (FY aG h.bj)) (λe=>?_) (bR _) (Nat.le_of_eq (gw _ _))
 rcases bYu.1 e with dj | dj
 ·exact uz dj
 ·exact gx dj
def sT(f:Nat->Nat):Nat->Nat
 | 0=>1
 | n+1=>sT f n*f n
theorem J8{f:Nat->Nat}(h:∀i,1<=f i):∀n,1<=sT f n
 | 0=>bR _
 | n+1=>bYM (J8 h n) (h n)
theorem CV{f:Nat->Nat}{B:Nat}:∀{n:Nat},(∀i,i<n->f i<=B)->sT f n<=B^n
 | 0,_=>bR _
 | n+1,h=>by
   rw[sT,bZh];exact ie (CV λi ad=>h i (by omega)) (h n (by omega))
theorem FZ{f:Nat->Nat}:∀{n i:Nat},i<n->f i∣sT f n
 | n+1,i,h=>by
   rw[sT];by_cases e:i=n
   ·subst e;exact Nat.dvd_mul_left _ _
   ·exact Nat.dvd_trans (FZ (by omega)) (Nat.dvd_mul_right _ _)
theorem J9{q:Rat}{B Q:Nat}(aV:cP B q)(aB:q.den∣Q){R:Nat}(dD:Q<=R):fz (q*(Q:Rat)) (B*R):=by
 obtain⟨e,rfl⟩:=aB;have U:q*((q.den*e:Nat):Rat)=((q.num*(e:Int):Int):Rat):=by
  have:=Ad q;simp only[Rat.natCast_mul,bXk,q3];grind
 refine⟨_,U,?_⟩;rw[bYc];refine ie aV.1 ?_;have:=q.den_pos;exact bH (bXh e this) dD
def lr(P:cr)(T:b8):Nat:=sT (λk=>(T.v (T.aj k)).den) P.n
theorem ZJ(T:b8):(lr P T:Rat)≠0:=by
 intro e;have:lr P T=0:=by exact_mod_cast e
 have:=J8 (f:=λk=>(T.v (T.aj k)).den) (λk=>(T.v (T.aj k)).den_pos) P.n;unfold lr at*
 omega
theorem Ka{T:b8}{V:Nat}(aw:∀k,k<P.n->cP V (T.v (T.aj k))):lr P T<=V^P.n:=CV λk ag=>(aw k ag).2
def qN(n F S V:Nat):Nat:=n*(F*S*(V*V^n))+F*S*(V*V^n)
theorem ZK(aG:rR P s S E)(h:Inv P T){V:Nat}(aw:∀k,k<P.n->cP V (T.v (T.aj k))){i:Nat}(ad:i<P.m):fz (T.v (T.rows i)*((s (T.rows i):Rat)*h9 P s T*(lr P T:Rat))) (P.n*((P.n*E)^P.n*S*(V*V^P.n))):=by
 have e:T.v (T.rows i)*((s (T.rows i):Rat)*h9 P s T*(lr P T:Rat))=bs (λk=>T.M i k*((s (T.rows i):Rat)*h9 P s T)*(T.v (T.aj k)*(lr P T:Rat))) P.n:=by
  rw[(h.fJ _).1 h.val i ad];have:=jl ((s (T.rows i):Rat)*h9 P s T*(lr P T:Rat)) (λk=>T.M i k*T.v (T.aj k)) P.n;rw[bYp,<-this];exact eB λk _=>by grind
 rw[e];exact fz.sum λk ag=>(ZI aG h ad ag).mul (J9 (aw k ag) (FZ ag) (Ka aw))
theorem one_le_pow{V n:Nat}(h:1<=V):1<=V^n:=bYX _ _ h
theorem QI(aG:rR P s S E)(h:Inv P T)(gx:h9 P s T≠0){V:Nat}(eI:1<=V)(aw:∀k,k<P.n->cP V (T.v (T.aj k))){x:Nat}(az:x<P.n+P.m):cP (qN P.n ((P.n*E)^P.n) S V+V) (T.v x):=by
 rcases h.bj.mE x az with⟨i,ad,rfl⟩ | ⟨k,ag,rfl⟩
 ·refine FW rfl (ZK aG h aw ad) (((J6 aG.le _).mul (FY aG h.bj)).mul (show fz (lr P T:Rat) (V^P.n) from⟨(lr P T:Int),(q3 _).symm,by simpa using Ka aw⟩)) (λe=>?_) ?_ ?_
  ·rcases bYu.1 e with dj | dj
   ·rcases bYu.1 dj with j4 | j4
    ·exact FX aG.pos _ j4
    ·exact gx j4
   ·exact ZJ T dj
  ·unfold qN;omega
  ·have U:S*(P.n*E)^P.n*V^P.n<=(P.n*E)^P.n*S*(V*V^P.n):=by
    rw[gw S];exact r8 _ (bXh _ eI)
   unfold qN;omega
 ·obtain⟨U,aa⟩:=aw k ag;exact⟨by omega,by omega⟩
theorem azx(aG:rR P s S E)(h:Inv P T)(gx:h9 P s T≠0){V:Nat}(eI:1<=V)(aw:∀k,k<P.n->cP V (T.v (T.aj k))){iS:Nat}(hb:1<=iS)(J7:iS<=S)(af:∀j,j<P.n->fz ((iS:Rat)*c j) E):cP (P.n*(E*qN P.n ((P.n*E)^P.n) S V)+qN P.n ((P.n*E)^P.n) S V) (obj P c T.v):=by
 have fk:1<=S:=bH hb J7;have uz:(iS:Rat)≠0:=by
  intro e;have:iS=0:=by exact_mod_cast e
  omega
 have QJ:∀j,j<P.n->fz (T.v j*(h9 P s T*(lr P T:Rat))) (qN P.n ((P.n*E)^P.n) S V):=λj aH=>by
  rcases h.bj.mE j (by omega) with⟨i,ad,e⟩ | ⟨k,ag,e⟩
  ·have:=ZK aG h aw ad;rw[e,aG.one j aH]at this;have e2:T.v j*(((1:Nat):Rat)*h9 P s T*(lr P T:Rat))=T.v j*(h9 P s T*(lr P T:Rat)):=by simp;try grind
   rw[e2]at this;exact this.mono (by unfold qN;omega)
  ·have U:=J9 (aw k ag) (FZ (f:=λk=>(T.v (T.aj k)).den) ag) (Ka aw);have aa:=(FY aG h.bj).mul U;rw[e]at aa;have e2:h9 P s T*(T.v j*(sT (λk=>(T.v (T.aj k)).den) P.n:Rat))=T.v j*(h9 P s T*(lr P T:Rat)):=by unfold lr;grind
   rw[e2]at aa;refine aa.mono ?_;have:(P.n*E)^P.n*(V*V^P.n)<=(P.n*E)^P.n*S*(V*V^P.n):=hQ _ (bXg _ fk);unfold qN;omega
 have e:obj P c T.v*((iS:Rat)*(h9 P s T*(lr P T:Rat)))=bs (λj=>((iS:Rat)*c j)*(T.v j*(h9 P s T*(lr P T:Rat)))) P.n:=by
  have:=jl ((iS:Rat)*(h9 P s T*(lr P T:Rat))) (λj=>c j*T.v j) P.n;rw[obj,bYp,<-this];exact eB λj _=>by grind
 refine FW e (fz.sum λj aH=>(af j aH).mul (QJ j aH)) ((show fz (iS:Rat) S from⟨(iS:Int),(q3 _).symm,by simpa using J7⟩).mul ((FY aG h.bj).mul (show fz (lr P T:Rat) (V^P.n) from⟨(lr P T:Int),(q3 _).symm,by simpa using Ka aw⟩))) (λe=>?_) (by omega) ?_
 ·rcases bYu.1 e with dj | dj
  ·exact uz dj
  ·rcases bYu.1 dj with j4 | j4
   ·exact gx j4
   ·exact ZJ T j4
 ·have U:S*((P.n*E)^P.n*V^P.n)<=(P.n*E)^P.n*S*(V*V^P.n):=by
   rw[<-og,gw S];exact r8 _ (bXh _ eI)
  have:(P.n*E)^P.n*S*(V*V^P.n)<=qN P.n ((P.n*E)^P.n) S V:=by unfold qN;omega
  omega
end
end Go.Dam.C
namespace Go.Dam.C
open Go Go.Dam
structure hj(X:aY):Prop extends hC X where
 s7:Has X F.s7 C.s7
 pK:Has X F.pK C.pK
 wV:Has X F.wV C.wV
 wW:Has X F.wW C.wW
 uY:Has X F.uY C.uY
 uZ:Has X F.uZ C.uZ
 u1:Has X F.u1 C.u1
 s8:Has X F.s8 C.s8
 wX:Has X F.wX C.wX
 wY:Has X F.wY C.wY
 wZ:Has X F.wZ C.wZ
 u2:Has X F.u2 C.u2
 u3:Has X F.u3 C.u3
 w1:Has X F.w1 C.w1
 u4:Has X F.u4 C.u4
 w2:Has X F.w2 C.w2
 w3:Has X F.w3 C.w3
 u5:Has X F.u5 C.u5
 u6:Has X F.u6 C.u6
 u7:Has X F.u7 C.u7
 w4:Has X F.w4 C.w4
 w5:Has X F.w5 C.w5
 w6:Has X F.w6 C.w6
variable{X:aY}{pm:Perm}{H H' cL:ah}{n:Nat}
def ia(H:ah)(v:Value):Option Rat->Prop
 | none=>v=.pointer none
 | some q=>c1 H v q
theorem ia.up{v:Value}{o:Option Rat}(h:ia H v o)(u:bp pm n H H'):ia H' v o:=by
 cases o with
 | none=>exact h
 | some q=>exact c1.up h u
theorem ia.ext{v:Value}{o:Option Rat}(h:ia H v o)(u:Ext H H'):ia H' v o:=by
 cases o with
 | none=>exact h
 | some q=>exact c1.ext h u
def gT(l:List UInt8):Option Rat:=if l=[] then none else some (rd l)
theorem Dt(al:hj X)(g:cl pm H){l:List UInt8}(aO:l.length<1000000)(aF:l≠[]->isNum l=true):Call X pm F.pK [aW l] H λr H'=>K pm H H'/\ia H' r (gT l):=by
 refine Call.has al.pK rfl ?_;by_cases h:l=[]
 ·subst h;simp[gi,gT,ia];exact K.refl g
 ·have ai:(l==[])=false:=by simpa using h
  have he:l.isEmpty=false:=by simpa using h
  simp[gi,ai,];refine aR.bZb (B' al.toOb g aO) ?_;rintro r H1 ⟨av,U⟩;have aF:=aF h
  rcases U with⟨e,rfl⟩ | ⟨q,p,e,rfl,aV⟩
  ·simp[isNum,e]at aF
  ·simp[gT,h,rd,e,ia];exact⟨av,aV⟩
def yp(lo up:Option Rat):Rat:=match lo with
 | some l=>l
 | none=>up.getD 0
theorem aCr(al:hj X)(g:cl pm H){a b c:Value}{lo up:Option Rat}(aN:ia H a lo)(ai:ia H b up)(_bUQ:fG c=true):Call X pm F.wV [.agg #[a,b,c]] H λr H'=>K pm H H'/\c1 H' r (yp lo up):=by
 refine Call.h6 al.wV rfl λQ bU=>?_;obtain⟨H1,cw⟩:=bZa (H.new (.cells [a,b,c] (.t T.w7)));have av:=bZi g cw;have aK:H1.get H.next=some (.cells [a,b,c] (.t T.w7)):=by rw[cw];exact dT
 obtain⟨d,aB⟩:=bZa (H.next);rw[<-aB]at aK
 cases lo with
 | some l=>
   obtain⟨a',rfl,pD⟩:=id aN;simp[g.pick,g.make,ptr,<-cw,<-aB,aK];refine bU _ _ _ ?_;simp;exact⟨av,⟨a',rfl,av.some g pD⟩⟩
 | none=>
   obtain rfl:a=.pointer none:=aN
   cases up with
   | some u=>
     obtain⟨b',rfl,ec⟩:=id ai;simp[g.pick,g.make,ptr,<-cw,<-aB,aK];refine bU _ _ _ ?_;simp;exact⟨av,⟨b',rfl,av.some g ec⟩⟩
   | none=>
     obtain rfl:b=.pointer none:=ai;simp[g.pick,g.make,ptr,<-cw,<-aB,aK];refine aR.bZb (vs:=[.int .i64 0]) (sE al.toOb av.aL (n:=0) (by omega) (by omega)) ?_;rintro r aJ ⟨aI,aa⟩;simp;refine bU _ _ _ ?_;simp;exact⟨av.trans aI,by simpa [yp]using aa⟩
structure qY(H:ah)(P:cr)(v:Nat->Rat)(x:Nat)(a b c:Value):Prop where
 lo:ia H a (P.lo x)
 up:ia H b (P.up x)
 v:c1 H c (v x)
theorem qY.k{P:cr}{v:Nat->Rat}{x:Nat}{a b c:Value}(h:qY H P v x a b c)(u:bp pm n H H'):qY H' P v x a b c:=⟨h.lo.up u,h.up.up u,h.v.up u⟩
structure Lc(P:cr)(v:Nat->Rat)(x t:Nat):Prop where
 lo:∀l,P.lo x=some l->sz l t
 up:∀u,P.up x=some u->sz u t
 v:sz (v x) t
section
variable(al:hj X)(g:cl pm H){P:cr}{v:Nat->Rat}{x t:Nat}{a b c:Value}(aw:qY H P v x a b c)(aG:Lc P v x t)(aS:t<=30000000)
include al g aw aG aS
theorem abZ{way:Int}:Call X pm F.u1 [.agg #[a,b,c],.int .i64 way] H λr H'=>K pm H H'/\r=.bool (can P v x way):=by
 refine Call.h6 al.u1 rfl λQ bU=>?_;obtain⟨H1,cw⟩:=bZa (H.new (.cells [a,b,c] (.t T.w7)));have av:=bZi g cw;have aK:H1.get H.next=some (.cells [a,b,c] (.t T.w7)):=by rw[cw];exact dT
 obtain⟨d,aB⟩:=bZa (H.next);rw[<-aB]at aK;have pL:t<=iP:=bH aS (by decide);obtain⟨U,aa,aq⟩:=aw;obtain⟨s1,s2,de⟩:=aG;obtain⟨ek,rfl,x4⟩:=id aq;have yG:=aq.up av;by_cases hw:0<way
 ·cases hu:P.up x with
  | none=>
    rw[hu]at aa;obtain rfl:b=.pointer none:=aa;have aN:∃p,a=.pointer p:=by
     cases e:P.lo x with
     | none=>rw[e]at U;exact⟨_,U⟩
     | some l=>rw[e]at U;obtain⟨a',rfl,_⟩:=U;exact⟨_,rfl⟩
    obtain⟨p,rfl⟩:=aN;simp[g.pick,g.make,ptr,<-cw,<-aB,aK,hw,zWb];refine aR.not (by simp) ?_;simp[zWb];refine bU _ _ _ ?_;simp[can,hw,hu];exact av
  | some u=>
    rw[hu]at aa;obtain⟨b',rfl,ec⟩:=id aa;have aN:∃p,a=.pointer p:=by
     cases e:P.lo x with
     | none=>rw[e]at U;exact⟨_,U⟩
     | some l=>rw[e]at U;obtain⟨a',rfl,_⟩:=U;exact⟨_,rfl⟩
    obtain⟨p,rfl⟩:=aN;simp[g.pick,g.make,ptr,<-cw,<-aB,aK,hw,zWb];refine aR.bZb (ud al.toOb av.aL yG.of (c1.of (c1.up aa av)) (de.ca pL) ((s2 u hu).ca pL)) ?_;rintro _ aJ ⟨rfl,rfl⟩;simp;refine bU _ _ _ ?_;simp[can,hw,hu,rz];exact av
 ·have ai:∃p,b=.pointer p:=by
   cases e:P.up x with
   | none=>rw[e]at aa;exact⟨_,aa⟩
   | some l=>rw[e]at aa;obtain⟨a',rfl,_⟩:=aa;exact⟨_,rfl⟩
  obtain⟨p,rfl⟩:=ai
  cases aO:P.lo x with
  | none=>
    rw[aO]at U;obtain rfl:a=.pointer none:=U;simp[g.pick,g.make,ptr,<-cw,<-aB,aK,hw,zWb];refine aR.not (by simp) ?_;simp[zWb];refine bU _ _ _ ?_;simp[can,hw,aO];exact av
  | some l=>
    rw[aO]at U;obtain⟨a',rfl,pD⟩:=id U;simp[g.pick,g.make,ptr,<-cw,<-aB,aK,hw,zWb];refine aR.bZb (ud al.toOb av.aL yG.of (c1.of (c1.up U av)) (de.ca pL) ((s1 l aO).ca pL)) ?_;rintro _ aJ ⟨rfl,rfl⟩;simp;refine bU _ _ _ ?_;simp[can,hw,aO,xT];exact av
end
end Go.Dam.C
namespace Go.Dam.C
open Go Go.Dam
variable{X:aY}{pm:Perm}{H H' cL H0:ah}{n:Nat}
theorem ia.ptr{v:Value}{o:Option Rat}(h:ia H v o):∃p,v=.pointer p:=by
 cases o with
 | none=>exact⟨_,h⟩
 | some l=>obtain⟨a',rfl,_⟩:=h;exact⟨_,rfl⟩
section
variable(al:hj X)(g:cl pm H){P:cr}{v:Nat->Rat}{x t:Nat}{a b c:Value}(aw:qY H P v x a b c)(aG:Lc P v x t)(aS:t<=30000000)
include al g aw aG aS
theorem Sf:Call X pm F.s8 [.agg #[a,b,c]] H λr H'=>K pm H H'/\r=.int .i64 (off P v x):=by
 refine Call.h6 al.s8 rfl λQ bU=>?_;obtain⟨H1,cw⟩:=bZa (H.new (.cells [a,b,c] (.t T.w7)));have av:=bZi g cw;have aK:H1.get H.next=some (.cells [a,b,c] (.t T.w7)):=by rw[cw];exact dT
 obtain⟨d,aB⟩:=bZa (H.next);rw[<-aB]at aK;have pL:t<=iP:=bH aS (by decide);obtain⟨U,aa,aq⟩:=aw;obtain⟨s1,s2,de⟩:=aG;obtain⟨ek,rfl,x4⟩:=id aq;have yG:=aq.up av;have up:∀(L:bQ),a7 1 L=some (.pointer (some ⟨d,0,none⟩))->(∀l,P.lo x=some l->¬v x<l)->a7 3 L=some (.bool false)->wp X pm (.code AA) L H1 [.bI 0,.seq GB] Q:=by
  intro L ck ey eT;have po:off P v x=uB P v x:=by
   unfold off
   cases aO:P.lo x with
   | none=>rfl
   | some l=>simp[ey l aO]
  cases hu:P.up x with
  | none=>
    rw[hu]at aa;obtain rfl:b=.pointer none:=aa;simp[ck,eT,aK,zWb];refine aR.not (by simp) ?_;simp[zWb];refine bU _ _ _ ?_;simp[po,uB,hu];exact av
  | some u=>
    rw[hu]at aa;obtain⟨b',rfl,ec⟩:=id aa;simp[ck,eT,aK,];refine aR.bZb (ud al.toOb av.aL yG.of (c1.of (c1.up aa av)) (de.ca pL) ((s2 u hu).ca pL)) ?_;rintro _ aJ ⟨rfl,rfl⟩;by_cases af:u<v x
    ·simp[xT,af];refine bU _ _ _ ?_;simp[po,uB,hu,af];exact av
    ·simp[xT,af];refine bU _ _ _ ?_;simp[po,uB,hu,af];exact av
 obtain⟨p,rfl⟩:=aa.ptr
 cases aO:P.lo x with
 | none=>
   rw[aO]at U;obtain rfl:a=.pointer none:=U;simp[g.pick,g.make,ptr,<-cw,<-aB,aK,zWb,-AA];refine aR.not (by simp) ?_;simp[zWb,-AA,-GB];exact up _ (by simp) (λl h=>by rw[aO]at h;cases h) (by simp)
 | some l=>
   rw[aO]at U;obtain⟨a',rfl,pD⟩:=id U;simp[g.pick,g.make,ptr,<-cw,<-aB,aK, -AA];refine aR.bZb (ud al.toOb av.aL yG.of (c1.of (c1.up U av)) (de.ca pL) ((s1 l aO).ca pL)) ?_;rintro _ aJ ⟨rfl,rfl⟩;by_cases af:v x<l
   ·simp[zWb,rz,af];refine bU _ _ _ ?_;simp[off,aO,af];exact av
   ·simp[rz,af,-AA,-GB];exact up _ (by simp) (λl' h=>by rw[aO]at h;cases h;exact af) (by simp)
theorem ab0{way:Int}:Call X pm F.u4 [.agg #[a,b,c],.int .i64 way] H λr H'=>K pm H H'/\ia H' r (room P v x way):=by
 refine Call.h6 al.u4 rfl λQ bU=>?_;obtain⟨H1,cw⟩:=bZa (H.new (.cells [a,b,c] (.t T.w7)));have av:=bZi g cw;have aK:H1.get H.next=some (.cells [a,b,c] (.t T.w7)):=by rw[cw];exact dT
 obtain⟨d,aB⟩:=bZa (H.next);rw[<-aB]at aK;have pL:t<=iP:=bH aS (by decide);obtain⟨U,aa,aq⟩:=aw;obtain⟨s1,s2,de⟩:=aG;obtain⟨ek,rfl,x4⟩:=id aq;have yG:=aq.up av;obtain⟨p,rfl⟩:=U.ptr;obtain⟨q,rfl⟩:=aa.ptr;by_cases hw:0<way
 ·have lU:¬way<0:=by omega
  cases hu:P.up x with
  | none=>
    rw[hu]at aa;cases aa;simp[g.pick,g.make,ptr,<-cw,<-aB,aK,hw,lU,zWb];refine bU _ _ _ ?_;simp[room,hw,lU,hu,ia];exact av
  | some u=>
    rw[hu]at aa;obtain⟨b',e,ec⟩:=id aa;cases e;simp[g.pick,g.make,ptr,<-cw,<-aB,aK,hw,lU,zWb];refine aR.bZb (Jp al.toOb av.aL (c1.of (c1.up aa av)) yG.of ((s2 u hu).ca pL) (de.ca pL)) ?_;rintro r aJ ⟨aI,h⟩;simp;refine bU _ _ _ ?_;simp[room,hw,hu,ia];exact⟨av.trans aI,h⟩
 ·by_cases lU:way<0
  ·cases aO:P.lo x with
   | none=>
     rw[aO]at U;cases U;simp[g.pick,g.make,ptr,<-cw,<-aB,aK,hw,lU,zWb];refine bU _ _ _ ?_;simp[room,hw,lU,aO,ia];exact av
   | some l=>
     rw[aO]at U;obtain⟨b',e,ec⟩:=id U;cases e;simp[g.pick,g.make,ptr,<-cw,<-aB,aK,hw,lU,zWb];refine aR.bZb (Jp al.toOb av.aL yG.of (c1.of (c1.up U av)) (de.ca pL) ((s1 l aO).ca pL)) ?_;rintro r aJ ⟨aI,h⟩;simp;refine bU _ _ _ ?_;simp[room,hw,lU,aO,ia];exact⟨av.trans aI,h⟩
  ·simp[g.pick,g.make,ptr,<-cw,<-aB,aK,hw,lU,zWb];refine bU _ _ _ ?_;simp[room,hw,lU,ia];exact av
end
abbrev tyT:Nat:=T.aCs
abbrev tyV:Nat:=T.w7
theorem jh{lo:Nat}{ok:List Nat}{o:Option Nat}{b:Nat}(h:lo<=b):Perm.may ⟨lo,ok,o⟩ b=true:=by
 unfold Perm.may;rw[dA];simp[h]
def sl(b k:Nat):Value:=if k=0 then .slice none 0 0 else .slice (some ⟨b,0,none⟩) k k
theorem eQ{b k:Nat}(h:0<k):sl b k=.slice (some ⟨b,0,none⟩) k k:=aU (by omega)
def u9(H:ah)(b k:Nat)(f:Nat->Nat):Prop:=∃ss,H.get b=some (.cells ss (.n 1))/\ss.length=k/\∀i,i<k->ss[i]? = some (.int .i64 (f i:Int))
def AB(H:ah)(P:cr)(b k:Nat)(v:Nat->Rat):Prop:=∃ss,H.get b=some (.cells ss (.n 3))/\ss.length=k*3/\∀x,x<k->∃p q c,ss[x*3]? = some p/\ss[x*3+1]? = some q/\ss[x*3+2]? = some c/\qY H P v x p q c
def GC(H:ah)(b k w:Nat)(aA:Nat->Nat):Prop:=∃ss,H.get b=some (.cells ss (.n 1))/\ss.length=k/\∀i,i<k->ss[i]? = some (.slice (some ⟨aA (5+i),0,none⟩) w w)
structure dH(P:cr)(ba:Nat)(H:ah)(aA:Nat->Nat)(lc cc:Value)(T:b8):Prop where
 t:H.get (aA 0)=some (.cells [lc,cc,sl (aA 1) (P.n+P.m),sl (aA 2) P.m,sl (aA 3) P.n,sl (aA 4) P.m] (.t tyT))
 v:0<P.n+P.m->AB H P (aA 1) (P.n+P.m) T.v
 r:0<P.m->u9 H (aA 2) P.m T.rows
 c:0<P.n->u9 H (aA 3) P.n T.aj
 m:0<P.m->GC H (aA 4) P.m P.n aA
 row:∀i,i<P.m->eV H (aA (5+i)) P.n P.n (T.M i)
 inj:∀i j,i<5+P.m->j<5+P.m->aA i=aA j->i=j
 ge:∀i,i<5+P.m->ba<=aA i
theorem u9.ext{b k:Nat}{f:Nat->Nat}(h:u9 H b k f)(e:∀y,H.get b=some y->H'.get b=some y):u9 H' b k f:=let ⟨ss,U,aa⟩:=h;⟨ss,e _ U,aa⟩
theorem GC.ext{b k w:Nat}{f:Nat->Nat}(h:GC H b k w f)(e:∀y,H.get b=some y->H'.get b=some y):GC H' b k w f:=let ⟨ss,U,aa⟩:=h;⟨ss,e _ U,aa⟩
theorem AB.ext{P:cr}{b k:Nat}{v:Nat->Rat}(h:AB H P b k v)(u:bp pm n H H')(e:∀y,H.get b=some y->H'.get b=some y):AB H' P b k v:=by
 obtain⟨ss,U,aa,aq⟩:=h;refine⟨ss,e _ U,aa,λx az=>?_⟩;obtain⟨p,q,c,ao,e2,bd,b1⟩:=aq x az;exact⟨p,q,c,ao,e2,bd,b1.k u⟩
theorem eV.ext{c w k:Nat}{x:Nat->Rat}(h:eV H c w k x)(u:bp pm n H H')(e:∀y,H.get c=some y->H'.get c=some y):eV H' c w k x:=by
 obtain⟨cH,U,aa,aq⟩:=h;refine⟨cH,e _ U,aa,λi ad=>?_⟩;obtain⟨p,ao,e2⟩:=aq i ad;exact⟨p,ao,e2.up u⟩
section
variable{P:cr}{ba:Nat}{aA:Nat->Nat}{lc cc:Value}{T:b8}
theorem dH.k(h:dH P ba H aA lc cc T)(g:cl pm H)(k:K pm H H'):dH P ba H' aA lc cc T where
 t:=k.some g h.t
 v:=λaC=>(h.v aC).ext k λ_ e=>k.some g e
 r:=λaC=>(h.r aC).ext λ_ e=>k.some g e
 c:=λaC=>(h.c aC).ext λ_ e=>k.some g e
 m:=λaC=>(h.m aC).ext λ_ e=>k.some g e
 row:=λi ad=>(h.row i ad).ext k λ_ e=>k.some g e
 inj:=h.inj
 ge:=h.ge
theorem dH.mono(h:dH P ba H aA lc cc T){n1:Nat}(aF:n1<=ba):dH P n1 H aA lc cc T:=⟨h.t,h.v,h.r,h.c,h.m,h.row,h.inj,λi ad=>bH aF (h.ge i ad)⟩
theorem dH.ne(h:dH P ba H aA lc cc T){i j:Nat}(ad:i<5+P.m)(aH:j<5+P.m)(aF:i≠j):aA i≠aA j:=λe=>aF (h.inj i j ad aH e)
theorem h7{b c:Nat}{x:cj}(h:b≠c):∀y,H.get b=some y->(H.put c x).get b=some y:=λy e=>by rw[cq h];exact e
theorem AD{ss:List Value}{i j:Nat}{u:Value}(h:i≠j):(ss.set j u)[i]? = ss[i]?:=by
 rw[List.getElem?_set,aU (λe=>h e.symm)]
theorem dH.ab1(h:dH P ba H aA lc cc T)(g:cl pm H){x:Nat}(az:x<P.n+P.m){u:Value}{q:Rat}(hu:c1 H u q){ss:List Value}(aG:H.get (aA 1)=some (.cells ss (.n 3))):
 bp pm ba H (H.put (aA 1) (.cells (ss.set (x*3+2) u) (.n 3)))/\dH P ba (H.put (aA 1) (.cells (ss.set (x*3+2) u) (.n 3))) aA lc cc {T with v:=λy=>if y=x then q else T.v y}:=by
 have up:bp pm ba H (H.put (aA 1) (.cells (ss.set (x*3+2) u) (.n 3))):=bp.put (.refl g) (h.ge 1 (by omega)) aG (by simp) _;have ne:∀i,i<5+P.m->i≠1->aA i≠aA 1:=λi ad aF=>h.ne ad (by omega) aF;refine⟨up,h7 (ne 0 (by omega) (by decide)) _ h.t,λaC=>?_,λaC=>(h.r aC).ext (h7 (ne 2 (by omega) (by decide))),λaC=>(h.c aC).ext (h7 (ne 3 (by omega) (by decide))),λaC=>(h.m aC).ext (h7 (ne 4 (by omega) (by decide))),λi ad=>(h.row i ad).ext up (h7 (ne _ (by omega) (by omega))),h.inj,h.ge⟩;obtain⟨aCt,U,aa,aq⟩:=h.v aC;rw[aG]at U;cases U;refine⟨_,dX,by rw[bXn];exact aa,λy bu=>?_⟩;obtain⟨p,r,c,ao,e2,bd,b1⟩:=aq y bu;by_cases e:y=x
 ·subst e;refine⟨p,r,u,by rw[AD (by omega)];exact ao,by rw[AD (by omega)];exact e2,by rw[List.getElem?_set,bm rfl,bm (by omega)],b1.lo.up up,b1.up.up up,?_⟩;simpa using hu.up up
 ·refine⟨p,r,c,by rw[AD (by omega)];exact ao,by rw[AD (by omega)];exact e2,by rw[AD (by omega)];exact bd,b1.lo.up up,b1.up.up up,?_⟩;simpa [e]using b1.v.up up
theorem dH.Ld(h:dH P ba H aA lc cc T)(g:cl pm H){i k:Nat}(ad:i<P.m)(ag:k<P.n){u:Value}{q:Rat}(hu:c1 H u q){ss:List Value}(aG:H.get (aA (5+i))=some (.cells ss (.n 1))):
 bp pm ba H (H.put (aA (5+i)) (.cells (ss.set k u) (.n 1)))/\dH P ba (H.put (aA (5+i)) (.cells (ss.set k u) (.n 1))) aA lc cc {T with M:=λa b=>if a=i/\b=k then q else T.M a b}:=by
 have up:bp pm ba H (H.put (aA (5+i)) (.cells (ss.set k u) (.n 1))):=bp.put (.refl g) (h.ge _ (by omega)) aG (by simp) _;have ne:∀j,j<5+P.m->j≠5+i->aA j≠aA (5+i):=λj aH aF=>h.ne aH (by omega) aF;refine⟨up,h7 (ne 0 (by omega) (by omega)) _ h.t,λaC=>(h.v aC).ext up (h7 (ne 1 (by omega) (by omega))),λaC=>(h.r aC).ext (h7 (ne 2 (by omega) (by omega))),λaC=>(h.c aC).ext (h7 (ne 3 (by omega) (by omega))),λaC=>(h.m aC).ext (h7 (ne 4 (by omega) (by omega))),λj aH=>?_,h.inj,h.ge⟩;by_cases e:j=i
 ·subst e;obtain⟨cH,U,aa,aq⟩:=h.row j aH;rw[aG]at U;cases U;refine⟨_,dX,by rw[bXn];exact aa,λb ai=>?_⟩;obtain⟨p,ao,e2⟩:=aq b ai;by_cases x2:b=k
  ·subst x2;refine⟨u,by rw[List.getElem?_set,bm rfl,bm (by omega)],?_⟩;simpa using hu.up up
  ·refine⟨p,by rw[AD x2];exact ao,?_⟩;simpa [x2]using e2.up up
 ·have:=(h.row j aH).ext up (h7 (ne _ (by omega) (by omega)));refine this.congr λb ai=>?_;simp[e]
theorem dH.congr{dY:b8}(h:dH P ba H aA lc cc T)(aw:∀x,x<P.n+P.m->dY.v x=T.v x)(an:∀i,i<P.m->dY.rows i=T.rows i)(af:∀k,k<P.n->dY.aj k=T.aj k)(dp:∀i k,i<P.m->k<P.n->dY.M i k=T.M i k):dH P ba H aA lc cc dY where
 t:=h.t
 v:=λaC=>by
  obtain⟨ss,U,aa,aq⟩:=h.v aC;refine⟨ss,U,aa,λx az=>?_⟩;obtain⟨p,q,c,ao,e2,bd,b1⟩:=aq x az;exact⟨p,q,c,ao,e2,bd,b1.lo,b1.up,by rw[aw x az];exact b1.v⟩
 r:=λaC=>by
  obtain⟨ss,U,aa,aq⟩:=h.r aC;exact⟨ss,U,aa,λi ad=>by rw[an i ad];exact aq i ad⟩
 c:=λaC=>by
  obtain⟨ss,U,aa,aq⟩:=h.c aC;exact⟨ss,U,aa,λi ad=>by rw[af i ad];exact aq i ad⟩
 m:=h.m
 row:=λi ad=>(h.row i ad).congr λk ag=>dp i k ad ag
 inj:=h.inj
 ge:=h.ge
theorem u9.set{b k:Nat}{f:Nat->Nat}(h:u9 H b k f){i v:Nat}(ad:i<k){ss:List Value}(aG:H.get b=some (.cells ss (.n 1))):u9 (H.put b (.cells (ss.set i (.int .i64 (v:Int))) (.n 1))) b k λj=>if j=i then v else f j:=by
 obtain⟨aCt,U,aa,aq⟩:=h;rw[aG]at U;cases U;refine⟨_,dX,by rw[bXn];exact aa,λj aH=>?_⟩;by_cases e:j=i
 ·subst e;rw[List.getElem?_set,bm rfl,bm (by omega)];simp
 ·rw[AD e,aq j aH];simp[e]
theorem dH.aCu(h:dH P ba H aA lc cc T)(g:cl pm H){i v:Nat}(ad:i<P.m){ss:List Value}(aG:H.get (aA 2)=some (.cells ss (.n 1))):
 bp pm ba H (H.put (aA 2) (.cells (ss.set i (.int .i64 (v:Int))) (.n 1)))/\dH P ba (H.put (aA 2) (.cells (ss.set i (.int .i64 (v:Int))) (.n 1))) aA lc cc {T with rows:=λj=>if j=i then v else T.rows j}:=by
 have up:bp pm ba H (H.put (aA 2) (.cells (ss.set i (.int .i64 (v:Int))) (.n 1))):=bp.put (.refl g) (h.ge _ (by omega)) aG (by simp) _;have ne:∀j,j<5+P.m->j≠2->aA j≠aA 2:=λj aH aF=>h.ne aH (by omega) aF;exact⟨up,h7 (ne 0 (by omega) (by omega)) _ h.t,λaC=>(h.v aC).ext up (h7 (ne 1 (by omega) (by omega))),λaC=>(h.r aC).set ad aG,λaC=>(h.c aC).ext (h7 (ne 3 (by omega) (by omega))),λaC=>(h.m aC).ext (h7 (ne 4 (by omega) (by omega))),λj aH=>(h.row j aH).ext up (h7 (ne _ (by omega) (by omega))),h.inj,h.ge⟩
theorem dH.mT(h:dH P ba H aA lc cc T)(g:cl pm H){i v:Nat}(ad:i<P.n){ss:List Value}(aG:H.get (aA 3)=some (.cells ss (.n 1))):
 bp pm ba H (H.put (aA 3) (.cells (ss.set i (.int .i64 (v:Int))) (.n 1)))/\dH P ba (H.put (aA 3) (.cells (ss.set i (.int .i64 (v:Int))) (.n 1))) aA lc cc {T with aj:=λj=>if j=i then v else T.aj j}:=by
 have up:bp pm ba H (H.put (aA 3) (.cells (ss.set i (.int .i64 (v:Int))) (.n 1))):=bp.put (.refl g) (h.ge _ (by omega)) aG (by simp) _;have ne:∀j,j<5+P.m->j≠3->aA j≠aA 3:=λj aH aF=>h.ne aH (by omega) aF;exact⟨up,h7 (ne 0 (by omega) (by omega)) _ h.t,λaC=>(h.v aC).ext up (h7 (ne 1 (by omega) (by omega))),λaC=>(h.r aC).ext (h7 (ne 2 (by omega) (by omega))),λaC=>(h.c aC).set ad aG,λaC=>(h.m aC).ext (h7 (ne 4 (by omega) (by omega))),λj aH=>(h.row j aH).ext up (h7 (ne _ (by omega) (by omega))),h.inj,h.ge⟩
end
structure l4(P:cr)(T:b8)(t:Nat):Prop where
 v:∀x,x<P.n+P.m->Lc P T.v x t
 M:∀i k,i<P.m->k<P.n->sz (T.M i k) t
structure s9(P:cr):Prop where
 n:P.n<=20
 m:P.m<=40
section
variable{P:cr}{ba:Nat}{aA:Nat->Nat}{lc cc:Value}{T:b8}
theorem uA(b k:Nat):∃base,sl b k=.slice base k k/\(0<k->base=some ⟨b,0,none⟩):=by
 by_cases h:k=0
 ·subst h;exact⟨none,rfl,λh=>by omega⟩
 ·exact⟨_,eQ (by omega),λ_=>rfl⟩
theorem ab2(h:fh P T){col:Nat}(af:col<P.n){q:Rat}{i:Nat}(ad:i<P.m):iT T col q i (T.rows i)=T.v (T.rows i):=by
 rw[Qo h af ad i (by omega),aU (by omega)]
theorem ab3(al:hj X)(g0:cl pm H0)(ey:pm.lo<=ba)(aF:ba<=H0.next)(dU:s9 P)(aD:dH P ba H0 aA lc cc T)(bj:fh P T){t:Nat}(aS:t<=100000)(aG:l4 P T t){col:Nat}(af:col<P.n){w:Value}{q:Rat}(hw:c1 H0 w q)(aV:sz q t):
 Call X pm F.uY [.pointer (some ⟨aA 0,0,none⟩),.int .i64 (col:Int),w] H0 λ_ H'=>bp pm ba H0 H'/\dH P ba H' aA lc cc (T.iC P col q):=by
 refine Call.h6 al.uY rfl λQ bU=>?_;have j2:=dU.n;have mM:=dU.m;have jK:0<P.n+P.m:=by omega
 obtain⟨vs,v1,v2,v3⟩:=aD.v jK;obtain⟨cs,cy,dd,dy⟩:=aD.c (by omega);have az:=bj.c col af;obtain⟨p,r,c,ao,e2,bd,b1⟩:=v3 _ az;have w8:=dy col af;have fq:=aD.t;rw[eQ jK,eQ (show 0<P.n by omega)]at fq;have eO:∀o i,i<5+P.m->Perm.may ⟨pm.lo,pm.ok,o⟩ (aA i)=true:=λo i ad=>jh (bH ey (aD.ge i ad));have AE:T.aj col<1000:=by omega
 simp[-Sg];refine eg.of g0.lo rfl ?_;have l1:=g0.lt fq;have jG:=g0.lt v1;have n0:=g0.lt cy;simp[dt,g0.none,g0.fo,fq,v1,cy,af,w8,az,dx,dm,l1, n0,  -Le];have bE:K pm H0 (H0.up 13):=(K.refl g0).up 13;simp[bd,-Le];have de:=(aG.v _ az).v;refine aR.bZb (vs:=[c,w]) (v8 al.toOb bE.aL (b1.v.up bE).of (hw.up bE).of (de.ca (bH aS (by decide))) (aV.ca (bH aS (by decide)))) ?_;rintro u H1 ⟨av,hu⟩;have qx:=bE.trans av;have g1:=qx.aL;obtain⟨ab4,t2⟩:=(aD.k g0 qx).ab1 g1 az hu (qx.some g0 v1);have BF:=qx.some g0 v1;obtain⟨GD,rfl,_⟩:=id hu;have rH:=eO pm.num 1 (by omega);have bO:T.aj col*3+2<vs.length:=by omega
 have aCv:iT T col q 0=λy=>if y=T.aj col then T.v (T.aj col)+q else T.v y:=by
  funext x;show(if x=T.aj col then T.v x+q else T.v x)=_;by_cases e:x=T.aj col
  ·simp[e]
  ·simp[e]
 have Sh:dH P ba (H1.put (aA 1) (.cells (vs.set (T.aj col*3+2) (.pointer (some ⟨GD,0,none⟩))) (.n 3))) aA lc cc {T with v:=iT T col q 0}:=by rw[aCv];exact t2
 obtain⟨aJ,ee⟩:=bZa (H1.put (aA 1) (.cells (vs.set (T.aj col*3+2) (.pointer (some ⟨GD,0,none⟩))) (.n 3)));rw[<-ee]at ab4 Sh;have aCw:bp pm ba H0 aJ:=(qx.mono aF).trans ab4;have eb:=Sh.t;obtain⟨base,gN,yH⟩:=uA (aA 4) P.m;rw[gN]at eb;simp[BF,rH,bO,<-ee,eb,-Si]
 refine gG (σ:=Unit) P.m (λ_ _=>[(0,.pointer (some ⟨aA 0,0,none⟩)),(1,.int .i64 (col:Int)),(2,w),(34,.slice base P.m P.m)])
  (λi _ H'=>bp pm ba H0 H'/\dH P ba H' aA lc cc {T with v:=iT T col q i}) () (by decide) (by omega) (by simp) ⟨aCw,Sh⟩ (by simp) ?_ ?_
 ·rintro i _ bN ad ⟨fu,t3⟩;have g3:=fu.aL;obtain rfl:=yH (by omega);obtain⟨ms,m1,m2,m3⟩:=t3.m (by omega);obtain⟨cH,bJ,bG,cO⟩:=t3.row i ad;obtain⟨o1,u',n9⟩:=cO col af;have AF:=m3 i ad;simp[m1,AF,ad,bJ,u',af];refine aR.bZb (vs:=[o1]) (jF al.toOb g3 n9.of ((aG.M i col ad af).ca (bH aS (by decide)))) ?_;rintro _ bN ⟨rfl,rfl⟩;by_cases dp:T.M i col=0
  ·simp[lj,dp];refine⟨fu,t3.congr (λx _=>?_) (λ_ _=>rfl) (λ_ _=>rfl) λ_ _ _ _=>rfl⟩;show(if x=T.rows i then iT T col q i x+T.M i col*q else iT T col q i x)=iT T col q i x;rw[dp];split<;>grind
  ·obtain⟨aCx,cS,bL,kF⟩:=t3.v jK;obtain⟨aHh,b4,cB,dh⟩:=t3.r (by omega);have bu:=bj.r i ad;obtain⟨aCy,aX,ab5,f1,f2,f3,f4⟩:=kF _ bu;have AG:=t3.t;rw[eQ jK,eQ (show 0<P.m by omega)]at AG;have yI:=dh i ad;have hB:=g3.lt AG;have bn:=g3.lt cS;have bh:=g3.lt b4;have ox:=g3.lt bJ;have aCz:c1 bN ab5 (T.v (T.rows i)):=by
    have:=f4.v;rwa [show({T with v:=iT T col q i}:b8).v (T.rows i)=iT T col q i (T.rows i) from rfl,ab2 bj af ad]at this
   simp[lj,dp,-Lf];refine eg.of g3.lo rfl ?_;simp[dt,g3.none,g3.fo,AG, b4,ad,yI,bu,dx,dm,hB, bh,  -Lf];have w9:K pm bN (bN.up 13):=(K.refl g3).up 13;generalize bN.up 13=cp at w9|-;have g4:=w9.aL;have Gf:=w9.some g3 cS;have pM:=w9.some g3 bJ;have ze:=g4.lt Gf;have MU:=g4.lt pM;refine eg.of g4.lo rfl ?_;have s':K pm cp (cp.up 15):=(K.refl g4).up 15;have ji:=w9.trans s';have fC:t<=iP:=bH aS (by decide);have Sj:t+t<=iP:=bH (Nat.add_le_add aS aS) (by decide);simp[dt,g4.none,g4.fo,Gf,f3,pM,u',af];have ab6:=(hw.up fu).up ji;have ab7:=aG.M i col ad af;refine bZk s'.aL (vs:=[o1,w]) (by simp[g4.none]) (λpm' bS=>sF al.toOb bS (n9.up ji).of ab6.of (ab7.ca fC) (aV.ca fC)) ?_;rintro qZ ep cv f6;have df:=cv.res g4;simp;refine bZm cv.aL (vs:=[ab5,qZ]) (by simp[df]) (λpm' bS=>v8 al.toOb bS ((aCz.up ji).up cv).of f6.of ((aG.v _ bu).v.ca fC) ((la ab7 aV).ca Sj)) ?_;rintro AH hM dJ f7;have dW:=(K.trans cv dJ).res g4;have Du:=ji.trans (cv.trans dJ);have ab8:=Du.some g3 cS;obtain⟨aHi,rfl,_⟩:=id f7;have GF:=λm=>qz (n9.up ji) ab6 (ji.some g3 cS) m;simp[dW,ab8,jh (bH ey (aD.ge 1 (by omega))),show T.rows i*3+2<aCx.length by omega,dx,dm,ze,MU, ez,GF];obtain⟨u8,t8⟩:=(t3.k g3 Du).ab1 dJ.aL bu f7 ab8;refine⟨(fu.k Du (bH aF fu.next)).trans u8,t8.congr (λx _=>?_) (λ_ _=>rfl) (λ_ _=>rfl) λ_ _ _ _=>rfl⟩;show(if x=T.rows i then iT T col q i x+T.M i col*q else iT T col q i x)=if x=T.rows i then T.v (T.rows i)+T.M i col*q else iT T col q i x
   by_cases e:x=T.rows i
   ·rw[bm e,bm e,e,ab2 bj af ad]
   ·rw[aU e,aU e]
 ·rintro _ bN ⟨fu,t3⟩;simp;refine bU _ _ _ ?_;simp;exact⟨fu,t3⟩
end
section
variable{P:cr}{ba:Nat}{aA:Nat->Nat}{lc cc:Value}{T:b8}
def r2(T:b8)(i k:Nat)(r:Nat->Rat):b8:={T with M:=λx y=>if x=i/\y<k then r y else T.M x y}
theorem GG{i k:Nat}{r:Nat->Rat}{q:Rat}(h:q=r k)(x y:Nat):(r2 T i (k+1) r).M x y=if x=i/\y=k then q else(r2 T i k r).M x y:=by
 subst h;show(if x=i/\y<k+1 then r y else T.M x y)=if x=i/\y=k then r k else(if x=i/\y<k then r y else T.M x y)
 by_cases e:x=i
 ·by_cases e2:y=k
  ·subst e2;simp[e]
  ·by_cases bd:y<k
   ·simp[e,e2,bd,show y<k+1 by omega]
   ·simp[e,e2,bd,show ¬y<k+1 by omega]
 ·simp[e]
theorem ab9{i k:Nat}{r:Nat->Rat}(h:T.M i k=r k)(x y:Nat):(r2 T i (k+1) r).M x y=(r2 T i k r).M x y:=by
 rw[GG rfl];split
 ·rename_i e;obtain⟨rfl,rfl⟩:=e;show r y=if x=x/\y<y then r y else T.M x y
  simp[h]
 ·rfl
theorem aca{i k:Nat}{r:Nat->Rat}:(r2 T i k r).M i k=T.M i k:=by
 show(if i=i/\k<k then r k else T.M i k)=_;simp
def xa(T:b8)(a col i k:Nat):Rat:=if k=col then T.M i col*T.M a col else T.M i k+T.M i col*T.M a k
theorem aCA(al:hj X)(g0:cl pm H0)(ey:pm.lo<=ba)(aF:ba<=H0.next)(dU:s9 P)(aD:dH P ba H0 aA lc cc T){t:Nat}(aS:t<=400000)(aG:∀i k,i<P.m->k<P.n->sz (T.M i k) t){a i col:Nat}(aN:a<P.m)(ad:i<P.m)(ta:i≠a)(af:col<P.n)
 {w:Value} (hw:c1 H0 w (T.M i col)) {L:bQ} {u64:Value} (c0:a7 0 L=some (.pointer (some ⟨aA 0,0,none⟩))) (ck:a7 1 L=some (.int .i64 (a:Int))) (cJ:a7 2 L=some (.int .i64 (col:Int))) (h1:a7 6 L=some (.slice (some ⟨aA (5+a),0,none⟩) P.n P.n)) (l10:a7 10 L=some (.slice (some ⟨aA (5+i),0,none⟩) P.n P.n)) (nc:a7 11 L=some w)
 (OV:a7 64 L=some u64) (OW:a7 65 L=some (.int .i64 (P.m:Int))) (aCB:a7 66 L=some (.int .i64 (i:Int))) {Q:c'}
 (fin:∀l' H',bp pm ba H0 H'->dH P ba H' aA lc cc (r2 T i P.n (xa T a col i))->Sub [(66,.int .i64 (i:Int)),(65,.int .i64 (P.m:Int)),(0,.pointer (some ⟨aA 0,0,none⟩)),(1,.int .i64 (a:Int)),(2,.int .i64 (col:Int)),(6,.slice (some ⟨aA (5+a),0,none⟩) P.n P.n),(64,u64)] l'->Q .normal l' H'):
 wp X pm (.code Dv) L H0 [] Q:=by
 have j2:=dU.n;have mM:=dU.m;have fC:t<=iP:=bH aS (by decide);have Sj:t+t<=iP:=bH (Nat.add_le_add aS aS) (by decide);have rH:=jh (ok:=pm.ok) (o:=pm.num) (bH ey (aD.ge (5+i) (by omega)));have dr:=aD.ne (i:=5+i) (j:=5+a) (by omega) (by omega) (by omega);simp[l10,-Sk]
 refine gG (σ:=Unit) P.n (λ_ _=>[(66,.int .i64 (i:Int)),(65,.int .i64 (P.m:Int)),(0,.pointer (some ⟨aA 0,0,none⟩)),(1,.int .i64 (a:Int)),(2,.int .i64 (col:Int)),(6,.slice (some ⟨aA (5+a),0,none⟩) P.n P.n),(10,.slice (some ⟨aA (5+i),0,none⟩) P.n P.n),(11,w),(64,u64)])
  (λk _ H'=>bp pm ba H0 H'/\dH P ba H' aA lc cc (r2 T i k (xa T a col i))) () (by decide) (by omega) (by simp[c0,ck,cJ,h1,l10,nc,OV,OW,aCB]) ⟨bp.refl g0,aD.congr (λ_ _=>rfl) (λ_ _=>rfl) (λ_ _=>rfl) λx y _ _=>by simp[r2]⟩ (by simp) ?_ ?_
 ·rintro k _ H1 ag ⟨fQ,t1⟩;have g1:=fQ.aL;obtain⟨cH,bJ,bG,cO⟩:=t1.row i ad;obtain⟨fr,bn,bh,cu⟩:=t1.row a aN;obtain⟨gP,vd,ib⟩:=cO k ag;obtain⟨GH,GI,xb⟩:=cu k ag;rw[aca]at ib;have aCC:(r2 T i k (xa T a col i)).M a k=T.M a k:=by
   show(if a=i/\k<k then _ else _)=_;rw[aU (by omega)]
  rw[aCC]at xb;have eo:=hw.up fQ;have s1:=aG i col ad af;have s2:=aG a k aN ag;have de:=aG i k ad ag;by_cases e:k=col
  ·subst e;simp[bn,GI,ag,-Sl];refine aR.bZb (vs:=[w,GH]) (sF al.toOb g1 eo.of xb.of (s1.ca fC) (s2.ca fC)) ?_;rintro r aJ ⟨aI,an⟩;obtain⟨rb,rfl,_⟩:=id an;have pM:=aI.some g1 bJ;obtain⟨fu,t3⟩:=(t1.k g1 aI).Ld aI.aL ad ag an pM;simp[pM,ag,rH,show k<cH.length by omega];refine⟨(fQ.k aI (bH aF fQ.next)).trans fu,t3.congr (λ_ _=>rfl) (λ_ _=>rfl) (λ_ _=>rfl) λx y _ _=>GG (by simp[xa]) x y⟩
  ·have bw:¬((k:Int)=(col:Int)):=by omega
   simp[bw,bn,GI,ag,-Sm,-Sn];refine aR.bZb (vs:=[GH]) (jF al.toOb g1 xb.of (s2.ca fC)) ?_;rintro _ H1 ⟨rfl,rfl⟩;by_cases gU:T.M a k=0
   ·simp[lj,gU];refine⟨fQ,t1.congr (λ_ _=>rfl) (λ_ _=>rfl) (λ_ _=>rfl) λx y _ _=>ab9 ?_ x y⟩;rw[xa,aU e,gU];grind
   ·have jG:=g1.lt bJ;have nj:=g1.lt bn;simp[lj,gU];refine eg.of g1.lo rfl ?_;have bE:K pm H1 (H1.up 15):=(K.refl g1).up 15;simp[dt,g1.none,g1.fo,bJ,vd,bn,GI,ag];have d1:=λm=>qz (eo.up bE) (xb.up bE) (bE.some g1 bJ) m;have d2:=λm=>qz (eo.up bE) (xb.up bE) (bE.some g1 bn) m;refine bZk bE.aL (vs:=[w,GH]) (by simp[g1.none]) (λpm' bS=>sF al.toOb bS (eo.up bE).of (xb.up bE).of (s1.ca fC) (s2.ca fC)) ?_;rintro qZ ep cv f6;have df:=cv.res g1;simp;refine bZm cv.aL (vs:=[gP,qZ]) (by simp[df]) (λpm' bS=>v8 al.toOb bS ((ib.up bE).up cv).of f6.of (de.ca fC) ((la s1 s2).ca Sj)) ?_;rintro AH hM dJ f7;have dW:=(K.trans cv dJ).res g1;have yJ:=bE.trans (cv.trans dJ);have pM:=yJ.some g1 bJ;obtain⟨rb,rfl,_⟩:=id f7;simp[dW,pM,ag,jh (bH ey (aD.ge (5+i) (by omega))),show k<cH.length by omega,dx,dm,jG,nj, ez,d1,];obtain⟨fu,t3⟩:=(t1.k g1 yJ).Ld dJ.aL ad ag f7 pM;refine⟨(fQ.k yJ (bH aF fQ.next)).trans fu,t3.congr (λ_ _=>rfl) (λ_ _=>rfl) (λ_ _=>rfl) λx y _ _=>GG (by simp[xa,e]) x y⟩
 ·rintro _ bN ⟨fu,t3⟩;simp;exact fin _ _ fu t3 (by simp)
end
section
variable{P:cr}{ba:Nat}{aA:Nat->Nat}{lc cc:Value}{T:b8}
theorem aCD{a col k t:Nat}(aG:∀k,k<P.n->sz (T.M a k) t)(ag:k<P.n)(af:col<P.n)(aC:T.M a col≠0):sz (fY T a col k) (2*t):=by
 unfold fY;split
 ·exact ff (acb (aG col af) aC) (by omega)
 ·exact Lg (vP (aG k ag)) (aG col af) aC
def q0(T:b8)(a col i:Nat):b8:={T with M:=λx y=>if x=a then fY T a col y else if x<i then(T.fy a col).M x y else T.M x y}
theorem aCE(al:hj X)(g0:cl pm H0)(ey:pm.lo<=ba)(aF:ba<=H0.next)(dU:s9 P)(aD:dH P ba H0 aA lc cc T){t:Nat}(aS:t<=100000){a col:Nat}(aN:a<P.m)(af:col<P.n)(aG:∀k,k<P.n->sz (T.M a k) t)(aC:T.M a col≠0)
 {w:Value} (hw:c1 H0 w (T.M a col)) {ks:List Fr} {L:bQ} (c0:a7 0 L=some (.pointer (some ⟨aA 0,0,none⟩))) (ck:a7 1 L=some (.int .i64 (a:Int))) (cJ:a7 2 L=some (.int .i64 (col:Int))) (h1:a7 6 L=some (.slice (some ⟨aA (5+a),0,none⟩) P.n P.n)) (dO:a7 7 L=some w) (GJ:a7 25 L=some (.int .i64 (P.n:Int))) (aCF:a7 26 L=some (.int .i64 0)) {Q:c'}
 (fin:∀l' H',bp pm ba H0 H'->dH P ba H' aA lc cc (q0 T a col 0)->Sub [(0,.pointer (some ⟨aA 0,0,none⟩)),(1,.int .i64 (a:Int)),(2,.int .i64 (col:Int)),(6,.slice (some ⟨aA (5+a),0,none⟩) P.n P.n)] l'->wp X pm (.res .normal) l' H' ks Q):
 wp X pm (.code Lh) L H0 ks Q:=by
 have j2:=dU.n;have fC:t<=iP:=bH aS (by decide);have rH:=jh (ok:=pm.ok) (o:=pm.num) (bH ey (aD.ge (5+a) (by omega)));simp[-So]
 refine gG (σ:=Unit) P.n (λ_ _=>[(0,.pointer (some ⟨aA 0,0,none⟩)),(1,.int .i64 (a:Int)),(2,.int .i64 (col:Int)),(6,.slice (some ⟨aA (5+a),0,none⟩) P.n P.n),(7,w)])
  (λk _ H'=>bp pm ba H0 H'/\dH P ba H' aA lc cc (r2 T a k (fY T a col))) () (by decide) (by omega) (by simp[c0,ck,cJ,h1,dO,GJ,aCF]) ⟨bp.refl g0,aD.congr (λ_ _=>rfl) (λ_ _=>rfl) (λ_ _=>rfl) λx y _ _=>by simp[r2]⟩ (by simp) ?_ ?_
 ·rintro k _ H1 ag ⟨fQ,t1⟩;have g1:=fQ.aL;obtain⟨cH,bJ,bG,cO⟩:=t1.row a aN;obtain⟨gP,vd,ib⟩:=cO k ag;rw[aca]at ib;have eo:=hw.up fQ;have s1:=aG col af;have s2:=aG k ag;have sJ:k<cH.length:=by omega
  by_cases e:k=col
  ·subst e;simp[-Sp];refine aR.bZb (vs:=[.int .i64 1]) (sE al.toOb g1 (n:=1) (by omega) (by omega)) ?_;rintro r aJ ⟨aI,an⟩;simp[-Sq];refine aR.bZb (vs:=[r,w]) (K8 al.toOb aI.aL an.of (eo.up aI).of (by decide) (s1.ca fC) aC) ?_;rintro _ bN ⟨aQ,dh,rfl,lX⟩;obtain⟨rb,rfl,_⟩:=id lX;have h0:=aI.trans aQ;have pM:=h0.some g1 bJ;obtain⟨eX,t4⟩:=(t1.k g1 h0).Ld aQ.aL aN ag lX pM;simp[pM,ag,rH,sJ];refine⟨(fQ.k h0 (bH aF fQ.next)).trans eX,t4.congr (λ_ _=>rfl) (λ_ _=>rfl) (λ_ _=>rfl) λx y _ _=>GG (by simp[fY]) x y⟩
  ·have bw:¬((k:Int)=(col:Int)):=by omega
   simp[bw,bJ,vd,ag,-Sr,-Ss];refine aR.bZb (vs:=[gP]) (jF al.toOb g1 ib.of (s2.ca fC)) ?_;rintro _ H1 ⟨rfl,rfl⟩;by_cases gU:T.M a k=0
   ·simp[lj,gU];refine⟨fQ,t1.congr (λ_ _=>rfl) (λ_ _=>rfl) (λ_ _=>rfl) λx y _ _=>ab9 ?_ x y⟩;rw[fY,aU e,gU];grind
   ·simp[lj,gU,bJ,vd,ag,-St];refine aR.bZb (vs:=[gP]) (K7 al.toOb g1 ib.of (s2.ca fC)) ?_;rintro r aJ ⟨aI,an⟩;simp[-Su];refine aR.bZb (vs:=[r,w]) (K8 al.toOb aI.aL an.of (eo.up aI).of ((vP s2).ca fC) (s1.ca fC) aC) ?_;rintro _ bN ⟨aQ,dh,rfl,lX⟩;obtain⟨rb,rfl,_⟩:=id lX;have h0:=aI.trans aQ;have pM:=h0.some g1 bJ;obtain⟨eX,t4⟩:=(t1.k g1 h0).Ld aQ.aL aN ag lX pM;simp[pM,ag,rH,sJ];refine⟨(fQ.k h0 (bH aF fQ.next)).trans eX,t4.congr (λ_ _=>rfl) (λ_ _=>rfl) (λ_ _=>rfl) λx y _ _=>GG (by simp[fY,e]) x y⟩
 ·rintro _ bN ⟨fu,t3⟩;simp;refine fin _ _ fu (t3.congr (λ_ _=>rfl) (λ_ _=>rfl) (λ_ _=>rfl) λx y _ bu=>?_) (by simp);show(if x=a then fY T a col y else if x<0 then _ else T.M x y)=if x=a/\y<P.n then fY T a col y else T.M x y
  by_cases e:x=a
  ·simp[e,bu]
  ·simp[e]
end
section
variable{P:cr}{ba:Nat}{aA:Nat->Nat}{lc cc:Value}{T:b8}
theorem acd{a col i:Nat}(h:i=a∨T.M i col=0)(x y:Nat):(q0 T a col (i+1)).M x y=(q0 T a col i).M x y:=by
 show(if x=a then fY T a col y else if x<i+1 then(T.fy a col).M x y else T.M x y)=if x=a then fY T a col y else if x<i then(T.fy a col).M x y else T.M x y
 by_cases e:x=a
 ·simp[e]
 ·by_cases e2:x=i
  ·subst e2;have h:T.M x col=0:=h.resolve_left e;simp only[e,if_false,Nat.lt_irrefl,bYn,if_true];show(if x=a then _ else if y=col then T.M x col*fY T a col col else T.M x y+T.M x col*fY T a col y)=T.M x y;rw[aU e,h];split
   ·rename_i bu;subst bu;rw[h];grind
   ·grind
  ·by_cases bd:x<i
   ·simp[e,bd,show x<i+1 by omega]
   ·simp[e,bd,show ¬x<i+1 by omega]
theorem ace{a col i:Nat}(ta:i≠a):(q0 T a col i).M i=T.M i:=by
 funext y;show(if i=a then fY T a col y else if i<i then(T.fy a col).M i y else T.M i y)=_;simp[ta]
theorem aCG{a col i:Nat}:(q0 T a col i).M a=fY T a col:=by
 funext y;show(if a=a then fY T a col y else _)=_;simp
theorem aCH{a col i w:Nat}(ta:i≠a)(x y:Nat)(bu:y<w):(q0 T a col (i+1)).M x y=(r2 (q0 T a col i) i w (xa (q0 T a col i) a col i)).M x y:=by
 show(if x=a then fY T a col y else if x<i+1 then(T.fy a col).M x y else T.M x y)=if x=i/\y<w then xa (q0 T a col i) a col i y else(q0 T a col i).M x y
 by_cases e2:x=i
 ·subst e2;simp only[ta,if_false,bYn,if_true,bu,and_self];rw[xa,ace ta,aCG];show(if x=a then _ else if y=col then T.M x col*fY T a col col else T.M x y+T.M x col*fY T a col y)=_;rw[aU ta]
 ·simp only[e2,false_and,if_false];show _=if x=a then fY T a col y else if x<i then(T.fy a col).M x y else T.M x y
  by_cases bd:x<i
  ·simp[bd,show x<i+1 by omega]
  ·simp[bd,show ¬x<i+1 by omega]
theorem acf(al:hj X)(g0:cl pm H0)(ey:pm.lo<=ba)(aF:ba<=H0.next)(dU:s9 P)(aD:dH P ba H0 aA lc cc T){t:Nat}(fO:1<=t)(aS:t<=90000)(aG:∀i k,i<P.m->k<P.n->sz (T.M i k) t){a col:Nat}(aN:a<P.m)(af:col<P.n)(aC:T.M a col≠0):
 Call X pm F.uZ [.pointer (some ⟨aA 0,0,none⟩),.int .i64 (a:Int),.int .i64 (col:Int)] H0 λ_ H'=>bp pm ba H0 H'/\dH P ba H' aA lc cc (T.fy a col):=by
 refine Call.h6 al.uZ rfl λQ bU=>?_;have j2:=dU.n;have mM:=dU.m;have fC:t<=iP:=bH aS (by decide);have ft:0<P.m:=by omega
 have kA:0<P.n:=by omega
 have fq:=aD.t;rw[eQ (b:=aA 4) ft]at fq;obtain⟨ms,m1,m2,m3⟩:=aD.m ft;have AI:=m3 a aN;obtain⟨cH,bJ,bG,cO⟩:=aD.row a aN;obtain⟨o1,u',n9⟩:=cO col af;simp[fq,m1,AI,aN,-Sv];simp[bJ,u',af,-Lh,-Sw];refine aCE al g0 ey aF dU aD (t:=t) (by omega) aN af (λk ag=>aG a k aN ag) aC n9 (by simp) (by simp) (by simp) (by simp) (by simp) (by simp) (by simp) (λck H1 fQ t1 oJ=>?_);simp only[Gz]at oJ;obtain⟨jx,tU,zw,NY,_⟩:=oJ;have acg:=t1.t;rw[eQ (b:=aA 4) ft]at acg;have rB:∀i x y,x<P.m->y<P.n->sz ((q0 T a col i).M x y) (4*t+1):=λi x y az bu=>by
  have q':=λy bu=>aCD (T:=T) (a:=a) (col:=col) (k:=y) (λk ag=>aG a k aN ag) bu af aC;show sz (if x=a then fY T a col y else if x<i then(T.fy a col).M x y else T.M x y) _;split
  ·exact ff (q' y bu) (by omega)
  ·rename_i xc;split
   ·show sz (if x=a then _ else if y=col then T.M x col*fY T a col col else T.M x y+T.M x col*fY T a col y) _;rw[aU xc];split
    ·exact ff (la (aG x col az af) (q' col af)) (by omega)
    ·exact ff (zz (aG x y az bu) (la (aG x col az af) (q' y bu))) (by omega)
   ·exact ff (aG x y az bu) (by omega)
 simp[jx,acg,-Sx,-Sy]
 refine gG (σ:=Unit) P.m (λ_ _=>[(0,.pointer (some ⟨aA 0,0,none⟩)),(1,.int .i64 (a:Int)),(2,.int .i64 (col:Int)),(6,.slice (some ⟨aA (5+a),0,none⟩) P.n P.n),(64,.slice (some ⟨aA 4,0,none⟩) P.m P.m)])
  (λi _ H'=>bp pm ba H0 H'/\dH P ba H' aA lc cc (q0 T a col i)) () (by decide) (by omega) (by simp[jx,tU,zw,NY]) ⟨fQ,t1⟩ (by simp) ?_ ?_
 ·rintro i _ aJ ad ⟨fm,t2⟩;have g2:=fm.aL;have rj:=bH aF fm.next;obtain⟨aHj,cS,bL,kF⟩:=t2.m ft;have aCI:=kF i ad;obtain⟨fr,bn,bh,cu⟩:=t2.row i ad;obtain⟨aCJ,aCK,ach⟩:=cu col af;simp[cS,aCI,ad,bn,aCK,af,zWb,-Li,-Dv];by_cases ta:i=a
  ·subst ta;simp;refine aR.not (by simp) ?_;simp[zWb];exact⟨fm,t2.congr (λ_ _=>rfl) (λ_ _=>rfl) (λ_ _=>rfl) λx y _ _=>acd (.inl rfl) x y⟩
  ·have aCL:¬((i:Int)=(a:Int)):=by omega
   have Sz:((i:Int)==(a:Int))=false:=by simpa using aCL
   simp[Sz,-Li,-Dv];have Dw:(q0 T a col i).M i col=T.M i col:=by rw[ace ta]
   refine aR.bZb (vs:=[aCJ]) (jF al.toOb g2 ach.of ((rB i i col ad af).ca (bH (show 4*t+1<=400000 by omega) (by decide)))) ?_;rintro _ aJ ⟨rfl,rfl⟩;by_cases gU:T.M i col=0
   ·simp[lj,Dw,gU,];exact⟨fm,t2.congr (λ_ _=>rfl) (λ_ _=>rfl) (λ_ _=>rfl) λx y _ _=>acd (.inr gU) x y⟩
   ·simp[lj,Dw,gU, -Dv];refine aCA al g2 ey rj dU t2 (t:=4*t+1) (by omega) (rB i) aN ad ta af ach (u64:=.slice (some ⟨aA 4,0,none⟩) P.m P.m) (by simp) (by simp) (by simp) (by simp) (by simp) (by simp) (by simp) (by simp) (by simp) λl' H' k5 ra ku=>?_;simp;exact⟨by simpa using ku,fm.trans k5,ra.congr (λ_ _=>rfl) (λ_ _=>rfl) (λ_ _=>rfl) λx y _ bu=>aCH ta x y bu⟩
 ·rintro _ aJ ⟨fm,t2⟩;have g2:=fm.aL;have eb:=t2.t;rw[eQ (b:=aA 2) ft,eQ (b:=aA 3) kA]at eb;obtain⟨rs,b4,cB,dh⟩:=t2.r ft;obtain⟨cs,cy,dd,dy⟩:=t2.c kA;have Dx:=dh a aN;have w8:=dy col af;have aci:a<rs.length:=by omega
  have acj:col<cs.length:=by omega
  have kf:rs[a]=.int .i64 (T.rows a:Int):=by
   have:=hG aci;rw[Dx]at this;exact(bZI this).symm
  have iZ:cs[col]=.int .i64 (T.aj col:Int):=by
   have:=hG acj;rw[w8]at this;exact(bZI this).symm
  have l1:=g2.lt eb;have nj:=g2.lt b4;have n0:=g2.lt cy;have dr:=t2.ne (i:=2) (j:=3) (by omega) (by omega) (by decide);have Dw:=λo=>jh (ok:=pm.ok) (o:=o) (bH ey (aD.ge 2 (by omega)));have aCM:=λo=>jh (ok:=pm.ok) (o:=o) (bH ey (aD.ge 3 (by omega)));simp;refine eg.of g2.lo rfl ?_;obtain⟨bN,iO⟩:=bZa ((aJ.up 28).put (aA 2) (.cells (rs.set a (.int .i64 (T.aj col:Int))) (.n 1)));have ack:bN.get (aA 3)=some (.cells cs (.n 1)):=by rw[iO,cq (Ne.symm dr)];exact cy
  have YI:∀t,bN.get (aJ.next+t)=none:=λt=>by rw[iO,cq (by omega)];exact g2.none t
  simp[dt,g2.none,g2.fo,<-iO,ack,YI,eb,b4, aN,cy, af,Dw,aCM,aci,acj,kf,iZ,zWb,  dx,dm,l1,nj,n0,];have bE:K pm aJ (aJ.up 28):=(K.refl g2).up 28;obtain⟨fu,t3⟩:=(t2.k g2 bE).aCu bE.aL aN (v:=T.aj col) (bE.some g2 b4);rw[<-iO]at fu t3;obtain⟨eX,t4⟩:=t3.mT fu.aL af (v:=T.rows a) ack;refine bU _ _ _ ?_;simp;refine⟨((fm.k bE (bH aF fm.next)).trans fu).trans eX,t4.congr (λ_ _=>rfl) (λ_ _=>rfl) (λ_ _=>rfl) λx y az _=>?_⟩;show(if x=a then fY T a col y else if y=col then _ else _)=if x=a then fY T a col y else if x<P.m then(T.fy a col).M x y else T.M x y
  by_cases e:x=a
  ·simp[e]
  ·rw[aU e,aU e,bm az];show _=if x=a then _ else _
   rw[aU e]
end
def e5:Option Nat->Int
 | none=>-1
 | some k=>k
theorem AB.load{P:cr}{b k:Nat}{v:Nat->Rat}(h:AB H P b k v){x:Nat}(az:x<k):∃ss p q c,H.get b=some (.cells ss (.n 3))/\cX ss (x*3) 3=some [p,q,c]/\qY H P v x p q c:=by
 obtain⟨ss,U,aa,aq⟩:=h;obtain⟨p,q,c,ao,e2,bd,b1⟩:=aq x az;refine⟨ss,p,q,c,U,?_,b1⟩;have aO:x*3+2<ss.length:=by omega
 unfold cX;rw[dA,bZF (show x*3+3<=ss.length by omega),cond_true];rw[I6 (show x*3<ss.length by omega),I6 (show x*3+1<ss.length by omega),I6 aO];rw[hG (by omega)]at ao e2 bd;cases ao;cases e2;cases bd;rfl
section
variable{P:cr}{ba:Nat}{aA:Nat->Nat}{lc cc:Value}{T:b8}
theorem GK{p:Nat->Bool}{key:Nat->Nat}{k:Nat}(h:p k=false):fX p key (k+1)=fX p key k:=by
 rw[fX];cases fX p key k<;>simp[h]
theorem GL{p:Nat->Bool}{key:Nat->Nat}{k b:Nat}(h:fX p key k=some b):b<k:=(zWd h).1
theorem aCN(al:hj X)(g0:cl pm H0)(dU:s9 P)(aD:dH P ba H0 aA lc cc T)(bj:fh P T){t:Nat}(aS:t<=100000)(aG:l4 P T t){a:Nat}(aN:a<P.m){way:Int}(kn:way=1∨way=-1):
 Call X pm F.wX [.pointer (some ⟨aA 0,0,none⟩),.int .i64 (a:Int),.int .i64 way] H0 λr H'=>K pm H0 H'/\r=.int .i64 (e5 (sP P T a way)):=by
 refine Call.h6 al.wX rfl λQ bU=>?_;have j2:=dU.n;have mM:=dU.m;have fC:t<=iP:=bH aS (by decide);have ft:0<P.m:=by omega
 have fq:=aD.t;rw[eQ (b:=aA 4) ft]at fq;obtain⟨ms,m1,m2,m3⟩:=aD.m ft;have AI:=m3 a aN;obtain⟨p,aC⟩:∃p:Nat->Bool,p=λk=>decide (T.M a k≠0)&&can P T.v (T.aj k) (way*cT (T.M a k)):=⟨_,rfl⟩;simp[fq,m1,AI,aN,-SA]
 refine gG (σ:=Unit) P.n (λk _=>[(0,.pointer (some ⟨aA 0,0,none⟩)),(1,.int .i64 (a:Int)),(2,.int .i64 way),(7,.int .i64 (e5 (fX p T.aj k))),(16,.slice (some ⟨aA (5+a),0,none⟩) P.n P.n)])
  (λk _ H'=>K pm H0 H') () (by decide) (by omega) (by simp[fX,e5]) (K.refl g0) (by simp) ?_ ?_
 ·rintro k _ H1 ag av;have g1:=av.aL;have kA:0<P.n:=by omega
  have jK:0<P.n+P.m:=by omega
  have t1:=aD.k g0 av;have fO:=t1.t;rw[eQ (b:=aA 1) jK,eQ (b:=aA 3) kA]at fO;obtain⟨cH,bJ,bG,cO⟩:=t1.row a aN;obtain⟨gP,vd,ib⟩:=cO k ag;obtain⟨cs,cy,dd,dy⟩:=t1.c kA;have xd:=dy k ag;have q1:=bj.c k ag;obtain⟨vs,va,vb,vc,v1,v2,v3⟩:=(t1.v jK).load q1;have k0:=aG.M a k aN ag;have l1:=g1.lt fO;have jG:=g1.lt v1;have n0:=g1.lt cy;have xe:=g1.lt bJ
  have last:∀(aJ:ah),K pm H0 aJ->p k=true->∀L:bQ,a7 0 L=some (.pointer (some ⟨aA 0,0,none⟩))->a7 1 L=some (.int .i64 (a:Int))->a7 2 L=some (.int .i64 way)->a7 7 L=some (.int .i64 (e5 (fX p T.aj k)))->a7 8 L=some (.int .i64 (k:Int))->
   a7 16 L=some (.slice (some ⟨aA (5+a),0,none⟩) P.n P.n)->a7 17 L=some (.int .i64 (P.n:Int))->a7 18 L=some (.int .i64 (k:Int))->∀ha:c',(∀l' H',K pm H0 H'->Sub [(18,.int .i64 (k:Int)),(17,.int .i64 (P.n:Int)),(0,.pointer (some ⟨aA 0,0,none⟩)),(1,.int .i64 (a:Int)),(2,.int .i64 way),(7,.int .i64 (e5 (fX p T.aj (k+1)))),(16,.slice (some ⟨aA (5+a),0,none⟩) P.n P.n)] l'->ha .normal l' H')->
   wp X pm (.code ve) L aJ [] ha:=by
   intro aJ aI lT L c0 ck cJ dO e3 AJ sD r3 ha fin;have g2:=aI.aL;have t2:=aD.k g0 aI;have eb:=t2.t;rw[eQ (b:=aA 3) kA]at eb;obtain⟨ds,d1,d2,d3⟩:=t2.c kA;have AK:=d3 k ag;have GM:=g2.lt eb;have GN:=g2.lt d1;simp;refine eg.of g2.lo rfl ?_;have bE:K pm H0 (aJ.up 19):=aI.trans ((K.refl g2).up 19)
   cases ai:fX p T.aj k with
   | none=>
     rw[ai]at dO;simp[dt,g2.none,g2.fo, dO,e3,    e5,dx,dm,  zWb];exact fin _ _ bE (by simp[c0,ck,cJ,AJ,sD,r3,fX,ai,lT,e5,])
   | some b=>
     rw[ai]at dO;have Lj:=GL ai;have o0:b<P.n:=by omega
     have GO:=d3 b o0;by_cases bO:T.aj k<T.aj b
     ·simp[dt,g2.none,g2.fo,c0,dO,e3,eb,d1,AK,GO,ag,o0,e5,dx,dm,   GM,GN,bO];exact fin _ _ bE (by simp[c0,ck,cJ,AJ,sD,r3,fX,ai,lT,e5, bO])
     ·simp[dt,g2.none,g2.fo,c0,dO,e3,eb,d1,AK,GO,ag,o0,e5,dx,dm,   GM,GN,bO];exact fin _ _ bE (by simp[c0,ck,cJ,AJ,sD,r3,dO,fX,ai,lT,e5, bO])
  simp[bJ,vd,ag,-ve];refine eg.of g1.lo rfl ?_;simp[dt, g1.fo,-ve];have bE:K pm H1 (H1.up 24):=(K.refl g1).up 24;refine bZm bE.aL (vs:=[gP]) (by simp[g1.none]) (λpm' bS=>kM bS (jF al.toOb bS (ib.up bE).of (k0.ca fC))) ?_;rintro _ _-⟨rfl,rfl⟩;by_cases gU:T.M a k=0
  ·have bl:(cT (T.M a k)==0)=true:=by simp[lj,gU]
   simp[bl,zWb,g1.none,-ve];refine g'.not (by simp[g1.none]) (by simp) ?_;simp[zWb,g1.none,-ve];refine g'.not (by simp[g1.none]) (by simp) ?_;simp[zWb,g1.none,dx,dm,  ez];exact⟨by rw[GK (by rw[aC];simp[gU])],av.trans bE⟩
  ·have bl:(cT (T.M a k)==0)=false:=by simp[lj,gU]
   have eo:=J2 kn gU;have mg:wr .i64 (way*cT (T.M a k))=way*cT (T.M a k):=zWc (by omega) (by omega);simp[bl,g1.none,fO,v1,cy,xd,ag,q1,v2,-ve];refine bZk bE.aL (vs:=[gP]) (by simp[g1.none]) (λpm' bS=>kM bS (jF al.toOb bS (ib.up bE).of (k0.ca fC))) ?_;rintro _ _-⟨rfl,rfl⟩;simp[g1.none,mg,-ve];refine Fq bE.aL (vs:=[.agg #[va,vb,vc],.int .i64 (way*cT (T.M a k))]) (by simp[g1.none]) (by simp) (by simp[c5]) rfl (λpm' bS=>abZ al bS (v3.k bE) (aG.v _ q1) (bH aS (by decide))) ?_;rintro _ aJ aI rfl;have df:=aI.res g1;have h8:=av.trans (bE.trans aI);have yK:=λm=>rA (ib.up bE) (bE.some g1 fO) m;have yL:=λm=>rA (ib.up bE) (bE.some g1 v1) m;have yM:=λm=>rA (ib.up bE) (bE.some g1 cy) m;have acm:=λm=>rA (ib.up bE) (bE.some g1 bJ) m
   cases hk:can P T.v (T.aj k) (way*cT (T.M a k)) with
   | false=>
     simp[df,dx,dm, l1,jG,n0, ez,yK,yL,yM,];exact⟨by rw[GK (by rw[aC];simp[hk])],h8⟩
   | true=>
     simp[df,dx,dm, l1,jG,n0, ez,yK,yL,yM, -ve];exact last _ h8 (by rw[aC];simp[gU,hk]) _ (by simp) (by simp) (by simp) (by simp) (by simp) (by simp) (by simp) (by simp) _ λl' H' k' ku=>by
      simp;exact⟨by simpa using ku,k'⟩
 ·rintro _ H1 av;simp;refine bU _ _ _ ?_;simp[sP,aC];exact av
end
section
variable{P:cr}{ba:Nat}{aA:Nat->Nat}{lc cc:Value}{T:b8}
theorem aCO(al:hj X)(g0:cl pm H0)(dU:s9 P)(aD:dH P ba H0 aA lc cc T)(bj:fh P T){t:Nat}(aS:t<=100000)(aG:l4 P T t):
 Call X pm F.wY [.pointer (some ⟨aA 0,0,none⟩)] H0 λr H'=>K pm H0 H'/\r=.int .i64 (e5 (uC P T)):=by
 refine Call.h6 al.wY rfl λQ bU=>?_;have j2:=dU.n;have mM:=dU.m;have fq:=aD.t;obtain⟨base,gN,yH⟩:=uA (aA 2) P.m;rw[gN]at fq;obtain⟨p,aC⟩:∃p:Nat->Bool,p=λi=>decide (off P T.v (T.rows i)≠0):=⟨_,rfl⟩;simp[fq,-SB]
 refine gG (σ:=Unit) P.m (λk _=>[(0,.pointer (some ⟨aA 0,0,none⟩)),(3,.int .i64 (e5 (fX p T.rows k))),(9,.slice base P.m P.m)])
  (λk _ H'=>K pm H0 H') () (by decide) (by omega) (by simp[fX,e5]) (K.refl g0) (by simp) ?_ ?_
 ·rintro k _ H1 ag av;obtain rfl:=yH (by omega);have g1:=av.aL;have jK:0<P.n+P.m:=by omega
  have ft:0<P.m:=by omega
  have t1:=aD.k g0 av;have fO:=t1.t;rw[eQ (b:=aA 1) jK]at fO;obtain⟨rs,b4,cB,dh⟩:=t1.r ft;have aCP:=dh k ag;have q1:=bj.r k ag;obtain⟨vs,va,vb,vc,v1,v2,v3⟩:=(t1.v jK).load q1;simp[b4,aCP,ag,fO,v1,v2,q1,-SC];refine aR.of (vs:=[.agg #[va,vb,vc]]) (by simp) (by simp[c5]) (Sf al g1 v3 (aG.v _ q1) (bH aS (by decide))) ?_;rintro _ aJ ⟨aI,rfl⟩;have e0:=av.trans aI;have g2:=aI.aL;have t2:=aD.k g0 e0;have eb:=t2.t;rw[eQ (b:=aA 2) ft]at eb;obtain⟨ss,s1,s2,de⟩:=t2.r ft;by_cases bl:off P T.v (T.rows k)=0
  ·have Dk:(off P T.v (T.rows k)==0)=true:=by simpa using bl
   simp[Dk,zWb];exact⟨by rw[GK (by rw[aC];simp[bl])],e0⟩
  ·have Dk:(off P T.v (T.rows k)==0)=false:=by simpa using bl
   have lT:p k=true:=by rw[aC];simp[bl]
   cases ai:fX p T.rows k with
   | none=>
     simp[Dk,e5,zWb];exact⟨by simp[fX,ai,lT],e0⟩
   | some b=>
     have Lj:=GL ai;have tx:b<P.m:=by omega
     have acn:=de b tx;by_cases bO:T.rows k<T.rows b
     ·simp[Dk,e5, eb,s1,acn,tx,bO];exact⟨by simp[fX,ai,lT,bO],e0⟩
     ·simp[Dk,e5, eb,s1,acn,tx,bO];exact⟨by simp[fX,ai,lT,bO],e0⟩
 ·rintro _ H1 av;simp;refine bU _ _ _ ?_;simp[uC,aC];exact av
end
section
variable{P:cr}{ba:Nat}{aA:Nat->Nat}{lc cc:Value}{T:b8}{c:Nat->Rat}
theorem aCQ(q:Rat):-1<=cT q/\cT q<=1:=by
 unfold cT;split
 ·omega
 ·split<;>omega
def GP(P:cr)(c:Nat->Rat)(T:b8):Option Nat->Int
 | none=>0
 | some k=>gl P c T k
theorem aCR(al:hj X)(g0:cl pm H0)(dU:s9 P)(aD:dH P ba H0 aA lc cc T)(bj:fh P T){t:Nat}(aS:t<=100000)(aG:l4 P T t){w:Value}(hw:mx H0 w P.n (red P c T)){td:Nat}(zq:td<=30000000)(aB:∀k,k<P.n->sz (red P c T k) td):
 Call X pm F.w1 [.pointer (some ⟨aA 0,0,none⟩),w] H0 λr H'=>K pm H0 H'/\r=.tuple #[.int .i64 (e5 (enters P c T)),.int .i64 (GP P c T (enters P c T))]:=by
 refine Call.h6 al.w1 rfl λQ bU=>?_;have j2:=dU.n;have mM:=dU.m;have fC:td<=iP:=bH zq (by decide);obtain⟨base,cap,rfl,eU⟩:=hw.ex;obtain⟨p,aC⟩:∃p:Nat->Bool,p=λk=>decide (red P c T k≠0)&&can P T.v (T.aj k) (-cT (red P c T k)):=⟨_,rfl⟩;have aco:enters P c T=fX p T.aj P.n:=by rw[aC];rfl
 simp[-SD,-SE]
 refine gG (σ:=Unit) P.n (λk _=>[(0,.pointer (some ⟨aA 0,0,none⟩)),(1,.slice base P.n cap),(6,.int .i64 (e5 (fX p T.aj k))),(9,.slice base P.n cap)])
  (λk _ H'=>K pm H0 H') () (by decide) (by omega) (by simp[fX,e5]) (K.refl g0) (by simp) ?_ ?_
 ·rintro k _ H1 ag av;have g1:=av.aL;have kA:0<P.n:=by omega
  have jK:0<P.n+P.m:=by omega
  have t1:=aD.k g0 av;have fO:=t1.t;rw[eQ (b:=aA 1) jK,eQ (b:=aA 3) kA]at fO;obtain⟨cR,Dy,s6,Rl,gP,rfl,iL,qV,wM,GQ⟩:=eU k ag;have AL:=av.some g0 iL;have ib:=GQ.up av;obtain⟨cs,cy,dd,dy⟩:=t1.c kA;have xd:=dy k ag;have q1:=bj.c k ag;obtain⟨vs,va,vb,vc,v1,v2,v3⟩:=(t1.v jK).load q1;have k0:=aB k ag;have l1:=g1.lt fO;have jG:=g1.lt v1;have n0:=g1.lt cy;have xe:=g1.lt AL
  have last:∀(aJ:ah),K pm H0 aJ->p k=true->∀L:bQ,a7 0 L=some (.pointer (some ⟨aA 0,0,none⟩))->a7 1 L=some (.slice (some ⟨cR,Dy,none⟩) P.n cap)->a7 6 L=some (.int .i64 (e5 (fX p T.aj k)))->a7 7 L=some (.int .i64 (k:Int))->
   a7 9 L=some (.slice (some ⟨cR,Dy,none⟩) P.n cap)->a7 10 L=some (.int .i64 (P.n:Int))->a7 11 L=some (.int .i64 (k:Int))->∀ha:c',(∀l' H',K pm H0 H'->Sub [(11,.int .i64 (k:Int)),(10,.int .i64 (P.n:Int)),(0,.pointer (some ⟨aA 0,0,none⟩)),(1,.slice (some ⟨cR,Dy,none⟩) P.n cap),(6,.int .i64 (e5 (fX p T.aj (k+1)))),(9,.slice (some ⟨cR,Dy,none⟩) P.n cap)] l'->ha .normal l' H')->
   wp X pm (.code vf) L aJ [] ha:=by
   intro aJ aI lT L c0 ck dO e3 AJ sD r3 ha fin;have g2:=aI.aL;have t2:=aD.k g0 aI;have eb:=t2.t;rw[eQ (b:=aA 3) kA]at eb;obtain⟨ds,d1,d2,d3⟩:=t2.c kA;have AK:=d3 k ag;have GM:=g2.lt eb;have GN:=g2.lt d1;simp;refine eg.of g2.lo rfl ?_;have bE:K pm H0 (aJ.up 19):=aI.trans ((K.refl g2).up 19)
   cases ai:fX p T.aj k with
   | none=>
     rw[ai]at dO;simp[dt,g2.none,g2.fo, dO,e3,    e5,dx,dm,  zWb];exact fin _ _ bE (by simp[c0,ck,AJ,sD,r3,fX,ai,lT,e5,])
   | some b=>
     rw[ai]at dO;have Lj:=GL ai;have o0:b<P.n:=by omega
     have GO:=d3 b o0;by_cases bO:T.aj k<T.aj b
     ·simp[dt,g2.none,g2.fo,c0,dO,e3,eb,d1,AK,GO,ag,o0,e5,dx,dm,   GM,GN,bO];exact fin _ _ bE (by simp[c0,ck,AJ,sD,r3,fX,ai,lT,e5, bO])
     ·simp[dt,g2.none,g2.fo,c0,dO,e3,eb,d1,AK,GO,ag,o0,e5,dx,dm,   GM,GN,bO];exact fin _ _ bE (by simp[c0,ck,AJ,sD,r3,dO,fX,ai,lT,e5, bO])
  simp[AL,qV,wM,ag,-vf];refine eg.of g1.lo rfl ?_;simp[dt, g1.fo,-vf];have bE:K pm H1 (H1.up 23):=(K.refl g1).up 23;refine bZm bE.aL (vs:=[gP]) (by simp[g1.none]) (λpm' bS=>kM bS (jF al.toOb bS (ib.up bE).of (k0.ca fC))) ?_;rintro _ _-⟨rfl,rfl⟩;by_cases gU:red P c T k=0
  ·have bl:(cT (red P c T k)==0)=true:=by simp[lj,gU]
   simp[bl,zWb,g1.none,-vf];refine g'.not (by simp[g1.none]) (by simp) ?_;simp[zWb,g1.none,-vf];refine g'.not (by simp[g1.none]) (by simp) ?_;simp[zWb,g1.none,dx,dm,  ez];exact⟨by rw[GK (by rw[aC];simp[gU])],av.trans bE⟩
  ·have bl:(cT (red P c T k)==0)=false:=by simp[lj,gU]
   have eo:cT (red P c T k)=1∨cT (red P c T k)=-1:=(lq gU).imp (·.2) (·.2);have mg:wr .i64 (-cT (red P c T k))=-cT (red P c T k):=zWc (by omega) (by omega);simp[bl,g1.none,fO,v1,cy,xd,ag,q1,v2,-vf];refine bZk bE.aL (vs:=[gP]) (by simp[g1.none]) (λpm' bS=>kM bS (jF al.toOb bS (ib.up bE).of (k0.ca fC))) ?_;rintro _ _-⟨rfl,rfl⟩;simp[g1.none,mg,-vf];refine Fq bE.aL (vs:=[.agg #[va,vb,vc],.int .i64 (-cT (red P c T k))]) (by simp[g1.none]) (by simp) (by simp[c5]) rfl (λpm' bS=>abZ al bS (v3.k bE) (aG.v _ q1) (bH aS (by decide))) ?_;rintro _ aJ aI rfl;have df:=aI.res g1;have h8:=av.trans (bE.trans aI);have yK:=λm=>rA (ib.up bE) (bE.some g1 fO) m;have yL:=λm=>rA (ib.up bE) (bE.some g1 v1) m;have yM:=λm=>rA (ib.up bE) (bE.some g1 cy) m
   cases hk:can P T.v (T.aj k) (-cT (red P c T k)) with
   | false=>
     simp[df,dx,dm, l1,jG,n0, ez,yK,yL,yM];exact⟨by rw[GK (by rw[aC];simp[hk])],h8⟩
   | true=>
     simp[df,dx,dm, l1,jG,n0, ez,yK,yL,yM,-vf];exact last _ h8 (by rw[aC];simp[gU,hk]) _ (by simp) (by simp) (by simp) (by simp) (by simp) (by simp) (by simp) _ λl' H' k' ku=>by
      simp;exact⟨by simpa using ku,k'⟩
 ·rintro _ H1 av;simp[-SF];rw[<-aco]
  cases he:enters P c T with
  | none=>
    simp[e5];refine bU _ _ _ ?_;simp[he,e5,GP];exact av
  | some b=>
    have o0:b<P.n:=GL (aco▸he);obtain⟨cR,Dy,s6,Rl,gP,rfl,iL,qV,wM,GQ⟩:=eU b o0;have AL:=av.some g0 iL;simp[e5,AL,qV,wM,o0,-SG];refine aR.bZb (vs:=[gP]) (jF al.toOb av.aL (GQ.up av).of ((aB b o0).ca fC)) ?_;rintro _ H1 ⟨rfl,rfl⟩;have mg:wr .i64 (-cT (red P c T b))=-cT (red P c T b):=by
     have:=aCQ (red P c T b);exact zWc (by omega) (by omega)
    simp[mg];refine bU _ _ _ ?_;simp[he,e5,GP,gl];exact av
end
section
variable{P:cr}{ba:Nat}{aA:Nat->Nat}{lc cc:Value}{T:b8}
theorem aCS(m:Perm)(a:Array Value)(k:IntKind)(i:Int):gI m [.agg a,.int k i]=[]:=rfl
theorem acp{t:Nat}(aG:l4 P T t)(bj:fh P T){col:Nat}(af:col<P.n){way:Int}:∀{i:Nat},i<=P.m->∀q,(fv P T col way i).gH=some q->sz q (4*t+2):=by
 have uI:∀x w r,x<P.n+P.m->room P T.v x w=some r->sz r (2*t+1):=λx w r az h=>by
  have aw:=aG.v x az;unfold room at h;split at h
  ·rename_i u hu;cases h;split at hu
   ·exact Dq (aw.up u hu) aw.v
   ·cases hu
  ·split at h
   ·rename_i l aO;cases h;split at aO
    ·exact Dq aw.v (aw.lo l aO)
    ·cases aO
   ·cases h
 intro i
 induction i with
 | zero=>
   intro _ q h;exact ff (uI _ _ _ (bj.c col af) h) (by omega)
 | succ i ih=>
   intro ad q h;rw[fv]at h;have ih:=ih (by omega);split at h
   ·exact ih q h
   ·rename_i dp;split at h
    ·exact ih q h
    ·rename_i r an;have aV:sz (r/e4 (T.M i col)) (4*t+2):=by
      have U:=uI _ _ _ (bj.r i (by omega)) an;have aa:sz (e4 (T.M i col)) (2*t+1):=by
       have:=ff (aG.M i col (by omega) af) (show t<=2*t+1 by omega);unfold e4;split
       ·exact vP this
       ·exact this
      have:=Lg U aa (by have:=oU dp;grind);exact ff this (by omega)
     unfold jI.add at h;split at h
     ·cases h;exact aV
     ·split at h
      ·cases h;exact aV
      ·exact ih q h
theorem aCT{t:Nat}{v:Nat->Rat}{x:Nat}(aw:Lc P v x t){w:Int}{r:Rat}(h:room P v x w=some r):sz r (2*t+1):=by
 unfold room at h;split at h
 ·rename_i u hu;cases h;split at hu
  ·exact Dq (aw.up u hu) aw.v
  ·cases hu
 ·split at h
  ·rename_i l aO;cases h;split at aO
   ·exact Dq aw.v (aw.lo l aO)
   ·cases aO
  ·cases h
theorem aCU(al:hj X)(g0:cl pm H0)(dU:s9 P)(aD:dH P ba H0 aA lc cc T)(bj:fh P T){t:Nat}(aS:t<=100000)(aG:l4 P T t){col:Nat}(af:col<P.n){way:Int}(kn:way=1∨way=-1):
 Call X pm F.w2 [.pointer (some ⟨aA 0,0,none⟩),.int .i64 (col:Int),.int .i64 way] H0 λr H'=>K pm H0 H'/\∃f,r=.tuple #[f,.int .i64 (e5 (fv P T col way P.m).ind)]/\ia H' f (fv P T col way P.m).gH:=by
 refine Call.h6 al.w2 rfl λQ bU=>?_;have j2:=dU.n;have mM:=dU.m;have fC:t<=iP:=bH aS (by decide);have yN:4*t+2<=iP:=bH (show 4*t+2<=500000 by omega) (by decide);have esz:2*t+1<=iP:=bH (show 2*t+1<=500000 by omega) (by decide);have kA:0<P.n:=by omega
 have jK:0<P.n+P.m:=by omega
 have fq:=aD.t;rw[eQ (b:=aA 1) jK,eQ (b:=aA 3) kA]at fq;obtain⟨cs,cy,dd,dy⟩:=aD.c kA;have w8:=dy col af;have Lk:=bj.c col af;obtain⟨vs,va,vb,vc,v1,v2,v3⟩:=(aD.v jK).load Lk;have l1:=g0.lt fq;have jG:=g0.lt v1;have n0:=g0.lt cy;simp[-Ll];refine eg.of g0.lo rfl ?_;have bE:K pm H0 (H0.up 25):=(K.refl g0).up 25;simp[dt,g0.none,g0.fo,fq,cy,w8,af,Lk,v1,v2,-Ll];refine GA bE.aL (vs:=[.agg #[va,vb,vc],.int .i64 way]) (by simp[g0.none]) (by simp) (by simp[c5]) rfl (λpm' bS=>ab0 al bS (v3.k bE) (aG.v _ Lk) (bH aS (by decide))) ?_;rintro f1 H1 av sn;have df:=av.res g0;have qx:=bE.trans av;obtain⟨base,gN,yH⟩:=uA (aA 4) P.m;have fO:=qx.some g0 aD.t;rw[gN]at fO;simp[df,dx,dm,l1,jG,n0,eJ,ez,aCS,fO,-SH]
 refine gG (σ:=Value) P.m (λi f=>[(0,.pointer (some ⟨aA 0,0,none⟩)),(1,.int .i64 (col:Int)),(2,.int .i64 way),(8,f),(9,.int .i64 (e5 (fv P T col way i).ind)),(10,.int .i64 ((fv P T col way i).rP:Int)),(41,.slice base P.m P.m)])
  (λi f H'=>K pm H0 H'/\ia H' f (fv P T col way i).gH) f1 (by decide) (by omega) (by simp[fv,e5]) ⟨qx,by simpa [fv]using sn⟩ (by simp) ?_ ?_
 ·rintro i f aJ ad ⟨aI,bc⟩;obtain rfl:=yH (by omega);have g2:=aI.aL;have ft:0<P.m:=by omega
  have t2:=aD.k g0 aI;obtain⟨ms,m1,m2,m3⟩:=t2.m ft;have AF:=m3 i ad;obtain⟨cH,bJ,bG,cO⟩:=t2.row i ad;obtain⟨o1,u',n9⟩:=cO col af;have k0:=aG.M i col ad af;simp[m1,AF,ad,bJ,u',af,-SI,-SJ];refine aR.bZb (vs:=[o1]) (jF al.toOb g2 n9.of (k0.ca fC)) ?_;rintro _ aJ ⟨rfl,rfl⟩;by_cases dp:T.M i col=0
  ·simp[lj,dp];have e:fv P T col way (i+1)=fv P T col way i:=by rw[fv,bm dp]
   rw[e];exact⟨_,⟨rfl,rfl,rfl⟩,aI,bc⟩
  ·have eb:=t2.t;rw[eQ (b:=aA 1) jK,eQ (b:=aA 2) ft]at eb;obtain⟨rs,b4,cB,dh⟩:=t2.r ft;have yI:=dh i ad;have AE:=bj.r i ad;obtain⟨ws,aCV,GR,wc,cS,bL,kF⟩:=(t2.v jK).load AE;have hB:=g2.lt eb;have bn:=g2.lt cS;have bh:=g2.lt b4;have eo:=J2 kn dp;have mg:wr .i64 (way*cT (T.M i col))=way*cT (T.M i col):=zWc (by omega) (by omega);simp[lj,dp,-GS];refine eg.of g2.lo rfl ?_;have pB:K pm aJ (aJ.up 19):=(K.refl g2).up 19;simp[dt,g2.none,g2.fo,eb,b4,yI,ad,AE,cS,bL,-GS];refine bZk pB.aL (vs:=[o1]) (by simp[g2.none]) (λpm' bS=>kM bS (jF al.toOb bS (n9.up pB).of (k0.ca fC))) ?_;rintro _ _-⟨rfl,rfl⟩;simp[g2.none,mg,-GS];refine Fq pB.aL (vs:=[.agg #[aCV,GR,wc],.int .i64 (way*cT (T.M i col))]) (by simp[g2.none]) (by simp) (by simp[c5]) rfl (λpm' bS=>ab0 al bS (kF.k pB) (aG.v _ AE) (bH aS (by decide))) ?_;rintro aCW bN aQ lX;have dW:=aQ.res g2;have my:=pB.trans aQ;have jH:=aI.trans my;have g3:=jH.aL;have yK:=λm=>rA (n9.up pB) (pB.some g2 eb) m;have yL:=λm=>rA (n9.up pB) (pB.some g2 cS) m;have yM:=λm=>rA (n9.up pB) (pB.some g2 b4) m;have SK:=n9.up my;have Au:=bc.up my;obtain⟨aCX,rfl⟩:=Au.ptr
   cases ym:room P T.v (T.rows i) (way*cT (T.M i col)) with
   | none=>
     rw[ym]at lX;obtain rfl:aCW=.pointer none:=lX;simp[dW,dx,dm,hB,bn,bh, ez,yK,yL,yM,-SL];have e:fv P T col way (i+1)=fv P T col way i:=by rw[fv,aU dp,ym]
     rw[e];exact⟨_,⟨rfl,rfl,rfl⟩,jH,Au⟩
   | some r=>
     rw[ym]at lX;obtain⟨rb,rfl,n6⟩:=id lX;have acq:=aCT (aG.v _ AE) ym;have acr:sz (e4 (T.M i col)) (2*t+1):=by
      have:=ff k0 (show t<=2*t+1 by omega);unfold e4;split
      ·exact vP this
      ·exact this
     have uw:e4 (T.M i col)≠0:=by have:=oU dp;grind
     have acs:=ff (Lg acq acr uw) (show 2*(2*t+1)<=4*t+2 by omega);have e:fv P T col way (i+1)=(fv P T col way i).add (r/e4 (T.M i col)) i (T.rows i):=by rw[fv,aU dp,ym]
     have tail:∀(cp:ah) (u:Value),K pm bN cp->c1 cp u (e4 (T.M i col))->∀L:bQ,a7 0 L=some (.pointer (some ⟨aA 0,0,none⟩))->a7 1 L=some (.int .i64 (col:Int))->a7 2 L=some (.int .i64 way)->a7 8 L=some (.pointer aCX)->a7 9 L=some (.int .i64 (e5 (fv P T col way i).ind))->a7 10 L=some (.int .i64 ((fv P T col way i).rP:Int))->a7 11 L=some (.int .i64 (i:Int))->a7 13 L=some u->
      a7 14 L=some (.pointer (some ⟨rb,0,none⟩))->a7 41 L=some (.slice (some ⟨aA 4,0,none⟩) P.m P.m)->a7 42 L=some (.int .i64 (P.m:Int))->a7 43 L=some (.int .i64 (i:Int))->∀ha:c',
      (∀l' H' f',K pm H0 H'->ia H' f' (fv P T col way (i+1)).gH->Sub [(43,.int .i64 (i:Int)),(42,.int .i64 (P.m:Int)),(0,.pointer (some ⟨aA 0,0,none⟩)),(1,.int .i64 (col:Int)),(2,.int .i64 way),(8,f'),(9,.int .i64 (e5 (fv P T col way (i+1)).ind)),(10,.int .i64 ((fv P T col way (i+1)).rP:Int)),(41,.slice (some ⟨aA 4,0,none⟩) P.m P.m)] l'->ha .normal l' H')->wp X pm (.code AM) L cp [] ha:=by
      intro cp u bt hu L c0 ck cJ e3 pN l10 nc zI x5 AN AO AP ha fin;simp[x5,zI,-SM,-SN];refine aR.bZb (vs:=[.pointer (some ⟨rb,0,none⟩),u]) (K8 al.toOb bt.aL (lX.up bt).of hu.of (acq.ca esz) (acr.ca esz) uw) ?_;rintro _ cV ⟨cd,nn,rfl,xf⟩;obtain⟨GU,rfl,_⟩:=id xf;have Fw:=bt.trans cd;have sH:=jH.trans Fw;have g5:=cd.aL;have t5:=aD.k g0 sH;have pO:=t5.t;rw[eQ (b:=aA 2) ft]at pO;obtain⟨ss,s1,s2,de⟩:=t5.r ft;have SO:=de i ad;have tv:=g5.lt pO;have iL:=g5.lt s1;have vg:K pm cV (cV.up 12):=(K.refl g5).up 12;have AQ:=Au.up Fw
      have take:∀L:bQ,a7 0 L=some (.pointer (some ⟨aA 0,0,none⟩))->a7 1 L=some (.int .i64 (col:Int))->a7 2 L=some (.int .i64 way)->a7 11 L=some (.int .i64 (i:Int))->a7 107 L=some (.bool true)->
       a7 14 L=some (.pointer (some ⟨GU,0,none⟩))->a7 41 L=some (.slice (some ⟨aA 4,0,none⟩) P.m P.m)->a7 42 L=some (.int .i64 (P.m:Int))->a7 43 L=some (.int .i64 (i:Int))->fv P T col way (i+1)=⟨some (r/e4 (T.M i col)),some i,T.rows i⟩->wp X pm (.code Dz) L cV [] ha:=by
       intro L c0 ck cJ nc aCY x5 AN AO AP he;simp[aCY];refine eg.of g5.lo rfl ?_;simp[dt,g5.none,g5.fo,c0,nc,x5,pO,s1,SO,ad,dx,dm,tv,iL,];exact fin _ _ (.pointer (some ⟨GU,0,none⟩)) (sH.trans vg) (by rw[he];exact xf.up vg) (by simp[c0,ck,cJ,AN,AO,AP,he,e5])
      have av0:r/e4 (T.M i col)=r/e4 (T.M i col):=rfl;generalize r/e4 (T.M i col)=q at xf acs e take
      cases iE:(fv P T col way i).gH with
      | none=>
        rw[iE]at AQ;cases AQ;simp[e3,zWb,-Dz];exact take _ (by simp[c0]) (by simp[ck]) (by simp[cJ]) (by simp[nc]) (by simp) (by simp) (by simp[AN]) (by simp[AO]) (by simp[AP]) (by rw[e,jI.add,iE])
      | some p=>
        rw[iE]at AQ;obtain⟨yC,aCZ,_⟩:=id AQ;cases aCZ;have aC0:=acp aG bj af (bWI ad) p iE;simp[e3,-SP,-SQ];refine aR.of (vs:=[.pointer (some ⟨GU,0,none⟩),.pointer (some ⟨yC,0,none⟩)]) (by simp) (by simp) (ud al.toOb g5 xf.of AQ.of (acs.ca yN) (aC0.ca yN)) ?_;rintro _ cV ⟨rfl,rfl⟩;by_cases cy:q<p
        ·simp[rz,cy,zWb,-Dz];exact take _ (by simp[c0]) (by simp[ck]) (by simp[cJ]) (by simp[nc]) (by simp) (by simp) (by simp[AN]) (by simp[AO]) (by simp[AP]) (by rw[e,jI.add,iE];simp[cy])
        ·by_cases dd:q=p
         ·have Lm:(kL q p==0)=true:=by simp[cmp_eq,dd]
          by_cases Ln:T.rows i<(fv P T col way i).rP
          ·simp[rz,cy,Lm, c0,l10,nc,pO,s1,SO,ad,Ln,-Dz];exact take _ (by simp[c0]) (by simp[ck]) (by simp[cJ]) (by simp[nc]) (by simp) (by simp) (by simp[AN]) (by simp[AO]) (by simp[AP]) (by rw[e,jI.add,iE];simp[dd,Ln])
          ·simp[rz,cy,Lm, c0,l10,nc,pO,s1,SO,ad,Ln];have bw:fv P T col way (i+1)=fv P T col way i:=by rw[e,jI.add,iE];simp[cy,Ln]
           exact fin _ _ (.pointer (some ⟨yC,0,none⟩)) sH (by rw[bw,iE];exact AQ) (by simp[c0,ck,cJ,e3,pN,l10,AN,AO,AP,bw])
         ·have Lm:(kL q p==0)=false:=by simp[cmp_eq,dd]
          simp[rz,cy,Lm,zWb];have bw:fv P T col way (i+1)=fv P T col way i:=by rw[e,jI.add,iE];simp[cy,dd]
          exact fin _ _ (.pointer (some ⟨yC,0,none⟩)) sH (by rw[bw,iE];exact AQ) (by simp[c0,ck,cJ,e3,pN,l10,AN,AO,AP,bw])
     simp[dW,dx,dm,hB,bn,bh, ez,yK,yL,yM,-AM];refine aR.bZb (vs:=[o1]) (jF al.toOb g3 SK.of (k0.ca fC)) ?_;rintro _ bN ⟨rfl,rfl⟩;by_cases mX:T.M i col<0
     ·simp[um,mX,-AM];refine aR.bZb (vs:=[o1]) (K7 al.toOb g3 SK.of (k0.ca fC)) ?_;rintro u cp ⟨bt,hu⟩;simp[-AM];refine tail cp u bt (by rw[e4,bm mX];exact hu) _ (by simp) (by simp) (by simp) (by simp) (by simp) (by simp) (by simp) (by simp) (by simp) (by simp) (by simp) (by simp) _ λl' H' f' k' CK ku=>?_;simp;exact⟨f',by simpa using ku,k',CK⟩
     ·simp[um,mX,-AM];refine tail bN o1 (K.refl g3) (by rw[e4,aU mX];exact SK) _ (by simp) (by simp) (by simp) (by simp) (by simp) (by simp) (by simp) (by simp) (by simp) (by simp) (by simp) (by simp) _ λl' H' f' k' CK ku=>?_;simp;exact⟨f',by simpa using ku,k',CK⟩
 ·rintro f H1 ⟨av,bc⟩;simp;refine bU _ _ _ ?_;simp;exact⟨av,bc⟩
end
structure r4(lp:bD)(P:cr)(c:Nat->Rat):Prop where
 n:P.n=lp.aj.length
 m:P.m=lp.rows.length
 cost:∀j,j<P.n->c j=rd (lp.col j).cost
theorem r4.ok{lp:bD}{P:cr}{c:Nat->Rat}(h:r4 lp P c)(au:lp.ok):s9 P:=⟨by rw[h.n];exact au.c,by rw[h.m];exact au.r⟩
section
variable{P:cr}{ba:Nat}{aA:Nat->Nat}{lc cc:Value}{T:b8}{c:Nat->Rat}{lp:bD}
theorem aC1{row:List Value}{k:Nat}{a b c d e:Value}(h:cX row k 5=some [a,b,c,d,e]):row[k+3]? = some d:=by
 unfold cX at h;by_cases ai:k+5<=row.length
 ·rw[dA,bZF ai,cond_true]at h;have h:=bZI h;have:(List.take 5 (List.drop k row))[3]? = some d:=by rw[h];rfl
  rw[pT (by omega),o']at this;exact this
 ·rw[dA,bZS ai,cond_false]at h;cases h
theorem Lo(au:lp.ok)(aC:r4 lp P c){x:Nat}:sz (iD P c x) 10000:=by
 unfold iD;split
 ·rename_i h;rw[aC.cost x h];have az:x<lp.aj.length:=by rw[<-aC.n];exact h
  exact jf (k:=10000) (au.cs (lp.col x) (fR (bD.Cn az))).2.2 (by decide)
 ·exact uh (by decide)
theorem acu(al:hj X)(g0:cl pm H0)(au:lp.ok)(hm:lp.dP=true)(aC:r4 lp P c)(aD:dH P ba H0 aA lc cc T)(af:kI H0 lc lp.aj){x:Nat}(_cYV:x<100000):
 Call X pm F.u2 [.pointer (some ⟨aA 0,0,none⟩),.int .i64 (x:Int)] H0 λr H'=>K pm H0 H'/\c1 H' r (iD P c x):=by
 refine Call.h6 al.u2 rfl λQ bU=>?_;obtain⟨base,cap,rfl,eU⟩:=af.at;have fq:=aD.t;by_cases Av:x<P.n
 ·have qO:x<lp.aj.length:=by rw[<-aC.n];exact Av
  obtain⟨b',off,kO,row,cs,rfl,e2,bd,b1,cQ,cK,rfl⟩:=eU x qO;have lb:=fR cK;have lZ:=bD.zB cK;have aC2:=aC1 b1;have uj:=On (Ci hm lb);have d':=(au.cs cQ lb).2.2;have dr:cQ.cost≠[]:=by rintro e;rw[e]at uj;simp[isNum,Jj]at uj
  simp[fq,qO,e2,bd,aC2];refine aR.bZb (vs:=[aW cQ.cost]) (Dt al g0 (by omega) λ_=>uj) ?_;rintro r H1 ⟨av,U⟩;rw[gT,aU dr]at U;simp;refine bU _ _ _ ?_;simp;exact⟨av,by rw[iD,bm Av,aC.cost x Av,lZ];exact U⟩
 ·have qO:¬x<lp.aj.length:=by rw[<-aC.n];exact Av
  simp[fq,qO];refine aR.bZb (vs:=[.int .i64 0]) (sE al.toOb g0 (n:=0) (by omega) (by omega)) ?_;rintro r H1 ⟨av,U⟩;simp;refine bU _ _ _ ?_;simp;exact⟨av,by rw[iD,aU Av];simpa using U⟩
def nA(P:cr)(c:Nat->Rat)(T:b8)(i k:Nat):Rat:=iD P c (T.aj k)+bs (λi=>iD P c (T.rows i)*T.M i k) i
theorem Lp(au:lp.ok)(aC:r4 lp P c){t:Nat}(aG:l4 P T t){k:Nat}(ag:k<P.n):∀{i:Nat},i<=P.m->sz (nA P c T i k) (10001+i*(10001+t))
 | 0,_=>by
   rw[nA,bs,bZP];exact ff (Lo au aC) (by omega)
 | i+1,ad=>by
   have ih:=Lp au aC aG ag (i:=i) (by omega);have:nA P c T (i+1) k=nA P c T i k+iD P c (T.rows i)*T.M i k:=by
    rw[nA,nA,bs];grind
   rw[this];refine ff (zz ih (la (Lo au aC) (aG.M i k (by omega) ag))) ?_;rw[bZz];omega
theorem aC3(al:hj X)(g0:cl pm H0)(ea:K pm H0 H)(dU:s9 P){j1 rb:Nat}(Lq:H0.next<=j1)(dr:rb≠j1){d M:Nat->Rat}{q:Rat}{t td:Nat}(aV:sz q 10000)(aS:t<=100000)(dp:∀k,k<P.n->sz (M k) t)(zq:td<=10000000)(aB:∀k,k<P.n->sz (d k) td)
 (an:eV H rb P.n P.n M) (gx:0<P.n->eV H j1 P.n P.n d) {w:Value} (hw:c1 H w q) {L:bQ} {i:Nat} {u0 u30:Value} (c0:a7 0 L=some u0) (eT:a7 3 L=some (sl j1 P.n)) (dO:a7 7 L=some (.slice (some ⟨rb,0,none⟩) P.n P.n)) (e3:a7 8 L=some w)
 (aC4:a7 30 L=some u30) (aC5:a7 31 L=some (.int .i64 (P.m:Int))) (aC6:a7 32 L=some (.int .i64 (i:Int))) {Q:c'}
 (fin:∀l' H',K pm H0 H'->gS j1 H H'->(0<P.n->eV H' j1 P.n P.n λk=>d k+q*M k)->Sub [(32,.int .i64 (i:Int)),(31,.int .i64 (P.m:Int)),(0,u0),(3,sl j1 P.n),(30,u30)] l'->Q .normal l' H'):
 wp X pm (.code GV) L H [] Q:=by
 have j2:=dU.n;have fC:t<=iP:=bH aS (by decide);have yN:td<=iP:=bH zq (by decide);obtain⟨GR,rfl,aaw⟩:=id hw;simp[dO,-SR]
 refine gG (σ:=Unit) P.n (λ_ _=>[(32,.int .i64 (i:Int)),(31,.int .i64 (P.m:Int)),(0,u0),(3,sl j1 P.n),(30,u30),(49,.slice (some ⟨rb,0,none⟩) P.n P.n),(8,.pointer (some ⟨GR,0,none⟩))])
  (λk _ H'=>K pm H0 H'/\gS j1 H H'/\(0<P.n->eV H' j1 P.n P.n λy=>if y<k then d y+q*M y else d y)) () (by decide) (by omega) (by simp[c0,eT,e3,aC4,aC5,aC6]) ⟨ea,gS.refl,λh=>(gx h).congr λy _=>by simp⟩ (by simp) ?_ ?_
 ·rintro k _ H1 ag ⟨av,ao,gQ⟩;have g1:=av.aL;have gQ:=gQ (by omega);obtain⟨rs,b4,cB,dh⟩:=an;obtain⟨gP,vd,ib⟩:=dh k ag;have aC7:=ao rb _ dr b4;have k0:=dp k ag;obtain⟨ds,d1,d2,d3⟩:=id gQ;obtain⟨GH,GI,xb⟩:=d3 k ag;have xy:(λy=>if y<k then d y+q*M y else d y) k=d k:=by simp
  rw[xy]at xb;have SS:c1 H1 gP (M k):=ao.eW (gx (by omega)).choose_spec.1 ib;have eo:c1 H1 (.pointer (some ⟨GR,0,none⟩)) q:=ao.eW (gx (by omega)).choose_spec.1 hw;have eF:∀(H':ah) (u:Value),eV H' j1 P.n P.n (λy=>if y=k then d k+q*M k else if y<k then d y+q*M y else d y)->eV H' j1 P.n P.n λy=>if y<k+1 then d y+q*M y else d y:=λH' u h=>h.congr λy _=>by
   by_cases e:y=k
   ·subst e;simp
   ·by_cases e2:y<k
    ·simp[e,e2,show y<k+1 by omega]
    ·simp[e,e2,show ¬y<k+1 by omega]
  simp[aC7,vd,ag,-SU,-SV];refine aR.bZb (vs:=[gP]) (jF al.toOb g1 SS.of (k0.ca fC)) ?_;rintro _ H1 ⟨rfl,rfl⟩;by_cases gU:M k=0
  ·simp[lj,gU];refine⟨av,ao,λ_=>gQ.congr λy _=>?_⟩;by_cases e:y=k
   ·subst e;simp[gU,bZP]
   ·by_cases e2:y<k
    ·simp[e2,show y<k+1 by omega]
    ·simp[e2,show ¬y<k+1 by omega]
  ·have nj:=g1.lt d1;rw[eQ (show 0<P.n by omega)];simp[lj,gU];refine eg.of g1.lo rfl ?_;have bE:K pm H1 (H1.up 12):=(K.refl g1).up 12;simp[dt,g1.none,g1.fo,d1,GI,ag];have GF:=λm=>qz (eo.up bE) (SS.up bE) (bE.some g1 d1) m;refine bZk bE.aL (vs:=[.pointer (some ⟨GR,0,none⟩),gP]) (by simp[g1.none]) (λpm' bS=>sF al.toOb bS (eo.up bE).of (SS.up bE).of (aV.ca (by decide)) (k0.ca fC)) ?_;rintro qZ ep cv f6;have df:=cv.res g1;simp;refine bZm cv.aL (vs:=[GH,qZ]) (by simp[df]) (λpm' bS=>v8 al.toOb bS ((xb.up bE).up cv).of f6.of ((aB k ag).ca yN) ((la aV k0).ca (bH (show 10000+t<=110000 by omega) (by decide)))) ?_;rintro AH hM dJ f7;have dW:=(K.trans cv dJ).res g1;have yJ:=bE.trans (cv.trans dJ);have qE:=yJ.some g1 d1;obtain⟨GD,rfl,_⟩:=id f7;have eO:∀o,Perm.may ⟨pm.lo,pm.ok,o⟩ j1=true:=λo=>jh (bH g0.lo Lq);simp[dW,qE,ag,eO,show k<ds.length by omega,dx,dm,nj, ez,GF];obtain⟨u8,d8⟩:=eV.put (m:=H0.next) dJ.aL Lq qE d2 (λy bu=>(d3 y bu).imp λv aw=>⟨aw.1,aw.2.up yJ⟩) ag f7 (k':=P.n) (λy bu=>.inr bu);exact⟨bp.trans (av.trans yJ) u8,ao.trans (gS.trans (yJ.uf g1) gS.put),λ_=>eF _ (.pointer none) d8⟩
 ·rintro _ H1 ⟨av,ao,gQ⟩;simp;exact fin _ _ av ao (λh=>(gQ h).congr λy bu=>by simp[bu]) (by simp)
end
theorem n7.aC8{v:Value}{i n:Nat}{x:Nat->Rat}(h:n7 pm n H v i x)(aD:i=0->v=.slice none 0 0):∃j1,v=sl j1 i/\(0<i->n<=j1/\eV H j1 i i x):=by
 obtain⟨ss,o,gs,au,az⟩:=h;by_cases h:i=0
 ·subst h;exact⟨0,aD rfl,λh=>by omega⟩
 ·cases o with
  | none=>
    obtain⟨rfl,_,rfl⟩:=gs;exact absurd rfl h
  | some d=>
    obtain⟨rfl,aO,aK⟩:=gs;exact⟨d,(eQ (by omega)).symm,λ_=>⟨(au d rfl).1,ss,aK,by simpa using aO,az⟩⟩
section
variable{P:cr}{ba:Nat}{aA:Nat->Nat}{lc cc:Value}{T:b8}{c:Nat->Rat}{lp:bD}
theorem dH.lt(h:dH P ba H aA lc cc T)(g:cl pm H){i:Nat}(ad:i<P.m):aA (5+i)<H.next:=by
 obtain⟨cH,U,_⟩:=h.row i ad;exact g.lt U
theorem acv(al:hj X)(g0:cl pm H0)(au:lp.ok)(hm:lp.dP=true)(aC:r4 lp P c)(aD:dH P ba H0 aA lc cc T)(af:kI H0 lc lp.aj)(bj:fh P T){t:Nat}(aS:t<=100000)(aG:l4 P T t):
 Call X pm F.u3 [.pointer (some ⟨aA 0,0,none⟩)] H0 λr H'=>K pm H0 H'/\mx H' r P.n (red P c T):=by
 refine Call.h6 al.u3 rfl λQ bU=>?_;have dU:=aC.ok au;have j2:=dU.n;have mM:=dU.m;have fq:=aD.t;obtain⟨fK,bd,Lr⟩:=uA (aA 3) P.n;rw[bd]at fq;simp[fq,-SW,-SX]
 refine gG (σ:=Value) P.n (λ_ u=>[(0,.pointer (some ⟨aA 0,0,none⟩)),(3,u),(14,.slice fK P.n P.n)])
  (λk u H'=>K pm H0 H'/\n7 pm H0.next H' u k (nA P c T 0)/\(k=0->u=.slice none 0 0)) (.slice none 0 0) (by decide) (by omega) (by simp) ⟨K.refl g0,n7.nil,λ_=>rfl⟩ (by simp) ?_ ?_
 ·rintro k u H1 ag ⟨av,bc,_⟩;obtain rfl:=Lr (by omega);have g1:=av.aL;have t1:=aD.k g0 av;obtain⟨cs,cy,dd,dy⟩:=t1.c (by omega);have xd:=dy k ag;have q1:=bj.c k ag;simp[cy,xd,ag,-SY];refine aR.bZb (vs:=[.pointer (some ⟨aA 0,0,none⟩),.int .i64 (T.aj k:Int)]) (acu al g1 au hm aC t1 (af.ext (av.ext g0)) (by omega)) ?_;rintro r aJ ⟨aI,an⟩;obtain⟨bN,cx,a2,a3⟩:=(bc.k g1 aI).app (by':=8) aI.aL an (by omega) (by omega) (av.trans aI).next;have R2:(λj=>if j=k then iD P c (T.aj k) else nA P c T 0 j)=nA P c T 0:=by
   funext j;by_cases e:j=k
   ·subst e;simp[nA,bs,bZP]
   ·simp[e]
  rw[R2]at a2;obtain⟨a,rfl,_⟩:=id an;simp[aI.aL.pick,aI.aL.make,fill,setCells,cx];exact⟨bp.trans (av.trans aI) a3,a2⟩
 ·rintro u H1 ⟨av,bc,zU⟩;have g1:=av.aL;obtain⟨j1,rfl,Lq⟩:=bc.aC8 zU;obtain⟨rQ,b1,aC9⟩:=uA (aA 4) P.m;have fO:=av.some g0 aD.t;rw[b1]at fO;obtain⟨AR,aDa,aDb,aDc⟩:∃AR,sl j1 P.n=sl AR P.n/\H0.next<=AR/\(0<P.n->eV H1 AR P.n P.n (nA P c T 0)):=by
   by_cases h:P.n=0
   ·exact⟨H0.next,by simp[sl,h],bR _,λgJ=>by omega⟩
   ·obtain⟨U,aa⟩:=Lq (by omega);exact⟨j1,rfl,U,λ_=>aa⟩
  rw[aDa];simp[fO,-SZ]
  refine gG (σ:=Unit) P.m (λ_ _=>[(0,.pointer (some ⟨aA 0,0,none⟩)),(3,sl AR P.n),(30,.slice rQ P.m P.m)])
   (λi _ H'=>K pm H0 H'/\(0<P.n->eV H' AR P.n P.n (nA P c T i))) () (by decide) (by omega) (by simp) ⟨av,aDc⟩ (by simp) ?_ ?_
  ·rintro i _ aJ ad ⟨aI,kd⟩;obtain rfl:=aC9 (by omega);have g2:=aI.aL;have t2:=aD.k g0 aI;obtain⟨ms,m1,m2,m3⟩:=t2.m (by omega);have AF:=m3 i ad;obtain⟨rs,b4,cB,dh⟩:=t2.r (by omega);have yI:=dh i ad;have eb:=t2.t;rw[eQ (b:=aA 2) (show 0<P.m by omega)]at eb;have AE:=bj.r i ad;simp[m1,AF,ad,eb,b4,yI,-S0,-S1];refine aR.bZb (vs:=[.pointer (some ⟨aA 0,0,none⟩),.int .i64 (T.rows i:Int)]) (acu al g2 au hm aC t2 (af.ext (aI.ext g0)) (by omega)) ?_;rintro r bN ⟨aQ,an⟩;have h0:=aI.trans aQ;have gz:∀k,nA P c T (i+1) k=nA P c T i k+iD P c (T.rows i)*T.M i k:=λk=>by rw[nA,nA,bs];grind
   simp[-S2,-GV];refine aR.bZb (vs:=[r]) (jF al.toOb aQ.aL an.of ((Lo au aC).ca (by decide))) ?_;rintro _ bN ⟨rfl,rfl⟩;by_cases bl:iD P c (T.rows i)=0
   ·simp[lj,bl];exact⟨h0,λh=>((kd h).k g2 aQ).congr λk _=>by rw[gz,bl];grind⟩
   ·have dr:aA (5+i)≠AR:=by
     have:=aD.lt g0 ad;omega
    simp[lj,bl,-GV];refine aC3 al g0 h0 dU aDb dr (q:=iD P c (T.rows i)) (M:=T.M i) (d:=nA P c T i) (t:=t) (td:=10000000) (Lo au aC) aS (λk ag=>aG.M i k ad ag) (by omega) (λk ag=>ff (Lp au aC aG ag (bWI ad)) ?_) ((t2.row i ad).k g2 aQ) (λh=>(kd h).k g2 aQ) an (u0:=.pointer (some ⟨aA 0,0,none⟩)) (u30:=.slice (some ⟨aA 4,0,none⟩) P.m P.m) (i:=i) (by simp) (by simp) (by simp) (by simp) (by simp) (by simp) (by simp) λl' H' k' bw m' ku=>?_
    ·have:i*(10001+t)<=40*110001:=ie (by omega) (by omega);omega
    ·simp;exact⟨by simpa using ku,k',λh=>(m' h).congr λk _=>gz k⟩
  ·rintro _ aJ ⟨aI,kd⟩;simp;refine bU _ _ _ ?_;simp;refine⟨aI,?_⟩;by_cases h:P.n=0
   ·rw[h];exact⟨none,0,rfl,λi ad=>absurd ad (od _)⟩
   ·rw[eQ (by omega)];exact(kd (by omega)).row
end
abbrev tyF:Nat:=T.aDd
theorem kS{b c:Nat}(h:b≠c):gp [b] [c]=true:=by simp[gp,h]
theorem bp.fill(u:bp pm n H H'){c:Nat}(h:n<=c)(aK:H'.get c=none)(af:c<H'.next)(x:cj):bp pm n H (H'.put c x) where
 aL:=⟨⟨u.aL.num,u.aL.lo,λb ai=>by
  have ai:H'.next<=b:=ai;rw[ah.fS,aU (by omega)];exact u.aL.wf b ai,λb ai=>trivial⟩,by
  show(H'.put c x).get 1=_;rw[ah.fS,aU]
  ·exact u.aL.fJ
  ·rintro rfl;rw[u.aL.fJ]at aK;cases aK⟩
 next:=u.next
 get:=λb ai=>by rw[ah.fS,aU (by omega)];exact u.get b ai
 eE:=λb o e=>by
  have e:=u.eE b o e;rw[ah.fS,aU]
  ·exact e
  ·rintro rfl;rw[e]at aK;cases aK
section
variable{P:cr}{ba:Nat}{aA:Nat->Nat}{lc cc:Value}{T:b8}{c:Nat->Rat}{lp:bD}
theorem l4.mono{t ra:Nat}(h:l4 P T t)(aS:t<=ra):l4 P T ra:=⟨λx az=>⟨λl e=>ff ((h.v x az).lo l e) aS,λl e=>ff ((h.v x az).up l e) aS,ff (h.v x az).v aS⟩,λi k ad ag=>ff (h.M i k ad ag) aS⟩
theorem aDe(al:hj X)(g0:cl pm H0)(ey:pm.lo<=ba)(aF:ba<=H0.next)(dU:s9 P)(G:b8->Prop){t:Nat}(fO:1<=t)(aS:t<=20000)(bA:∀T,G T->Inv P T/\l4 P T t/\Ends (rO P) T)(hq:∀T dY,G T->rO P T=some dY->G dY)(aD:dH P ba H0 aA lc cc T)(bK:G T):
 Call X pm F.wZ [.pointer (some ⟨aA 0,0,none⟩)] H0 λr H'=>∃dY,bp pm ba H0 H'/\dH P ba H' aA lc cc dY/\G dY/\(uC P dY=none/\r=.tuple #[.int .i64 0,.bool true]∨∃a,uC P dY=some a/\sP P dY a (off P dY.v (dY.rows a))=none/\r=.tuple #[.int .i64 a,.bool false]):=by
 refine Call.h6 al.wZ rfl λQ bU=>?_;have j2:=dU.n;have mM:=dU.m;simp[-S3];refine hv.of (σ:=b8) (λ_=>[(0,.pointer (some ⟨aA 0,0,none⟩))]) (λT H=>bp pm ba H0 H/\dH P ba H aA lc cc T/\G T) (left (rO P)) T (by simp) ⟨bp.refl g0,aD,bK⟩ ?_;rintro T H1 ⟨fQ,t1,bK⟩;obtain⟨inv,aG,tC⟩:=bA T bK;have bj:=inv.bj;have g1:=fQ.aL;simp[-S4,-S5];refine aR.bZb (vs:=[.pointer (some ⟨aA 0,0,none⟩)]) (aCO al g1 dU t1 bj (t:=t) (by omega) aG) ?_;rintro _ aJ ⟨aI,rfl⟩;have j6:=bH aF fQ.next;have fm:=fQ.k aI j6
 cases hw:uC P T with
 | none=>
   simp[e5];refine bU _ _ _ ?_;simp;exact⟨fm,T,t1.k g1 aI,bK,hw⟩
 | some a=>
   obtain⟨aN,po,_⟩:=zWd hw;have po:off P T.v (T.rows a)≠0:=by simpa using po
   have g2:=aI.aL;have t2:=t1.k g1 aI;have xc:=bj.r a aN;have jK:0<P.n+P.m:=by omega
   have ft:0<P.m:=by omega
   have eb:=t2.t;rw[eQ (b:=aA 1) jK,eQ (b:=aA 2) ft]at eb;obtain⟨rs,b4,cB,dh⟩:=t2.r ft;have Dx:=dh a aN;obtain⟨vs,va,vb,vc,v1,v2,v3⟩:=(t2.v jK).load xc;have l1:=g2.lt eb;have jG:=g2.lt v1;have nj:=g2.lt b4;simp[e5,-Ls];refine eg.of g2.lo rfl ?_;obtain⟨Lt,rfl⟩:=v3.lo.ptr;obtain⟨Lu,rfl⟩:=v3.up.ptr;obtain⟨rJ,rfl,_⟩:=id v3.v;obtain⟨bN,iO⟩:=bZa (((aJ.up 15).put (aJ.next+13) (.cells [.pointer none,.pointer none,.pointer none] (.t tyF))).put (aJ.next+13) (.cells [.pointer Lt,.pointer Lu,.pointer (some ⟨rJ,0,none⟩)] (.t tyF)));have n14:((aJ.up 15).put (aJ.next+13) (.cells [.pointer none,.pointer none,.pointer none] (.t tyF))).get (aJ.next+14)=none:=by rw[cq (by omega)];exact g2.none 14
   have bE:K pm aJ (aJ.up 15):=(K.refl g2).up 15;have aQ:K pm aJ bN:=by
    rw[iO];exact bp.put (bp.fill bE (hS _ _) (g2.none 13) (by show aJ.next+13<aJ.next+15;omega) _) (hS _ _) dX (by simp) _
   have jU:bN.get (aJ.next+13)=some (.cells [.pointer Lt,.pointer Lu,.pointer (some ⟨rJ,0,none⟩)] (.t tyF)):=by rw[iO];exact dX
   have eO:=λo=>jh (ok:=pm.ok) (o:=o) (lo:=pm.lo) (b:=aJ.next+13) (bH g2.lo (hS _ _));have DA:=g2.none 13;have Lv:=kS (show aJ.next+13≠aA 0 by omega);have Jq:=kS (show aJ.next+13≠aA 1 by omega);have Jr:=kS (show aJ.next+13≠aA 2 by omega);simp[dt,g2.none,g2.fo,eb,b4,Dx,aN,v1,v2,xc,Perm.make,Perm.pick,ptr,c5,<-iO, n14,eO,dx,dm,l1,jG,nj, ez,Lv,Jq,Jr,-Ls];clear iO n14 Lv Jq Jr DA;have g3:=aQ.aL;have fu:=fm.k aQ (bH j6 aI.next);have GW:=aG.v _ xc;have acw:=g3.lt jU;have w9:K pm bN (bN.up 6):=(K.refl g3).up 6;simp[-Lw];refine eg.of g3.lo rfl ?_;simp[dt,g3.none,g3.fo,jU,cX,-Lw];have DA:=acw;generalize aJ.next+13=b at*
   refine GA w9.aL (vs:=[.agg #[.pointer Lt,.pointer Lu,.pointer (some ⟨rJ,0,none⟩)]]) (by simp[g3.none]) (by simp) (by simp[c5]) rfl (λpm' bS=>Sf al bS ((v3.k aQ).k w9) GW (by omega)) ?_;rintro _ cp bt rfl;have df:=bt.res g3;have ji:=w9.trans bt;have mw:=ji.some g3 jU;have eX:=fu.k ji (bH (bH j6 aI.next) aQ.next);have t4:=(t2.k g2 aQ).k g3 ji;have v4:=(v3.k aQ).k ji;have g4:=eX.aL;have Lx:=bH aF eX.next;simp[df,dx,dm,acw,eJ,ez,gI,-GX];obtain⟨w,AS⟩:=bZa (off P T.v (T.rows a));have eo:=Ab po;rw[<-AS]at eo|-
   have rest:∀(Ly:Value) (L:bQ),c1 cp Ly (goal P (T.rows a) w)->a7 0 L=some (.pointer (some ⟨aA 0,0,none⟩))->a7 4 L=some (.int .i64 (a:Int))->a7 5 L=some (.pointer (some ⟨b,0,none⟩))->a7 6 L=some (.int .i64 w)->a7 7 L=some Ly->
    wp X pm (.code GX) L cp [] λx l H=>(x=.ret/\sP P T a w=none/\a7 2 l=some (.int .i64 (a:Int))/\a7 3 l=some (.bool false)/\bp pm ba H0 H/\dH P ba H aA lc cc T)∨(x=.normal/\∃col,sP P T a w=some col/\a7 0 l=some (.pointer (some ⟨aA 0,0,none⟩))/\bp pm ba H0 H/\dH P ba H aA lc cc (l2 P T a col)):=by
    intro Ly L aDf c0 hP lf h1 dO;simp[c0,hP,h1,-S6,-S7];refine aR.of (vs:=[.pointer (some ⟨aA 0,0,none⟩),.int .i64 (a:Int),.int .i64 w]) (by simp) (by simp[]) (aCN al g4 dU t4 bj (t:=t) (by omega) aG aN eo) ?_;rintro _ cV ⟨cd,rfl⟩;have g5:=cd.aL;have t5:=t4.k g4 cd;have hl:=eX.k cd Lx
    cases c9:sP P T a w with
    | none=>
      simp[e5,hP];exact⟨hl,t5⟩
    | some col=>
      obtain⟨af,gy,_⟩:=zWd c9;simp only[cG,eh]at gy;have S8:=gy.1;have qH:=cd.some g4 mw;have pO:=t5.t;rw[eQ (b:=aA 4) ft]at pO;obtain⟨ms,m1,m2,m3⟩:=t5.m ft;have AI:=m3 a aN;obtain⟨cH,bJ,bG,cO⟩:=t5.row a aN;obtain⟨o1,u',n9⟩:=cO col af;have hB:=g5.lt pO;have bn:=g5.lt m1;have bh:=g5.lt bJ;have cu:=g5.lt qH;have vg:K pm cV (cV.up 20):=(K.refl g5).up 20;simp[e5,-GY];refine eg.of g5.lo rfl ?_;simp[dt,g5.none,g5.fo,c0,hP,lf,dO,qH,pO,m1,AI,aN,bJ,u',af,-GY];have ki:=K.trans cd vg;have GZ:=aDf.up ki;have v5:=v4.v.up ki;have cY:=vg.some g5 pO;have ao:=vg.some g5 m1;have e2:=vg.some g5 bJ;have bd:=vg.some g5 qH;have jx:=λm=>qz GZ v5 cY m;have tU:=λm=>qz GZ v5 ao m;have zw:=λm=>qz GZ v5 e2 m;have Fa:=λm=>qz GZ v5 bd m;have k0:=aG.M a col aN af;have acx:sz (goal P (T.rows a) w) t:=by
       unfold goal
       rcases eo with eo | eo
       ·rw[eo,aU (by decide)]
        cases e:P.lo (T.rows a) with
        | none=>exact uh fO
        | some l=>exact GW.lo l e
       ·rw[eo,bm (by decide)]
        cases e:P.up (T.rows a) with
        | none=>exact uh fO
        | some l=>exact GW.up l e
      have fC:t<=iP:=bH aS (by decide);have yN:2*t+1<=iP:=bH (show 2*t+1<=50000 by omega) (by decide);have acy:=Dq acx GW.v;have aDg:sz (z' P T a col) (4*t+2):=by
       unfold z';rw[<-AS];exact ff (Lg acy (ff k0 (by omega)) S8) (by omega)
      refine bZk vg.aL (vs:=[Ly,.pointer (some ⟨rJ,0,none⟩)]) (by simp[g5.none]) (λpm' bS=>Jp al.toOb bS GZ.of v5.of (acx.ca fC) (GW.v.ca fC)) ?_;rintro qZ ep cv f6;have nq:=cv.res g5;have we:=vg.trans cv;have aDh:=n9.up we;simp[-GY];refine bZm cv.aL (vs:=[qZ,o1]) (by simp[nq]) (λpm' bS=>K8 al.toOb bS f6.of aDh.of (acy.ca yN) (k0.ca fC) S8) ?_;rintro _ hM dJ ⟨AH,rfl,f7⟩;have pG:=(K.trans cv dJ).res g5;have acz:=we.trans dJ;have g7:=dJ.aL;have tb:=hl.k acz (bH Lx cd.next);have acA:=bH aF tb.next;have t7:=t5.k g5 acz;have aDi:(goal P (T.rows a) w-T.v (T.rows a))/T.M a col=z' P T a col:=by rw[z',AS]
      rw[aDi]at f7;simp[pG,dx,dm,hB,bn,bh,cu, ez,jx,tU,zw, c0,-S9];refine aR.of (vs:=[.pointer (some ⟨aA 0,0,none⟩),.int .i64 (col:Int),AH]) (by simp) (by simp) (ab3 al g7 ey acA dU t7 bj (t:=4*t+2) (by omega) (aG.mono (by omega)) af f7 aDg) ?_;rintro abn ns ⟨u8,t8⟩;have Fz:=bH acA u8.next;simp[c0,hP];refine aR.of (vs:=[.pointer (some ⟨aA 0,0,none⟩),.int .i64 (a:Int),.int .i64 (col:Int)]) (by simp) (by simp[]) (acf al u8.aL ey Fz dU t8 (t:=t) fO (by omega) (λi k ad ag=>aG.M i k ad ag) aN af S8) ?_;rintro aHk yf ⟨xg,t9⟩;simp[c0];exact⟨(tb.trans u8).trans xg,t9⟩
   have fin:∀x l H,((x=.ret/\sP P T a w=none/\a7 2 l=some (.int .i64 (a:Int))/\a7 3 l=some (.bool false)/\bp pm ba H0 H/\dH P ba H aA lc cc T)∨(x=.normal/\∃col,sP P T a w=some col/\a7 0 l=some (.pointer (some ⟨aA 0,0,none⟩))/\bp pm ba H0 H/\dH P ba H aA lc cc (l2 P T a col)))->wp X pm (.res x) l H [.bI 1] λx l' H'=>match x with
    | .normal=>rF (λ(_:b8)=>[(0,.pointer (some ⟨aA 0,0,none⟩))]) (λT H=>bp pm ba H0 H/\dH P ba H aA lc cc T/\G T) (left (rO P)) T l' H'
    | x=>wp X pm (.res x) l' H' [.bI 0] Q:=by
    rintro x l H (⟨rfl,c9,cJ,eT,u,t⟩ | ⟨rfl,col,c9,c0,u,t⟩)
    ·simp;refine bU _ _ _ ?_;simp[cJ,eT];exact⟨u,T,t,bK,a,hw,by rw[<-AS];exact c9,rfl⟩
    ·simp;have G0:rO P T=some (l2 P T a col):=by rw[rO,hw];simp only;rw[<-AS,c9]
     exact rF.of (l2 P T a col) (Zi tC G0) (by simpa using c0) ⟨u,t,hq _ _ bK G0⟩
   simp[mw,-GX]
   rcases yj po with⟨ao,l,aO,_⟩ | ⟨ao,l,aO,_⟩
   ·have aDj:w=1:=AS.trans ao;refine⟨λh=>by omega,λ_=>wp_cut _ (rest (.pointer Lt) _ ?_ (by simp) (by simp) (by simp) (by simp) (by simp)) fin⟩;have:=v4.lo;rw[aO]at this;rw[goal,aU (by omega),aO];exact this
   ·have aDj:w=-1:=AS.trans ao;refine⟨λ_=>wp_cut _ (rest (.pointer Lu) _ ?_ (by simp) (by simp) (by simp) (by simp) (by simp)) fin,λh=>by omega⟩;have:=v4.up;rw[aO]at this;rw[goal,bm (by omega),aO];exact this
end
section
variable{P:cr}{ba:Nat}{aA:Nat->Nat}{lc cc:Value}{T:b8}{c:Nat->Rat}{lp:bD}
theorem aDk(al:hj X)(g0:cl pm H0)(ey:pm.lo<=ba)(aF:ba<=H0.next)(au:lp.ok)(hm:lp.dP=true)(aC:r4 lp P c)(_bUQ:kI H0 lc lp.aj)(uj:∀H',bp pm ba H0 H'->kI H' lc lp.aj)(G:b8->Prop){t:Nat}(fO:1<=t)(aS:t<=20000)(bA:∀T,G T->Inv P T/\l4 P T t/\Ends (pE P c) T)(hq:∀T dY,G T->pE P c T=some dY->G dY)(aD:dH P ba H0 aA lc cc T)(bK:G T):
 Call X pm F.w3 [.pointer (some ⟨aA 0,0,none⟩)] H0 λr H'=>∃dY,bp pm ba H0 H'/\dH P ba H' aA lc cc dY/\G dY/\(enters P c dY=none/\r=.tuple #[.int .i64 (-1),.int .i64 0]∨∃col,enters P c dY=some col/\(fv P dY col (gl P c dY col) P.m).gH=none/\r=.tuple #[.int .i64 col,.int .i64 (gl P c dY col)]):=by
 refine Call.h6 al.w3 rfl λQ bU=>?_;have dU:=aC.ok au;have j2:=dU.n;have mM:=dU.m;simp[-S'];refine hv.of (σ:=b8) (λ_=>[(0,.pointer (some ⟨aA 0,0,none⟩))]) (λT H=>bp pm ba H0 H/\dH P ba H aA lc cc T/\G T) (left (pE P c)) T (by simp) ⟨bp.refl g0,aD,bK⟩ ?_;rintro T H1 ⟨fQ,t1,bK⟩;obtain⟨inv,aG,tC⟩:=bA T bK;have bj:=inv.bj;have g1:=fQ.aL;have j6:=bH aF fQ.next;simp[-Ta,-Lz];refine aR.bZb (vs:=[.pointer (some ⟨aA 0,0,none⟩)]) (acv al g1 au hm aC t1 (uj _ fQ) bj (t:=t) (by omega) aG) ?_;rintro d aJ ⟨aI,aB⟩;have g2:=aI.aL;have fm:=fQ.k aI j6;have rj:=bH aF fm.next;have t2:=t1.k g1 aI;have G1:∀k,k<P.n->sz (red P c T k) 10000000:=λk ag=>ff (Lp au aC aG ag (bR P.m)) (by
  have:P.m*(10001+t)<=40*30001:=ie mM (by omega);omega)
 simp[-Tb,-Lz];refine aR.bZb (vs:=[.pointer (some ⟨aA 0,0,none⟩),d]) (aCR al g2 dU t2 bj (t:=t) (by omega) aG aB (td:=10000000) (by omega) G1) ?_;rintro _ bN ⟨aQ,rfl⟩;have g3:=aQ.aL;have fu:=fm.k aQ rj;have aDl:=bH aF fu.next;have t3:=t2.k g2 aQ
 cases he:enters P c T with
 | none=>
   simp[e5,GP];refine bU _ _ _ ?_;simp;exact⟨fu,T,t3,bK,he⟩
 | some col=>
   obtain⟨d',gy,_⟩:=zWd he;simp only[cG,eh]at gy;have eo:gl P c T col=1∨gl P c T col=-1:=by
    unfold gl
    rcases lq gy.1 with⟨_,e⟩ | ⟨_,e⟩<;>rw[e]<;>simp
   obtain⟨way,kn⟩:=bZa (gl P c T col);rw[<-kn]at eo;simp[e5,GP,<-kn,-Tc,-Td];refine aR.bZb (vs:=[.pointer (some ⟨aA 0,0,none⟩),.int .i64 (col:Int),.int .i64 way]) (aCU al g3 dU t3 bj (t:=t) (by omega) aG d' eo) ?_;rintro _ cp ⟨bt,f,rfl,bc⟩;have g4:=bt.aL;have eX:=fu.k bt aDl;have Lx:=bH aF eX.next;have t4:=t3.k g3 bt;have acB:=J1 P T col way P.m;have acC:=acp aG bj d' (way:=way) (bR P.m);obtain⟨L,bC⟩:=bZa (fv P T col way P.m);rw[<-bC]at acB acC bc|-
   cases iE:L.gH with
   | none=>
     rw[iE]at bc;obtain rfl:f=.pointer none:=bc;simp;refine bU _ _ _ ?_;simp;exact⟨eX,T,t4,bK,col,he,by rw[<-kn,<-bC];exact iE,rfl,kn⟩
   | some q=>
     rw[iE]at bc;obtain⟨yC,rfl,KT⟩:=id bc;have aV:=acC q iE;have G0:pE P c T=some (l3 P T col way q L.ind):=by rw[pE,he];simp only;rw[<-kn,<-bC,iE]
     have bO:=Zi tC G0;have aDm:=hq _ _ bK G0
     have tail:∀(cV:ah) (u:Value) (l:bQ),K pm cp cV->c1 cV u (if way<0 then -q else q)->a7 0 l=some (.pointer (some ⟨aA 0,0,none⟩))->a7 4 l=some (.int .i64 (col:Int))->a7 6 l=some u->a7 7 l=some (.int .i64 (e5 L.ind))->
      wp X pm (.code G2) l cV [] λx l H=>x=.normal/\a7 0 l=some (.pointer (some ⟨aA 0,0,none⟩))/\bp pm ba H0 H/\dH P ba H aA lc cc (l3 P T col way q L.ind):=by
      intro cV u l cd hu c0 hP h1 dO;have ju:sz (if way<0 then -q else q) (4*t+2):=by
       split
       ·exact vP aV
       ·exact aV
      have hl:=eX.k cd Lx;have aDn:=bH aF hl.next;simp[c0,hP,h1,-Te];refine aR.of (vs:=[.pointer (some ⟨aA 0,0,none⟩),.int .i64 (col:Int),u]) (by simp) (by simp[]) (ab3 al cd.aL ey aDn dU (t4.k g4 cd) bj (t:=4*t+2) (by omega) (aG.mono (by omega)) d' hu ju) ?_;rintro NS ep ⟨kk,t6⟩;have Tf:=hl.trans kk;have Q6:=bH aF Tf.next
      cases ad:L.ind with
      | none=>
        simp[dO,ad,e5,c0];exact⟨Tf,t6⟩
      | some a=>
        obtain⟨aN,dp,_⟩:=acB.row a ad;simp[dO,ad,e5,c0,hP];refine aR.of (vs:=[.pointer (some ⟨aA 0,0,none⟩),.int .i64 (a:Int),.int .i64 (col:Int)]) (by simp) (by simp[  ]) (acf al kk.aL ey Q6 dU t6 (t:=t) fO (by omega) (λi k ad ag=>aG.M i k ad ag) aN d' dp) ?_;rintro PC hM ⟨tb,t7⟩;simp[c0];exact⟨Tf.trans tb,t7⟩
     have fin:∀x l H,(x=.normal/\a7 0 l=some (.pointer (some ⟨aA 0,0,none⟩))/\bp pm ba H0 H/\dH P ba H aA lc cc (l3 P T col way q L.ind))->wp X pm (.res x) l H [.bI 1] λx l' H'=>match x with
      | .normal=>rF (λ(_:b8)=>[(0,.pointer (some ⟨aA 0,0,none⟩))]) (λT H=>bp pm ba H0 H/\dH P ba H aA lc cc T/\G T) (left (pE P c)) T l' H'
      | x=>wp X pm (.res x) l' H' [.bI 0] Q:=by
      rintro x l H ⟨rfl,c0,u,t⟩;simp;exact rF.of _ bO (by simpa using c0) ⟨u,t,aDm⟩
     simp[-G2];refine⟨λmX=>?_,λnR=>?_⟩
     ·refine aR.bZb (vs:=[.pointer (some ⟨yC,0,none⟩)]) (K7 al.toOb g4 bc.of (aV.ca (bH (show 4*t+2<=90000 by omega) (by decide)))) ?_;rintro u cV ⟨cd,hu⟩;simp[-G2];exact wp_cut _ (tail cV u _ cd (by rw[bm mX];exact hu) (by simp) (by simp) (by simp) (by simp)) fin
     ·exact wp_cut _ (tail cp _ _ (K.refl g4) (by rw[aU (by omega)];exact bc) (by simp) (by simp) (by simp) (by simp)) fin
end
def gv(H:ah)(c n:Nat)(f:Nat->List UInt8):Prop:=∃ss,H.get c=some (.cells ss (.n 1))/\ss.length=n/\∀i,i<n->ss[i]? = some (aW (f i))
theorem gv.k{c n:Nat}{f:Nat->List UInt8}(h:gv H c n f)(g:cl pm H)(k:K pm H H'):gv H' c n f:=let ⟨ss,U,aa⟩:=h;⟨ss,k.some g U,aa⟩
theorem gv.congr{c n:Nat}{f f':Nat->List UInt8}(h:gv H c n f)(e:∀i,i<n->f' i=f i):gv H c n f':=let ⟨ss,U,aa,aq⟩:=h;⟨ss,U,aa,λi ad=>by rw[e i ad];exact aq i ad⟩
theorem gv.put{m c n:Nat}{f:Nat->List UInt8}{ss:List Value}(g:cl pm H)(hm:m<=c)(U:H.get c=some (.cells ss (.n 1)))(aa:ss.length=n)(aq:∀i,i<n->ss[i]? = some (aW (f i))){i:Nat}(ad:i<n)(s:List UInt8):
 bp pm m H (H.put c (.cells (ss.set i (aW s)) (.n 1)))/\gv (H.put c (.cells (ss.set i (aW s)) (.n 1))) c n λj=>if j=i then s else f j:=by
 refine⟨bp.put (.refl g) hm U (by simp) _,_,dX,by simp[aa],λj aH=>?_⟩;by_cases e:j=i
 ·subst e;rw[bXz (by omega)];simp
 ·rw[bXC (Ne.symm e),aq j aH];simp[e]
theorem gv.h7{c n b:Nat}{f:Nat->List UInt8}(h:gv H c n f)(ai:b≠c)(x:cj):gv (H.put b x) c n f:=let ⟨ss,U,aa⟩:=h;⟨ss,by rw[cq (Ne.symm ai)];exact U,aa⟩
theorem gv.strs{c n:Nat}{f:Nat->List UInt8}(h:gv H c n f){cap:Nat}:kh H (.slice (some ⟨c,0,none⟩) n cap) ((List.range n).map f):=by
 obtain⟨ss,U,aa,aq⟩:=h;refine⟨some ⟨c,0,none⟩,cap,by simp,λi ad=>?_⟩;have ad:i<n:=by simpa using ad
 exact⟨c,0,_,ss,_,rfl,U,rfl,by rw[Nat.zero_add];exact aq i ad,f i,by simp[ad],rfl⟩
theorem G3(v:Value):∀n,(times [v] n).length=n
 | 0=>rfl
 | n+1=>by rw[times,tr,G3 v n];simp;omega
theorem BO(v:Value):∀n i,i<n->(times [v] n)[i]? = some v
 | n+1,0,_=>by simp[times]
 | n+1,i+1,h=>by
   have:=BO v n i (by omega);simpa [times]using this
theorem acD(al:hj X)(g0:cl pm H0){n:Nat}(aF:n<=1000):Call X pm F.u5 [.int .i64 (n:Int)] H0 λr H'=>K pm H0 H'/\∃c,r=.slice (some ⟨c,0,none⟩) n n/\H0.next<=c/\gv H' c n λ_=>[48]:=by
 refine Call.h6 al.u5 rfl λQ bU=>?_;simp[rD g0.tocU (show n<=1073741824 by omega) (show 16*n<=17179869184 by omega),-Tg];obtain⟨c,af⟩:=bZa (H0.next);have av:K pm H0 (H0.new (.cells (times [aW []] n) (.n 1))):=K.new g0 _;have s1:gv (H0.new (.cells (times [aW []] n) (.n 1))) c n λi=>if i<0 then[48] else[]:=⟨_,by rw[af];exact dT,G3 _ n,λi ad=>by simpa using BO (aW []) n i ad⟩
 have eO:pm.may c=true:=g0.may (by omega);rw[<-af];refine gG (σ:=Unit) n (λ_ _=>[(3,.slice (some ⟨c,0,none⟩) n n)]) (λk _ H'=>K pm H0 H'/\gv H' c n λi=>if i<k then[48] else[]) () (by decide) (by omega) (by simp) ⟨av,s1⟩ (by simp) ?_ ?_
 ·rintro k _ H1 ag ⟨av,ss,cx,a2,a3⟩;obtain⟨fm,s2⟩:=gv.put (m:=H0.next) av.aL (by omega) cx a2 a3 ag [48];simp[cx,ag,eO,show k<ss.length by omega];refine⟨bp.trans av fm,s2.congr λi ad=>?_⟩;by_cases e:i=k
  ·subst e;simp
  ·by_cases e2:i<k
   ·simp[e,e2,show i<k+1 by omega]
   ·simp[e,e2,show ¬i<k+1 by omega]
 ·rintro _ H1 ⟨av,s1⟩;simp;refine bU _ _ _ ?_;simp;exact⟨av,by omega,s1.congr λi ad=>by simp[ad]⟩
section
variable{P:cr}{ba:Nat}{aA:Nat->Nat}{lc cc:Value}{T:b8}{c:Nat->Rat}{lp:bD}
theorem acE(al:hj X)(g0:cl pm H0)(au:lp.ok)(aC:r4 lp P c)(aD:dH P ba H0 aA lc cc T)(af:kI H0 lc lp.aj){t:Nat}(aS:t<=20000)(aG:l4 P T t):
 Call X pm F.u6 [.pointer (some ⟨aA 0,0,none⟩)] H0 λr H'=>K pm H0 H'/\∃c,r=.slice (some ⟨c,0,none⟩) P.n P.n/\H0.next<=c/\gv H' c P.n λj=>dB (T.v j):=by
 refine Call.h6 al.u6 rfl λQ bU=>?_;have dU:=aC.ok au;have j2:=dU.n;have mM:=dU.m;obtain⟨base,cap,rfl,eU⟩:=af.at;have fq:=aD.t;simp only[<-aC.n]at fq;simp[fq,rD g0.tocU (show P.n<=1073741824 by omega) (show 16*P.n<=17179869184 by omega),-Th];obtain⟨d,aB⟩:=bZa (H0.next);have av:K pm H0 (H0.new (.cells (times [aW []] P.n) (.n 1))):=K.new g0 _;have s1:gv (H0.new (.cells (times [aW []] P.n) (.n 1))) d P.n λi=>if i<0 then dB (T.v i) else[]:=⟨_,by rw[aB];exact dT,G3 _ P.n,λi ad=>by simpa using BO (aW []) P.n i ad⟩
 have eO:pm.may d=true:=g0.may (by omega);rw[<-aB];refine gG (σ:=Unit) P.n (λ_ _=>[(0,.pointer (some ⟨aA 0,0,none⟩)),(3,.slice (some ⟨d,0,none⟩) P.n P.n)]) (λk _ H'=>K pm H0 H'/\gv H' d P.n λi=>if i<k then dB (T.v i) else[]) () (by decide) (by omega) (by simp) ⟨av,s1⟩ (by simp) ?_ ?_
 ·rintro k _ H1 ag ⟨av,ss,cx,a2,a3⟩;have t1:=aD.k g0 av;have fO:=t1.t;rw[eQ (b:=aA 1) (show 0<P.n+P.m by omega)]at fO;obtain⟨vs,v1,v2,v3⟩:=t1.v (by omega);obtain⟨aCy,aX,o1,ao,e2,bd,b1⟩:=v3 k (by omega);simp[fO,v1,bd,show k<P.n+P.m by omega,-Ti];refine aR.bZb (vs:=[o1]) (Cj al.toOb av.aL b1.v.of ((aG.v k (by omega)).v.ca (bH aS (by decide)))) ?_;rintro _ H1 ⟨rfl,rfl⟩;obtain⟨fm,s2⟩:=gv.put (m:=H0.next) av.aL (by omega) cx a2 a3 ag (dB (T.v k));simp[cx,ag,eO,show k<ss.length by omega];refine⟨bp.trans av fm,s2.congr λi ad=>?_⟩;by_cases e:i=k
  ·rw[e];simp
  ·by_cases e2:i<k
   ·simp[e,e2,show i<k+1 by omega]
   ·simp[e,e2,show ¬i<k+1 by omega]
 ·rintro _ H1 ⟨av,s1⟩;simp;refine bU _ _ _ ?_;simp;exact⟨av,by omega,s1.congr (f':=λj=>dB (T.v j)) λi ad=>by simp[ad]⟩
end
section
variable{P:cr}{ba:Nat}{aA:Nat->Nat}{lc cc:Value}{T:b8}{c:Nat->Rat}{lp:bD}
def rS(P:cr)(T:b8)(d:Nat->Rat):Nat->Nat->List UInt8
 | 0,_=>[48]
 | k+1,i=>if T.aj k=P.n+i then dB (d k) else rS P T d k i
theorem acF(al:hj X)(g0:cl pm H0)(au:lp.ok)(aC:r4 lp P c)(aD:dH P ba H0 aA lc cc T)(af:kI H0 lc lp.aj)(an:nY H0 cc lp.rows)(bj:fh P T){d:Nat->Rat}{w:Value}(hw:mx H0 w P.n d){td:Nat}(zq:td<=30000000)(aB:∀k,k<P.n->sz (d k) td):
 Call X pm F.u7 [.pointer (some ⟨aA 0,0,none⟩),w] H0 λr H'=>K pm H0 H'/\∃c,r=.slice (some ⟨c,0,none⟩) P.m P.m/\H0.next<=c/\gv H' c P.m (rS P T d P.n):=by
 refine Call.h6 al.u7 rfl λQ bU=>?_;have dU:=aC.ok au;have j2:=dU.n;have mM:=dU.m;have fC:td<=iP:=bH zq (by decide);obtain⟨base,cap,rfl,eU⟩:=af.at;obtain⟨dG,dE,rfl,xU⟩:=an.at;obtain⟨Jo,iW,rfl,Fs⟩:=hw.ex;have fq:=aD.t;simp only[<-aC.n,<-aC.m]at fq;simp[fq,-Tj,-Tk];refine aR.bZb (vs:=[.int .i64 (P.m:Int)]) (acD al g0 (n:=P.m) (by omega)) ?_;rintro _ H1 ⟨av,e,rfl,he,s1⟩;have eO:∀o,Perm.may ⟨pm.lo,pm.ok,o⟩ e=true:=λo=>jh (bH g0.lo he);obtain⟨fK,bd,Lr⟩:=uA (aA 3) P.n;have fO:=av.some g0 fq;rw[bd]at fO;simp[fO,-Tl];refine gG (σ:=Unit) P.n (λ_ _=>[(0,.pointer (some ⟨aA 0,0,none⟩)),(1,.slice Jo P.n iW),(5,.slice (some ⟨e,0,none⟩) P.m P.m),(18,.slice fK P.n P.n)]) (λk _ H'=>K pm H0 H'/\gv H' e P.m (rS P T d k)) () (by decide) (by omega) (by simp) ⟨av,s1⟩ (by simp) ?_ ?_
 ·rintro k _ aJ ag ⟨aI,ss,cx,a2,a3⟩;obtain rfl:=Lr (by omega);have g2:=aI.aL;have t2:=aD.k g0 aI;have eb:=t2.t;simp only[<-aC.n,<-aC.m]at eb;obtain⟨cs,cy,dd,dy⟩:=t2.c (by omega);have xd:=dy k ag;have q1:=bj.c k ag;by_cases az:P.n<=T.aj k
  ·obtain⟨i,ad⟩:∃i,T.aj k=P.n+i:=⟨T.aj k-P.n,by omega⟩;have DB:i<P.m:=by omega
   obtain⟨cR,Dy,s6,Rl,gP,rfl,iL,qV,wM,GQ⟩:=Fs k ag;have AL:=aI.some g0 iL;have ib:=GQ.up aI;have l1:=g2.lt eb;have jG:=g2.lt AL;have aDo:=g2.lt cx;rw[ad]at xd;have mg:wr .i64 ((P.n:Int)+(i:Int)-(P.n:Int))=(i:Int):=by
    rw[zWc (by omega) (by omega)];omega
   simp[cy,xd,ag,eb];refine⟨λ_=>?_,λh=>by omega⟩;refine eg.of g2.lo rfl ?_;have bE:K pm aJ (aJ.up 16):=(K.refl g2).up 16;simp[dt,g2.none,g2.fo,eb,AL,qV,wM,ag,mg];have BR:=bE.some g2 cx;have Lv:=λm=>rA (ib.up bE) (bE.some g2 eb) m;refine bZk bE.aL (vs:=[gP]) (by simp[g2.none]) (λpm' bS=>kM bS (Cj al.toOb bS (ib.up bE).of ((aB k ag).ca fC))) ?_;rintro _ _-⟨rfl,rfl⟩;obtain⟨fu,de⟩:=gv.put (m:=H0.next) bE.aL he BR a2 a3 DB (dB (d k));simp[g2.none,cx,DB,eO,show i<ss.length by omega,dx,dm,l1,jG,aDo, ez,Lv];refine⟨bp.trans (K.trans aI bE) fu,de.congr λj aH=>?_⟩;rw[rS,ad];by_cases e:j=i
   ·simp[e]
   ·rw[aU (by omega),aU e]
  ·simp[cy,xd,ag,eb];refine⟨λh=>absurd h az,λ_=>⟨aI,ss,cx,a2,λi ad=>?_⟩⟩;rw[a3 i ad,rS,aU (by omega)]
 ·rintro _ aJ ⟨aI,s2⟩;simp;refine bU _ _ _ ?_;simp;exact⟨aI,he,s2⟩
end
section
variable{P:cr}{ba:Nat}{aA:Nat->Nat}{lc cc:Value}{T:b8}{c:Nat->Rat}{lp:bD}
def mH(P:cr)(T:b8)(a k:Nat):Rat:=if 0<off P T.v (T.rows a) then -T.M a k else T.M a k
def qQ(P:cr)(T:b8)(a i:Nat):List UInt8:=if T.rows a=P.n+i then(if 0<off P T.v (T.rows a) then[49] else[45,49]) else rS P T (mH P T a) P.n i
theorem aDp(al:hj X)(g0:cl pm H0)(au:lp.ok)(aC:r4 lp P c)(aD:dH P ba H0 aA lc cc T)(af:kI H0 lc lp.aj)(an:nY H0 cc lp.rows)(bj:fh P T){t:Nat}(aS:t<=20000)(aG:l4 P T t){a:Nat}(aN:a<P.m):
 Call X pm F.w4 [.pointer (some ⟨aA 0,0,none⟩),.int .i64 (a:Int)] H0 λr H'=>K pm H0 H'/\∃c,r=.slice (some ⟨c,0,none⟩) P.m P.m/\H0.next<=c/\gv H' c P.m (qQ P T a):=by
 refine Call.h6 al.w4 rfl λQ bU=>?_;have dU:=aC.ok au;have j2:=dU.n;have mM:=dU.m;have ft:0<P.m:=by omega
 have jK:0<P.n+P.m:=by omega
 have fC:t<=iP:=bH aS (by decide);have fq:=aD.t;rw[eQ (b:=aA 1) jK,eQ (b:=aA 2) ft]at fq;obtain⟨rs,b4,cB,dh⟩:=aD.r ft;have Dx:=dh a aN;have xc:=bj.r a aN;obtain⟨vs,va,vb,vc,v1,v2,v3⟩:=(aD.v jK).load xc;simp[fq,b4,Dx,aN,v1,v2,xc,-Tm,-Tn];refine aR.of (vs:=[.agg #[va,vb,vc]]) (by simp) (by simp[c5]) (Sf al g0 v3 (aG.v _ xc) (by omega)) ?_;rintro _ H1 ⟨av,rfl⟩;have g1:=av.aL;have t1:=aD.k g0 av;have fO:=t1.t;obtain⟨fK,bd,Lr⟩:=uA (aA 3) P.n;rw[bd,eQ (b:=aA 4) ft]at fO;obtain⟨ms,m1,m2,m3⟩:=t1.m ft;have AI:=m3 a aN;obtain⟨d,aB⟩:=bZa (H1.next);obtain⟨aJ,ee⟩:=bZa (H1.new (.cells (times [.pointer none] P.n) (.n 1)));have aI:=bZi g1 ee;have g2:=aI.aL;have eO:pm.may d=true:=g1.may (by omega);have DC:H0.next<=d:=by rw[aB];exact av.next
 simp[fO,rD g1.tocU (show P.n<=1073741824 by omega) (show 8*P.n<=17179869184 by omega),<-ee,<-aB,aI.some g1 fO,aI.some g1 m1,AI,aN,-To,-Tp];have e0:=av.trans aI;have d0:eV aJ d P.n 0 (mH P T a):=⟨_,by rw[ee,aB];exact dT,G3 _ P.n,λi ad=>absurd ad (od _)⟩;have aHl:∀(H':ah),aA (5+a)≠d:=λ_=>by
  have:=aD.lt g0 aN;omega
 refine gG (σ:=Unit) P.n (λ_ _=>[(0,.pointer (some ⟨aA 0,0,none⟩)),(1,.int .i64 (a:Int)),(5,.int .i64 (T.rows a:Int)),(6,.bool (decide (0<off P T.v (T.rows a)))),(7,.slice (some ⟨d,0,none⟩) P.n P.n),(39,.slice (some ⟨aA (5+a),0,none⟩) P.n P.n)]) (λk _ H'=>K pm H0 H'/\eV H' d P.n k (mH P T a)) () (by decide) (by omega) (by simp) ⟨e0,d0⟩ (by simp) ?_ ?_
 ·rintro k _ bN ag ⟨aQ,d3⟩;have g3:=aQ.aL;obtain⟨cH,bJ,bG,cO⟩:=(aD.k g0 aQ).row a aN;obtain⟨gP,vd,ib⟩:=cO k ag;obtain⟨ds,bn,bh,cu⟩:=d3;obtain⟨eX,d4⟩:=eV.put (m:=H0.next) g3 DC bn bh cu ag ib (k':=k+1) (λi ad=>by omega);obtain⟨aX,rfl,_⟩:=id ib;obtain⟨cp,nZ⟩:=bZa (bN.put d (.cells (ds.set k (.pointer (some ⟨aX,0,none⟩))) (.n 1)));rw[<-nZ]at eX d4;simp[bJ,vd,ag,bn,eO,show k<ds.length by omega,<-nZ,-Tq];refine⟨λJV=>?_,λaHm=>⟨bp.trans aQ eX,d4.congr λj aH=>?_⟩⟩
  ·have aDq:=ib.up eX;refine aR.bZb (vs:=[.pointer (some ⟨aX,0,none⟩)]) (K7 al.toOb eX.aL aDq.of ((aG.M a k aN ag).ca fC)) ?_;rintro r cV ⟨cd,IX⟩;obtain⟨es,cy,dd,dy⟩:=d4.k eX.aL cd;obtain⟨kk,d6⟩:=eV.put (m:=H0.next) cd.aL DC cy dd dy ag IX (k':=k+1) (λi ad=>by omega);obtain⟨rb,rfl,_⟩:=id IX;simp[cy,ag,eO,show k<es.length by omega];refine⟨bp.trans ((bp.trans aQ eX).trans (cd.mono (bH aQ.next eX.next))) kk,d6.congr λj aH=>?_⟩;by_cases e:j=k
   ·subst e;simp[mH,JV]
   ·simp[e]
  ·by_cases e:j=k
   ·subst e;simp[mH];omega
   ·simp[e]
 ·rintro _ bN ⟨aQ,d3⟩;have g3:=aQ.aL;have t3:=aD.k g0 aQ;have G1:∀k,k<P.n->sz (mH P T a k) t:=λk ag=>by
   unfold mH;split
   ·exact vP (aG.M a k aN ag)
   ·exact aG.M a k aN ag
  simp[-Tr,-Ts];refine aR.bZb (vs:=[.pointer (some ⟨aA 0,0,none⟩),.slice (some ⟨d,0,none⟩) P.n P.n]) (acF al g3 au aC t3 (af.ext (aQ.ext g0)) (an.ext (aQ.ext g0)) bj d3.row (td:=t) (by omega) G1) ?_;rintro _ cp ⟨bt,e,rfl,he,rY⟩;have ji:=aQ.trans bt;have yO:=ji.some g0 aD.t;obtain⟨base,cap,rfl,_⟩:=af.at;simp only[<-aC.n]at yO;have DD:H0.next<=e:=bH aQ.next he;have Dw:pm.may e=true:=g0.may DD;by_cases az:P.n<=T.rows a
  ·obtain⟨i,ad⟩:∃i,T.rows a=P.n+i:=⟨T.rows a-P.n,by omega⟩;have DB:i<P.m:=by omega
   have mg:wr .i64 ((P.n:Int)+(i:Int)-(P.n:Int))=(i:Int):=by
    rw[zWc (by omega) (by omega)];omega
   obtain⟨ss,s1,s2,de⟩:=rY;obtain⟨hl,LA⟩:=gv.put (m:=H0.next) bt.aL DD s1 s2 de DB [45,49];obtain⟨cV,r5⟩:=bZa (cp.put e (.cells (ss.set i (aW [45,49])) (.n 1)));rw[<-r5]at hl LA;obtain⟨acG,cS,bL,kF⟩:=id LA;have pO:=λy (h:cp.get (aA 0)=some y)=>show cV.get (aA 0)=some y by
    rw[r5,cq (by have:=g0.lt aD.t;omega)];exact h
   have pO:=pO _ yO;obtain⟨kk,Tt⟩:=gv.put (m:=H0.next) hl.aL DD cS bL kF DB [49];have sH:K pm H0 cV:=bp.trans ji hl;rw[ad];simp[yO];refine⟨λ_=>?_,λh=>by omega⟩;have aDr:cp.put e (.cells (ss.set i (.string ⟨#[45,49]⟩)) (.n 1))=cV:=r5.symm;simp[mg,DB,s1,Dw,show i<ss.length by omega,aDr,pO,cS,show i<acG.length by omega];have acH:(decide (0<off P T.v (T.rows a))=false)->gv cV e P.m (qQ P T a):=λh=>LA.congr λj aH=>by
    rw[qQ,ad];by_cases e:j=i
    ·have h:¬0<off P T.v (T.rows a):=by simpa using h
     rw[ad]at h;simp[e,h]
    ·rw[aU (by omega),aU e]
   have acI:(0<off P T.v (T.rows a))->gv (cV.put e (.cells (acG.set i (aW [49])) (.n 1))) e P.m (qQ P T a):=λh=>Tt.congr λj aH=>by
    rw[qQ,ad];by_cases e:j=i
    ·rw[ad]at h;simp[e,h]
    ·rw[aU (by omega),aU e,aU e]
   rw[ad]at acH acI;refine⟨λh=>?_,λh=>?_⟩
   ·refine bU _ _ _ ?_;simp;exact⟨bp.trans sH kk,DD,acI h⟩
   ·refine bU _ _ _ ?_;simp;exact⟨sH,DD,acH (by simpa using h)⟩
  ·simp[yO];refine⟨λh=>absurd h az,λ_=>?_⟩;refine bU _ _ _ ?_;simp;refine⟨ji,DD,rY.congr (f':=qQ P T a) λi ad=>?_⟩;rw[qQ,aU (by omega)]
end
section
variable{P:cr}{ba:Nat}{aA:Nat->Nat}{lc cc:Value}{T:b8}{c:Nat->Rat}{lp:bD}
def oX(T:b8)(col:Nat)(way:Int):Nat->Nat->List UInt8
 | 0,x=>if x=T.aj col then dB (way:Rat) else[48]
 | i+1,x=>if x=T.rows i then dB (T.M i col*(way:Rat)) else oX T col way i x
theorem aDs(al:hj X)(g0:cl pm H0)(au:lp.ok)(aC:r4 lp P c)(aD:dH P ba H0 aA lc cc T)(af:kI H0 lc lp.aj)(bj:fh P T){t:Nat}(aS:t<=20000)(aG:l4 P T t){col:Nat}(d':col<P.n){way:Int}(kn:way=1∨way=-1):
 Call X pm F.w5 [.pointer (some ⟨aA 0,0,none⟩),.int .i64 (col:Int),.int .i64 way] H0 λr H'=>K pm H0 H'/\∃c,r=.slice (some ⟨c,0,none⟩) P.n P.n/\H0.next<=c/\gv H' c P.n (oX T col way P.m):=by
 refine Call.h6 al.w5 rfl λQ bU=>?_;have dU:=aC.ok au;have j2:=dU.n;have mM:=dU.m;have kA:0<P.n:=by omega
 have fC:t<=iP:=bH aS (by decide);have Tu:sz (way:Rat) 1:=by
  rcases kn with rfl | rfl<;>exact⟨by decide,by decide⟩
 obtain⟨base,cap,rfl,eU⟩:=af.at;have fq:=aD.t;simp only[<-aC.n]at fq;simp[fq,-Tv,-Tw];refine aR.bZb (vs:=[.int .i64 (P.n:Int)]) (acD al g0 (n:=P.n) (by omega)) ?_;rintro _ H1 ⟨av,e,rfl,he,s1⟩;have g1:=av.aL;have eO:∀o,Perm.may ⟨pm.lo,pm.ok,o⟩ e=true:=λo=>jh (bH g0.lo he);have t1:=aD.k g0 av;have fO:=t1.t;simp only[<-aC.n]at fO;rw[eQ (b:=aA 3) kA]at fO;obtain⟨cs,cy,dd,dy⟩:=t1.c kA;have w8:=dy col d';have Lk:=bj.c col d';have loop:∀(aJ:ah) (L:bQ),K pm H0 aJ->gv aJ e P.n (oX T col way 0)->a7 0 L=some (.pointer (some ⟨aA 0,0,none⟩))->a7 1 L=some (.int .i64 (col:Int))->a7 2 L=some (.int .i64 way)->a7 7 L=some (.slice (some ⟨e,0,none⟩) P.n P.n)->wp X pm (.code AT) L aJ [] Q:=by
  intro aJ L aI s2 c0 ck cJ dO;have g2:=aI.aL;have eb:=aI.some g0 aD.t;obtain⟨b9,e2,aDt⟩:=uA (aA 2) P.m;rw[e2]at eb;simp[c0,eb,-Tx];refine gG (σ:=Unit) P.m (λ_ _=>[(0,.pointer (some ⟨aA 0,0,none⟩)),(1,.int .i64 (col:Int)),(2,.int .i64 way),(7,.slice (some ⟨e,0,none⟩) P.n P.n),(38,.slice b9 P.m P.m)]) (λi _ H'=>K pm H0 H'/\gv H' e P.n (oX T col way i)) () (by decide) (by omega) (by simp[c0,ck,cJ,dO]) ⟨aI,s2⟩ (by simp) ?_ ?_
  ·rintro i _ bN ad ⟨aQ,ss,cx,a2,a3⟩;obtain rfl:=aDt (by omega);have g3:=aQ.aL;have t3:=aD.k g0 aQ;obtain⟨rs,b4,cB,dh⟩:=t3.r (by omega);have yI:=dh i ad;have AE:=bj.r i ad;by_cases az:T.rows i<P.n
   ·have AG:=t3.t;rw[eQ (b:=aA 4) (show 0<P.m by omega)]at AG;obtain⟨ms,m1,m2,m3⟩:=t3.m (by omega);have AF:=m3 i ad;obtain⟨cH,bJ,bG,cO⟩:=t3.row i ad;obtain⟨o1,u',n9⟩:=cO col d';have hB:=g3.lt AG;have bn:=g3.lt m1;have bh:=g3.lt bJ;have cu:=g3.lt cx;have k0:=aG.M i col ad d';simp[b4,yI,ad,az];refine eg.of g3.lo rfl ?_;have bE:K pm bN (bN.up 18):=(K.refl g3).up 18;simp[dt,g3.none,g3.fo,AG,m1,AF,ad,bJ,u',d'];refine bZk bE.aL (vs:=[.int .i64 way]) (by simp[g3.none]) (λpm' bS=>sE al.toOb bS (n:=way) (by omega) (by omega)) ?_;rintro qZ ep cv f6;have nq:=cv.res g3;have yb:=bE.trans cv;simp;refine bZm cv.aL (vs:=[o1,qZ]) (by simp[nq]) (λpm' bS=>sF al.toOb bS (n9.up yb).of f6.of (k0.ca fC) (Tu.ca (by decide))) ?_;rintro AH hM dJ f7;have pG:=(K.trans cv dJ).res g3;have Du:=yb.trans dJ;simp;refine bZm dJ.aL (vs:=[AH]) (by simp[pG]) (λpm' bS=>kM bS (Cj al.toOb bS f7.of ((la k0 Tu).ca (bH (show t+1<=30000 by omega) (by decide))))) ?_;rintro _ _-⟨rfl,rfl⟩;have BR:=Du.some g3 cx;obtain⟨u8,Ty⟩:=gv.put (m:=H0.next) dJ.aL he BR a2 a3 az (dB (T.M i col*(way:Rat)));simp[pG,BR,az,eO,show T.rows i<ss.length by omega,dx,dm,hB,bn,bh,cu,eJ,ez,gI];refine⟨bp.trans (aQ.trans Du) u8,Ty.congr λj aH=>?_⟩;rw[oX]
   ·simp[b4,yI,ad,az];refine⟨aQ,ss,cx,a2,λj aH=>?_⟩;rw[a3 j aH,oX,aU (by omega)]
  ·rintro _ bN ⟨aQ,de⟩;simp;refine bU _ _ _ ?_;simp;exact⟨aQ,he,de⟩
 by_cases az:T.aj col<P.n
 ·simp[fO,cy,w8,d',az,-AT,-Tz];refine aR.bZb (vs:=[.int .i64 way]) (sE al.toOb g1 (n:=way) (by omega) (by omega)) ?_;rintro r aJ ⟨aI,an⟩;simp[-AT,-TA];refine aR.bZb (vs:=[r]) (Cj al.toOb aI.aL an.of (Tu.ca (by decide))) ?_;rintro _ aJ ⟨rfl,rfl⟩;obtain⟨ss,cx,a2,a3⟩:=s1.k g1 aI;obtain⟨fu,de⟩:=gv.put (m:=H0.next) aI.aL he cx a2 a3 az (dB (way:Rat));have rH:=eO pm.num;simp[cx,az,rH,show T.aj col<ss.length by omega,-AT];refine loop _ _ (bp.trans (av.trans aI) fu) de (by simp) (by simp) (by simp) (by simp)
 ·simp[fO,cy,w8,d',az,-AT];refine loop _ _ av (s1.congr λj aH=>?_) (by simp) (by simp) (by simp) (by simp);rw[oX,aU (by omega)]
end
def mT(f:Nat->Rat)(c:fb):Nat->Rat:=λj=>if j=c.col.toNat then rd c.v else f j
def nu(l:List fb):Nat->Rat:=l.foldl mT λ_=>0
def bD.aX(lp:bD):cr where
 n:=lp.aj.length
 m:=lp.rows.length
 lo:=λx=>if x<lp.aj.length then gT (lp.col x).low else if(lp.row (x-lp.aj.length)).kind=1 then none else gT (lp.row (x-lp.aj.length)).rhs
 up:=λx=>if x<lp.aj.length then gT (lp.col x).up else if(lp.row (x-lp.aj.length)).kind=3 then none else gT (lp.row (x-lp.aj.length)).rhs
 A:=λi j=>nu (lp.row i).cM j
def bD.cs(lp:bD)(j:Nat):Rat:=rd (lp.col j).cost
def bD.v0(lp:bD)(x:Nat):Rat:=yp (gT (lp.col x).low) (gT (lp.col x).up)
def bD.fA(lp:bD):b8 where
 v:=λx=>if x<lp.aj.length then lp.v0 x else ix (lp.row (x-lp.aj.length)).cM lp.v0
 rows:=λi=>lp.aj.length+i
 aj:=λk=>k
 M:=λi j=>nu (lp.row i).cM j
theorem bD.aDu(lp:bD):r4 lp lp.aX lp.cs:=⟨rfl,rfl,λ_ _=>rfl⟩
def Real(c3 dc dn j:Nat):Prop:=j=0∨(j=1/\0<c3)∨((j=2∨j=4)/\0<dc)∨(j=3/\0<dn)∨(5<=j/\j<5+dc)
structure jL(P:cr)(ba:Nat)(H:ah)(aA:Nat->Nat)(lc cc:Value)(c3 dc dn:Nat)(T:b8):Prop where
 t:H.get (aA 0)=some (.cells [lc,cc,sl (aA 1) c3,sl (aA 2) dc,sl (aA 3) dn,sl (aA 4) dc] (.t tyT))
 v:0<c3->AB H P (aA 1) c3 T.v
 r:0<dc->u9 H (aA 2) dc T.rows
 c:0<dn->u9 H (aA 3) dn T.aj
 m:0<dc->GC H (aA 4) dc P.n aA
 row:∀i,i<dc->eV H (aA (5+i)) P.n P.n (T.M i)
 inj:∀i j,Real c3 dc dn i->Real c3 dc dn j->aA i=aA j->i=j
 ge:∀i,Real c3 dc dn i->ba<=aA i
section
variable{P:cr}{ba:Nat}{aA:Nat->Nat}{lc cc:Value}{T:b8}{c3 dc dn:Nat}
theorem jL.k(h:jL P ba H aA lc cc c3 dc dn T)(g:cl pm H)(k:K pm H H'):jL P ba H' aA lc cc c3 dc dn T where
 t:=k.some g h.t
 v:=λaC=>(h.v aC).ext k λ_ e=>k.some g e
 r:=λaC=>(h.r aC).ext λ_ e=>k.some g e
 c:=λaC=>(h.c aC).ext λ_ e=>k.some g e
 m:=λaC=>(h.m aC).ext λ_ e=>k.some g e
 row:=λi ad=>(h.row i ad).ext k λ_ e=>k.some g e
 inj:=h.inj
 ge:=h.ge
theorem jL.lt(h:jL P ba H aA lc cc c3 dc dn T)(g:cl pm H){j:Nat}(aH:Real c3 dc dn j):aA j<H.next:=by
 rcases aH with rfl | ⟨rfl,U⟩ | ⟨rfl | rfl,U⟩ | ⟨rfl,U⟩ | ⟨U,aa⟩
 ·exact g.lt h.t
 ·obtain⟨_,e,_⟩:=h.v U;exact g.lt e
 ·obtain⟨_,e,_⟩:=h.r U;exact g.lt e
 ·obtain⟨_,e,_⟩:=h.m U;exact g.lt e
 ·obtain⟨_,e,_⟩:=h.c U;exact g.lt e
 ·obtain⟨i,rfl⟩:∃i,j=5+i:=⟨j-5,by omega⟩;obtain⟨_,e,_⟩:=h.row i (by omega);exact g.lt e
theorem jL.full(h:jL P ba H aA lc cc (P.n+P.m) P.m P.n T)(g:cl pm H)(aF:ba<=H.next):∃eC,eC 0=aA 0/\dH P ba H eC lc cc T:=by
 have aG:∀b b' k,(0<k->b'=b)->sl b' k=sl b k:=λb b' k ai=>by
  by_cases e:k=0
  ·subst e;rfl
  ·rw[ai (by omega)]
 obtain⟨R,dD⟩:∃R:Nat->Prop,R=Real (P.n+P.m) P.m P.n:=⟨_,rfl⟩;have aB:∀j,Decidable (R j):=λj=>by rw[dD];unfold Real;exact inferInstance
 obtain⟨eC,ai⟩:∃eC:Nat->Nat,eC=λj=>if R j then aA j else H.next+j:=⟨_,rfl⟩
 have jg:∀j,R j->eC j=aA j:=λj aH=>by rw[ai];simp[aH]
 have fw:R 0:=by rw[dD];exact .inl rfl
 have vN:∀i,i<P.m->R (5+i):=λi ad=>by rw[dD];exact .inr (.inr (.inr (.inr ⟨by omega,by omega⟩)))
 have b4:0<P.n+P.m->R 1:=λh=>by rw[dD];exact .inr (.inl ⟨rfl,h⟩)
 have cB:0<P.m->R 2:=λh=>by rw[dD];exact .inr (.inr (.inl ⟨.inl rfl,h⟩))
 have kf:0<P.m->R 4:=λh=>by rw[dD];exact .inr (.inr (.inl ⟨.inr rfl,h⟩))
 have dh:0<P.n->R 3:=λh=>by rw[dD];exact .inr (.inr (.inr (.inl ⟨rfl,h⟩)))
 refine⟨eC,jg 0 fw,?_,λaC=>?_,λaC=>?_,λaC=>?_,λaC=>?_,λi ad=>?_,λi j ad aH e=>?_,λi ad=>?_⟩
 ·rw[jg 0 fw,aG _ _ _ λh=>jg 1 (b4 h),aG _ _ _ λh=>jg 2 (cB h),aG _ _ _ λh=>jg 3 (dh h),aG _ _ _ λh=>jg 4 (kf h)];exact h.t
 ·rw[jg 1 (b4 aC)];exact h.v aC
 ·rw[jg 2 (cB aC)];exact h.r aC
 ·rw[jg 3 (dh aC)];exact h.c aC
 ·rw[jg 4 (kf aC)];obtain⟨ss,ao,e2,bd⟩:=h.m aC;exact⟨ss,ao,e2,λi ad=>by rw[jg _ (vN i ad)];exact bd i ad⟩
 ·rw[jg _ (vN i ad)];exact h.row i ad
 ·have lt:∀j,R j->aA j<H.next:=λj aH=>h.lt g (dD▸aH);rw[ai]at e;simp only at e;by_cases hi':R i<;>by_cases qG:R j<;>simp only[hi',qG,if_true,if_false]at e
  ·exact h.inj i j (dD▸hi') (dD▸qG) e
  ·have:=lt i hi';omega
  ·have:=lt j qG;omega
  ·omega
 ·rw[ai];simp only;split
  ·rename_i gJ;exact h.ge i (dD▸gJ)
  ·omega
end
def hF(H:ah)(c i:Nat):ah:=if i=0 then H else H.put c .dead
def AU(c i:Nat):List Nat:=if i=0 then[] else[c]
def AV(c i b:Nat):List Nat:=if i=0 then[b] else[c,b]
theorem l8{c i b:Nat}(h:0<i->b≠c):(hF H c i).get b=H.get b:=by
 unfold hF;split
 ·rfl
 ·rw[cq (h (by omega))]
@[simp] theorem yP{c i:Nat}:(hF H c i).next=H.next:=by unfold hF;split<;>rfl
theorem AW{c i b x:Nat}(h:0<i->c≠x)(ai:b≠x):gp (AV c i b) [x]=true:=by
 unfold AV;split
 ·exact kS ai
 ·simp[gp,h (by omega),ai]
theorem LB{c i b x:Nat}(h:0<i->c≠x)(ai:b≠x):gp [x] (AV c i b)=true:=by
 unfold AV;split
 ·exact kS (Ne.symm ai)
 ·simp[gp,Ne.symm (h (by omega)),Ne.symm ai]
theorem LC{c i y x:Nat}(h:0<i->c≠x)(bu:y≠x):gp [x] (y::AU c i)=true:=by
 unfold AU;split
 ·exact kS (Ne.symm bu)
 ·simp[gp,Ne.symm (h (by omega)),Ne.symm bu]
theorem G4{c i s x:Nat}(h:0<i->c<s)(az:x∈AU c i):x<s:=by
 unfold AU at az;split at az
 ·cases az
 ·simp at az;rw[az];exact h (by omega)
theorem bp.hF(u:bp pm n H H'){c i:Nat}{ss:List Value}{z:dI}(h:0<i->n<=c/\H'.get c=some (.cells ss z)):bp pm n H (C.hF H' c i):=by
 unfold C.hF;split
 ·exact u
 ·obtain⟨U,aa⟩:=h (by omega);exact bp.put u U aa (by simp) _
theorem G5{w by' c i lo b:Nat}{okl:List Nat}{ss xs:List Value}(h:0<i->H.get c=some (.cells ss (.n w))/\ss.length=i*w/\Perm.may ⟨lo,okl,some b⟩ c=true)(aD:i=0->ss=[])(az:xs.all fG=true)(hw:1<=w)(ad:i<1000000)(hK:by'<=200):
 (iV w by' (sl c i) xs 1).runT ⟨lo,okl,some b⟩ H=some (sl b (i+1),(hF H c i).put b (.cells (ss++xs) (.n w)),AU c i,AV c i b):=by
 have ai:(i+1)*by'<=17179869184:=bH (r8 _ hK) (by omega);by_cases e:i=0
 ·subst e;rw[aD rfl];unfold iV;simp at ai;simp only[az,sl];simp[Perm.make,Perm.pick,ai,hw,hF,AU,AV];done
 ·obtain⟨U,aa,aq⟩:=h (by omega);have x7:cX ss 0 (i*w)=some ss:=by rw[<-aa];exact abR ss
  rw[eQ (by omega),eQ (by omega)];unfold iV;simp only[az];simp[Perm.make,Perm.pick,ai,U,x7,aq,hw,show ¬(i+1<=i) by omega,show i+1<=17179869184 by omega,hF,AU,AV,e];done
abbrev tyB:Nat:=T.aDv
abbrev tyX:Nat:=T.aDw
section
variable{ba:Nat}{aA:Nat->Nat}{lc cc:Value}{lp:bD}
theorem aDx(_cYW:hj X)(g0:cl pm H0)(ey:pm.lo<=ba)(aF:ba<=H0.next)(au:lp.ok)(_cYp:lp.dP=true){k:Nat}(ag:k<lp.aj.length)(aD:jL lp.aX ba H0 aA lc cc k 0 k lp.fA){b0 bx:Nat}{z:dI}{va vb vc:Value}(_cYX:ba<=bx)(hq:∀j,Real k 0 k j->aA j≠bx)
 (az:H0.get bx=some (.cells [va,vb,vc] z)) (_cYY:∀o,cj.cells [va,vb,vc] z≠.eE o) (aw:qY H0 lp.aX lp.fA.v k va vb vc) (oA:[va,vb,vc].all fG=true) {L:bQ} (ck:a7 1 L=some (.pointer (some ⟨b0,0,none⟩))) (eT:a7 3 L=some (.pointer (some ⟨aA 0,0,none⟩))) (hP:a7 4 L=some (.int .i64 (k:Int))) (h1:a7 6 L=some (.pointer (some ⟨bx,0,none⟩))) {u18:Value} (r3:a7 18 L=some u18)
 (TB:a7 19 L=some (.int .i64 (lp.aj.length:Int))) (LD:a7 20 L=some (.int .i64 (k:Int))) {Q:c'}
 (fin:∀l' H' eC,bp pm ba H0 H'->(∀b,(∀j,Real k 0 k j->b≠aA j)->b<H0.next->H'.get b=H0.get b)->eC 0=aA 0->jL lp.aX ba H' eC lc cc (k+1) 0 (k+1) lp.fA->Sub [(20,.int .i64 (k:Int)),(19,.int .i64 (lp.aj.length:Int)),(1,.pointer (some ⟨b0,0,none⟩)),(3,.pointer (some ⟨aA 0,0,none⟩)),(18,u18)] l'->Q .normal l' H'):
 wp X pm (.code G6) L H0 [] Q:=by
 have j2:=au.c;obtain⟨s,aG⟩:=bZa (H0.next);have pP:=g0.none;have yQ:=g0.fo;rw[<-aG]at pP yQ;have fq:=aD.t;have fw:Real k 0 k 0:=.inl rfl;have b4:0<k->Real k 0 k 1:=λh=>.inr (.inl ⟨rfl,h⟩);have dh:0<k->Real k 0 k 3:=λh=>.inr (.inr (.inr (.inl ⟨rfl,h⟩)));have ir:=aD.lt g0 fw;have lv:=λh=>aD.lt g0 (b4 h);have DE:=λh=>aD.lt g0 (dh h);have aHn:=g0.lt az;have yR:aA 0<s:=by omega
 have LF:bx<s:=by omega
 have AX:0<k->aA 0≠aA 1:=λh e=>absurd (aD.inj 0 1 fw (b4 h) e) (by decide);have aDy:0<k->aA 0≠aA 3:=λh e=>absurd (aD.inj 0 3 fw (dh h) e) (by decide);have DA:0<k->aA 1≠aA 3:=λh e=>absurd (aD.inj 1 3 (b4 h) (dh h) e) (by decide);have aHo:=hq 0 fw;have aDz:=λh=>hq 1 (b4 h);have aHp:=λh=>hq 3 (dh h);have eO:∀o b,ba<=b->Perm.may ⟨pm.lo,pm.ok,o⟩ b=true:=λo b h=>jh (bH ey h);obtain⟨ga,mF,iy⟩:∃ga,(0<k->H0.get (aA 1)=some (.cells ga (.n 3))/\ga.length=k*3/\∀x,x<k->∃p q c,ga[x*3]? = some p/\ga[x*3+1]? = some q/\ga[x*3+2]? = some c/\qY H0 lp.aX lp.fA.v x p q c)/\(k=0->ga=[]):=by
  by_cases e:k=0
  ·exact⟨[],λh=>by omega,λ_=>rfl⟩
  ·obtain⟨ss,U⟩:=aD.v (by omega);exact⟨ss,λ_=>U,λh=>absurd h e⟩
 obtain⟨vh,hW,kj⟩:∃vh,(0<k->H0.get (aA 3)=some (.cells vh (.n 1))/\vh.length=k/\∀i,i<k->vh[i]? = some (.int .i64 (lp.fA.aj i:Int)))/\(k=0->vh=[]):=by
  by_cases e:k=0
  ·exact⟨[],λh=>by omega,λ_=>rfl⟩
  ·obtain⟨ss,U⟩:=aD.c (by omega);exact⟨ss,λ_=>U,λh=>absurd h e⟩
 simp;refine eg.of g0.lo rfl ?_;obtain⟨fL,fc⟩:=bZa ((H0.up 22).put (s+7) (.cells [va,vb,vc] (.n 3)));have LG:K pm H0 (H0.up 22):=(K.refl g0).up 22;have hD:K pm H0 fL:=by rw[fc];exact bp.fill LG (by omega) (by show H0.get _=none;exact pP 7) (by show s+7<H0.next+22;omega) _
 have oP:∀j,j≠7->fL.get (s+j)=none:=λj aH=>by rw[fc,cq (by omega)];exact pP j
 have TC:fL.get (s+7)=some (.cells [va,vb,vc] (.n 3)):=by rw[fc];exact dX
 have ao:=G5 (H:=fL) (w:=3) (by':=24) (c:=aA 1) (i:=k) (lo:=pm.lo) (okl:=pm.ok) (b:=s+8) (ss:=ga) (xs:=[va,vb,vc]) (λh=>⟨hD.some g0 (mF h).1,(mF h).2.1,eO _ _ (aD.ge 1 (b4 h))⟩) iy oA (by decide) (by omega) (by decide);obtain⟨fV,fg⟩:=bZa ((hF fL (aA 1) k).put (s+8) (.cells (ga++[va,vb,vc]) (.n 3)));rw[<-fg]at ao;have rL:∀j,8<j->fV.get (s+j)=none:=λj aH=>by rw[fg,cq (by omega),l8 (λh=>by have:=lv h;omega)];exact oP j (by omega)
 have DF:∀b,b<s->(0<k->b≠aA 1)->fV.get b=H0.get b:=λb ai gN=>by
  rw[fg,cq (by omega),l8 gN,fc,cq (by omega)];rfl
 have TD:=(DF (aA 0) (by omega) AX).trans fq;obtain⟨fW,fp⟩:=bZa (fV.put (s+14) (.cells [.int .i64 (k:Int)] (.n 1)));have uy:∀j,14<j->fW.get (s+j)=none:=λj aH=>by rw[fp,cq (by omega)];exact rL j (by omega)
 have TE:fW.get (s+14)=some (.cells [.int .i64 (k:Int)] (.n 1)):=by rw[fp];exact dX
 have DG:∀b,b<s->(0<k->b≠aA 1)->fW.get b=H0.get b:=λb ai gN=>by rw[fp,cq (by omega)];exact DF b ai gN
 have bd:=G5 (H:=fW) (w:=1) (by':=8) (c:=aA 3) (i:=k) (lo:=pm.lo) (okl:=pm.ok) (b:=s+15) (ss:=vh) (xs:=[.int .i64 (k:Int)]) (λh=>⟨(DG _ (by have:=DE h;omega) λh=>(DA h).symm).trans (hW h).1,by simpa using(hW h).2.1,eO _ _ (aD.ge 3 (dh h))⟩) kj (by rfl) (by decide) (by omega) (by decide);obtain⟨oQ,km⟩:=bZa ((hF fW (aA 3) k).put (s+15) (.cells (vh++[.int .i64 (k:Int)]) (.n 1)));rw[<-km]at bd;have DH:∀j,15<j->oQ.get (s+j)=none:=λj aH=>by rw[km,cq (by omega),l8 (λh=>by have:=DE h;omega)];exact uy j (by omega)
 have AY:∀b,b<s->(0<k->b≠aA 1)->(0<k->b≠aA 3)->oQ.get b=H0.get b:=λb ai gN C9=>by
  rw[km,cq (by omega),l8 C9];exact DG b ai gN
 have LH:=(AY (aA 0) (by omega) AX aDy).trans fq;obtain⟨r6,nB⟩:=bZa (oQ.put (aA 0) (.cells [lc,cc,sl (s+8) (k+1),sl (aA 2) 0,sl (aA 3) k,sl (aA 4) 0] (.t tyT)));have G7:∀j,15<j->r6.get (s+j)=none:=λj aH=>by rw[nB,cq (by omega)];exact DH j aH
 have acJ:r6.get (aA 0)=some (.cells [lc,cc,sl (s+8) (k+1),sl (aA 2) 0,sl (aA 3) k,sl (aA 4) 0] (.t tyT)):=by rw[nB];exact dX
 obtain⟨tc,pQ⟩:=bZa (r6.put (aA 0) (.cells [lc,cc,sl (s+8) (k+1),sl (aA 2) 0,sl (s+15) (k+1),sl (aA 4) 0] (.t tyT)));have TF:=λo=>eO o _ (aD.ge 0 fw);have oN:∀b i,fG (sl b i)=true:=λb i=>by unfold sl;split<;>rfl
 have oO:∀b i,(sl b i).cells=#[sl b i]:=λb i=>by unfold sl;split<;>rfl
 simp[dt,<-aG,pP,yQ,eT,hP,h1,fq,az,cX,c5,Perm.make,Perm.pick,<-fc,oP,TC,ao,rL,TD,<-fp,uy,TE,bd,DH,LH,TF,oN,oO,<-nB,G7,acJ,<-pQ,dx,dm, ez,kS (show s+7≠aA 0 by omega),kS (show s+14≠aA 0 by omega), kS (show s+14≠bx by omega),AW (c:=aA 1) (i:=k) (b:=s+8) (x:=aA 0) (λh=>(AX h).symm) (by omega), LB (c:=aA 1) (i:=k) (b:=s+8) (x:=s+14) (λh=>by have:=lv h;omega) (by omega),LC (c:=aA 1) (i:=k) (y:=s+7) (x:=s+14) (λh=>by have:=lv h;omega) (by omega),yR,LF];refine⟨⟨λx az=>.inl (.inl (.inl (G4 (λh=>by have:=lv h;omega) az))),λx az=>.inl (.inl (.inl (G4 (λh=>by have:=DE h;omega) az)))⟩,?_⟩;have fQ:bp pm ba H0 fL:=hD.mono aF;have fm:bp pm ba H0 fV:=by
  rw[fg];exact bp.fill (bp.hF fQ λh=>⟨aD.ge 1 (b4 h),hD.some g0 (mF h).1⟩) (by omega) (by rw[l8 (λh=>by have:=lv h;omega)];exact oP 8 (by decide)) (by rw[yP];have:=LG.next;have:=hD.next;show s+8<fL.next;rw[fc];show s+8<H0.next+22;omega) _
 have TG:fL.next=s+22:=by rw[fc];show H0.next+22=_;omega
 have TH:fV.next=s+22:=by rw[fg,TI,yP];exact TG
 have fu:bp pm ba H0 fW:=by rw[fp];exact bp.fill fm (by omega) (rL 14 (by decide)) (by omega) _
 have acK:fW.next=s+22:=by rw[fp];exact TH
 have eX:bp pm ba H0 oQ:=by
  rw[km];exact bp.fill (bp.hF fu λh=>⟨aD.ge 3 (dh h),(DG _ (by have:=DE h;omega) λh=>(DA h).symm).trans (hW h).1⟩) (by omega) (by rw[l8 (λh=>by have:=DE h;omega)];exact uy 15 (by decide)) (by rw[yP];omega) _
 have hl:bp pm ba H0 r6:=by rw[nB];exact bp.put eX (aD.ge 0 fw) LH (by simp) _
 have kk:bp pm ba H0 tc:=by rw[pQ];exact bp.put hl (aD.ge 0 fw) acJ (by simp) _
 obtain⟨eC,eP⟩:∃eC:Nat->Nat,eC=λj=>if j=1 then s+8 else if j=3 then s+15 else aA j:=⟨_,rfl⟩
 have b0:eC 0=aA 0:=by rw[eP];rfl
 have cR:eC 1=s+8:=by rw[eP];rfl
 have fK:eC 3=s+15:=by rw[eP];rfl
 have LI:∀b,b<s->b≠aA 0->(0<k->b≠aA 1)->(0<k->b≠aA 3)->tc.get b=H0.get b:=λb ai gU U aq=>by
  rw[pQ,cq gU,nB,cq gU];exact AY b ai U aq
 have aDA:tc.get (s+8)=some (.cells (ga++[va,vb,vc]) (.n 3)):=by
  rw[pQ,cq (by omega),nB,cq (by omega),km,cq (by omega),l8 (λh=>by have:=DE h;omega),fp,cq (by omega),fg];exact dX
 have aDB:tc.get (s+15)=some (.cells (vh++[.int .i64 (k:Int)]) (.n 1)):=by
  rw[pQ,cq (by omega),nB,cq (by omega),km];exact dX
 have TJ:ga.length=k*3:=by
  by_cases e:k=0
  ·rw[iy e,e];rfl
  ·exact(mF (by omega)).2.1
 have d':vh.length=k:=by
  by_cases e:k=0
  ·rw[kj e,e];rfl
  ·exact(hW (by omega)).2.1
 refine fin _ tc eC kk (λb ai bO=>LI b (by omega) (ai 0 fw) (λh=>ai 1 (b4 h)) λh=>ai 3 (dh h)) b0 ⟨?_,λ_=>?_,λh=>absurd h (Nat.lt_irrefl 0),λ_=>?_,λh=>absurd h (Nat.lt_irrefl 0),λi ad=>absurd ad (od _),λi j ad aH e=>?_,λi ad=>?_⟩ (by simp[ck,eT,r3,TB,LD])
 ·rw[b0,cR,fK,pQ,dX];rfl
 ·rw[cR];refine⟨_,aDA,by simp[TJ];omega,λx az=>?_⟩;by_cases e:x=k
  ·subst e;refine⟨va,vb,vc,?_,?_,?_,aw.k kk⟩
   ·rw[lA (by omega),show x*3-ga.length=0 by omega];rfl
   ·rw[lA (by omega),show x*3+1-ga.length=1 by omega];rfl
   ·rw[lA (by omega),show x*3+2-ga.length=2 by omega];rfl
  ·obtain⟨p,q,c,ao,e2,bd,b1⟩:=(mF (by omega)).2.2 x (by omega);exact⟨p,q,c,by rw[lB (by omega)];exact ao,by rw[lB (by omega)];exact e2,by rw[lB (by omega)];exact bd,b1.k kk⟩
 ·rw[fK];refine⟨_,aDB,by simp[d'],λi ad=>?_⟩;by_cases e:i=k
  ·subst e;rw[lA (by omega),show i-vh.length=0 by omega];rfl
  ·rw[lB (by omega)];exact(hW (by omega)).2.2 i (by omega)
 ·have aa:∀j,Real (k+1) 0 (k+1) j->j=0∨j=1∨j=3:=λj aH=>by unfold Real at aH;omega
  rcases aa i ad with rfl | rfl | rfl<;>rcases aa j aH with rfl | rfl | rfl<;>simp only[b0,cR,fK]at e<;>omega
 ·have aa:i=0∨i=1∨i=3:=by unfold Real at ad;omega
  have:=aD.ge 0 fw
  rcases aa with rfl | rfl | rfl
  ·rw[b0];exact this
  ·rw[cR];omega
  ·rw[fK];omega
end
abbrev tyC:Nat:=T.aDC
section
variable{ba:Nat}{aA:Nat->Nat}{lc cc:Value}{lp:bD}
theorem Ag{k:Nat}(ag:k<lp.aj.length):lp.aX.lo k=gT (lp.col k).low:=bm ag
theorem Ah{k:Nat}(ag:k<lp.aj.length):lp.aX.up k=gT (lp.col k).up:=bm ag
theorem ZU{k:Nat}(ag:k<lp.aj.length):lp.fA.v k=yp (gT (lp.col k).low) (gT (lp.col k).up):=bm ag
theorem aDD{c:eu}(h:nf c=true):(c.low≠[]->isNum c.low=true)/\(c.up≠[]->isNum c.up=true):=by
 obtain⟨U,aa⟩:=Yk c h;exact⟨λe=>U (by simpa using e),λe=>aa (by simpa using e)⟩
theorem aDE(al:hj X)(g0:cl pm H0)(ey:pm.lo<=ba)(aF:ba<=H0.next)(au:lp.ok)(hm:lp.dP=true){k:Nat}(ag:k<lp.aj.length)(aD:jL lp.aX ba H0 aA lc cc k 0 k lp.fA){b0:Nat}{base:Option Addr}{cap:Nat}(af:kI H0 (.slice base lp.aj.length cap) lp.aj){L:bQ}(ck:a7 1 L=some (.pointer (some ⟨b0,0,none⟩)))(eT:a7 3 L=some (.pointer (some ⟨aA 0,0,none⟩)))
 (r3:a7 18 L=some (.slice base lp.aj.length cap)) (TB:a7 19 L=some (.int .i64 (lp.aj.length:Int))) (LD:a7 20 L=some (.int .i64 (k:Int))) {Q:c'}
 (fin:∀l' H' eC,bp pm ba H0 H'->eC 0=aA 0->jL lp.aX ba H' eC lc cc (k+1) 0 (k+1) lp.fA->Sub [(20,.int .i64 (k:Int)),(19,.int .i64 (lp.aj.length:Int)),(1,.pointer (some ⟨b0,0,none⟩)),(3,.pointer (some ⟨aA 0,0,none⟩)),(18,.slice base lp.aj.length cap)] l'->Q .normal l' H'):
 wp X pm (.code (.seq (.aT [m 22 20,o 23 (.ho 5 (.t 18) (.t 20)),o 24 (.load true 5 (.t 23)),o 5 (.alloc tyC [(.string ⟨#[]⟩),(.string ⟨#[]⟩),(.string ⟨#[]⟩),(.string ⟨#[]⟩),(.bool false)]),m 4 22,⟨none,none,.store 5 (.t 5) (.t 24)⟩]) TK)) L H0 [] Q:=by
 obtain⟨_,_,e,eU⟩:=af.at;cases e;obtain⟨b',off,kO,row,cs,rfl,e2,bd,b1,cQ,cK,rfl⟩:=eU k ag;have lb:=fR cK;have lZ:=bD.zB cK;have zZ:=Ci hm lb;obtain⟨oJ,qh⟩:=aDD zZ;obtain⟨n8,z2,z3⟩:=au.cs cQ lb;obtain⟨H1,cw⟩:=bZa ((H0.new (.cells [.string ⟨#[]⟩,.string ⟨#[]⟩,.string ⟨#[]⟩,.string ⟨#[]⟩,.bool false] (.t tyC))).put H0.next (.cells [aW cQ.name,aW cQ.low,aW cQ.up,aW cQ.cost,.bool cQ.int] (.t tyC)));have av:K pm H0 H1:=by rw[cw];exact mv g0 _ _ (by simp)
 have h4:H1.get H0.next=some (.cells [aW cQ.name,aW cQ.low,aW cQ.up,aW cQ.cost,.bool cQ.int] (.t tyC)):=by rw[cw];exact dX
 have g1:=av.aL;have aHq:=g1.lt h4;have eO:pm.may H0.next=true:=g0.may (bR _);simp[r3,LD,ag,e2,bd,b1,g0.pick,g0.make,eO,ptr,c5,eu.cells,<-cw,-DI];refine eg.of g1.lo rfl ?_;obtain⟨s,aG⟩:=bZa (H1.next);have pP:=g1.none;have yQ:=g1.fo;rw[<-aG]at pP yQ;simp[dt,<-aG,pP,yQ,h4,Perm.make,Perm.pick,-DI];obtain⟨A,nd⟩:=bZa ((H1.up 9).put (s+4) (.cells [.pointer none,.pointer none,.pointer none] (.t tyX)));have Cx:K pm H1 A:=by rw[nd];exact bp.fill ((K.refl g1).up 9) (by omega) (pP 4) (by show s+4<H1.next+9;omega) _
 have aDF:A.get (s+4)=some (.cells [.pointer none,.pointer none,.pointer none] (.t tyX)):=by rw[nd];exact dX
 have acL:∀j,j≠4->A.get (s+j)=none:=λj aH=>by rw[nd,cq (by omega)];exact pP j
 have aHr:A.next=s+9:=by rw[nd];show H1.next+9=_;omega
 have aDG:(H1.up 9).put (s+4) (.cells [.pointer none,.pointer none,.pointer none] (.t tyX))=A:=nd.symm;rw[aDG];have bT:∀{aJ:ah},K pm A aJ->∀j,j≠4->j<9->aJ.get (s+j)=none:=λk j aH qG=>(k.get _ (by omega)).trans (acL j aH);have nn:=acL 5 (by decide);refine GA Cx.aL (vs:=[aW cQ.low]) nn (by simp) (by simp) rfl (λpm' bS=>Dt al bS (by omega) oJ) ?_;rintro bJ bN aQ f1;have aDH:=bT aQ 6 (by decide) (by decide);simp[-DI];refine GA aQ.aL (vs:=[aW cQ.up]) aDH (by simp) (by simp) rfl (λpm' bS=>Dt al bS (by omega) qh) ?_;rintro bG cp bt f2;have ji:=K.trans aQ bt;have Jy:=bT ji 7 (by decide) (by decide);have Jz:=bT ji 8 (by decide) (by decide);have uk:=f1.up bt;obtain⟨bn,rfl⟩:=f1.ptr;obtain⟨bh,rfl⟩:=f2.ptr;have mw:=ji.some Cx.aL aDF;have aDI:=λo=>jh (ok:=pm.ok) (o:=o) (b:=s+4) (bH g1.lo (show H1.next<=s+4 by omega));have aDJ:H0.next<s:=by omega
 simp[Jy,Jz,mw,aDI,ptr,c5,dx,dm,aDJ,kS (show s+4≠H0.next by omega),eJ,ez,qs,-DI];obtain⟨cV,r5⟩:=bZa (cp.put (s+4) (.cells [.pointer bn,.pointer bh,.pointer none] (.t tyX)));have hl:bp pm H1.next cp cV:=by rw[r5];exact bp.put (bp.refl ji.aL |>.mono (bR _)) (by omega) mw (by simp) _
 have g5:=hl.aL;have qH:cV.get (s+4)=some (.cells [.pointer bn,.pointer bh,.pointer none] (.t tyX)):=by rw[r5];exact dX
 have aDK:K pm H1 cV:=bp.trans (Cx.trans ji) hl;rw[<-r5];have KE:=uk.up hl;have acM:=f2.up hl;simp[qH,cX,c5,-TL,-G6];refine aR.bZb (vs:=[.agg #[.pointer bn,.pointer bh,.pointer none]]) (aCr al g5 KE acM rfl) ?_;rintro r ep ⟨cv,an⟩;have g6:=cv.aL;have qA:=cv.some g5 qH;obtain⟨rb,rfl,n6⟩:=id an;have aDL:=K.trans aDK cv;have G8:=K.trans av aDL;have Ga:=jh (ok:=pm.ok) (o:=pm.num) (b:=s+4) (bH g1.lo (show H1.next<=s+4 by omega));obtain⟨hM,TM⟩:=bZa (ep.put (s+4) (.cells [.pointer bn,.pointer bh,.pointer (some ⟨rb,0,none⟩)] (.t tyX)));have tb:bp pm H0.next ep hM:=by rw[TM];exact bp.put (.refl g6) (by have:=av.next;omega) qA (by simp) _
 have wv:K pm H0 hM:=bp.trans G8 tb;have aDM:hM.get (s+4)=some (.cells [.pointer bn,.pointer bh,.pointer (some ⟨rb,0,none⟩)] (.t tyX)):=by rw[TM];exact dX
 simp[qA,Ga,<-TM,-G6];have t7:=aD.k g0 wv;have bO:=λj aH=>aD.lt g0 (j:=j) aH;have n1:=av.next;refine aDx al wv.aL ey (bH aF wv.next) au hm ag t7 (b0:=b0) (bx:=s+4) (z:=.t tyX) (va:=.pointer bn) (vb:=.pointer bh) (vc:=.pointer (some ⟨rb,0,none⟩)) (u18:=.slice (some ⟨b',off,none⟩) lp.aj.length cap) (by omega) (λj aH e=>by have:=bO j aH;omega) aDM (by simp) ⟨by rw[Ag ag,lZ];exact(KE.up cv).up tb,by rw[Ah ag,lZ];exact(acM.up cv).up tb,by rw[ZU ag,lZ];exact an.up tb⟩ rfl (by simp[ck]) (by simp[eT]) (by simp) (by simp) (by simp[r3]) (by simp[TB]) (by simp[LD]) λl' H' eC u _ DJ ra ku=>?_;exact fin l' H' eC ((wv.mono aF).trans u) DJ ra ku
end
section
variable{ba:Nat}{aA:Nat->Nat}{lc cc:Value}{lp:bD}{k1:Option Addr}{k2:Nat}
def vi(aA:Nat->Nat)(s i rb:Nat)(j:Nat):Nat:=if j=1 then s+16 else if j=2 then s+27 else if j=4 then s+9 else if j=5+i then rb else aA j
theorem aDN(g0:cl pm H0){i c3 s:Nat}(ql:c3=lp.aj.length+i)(aG:s=H0.next)(aF:ba<=H0.next)(aD:jL lp.aX ba H0 aA (.slice k1 lp.aj.length k2) cc c3 i lp.aj.length lp.fA){bx rb:Nat}{va vb vc:Value}(n6:ba<=rb)(hq:∀j,Real c3 i lp.aj.length j->aA j≠bx/\aA j≠rb)(aw:qY H0 lp.aX lp.fA.v (lp.aj.length+i) va vb vc)(nU:eV H0 rb lp.aj.length lp.aj.length (lp.fA.M i))
 {ga nC n':List Value} (mF:0<c3->H0.get (aA 1)=some (.cells ga (.n 3))/\ga.length=c3*3/\∀x,x<c3->∃p q c,ga[x*3]? = some p/\ga[x*3+1]? = some q/\ga[x*3+2]? = some c/\qY H0 lp.aX lp.fA.v x p q c) (iy:c3=0->ga=[]) (ot:0<i->H0.get (aA 2)=some (.cells nC (.n 1))/\nC.length=i/\∀j,j<i->nC[j]? = some (.int .i64 (lp.fA.rows j:Int))) (rr:i=0->nC=[])
 (AZ:0<i->H0.get (aA 4)=some (.cells n' (.n 1))/\n'.length=i/\∀j,j<i->n'[j]? = some (.slice (some ⟨aA (5+j),0,none⟩) lp.aj.length lp.aj.length)) (ft:i=0->n'=[]) {o2:ah} (xg:bp pm ba H0 o2)
 (aDO:o2.get (aA 0)=some (.cells [.slice k1 lp.aj.length k2,cc,sl (s+16) (c3+1),sl (s+27) (i+1),sl (aA 3) lp.aj.length,sl (s+9) (i+1)] (.t tyT))) (LJ:o2.get (s+9)=some (.cells (n'++[.slice (some ⟨rb,0,none⟩) lp.aj.length lp.aj.length]) (.n 1))) (TN:o2.get (s+16)=some (.cells (ga++[va,vb,vc]) (.n 3))) (TO:o2.get (s+27)=some (.cells (nC++[.int .i64 ((lp.aj.length:Int)+(i:Int))]) (.n 1)))
 (G9:∀b,b<s->b≠aA 0->(0<i->b≠aA 4)->(0<c3->b≠aA 1)->(0<i->b≠aA 2)->o2.get b=H0.get b):vi aA s i rb 0=aA 0/\jL lp.aX ba o2 (vi aA s i rb) (.slice k1 lp.aj.length k2) cc (c3+1) (i+1) lp.aj.length lp.fA:=by
 have fw:Real c3 i lp.aj.length 0:=.inl rfl;have b4:0<c3->Real c3 i lp.aj.length 1:=λh=>.inr (.inl ⟨rfl,h⟩);have cB:0<i->Real c3 i lp.aj.length 2:=λh=>.inr (.inr (.inl ⟨.inl rfl,h⟩));have kf:0<i->Real c3 i lp.aj.length 4:=λh=>.inr (.inr (.inl ⟨.inr rfl,h⟩));have yR:aA 0<s:=by have:=aD.lt g0 fw;omega
 have DK:=aD.ge 0 fw;have dh:0<lp.aj.length->Real c3 i lp.aj.length 3:=λh=>.inr (.inr (.inr (.inl ⟨rfl,h⟩)));have vN:∀j,j<i->Real c3 i lp.aj.length (5+j):=λj h=>.inr (.inr (.inr (.inr ⟨by omega,by omega⟩)));have aDP:rb<s:=by
  obtain⟨_,e,_⟩:=nU;have:=g0.lt e;omega
 have yS:∀a b,Real c3 i lp.aj.length a->Real c3 i lp.aj.length b->a≠b->aA a≠aA b:=λa b aN ai nQ e=>nQ (aD.inj a b aN ai e);obtain⟨eC,eP⟩:∃eC:Nat->Nat,eC=vi aA s i rb:=⟨_,rfl⟩;rw[<-eP];have DJ:eC 0=aA 0:=by rw[eP,vi];simp;intro h;omega
 have cR:eC 1=s+16:=by rw[eP,vi];simp
 have b9:eC 2=s+27:=by rw[eP,vi];simp
 have fK:eC 3=aA 3:=by rw[eP,vi];simp;intro h;omega
 have rQ:eC 4=s+9:=by rw[eP,vi];simp
 have uX:∀j,j<i->eC (5+j)=aA (5+j):=λj aH=>by
  rw[eP,vi];simp only[show ¬5+j=1 by omega,show ¬5+j=2 by omega,show ¬5+j=4 by omega,show ¬5+j=5+i by omega,if_false]
 have LK:eC (5+i)=rb:=by
  rw[eP,vi];simp only[show ¬5+i=1 by omega,show ¬5+i=2 by omega,show ¬5+i=4 by omega,if_false,if_true]
 have TJ:ga.length=c3*3:=by
  by_cases e:c3=0
  ·rw[iy e,e];rfl
  ·exact(mF (by omega)).2.1
 have ld:nC.length=i:=by
  by_cases e:i=0
  ·rw[rr e,e];rfl
  ·exact(ot (by omega)).2.1
 have IA:n'.length=i:=by
  by_cases e:i=0
  ·rw[ft e,e];rfl
  ·exact(AZ (by omega)).2.1
 refine⟨DJ,?_,λ_=>?_,λ_=>?_,λaC=>?_,λ_=>?_,λj aH=>?_,λa b aN ai e=>?_,λa aN=>?_⟩
 ·rw[DJ,cR,b9,fK,rQ];exact aDO
 ·rw[cR];refine⟨_,TN,by simp[TJ];omega,λx az=>?_⟩;by_cases e:x=c3
  ·subst e;refine⟨va,vb,vc,?_,?_,?_,?_⟩
   ·rw[lA (by omega),show x*3-ga.length=0 by omega];rfl
   ·rw[lA (by omega),show x*3+1-ga.length=1 by omega];rfl
   ·rw[lA (by omega),show x*3+2-ga.length=2 by omega];rfl
   ·rw[ql];exact aw.k xg
  ·obtain⟨p,q,c,ao,e2,bd,b1⟩:=(mF (by omega)).2.2 x (by omega);exact⟨p,q,c,by rw[lB (by omega)];exact ao,by rw[lB (by omega)];exact e2,by rw[lB (by omega)];exact bd,b1.k xg⟩
 ·rw[b9];refine⟨_,TO,by simp[ld],λj aH=>?_⟩;by_cases e:j=i
  ·subst e;rw[lA (by omega),show j-nC.length=0 by omega];show some (Value.int .i64 ((lp.aj.length:Int)+(j:Int)))=some (.int .i64 ((lp.aj.length+j:Nat):Int));simp
  ·rw[lB (by omega)];exact(ot (by omega)).2.2 j (by omega)
 ·rw[fK];refine(aD.c aC).ext λy e=>(G9 _ (by have:=aD.lt g0 (dh aC);omega) (yS 3 0 (dh aC) fw (by decide)) (λh=>yS 3 4 (dh aC) (kf h) (by decide)) (λh=>yS 3 1 (dh aC) (b4 h) (by decide)) λh=>yS 3 2 (dh aC) (cB h) (by decide)).trans e
 ·rw[rQ];refine⟨_,LJ,by simp[IA],λj aH=>?_⟩;by_cases e:j=i
  ·subst e;rw[lA (by omega),show j-n'.length=0 by omega,LK];rfl
  ·rw[lB (by omega),uX j (by omega)];exact(AZ (by omega)).2.2 j (by omega)
 ·by_cases e:j=i
  ·subst e;rw[LK];exact nU.ext xg λy e=>(G9 rb aDP (hq 0 fw).2.symm (λh=>(hq 4 (kf h)).2.symm) (λh=>(hq 1 (b4 h)).2.symm) λh=>(hq 2 (cB h)).2.symm).trans e
  ·have aH:j<i:=by omega
   rw[uX j aH];have cg:=vN j aH;exact(aD.row j aH).ext xg λy e=>(G9 _ (by have:=aD.lt g0 cg;omega) (yS _ _ cg fw (by omega)) (λh=>yS _ _ cg (kf h) (by omega)) (λh=>yS _ _ cg (b4 h) (by omega)) λh=>yS _ _ cg (cB h) (by omega)).trans e
 ·have cls:∀a,Real (c3+1) (i+1) lp.aj.length a->(a=1/\eC a=s+16)∨(a=2/\eC a=s+27)∨(a=4/\eC a=s+9)∨(a=5+i/\eC a=rb)∨(Real c3 i lp.aj.length a/\eC a=aA a/\aA a<s/\aA a≠rb/\a≠1/\a≠2/\a≠4/\a≠5+i):=by
   intro a aN
   rcases aN with rfl | ⟨rfl,_⟩ | ⟨rfl | rfl,_⟩ | ⟨rfl,h⟩ | ⟨U,aa⟩
   ·exact .inr (.inr (.inr (.inr ⟨fw,DJ,yR,(hq 0 fw).2,by omega,by omega,by omega,by omega⟩)))
   ·exact .inl ⟨rfl,cR⟩
   ·exact .inr (.inl ⟨rfl,b9⟩)
   ·exact .inr (.inr (.inl ⟨rfl,rQ⟩))
   ·exact .inr (.inr (.inr (.inr ⟨dh h,fK,by have:=aD.lt g0 (dh h);omega,(hq 3 (dh h)).2,by omega,by omega,by omega,by omega⟩)))
   ·obtain⟨j,rfl⟩:∃j,a=5+j:=⟨a-5,by omega⟩;by_cases e:j=i
    ·subst e;exact .inr (.inr (.inr (.inl ⟨rfl,LK⟩)))
    ·have cg:=vN j (by omega);exact .inr (.inr (.inr (.inr ⟨cg,uX j (by omega),by have:=aD.lt g0 cg;omega,(hq _ cg).2,by omega,by omega,by omega,by omega⟩)))
  rcases cls a aN with⟨rfl,x⟩ | ⟨rfl,x⟩ | ⟨rfl,x⟩ | ⟨rfl,x⟩ | ⟨sc,x,df,dW,_⟩<;>rcases cls b ai with⟨rfl,y⟩ | ⟨rfl,y⟩ | ⟨rfl,y⟩ | ⟨rfl,y⟩ | ⟨tv,y,s6,iL,_⟩<;>first | rfl | (rw[x,y]at e;first | omega | exact aD.inj a b sc tv e)
 ·rcases aN with rfl | ⟨rfl,_⟩ | ⟨rfl | rfl,_⟩ | ⟨rfl,h⟩ | ⟨U,aa⟩
  ·rw[DJ];exact DK
  ·rw[cR];omega
  ·rw[b9];omega
  ·rw[rQ];omega
  ·rw[fK];exact aD.ge 3 (dh h)
  ·obtain⟨j,rfl⟩:∃j,a=5+j:=⟨a-5,by omega⟩;by_cases e:j=i
   ·subst e;rw[LK];exact n6
   ·rw[uX j (by omega)];exact aD.ge _ (vN j (by omega))
theorem aDQ(g0:cl pm H0)(ey:pm.lo<=ba)(aF:ba<=H0.next)(au:lp.ok){i:Nat}(ad:i<lp.rows.length)(aD:jL lp.aX ba H0 aA (.slice k1 lp.aj.length k2) cc (lp.aj.length+i) i lp.aj.length lp.fA){b0 bx rb:Nat}{z kq:dI}{va vb vc:Value}(pz:ba<=bx)(n6:ba<=rb)(_cYZ:bx≠rb)(hq:∀j,Real (lp.aj.length+i) i lp.aj.length j->aA j≠bx/\aA j≠rb)
 (az:H0.get bx=some (.cells [va,vb,vc] z)) (fE:H0.get b0=some (.cells [.slice k1 lp.aj.length k2,cc] kq)) (LL:b0<ba) (aw:qY H0 lp.aX lp.fA.v (lp.aj.length+i) va vb vc) (oA:[va,vb,vc].all fG=true) (nU:eV H0 rb lp.aj.length lp.aj.length (lp.fA.M i)) {L:bQ} (ck:a7 1 L=some (.pointer (some ⟨b0,0,none⟩))) (eT:a7 3 L=some (.pointer (some ⟨aA 0,0,none⟩))) (dO:a7 7 L=some (.int .i64 (i:Int)))
 (pN:a7 9 L=some (.pointer (some ⟨bx,0,none⟩))) (l10:a7 10 L=some (.slice (some ⟨rb,0,none⟩) lp.aj.length lp.aj.length)) {u57:Value} (o3:a7 57 L=some u57) (q2:a7 58 L=some (.int .i64 (lp.rows.length:Int))) (pR:a7 59 L=some (.int .i64 (i:Int))) {Q:c'}
 (fin:∀l' H' eC,bp pm ba H0 H'->eC 0=aA 0->jL lp.aX ba H' eC (.slice k1 lp.aj.length k2) cc (lp.aj.length+(i+1)) (i+1) lp.aj.length lp.fA->Sub [(59,.int .i64 (i:Int)),(58,.int .i64 (lp.rows.length:Int)),(1,.pointer (some ⟨b0,0,none⟩)),(3,.pointer (some ⟨aA 0,0,none⟩)),(57,u57)] l'->Q .normal l' H'):
 wp X pm (.code DL) L H0 [] Q:=by
 have j2:=au.c;have mM:=au.r;obtain⟨c3,ql⟩:=bZa (lp.aj.length+i);rw[<-ql]at aD hq;obtain⟨s,aG⟩:=bZa (H0.next);have pP:=g0.none;have yQ:=g0.fo;rw[<-aG]at pP yQ;have fq:=aD.t;have fw:Real c3 i lp.aj.length 0:=.inl rfl;have b4:0<c3->Real c3 i lp.aj.length 1:=λh=>.inr (.inl ⟨rfl,h⟩);have cB:0<i->Real c3 i lp.aj.length 2:=λh=>.inr (.inr (.inl ⟨.inl rfl,h⟩));have kf:0<i->Real c3 i lp.aj.length 4:=λh=>.inr (.inr (.inl ⟨.inr rfl,h⟩));have yR:aA 0<s:=by have:=aD.lt g0 fw;omega
 have lv:=λh=>aD.lt g0 (b4 h);have DM:=λh=>aD.lt g0 (cB h);have A0:=λh=>aD.lt g0 (kf h);have LF:bx<s:=by have:=g0.lt az;omega
 have Rw:b0<s:=by omega
 have AX:0<c3->aA 0≠aA 1:=λh e=>absurd (aD.inj 0 1 fw (b4 h) e) (by decide);have aDR:0<i->aA 0≠aA 2:=λh e=>absurd (aD.inj 0 2 fw (cB h) e) (by decide);have LM:0<i->aA 0≠aA 4:=λh e=>absurd (aD.inj 0 4 fw (kf h) e) (by decide);have n14:0<c3->0<i->aA 1≠aA 4:=λh gJ e=>absurd (aD.inj 1 4 (b4 h) (kf gJ) e) (by decide);have aDS:0<c3->0<i->aA 1≠aA 2:=λh gJ e=>absurd (aD.inj 1 2 (b4 h) (cB gJ) e) (by decide);have n24:0<i->aA 2≠aA 4:=λh e=>absurd (aD.inj 2 4 (cB h) (kf h) e) (by decide);have DK:=aD.ge 0 fw;have LN:=λh=>aD.ge 1 (b4 h);have acN:=λh=>aD.ge 2 (cB h);have LO:=λh=>aD.ge 4 (kf h);have eO:∀o b,ba<=b->Perm.may ⟨pm.lo,pm.ok,o⟩ b=true:=λo b h=>jh (bH ey h);obtain⟨ga,mF,iy⟩:∃ga,(0<c3->H0.get (aA 1)=some (.cells ga (.n 3))/\ga.length=c3*3/\∀x,x<c3->∃p q c,ga[x*3]? = some p/\ga[x*3+1]? = some q/\ga[x*3+2]? = some c/\qY H0 lp.aX lp.fA.v x p q c)/\(c3=0->ga=[]):=by
  by_cases e:c3=0
  ·exact⟨[],λh=>by omega,λ_=>rfl⟩
  ·obtain⟨ss,U⟩:=aD.v (by omega);exact⟨ss,λ_=>U,λh=>absurd h e⟩
 obtain⟨nC,ot,rr⟩:∃nC,(0<i->H0.get (aA 2)=some (.cells nC (.n 1))/\nC.length=i/\∀j,j<i->nC[j]? = some (.int .i64 (lp.fA.rows j:Int)))/\(i=0->nC=[]):=by
  by_cases e:i=0
  ·exact⟨[],λh=>by omega,λ_=>rfl⟩
  ·obtain⟨ss,U⟩:=aD.r (by omega);exact⟨ss,λ_=>U,λh=>absurd h e⟩
 obtain⟨n',AZ,ft⟩:∃n',(0<i->H0.get (aA 4)=some (.cells n' (.n 1))/\n'.length=i/\∀j,j<i->n'[j]? = some (.slice (some ⟨aA (5+j),0,none⟩) lp.aj.length lp.aj.length))/\(i=0->n'=[]):=by
  by_cases e:i=0
  ·exact⟨[],λh=>by omega,λ_=>rfl⟩
  ·obtain⟨ss,U⟩:=aD.m (by omega);exact⟨ss,λ_=>U,λh=>absurd h e⟩
 obtain⟨vj,Ac⟩:∃vj:Value,vj=.slice (some ⟨rb,0,none⟩) lp.aj.length lp.aj.length:=⟨_,rfl⟩;have Dn:[vj].all fG=true:=by rw[Ac];rfl
 simp;refine eg.of g0.lo rfl ?_;have LG:K pm H0 (H0.up 37):=(K.refl g0).up 37;obtain⟨fL,fc⟩:=bZa ((H0.up 37).put (s+8) (.cells [vj] (.n 1)));have hD:K pm H0 fL:=by rw[fc];exact bp.fill LG (by omega) (by show H0.get _=none;exact pP 8) (by show s+8<H0.next+37;omega) _
 have TG:fL.next=s+37:=by rw[fc];show H0.next+37=_;omega
 have oP:∀j,j≠8->fL.get (s+j)=none:=λj aH=>by rw[fc,cq (by omega)];exact pP j
 have TC:fL.get (s+8)=some (.cells [vj] (.n 1)):=by rw[fc];exact dX
 have ao:=G5 (H:=fL) (w:=1) (by':=24) (c:=aA 4) (i:=i) (lo:=pm.lo) (okl:=pm.ok) (b:=s+9) (ss:=n') (xs:=[vj]) (λh=>⟨hD.some g0 (AZ h).1,by simpa using(AZ h).2.1,eO _ _ (LO h)⟩) ft Dn (by decide) (by omega) (by decide);obtain⟨fV,fg⟩:=bZa ((hF fL (aA 4) i).put (s+9) (.cells (n'++[vj]) (.n 1)));rw[<-fg]at ao;have fm:bp pm ba H0 fV:=by
  rw[fg];exact bp.fill (bp.hF (hD.mono aF) λh=>⟨LO h,hD.some g0 (AZ h).1⟩) (by omega) (by rw[l8 (λh=>by have:=A0 h;omega)];exact oP 9 (by decide)) (by rw[yP];omega) _
 have TH:fV.next=s+37:=by rw[fg,TI,yP];exact TG
 have rL:∀j,9<j->fV.get (s+j)=none:=λj aH=>by rw[fg,cq (by omega),l8 (λh=>by have:=A0 h;omega)];exact oP j (by omega)
 have DF:∀b,b<s->(0<i->b≠aA 4)->fV.get b=H0.get b:=λb ai gN=>by
  rw[fg,cq (by omega),l8 gN,fc,cq (by omega)];rfl
 have TD:=(DF (aA 0) yR LM).trans fq;have aDT:=(DF bx LF λh=>((hq 4 (kf h)).1).symm).trans az;obtain⟨fW,fp⟩:=bZa (fV.put (s+15) (.cells [va,vb,vc] (.n 3)));have fu:bp pm ba H0 fW:=by rw[fp];exact bp.fill fm (by omega) (rL 15 (by decide)) (by omega) _
 have acK:fW.next=s+37:=by rw[fp];exact TH
 have uy:∀j,15<j->fW.get (s+j)=none:=λj aH=>by rw[fp,cq (by omega)];exact rL j (by omega)
 have TE:fW.get (s+15)=some (.cells [va,vb,vc] (.n 3)):=by rw[fp];exact dX
 have DG:∀b,b<s->(0<i->b≠aA 4)->fW.get b=H0.get b:=λb ai gN=>by rw[fp,cq (by omega)];exact DF b ai gN
 have acO:0<c3->fW.get (aA 1)=some (.cells ga (.n 3)):=λh=>(DG _ (by have:=lv h;omega) λgJ=>n14 h gJ).trans (mF h).1;have bd:=G5 (H:=fW) (w:=3) (by':=24) (c:=aA 1) (i:=c3) (lo:=pm.lo) (okl:=pm.ok) (b:=s+16) (ss:=ga) (xs:=[va,vb,vc]) (λh=>⟨acO h,(mF h).2.1,eO _ _ (LN h)⟩) iy oA (by decide) (by omega) (by decide);obtain⟨oQ,km⟩:=bZa ((hF fW (aA 1) c3).put (s+16) (.cells (ga++[va,vb,vc]) (.n 3)));rw[<-km]at bd;have eX:bp pm ba H0 oQ:=by
  rw[km];exact bp.fill (bp.hF fu λh=>⟨LN h,acO h⟩) (by omega) (by rw[l8 (λh=>by have:=lv h;omega)];exact uy 16 (by decide)) (by rw[yP];omega) _
 have aDU:oQ.next=s+37:=by rw[km,TI,yP];exact acK
 have DH:∀j,16<j->oQ.get (s+j)=none:=λj aH=>by rw[km,cq (by omega),l8 (λh=>by have:=lv h;omega)];exact uy j (by omega)
 have AY:∀b,b<s->(0<i->b≠aA 4)->(0<c3->b≠aA 1)->oQ.get b=H0.get b:=λb ai aDV gN=>by
  rw[km,cq (by omega),l8 gN];exact DG b ai aDV
 have LH:=(AY (aA 0) yR LM AX).trans fq;have aDW:=(AY b0 Rw (λh=>by have:=LO h;omega) λh=>by have:=LN h;omega).trans fE;obtain⟨r6,nB⟩:=bZa (oQ.put (s+26) (.cells [.int .i64 ((lp.aj.length:Int)+(i:Int))] (.n 1)));have hl:bp pm ba H0 r6:=by rw[nB];exact bp.fill eX (by omega) (DH 26 (by decide)) (by omega) _
 have aHs:r6.next=s+37:=by rw[nB];exact aDU
 have G7:∀j,26<j->r6.get (s+j)=none:=λj aH=>by rw[nB,cq (by omega)];exact DH j (by omega)
 have aDX:r6.get (s+26)=some (.cells [.int .i64 ((lp.aj.length:Int)+(i:Int))] (.n 1)):=by rw[nB];exact dX
 have acP:0<i->r6.get (aA 2)=some (.cells nC (.n 1)):=λh=>by
  have:=DM h;rw[nB,cq (by omega)];exact(AY _ (by omega) n24 λgJ=>(aDS gJ h).symm).trans (ot h).1
 have cK:=G5 (H:=r6) (w:=1) (by':=8) (c:=aA 2) (i:=i) (lo:=pm.lo) (okl:=pm.ok) (b:=s+27) (ss:=nC) (xs:=[.int .i64 ((lp.aj.length:Int)+(i:Int))]) (λh=>⟨acP h,by simpa using(ot h).2.1,eO _ _ (acN h)⟩) rr rfl (by decide) (by omega) (by decide);obtain⟨tc,pQ⟩:=bZa ((hF r6 (aA 2) i).put (s+27) (.cells (nC++[.int .i64 ((lp.aj.length:Int)+(i:Int))]) (.n 1)));rw[<-pQ]at cK;have kk:bp pm ba H0 tc:=by
  rw[pQ];exact bp.fill (bp.hF hl λh=>⟨acN h,acP h⟩) (by omega) (by rw[l8 (λh=>by have:=DM h;omega)];exact G7 27 (by decide)) (by rw[yP];omega) _
 have acQ:∀j,27<j->tc.get (s+j)=none:=λj aH=>by rw[pQ,cq (by omega),l8 (λh=>by have:=DM h;omega)];exact G7 j (by omega)
 have LI:∀b,b<s->(0<i->b≠aA 4)->(0<c3->b≠aA 1)->(0<i->b≠aA 2)->tc.get b=H0.get b:=λb ai a8 U aa=>by
  rw[pQ,cq (by omega),l8 aa,nB,cq (by omega)];exact AY b ai a8 U
 have acR:=(LI (aA 0) yR LM AX aDR).trans fq;obtain⟨acS,JK⟩:=bZa (Value.slice k1 lp.aj.length k2);obtain⟨LP,DN⟩:=bZa (tc.put (aA 0) (.cells [.slice k1 lp.aj.length k2,cc,sl (aA 1) c3,sl (aA 2) i,sl (aA 3) lp.aj.length,sl (s+9) (i+1)] (.t tyT)));have tb:bp pm ba H0 LP:=by rw[DN];exact bp.put kk DK acR (by simp) _
 have acT:∀j,27<j->LP.get (s+j)=none:=λj aH=>by rw[DN,cq (by omega)];exact acQ j aH
 have acU:LP.get (aA 0)=some (.cells [.slice k1 lp.aj.length k2,cc,sl (aA 1) c3,sl (aA 2) i,sl (aA 3) lp.aj.length,sl (s+9) (i+1)] (.t tyT)):=by rw[DN];exact dX
 obtain⟨LQ,DO⟩:=bZa (LP.put (aA 0) (.cells [.slice k1 lp.aj.length k2,cc,sl (s+16) (c3+1),sl (aA 2) i,sl (aA 3) lp.aj.length,sl (s+9) (i+1)] (.t tyT)));have u8:bp pm ba H0 LQ:=by rw[DO];exact bp.put tb DK acU (by simp) _
 have aDY:∀j,27<j->LQ.get (s+j)=none:=λj aH=>by rw[DO,cq (by omega)];exact acT j aH
 have acV:LQ.get (aA 0)=some (.cells [.slice k1 lp.aj.length k2,cc,sl (s+16) (c3+1),sl (aA 2) i,sl (aA 3) lp.aj.length,sl (s+9) (i+1)] (.t tyT)):=by rw[DO];exact dX
 obtain⟨o2,G'⟩:=bZa (LQ.put (aA 0) (.cells [.slice k1 lp.aj.length k2,cc,sl (s+16) (c3+1),sl (s+27) (i+1),sl (aA 3) lp.aj.length,sl (s+9) (i+1)] (.t tyT)));have xg:bp pm ba H0 o2:=by rw[G'];exact bp.put u8 DK acV (by simp) _
 have TF:=λo=>eO o _ DK;have oN:∀b i,fG (sl b i)=true:=λb i=>by unfold sl;split<;>rfl
 have oO:∀b i,(sl b i).cells=#[sl b i]:=λb i=>by unfold sl;split<;>rfl
 have mg:wr .i64 ((lp.aj.length:Int)+(i:Int))=(lp.aj.length:Int)+(i:Int):=zWc (by omega) (by omega);have aDZ:vj.cells=#[vj]:=by rw[Ac];rfl
 rw[<-Ac]at l10
 simp[dt,<-aG,pP,yQ,ck,eT,dO,pN,l10,fq, cX,c5,Perm.make,Perm.pick,aDZ,fill,<-fc,oP,TC,ao,rL,TD,aDT,<-fp,uy,TE,bd,DH,LH,aDW,mg,<-nB,G7,aDX,cK,acQ,acR,TF,oN,oO,<-DN,acT,acU,<-DO,aDY,acV,<-G',dx,dm, ez,yR,LF,Rw,
  kS (show s+8≠aA 0 by omega),kS (show s+8≠bx by omega),kS (show s+8≠b0 by omega),kS (show s+15≠aA 0 by omega),kS (show s+15≠b0 by omega),kS (show s+26≠aA 0 by omega),kS (show s+26≠bx by omega),
  AW (c:=aA 4) (i:=i) (b:=s+9) (x:=aA 0) (λh=>(LM h).symm) (by omega),AW (c:=aA 4) (i:=i) (b:=s+9) (x:=bx) (λh=>(hq 4 (kf h)).1) (by omega),AW (c:=aA 4) (i:=i) (b:=s+9) (x:=b0) (λh=>by have:=LO h;omega) (by omega),
  AW (c:=aA 1) (i:=c3) (b:=s+16) (x:=aA 0) (λh=>(AX h).symm) (by omega),AW (c:=aA 1) (i:=c3) (b:=s+16) (x:=b0) (λh=>by have:=LN h;omega) (by omega),
  LB (c:=aA 4) (i:=i) (b:=s+9) (x:=s+15) (λh=>by have:=A0 h;omega) (by omega),LC (c:=aA 4) (i:=i) (y:=s+8) (x:=s+15) (λh=>by have:=A0 h;omega) (by omega),
  LB (c:=aA 4) (i:=i) (b:=s+9) (x:=s+26) (λh=>by have:=A0 h;omega) (by omega),LC (c:=aA 4) (i:=i) (y:=s+8) (x:=s+26) (λh=>by have:=A0 h;omega) (by omega),
  LB (c:=aA 1) (i:=c3) (b:=s+16) (x:=s+26) (λh=>by have:=lv h;omega) (by omega),LC (c:=aA 1) (i:=c3) (y:=s+15) (x:=s+26) (λh=>by have:=lv h;omega) (by omega)]
 refine⟨⟨λx az=>.inl (.inl (.inl (G4 (λh=>by have:=A0 h;omega) az))),λx az=>.inl (.inl (.inl (G4 (λh=>by have:=lv h;omega) az))),λx az=>.inl (.inl (.inl (G4 (λh=>by have:=DM h;omega) az)))⟩,?_⟩;have G9:∀b,b<s->b≠aA 0->(0<i->b≠aA 4)->(0<c3->b≠aA 1)->(0<i->b≠aA 2)->o2.get b=H0.get b:=λb ai gU a8 U aa=>by
  rw[G',cq gU,DO,cq gU,DN,cq gU];exact LI b ai a8 U aa
 have top:∀j,s<=j->o2.get j=tc.get j:=λj aH=>by rw[G',cq (by omega),DO,cq (by omega),DN,cq (by omega)]
 have LJ:o2.get (s+9)=some (.cells (n'++[vj]) (.n 1)):=by
  rw[top _ (by omega),pQ,cq (by omega),l8 (λh=>by have:=DM h;omega),nB,cq (by omega),km,cq (by omega),l8 (λh=>by have:=lv h;omega),fp,cq (by omega),fg];exact dX
 have TN:o2.get (s+16)=some (.cells (ga++[va,vb,vc]) (.n 3)):=by
  rw[top _ (by omega),pQ,cq (by omega),l8 (λh=>by have:=DM h;omega),nB,cq (by omega),km];exact dX
 have TO:o2.get (s+27)=some (.cells (nC++[.int .i64 ((lp.aj.length:Int)+(i:Int))]) (.n 1)):=by
  rw[top _ (by omega),pQ];exact dX
 have aD0:lp.aj.length+(i+1)=c3+1:=by omega
 rw[aD0]at fin;rw[Ac]at LJ;obtain⟨tU,zw⟩:=aDN g0 ql aG aF aD n6 hq aw nU mF iy ot rr AZ ft xg (by rw[G',dX]) LJ TN TO G9;exact fin _ o2 _ xg tU zw (by simp[ck,eT,o3,q2,pR])
end
abbrev tyY:Nat:=T.aD1
abbrev tyK:Nat:=T.aD2
section
variable{ba:Nat}{aA:Nat->Nat}{lc cc:Value}{lp:bD}{k1:Option Addr}{k2:Nat}
theorem acW(au:lp.ok){j:Nat}(aH:j<lp.aj.length):sz (lp.v0 j) 10000:=by
 obtain⟨U,aa,_⟩:=au.cs (lp.col j) (fR (bD.Cn aH));unfold bD.v0 yp gT;split
 ·rename_i l aO;split at aO
  ·cases aO
  ·cases aO;exact jf U (by decide)
 ·split
  ·exact uh (by decide)
  ·exact jf aa (by decide)
theorem aD3(al:hj X)(g0:cl pm H0)(ea:K pm H0 H)(au:lp.ok)(hm:lp.dP=true){i c3:Nat}(_cXa:i<lp.rows.length)(ql:lp.aj.length<=c3)(aD:jL lp.aX ba H0 aA lc cc c3 i lp.aj.length lp.fA){r:di}{vc:Value}(an:lp.rows[i]? = some r)(k9:nX H0 vc r.cM){yT bx rb:Nat}{z2:dI}{va vb u:Value}(pz:H0.next<=bx)(n6:H0.next<=rb)(wB:bx≠rb)
 (yU:H.get yT=some (.cells (r.cells vc) z2)) (az:H.get bx=some (.cells [va,vb,u] (.t tyY))) (hu:c1 H u 0) (nU:eV H rb lp.aj.length lp.aj.length λ_=>0) {L:bQ} {v1:Value} (ck:a7 1 L=some v1) (eT:a7 3 L=some (.pointer (some ⟨aA 0,0,none⟩))) (dO:a7 7 L=some (.int .i64 (i:Int)))
 (e3:a7 8 L=some (.pointer (some ⟨yT,0,none⟩))) (pN:a7 9 L=some (.pointer (some ⟨bx,0,none⟩))) (l10:a7 10 L=some (.slice (some ⟨rb,0,none⟩) lp.aj.length lp.aj.length)) {u57:Value} (o3:a7 57 L=some u57) (q2:a7 58 L=some (.int .i64 (lp.rows.length:Int))) (pR:a7 59 L=some (.int .i64 (i:Int))) {Q:c'}
 (fin:∀l' H' k5,K pm H0 H'->bp pm H0.next H H'->H'.get bx=some (.cells [va,vb,k5] (.t tyY))->c1 H' k5 (ix r.cM lp.v0)->eV H' rb lp.aj.length lp.aj.length (nu r.cM)->Sub [(1,v1),(3,.pointer (some ⟨aA 0,0,none⟩)),(7,.int .i64 (i:Int)),(9,.pointer (some ⟨bx,0,none⟩)),(10,.slice (some ⟨rb,0,none⟩) lp.aj.length lp.aj.length),(57,u57),(58,.int .i64 (lp.rows.length:Int)),(59,.int .i64 (i:Int))] l'->wp X pm (.code DL) l' H' [] Q):
 wp X pm (.code Ha) L H [] Q:=by
 have j2:=au.c;have lh:=fR an;have dC:=zC hm lh;have dM:=au.rs r lh;obtain⟨xR,_,_,_⟩:=Ck dC dM j2;have hlen:=xR.len;obtain⟨base,cap,rfl,eU⟩:=k9.at;simp[e3,yU,di.cells,-TP,-DL]
 refine gG (σ:=Value) r.cM.length (λp _=>[(1,v1),(3,.pointer (some ⟨aA 0,0,none⟩)),(7,.int .i64 (i:Int)),(9,.pointer (some ⟨bx,0,none⟩)),(10,.slice (some ⟨rb,0,none⟩) lp.aj.length lp.aj.length),(57,u57),(58,.int .i64 (lp.rows.length:Int)),(59,.int .i64 (i:Int)),(95,.slice base r.cM.length cap)])
  (λp u H'=>K pm H0 H'/\bp pm H0.next H H'/\H'.get bx=some (.cells [va,vb,u] (.t tyY))/\c1 H' u (ix (r.cM.take p) lp.v0)/\eV H' rb lp.aj.length lp.aj.length (nu (r.cM.take p))) u (by decide) (by omega) (by simp[ck,eT,dO,pN,l10,o3,q2,pR]) ⟨ea,bp.refl ea.aL,az,by simpa [ix]using hu,by simpa [nu]using nU⟩ (by simp) ?_ ?_
 ·rintro p u H1 aC ⟨av,DP,kR,kE,gQ⟩;obtain⟨b',off,kO,row,cs,rfl,e2,bd,b1,cQ,cK,rfl⟩:=eU p aC;obtain⟨U,aa,aq,a8⟩:=xR.all cQ (fR cK);obtain⟨j,aH⟩:∃j:Nat,cQ.col=(j:Int):=⟨cQ.col.toNat,by omega⟩;have mB:j<lp.aj.length:=by omega
  have zA:cQ.col.toNat=j:=by omega
  have g1:=av.aL;have gW:=av.some g0 e2;obtain⟨aJ,ee⟩:=bZa ((H1.new (.cells [.int .i64 0,.string ⟨#[]⟩] (.t tyK))).put H1.next (.cells [.int .i64 cQ.col,aW cQ.v] (.t tyK)));have aI:K pm H1 aJ:=by rw[ee];exact mv g1 _ _ (by simp)
  have eA:aJ.get H1.next=some (.cells [.int .i64 cQ.col,aW cQ.v] (.t tyK)):=by rw[ee];exact dX
  have g2:=aI.aL;have nj:=g2.lt eA;have Js:∀o,Perm.may ⟨pm.lo,pm.ok,o⟩ rb=true:=λo=>jh (bH g0.lo n6);have qg:∀o,Perm.may ⟨pm.lo,pm.ok,o⟩ bx=true:=λo=>jh (bH g0.lo pz);have d':=U;unfold fb.ok at d';have aD4:cQ.v≠[]:=by rintro e;rw[e]at aa;simp[isNum,Jj]at aa
  obtain⟨cH,d1,d2,d3⟩:=gQ.k g1 aI;have xe:=g2.lt d1;simp[aC,gW,bd,b1,g1.pick,g1.make,g1.may (bR _),ptr,c5,fb.cells,<-ee,-Hb];refine eg.of g2.lo rfl ?_;have bE:K pm aJ (aJ.up 8):=(K.refl g2).up 8;simp[dt,g2.none,g2.fo,eA,aH,-Hb];refine bZk bE.aL (vs:=[aW cQ.v]) (by simp[g2.none]) (λpm' bS=>Dt al bS (by omega) λ_=>aa) ?_;rintro bJ bN aQ f1;rw[gT,aU aD4]at f1;have gZ:=aQ.res g2;have my:=bE.trans aQ;have g3:=my.aL;have qE:=my.some g2 d1;obtain⟨aX,rfl,_⟩:=id f1;have zJ:j<cH.length:=by omega
  simp[gZ,qE,mB,Js,zJ,dx,dm,nj,xe,eJ,ez,qs,-Hb];have aD5:=λy (bu:y<lp.aj.length)=>(d3 y bu).imp λv aw=>(⟨aw.1,aw.2.up my⟩:_/\_);obtain⟨eX,d4⟩:=eV.put (m:=H0.next) g3 n6 qE d2 aD5 mB f1 (k':=lp.aj.length) (λy bu=>.inr bu);obtain⟨cp,nZ⟩:=bZa (bN.put rb (.cells (cH.set j (.pointer (some ⟨aX,0,none⟩))) (.n 1)));rw[<-nZ]at eX d4|-;have g4:=eX.aL;have h0:=aI.trans my;have jY:K pm H0 cp:=bp.trans (K.trans av h0) eX;have vk:cp.get bx=some (.cells [va,vb,u] (.t tyY)):=by rw[nZ,cq wB];exact h0.some g1 kR
  have aHt:=g1.lt kR;have mw:cp.get H1.next=some (.cells [.int .i64 cQ.col,aW cQ.v] (.t tyK)):=by
   have nk:rb<H1.next:=by
    obtain⟨_,e,_⟩:=gQ;exact g1.lt e
   rw[nZ,cq (by omega)];exact my.some g2 eA
  have aD6:c1 cp u (ix (r.cM.take p) lp.v0):=(kE.up h0).up eX;have t4:=aD.k g0 jY;have yO:=t4.t;rw[eQ (b:=aA 1) (show 0<c3 by omega)]at yO;obtain⟨vs,BF,aHu,aD7⟩:=t4.v (by omega);obtain⟨DQ,KA,yA,cS,bL,kF,Am⟩:=aD7 j (by omega);have QJ:lp.fA.v j=lp.v0 j:=bm mB;have Aq:=Am.v;rw[QJ]at Aq;have f4:=f1.up eX;obtain⟨es,s1,s2,de⟩:=id d4;have aD8:es[j]? = some (.pointer (some ⟨aX,0,none⟩)):=by
   have:cp.get rb=some (.cells (cH.set j (.pointer (some ⟨aX,0,none⟩))) (.n 1)):=by rw[nZ];exact dX
   rw[s1]at this;cases this;rw[bXz zJ]
  have tv:=g4.lt vk;have s6:=g4.lt mw;have iL:=g4.lt s1;have qV:=g4.lt yO;have wM:=g4.lt BF;simp[-TQ];refine eg.of g4.lo rfl ?_;have s':K pm cp (cp.up 20):=(K.refl g4).up 20;simp[dt,g4.none,g4.fo,vk,mw,aH,s1,aD8,mB,yO,BF,kF,show j<c3 by omega];have GF:=λm=>qz (f4.up s') (Aq.up s') (s'.some g4 vk) m;have acX:=jf (k:=10000) d' (by decide);have acY:=acW au mB;refine bZk s'.aL (vs:=[.pointer (some ⟨aX,0,none⟩),yA]) (by simp[g4.none]) (λpm' bS=>sF al.toOb bS (f4.up s').of (Aq.up s').of (acX.ca (by decide)) (acY.ca (by decide))) ?_;rintro qZ ep cv f6;have nq:=cv.res g4;simp;have yN:sz (ix (r.cM.take p) lp.v0) 21000000:=by
   refine ff (Ok (t:=10000) λc af=>?_) ?_
   ·obtain⟨U,_,aq,a8⟩:=xR.all c (bYk af);exact⟨U,acW au (by omega)⟩
   ·have U:(r.cM.take p).length<=1000:=bH (List.take_sublist _ _).length_le hlen;have aq:(r.cM.take p).length*(10000+10001)<=20001000:=bH (ie U (bR _)) (by decide);exact bH (bXj aq) (by decide)
  refine bZm cv.aL (vs:=[u,qZ]) (by simp[nq]) (λpm' bS=>v8 al.toOb bS ((aD6.up s').up cv).of f6.of (yN.ca (by decide)) ((la acX acY).ca (by decide))) ?_;rintro AH hM dJ f7;have pG:=(K.trans cv dJ).res g4;have LR:=s'.trans (cv.trans dJ);have acZ:=LR.some g4 vk;obtain⟨GD,rfl,_⟩:=id f7;simp[pG,acZ,qg,dx,dm,tv,s6,iL,qV,wM, ez,GF];have u8:bp pm H0.next hM (hM.put bx (.cells [va,vb,.pointer (some ⟨GD,0,none⟩)] (.t tyY))):=bp.put (.refl dJ.aL) pz acZ (by simp) _;have ui:r.cM.take (p+1)=r.cM.take p++[cQ]:=by rw[List.take_add_one,cK];rfl
  refine⟨bp.trans (K.trans jY LR) u8,(((DP.trans (h0.mono av.next)).trans eX).trans (LR.mono jY.next)).trans u8,?_,?_⟩
  ·rw[ui,Yc,zA];exact f7.up u8
  ·have d8:=(d4.k g4 LR).ext u8 λy e=>by rw[cq (Ne.symm wB)];exact e
   refine d8.congr λy bu=>?_;rw[ui,nu,List.foldl_append];show mT (nu (r.cM.take p)) cQ y=_;rw[mT,zA]
 ·rintro u H1 ⟨av,DP,kR,kE,gQ⟩;rw[bXG]at kE gQ;simp[-DL];exact fin _ _ u av DP kR kE gQ (by simp)
end
abbrev tyR:Nat:=T.aD9
section
variable{ba:Nat}{aA:Nat->Nat}{lc cc:Value}{lp:bD}{k1:Option Addr}{k2:Nat}
theorem CW{i:Nat}:lp.aX.lo (lp.aj.length+i)=if(lp.row i).kind=1 then none else gT (lp.row i).rhs:=by
 show(if lp.aj.length+i<lp.aj.length then _ else if(lp.row (lp.aj.length+i-lp.aj.length)).kind=1 then none else gT (lp.row (lp.aj.length+i-lp.aj.length)).rhs)=_;rw[aU (by omega),show lp.aj.length+i-lp.aj.length=i by omega]
theorem CX{i:Nat}:lp.aX.up (lp.aj.length+i)=if(lp.row i).kind=3 then none else gT (lp.row i).rhs:=by
 show(if lp.aj.length+i<lp.aj.length then _ else if(lp.row (lp.aj.length+i-lp.aj.length)).kind=3 then none else gT (lp.row (lp.aj.length+i-lp.aj.length)).rhs)=_;rw[aU (by omega),show lp.aj.length+i-lp.aj.length=i by omega]
theorem ZS{i:Nat}:lp.fA.v (lp.aj.length+i)=ix (lp.row i).cM lp.v0:=by
 show(if lp.aj.length+i<lp.aj.length then _ else ix (lp.row (lp.aj.length+i-lp.aj.length)).cM lp.v0)=_;rw[aU (by omega),show lp.aj.length+i-lp.aj.length=i by omega]
theorem aEa(al:hj X)(g0:cl pm H0)(ea:K pm H0 H)(ey:pm.lo<=ba)(aF:ba<=H0.next)(au:lp.ok)(hm:lp.dP=true){i:Nat}(ad:i<lp.rows.length)(aD:jL lp.aX ba H0 aA (.slice k1 lp.aj.length k2) cc (lp.aj.length+i) i lp.aj.length lp.fA){vc:Value}(k9:nX H0 vc (lp.row i).cM){b0 yT bx:Nat}{kq z2:dI}{va vb u:Value}(pz:H0.next<=bx)
 (fE:H0.get b0=some (.cells [.slice k1 lp.aj.length k2,cc] kq)) (LL:b0<ba) (yU:H.get yT=some (.cells ((lp.row i).cells vc) z2)) (az:H.get bx=some (.cells [va,vb,u] (.t tyY))) (hu:c1 H u 0) (yB:ia H va (lp.aX.lo (lp.aj.length+i))) (oC:ia H vb (lp.aX.up (lp.aj.length+i)))
 {L:bQ} (ck:a7 1 L=some (.pointer (some ⟨b0,0,none⟩))) (eT:a7 3 L=some (.pointer (some ⟨aA 0,0,none⟩))) (dO:a7 7 L=some (.int .i64 (i:Int)))
 (e3:a7 8 L=some (.pointer (some ⟨yT,0,none⟩))) (pN:a7 9 L=some (.pointer (some ⟨bx,0,none⟩))) {u57:Value} (o3:a7 57 L=some u57) (q2:a7 58 L=some (.int .i64 (lp.rows.length:Int))) (pR:a7 59 L=some (.int .i64 (i:Int))) {Q:c'}
 (fin:∀l' H' eC,bp pm ba H0 H'->eC 0=aA 0->jL lp.aX ba H' eC (.slice k1 lp.aj.length k2) cc (lp.aj.length+(i+1)) (i+1) lp.aj.length lp.fA->Sub [(59,.int .i64 (i:Int)),(58,.int .i64 (lp.rows.length:Int)),(1,.pointer (some ⟨b0,0,none⟩)),(3,.pointer (some ⟨aA 0,0,none⟩)),(57,u57)] l'->Q .normal l' H'):
 wp X pm (.code A1) L H [] Q:=by
 have j2:=au.c;have g:=ea.aL;have Pf:=ea.some g0 fE;obtain⟨rb,n6⟩:=bZa (H.next);obtain⟨H1,cw⟩:=bZa (H.new (.cells (times [.pointer none] lp.aj.length) (.n 1)));have av:=bZi g cw;have d1:eV H1 rb lp.aj.length 0 λ_=>0:=⟨_,by rw[cw,n6];exact dT,G3 _ _,λi ad=>absurd ad (od _)⟩;have sQ:H0.next<=rb:=by rw[n6];exact ea.next
 have Js:pm.may rb=true:=g.may (by omega);have yi:=g.lt az;have aHv:=g.lt yU;have wB:bx≠rb:=by omega
 have oB:yT≠rb:=by omega
 simp[ck,Pf,rD g.tocU (show lp.aj.length<=1073741824 by omega) (show 8*lp.aj.length<=17179869184 by omega),<-cw,<-n6,-TR,-Ha]
 refine gG (σ:=Unit) lp.aj.length (λ_ _=>[(1,.pointer (some ⟨b0,0,none⟩)),(3,.pointer (some ⟨aA 0,0,none⟩)),(7,.int .i64 (i:Int)),(8,.pointer (some ⟨yT,0,none⟩)),(9,.pointer (some ⟨bx,0,none⟩)),(10,.slice (some ⟨rb,0,none⟩) lp.aj.length lp.aj.length),(57,u57),(58,.int .i64 (lp.rows.length:Int)),(59,.int .i64 (i:Int))])
  (λk _ H'=>K pm H0 H'/\H'.get yT=some (.cells ((lp.row i).cells vc) z2)/\H'.get bx=some (.cells [va,vb,u] (.t tyY))/\bp pm H0.next H H'/\eV H' rb lp.aj.length k λ_=>0) () (by decide) (by omega) (by simp[ck,eT,dO,e3,pN,o3,q2,pR]) ⟨ea.trans av,av.some g yU,av.some g az,av.mono ea.next,d1⟩ (by simp) ?_ ?_
 ·rintro k _ aJ ag ⟨aI,fP,jw,fm,d2⟩;have g2:=aI.aL;simp[-TS];refine aR.bZb (vs:=[.int .i64 0]) (sE al.toOb g2 (n:=0) (by omega) (by omega)) ?_;rintro cO bN ⟨aQ,f3⟩;obtain⟨cH,cx,a2,a3⟩:=d2.k g2 aQ;obtain⟨eX,d4⟩:=eV.put (m:=H0.next) aQ.aL sQ cx a2 a3 ag f3 (k':=k+1) (λj aH=>by omega);obtain⟨aX,rfl,_⟩:=id f3;simp[cx,ag,Js,show k<cH.length by omega];refine⟨bp.trans (aI.trans aQ) eX,?_,?_,(fm.trans (aQ.mono aI.next)).trans eX,d4.congr λj aH=>?_⟩
  ·rw[cq oB];exact aQ.some g2 fP
  ·rw[cq wB];exact aQ.some g2 jw
  ·by_cases e:j=k<;>simp[e]
 ·rintro _ aJ ⟨aI,fP,jw,fm,d2⟩;simp[-Ha];refine aD3 al g0 aI au hm ad (hS _ _) aD (bD.rowAt ad) k9 pz sQ wB fP jw (hu.up fm) d2 (v1:=.pointer (some ⟨b0,0,none⟩)) (u57:=u57) (by simp) (by simp) (by simp) (by simp) (by simp) (by simp) (by simp) (by simp) (by simp) λl' H' k5 k' DP qO ac0 m' ku=>?_;simp only[Gz]at ku;obtain⟨tU,Fa,N0,NZ,N1,aEb,aEc,aEd,_⟩:=ku;have bO:=λj aH=>aD.lt g0 (j:=j) aH;refine aDQ k'.aL ey (bH aF k'.next) au ad (aD.k g0 k') (b0:=b0) (bx:=bx) (rb:=rb) (bH aF pz) (bH aF sQ) wB (λj aH=>?_) qO (k'.some g0 fE) LL ⟨?_,?_,?_⟩ ?_ m' tU Fa N0 NZ N1 aEb aEc aEd λYA cL aEe aEf aEg aEh aEi=>?_
  ·have:=bO j aH;exact⟨by omega,by omega⟩
  ·exact(yB.up fm).up DP
  ·exact(oC.up fm).up DP
  ·rw[ZS];exact ac0
  ·obtain⟨_,rfl⟩:=yB.ptr;obtain⟨_,rfl⟩:=oC.ptr;obtain⟨_,rfl,_⟩:=ac0;rename_i bJ bG _ _;cases bJ<;>cases bG<;>rfl
  ·exact fin YA cL aEe ((k'.mono aF).trans aEf) aEg aEh aEi
end
section
variable{ba:Nat}{aA:Nat->Nat}{lc cc:Value}{lp:bD}{k1:Option Addr}{k2:Nat}
theorem nY.cM(h:nY H0 cc lp.rows){i:Nat}(ad:i<lp.rows.length):∃base cap b off kO row vc,cc=.slice base lp.rows.length cap/\base=some ⟨b,off,none⟩/\H0.get b=some kO/\rowOf kO=some row/\cX row (off+i*5) 5=some ((lp.row i).cells vc)/\nX H0 vc (lp.row i).cM:=by
 obtain⟨base,cap,rfl,eU⟩:=h.at;obtain⟨b,off,kO,row,cs,ao,e2,bd,b1,r,vc,cK,rfl,il⟩:=eU i ad;have:=bD.Yq cK;subst this;exact⟨base,cap,b,off,kO,row,vc,rfl,ao,e2,bd,b1,il⟩
theorem aEj(al:hj X)(g0:cl pm H0)(ey:pm.lo<=ba)(aF:ba<=H0.next)(au:lp.ok)(hm:lp.dP=true){i:Nat}(ad:i<lp.rows.length)(aD:jL lp.aX ba H0 aA (.slice k1 lp.aj.length k2) cc (lp.aj.length+i) i lp.aj.length lp.fA)(an:nY H0 cc lp.rows){b0:Nat}{kq:dI}
 (fE:H0.get b0=some (.cells [.slice k1 lp.aj.length k2,cc] kq)) (LL:b0<ba)
 {L:bQ} (ck:a7 1 L=some (.pointer (some ⟨b0,0,none⟩))) (eT:a7 3 L=some (.pointer (some ⟨aA 0,0,none⟩))) (o3:a7 57 L=some cc) (q2:a7 58 L=some (.int .i64 (lp.rows.length:Int))) (pR:a7 59 L=some (.int .i64 (i:Int))) {Q:c'}
 (fin:∀l' H' eC,bp pm ba H0 H'->eC 0=aA 0->jL lp.aX ba H' eC (.slice k1 lp.aj.length k2) cc (lp.aj.length+(i+1)) (i+1) lp.aj.length lp.fA->Sub [(59,.int .i64 (i:Int)),(58,.int .i64 (lp.rows.length:Int)),(1,.pointer (some ⟨b0,0,none⟩)),(3,.pointer (some ⟨aA 0,0,none⟩)),(57,cc)] l'->Q .normal l' H'):
 wp X pm (.code (.seq (.aT [m 61 59,o 62 (.ho 5 (.t 57) (.t 59)),o 63 (.load true 5 (.t 62)),o 8 (.alloc tyR [(.string ⟨#[]⟩),(.int .i64 (.ofNat 0)),(.slice none 0 0),(.string ⟨#[]⟩),(.string ⟨#[]⟩)]),m 7 61,⟨none,none,.store 5 (.t 8) (.t 63)⟩]) TT)) L H0 [] Q:=by
 have j2:=au.c;obtain⟨base,cap,b',off,kO,row,vc,xN,rfl,e2,bd,b1,k9⟩:=nY.cM an ad;have lh:=fR (bD.rowAt ad);have dC:=zC hm lh;have dM:=au.rs _ lh;obtain⟨_,bh,cu,e9⟩:=Ck dC dM j2;have ld:=dM.1;obtain⟨r,jg⟩:=bZa (lp.row i);have TU:=CW (lp:=lp) (i:=i);have TV:=CX (lp:=lp) (i:=i);rw[<-jg]at dC dM bh cu e9 ld b1 k9 TU TV;obtain⟨cW,Yy,Oy,_⟩:=k9.at;obtain⟨xh,yU⟩:=bZa (H0.next);obtain⟨H1,cw⟩:=bZa ((H0.new (.cells [.string ⟨#[]⟩,.int .i64 0,.slice none 0 0,.string ⟨#[]⟩,.string ⟨#[]⟩] (.t tyR))).put xh (.cells [aW r.name,.int .i64 r.kind,.slice cW r.cM.length Yy,aW r.rhs,aW r.Ff] (.t tyR)));have av:=bYF g0 cw yU;have h4:H1.get xh=some (.cells (r.cells vc) (.t tyR)):=by rw[cw,Oy];exact dX
 have g1:=av.aL;have RA:=bXb yU;have xw:pm.may xh=true:=g0.may (by omega);rw[xN]at o3;rw[Oy]at b1;simp[o3,pR,ad,e2,bd,b1,g0.pick,g0.make,xw,RA,ptr,c5,di.cells,<-cw,<-yU,-TW,-TX];refine aR.bZb (vs:=[.int .i64 0]) (sE al.toOb g1 (n:=0) (by omega) (by omega)) ?_;rintro jW aJ ⟨aI,f0⟩;have g2:=aI.aL;obtain⟨DR,rfl,_⟩:=id f0;obtain⟨bx,pz⟩:=bZa (aJ.next);obtain⟨bN,iO⟩:=bZa ((aJ.new (.cells [.pointer none,.pointer none,.pointer none] (.t tyY))).put bx (.cells [.pointer none,.pointer none,.pointer (some ⟨DR,0,none⟩)] (.t tyY)));have aQ:=bYF g2 iO pz;have g3:=aQ.aL;have jP:=bZv iO;have h0:=aI.trans aQ;have jH:=av.trans h0;have LS:=h0.some g1 h4;have lU:=bXb pz;have qg:pm.may bx=true:=g2.may (by omega);have TY:H0.next<=bx:=by rw[pz];exact(av.trans aI).next
 have dr:xh≠bx:=by
  have:=(aI.next);have:=g1.lt h4;omega
 simp[g2.pick,g2.make,ptr,lU,<-pz,qg,c5,<-iO,LS,di.cells,-A2,-TZ]
 have rest:∀(cp:ah) (p:Option Addr) (L:bQ),K pm H0 cp->bp pm H0.next bN cp->cp.get xh=some (.cells (r.cells vc) (.t tyR))->cp.get bx=some (.cells [.pointer p,.pointer none,.pointer (some ⟨DR,0,none⟩)] (.t tyY))->ia cp (.pointer p) (lp.aX.lo (lp.aj.length+i))->
  a7 1 L=some (.pointer (some ⟨b0,0,none⟩))->a7 3 L=some (.pointer (some ⟨aA 0,0,none⟩))->a7 7 L=some (.int .i64 (i:Int))->a7 8 L=some (.pointer (some ⟨xh,0,none⟩))->a7 9 L=some (.pointer (some ⟨bx,0,none⟩))->a7 57 L=some cc->a7 58 L=some (.int .i64 (lp.rows.length:Int))->a7 59 L=some (.int .i64 (i:Int))->wp X pm (.code A2) L cp [] Q:=by
  intro cp p L bt eX LU vk aEk ck eT dO e3 pN o3 q2 pR;have g4:=bt.aL;have f4:=(f0.up aQ).up eX;have z:=λ(cV:ah) (pu:Option Addr) (L:bQ) (cd:K pm H0 cV) (hl:bp pm H0.next cp cV) (aEl:cV.get xh=some (.cells (r.cells vc) (.t tyR))) (xf:cV.get bx=some (.cells [.pointer p,.pointer pu,.pointer (some ⟨DR,0,none⟩)] (.t tyY))) (aEm:ia cV (.pointer pu) (lp.aX.up (lp.aj.length+i))) (ck:a7 1 L=some (.pointer (some ⟨b0,0,none⟩))) (eT:a7 3 L=some (.pointer (some ⟨aA 0,0,none⟩))) (dO:a7 7 L=some (.int .i64 (i:Int))) (e3:a7 8 L=some (.pointer (some ⟨xh,0,none⟩))) (pN:a7 9 L=some (.pointer (some ⟨bx,0,none⟩))) (o3:a7 57 L=some cc) (q2:a7 58 L=some (.int .i64 (lp.rows.length:Int))) (pR:a7 59 L=some (.int .i64 (i:Int)))=>
   aEa al g0 cd ey aF au hm ad aD (vc:=vc) (by rw[<-jg];exact k9) TY fE LL (by rw[<-jg];exact aEl) xf (by simpa using f4.up hl) (aEk.up hl) aEm ck eT dO e3 pN o3 q2 pR (Q:=Q) fin
  simp[e3,LU,di.cells,-T0,-A1];by_cases aq:r.kind=3
  ·have ai:(r.kind==3)=true:=by simpa using aq
   simp[ai,-A1];refine z cp none _ bt (bp.refl g4) LU vk (by rw[TV,bm aq];rfl) (by simp[ck]) (by simp[eT]) (by simp[dO]) (by simp[e3]) (by simp[pN]) (by simp[o3]) (by simp[q2]) (by simp[pR])
  ·have ai:(r.kind==3)=false:=by simpa using aq
   simp[ai,e3,LU,di.cells,-A1,-T1];refine aR.bZb (vs:=[aW r.rhs]) (Dt al g4 (by omega) λ_=>bh) ?_;rintro q cV ⟨cd,f5⟩;have xf:=cd.some g4 vk;obtain⟨DQ,rfl⟩:=f5.ptr;obtain⟨ep,mA⟩:=bZa (cV.put bx (.cells [.pointer p,.pointer DQ,.pointer (some ⟨DR,0,none⟩)] (.t tyY)));have kk:bp pm H0.next cV ep:=by rw[mA];exact bp.put (.refl cd.aL) TY xf (by simp) _
   simp[pN,xf,qg,<-mA,-A1];refine z ep DQ _ (bp.trans (K.trans bt cd) kk) ((cd.mono bt.next).trans kk) (by rw[mA,cq dr];exact cd.some g4 LU) (by rw[mA];exact dX) (by rw[TV,aU aq];exact f5.up kk) (by simp[ck]) (by simp[eT]) (by simp[dO]) (by simp[e3]) (by simp[pN]) (by simp[o3]) (by simp[q2]) (by simp[pR])
 by_cases U:r.kind=1
 ·have ai:(r.kind==1)=true:=by simpa using U
  simp[ai,-A2];refine rest bN none _ jH (bp.refl g3) LS jP (by rw[TU,bm U];rfl) (by simp[ck]) (by simp[eT]) (by simp) (by simp) (by simp) (by simp[o3,xN]) (by simp[q2]) (by simp[pR])
 ·have ai:(r.kind==1)=false:=by simpa using U
  simp[ai,LS,di.cells,-A2,-T2];refine aR.bZb (vs:=[aW r.rhs]) (Dt al g3 (by omega) λ_=>bh) ?_;rintro q cp ⟨bt,f4⟩;have vk:=bt.some g3 jP;obtain⟨DQ,rfl⟩:=f4.ptr;obtain⟨cV,r5⟩:=bZa (cp.put bx (.cells [.pointer DQ,.pointer none,.pointer (some ⟨DR,0,none⟩)] (.t tyY)));have hl:bp pm H0.next cp cV:=by rw[r5];exact bp.put (.refl bt.aL) TY vk (by simp) _
  simp[vk,qg,<-r5,-A2];refine rest cV DQ _ (bp.trans (K.trans jH bt) hl) ((bt.mono jH.next).trans hl) (by rw[r5,cq dr];exact bt.some g3 LS) (by rw[r5];exact dX) (by rw[TU,aU U];exact f4.up hl) (by simp[ck]) (by simp[eT]) (by simp) (by simp) (by simp) (by simp[o3,xN]) (by simp[q2]) (by simp[pR])
end
section
variable{ba:Nat}{aA:Nat->Nat}{lp:bD}
theorem aEn(al:hj X)(g:cl pm H)(au:lp.ok)(hm:lp.dP=true){lc cc:Value}(af:kI H lc lp.aj)(an:nY H cc lp.rows):
 Call X pm F.wW [.agg #[lc,cc]] H λr H'=>K pm H H'/\∃aA,r=.pointer (some ⟨aA 0,0,none⟩)/\dH lp.aX H.next H' aA lc cc lp.fA:=by
 refine Call.h6 al.wW rfl λQ bU=>?_;have j2:=au.c;have mM:=au.r;obtain⟨base,cap,rfl,_⟩:=af.at;obtain⟨dG,dE,rfl,_⟩:=an.at;obtain⟨b0,fE⟩:=bZa (H.next);obtain⟨H1,cw⟩:=bZa (H.new (.cells [.slice base lp.aj.length cap,.slice dG lp.rows.length dE] (.t tyB)));have av:=bZi g cw;have g1:=av.aL;have h4:=bZp cw fE;have n1:=bV cw fE;obtain⟨a,aN⟩:=bZa (H1.next);obtain⟨aJ,ee⟩:=bZa (H1.new (.cells [.slice base lp.aj.length cap,.slice dG lp.rows.length dE,.slice none 0 0,.slice none 0 0,.slice none 0 0,.slice none 0 0] (.t tyT)));have aI:=bZi g1 ee;have eA:=bZp ee aN;have rG:=aI.some g1 h4;have hb:=af.ext (av.ext g);have kb:=an.ext (av.ext g);have ey:pm.lo<=a:=by rw[aN];exact g1.lo
 have ut:∀{H':ah},K pm H1 H'->kI H' (.slice base lp.aj.length cap) lp.aj/\nY H' (.slice dG lp.rows.length dE) lp.rows/\H'.get b0=some (.cells [.slice base lp.aj.length cap,.slice dG lp.rows.length dE] (.t tyB)):=λk=>⟨hb.ext (k.ext g1),kb.ext (k.ext g1),k.some g1 h4⟩;simp[g.pick,g.make,ptr,<-fE,<-cw,h4,c5,cX,setCells,  <-aN,<-ee,rG,-T3,-T4];have t0:jL lp.aX a aJ (λ_=>a) (.slice base lp.aj.length cap) (.slice dG lp.rows.length dE) 0 0 0 lp.fA:=by
  refine⟨eA,λh=>absurd h (Nat.lt_irrefl 0),λh=>absurd h (Nat.lt_irrefl 0),λh=>absurd h (Nat.lt_irrefl 0),λh=>absurd h (Nat.lt_irrefl 0),λi ad=>absurd ad (od _),λi j ad aH _=>?_,λ_ _=>bR _⟩;unfold Real at ad aH;omega
 refine gG (σ:=Unit) lp.aj.length (λ_ _=>[(1,.pointer (some ⟨b0,0,none⟩)),(3,.pointer (some ⟨a,0,none⟩)),(18,.slice base lp.aj.length cap)])
  (λk _ H'=>K pm H1 H'/\∃aA,aA 0=a/\jL lp.aX a H' aA (.slice base lp.aj.length cap) (.slice dG lp.rows.length dE) k 0 k lp.fA) () (by decide) (by omega) (by simp) ⟨aI,_,rfl,t0⟩ (by simp) ?_ ?_
 ·rintro k _ bN ag ⟨aQ,aA,eP,t3⟩;obtain⟨n8,z2,z3⟩:=ut aQ;refine aDE al aQ.aL ey (by rw[aN];exact aQ.next) au hm ag t3 (b0:=b0) n8 (by simp) (by simp[eP]) (by simp) (by simp) (by simp) λl' H' eC u b' ra ku=>?_;rw[eP]at ku;simp;refine⟨by simpa using ku,bp.trans aQ (u.mono (by omega)),eC,b'.trans eP,ra⟩
 ·rintro _ bN ⟨aQ,aA,eP,t3⟩;obtain⟨n8,z2,z3⟩:=ut aQ;simp[z3,-T5]
  refine gG (σ:=Unit) lp.rows.length (λ_ _=>[(1,.pointer (some ⟨b0,0,none⟩)),(3,.pointer (some ⟨a,0,none⟩)),(57,.slice dG lp.rows.length dE)])
   (λi _ H'=>K pm H1 H'/\∃aA,aA 0=a/\jL lp.aX a H' aA (.slice base lp.aj.length cap) (.slice dG lp.rows.length dE) (lp.aj.length+i) i lp.aj.length lp.fA) () (by decide) (by omega) (by simp) ⟨aQ,aA,eP,t3⟩ (by simp) ?_ ?_
  ·rintro i _ cp ad ⟨bt,aA,eP,t4⟩;obtain⟨n8,z2,z3⟩:=ut bt;refine aEj al bt.aL ey (by rw[aN];exact bt.next) au hm ad t4 z2 z3 (by omega) (by simp) (by simp[eP]) (by simp) (by simp) (by simp) λl' H' eC u b' ra ku=>?_;rw[eP]at ku;simp;refine⟨by simpa using ku,bp.trans bt (u.mono (by omega)),eC,b'.trans eP,ra⟩
  ·rintro _ cp ⟨bt,aA,eP,t4⟩;simp;obtain⟨eC,U,aa⟩:=jL.full (P:=lp.aX) t4 bt.aL (by rw[aN];exact bt.next);refine bU _ _ _ ?_;simp;exact⟨av.trans bt,eC,(U.trans eP).symm,aa.mono (by omega)⟩
end
abbrev tyA:Nat:=T.aEo
abbrev tySB:Nat:=T.aEp
structure iz where
 st:Int
 val:List UInt8
 x:List (List UInt8)
 d:List (List UInt8)
 r:List (List UInt8)
def ur(H:ah)(v:Value)(a:iz):Prop:=∃mC oM vr,v=.agg #[.int .i64 a.st,aW a.val,mC,oM,vr]/\kh H mC a.x/\kh H oM a.d/\kh H vr a.r
theorem ur.ext{v:Value}{a:iz}(h:ur H v a)(e:Ext H H'):ur H' v a:=by
 obtain⟨mC,oM,vr,rfl,U,aa,aq⟩:=h;exact⟨mC,oM,vr,rfl,U.ext e,aa.ext e,aq.ext e⟩
theorem kh.nil:kh H (.slice none 0 0) []:=⟨none,0,rfl,λ_cXb ad=>absurd ad (od _)⟩
def bZM(H:ah)(ba:Nat)(v:Value)(l:List (List UInt8)):Prop:=kh H v l/\∀b off m cap,v=.slice (some ⟨b,off,none⟩) m cap->ba<=b/\∃y,H.get b=some y
theorem bZM.nil{ba:Nat}:bZM H ba (.slice none 0 0) []:=⟨.nil,λ_ _ _ _ h=>(by cases h)⟩
theorem bZM.ext{ba:Nat}{v:Value}{l:List (List UInt8)}(h:bZM H ba v l)(e:Ext H H'):bZM H' ba v l:=⟨h.1.ext e,λb o m c q=>⟨(h.2 b o m c q).1,(h.2 b o m c q).2.imp λ_ bu=>e _ _ bu⟩⟩
theorem bZM.mono{ba n1:Nat}{v:Value}{l:List (List UInt8)}(h:bZM H ba v l)(e:n1<=ba):bZM H n1 v l:=⟨h.1,λb o m c q=>⟨bH e (h.2 b o m c q).1,(h.2 b o m c q).2⟩⟩
theorem bZM.put{ba c:Nat}{v:Value}{l:List (List UInt8)}(h:bZM H ba v l)(af:c<ba)(x:cj):bZM (H.put c x) ba v l:=by
 refine⟨?_,λb o m fH q=>⟨(h.2 b o m fH q).1,(h.2 b o m fH q).2.imp λy bu=>by rw[cq (by have:=(h.2 b o m fH q).1;omega)];exact bu⟩⟩;obtain⟨base,cap,rfl,aa⟩:=h.1.ex;refine⟨base,cap,rfl,λi ad=>?_⟩;obtain⟨b,off,y,row,u,rfl,e2,bd⟩:=aa i ad;have:=(h.2 b off _ _ rfl).1;exact⟨b,off,y,row,u,rfl,by rw[cq (by omega)];exact e2,bd⟩
theorem gv.lJ{c k ba:Nat}{f:Nat->List UInt8}(h:gv H c k f)(af:ba<=c):bZM H ba (.slice (some ⟨c,0,none⟩) k k) ((List.range k).map f):=
 ⟨h.strs,λb o m fH e=>by
  cases e;obtain⟨ss,U,_⟩:=h;exact⟨af,_,U⟩⟩
def bZH(H:ah)(ba:Nat)(v:Value)(a:iz):Prop:=∃mC oM vr,v=.agg #[.int .i64 a.st,aW a.val,mC,oM,vr]/\bZM H ba mC a.x/\bZM H ba oM a.d/\bZM H ba vr a.r
theorem bZH.YG{ba:Nat}{v:Value}{a:iz}(h:bZH H ba v a):ur H v a:=by
 obtain⟨mC,oM,vr,rfl,U,aa,aq⟩:=h;exact⟨mC,oM,vr,rfl,U.1,aa.1,aq.1⟩
theorem bZH.ext{ba:Nat}{v:Value}{a:iz}(h:bZH H ba v a)(e:Ext H H'):bZH H' ba v a:=by
 obtain⟨mC,oM,vr,rfl,U,aa,aq⟩:=h;exact⟨mC,oM,vr,rfl,U.ext e,aa.ext e,aq.ext e⟩
theorem bZH.mono{ba n1:Nat}{v:Value}{a:iz}(h:bZH H ba v a)(e:n1<=ba):bZH H n1 v a:=by
 obtain⟨mC,oM,vr,rfl,U,aa,aq⟩:=h;exact⟨mC,oM,vr,rfl,U.mono e,aa.mono e,aq.mono e⟩
theorem bZH.put{ba c:Nat}{v:Value}{a:iz}(h:bZH H ba v a)(af:c<ba)(x:cj):bZH (H.put c x) ba v a:=by
 obtain⟨mC,oM,vr,rfl,U,aa,aq⟩:=h;exact⟨mC,oM,vr,rfl,U.put af x,aa.put af x,aq.put af x⟩
def nv(lp:bD)(T:b8):List (List UInt8):=(List.range lp.aX.n).map λj=>dB (T.v j)
def Q7(lp:bD)(T:b8):List (List UInt8):=(List.range lp.aX.m).map (rS lp.aX T (red lp.aX lp.cs T) lp.aX.n)
def Gb(lp:bD)(xs:List (List UInt8)):List UInt8:=match kN lp xs with
 | some v=>dB v
 | none=>[]
inductive CZ(lp:bD)(pS o4:b8->Prop):iz->Prop
 | inf (T:b8) (a:Nat):pS T->uC lp.aX T=some a->sP lp.aX T a (off lp.aX T.v (T.rows a))=none->CZ lp pS o4 ⟨2,[],[],(List.range lp.aX.m).map (qQ lp.aX T a),[]⟩
 | Q1 (T:b8) (col:Nat):o4 T->enters lp.aX lp.cs T=some col->(fv lp.aX T col (gl lp.aX lp.cs T col) lp.aX.m).gH=none->CZ lp pS o4 ⟨3,[],nv lp T,[],(List.range lp.aX.n).map (oX T col (gl lp.aX lp.cs T col) lp.aX.m)⟩
 | opt (T:b8):o4 T->enters lp.aX lp.cs T=none->CZ lp pS o4 ⟨1,Gb lp (nv lp T),nv lp T,Q7 lp T,[]⟩
structure Kh(lp:bD)(pS o4:b8->Prop)(t:Nat):Prop where
 t1:1<=t
 Ki:t<=20000
 s1:pS lp.fA
 g1:∀T,pS T->Inv lp.aX T/\l4 lp.aX T t/\Ends (rO lp.aX) T
 n1:∀T dY,pS T->rO lp.aX T=some dY->pS dY
 s2:∀T,pS T->uC lp.aX T=none->o4 T
 g2:∀T,o4 T->Inv lp.aX T/\l4 lp.aX T t/\Ends (pE lp.aX lp.cs) T
 fU:∀T dY,o4 T->pE lp.aX lp.cs T=some dY->o4 dY
 eH:∀T,o4 T->qy (nv lp T)
theorem bVt(al:hj X)(g:cl pm H){lp:bD}(au:lp.ok){v:Value}(aw:ps H v lp){pS o4:b8->Prop}{t:Nat}(dD:lp.dP=true->Kh lp pS o4 t):
 Call X pm F.w6 [v] H λr H'=>K pm H H'/\(lp.dP=false/\r=.tuple #[.agg #[.int .i64 0,aW [],.slice none 0 0,.slice none 0 0,.slice none 0 0],.bool false]∨lp.dP=true/\∃a u,r=.tuple #[u,.bool true]/\bZH H' H.next u a/\CZ lp pS o4 a):=by
 refine Call.h6 al.w6 rfl λQ bU=>?_;have iy:=aw;obtain⟨v1,v2,rfl,af,an⟩:=aw;obtain⟨base,cap,rfl,_⟩:=af.at;obtain⟨dG,dE,rfl,_⟩:=an.at;obtain⟨b0,fE⟩:=bZa (H.next);obtain⟨H1,cw⟩:=bZa (H.new (.cells [.slice base lp.aj.length cap,.slice dG lp.rows.length dE] (.t tySB)));have av:=bZi g cw;have g1:=av.aL;have h4:=bZp cw fE;obtain⟨kl,wq⟩:=bZa (H1.next);obtain⟨aJ,ee⟩:=bZa (H1.new (.cells [.int .i64 0,.string ⟨#[]⟩,.slice none 0 0,.slice none 0 0,.slice none 0 0] (.t tyA)));have aI:=bZi g1 ee;have g2:=aI.aL;have eA:=bZp ee wq;have rG:=aI.some g1 h4;have h8:=av.trans aI;have j6:=av.next;have x9:pm.may kl=true:=g.may (by omega);simp[g.pick,g.make,ptr,<-fE,<-cw,  <-wq,<-ee,rG,cX,c5,-T6,-T7,-T8];refine aR.bZb (vs:=[.agg #[.slice base lp.aj.length cap,.slice dG lp.rows.length dE]]) (Fi al.tohC g2 (iy.ext (h8.ext g)) au) ?_;rintro _ bN ⟨aQ,rfl⟩;have g3:=aQ.aL;have jH:=h8.trans aQ;have LV:=aQ.some g2 eA;have C9:=aQ.some g2 rG
 cases hm:lp.dP with
 | false=>
   simp[LV,x9,setCells];refine bU _ _ _ ?_;simp[ik,c5,cX,hm];have:=bp.put (n:=H.next) (.refl g3) (show H.next<=kl by omega) LV (by simp) (.cells [.int .i64 0,.string ⟨#[]⟩,.slice none 0 0,.slice none 0 0,.slice none 0 0] (.t tyA));exact bp.trans jH this
 | true=>
   have R:=dD hm;simp[C9,cX,c5,-T9,-T'];refine aR.bZb (vs:=[.agg #[.slice base lp.aj.length cap,.slice dG lp.rows.length dE]]) (aEn al g3 au hm (af.ext (jH.ext g)) (an.ext (jH.ext g))) ?_;rintro _ cp ⟨bt,aA,rfl,t4⟩;have jY:=jH.trans bt;have g4:=bt.aL;have op:=lp.aDu;have dU:=op.ok au;have st:∀{H':ah},bp pm bN.next cp H'->K pm H H'/\kI H' (.slice base lp.aj.length cap) lp.aj/\nY H' (.slice dG lp.rows.length dE) lp.rows/\H'.get kl=some (.cells [.int .i64 0,.string ⟨#[]⟩,.slice none 0 0,.slice none 0 0,.slice none 0 0] (.t tyA))/\H'.get b0=some (.cells [.slice base lp.aj.length cap,.slice dG lp.rows.length dE] (.t tySB)):=λu=>by
    have Ua:K pm bN _:=bp.trans bt u;have Ub:=K.trans jH Ua;exact⟨Ub,af.ext (Ub.ext g),an.ext (Ub.ext g),Ua.some g3 LV,Ua.some g3 C9⟩
   simp[-Uc,-Ud,-Ue];refine aR.bZb (vs:=[.pointer (some ⟨aA 0,0,none⟩)]) (aDe al g4 g3.lo bt.next dU pS R.t1 R.Ki R.g1 R.n1 t4 R.s1) ?_;rintro _ cV ⟨Uf,hl,t5,Ug,cg⟩;have g5:=hl.aL;obtain⟨sH,Hc,vN,aEq,aHw⟩:=st hl;obtain⟨aEr,aEs,_⟩:=R.g1 Uf Ug;have rt:=R.Ki;have put:∀{H':ah} (cs:List Value),K pm H H'->H'.get kl=some (.cells [.int .i64 0,.string ⟨#[]⟩,.slice none 0 0,.slice none 0 0,.slice none 0 0] (.t tyA))->K pm H (H'.put kl (.cells cs (.t tyA)))/\bp pm H.next H' (H'.put kl (.cells cs (.t tyA))):=λcs k e=>by
    have u:=bp.put (n:=H.next) (.refl k.aL) (show H.next<=kl by omega) e (by simp) (.cells cs (.t tyA));exact⟨bp.trans k u,u⟩
   have eP:∀c,cp.next<=c->kl≠c:=λc af=>by
    have:=g3.lt LV;have:=bt.next;omega
   rcases cg with⟨hw,rfl⟩ | ⟨a,hw,c9,rfl⟩
   ·simp[-Uh,-Ui,-Uj];refine aR.bZb (vs:=[.pointer (some ⟨aA 0,0,none⟩)]) (aDk al g5 g3.lo (bH bt.next hl.next) au hm op Hc (λH' u=>(st (hl.trans u)).2.1) o4 R.t1 R.Ki R.g2 R.fU t5 (R.s2 Uf Ug hw)) ?_;rintro _ ep ⟨o5,kk,t6,LW,dj⟩;have Uk:=hl.trans kk;have g6:=Uk.aL;obtain⟨G8,Hd,NS,DS,aEt⟩:=st Uk;obtain⟨Ul,He,_⟩:=R.g2 o5 LW;have Q6:=Uk.next
    rcases dj with⟨he,rfl⟩ | ⟨col,he,iE,rfl⟩
    ·simp[-Um,-Un];refine aR.bZb (vs:=[.pointer (some ⟨aA 0,0,none⟩)]) (acE al g6 au op t6 Hd rt He) ?_;rintro _ hM ⟨dJ,c,rfl,aEu,LX⟩;have wv:=G8.trans dJ;have aEv:=dJ.some g6 aEt;have aHx:=dJ.some g6 DS;have g7:=dJ.aL;simp[aEv,cX,c5,-Uo,-Up];refine aR.bZb (vs:=[.agg #[.slice base lp.aj.length cap,.slice dG lp.rows.length dE],.slice (some ⟨c,0,none⟩) lp.aX.n lp.aX.n]) (Yg al.tohC g7 (iy.ext (wv.ext g)) au LX.strs (R.eH o5 LW)) ?_;rintro _ ns ⟨jZ,rfl⟩;have A3:=dJ.trans jZ;have g8:=jZ.aL;have Gu:oK (kN lp (nv lp o5))=.tuple #[aW (Gb lp (nv lp o5)),.bool (kN lp (nv lp o5)).isSome]:=by
      unfold Gb;cases kN lp (nv lp o5)<;>rfl
     rw[show(List.map (λj=>dB (o5.v j)) (List.range lp.aX.n))=nv lp o5 from rfl,Gu];simp[-Uq];refine aR.bZb (vs:=[.pointer (some ⟨aA 0,0,none⟩)]) (acv al g8 au hm op (t6.k g6 A3) (Hd.ext (A3.ext g6)) Ul.bj (t:=t) (by omega) He) ?_;rintro d yf ⟨ux,aB⟩;have Hf:=A3.trans ux;have g9:=ux.aL;have G1:∀k,k<lp.aX.n->sz (red lp.aX lp.cs o5 k) 10000000:=λk ag=>ff (Lp au op He ag (bR _)) (by
      have mM:=dU.m;have:lp.aX.m*(10001+t)<=40*30001:=ie mM (by omega);omega)
     simp[-Ur];refine aR.bZb (vs:=[.pointer (some ⟨aA 0,0,none⟩),d]) (acF al g9 au op (t6.k g6 Hf) (Hd.ext (Hf.ext g6)) (NS.ext (Hf.ext g6)) Ul.bj aB (td:=10000000) (by omega) G1) ?_;rintro _ aHy ⟨ac1,e,rfl,aEw,aEx⟩;have ac2:=Hf.trans ac1;have ac3:=ac2.some g6 DS;have aHz:=A3.next;have aHA:=Hf.next;obtain⟨bJ,bG⟩:=put [.int .i64 1,aW (Gb lp (nv lp o5)),.slice (some ⟨c,0,none⟩) lp.aX.n lp.aX.n,.slice (some ⟨e,0,none⟩) lp.aX.m lp.aX.m,.slice none 0 0] (G8.trans ac2) ac3;simp[ac3,x9,setCells,c5];refine bU _ _ _ ?_;simp[ik,cX,c5,hm];refine⟨bJ,_,?_,.opt o5 LW he⟩;have LM:=jY.next;exact⟨_,_,_,rfl,((LX.k g7 (jZ.trans (ux.trans ac1))).h7 (eP c (by omega)) _).lJ (by omega),(aEx.h7 (eP e (by omega)) _).lJ (by omega),.nil⟩
    ·have d':=GL he;simp[-Us];refine aR.bZb (vs:=[.pointer (some ⟨aA 0,0,none⟩)]) (acE al g6 au op t6 Hd rt He) ?_;rintro _ hM ⟨dJ,c,rfl,aEu,LX⟩;have g7:=dJ.aL;obtain⟨d',gy,_⟩:=zWd he;simp only[cG,eh]at gy;have eo:gl lp.aX lp.cs o5 col=1∨gl lp.aX lp.cs o5 col=-1:=by
      unfold gl
      rcases lq gy.1 with⟨_,e⟩ | ⟨_,e⟩<;>rw[e]<;>simp
     simp[-Ut];refine aR.bZb (vs:=[.pointer (some ⟨aA 0,0,none⟩),.int .i64 (col:Int),.int .i64 (gl lp.aX lp.cs o5 col)]) (aDs al g7 au op (t6.k g6 dJ) (Hd.ext (dJ.ext g6)) Ul.bj rt He d' eo) ?_;rintro _ ns ⟨jZ,e,rfl,aEw,Ty⟩;have A3:=dJ.trans jZ;have ac4:=A3.some g6 DS;have aHB:=dJ.next;obtain⟨bJ,bG⟩:=put [.int .i64 3,.string ⟨#[]⟩,.slice (some ⟨c,0,none⟩) lp.aX.n lp.aX.n,.slice none 0 0,.slice (some ⟨e,0,none⟩) lp.aX.n lp.aX.n] (G8.trans A3) ac4;simp[ac4,x9,setCells,c5];refine bU _ _ _ ?_;simp[ik,cX,c5,hm];refine⟨bJ,_,?_,.Q1 o5 col LW he iE⟩;have LM:=jY.next;exact⟨_,_,_,rfl,((LX.k g7 jZ).h7 (eP c (by omega)) _).lJ (by omega),.nil,(Ty.h7 (eP e (by omega)) _).lJ (by omega)⟩
   ·obtain⟨aN,_⟩:=zWd hw;simp[-Uu];refine aR.bZb (vs:=[.pointer (some ⟨aA 0,0,none⟩),.int .i64 (a:Int)]) (aDp al g5 au op t5 Hc vN aEr.bj rt aEs aN) ?_;rintro _ ep ⟨cv,c,rfl,aHC,Tt⟩;have DS:=cv.some g5 aEq;have aye:=hl.next;obtain⟨bJ,bG⟩:=put [.int .i64 2,.string ⟨#[]⟩,.slice none 0 0,.slice (some ⟨c,0,none⟩) lp.aX.m lp.aX.m,.slice none 0 0] (sH.trans cv) DS;simp[DS,x9,setCells,c5];refine bU _ _ _ ?_;simp[ik,cX,c5,hm];refine⟨bJ,_,?_,.inf Uf a Ug hw c9⟩;have LM:=jY.next;exact⟨_,_,_,rfl,.nil,(Tt.h7 (eP c (by omega)) _).lJ (by omega),.nil⟩
def jj:Option Rat->List UInt8
 | some q=>dB q
 | none=>[]
def kQ(lp:bD)(a:iz):Bool:=
 if a.st=1 then(kN lp a.x).isSome&&((gR lp a.d true).isSome&&(decide (jj (kN lp a.x)=a.val)&&(decide (jj (gR lp a.d true)=a.val)&&(lg lp a.x&&decide (a.r.length=0)))))
 else if a.st=2 then(gR lp a.d false).isSome&&(decide (0<rd (jj (gR lp a.d false)))&&(decide (a.val=[])&&decide (a.x.length+a.r.length=0)))
 else if a.st=3 then lg lp a.x&&(pw lp a.r&&(decide (a.val=[])&&decide (a.d.length=0)))
 else false
structure iz.ok(a:iz):Prop where
 x:qy a.x
 d:qy a.d
 r:qy a.r
theorem aCm(l:List UInt8):sz (rd l) 2000:=by
 unfold rd
 cases e:jD l with
 | none=>exact uh (by decide)
 | some q=>
   unfold jD qu at e;split at e
   ·rename_i af;obtain⟨g1,g2,g3,g4⟩:=af;simp only[a6]at e;obtain⟨cx,cR,cy⟩:=Ca g1;obtain⟨a2,b9,dd⟩:=Ca g2;have ao:=oF cx cR;have e2:=oF a2 b9;rw[<-e];simp only[bZy];exact⟨by rw[IU g3];exact eD (oe _ _) ao,by rw[IT g3];exact eD (oe _ _) e2⟩
   ·cases e
theorem abY{α:Type}(l:List α):((l.length:Int)==0)=decide (l.length=0):=by
 cases l with
 | nil=>rfl
 | cons a l=>simp;omega
theorem R4(o:Option Rat):oK o=.tuple #[aW (jj o),.bool o.isSome]:=by cases o<;>rfl
abbrev tyCB:Nat:=T.aCn
abbrev tyCA:Nat:=T.aCo
theorem PH(al:hj X)(g:cl pm H){lp:bD}(au:lp.ok){v w:Value}(aw:ps H v lp){a:iz}(hw:ur H w a)(aG:a.ok)(ai:a.st=2->(jj (gR lp a.d false)).length<1000000):Call X pm F.s7 [v,w] H λr H'=>K pm H H'/\r=.bool (kQ lp a):=by
 refine Call.h6 al.s7 rfl λQ bU=>?_;have iy:=aw;obtain⟨v1,v2,rfl,af,an⟩:=aw;obtain⟨base,cap,rfl,_⟩:=af.at;obtain⟨dG,dE,rfl,_⟩:=an.at;obtain⟨mC,oM,vr,rfl,az,aB,nk⟩:=hw;obtain⟨bx,sK,Pc,_⟩:=az.ex;obtain⟨cP,uu,Pd,_⟩:=aB.ex;obtain⟨ev,wo,Fv,_⟩:=nk.ex;subst Pc Pd Fv;obtain⟨b0,fE⟩:=bZa (H.next);obtain⟨H1,cw⟩:=bZa (H.new (.cells [.slice base lp.aj.length cap,.slice dG lp.rows.length dE] (.t tyCB)));have av:=bZi g cw;have g1:=av.aL;have h4:=bZp cw fE;obtain⟨kl,wq⟩:=bZa (H1.next);obtain⟨aJ,ee⟩:=bZa (H1.new (.cells [.int .i64 a.st,aW a.val,.slice bx a.x.length sK,.slice cP a.d.length uu,.slice ev a.r.length wo] (.t tyCA)));have aI:=bZi g1 ee;have g2:=aI.aL;have eA:=bZp ee wq;have rG:=aI.some g1 h4;have h8:=av.trans aI;have wT:∀{H':ah},K pm aJ H'->H'.get b0=some (.cells [.slice base lp.aj.length cap,.slice dG lp.rows.length dE] (.t tyCB))/\H'.get kl=some (.cells [.int .i64 a.st,aW a.val,.slice bx a.x.length sK,.slice cP a.d.length uu,.slice ev a.r.length wo] (.t tyCA))/\ps H' (.agg #[.slice base lp.aj.length cap,.slice dG lp.rows.length dE]) lp/\kh H' (.slice bx a.x.length sK) a.x/\kh H' (.slice cP a.d.length uu) a.d/\kh H' (.slice ev a.r.length wo) a.r:=λk=>
  ⟨k.some g2 rG,k.some g2 eA,iy.ext ((h8.trans k).ext g),az.ext ((h8.trans k).ext g),aB.ext ((h8.trans k).ext g),nk.ext ((h8.trans k).ext g)⟩
 simp[g.pick,g.make,ptr,<-fE,<-cw,  <-wq,<-ee,eA,-R5,-R6];by_cases s1:a.st=1
 ·have ao:(a.st==1)=true:=by simpa using s1
  simp[ao,eA,rG,cX,c5,-R7,-R8];obtain⟨n8,z2,z3,z4,z5,wU⟩:=wT (K.refl g2);refine aR.bZb (vs:=[.agg #[.slice base lp.aj.length cap,.slice dG lp.rows.length dE],.slice bx a.x.length sK]) (Yg al.tohC g2 z3 au z4 aG.x) ?_;rintro _ bN ⟨aQ,rfl⟩;obtain⟨n8,z2,z3,z4,z5,wU⟩:=wT aQ;rw[R4];simp[n8,z2,cX,c5,-R9,-R'];refine aR.bZb (vs:=[.agg #[.slice base lp.aj.length cap,.slice dG lp.rows.length dE],.slice cP a.d.length uu,.bool true]) (YC al.tohC aQ.aL z3 au z5 aG.d) ?_;rintro _ cp ⟨bt,rfl⟩;have vZ:=aQ.trans bt;obtain⟨n8,z2,z3,z4,z5,wU⟩:=wT vZ;have jY:=h8.trans vZ;rw[R4];have fin:∀l' H',K pm H H'->a7 4 l'=some (.bool (kQ lp a))->Q .ret l' H':=λl' H' k hP=>bU _ _ _ (by simp[hP];exact k);have af:kQ lp a=((kN lp a.x).isSome&&((gR lp a.d true).isSome&&(decide (jj (kN lp a.x)=a.val)&&(decide (jj (gR lp a.d true)=a.val)&&(lg lp a.x&&decide (a.r.length=0)))))):=by rw[kQ,bm s1]
  cases cR:(kN lp a.x).isSome with
  | false=>
    simp[zWb,-Az];refine aR.not (by simp) ?_;simp[zWb];exact fin _ _ jY (by simp[af,cR])
  | true=>
    cases b9:(gR lp a.d true).isSome with
    | false=>
      simp[zWb,-Az];refine aR.not (by simp) ?_;simp[zWb];exact fin _ _ jY (by simp[af,cR,b9])
    | true=>
      by_cases fK:jj (kN lp a.x)=a.val
      ·by_cases rQ:jj (gR lp a.d true)=a.val
       ·have dy:(jj (kN lp a.x)==a.val)=true:=by simpa using fK
        have iZ:(jj (gR lp a.d true)==a.val)=true:=by simpa using rQ
        simp[n8,z2,cX,c5,dy,iZ,gi,-Az];refine aR.bZb (vs:=[.agg #[.slice base lp.aj.length cap,.slice dG lp.rows.length dE],.slice bx a.x.length sK]) (Ym al.tohC bt.aL z3 au z4 aG.x) ?_;rintro _ cV ⟨cd,rfl⟩;obtain⟨n8,z2,z3,z4,z5,wU⟩:=wT (vZ.trans cd)
        cases uX:lg lp a.x with
        | false=>
          simp[zWb];exact fin _ _ (jY.trans cd) (by simp[af,uX])
        | true=>
          simp[z2];exact fin _ _ (jY.trans cd) (by rw[abY];simp[af,cR,b9,fK,rQ,uX])
       ·have dy:(jj (kN lp a.x)==a.val)=true:=by simpa using fK
        have iZ:(jj (gR lp a.d true)==a.val)=false:=by simpa using rQ
        simp[zWb,z2,dy,iZ,gi,-Az];refine aR.not (by simp) ?_;simp[zWb];exact fin _ _ jY (by simp[af,rQ])
      ·have dy:(jj (kN lp a.x)==a.val)=false:=by simpa using fK
       simp[zWb,z2,dy,gi,-Az];refine aR.not (by simp) ?_;simp[zWb];exact fin _ _ jY (by simp[af,fK])
 have ao:(a.st==1)=false:=by simpa using s1
 by_cases s2:a.st=2
 ·have e2:(a.st==2)=true:=by simpa using s2
  simp[ao,e2,eA,rG,cX,c5,-Sa,-Sb];obtain⟨n8,z2,z3,z4,z5,wU⟩:=wT (K.refl g2);refine aR.bZb (vs:=[.agg #[.slice base lp.aj.length cap,.slice dG lp.rows.length dE],.slice cP a.d.length uu,.bool false]) (YC al.tohC g2 z3 au z5 aG.d) ?_;rintro _ bN ⟨aQ,rfl⟩;rw[R4];have hlen:=ai s2;have fin:∀l' H',K pm H H'->a7 4 l'=some (.bool (kQ lp a))->Q .ret l' H':=λl' H' k hP=>bU _ _ _ (by simp[hP];exact k);have af:kQ lp a=((gR lp a.d false).isSome&&(decide (0<rd (jj (gR lp a.d false)))&&(decide (a.val=[])&&decide (a.x.length+a.r.length=0)))):=by rw[kQ,aU s1,bm s2]
  simp[-Sc,-Sd];refine aR.bZb (vs:=[aW (jj (gR lp a.d false))]) (B' al.toOb aQ.aL hlen) ?_;rintro r cp ⟨bt,a8⟩;have vZ:=aQ.trans bt;obtain⟨n8,z2,z3,z4,z5,wU⟩:=wT vZ;have jY:=h8.trans vZ;obtain⟨u,b,rfl,hu⟩:∃u b,r=.tuple #[u,.bool b]/\qD cp u=some (rd (jj (gR lp a.d false))):=by
   rcases a8 with⟨e,rfl⟩ | ⟨q,p,e,rfl,aV⟩
   ·exact⟨_,_,rfl,by simp[qD,rd,e]⟩
   ·exact⟨_,_,rfl,by rw[aV.of];simp[rd,e]⟩
  cases cR:(gR lp a.d false).isSome with
  | false=>
    simp[zWb,-La];refine aR.not (by simp) ?_;simp[zWb];exact fin _ _ jY (by simp[af,cR])
  | true=>
    simp[-La];refine aR.bZb (vs:=[u]) (jF al.toOb bt.aL hu ((aCm _).ca (by decide))) ?_;rintro _ cp ⟨rfl,rfl⟩;by_cases b9:0<rd (jj (gR lp a.d false))
    ·by_cases fK:a.val=[]
     ·have dy:(a.val==[])=true:=by simpa using fK
      have mg:wr .i64 ((a.x.length:Int)+(a.r.length:Int))=(a.x.length:Int)+(a.r.length:Int):=zWc (by have:=aG.x.len;have:=aG.r.len;omega) (by have:=aG.x.len;have:=aG.r.len;omega);simp[wa,b9,z2,fK,gi,mg];refine fin _ _ jY ?_;have bl:(((a.x.length:Int)+(a.r.length:Int))==0)=decide (a.x.length+a.r.length=0):=by
       by_cases e:a.x.length+a.r.length=0
       ·have:(a.x.length:Int)+(a.r.length:Int)=0:=by omega
        simp[this,e]
       ·have:¬(a.x.length:Int)+(a.r.length:Int)=0:=by omega
        simp only[e,decide_false];simpa using this
      rw[af];simp only[cR,b9,fK,bl,decide_true,Bool.true_and];simp
     ·have dy:(a.val==[])=false:=by simpa using fK
      have iZ:a.val.isEmpty=false:=by simpa using fK
      simp[zWb,wa,b9,z2,dy, gi];exact fin _ _ jY (by simp[af,fK])
    ·simp[zWb,wa,b9];exact fin _ _ jY (by simp[af,b9])
 have e2:(a.st==2)=false:=by simpa using s2
 by_cases de:a.st=3
 ·have bd:(a.st==3)=true:=by simpa using de
  simp[ao,e2,bd,eA,rG,cX,c5,-Se];obtain⟨n8,z2,z3,z4,z5,wU⟩:=wT (K.refl g2);refine aR.bZb (vs:=[.agg #[.slice base lp.aj.length cap,.slice dG lp.rows.length dE],.slice bx a.x.length sK]) (Ym al.tohC g2 z3 au z4 aG.x) ?_;rintro _ bN ⟨aQ,rfl⟩;obtain⟨n8,z2,z3,z4,z5,wU⟩:=wT aQ;have jH:=h8.trans aQ;have fin:∀l' H',K pm H H'->a7 4 l'=some (.bool (kQ lp a))->Q .ret l' H':=λl' H' k hP=>bU _ _ _ (by simp[hP];exact k);have af:kQ lp a=(lg lp a.x&&(pw lp a.r&&(decide (a.val=[])&&decide (a.d.length=0)))):=by rw[kQ,aU s1,aU s2,bm de]
  cases cR:lg lp a.x with
  | false=>
    simp[zWb,-Lb];refine aR.not (by simp) ?_;simp[zWb];exact fin _ _ jH (by simp[af,cR])
  | true=>
    simp[n8,z2,cX,c5,-Lb];refine aR.bZb (vs:=[.agg #[.slice base lp.aj.length cap,.slice dG lp.rows.length dE],.slice ev a.r.length wo]) (axz al.tohC aQ.aL z3 au wU aG.r) ?_;rintro _ cp ⟨bt,rfl⟩;obtain⟨n8,z2,z3,z4,z5,wU⟩:=wT (aQ.trans bt);have jY:=jH.trans bt
    cases b9:pw lp a.r with
    | false=>
      simp[zWb];exact fin _ _ jY (by simp[af,b9])
    | true=>
      by_cases fK:a.val=[]
      ·simp[z2,fK,gi];refine fin _ _ jY ?_;rw[abY];simp[af,cR,b9,fK]
      ·have dy:(a.val==[])=false:=by simpa using fK
       have iZ:a.val.isEmpty=false:=by simpa using fK
       simp[zWb,z2,dy, gi];exact fin _ _ jY (by simp[af,fK])
 ·have bd:(a.st==3)=false:=by simpa using de
  simp[ao,e2,bd];refine bU _ _ _ ?_;simp[kQ,s1,s2,de];exact h8
end Go.Dam.C
namespace Go.Dam.C
section
variable{P:cr}{c:Nat->Rat}{T:b8}
def mG(P:cr)(v:Nat->Rat)(x:Nat):Prop:=v x=0∨P.lo x=some (v x)∨P.up x=some (v x)
structure j0(P:cr)(s:Nat->Nat)(T:b8):Prop where
 inv:Inv P T
 Ae:h9 P s T≠0
 at':∀k,k<P.n->mG P T.v (T.aj k)
theorem azy{a col:Nat}(h:Inv P T)(g:wA P T a col)(aN:∀k,k<P.n->mG P T.v (T.aj k)):∀k,k<P.n->mG P (l2 P T a col).v ((l2 P T a col).aj k):=by
 intro k ag;show mG P (l2 P T a col).v (if k=col then T.rows a else T.aj k);by_cases e:k=col
 ·rw[bm e];unfold mG;rw[Qr h g];unfold goal
  rcases yj g.off with⟨ao,l,aO,_⟩ | ⟨ao,u,hu,_⟩
  ·rw[ao,aU (by decide),aO];exact .inr (.inl rfl)
  ·rw[ao,bm (by decide),hu];exact .inr (.inr rfl)
 ·rw[aU e];have:(l2 P T a col).v (T.aj k)=T.v (T.aj k):=by
   show(T.iC P col _).v (T.aj k)=_;rw[CQ h.bj g.af ag,aU e]
  have U:=aN k ag;unfold mG at U|-;rw[this];exact U
theorem j0.fit{s:Nat->Nat}(aG:∀x,1<=s x)(h:j0 P s T){a col:Nat}(g:wA P T a col):j0 P s (l2 P T a col):=
 ⟨Zl h.inv g,ZG (T:=T.iC P col (z' P T a col)) aG (h.inv.iC g.af _) g.aN g.af g.uD h.Ae,azy h.inv g h.at'⟩
theorem kT.azz(h:Inv P T){col:Nat}{way:Int}{f:jI}{q:Rat}(g:kT P c T col way f q)(aN:∀k,k<P.n->mG P T.v (T.aj k)):∀k,k<P.n->mG P (l3 P T col way q f.ind).v ((l3 P T col way q f.ind).aj k):=by
 intro k ag
 cases ad:f.ind with
 | none=>
   have aw:=g.FV h.bj ag;rw[ad]at aw;show mG P (l3 P T col way q none).v (T.aj k);by_cases e:k=col
   ·subst e;rw[bm rfl]at aw;have an:=(g.ej.own ad).1;rw[g.gH]at an;unfold mG;rw[aw]
    rcases g.cS with rfl | rfl
    ·obtain⟨u,U,aa⟩:=FQ an.symm;refine .inr (.inr ?_);rw[U];congr 1;simp;grind
    ·obtain⟨u,U,aa⟩:=FR an.symm;refine .inr (.inl ?_);rw[U];congr 1;simp;grind
   ·rw[aU e]at aw;have U:=aN k ag;unfold mG at U|-;rw[aw];exact U
 | some a=>
   obtain⟨cx,a2,a3,r,a4,a5⟩:=g.ej.row a ad;show mG P (l3 P T col way q (some a)).v (if k=col then T.rows a else T.aj k);by_cases e:k=col
   ·rw[bm e];have aw:=g.Zt h.bj cx;rw[ad]at aw;rw[g.gH]at a5;have aC:=oU a2;have aV:e4 (T.M a col)*q=r:=by
     have:q=r/e4 (T.M a col):=bZI a5;have aD:e4 (T.M a col)≠0:=by grind
     grind
    unfold mG;rw[aw]
    rcases CR g.cS a2 with⟨ao,e2⟩ | ⟨ao,e2⟩<;>rw[ao]at a4<;>rw[e2]
    ·obtain⟨u,U,aa⟩:=FQ a4;refine .inr (.inr ?_);rw[U];congr 1;grind
    ·obtain⟨u,U,aa⟩:=FR a4;refine .inr (.inl ?_);rw[U];congr 1;grind
   ·rw[aU e];have aw:=g.FV h.bj ag;rw[ad,aU e]at aw;have U:=aN k ag;unfold mG at U|-;rw[aw];exact U
theorem j0.desc{s:Nat->Nat}(aG:∀x,1<=s x)(h:j0 P s T){col:Nat}{way:Int}{f:jI}{q:Rat}(g:kT P c T col way f q):j0 P s (l3 P T col way q f.ind):=by
 refine⟨g.inv h.inv,?_,g.azz h.inv h.at'⟩
 cases ad:f.ind with
 | none=>exact h.Ae
 | some a=>
   obtain⟨cx,a2,_⟩:=g.ej.row a ad;exact ZG (T:=T.iC P col _) aG (h.inv.iC g.af _) cx g.af a2 h.Ae
structure F0(P:cr)(V:Nat):Prop where
 v1:1<=V
 lo:∀x l,P.lo x=some l->cP V l
 up:∀x u,P.up x=some u->cP V u
theorem Af{V:Nat}(h:1<=V):cP V 0:=⟨by simp,h⟩
theorem mG.cP{V:Nat}(eI:F0 P V){v:Nat->Rat}{x:Nat}(h:mG P v x):cP V (v x):=by
 rcases h with h | h | h
 ·rw[h];exact Af eI.v1
 ·exact eI.lo x _ h
 ·exact eI.up x _ h
structure ZL(P:cr)(c:Nat->Rat)(S E iS:Nat):Prop where
 p:1<=iS
 le:iS<=S
 z:∀j,j<P.n->fz ((iS:Rat)*c j) E
def wC(P:cr)(s:Nat->Nat)(T:b8):Prop:=j0 P s T/\Aa P T
def uG(P:cr)(s:Nat->Nat)(T:b8):Prop:=j0 P s T/\uE P T
theorem wC.next{s:Nat->Nat}(aG:∀x,1<=s x)(azA:FN P){dY:b8}(h:wC P s T)(e:rO P T=some dY):wC P s dY:=by
 obtain⟨a,col,g,rfl⟩:=Zk e;exact⟨h.1.fit aG g,Zm azA h.1.inv h.2 g⟩
theorem uG.next{s:Nat->Nat}(aG:∀x,1<=s x){dY:b8}(h:uG P s T)(e:pE P c T=some dY):uG P s dY:=by
 obtain⟨col,way,f,q,g,rfl⟩:=Zr e;exact⟨h.1.desc aG g,g.Qt h.1.inv h.2⟩
theorem wC.two{s:Nat->Nat}(h:wC P s T)(e:uC P T=none):uG P s T:=by
 refine⟨h.1,λx az=>?_⟩
 rcases h.1.inv.bj.mE x az with⟨i,ad,rfl⟩ | ⟨k,ag,rfl⟩
 ·have:=FI e i ad;exact Zh (by simpa using this)
 ·exact h.2 k ag
theorem uG.ends{s:Nat->Nat}{S E V iS:Nat}(aG:rR P s S E)(eI:F0 P V)(af:ZL P c S E iS)(h:uG P s T):Ends (pE P c) T:=
 azm (uG P s) (λ_bUR _cYS h e=>h.next aG.pos e) (λ_bUR h=>⟨h.1.inv,h.2⟩) (λ_bUR h=>azx aG h.1.inv h.1.Ae eI.v1 (λk ag=>(h.1.at' k ag).cP eI) af.p af.le af.z) h
theorem j0.QI{s:Nat->Nat}{S E V:Nat}(aG:rR P s S E)(eI:F0 P V)(h:j0 P s T){x:Nat}(az:x<P.n+P.m):cP (qN P.n ((P.n*E)^P.n) S V+V) (T.v x):=
 C.QI aG h.inv h.Ae eI.v1 (λk ag=>(h.at' k ag).cP eI) az
end
def n3:List fb->Nat->Rat
 | [],_=>0
 | c::l,j=>n3 l j+if j=c.col.toNat then rd c.v else 0
theorem ZM{n:Int}:∀{l:List fb} {last:Int} {f:Nat->Rat},-1<=last->jE n last l=true->(∀j:Nat,last<(j:Int)->f j=0)->∀j,l.foldl mT f j=f j+n3 l j
 | [],_,f,_,_,_,j=>by simp[n3,bZP]
 | c::l,last,f,aO,h,bc,j=>by
   simp only[jE,cG,eh]at h;obtain⟨U,_,aq,a8,cg⟩:=h;have af:(c.col.toNat:Int)=c.col:=by omega
   have aD:f c.col.toNat=0:=bc _ (by omega);rw[bYW,ZM (last:=c.col) (by omega) cg λk ag=>?_]
   ·show(if j=c.col.toNat then rd c.v else f j)+n3 l j=f j+(n3 l j+if j=c.col.toNat then rd c.v else 0);by_cases e:j=c.col.toNat
    ·rw[bm e,bm e,e,aD];grind
    ·rw[aU e,aU e];grind
   ·show(if k=c.col.toNat then rd c.v else f k)=0;rw[aU (by omega)];exact bc k (by omega)
theorem azB{n:Int}{l:List fb}(h:jE n (-1) l=true)(j:Nat):nu l j=n3 l j:=by
 rw[nu,ZM (Int.le_refl _) h λ_ _=>rfl,bXM]
theorem QK:∀{l:List fb} {f:Nat->Rat} (j:Nat),l.foldl mT f j=f j∨∃c∈l,l.foldl mT f j=rd c.v
 | [],f,j=>.inl rfl
 | c::l,f,j=>by
   rw[bYW]
   rcases QK (l:=l) (f:=mT f c) j with h | ⟨d,aB,h⟩
   ·rw[h];unfold mT;split
    ·exact .inr ⟨c,.head _,rfl⟩
    ·exact .inl rfl
   ·exact .inr ⟨d,.tail _ aB,h⟩
theorem ZN{n:Nat}{x:Nat->Rat}:∀{l:List fb},(∀c∈l,0<=c.col/\c.col<n)->ix l x=bs (λj=>n3 l j*x j) n
 | [],_=>(rN λi _=>by simp[n3]).symm
 | c::l,h=>by
   obtain⟨U,aa⟩:=h c (.head _);have e:bs (λj=>n3 (c::l) j*x j) n=bs (λj=>n3 l j*x j+(if j=c.col.toNat then rd c.v else 0)*x j) n:=eB λj _=>by
    show(n3 l j+_)*x j=_;grind
   have e2:bs (λj=>(if j=c.col.toNat then rd c.v else 0)*x j) n=rd c.v*x c.col.toNat:=by
    rw[qL (j:=c.col.toNat) (by omega) λi _ aF=>by rw[aU aF,lE],bm rfl]
   rw[e,pC,ix,ZN λd aB=>h d (.tail _ aB),e2]
theorem ZO{y:Rat}:∀{l:List fb} {d:Nat->Rat} (j:Nat),ni l y d j=d j-y*n3 l j
 | [],d,j=>by simp[ni,n3];grind
 | c::l,d,j=>by
   have:ni (c::l) y d j=ni l y (rC y d c) j:=rfl;rw[this,ZO];show(if j=c.col.toNat then d j-rd c.v*y else d j)-y*n3 l j=d j-y*(n3 l j+if j=c.col.toNat then rd c.v else 0);split<;>grind
section
variable{lp:bD}
theorem ZP{r:di}{n:Nat}(h:k8 r n=true):jE n (-1) r.cM=true/\∀c∈r.cM,0<=c.col/\c.col<n:=by
 simp only[k8,cG]at h;refine⟨h.1,λc af=>?_⟩;obtain⟨_,aa,aq⟩:=(Fk h.1).1 c af;exact⟨by omega,aq⟩
theorem Kb(hm:lp.dP=true){i:Nat}(ad:i<lp.rows.length):k8 (lp.row i) lp.aj.length=true:=zC hm (fR (bD.rowAt ad))
theorem azC(hm:lp.dP=true){i:Nat}(ad:i<lp.aj.length):nf (lp.col i)=true:=Ci hm (fR (bD.Cn ad))
theorem ZQ(hm:lp.dP=true){i:Nat}(ad:i<lp.rows.length)(j:Nat):lp.aX.A i j=n3 (lp.row i).cM j:=azB (ZP (Kb hm ad)).1 j
theorem F1(hm:lp.dP=true){i:Nat}(ad:i<lp.rows.length)(x:Nat->Rat):ix (lp.row i).cM x=bs (λj=>lp.aX.A i j*x j) lp.aj.length:=by
 rw[ZN (ZP (Kb hm ad)).2];exact eB λj _=>by rw[ZQ hm ad]
theorem ZR(hm:lp.dP=true){wc:Bool}{y:Nat->Rat}:∀{k:Nat},k<=lp.rows.length->∀j,wh lp wc y k j=d0 lp wc j-bs (λi=>y i*lp.aX.A i j) k
 | 0,_,j=>by
   show d0 lp wc j=_;simp only[bs];grind
 | k+1,ag,j=>by
   show ni (lp.row k).cM (y k) (wh lp wc y k) j=_;rw[ZO,ZR hm (by omega),bs,ZQ hm (by omega)];grind
theorem azD:fh lp.aX lp.fA where
 r:=λi ad=>by show lp.aj.length+i<lp.aj.length+lp.rows.length;exact Nat.add_lt_add_left ad _
 c:=λk ag=>by show k<lp.aj.length+lp.rows.length;exact hR ag (hS _ _)
 qM:=λi j _ _ e=>by have e:lp.aj.length+i=lp.aj.length+j:=e;omega
 ci:=λi j _ _ e=>e
 rc:=λi k _ ag e=>by have e:lp.aj.length+i=k:=e;have ag:k<lp.aj.length:=ag;omega
 mE:=λx az=>by
  have az:x<lp.aj.length+lp.rows.length:=az;by_cases h:x<lp.aj.length
  ·exact .inr ⟨x,h,rfl⟩
  ·exact .inl ⟨x-lp.aj.length,by show x-lp.aj.length<lp.rows.length;omega,by show lp.aj.length+(x-lp.aj.length)=x;omega⟩
theorem azE(hm:lp.dP=true):Inv lp.aX lp.fA where
 bj:=azD
 fJ:=λz=>Iff.rfl
 val:=λi ad=>by
  show lp.fA.v (lp.aj.length+i)=_;rw[ZS,F1 hm ad];exact eB λj aH=>by rw[show lp.fA.v j=lp.v0 j from bm aH]
 sum:=λf=>rfl
theorem QL{l:List UInt8}:gT l=none↔l=[]:=by
 unfold gT;split<;>simp_all
theorem sU{l:List UInt8}{q:Rat}(h:gT l=some q):l≠[]/\q=rd l:=by
 unfold gT at h;split at h
 ·cases h
 ·cases h;exact⟨‹_›,rfl⟩
theorem QM(hm:lp.dP=true):FN lp.aX:=by
 intro x l u aO hu;by_cases h:x<lp.aj.length
 ·rw[Ag h]at aO;rw[Ah h]at hu;obtain⟨ck,rfl⟩:=sU aO;obtain⟨fQ,rfl⟩:=sU hu;have:=azC hm h;simp only[nf,cG,nE,eh]at this;obtain⟨_,_,_,a8⟩:=this
  rcases a8 with a8 | a8 | a8
  ·exact absurd (by simpa using a8) ck
  ·exact absurd (by simpa using a8) fQ
  ·exact a8
 ·obtain⟨i,rfl⟩:∃i,x=lp.aj.length+i:=⟨x-lp.aj.length,by omega⟩;rw[CW]at aO;rw[CX]at hu;split at aO
  ·cases aO
  ·split at hu
   ·cases hu
   ·obtain⟨_,rfl⟩:=sU aO;obtain⟨_,rfl⟩:=sU hu;exact k3
end
theorem F2{l:List UInt8}{k:Nat}(h:l.length<=k):cP (10^k) (rd l):=by
 have U:1<=10^k:=bYX _ _ (by decide);unfold rd
 cases e:jD l with
 | none=>exact Af U
 | some q=>
   unfold jD qu at e;split at e
   ·rename_i af;obtain⟨g1,g2,g3,g4⟩:=af;simp only[a6]at e;have aB:∀{l:List UInt8},je l=true->fi l<10^l.length:=λ{l} h=>by
     unfold je at h;simp at h;exact Kc (by rw[hz];exact h.2.2.2)
    have cy:=@X5 (kK l).2;have dd:=@X6 l;have cx:=aB g1;have a2:=aB g2;by_cases aD:k=0
    ·have:l.length=0:=by omega
     obtain rfl:l=[]:=List.length_eq_zero_iff.1 this;simp[kK,oI,je]at g1
    ·have bJ:10^(oI (kK l).2).1.length<=10^k:=iH (by decide) (by omega);have bG:10^(oI (kK l).2).2.length<=10^k:=iH (by decide) (by omega);rw[<-e];simp only[bZy];exact⟨by rw[IU g3];exact bH (oe _ _) (by omega),by rw[IT g3];exact bH (oe _ _) (by omega)⟩
   ·cases e
structure iA(lp:bD):Prop where
 n:lp.aj.length<=6
 m:lp.rows.length<=12
 c:∀c∈lp.aj,c.low.length<=30/\c.up.length<=30/\c.cost.length<=30
 r:∀r∈lp.rows,r.rhs.length<=30/\r.cM.length<=1000000/\∀c∈r.cM,c.v.length<=30
section
variable{lp:bD}
theorem iA.ok(h:iA lp):lp.ok:=by
 refine⟨by have:=h.n;omega,by have:=h.m;omega,λc af=>?_,λr an=>?_⟩
 ·obtain⟨U,aa,aq⟩:=h.c c af;exact⟨by omega,by omega,by omega⟩
 ·obtain⟨U,aa,aq⟩:=h.r r an;exact⟨by omega,aa,λc af=>by have:=aq c af;show c.v.length<=10000;omega⟩
abbrev hc:Nat:=10^30
theorem Kd{l:List UInt8}(h:l.length<=30){q:Rat}(e:gT l=some q):cP hc q:=by
 obtain⟨_,rfl⟩:=sU e;exact F2 h
theorem F3(h:iA lp)(i:Nat):(lp.row i).rhs.length<=30/\∀c∈(lp.row i).cM,c.v.length<=30:=by
 by_cases ad:i<lp.rows.length
 ·obtain⟨U,_,aq⟩:=h.r _ (fR (bD.rowAt ad));exact⟨U,aq⟩
 ·have:lp.row i=⟨[],1,[],[],[]⟩:=by rw[bD.row,ob,jq (by omega)];rfl
  rw[this];exact⟨by simp,by simp⟩
theorem yn(h:iA lp)(i:Nat):(lp.col i).low.length<=30/\(lp.col i).up.length<=30/\(lp.col i).cost.length<=30:=by
 by_cases ad:i<lp.aj.length
 ·exact h.c _ (fR (bD.Cn ad))
 ·have:lp.col i=⟨[],[],[],[],false⟩:=by rw[bD.col,ob,jq (by omega)];rfl
  rw[this];exact⟨by simp,by simp,by simp⟩
theorem iA.F4(h:iA lp):F0 lp.aX hc:=by
 refine⟨by decide,λx l e=>?_,λx u e=>?_⟩
 ·have e:(if x<lp.aj.length then gT (lp.col x).low else if(lp.row (x-lp.aj.length)).kind=1 then none else gT (lp.row (x-lp.aj.length)).rhs)=some l:=e;split at e
  ·exact Kd (yn h x).1 e
  ·split at e
   ·cases e
   ·exact Kd (F3 h _).1 e
 ·have e:(if x<lp.aj.length then gT (lp.col x).up else if(lp.row (x-lp.aj.length)).kind=3 then none else gT (lp.row (x-lp.aj.length)).rhs)=some u:=e;split at e
  ·exact Kd (yn h x).2.1 e
  ·split at e
   ·cases e
   ·exact Kd (F3 h _).1 e
theorem iA.QN(h:iA lp)(i j:Nat):cP hc (lp.aX.A i j):=by
 rcases QK (l:=(lp.row i).cM) (f:=λ_=>0) j with e | ⟨c,af,e⟩
 ·show cP hc (nu _ j);rw[nu,e];exact Af (by decide)
 ·show cP hc (nu _ j);rw[nu,e];exact F2 ((F3 h i).2 c af)
def hE(lp:bD)(x:Nat):Nat:=if x<lp.aj.length then 1 else sT (λj=>(lp.aX.A (x-lp.aj.length) j).den) lp.aj.length
def uH(n:Nat):Nat:=hc^n
def oW(n:Nat):Nat:=hc*hc^n
theorem iA.hE(h:iA lp):rR lp.aX (hE lp) (uH lp.aj.length) (oW lp.aj.length):=by
 have aC:1<=hc^lp.aj.length:=bYX _ _ (by decide);refine⟨λx=>?_,λx=>?_,λx az=>bm az,λx j az aH=>?_⟩
 ·unfold C.hE;split
  ·exact bR _
  ·exact J8 (λi=>Rat.den_pos _) _
 ·unfold C.hE;split
  ·exact aC
  ·exact CV λj _=>(h.QN _ j).2
 ·by_cases qO:x<lp.aj.length
  ·have ao:C.hE lp x=1:=bm qO;have e2:form lp.aX x j=if x=j then 1 else 0:=bm qO
   have bz:1<=oW lp.aj.length:=bYM (by decide) aC;rw[ao,e2];split
   ·exact⟨1,by simp,bz⟩
   ·exact⟨0,by simp,Nat.zero_le _⟩
  ·have ao:C.hE lp x=sT (λj=>(lp.aX.A (x-lp.aj.length) j).den) lp.aj.length:=aU qO;have e2:form lp.aX x j=lp.aX.A (x-lp.aj.length) j:=aU qO;rw[ao,e2,bYp];exact J9 (h.QN _ j) (FZ (f:=λj=>(lp.aX.A (x-lp.aj.length) j).den) aH) (CV λj _=>(h.QN _ j).2)
theorem iA.Ke(h:iA lp):ZL lp.aX lp.cs (uH lp.aj.length) (oW lp.aj.length) (sT (λj=>(lp.cs j).den) lp.aj.length):=by
 refine⟨J8 (λi=>Rat.den_pos _) _,CV λj _=>(F2 (yn h j).2.2).2,λj aH=>?_⟩;rw[bYp];exact J9 (F2 (yn h j).2.2) (FZ (f:=λj=>(lp.cs j).den) aH) (CV λj _=>(F2 (yn h j).2.2).2)
theorem ZT{n:Nat}:∀(d k:Nat) (w:Nat->Rat),k+d<=n->(∀j,k<=j->w j=1)->fZ n ((List.range' k d).map λi j=>if i=j then(1:Rat) else 0) w=1
 | 0,_,_,_,_=>rfl
 | d+1,k,w,ag,hw=>by
   rw[List.range'_succ,bXm,fZ,qL (j:=k) (by omega) λi _ aF=>by rw[aU (Ne.symm aF),lE,lE],bm rfl,hw k (bR _),ZT d (k+1) _ (by omega) λj aH=>?_]
   ·grind
   ·rw[hw j (by omega),ko,bm (by omega)];grind
theorem azF(_cYn:iA lp):h9 lp.aX (hE lp) lp.fA≠0:=by
 have e:h9 lp.aX (hE lp) lp.fA=1:=by
  rw[h9,List.range_eq_range'];refine(QC (A':=(List.range' 0 lp.aX.n).map λi j=>if i=j then(1:Rat) else 0) _ (by simp) λi r r' e bw j aH=>?_).trans (ZT (n:=lp.aX.n) lp.aX.n 0 (λ_=>1) (by omega) λ_ _=>rfl);simp only[bZE,A9]at e bw;obtain⟨a,aN,rfl⟩:=e;obtain⟨a',pD,rfl⟩:=bw;rw[aN]at pD;cases pD;have J4:=fR aN;have F5:a<lp.aj.length:=by
   have:=List.mem_range'_1.1 J4;have aa:a<0+lp.aX.n:=this.2;have aq:lp.aX.n=lp.aj.length:=rfl;omega
  show((C.hE lp a:Nat):Rat)*form lp.aX a j=if a=j then 1 else 0
  rw[show C.hE lp a=1 from bm F5,show form lp.aX a j=if a=j then 1 else 0 from bm F5];have U:((1:Nat):Rat)=1:=rfl;rw[U,Rat.one_mul]
 rw[e];decide
theorem azG(h:iA lp)(hm:lp.dP=true):wC lp.aX (hE lp) lp.fA:=by
 have aw:∀k,k<lp.aj.length->lp.fA.v k=yp (lp.aX.lo k) (lp.aX.up k):=λk ag=>by rw[ZU ag,Ag ag,Ah ag]
 refine⟨⟨azE hm,azF h,λk ag=>?_⟩,λk ag=>?_⟩
 ·have ag:k<lp.aj.length:=ag;show mG lp.aX lp.fA.v k;unfold mG;rw[aw k ag];unfold yp
  cases e:lp.aX.lo k with
  | some l=>exact .inr (.inl rfl)
  | none=>
    cases e2:lp.aX.up k with
    | some u=>exact .inr (.inr rfl)
    | none=>exact .inl rfl
 ·have ag:k<lp.aj.length:=ag;show oS lp.aX lp.fA.v k;unfold oS;rw[aw k ag];unfold yp;refine⟨λl e=>?_,λu e=>?_⟩
  ·rw[e];exact k3
  ·cases e2:lp.aX.lo k with
   | none=>rw[e];exact k3
   | some l=>exact QM hm k l u e2 e
end
end Go.Dam.C
namespace Go.Dam.C
open Go Go.Dam
theorem QO(n:Nat):(Lib.decDigits n).all iF=true:=by
 induction n using Nat.strongRecOn with
 | _ n ih=>
   by_cases h:n<10
   ·rw[Lib.decDigits_one h];have aa:(UInt8.ofNat (48+n)).toNat=48+n:=by simp;omega
    simp[iF, ];omega
   ·rw[Lib.decDigits,dif_neg h,List.all_append,ih (n/10) (by omega)];have aa:(UInt8.ofNat (48+n%10)).toNat=48+n%10:=by simp;omega
    simp[iF, ];omega
theorem azH(n:Nat):∀c,(Lib.decDigits n).head? = some c->iF c=true/\(1<=n->c≠48):=by
 induction n using Nat.strongRecOn with
 | _ n ih=>
   intro c af;refine⟨?_,λaF=>?_⟩
   ·have:=QO n
    cases aO:Lib.decDigits n with
    | nil=>rw[aO]at af;cases af
    | cons a l=>
      rw[aO]at af this;cases af;simp at this;exact this.1
   ·by_cases h:n<10
    ·rw[Lib.decDigits_one h]at af;simp at af;rintro rfl;have:=congrArg UInt8.toNat af;simp at this;omega
    ·rw[Lib.decDigits,dif_neg h]at af;have dr:=Kf (n/10)
     cases aO:Lib.decDigits (n/10) with
     | nil=>exact absurd aO dr
     | cons a l=>
       rw[aO]at af;simp at af;exact(ih (n/10) (by omega) c (by rw[aO];simp[af])).2 (by omega)
theorem QP(n:Nat):∀c∈Lib.decDigits n,c≠47/\c≠45:=by
 intro c af;have:=QO n;rw[hz]at this;have:=this c af;constructor<;>rintro rfl<;>exact absurd this (by decide)
theorem QQ(q:Rat):kK (dB q)=(decide (q<0),Lib.decDigits q.num.natAbs++if q.den=1 then[] else 47::Lib.decDigits q.den):=by
 unfold kK dB;by_cases h:q<0
 ·simp[h]
 ·have dr:=Kf q.num.natAbs
  cases aO:Lib.decDigits q.num.natAbs with
  | nil=>exact absurd aO dr
  | cons a l=>
    have:=(QP q.num.natAbs a (by rw[aO];exact .head _)).2;simp[h,this]
theorem QR(q:Rat):oI (Lib.decDigits q.num.natAbs++if q.den=1 then[] else 47::Lib.decDigits q.den)=(Lib.decDigits q.num.natAbs,Lib.decDigits q.den):=by
 have tH:47∉Lib.decDigits q.num.natAbs:=λh=>(QP _ _ h).1 rfl;have mc:∀c∈Lib.decDigits q.num.natAbs,(c != 47)=true:=λc af=>by simpa using(QP _ c af).1
 unfold oI;by_cases h:q.den=1
 ·rw[h];simp[tH,Lib.decDigits_one]
 ·simp only[h,if_false];rw[bm (by simp)];have ao:(Lib.decDigits q.num.natAbs++47::Lib.decDigits q.den).takeWhile (· != 47)=Lib.decDigits q.num.natAbs:=by
   rw[List.takeWhile_append_of_pos mc];simp
  have e2:(Lib.decDigits q.num.natAbs++47::Lib.decDigits q.den).dropWhile (· != 47)=47::Lib.decDigits q.den:=by
   rw[List.dropWhile_append_of_pos mc];simp
  rw[ao,e2];rfl
@[irreducible] def bZf(k:Nat):Nat:=10^k
theorem bZr(k:Nat):bZf k=10^k:=by delta bZf;rfl
theorem bXt{a b:Nat}(h:a<=b):bZf a<=bZf b:=by rw[bZr,bZr];exact iH (by decide) h
theorem bVZ{a b:Nat}(h:a<b):bZf a<bZf b:=by rw[bZr,bZr];exact Nat.pow_lt_pow_right (by decide) h
theorem bUS(a:Nat):1<=bZf a:=by rw[bZr];exact bYX _ _ (by decide)
theorem bXW{a b c:Nat}(h:a+b=c):bZf a*bZf b=bZf c:=by rw[<-h,bZr,bZr,bZr,hT]
theorem cYo(a b:Nat):bZf a^b=bZf (a*b):=by rw[bZr,bZr];exact(bYr 10 a b).symm
theorem ZW{n:Nat}(h:n<bZf 2000):je (Lib.decDigits n)=true:=by
 have aO:(Lib.decDigits n).length<=2000:=by
  rw[Lib.decDigits_length];exact F6 (by rw[bZr]at h;exact h) (by decide)
 unfold je;have dr:=Kf n;have WH:(Nat.blt 1 (Lib.decDigits n).length&&(Lib.decDigits n).head? ==some 48)=false:=by
  cases aB:(Lib.decDigits n).head? ==some 48 with
  | false=>simp
  | true=>
    have aB:(Lib.decDigits n).head? = some 48:=by simpa using aB
    have aF:n=0:=by
     apply oa;intro aF;exact(azH n 48 aB).2 (by omega) rfl
    subst aF;rw[Lib.decDigits_one (by decide)];rfl
 simp only[QO,WH,Bool.and_true,Bool.not_false,cG];refine⟨by simpa using dr,by rw[dA];simpa using aO⟩
theorem azI{q:Rat}(U:q.num.natAbs<bZf 2000)(aa:q.den<bZf 2000):jD (dB q)=some q:=by
 unfold jD qu;rw[QQ,QR];simp only[QT,IV];rw[bm ⟨ZW U,ZW aa,q.den_nz,trivial⟩]
def kV:Nat:=bZf 1900
theorem cP.get{q:Rat}(h:cP kV q):jD (dB q)=some q:=by
 have dC:kV<bZf 2000:=bVZ (by decide);exact azI (eD h.1 dC) (eD h.2 dC)
theorem cP.rd{q:Rat}(h:cP kV q):rd (dB q)=q:=by unfold C.rd;rw[h.get];rfl
theorem cP.isNum{q:Rat}(h:cP kV q):isNum (dB q)=true:=by unfold C.isNum;rw[h.get];rfl
theorem cP.sz{q:Rat}(h:cP kV q):sz q 2000:=by
 have dC:kV<4294967296^2000:=hR (bVZ (show 1900<2000 by decide)) (by rw[bZr];exact QU 2000);exact⟨eD h.1 dC,eD h.2 dC⟩
theorem cP.len{q:Rat}(h:cP kV q):(dB q).length<=10000:=by
 have dC:kV<bZf 2000:=bVZ (by decide);have ck:(Lib.decDigits q.num.natAbs).length<=2000:=by rw[Lib.decDigits_length];exact F6 (by rw[bZr]at dC;exact eD h.1 dC) (by decide)
 have cJ:(Lib.decDigits q.den).length<=2000:=by rw[Lib.decDigits_length];exact F6 (by rw[bZr]at dC;exact eD h.2 dC) (by decide)
 unfold dB;simp only[tr];split<;>split<;>simp<;>omega
end Go.Dam.C
namespace Go.Dam.C
theorem F7(a b:Nat):(10^a)^b=10^(a*b):=(bYr 10 a b).symm
theorem azJ{n:Nat}(aF:n<=6):(n*oW n)^n<=bZf 1266:=by
 have U:oW n<=10^210:=by
  unfold oW;rw[show hc*hc^n=hc^(n+1) by rw[bZh,gw],F7];exact iH (by decide) (by omega)
 have aa:n*oW n<=10^211:=by
  have:n*oW n<=10*10^210:=ie (by omega) U;rwa [<-Nat.pow_succ']at this
 calc (n*oW n)^n<=(10^211)^n:=bWg aa n
  _=bZf (211*n):=by rw[F7,bZr]
  _<=bZf 1266:=bXt (by omega)
theorem azK{n:Nat}(aF:n<=6):uH n<=bZf 180:=by
 unfold uH;rw[F7,bZr];exact iH (by decide) (by omega)
theorem QV{n:Nat}(aF:n<=6):(n*oW n)^n*uH n<=bZf 1446:=by
 have:=ie (azJ aF) (azK aF);rw[bXW (show 1266+180=1446 by decide)]at this;exact this
theorem azL{n:Nat}(aF:n<=6):qN n ((n*oW n)^n) (uH n) hc+hc<=bZf 1660:=by
 unfold qN;have U:hc*hc^n<=bZf 210:=by
  rw[show hc*hc^n=hc^(n+1) by rw[bZh,gw],F7,bZr];exact iH (by decide) (by omega)
 have aa:(n*oW n)^n*uH n*(hc*hc^n)<=bZf 1656:=by
  have:=ie (QV aF) U;rw[bXW (show 1446+210=1656 by decide)]at this;exact this
 have aq:n*((n*oW n)^n*uH n*(hc*hc^n))<=6*bZf 1656:=ie aF aa;have a8:hc<=bZf 1656:=by rw[show hc=bZf 30 from(bZr 30).symm];exact bXt (by decide)
 have cg:bZf 1660=10000*bZf 1656:=by rw[<-bXW (show 4+1656=1660 by decide),bZr 4]
 generalize n*((n*oW n)^n*uH n*(hc*hc^n))=a at*
 generalize (n*oW n)^n*uH n*(hc*hc^n)=b at*
 generalize hc=e at*
 rw[cg];generalize bZf 1656=p at*
 omega
theorem cP.mono{a b:Nat}{q:Rat}(h:cP a q)(nQ:a<=b):cP b q:=⟨bH h.1 nQ,bH h.2 nQ⟩
section
variable{lp:bD}{T:b8}
theorem j0.F8(h:iA lp)(bK:j0 lp.aX (hE lp) T){x:Nat}(az:x<lp.aj.length+lp.rows.length):cP (bZf 1660) (T.v x):=
 (bK.QI h.hE h.F4 az).mono (azL h.n)
theorem j0.Kg(h:iA lp)(bK:j0 lp.aX (hE lp) T){i k:Nat}(ad:i<lp.rows.length)(ag:k<lp.aj.length):cP (bZf 1446) (T.M i k):=
 (azv h.hE bK.inv bK.Ae ad ag).mono (QV h.n)
theorem j0.azM(h:iA lp)(bK:j0 lp.aX (hE lp) T){k:Nat}(ag:k<lp.aj.length):cP (bZf 1446) (red lp.aX lp.cs T k):=
 (azw h.hE bK.inv bK.Ae h.Ke.p h.Ke.le h.Ke.z ag).mono (QV h.n)
theorem sV{k:Nat}{q:Rat}(h:cP (bZf k) q)(ag:k<=1900):cP kV q:=h.mono (bXt ag)
theorem bUT{q:Rat}(h:cP hc q):cP kV q:=h.mono (by rw[show hc=bZf 30 from(bZr 30).symm];exact bXt (by decide))
theorem j0.ZX(h:iA lp)(bK:j0 lp.aX (hE lp) T):l4 lp.aX T 2000 where
 v:=λx az=>⟨λl e=>(bUT (h.F4.lo x l e)).sz,λl e=>(bUT (h.F4.up x l e)).sz,(sV (bK.F8 h az) (by decide)).sz⟩
 M:=λi k ad ag=>(sV (bK.Kg h ad ag) (by decide)).sz
theorem j0.strs(h:iA lp)(bK:j0 lp.aX (hE lp) T):qy (nv lp T):=by
 refine⟨?_,λs aG=>?_⟩
 ·have:=h.n;simp only[nv,bYS,bXB];show lp.aj.length<_;omega
 ·obtain⟨j,aH,rfl⟩:=bZT.1 aG;have aH:j<lp.aj.length:=bXe.1 aH;exact(sV (bK.F8 h (by omega)) (by decide)).len
theorem runs(h:iA lp)(hm:lp.dP=true):Kh lp (wC lp.aX (hE lp)) (uG lp.aX (hE lp)) 2000 where
 t1:=by decide
 Ki:=by decide
 s1:=azG h hm
 g1:=λT bK=>⟨bK.1.inv,bK.1.ZX h,azb (QM hm) bK.1.inv bK.2⟩
 n1:=λT dY bK e=>bK.next h.hE.pos (QM hm) e
 s2:=λT bK e=>bK.two e
 g2:=λT bK=>⟨bK.1.inv,bK.1.ZX h,bK.ends h.hE h.F4 h.Ke⟩
 fU:=λT dY bK e=>bK.next h.hE.pos e
 eH:=λT bK=>bK.1.strs h
end
section
variable{lp:bD}
def QW(kind:Int)(s b:Rat):Prop:=(kind=1->s<=b)/\(kind=3->b<=s)/\(kind≠1->kind≠3->s=b)
def nw(lp:bD)(x:Nat->Rat)(i:Nat):Rat:=bs (λj=>lp.aX.A i j*x j) lp.aj.length
theorem Kj{kind:Int}{s b:Rat}:ug kind (kL s b)=true↔QW kind s b:=by
 by_cases U:kind=1
 ·rw[show ug kind (kL s b)=decide (kL s b<=0) from bm U,eh];constructor
  ·intro h;refine⟨λ_=>hA.1 λbO=>?_,λaq=>by omega,λh=>absurd U h⟩;rw[<-xT s b]at bO;omega
  ·rintro⟨h,_⟩;refine Int.not_lt.1 λbO=>?_;rw[xT]at bO;exact hA.2 (h U) bO
 ·by_cases aq:kind=3
  ·rw[show ug kind (kL s b)=decide (0<=kL s b) from(aU U).trans (bm aq),eh];constructor
   ·intro h;refine⟨λh=>absurd h U,λ_=>hA.1 λbO=>?_,λ_ h=>absurd aq h⟩;rw[<-rz s b]at bO;omega
   ·rintro⟨_,h,_⟩;refine Int.not_lt.1 λbO=>?_;rw[rz]at bO;exact hA.2 (h aq) bO
  ·rw[show ug kind (kL s b)=decide (kL s b=0) from(aU U).trans (aU aq),eh,cmp_eq];exact⟨λh=>⟨λe=>absurd e U,λe=>absurd e aq,λ_ _=>h⟩,λh=>h.2.2 U aq⟩
theorem ZY(q:Rat):cT q=kL q 0:=rfl
theorem ZZ{c:eu}{q:Rat}:sG c q=true↔(c.low≠[]->rd c.low<=q)/\(c.up≠[]->q<=rd c.up):=by
 unfold sG;rw[<-hA,<-hA];cases U:c.low<;>cases aa:c.up<;>simp
structure sW(lp:bD)(x:Nat->Rat):Prop where
 c:∀j,j<lp.aj.length->((lp.col j).low≠[]->rd (lp.col j).low<=x j)/\((lp.col j).up≠[]->x j<=rd (lp.col j).up)
 r:∀i,i<lp.rows.length->QW (lp.row i).kind (nw lp x i) (rd (lp.row i).rhs)
theorem Z0{p:di->Bool}:lp.rows.all p=true↔∀i,i<lp.rows.length->p (lp.row i)=true:=by
 rw[hz];constructor
 ·intro h i ad;exact h _ (fR (bD.rowAt ad))
 ·intro h r an;obtain⟨i,ad,rfl⟩:=bWh an;have:=h i ad;have e:=bD.rowAt ad;rw[hG ad]at e;rw[bZI e];exact this
theorem QX(hm:lp.dP=true){x:Nat->Rat}:Fl lp x=true↔sW lp x:=by
 unfold Fl;rw[cG,Ox,Z0];constructor
 ·rintro⟨U,aa⟩;refine⟨λj aH=>ZZ.1 (U j aH),λi ad=>?_⟩;have:=aa i ad;unfold zD at this;rw[F1 hm ad]at this;exact Kj.1 this
 ·rintro⟨U,aa⟩;refine⟨λj aH=>ZZ.2 (U j aH),λi ad=>?_⟩;unfold zD;rw[F1 hm ad];exact Kj.2 (aa i ad)
structure Z1(lp:bD)(d:Nat->Rat)(s q:Rat)(k:Nat):Prop where
 ok:∀j,j<k->d j≠0->(if d j<0 then(lp.col j).up else(lp.col j).low)≠[]
 sum:q=s+bs (λj=>d j*rd (if d j<0 then(lp.col j).up else(lp.col j).low)) k
theorem Kk{d:Nat->Rat}{s:Rat}:∀{k:Nat} {q:Rat},l0 lp d s k=some q↔Z1 lp d s q k
 | 0,q=>by
   simp only[l0,a6];constructor
   ·rintro rfl;exact⟨λj aH=>absurd aH (od _),by simp[bs,bZP]⟩
   ·rintro⟨_,h⟩;rw[h];simp[bs,bZP]
 | k+1,q=>by
   rw[l0];have aO:∀(h:¬(d k≠0/\(if d k<0 then(lp.col k).up else(lp.col k).low).isEmpty=true)),wg (lp.col k) (d k)=some (d k*rd (if d k<0 then(lp.col k).up else(lp.col k).low)):=λh=>aU h;constructor
   ·intro h
    cases e:l0 lp d s k with
    | none=>rw[e]at h;cases h
    | some p=>
      rw[e]at h;simp only at h;obtain⟨i1,i2⟩:=Kk.1 e;by_cases af:d k≠0/\(if d k<0 then(lp.col k).up else(lp.col k).low).isEmpty=true
      ·rw[show wg (lp.col k) (d k)=none from bm af]at h;cases h
      ·rw[aO af]at h;simp only[a6]at h;refine⟨λj aH aB=>?_,?_⟩
       ·by_cases azN:j=k
        ·subst azN;intro he;exact af ⟨aB,by simp[he]⟩
        ·exact i1 j (by omega) aB
       ·rw[bs,<-h,i2];grind
   ·rintro⟨U,aa⟩;have e:l0 lp d s k=some (s+bs (λj=>d j*rd (if d j<0 then(lp.col j).up else(lp.col j).low)) k):=Kk.2 ⟨λj aH=>U j (by omega),rfl⟩;rw[e];simp only;have af:¬(d k≠0/\(if d k<0 then(lp.col k).up else(lp.col k).low).isEmpty=true):=by
     rintro⟨aB,he⟩;exact U k (by omega) aB (by simpa using he)
    rw[aO af];simp only[a6];rw[aa,bs];grind
def gD(lp:bD)(wc:Bool)(y:Nat->Rat)(j:Nat):Rat:=d0 lp wc j-bs (λi=>y i*lp.aX.A i j) lp.rows.length
structure sX(lp:bD)(wc:Bool)(y:Nat->Rat)(b:Rat):Prop where
 ko:∀i,i<lp.rows.length->((lp.row i).kind=1->y i<=0)/\((lp.row i).kind=3->0<=y i)
 ls:Z1 lp (gD lp wc y) (bs (λi=>y i*rd (lp.row i).rhs) lp.rows.length) b lp.aj.length
theorem Z2{y:Nat->Rat}{i:Nat}:Ct lp y i=true↔((lp.row i).kind=1->y i<=0)/\((lp.row i).kind=3->0<=y i):=by
 unfold Ct;rw[<-hA,<-hA];by_cases U:(lp.row i).kind=1<;>by_cases aq:(lp.row i).kind=3<;>simp[U,aq]
theorem QY(hm:lp.dP=true){wc:Bool}{y:Nat->Rat}{b:Rat}:zH lp wc y=some b↔sX lp wc y b:=by
 have e:wh lp wc y lp.rows.length=gD lp wc y:=by
  funext j;exact ZR hm (bR _) j
 unfold zH;rw[e];constructor
 ·intro h;split at h
  ·rename_i aG;exact⟨λi ad=>Z2.1 (Jk.1 aG i ad),Kk.1 h⟩
  ·cases h
 ·rintro⟨U,aa⟩;rw[bm (Jk.2 λi ad=>Z2.2 (U i ad))];exact Kk.2 aa
theorem QZ(wc:Bool)(y x:Nat->Rat):bs (λj=>d0 lp wc j*x j) lp.aj.length=bs (λj=>gD lp wc y j*x j) lp.aj.length+bs (λi=>y i*nw lp x i) lp.rows.length:=by
 have ao:bs (λi=>y i*nw lp x i) lp.rows.length=bs (λj=>bs (λi=>y i*lp.aX.A i j) lp.rows.length*x j) lp.aj.length:=by
  have:bs (λi=>y i*nw lp x i) lp.rows.length=bs (λi=>bs (λj=>y i*lp.aX.A i j*x j) lp.aj.length) lp.rows.length:=eB λi _=>by
   rw[nw,<-jl];exact eB λj _=>by grind
  rw[this,FG];refine eB λj _=>?_;have:bs (λi=>y i*lp.aX.A i j*x j) lp.rows.length=bs (λi=>x j*(y i*lp.aX.A i j)) lp.rows.length:=eB λi _=>by grind
  rw[this,jl,bYp]
 rw[ao,<-pC];exact eB λj _=>by unfold gD;grind
theorem Q0(wc:Bool)(x:Nat->Rat):bs (λj=>d0 lp wc j*x j) lp.aj.length=if wc then lp.nh x else 0:=by
 cases wc with
 | true=>exact eB λj _=>rfl
 | false=>exact rN λj _=>by simp[d0]
structure Ai(lp:bD)(x:Nat->Rat):Prop where
 c:∀j,j<lp.aj.length->((lp.col j).low≠[]->0<=x j)/\((lp.col j).up≠[]->x j<=0)
 r:∀i,i<lp.rows.length->QW (lp.row i).kind (nw lp x i) 0
 n:lp.nh x<0
theorem Z4(hm:lp.dP=true){x:Nat->Rat}:Cr lp x=true↔Ai lp x:=by
 have af:∀{c:eu} {q:Rat},qB c q=true↔(c.low≠[]->0<=q)/\(c.up≠[]->q<=0):=λ{c q}=>by
  unfold qB;rw[<-hA,<-hA];cases U:c.low<;>cases aa:c.up<;>simp
 unfold Cr;rw[cG,cG,OF,Z0,eh];constructor
 ·rintro⟨U,aa,aq⟩;refine⟨λj aH=>af.1 (U j aH),λi ad=>?_,aq⟩;have:=aa i ad;unfold x1 at this;rw[F1 hm ad,ZY]at this;exact Kj.1 this
 ·rintro⟨U,aa,aq⟩;refine⟨λj aH=>af.2 (U j aH),λi ad=>?_,aq⟩;unfold x1;rw[F1 hm ad,ZY];exact Kj.2 (aa i ad)
end
section
variable{lp:bD}
theorem Q2(hm:lp.dP=true){dz:List (List UInt8)}{wc:Bool}{b:Rat}(h:gR lp dz wc=some b):sX lp wc (e1 dz) b:=by
 unfold gR at h;split at h
 ·exact(QY hm).1 h
 ·cases h
end
section
variable{lp:bD}{T:b8}{P:cr}
def ind(a b:Nat):Rat:=if a=b then 1 else 0
def lu(P:cr)(T:b8)(e:Nat->Rat)(x:Nat):Rat:=bs (λk=>e k*ind (T.aj k) x) P.n
theorem Z8{x j:Nat}(az:x<P.n+P.m)(aH:j<P.n):form P x j=ind x j+bs (λi=>ind x (P.n+i)*P.A i j) P.m:=by
 unfold form ind;by_cases h:x<P.n
 ·rw[bm h,rN λi _=>by rw[aU (by omega),lE],bZP]
 ·rw[aU h,aU (by omega),qL (j:=x-P.n) (by omega) λi _ aF=>by rw[aU (by omega),lE],bm (by omega)];grind
theorem Z9(h:fh P T)(e:Nat->Rat){j:Nat}(aH:j<P.n):bs (λk=>e k*form P (T.aj k) j) P.n=lu P T e j+bs (λi=>lu P T e (P.n+i)*P.A i j) P.m:=by
 have ao:bs (λi=>lu P T e (P.n+i)*P.A i j) P.m=bs (λk=>bs (λi=>e k*ind (T.aj k) (P.n+i)*P.A i j) P.m) P.n:=by
  rw[FG];refine eB λi _=>?_;have:=jl (P.A i j) (λk=>e k*ind (T.aj k) (P.n+i)) P.n;rw[lu,bYp,<-this];exact eB λk _=>by grind
 rw[ao,lu,<-pC];refine eB λk ag=>?_;rw[Z8 (h.c k ag) aH];have:=jl (e k) (λi=>ind (T.aj k) (P.n+i)*P.A i j) P.m;have e2:bs (λi=>e k*ind (T.aj k) (P.n+i)*P.A i j) P.m=bs (λi=>e k*(ind (T.aj k) (P.n+i)*P.A i j)) P.m:=eB λi _=>by grind
 rw[e2,this];grind
theorem azQ(h:fh P T)(e:Nat->Rat){k:Nat}(ag:k<P.n):lu P T e (T.aj k)=e k:=by
 rw[lu,qL (j:=k) ag λi ad aF=>by rw[ind,aU λe=>aF (h.ci i k ad ag e),bZJ],ind,bm rfl,Rat.mul_one]
theorem Z'{e:Nat->Rat}{x:Nat}(az:∀k,k<P.n->T.aj k≠x):lu P T e x=0:=rN λk ag=>by rw[ind,aU (az k ag),bZJ]
theorem Km(h:fh P T)(e:Nat->Rat)(x:Nat):(∃k,k<P.n/\T.aj k=x/\lu P T e x=e k)∨((∀k,k<P.n->T.aj k≠x)/\lu P T e x=0):=by
 by_cases az:∃k,k<P.n/\T.aj k=x
 ·obtain⟨k,ag,rfl⟩:=az;exact .inl ⟨k,ag,rfl,azQ h e ag⟩
 ·exact .inr ⟨λk ag e=>az ⟨k,ag,e⟩,Z' λk ag e=>az ⟨k,ag,e⟩⟩
def want(P:cr)(w:Rat)(x:Nat):Option Rat:=if w<0 then P.up x else P.lo x
theorem cert(_cYp:lp.dP=true){wc:Bool}{y W β:Nat->Rat}(bu:∀i,i<lp.rows.length->y i=W (lp.aj.length+i))(aB:∀j,j<lp.aj.length->gD lp wc y j=W j)(ai:∀x,x<lp.aj.length+lp.rows.length->W x≠0->want lp.aX (W x) x=some (β x)):
 sX lp wc y (bs (λi=>W (lp.aj.length+i)*β (lp.aj.length+i)) lp.rows.length+bs (λj=>W j*β j) lp.aj.length):=by
 refine⟨λi ad=>?_,λj aH h=>?_,?_⟩
 ·have az:=ai (lp.aj.length+i) (by omega);rw[bu i ad];generalize W (lp.aj.length+i)=w at az;refine⟨λav=>hA.1 λbO=>?_,λaQ=>hA.1 λbO=>?_⟩
  ·have:=az (by grind);rw[want,aU (by grind),CW,bm av]at this;cases this
  ·have:=az (by grind);rw[want,bm bO,CX,bm aQ]at this;cases this
 ·have az:=ai j (by omega);rw[aB j aH]at h|-;have az:=az h;unfold want at az;split at az
  ·rename_i bO;rw[bm bO];rw[Ah aH]at az;exact(sU az).1
  ·rename_i bO;rw[aU bO];rw[Ag aH]at az;exact(sU az).1
 ·congr 1
  ·refine eB λi ad=>?_;rw[bu i ad];have az:=ai (lp.aj.length+i) (by omega);generalize W (lp.aj.length+i)=w at az;by_cases aD:w=0
   ·rw[aD,lE,lE]
   ·have az:=az aD;unfold want at az;rw[CW,CX]at az;have:rd (lp.row i).rhs=β (lp.aj.length+i):=by
     split at az
     ·split at az
      ·cases az
      ·exact(sU az).2.symm
     ·split at az
      ·cases az
      ·exact(sU az).2.symm
    rw[this]
  ·refine eB λj aH=>?_;rw[aB j aH];have az:=ai j (by omega);generalize W j=w at az;by_cases aD:w=0
   ·rw[aD,lE,lE]
   ·have az:=az aD;unfold want at az;rw[Ag aH,Ah aH]at az;split at az
    ·rename_i bO;rw[bm bO,(sU az).2]
    ·rename_i bO;rw[aU bO,(sU az).2]
theorem aaa{w:Rat}{x:Nat}{v:Nat->Rat}(aD:w≠0)(af:can P v x (-cT w)=false)(hw:oS P v x):want P w x=some (v x):=by
 unfold want
 rcases lq aD with⟨h,e⟩ | ⟨h,e⟩<;>rw[e]at af
 ·rw[aU (by grind)];obtain⟨l,U,aa⟩:=JT (by decide) af;have:=hw.1 l U;rw[U];congr 1;grind
 ·rw[bm h];obtain⟨l,U,aa⟩:=JS (by decide) af;have:=hw.2 l U;rw[U];congr 1;grind
theorem aab(h:Inv lp.aX T){i:Nat}(ad:i<lp.rows.length):nw lp T.v i=T.v (lp.aj.length+i):=(h.val i ad).symm
theorem aac(h:Inv lp.aX T){wc:Bool}{y W:Nat->Rat}(bu:∀i,i<lp.rows.length->y i=W (lp.aj.length+i))(aB:∀j,j<lp.aj.length->gD lp wc y j=W j):
 bs (λi=>W (lp.aj.length+i)*T.v (lp.aj.length+i)) lp.rows.length+bs (λj=>W j*T.v j) lp.aj.length=if wc then lp.nh T.v else 0:=by
 rw[<-Q0,QZ wc y T.v,Rat.add_comm];congr 1
 ·exact eB λj aH=>by rw[aB j aH]
 ·exact eB λi ad=>by rw[bu i ad,aab h ad]
theorem azR(hm:lp.dP=true)(h:Inv lp.aX T)(bc:uE lp.aX T)(he:enters lp.aX lp.cs T=none){y:Nat->Rat}(bu:∀i,i<lp.rows.length->y i=lu lp.aX T (red lp.aX lp.cs T) (lp.aj.length+i)):sX lp true y (lp.nh T.v):=by
 have aB:∀j,j<lp.aj.length->gD lp true y j=lu lp.aX T (red lp.aX lp.cs T) j:=λj aH=>by
  have U:=ZF (c:=lp.cs) h (j:=j) aH;rw[Z9 h.bj (red lp.aX lp.cs T) aH]at U;have e:bs (λi=>y i*lp.aX.A i j) lp.rows.length=bs (λi=>lu lp.aX T (red lp.aX lp.cs T) (lp.aX.n+i)*lp.aX.A i j) lp.aX.m:=eB λi ad=>by rw[bu i ad];rfl
  unfold gD;rw[e];show lp.cs j-_=_;rw[U];grind
 have kg:=cert hm (wc:=true) (β:=T.v) bu aB λx az aD=>by
  rcases Km h.bj (red lp.aX lp.cs T) x with⟨k,ag,ao,e2⟩ | ⟨_,e2⟩
  ·rw[e2]at aD|-;have:=FI he k ag;simp only[Bool.and_eq_false_iff,decide_eq_false_iff_not]at this;rw[<-ao];exact aaa aD (this.resolve_left λh=>h aD) (bc _ (by rw[ao];exact az))
  ·exact absurd e2 aD
 rw[aac h (wc:=true) bu aB]at kg;exact kg
theorem uE.fits(hm:lp.dP=true)(h:Inv lp.aX T)(bc:uE lp.aX T):sW lp T.v:=by
 refine⟨λj aH=>?_,λi ad=>?_⟩
 ·obtain⟨U,aa⟩:=bc j (show j<lp.aj.length+lp.rows.length by omega);rw[Ag aH]at U;rw[Ah aH]at aa;exact⟨λe=>U _ (by rw[gT,aU e]),λe=>aa _ (by rw[gT,aU e])⟩
 ·obtain⟨U,aa⟩:=bc (lp.aj.length+i) (show lp.aj.length+i<lp.aj.length+lp.rows.length by omega);rw[CW]at U;rw[CX]at aa;rw[aab h ad];have aF:isNum (lp.row i).rhs=true:=by
   have:=Kb hm ad;simp only[k8,cG]at this;exact this.2.1
  have dr:(lp.row i).rhs≠[]:=by
   intro e;rw[e]at aF;simp[isNum,Jj]at aF
  have aS:gT (lp.row i).rhs=some (rd (lp.row i).rhs):=by rw[gT,aU dr]
  refine⟨λav=>aa _ (by rw[aU (by omega)];exact aS),λaQ=>U _ (by rw[aU (by omega)];exact aS),λav aQ=>?_⟩;have a:=aa _ (by rw[aU aQ];exact aS);have b:=U _ (by rw[aU av];exact aS);grind
end
section
variable{lp:bD}{T:b8}{P:cr}
def jJ(P:cr)(T:b8)(a x:Nat):Rat:=(off P T.v (T.rows a):Rat)*ind (T.rows a) x+lu P T (mH P T a) x
theorem Q3{a k:Nat}(au:off P T.v (T.rows a)≠0):mH P T a k=-((off P T.v (T.rows a):Rat)*T.M a k):=by
 unfold mH
 rcases Ab au with e | e<;>rw[e]
 ·simp
 ·simp;grind
theorem Kn{a:Nat}(h:fh P T)(aN:a<P.m):jJ P T a (T.rows a)=(off P T.v (T.rows a):Rat):=by
 rw[jJ,Z' λk ag e=>h.rc a k aN ag e.symm,ind,bm rfl,Rat.mul_one,bZP]
theorem Q4{a x:Nat}(az:x≠T.rows a):jJ P T a x=lu P T (mH P T a) x:=by
 rw[jJ,ind,aU (Ne.symm az),bZJ,bXM]
def yq(P:cr)(T:b8)(a x:Nat):Rat:=if x=T.rows a then goal P (T.rows a) (off P T.v (T.rows a)) else T.v x
def qP(P:cr)(T:b8)(a:Nat):Rat:=(off P T.v (T.rows a):Rat)*(goal P (T.rows a) (off P T.v (T.rows a))-T.v (T.rows a))
theorem azS{a:Nat}(au:off P T.v (T.rows a)≠0):0<qP P T a:=by
 unfold qP goal
 rcases yj au with⟨e,l,aO,h⟩ | ⟨e,l,aO,h⟩<;>rw[e]
 ·rw[aU (by decide),aO];simp;grind
 ·rw[bm (by decide),aO];simp;grind
theorem azT(hm:lp.dP=true)(h:Inv lp.aX T)(aF:Aa lp.aX T){a:Nat}(hw:uC lp.aX T=some a)(c9:sP lp.aX T a (off lp.aX T.v (T.rows a))=none){y:Nat->Rat}(bu:∀i,i<lp.rows.length->y i=jJ lp.aX T a (lp.aj.length+i)):sX lp false y (qP lp.aX T a):=by
 obtain⟨aN,au,_⟩:=zWd hw;have au:off lp.aX T.v (T.rows a)≠0:=by simpa using au
 have nU:=h.bj.r a aN;have aB:∀j,j<lp.aj.length->gD lp false y j=jJ lp.aX T a j:=λj aH=>by
  have ao:=Z9 h.bj (mH lp.aX T a) (j:=j) aH;have e2:=Z8 (P:=lp.aX) nU (j:=j) aH;have bd:=QF h aN (j:=j) aH;have b1:bs (λk=>mH lp.aX T a k*form lp.aX (T.aj k) j) lp.aX.n=-((off lp.aX T.v (T.rows a):Rat)*form lp.aX (T.rows a) j):=by
   have:=jl (-(off lp.aX T.v (T.rows a):Rat)) (λk=>T.M a k*form lp.aX (T.aj k) j) lp.aX.n;rw[bd];rw[show -((off lp.aX T.v (T.rows a):Rat)*bs (λk=>T.M a k*form lp.aX (T.aj k) j) lp.aX.n)=-(off lp.aX T.v (T.rows a):Rat)*bs (λk=>T.M a k*form lp.aX (T.aj k) j) lp.aX.n by grind,<-this];exact eB λk _=>by rw[Q3 au];grind
  have cK:bs (λi=>y i*lp.aX.A i j) lp.rows.length=(off lp.aX T.v (T.rows a):Rat)*bs (λi=>ind (T.rows a) (lp.aX.n+i)*lp.aX.A i j) lp.aX.m+bs (λi=>lu lp.aX T (mH lp.aX T a) (lp.aX.n+i)*lp.aX.A i j) lp.aX.m:=by
   rw[<-jl,<-pC];refine eB λi ad=>?_;rw[bu i ad];show jJ lp.aX T a (lp.aX.n+i)*_=_;unfold jJ;grind
  unfold gD;rw[cK];show(0:Rat)-_=_;rw[jJ];rw[b1]at ao;rw[e2]at ao;grind
 have kg:=cert hm (wc:=false) (β:=yq lp.aX T a) bu aB λx az aD=>by
  by_cases e:x=T.rows a
  ·subst e;rw[Kn h.bj aN]at aD|-;unfold yq goal want;rw[bm rfl]
   rcases yj au with⟨e,l,aO,_⟩ | ⟨e,l,aO,_⟩<;>rw[e]
   ·rw[aU (by decide),aU (by decide),aO];rfl
   ·rw[bm (by decide),bm (by decide),aO];rfl
  ·rw[Q4 e]at aD|-;unfold yq;rw[aU e]
   rcases Km h.bj (mH lp.aX T a) x with⟨k,ag,ao,e2⟩ | ⟨_,e2⟩
   ·rw[e2]at aD|-;have af:=FI c9 k ag;simp only[Bool.and_eq_false_iff,decide_eq_false_iff_not]at af;rw[<-ao];have dp:T.M a k≠0:=by
     intro dp;rw[Q3 au,dp]at aD;exact aD (by grind)
    have af:=af.resolve_left λh=>h dp;refine aaa aD ?_ (aF k ag);have:-cT (mH lp.aX T a k)=off lp.aX T.v (T.rows a)*cT (T.M a k):=by
     rw[Q3 au]
     rcases Ab au with e | e<;>rw[e]
     ·rcases lq dp with⟨U,ao⟩ | ⟨U,ao⟩<;>rw[ao]
      ·have:cT (-(((1:Int):Rat)*T.M a k))=-1:=by unfold cT;rw[bm (by simp;grind)]
       rw[this];rfl
      ·have:cT (-(((1:Int):Rat)*T.M a k))=1:=by unfold cT;rw[aU (by simp;grind),aU (by simp;grind)]
       rw[this];rfl
     ·rcases lq dp with⟨U,ao⟩ | ⟨U,ao⟩<;>rw[ao]
      ·have:cT (-(((-1:Int):Rat)*T.M a k))=1:=by unfold cT;rw[aU (by simp;grind),aU (by simp;grind)]
       rw[this];rfl
      ·have:cT (-(((-1:Int):Rat)*T.M a k))=-1:=by unfold cT;rw[bm (by simp;grind)]
       rw[this];rfl
    rw[this];exact af
   ·exact absurd e2 aD
 have aD:=aac h (wc:=false) bu aB;simp only[oc,if_false]at aD;have az:∀x,jJ lp.aX T a x*yq lp.aX T a x=jJ lp.aX T a x*T.v x+qP lp.aX T a*ind (T.rows a) x:=λx=>by
  by_cases e:x=T.rows a
  ·subst e;rw[Kn h.bj aN];unfold yq ind qP;rw[bm rfl,bm rfl];grind
  ·unfold yq ind;rw[aU e,aU (Ne.symm e)];grind
 have ao:bs (λi=>jJ lp.aX T a (lp.aj.length+i)*yq lp.aX T a (lp.aj.length+i)) lp.rows.length=bs (λi=>jJ lp.aX T a (lp.aj.length+i)*T.v (lp.aj.length+i)) lp.rows.length+qP lp.aX T a*bs (λi=>ind (T.rows a) (lp.aj.length+i)) lp.rows.length:=by
  rw[<-jl,<-pC];exact eB λi _=>az _
 have e2:bs (λj=>jJ lp.aX T a j*yq lp.aX T a j) lp.aj.length=bs (λj=>jJ lp.aX T a j*T.v j) lp.aj.length+qP lp.aX T a*bs (λj=>ind (T.rows a) j) lp.aj.length:=by
  rw[<-jl,<-pC];exact eB λi _=>az _
 have nU:T.rows a<lp.aj.length+lp.rows.length:=nU;have bd:bs (λi=>ind (T.rows a) (lp.aj.length+i)) lp.rows.length+bs (λj=>ind (T.rows a) j) lp.aj.length=1:=by
  by_cases an:T.rows a<lp.aj.length
  ·rw[rN (f:=λi=>ind (T.rows a) (lp.aj.length+i)) λi _=>by show ind _ _=0;rw[ind,aU (by omega)],qL (f:=λj=>ind (T.rows a) j) an λi _ aF=>by show ind _ _=0;rw[ind,aU (Ne.symm aF)]];show 0+ind _ _=1;rw[ind,bm rfl,bXM]
  ·rw[qL (f:=λi=>ind (T.rows a) (lp.aj.length+i)) (j:=T.rows a-lp.aj.length) (by omega) λi _ aF=>by show ind _ _=0;rw[ind,aU (by omega)],rN (f:=λj=>ind (T.rows a) j) λi ad=>by show ind _ _=0;rw[ind,aU (by omega)]];show ind _ _+0=1;rw[ind,bm (by omega),bZP]
 rw[ao,e2]at kg;have:bs (λi=>jJ lp.aX T a (lp.aj.length+i)*T.v (lp.aj.length+i)) lp.rows.length+qP lp.aX T a*bs (λi=>ind (T.rows a) (lp.aj.length+i)) lp.rows.length+(bs (λj=>jJ lp.aX T a j*T.v j) lp.aj.length+qP lp.aX T a*bs (λj=>ind (T.rows a) j) lp.aj.length)=qP lp.aX T a:=by grind
 rw[this]at kg;exact kg
theorem azU(h:fh P T){col:Nat}{way:Int}(af:col<P.n)(hw:way=1∨way=-1)(iE:(fv P T col way P.m).gH=none){x:Nat}(az:x<P.n+P.m):(0<kU P T col way x->P.up x=none)/\(kU P T col way x<0->P.lo x=none):=by
 obtain⟨n1,fU⟩:=(J1 P T col way P.m).FT iE;have uI:∀{x:Nat} {w:Int},room P T.v x w=none->(w=1->P.up x=none)/\(w=-1->P.lo x=none):=λ{x w} an=>by
  constructor
  ·rintro rfl
   cases e:P.up x with
   | none=>rfl
   | some u=>rw[JX e]at an;cases an
  ·rintro rfl
   cases e:P.lo x with
   | none=>rfl
   | some u=>rw[JY e]at an;cases an
 rcases h.mE x az with⟨i,ad,rfl⟩ | ⟨k,ag,rfl⟩
 ·rw[CT h af ad];by_cases dp:T.M i col=0
  ·rw[dp,lE];exact⟨λh=>absurd h (by decide),λh=>absurd h (by decide)⟩
  ·have an:=fU i ad dp;have aC:=oU dp;rw[bYp]
   rcases CR hw dp with⟨ao,e2⟩ | ⟨ao,e2⟩<;>rw[e2]
   ·exact⟨λ_=>(uI an).1 ao,λh=>by grind⟩
   ·exact⟨λh=>by grind,λ_=>(uI an).2 ao⟩
 ·rw[uF h af ag];by_cases e:k=col
  ·subst e;rw[bm rfl]
   rcases hw with rfl | rfl
   ·exact⟨λ_=>(uI n1).1 rfl,λh=>absurd h (by decide)⟩
   ·exact⟨λh=>absurd h (by decide),λ_=>(uI n1).2 rfl⟩
  ·rw[aU e];exact⟨λh=>absurd h (by decide),λh=>absurd h (by decide)⟩
theorem azV(hm:lp.dP=true)(h:Inv lp.aX T){col:Nat}(he:enters lp.aX lp.cs T=some col)(iE:(fv lp.aX T col (gl lp.aX lp.cs T col) lp.aX.m).gH=none):Ai lp (kU lp.aX T col (gl lp.aX lp.cs T col)):=by
 obtain⟨af,gy,_⟩:=zWd he;simp only[cG,eh]at gy;have hw:gl lp.aX lp.cs T col=1∨gl lp.aX lp.cs T col=-1:=by
  unfold gl
  rcases lq gy.1 with⟨_,e⟩ | ⟨_,e⟩<;>rw[e]<;>simp
 have eW:=λx az=>azU h.bj af hw iE (x:=x) az;refine⟨λj aH=>?_,λi ad=>?_,?_⟩
 ·obtain⟨f1,f2⟩:=eW j (show j<lp.aj.length+lp.rows.length by omega);rw[Ah aH]at f1;rw[Ag aH]at f2;exact⟨λe=>hA.1 λbO=>e (QL.1 (f2 bO)),λe=>hA.1 λbO=>e (QL.1 (f1 bO))⟩
 ·obtain⟨f1,f2⟩:=eW (lp.aj.length+i) (show lp.aj.length+i<lp.aj.length+lp.rows.length by omega);have Pg:nw lp (kU lp.aX T col (gl lp.aX lp.cs T col)) i=kU lp.aX T col (gl lp.aX lp.cs T col) (lp.aj.length+i):=(Qu h af i ad).symm;rw[Pg];rw[CX]at f1;rw[CW]at f2;have dr:(lp.row i).rhs≠[]:=by
   intro e;have:=Kb hm ad;simp only[k8,cG]at this;rw[e]at this;simp[isNum,Jj]at this
  have aS:¬gT (lp.row i).rhs=none:=λe=>dr (QL.1 e);have u:(lp.row i).kind≠3->kU lp.aX T col (gl lp.aX lp.cs T col) (lp.aj.length+i)<=0:=λaQ=>hA.1 λbO=>by
   have:=f1 bO;rw[aU aQ]at this;exact aS this
  have l:(lp.row i).kind≠1->0<=kU lp.aX T col (gl lp.aX lp.cs T col) (lp.aj.length+i):=λav=>hA.1 λbO=>by
   have:=f2 bO;rw[aU av]at this;exact aS this
  exact⟨λav=>u (by omega),λaQ=>l (by omega),λav aQ=>by have a:=u aQ;have b:=l av;grind⟩
 ·have e:=Zw (c:=lp.cs) h (way:=gl lp.aX lp.cs T col) af;have e2:lp.nh (kU lp.aX T col (gl lp.aX lp.cs T col))=obj lp.aX lp.cs (kU lp.aX T col (gl lp.aX lp.cs T col)):=rfl;rw[e2,e];unfold gl
  rcases lq gy.1 with⟨aD,e⟩ | ⟨aD,e⟩<;>rw[e]
  ·simp;grind
  ·simp;grind
end
section
variable{lp:bD}{T:b8}{P:cr}
theorem aad:dB 0=[48]:=by
 have:Lib.decDigits 0=[48]:=by rw[Lib.decDigits_one (by decide)];rfl
 simp[dB,this]
theorem azW:dB 1=[49]:=by
 have:Lib.decDigits 1=[49]:=by rw[Lib.decDigits_one (by decide)];rfl
 have h:¬(1:Rat)<0:=by decide
 simp[dB,this,h]
theorem azX:dB (-1)=[45,49]:=by
 have:Lib.decDigits 1=[49]:=by rw[Lib.decDigits_one (by decide)];rfl
 have h:(-1:Rat)<0:=by decide
 have U:(-1:Rat).num.natAbs=1:=by decide
 have aa:(-1:Rat).den=1:=by decide
 simp[dB,this,h, aa]
theorem aae{d:Nat->Rat}{i:Nat}:∀{K:Nat},(∀k,k<K->T.aj k≠P.n+i)->rS P T d K i=[48]
 | 0,_=>rfl
 | K+1,h=>by rw[rS,aU (h K (by omega)),aae λk ag=>h k (by omega)]
theorem aaf(bj:fh P T){d:Nat->Rat}{i k:Nat}:∀{K:Nat},K<=P.n->k<K->T.aj k=P.n+i->rS P T d K i=dB (d k)
 | K+1,db,ag,e=>by
   rw[rS];by_cases h:k=K
   ·subst h;rw[bm e]
   ·rw[aU λe2=>h (bj.ci k K (by omega) (by omega) (e.trans e2.symm)),aaf bj (by omega) (by omega) e]
theorem aag(bj:fh P T)(d:Nat->Rat)(i:Nat):rS P T d P.n i=dB (lu P T d (P.n+i)):=by
 rcases Km bj d (P.n+i) with⟨k,ag,ao,e2⟩ | ⟨h,e⟩
 ·rw[e2,aaf bj (bR _) ag ao]
 ·rw[e,aae h,aad]
theorem aah(bj:fh P T){a:Nat}(aN:a<P.m)(au:off P T.v (T.rows a)≠0)(i:Nat):qQ P T a i=dB (jJ P T a (P.n+i)):=by
 unfold qQ;by_cases h:T.rows a=P.n+i
 ·rw[bm h,<-h,Kn bj aN]
  rcases Ab au with e | e<;>rw[e]
  ·rw[bm (by decide)];exact azW.symm
  ·rw[aU (by decide)];exact azX.symm
 ·rw[aU h,Q4 (Ne.symm h),aag bj]
theorem aai(bj:fh P T){col:Nat}{way:Int}{i:Nat}(ad:i<P.m):∀{K:Nat},K<=P.m->i<K->oX T col way K (T.rows i)=dB (T.M i col*(way:Rat))
 | K+1,db,h=>by
   rw[oX];by_cases e:i=K
   ·subst e;rw[bm rfl]
   ·rw[aU λe2=>e (bj.qM i K ad (by omega) e2),aai bj ad (by omega) (by omega)]
theorem aaj(bj:fh P T){col:Nat}{way:Int}(af:col<P.n){k:Nat}(ag:k<P.n):∀{K:Nat},K<=P.m->oX T col way K (T.aj k)=dB (if k=col then(way:Rat) else 0)
 | 0,_=>by
   rw[oX];by_cases e:k=col
   ·subst e;rw[bm rfl,bm rfl]
   ·rw[aU λe2=>e (bj.ci k col ag af e2),aU e,aad]
 | K+1,db=>by rw[oX,aU λe=>bj.rc K k (by omega) ag e.symm,aaj bj af ag (by omega)]
theorem azY(bj:fh P T){col:Nat}{way:Int}(af:col<P.n){x:Nat}(az:x<P.n+P.m):oX T col way P.m x=dB (kU P T col way x):=by
 rcases bj.mE x az with⟨i,ad,rfl⟩ | ⟨k,ag,rfl⟩
 ·rw[CT bj af ad,aai bj ad (bR _) ad]
 ·rw[uF bj af ag,aaj bj af ag (bR _)]
theorem Aj{m:Nat}{f:Nat->Rat}{i:Nat}(ad:i<m)(h:cP kV (f i)):e1 ((List.range m).map λi=>dB (f i)) i=f i:=by
 unfold e1;rw[ob,bZE,bYJ ad];exact h.rd
theorem CY(hm:lp.dP=true){m:Nat}{f:Nat->Rat}(h:∀i,i<m->cP kV (f i)):h5 lp ((List.range m).map λi=>dB (f i)) m=true:=by
 unfold h5;rw[hm];simp only[bYS,bXB,decide_true,Bool.and_true];rw[hz];intro s aG;obtain⟨i,ad,rfl⟩:=bZT.1 aG;exact(h i (bXe.1 ad)).isNum
theorem F'{m:Nat}(hm:m<=1000){f:Nat->Rat}(h:∀i,i<m->cP kV (f i)):qy ((List.range m).map λi=>dB (f i)):=by
 refine⟨by simp;omega,λs aG=>?_⟩;obtain⟨i,ad,rfl⟩:=bZT.1 aG;exact(h i (bXe.1 ad)).len
theorem sW.congr{x cZ:Nat->Rat}(h:sW lp x)(e:∀j,j<lp.aj.length->cZ j=x j):sW lp cZ:=
 ⟨λj aH=>by rw[e j aH];exact h.c j aH,λi ad=>by
  rw[show nw lp cZ i=nw lp x i from eB λj aH=>by rw[e j aH]];exact h.r i ad⟩
theorem aak{x cZ:Nat->Rat}(e:∀j,j<lp.aj.length->cZ j=x j):lp.nh cZ=lp.nh x:=eB λj aH=>by rw[e j aH]
theorem Ai.congr{x cZ:Nat->Rat}(h:Ai lp x)(e:∀j,j<lp.aj.length->cZ j=x j):Ai lp cZ:=
 ⟨λj aH=>by rw[e j aH];exact h.c j aH,λi ad=>by
  rw[show nw lp cZ i=nw lp x i from eB λj aH=>by rw[e j aH]];exact h.r i ad,by rw[aak e];exact h.n⟩
theorem Q5{B:Nat}{q:Rat}(h:cP B q):cP B (-q):=by
 unfold cP at*
 rw[Rat.neg_num,Rat.neg_den,Int.natAbs_neg];exact h
theorem aal{B:Nat}(h:1<=B):cP B 1:=⟨h,h⟩
theorem aam{B:Nat}(dC:1<=B){w:Int}(h:w=1∨w=-1):cP B (w:Rat):=by
 rcases h with rfl | rfl
 ·exact aal dC
 ·exact Q5 (aal dC)
theorem aan{B:Nat}{q:Rat}(h:cP B q){w:Int}(hw:w=1∨w=-1):cP B (q*(w:Rat)):=by
 rcases hw with rfl | rfl
 ·have:q*((1:Int):Rat)=q:=by simp
  rw[this];exact h
 ·have:q*((-1:Int):Rat)=-q:=by simp;grind
  rw[this];exact Q5 h
theorem Ko:1<=kV:=bUS 1900
theorem aao(bj:fh P T){e:Nat->Rat}{B:Nat}(dC:1<=B)(h:∀k,k<P.n->cP B (e k))(x:Nat):cP B (lu P T e x):=by
 rcases Km bj e x with⟨k,ag,_,e2⟩ | ⟨_,e2⟩
 ·rw[e2];exact h k ag
 ·rw[e2];exact Af dC
theorem azZ{a b:Nat}{p q:Rat}(aC:cP a p)(aV:cP b q):cP (a*b+b*a) (p-q):=by
 have e:(p-q)*((p.den:Rat)*(q.den:Rat))=((p.num*q.den-q.num*p.den:Int):Rat):=by
  simp only[Rat.intCast_sub,bXk,<-Ad p,<-Ad q,q3];grind
 refine FW e ⟨_,rfl,?_⟩ (⟨((p.den*q.den:Nat):Int),?_,bR _⟩:fz _ (p.den*q.den)) ?_ (bR _) ?_
 ·refine bH (Int.natAbs_sub_le _ _) ?_;rw[bYc,bYc];exact Nat.add_le_add (ie aC.1 aV.2) (ie aV.1 aC.2)
 ·rw[q3,Rat.natCast_mul]
 ·intro h
  rcases bYu.1 h with h | h
  ·exact p.den_nz (by exact_mod_cast h)
  ·exact q.den_nz (by exact_mod_cast h)
 ·exact bH (ie aC.2 aV.2) (hS _ _)
end
end Go.Dam.C
