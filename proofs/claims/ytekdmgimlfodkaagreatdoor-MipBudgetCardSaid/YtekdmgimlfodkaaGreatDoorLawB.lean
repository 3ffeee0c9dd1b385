/- What the functions of the program compute, for every input. -/
import Derived.Test.YtekdmgimlfodkaaGreatDoorLawA
import Derived.Lib.ItoaNum
import Derived.Lib.ParseIntB
import Derived.Lib.SlTrimSet
import Derived.Lib.Repeat
namespace Go.Dam.C
open Go Go.Dam
variable{X:aY}{pm:Perm}{H H':ah}
section
variable[cn]
theorem abc(al:fa X)(au:cU pm H){x y:Nat}(az:x<18446744073709551616)(bu:y<18446744073709551616):
 Call X pm F.uL [.int .u64 (x:Int),.int .u64 (y:Int)] H λr H'=>b6 pm H H'/\r=.int .u64 ((Nat.gcd x y:Nat):Int):=by
 refine Call.has al.uL rfl ?_;simp;refine hv.of (λs:Nat×Nat=>[(0,.int .u64 (s.1:Int)),(1,.int .u64 (s.2:Int))]) (λs H'=>b6 pm H H'/\s.1<18446744073709551616/\s.2<18446744073709551616/\Nat.gcd x y=Nat.gcd s.1 s.2) (λs=>s.2) (x,y) (by simp) ⟨b6.refl au,az,bu,rfl⟩ ?_;rintro⟨a,b⟩ H1 ⟨av,aN,ai,aK⟩;simp only at aN ai aK;by_cases fE:b=0
 ·subst fE;simp;exact⟨av,by rw[aK,Nat.gcd_zero_right]⟩
 ·have an:=Rn .u64 (a:Int) (b:Int) (by omega);have df:((a:Int)).tmod (b:Int)=((a%b:Nat):Int):=rfl;obtain⟨r,jg⟩:=bZa (a%b);rw[df,<-jg]at an;simp[fE];refine eg.E7 av.ok rfl rfl rfl ?_;simp[an];have n6:r<b:=by rw[jg];exact bYT _ (by omega)
  refine .of (b,r) (by simpa using n6) (by simp) ⟨av.up _,ai,by show r<_;omega,?_⟩;show Nat.gcd x y=Nat.gcd b r;rw[aK,jg,bXh a b,Nat.gcd_rec b a,bXh]
end
theorem aBP{q:Nat}(z:Nat):Nat.Coprime (2^z) (2*q+1):=by
 apply Nat.Coprime.pow_left;show Nat.gcd 2 (2*q+1)=1;rw[Nat.gcd_rec];have:(2*q+1)%2=1:=by omega
 rw[this];rfl
theorem RF{z p q:Nat}:Nat.gcd (2^z*(2*p+1)) (2*q+1)=Nat.gcd (2*p+1) (2*q+1):=Nat.Coprime.gcd_mul_left_cancel _ (aBP z)
theorem gcd_both{ny zb p q:Nat}:Nat.gcd (2^ny*(2*p+1)) (2^zb*(2*q+1))=2^min ny zb*Nat.gcd (2*p+1) (2*q+1):=by
 rcases Nat.le_total ny zb with h | h
 ·rw[bXR h];have e:2^zb*(2*q+1)=2^ny*(2^(zb-ny)*(2*q+1)):=by rw[<-og,<-hT,show ny+(zb-ny)=zb by omega]
  rw[e,Nat.gcd_mul_left,bXh (2*p+1),RF,bXh]
 ·rw[Nat.min_eq_right h];have e:2^ny*(2*p+1)=2^zb*(2^(ny-zb)*(2*p+1)):=by rw[<-og,<-hT,show zb+(ny-zb)=ny by omega]
  rw[e,Nat.gcd_mul_left,RF]
section
variable[cn]
theorem c6.out{v:Value}{n:Nat}(h:c6 H v n):∃ds,gm H v ds/\strip ds=ds/\bb ds=n:=h.ex
end
theorem i'{n k:Nat}{ds:List Nat}(aG:strip ds=ds)(aF:bb ds=n)(h:n<4294967296^k):ds.length<=k:=yt aG (by rw[aF];exact h)
theorem aBQ{n z q:Nat}(h:n=2^z*(2*q+1)):n/2^z=2*q+1:=by rw[h,Nat.mul_div_cancel_left _ (lC z)]
section
variable[cn]
theorem RG(al:fa X)(au:cU pm H){v:Value}{n z q:Nat}{k:Nat}(h:c6 H v n)(aF:n<4294967296^k)(ag:k<1073741824)(bl:n=2^z*(2*q+1))(jy:z<=34359738368):
 Call X pm F.qS [v,.int .i64 (z:Int)] H λr H'=>b6 pm H H'/\c6 H' r (2*q+1):=by
 obtain⟨ds,U,aa,aq⟩:=h.out;refine(aaB al au U (by have:=i' aa aq aF;omega) (k:=z) (by omega)).mono ?_;rintro r H' ⟨av,es,ao,e2,bd,b1⟩;refine⟨av,?_⟩;have:bb es=2*q+1:=by rw[bd,aq,aBQ bl]
 rw[<-this];exact ao.nat
end
theorem abd{z y p q:Nat}(h:2^z*(2*p+1)=2^y*(2*q+1)):¬z<y:=by
 intro bO;rw[show y=z+(y-z-1+1) by omega,hT,og]at h;have:=Nat.eq_of_mul_eq_mul_left (lC z) h;rw[bZm,gw (2^_) 2,og]at this;omega
theorem abe{z y p q:Nat}(h:2^z*(2*p+1)=2^y*(2*q+1)):z=y/\p=q:=by
 have U:=abd h;have aa:=abd h.symm;obtain rfl:z=y:=by omega
 have:=Nat.eq_of_mul_eq_mul_left (lC z) h;exact⟨rfl,by omega⟩
theorem aBR(k:Nat):(4294967296:Nat)^k=2^(32*k):=by rw[show(4294967296:Nat)=2^32 by rfl,<-bXi]
section
variable[cn]
def wR(pm:Perm)(H:ah)(t n:Nat):c':=λx l H'=>(x=gr.normal∨x=gr.ret)/\∃vs,nb l H' [.slot t]=some vs/\(b6 pm H H'/\c6 H' (j5 vs) n)
theorem aBS(al:fa X)(au:cU pm H){v w:Value}{n m k:Nat}(aw:c6 H v n)(hw:c6 H w m)(aF:n<4294967296^k)(hm:m<4294967296^k)(ag:k<268435456)(mS:n≠0)(ft:m≠0):
 Call X pm F.wG [v,w] H λr H'=>b6 pm H H'/\c6 H' r (Nat.gcd n m):=by
 obtain⟨a,aN,jQ,hX⟩:=aw.out;obtain⟨b,ai,hZ,hL⟩:=hw.out;have ir:=i' jQ hX aF;have iM:=i' hZ hL hm;refine Call.has al.wG rfl ?_;show wp X pm _ _ _ _ (wR pm H 4 (Nat.gcd n m));simp[-qW];refine aR.bZb (Gh al aN (by omega)) ?_;rintro _ H ⟨rfl,ny,rfl,aG3,KS⟩;simp[-qW];refine aR.bZb (Gh al ai (by omega)) ?_;rintro _ H ⟨rfl,zb,rfl,Dk,jy⟩;obtain⟨p,aC⟩:∃p,n=2^ny*(2*p+1):=by
  rcases KS with⟨h,_⟩ | ⟨q,h⟩
  ·exact absurd (hX.symm.trans h) mS
  ·exact⟨q,by rw[<-hX];exact h⟩
 obtain⟨q,aV⟩:∃q,m=2^zb*(2*q+1):=by
  rcases jy with⟨h,_⟩ | ⟨q,h⟩
  ·exact absurd (hL.symm.trans h) ft
  ·exact⟨q,by rw[<-hL];exact h⟩
 obtain⟨z0,qj⟩:=bZa (min ny zb);have df:(if zb<ny then(zb:Int) else(ny:Int))=(z0:Int):=by rw[qj];split<;>omega
 simp[-qW,df];refine aR.bZb (Gh al aN (by omega)) ?_;rintro _ H ⟨rfl,aBT,rfl,aBU,abf⟩;obtain⟨yk,ri⟩:∃p,n=2^aBT*(2*p+1):=by
  rcases abf with⟨h,_⟩ | ⟨q,h⟩
  ·exact absurd (hX.symm.trans h) mS
  ·exact⟨q,by rw[<-hX];exact h⟩
 simp[-qW];refine aR.bZb (RG al au aw aF (by omega) ri aBU) ?_;rintro v1 H1 ⟨av,mj⟩;simp[-qW];refine aR.bZb (Gh al (ai.bT au av) (by omega)) ?_;rintro _ H1 ⟨rfl,aBV,rfl,aBW,abg⟩;obtain⟨kv,ju⟩:∃q,m=2^aBV*(2*q+1):=by
  rcases abg with⟨h,_⟩ | ⟨q,h⟩
  ·exact absurd (hL.symm.trans h) ft
  ·exact⟨q,by rw[<-hL];exact h⟩
 simp[-qW];refine aR.bZb (RG al av.ok (hw.bT au av) hm (by omega) ju aBW) ?_;rintro cS aJ ⟨aI,eo⟩;obtain⟨rfl,rfl⟩:=abe (aC.symm.trans ri);obtain⟨rfl,rfl⟩:=abe (aV.symm.trans ju);clear KS jy abf abg;have B3:2*p+1<=n:=by rw[aC];exact bWK _ (lC _)
 have aG4:z0<8589934592:=by
  have U:2^ny<=n:=by rw[aC];exact bWJ _ (by omega)
  rw[aBR]at aF;have:=(bXp (by omega:1<2)).1 (eD U aF);omega
 have Ar:2*q+1<=m:=by rw[aV];exact bWK _ (lC _)
 simp[-qW]
 refine hv.of (λs:Value×Value×Nat×Nat=>[(0,s.1),(1,s.2.1),(5,.int .i64 (z0:Int))])
  (λs H'=>b6 pm H H'/\c6 H' s.1 (2*s.2.2.1+1)/\c6 H' s.2.1 (2*s.2.2.2+1)/\Nat.gcd n m=2^z0*Nat.gcd (2*s.2.2.1+1) (2*s.2.2.2+1)/\2*s.2.2.1+1<4294967296^k/\2*s.2.2.2+1<4294967296^k) (λs=>s.2.2.1+s.2.2.2) (v1,cS,p,q) (by simp)
  ⟨av.trans aI,mj.bT av.ok aI,eo,by simp only;rw[aC,aV,gcd_both,qj],by simp only;omega,by simp only;omega⟩ ?_
 rintro⟨v,w,x,y⟩ bN ⟨aQ,wP,uP,aK,mK,lx⟩;simp only at wP uP aK mK lx;obtain⟨xs,kR,jw,jP⟩:=wP.out;obtain⟨dz,rW,wS,pJ⟩:=uP.out;have yi:=i' jw jP mK;have Kq:=i' wS pJ lx;simp[-qW];refine aR.bZb (IP al kR rW (by omega) (by omega)) ?_;rintro _ bN ⟨rfl,rfl⟩;rw[jP,pJ]
 have key:∀(v w:Value) (x y:Nat) (l:bQ) (iQ:Value×Value×Nat×Nat),c6 bN v (2*x+1)->c6 bN w (2*y+1)->y<x->Nat.gcd n m=2^z0*Nat.gcd (2*x+1) (2*y+1)->2*x+1<4294967296^k->2*y+1<4294967296^k->x+y<=iQ.2.2.1+iQ.2.2.2->
  a7 0 l=some v->a7 1 l=some w->a7 5 l=some (.int .i64 (z0:Int))->wp X pm (.code qW) l bN [.bI 1] λcZ l' H'=>match cZ with
   | .normal=>rF (λs:Value×Value×Nat×Nat=>[(0,s.1),(1,s.2.1),(5,.int .i64 (z0:Int))])
    (λs H'=>b6 pm H H'/\c6 H' s.1 (2*s.2.2.1+1)/\c6 H' s.2.1 (2*s.2.2.2+1)/\Nat.gcd n m=2^z0*Nat.gcd (2*s.2.2.1+1) (2*s.2.2.2+1)/\2*s.2.2.1+1<4294967296^k/\2*s.2.2.2+1<4294967296^k) (λs=>s.2.2.1+s.2.2.2) iQ l' H'
   | cZ=>wp X pm (.res cZ) l' H' [.bI 0] (wR pm H 4 (Nat.gcd n m)):=by
  clear wP uP aK mK lx kR jw jP rW wS pJ yi Kq;intro v w x y l iQ wP uP bO aK mK lx aG5 c0 ck lf;obtain⟨xs,kR,jw,jP⟩:=wP.out;obtain⟨dz,rW,wS,pJ⟩:=uP.out;have yi:=i' jw jP mK;have Kq:=i' wS pJ lx;simp[c0,ck];refine aR.bZb (Xa al aQ.ok kR rW (by omega) (by omega) wS) ?_;rintro _ cp ⟨bt,⟨h,_⟩ | ⟨_,r,ds,rfl,an,xN,Fv⟩⟩
  ·exact absurd h (by omega)
  have sQ:=an.nat;rw[Fv,jP,pJ]at sQ;obtain⟨d,aB⟩:=bZa (2*x+1-(2*y+1));rw[<-aB]at sQ;have gh:d≠0:=by omega
  obtain⟨es,aBX,aBY,RH⟩:=sQ.out;have rh:d<4294967296^k:=by omega
  have le:=i' aBY RH rh;simp;refine aR.bZb (Gh al aBX (by omega)) ?_;rintro _ cp ⟨rfl,z,rfl,bl,KS⟩;obtain⟨kv,ju⟩:∃q,d=2^z*(2*q+1):=by
   rcases KS with⟨h,_⟩ | ⟨q,h⟩
   ·exact absurd (RH.symm.trans h) gh
   ·exact⟨q,by rw[<-RH];exact h⟩
  have aG6:z≠0:=by
   rintro rfl;simp at ju;omega
  have Dh:2*(2*kv+1)<=d:=by
   rw[ju,show z=1+(z-1) by omega,hT,og];have:=bWK (2*kv+1) (lC (z-1));omega
  simp;refine aR.bZb (RG al bt.ok sQ rh (by omega) ju bl) ?_;rintro v5 cV ⟨cd,abh⟩;have abi:=(uP.bT aQ.ok bt).bT bt.ok cd;have aBZ:Nat.gcd (2*x+1) (2*y+1)=Nat.gcd (2*kv+1) (2*y+1):=by
   rw[<-Nat.gcd_sub_self_left (by omega:2*y+1<=2*x+1),<-aB,ju,RF]
  rw[aBZ]at aK;obtain⟨fs,sn,Py,Au⟩:=abh.out;obtain⟨gs,h4,eA,jU⟩:=abi.out;have ak:=i' Py Au (k:=k) (by omega);have aG7:=i' eA jU (k:=k) (by omega);obtain⟨yC,fx,aG8,rfl,KT,e8,hs⟩:=sn.block (by rintro rfl;simp[bb]at Au);obtain⟨Gs,aG9,aHa,rfl,xG,abj,Cl⟩:=h4.block (by rintro rfl;simp[bb]at jU);obtain⟨aHb,gM,rfl⟩:=hs.form;obtain⟨abk,gc,rfl⟩:=Cl.form;have bY:=(aQ.trans bt).trans cd
  have Is:∀l':bQ,a7 0 l'=some (.pointer (some ⟨yC,0,none⟩))->a7 1 l'=some (.pointer (some ⟨Gs,0,none⟩))->a7 5 l'=some (.int .i64 (z0:Int))->rF (λs:Value×Value×Nat×Nat=>[(0,s.1),(1,s.2.1),(5,.int .i64 (z0:Int))])
   (λs H'=>b6 pm H H'/\c6 H' s.1 (2*s.2.2.1+1)/\c6 H' s.2.1 (2*s.2.2.2+1)/\Nat.gcd n m=2^z0*Nat.gcd (2*s.2.2.1+1) (2*s.2.2.2+1)/\2*s.2.2.1+1<4294967296^k/\2*s.2.2.2+1<4294967296^k) (λs=>s.2.2.1+s.2.2.2) iQ l' cV:=by
   intro l' cY ao cK;refine .of (.pointer (some ⟨yC,0,none⟩),.pointer (some ⟨Gs,0,none⟩),kv,y) (by show kv+y<_;omega) (by simp[cY,ao,cK]) ⟨bY,abh,abi,aK,by show 2*kv+1<_;omega,lx⟩
  by_cases abl:fs.length<=2
  ·by_cases abm:gs.length<=2
   ·have Gt:¬2<fs.length:=by omega
    have RI:¬2<gs.length:=by omega
    have Mk:=s0 hs.1;have KU:=s0 Cl.1;have dC:(4294967296:Nat)^2=18446744073709551616:=rfl;have KV:bb fs<18446744073709551616:=by rw[<-dC];exact hR Mk (iH (by omega) abl)
    have KW:bb gs<18446744073709551616:=by rw[<-dC];exact hR KU (iH (by omega) abm)
    simp[KT,e8,xG,abj,Gt,RI,ck];refine aR.bZb (Ge al sn (by omega)) ?_;rintro _ cV ⟨rfl,rfl⟩;simp only[abl,if_true];simp[ck];refine aR.bZb (Ge al h4 (by omega)) ?_;rintro _ cV ⟨rfl,rfl⟩;simp only[abm,if_true];simp;refine aR.bZb (abc al cd.ok (x:=bb fs) (y:=bb gs) KV KW) ?_;rintro _ ep ⟨cv,rfl⟩;have RJ:Nat.gcd (bb fs) (bb gs)<=bb fs:=Nat.gcd_le_left _ (by omega);obtain⟨G,bA⟩:=bZa (Nat.gcd (bb fs) (bb gs));rw[<-bA]at RJ|-;simp;refine aR.bZb (IQ al cv.ok (x:=G) (by omega)) ?_;rintro PC hM ⟨dJ,RL⟩;simp[lf];refine aR.bZb (Ku al dJ.ok RL (eD (Q' _) (by simp)) (k:=z0) (by omega)) ?_;rintro abn ns ⟨jZ,d8,RM,_,Gu,_⟩;simp[wR];refine⟨bY.trans (cv.trans (dJ.trans jZ)),?_⟩;have:Nat.gcd n m=bb d8:=by rw[Gu,IS,bA,Au,jU,aK,gw]
    rw[this];exact RM.nat
   ·have Gt:¬2<fs.length:=by omega
    have RI:2<gs.length:=by omega
    simp[KT,e8,xG,abj,Gt,RI,ck];refine Is _ ?_ ?_ ?_<;>simp[ck,lf]
  ·have Gt:2<fs.length:=by omega
   simp[KT,e8,Gt];refine Is _ ?_ ?_ ?_<;>simp[ck,lf]
 by_cases heq:2*x+1=2*y+1
 ·have af:iu (2*x+1) (2*y+1)=0:=by simp[iu,heq]
  simp[af];refine aR.bZb (Ku al aQ.ok kR (by omega) (k:=z0) (by omega)) ?_;rintro abn ns ⟨jZ,d8,RM,_,Gu,_⟩;simp[wR];refine⟨aQ.trans jZ,?_⟩;have:Nat.gcd n m=bb d8:=by rw[Gu,jP,aK,<-heq,Nat.gcd_self,gw]
  rw[this];exact RM.nat
 ·by_cases bO:2*x+1<2*y+1
  ·have af:iu (2*x+1) (2*y+1)=-1:=by simp[iu,bO]
   simp[-qW,af];refine key w v y x _ (v,w,x,y) uP wP (by omega) (by rw[aK,bXh (2*y+1)]) lx mK (by simp;omega) ?_ ?_ ?_<;>simp
  ·have af:iu (2*x+1) (2*y+1)=1:=by unfold iu;rw[aU bO,aU heq]
   simp[-qW,af];refine key v w x y _ (v,w,x,y) wP uP (by omega) aK mK lx (by simp) ?_ ?_ ?_<;>simp
theorem avU(al:fa X)(au:cU pm H){v w:Value}{n m k:Nat}(aw:c6 H v n)(hw:c6 H w m)(aF:n<4294967296^k)(hm:m<4294967296^k)(ag:k<268435456):
 Call X pm F.wH [v,w] H λr H'=>b6 pm H H'/\c6 H' r (Nat.gcd n m):=by
 refine Call.has al.wH rfl ?_;show wp X pm _ _ _ _ (wR pm H 4 (Nat.gcd n m));simp[-r0];refine hv.of (λs:Value×Value×Nat×Nat=>[(5,s.1),(6,s.2.1)]) (λs H'=>b6 pm H H'/\c6 H' s.1 s.2.2.1/\c6 H' s.2.1 s.2.2.2/\Nat.gcd n m=Nat.gcd s.2.2.1 s.2.2.2/\s.2.2.1<4294967296^k/\s.2.2.2<4294967296^k) (λs=>s.2.2.2) (v,w,n,m) (by simp) ⟨b6.refl au,aw,hw,rfl,aF,hm⟩ ?_;rintro⟨v,w,x,y⟩ H1 ⟨av,mj,eo,aK,mK,lx⟩;simp only at mj eo aK mK lx;obtain⟨xs,kR,jw,jP⟩:=mj.out;obtain⟨dz,rW,wS,pJ⟩:=eo.out;have yi:=i' jw jP mK;have Kq:=i' wS pJ lx;simp[-r0];refine aR.bZb (Ge al kR (by omega)) ?_;rintro _ H1 ⟨rfl,rfl⟩
 have key:∀l:bQ,a7 5 l=some v->a7 6 l=some w->wp X pm (.code r0) l H1 [.bI 1] λcZ l' H'=>match cZ with
  | .normal=>rF (λs:Value×Value×Nat×Nat=>[(5,s.1),(6,s.2.1)]) (λs H'=>b6 pm H H'/\c6 H' s.1 s.2.2.1/\c6 H' s.2.1 s.2.2.2/\Nat.gcd n m=Nat.gcd s.2.2.1 s.2.2.2/\s.2.2.1<4294967296^k/\s.2.2.2<4294967296^k) (λs=>s.2.2.2) (v,w,x,y) l' H'
  | cZ=>wp X pm (.res cZ) l' H' [.bI 0] (wR pm H 4 (Nat.gcd n m)):=by
  intro l cK il;simp[il];refine aR.bZb (kW al.eK rW) ?_;rintro vb H1 ⟨rfl,h'⟩;obtain⟨oY,dZ,rfl⟩:=h'.form;by_cases yy:dz=[]
  ·subst yy;simp[cK];refine aR.bZb (kW al.eK kR) ?_;rintro va H1 ⟨rfl,eL⟩;simp;refine aR.bZb (qT al.fB av.ok eL (by omega)) ?_;rintro cB aJ ⟨aI,kB⟩;simp[wR];refine⟨av.trans aI,?_⟩;simp[bb]at pJ;rw[aK,<-pJ,Nat.gcd_zero_right,<-jP];exact kB.nat
  ·have aHc:0<dz.length:=bXr.2 yy;have abo:y≠0:=λh=>yy ((KH wS).1 (by rw[pJ,h]));simp[yy,cK];refine aR.bZb (kW al.eK kR) ?_;rintro va H1 ⟨rfl,eL⟩;obtain⟨ab,ac,rfl⟩:=eL.form;simp[il];refine aR.bZb (kW al.eK rW) ?_;rintro vb H1 ⟨rfl,h'⟩;obtain⟨oY,dZ,rfl⟩:=h'.form;by_cases aO:xs.length=dz.length
   ·simp[aO,cK,il];have Av:x≠0:=λh=>by
     have:xs=[]:=(KH jw).1 (by rw[jP,h]);rw[this]at aO;simp at aO;omega
    refine aR.bZb (aBS al av.ok mj eo mK lx ag Av abo) ?_;rintro cB aJ ⟨aI,kB⟩;simp[wR];exact⟨av.trans aI,by rw[aK];exact kB⟩
   ·have lS:¬((xs.length:Int)=(dz.length:Int)):=by omega
    simp[cK,il];refine⟨λ_=>?_,λh=>absurd h lS⟩;refine aR.bZb (Xb al av.ok kR rW jw wS (by omega) (by omega)) ?_;rintro _ aJ ⟨aI,⟨h,_⟩ | ⟨_,q,r,rfl,aV,an⟩⟩
    ·exact absurd (pJ.symm.trans h) abo
    rw[jP,pJ]at an;have bO:x%y<y:=bYT _ (by omega);simp[il];refine .of (w,r,y,x%y) (by simpa using bO) (by simp) ⟨av.trans aI,eo.bT av.ok aI,an,?_,lx,by show x%y<_;omega⟩;show Nat.gcd n m=Nat.gcd y (x%y);rw[aK,bXh x y,Nat.gcd_rec y x,bXh]
 by_cases U:xs.length<=2
 ·simp only[U,if_true];simp[-r0];refine aR.bZb (Ge al rW (by omega)) ?_;rintro _ H1 ⟨rfl,rfl⟩;by_cases aa:dz.length<=2
  ·simp only[aa,if_true];simp[-r0];have dC:(4294967296:Nat)^2=18446744073709551616:=rfl;have KV:bb xs<18446744073709551616:=by rw[<-dC];exact hR (s0 kR.ej) (iH (by omega) U)
   have KW:bb dz<18446744073709551616:=by rw[<-dC];exact hR (s0 rW.ej) (iH (by omega) aa)
   refine aR.bZb (abc al av.ok (x:=bb xs) (y:=bb dz) KV KW) ?_;rintro _ ep ⟨cv,rfl⟩;have RJ:Nat.gcd (bb xs) (bb dz)<18446744073709551616:=by
    rcases bVi (bb xs) with h | h
    ·rw[h,Nat.gcd_zero_left];exact KW
    ·exact eD (Nat.gcd_le_left _ h) KV
   obtain⟨G,bA⟩:=bZa (Nat.gcd (bb xs) (bb dz));rw[<-bA]at RJ|-;simp[-r0];refine aR.bZb (IQ al cv.ok (x:=G) (by omega)) ?_;rintro PC hM ⟨dJ,RL⟩;simp[wR];refine⟨av.trans (cv.trans dJ),?_⟩;have:Nat.gcd n m=bb [G%4294967296,G/4294967296]:=by rw[<-qn,IS,bA,jP,pJ,aK]
   rw[this];exact RL.nat
  ·simp only[aa,if_false];simp[-r0];refine key _ ?_ ?_<;>simp
 ·simp only[U,if_false];simp[-r0];refine aR.bZb (Ge al rW (by omega)) ?_;rintro _ H1 ⟨rfl,rfl⟩;by_cases aa:dz.length<=2
  ·simp only[aa,if_true];simp[-r0];refine key _ ?_ ?_<;>simp
  ·simp only[aa,if_false];simp[-r0];refine key _ ?_ ?_<;>simp
theorem NK(al:fa X)(au:cU pm H){v w:Value}{n m k:Nat}(aw:c6 H v n)(hw:c6 H w m)(aF:n<4294967296^k)(hm:m<4294967296^k)(ag:k<268435456):Call X pm F.rn [v,w] H λr H'=>b6 pm H H'/\c6 H' r (n+m):=by
 obtain⟨a,aN,jQ,hX⟩:=aw.out;obtain⟨b,ai,hZ,hL⟩:=hw.out;have ir:=i' jQ hX aF;have iM:=i' hZ hL hm;refine(avN al au aN ai (by omega) (by omega)).mono ?_;rintro r H' ⟨av,ds,U,_,aa⟩;exact⟨av,by rw[<-hX,<-hL,<-aa];exact U.nat⟩
theorem xP(al:fa X)(au:cU pm H){v w:Value}{n m k:Nat}(aw:c6 H v n)(hw:c6 H w m)(aF:n<4294967296^k)(hm:m<4294967296^k)(ag:k<268435456):Call X pm F.na [v,w] H λr H'=>b6 pm H H'/\c6 H' r (n*m):=by
 obtain⟨a,aN,jQ,hX⟩:=aw.out;obtain⟨b,ai,hZ,hL⟩:=hw.out;have ir:=i' jQ hX aF;have iM:=i' hZ hL hm;refine(avO al au aN ai (by omega) (by omega)).mono ?_;rintro r H' ⟨av,ds,U,_,aa⟩;exact⟨av,by rw[<-hX,<-hL,<-aa];exact U.nat⟩
theorem NL(al:fa X){v w:Value}{n m k:Nat}(aw:c6 H v n)(hw:c6 H w m)(aF:n<4294967296^k)(hm:m<4294967296^k)(ag:k<268435456):Call X pm F.oD [v,w] H λr H'=>H'=H/\r=.int .i64 (iu n m):=by
 obtain⟨a,aN,jQ,hX⟩:=aw.out;obtain⟨b,ai,hZ,hL⟩:=hw.out;have ir:=i' jQ hX aF;have iM:=i' hZ hL hm;subst hX hL;exact IP al aN ai (by omega) (by omega)
theorem W'(al:fa X)(au:cU pm H){v w:Value}{n m k:Nat}(aw:c6 H v n)(hw:c6 H w m)(aF:n<4294967296^k)(hm:m<4294967296^k)(ag:k<268435456):
 Call X pm F.rp [v,w] H λr H'=>b6 pm H H'/\(n<m/\r=.tuple #[.pointer none,.bool false]∨m<=n/\∃p,r=.tuple #[p,.bool true]/\c6 H' p (n-m)):=by
 obtain⟨a,aN,jQ,hX⟩:=aw.out;obtain⟨b,ai,hZ,hL⟩:=hw.out;have ir:=i' jQ hX aF;have iM:=i' hZ hL hm;subst hX hL;refine(Xa al au aN ai (by omega) (by omega) hZ).mono ?_;rintro r H' ⟨av,h | ⟨h,p,ds,U,aa,_,aq⟩⟩
 ·exact⟨av,.inl h⟩
 ·exact⟨av,.inr ⟨h,p,U,by rw[<-aq];exact aa.nat⟩⟩
theorem NM(al:fa X)(au:cU pm H){v w:Value}{n m k:Nat}(aw:c6 H v n)(hw:c6 H w m)(aF:n<4294967296^k)(hm:m<4294967296^k)(ag:k<268435456)(ft:m≠0):
 Call X pm F.qm [v,w] H λr H'=>b6 pm H H'/\∃q s,r=.tuple #[q,s,.bool true]/\c6 H' q (n/m)/\c6 H' s (n%m):=by
 obtain⟨a,aN,jQ,hX⟩:=aw.out;obtain⟨b,ai,hZ,hL⟩:=hw.out;have ir:=i' jQ hX aF;have iM:=i' hZ hL hm;subst hX hL;refine(Xb al au aN ai jQ hZ (by omega) (by omega)).mono ?_;rintro r H' ⟨av,⟨h,_⟩ | ⟨_,q,s,U,aa,aq⟩⟩
 ·exact absurd h ft
 ·exact⟨av,q,s,U,aa,aq⟩
theorem E5(al:fa X)(au:cU pm H){x:Nat}(az:x<18446744073709551616):Call X pm F.ja [.int .u64 (x:Int)] H λr H'=>b6 pm H H'/\c6 H' r x:=by
 refine(IQ al au az).mono ?_;rintro r H' ⟨av,U⟩;have:=U.nat;rw[<-qn,IS]at this;exact⟨av,this⟩
theorem Xc(al:fa X)(au:cU pm H):Call X pm F.ja [.int .u64 0] H λr H'=>b6 pm H H'/\c6 H' r 0:=E5 al au (x:=0) (by omega)
theorem B0(al:fa X)(au:cU pm H):Call X pm F.ja [.int .u64 1] H λr H'=>b6 pm H H'/\c6 H' r 1:=E5 al au (x:=1) (by omega)
end
theorem avP(x:Nat):((x:Int)==0)=decide (x=0):=by
 cases x with
 | zero=>rfl
 | succ x=>simp;omega
section
variable[cn]
theorem xQ(al:fa X){v:Value}{n k:Nat}(aw:c6 H v n)(aF:n<4294967296^k)(ag:k<268435456):Call X pm F.oE [v] H λr H'=>H'=H/\r=.bool (decide (n=0)):=by
 obtain⟨a,aN,jQ,hX⟩:=aw.out;have ir:=i' jQ hX aF;subst hX;refine Call.has al.oE rfl ?_;simp;refine aR.bZb (avQ al aN jQ (by omega)) ?_;rintro _ H ⟨rfl,rfl⟩;have:aA (bb a)=0↔bb a=0:=by
  unfold aA;split
  ·simp[*]
  ·simp[*]
 simp;rw[avP];exact decide_eq_decide.2 this
def iN(neg:Bool)(n d:Nat):Rat:=mkRat (if neg then -(n:Int) else(n:Int)) d
structure iv(H:ah)(v:Value)(q:Rat):Prop where
 ex:(v=.pointer none/\q=0)∨∃b x jA jB,v=.pointer (some ⟨b,0,none⟩)/\H.get b=some x/\NN x [.bool (decide (q<0)),jA,jB]/\c6 H jA q.num.natAbs/\c6 H jB q.den
theorem iv.bT{v:Value}{q:Rat}(h:iv H v q)(au:cU pm H)(ag:b6 pm H H'):iv H' v q:=by
 refine⟨h.ex.imp id ?_⟩;rintro⟨b,x,jA,jB,U,aa,aq,a8,cg⟩;exact⟨b,x,jA,jB,U,ag.some au aa,aq,a8.bT au ag,cg.bT au ag⟩
def jC(H:ah)(v:Value)(q:Rat):Prop:=iv H v q/\∃b cs t,v=.pointer (some ⟨b,0,none⟩)/\H.get b=some (.cells cs (.t t))
theorem jC.bT{v:Value}{q:Rat}(h:jC H v q)(au:cU pm H)(ag:b6 pm H H'):jC H' v q:=
 ⟨h.1.bT au ag,let ⟨b,cs,t,U,aa⟩:=h.2;⟨b,cs,t,U,ag.some au aa⟩⟩
end
theorem IT{neg:Bool}{n d:Nat}(aB:d≠0):(iN neg n d).den=d/Nat.gcd n d:=by
 unfold iN;rw[Rat.den_mkRat,aU aB,bXh];congr 2;cases neg<;>simp
theorem IU{neg:Bool}{n d:Nat}(aB:d≠0):(iN neg n d).num.natAbs=n/Nat.gcd n d:=by
 unfold iN;rw[Rat.num_mkRat,aU aB,bXh]
 cases neg with
 | false=>simp;rfl
 | true=>
   simp only[if_true,Int.natAbs_neg,Int.natAbs_natCast];rw[Int.neg_ediv_of_dvd (by exact_mod_cast Nat.gcd_dvd_left n d),Int.natAbs_neg];rfl
theorem E6(q:Rat):q<0↔q.num<0:=by
 rw[<-Rat.not_le,<-Rat.num_nonneg];omega
theorem avR{neg:Bool}{n d:Nat}(aB:d≠0):decide (iN neg n d<0)=(neg&&!decide (n=0)):=by
 have aK:0<Nat.gcd n d:=Nat.gcd_pos_of_pos_right _ (tq aB);have h:(iN neg n d<0)↔(neg=true/\n≠0):=by
  rw[E6];unfold iN;rw[Rat.num_mkRat,aU aB,bXh]
  cases neg with
  | false=>
    simp only[oc,if_false,Int.natAbs_natCast,false_and,iff_false];have:(0:Int)<=(n:Int)/(Nat.gcd n d:Nat):=Int.ediv_nonneg (by omega) (by omega);omega
  | true=>
    simp only[if_true,Int.natAbs_neg,Int.natAbs_natCast,true_and];have E4:((Nat.gcd n d:Nat):Int)∣(n:Int):=by exact_mod_cast Nat.gcd_dvd_left n d
    rw[Int.neg_ediv_of_dvd E4];have e:((n:Int)/(Nat.gcd n d:Nat))=((n/Nat.gcd n d:Nat):Int):=rfl;rw[e];constructor
    ·rintro h rfl;simp at h
    ·intro aD;have:0<n/Nat.gcd n d:=Nat.div_pos (Nat.le_of_dvd (tq aD) (Nat.gcd_dvd_left n d)) aK;omega
 rw[Bool.eq_iff_iff];simp only[eh,cG,mN,decide_eq_false_iff_not];exact h
section
variable[cn]
theorem c6.ptr{v:Value}{n:Nat}(h:c6 H v n):(v=.pointer none/\n=0)∨∃a,v=.pointer (some a):=by
 obtain⟨ds,U,_,aq⟩:=h.out
 rcases U with⟨h,rfl⟩ | ⟨b,_,_,h,_⟩
 ·exact .inl ⟨h,aq.symm⟩
 ·exact .inr ⟨_,h⟩
def zs(pm:Perm)(H:ah)(neg:Bool)(n d:Nat):c':=λx l H'=>(x=gr.normal∨x=gr.ret)/\∃vs,nb l H' [.slot 6,.slot 7]=some vs/\(b6 pm H H'/\(d=0/\j5 vs=.tuple #[.pointer none,.bool false]∨d≠0/\∃p,j5 vs=.tuple #[p,.bool true]/\jC H' p (iN neg n d)))
theorem Xd(al:fa X)(au:cU pm H){neg:Bool}{v w:Value}{n d k:Nat}(aw:c6 H v n)(hw:c6 H w d)(aF:n<4294967296^k)(aB:d<4294967296^k)(ag:k<268435456):
 Call X pm F.tQ [.bool neg,v,w] H λr H'=>b6 pm H H'/\(d=0/\r=.tuple #[.pointer none,.bool false]∨d≠0/\∃p,r=.tuple #[p,.bool true]/\jC H' p (iN neg n d)):=by
 refine Call.has al.tQ rfl ?_;show wp X pm _ _ _ _ (zs pm H neg n d);simp[-sq];refine aR.bZb (xQ al hw aB ag) ?_;rintro _ H ⟨rfl,rfl⟩;by_cases gh:d=0
 ·simp[gh,zs];exact b6.refl au
 have avS:0<Nat.gcd n d:=Nat.gcd_pos_of_pos_right _ (tq gh);obtain⟨G,bA⟩:=bZa (Nat.gcd n d)
 have key:∀(l:bQ) (H1:ah) (v1 cS:Value),b6 pm H H1->c6 H1 v1 (n/G)->c6 H1 cS (d/G)->a7 0 l=some (.bool neg)->a7 1 l=some v1->a7 2 l=some cS->
  wp X pm (.code sq) l H1 [] (zs pm H neg n d):=by
  intro l H1 v1 cS av mj eo c0 ck cJ;have avT:n/G=0↔n=0:=by
   rw[bA];constructor
   ·intro h
    rcases bVi n with aD | aD
    ·exact aD
    ·have:0<n/Nat.gcd n d:=Nat.div_pos (Nat.le_of_dvd aD (Nat.gcd_dvd_left n d)) avS;omega
   ·rintro rfl;simp
  have pd:∀(aJ:ah) (v2:Value),b6 pm H1 aJ->c6 aJ v2 (n/G)->b6 pm H (aJ.new (.cells [.bool (neg&&!decide (n=0)),v2,cS] (.t T.NO)))/\jC (aJ.new (.cells [.bool (neg&&!decide (n=0)),v2,cS] (.t T.NO))) (ptr aJ.next) (iN neg n d):=by
   intro aJ v2 aI BG;have aQ:b6 pm aJ (aJ.new (.cells [.bool (neg&&!decide (n=0)),v2,cS] (.t T.NO))):=(b6.refl aI.ok).new _;refine⟨(av.trans aI).trans aQ,⟨.inr ⟨aJ.next,_,v2,cS,rfl,dT,?_,?_,?_⟩⟩,_,_,_,rfl,dT⟩
   ·rw[avR gh];exact⟨rfl,rfl⟩
   ·rw[IU gh,<-bA];exact BG.bT aI.ok aQ
   ·rw[IT gh,<-bA];exact(eo.bT av.ok aI).bT aI.ok aQ
  have ET:n/G<4294967296^k:=eD (oe _ _) aF;have jy:decide (n/G=0)=decide (n=0):=decide_eq_decide.2 avT
  rcases mj.ptr with⟨rfl,aD⟩ | ⟨cx,rfl⟩
  ·simp[ck];refine aR.bZb (Xc al av.ok) ?_;rintro r aJ ⟨aI,an⟩;rw[<-aD]at an
   cases neg with
   | true=>
     simp[c0];refine aR.bZb (xQ al an ET ag) ?_;rintro _ aJ ⟨rfl,rfl⟩;have:=pd aJ r aI an;rw[jy]
     rcases an.ptr with⟨rfl,_⟩ | ⟨a2,rfl⟩<;>rcases eo.ptr with⟨rfl,_⟩ | ⟨a3,rfl⟩<;>simp[zs,cJ,gh,au.make,au.pick]<;>simpa using this
   | false=>
     simp[c0];refine aR.not (by simp) ?_;have:=pd aJ r aI an
     rcases an.ptr with⟨rfl,_⟩ | ⟨a2,rfl⟩<;>rcases eo.ptr with⟨rfl,_⟩ | ⟨a3,rfl⟩<;>simp[zs,cJ,gh,au.make,au.pick]<;>simpa using this
  ·simp[ck]
   cases neg with
   | true=>
     simp[c0];refine aR.bZb (xQ al mj ET ag) ?_;rintro _ H1 ⟨rfl,rfl⟩;have:=pd H1 _ (b6.refl av.ok) mj;rw[jy]
     rcases eo.ptr with⟨rfl,_⟩ | ⟨a3,rfl⟩<;>simp[zs,ck,cJ,gh,au.make,au.pick]<;>simpa using this
   | false=>
     simp[c0];refine aR.not (by simp) ?_;have:=pd H1 _ (b6.refl av.ok) mj
     rcases eo.ptr with⟨rfl,_⟩ | ⟨a3,rfl⟩<;>simp[zs,ck,cJ,gh,au.make,au.pick]<;>simpa using this
 simp[-sq,gh];refine aR.bZb (avU al au aw hw aF aB ag) ?_;rintro g H1 ⟨av,aK⟩;rw[<-bA]at aK;have NP:G<4294967296^k:=by
  rw[bA];exact eD (Nat.gcd_le_right _ (tq gh)) aB
 simp[-sq];refine aR.bZb (B0 al av.ok) ?_;rintro aGd aJ ⟨aI,xR⟩;have avV:1<4294967296^k:=by omega
 simp[-sq];refine aR.bZb (NL al (aK.bT av.ok aI) xR NP avV ag) ?_;rintro _ aJ ⟨rfl,rfl⟩;have e0:=av.trans aI;by_cases jb:G=1
 ·have af:iu G 1=0:=by simp[iu,jb]
  simp[-sq,af];refine key _ aJ v w e0 (by rw[jb,Nat.div_one];exact aw.bT au e0) (by rw[jb,Nat.div_one];exact hw.bT au e0) ?_ ?_ ?_<;>simp
 ·have af:iu G 1=1:=by unfold iu;rw[aU (by omega),aU jb]
  simp[-sq,af];refine aR.bZb (NM al e0.ok (aw.bT au e0) (aK.bT av.ok aI) aF NP ag (by omega)) ?_;rintro _ bN ⟨aQ,bn,s1,rfl,lK,_⟩;simp[-sq];have h0:=e0.trans aQ;refine aR.bZb (NM al aQ.ok (hw.bT au h0) ((aK.bT av.ok aI).bT e0.ok aQ) aB NP ag (by omega)) ?_;rintro _ cp ⟨bt,bh,s2,rfl,vM,_⟩;simp[-sq];refine key _ cp bn bh (h0.trans bt) (lK.bT aQ.ok bt) vM ?_ ?_ ?_<;>simp
def mr(neg:Bool)(n:Nat):Int:=if neg then -(n:Int) else(n:Int)
end
theorem B1(neg:Bool)(n d:Nat):iN neg n d=mkRat (mr neg n) d:=rfl
theorem rq(q:Rat):q.num=mr (decide (q<0)) q.num.natAbs:=by
 unfold mr;by_cases h:q<0
 ·have:=(E6 q).1 h;simp[h];omega
 ·have:¬q.num<0:=λaa=>h ((E6 q).2 aa);simp[h];omega
theorem IV(q:Rat):iN (decide (q<0)) q.num.natAbs q.den=q:=by
 rw[B1,<-rq];exact Rat.mkRat_self q
section
variable[cn]
def sz(q:Rat)(k:Nat):Prop:=q.num.natAbs<4294967296^k/\q.den<4294967296^k
end
theorem pq{n m k:Nat}(aF:n<4294967296^k)(hm:m<4294967296^k):n*m<4294967296^(2*k):=by
 rw[show 2*k=k+k by omega,hT];exact bWI aF hm
theorem oF{n j k:Nat}(h:n<4294967296^j)(aH:j<=k):n<4294967296^k:=hR h (iH (by decide) aH)
theorem IW{n m k:Nat}(aF:n<4294967296^k)(hm:m<4294967296^k):n+m<4294967296^(k+1):=by
 rw[bZm];generalize 4294967296^k=p at*
 omega
section
variable[cn]
theorem sr(al:fa X)(au:cU pm H){v:Value}{q:Rat}(h:iv H v q):
 Call X pm F.lW [v] H λr H'=>b6 pm H H'/\∃jA jB,r=.tuple #[.bool (decide (q<0)),jA,jB]/\c6 H' jA q.num.natAbs/\c6 H' jB q.den:=by
 refine Call.has al.lW rfl ?_
 rcases h.ex with⟨rfl,rfl⟩ | ⟨b,x,jA,jB,rfl,U,aa,aq,a8⟩
 ·simp;refine aR.bZb (Xc al au) ?_;rintro fw H1 ⟨av,rr⟩;simp;refine aR.bZb (B0 al av.ok) ?_;rintro b4 aJ ⟨aI,kb⟩;simp;exact⟨av.trans aI,fw,b4,⟨rfl,rfl⟩,rr.bT av.ok aI,kb⟩
 ·have qo:∃a,jB=.pointer (some a):=by
   rcases a8.ptr with⟨_,h⟩ | h
   ·exact absurd h q.den_nz
   ·exact h
  obtain⟨a,rfl⟩:=qo;simp[U,aa];refine eg.E7 au rfl rfl rfl ?_;simp[U,aa];have av:=(b6.refl au).up 15;exact⟨av,jA,_,⟨rfl,rfl⟩,aq.bT au av,a8.bT au av⟩
theorem B2(al:fa X)(au:cU pm H){neg:Bool}{v w:Value}{n d k:Nat}(aw:c6 H v n)(hw:c6 H w d)(aF:n<4294967296^k)(aB:d<4294967296^k)(ag:k<268435456)(gh:d≠0):
 Call X pm F.pr [.bool neg,v,w] H λr H'=>b6 pm H H'/\jC H' r (iN neg n d):=by
 refine Call.has al.pr rfl ?_;simp;refine aR.bZb (Xd al au (neg:=neg) aw hw aF aB ag) ?_;rintro _ H1 ⟨av,⟨h,_⟩ | ⟨_,p,rfl,aC⟩⟩
 ·exact absurd h gh
 ·simp;exact⟨av,aC⟩
theorem Xe(al:fa X)(au:cU pm H){v:Value}{q:Rat}{k:Nat}(h:iv H v q)(aG:sz q k)(ag:k<268435456):
 Call X pm F.gE [v] H λr H'=>b6 pm H H'/\r=.int .i64 (if q<0 then -1 else if q=0 then 0 else 1):=by
 refine Call.has al.gE rfl ?_;simp;refine aR.bZb (sr al au h) ?_;rintro _ H1 ⟨av,jA,jB,rfl,aF,aB⟩;by_cases aV:q<0
 ·simp[aV];exact av
 ·simp[aV];refine aR.bZb (xQ al aF aG.1 ag) ?_;rintro _ H1 ⟨rfl,rfl⟩;by_cases aD:q=0
  ·subst aD;simp;exact av
  ·have:¬q.num.natAbs=0:=by
    intro h;exact aD (bVn.1 (by omega))
   simp[this,aD];exact av
end
theorem Xf(q:Rat):(-q).num.natAbs=q.num.natAbs/\(-q).den=q.den/\decide (-q<0)=(!decide (q<0)&&!decide (q.num.natAbs=0)):=by
 refine⟨by rw[Rat.neg_num];simp,Rat.neg_den q,?_⟩;rw[Bool.eq_iff_iff];simp only[eh,cG,mN,decide_eq_false_iff_not];rw[E6,E6,Rat.neg_num];omega
section
variable[cn]
theorem Xg(al:fa X)(au:cU pm H){v:Value}{q:Rat}{k:Nat}(h:iv H v q)(aG:sz q k)(ag:k<268435456):
 Call X pm F.nV [v] H λr H'=>b6 pm H H'/\jC H' r (-q):=by
 refine Call.has al.nV rfl ?_;simp;refine aR.bZb (sr al au h) ?_;rintro _ H1 ⟨av,jA,jB,rfl,aF,aB⟩;obtain⟨ao,e2,bd⟩:=Xf q;have pd:b6 pm H (H1.new (.cells [.bool (decide (-q<0)),jA,jB] (.t T.NQ)))/\jC (H1.new (.cells [.bool (decide (-q<0)),jA,jB] (.t T.NQ))) (ptr H1.next) (-q):=by
  have aQ:b6 pm H1 (H1.new (.cells [.bool (decide (-q<0)),jA,jB] (.t T.NQ))):=(b6.refl av.ok).new _;exact⟨av.trans aQ,⟨.inr ⟨H1.next,_,jA,jB,rfl,dT,⟨rfl,rfl⟩,by rw[ao];exact aF.bT av.ok aQ,by rw[e2];exact aB.bT av.ok aQ⟩⟩,_,_,_,rfl,dT⟩
 by_cases aV:q<0
 ·simp[aV];refine aR.not (by simp) ?_;rw[bd]at pd
  rcases aF.ptr with⟨rfl,_⟩ | ⟨a2,rfl⟩<;>rcases aB.ptr with⟨rfl,_⟩ | ⟨a3,rfl⟩<;>simp[au.make,au.pick]<;>simpa [aV]using pd
 ·simp[aV];refine aR.bZb (xQ al aF aG.1 ag) ?_;rintro _ H1 ⟨rfl,rfl⟩;rw[bd]at pd
  rcases aF.ptr with⟨rfl,_⟩ | ⟨a2,rfl⟩<;>rcases aB.ptr with⟨rfl,_⟩ | ⟨a3,rfl⟩<;>simp[au.make,au.pick]<;>simpa [aV]using pd
theorem avW(al:fa X)(au:cU pm H){v w:Value}{p q:Rat}{k:Nat}(U:iv H v p)(aa:iv H w q)(s1:sz p k)(s2:sz q k)(ag:k<67108864):
 Call X pm F.ke [v,w] H λr H'=>b6 pm H H'/\jC H' r (p*q):=by
 refine Call.has al.ke rfl ?_;simp;refine aR.bZb (sr al au U) ?_;rintro _ H1 ⟨av,jA,jB,rfl,B3,qo⟩;simp;refine aR.bZb (sr al av.ok (aa.bT au av)) ?_;rintro _ aJ ⟨aI,Xh,Xi,rfl,qp,ru⟩;simp;refine aR.bZb (xP al aI.ok (B3.bT av.ok aI) qp s1.1 s2.1 (by omega)) ?_;rintro dh bN ⟨aQ,lX⟩;simp;refine aR.bZb (xP al aQ.ok ((qo.bT av.ok aI).bT aI.ok aQ) (ru.bT aI.ok aQ) s1.2 s2.2 (by omega)) ?_;rintro kf cp ⟨bt,E8⟩;simp;refine aR.bZb (B2 al bt.ok (neg:=!(decide (p<0)==decide (q<0))) (lX.bT aQ.ok bt) E8 (pq s1.1 s2.1) (pq s1.2 s2.2) (by omega) (bXQ p.den_nz q.den_nz)) ?_;rintro vN cV ⟨cd,IX⟩;simp;refine⟨av.trans (aI.trans (aQ.trans (bt.trans cd))),?_⟩;have:p*q=iN (!(decide (p<0)==decide (q<0))) (p.num.natAbs*q.num.natAbs) (p.den*q.den):=by
  rw[Rat.mul_def',B1];congr 1;rw[rq p,rq q];unfold mr;cases decide (p<0)<;>cases decide (q<0)<;>simp[Int.mul_neg,Int.neg_mul]
 rw[this];exact IX
end
theorem Xj{q:Rat}(aV:q≠0)(p:Rat):p/q=iN (!(decide (p<0)==decide (q<0))) (p.num.natAbs*q.den) (p.den*q.num.natAbs):=by
 have aF:q.num.natAbs≠0:=by
  intro h;exact aV (bVn.1 (by omega))
 have hm:iN (!(decide (p<0)==decide (q<0))) (p.num.natAbs*q.den) (p.den*q.num.natAbs)*q=p:=by
  have ao:q=mkRat (mr (decide (q<0)) q.num.natAbs) q.den:=by rw[<-rq];exact(Rat.mkRat_self q).symm
  have e2:p=mkRat (mr (decide (p<0)) p.num.natAbs) p.den:=by rw[<-rq];exact(Rat.mkRat_self p).symm
  generalize zt:p.num.natAbs=P at*
  generalize bU:q.num.natAbs=Q at*
  have U:=p.den_nz;have aa:=q.den_nz;generalize qo:p.den=d at*
  generalize ru:q.den=e at*
  generalize aG:decide (p<0)=s at*
  generalize aS:decide (q<0)=t at*
  rw[ao,e2,B1,Rat.mkRat_mul_mkRat,Rat.mkRat_eq_iff (bXQ (bXQ U aF) aa) U];unfold mr;simp only[bVq];cases s<;>cases t<;>simp<;>grind
 generalize iN (!(decide (p<0)==decide (q<0))) (p.num.natAbs*q.den) (p.den*q.num.natAbs)=x at*
 grind
section
variable[cn]
theorem avX(al:fa X)(au:cU pm H){v w:Value}{p q:Rat}{k:Nat}(U:iv H v p)(aa:iv H w q)(s1:sz p k)(s2:sz q k)(ag:k<67108864):
 Call X pm F.oG [v,w] H λr H'=>b6 pm H H'/\(q=0/\r=.tuple #[.pointer none,.bool false]∨q≠0/\∃x,r=.tuple #[x,.bool true]/\jC H' x (p/q)):=by
 refine Call.has al.oG rfl ?_;simp;refine aR.bZb (sr al au U) ?_;rintro _ H1 ⟨av,jA,jB,rfl,B3,qo⟩;simp;refine aR.bZb (sr al av.ok (aa.bT au av)) ?_;rintro _ aJ ⟨aI,Xh,Xi,rfl,qp,ru⟩;simp;refine aR.bZb (xP al aI.ok (B3.bT av.ok aI) ru s1.1 s2.2 (by omega)) ?_;rintro dh bN ⟨aQ,lX⟩;simp;refine aR.bZb (xP al aQ.ok ((qo.bT av.ok aI).bT aI.ok aQ) (qp.bT aI.ok aQ) s1.2 s2.1 (by omega)) ?_;rintro kf cp ⟨bt,E8⟩;simp;refine aR.bZb (Xd al bt.ok (neg:=!(decide (p<0)==decide (q<0))) (lX.bT aQ.ok bt) E8 (pq s1.1 s2.2) (pq s1.2 s2.1) (by omega)) ?_;have bY:=av.trans (aI.trans (aQ.trans bt));rintro _ cV ⟨cd,⟨h,rfl⟩ | ⟨h,x,rfl,az⟩⟩
 ·have:q=0:=by
   rcases Nat.mul_eq_zero.1 h with h | h
   ·exact absurd h p.den_nz
   ·exact bVn.1 (by omega)
  simp;exact⟨bY.trans cd,this⟩
 ·have:q≠0:=by
   rintro rfl;simp at h
  simp;exact⟨bY.trans cd,this,by rw[Xj this];exact az⟩
def avY(H:ah)(r:Value)(t:Int)(b:Nat):Prop:=∃s x j,r=.tuple #[.bool s,x]/\c6 H x j/\mr s j=t/\j<=b
theorem Xk(al:fa X)(au:cU pm H){p q:Bool}{v w:Value}{n m k:Nat}(aw:c6 H v n)(hw:c6 H w m)(aF:n<4294967296^k)(hm:m<4294967296^k)(ag:k<268435456):
 Call X pm F.tR [.bool p,v,.bool q,w] H λr H'=>b6 pm H H'/\avY H' r (mr p n+mr q m) (n+m):=by
 refine Call.has al.tR rfl ?_;by_cases hh:p=q
 ·subst hh;simp;refine aR.bZb (NK al au aw hw aF hm ag) ?_;rintro r H1 ⟨av,an⟩;simp;exact⟨av,p,r,n+m,rfl,an,by unfold mr;cases p<;>simp<;>omega,bR _⟩
 ·have avZ:(p==q)=false:=by simpa using hh
  simp[avZ];refine aR.bZb (W' al au aw hw aF hm ag) ?_;rintro _ H1 ⟨av,⟨bO,rfl⟩ | ⟨hle,x,rfl,az⟩⟩
  ·simp;refine aR.bZb (W' al av.ok (hw.bT au av) (aw.bT au av) hm aF ag) ?_;rintro _ aJ ⟨aI,⟨xS,rfl⟩ | ⟨hle,x,rfl,az⟩⟩
   ·omega
   ·simp;refine⟨av.trans aI,q,x,m-n,rfl,az,?_,by omega⟩;unfold mr;cases p<;>cases q<;>simp at hh|-<;>omega
  ·simp;refine⟨av,p,x,n-m,rfl,az,?_,by omega⟩;unfold mr;cases p<;>cases q<;>simp at hh|-<;>omega
theorem Xl(al:fa X)(au:cU pm H){v w:Value}{p q:Rat}{k:Nat}(U:iv H v p)(aa:iv H w q)(s1:sz p k)(s2:sz q k)(ag:k<67108864):
 Call X pm F.kG [v,w] H λr H'=>b6 pm H H'/\jC H' r (p+q):=by
 refine Call.has al.kG rfl ?_;simp;refine aR.bZb (sr al au U) ?_;rintro _ H1 ⟨av,jA,jB,rfl,B3,qo⟩;simp;refine aR.bZb (sr al av.ok (aa.bT au av)) ?_;rintro _ aJ ⟨aI,Xh,Xi,rfl,qp,ru⟩;have NR:=B3.bT av.ok aI;have IY:=qo.bT av.ok aI;simp;refine aR.bZb (xQ al NR s1.1 (by omega)) ?_;rintro _ aJ ⟨rfl,rfl⟩;have e0:=av.trans aI;by_cases jR:p.num=0
 ·have aC:p=0:=bVn.1 jR;simp[jR];refine aR.bZb (B2 al aI.ok (neg:=decide (q<0)) qp ru s2.1 s2.2 (by omega) q.den_nz) ?_;rintro r bN ⟨aQ,an⟩;rw[IV]at an;simp;rw[aC,bVY];exact⟨e0.trans aQ,an⟩
 simp[jR];refine aR.bZb (NL al IY ru s1.2 s2.2 (by omega)) ?_;rintro _ aJ ⟨rfl,rfl⟩;have vO:p=mkRat (mr (decide (p<0)) p.num.natAbs) p.den:=by rw[<-rq];exact(Rat.mkRat_self p).symm
 have av0:q=mkRat (mr (decide (q<0)) q.num.natAbs) q.den:=by rw[<-rq];exact(Rat.mkRat_self q).symm
 by_cases aB:p.den=q.den
 ·have af:iu p.den q.den=0:=by simp[iu,aB]
  simp[af];refine aR.bZb (Xk al aI.ok (p:=decide (p<0)) (q:=decide (q<0)) NR qp s1.1 s2.1 (by omega)) ?_;rintro _ bN ⟨aQ,s,x,j,rfl,az,aG,aH⟩;simp;refine aR.bZb (B2 al aQ.ok (neg:=s) az (IY.bT aI.ok aQ) (eD aH (IW s1.1 s2.1)) (oF s1.2 (by omega)) (by omega) p.den_nz) ?_;rintro r cp ⟨bt,an⟩;simp;refine⟨e0.trans (aQ.trans bt),?_⟩;have:p+q=iN s j p.den:=by
   rw[B1,aG,aB,Rat.add_def',<-rq,<-rq,aB,<-Int.add_mul];exact Rat.mkRat_mul_right q.den_nz
  rw[this];exact an
 ·have af:iu p.den q.den≠0:=by unfold iu;split<;>simp
  simp[af];refine aR.bZb (xP al aI.ok NR ru s1.1 s2.2 (by omega)) ?_;rintro dh bN ⟨aQ,lX⟩;simp;refine aR.bZb (xP al aQ.ok (qp.bT aI.ok aQ) (IY.bT aI.ok aQ) s2.1 s1.2 (by omega)) ?_;rintro kf cp ⟨bt,E8⟩;simp;refine aR.bZb (Xk al bt.ok (p:=decide (p<0)) (q:=decide (q<0)) (lX.bT aQ.ok bt) E8 (pq s1.1 s2.2) (pq s2.1 s1.2) (by omega)) ?_;rintro _ cV ⟨cd,s,x,j,rfl,az,aG,aH⟩;have jS:=aQ.trans (bt.trans cd);simp;refine aR.bZb (xP al cd.ok (IY.bT aI.ok jS) (ru.bT aI.ok jS) s1.2 s2.2 (by omega)) ?_;rintro NS ep ⟨cv,av1⟩;simp;refine aR.bZb (B2 al cv.ok (neg:=s) (az.bT cd.ok cv) av1 (eD aH (IW (pq s1.1 s2.2) (pq s2.1 s1.2))) (oF (pq s1.2 s2.2) (by omega)) (by omega) (bXQ p.den_nz q.den_nz)) ?_;rintro r hM ⟨dJ,an⟩;simp;refine⟨e0.trans (jS.trans (cv.trans dJ)),?_⟩;have:p+q=iN s j (p.den*q.den):=by
   rw[B1,aG,Rat.add_def'];congr 1;rw[rq p,rq q];unfold mr;cases decide (p<0)<;>cases decide (q<0)<;>simp[Int.neg_mul]
  rw[this];exact an
end
theorem vP{q:Rat}{k:Nat}(h:sz q k):sz (-q) k:=by
 obtain⟨ao,e2,_⟩:=Xf q;exact⟨by rw[ao];exact h.1,by rw[e2];exact h.2⟩
section
variable[cn]
theorem Xm(al:fa X)(au:cU pm H){v w:Value}{p q:Rat}{k:Nat}(U:iv H v p)(aa:iv H w q)(s1:sz p k)(s2:sz q k)(ag:k<67108864):
 Call X pm F.nW [v,w] H λr H'=>b6 pm H H'/\jC H' r (p-q):=by
 refine Call.has al.nW rfl ?_;simp;refine aR.bZb (Xg al au aa s2 (by omega)) ?_;rintro b4 H1 ⟨av,kb⟩;simp;refine aR.bZb (Xl al av.ok (U.bT au av) kb.1 s1 (vP s2) ag) ?_;rintro cB aJ ⟨aI,kB⟩;simp;exact⟨av.trans aI,by rw[Rat.sub_eq_add_neg];exact kB⟩
theorem av2(al:fa X)(au:cU pm H){v w:Value}{p q:Rat}{k:Nat}(U:iv H v p)(aa:iv H w q)(s1:sz p k)(s2:sz q k)(de:sz (p-q) (2*k+1))(ag:k<67108864):
 Call X pm F.k7 [v,w] H λr H'=>b6 pm H H'/\r=.int .i64 (if p<q then -1 else if p=q then 0 else 1):=by
 refine Call.has al.k7 rfl ?_;simp;refine aR.bZb (Xm al au U aa s1 s2 ag) ?_;rintro b4 H1 ⟨av,kb⟩;simp;refine aR.bZb (Xe al av.ok kb.1 de (by omega)) ?_;rintro _ aJ ⟨aI,rfl⟩;have ao:(p-q<0)↔(p<q):=by constructor<;>intro h<;>grind
 have e2:(p-q=0)↔(p=q):=by constructor<;>intro h<;>grind
 simp[ao,e2];exact av.trans aI
end
end Go.Dam.C
namespace Go.Dam
open Go
abbrev aW(l:List UInt8):Value:=.string ⟨l.toArray⟩
@[simp] theorem asC(l:List UInt8):(ByteArray.mk l.toArray).size=l.length:=rfl
@[simp] theorem mk_data(l:List UInt8):(ByteArray.mk l.toArray).data=l.toArray:=rfl
theorem asD{a b:ByteArray}(h:a.data.toList=b.data.toList):a=b:=by
 obtain⟨⟨a⟩⟩:=a;obtain⟨⟨b⟩⟩:=b;exact congrArg (λl:List UInt8=>ByteArray.mk ⟨l⟩) h
theorem asE(cW:ByteArray):∀(n i:Nat) (r:List UInt8),cW.size-i=n->ByteArray.toList.loop cW i r=r.reverse++cW.data.toList.drop i:=by
 intro n
 induction n with
 | zero=>
   intro i r h;rw[ByteArray.toList.loop];have U:¬i<cW.size:=by omega
   rw[aU U,List.drop_eq_nil_of_le (by have:cW.data.toList.length=cW.size:=bYl;omega)];simp
 | succ n ih=>
   intro i r h;rw[ByteArray.toList.loop];have U:i<cW.size:=by omega
   have aa:i<cW.data.toList.length:=by rw[bYl];exact U
   rw[bm U,ih (i+1) _ (by omega),List.drop_eq_getElem_cons aa];have aq:cW.get! i=cW.data.toList[i]:=by
    show cW.data[i]! = _;rw[getElem!_pos cW.data i (by simpa using aa)];simp
   rw[aq];simp
@[simp] theorem aII(l:List UInt8):(ByteArray.mk l.toArray).toList=l:=by
  unfold ByteArray.toList;rw[asE _ _ 0 [] rfl];simp
theorem gi(s:ByteArray):s.toList=s.data.toList:=by
 unfold ByteArray.toList;rw[asE _ _ 0 [] rfl];simp
@[simp] theorem aIJ(l:List UInt8)(i j:Nat):(ByteArray.mk l.toArray).extract i j=⟨((l.drop i).take (j-i)).toArray⟩:=by
  apply asD;simp[ByteArray.data_extract,List.extract_eq_take_drop]
@[simp] theorem aIK(a b:List UInt8):(ByteArray.mk a.toArray++ByteArray.mk b.toArray)=⟨(a++b).toArray⟩:=by
  apply asD;simp[ByteArray.data_append]
end Go.Dam
namespace Go.Dam.C
open Go Go.Dam
theorem asL(c:Nat):Lib.repeatL [48] c=List.replicate c 48:=by
 induction c with
 | zero=>rfl
 | succ c ih=>rw[Lib.repeatL,ih];rfl
theorem F6{u k:Nat}(h:u<10^k)(ag:1<=k):Lib.nDigits u<=k:=by
 induction k generalizing u with
 | zero=>omega
 | succ k ih=>
   by_cases mm:u<10
   ·rw[Lib.nDigits_small mm];omega
   ·rw[Lib.nDigits_big mm];rw[bZm]at h;have so:1<=k:=by
     cases k with
     | zero=>simp at h;omega
     | succ k=>omega
    have:=ih (u:=u/10) (by omega) so;omega
section
variable[cn]
def A6:Nat->Nat->List UInt8
 | 0,_=>[]
 | k+1,r=>A6 k (r/10)++[UInt8.ofNat (48+r%10)]
end
theorem asM{q:Nat}(aV:0<q):∀{k r:Nat},r<10^k->Lib.decDigits (q*10^k+r)=Lib.decDigits q++A6 k r
 | 0,r,h=>by
   have:r=0:=by simpa using h
   subst this;simp[A6]
 | k+1,r,h=>by
   rw[bZm]at h;have aC:1<=10^k:=bWk _ _ (by decide);have Zu:1<=q*10^k:=bXS aV aC;have e:q*10^(k+1)+r=10*(q*10^k)+r:=by rw[bZm];grind
   rw[e,Lib.decDigits,dif_neg (by omega)];have ao:(10*(q*10^k)+r)/10=q*10^k+r/10:=by omega
   have e2:(10*(q*10^k)+r)%10=r%10:=by omega
   rw[ao,e2,asM aV (k:=k) (r:=r/10) (by omega),A6,bWh]
theorem asN:∀{k r:Nat},1<=k->r<10^k->A6 k r=List.replicate (k-Lib.nDigits r) 48++Lib.decDigits r
 | 0,r,h,_=>by omega
 | 1,r,_,h=>by
   have h:r<10:=by simpa using h
   rw[Lib.nDigits_small h,Lib.decDigits_one h];simp[A6,q4 h]
 | k+2,r,_,h=>by
   rw[A6,asN (k:=k+1) (r:=r/10) (by omega) (by rw[bZm]at h;omega)];by_cases mm:r<10
   ·have e:r/10=0:=by omega
    rw[e,Lib.nDigits_small mm,Lib.nDigits_small (by omega),Lib.decDigits_one (by omega:0<10),Lib.decDigits_one mm,q4 mm];rw[show k+2-1=(k+1-1)+1 by omega,List.replicate_succ',bWh,bWh];rfl
   ·rw[Lib.nDigits_big mm,bWh,show k+2-(Lib.nDigits (r/10)+1)=k+1-Lib.nDigits (r/10) by omega];congr 1
    conv=>rhs;rw[Lib.decDigits,dif_neg mm]
section
variable[cn]
def l9(n:Nat):List UInt8:=if n=0 then[] else Lib.decDigits n
end
theorem aE4(m:Nat)(hm:m≠0):l9 (m/1000000000)++(if m/1000000000=0 then Lib.decDigits (m%1000000000) else Lib.repeatL [48] (9-(Lib.decDigits (m%1000000000)).length)++Lib.decDigits (m%1000000000))=l9 m:=by
 have U:l9 m=Lib.decDigits m:=by simp[l9,hm]
 by_cases h:m/1000000000=0
 ·rw[U,h];have:m%1000000000=m:=by omega
  simp[l9,this]
 ·rw[U,aU h,asL,Lib.decDigits_length,<-asN (k:=9) (by omega) (by show m%1000000000<1000000000;omega)];rw[l9,aU h,<-asM (by omega) (by show m%1000000000<1000000000;omega)];congr 1;show m/1000000000*1000000000+m%1000000000=m;omega
theorem Gc{n k:Nat}(h:n<4294967296^k)(ag:1<=k):(Lib.decDigits n).length<=10*k:=by
 rw[Lib.decDigits_length];refine F6 ?_ (by omega);rw[bXi];exact hR h (bVX (by decide) k)
theorem Kf(n:Nat):Lib.decDigits n≠[]:=by
 intro h;have:=Lib.decDigits_length n;rw[h]at this;have:=Lib.nDigits_pos n;simp at*
 omega
end Go.Dam.C
namespace Go.Dam.C
open Go Go.Dam
variable[cn]
def aE5:cj:=.eE (.nat 0)
def qI(H:ah):Bool:=match H.get 1 with
 | some (.eE (.nat 0))=>true
 | _=>false
def DV(_:Perm)(args:List Value)(H:ah):Option (Value×ah):=match args with
 | [.int .u64 (.ofNat u),.int .i64 b]=>bif jO b 10&&(Nat.blt u 18446744073709551616&&qI H) then some (aW (Lib.decDigits u),H) else none
 | _=>none
def DW(_:Perm)(args:List Value)(H:ah):Option (Value×ah):=match args with
 | [.string s,.int .i64 (.ofNat c)]=>bif Nat.ble c 1000&&Nat.ble s.size 1000 then some (aW (Lib.repeatL s.data.toList c),H) else none
 | _=>none
def Hm(_:Perm)(args:List Value)(H:ah):Option (Value×ah):=match args with
 | [.string s,.string c]=>bif Nat.ble s.size 1000000&&(Nat.ble c.size 1000&&c.data.toList.all λb=>Nat.blt b.toNat 128) then some (aW (Lib.trimS s.data.toList c.data.toList),H) else none
 | _=>none
def Hn(_:Perm)(args:List Value)(H:ah):Option (Value×ah):=match args with
 | [.string s,.int .i64 b,.int .i64 c]=>bif jO b 10&&(jO c 32&&Nat.ble s.size 1000000) then(match Lib.parseUintB 32 s.data.toList with
   | .ok u=>some (.tuple #[.int .u64 (u:Int),.nilIface],H)
   | _=>none) else none
 | _=>none
def zu(_:Perm)(args:List Value)(H:ah):Option (Value×ah):=match args with
 | [.string s,.int .u8 (.ofNat c)]=>bif Nat.blt c 256 then some (.int .i64 (oy c s.data.toList 0),H) else none
 | _=>none
structure kr(X:aY):Prop extends fa X where
 idx:X.ov F.Uz=some zu
 tg:Has X F.tg C.tg
 th:Has X F.th C.th
 tj:Has X F.tj C.tj
 ti:Has X F.ti C.ti
 tk:Has X F.tk C.tk
 xj:Has X F.xj C.xj
 vl:Has X F.vl C.vl
 fmt:X.ov F.Uw=some DV
 rep:X.ov F.Uy=some DW
 trim:X.ov F.Hh=some Hm
 parse:X.ov F.Ux=some Hn
variable{X:aY}{pm:Perm}{H H':ah}
def Tab(H:ah):Prop:=H.get 1=some aE5
theorem Tab.bT(h:Tab H)(au:cU pm H)(ag:b6 pm H H'):Tab H':=ag.some au h
end Go.Dam.C
namespace Go.Dam.C
open Go Go.Dam
variable{X:aY}{pm:Perm}{H H':ah}
theorem aE6(al:kr X)(aS:Tab H){u:Nat}(hu:u<18446744073709551616):Call X pm F.Uw [.int .u64 (u:Int),.int .i64 10] H λr H'=>H'=H/\r=aW (Lib.decDigits u):=by
 refine Call.over al.fmt (v:=aW (Lib.decDigits u)) (H':=H) ?_ ⟨rfl,rfl⟩;show DV pm [.int .u64 (.ofNat u),.int .i64 10] H=_;have U:qI H=true:=by unfold qI;rw[aS];rfl
 simp only[DV,U,js,hu,decide_true];rfl
theorem aE7(al:kr X){l:List UInt8}{c:Nat}(af:c<=1000)(aO:l.length<=1000):Call X pm F.Uy [aW l,.int .i64 (c:Int)] H λr H'=>H'=H/\r=aW (Lib.repeatL l c):=by
 refine Call.over al.rep (v:=aW (Lib.repeatL l c)) (H':=H) ?_ ⟨rfl,rfl⟩;show DW pm [aW l,.int .i64 (.ofNat c)] H=_;simp[DW,dA,af,aO]
end Go.Dam.C
namespace Go.Dam.C
open Go Go.Dam
variable[cn]
attribute [simp] xr
variable{X:aY}{pm:Perm}{H H':ah}
theorem aE8(au:cU pm H){r:Value}{a:List Nat}(aB:er H r a)(ir:a.length<=1073741824):
 ∃s1 aJ,bF.run pm (hV 1 r λnew n=>iV 1 4 (.slice none 0 0) new n) H=some (s1,aJ)/\b6 pm H aJ/\er aJ s1 a:=by
 by_cases aD:a=[]
 ·subst aD;refine⟨.slice none 0 0,H,?_,.refl au,.nil⟩;obtain⟨_,⟨rfl,_⟩ | ⟨c,off,cap,y,row,rfl,U,aa,aq,a8,_⟩⟩:=id aB
  ·simp[iV]
  ·simp[U,aa.row,cX,iV,dA,show off<=row.length by simpa using a8]
 ·obtain⟨c,off,cap,y,row,rfl,U,aa,aq⟩:=aB.parts aD;have aO:0<a.length:=bXr.2 aD;have oA:(c4 a).all fG=true:=by
   rw[hz];intro x az;obtain⟨d,_,rfl⟩:=bYm.1 az;rfl
  refine⟨.slice (some ⟨H.next,0,none⟩) a.length a.length,H.new (.cells (c4 a) (.n 1)),?_,(b6.refl au).new _,aB.1,.inr ⟨H.next,0,a.length,_,c4 a,rfl,dT,.inl rfl,?_,?_,bR _,au.new _ (bR _)⟩⟩
  ·simp[U,aa,aq,iV,dA,oA,show ¬a.length=0 by omega,show a.length*4<=17179869184 by omega,show a.length<=17179869184 by omega,au.make,au.pick]
  ·rw[List.drop_zero,tp (by simp[c4])]
  ·simp[c4]
theorem UC(al:kr X)(au:cU pm H)(aS:Tab H){v:Value}{n k:Nat}(aw:c6 H v n)(aF:n<4294967296^k)(so:1<=k)(ag:k<100000000):
 Call X pm F.uM [v] H λr H'=>b6 pm H H'/\r=aW (Lib.decDigits n):=by
 obtain⟨a,aN,jQ,hX⟩:=aw.out;have ir:=i' jQ hX aF;refine Call.has al.uM rfl ?_;simp;refine aR.bZb (kW al.eK aN) ?_;rintro fw _ ⟨rfl,aB⟩;obtain⟨s1,aJ,aE9,aI,kd⟩:=aE8 au aB (by omega);simp[-hV,aE9];refine hv.of (λs:Value×List Nat×List UInt8=>[(3,s.1),(4,aW s.2.2)]) (λs H'=>b6 pm aJ H'/\er H' s.1 s.2.1/\strip s.2.1=s.2.1/\s.2.1.length<=k/\l9 (bb s.2.1)++s.2.2=l9 n) (λs=>bb s.2.1) (s1,a,[]) (by simp) ⟨.refl aI.ok,kd,jQ,ir,by simp[hX]⟩ ?_;rintro⟨v3,ds,s⟩ bN ⟨aQ,Ap,gz,hlen,hinv⟩;simp only at Ap gz hlen hinv;obtain⟨base,cap,rfl⟩:=Ap.form;have Kp:(l9 n).length<=10*k:=by
  unfold l9;split
  ·simp
  ·exact Gc aF so
 by_cases aD:ds=[]
 ·subst aD;have aG:s=l9 n:=by simpa [bb,l9]using hinv
  simp[aG];by_cases mS:n=0
  ·subst mS;simp[l9];exact⟨aI.trans aQ,by rw[Lib.decDigits_one (by omega)];rfl⟩
  ·have:l9 n=Lib.decDigits n:=by simp[l9,mS]
   rw[this];simp[Kf n];exact aI.trans aQ
 ·have IB:0<ds.length:=bXr.2 aD;have aFa:bb ds≠0:=by
   have:=C2 gz aD;have:=bWm (n:=ds.length-1) (show 0<4294967296 by decide);omega
  simp[IB];refine aR.bZb (aaE al.tofa aQ.ok Ap (by omega) (y:=1000000000) (by omega) (by omega)) ?_;rintro _ cp ⟨bt,IL,fr,rfl,OT,qp,Dh⟩;simp;refine aR.bZb (Q9 al.fB bt.ok OT (by omega)) ?_;rintro _ cV ⟨cd,b,x,LA,rfl,xG,aFb,L0⟩;have jS:=aI.trans (aQ.trans (bt.trans cd));simp[xG,aFb];refine aR.bZb (aE6 al (aS.bT au jS) (u:=bb ds%1000000000) (by omega)) ?_;rintro _ cV ⟨rfl,rfl⟩;obtain⟨uX,Hc,rfl⟩:=L0.form;have aFc:(strip fr).length<=k:=by
   have:=i' (k:=k) (C1 fr) (qn fr) (by rw[qp];exact eD (oe _ _) (hR (s0 Ap.1) (iH (by decide) hlen)));exact this
  have ld:=Lib.decDigits_length (bb ds%1000000000);have aIL:Lib.nDigits (bb ds%1000000000)<=9:=F6 (by show _<1000000000;omega) (by omega);have lM:=aE4 (bb ds) aFa;have qi:s.length<=10*k:=by
   have:=congrArg List.length hinv;simp at this;omega
  have E4:bb ds/1000000000<bb ds:=by omega
  by_cases sS:strip fr=[]
  ·have aV:bb ds/1000000000=0:=by rw[<-qp,<-qn,sS];rfl
   rw[bm aV]at lM;simp[sS,dA,ld,show Lib.nDigits (bb ds%1000000000)+s.length<=4294967296 by omega];refine .of (.slice uX 0 Hc,[],Lib.decDigits (bb ds%1000000000)++s) (by show bb []<bb ds;simp[bb];omega) (by simp) ⟨aQ.trans (bt.trans cd),by rw[sS]at L0;exact L0,by simp[strip],by simp,?_⟩;show l9 (bb [])++(_++s)=l9 n;rw[<-hinv,<-lM,aV];simp[bb]
  ·have aV:bb ds/1000000000≠0:=by
    rw[<-qp,<-qn];have:=C2 (C1 fr) sS;have:=bWm (n:=(strip fr).length-1) (show 0<4294967296 by decide);omega
   rw[aU aV]at lM;have hw:wr .i64 ((9:Int)-((Lib.nDigits (bb ds%1000000000):Nat):Int))=((9-Lib.nDigits (bb ds%1000000000):Nat):Int):=by rw[zWc (by omega) (by omega)];omega
   have nR:0<(strip fr).length:=bXr.2 sS;simp[nR,dA,ld,hw];refine aR.bZb (aE7 al (l:=[48]) (c:=9-Lib.nDigits (bb ds%1000000000)) (by omega) (by simp)) ?_;rintro _ cV ⟨rfl,rfl⟩;have asO:(Lib.repeatL [48] (9-Lib.nDigits (bb ds%1000000000))).length=9-Lib.nDigits (bb ds%1000000000):=by rw[asL];simp
   simp[dA,ld,asO,show 9-Lib.nDigits (bb ds%1000000000)+Lib.nDigits (bb ds%1000000000)<=4294967296 by omega,show 9-Lib.nDigits (bb ds%1000000000)+Lib.nDigits (bb ds%1000000000)+s.length<=4294967296 by omega];refine .of (.slice uX (strip fr).length Hc,strip fr,Lib.repeatL [48] (9-Lib.nDigits (bb ds%1000000000))++Lib.decDigits (bb ds%1000000000)++s) (by show bb (strip fr)<bb ds;rw[qn,qp];exact E4) (by simp) ⟨aQ.trans (bt.trans cd),L0,C1 fr,aFc,?_⟩;show l9 (bb (strip fr))++(_++s)=l9 n;rw[qn,qp,<-hinv,<-lM,ld];simp
end Go.Dam.C
namespace Go.Dam.C
open Go Go.Dam
variable{X:aY}{pm:Perm}{H H':ah}
section
variable[cn]
def iF(c:UInt8):Bool:=Nat.ble 48 c.toNat&&Nat.ble c.toNat 57
def tn(acc:Nat)(l:List UInt8):Nat:=l.foldl (λa c=>a*10+(c.toNat-48)) acc
def fi(l:List UInt8):Nat:=tn 0 l
end
theorem aFd(l:List UInt8):∀acc,tn acc l=acc*10^l.length+fi l:=by
 induction l with
 | nil=>intro acc;simp[tn,fi]
 | cons c l ih=>
   intro acc;have U:=ih (acc*10+(c.toNat-48));have aa:=ih (0*10+(c.toNat-48));simp only[fi,tn,bWj]at U aa|-;rw[U,aa,bZN,bZm];grind
theorem UD(a b:List UInt8):fi (a++b)=fi a*10^b.length+fi b:=by
 rw[fi,tn,List.foldl_append];exact aFd b _
theorem Kc{l:List UInt8}(h:l.all iF=true):fi l<10^l.length:=by
 induction l with
 | nil=>simp[fi,tn]
 | cons c l ih=>
   simp only[bXe,cG]at h;have U:=ih h.2;have aa:fi (c::l)=(c.toNat-48)*10^l.length+fi l:=by
    have:=UD [c] l;simpa [fi,tn]using this
   have aq:c.toNat-48<=9:=by
    have:=h.1;simp[iF,dA]at this;omega
   rw[aa,bZN,bZm];have:=hQ (10^l.length) aq;omega
theorem asP:∀(l:List UInt8) (acc:Nat),l.all iF=true->(acc+1)*10^l.length<=1000000000->Lib.parseUintM (2^32-1) acc l=.ok (tn acc l)
 | [],acc,_,_=>rfl
 | c::l,acc,h,ai=>by
   simp only[bXe,cG]at h;have af:=h.1;simp[iF,dA]at af;rw[bZN,bZm]at ai;have aC:1<=10^l.length:=bWk _ _ (by decide);have yH:(acc*10+(c.toNat-48)+1)*10^l.length<=1000000000:=by
    refine bH (hQ _ (show acc*10+(c.toNat-48)+1<=(acc+1)*10 by omega)) ?_;rw[og,gw 10];exact ai
   have C9:acc*10+(c.toNat-48)+1<=1000000000:=bH (bWJ _ aC) yH;rw[Lib.parseUintM,bm ⟨af.1,af.2⟩,aU (by omega),aU (by omega)];exact asP l _ h.2 yH
section
variable[cn]
abbrev yX:List UInt8:=[48,49,50,51,52,53,54,55,56,57]
end
theorem aFe(c:UInt8):yX.contains c=iF c:=by
 have:∀n:_root_.Fin 256,yX.contains (UInt8.ofNat n.val)=iF (UInt8.ofNat n.val):=by decide +kernel
 have h:=this ⟨c.toNat,c.toNat_lt⟩;simpa using h
theorem dropWhile_nil{p:UInt8->Bool}:∀{l:List UInt8},l.dropWhile p=[]->l.all p=true
 | [],_=>rfl
 | c::l,h=>by
   rw[List.dropWhile_cons]at h;split at h
   ·rename_i af;simp[af];have:=dropWhile_nil h;simpa using this
   ·cases h
theorem asQ{l:List UInt8}:(Lib.trimS l yX=[])↔l.all iF=true:=by
 have e:(λc=>yX.contains c)=iF:=funext aFe;constructor
 ·intro h;unfold Lib.trimS Lib.trimLeftS Lib.trimRightS at h;rw[e]at h;have U:=dropWhile_nil h;rw[List.all_reverse]at U;have aa:(l.reverse.takeWhile iF).all iF=true:=by
   exact List.all_takeWhile
  have aq:l.reverse.all iF=true:=by
   rw[<-List.takeWhile_append_dropWhile (p:=iF) (l:=l.reverse),List.all_append,aa,U];rfl
  rwa [List.all_reverse]at aq
 ·intro h;unfold Lib.trimS Lib.trimLeftS Lib.trimRightS;rw[e];have U:l.reverse.dropWhile iF=[]:=by
   have:l.reverse.all iF=true:=by rw[List.all_reverse];exact h
   generalize l.reverse=m at*
   induction m with
   | nil=>rfl
   | cons c m ih=>
     simp only[bXe,cG]at this;rw[List.dropWhile_cons,bm this.1];exact ih this.2
  rw[U];rfl
theorem aFf(al:kr X){l:List UInt8}(aO:l.length<=1000000):Call X pm F.Hh [aW l,aW yX] H λr H'=>H'=H/\r=aW (Lib.trimS l yX):=by
 refine Call.over al.trim (v:=aW (Lib.trimS l yX)) (H':=H) ?_ ⟨rfl,rfl⟩;simp only[Hm,dA,asC,aO,decide_true,Bool.true_and];rfl
theorem aFg(al:kr X){l:List UInt8}(h:l.all iF=true)(aD:l≠[])(mm:l.length<=9):Call X pm F.Ux [aW l,.int .i64 10,.int .i64 32] H λr H'=>H'=H/\r=.tuple #[.int .u64 ((fi l:Nat):Int),.nilIface]:=by
 refine Call.over al.parse (v:=.tuple #[.int .u64 ((fi l:Nat):Int),.nilIface]) (H':=H) ?_ ⟨rfl,rfl⟩;have aC:Lib.parseUintB 32 l=.ok (fi l):=by
  unfold Lib.parseUintB;rw[aU aD];refine asP l 0 h ?_;have:10^l.length<=10^9:=iH (by decide) mm;omega
 simp only[Hn,dA,asC,show l.length<=1000000 by omega,decide_true];simp[aC]
section
variable[cn]
def je(l:List UInt8):Bool:=!l.isEmpty&&(Nat.ble l.length 2000&&(!(Nat.blt 1 l.length&&l.head? ==some 48)&&l.all iF))
end
theorem QU(n:Nat):10^n<=4294967296^n:=bVX (by decide) n
theorem aFh{p:UInt8->Bool}{l:List UInt8}(h:l.all p=true)(k:Nat):(l.take k).all p=true/\(l.drop k).all p=true:=by
 have:=h;rw[<-bVf k l,List.all_append,cG]at this;exact this
section
variable[cn]
def yY(pm:Perm)(H:ah)(l:List UInt8):c':=λx l' H'=>(x=gr.normal∨x=gr.ret)/\∃vs,nb l' H' [.slot 2,.slot 3]=some vs/\(b6 pm H H'/\(je l=false/\j5 vs=.tuple #[.pointer none,.bool false]∨je l=true/\∃p,j5 vs=.tuple #[p,.bool true]/\c6 H' p (fi l)))
theorem aFi(al:kr X)(au:cU pm H){l:List UInt8}(aK:je l=true)(aB:l.all iF=true)(hlen:l.length<=2000)(U:1<=l.length){L:bQ}(c0:a7 0 L=some (aW l)):
 wp X pm (.code yV) L H [] (yY pm H l):=by
 simp;refine aR.bZb (Q9 al.fB au er.nil (by simp)) ?_;rintro bJ H1 ⟨av,n1⟩;have n1:c6 H1 bJ 0:=(show gm H1 bJ (strip []) from .inr n1).nat;have hw:wr .i64 ((l.length%9:Nat):Int)=((l.length%9:Nat):Int):=zWc (by omega) (by omega);have lU:wr .i64 ((l.length:Int)%9)=((l.length%9:Nat):Int):=by rw[<-hw];simp
 simp[c0]
 refine hv.of (λs:List UInt8×Nat×Value×Nat=>[(0,aW s.1),(5,.int .i64 (s.2.1:Int)),(4,s.2.2.1)])
  (λs H'=>b6 pm H1 H'/\c6 H' s.2.2.1 s.2.2.2/\s.1.all iF=true/\s.1.length<=l.length/\fi l=s.2.2.2*10^s.1.length+fi s.1/\(s.2.1=9->s.1.length%9=0)/\(s.2.1≠9->s.2.1=s.1.length%9/\s.2.2.2=0))
  (λs=>2*s.1.length+(if s.2.1=9 then 0 else 1)) (l,l.length%9,bJ,0) (by simp[c0]) ⟨.refl av.ok,n1,aB,bR _,by simp,by simp;omega,by simp⟩ ?_
 rintro⟨r,bY,out,m⟩ aJ ⟨aI,hm,As,ld,mq,UE,zL⟩;simp only at hm As ld mq UE zL;by_cases rr:r=[]
 ·subst rr;have:m=fi l:=by rw[mq];simp[fi,tn]
  simp[yY,aK];exact⟨av.trans aI,by rw[<-this];exact hm⟩
 ·have asO:0<r.length:=bXr.2 rr;by_cases CH:bY=0
  ·subst CH;have:=zL (by omega);simp[rr];exact .of (r,9,out,m) (by simp) (by simp) ⟨aI,hm,hz.1 As,ld,mq,λ_=>this.1.symm,λh=>absurd rfl h⟩
  ·have aFj:0<bY:=by omega
   have sJ:bY<=r.length/\bY<=9:=by
    by_cases h:bY=9
    ·have:=UE h;omega
    ·have:=zL h;omega
   have UF:=aFh As bY;have d':(r.take bY).length=bY:=by simp;omega
   have rh:(r.drop bY).length=r.length-bY:=by simp
   simp[rr,aFj,sJ];refine aR.bZb (aFg al UF.1 (by intro h;rw[h]at d';simp at d';omega) (by omega)) ?_;rintro _ aJ ⟨rfl,rfl⟩;have ui:List.take (r.length-bY) (r.drop bY)=r.drop bY:=tp (by rw[rh];exact bR _);have UG:=Kc UF.1;rw[d']at UG;have aIM:fi (r.take bY)<1000000000:=hR UG (iH (n:=10) (by decide) sJ.2);have aFk:fi r=fi (r.take bY)*10^(r.length-bY)+fi (r.drop bY):=by
    conv=>lhs;rw[<-bVf bY r]
    rw[UD,rh]
   have om:fi l=(m*1000000000+fi (r.take bY))*10^(r.length-bY)+fi (r.drop bY):=by
    rw[mq,aFk];by_cases h:bY=9
    ·have:10^r.length=1000000000*10^(r.length-bY):=by
      rw[h,show(1000000000:Nat)=10^9 from rfl,<-hT];congr 1;omega
     rw[this];grind
    ·rw[(zL h).2];simp
   have bO:=Kc aB;have zt:1<=10^(r.length-bY):=bWk _ _ (by decide);have pZ:m*1000000000+fi (r.take bY)<4294967296^l.length:=by
    refine eD ?_ (hR bO (QU _));rw[om];exact bH (bWJ _ zt) (hS _ _)
   have hu:1000000000<4294967296^l.length:=by
    have:4294967296^1<=4294967296^l.length:=iH (by decide) U;omega
   simp;refine aR.bZb (E5 al.tofa aI.ok (x:=1000000000) (by omega)) ?_;rintro cO bN ⟨aQ,Cu⟩;simp;refine aR.bZb (xP al.tofa aQ.ok (hm.bT aI.ok aQ) Cu (k:=l.length) (eD (by omega) pZ) hu (by omega)) ?_;rintro aIN cp ⟨bt,aFl⟩;simp;refine aR.bZb (E5 al.tofa bt.ok (x:=fi (r.take bY)) (by omega)) ?_;rintro aIO cV ⟨cd,Rf⟩;simp;refine aR.bZb (NK al.tofa cd.ok (aFl.bT bt.ok cd) Rf (k:=l.length) (eD (hS _ _) pZ) (eD (Nat.le_add_left _ _) pZ) (by omega)) ?_;rintro qZ ep ⟨cv,aFm⟩;simp[sJ];refine .of (r.drop bY,9,qZ,m*1000000000+fi (r.take bY)) (by show 2*(r.drop bY).length+0<2*r.length+_;rw[rh];omega) (by simp;exact ui.symm▸rfl) ⟨aI.trans (aQ.trans (bt.trans (cd.trans cv))),aFm,hz.1 UF.2,by simp;omega,by show fi l=_;simp only;rw[rh];exact om,λ_=>?_,λh=>absurd rfl h⟩;show(r.drop bY).length%9=0;rw[rh];by_cases h:bY=9
   ·have:=UE h;omega
   ·have:=(zL h).1;omega
theorem UH(al:kr X)(au:cU pm H){l:List UInt8}:
 Call X pm F.sY [aW l] H λr H'=>b6 pm H H'/\(je l=false/\r=.tuple #[.pointer none,.bool false]∨je l=true/\∃p,r=.tuple #[p,.bool true]/\c6 H' p (fi l)):=by
 refine Call.has al.sY rfl ?_;show wp X pm (.code sY.body) _ H [] (yY pm H l)
 cases aO:l with
 | nil=>
   simp;refine aR.not (by simp) ?_;simp[je,yY];exact .refl au
 | cons c t=>
   rw[<-aO];have U:l.isEmpty=false:=by rw[aO];rfl
   have aD:l[0]? = some c:=by rw[aO];rfl
   have dr:l≠[]:=by rw[aO];simp
   have c9:l.head? = some c:=by rw[aO];rfl
   have aK:je l=(Nat.ble l.length 2000&&(!(Nat.blt 1 l.length&&c==48)&&l.all iF)):=by unfold je;rw[U,c9];simp
   by_cases aa:2000<l.length
   ·simp[U,aa];refine aR.not (by simp) ?_;simp[yY,aK,dA,show ¬l.length<=2000 by omega];exact .refl au
   ·simp[U,aa];by_cases aq:1<l.length/\c.toNat=48
    ·simp[aq.1,aq.2,aD];refine aR.not (by simp) ?_;have af:c=48:=bVm.1 (by rw[aq.2];rfl);simp[yY,aK,js,aq.1,af];exact .refl au
    ·have fin:∀{L:bQ},a7 0 L=some (aW l)->a7 25 L=some (.bool false)->aR X pm ⟨some 27,some (25,false),.call F.Hh [.t 26,.c (.string ⟨#[48,49,50,51,52,53,54,55,56,57]⟩)]⟩ F.Hh [.t 26,.c (.string ⟨#[48,49,50,51,52,53,54,55,56,57]⟩)] Hj ((26,aW l)::L) H [.seq Hi,.seq yV] (yY pm H l):=by
      intro L c0 GJ;refine aR.of (by simp[GJ]) (by simp) (aFf al (l:=l) (by omega)) ?_;rintro _ H ⟨rfl,rfl⟩;have KU:je l=l.all iF:=by
       rw[aK];have ao:Nat.ble l.length 2000=true:=by simp[dA];omega
       have e2:(Nat.blt 1 l.length&&c==48)=false:=by
        by_cases bn:1<l.length
        ·by_cases bh:c=48
         ·exact absurd ⟨bn,by rw[bh];rfl⟩ aq
         ·simp[bh]
        ·simp[js];omega
       rw[ao,e2];simp
      by_cases aB:l.all iF=true
      ·have aS:=asQ.2 aB;simp[GJ,aS,-yV];exact aFi al au (by rw[KU];exact aB) aB (by omega) (by rw[aO];simp) (by simp[c0])
      ·have aS:Lib.trimS l yX≠[]:=λh=>aB (asQ.1 h);simp[GJ,aS,-yV,yY,KU,aB];exact .refl au
     by_cases bn:1<l.length
     ·have bh:((c.toNat:Int)==48)=false:=by
       have:¬c.toNat=48:=λh=>aq ⟨bn,h⟩;simp;omega
      simp[bn,bh,aD,-yV,-Hi,-Hj];refine fin ?_ ?_<;>simp[*]
     ·simp[bn,-yV,-Hi,-Hj];refine fin ?_ ?_<;>simp[*]
end
theorem aFn(al:kr X)(c:UInt8)(t:List UInt8):Call X pm F.tk [aW (c::t),aW [c]] H λr H'=>H'=H/\r=.bool true:=by
 refine Call.has al.tk rfl ?_;simp[show ¬((t.length:Int)+1<1) by omega]
theorem aFo(al:kr X)(c:UInt8){l:List UInt8}(h:l.head?≠some c):Call X pm F.tk [aW l,aW [c]] H λr H'=>H'=H/\r=.bool false:=by
 refine Call.has al.tk rfl ?_
 cases l with
 | nil=>simp
 | cons d t=>
   have:d≠c:=λe=>h (by rw[e];rfl);simp[this,show ¬((t.length:Int)+1<1) by omega]
theorem aFp(al:kr X)(c:UInt8)(t:List UInt8):Call X pm F.th [aW (c::t),aW [c]] H λr H'=>H'=H/\r=.tuple #[aW t,.bool true]:=by
 refine Call.has al.th rfl ?_;simp;have h:Call X pm F.ti [aW (c::t),aW [c]] H λr H'=>H'=H/\r=.tuple #[aW t,.bool true]:=by
  refine Call.has al.ti rfl ?_;simp;refine aR.bZb (aFn al c t) ?_;rintro _ _ ⟨rfl,rfl⟩;simp
 refine aR.bZb h ?_;rintro _ _ ⟨rfl,rfl⟩;simp
theorem aFq(al:kr X)(c:UInt8){l:List UInt8}(h:l.head?≠some c):Call X pm F.th [aW l,aW [c]] H λr H'=>H'=H/\r=.tuple #[aW l,.bool false]:=by
 refine Call.has al.th rfl ?_;simp;have h:Call X pm F.ti [aW l,aW [c]] H λr H'=>H'=H/\r=.tuple #[aW l,.bool false]:=by
  refine Call.has al.ti rfl ?_;simp;refine aR.bZb (aFo al c h) ?_;rintro _ _ ⟨rfl,rfl⟩;simp
 refine aR.bZb h ?_;rintro _ _ ⟨rfl,rfl⟩;simp
theorem asR:∀{l:List UInt8} {n:Nat},47∉l->oy 47 l n=-1
 | [],_,_=>rfl
 | c::l,n,h=>by
   have af:¬c.toNat=47:=λe=>h (by rw[show c=47 from bVm.1 (by rw[e];rfl)];exact .head _);simp only[oy,ed,af,decide_false,cond_false];exact asR λhm=>h (.tail _ hm)
theorem asS:∀{a:List UInt8} {b:List UInt8} {n:Nat},47∉a->oy 47 (a++47::b) n=((n+a.length:Nat):Int)
 | [],b,n,_=>by
   simp only[bVo,oy,ed];rfl
 | c::a,b,n,h=>by
   have af:¬c.toNat=47:=λe=>h (by rw[show c=47 from bVm.1 (by rw[e];rfl)];exact .head _);simp only[bYx,oy,ed,af,decide_false,cond_false];rw[asS λhm=>h (.tail _ hm)];simp only[bZN];congr 1;omega
theorem aFr(al:kr X)(l:List UInt8):Call X pm F.Uz [aW l,.int .u8 47] H λr H'=>H'=H/\r=.int .i64 (oy 47 l 0):=
 Call.over al.idx (v:=.int .i64 (oy 47 l 0)) (H':=H) rfl ⟨rfl,rfl⟩
theorem asT(al:kr X)(l:List UInt8):Call X pm F.xj [aW l,aW [47]] H λr H'=>H'=H/\r=.int .i64 (oy 47 l 0):=by
 refine Call.has al.xj rfl ?_;have h:Call X pm F.vl [aW l,.int .u8 47] H λr H'=>H'=H/\r=.int .i64 (oy 47 l 0):=by
  refine Call.has al.vl rfl ?_;simp;refine aR.bZb (aFr al l) ?_;rintro _ _ ⟨rfl,rfl⟩;simp
 by_cases aO:[47]=l
 ·subst aO;simp;rfl
 simp[aO];refine aR.bZb h ?_;rintro _ _ ⟨rfl,rfl⟩;simp
theorem aFs(al:kr X){l:List UInt8}(aO:47∉l):Call X pm F.tg [aW l,aW [47]] H λr H'=>H'=H/\r=.tuple #[aW l,aW [],.bool false]:=by
 refine Call.has al.tg rfl ?_;simp;have h:Call X pm F.tj [aW l,aW [47]] H λr H'=>H'=H/\r=.tuple #[aW l,aW [],.bool false]:=by
  refine Call.has al.tj rfl ?_;simp;refine aR.bZb (asT al l) ?_;rintro _ _ ⟨rfl,rfl⟩;rw[asR aO];simp
 refine aR.bZb h ?_;rintro _ _ ⟨rfl,rfl⟩;simp
section
variable[cn]
theorem aFt(al:kr X)(au:cU pm H){a b:List UInt8}(aN:47∉a)(aO:a.length<1000000):Call X pm F.tg [aW (a++47::b),aW [47]] H λr H'=>b6 pm H H'/\r=.tuple #[aW a,aW b,.bool true]:=by
 refine Call.has al.tg rfl ?_;simp;have h:Call X pm F.tj [aW (a++47::b),aW [47]] H λr H'=>b6 pm H H'/\r=.tuple #[aW a,aW b,.bool true]:=by
  refine Call.has al.tj rfl ?_;simp;refine aR.bZb (asT al (a++47::b)) ?_;rintro _ _ ⟨rfl,rfl⟩;rw[asS aN];have hw:wr .i64 ((a.length:Int)+1)=((a.length+1:Nat):Int):=by rw[zWc (by omega) (by omega)];simp
  simp;refine eg.E7 au rfl rfl rfl ?_;simp[hw];exact⟨(b6.refl au).up _,by rw[tp (by omega)]⟩
 refine aR.bZb h ?_;rintro _ _ ⟨av,rfl⟩;simp;exact av
end
theorem asF{neg:Bool}{n d k:Nat}(aF:n<4294967296^k)(aB:d<4294967296^k)(gh:d≠0):sz (iN neg n d) k:=by
 have h:(if neg then -(n:Int) else(n:Int)).natAbs=n:=by cases neg<;>simp
 unfold iN;rw[<-bVc gh,bVk];refine⟨eD ?_ aF,eD (oe _ _) aB⟩
 conv=>rhs;rw[<-h]
 exact bVa _ _
theorem Ho{n:Int}:wr .u64 n=n%18446744073709551616:=by
 rw[vE];simp[IntKind.wrap,IntKind.bits,IntKind.signed]
theorem aFu(al:kr X){n:Int}(aD:-9223372036854775808<=n)(U:n<=9223372036854775807):Call X pm F.wJ [.int .i64 n] H λr H'=>H'=H/\r=.int .u64 ((n.natAbs:Nat):Int):=by
 refine Call.has al.wJ rfl ?_;by_cases aF:n<0
 ·have e:wr .u64 (0-wr .u64 n)=((n.natAbs:Nat):Int):=by rw[Ho,Ho];omega
  have bw:wr .u64 (-wr .u64 n)=((n.natAbs:Nat):Int):=by rw[Ho,Ho];omega
  simp[aF,bw]
 ·have e:wr .u64 n=((n.natAbs:Nat):Int):=by rw[Ho];omega
  simp[aF,e]
section
variable[cn]
theorem aCa(al:kr X)(au:cU pm H){n:Int}(aD:-9223372036854775808<=n)(U:n<=9223372036854775807):Call X pm F.kp [.int .i64 n] H λr H'=>b6 pm H H'/\jC H' r (n:Rat):=by
 refine Call.has al.kp rfl ?_;simp;refine aR.bZb (aFu al aD U) ?_;rintro _ _ ⟨rfl,rfl⟩;simp;refine aR.bZb (E5 al.tofa au (x:=n.natAbs) (by omega)) ?_;rintro bJ H1 ⟨av,n1⟩;simp;refine aR.bZb (B0 al.tofa av.ok) ?_;rintro bG aJ ⟨aI,lk⟩;have ao:∃a,bJ=.pointer a:=by
  rcases n1.ptr with⟨h,_⟩ | ⟨a,h⟩
  ·exact⟨_,h⟩
  ·exact⟨_,h⟩
 have e2:∃a,bG=.pointer a:=by
  rcases lk.ptr with⟨h,_⟩ | ⟨a,h⟩
  ·exact⟨_,h⟩
  ·exact⟨_,h⟩
 obtain⟨cx,rfl⟩:=ao;obtain⟨a2,rfl⟩:=e2;simp[aI.ok.make,aI.ok.pick];have aQ:=(b6.refl aI.ok).new (cj.cells [.bool (decide (n<0)),.pointer cx,.pointer a2] (.t T.aEz));refine⟨av.trans (aI.trans aQ),⟨.inr ⟨_,_,.pointer cx,.pointer a2,rfl,dT,?_,?_,?_⟩⟩,_,_,_,rfl,dT⟩
 ·exact⟨by simp[Rat.intCast_neg_iff],rfl⟩
 ·rw[Rat.num_intCast];exact(n1.bT av.ok aI).bT aI.ok aQ
 ·rw[Rat.den_intCast];exact lk.bT aI.ok aQ
def dB(q:Rat):List UInt8:=(if q<0 then[45] else[])++(Lib.decDigits q.num.natAbs++(if q.den=1 then[] else 47::Lib.decDigits q.den))
end
theorem QT(n:Nat):fi (Lib.decDigits n)=n:=by
 induction n using Nat.strongRecOn with
 | _ n ih=>
   by_cases h:n<10
   ·rw[Lib.decDigits_one h];have:(48+n)%256=48+n:=by omega
    simp[fi,tn,this]
   ·rw[Lib.decDigits,dif_neg h,UD,ih (n/10) (by omega)];have:(48+n%10)%256=48+n%10:=by omega
    simp[fi,tn,this];omega
theorem QS{n m:Nat}(h:Lib.decDigits n=Lib.decDigits m):n=m:=by rw[<-QT n,h,QT]
theorem L1{n:Nat}:Lib.decDigits n=[49]↔n=1:=by
 have U:Lib.decDigits 1=[49]:=by rw[Lib.decDigits_one (by omega)];rfl
 constructor
 ·intro h;rw[<-U]at h;exact QS h
 ·rintro rfl;exact U
section
variable[cn]
theorem abG(al:kr X)(au:cU pm H)(aS:Tab H){v:Value}{q:Rat}{k:Nat}(h:iv H v q)(aG:sz q k)(so:1<=k)(ag:k<100000000):
 Call X pm F.mI [v] H λr H'=>b6 pm H H'/\r=aW (dB q):=by
 refine Call.has al.mI rfl ?_;simp;refine aR.bZb (sr al.tofa au h) ?_;rintro _ H1 ⟨av,jA,jB,rfl,aF,aB⟩;simp;refine aR.bZb (UC al av.ok (aS.bT au av) aF aG.1 so ag) ?_;rintro _ aJ ⟨aI,rfl⟩;have ln:=Gc aG.1 so;have Cm:=Gc aG.2 so;have e0:=av.trans aI;have t2:=aS.bT au e0;have kd:=aB.bT av.ok aI;by_cases aV:q<0
 ·simp[aV,dA,show 1+(Lib.decDigits q.num.natAbs).length<=4294967296 by omega];refine aR.bZb (UC al aI.ok t2 kd aG.2 so ag) ?_;rintro _ bN ⟨aQ,rfl⟩;by_cases U:q.den=1
  ·have e:Lib.decDigits 1=[49]:=L1.2 rfl;simp[U,e,dB,aV];exact e0.trans aQ
  ·have e:Lib.decDigits q.den≠[49]:=λh=>U (L1.1 h);simp[e,dB,aV,U,dA,show 1+(Lib.decDigits q.den).length<=4294967296 by omega,show(Lib.decDigits q.num.natAbs).length+1+((Lib.decDigits q.den).length+1)<=4294967296 by omega];exact e0.trans aQ
 ·simp[aV];refine aR.bZb (UC al aI.ok t2 kd aG.2 so ag) ?_;rintro _ bN ⟨aQ,rfl⟩;by_cases U:q.den=1
  ·have e:Lib.decDigits 1=[49]:=L1.2 rfl;simp[U,e,dB,aV];exact e0.trans aQ
  ·have e:Lib.decDigits q.den≠[49]:=λh=>U (L1.1 h);simp[e,dB,aV,U,dA,show 1+(Lib.decDigits q.den).length<=4294967296 by omega,show(Lib.decDigits q.num.natAbs).length+((Lib.decDigits q.den).length+1)<=4294967296 by omega];exact e0.trans aQ
def qu(l:List UInt8)(neg:Bool)(a b:List UInt8):Option Rat:=
 if je a=true/\je b=true/\fi b≠0/\dB (iN neg (fi a) (fi b))=l then some (iN neg (fi a) (fi b)) else none
def kK(l:List UInt8):Bool×List UInt8:=if l.head? = some 45 then(true,l.tail) else(false,l)
def oI(t:List UInt8):List UInt8×List UInt8:=if 47∈t then(t.takeWhile (· != 47),(t.dropWhile (· != 47)).tail) else(t,[49])
def jD(l:List UInt8):Option Rat:=qu l (kK l).1 (oI (kK l).2).1 (oI (kK l).2).2
def yZ(pm:Perm)(H:ah)(o:Option Rat):c':=λx l' H'=>(x=gr.normal∨x=gr.ret)/\∃vs,nb l' H' [.slot 2,.slot 3]=some vs/\(b6 pm H H'/\(o=none/\j5 vs=.tuple #[.pointer none,.bool false]∨∃q p,o=some q/\j5 vs=.tuple #[p,.bool true]/\jC H' p q))
end
theorem Ca{l:List UInt8}(h:je l=true):fi l<4294967296^l.length/\l.length<=2000/\1<=l.length:=by
 unfold je at h;simp[dA]at h;refine⟨hR (Kc (by rw[hz];exact h.2.2.2)) (QU _),h.2.1,?_⟩
 cases l with
 | nil=>exact absurd rfl h.1
 | cons=>simp
section
variable[cn]
theorem asU(al:kr X){H0:ah}(ea:b6 pm H0 H)(aS:Tab H){l a b:List UInt8}{neg:Bool}{L:bQ}(c0:a7 0 L=some (aW l))(lf:a7 5 L=some (.bool neg))(h1:a7 6 L=some (aW a))(dO:a7 7 L=some (aW b)):
 wp X pm (.code A4) L H [] (yZ pm H0 (qu l neg a b)):=by
 have au:=ea.ok;simp[h1,-tl];refine aR.bZb (UH al au (l:=a)) ?_;rintro _ H1 ⟨av,U⟩
 rcases U with⟨g1,rfl⟩ | ⟨g1,bJ,rfl,n1⟩
 ·simp[dO,-tl];refine aR.bZb (UH al av.ok (l:=b)) ?_;rintro _ aJ ⟨aI,aa⟩
  rcases aa with⟨g2,rfl⟩ | ⟨g2,bG,rfl,lk⟩<;>
  ·simp[-tl];refine aR.not (by simp) ?_;simp[yZ,qu,g1,-tl];exact ea.trans (av.trans aI)
 ·simp[dO,-tl];refine aR.bZb (UH al av.ok (l:=b)) ?_;rintro _ aJ ⟨aI,aa⟩
  rcases aa with⟨g2,rfl⟩ | ⟨g2,bG,rfl,lk⟩
  ·simp[-tl];refine aR.not (by simp) ?_;simp[yZ,qu,g2,-tl];exact ea.trans (av.trans aI)
  ·have e0:=av.trans aI;have aFv:=n1.bT av.ok aI;obtain⟨abk,ir,aIP⟩:=Ca g1;obtain⟨Gs,iM,aAS⟩:=Ca g2;have asV:=oF abk (hS a.length b.length);have asW:=oF Gs (Nat.le_add_left b.length a.length);simp[-tl];refine aR.bZb (xQ al.tofa lk Gs (by omega)) ?_;rintro _ _ ⟨rfl,rfl⟩;by_cases aD:fi b=0
   ·simp[aD,yZ,qu,-tl];exact ea.trans e0
   ·simp[aD,lf];refine aR.bZb (B2 al.tofa aI.ok (neg:=neg) aFv lk asV asW (by omega) aD) ?_;rintro cO bN ⟨aQ,Cu⟩;have h0:=e0.trans aQ;simp;refine aR.bZb (abG al aQ.ok (aS.bT au h0) Cu.1 (asF asV asW aD) (by omega) (by omega)) ?_;rintro _ cp ⟨bt,rfl⟩;have mz:=h0.trans bt;by_cases aV:dB (iN neg (fi a) (fi b))=l
    ·simp[c0,aV,yZ];refine⟨ea.trans mz,_,?_,Cu.bT aQ.ok bt⟩;simp[qu,g1,g2,aD,aV]
    ·simp[c0,aV,yZ,qu];exact ea.trans mz
theorem aCb(al:kr X)(au:cU pm H)(aS:Tab H){l:List UInt8}(aO:l.length<1000000):
 Call X pm F.nx [aW l] H λr H'=>b6 pm H H'/\(jD l=none/\r=.tuple #[.pointer none,.bool false]∨∃q p,jD l=some q/\r=.tuple #[p,.bool true]/\jC H' p q):=by
 refine Call.has al.nx rfl ?_;show wp X pm (.code nx.body) _ H [] (yZ pm H (jD l));have rest:∀{L:bQ},(kK l).2.length<=l.length->a7 0 L=some (aW l)->a7 4 L=some (aW (kK l).2)->a7 5 L=some (.bool (kK l).1)->wp X pm (.code DT) L H [] (yZ pm H (jD l)):=by
  intro L RP c0 hP lf;unfold jD;generalize aF:kK l=lL at*
  obtain⟨neg,t⟩:=lL;simp only at hP lf RP;simp only;by_cases hm:47∈t
  ·obtain⟨a,b,rfl,aN⟩:=List.eq_append_cons_of_mem hm;have af:oI (a++47::b)=(a,b):=by
    have ao:∀x∈a,(x != (47:UInt8))=true:=λx az=>by
     simp;rintro rfl;exact aN az
    unfold oI;rw[bm hm,List.takeWhile_append_of_pos ao,List.dropWhile_append_of_pos ao];simp
   rw[af];simp[hP,-A4];refine aR.bZb (aFt al au (a:=a) (b:=b) aN (by simp at RP;omega)) ?_;rintro _ H1 ⟨av,rfl⟩;simp[-A4];refine asU al av (aS.bT au av) ?_ ?_ ?_ ?_<;>simp[c0,lf]
  ·have af:oI t=(t,[49]):=by unfold oI;rw[aU hm]
   rw[af];simp[hP,-A4];refine aR.bZb (aFs al (l:=t) hm) ?_;rintro _ H1 ⟨rfl,rfl⟩;simp[-A4];refine asU al (.refl au) aS ?_ ?_ ?_ ?_<;>simp[c0,lf]
 simp[-DT];by_cases c9:l.head? = some 45
 ·have qh:l=45::l.tail:=by
   cases l with
   | nil=>cases c9
   | cons c t=>simp at c9;subst c9;rfl
  have aF:kK l=(true,l.tail):=by unfold kK;rw[bm c9]
  have af:=aFp (X:=X) (pm:=pm) (H:=H) al 45 l.tail;rw[<-qh]at af;refine aR.bZb af ?_;rintro _ _ ⟨rfl,rfl⟩;simp[-DT];refine rest ?_ ?_ ?_ ?_<;>simp[aF]
 ·have aF:kK l=(false,l):=by unfold kK;rw[aU c9]
  refine aR.bZb (aFq al 45 c9) ?_;rintro _ _ ⟨rfl,rfl⟩;simp[-DT];refine rest ?_ ?_ ?_ ?_<;>simp[aF]
theorem av3(al:fa X)(au:cU pm H){v:Value}{q:Rat}{k:Nat}(h:iv H v q)(aG:sz q k)(ag:k<67108864):
 Call X pm F.su [v] H λr H'=>b6 pm H H'/\r=.bool (decide (q.den=1)):=by
 refine Call.has al.su rfl ?_;simp;refine aR.bZb (sr al au h) ?_;rintro _ H1 ⟨av,jA,jB,rfl,aF,aB⟩;simp;refine aR.bZb (B0 al av.ok) ?_;rintro cB aJ ⟨aI,aa⟩;simp;refine aR.bZb (NL al (aB.bT av.ok aI) aa aG.2 (eD (tq q.den_nz) aG.2) (by omega)) ?_;rintro _ bN ⟨rfl,rfl⟩;simp;refine⟨av.trans aI,?_⟩;unfold iu;have:=q.den_nz;by_cases U:q.den=1
 ·simp[U]
 ·have aa:q.den≠0:=this;simp[U,aa]
omit [cn] in
theorem av4(q:Rat):iN (decide (q<0)) (q.num.natAbs/q.den+(if q<0/\q.num.natAbs%q.den≠0 then 1 else 0)) 1=(q.floor:Rat):=by
 rw[B1];have aB:(0:Int)<q.den:=Int.natCast_pos.2 q.den_pos;have e:mr (decide (q<0)) (q.num.natAbs/q.den+(if q<0/\q.num.natAbs%q.den≠0 then 1 else 0))=q.floor:=by
  conv=>rhs;rw[Rat.floor_def,rq q]
  unfold mr;by_cases h:q<0
  ·simp only[h,decide_true,if_true,true_and];rw[Int.neg_ediv];by_cases aa:q.num.natAbs%q.den=0
   ·have aq:(q.den:Int)∣(q.num.natAbs:Int):=Int.natCast_dvd_natCast.2 (Nat.dvd_of_mod_eq_zero aa);simp[aa,aq]
   ·have aq:¬(q.den:Int)∣(q.num.natAbs:Int):=λh=>aa (Nat.mod_eq_zero_of_dvd (Int.natCast_dvd_natCast.1 h));rw[bm aa,aU aq,Int.sign_eq_one_of_pos aB];simp only[Int.natCast_add,Int.natCast_ediv];omega
  ·simp[h]
 rw[e];exact Rat.mkRat_one _
theorem av5(al:fa X)(au:cU pm H){v:Value}{q:Rat}{k:Nat}(h:iv H v q)(aG:sz q k)(ag:k<67108864):
 Call X pm F.tS [v] H λr H'=>b6 pm H H'/\jC H' r (q.floor:Rat):=by
 refine Call.has al.tS rfl ?_;have bc:=av4 q;have j6:q.num.natAbs/q.den<4294967296^k:=eD (oe _ _) aG.1;have Xn:1<4294967296^(k+1):=Nat.one_lt_pow (by omega) (by omega);simp[-rv];refine aR.bZb (sr al au h) ?_;rintro _ H1 ⟨av,jA,jB,rfl,aF,aB⟩;simp[-rv];refine aR.bZb (NM al av.ok aF aB aG.1 aG.2 (by omega) q.den_nz) ?_;rintro _ aJ ⟨aI,a,s,rfl,aN,an⟩;have e0:=av.trans aI
 have key:∀{bN:ah} {L:bQ} {p:Value} {n:Nat},b6 pm aJ bN->c6 bN p n->n<4294967296^(k+1)->iN (decide (q<0)) n 1=(q.floor:Rat)->a7 3 L=some (.bool (decide (q<0)))->a7 6 L=some p->
  wp X pm (.code rv) L bN [] λx l H'=>(x=.normal∨x=.ret)/\∃vs,nb l H' [.slot 2]=some vs/\(b6 pm H H'/\jC H' (j5 vs) (q.floor:Rat)):=by
  intro bN L p n aQ aC aO he eT h1;simp[eT,h1];refine aR.bZb (B0 al aQ.ok) ?_;rintro b4 cp ⟨bt,U⟩;simp;refine aR.bZb (B2 al bt.ok (neg:=decide (q<0)) (aC.bT aQ.ok bt) U aO Xn (by omega) (by omega)) ?_;rintro cB cV ⟨cd,aa⟩;simp;rw[<-he];exact⟨(e0.trans aQ).trans (bt.trans cd),aa⟩
 by_cases aV:q<0
 ·simp[aV,-rv];refine aR.bZb (xQ al an (eD (Nat.mod_le _ _) aG.1) (by omega)) ?_;rintro _ aJ ⟨rfl,rfl⟩;by_cases aD:q.num.natAbs%q.den=0
  ·simp[aD,-rv];exact key (b6.refl aI.ok) aN (oF j6 (by omega)) (by simpa [aV,aD]using bc) (by simp[aV]) (by simp)
  ·simp[aD,-rv];refine aR.bZb (B0 al aI.ok) ?_;rintro dh bN ⟨aQ,aq⟩;simp[-rv];refine aR.bZb (NK al aQ.ok (aN.bT aI.ok aQ) aq (oF j6 (bXu k)) Xn (by omega)) ?_;rintro kf cp ⟨bt,a8⟩;simp[-rv];refine key (aQ.trans bt) a8 ?_ (by simpa [aV,aD]using bc) (by simp[aV]) (by simp);rw[bZm];omega
 ·simp[aV,-rv];refine aR.not (by simp) ?_;simp[-rv];exact key (b6.refl aI.ok) aN (oF j6 (by omega)) (by simpa [aV]using bc) (by simp[aV]) (by simp)
end
end Go.Dam.C
namespace Go.Dam.C
open Go Go.Dam Go.RowKit
instance:cn:=⟨λ_=>True⟩
def Dl:Array Value:=(Lib.pow10Tab.map λz=>Value.int .u64 z).toArray
def wz(w:World)(N:Nat->Prop)(b o:Nat)(l:List Value):Prop:=N b/\∃c e cz,w.heap[b]? = some (.cells c e cz)/\o+l.length<=c.size/\∀i v,l[i]? = some v->c[o+i]? = some v
def Dm(w:World)(N:Nat->Prop)(s:Value)(ds:List Nat):Prop:=
 e' ds/\((s=.slice none 0 0/\ds=[])∨(∃a,s=.slice (some a) 0 0/\ds=[])∨∃c o cap,s=.slice (some ⟨c,o,none⟩) ds.length cap/\ds.length<=cap/\wz w N c o (c4 ds))
def Aw(w:World)(N:Nat->Prop)(v:Value)(n:Nat):Prop:=
 (v=.pointer none/\n=0)∨∃b o s ds,v=.pointer (some ⟨b,o,none⟩)/\wz w N b o [s]/\Dm w N s ds/\strip ds=ds/\bb ds=n
def yD(w:World)(N:Nat->Prop)(v:Value)(q:Rat):Prop:=
 (v=.pointer none/\q=0)∨∃b o p d,v=.pointer (some ⟨b,o,none⟩)/\wz w N b o [.bool (decide (q<0)),p,d]/\Aw w N p q.num.natAbs/\Aw w N d q.den
section
variable{w w':World}{N oz:Nat->Prop}
theorem wz.mono{b o:Nat}{l:List Value}(h:wz w N b o l)(g:∀c,N c->c<w.heap.size->oz c/\w'.heap[c]? = w.heap[c]?):wz w' oz b o l:=by
 obtain⟨aD,c,e,cz,U,aa⟩:=h;obtain⟨g1,g2⟩:=g _ aD (ic.1 U).1;exact⟨g1,c,e,cz,g2.trans U,aa⟩
theorem Dm.mono{s:Value}{ds:List Nat}(h:Dm w N s ds)(g:∀c,N c->c<w.heap.size->oz c/\w'.heap[c]? = w.heap[c]?):Dm w' oz s ds:=
 ⟨h.1,h.2.imp id (Or.imp id λ⟨c,o,cap,a,b,d⟩=>⟨c,o,cap,a,b,d.mono g⟩)⟩
theorem Aw.mono{v:Value}{n:Nat}(h:Aw w N v n)(g:∀c,N c->c<w.heap.size->oz c/\w'.heap[c]? = w.heap[c]?):Aw w' oz v n:=
 h.imp id λ⟨b,o,s,ds,a,d,e,f⟩=>⟨b,o,s,ds,a,d.mono g,e.mono g,f⟩
theorem yD.mono{v:Value}{q:Rat}(h:yD w N v q)(g:∀c,N c->c<w.heap.size->oz c/\w'.heap[c]? = w.heap[c]?):yD w' oz v q:=
 h.imp id λ⟨b,o,p,d,a,e,f,i⟩=>⟨b,o,p,d,a,e.mono g,f.mono g,i.mono g⟩
end
def nz:da where
 rel:=λw N b o=>o=.nat 0/\N b/\∃e cz,w.heap[b]? = some (.cells Dl e cz)
 zg:=λ⟨aD,U,e,cz,aa⟩ h=>⟨aD,(h _ U).1,e,cz,((h _ U).2).trans aa⟩
def iG:da where
 rel:=λw N b o=>match o with
  | .nat n=>n=0/\N b/\∃e cz,w.heap[b]? = some (.cells Dl e cz)
  | .lF q=>yD w N (.pointer (some ⟨b,0,none⟩)) q
 zg:=λ{w w' N oz b o} h g=>by
  cases o with
  | nat n=>obtain⟨aD,U,e,cz,aa⟩:=h;exact⟨aD,(g _ U).1,e,cz,((g _ U).2).trans aa⟩
  | lF q=>exact yD.mono h λc af _=>g c af
structure In(O:da)(N:Nat->Prop)(W:World)(γ:bo)(H:ah):Prop where
 rel:Rel O 0 γ H W
 ro:∀b,¬hr (H.get b)
 FE:∃L,γ 1=some L/\L.bI=1/\L.d=0
 fJ:H.get 1=some (.eE (.nat 0))
 n:∀b L,γ b=some L->N L.bI
 Qj:∃c e cz,W.heap[1]? = some (.cells c e cz)
def Ext(H H':ah):Prop:=∀b y,H.get b=some y->H'.get b=some y
theorem Ext.refl(H:ah):Ext H H:=λ_ _ h=>h
theorem Ext.trans{H H' cL:ah}(h:Ext H H')(g:Ext H' cL):Ext H cL:=λb y e=>g b y (h b y e)
theorem er.le{H H':ah}{v:Value}{ds:List Nat}(h:er H v ds)(aO:Ext H H'):er H' v ds:=by
 refine⟨h.1,h.2.imp id ?_⟩;rintro⟨c,off,cap,y,row,U,aa,aq⟩;exact⟨c,off,cap,y,row,U,aO _ _ aa,aq⟩
theorem c6.le{H H':ah}{v:Value}{n:Nat}(h:c6 H v n)(aO:Ext H H'):c6 H' v n:=⟨h.ex.imp λ_ q=>⟨q.1.imp id (by
 rintro⟨b,x,s,U,aa,aq,a8⟩;exact⟨b,x,s,U,aO _ _ aa,aq,a8.le aO⟩),q.2⟩⟩
theorem iv.le{H H':ah}{v:Value}{q:Rat}(h:iv H v q)(aO:Ext H H'):iv H' v q:=by
 refine⟨h.ex.imp id ?_⟩;rintro⟨b,x,jA,jB,U,aa,aq,a8,cg⟩;exact⟨b,x,jA,jB,U,aO _ _ aa,aq,a8.le aO,cg.le aO⟩
section
variable{O:da}{N:Nat->Prop}{W:World}{γ:bo}{H:ah}
def RN:Dam.Loc:=⟨1,0,0,0⟩
def gO:bo:=λb=>if b=1 then some RN else none
def KX:ah:=⟨(cI.ak:cI cj).set (.eE (.nat 0)) 1,2⟩
theorem qq{b:Nat}{L:Dam.Loc}(h:gO b=some L):b=1/\L=RN:=by
 unfold gO at h;split at h
 ·simp only[a6]at h;exact⟨by assumption,h.symm⟩
 ·cases h
theorem Ax(b:Nat):KX.get b=if b=1 then some (.eE (.nat 0)) else none:=by
 show((cI.ak:cI cj).set (.eE (.nat 0)) 1).get b=_;rw[cI.pb];by_cases h:b=1
 ·rw[bm h,bm h]
 ·rw[aU h,aU h];rfl
theorem aB0(kZ:∀N:Nat->Prop,N 1->O.rel W N 1 (.nat 0))(c9:1<W.heap.size):Rel O 0 gO KX W:=by
 refine⟨λb L h=>?_,λb L h=>?_,λb h=>?_,λb b' L L' h gJ r r' q=>?_,λb L h r=>?_,Nat.zero_le _⟩
 ·obtain⟨rfl,rfl⟩:=qq h;refine⟨.eE (.nat 0),by rw[Ax,bm rfl],?_⟩;have e8:iJ gO KX W 1:=⟨c9,λb L h r=>by
   obtain⟨rfl,_⟩:=qq h;rw[Ax,bm rfl]at r;exact r.elim⟩
  exact⟨e8,rfl,kZ _ e8⟩
 ·obtain⟨rfl,_⟩:=qq h;show 1<2;omega
 ·rw[Ax,aU];have:2<=b:=h;omega
 ·obtain⟨rfl,_⟩:=qq h;rw[Ax,bm rfl]at r;exact r.elim
 ·obtain⟨rfl,_⟩:=qq h;rw[Ax,bm rfl]at r;exact r.elim
theorem In.start(kZ:∀M:Nat->Prop,M 1->O.rel W M 1 (.nat 0)){c:Array Value}{e:TypeId}{cz:Nat×Nat}(c9:W.heap[1]? = some (.cells c e cz))(gd:N 1):In O N W gO KX:=
 ⟨aB0 kZ (ic.1 c9).1,λb h=>by rw[Ax]at h;split at h<;>exact h.elim,⟨RN,rfl,rfl,rfl⟩,by rw[Ax,bm rfl],λb L h=>by obtain⟨_,rfl⟩:=qq h;exact gd,c,e,cz,c9⟩
theorem In.add(h:In O N W γ H){l l':List Value}{b o:Nat}(hw:wz W N b o l')(an:cm γ l l'):
 In O N W (γ.set H.next ⟨b,o,0,0⟩) (H.new (.ro l))/\γ.le (γ.set H.next ⟨b,o,0,0⟩)/\Ext H (H.new (.ro l)):=by
 obtain⟨aB1,c,elem,cz,hw,gb,af⟩:=hw;have hle:=h.rel.Wk ⟨b,o,0,0⟩;have aB2:H.get H.next=none:=h.rel.new _ (bR _);have aK:∀b,(H.new (.ro l)).get b=if b=H.next then some (.ro l) else H.get b:=λb=>ah.qa H b _
 have Dn:∀b,¬hr ((H.new (.ro l)).get b):=λb=>by
  rw[aK];split
  ·exact λh=>h.elim
  ·exact h.ro b
 have q8:∀c,c<W.heap.size->iJ (γ.set H.next ⟨b,o,0,0⟩) (H.new (.ro l)) W c:=λc af=>⟨af,λb L _ r=>(Dn b r).elim⟩;obtain⟨j9,g1,g2,g3⟩:=h.FE;have U:(1:Nat)≠H.next:=λe=>by have:=h.rel.lt 1 _ g1;omega
 refine⟨⟨⟨λb' L ai=>?_,λb' L ai=>?_,λb' ai=>?_,λb _ _ _ _ _ r _ _=>(Dn b r).elim,λb _ _ r=>(Dn b r).elim,Nat.zero_le _⟩,Dn,⟨j9,hle _ _ g1,g2,g3⟩,?_,λb' L ai=>?_,h.Qj⟩,hle,λb y e=>?_⟩
 ·by_cases e:b'=H.next
  ·subst e;rw[bo.im]at ai;cases ai;refine⟨.ro l,by rw[aK,bm rfl],q8 _ (ic.1 hw).1,c,elem,cz,hw,rfl,by rw[an.length];exact gb,λi v e=>?_⟩;obtain⟨v',a,r⟩:=an.get e;exact⟨v',af i v' a,r.mono hle⟩
  ·rw[bo.j' _ _ e]at ai;obtain⟨x,U,aa⟩:=h.rel.bI b' L ai;exact⟨x,by rw[aK,aU e];exact U,aa.mono hle (λc af=>⟨q8 c af.1,rfl⟩) (λ_=>rfl)⟩
 ·show b'<H.next+1;by_cases e:b'=H.next
  ·omega
  ·rw[bo.j' _ _ e]at ai;have:=h.rel.lt b' L ai;omega
 ·have ai:H.next+1<=b':=ai;rw[aK,aU (by omega)];exact h.rel.new b' (by omega)
 ·rw[aK,aU U];exact h.fJ
 ·by_cases e:b'=H.next
  ·subst e;rw[bo.im]at ai;cases ai;exact aB1
  ·rw[bo.j' _ _ e]at ai;exact h.n b' L ai
 ·rw[aK,aU]
  ·exact e
  ·rintro rfl;rw[aB2]at e;cases e
theorem aB3(ds:List Nat):cm γ (c4 ds) (c4 ds):=cm.vD rfl λi v v' a b=>by
 rw[a]at b;cases b;simp only[c4,bZV]at a
 cases e:ds[i]? with
 | none=>rw[e]at a;cases a
 | some d=>rw[e]at a;simp only[bZO,a6]at a;subst a;exact .int _ _
theorem In.aB4(h:In O N W γ H){s:Value}{ds:List Nat}(aB:Dm W N s ds):∃bk H' iQ,In O N W bk H'/\γ.le bk/\Ext H H'/\bg bk iQ s/\er H' iQ ds:=by
 obtain⟨aO,⟨rfl,rfl⟩ | ⟨a,rfl,rfl⟩ | ⟨c,o,cap,rfl,af,hw⟩⟩:=aB
 ·exact⟨γ,H,_,h,.refl _,.refl _,.xH,er.nil⟩
 ·obtain⟨L,g1,g2,g3⟩:=h.FE;have abp:=h.n 1 L g1;rw[g2]at abp;obtain⟨c,e,cz,bd⟩:=h.Qj;obtain⟨i1,ck,df⟩:=h.add (l:=[]) (l':=[]) (b:=1) (o:=0) ⟨abp,c,e,cz,bd,by simp,by simp⟩ .nil;exact⟨_,_,.slice (some ⟨H.next,0,none⟩) 0 0,i1,ck,df,.p9 (bo.im _ _ _),aO,.inr ⟨H.next,0,0,_,[],rfl,dT,.inr rfl,rfl,by simp,by simp,trivial⟩⟩
 ·obtain⟨i1,ck,df⟩:=h.add (l:=c4 ds) hw (aB3 ds);refine⟨_,_,.slice (some ⟨H.next,0,none⟩) ds.length cap,i1,ck,df,?_,aO,.inr ⟨H.next,0,cap,_,c4 ds,rfl,dT,.inr rfl,by rw[List.drop_zero];exact tp (by simp[c4]),by simp[c4],af,trivial⟩⟩;have:=bg.jN (γ:=γ.set H.next ⟨c,o,0,0⟩) (b:=H.next) (off:=0) (n:=ds.length) (cap:=cap) (dN:=cap) (L:=⟨c,o,0,0⟩) (bo.im _ _ _) (bR _) af (.inl rfl);simpa using this
theorem RO{c o:Nat}:bg (γ.set H.next ⟨c,o,0,0⟩) (.pointer (some ⟨H.next,0,none⟩)) (.pointer (some ⟨c,o,none⟩)):=by
 have:=bg.ptr (γ:=γ.set H.next ⟨c,o,0,0⟩) (b:=H.next) (off:=0) (L:=⟨c,o,0,0⟩) (bo.im _ _ _);simpa using this
theorem In.nat(h:In O N W γ H){v:Value}{n:Nat}(aB:Aw W N v n):∃bk H' p,In O N W bk H'/\γ.le bk/\Ext H H'/\bg bk p v/\c6 H' p n:=by
 obtain⟨rfl,rfl⟩ | ⟨b,o,s,ds,rfl,hw,aG,ao,e2⟩:=aB
 ·exact⟨γ,H,_,h,.refl _,.refl _,.EI,⟨[],.inl ⟨rfl,rfl⟩,rfl,rfl⟩⟩
 ·obtain⟨gO,H1,iQ,i1,ck,df,b4,d1⟩:=h.aB4 aG;obtain⟨i2,cJ,dW⟩:=i1.add (l:=[iQ]) hw (.cons b4 .nil);exact⟨_,_,_,i2,ck.trans cJ,df.trans dW,RO,⟨ds,.inr ⟨H1.next,_,iQ,rfl,dT,⟨rfl,rfl⟩,d1.le dW⟩,ao,e2⟩⟩
theorem In.lF(h:In O N W γ H){v:Value}{q:Rat}(aB:yD W N v q):∃bk H' p,In O N W bk H'/\γ.le bk/\Ext H H'/\bg bk p v/\iv H' p q:=by
 obtain⟨rfl,rfl⟩ | ⟨b,o,p,d,rfl,hw,aC,aB⟩:=aB
 ·exact⟨γ,H,_,h,.refl _,.refl _,.EI,⟨.inl ⟨rfl,rfl⟩⟩⟩
 ·obtain⟨gO,H1,jW,i1,ck,df,b4,d1⟩:=h.nat aC;obtain⟨dQ,aJ,bJ,i2,cJ,dW,cB,d2⟩:=i1.nat aB;obtain⟨i3,eT,gZ⟩:=i2.add (l:=[.bool (decide (q<0)),jW,bJ]) hw (.cons (.bool _) (.cons (b4.mono cJ) (.cons cB .nil)));exact⟨_,_,_,i3,(ck.trans cJ).trans eT,(df.trans dW).trans gZ,RO,⟨.inr ⟨aJ.next,_,jW,bJ,rfl,dT,⟨rfl,rfl⟩,d1.le (dW.trans gZ),d2.le gZ⟩⟩⟩
end
section
variable{O:da}{base:Nat}{N:Nat->Prop}{w:World}{γ:bo}{H:ah}
theorem aB5(an:Rel O base γ H w)(gd:∀b L,γ b=some L->N L.bI){b:Nat}{L:Dam.Loc}{x:cj}{row:List Value}(bC:γ b=some L)(az:H.get b=some x)(af:rowOf x=some row){off:Nat}{l l':List Value}
 (aO:(row.drop off).take l.length=l) (au:off+l.length<=row.length) (aw:∀(i:Nat) (v v':Value),l[i]? = some v->bg γ v v'->l'[i]? = some v') (RP:l'.length=l.length):wz w N L.bI (L.d+off) l':=by
 obtain⟨c,e,cz,av,aI,aQ⟩:=an.row bC az af;refine⟨gd _ _ bC,c,e,cz,av,by omega,λi v hi=>?_⟩;have z6:=(nD.1 hi).1;have cg:row[off+i]? = some (l[i]'(by omega)):=by
  have:=congrArg (·[i]?) aO;simp only[pT (show i<l.length by omega),o']at this;rw[this,hG]
 obtain⟨v',bn,bh⟩:=aQ _ _ cg;have:=aw i _ v' (hG (by omega)) bh;rw[this]at hi;cases hi;rw[bYR];exact bn
theorem er.out(an:Rel O base γ H w)(gd:∀b L,γ b=some L->N L.bI){s eZ:Value}{ds:List Nat}(h:er H s ds)(aw:bg γ s eZ):Dm w N eZ ds:=by
 obtain⟨aO,⟨rfl,rfl⟩ | ⟨c,off,cap,y,row,rfl,aK,bu,aq,a8,cg,_⟩⟩:=h
 ·cases aw;exact⟨aO,.inl ⟨rfl,rfl⟩⟩
 ·obtain⟨L,bC,_,_,⟨dN,rfl,mY,_⟩ | ⟨aD,_,a',rfl⟩⟩:=aw.sj
  ·have hlen:(c4 ds).length=ds.length:=by simp[c4]
   refine⟨aO,.inr (.inr ⟨L.bI,L.d+off,dN,rfl,by omega,aB5 an gd bC aK bu.row (l:=c4 ds) (by rw[hlen];exact aq) (by omega) (λi v v' e r=>?_) rfl⟩)⟩;rw[e];simp only[c4,bZV]at e
   cases bw:ds[i]? with
   | none=>rw[bw]at e;cases e
   | some d=>rw[bw]at e;simp only[bZO,a6]at e;subst e;rw[r.gC]
  ·exact⟨aO,.inr (.inl ⟨a',rfl,bUL aD⟩)⟩
theorem c6.abq(an:Rel O base γ H w)(gd:∀b L,γ b=some L->N L.bI){v v':Value}{n:Nat}(h:c6 H v n)(aw:bg γ v v'):Aw w N v' n:=by
 obtain⟨ds,⟨rfl,rfl⟩ | ⟨b,x,s,rfl,aK,az,aG⟩,ao,e2⟩:=h.ex
 ·cases aw;exact .inl ⟨rfl,e2.symm⟩
 ·obtain⟨L,bC,_,rfl⟩:=aw.pj;obtain⟨c,e,cz,av,aI,aQ⟩:=an.row bC aK az.1;obtain⟨eZ,bn,bh⟩:=aQ 0 s rfl;refine .inr ⟨L.bI,L.d+0,eZ,ds,rfl,⟨gd _ _ bC,c,e,cz,av,by simpa using aI,λi u hi=>?_⟩,aG.out an gd bh,ao,e2⟩
  cases i with
  | zero=>simp at hi;subst hi;exact bn
  | succ i=>simp at hi
theorem jC.out(an:Rel O base γ H w)(gd:∀b L,γ b=some L->N L.bI){v v':Value}{q:Rat}(h:jC H v q)(aw:bg γ v v'):∃c L b,v'=.pointer (some ⟨c,0,none⟩)/\γ b=some L/\L.bI=c/\hr (H.get b)/\yD w N v' q:=by
 obtain⟨h,b,cs,t,rfl,ai⟩:=h;obtain⟨e,_⟩ | ⟨b,x,jA,jB,e,aK,az,aF,aB⟩:=h.ex
 ·cases e
 cases e;rw[ai]at aK;cases aK;have kR:=az.1;simp only[rowOf,a6]at kR;subst kR;obtain⟨L,bC,_,rfl⟩:=aw.pj;obtain⟨y,U,aa⟩:=an.bI b L bC;rw[ai]at U;cases U;obtain⟨c,elem,cz,av,_,⟨_,ao,e2,bd⟩,bt,cd,cv⟩:=aa;obtain⟨eZ,bn,bh⟩:=cv 0 _ rfl;obtain⟨yk,bJ,bG⟩:=cv 1 _ rfl;obtain⟨m',d1,d2⟩:=cv 2 _ rfl;rw[bh.qf]at bn;simp only[e2,Nat.zero_add]at bn bJ d1|-;refine⟨L.bI,L,b,rfl,bC,rfl,by rw[ai];trivial,.inr ⟨L.bI,0,yk,m',rfl,⟨gd _ _ bC,c,elem,cz,av,by have bd:c.size=3:=bd;simp[bd],λi u hi=>?_⟩,aF.abq an gd bG,aB.abq an gd d2⟩⟩;rw[Nat.zero_add]
 rcases i with _ | _ | _ | i
 ·simp at hi;subst hi;exact bn
 ·simp at hi;subst hi;exact bJ
 ·simp at hi;subst hi;exact d1
 ·simp at hi
end
end Go.Dam.C
namespace Go.Dam.C
open Go Go.Dam
theorem aEN{p q:Rat}{k:Nat}(aC:sz p k)(aV:sz q k):sz (p+q) (2*k+1):=by
 have e:p+q=mkRat (p.num*q.den+q.num*p.den) (p.den*q.den):=Rat.add_def' p q;have gh:p.den*q.den≠0:=bXQ p.den_nz q.den_nz;rw[e,<-bVc gh,bVk];refine⟨eD (bVa _ _) ?_,eD (oe _ _) (oF (pq aC.2 aV.2) (by omega))⟩;refine eD (Int.natAbs_add_le _ _) ?_;rw[bXq,bXq];exact IW (pq aC.1 aV.2) (pq aV.1 aC.2)
theorem aEO{p q:Rat}{k:Nat}(aC:sz p k)(aV:sz q k):sz (p*q) (2*k):=by
 have e:p*q=mkRat (p.num*q.num) (p.den*q.den):=Rat.mul_def' p q;have gh:p.den*q.den≠0:=bXQ p.den_nz q.den_nz;rw[e,<-bVc gh,bVk];refine⟨eD (bVa _ _) ?_,eD (oe _ _) (pq aC.2 aV.2)⟩;rw[bXq];exact pq aC.1 aV.1
theorem acb{q:Rat}{k:Nat}(aV:sz q k)(aD:q≠0):sz (1/q) k:=by
 rw[Xj aD];simp only[Rat.num_ofNat,Rat.den_ofNat];have aF:q.num.natAbs≠0:=λh=>aD (bVn.1 (by omega));refine asF ?_ ?_ ?_
 ·simpa using aV.2
 ·simpa using aV.1
 ·simpa using aF
theorem ff{q:Rat}{k j:Nat}(aV:sz q k)(h:k<=j):sz q j:=⟨oF aV.1 h,oF aV.2 h⟩
theorem Dq{p q:Rat}{k:Nat}(aC:sz p k)(aV:sz q k):sz (p-q) (2*k+1):=by rw[Rat.sub_eq_add_neg];exact aEN aC (vP aV)
theorem Lg{p q:Rat}{k:Nat}(aC:sz p k)(aV:sz q k)(aD:q≠0):sz (p/q) (2*k):=by
 have:p/q=p*(1/q):=by grind
 rw[this];exact aEO aC (acb aV aD)
theorem zz{p q:Rat}{a b:Nat}(aC:sz p a)(aV:sz q b):sz (p+q) (a+b+1):=by
 have e:p+q=mkRat (p.num*q.den+q.num*p.den) (p.den*q.den):=Rat.add_def' p q;have gh:p.den*q.den≠0:=bXQ p.den_nz q.den_nz;have U:=bWI aC.1 aV.2;have aa:=bWI aC.2 aV.1;have aq:=bWI aC.2 aV.2;rw[<-hT]at U aa aq;rw[e,<-bVc gh,bVk];refine⟨eD (bVa _ _) ?_,eD (oe _ _) (oF aq (by omega))⟩;refine eD (Int.natAbs_add_le _ _) ?_;rw[bXq,bXq];refine IW U ?_;rw[gw];exact aa
theorem la{p q:Rat}{a b:Nat}(aC:sz p a)(aV:sz q b):sz (p*q) (a+b):=by
 have e:p*q=mkRat (p.num*q.num) (p.den*q.den):=Rat.mul_def' p q;have gh:p.den*q.den≠0:=bXQ p.den_nz q.den_nz;rw[e,<-bVc gh,bVk,sz,hT];refine⟨eD (bVa _ _) ?_,eD (oe _ _) (bWI aC.2 aV.2)⟩;rw[bXq];exact bWI aC.1 aV.1
theorem Yv{p q:Rat}{a b:Nat}(aC:sz p a)(aV:sz q b):sz (p-q) (a+b+1):=by rw[Rat.sub_eq_add_neg];exact zz aC (vP aV)
theorem uh{k:Nat}(ag:1<=k):sz 0 k:=by
 have:4294967296^1<=4294967296^k:=iH (by decide) ag;exact⟨by show 0<_;omega,by show 1<_;omega⟩
def iP:Nat:=60000000
def DU(n k:Nat):Bool:=Nat.blt n.log2 (32*k)
theorem asG{n k:Nat}(h:DU n k=true)(_ag:1<=k):n<4294967296^k:=by
 unfold DU at h;rw[js,eh]at h;rw[show(4294967296:Nat)=2^32 from rfl,<-bXi];by_cases aD:n=0
 ·subst aD;exact bWm (by decide)
 ·exact(Nat.log2_lt aD).1 h
theorem asH{n k:Nat}(h:n<4294967296^k)(ag:1<=k):DU n k=true:=by
 unfold DU;rw[js,eh];by_cases aD:n=0
 ·subst aD;simp;omega
 ·rw[Nat.log2_lt aD,bXi];exact h
def ca(q:Rat):Bool:=DU q.num.natAbs iP&&DU q.den iP
theorem ca.sz{q:Rat}(h:ca q=true):sz q iP:=by
 unfold ca at h;rw[cG]at h;exact⟨asG h.1 (by decide),asG h.2 (by decide)⟩
theorem sz.ca{q:Rat}{k:Nat}(h:sz q k)(ag:k<=iP):ca q=true:=by
 have h:=ff h ag;unfold C.ca;rw[cG];exact⟨asH h.1 (by decide),asH h.2 (by decide)⟩
end Go.Dam.C
namespace Go.Dam.C
open Go Go.Dam
def qD(H:ah)(v:Value):Option Rat:=match v with
 | .pointer none=>some 0
 | .pointer (some ⟨b,0,none⟩)=>(match H.get b with
   | some (.eE (.lF q))=>some q
   | _=>none)
 | _=>none
inductive jn where
 | eW (q:Rat)
 | val (v:Value)
 | no
 | yes (q:Rat)
def jn.out(H:ah):jn->Value×ah
 | .eW q=>(.pointer (some ⟨H.next,0,none⟩),H.new (.eE (.lF q)))
 | .val v=>(v,H)
 | .no=>(.tuple #[.pointer none,.bool false],H)
 | .yes q=>(.tuple #[.pointer (some ⟨H.next,0,none⟩),.bool true],H.new (.eE (.lF q)))
def eM(r:List Value->ah->Option jn):yE:=λ_ args H=>bif qI H then(match r args H with
 | some r=>some (r.out H)
 | none=>none) else none
def b4(f:Rat->jn)(args:List Value)(H:ah):Option jn:=match args with
 | [a]=>(match qD H a with
   | some p=>bif ca p then some (f p) else none
   | none=>none)
 | _=>none
def cB(f:Rat->Rat->jn)(args:List Value)(H:ah):Option jn:=match args with
 | [a,b]=>(match qD H a with
   | some p=>(match qD H b with
     | some q=>bif ca p&&ca q then some (f p q) else none
     | none=>none)
   | none=>none)
 | _=>none
def kL(p q:Rat):Int:=if p<q then -1 else if p=q then 0 else 1
def cT(q:Rat):Int:=if q<0 then -1 else if q=0 then 0 else 1
def Gx(args:List Value)(_:ah):Option jn:=match args with
 | [.int .i64 n]=>bif decide (-9223372036854775808<=n)&&decide (n<=9223372036854775807) then some (.eW (n:Rat)) else none
 | _=>none
def Dp(args:List Value)(_:ah):Option jn:=match args with
 | [.string s]=>bif Nat.blt s.size 1000000 then some (match jD s.data.toList with
   | some q=>.yes q
   | none=>.no) else none
 | _=>none
def KZ:=cB λp q=>.eW (p+q)
def K0:=cB λp q=>.eW (p-q)
def K1:=cB λp q=>.eW (p*q)
def K2:=cB λp q=>if q=0 then .no else .yes (p/q)
def K3:=cB λp q=>.val (.int .i64 (kL p q))
def K4:=b4 λq=>.eW (-q)
def K5:=b4 λq=>.val (.int .i64 (cT q))
def RT:=b4 λq=>.eW (q.floor:Rat)
def RU:=b4 λq=>.val (.bool (decide (q.den=1)))
def K6:=b4 λq=>.val (aW (dB q))
structure Ob(X:aY):Prop where
 abH:X.ov F.kp=some (eM Gx)
 RV:X.ov F.nx=some (eM Dp)
 abI:X.ov F.kG=some (eM KZ)
 abJ:X.ov F.nW=some (eM K0)
 abK:X.ov F.ke=some (eM K1)
 abL:X.ov F.oG=some (eM K2)
 abM:X.ov F.k7=some (eM K3)
 abN:X.ov F.nV=some (eM K4)
 abO:X.ov F.gE=some (eM K5)
 aCc:X.ov F.tS=some (eM RT)
 aCd:X.ov F.su=some (eM RU)
 abP:X.ov F.mI=some (eM K6)
structure cl(pm:Perm)(H:ah):Prop extends cU pm H where
 fJ:Tab H
structure bp(pm:Perm)(n:Nat)(H H':ah):Prop where
 aL:cl pm H'
 next:H.next<=H'.next
 get:∀b,b<n->H'.get b=H.get b
 eE:∀b o,H.get b=some (.eE o)->H'.get b=some (.eE o)
abbrev K(pm:Perm)(H H':ah):Prop:=bp pm H.next H H'
variable{X:aY}{pm pm':Perm}{H H' cL H0:ah}{n m:Nat}
theorem cl.lt(g:cl pm H){b:Nat}{x:cj}(e:H.get b=some x):b<H.next:=g.tocU.lt e
theorem cl.may(g:cl pm H){b:Nat}(h:H.next<=b):pm.may b=true:=g.tocU.may h
theorem cl.perm(g:cl pm H)(U:pm'.num=none)(aa:pm'.lo<=H.next):cl pm' H:=⟨⟨U,aa,g.wf,g.new⟩,g.fJ⟩
theorem cl.make(g:cl pm H)(aJ:ah)(x:cj):pm.make aJ x=aJ.new x:=g.tocU.make aJ x
theorem cl.pick(g:cl pm H)(aJ:ah):pm.pick aJ=aJ.next:=g.tocU.pick aJ
theorem bp.refl(g:cl pm H):bp pm n H H:=⟨g,bR _,λ_ _=>rfl,λ_ _ h=>h⟩
theorem bp.mono(u:bp pm n H H')(h:m<=n):bp pm m H H':=⟨u.aL,u.next,λb ai=>u.get b (hR ai h),u.eE⟩
theorem bp.trans(u:bp pm n H H')(v:bp pm n H' cL):bp pm n H cL:=⟨v.aL,bH u.next v.next,λb ai=>(v.get b ai).trans (u.get b ai),λb o h=>v.eE b o (u.eE b o h)⟩
theorem bp.k(u:bp pm n H H')(v:K pm H' cL)(h:n<=H'.next):bp pm n H cL:=u.trans (v.mono h)
theorem K.trans(u:K pm H H')(v:K pm H' cL):K pm H cL:=bp.k u v u.next
theorem bp.perm(u:bp pm n H H')(U:pm'.num=none)(aa:pm'.lo<=H'.next):bp pm' n H H':=⟨u.aL.perm U aa,u.next,u.get,u.eE⟩
theorem K.refl(g:cl pm H):K pm H H:=bp.refl g
theorem K.some(k:K pm H H')(g:cl pm H){b:Nat}{x:cj}(e:H.get b=some x):H'.get b=some x:=(k.get b (g.lt e)).trans e
theorem bp.new(u:bp pm n H H')(h:n<=H'.next)(x:cj):bp pm n H (H'.new x) where
 aL:=⟨⟨u.aL.num,bH u.aL.lo (bXu _),λb ai=>by
  have ai:H'.next+1<=b:=ai;rw[ah.qa,aU (by omega)];exact u.aL.wf b (by omega),λb ai=>trivial⟩,by
  have:=u.aL.lt u.aL.fJ;show(H'.new x).get 1=_;rw[ah.qa,aU (by omega)];exact u.aL.fJ⟩
 next:=bH u.next (bXu _)
 get:=λb ai=>by rw[ah.qa,aU (by omega)];exact u.get b ai
 eE:=λb o e=>by
  have e:=u.eE b o e;have:=u.aL.lt e;rw[ah.qa,aU (by omega)];exact e
theorem K.new(g:cl pm H)(x:cj):K pm H (H.new x):=bp.new (.refl g) (bR _) x
theorem bZv{A:ah}{x:cj}(g:cl pm H)(h:A=H.new x):K pm H A:=by rw[h];exact K.new g _
theorem bp.put(u:bp pm n H H'){c:Nat}{y:cj}(h:n<=c)(aK:H'.get c=some y)(bu:∀o,y≠.eE o)(x:cj):bp pm n H (H'.put c x) where
 aL:=⟨⟨u.aL.num,u.aL.lo,λb ai=>by
  have ai:H'.next<=b:=ai;have:=u.aL.lt aK;rw[ah.fS,aU (by omega)];exact u.aL.wf b ai,λb ai=>trivial⟩,by
  show(H'.put c x).get 1=_;rw[ah.fS,aU]
  ·exact u.aL.fJ
  ·rintro rfl;rw[u.aL.fJ]at aK;cases aK;exact bu _ rfl⟩
 next:=u.next
 get:=λb ai=>by rw[ah.fS,aU (by omega)];exact u.get b ai
 eE:=λb o e=>by
  have e:=u.eE b o e;rw[ah.fS,aU]
  ·exact e
  ·rintro rfl;rw[e]at aK;cases aK;exact bu _ rfl
theorem bp.up(u:bp pm n H H')(k:Nat):bp pm n H (H'.up k) where
 aL:=⟨⟨u.aL.num,bH u.aL.lo (hS _ _),λb ai=>u.aL.wf b (bH (hS _ _) ai),λ_b _ai=>trivial⟩,u.aL.fJ⟩
 next:=bH u.next (hS _ _)
 get:=u.get
 eE:=u.eE
def c1(H:ah)(v:Value)(q:Rat):Prop:=∃b,v=.pointer (some ⟨b,0,none⟩)/\H.get b=some (.eE (.lF q))
theorem c1.up{v:Value}{q:Rat}(h:c1 H v q)(u:bp pm n H H'):c1 H' v q:=let ⟨b,U,aa⟩:=h;⟨b,U,u.eE b _ aa⟩
theorem c1.of{v:Value}{q:Rat}(h:c1 H v q):qD H v=some q:=by
 obtain⟨b,rfl,aa⟩:=h;simp only[qD,aa]
theorem rE(h:Tab H):qI H=true:=by unfold qI;rw[h];rfl
theorem c1.new{q:Rat}:c1 (H.new (.eE (.lF q))) (.pointer (some ⟨H.next,0,none⟩)) q:=⟨_,rfl,dT⟩
section
variable(al:Ob X)(g:cl pm H){v w:Value}{p q:Rat}(U:qD H v=some p)(aa:qD H w=some q)(s1:ca p=true)(s2:ca q=true)
include g al
theorem sE{n:Int}(aD:-9223372036854775808<=n)(U:n<=9223372036854775807):Call X pm F.kp [.int .i64 n] H λr H'=>K pm H H'/\c1 H' r (n:Rat):=
 Call.over al.abH (v:=.pointer (some ⟨H.next,0,none⟩)) (H':=H.new (.eE (.lF n))) (by simp[eM,rE g.fJ,Gx,aD,U,jn.out]) ⟨K.new g _,.new⟩
theorem B'{l:List UInt8}(aO:l.length<1000000):Call X pm F.nx [aW l] H λr H'=>K pm H H'/\(jD l=none/\r=.tuple #[.pointer none,.bool false]∨∃q p,jD l=some q/\r=.tuple #[p,.bool true]/\c1 H' p q):=by
 cases e:jD l with
 | none=>exact Call.over al.RV (v:=.tuple #[.pointer none,.bool false]) (H':=H) (by simp[eM,rE g.fJ,Dp,e,aO,jn.out,js]) ⟨K.refl g,.inl ⟨rfl,rfl⟩⟩
 | some q=>exact Call.over al.RV (v:=.tuple #[.pointer (some ⟨H.next,0,none⟩),.bool true]) (H':=H.new (.eE (.lF q))) (by simp[eM,rE g.fJ,Dp,e,aO,jn.out,js]) ⟨K.new g _,.inr ⟨q,_,rfl,rfl,.new⟩⟩
include U s1
theorem K7:Call X pm F.nV [v] H λr H'=>K pm H H'/\c1 H' r (-p):=
 Call.over al.abN (v:=.pointer (some ⟨H.next,0,none⟩)) (H':=H.new (.eE (.lF (-p)))) (by simp[eM,rE g.fJ,K4,C.b4,U,s1,jn.out]) ⟨K.new g _,.new⟩
theorem cQm:Call X pm F.tS [v] H λr H'=>K pm H H'/\c1 H' r (p.floor:Rat):=
 Call.over al.aCc (v:=.pointer (some ⟨H.next,0,none⟩)) (H':=H.new (.eE (.lF p.floor))) (by simp[eM,rE g.fJ,RT,C.b4,U,s1,jn.out]) ⟨K.new g _,.new⟩
theorem jF:Call X pm F.gE [v] H λr H'=>H'=H/\r=.int .i64 (cT p):=
 Call.over al.abO (v:=.int .i64 (cT p)) (H':=H) (by simp[eM,rE g.fJ,K5,C.b4,U,s1,jn.out]) ⟨rfl,rfl⟩
theorem cQi:Call X pm F.su [v] H λr H'=>H'=H/\r=.bool (decide (p.den=1)):=
 Call.over al.aCd (v:=.bool (decide (p.den=1))) (H':=H) (by simp[eM,rE g.fJ,RU,C.b4,U,s1,jn.out]) ⟨rfl,rfl⟩
theorem Cj:Call X pm F.mI [v] H λr H'=>H'=H/\r=aW (dB p):=
 Call.over al.abP (v:=aW (dB p)) (H':=H) (by simp[eM,rE g.fJ,K6,C.b4,U,s1,jn.out]) ⟨rfl,rfl⟩
include aa s2
theorem v8:Call X pm F.kG [v,w] H λr H'=>K pm H H'/\c1 H' r (p+q):=
 Call.over al.abI (v:=.pointer (some ⟨H.next,0,none⟩)) (H':=H.new (.eE (.lF (p+q)))) (by simp[eM,rE g.fJ,KZ,C.cB,U,aa,s1,s2,jn.out]) ⟨K.new g _,.new⟩
theorem Jp:Call X pm F.nW [v,w] H λr H'=>K pm H H'/\c1 H' r (p-q):=
 Call.over al.abJ (v:=.pointer (some ⟨H.next,0,none⟩)) (H':=H.new (.eE (.lF (p-q)))) (by simp[eM,rE g.fJ,K0,C.cB,U,aa,s1,s2,jn.out]) ⟨K.new g _,.new⟩
theorem sF:Call X pm F.ke [v,w] H λr H'=>K pm H H'/\c1 H' r (p*q):=
 Call.over al.abK (v:=.pointer (some ⟨H.next,0,none⟩)) (H':=H.new (.eE (.lF (p*q)))) (by simp[eM,rE g.fJ,K1,C.cB,U,aa,s1,s2,jn.out]) ⟨K.new g _,.new⟩
theorem K8(aD:q≠0):Call X pm F.oG [v,w] H λr H'=>K pm H H'/\∃x,r=.tuple #[x,.bool true]/\c1 H' x (p/q):=
 Call.over al.abL (v:=.tuple #[.pointer (some ⟨H.next,0,none⟩),.bool true]) (H':=H.new (.eE (.lF (p/q)))) (by simp[eM,rE g.fJ,K2,C.cB,U,aa,s1,s2,aD,jn.out]) ⟨K.new g _,_,rfl,.new⟩
theorem ud:Call X pm F.k7 [v,w] H λr H'=>H'=H/\r=.int .i64 (kL p q):=
 Call.over al.abM (v:=.int .i64 (kL p q)) (H':=H) (by simp[eM,rE g.fJ,K3,C.cB,U,aa,s1,s2,jn.out]) ⟨rfl,rfl⟩
end
end Go.Dam.C
namespace Go.Dam
open Go
section
variable{X:aY}{pm:Perm}{Q ha:c'}
theorem fN.mono(h:∀x l H,Q x l H->ha x l H):∀{ks:List Fr} {x:gr} {e:Env} {H:ah},fN X pm x e H ks Q->fN X pm x e H ks ha
 | [],_,_,_,⟨l,a,b⟩=>⟨l,a,h _ _ _ b⟩
 | .seq b::ks,x,e,H,q=>by
   cases x with
   | normal=>
     obtain⟨cZ,bw,H',bn,bh⟩:=q;exact⟨cZ,bw,H',bn,fN.mono h bh⟩
   | exit i=>exact fN.mono (ks:=ks) (x:=.exit i) h q
   | ret=>exact fN.mono (ks:=ks) (x:=.ret) h q
 | .bI id::ks,x,e,H,q=>by
   cases x with
   | normal=>exact fN.mono (ks:=ks) (x:=.normal) h q
   | ret=>exact fN.mono (ks:=ks) (x:=.ret) h q
   | exit i=>
     simp only[fN]at q|-;split
     ·rename_i hi;rw[bm hi]at q;exact fN.mono h q
     ·rename_i hi;rw[aU hi]at q;exact fN.mono h q
theorem l6.mono(h:∀x l H,Q x l H->ha x l H){c:r1}{l:bQ}{H:ah}{ks:List Fr}(q:l6 X pm c l H ks Q):l6 X pm c l H ks ha:=λe he=>by
 have:=q e he
 cases c with
 | code c=>obtain⟨cZ,bw,H',bn,bh⟩:=this;exact⟨cZ,bw,H',bn,fN.mono h bh⟩
 | ops os=>obtain⟨bw,H',bn,bh⟩:=this;exact⟨bw,H',bn,fN.mono h bh⟩
 | res x=>exact fN.mono h this
theorem wp_mono(h:∀x l H,Q x l H->ha x l H){c:r1}{l:bQ}{H:ah}{ks:List Fr}:wp X pm c l H ks Q->wp X pm c l H ks ha:=by
 fun_induction wp X pm c l H ks Q with
 | case1 l H ks ih=>intro q;rw[wp];exact ih q
 | case2 l H ks os ih=>intro q;rw[wp];exact ih q
 | case3=>intro q;rw[wp];exact l6.mono h q
 | case4 l H ks a b ih=>intro q;rw[wp];exact ih q
 | case5 l H ks c a b t af vK vL=>intro q;rw[wp];rw[af];exact⟨λe=>vK (q.1 e),λe=>vL (q.2 e)⟩
 | case6=>intro q;exact q.elim
 | case7 l H ks id b ih=>intro q;rw[wp];exact ih q
 | case8=>intro q;rw[wp];exact l6.mono h q
 | case9 l H ks id ih=>intro q;rw[wp];exact ih q
 | case10 l H ks ih=>intro q;rw[wp];exact ih q
 | case11=>intro q;exact q.elim
 | case12 l H ks ih=>intro q;rw[wp];exact ih q
 | case13 l H ks o os f args au=>intro q;rw[wp];rw[au];exact l6.mono h q
 | case14 l H ks o os f args au=>intro q;rw[wp];rw[au];exact l6.mono h q
 | case15 l H ks o os v H' aG U aa ih=>
   intro q;rw[wp];split
   ·rename_i f args au;exact absurd au (U _ _)
   ·rename_i f args au;exact absurd au (aa _ _)
   ·rw[aG];exact ih q
 | case16=>intro q;exact q.elim
 | case17 l H x=>intro q;rw[wp];exact h _ _ _ q
 | case18 l H b ks ih=>intro q;rw[wp];exact ih q
 | case19 l H b ks x az ih=>intro q;cases x with
   | normal=>exact absurd rfl az
   | exit i=>rw[RW];exact ih q
   | ret=>rw[Ju];exact ih q
 | case20 l H id ks ih=>intro q;rw[Gy,bm rfl];exact ih q
 | case21 l H id ks i hi ih=>intro q;rw[Gy,aU hi];exact ih q
 | case22 l H id ks x az ih=>intro q;cases x with
   | normal=>rw[RX];exact ih q
   | exit i=>exact absurd rfl (az i)
   | ret=>rw[Jt];exact ih q
end
section
variable{X:aY}{pm:Perm}{Q ha:c'}
theorem fN.frame{yF:List Fr}(h:∀x l H,ha x l H->wp X pm (.res x) l H yF Q):∀{ks:List Fr} {x:gr} {e:Env} {H:ah},fN X pm x e H ks ha->fN X pm x e H (ks++yF) Q
 | [],x,e,H,⟨l,a,b⟩=>qX (h _ _ _ b) e a
 | .seq b::ks,x,e,H,q=>by
   cases x with
   | normal=>
     obtain⟨cZ,bw,H',bn,bh⟩:=q;exact⟨cZ,bw,H',bn,fN.frame h bh⟩
   | exit i=>exact fN.frame (ks:=ks) (x:=.exit i) h q
   | ret=>exact fN.frame (ks:=ks) (x:=.ret) h q
 | .bI id::ks,x,e,H,q=>by
   cases x with
   | normal=>exact fN.frame (ks:=ks) (x:=.normal) h q
   | ret=>exact fN.frame (ks:=ks) (x:=.ret) h q
   | exit i=>
     simp only[fN,bYx]at q|-;split
     ·rename_i hi;rw[bm hi]at q;exact fN.frame h q
     ·rename_i hi;rw[aU hi]at q;exact fN.frame h q
theorem l6.frame{yF:List Fr}(h:∀x l H,ha x l H->wp X pm (.res x) l H yF Q){c:r1}{l:bQ}{H:ah}{ks:List Fr}(q:l6 X pm c l H ks ha):l6 X pm c l H (ks++yF) Q:=λe he=>by
 have:=q e he
 cases c with
 | code c=>obtain⟨cZ,bw,H',bn,bh⟩:=this;exact⟨cZ,bw,H',bn,fN.frame h bh⟩
 | ops os=>obtain⟨bw,H',bn,bh⟩:=this;exact⟨bw,H',bn,fN.frame h bh⟩
 | res x=>exact fN.frame h this
theorem aCe{yF:List Fr}(h:∀x l H,ha x l H->wp X pm (.res x) l H yF Q){c:r1}{l:bQ}{H:ah}{ks:List Fr}:wp X pm c l H ks ha->wp X pm c l H (ks++yF) Q:=by
 fun_induction wp X pm c l H ks ha with
 | case1 l H ks ih=>intro q;rw[wp];exact ih q
 | case2 l H ks os ih=>intro q;rw[wp];exact ih q
 | case3=>intro q;rw[wp];exact l6.frame h q
 | case4 l H ks a b ih=>intro q;rw[wp];exact ih q
 | case5 l H ks c a b t af vK vL=>intro q;rw[wp];rw[af];exact⟨λe=>vK (q.1 e),λe=>vL (q.2 e)⟩
 | case6=>intro q;exact q.elim
 | case7 l H ks id b ih=>intro q;rw[wp];exact ih q
 | case8=>intro q;rw[wp];exact l6.frame h q
 | case9 l H ks id ih=>intro q;rw[wp];exact ih q
 | case10 l H ks ih=>intro q;rw[wp];exact ih q
 | case11=>intro q;exact q.elim
 | case12 l H ks ih=>intro q;rw[wp];exact ih q
 | case13 l H ks o os f args au=>intro q;rw[wp];rw[au];exact l6.frame h q
 | case14 l H ks o os f args au=>intro q;rw[wp];rw[au];exact l6.frame h q
 | case15 l H ks o os v H' aG U aa ih=>
   intro q;rw[wp];split
   ·rename_i f args au;exact absurd au (U _ _)
   ·rename_i f args au;exact absurd au (aa _ _)
   ·rw[aG];exact ih q
 | case16=>intro q;exact q.elim
 | case17 l H x=>intro q;exact h _ _ _ q
 | case18 l H b ks ih=>intro q;rw[bYx,wp];exact ih q
 | case19 l H b ks x az ih=>intro q;cases x with
   | normal=>exact absurd rfl az
   | exit i=>rw[bYx,RW];exact ih q
   | ret=>rw[bYx,Ju];exact ih q
 | case20 l H id ks ih=>intro q;rw[bYx,Gy,bm rfl];exact ih q
 | case21 l H id ks i hi ih=>intro q;rw[bYx,Gy,aU hi];exact ih q
 | case22 l H id ks x az ih=>intro q;cases x with
   | normal=>rw[bYx,RX];exact ih q
   | exit i=>exact absurd rfl (az i)
   | ret=>rw[bYx,Jt];exact ih q
theorem wp_cut{c:r1}{l:bQ}{H:ah}{ks:List Fr}(ha:c')(q:wp X pm c l H [] ha)(h:∀x l H,ha x l H->wp X pm (.res x) l H ks Q):wp X pm c l H ks Q:=aCe (ks:=[]) h q
end
end Go.Dam
namespace Go.Dam.C
open Go Go.Dam
variable{X:aY}{pm:Perm}{H H':ah}
def K9(X:aY)(pm:Perm)(f:Nat)(ks:List Fr)(Q:c')(eF:bQ->ah->Prop):c':=λx l' H'=>match x with
 | .normal=>eF l' H'
 | .exit j=>if j=f then eF l' H' else wp X pm (.res (.exit j)) l' H' ks Q
 | .ret=>wp X pm (.res .ret) l' H' ks Q
@[simp] theorem aHd{f:Nat}{ks:List Fr}{Q:c'}{eF:bQ->ah->Prop}{l:bQ}:K9 X pm f ks Q eF .normal l H=eF l H:=rfl
@[simp] theorem axU{f:Nat}{ks:List Fr}{Q:c'}{eF:bQ->ah->Prop}{l:bQ}:K9 X pm f ks Q eF .ret l H=wp X pm (.res .ret) l H ks Q:=rfl
@[simp] theorem aCf{f:Nat}{ks:List Fr}{Q:c'}{eF:bQ->ah->Prop}{l:bQ}{i:Nat}:K9 X pm f ks Q eF (.exit i) l H=if i=f then eF l H else wp X pm (.res (.exit i)) l H ks Q:=rfl
theorem abQ{i iq:Nat}{u v:Value}{l':bQ}:∀(M:bQ),a7 i M=none->a7 iq M=none->Sub M l'->Sub M ((i,u)::(iq,v)::l')
 | [],_,_,_=>trivial
 | (j,w)::M,a,b,c=>by
   simp only[RY]at a b;by_cases RZ:i=j
   ·rw[bm RZ]at a;cases a
   by_cases R0:iq=j
   ·rw[bm R0]at b;cases b
   rw[aU RZ]at a;rw[aU R0]at b;simp only[Gz,RY,Ne.symm RZ,Ne.symm R0,if_false]at c|-;exact⟨c.1,abQ M a b c.2⟩
theorem gG{σ:Type}{c i n iq e f:Nat}{B:ae}{l:bQ}{ks:List Fr}{Q:c'}(N:Nat)(L:Nat->σ->bQ)(I:Nat->σ->ah->Prop)(iQ:σ)
 (aB:c≠i/\c≠n/\iq≠i/\iq≠n/\i≠n) (gd:N<9223372036854775807) (aG:Sub ((i,.int .i64 0)::(n,.int .i64 (N:Int))::L 0 iQ) l) (aD:I 0 iQ H)
 (bC:∀k s,a7 i (L k s)=none/\a7 iq (L k s)=none)
 (step:∀k s H,k<N->I k s H->wp X pm (.code B) ((c,.bool true)::(i,.int .i64 (k:Int))::(n,.int .i64 (N:Int))::L k s) H []
  (K9 X pm f ks Q λl' H'=>∃eZ,Sub ((i,.int .i64 (k:Int))::(n,.int .i64 (N:Int))::L (k+1) eZ) l'/\I (k+1) eZ H'))
 (fin:∀s H,I N s H->wp X pm (.res (.exit e)) ((c,.bool false)::(i,.int .i64 (N:Int))::(n,.int .i64 (N:Int))::L N s) H ks Q):
 hv X pm (.seq (.aT [o c (.bin .lss .aZ (.t i) (.t n))]) (.seq (.cond (.t c) .skip (.exit e)) (.seq (.block f B) (.aT [o iq (.bin .add .aZ (.t i) (.c (.int .i64 (.ofNat 1)))),m i iq])))) l H ks Q:=by
 obtain⟨d1,d2,d3,d4,d5⟩:=aB;refine hv.of (σ:=Nat×σ) (λs=>(i,.int .i64 (s.1:Int))::(n,.int .i64 (N:Int))::L s.1 s.2) (λs H=>s.1<=N/\I s.1 s.2 H) (λs=>N-s.1) (0,iQ) (by simpa using aG) ⟨Nat.zero_le _,aD⟩ ?_;rintro⟨k,s⟩ H ⟨ag,dw⟩;simp only at ag dw|-;by_cases fI:k<N
 ·have cS:wr .i64 ((k:Int)+1)=((k+1:Nat):Int):=by rw[zWc (by omega) (by omega)];simp
  simp[Ne.symm d5,fI];refine wp_cut _ (step k s H fI dw) λx l' H' aV=>?_
  have eF:(∃eZ,Sub ((i,.int .i64 (k:Int))::(n,.int .i64 (N:Int))::L (k+1) eZ) l'/\I (k+1) eZ H')->wp X pm (.res .normal) l' H' [.seq (.aT [o iq (.bin .add .aZ (.t i) (.c (.int .i64 (.ofNat 1)))),m i iq])] λx l' H'=>match x with
   | .normal=>rF (λ(s:Nat×σ)=>(i,.int .i64 (s.1:Int))::(n,.int .i64 (N:Int))::L s.1 s.2) (λs H=>s.1<=N/\I s.1 s.2 H) (λs=>N-s.1) (k,s) l' H'
   | x=>wp X pm (.res x) l' H' ks Q:=by
   rintro⟨eZ,U,aa⟩;simp only[Gz]at U;obtain⟨ao,e2,bd⟩:=U;simp[ao,cS];refine .of (k+1,eZ) (by show N-(k+1)<N-k;omega) ?_ ⟨by show k+1<=N;omega,aa⟩;simp only[Gz,RY,if_true,Ne.symm d5,if_false,Ne.symm d4];exact⟨rfl,e2,abQ _ (bC _ _).1 (bC _ _).2 bd⟩
  cases x with
  | normal=>rw[RX];exact eF aV
  | exit j=>
    rw[aCf]at aV;rw[Gy];split
    ·rename_i h;rw[bm h]at aV;exact eF aV
    ·rename_i h;rw[aU h]at aV;rw[RW,O3];exact aV
  | ret=>rw[Jt,Ju,O3];exact aV
 ·obtain rfl:k=N:=by omega
  simp[Ne.symm d5];exact fin s H dw
theorem GA{o:aE}{f:FuncId}{args:List cD}{fx:List Bool}{os:List aE}{b0 k:Nat}{l:bQ}{acc:List Rec}{fin:Fin}{vs:List Value}{R:Value->ah->Prop}(g:cl pm H)(ai:H.get (b0+k)=none)
 (aK:l7 o l=some true) (aN:fD (kt l) args=some vs) (az:fx.headD false=false) (h:∀pm',cl pm' H->Call X pm' f vs H λr H'=>K pm' H H'/\R r H')
 (eF:∀v H1,K pm H H1->R v H1->mL X pm fx.tail os b0 (k+1) (ly l o.dst v) H1 (⟨[],gI ⟨pm.lo,pm.ok,some (b0+k)⟩ vs,H,v,λ_=>none⟩::acc) fin):g' X pm o f args fx os b0 k l H acc fin:=
 g'.of ai aK aN az (h _ (g.perm rfl (bR _))) λv H1 ⟨av,r⟩=>eF v H1 (av.perm g.num (bH g.lo av.next)) r
theorem bZx{o:aE}{f:FuncId}{args:List cD}{fx:List Bool}{os:List aE}{b0 k:Nat}{l:bQ}{acc:List Rec}{fin:Fin}{vs:List Value}{R:Value->ah->Prop}(g:cl pm H)(ai:H.get (b0+k)=none)
 (h:∀pm',cl pm' H->Call X pm' f vs H λr H'=>K pm' H H'/\R r H')
 (eF:∀v H1,K pm H H1->R v H1->mL X pm fx.tail os b0 (k+1) (ly l o.dst v) H1 (⟨[],gI ⟨pm.lo,pm.ok,some (b0+k)⟩ vs,H,v,λ_=>none⟩::acc) fin) (aK:l7 o l=some true:=by simp) (aN:fD (kt l) args=some vs:=by simp) (az:fx.headD false=false:=by rfl):g' X pm o f args fx os b0 k l H acc fin:=GA g ai aK aN az h eF
theorem Fq{o:aE}{f:FuncId}{args:List cD}{fx:List Bool}{os:List aE}{b0 k:Nat}{l:bQ}{acc:List Rec}{fin:Fin}{vs:List Value}{R:Value->ah->Prop}(g:cl pm H)(ai:H.get (b0+k)=none)
 (aK:l7 o l=some true) (aN:fD (kt l) args=some vs) (az:fx.headD false=true) (h:∀pm',cl pm' H->Call X pm' f vs H λr H'=>K pm' H H'/\R r H')
 (eF:∀v H1,K pm H H1->R v H1->mL X pm fx.tail os b0 (k+1) (ly l o.dst v) H1 (⟨[],[],H,v,λ_=>none⟩::acc) fin):g' X pm o f args fx os b0 k l H acc fin:=
 g'.fixed ai aK aN az (h _ (g.perm rfl g.lo)) λv H1 ⟨av,r⟩=>eF v H1 (av.perm g.num (bH g.lo av.next)) r
theorem bYf{o:aE}{f:FuncId}{args:List cD}{fx:List Bool}{os:List aE}{b0 k:Nat}{l:bQ}{acc:List Rec}{fin:Fin}{vs:List Value}{R:Value->ah->Prop}(g:cl pm H)(ai:H.get (b0+k)=none)
 (h:∀pm',cl pm' H->Call X pm' f vs H λr H'=>K pm' H H'/\R r H')
 (eF:∀v H1,K pm H H1->R v H1->mL X pm fx.tail os b0 (k+1) (ly l o.dst v) H1 (⟨[],[],H,v,λ_=>none⟩::acc) fin) (aK:l7 o l=some true:=by simp) (aN:fD (kt l) args=some vs:=by simp) (az:fx.headD false=true:=by rfl):g' X pm o f args fx os b0 k l H acc fin:=Fq g ai aK aN az h eF
theorem kM{f:FuncId}{vs:List Value}{R:Value->Prop}(g:cl pm H)(h:Call X pm f vs H λr H'=>H'=H/\R r):Call X pm f vs H λr H'=>K pm H H'/\H'=H/\R r:=
 h.mono λ_ _ ⟨a,b⟩=>by subst a;exact⟨K.refl g,rfl,b⟩
end Go.Dam.C
namespace Go.Dam.C
open Go Go.Dam
theorem eJ(l:List Nat):gp [] l=true:=rfl
theorem ez(l:List Nat):gp l []=true:=by simp[gp]
theorem qs(m:Perm)(l:List UInt8):gI m [aW l]=[]:=rfl
structure eu where
 name:List UInt8
 low:List UInt8
 up:List UInt8
 cost:List UInt8
 int:Bool
structure fb where
 col:Int
 v:List UInt8
structure di where
 name:List UInt8
 kind:Int
 cM:List fb
 rhs:List UInt8
 Ff:List UInt8
structure bD where
 aj:List eu
 rows:List di
def eu.cells(c:eu):List Value:=[aW c.name,aW c.low,aW c.up,aW c.cost,.bool c.int]
def fb.cells(c:fb):List Value:=[.int .i64 c.col,aW c.v]
def di.cells(r:di)(vc:Value):List Value:=[aW r.name,.int .i64 r.kind,vc,aW r.rhs,aW r.Ff]
def isNum(l:List UInt8):Bool:=(jD l).isSome
def rd(l:List UInt8):Rat:=(jD l).getD 0
structure zWa(H:ah)(v:Value)(m w:Nat)(P:Nat->List Value->Prop):Prop where
 ex:∃base cap,v=.slice base m cap/\∀i,i<m->∃b off y row cs,base=some ⟨b,off,none⟩/\H.get b=some y/\rowOf y=some row/\cX row (off+i*w) w=some cs/\P i cs
def kI(H:ah)(v:Value)(l:List eu):Prop:=zWa H v l.length 5 λi cs=>∃c,l[i]? = some c/\cs=c.cells
def nX(H:ah)(v:Value)(l:List fb):Prop:=zWa H v l.length 2 λi cs=>∃c,l[i]? = some c/\cs=c.cells
def nY(H:ah)(v:Value)(l:List di):Prop:=zWa H v l.length 5 λi cs=>∃r vc,l[i]? = some r/\cs=r.cells vc/\nX H vc r.cM
def ps(H:ah)(v:Value)(lp:bD):Prop:=∃v1 v2,v=.agg #[v1,v2]/\kI H v1 lp.aj/\nY H v2 lp.rows
structure hC(X:aY):Prop extends Ob X where
 pt:Has X F.pt C.pt
 kJ:Has X F.kJ C.kJ
 vR:Has X F.vR C.vR
 vS:Has X F.vS C.vS
 pv:Has X F.pv C.pv
 vT:Has X F.vT C.vT
 tW:Has X F.tW C.tW
 qt:Has X F.qt C.qt
 t':Has X F.t' C.t'
 ua:Has X F.ua C.ua
 vW:Has X F.vW C.vW
 sy:Has X F.sy C.sy
 uc:Has X F.uc C.uc
 vX:Has X F.vX C.vX
variable{X:aY}{pm:Perm}{H H' cL:ah}{n:Nat}
theorem zWa.imp{v:Value}{m w:Nat}{P sA:Nat->List Value->Prop}(h:zWa H v m w P)(aK:∀b y,H.get b=some y->H'.get b=some y)(aC:∀i cs,i<m->P i cs->sA i cs):zWa H' v m w sA:=by
 obtain⟨base,cap,U,aa⟩:=h.ex;exact⟨base,cap,U,λi hi=>by
  obtain⟨b,off,y,row,cs,ao,e2,bd,b1,cK⟩:=aa i hi;exact⟨b,off,y,row,cs,ao,aK _ _ e2,bd,b1,aC _ _ hi cK⟩⟩
theorem kI.ext{v:Value}{l:List eu}(h:kI H v l)(aK:Ext H H'):kI H' v l:=zWa.imp h aK λ_ _ _=>id
theorem nX.ext{v:Value}{l:List fb}(h:nX H v l)(aK:Ext H H'):nX H' v l:=zWa.imp h aK λ_ _ _=>id
theorem nY.ext{v:Value}{l:List di}(h:nY H v l)(aK:Ext H H'):nY H' v l:=
 zWa.imp h aK λ_ _ _ ⟨r,vc,U,aa,aq⟩=>⟨r,vc,U,aa,aq.ext aK⟩
theorem ps.ext{v:Value}{lp:bD}(h:ps H v lp)(aK:Ext H H'):ps H' v lp:=by
 obtain⟨v1,v2,U,aa,aq⟩:=h;exact⟨v1,v2,U,aa.ext aK,aq.ext aK⟩
theorem K.ext(k:K pm H H')(g:cl pm H):Ext H H':=λ_ _ h=>k.some g h
theorem zWa.at{v:Value}{m w:Nat}{P:Nat->List Value->Prop}(h:zWa H v m w P):∃base cap,v=.slice base m cap/\∀i,i<m->∃b off y row cs,base=some ⟨b,off,none⟩/\H.get b=some y/\rowOf y=some row/\cX row (off+i*w) w=some cs/\P i cs:=h.ex
theorem Fg(al:hC X)(g:cl pm H){l:List UInt8}(aO:l.length<1000000):Call X pm F.pt [aW l] H λr H'=>K pm H H'/\r=.bool (isNum l):=by
 refine Call.has al.pt rfl ?_;simp;refine aR.bZb (B' al.toOb g aO) ?_;rintro r H1 ⟨av,h⟩
 rcases h with⟨e,rfl⟩ | ⟨q,p,e,rfl,aV⟩
 ·simp[isNum,e];exact av
 ·simp[isNum,e];exact av
theorem sB(al:hC X)(g:cl pm H){l:List UInt8}(aO:l.length<1000000)(aF:isNum l=true):Call X pm F.kJ [aW l] H λr H'=>K pm H H'/\c1 H' r (rd l):=by
 refine Call.has al.kJ rfl ?_;simp;refine aR.bZb (B' al.toOb g aO) ?_;rintro r H1 ⟨av,h⟩
 rcases h with⟨e,rfl⟩ | ⟨q,p,e,rfl,aV⟩
 ·simp[isNum,e]at aF
 ·simp[rd,e];exact⟨av,aV⟩
theorem X5{t:List UInt8}:(oI t).1.length<=t.length/\(oI t).2.length<=max t.length 1:=by
 unfold oI;split
 ·refine⟨(List.takeWhile_sublist _).length_le,bH ?_ (Nat.le_max_left _ _)⟩;rw[List.length_tail];exact bH (Nat.sub_le _ _) (List.dropWhile_sublist _).length_le
 ·simp;omega
theorem X6{l:List UInt8}:(kK l).2.length<=l.length:=by
 unfold kK;split<;>simp
theorem jf{l:List UInt8}{k:Nat}(h:l.length<=k)(ag:1<=k):sz (rd l) k:=by
 unfold rd
 cases e:jD l with
 | none=>
   have:4294967296^1<=4294967296^k:=iH (by decide) ag;exact⟨by show 0<_;omega,by show 1<_;omega⟩
 | some q=>
   unfold jD qu at e;split at e
   ·rename_i af;obtain⟨g1,g2,g3,g4⟩:=af;simp only[a6]at e;have U:=@X5 (kK l).2;have aa:=@X6 l;have cx:=(Ca g1).1;have a2:=(Ca g2).1;have ao:=oF cx (show _<=k by omega);have e2:=oF a2 (show _<=k by omega);rw[<-e];simp only[bYc];exact⟨by rw[IU g3];exact eD (oe _ _) ao,by rw[IT g3];exact eD (oe _ _) e2⟩
   ·cases e
theorem sC{l:List UInt8}(h:l.length<=10000):ca (rd l)=true:=(jf (k:=10000) h (by decide)).ca (by decide)
theorem rz(p q:Rat):(kL p q<0)=(p<q):=by
 unfold kL;apply propext;by_cases h:p<q
 ·simp[h]
 ·by_cases aa:p=q<;>simp[h,aa]
theorem cmp_eq(p q:Rat):(kL p q=0)=(p=q):=by
 unfold kL;apply propext;by_cases h:p<q
 ·simp only[h,if_true];exact⟨λh=>by omega,λe=>absurd (e▸h) bXs⟩
 ·by_cases aa:p=q<;>simp[h,aa]
theorem xT(p q:Rat):(0<kL p q)=(q<p):=by
 unfold kL;apply propext;by_cases h:p<q
 ·simp only[h,if_true];exact⟨λh=>by omega,λe=>absurd e (hA.2 (mO h))⟩
 ·by_cases aa:p=q
  ·subst aa;simp
  ·simp only[h,aa,if_false];exact⟨λ_=>Rat.lt_of_le_of_ne (hA.1 h) (Ne.symm aa),λ_=>by omega⟩
theorem axm(p q:Rat):(!decide (p<=q))=decide (q<p):=by
 by_cases h:p<=q
 ·simp[h,hA.2 h]
 ·simp[h,Rat.not_le.1 h]
end Go.Dam.C
namespace Go.Dam.C
open Go Go.Dam
def nf(c:eu):Bool:=isNum c.cost&&((c.low.isEmpty||isNum c.low)&&((c.up.isEmpty||isNum c.up)&&(c.low.isEmpty||(c.up.isEmpty||decide (rd c.low<=rd c.up)))))
def eu.ok(c:eu):Prop:=c.low.length<=10000/\c.up.length<=10000/\c.cost.length<=10000
variable{X:aY}{pm:Perm}{H H' cL:ah}
def vY(rs:List r9)(R:Value->ah->Prop):c':=λx l H'=>(x=.normal∨x=.ret)/\∃vs,nb l H' rs=some vs/\R (j5 vs) H'
@[simp] theorem gF{rs:List r9}{R:Value->ah->Prop}{x:gr}{l:bQ}{H':ah}:vY rs R x l H'=((x=.normal∨x=.ret)/\∃vs,nb l H' rs=some vs/\R (j5 vs) H'):=rfl
theorem Call.mu{f:FuncId}{args:List Value}{R:Value->ah->Prop}{F:b2}(al:Has X f F)(aF:Nat.ble args.length F.lL=true)
 (h:wp X pm (.code F.body) (zx args 0 []) H [] (vY F.res R)):Call X pm f args H R:=Call.has al aF h
theorem cl.none(g:cl pm H)(t:Nat):H.get (H.next+t)=Option.none:=g.wf _ (hS _ _)
theorem cl.fo(g:cl pm H):H.get H.next=Option.none:=g.wf _ (bR _)
theorem bp.res{n:Nat}{H1:ah}(u:K pm (H.up n) H1)(g:cl pm H):∀t,t<n->H1.get (H.next+t)=none:=λt aS=>(u.get _ (by show H.next+t<H.next+n;omega)).trans (g.none t)
theorem X7(al:hC X){H0:ah}(ea:K pm H0 H){nm lo up co:List UInt8}{i:Bool}(U:lo.length<=10000)(aa:up.length<=10000)(n1:lo.isEmpty=true∨isNum lo=true)(n2:up.isEmpty=true∨isNum up=true){b:Nat}{z:dI}(aK:H.get b=some (.cells [aW nm,aW lo,aW up,aW co,.bool i] z)){L:bQ}(ck:a7 1 L=some (.pointer (some ⟨b,0,none⟩))):
 wp X pm (.code ng) L H [] (vY [.slot 2] λr H'=>K pm H0 H'/\r=.bool (lo.isEmpty||(up.isEmpty||decide (rd lo<=rd up)))):=by
 have g:=ea.aL;have ka:∀k,H.get (H.next+k)=none:=g.none;have Cb:H.get H.next=none:=g.fo;have iM:=g.lt aK;have bE:K pm H (H.up 19):=(K.refl g).up 19;simp[-gF];refine eg.of g.lo rfl ?_;by_cases aG:lo.isEmpty=true∨up.isEmpty=true
 ·have bd:(lo.isEmpty||up.isEmpty)=true:=by simpa using aG
  have ag:=ea.trans bE;cases cY:lo.isEmpty<;>cases ao:up.isEmpty<;>first | (simp[cY,ao]at bd;done) | skip
  all_goals
   simp[dt,ka,Cb,ck,aK,gi,cY,ao]
   refine g'.not (by simp[ka]) (by simp) ?_
   simp
   refine g'.not (by simp[ka]) (by simp) ?_
   simp
   refine g'.not (by simp[ka]) (by simp) ?_
   simp[ka,dx,dm,iM,ez]
   exact ag
 ·have ao:lo.isEmpty=false:=by cases h:lo.isEmpty<;>simp[h]at aG|-
  have e2:up.isEmpty=false:=by cases h:up.isEmpty<;>simp[h]at aG|-
  simp[ao]at n1;simp[e2]at n2;simp[dt,ka,Cb,ck,aK,gi,ao,e2];refine bZx bE.aL (vs:=[aW lo]) (by simp[ka]) (λpm' bS=>sB al bS (by omega) n1) ?_;rintro bJ H1 bn f1;have b4:=bn.res g;simp;refine bYf bn.aL (vs:=[aW up]) (by simp[b4]) (λpm' bS=>sB al bS (by omega) n2) ?_;rintro bG aJ bh f2;have cB:=(bn.trans bh).res g;simp;refine bYf bh.aL (vs:=[bJ,bG]) (by simp[cB]) (λpm' bS=>kM bS (ud al.toOb bS (f1.up bh).of f2.of (sC U) (sC aa))) ?_;rintro _ bN cu ⟨rfl,rfl⟩;simp[cB,dx,dm,iM,eJ,ez,qs,xT,axm];exact ea.trans (bE.trans (bn.trans bh))
theorem Oc(al:hC X){H0:ah}(ea:K pm H0 H){nm lo up co:List UInt8}{i:Bool}(U:lo.length<=10000)(aa:up.length<=10000){b:Nat}{z:dI}(aK:H.get b=some (.cells [aW nm,aW lo,aW up,aW co,.bool i] z)){L:bQ}(ck:a7 1 L=some (.pointer (some ⟨b,0,none⟩)))
 {c:Bool} (n1:c=false->lo.isEmpty=true∨isNum lo=true) (sD:a7 17 L=some (.bool c)) :
 wp X pm (.ops (qv.drop 3)) L H [.seq ue,.seq ng] (vY [.slot 2] λr H'=>K pm H0 H'/\r=.bool (!c&&((up.isEmpty||isNum up)&&(lo.isEmpty||(up.isEmpty||decide (rd lo<=rd up)))))):=by
 rw[show qv.drop 3=(m 18 17)::⟨(some 19),(some (18,false)),.fieldAddr 2 (.t 1)⟩::⟨(some 20),(some (18,false)),.load false 1 (.t 19)⟩::⟨(some 21),(some (18,false)),.bin .neq .aZ (.t 20) (.c (.string ⟨#[]⟩))⟩::⟨(some 22),(some (18,false)),.aM (.t 21)⟩::⟨(some 23),(some (22,true)),.fieldAddr 2 (.t 1)⟩::⟨(some 24),(some (22,true)),.load false 1 (.t 23)⟩::⟨(some 25),(some (22,true)),.call F.pt [(.t 24)]⟩::Od from rfl]
 cases c with
 | true=>
   simp[sD,-ng,-gF];refine aR.not (by simp[zWb]) ?_;simp[zWb];exact ea
 | false=>
   have n1:=n1 rfl
   cases e:up.isEmpty with
   | true=>
     simp[sD,ck,aK,gi,e,-ng,-gF];refine aR.not (by simp) ?_;simp[-ng,-gF];refine wp_mono (λx l H' h=>?_) (X7 al ea (nm:=nm) (co:=co) (i:=i) U aa n1 (.inl e) aK (by simp[ck]));simpa [e]using h
   | false=>
     simp[sD,ck,aK,gi,e,-ng,-gF];refine aR.bZb (Fg al ea.aL (l:=up) (by omega)) ?_;rintro _ H1 ⟨av,rfl⟩
     cases ao:isNum up with
     | true=>
       simp[-ng,-gF];refine wp_mono (λx l H' h=>?_) (X7 al (ea.trans av) (nm:=nm) (co:=co) (i:=i) U aa n1 (.inr ao) (av.some ea.aL aK) (by simp[ck]));simpa [e]using h
     | false=>
       simp[-ng];exact ea.trans av
theorem axn(al:hC X)(g:cl pm H){c:eu}(af:c.ok):Call X pm F.vR [.agg c.cells.toArray] H λr H'=>K pm H H'/\r=.bool (nf c):=by
 obtain⟨nm,lo,up,co,i⟩:=c;obtain⟨U,aa,aq⟩:=af;simp only at U aa aq;refine Call.mu al.vR rfl ?_;obtain⟨H1,cw⟩:=bZa (H.new (.cells [aW nm,aW lo,aW up,aW co,.bool i] (.t T.X8)));have av:=bZv g cw;have aK:H1.get H.next=some (.cells [aW nm,aW lo,aW up,aW co,.bool i] (.t T.X8)):=by rw[cw];exact dT
 obtain⟨b,ai⟩:=bZa (H.next);rw[<-ai]at aK;simp[g.pick,g.make,ptr,eu.cells,<-cw,<-ai,aK,-ng,-qv,-ue,-gF];refine aR.bZb (Fg al av.aL (l:=co) (by omega)) ?_;rintro r aJ ⟨aI,rfl⟩;have eA:=aI.some av.aL aK;have e0:=av.trans aI;have Oe:qv=⟨(some 15),(some (11,true)),.un .not (.t 14)⟩::⟨(some 16),(some (7,false)),.pick (.t 11) (.t 15) (.c (.bool false))⟩::(o 17 (.pick (.t 7) (.c (.bool true)) (.t 16)))::qv.drop 3:=rfl
 cases ao:isNum co with
 | false=>
   simp[zWb,-ng,-qv,-ue,-gF];refine aR.not (by simp) ?_;rw[Oe];simp[zWb,-ng,-qv,-ue,-gF,-List.drop_succ_cons];refine wp_mono (λx l H' h=>?_) (Oc al e0 (nm:=nm) (co:=co) (i:=i) U aa eA (c:=true) (by simp) (λh=>by cases h) (by simp));simpa [nf,ao]using h
 | true=>
   cases e2:lo.isEmpty with
   | true=>
     simp[eA,gi,e2,zWb,-ng,-qv,-ue,-gF];refine aR.not (by simp) ?_;rw[Oe];simp[zWb,-ng,-qv,-ue,-gF,-List.drop_succ_cons];refine wp_mono (λx l H' h=>?_) (Oc al e0 (nm:=nm) (co:=co) (i:=i) U aa eA (c:=false) (by simp) (λ_=>.inl e2) (by simp));simpa [nf,ao,e2]using h
   | false=>
     simp[eA,gi,e2,-ng,-qv,-ue,-gF];refine aR.bZb (Fg al aI.aL (l:=lo) (by omega)) ?_;rintro r bN ⟨aQ,rfl⟩;rw[Oe];simp[-ng,-qv,-ue,-gF,-List.drop_succ_cons];refine wp_mono (λx l H' h=>?_) (Oc al (e0.trans aQ) (nm:=nm) (co:=co) (i:=i) U aa (aQ.some aI.aL eA) (c:=!isNum lo) (by simp) (λh=>.inr (by simpa using h)) (by simp));simpa [nf,ao,e2]using h
end Go.Dam.C
namespace Go.Dam.C
open Go Go.Dam
def fb.ok(c:fb):Prop:=c.v.length<=10000
def di.ok(r:di):Prop:=r.rhs.length<=10000/\r.cM.length<=1000000/\∀c∈r.cM,c.ok
def jE(n:Int):Int->List fb->Bool
 | _,[]=>true
 | last,c::l=>isNum c.v&&(c.v != [48]&&(decide (last<c.col)&&(decide (c.col<n)&&jE n c.col l)))
def k8(r:di)(n:Int):Bool:=jE n (-1) r.cM&&(isNum r.rhs&&(r.Ff.isEmpty&&(decide (1<=r.kind)&&decide (r.kind<=3))))
variable{X:aY}{pm:Perm}{H H' cL:ah}
theorem K.next(k:K pm H H'):H.next<=H'.next:=bp.next k
theorem mv(g:cl pm H)(x y:cj)(az:∀o,x≠.eE o):K pm H ((H.new x).put H.next y):=bp.put (K.new g x) (bR _) dT az y
theorem bYz{A:ah}{x y:cj}{p:Nat}(g:cl pm H)(h:A=(H.new x).put p y)(aC:p=H.next)(az:∀o,x≠.eE o:=by simp):K pm H A:=by rw[h,aC];exact mv g _ _ az
theorem I6{α:Type}{l:List α}{k:Nat}(h:k<l.length):l.drop k=l[k]::l.drop (k+1):=List.drop_eq_getElem_cons h
theorem axo(al:hC X){H0:ah}(ea:K pm H0 H){r:di}{vc:Value}(an:r.rhs.length<=10000){b:Nat}{z:dI}(aK:H.get b=some (.cells (r.cells vc) z)){L:bQ}(cJ:a7 2 L=some (.pointer (some ⟨b,0,none⟩))):
 wp X pm (.code Cc) L H [] (vY [.slot 4] λq H'=>K pm H0 H'/\q=.bool (isNum r.rhs&&(r.Ff.isEmpty&&(decide (1<=r.kind)&&decide (r.kind<=3))))):=by
 obtain⟨nm,p5,qw,Cd,rg⟩:=r;simp[cJ,aK,di.cells,-gF];refine aR.bZb (Fg al ea.aL (l:=Cd) (by simp at an;omega)) ?_;rintro _ H1 ⟨av,rfl⟩;have h4:=av.some ea.aL aK;have qx:=ea.trans av;cases ao:isNum Cd
 ·simp[zWb];exact qx
 ·cases e2:rg.isEmpty
  ·simp[cJ,h4,di.cells,gi,e2,zWb];exact qx
  ·by_cases bd:(1:Int)<=p5
   ·simp[cJ,h4,di.cells,gi,e2,bd,Int.not_lt.2 bd];exact⟨qx,by by_cases b1:p5<=3<;>simp[b1]<;>omega⟩
   ·simp[cJ,h4,di.cells,gi,e2,bd,Int.not_le.1 bd,zWb];exact qx
theorem axp(al:hC X)(g:cl pm H){r:di}{vc:Value}{n:Nat}(an:r.ok)(aw:nX H vc r.cM):
 Call X pm F.vS [.agg (r.cells vc).toArray,.int .i64 (n:Int)] H λq H'=>K pm H H'/\q=.bool (k8 r n):=by
 refine Call.mu al.vS rfl ?_;obtain⟨U,aa,aq⟩:=an;obtain⟨base,cap,rfl,eU⟩:=aw.at;obtain⟨H1,cw⟩:=bZa (H.new (.cells (r.cells (.slice base r.cM.length cap)) (.t T.Of)));have av:=bZv g cw;have aK:H1.get H.next=some (.cells (r.cells (.slice base r.cM.length cap)) (.t T.Of)):=by rw[cw];exact dT
 obtain⟨b,ai⟩:=bZa (H.next);rw[<-ai]at aK;simp[g.pick,g.make,ptr,<-cw,<-ai,aK,-Cc,-I7,-gF];simp[di.cells,-Cc,-I7,-gF]
 refine gG (σ:=Int) r.cM.length (λk last=>[(1,.int .i64 (n:Int)),(2,.pointer (some ⟨b,0,none⟩)),(9,.slice base r.cM.length cap),(5,.int .i64 last)])
  (λk last H'=>K pm H H'/\H'.get b=some (.cells (r.cells (.slice base r.cM.length cap)) (.t T.Of))/\jE n last (r.cM.drop k)=jE n (-1) r.cM) (-1) (by decide) (by omega) (by simp) ⟨av,aK,rfl⟩ (by simp) ?_ ?_
 ·rintro k last aJ ag ⟨aI,eA,af⟩;obtain⟨b',off,y,row,cs,rfl,e2,bd,b1,c,cK,rfl⟩:=eU k ag;rw[I6 ag]at af;have il:r.cM[k]=c:=by rw[hG ag]at cK;exact bYd cK
  rw[il]at af;have Fh:c.ok:=aq c (il▸bVl ag);have gW:=aI.some g e2;have g2:=aI.aL;obtain⟨bN,iO⟩:=bZa ((aJ.new (.cells [.int .i64 0,.string ⟨#[]⟩] (.t T.I8))).put aJ.next (.cells [.int .i64 c.col,aW c.v] (.t T.I8)));have aQ:K pm aJ bN:=by rw[iO];exact mv g2 _ _ (by simp)
  have jU:bN.get aJ.next=some (.cells [.int .i64 c.col,aW c.v] (.t T.I8)):=by rw[iO];exact dX
  have aF:(aJ.new (.cells [.int .i64 0,.string ⟨#[]⟩] (.t T.I8))).get b'=some y:=by rw[zy (g2.lt gW)];exact gW
  simp[ag,gW,bd,b1,fb.cells,g2.pick,g2.make,g2.may (bR _),ptr,c5,<-iO,jU];refine aR.bZb (Fg al aQ.aL (l:=c.v) (by have:=Fh;unfold fb.ok at this;omega)) ?_;rintro _ cp ⟨bt,rfl⟩;have mw:=bt.some aQ.aL jU;have vZ:=aI.trans (aQ.trans bt);have xG:=(aQ.trans bt).some g2 eA;have ret:jE n last (c::r.cM.drop (k+1))=false->K pm H cp/\k8 r n=false:=λe=>⟨vZ,by simp[k8,<-af,e]⟩;cases ao:isNum c.v
  ·simp[zWb];refine ret ?_;simp[jE,ao]
  ·by_cases nM:c.v=[48]
   ·simp[nM,mw,gi,zWb];refine ret ?_;simp[jE,nM]
   ·have I9:(c.v==[48])=false:=by simpa using nM
    by_cases mh:last<c.col
    ·by_cases pe:c.col<n
     ·simp[I9,mh,pe,mw,gi];refine⟨vZ,xG,?_⟩;simpa [jE,bne,ao,I9,mh,pe]using af
     ·simp[I9,mh,pe,mw,gi];refine ret ?_;simp[jE,pe]
    ·simp[I9,mh,mw,gi,zWb];refine ret ?_;simp[jE,mh]
 ·rintro last aJ ⟨aI,eA,af⟩;simp[-Cc,-gF];have:=axo al aI (r:=r) U eA (L:=(12,.bool false)::(11,.int .i64 (r.cM.length:Int))::(10,.int .i64 (r.cM.length:Int))::[(1,.int .i64 (n:Int)),(2,.pointer (some ⟨b,0,none⟩)),(9,.slice base r.cM.length cap),(5,.int .i64 last)]) (by simp);refine wp_mono (λx l H' h=>?_) this;rw[List.drop_length]at af;simpa [k8,<-af,jE]using h
end Go.Dam.C
namespace Go.Dam.C
open Go Go.Dam
variable{X:aY}{pm:Perm}{H H' cL H0:ah}{n:Nat}
theorem axq:C.vX=C.uc:=rfl
theorem X9{X':Nat}(al:Has X X' C.uc)(g:cl pm H){v:Value}{m:Nat}{R:Nat->List Value->Prop}(aw:zWa H v m 5 R)(hm:m<=1000000){f:FuncId}{fs cs:Array Value}(Q:Nat->Bool)
 (bc:∀i H' c,i<m->R i c->K pm H H'->Call X pm f (.agg c.toArray::cs.toList) H' λr cL=>K pm H' cL/\r=.bool (Q i)):
 Call X pm X' [v,.func (.func f) fs cs] H λr H'=>K pm H H'/\∃z:Int,r=.int .i64 z/\(0<=z↔∃i,i<m/\Q i=true):=by
 refine Call.mu al rfl ?_;obtain⟨base,cap,rfl,eU⟩:=aw.at;simp[-Og,-Ce,-gF];refine gG (σ:=Unit) m (λk _=>[(0,.slice base m cap),(1,.func (.func f) fs cs)]) (λk _ H'=>K pm H H'/\∀i,i<k->Q i=false) () (by decide) (by omega) (by simp) ⟨K.refl g,by simp⟩ (by simp) ?_ ?_
 ·rintro k _ H1 ag ⟨av,bU⟩;obtain⟨b,off,y,row,c,rfl,e2,bd,b1,cK⟩:=eU k ag;simp[ag,av.some g e2,bd,b1,c5,-Ce,-gF];refine Cf.of (g:=f) (fs:=fs) (cs:=cs) (vs:=[.agg c.toArray]) (by simp) (by simp) (by simp) (bc k H1 c ag cK av) ?_;rintro _ aJ ⟨aI,rfl⟩;cases aV:Q k
  ·simp[-Ce,-gF];refine⟨av.trans aI,λi hi=>?_⟩;by_cases h:i=k
   ·exact h▸aV
   ·exact bU i (by omega)
  ·simp[-Ce];exact⟨av.trans aI,k,ag,aV⟩
 ·rintro _ H1 ⟨av,bU⟩;simp;exact⟨av,λi hi=>bU i hi⟩
theorem axr(al:hC X)(g:cl pm H){v:Value}{m:Nat}{R:Nat->List Value->Prop}(aw:zWa H v m 5 R)(hm:m<=1000000){f:FuncId}{fs cs:Array Value}(Q:Nat->Bool)
 (bc:∀i H' c,i<m->R i c->K pm H H'->Call X pm f (.agg c.toArray::cs.toList) H' λr cL=>K pm H' cL/\r=.bool (Q i)) {t:Bool} (aS:t=true↔∃i,i<m/\Q i=true):
 Call X pm F.vW [v,.func (.func f) fs cs] H λr H'=>K pm H H'/\r=.bool t:=by
 refine Call.mu al.vW rfl ?_;simp;refine aR.bZb (vs:=[v,.func (.func f) fs cs]) (X9 al.uc g aw hm Q bc) ?_;rintro _ H1 ⟨av,z,rfl,bl⟩;rw[<-aS]at bl;simp;refine⟨av,?_⟩;cases t<;>simp at bl|-<;>omega
theorem Oh(al:hC X)(g:cl pm H){v:Value}{m:Nat}{R:Nat->List Value->Prop}(aw:zWa H v m 5 R)(hm:m<=1000000){f:FuncId}{fs cs:Array Value}(Q:Nat->Bool)
 (bc:∀i H' c,i<m->R i c->K pm H H'->Call X pm f (.agg c.toArray::cs.toList) H' λr cL=>K pm H' cL/\r=.bool (Q i)) {t:Bool} (aS:t=true↔∃i,i<m/\Q i=true):
 Call X pm F.sy [v,.func (.func f) fs cs] H λr H'=>K pm H H'/\r=.bool t:=by
 refine Call.mu al.sy rfl ?_;simp;refine aR.bZb (vs:=[v,.func (.func f) fs cs]) (X9 (axq▸al.vX) g aw hm Q bc) ?_;rintro _ H1 ⟨av,z,rfl,bl⟩;rw[<-aS]at bl;simp;refine⟨av,?_⟩;cases t<;>simp at bl|-<;>omega
def bD.dP(lp:bD):Bool:=!(decide (100<lp.aj.length)||decide (440<lp.rows.length))&&(lp.aj.all nf&&lp.rows.all λr=>k8 r lp.aj.length)
structure bD.ok(lp:bD):Prop where
 c:lp.aj.length<=20
 r:lp.rows.length<=40
 cs:∀c∈lp.aj,c.ok
 rs:∀r∈lp.rows,r.ok
theorem Fi(al:hC X)(g:cl pm H){v:Value}{lp:bD}(aO:ps H v lp)(au:lp.ok):Call X pm F.pv [v] H λr H'=>K pm H H'/\r=.bool lp.dP:=by
 refine Call.mu al.pv rfl ?_;obtain⟨v1,v2,rfl,af,an⟩:=aO;obtain⟨cR,cy,rfl,aGf⟩:=af.at;obtain⟨b9,dd,rfl,xU⟩:=an.at;have oJ:=au.c;have qh:=au.r;obtain⟨H1,cw⟩:=bZa (H.new (.cells [.slice cR lp.aj.length cy,.slice b9 lp.rows.length dd] (.t T.Ya)));have av:=bZv g cw;have aK:H1.get H.next=some (.cells [.slice cR lp.aj.length cy,.slice b9 lp.rows.length dd] (.t T.Ya)):=by rw[cw];exact dT
 obtain⟨b,ai⟩:=bZa (H.next);rw[<-ai]at aK;simp[g.pick,g.make,ptr,<-cw,<-ai,aK,-Fj,-gF];by_cases s1:100<lp.aj.length
 ·simp[s1,zWb,-Fj];exact⟨av,by simp[bD.dP,s1]⟩
 by_cases s2:440<lp.rows.length
 ·simp[s1,s2,aK,-Fj];exact⟨av,by simp[bD.dP,s2]⟩
 have ao:∀c∈lp.aj,c.ok:=au.cs;have e2:∀c∈lp.rows,c.ok:=au.rs;simp[s1,s2,aK,-Oi,-gF];refine aR.of (vs:=[.slice cR lp.aj.length cy,.func (.func F.vT) #[] #[]]) (by simp) (by simp;rfl) (axr al av.aL (af.ext (av.ext g)) (by omega) (f:=F.vT) (cs:=#[]) (λi=>!((lp.aj[i]?.map nf).getD true)) ?_ (t:=!lp.aj.all nf) ?_) ?_
 ·rintro i aJ cs hi ⟨c,U,rfl⟩ aI;refine Call.mu al.vT rfl ?_;have jV:=K.new aI.aL (.cells c.cells (.t T.Oj));have aGg:(aJ.new (.cells c.cells (.t T.Oj))).get aJ.next=some (.cells c.cells (.t T.Oj)):=dT;simp[aI.aL.pick,aI.aL.make,ptr,cX,c5,show c.cells.length=5 from rfl];refine aR.of (vs:=[.agg c.cells.toArray]) (by simp) (by simp[show c.cells.take 5=c.cells from rfl]) (axn al jV.aL (ao c (fR U))) ?_;rintro _ bN ⟨aQ,rfl⟩;simp[U];exact jV.trans aQ
 ·rw[mN,Bool.eq_false_iff,Ne,hz];constructor
  ·intro h;simp only[Classical.not_forall]at h;obtain⟨c,af,aF⟩:=h;obtain⟨i,hi⟩:=bVW af;exact⟨i,(nD.1 hi).1,by simp[hi,aF]⟩
  ·rintro⟨i,hi,aV⟩ h;have:=h lp.aj[i] (bVl hi);simp[hG hi,this]at aV
 rintro _ aJ ⟨aI,rfl⟩;have e0:=av.trans aI;have eA:=aI.some av.aL aK;cases uf:lp.aj.all nf
 ·simp[zWb];refine aR.not (by simp) ?_;simp[zWb];exact⟨e0,by simp[bD.dP,uf]⟩
 simp[eA];refine aR.bZb (vs:=[.slice b9 lp.rows.length dd,.func (.func F.tW) #[] #[.pointer (some ⟨b,0,none⟩)]]) (Oh al e0.aL (an.ext (e0.ext g)) (by omega) (f:=F.tW) (cs:=#[.pointer (some ⟨b,0,none⟩)]) (λi=>!((lp.rows[i]?.map λr=>k8 r lp.aj.length).getD true)) ?_ (t:=!lp.rows.all λr=>k8 r lp.aj.length) ?_) ?_
 ·rintro i bN cs hi ⟨r,vc,U,rfl,k9⟩ aQ;refine Call.mu al.tW rfl ?_;have jV:=K.new aQ.aL (.cells (r.cells vc) (.t T.axs));have jU:=(aQ.trans jV).some e0.aL eA;simp[aQ.aL.pick,aQ.aL.make,ptr,cX,c5,show(r.cells vc).length=5 from rfl,jU];refine aR.of (vs:=[.agg (r.cells vc).toArray,.int .i64 (lp.aj.length:Int)]) (by simp) (by simp[show(r.cells vc).take 5=r.cells vc from rfl]) (axp al jV.aL (e2 r (fR U)) (k9.ext ((aQ.trans jV).ext e0.aL))) ?_;rintro _ cp ⟨bt,rfl⟩;simp[U];exact jV.trans bt
 ·rw[mN,Bool.eq_false_iff,Ne,hz];constructor
  ·intro h;simp only[Classical.not_forall]at h;obtain⟨c,af,aF⟩:=h;obtain⟨i,hi⟩:=bVW af;exact⟨i,(nD.1 hi).1,by simp[hi,aF]⟩
  ·rintro⟨i,hi,aV⟩ h;have:=h lp.rows[i] (bVl hi);simp[hG hi,this]at aV
 rintro _ bN ⟨aQ,rfl⟩;simp;exact⟨e0.trans aQ,by simp[bD.dP,uf,s1,s2]⟩
structure Ay(H:ah)(v:Value)(m:Nat)(P:Nat->Value->Prop):Prop where
 ex:∃base cap,v=.slice base m cap/\∀i,i<m->∃b off y row u,base=some ⟨b,off,none⟩/\H.get b=some y/\rowOf y=some row/\row[off+i]? = some u/\P i u
theorem Ay.imp{v:Value}{m:Nat}{P sA:Nat->Value->Prop}(h:Ay H v m P)(aK:Ext H H')(aC:∀i u,i<m->P i u->sA i u):Ay H' v m sA:=by
 obtain⟨base,cap,U,aa⟩:=h.ex;exact⟨base,cap,U,λi hi=>by
  obtain⟨b,off,y,row,u,ao,e2,bd,b1,cK⟩:=aa i hi;exact⟨b,off,y,row,u,ao,aK _ _ e2,bd,b1,aC _ _ hi cK⟩⟩
def kh(H:ah)(v:Value)(l:List (List UInt8)):Prop:=Ay H v l.length λi u=>∃s,l[i]? = some s/\u=aW s
def mx(H:ah)(v:Value)(m:Nat)(x:Nat->Rat):Prop:=Ay H v m λi u=>c1 H u (x i)
theorem kh.ext{v:Value}{l:List (List UInt8)}(h:kh H v l)(aK:Ext H H'):kh H' v l:=Ay.imp h aK λ_ _ _=>id
theorem c1.ext{v:Value}{q:Rat}(h:c1 H v q)(aK:Ext H H'):c1 H' v q:=let ⟨b,U,aa⟩:=h;⟨b,U,aK _ _ aa⟩
theorem mx.ext{v:Value}{m:Nat}{x:Nat->Rat}(h:mx H v m x)(aK:Ext H H'):mx H' v m x:=Ay.imp h aK λ_ _ _ h=>h.ext aK
def wm(H:ah)(v:Value)(w i:Nat)(ss:List Value):Option Nat->Prop
 | none=>i=0/\ss=[]/\v=.slice none 0 0
 | some c=>v=.slice (some ⟨c,0,none⟩) i i/\ss.length=i*w/\H.get c=some (.cells ss (.n w))
theorem wm.len{v:Value}{w i:Nat}{ss:List Value}{o:Option Nat}(g:wm H v w i ss o):ss.length=i*w:=by
 cases o with
 | none=>obtain⟨rfl,rfl,_⟩:=g;simp
 | some c=>exact g.2.1
theorem wm.ext{v:Value}{w i:Nat}{ss:List Value}{o:Option Nat}(g:wm H v w i ss o)(h:∀c y,o=some c->H.get c=some y->H'.get c=some y):wm H' v w i ss o:=by
 cases o with
 | none=>exact g
 | some c=>exact⟨g.1,g.2.1,h c _ rfl g.2.2⟩
@[simp] theorem aHe(v:Value):cX [v] 0 1=some [v]:=rfl
theorem abR(l:List Value):cX l 0 l.length=some l:=by simp[cX]
theorem YF(g:cl pm H){v:Value}{w i by':Nat}{ss xs:List Value}{o:Option Nat}(gs:wm H v w i ss o)(az:xs.all fG=true)(mK:xs.length=w)(hw:1<=w)(hi:i<1000000)(hK:by'<=200)(aF:n<=H.next)(af:∀c,o=some c->n<=c/\pm.may c=true):
 ∃H',(iV w by' v xs 1).run pm H=some (.slice (some ⟨H.next,0,none⟩) (i+1) (i+1),H')/\wm H' (.slice (some ⟨H.next,0,none⟩) (i+1) (i+1)) w (i+1) (ss++xs) (some H.next)/\bp pm n H H'/\H'.next=H.next+1/\
  ∀b,b<H.next->o≠some b->H'.get b=H.get b:=by
 have ai:(i+1)*by'<=17179869184:=bH (r8 _ hK) (by omega)
 cases o with
 | none=>
   obtain⟨rfl,rfl,rfl⟩:=gs;refine⟨H.new (.cells xs (.n w)),?_,⟨rfl,by simp[mK],dT⟩,bp.new (.refl g) aF _,rfl,λb ai _=>zy ai⟩;unfold iV;simp at ai;simp only[az];simp[g.make,g.pick,show by'<=17179869184 by omega,hw]
 | some c=>
   obtain⟨rfl,aO,aK⟩:=gs;obtain⟨hb,kC⟩:=af c rfl;have x7:cX ss 0 (i*w)=some ss:=by rw[<-aO];exact abR ss
   refine⟨(H.put c .dead).new (.cells (ss++xs) (.n w)),?_,⟨rfl,by simp[aO,mK,bZW],dT⟩,bp.new (bp.put (.refl g) hb aK (by simp) .dead) aF _,rfl,λb ai aF=>by rw[zy (show b<(H.put c .dead).next from ai),cq (λe=>aF (by rw[e]))]⟩;unfold iV;simp only[az];simp[g.make,g.pick,ai,aK,x7,kC,hw,show ¬(i+1<=i) by omega,show i+1<=17179869184 by omega]
def n7(pm:Perm)(n:Nat)(H:ah)(v:Value)(i:Nat)(x:Nat->Rat):Prop:=∃ss o,wm H v 1 i ss o/\(∀c,o=some c->n<=c/\pm.may c=true)/\∀j,j<i->∃p,ss[j]? = some p/\c1 H p (x j)
theorem n7.nil{x:Nat->Rat}:n7 pm n H (.slice none 0 0) 0 x:=⟨[],none,⟨rfl,rfl,rfl⟩,by simp,by simp⟩
theorem n7.row{v:Value}{i:Nat}{x:Nat->Rat}(h:n7 pm n H v i x):mx H v i x:=by
 obtain⟨ss,o,gs,_,az⟩:=h
 cases o with
 | none=>
   obtain⟨rfl,_,rfl⟩:=gs;exact⟨none,0,rfl,λi hi=>absurd hi (od _)⟩
 | some c=>
   obtain⟨rfl,_,aK⟩:=gs;refine⟨_,_,rfl,λj aH=>?_⟩;obtain⟨p,U,aa⟩:=az j aH;exact⟨c,0,_,ss,p,rfl,aK,rfl,by simpa using U,aa⟩
theorem n7.k{v:Value}{i:Nat}{x:Nat->Rat}(h:n7 pm n H v i x)(g:cl pm H)(k:K pm H H'):n7 pm n H' v i x:=by
 obtain⟨ss,o,gs,au,az⟩:=h;exact⟨ss,o,gs.ext λc y _ e=>k.some g e,au,λj aH=>(az j aH).imp λp q=>⟨q.1,q.2.up k⟩⟩
theorem n7.app{v:Value}{i by':Nat}{x:Nat->Rat}(h:n7 pm n H v i x)(g:cl pm H){p:Value}{q:Rat}(aC:c1 H p q)(hi:i<1000000)(hK:by'<=200)(aF:n<=H.next):
 ∃H',(iV 1 by' v [p] 1).run pm (H.new (.cells [p] (.n 1)))=some (.slice (some ⟨H.next+1,0,none⟩) (i+1) (i+1),H')/\n7 pm n H' (.slice (some ⟨H.next+1,0,none⟩) (i+1) (i+1)) (i+1) (λj=>if j=i then q else x j)/\bp pm n H H':=by
 obtain⟨ss,o,gs,au,az⟩:=h;have jV:=K.new g (.cells [p] (.n 1));obtain⟨a,rfl,aN⟩:=id aC;obtain⟨H',ao,e2,bd,b1,cK⟩:=YF jV.aL (by':=by') (n:=n) (gs.ext λc y _ e=>jV.some g e) (xs:=[.pointer (some ⟨a,0,none⟩)]) rfl rfl (bR _) hi hK (by show n<=H.next+1;omega) au;have u:=(jV.mono aF).trans bd;refine⟨H',ao,⟨_,_,e2,λc af=>?_,λj aH=>?_⟩,u⟩
 ·cases af;exact⟨by show n<=H.next+1;omega,g.may (by show H.next<=H.next+1;omega)⟩
 ·have aO:=gs.len;by_cases e:j=i
  ·subst e;refine⟨.pointer (some ⟨a,0,none⟩),?_,by simpa using aC.up u⟩;rw[lA (by omega)];simp[aO]
  ·obtain⟨r,b4,cB⟩:=az j (by omega);exact⟨r,by rw[lB (by omega)];exact b4,by simpa [e]using cB.up u⟩
def e1(l:List (List UInt8))(i:Nat):Rat:=rd (l.getD i [])
theorem Jf(al:hC X)(g:cl pm H){v:Value}{l:List (List UInt8)}{many:Int}(aw:kh H v l)(aO:l.length<1000000)(aG:∀s∈l,s.length<1000000):
 Call X pm F.qt [v,.int .i64 many] H λr H'=>K pm H H'/\(l.all isNum=false/\r=.tuple #[.slice none 0 0,.bool false]∨l.all isNum=true/\∃u,r=.tuple #[u,.bool (decide ((l.length:Int)=many))]/\mx H' u l.length (e1 l)):=by
 refine Call.mu al.qt rfl ?_;obtain⟨base,cap,rfl,eU⟩:=aw.ex;simp[-R1,-Dr,-gF]
 refine gG (σ:=Value) l.length (λk u=>[(0,.slice base l.length cap),(1,.int .i64 many),(6,u),(11,.slice base l.length cap)])
  (λk u H'=>K pm H H'/\(l.take k).all isNum=true/\n7 pm H.next H' u k (e1 l)) (.slice none 0 0) (by decide) (by omega) (by simp) ⟨K.refl g,by simp,n7.nil⟩ (by simp) ?_ ?_
 ·rintro k u H1 ag ⟨av,aF,bc⟩;obtain⟨b,off,y,row,w,rfl,e2,bd,b1,s,cK,rfl⟩:=eU k ag;have qi:=aG s (fR cK);have ui:l.take (k+1)=l.take k++[s]:=by rw[List.take_add_one,cK];rfl
  have As:e1 l k=rd s:=by simp[e1,List.getD,cK]
  simp[ag,av.some g e2,bd,b1,-Dr,-gF];refine aR.bZb (vs:=[aW s]) (B' al.toOb av.aL qi) ?_;rintro _ aJ ⟨aI,⟨h,rfl⟩ | ⟨q,p,h,rfl,aC⟩⟩
  ·simp[-Dr];refine⟨av.trans aI,.inl ⟨s,fR cK,by simp[isNum,h]⟩⟩
  ·obtain⟨bN,cx,a2,a3⟩:=(bc.k av.aL aI).app (by':=8) aI.aL aC (by omega) (by omega) (av.trans aI).next;have aV:e1 l k=q:=by rw[As];simp[rd,h]
   have R2:(λj=>if j=k then q else e1 l j)=e1 l:=by
    funext j;by_cases e:j=k
    ·subst e;simp[aV]
    ·simp[e]
   rw[R2]at a2;obtain⟨a,rfl,_⟩:=id aC;simp[aI.aL.pick,aI.aL.make,fill,setCells,cx,-Dr,-gF];rw[hz]at aF;refine⟨bp.trans (av.trans aI) a3,λx az=>?_,a2⟩;rw[ui,bXf]at az
   rcases az with az | az
   ·exact aF x az
   ·simp at az;subst az;simp[isNum,h]
 ·rintro u H1 ⟨av,aF,bc⟩;rw[List.take_length]at aF;simp;refine⟨av,.inr ⟨by simpa using aF,u,⟨rfl,?_⟩,bc.row⟩⟩;by_cases h:(l.length:Int)=many<;>simp[h]
def ix:List fb->(Nat->Rat)->Rat
 | [],_=>0
 | c::l,x=>ix l x+rd c.v*x c.col.toNat
theorem Yc(l:List fb)(c:fb)(x:Nat->Rat):ix (l++[c]) x=ix l x+rd c.v*x c.col.toNat:=by
 induction l with
 | nil=>simp[ix]
 | cons d l ih=>simp only[bYx,ix,ih];grind
theorem Ok{l:List fb}{x:Nat->Rat}{t:Nat}(aO:∀c∈l,c.ok/\sz (x c.col.toNat) t):sz (ix l x) (l.length*(t+10001)+1):=by
 induction l with
 | nil=>exact uh (by simp)
 | cons c l ih=>
   obtain⟨U,aa⟩:=aO c (.head _);refine ff (zz (ih λd aB=>aO d (.tail _ aB)) (la (jf (k:=10000) U (by decide)) aa)) ?_;simp only[bZN,bZW];omega
structure Ol(l:List fb)(n:Nat):Prop where
 len:l.length<=1000
 all:∀c∈l,c.ok/\isNum c.v=true/\0<=c.col/\c.col<n
def bD.col(lp:bD)(i:Nat):eu:=lp.aj.getD i ⟨[],[],[],[],false⟩
def bs(f:Nat->Rat):Nat->Rat
 | 0=>0
 | n+1=>bs f n+f n
theorem Ch{f:Nat->Rat}{t:Nat}:∀{n:Nat},(∀i,i<n->sz (f i) t)->sz (bs f n) (n*(t+1)+1)
 | 0,_=>uh (by simp)
 | n+1,h=>by
   refine ff (zz (Ch λi hi=>h i (by omega)) (h n (by omega))) ?_;rw[bZW];omega
def bD.nh(lp:bD)(x:Nat->Rat):Rat:=bs (λi=>rd (lp.col i).cost*x i) lp.aj.length
theorem bD.zB{lp:bD}{i:Nat}{c:eu}(h:lp.aj[i]? = some c):lp.col i=c:=by simp[bD.col,List.getD,h]
theorem On{c:eu}(h:nf c=true):isNum c.cost=true:=by simp[nf]at h;exact h.1
theorem Ci{lp:bD}(h:lp.dP=true){c:eu}(af:c∈lp.aj):nf c=true:=by simp[bD.dP]at h;exact h.2.1 c af
theorem zC{lp:bD}(h:lp.dP=true){r:di}(an:r∈lp.rows):k8 r lp.aj.length=true:=by simp[bD.dP]at h;exact h.2.2 r an
theorem Jd{xs:List (List UInt8)}(h:∀s∈xs,s.length<=10000)(i:Nat):sz (e1 xs i) 10000:=by
 unfold e1;rw[ob]
 cases e:xs[i]? with
 | none=>exact jf (by simp) (by decide)
 | some s=>exact jf (h s (fR e)) (by decide)
theorem Ye(al:hC X)(g:cl pm H){v w:Value}{lp:bD}{x:Nat->Rat}{t:Nat}(aw:ps H v lp)(au:lp.ok)(hm:lp.dP=true)(hw:mx H w lp.aj.length x)(aS:t<=20000)(az:∀i,i<lp.aj.length->sz (x i) t):
 Call X pm F.t' [v,w] H λr H'=>K pm H H'/\c1 H' r (lp.nh x)/\sz (lp.nh x) 700000:=by
 refine Call.mu al.t' rfl ?_;obtain⟨v1,v2,rfl,af,an⟩:=aw;obtain⟨base,cap,rfl,eU⟩:=af.at;obtain⟨dG,dE,rfl,xU⟩:=hw.ex;have aO:=au.c;have xY:∀i,i<lp.aj.length->sz (rd (lp.col i).cost*x i) 30000:=λi hi=>by
  have Cg:lp.aj[i]? = some (lp.col i):=by rw[bD.col,ob,hG hi];rfl
  exact ff (la (jf (k:=10000) (au.cs _ (fR Cg)).2.2 (by decide)) (az i hi)) (by omega)
 have gb:∀k,k<=lp.aj.length->sz (bs (λi=>rd (lp.col i).cost*x i) k) 700000:=λk ag=>
  ff (Ch λi hi=>xY i (by omega)) (by omega)
 obtain⟨H1,cw⟩:=bZa (H.new (.cells [.slice base lp.aj.length cap,v2] (.t T.Yf)));have av:=bZv g cw;have aK:H1.get H.next=some (.cells [.slice base lp.aj.length cap,v2] (.t T.Yf)):=by rw[cw];exact dT
 obtain⟨b,ai⟩:=bZa (H.next);rw[<-ai]at aK;simp[g.pick,g.make,ptr,<-cw,<-ai,-Oo,-Je,-gF];refine aR.bZb (vs:=[.int .i64 0]) (sE al.toOb av.aL (n:=0) (by omega) (by omega)) ?_;rintro jW aJ ⟨aI,jR⟩;simp[aI.some av.aL aK,-Je,-Oq,-gF]
 refine gG (σ:=Value) lp.aj.length (λk u=>[(1,.slice dG lp.aj.length dE),(5,u),(10,.slice base lp.aj.length cap)])
  (λk u H'=>K pm H H'/\c1 H' u (bs (λi=>rd (lp.col i).cost*x i) k)) jW (by decide) (by omega) (by simp) ⟨av.trans aI,by simpa [bs]using jR⟩ (by simp) ?_ ?_
 ·rintro k u bN ag ⟨aQ,hu⟩;obtain⟨b,off,y,row,cs,rfl,e2,bd,b1,c,cK,rfl⟩:=eU k ag;obtain⟨b9,xV,iL,xW,q,rfl,f2,f3,f4,f5⟩:=xU k ag;have lb:=fR cK;have uj:=On (Ci hm lb);have d':=(au.cs c lb).2.2;have g3:=aQ.aL;have gW:=aQ.some g e2;have xX:=aQ.some g f2;obtain⟨nm,lo,up,co,it⟩:=c;simp only at d' uj;obtain⟨cp,nZ⟩:=bZa ((bN.new (.cells [.string ⟨#[]⟩,.string ⟨#[]⟩,.string ⟨#[]⟩,.string ⟨#[]⟩,.bool false] (.t T.Ot))).put bN.next (.cells [aW nm,aW lo,aW up,aW co,.bool it] (.t T.Ot)));have bt:K pm bN cp:=by rw[nZ];exact mv g3 _ _ (by simp)
  have mw:cp.get bN.next=some (.cells [aW nm,aW lo,aW up,aW co,.bool it] (.t T.Ot)):=by rw[nZ];exact dX
  have g4:=bt.aL;have v7:=bt.some g3 xX;simp[ag,gW,bd,b1,eu.cells,g3.pick,g3.make,g3.may (bR _),ptr,c5,<-nZ];refine eg.of g4.lo rfl ?_;have bE:K pm cp (cp.up 11):=(K.refl g4).up 11;have bO:=g4.lt mw;have xS:=g4.lt v7;simp[dt,g4.none,g4.fo,mw,ag,v7,f3,f4];refine bZx bE.aL (vs:=[aW co]) (by simp[g4.none]) (λpm' bS=>sB al bS (by omega) uj) ?_;rintro bJ cV cd f1;have b4:=cd.res g4;simp;have Om:c1 cV q (x k):=((f5.ext (aQ.ext g)).up bt).up (bE.trans cd);have Jc:=az k ag;refine bYf cd.aL (vs:=[bJ,q]) (by simp[b4]) (λpm' bS=>sF al.toOb bS f1.of Om.of (sC d') (Jc.ca (bH aS (by decide)))) ?_;rintro bG ep cv f2;have cB:=(K.trans cd cv).res g4;simp;have lZ:=bD.zB cK;have eb:=xY k ag;rw[lZ]at eb;refine bYf cv.aL (vs:=[u,bG]) (by simp[cB]) (λpm' bS=>v8 al.toOb bS ((((hu.up bt).up bE).up cd).up cv).of f2.of ((gb k (by omega)).ca (by decide)) (eb.ca (by decide))) ?_;rintro cO hM dJ f3;have dh:=(K.trans (K.trans cd cv) dJ).res g4;simp[dh,dx,dm,bO,xS,eJ,ez,qs];refine⟨aQ.trans (bt.trans (bE.trans (cd.trans (cv.trans dJ)))),?_⟩;simp only[bs,lZ];exact f3
 ·rintro u aJ ⟨aI,hu⟩;simp;exact⟨aI,hu,gb _ (bR _)⟩
def h5(lp:bD)(xs:List (List UInt8))(m:Nat):Bool:=xs.all isNum&&(decide (xs.length=m)&&lp.dP)
def kN(lp:bD)(xs:List (List UInt8)):Option Rat:=if h5 lp xs lp.aj.length=true then some (lp.nh (e1 xs)) else none
def oK:Option Rat->Value
 | some q=>.tuple #[aW (dB q),.bool true]
 | none=>.tuple #[aW [],.bool false]
structure qy(xs:List (List UInt8)):Prop where
 len:xs.length<1000000
 all:∀s∈xs,s.length<=10000
theorem qy.lt{xs:List (List UInt8)}(h:qy xs):∀s∈xs,s.length<1000000:=λs aG=>eD (h.all s aG) (by decide)
theorem Yg(al:hC X)(g:cl pm H){v w:Value}{lp:bD}{xs:List (List UInt8)}(aw:ps H v lp)(au:lp.ok)(hw:kh H w xs)(aG:qy xs):
 Call X pm F.ua [v,w] H λr H'=>K pm H H'/\r=oK (kN lp xs):=by
 refine Call.mu al.ua rfl ?_;have iy:=aw;obtain⟨v1,v2,rfl,af,an⟩:=aw;obtain⟨base,cap,rfl,eU⟩:=af.at;obtain⟨H1,cw⟩:=bZa (H.new (.cells [.slice base lp.aj.length cap,v2] (.t T.Yh)));have av:=bZv g cw;have aK:H1.get H.next=some (.cells [.slice base lp.aj.length cap,v2] (.t T.Yh)):=by rw[cw];exact dT
 obtain⟨b,ai⟩:=bZa (H.next);rw[<-ai]at aK;simp[g.pick,g.make,ptr,<-cw,<-ai,aK,-Ou,-gF];refine aR.bZb (vs:=[w,.int .i64 (lp.aj.length:Int)]) (Jf al av.aL (hw.ext (av.ext g)) aG.len aG.lt) ?_;rintro _ aJ ⟨aI,⟨h,rfl⟩ | ⟨h,u,rfl,hu⟩⟩
 ·simp[zWb];refine aR.not (by simp) ?_;simp[zWb];exact⟨av.trans aI,by simp[kN,h5,h,oK]⟩
 have eA:=aI.some av.aL aK;have e0:=av.trans aI;by_cases hlen:xs.length=lp.aj.length
 ·simp[hlen,eA,cX,c5,-Ov];refine aR.bZb (vs:=[.agg #[.slice base lp.aj.length cap,v2]]) (Fi al aI.aL (iy.ext (e0.ext g)) au) ?_;rintro _ bN ⟨aQ,rfl⟩;have h0:=e0.trans aQ;have jU:=aQ.some aI.aL eA;cases hm:lp.dP
  ·simp;exact⟨h0,by simp[kN,h5,hm,oK]⟩
  ·rw[hlen]at hu;simp[jU,cX,c5];refine aR.bZb (vs:=[.agg #[.slice base lp.aj.length cap,v2],u]) (Ye al aQ.aL (iy.ext (h0.ext g)) au hm (hu.ext (aQ.ext aI.aL)) (t:=10000) (by decide) λi _=>Jd aG.all i) ?_;rintro p cp ⟨bt,aC,bl⟩;simp;refine aR.bZb (vs:=[p]) (Cj al.toOb bt.aL aC.of (bl.ca (by decide))) ?_;rintro _ _ ⟨rfl,rfl⟩;simp;exact⟨h0.trans bt,by simp[kN,h5,hm,h,hlen,oK]⟩
 ·have:¬((xs.length:Int)=(lp.aj.length:Int)):=by omega
  simp[this,zWb];refine aR.not (by simp) ?_;simp[zWb];exact⟨e0,by simp[kN,h5,hlen,oK]⟩
theorem Ow{pm:Perm}{c:Nat}:∀{l:List Value},(∀a,.pointer (some a)∈l->a.block≠c)->gp (gI pm l) [c]=true
 | [],_=>rfl
 | v::l,h=>by
   have ih:=Ow (pm:=pm) (c:=c) (l:=l) λa aN=>h a (.tail _ aN)
   cases v with
   | pointer o=>
     cases o with
     | none=>exact ih
     | some a=>
       simp only[gI]
       cases pm.may a.block with
       | false=>exact ih
       | true=>
         simp only[cond_true,gp,bXe,cG];exact⟨by simp[h a (.head _)],ih⟩
   | _=>exact ih
theorem c1.ne{p:Value}{q:Rat}(h:c1 H p q){c:Nat}{cs:List Value}{z:dI}(bu:H.get c=some (.cells cs z)):∀a,p=.pointer (some a)->a.block≠c:=by
 obtain⟨b,rfl,ai⟩:=h;rintro a e rfl;cases e;rw[bu]at ai;cases ai
theorem qz{p q:Value}{x y:Rat}(U:c1 H p x)(aa:c1 H q y){c:Nat}{cs:List Value}{z:dI}(bu:H.get c=some (.cells cs z))(m:Perm):gp (gI m [p,q]) [c]=true:=Ow λa aN=>by
 rcases lD.1 aN with e | aN
 ·exact U.ne bu a e.symm
 ·rcases lD.1 aN with e | aN
  ·exact aa.ne bu a e.symm
  ·cases aN
theorem rA{p:Value}{x:Rat}(U:c1 H p x){c:Nat}{cs:List Value}{z:dI}(bu:H.get c=some (.cells cs z))(m:Perm):gp (gI m [p]) [c]=true:=Ow λa aN=>by
 rcases lD.1 aN with e | aN
 ·exact U.ne bu a e.symm
 ·cases aN
theorem Fk{n:Nat}:∀{l:List fb} {last:Int},jE n last l=true->(∀c∈l,isNum c.v=true/\last<c.col/\c.col<n)/\(l≠[]->(l.length:Int)+last<n)
 | [],_,_=>⟨by simp,by simp⟩
 | c::l,last,h=>by
   simp only[jE,cG,eh]at h;obtain⟨U,_,aq,a8,cg⟩:=h;obtain⟨i1,i2⟩:=Fk cg;refine⟨λd aB=>?_,λ_=>?_⟩
   ·rcases lD.1 aB with rfl | aB
    ·exact⟨U,aq,a8⟩
    ·obtain⟨a,b,c⟩:=i1 d aB;exact⟨a,by omega,c⟩
   ·by_cases e:l=[]
    ·subst e;simp;omega
    ·have:=i2 e;simp only[bZN];omega
theorem Ck{r:di}{n:Nat}(h:k8 r n=true)(au:r.ok)(aF:n<=20):Ol r.cM n/\isNum r.rhs=true/\1<=r.kind/\r.kind<=3:=by
 simp only[k8,cG,eh]at h;obtain⟨U,aa,_,a8,cg⟩:=h;obtain⟨i1,i2⟩:=Fk U;refine⟨⟨?_,λc af=>?_⟩,aa,a8,cg⟩
 ·by_cases e:r.cM=[]
  ·simp[e]
  ·have:=i2 e;omega
 ·obtain⟨a,b,ek⟩:=i1 c af;exact⟨au.2.2 c af,a,by omega,ek⟩
theorem Yk(c:eu)(h:nf c=true):(c.low.isEmpty=false->isNum c.low=true)/\(c.up.isEmpty=false->isNum c.up=true):=by
 simp[nf]at h;constructor
 ·intro e
  rcases h.2.1 with U | U
  ·simp[U]at e
  ·exact U
 ·intro e
  rcases h.2.2.1 with U | U
  ·simp[U]at e
  ·exact U
theorem bD.Cn{lp:bD}{i:Nat}(h:i<lp.aj.length):lp.aj[i]? = some (lp.col i):=by rw[bD.col,ob,hG h];rfl
theorem um(q:Rat):(cT q<0)=(q<0):=by
 unfold cT;apply propext;by_cases h:q<0
 ·simp[h]
 ·by_cases aa:q=0<;>simp[h,aa]
theorem lj(q:Rat):(cT q=0)=(q=0):=by
 unfold cT;apply propext;by_cases h:q<0
 ·simp only[h,if_true];exact⟨λh=>by omega,λe=>by subst e;exact absurd h bXs⟩
 ·by_cases aa:q=0<;>simp[h,aa]
theorem Call.h6{f:FuncId}{args:List Value}{R:Value->ah->Prop}{F:b2}(al:Has X f F)(aF:Nat.ble args.length F.lL=true)
 (h:∀Q:c',(∀x l H',vY F.res R x l H'->Q x l H')->wp X pm (.code F.body) (zx args 0 []) H [] Q):Call X pm f args H R:=Call.mu al aF (h _ λ_ _ _=>id)
theorem Jj:jD []=none:=by simp[jD,kK,oI,qu,je]
def wg(c:eu)(d:Rat):Option Rat:=if d≠0/\(if d<0 then c.up else c.low).isEmpty=true then none else some (d*rd (if d<0 then c.up else c.low))
def eV(H:ah)(c n k:Nat)(x:Nat->Rat):Prop:=∃cH,H.get c=some (.cells cH (.n 1))/\cH.length=n/\∀i,i<k->∃p,cH[i]? = some p/\c1 H p (x i)
theorem eV.k{c k:Nat}{x:Nat->Rat}(h:eV H c n k x)(g:cl pm H)(u:K pm H H'):eV H' c n k x:=by
 obtain⟨cH,U,aa,aq⟩:=h;exact⟨cH,u.some g U,aa,λi hi=>(aq i hi).imp λp q=>⟨q.1,q.2.up u⟩⟩
theorem eV.put{c k m:Nat}{x:Nat->Rat}{cH:List Value}(g:cl pm H)(hm:m<=c)(aK:H.get c=some (.cells cH (.n 1)))(aO:cH.length=n)(h:∀i,i<k->∃p,cH[i]? = some p/\c1 H p (x i)){i:Nat}(hi:i<n){p:Value}{q:Rat}(aC:c1 H p q){k':Nat}(ag:∀j,j<k'->j=i∨j<k):
 bp pm m H (H.put c (.cells (cH.set i p) (.n 1)))/\eV (H.put c (.cells (cH.set i p) (.n 1))) c n k' (λj=>if j=i then q else x j):=by
 have u:=bp.put (n:=m) (.refl g) hm aK (by simp) (.cells (cH.set i p) (.n 1));refine⟨u,_,dX,by simp[aO],λj aH=>?_⟩;by_cases e:j=i
 ·subst e;exact⟨p,by rw[bVe (by omega)],by simpa using aC.up u⟩
 ·obtain⟨r,b4,cB⟩:=h j ((ag j aH).resolve_left e);exact⟨r,by rw[bWM (Ne.symm e)];exact b4,by simpa [e]using cB.up u⟩
theorem eV.row{c cap:Nat}{x:Nat->Rat}(h:eV H c n n x):mx H (.slice (some ⟨c,0,none⟩) n cap) n x:=by
 obtain⟨cH,U,aa,aq⟩:=h;exact⟨_,_,rfl,λi hi=>by
  obtain⟨p,bJ,bG⟩:=aq i hi;exact⟨c,0,_,cH,p,rfl,U,rfl,by simpa using bJ,bG⟩⟩
theorem eV.congr{c k:Nat}{x y:Nat->Rat}(h:eV H c n k x)(e:∀i,i<k->y i=x i):eV H c n k y:=by
 obtain⟨cH,U,aa,aq⟩:=h;exact⟨cH,U,aa,λi hi=>by rw[e i hi];exact aq i hi⟩
def bD.row(lp:bD)(i:Nat):di:=lp.rows.getD i ⟨[],1,[],[],[]⟩
theorem bD.Yq{lp:bD}{i:Nat}{r:di}(h:lp.rows[i]? = some r):lp.row i=r:=by simp[bD.row,List.getD,h]
def rC(y:Rat)(d:Nat->Rat)(c:fb):Nat->Rat:=λj=>if j=c.col.toNat then d j-rd c.v*y else d j
def ni(l:List fb)(y:Rat)(d:Nat->Rat):Nat->Rat:=l.foldl (rC y) d
def d0(lp:bD)(bZs:Bool)(j:Nat):Rat:=if bZs then rd (lp.col j).cost else 0
def wh(lp:bD)(bZs:Bool)(y:Nat->Rat):Nat->Nat->Rat
 | 0=>d0 lp bZs
 | k+1=>ni (lp.row k).cM (y k) (wh lp bZs y k)
def zG(lp:bD)(y:Nat->Rat)(k:Nat):Rat:=bs (λi=>y i*rd (lp.row i).rhs) k
def Ct(lp:bD)(y:Nat->Rat)(i:Nat):Bool:=!((decide ((lp.row i).kind=1)&&decide (0<y i))||(decide ((lp.row i).kind=3)&&decide (y i<0)))
def l0(lp:bD)(d:Nat->Rat)(s:Rat):Nat->Option Rat
 | 0=>some s
 | k+1=>match l0 lp d s k with
   | none=>none
   | some s=>(match wg (lp.col k) (d k) with
     | none=>none
     | some q=>some (s+q))
def x3(lp:bD)(y:Nat->Rat):Nat->Bool
 | 0=>true
 | k+1=>x3 lp y k&&Ct lp y k
def zH(lp:bD)(bZs:Bool)(y:Nat->Rat):Option Rat:=if x3 lp y lp.rows.length=true then l0 lp (wh lp bZs y lp.rows.length) (zG lp y lp.rows.length) lp.aj.length else none
def gR(lp:bD)(xs:List (List UInt8))(bZs:Bool):Option Rat:=if h5 lp xs lp.rows.length=true then zH lp bZs (e1 xs) else none
theorem Jk{lp:bD}{y:Nat->Rat}:∀{k:Nat},x3 lp y k=true↔∀i,i<k->Ct lp y i=true
 | 0=>by simp[x3]
 | k+1=>by
   rw[x3,cG,Jk];constructor
   ·rintro⟨U,aa⟩ i hi;by_cases e:i=k
    ·exact e▸aa
    ·exact U i (by omega)
   ·intro h;exact⟨λi hi=>h i (by omega),h k (by omega)⟩
theorem bD.rowAt{lp:bD}{i:Nat}(h:i<lp.rows.length):lp.rows[i]? = some (lp.row i):=by rw[bD.row,ob,hG h];rfl
def gS(c:Nat)(H H':ah):Prop:=∀b x,b≠c->H.get b=some x->H'.get b=some x
theorem gS.refl{c:Nat}:gS c H H:=λ_ _ _ h=>h
theorem gS.trans{c:Nat}(h:gS c H H')(g:gS c H' cL):gS c H cL:=λb x ai e=>g b x ai (h b x ai e)
theorem K.uf{c:Nat}(k:K pm H H')(g:cl pm H):gS c H H':=λ_ _ _ e=>k.some g e
theorem gS.put{c:Nat}{y:cj}:gS c H (H.put c y):=λ_ _ ai e=>by rw[cq ai];exact e
theorem gS.eW{c:Nat}(h:gS c H H'){v:Value}{q:Rat}{cs:List Value}{z:dI}(af:H.get c=some (.cells cs z))(aw:c1 H v q):c1 H' v q:=by
 obtain⟨b,rfl,ai⟩:=aw;exact⟨b,rfl,h b _ (by rintro rfl;rw[ai]at af;cases af) ai⟩
end Go.Dam.C
namespace Go.Dam.C
theorem eB{f g:Nat->Rat}:∀{n:Nat},(∀i,i<n->f i=g i)->bs f n=bs g n
 | 0,_=>rfl
 | n+1,h=>by rw[bs,bs,eB λi hi=>h i (by omega),h n (by omega)]
theorem pC(f g:Nat->Rat):∀n,bs (λi=>f i+g i) n=bs f n+bs g n
 | 0=>by simp[bs,bYG]
 | n+1=>by rw[bs,bs,bs,pC f g n];grind
theorem jl(c:Rat)(f:Nat->Rat):∀n,bs (λi=>c*f i) n=c*bs f n
 | 0=>by simp[bs]
 | n+1=>by rw[bs,bs,jl c f n];grind
theorem rN{f:Nat->Rat}{n:Nat}(h:∀i,i<n->f i=0):bs f n=0:=by
 induction n with
 | zero=>rfl
 | succ n ih=>rw[bs,ih λi hi=>h i (by omega),h n (by omega),bYG]
theorem qL{f:Nat->Rat}{n j:Nat}(aH:j<n)(h:∀i,i<n->i≠j->f i=0):bs f n=f j:=by
 induction n with
 | zero=>omega
 | succ n ih=>
   rw[bs];by_cases e:j=n
   ·subst e;rw[rN λi hi=>h i (by omega) (by omega)];grind
   ·rw[ih (by omega) λi hi aF=>h i (by omega) aF,h n (by omega) (by omega)];grind
theorem sO{f:Nat->Rat}{n j:Nat}(aH:j<n):bs f n=f j+bs (λi=>if i=j then 0 else f i) n:=by
 have h:bs f n=bs (λi=>(if i=j then f i else 0)+(if i=j then 0 else f i)) n:=eB λi _=>by
  by_cases e:i=j<;>simp[e,bVY,bYG]
 rw[h,pC,qL (j:=j) aH λi _ aF=>by simp[aF]];simp
theorem FG(f:Nat->Nat->Rat)(n:Nat):∀m,bs (λi=>bs (λj=>f i j) n) m=bs (λj=>bs (λi=>f i j) m) n
 | 0=>by simp only[bs];rw[rN λ_ _=>rfl]
 | m+1=>by simp only[bs];rw[FG f n m,<-pC]
theorem ay4(f g:Nat->Rat)(n:Nat):bs (λi=>f i-g i) n=bs f n-bs g n:=by
 have:=pC f (λi=>(-1)*g i) n;rw[jl]at this;rw[show(λi=>f i-g i)=λi=>f i+(-1)*g i from funext λi=>by grind,this];grind
theorem FH{f g:Nat->Rat}:∀{n:Nat},(∀i,i<n->f i<=g i)->bs f n<=bs g n
 | 0,_=>k3
 | n+1,h=>by
   rw[bs,bs];have U:=FH (n:=n) λi hi=>h i (by omega);have aa:=h n (by omega);grind
theorem Ql{f:Nat->Rat}{n:Nat}(h:∀i,i<n->0<=f i):0<=bs f n:=by
 have:=FH (f:=λ_=>0) (n:=n) h;rwa [rN λ_ _=>rfl]at this
theorem ay5{f:Nat->Rat}{n j:Nat}(aH:j<n)(h:∀i,i<n->0<=f i)(aC:0<f j):0<bs f n:=by
 rw[sO aH];have:0<=bs (λi=>if i=j then 0 else f i) n:=Ql λi hi=>by
  by_cases e:i=j
  ·simp[e]
  ·simpa [e]using h i hi
 grind
def fX(p:Nat->Bool)(key:Nat->Nat):Nat->Option Nat
 | 0=>none
 | k+1=>match fX p key k with
   | none=>if p k=true then some k else none
   | some b=>if p k=true/\key k<key b then some k else some b
theorem FI{p:Nat->Bool}{key:Nat->Nat}:∀{n:Nat},fX p key n=none->∀j,j<n->p j=false
 | 0,_,j,aH=>absurd aH (od _)
 | n+1,h,j,aH=>by
   rw[fX]at h
   cases e:fX p key n with
   | none=>
     rw[e]at h;simp only at h;by_cases aC:p n=true
     ·rw[bm aC]at h;cases h
     ·by_cases mB:j=n
      ·subst mB;simpa using aC
      ·exact FI e j (by omega)
   | some b=>
     rw[e]at h;simp only at h;split at h<;>cases h
theorem zWd{p:Nat->Bool}{key:Nat->Nat}:∀{n b:Nat},fX p key n=some b->b<n/\p b=true/\∀j,j<n->p j=true->key b<=key j
 | 0,_,h=>by cases h
 | n+1,b,h=>by
   rw[fX]at h
   cases e:fX p key n with
   | none=>
     rw[e]at h;simp only at h;by_cases aC:p n=true
     ·rw[bm aC]at h;cases h;refine⟨by omega,aC,λj aH z8=>?_⟩;by_cases mB:j=n
      ·subst mB;exact bR _
      ·have:=FI e j (by omega);rw[this]at z8;cases z8
     ·rw[aU aC]at h;cases h
   | some a=>
     rw[e]at h;obtain⟨i1,i2,i3⟩:=zWd e;simp only at h;by_cases aC:p n=true/\key n<key a
     ·rw[bm aC]at h;cases h;refine⟨by omega,aC.1,λj aH z8=>?_⟩;by_cases mB:j=n
      ·subst mB;exact bR _
      ·have:=i3 j (by omega) z8;omega
     ·rw[aU aC]at h;cases h;refine⟨by omega,i2,λj aH z8=>?_⟩;by_cases mB:j=n
      ·subst mB;exact Nat.le_of_not_lt λh=>aC ⟨z8,h⟩
      ·exact i3 j (by omega) z8
section
variable{bas:Nat->Nat->Prop}{lv en:Nat->Nat}{L:Nat}
theorem Zd(U:∀t,t<L->∀x,bas (t+1) x↔(x=en t∨(bas t x/\x≠lv t))){x a:Nat}:∀d,a+d<=L->¬bas a x->bas (a+d) x->∃u,a<=u/\u<a+d/\en u=x
 | 0,_,aF,ai=>absurd ai aF
 | d+1,aB,aF,ai=>by
   have ai:bas (a+d+1) x:=ai;rcases(U (a+d) (by omega) x).1 ai with h | ⟨h,_⟩
   ·exact⟨a+d,by omega,by omega,h.symm⟩
   ·obtain⟨u,U,aa,aq⟩:=Zd U d (by omega) aF h;exact⟨u,U,by omega,aq⟩
theorem Ze(U:∀t,t<L->∀x,bas (t+1) x↔(x=en t∨(bas t x/\x≠lv t))){x a:Nat}:∀d,a+d<=L->bas a x->¬bas (a+d) x->∃u,a<=u/\u<a+d/\lv u=x
 | 0,_,aF,ai=>absurd aF ai
 | d+1,aB,aF,ai=>by
   have ai:¬bas (a+d+1) x:=ai;by_cases az:bas (a+d) x
   ·refine⟨a+d,by omega,by omega,?_⟩;apply oa;intro dr;exact ai ((U (a+d) (by omega) x).2 (.inr ⟨az,λe=>dr e.symm⟩))
   ·obtain⟨u,U,aa,aq⟩:=Ze U d (by omega) aF az;exact⟨u,U,by omega,aq⟩
theorem Zf{p:Nat->Prop}{a b:Nat}(nQ:a<=b)(ai:p b):∃c,a<=c/\c<=b/\p c/\∀u,a<=u->u<c->¬p u:=by
 obtain⟨d,rfl⟩:∃d,b=a+d:=⟨b-a,by omega⟩
 induction d using Nat.strongRecOn with
 | _ d ih=>
   by_cases h:∃u,a<=u/\u<a+d/\p u
   ·obtain⟨u,U,aa,aq⟩:=h;obtain⟨e,rfl⟩:∃e,u=a+e:=⟨u-a,by omega⟩;obtain⟨c,cy,dd,dy,iZ⟩:=ih e (by omega) (by omega) aq;exact⟨c,cy,by omega,dy,iZ⟩
   ·exact⟨a+d,by omega,bR _,ai,λu U aa aq=>h ⟨u,U,aa,aq⟩⟩
theorem Qm(U:∀t,t<L->∀x,bas (t+1) x↔(x=en t∨(bas t x/\x≠lv t)))(aa:∀t,t<L->bas t (lv t)/\¬bas t (en t))
 (core:∀s t r,s<t->t<L->lv s=r->en t=r->(∀u,s<=u->u<=t->lv u<=r/\en u<=r)->(∀u,s<u->u<t->en u≠r)->False):
 ∀K a,(∀u,a<=u->u<a+3^K->lv u<K/\en u<K)->a+3^K<=L->False
 | 0,a,h,_=>absurd (h a (bR _) (by simp)).1 (od _)
 | K+1,a,h,bC=>by
   have aC:3^(K+1)=3^K+3^K+3^K:=by rw[bZm];omega
   have nR:0<3^K:=bWm (by decide);generalize aV:3^K=q at*
   have bB:∀b,a<=b->b+q<=a+3^(K+1)->∃u,b<=u/\u<b+q/\(lv u=K∨en u=K):=by
    intro b ai aGv;apply oa;intro aF;refine Qm U aa core K b (λu kE mo=>?_) (by rw[aV];omega);rw[aV]at mo;obtain⟨g1,g2⟩:=h u (by omega) (by omega);refine⟨?_,?_⟩
    ·apply oa;intro g;exact aF ⟨u,kE,mo,.inl (by omega)⟩
    ·apply oa;intro g;exact aF ⟨u,kE,mo,.inr (by omega)⟩
   have no:∀s t,a<=s->s<t->t<a+3^(K+1)->lv s=K->en t=K->False:=by
    intro s t aG gz aS aO he;obtain⟨c,cy,dd,dy,iZ⟩:=Zf (p:=λu=>en u=K) (show s+1<=t from gz) he;refine core s c K (by omega) (by omega) aO dy (λu kE mo=>?_) λu kE mo=>iZ u kE mo;obtain⟨g1,g2⟩:=h u (by omega) (by omega);omega
   obtain⟨t1,cx,cR,ao⟩:=bB a (bR _) (by omega);obtain⟨t2,a2,b9,e2⟩:=bB (a+q) (by omega) (by omega);obtain⟨t3,a3,fK,bd⟩:=bB (a+q+q) (by omega) (by omega);have aO:∀t,t<L->lv t=K->¬bas (t+1) K:=λt aS e ai=>by
    rcases(U t aS K).1 ai with h | ⟨_,h⟩
    ·exact(aa t aS).2 (by rw[<-h,<-e];exact(aa t aS).1)
    ·exact h e.symm
   have he:∀t,t<L->en t=K->bas (t+1) K:=λt aS e=>(U t aS K).2 (.inl e.symm);have yi:∀s t,a<=s->s<t->t<a+3^(K+1)->lv s=K->(lv t=K∨en t=K)->False:=by
    intro s t aG gz aS tD eb
    rcases eb with eb | eb
    ·obtain⟨u,fQ,fm,fu⟩:=Zd U (a:=s+1) (x:=K) (t-(s+1)) (by omega) (aO s (by omega) tD) (by
      rw[show s+1+(t-(s+1))=t by omega,<-eb];exact(aa t (by omega)).1)
     exact no s u aG (by omega) (by omega) tD fu
    ·exact no s t aG gz aS tD eb
   rcases ao with ao | ao
   ·exact yi t1 t2 cx (by omega) (by omega) ao e2
   ·rcases e2 with e2 | e2
    ·exact yi t2 t3 (by omega) (by omega) (by omega) e2 bd
    ·obtain⟨u,fQ,fm,fu⟩:=Ze U (a:=t1+1) (x:=K) (t2-(t1+1)) (by omega) (he t1 (by omega) ao) (by
      rw[show t1+1+(t2-(t1+1))=t2 by omega,<-e2];exact(aa t2 (by omega)).2)
     exact no u t2 (by omega) (by omega) (by omega) fu e2
end
structure cr where
 n:Nat
 m:Nat
 lo:Nat->Option Rat
 up:Nat->Option Rat
 A:Nat->Nat->Rat
structure b8 where
 v:Nat->Rat
 rows:Nat->Nat
 aj:Nat->Nat
 M:Nat->Nat->Rat
def CP(P:cr)(z:Nat->Rat):Prop:=∀i,i<P.m->z (P.n+i)=bs (λj=>P.A i j*z j) P.n
def FJ(P:cr)(T:b8)(z:Nat->Rat):Prop:=∀i,i<P.m->z (T.rows i)=bs (λk=>T.M i k*z (T.aj k)) P.n
structure fh(P:cr)(T:b8):Prop where
 r:∀i,i<P.m->T.rows i<P.n+P.m
 c:∀k,k<P.n->T.aj k<P.n+P.m
 qM:∀i j,i<P.m->j<P.m->T.rows i=T.rows j->i=j
 ci:∀i j,i<P.n->j<P.n->T.aj i=T.aj j->i=j
 rc:∀i k,i<P.m->k<P.n->T.rows i≠T.aj k
 mE:∀x,x<P.n+P.m->(∃i,i<P.m/\T.rows i=x)∨∃k,k<P.n/\T.aj k=x
structure Inv(P:cr)(T:b8):Prop where
 bj:fh P T
 fJ:∀z,CP P z↔FJ P T z
 val:CP P T.v
 sum:∀f:Nat->Rat,bs (λk=>f (T.aj k)) P.n+bs (λi=>f (T.rows i)) P.m=bs f P.n+bs (λi=>f (P.n+i)) P.m
def fY(T:b8)(a col k:Nat):Rat:=if k=col then 1/T.M a col else -(T.M a k)/T.M a col
def b8.fy(T:b8)(a col:Nat):b8 where
 v:=T.v
 rows:=λi=>if i=a then T.aj col else T.rows i
 aj:=λk=>if k=col then T.rows a else T.aj k
 M:=λi k=>if i=a then fY T a col k else if k=col then T.M i col*fY T a col col else T.M i k+T.M i col*fY T a col k
def iT(T:b8)(col:Nat)(q:Rat):Nat->Nat->Rat
 | 0=>λx=>if x=T.aj col then T.v x+q else T.v x
 | i+1=>λx=>if x=T.rows i then iT T col q i x+T.M i col*q else iT T col q i x
def b8.iC(P:cr)(T:b8)(col:Nat)(q:Rat):b8:={T with v:=iT T col q P.m}
section
variable{P:cr}{T:b8}
theorem fh.fy(h:fh P T){a col:Nat}(aN:a<P.m)(af:col<P.n):fh P (T.fy a col) where
 r:=λi hi=>by
  show(if i=a then _ else _)<_;split
  ·exact h.c col af
  ·exact h.r i hi
 c:=λk ag=>by
  show(if k=col then _ else _)<_;split
  ·exact h.r a aN
  ·exact h.c k ag
 qM:=λi j hi aH e=>by
  have e:(if i=a then T.aj col else T.rows i)=(if j=a then T.aj col else T.rows j):=e;by_cases U:i=a<;>by_cases aa:j=a<;>simp only[U,aa,if_true,if_false]at e
  ·omega
  ·exact absurd e.symm (h.rc j col aH af)
  ·exact absurd e (h.rc i col hi af)
  ·exact h.qM i j hi aH e
 ci:=λi j hi aH e=>by
  have e:(if i=col then T.rows a else T.aj i)=(if j=col then T.rows a else T.aj j):=e;by_cases U:i=col<;>by_cases aa:j=col<;>simp only[U,aa,if_true,if_false]at e
  ·omega
  ·exact absurd e (h.rc a j aN aH)
  ·exact absurd e.symm (h.rc a i aN hi)
  ·exact h.ci i j hi aH e
 rc:=λi k hi ag e=>by
  have e:(if i=a then T.aj col else T.rows i)=(if k=col then T.rows a else T.aj k):=e;by_cases U:i=a<;>by_cases aa:k=col<;>simp only[U,aa,if_true,if_false]at e
  ·exact absurd e.symm (h.rc a col aN af)
  ·exact aa (h.ci _ _ ag af e.symm)
  ·exact U (h.qM _ _ hi aN e)
  ·exact h.rc i k hi ag e
 mE:=λx az=>by
  rcases h.mE x az with⟨i,hi,e⟩ | ⟨k,ag,e⟩
  ·by_cases U:i=a
   ·exact .inr ⟨col,af,by show(if col=col then _ else _)=x;rw[bm rfl,<-U,e]⟩
   ·exact .inl ⟨i,hi,by show(if i=a then _ else _)=x;rw[aU U,e]⟩
  ·by_cases U:k=col
   ·exact .inl ⟨a,aN,by show(if a=a then _ else _)=x;rw[bm rfl,<-U,e]⟩
   ·exact .inr ⟨k,ag,by show(if k=col then _ else _)=x;rw[aU U,e]⟩
theorem FJ.fy(_h:fh P T){a col:Nat}(aN:a<P.m)(af:col<P.n)(aC:T.M a col≠0)(z:Nat->Rat):FJ P T z↔FJ P (T.fy a col) z:=by
 obtain⟨p,vO⟩:=bZa (T.M a col);have rest:∀(f:Nat->Rat),bs (λk=>f k*z ((T.fy a col).aj k)) P.n=f col*z (T.rows a)+bs (λk=>if k=col then 0 else f k*z (T.aj k)) P.n:=λf=>by
  rw[sO af];congr 1
  ·show f col*z (if col=col then _ else _)=_;rw[bm rfl]
  ·refine eB λk _=>?_;by_cases e:k=col
   ·simp[e]
   ·show(if k=col then 0 else f k*z (if k=col then _ else _))=_;simp only[e,if_false]
 have old:∀(f:Nat->Rat),bs (λk=>f k*z (T.aj k)) P.n=f col*z (T.aj col)+bs (λk=>if k=col then 0 else f k*z (T.aj k)) P.n:=λf=>sO af;obtain⟨R,dD⟩:∃R:(Nat->Rat)->Rat,∀f,R f=bs (λk=>if k=col then 0 else f k*z (T.aj k)) P.n:=⟨_,λ_=>rfl⟩;have ay6:R (fY T a col)=-(1/p)*R (T.M a):=by
  rw[dD,dD,<-jl];refine eB λk _=>?_;by_cases e:k=col
  ·simp[e]
  ·simp only[e,if_false,fY,<-vO];grind
 have Qn:z (T.rows a)=bs (λk=>T.M a k*z (T.aj k)) P.n↔z (T.aj col)=bs (λk=>fY T a col k*z ((T.fy a col).aj k)) P.n:=by
  rw[rest,old,<-dD,<-dD,ay6];have aF:fY T a col col=1/p:=by simp[fY,vO]
  rw[aF,<-vO];have ri:p≠0:=by rw[vO];exact aC
  constructor<;>intro h<;>grind
 have other:∀i,i≠a->z (T.aj col)=bs (λk=>fY T a col k*z ((T.fy a col).aj k)) P.n->bs (λk=>(T.fy a col).M i k*z ((T.fy a col).aj k)) P.n=bs (λk=>T.M i k*z (T.aj k)) P.n:=by
  intro i hi bl;rw[rest]at bl;rw[rest,old,<-dD];rw[<-dD]at bl|-;have U:(T.fy a col).M i col=T.M i col*fY T a col col:=by
   show(if i=a then _ else if col=col then _ else _)=_;rw[aU hi,bm rfl]
  have aa:R ((T.fy a col).M i)=R (T.M i)+T.M i col*R (fY T a col):=by
   rw[dD,dD,dD,<-jl,<-pC];refine eB λk _=>?_;by_cases e:k=col
   ·simp[e,bYG]
   ·show(if k=col then 0 else(if i=a then _ else if k=col then _ else _)*_)=_;simp only[e,hi,if_false];grind
  rw[U,aa];grind
 constructor
 ·intro h i hi;by_cases e:i=a
  ·subst e;have:=Qn.1 (h i aN);show z (if i=i then _ else _)=bs (λk=>(if i=i then _ else _)*_) P.n;simp only[if_true];exact this
  ·show z (if i=a then _ else _)=_;rw[aU e,other i e (Qn.1 (h a aN))];exact h i hi
 ·intro h;have pD:z (T.aj col)=bs (λk=>fY T a col k*z ((T.fy a col).aj k)) P.n:=by
   have:=h a aN;have:z (if a=a then T.aj col else T.rows a)=bs (λk=>(if a=a then fY T a col k else _)*z ((T.fy a col).aj k)) P.n:=this;simp only[if_true]at this;exact this
  intro i hi;by_cases e:i=a
  ·subst e;exact Qn.2 pD
  ·have:=h i hi;rw[other i e pD]at this;have:z (if i=a then T.aj col else T.rows i)=_:=this;rw[aU e]at this;exact this
theorem Inv.fy(h:Inv P T){a col:Nat}(aN:a<P.m)(af:col<P.n)(aC:T.M a col≠0):Inv P (T.fy a col):=
 ⟨h.bj.fy aN af,λz=>(h.fJ z).trans (FJ.fy h.bj aN af aC z),h.val,λf=>by
  rw[<-h.sum f,sO af,sO (f:=λk=>f (T.aj k)) af,sO aN,sO (f:=λi=>f (T.rows i)) aN];have ao:bs (λk=>if k=col then 0 else f ((T.fy a col).aj k)) P.n=bs (λk=>if k=col then 0 else f (T.aj k)) P.n:=eB λk _=>by
   by_cases e:k=col
   ·simp[e]
   ·simp only[e,if_false];show f (if k=col then _ else _)=_;rw[aU e]
  have e2:bs (λi=>if i=a then 0 else f ((T.fy a col).rows i)) P.m=bs (λi=>if i=a then 0 else f (T.rows i)) P.m:=eB λk _=>by
   by_cases e:k=a
   ·simp[e]
   ·simp only[e,if_false];show f (if k=a then _ else _)=_;rw[aU e]
  rw[ao,e2];have bd:f ((T.fy a col).aj col)=f (T.rows a):=by show f (if col=col then _ else _)=_;rw[bm rfl]
  have b1:f ((T.fy a col).rows a)=f (T.aj col):=by show f (if a=a then _ else _)=_;rw[bm rfl]
  rw[bd,b1];grind⟩
theorem Qo(h:fh P T){col:Nat}(af:col<P.n){q:Rat}{i:Nat}(hi:i<P.m):∀k,k<=P.m->iT T col q k (T.rows i)=if i<k then T.v (T.rows i)+T.M i col*q else T.v (T.rows i)
 | 0,_=>by simp[iT,h.rc i col hi af]
 | k+1,ag=>by
   show(if T.rows i=T.rows k then iT T col q k (T.rows i)+T.M k col*q else iT T col q k (T.rows i))=_;rw[Qo h af hi k (by omega)];by_cases e:i=k
   ·subst e;simp
   ·have:T.rows i≠T.rows k:=λe2=>e (h.qM i k hi (by omega) e2);rw[aU this];by_cases U:i<k
    ·rw[bm U,bm (by omega)]
    ·rw[aU U,aU (by omega)]
theorem Zg(h:fh P T){col:Nat}(af:col<P.n){q:Rat}{j:Nat}(aH:j<P.n):∀k,k<=P.m->iT T col q k (T.aj j)=if j=col then T.v (T.aj j)+q else T.v (T.aj j)
 | 0,_=>by
   show(if T.aj j=T.aj col then _ else _)=_;by_cases e:j=col
   ·simp[e]
   ·rw[aU e,aU λe2=>e (h.ci j col aH af e2)]
 | k+1,ag=>by
   show(if T.aj j=T.rows k then iT T col q k (T.aj j)+T.M k col*q else iT T col q k (T.aj j))=_;rw[aU λe=>h.rc k j (by omega) aH e.symm,Zg h af aH k (by omega)]
theorem Qp(h:fh P T){col:Nat}(af:col<P.n){q:Rat}{i:Nat}(hi:i<P.m):(T.iC P col q).v (T.rows i)=T.v (T.rows i)+T.M i col*q:=by
 have:=Qo h af (q:=q) hi P.m (bR _);rwa [bm hi]at this
theorem CQ(h:fh P T){col:Nat}(af:col<P.n){q:Rat}{j:Nat}(aH:j<P.n):(T.iC P col q).v (T.aj j)=if j=col then T.v (T.aj j)+q else T.v (T.aj j):=Zg h af aH P.m (bR _)
theorem Inv.iC(h:Inv P T){col:Nat}(af:col<P.n)(q:Rat):Inv P (T.iC P col q):=by
 refine⟨⟨h.bj.r,h.bj.c,h.bj.qM,h.bj.ci,h.bj.rc,h.bj.mE⟩,h.fJ,?_,h.sum⟩;refine(h.fJ _).2 λi hi=>?_;have aD:=(h.fJ _).1 h.val i hi;rw[Qp h.bj af hi,aD,sO af,sO (f:=λk=>T.M i k*(T.iC P col q).v (T.aj k)) af,CQ h.bj af af,bm rfl];have:bs (λk=>if k=col then 0 else T.M i k*(T.iC P col q).v (T.aj k)) P.n=bs (λk=>if k=col then 0 else T.M i k*T.v (T.aj k)) P.n:=eB λk ag=>by
  by_cases e:k=col
  ·simp[e]
  ·simp only[e,if_false,CQ h.bj af ag]
 rw[this];grind
end
def uB(P:cr)(v:Nat->Rat)(x:Nat):Int:=match P.up x with
 | some u=>if u<v x then -1 else 0
 | none=>0
def off(P:cr)(v:Nat->Rat)(x:Nat):Int:=match P.lo x with
 | some l=>if v x<l then 1 else uB P v x
 | none=>uB P v x
def can(P:cr)(v:Nat->Rat)(x:Nat)(way:Int):Bool:=if 0<way then(match P.up x with
    | none=>true
    | some u=>decide (v x<u)) else(match P.lo x with
    | none=>true
    | some l=>decide (l<v x))
def oS(P:cr)(v:Nat->Rat)(x:Nat):Prop:=(∀l,P.lo x=some l->l<=v x)/\∀u,P.up x=some u->v x<=u
theorem Zh{P:cr}{v:Nat->Rat}{x:Nat}(h:off P v x=0):oS P v x:=by
 unfold off uB at h;refine⟨λl aO=>?_,λu hu=>?_⟩
 ·rw[aO]at h;simp only at h;by_cases aw:v x<l
  ·rw[bm aw]at h;omega
  ·exact hA.1 aw
 ·rw[hu]at h;simp only at h;have aa:(if u<v x then(-1:Int) else 0)=0:=by
   cases aO:P.lo x with
   | none=>rw[aO]at h;exact h
   | some l=>
     rw[aO]at h;simp only at h;by_cases aw:v x<l
     ·rw[bm aw]at h;omega
     ·rwa [aU aw]at h
  by_cases aw:u<v x
  ·rw[bm aw]at aa;omega
  ·exact hA.1 aw
theorem yj{P:cr}{v:Nat->Rat}{x:Nat}(h:off P v x≠0):(off P v x=1/\∃l,P.lo x=some l/\v x<l)∨(off P v x=-1/\∃u,P.up x=some u/\u<v x):=by
 have hu:uB P v x≠0->(uB P v x=-1/\∃u,P.up x=some u/\u<v x):=by
  unfold uB
  cases hu:P.up x with
  | none=>simp
  | some u=>
    simp only;by_cases aw:u<v x
    ·simp[aw]
    ·simp[aw]
 unfold off at h|-
 cases aO:P.lo x with
 | none=>rw[aO]at h;exact .inr (hu h)
 | some l=>
   rw[aO]at h;simp only at h|-;by_cases aw:v x<l
   ·rw[bm aw];exact .inl ⟨rfl,l,rfl,aw⟩
   ·rw[aU aw]at h|-;exact .inr (hu h)
theorem JS{P:cr}{v:Nat->Rat}{x:Nat}{w:Int}(hw:0<w)(h:can P v x w=false):∃u,P.up x=some u/\u<=v x:=by
 unfold can at h;rw[bm hw]at h
 cases hu:P.up x with
 | none=>rw[hu]at h;cases h
 | some u=>rw[hu]at h;exact⟨u,rfl,hA.1 (by simpa using h)⟩
theorem JT{P:cr}{v:Nat->Rat}{x:Nat}{w:Int}(hw:¬0<w)(h:can P v x w=false):∃l,P.lo x=some l/\v x<=l:=by
 unfold can at h;rw[aU hw]at h
 cases hu:P.lo x with
 | none=>rw[hu]at h;cases h
 | some u=>rw[hu]at h;exact⟨u,rfl,hA.1 (by simpa using h)⟩
theorem FK{P:cr}{v:Nat->Rat}{x:Nat}{w:Int}(hw:0<w)(h:can P v x w=true):∀u,P.up x=some u->v x<u:=by
 intro u hu;unfold can at h;rw[bm hw,hu]at h;simpa using h
theorem FL{P:cr}{v:Nat->Rat}{x:Nat}{w:Int}(hw:¬0<w)(h:can P v x w=true):∀l,P.lo x=some l->l<v x:=by
 intro u hu;unfold can at h;rw[aU hw,hu]at h;simpa using h
section
variable{α:Type}(f:α->Option α)
def oT:Nat->α->Option α
 | 0,a=>some a
 | k+1,a=>match f a with
   | none=>none
   | some b=>oT k b
def Ends(a:α):Prop:=∃k,oT f k a=none
variable{f}
theorem Ends.next{a b:α}(h:Ends f a)(e:f a=some b):Ends f b:=by
 obtain⟨k,ag⟩:=h
 cases k with
 | zero=>cases ag
 | succ k=>
   rw[oT,e]at ag;exact⟨k,ag⟩
theorem Ends.least{a:α}(h:Ends f a):∃k,oT f k a=none/\∀j,j<k->oT f j a≠none:=by
 obtain⟨k,ag⟩:=h;obtain⟨c,_,_,dy,iZ⟩:=Zf (p:=λk=>oT f k a=none) (Nat.zero_le k) ag;exact⟨c,dy,λj aH=>iZ j (Nat.zero_le _) aH⟩
open Classical in
noncomputable def left(f:α->Option α)(a:α):Nat:=if h:Ends f a then Classical.choose (Ends.least h) else 0
theorem Zi{a b:α}(h:Ends f a)(e:f a=some b):left f b<left f a:=by
 have ai:=h.next e;unfold left;rw[dif_pos h,dif_pos ai];obtain⟨U,_⟩:=bXc h.least;obtain⟨_,g2⟩:=bXc ai.least;generalize Classical.choose h.least=n at*
 generalize Classical.choose ai.least=m at*
 cases n with
 | zero=>cases U
 | succ n=>
   rw[oT,e]at U;apply oa;intro aF;exact g2 n (by omega) U
theorem Zj{a:α}(h:¬Ends f a):∃st:Nat->α,st 0=a/\∀t,f (st t)=some (st (t+1)):=by
 have aG:∀(k:Nat) (a:α),oT f (k+1) a=(match oT f k a with | none=>none | some b=>f b):=by
  intro k
  induction k with
  | zero=>intro a;cases e:f a<;>simp[oT,e]
  | succ k ih=>
    intro a;rw[oT]
    cases e:f a with
    | none=>simp only[oT,e]
    | some b=>simp only;rw[ih b];simp only[oT,e]
 have JU:∀k,∃b,oT f k a=some b:=λk=>by
  cases e:oT f k a with
  | none=>exact absurd ⟨k,e⟩ h
  | some b=>exact⟨b,rfl⟩
 refine⟨λk=>Classical.choose (JU k),?_,λt=>?_⟩
 ·have:=bXc (JU 0);exact(bYd this).symm
 ·have U:=bXc (JU t);have aa:=bXc (JU (t+1));have aq:=aG t a;rw[U]at aq;exact aq.symm.trans aa
end
def uC(P:cr)(T:b8):Option Nat:=fX (λi=>decide (off P T.v (T.rows i)≠0)) T.rows P.m
def sP(P:cr)(T:b8)(a:Nat)(way:Int):Option Nat:=fX (λk=>decide (T.M a k≠0)&&can P T.v (T.aj k) (way*cT (T.M a k))) T.aj P.n
def goal(P:cr)(x:Nat)(way:Int):Rat:=if way<0 then(P.up x).getD 0 else(P.lo x).getD 0
def z'(P:cr)(T:b8)(a col:Nat):Rat:=(goal P (T.rows a) (off P T.v (T.rows a))-T.v (T.rows a))/T.M a col
def l2(P:cr)(T:b8)(a col:Nat):b8:=(T.iC P col (z' P T a col)).fy a col
def rO(P:cr)(T:b8):Option b8:=match uC P T with
 | none=>none
 | some a=>(match sP P T a (off P T.v (T.rows a)) with
   | none=>none
   | some col=>some (l2 P T a col))
def Aa(P:cr)(T:b8):Prop:=∀k,k<P.n->oS P T.v (T.aj k)
structure wA(P:cr)(T:b8)(a col:Nat):Prop where
 aN:a<P.m
 af:col<P.n
 off:off P T.v (T.rows a)≠0
 Qq:∀i,i<P.m->C.off P T.v (T.rows i)≠0->T.rows a<=T.rows i
 uD:T.M a col≠0
 can:can P T.v (T.aj col) (C.off P T.v (T.rows a)*cT (T.M a col))=true
 FM:∀k,k<P.n->T.M a k≠0->C.can P T.v (T.aj k) (C.off P T.v (T.rows a)*cT (T.M a k))=true->T.aj col<=T.aj k
theorem Zk{P:cr}{T dY:b8}(h:rO P T=some dY):∃a col,wA P T a col/\dY=l2 P T a col:=by
 unfold rO at h;split at h
 ·cases h
 ·rename_i a aN;split at h
  ·cases h
  ·rename_i col af;obtain⟨cx,a2,a3⟩:=zWd aN;obtain⟨cy,dd,dy⟩:=zWd af;simp only[cG,eh]at a2 a3 dd dy;exact⟨a,col,⟨cx,cy,a2,a3,dd.1,dd.2,λk ag U aa=>dy k ag ⟨U,aa⟩⟩,(bYd h).symm⟩
section
variable{P:cr}
theorem lq{q:Rat}(h:q≠0):(0<q/\cT q=1)∨(q<0/\cT q=-1):=by
 unfold cT;by_cases U:q<0
 ·exact .inr ⟨U,by simp[U]⟩
 ·exact .inl ⟨by grind,by simp[U,h]⟩
theorem ay7{x:Nat}{v w:Nat->Rat}{M:Rat}{way:Int}(dp:M≠0)(kn:way=1∨way=-1)(af:can P v x (way*cT M)=false)(hw:oS P w x):(way:Rat)*(M*(w x-v x))<=0:=by
 have JV:∀u,P.up x=some u->u<=v x->w x-v x<=0:=λu U aa=>by have:=hw.2 u U;grind
 have ey:∀l,P.lo x=some l->v x<=l->0<=w x-v x:=λu U aa=>by have:=hw.1 u U;grind
 rcases lq dp with⟨aD,e⟩ | ⟨aD,e⟩<;>rcases kn with rfl | rfl<;>rw[e]at af
 ·obtain⟨u,U,aa⟩:=JS (by decide) af;have:=JV u U aa;have:0<=M*(v x-w x):=jr (mO aD) (by grind);simp;grind
 ·obtain⟨u,U,aa⟩:=JT (by decide) af;have:=ey u U aa;have:0<=M*(w x-v x):=jr (mO aD) this;simp;grind
 ·obtain⟨u,U,aa⟩:=JT (by decide) af;have:=ey u U aa;have:0<=(-M)*(w x-v x):=jr (by grind) this;simp;grind
 ·obtain⟨u,U,aa⟩:=JS (by decide) af;have:=JV u U aa;have:0<=(-M)*(v x-w x):=jr (by grind) (by grind);simp;grind
theorem ay8{x:Nat}{v w:Nat->Rat}{M:Rat}{way:Int}(dp:M≠0)(kn:way=1∨way=-1)(au:off P w x≠0)(aw:v x=goal P x (off P w x))(af:can P v x (way*cT M)=true):(way:Rat)*(M*(w x-v x))<=0:=by
 unfold goal at aw
 rcases yj au with⟨ao,l,aO,U⟩ | ⟨ao,u,hu,U⟩
 ·rw[ao,aU (by decide),aO]at aw;simp only[bYc]at aw;have mX:w x-v x<0:=by grind
  have tH:¬(way*cT M=-1):=λh=>by
   have:=FL (by rw[h];decide) af l aO;grind
  rcases lq dp with⟨aD,e⟩ | ⟨aD,e⟩<;>rcases kn with rfl | rfl
  ·have:0<=M*(v x-w x):=jr (mO aD) (by grind);simp;grind
  ·exact absurd (by rw[e];rfl) tH
  ·exact absurd (by rw[e];rfl) tH
  ·have:0<=(-M)*(v x-w x):=jr (by grind) (by grind);simp;grind
 ·rw[ao,bm (by decide),hu]at aw;simp only[bYc]at aw;have nR:0<w x-v x:=by grind
  have tH:¬(way*cT M=1):=λh=>by
   have:=FK (by rw[h];decide) af u hu;grind
  rcases lq dp with⟨aD,e⟩ | ⟨aD,e⟩<;>rcases kn with rfl | rfl
  ·exact absurd (by rw[e];rfl) tH
  ·have:0<=M*(w x-v x):=jr (mO aD) (by grind);simp;grind
  ·have:0<=(-M)*(w x-v x):=jr (by grind) (by grind);simp;grind
  ·exact absurd (by rw[e];rfl) tH
theorem Ab{v:Nat->Rat}{x:Nat}(h:off P v x≠0):off P v x=1∨off P v x=-1:=(yj h).imp (·.1) (·.1)
theorem ay9{x:Nat}{v w:Nat->Rat}(au:off P v x≠0)(hw:oS P w x):0<(off P v x:Rat)*(w x-v x):=by
 rcases yj au with⟨ao,l,aO,U⟩ | ⟨ao,u,hu,U⟩
 ·rw[ao];have:=hw.1 l aO;simp;grind
 ·rw[ao];have:=hw.2 u hu;simp;grind
def FN(P:cr):Prop:=∀x l u,P.lo x=some l->P.up x=some u->l<=u
theorem aza(aG:FN P){v w:Nat->Rat}{x:Nat}(au:off P v x≠0)(hw:w x=goal P x (off P v x)):oS P w x:=by
 unfold goal at hw
 rcases yj au with⟨ao,l,aO,U⟩ | ⟨ao,u,hu,U⟩
 ·rw[ao,aU (by decide),aO]at hw;simp only[bYc]at hw;refine⟨λl' h=>?_,λu h=>?_⟩
  ·rw[aO]at h;cases h;rw[hw];exact k3
  ·rw[hw];exact aG x l u aO h
 ·rw[ao,bm (by decide),hu]at hw;simp only[bYc]at hw;refine⟨λl h=>?_,λk5 h=>?_⟩
  ·rw[hw];exact aG x l u h hu
  ·rw[hu]at h;cases h;rw[hw];exact k3
theorem Qr{T:b8}(h:Inv P T){a col:Nat}(g:wA P T a col):(l2 P T a col).v (T.rows a)=goal P (T.rows a) (off P T.v (T.rows a)):=by
 show(T.iC P col _).v (T.rows a)=_;rw[Qp h.bj g.af g.aN,z'];have:=g.uD;grind
theorem Zl{T:b8}(h:Inv P T){a col:Nat}(g:wA P T a col):Inv P (l2 P T a col):=(h.iC g.af _).fy g.aN g.af g.uD
theorem Zm(aG:FN P){T:b8}(h:Inv P T)(aF:Aa P T){a col:Nat}(g:wA P T a col):Aa P (l2 P T a col):=by
 intro k ag;show oS P (l2 P T a col).v (if k=col then T.rows a else T.aj k);by_cases e:k=col
 ·rw[bm e];exact aza aG g.off (Qr h g)
 ·rw[aU e];have:(l2 P T a col).v (T.aj k)=T.v (T.aj k):=by
   show(T.iC P col _).v (T.aj k)=_;rw[CQ h.bj g.af ag,aU e]
  obtain⟨U,aa⟩:=aF k ag;exact⟨λl aO=>by rw[this];exact U l aO,λl aO=>by rw[this];exact aa l aO⟩
structure Qs(P:cr)(st:Nat->b8)(a c:Nat->Nat)(L:Nat):Prop where
 go:∀t,t<L->wA P (st t) (a t) (c t)
 eF:∀t,t<L->st (t+1)=l2 P (st t) (a t) (c t)
 inv:∀t,t<=L->Inv P (st t)
 BP:∀t,t<=L->Aa P (st t)
def bas(P:cr)(T:b8)(x:Nat):Prop:=∃i,i<P.m/\T.rows i=x
theorem FO{T:b8}(h:fh P T){a col:Nat}(aN:a<P.m)(_af:col<P.n)(x:Nat):bas P (T.fy a col) x↔(x=T.aj col∨(bas P T x/\x≠T.rows a)):=by
 constructor
 ·rintro⟨i,hi,e⟩;have e:(if i=a then T.aj col else T.rows i)=x:=e;by_cases U:i=a
  ·rw[bm U]at e;exact .inl e.symm
  ·rw[aU U]at e;exact .inr ⟨⟨i,hi,e⟩,λaa=>U (h.qM i a hi aN (e.trans aa))⟩
 ·rintro(rfl | ⟨⟨i,hi,rfl⟩,aa⟩)
  ·exact⟨a,aN,by show(if a=a then _ else _)=_;rw[bm rfl]⟩
  ·exact⟨i,hi,by show(if i=a then _ else _)=_;rw[aU λe=>aa (by rw[e])]⟩
theorem Zn{T:b8}(h:fh P T){x:Nat}(az:x<P.n+P.m)(aF:¬bas P T x):∃k,k<P.n/\T.aj k=x:=(h.mE x az).resolve_left aF
theorem Qs.core{st:Nat->b8}{a c:Nat->Nat}{L:Nat}(R:Qs P st a c L)(s t r:Nat)(gz:s<t)(aS:t<L)(aO:(st s).rows (a s)=r)(he:(st t).aj (c t)=r)
 (hle:∀u,s<=u->u<=t->(st u).rows (a u)<=r/\(st u).aj (c u)<=r) (dr:∀u,s<u->u<t->(st u).aj (c u)≠r):False:=by
 have gs:=R.go s (by omega);have gt:=R.go t aS;have is:=R.inv s (by omega);have it:=R.inv t (by omega);have z1:r<P.n+P.m:=by rw[<-aO];exact is.bj.r _ gs.aN
 have bT:∀u,u<L->∀x,x<P.n+P.m->¬bas P (st u) x->x≠(st u).aj (c u)->¬bas P (st (u+1)) x/\(st (u+1)).v x=(st u).v x:=by
  intro u hu x az ai aF;have g:=R.go u hu;have i:=R.inv u (by omega);obtain⟨k,ag,rfl⟩:=Zn i.bj az ai;rw[R.eF u hu];refine⟨λh=>?_,?_⟩
  ·rcases(FO (T:=(st u).iC P (c u) _) ⟨i.bj.r,i.bj.c,i.bj.qM,i.bj.ci,i.bj.rc,i.bj.mE⟩ g.aN g.af _).1 h with h | ⟨h,_⟩
   ·exact aF h
   ·exact ai h
  ·show((st u).iC P (c u) _).v _=_;rw[CQ i.bj g.af ag,aU λe=>aF (by rw[e])]
 have an:∀d,s+1+d<=t->¬bas P (st (s+1+d)) r/\(st (s+1+d)).v r=goal P r (off P (st s).v r):=by
  intro d
  induction d with
  | zero=>
    intro _;have e:=R.eF s (by omega);refine⟨λh=>?_,?_⟩
    ·have h:bas P (st (s+1)) r:=h;rw[e]at h;rcases(FO (T:=(st s).iC P (c s) _) ⟨is.bj.r,is.bj.c,is.bj.qM,is.bj.ci,is.bj.rc,is.bj.mE⟩ gs.aN gs.af _).1 h with h | ⟨_,h⟩
     ·exact is.bj.rc _ _ gs.aN gs.af (aO.trans h)
     ·exact h aO.symm
    ·show(st (s+1)).v r=_;rw[e,<-aO];exact Qr is gs
  | succ d ih=>
    intro aB;obtain⟨i1,i2⟩:=ih (by omega);obtain⟨av,aI⟩:=bT (s+1+d) (by omega) r z1 i1 λe=>dr _ (by omega) (by omega) e.symm;exact⟨av,aI.trans i2⟩
 obtain⟨sQ,Ac⟩:=an (t-(s+1)) (by omega);rw[show s+1+(t-(s+1))=t by omega]at sQ Ac;have nQ:∀j,r<j->j<P.n+P.m->∀d,s+d<=t->(bas P (st (s+d)) j↔bas P (st s) j)/\(¬bas P (st s) j->(st (s+d)).v j=(st s).v j):=by
  intro j aH sR d
  induction d with
  | zero=>exact λ_=>⟨Iff.rfl,λ_=>rfl⟩
  | succ d ih=>
    intro aB;obtain⟨i1,i2⟩:=ih (by omega);obtain⟨bn,bh⟩:=hle (s+d) (by omega) (by omega);have g:=R.go (s+d) (by omega);have i:=R.inv (s+d) (by omega);have e:=R.eF (s+d) (by omega);have ai:bas P (st (s+d+1)) j↔bas P (st (s+d)) j:=by
     rw[e];refine(FO (T:=(st (s+d)).iC P (c (s+d)) _) ⟨i.bj.r,i.bj.c,i.bj.qM,i.bj.ci,i.bj.rc,i.bj.mE⟩ g.aN g.af _).trans ⟨λh=>?_,λh=>.inr ⟨h,?_⟩⟩
     ·rcases h with h | ⟨h,_⟩
      ·have:j=(st (s+d)).aj (c (s+d)):=h;omega
      ·exact h
     ·show j≠(st (s+d)).rows (a (s+d));omega
    refine⟨ai.trans i1,λaF=>?_⟩;exact(bT (s+d) (by omega) j sR (λh=>aF (i1.1 h)) (by omega)).2.trans (i2 aF)
 have Zo:∀j,j<r->oS P (st s).v j:=by
  intro j aH
  rcases is.bj.mE j (by omega) with⟨i,hi,e⟩ | ⟨k,ag,e⟩
  ·refine Zh (oa λau=>?_);have:=gs.Qq i hi (by rw[e];exact au);omega
  ·rw[<-e];exact R.BP s (by omega) k ag
 obtain⟨x,az⟩:=bZa ((st t).rows (a t));have wB:x<r:=by
  have U:=(hle t (by omega) (bR _)).1;have aa:x≠r:=λe=>sQ ⟨a t,gt.aN,az.symm.trans e⟩;omega
 have kn:=Ab gt.off;rw[<-az]at kn;have au:=gt.off;rw[<-az]at au;have nR:=ay9 au (Zo x wB);have ao:=(it.fJ _).1 it.val (a t) gt.aN;have e2:=(it.fJ _).1 is.val (a t) gt.aN;rw[<-az]at ao e2;have gk:(off P (st t).v x:Rat)*((st s).v x-(st t).v x)=bs (λk=>(off P (st t).v x:Rat)*((st t).M (a t) k*((st s).v ((st t).aj k)-(st t).v ((st t).aj k)))) P.n:=by
  rw[jl,ao,e2,<-ay4];congr 1;exact eB λk _=>by grind
 have aGw:bs (λk=>(off P (st t).v x:Rat)*((st t).M (a t) k*((st s).v ((st t).aj k)-(st t).v ((st t).aj k)))) P.n<=0:=by
  have aD:bs (λ_=>(0:Rat)) P.n=0:=rN λ_ _=>rfl;rw[<-aD];refine FH λk ag=>?_;by_cases dp:(st t).M (a t) k=0
  ·rw[dp];have:(off P (st t).v x:Rat)*(0*((st s).v ((st t).aj k)-(st t).v ((st t).aj k)))=0:=by grind
   rw[this];exact k3
  ·have sR:=it.bj.c k ag;by_cases aH:(st t).aj k=r
   ·have sN:k=c t:=it.bj.ci _ _ ag gt.af (aH.trans he.symm);have hk:=gt.can;rw[<-az,<-sN,aH]at hk;rw[aH];exact ay8 dp kn (by rw[<-aO];exact gs.off) Ac hk
   ·by_cases JW:r<(st t).aj k
    ·have hL:¬bas P (st t) ((st t).aj k):=λ⟨i,hi,e⟩=>it.bj.rc i k hi ag e;obtain⟨bn,bh⟩:=nQ _ JW sR (t-s) (by omega);rw[show s+(t-s)=t by omega]at bn bh;rw[bh λh=>hL (bn.2 h)];have:(off P (st t).v x:Rat)*((st t).M (a t) k*((st s).v ((st t).aj k)-(st s).v ((st t).aj k)))=0:=by grind
     rw[this];exact k3
    ·refine ay7 dp kn ?_ (Zo _ (by omega));rw[az]
     cases hk:can P (st t).v ((st t).aj k) (off P (st t).v ((st t).rows (a t))*cT ((st t).M (a t) k)) with
     | false=>rfl
     | true=>
       have:=gt.FM k ag dp hk;omega
 rw[gk]at nR;grind
theorem azb(aG:FN P){T:b8}(h:Inv P T)(aF:Aa P T):Ends (rO P) T:=by
 apply oa;intro dr;obtain⟨st,aD,gz⟩:=Zj dr;have rM:∀t,∃p:Nat×Nat,wA P (st t) p.1 p.2/\st (t+1)=l2 P (st t) p.1 p.2:=λt=>by
  obtain⟨a,c,U,aa⟩:=Zk (gz t);exact⟨(a,c),U,aa⟩
 have hinv:∀t,Inv P (st t)/\Aa P (st t):=by
  intro t
  induction t with
  | zero=>rw[aD];exact⟨h,aF⟩
  | succ t ih=>
    obtain⟨p,g,e⟩:=rM t;rw[e];exact⟨Zl ih.1 g,Zm aG ih.1 ih.2 g⟩
 have R:Qs P st (λt=>(Classical.choose (rM t)).1) (λt=>(Classical.choose (rM t)).2) (3^(P.n+P.m)):=
  ⟨λt _=>(bXc (rM t)).1,λt _=>(bXc (rM t)).2,λt _=>(hinv t).1,λt _=>(hinv t).2⟩
 refine Qm (bas:=λt x=>bas P (st t) x) (lv:=λt=>(st t).rows ((Classical.choose (rM t)).1)) (en:=λt=>(st t).aj ((Classical.choose (rM t)).2)) (λt aS x=>?_) (λt aS=>?_) (λs t r U aa aq a8 cg dj=>R.core s t r U aa aq a8 cg dj) (P.n+P.m) 0 (λu _ hu=>?_) (by omega)
 ·have g:=R.go t aS;have i:=(hinv t).1;have key:∀dY a dL,dY=l2 P (st t) a dL->wA P (st t) a dL->(bas P dY x↔(x=(st t).aj dL∨(bas P (st t) x/\x≠(st t).rows a))):=λdY a dL e g=>by
   rw[e];exact FO (T:=(st t).iC P _ _) ⟨i.bj.r,i.bj.c,i.bj.qM,i.bj.ci,i.bj.rc,i.bj.mE⟩ g.aN g.af x
  exact key _ _ _ (R.eF t aS) g
 ·have g:=R.go t aS;have i:=(hinv t).1;exact⟨⟨_,g.aN,rfl⟩,λ⟨j,aH,e⟩=>i.bj.rc j _ aH g.af e⟩
 ·have g:=R.go u (by omega);have i:=(hinv u).1;exact⟨i.bj.r _ g.aN,i.bj.c _ g.af⟩
end
def iD(P:cr)(c:Nat->Rat)(x:Nat):Rat:=if x<P.n then c x else 0
def red(P:cr)(c:Nat->Rat)(T:b8)(k:Nat):Rat:=iD P c (T.aj k)+bs (λi=>iD P c (T.rows i)*T.M i k) P.m
def obj(P:cr)(c:Nat->Rat)(z:Nat->Rat):Rat:=bs (λj=>c j*z j) P.n
def room(P:cr)(v:Nat->Rat)(x:Nat)(way:Int):Option Rat:=match (if 0<way then P.up x else none) with
 | some u=>some (u-v x)
 | none=>(match (if way<0 then P.lo x else none) with
   | some l=>some (v x-l)
   | none=>none)
def e4(q:Rat):Rat:=if q<0 then -q else q
structure jI where
 gH:Option Rat
 ind:Option Nat
 rP:Nat
def jI.add(f:jI)(q:Rat)(i x:Nat):jI:=match f.gH with
 | none=>⟨some q,some i,x⟩
 | some p=>if q<p∨(q=p/\x<f.rP) then⟨some q,some i,x⟩ else f
def fv(P:cr)(T:b8)(col:Nat)(way:Int):Nat->jI
 | 0=>⟨room P T.v (T.aj col) way,none,T.aj col⟩
 | i+1=>if T.M i col=0 then fv P T col way i else match room P T.v (T.rows i) (way*cT (T.M i col)) with
   | none=>fv P T col way i
   | some r=>(fv P T col way i).add (r/e4 (T.M i col)) i (T.rows i)
def enters(P:cr)(c:Nat->Rat)(T:b8):Option Nat:=fX (λk=>decide (red P c T k≠0)&&can P T.v (T.aj k) (-cT (red P c T k))) T.aj P.n
def gl(P:cr)(c:Nat->Rat)(T:b8)(col:Nat):Int:=-cT (red P c T col)
def l3(P:cr)(T:b8)(col:Nat)(way:Int)(q:Rat):Option Nat->b8
 | none=>T.iC P col (if way<0 then -q else q)
 | some a=>(T.iC P col (if way<0 then -q else q)).fy a col
def pE(P:cr)(c:Nat->Rat)(T:b8):Option b8:=match enters P c T with
 | none=>none
 | some col=>(match (fv P T col (gl P c T col) P.m).gH with
   | none=>none
   | some q=>some (l3 P T col (gl P c T col) q (fv P T col (gl P c T col) P.m).ind))
section
variable{P:cr}{c:Nat->Rat}{T:b8}
theorem FP(h:Inv P T){z:Nat->Rat}(bl:CP P z):obj P c z=bs (λk=>red P c T k*z (T.aj k)) P.n:=by
 have aG:=h.sum λx=>iD P c x*z x;have ao:bs (λx=>iD P c x*z x) P.n=obj P c z:=eB λj aH=>by simp[iD,aH]
 have e2:bs (λi=>iD P c (P.n+i)*z (P.n+i)) P.m=0:=rN λi _=>by
  have:¬P.n+i<P.n:=by omega
  simp[iD,this]
 rw[ao,e2]at aG;have bd:bs (λi=>iD P c (T.rows i)*z (T.rows i)) P.m=bs (λk=>bs (λi=>iD P c (T.rows i)*T.M i k) P.m*z (T.aj k)) P.n:=by
  have:bs (λi=>iD P c (T.rows i)*z (T.rows i)) P.m=bs (λi=>bs (λk=>iD P c (T.rows i)*T.M i k*z (T.aj k)) P.n) P.m:=eB λi hi=>by
   rw[(h.fJ z).1 bl i hi,<-jl];exact eB λk _=>by grind
  rw[this,FG];refine eB λk _=>?_;have:bs (λi=>iD P c (T.rows i)*T.M i k*z (T.aj k)) P.m=bs (λi=>z (T.aj k)*(iD P c (T.rows i)*T.M i k)) P.m:=eB λi _=>by grind
  rw[this,jl];grind
 rw[bd,<-pC]at aG;have b1:bs (λk=>iD P c (T.aj k)*z (T.aj k)+bs (λi=>iD P c (T.rows i)*T.M i k) P.m*z (T.aj k)) P.n=bs (λk=>red P c T k*z (T.aj k)) P.n:=eB λk _=>by
  unfold red;grind
 rw[b1]at aG;grind
theorem azc{a b:Rat}(aN:0<=a)(ai:0<b):0<=a/b:=by
 apply hA.1;intro h;have U:0<(-(a/b))*b:=Rat.mul_pos (by grind) ai;have:a/b*b=a:=by grind
 grind
theorem oU{q:Rat}(h:q≠0):0<e4 q:=by
 unfold e4;by_cases U:q<0
 ·rw[bm U];grind
 ·rw[aU U];grind
theorem FQ{v:Nat->Rat}{x:Nat}{r:Rat}(h:room P v x 1=some r):∃u,P.up x=some u/\r=u-v x:=by
 unfold room at h;simp only[show(0:Int)<1 by decide,if_true,show ¬((1:Int)<0) by decide,if_false]at h
 cases hu:P.up x with
 | none=>rw[hu]at h;simp at h
 | some u=>rw[hu]at h;simp only[a6]at h;exact⟨u,rfl,h.symm⟩
theorem FR{v:Nat->Rat}{x:Nat}{r:Rat}(h:room P v x (-1)=some r):∃l,P.lo x=some l/\r=v x-l:=by
 unfold room at h;simp only[show ¬((0:Int) < -1) by decide,if_false,show((-1:Int)<0) by decide,if_true]at h
 cases hu:P.lo x with
 | none=>rw[hu]at h;simp at h
 | some u=>rw[hu]at h;simp only[a6]at h;exact⟨u,rfl,h.symm⟩
theorem JX{v:Nat->Rat}{x:Nat}{u:Rat}(h:P.up x=some u):room P v x 1=some (u-v x):=by
 unfold room;simp[h]
theorem JY{v:Nat->Rat}{x:Nat}{l:Rat}(h:P.lo x=some l):room P v x (-1)=some (v x-l):=by
 unfold room;simp[h]
theorem Zp{v:Nat->Rat}{x:Nat}{w:Int}(hw:w=1∨w=-1)(az:oS P v x){r:Rat}(h:room P v x w=some r):0<=r:=by
 rcases hw with rfl | rfl
 ·obtain⟨u,U,rfl⟩:=FQ h;have:=az.2 u U;grind
 ·obtain⟨u,U,rfl⟩:=FR h;have:=az.1 u U;grind
structure JZ(P:cr)(T:b8)(col:Nat)(way:Int)(k:Nat)(f:jI):Prop where
 FT:f.gH=none->room P T.v (T.aj col) way=none/\∀i,i<k->T.M i col≠0->room P T.v (T.rows i) (way*cT (T.M i col))=none
 own:f.ind=none->f.gH=room P T.v (T.aj col) way/\f.rP=T.aj col
 row:∀a,f.ind=some a->a<k/\T.M a col≠0/\f.rP=T.rows a/\∃r,room P T.v (T.rows a) (way*cT (T.M a col))=some r/\f.gH=some (r/e4 (T.M a col))
 J0:∀q,f.gH=some q->∀r,room P T.v (T.aj col) way=some r->q<=r/\(q=r->f.rP<=T.aj col)
 min:∀q,f.gH=some q->∀i,i<k->T.M i col≠0->∀r,room P T.v (T.rows i) (way*cT (T.M i col))=some r->q<=r/e4 (T.M i col)/\(q=r/e4 (T.M i col)->f.rP<=T.rows i)
theorem J1(P:cr)(T:b8)(col:Nat)(way:Int):∀k,JZ P T col way k (fv P T col way k)
 | 0=>by
   refine⟨λh=>⟨h,λi hi=>absurd hi (od _)⟩,λ_=>⟨rfl,rfl⟩,λa h=>(by cases h),λq h r an=>?_,λq h i hi=>absurd hi (od _)⟩;have h:room P T.v (T.aj col) way=some q:=h;rw[h]at an;cases an;exact⟨k3,λ_=>bR _⟩
 | k+1=>by
   have ih:=J1 P T col way k;generalize bc:fv P T col way k=f at ih;have stay:(∀r,T.M k col≠0->room P T.v (T.rows k) (way*cT (T.M k col))=some r->∃q,f.gH=some q/\q<=r/e4 (T.M k col)/\(q=r/e4 (T.M k col)->f.rP<=T.rows k))->JZ P T col way (k+1) f:=λag=>by
    refine⟨λh=>⟨(ih.FT h).1,λi hi dp=>?_⟩,ih.own,λa aN=>?_,ih.J0,λq aV i hi dp r an=>?_⟩
    ·by_cases e:i=k
     ·subst e
      cases an:room P T.v (T.rows i) (way*cT (T.M i col)) with
      | none=>rfl
      | some r=>
        obtain⟨q,U,_⟩:=ag r dp an;rw[h]at U;cases U
     ·exact(ih.FT h).2 i (by omega) dp
    ·obtain⟨U,aa⟩:=ih.row a aN;exact⟨by omega,aa⟩
    ·by_cases e:i=k
     ·subst e;obtain⟨kv,U,aa⟩:=ag r dp an;rw[aV]at U;cases U;exact aa
     ·exact ih.min q aV i (by omega) dp r an
   rw[fv,bc];by_cases dp:T.M k col=0
   ·rw[bm dp];exact stay λr h _=>absurd dp h
   ·rw[aU dp]
    cases an:room P T.v (T.rows k) (way*cT (T.M k col)) with
    | none=>exact stay λr _ h=>by rw[an]at h;cases h
    | some r=>
      obtain⟨q,aV⟩:=bZa (r/e4 (T.M k col));simp only[<-aV];have take:(∀p,f.gH=some p->q<p∨(q=p/\T.rows k<f.rP))->JZ P T col way (k+1) ⟨some q,some k,T.rows k⟩:=λaC=>by
       refine⟨λh=>(by cases h),λh=>(by cases h),λa aN=>?_,λkv h r' oV=>?_,λkv h i hi Zq r' oV=>?_⟩
       ·cases aN;exact⟨by omega,dp,rfl,r,an,by rw[aV]⟩
       ·cases h
        cases e:f.gH with
        | none=>rw[(ih.FT e).1]at oV;cases oV
        | some p=>
          obtain⟨U,aa⟩:=ih.J0 p e r' oV
          rcases aC p e with aq | ⟨aq,a8⟩
          ·exact⟨by grind,λe2=>by grind⟩
          ·exact⟨by grind,λe2=>by have:=aa (by grind);show T.rows k<=_;omega⟩
       ·cases h;by_cases FU:i=k
        ·subst FU;rw[an]at oV;cases oV;rw[<-aV];exact⟨k3,λ_=>bR _⟩
        ·cases e:f.gH with
         | none=>rw[(ih.FT e).2 i (by omega) Zq]at oV;cases oV
         | some p=>
           obtain⟨U,aa⟩:=ih.min p e i (by omega) Zq r' oV
           rcases aC p e with aq | ⟨aq,a8⟩
           ·exact⟨by grind,λe2=>by grind⟩
           ·exact⟨by grind,λe2=>by have:=aa (by grind);show T.rows k<=_;omega⟩
      unfold jI.add
      cases e:f.gH with
      | none=>exact take λp h=>by rw[e]at h;cases h
      | some p=>
        simp only;by_cases af:q<p∨(q=p/\T.rows k<f.rP)
        ·rw[bm af];exact take λyk h=>by rw[e]at h;cases h;exact af
        ·rw[aU af];refine stay λr' _ h=>?_;rw[an]at h;cases h;rw[<-aV];refine⟨p,e,?_,λe2=>?_⟩
         ·apply oa;intro aF;exact af (.inl (Rat.not_le.1 aF))
         ·apply oa;intro aF;exact af (.inr ⟨e2.symm,by omega⟩)
structure kT(P:cr)(c:Nat->Rat)(T:b8)(col:Nat)(way:Int)(f:jI)(q:Rat):Prop where
 af:col<P.n
 d:red P c T col≠0
 yl:way=-cT (red P c T col)
 can:can P T.v (T.aj col) way=true
 FM:∀k,k<P.n->red P c T k≠0->C.can P T.v (T.aj k) (-cT (red P c T k))=true->T.aj col<=T.aj k
 ej:JZ P T col way P.m f
 gH:f.gH=some q
theorem Zr{dY:b8}(h:pE P c T=some dY):∃col way f q,kT P c T col way f q/\dY=l3 P T col way q f.ind:=by
 unfold pE at h;split at h
 ·cases h
 ·rename_i col af;split at h
  ·cases h
  ·rename_i q aV;obtain⟨cy,dd,dy⟩:=zWd af;simp only[cG,eh]at dd dy;exact⟨col,_,_,q,⟨cy,dd.1,rfl,dd.2,λk ag U aa=>dy k ag ⟨U,aa⟩,J1 P T col _ P.m,aV⟩,(bYd h).symm⟩
def uE(P:cr)(T:b8):Prop:=∀x,x<P.n+P.m->oS P T.v x
theorem kT.cS{col:Nat}{way:Int}{f:jI}{q:Rat}(g:kT P c T col way f q):way=1∨way=-1:=by
 rw[g.yl]
 rcases lq g.d with⟨_,e⟩ | ⟨_,e⟩<;>rw[e]<;>simp
theorem CR{way:Int}(hw:way=1∨way=-1){M:Rat}(dp:M≠0):(way*cT M=1/\(way:Rat)*M=e4 M)∨(way*cT M=-1/\(way:Rat)*M=-e4 M):=by
 unfold e4
 rcases lq dp with⟨aD,e⟩ | ⟨aD,e⟩<;>rcases hw with rfl | rfl<;>rw[e]
 ·left;rw[aU (by grind)];refine⟨by decide,?_⟩;simp;try grind
 ·right;rw[aU (by grind)];refine⟨by decide,?_⟩;simp;try grind
 ·right;rw[bm aD];refine⟨by decide,?_⟩;simp;try grind
 ·left;rw[bm aD];refine⟨by decide,?_⟩;simp;try grind
theorem J2{way:Int}(hw:way=1∨way=-1){M:Rat}(dp:M≠0):way*cT M=1∨way*cT M=-1:=(CR hw dp).imp (·.1) (·.1)
theorem Zs{way:Int}(hw:way=1∨way=-1)(q:Rat):(if way<0 then -q else q)=(way:Rat)*q:=by
 rcases hw with rfl | rfl
 ·simp
 ·simp;grind
theorem kT.hB(bc:uE P T)(h:fh P T){col:Nat}{way:Int}{f:jI}{q:Rat}(g:kT P c T col way f q):0<=q:=by
 cases aN:f.ind with
 | none=>
   have:=(g.ej.own aN).1;rw[g.gH]at this;exact Zp g.cS (bc _ (h.c _ g.af)) this.symm
 | some a=>
   obtain⟨U,aa,_,r,aq,a8⟩:=g.ej.row a aN;rw[g.gH]at a8;cases a8;have:=Zp (J2 g.cS aa) (bc _ (h.r _ U)) aq;exact azc this (oU aa)
theorem kT.FV(h:fh P T){col:Nat}{way:Int}{f:jI}{q:Rat}(g:kT P c T col way f q){k:Nat}(ag:k<P.n):(l3 P T col way q f.ind).v (T.aj k)=if k=col then T.v (T.aj k)+(way:Rat)*q else T.v (T.aj k):=by
 have:(l3 P T col way q f.ind).v=(T.iC P col (if way<0 then -q else q)).v:=by cases f.ind<;>rfl
 rw[this,CQ h g.af ag,Zs g.cS]
theorem kT.Zt(h:fh P T){col:Nat}{way:Int}{f:jI}{q:Rat}(g:kT P c T col way f q){i:Nat}(hi:i<P.m):(l3 P T col way q f.ind).v (T.rows i)=T.v (T.rows i)+(way:Rat)*T.M i col*q:=by
 have:(l3 P T col way q f.ind).v=(T.iC P col (if way<0 then -q else q)).v:=by cases f.ind<;>rfl
 rw[this,Qp h g.af hi,Zs g.cS];grind
theorem kT.inv(h:Inv P T){col:Nat}{way:Int}{f:jI}{q:Rat}(g:kT P c T col way f q):Inv P (l3 P T col way q f.ind):=by
 cases aN:f.ind with
 | none=>exact h.iC g.af _
 | some a=>
   obtain⟨U,aa,_⟩:=g.ej.row a aN;exact(h.iC g.af _).fy U g.af aa
theorem kT.Qt(h:Inv P T)(bc:uE P T){col:Nat}{way:Int}{f:jI}{q:Rat}(g:kT P c T col way f q):uE P (l3 P T col way q f.ind):=by
 have aV:=g.hB bc h.bj;intro x az
 rcases h.bj.mE x az with⟨i,hi,rfl⟩ | ⟨k,ag,rfl⟩
 ·have hw:=bc _ (h.bj.r i hi);unfold oS;rw[g.Zt h.bj hi];by_cases dp:T.M i col=0
  ·rw[dp];have:T.v (T.rows i)+(way:Rat)*0*q=T.v (T.rows i):=by grind
   rw[this];exact hw
  ·have aC:=oU dp;have Zu:0<=e4 (T.M i col)*q:=jr (mO aC) aV
   rcases CR g.cS dp with⟨ao,e2⟩ | ⟨ao,e2⟩<;>rw[e2]
   ·refine⟨λl aO=>by have:=hw.1 l aO;grind,λu hu=>?_⟩;have an:=JX (v:=T.v) hu;have:=(g.ej.min q g.gH i hi dp _ (by rw[ao];exact an)).1;have:e4 (T.M i col)*q<=e4 (T.M i col)*((u-T.v (T.rows i))/e4 (T.M i col)):=A8 this (mO aC);have e:e4 (T.M i col)*((u-T.v (T.rows i))/e4 (T.M i col))=u-T.v (T.rows i):=by
     have:e4 (T.M i col)≠0:=by grind
     grind
    grind
   ·refine⟨λl aO=>?_,λu hu=>by have:=hw.2 u hu;grind⟩;have an:=JY (v:=T.v) aO;have:=(g.ej.min q g.gH i hi dp _ (by rw[ao];exact an)).1;have:e4 (T.M i col)*q<=e4 (T.M i col)*((T.v (T.rows i)-l)/e4 (T.M i col)):=A8 this (mO aC);have e:e4 (T.M i col)*((T.v (T.rows i)-l)/e4 (T.M i col))=T.v (T.rows i)-l:=by
     have:e4 (T.M i col)≠0:=by grind
     grind
    grind
 ·have hw:=bc _ (h.bj.c k ag);unfold oS;rw[g.FV h.bj ag];by_cases e:k=col
  ·subst e;simp only[if_true]
   rcases g.cS with rfl | rfl
   ·refine⟨λl aO=>by have:=hw.1 l aO;simp;grind,λu hu=>?_⟩;have:=(g.ej.J0 q g.gH _ (JX hu)).1;simp;grind
   ·refine⟨λl aO=>?_,λu hu=>by have:=hw.2 u hu;simp;grind⟩;have:=(g.ej.J0 q g.gH _ (JY aO)).1;simp;grind
  ·simp only[e,if_false];exact hw
theorem kT.obj(h:Inv P T){col:Nat}{way:Int}{f:jI}{q:Rat}(g:kT P c T col way f q):C.obj P c (l3 P T col way q f.ind).v=C.obj P c T.v-e4 (red P c T col)*q:=by
 rw[FP h (g.inv h).val,FP h h.val,sO g.af,sO (f:=λk=>red P c T k*T.v (T.aj k)) g.af,g.FV h.bj g.af,bm rfl];have e:bs (λk=>if k=col then 0 else red P c T k*(l3 P T col way q f.ind).v (T.aj k)) P.n=bs (λk=>if k=col then 0 else red P c T k*T.v (T.aj k)) P.n:=eB λk ag=>by
  by_cases e:k=col
  ·simp[e]
  ·simp only[e,if_false,g.FV h.bj ag]
 rw[e];have:red P c T col*(way:Rat)=-e4 (red P c T col):=by
  rw[g.yl];unfold e4
  rcases lq g.d with⟨aD,e⟩ | ⟨aD,e⟩<;>rw[e]
  ·rw[aU (by grind)];simp;try grind
  ·rw[bm aD];simp;try grind
 grind
end
section
variable{P:cr}{c:Nat->Rat}
structure CS(P:cr)(c:Nat->Rat)(T:b8)(a col:Nat)(way:Int):Prop where
 aN:a<P.m
 af:col<P.n
 uD:T.M a col≠0
 d:red P c T col≠0
 yl:way=-cT (red P c T col)
 can:can P T.v (T.aj col) way=true
 FM:∀k,k<P.n->red P c T k≠0->C.can P T.v (T.aj k) (-cT (red P c T k))=true->T.aj col<=T.aj k
 zero:room P T.v (T.rows a) (way*cT (T.M a col))=some 0
 Qq:∀i,i<P.m->T.M i col≠0->room P T.v (T.rows i) (way*cT (T.M i col))=some 0->T.rows a<=T.rows i
theorem CS.cS{T:b8}{a col:Nat}{way:Int}(g:CS P c T a col way):way=1∨way=-1:=by
 rw[g.yl]
 rcases lq g.d with⟨_,e⟩ | ⟨_,e⟩<;>rw[e]<;>simp
theorem kT.azd{T:b8}{col:Nat}{way:Int}{f:jI}(g:kT P c T col way f 0):∃a,f.ind=some a/\CS P c T a col way:=by
 cases aN:f.ind with
 | none=>
   exfalso;have h:=(g.ej.own aN).1;rw[g.gH]at h;have hk:=g.can
   rcases g.cS with rfl | rfl
   ·obtain⟨u,U,aa⟩:=FQ h.symm;have:=FK (by decide) hk u U;grind
   ·obtain⟨u,U,aa⟩:=FR h.symm;have:=FL (by decide) hk u U;grind
 | some a=>
   obtain⟨U,aa,aq,r,a8,cg⟩:=g.ej.row a aN;rw[g.gH]at cg;have aC:=oU aa;have an:r=0:=by
    have:(0:Rat)=r/e4 (T.M a col):=bYd cg;have dj:e4 (T.M a col)≠0:=by grind
    grind
   refine⟨a,rfl,U,g.af,aa,g.d,g.yl,g.can,g.FM,by rw[a8,an],λi hi dp h=>?_⟩;have j4:=(g.ej.min 0 g.gH i hi dp 0 h).2 (by
    have:=oU dp;have:e4 (T.M i col)≠0:=by grind
    grind)
   rw[aq]at j4;exact j4
theorem Zv{v:Nat->Rat}{x:Nat}{w:Int}(hw:w=1∨w=-1)(h:room P v x w=some 0):(w=1/\P.up x=some (v x))∨(w=-1/\P.lo x=some (v x)):=by
 rcases hw with rfl | rfl
 ·obtain⟨u,U,aa⟩:=FQ h;have:u=v x:=by grind
  exact .inl ⟨rfl,by rw[U,this]⟩
 ·obtain⟨u,U,aa⟩:=FR h;have:u=v x:=by grind
  exact .inr ⟨rfl,by rw[U,this]⟩
def kU(P:cr)(T:b8)(col:Nat)(way:Int)(x:Nat):Rat:=if x=T.aj col then(way:Rat) else bs (λi=>if T.rows i=x then T.M i col*(way:Rat) else 0) P.m
theorem uF{T:b8}(h:fh P T){col:Nat}{way:Int}(af:col<P.n){k:Nat}(ag:k<P.n):kU P T col way (T.aj k)=if k=col then(way:Rat) else 0:=by
 unfold kU;by_cases e:k=col
 ·subst e;simp
 ·have:T.aj k≠T.aj col:=λe2=>e (h.ci k col ag af e2);rw[aU this,aU e,rN λi hi=>by rw[aU (h.rc i k hi ag)]]
theorem CT{T:b8}(h:fh P T){col:Nat}{way:Int}(af:col<P.n){i:Nat}(hi:i<P.m):kU P T col way (T.rows i)=T.M i col*(way:Rat):=by
 unfold kU;rw[aU (h.rc i col hi af),qL (j:=i) hi λj aH aF=>by rw[aU λe=>aF (h.qM j i aH hi e)],bm rfl]
theorem Qu{T:b8}(h:Inv P T){col:Nat}{way:Int}(af:col<P.n):CP P (kU P T col way):=(h.fJ _).2 λi hi=>by
 rw[CT h.bj af hi,qL (j:=col) af λk ag aF=>by rw[uF h.bj af ag,aU aF,bYn],uF h.bj af af,bm rfl]
theorem Zw{T:b8}(h:Inv P T){col:Nat}{way:Int}(af:col<P.n):obj P c (kU P T col way)=red P c T col*(way:Rat):=by
 rw[FP h (Qu h af),qL (j:=col) af λk ag aF=>by rw[uF h.bj af ag,aU aF,bYn],uF h.bj af af,bm rfl]
structure Qv(P:cr)(c:Nat->Rat)(st:Nat->b8)(a dL:Nat->Nat)(w:Nat->Int)(L:Nat)(v:Nat->Rat):Prop where
 go:∀t,t<L->CS P c (st t) (a t) (dL t) (w t)
 eF:∀t,t<L->(st (t+1)).rows=((st t).fy (a t) (dL t)).rows
 inv:∀t,t<=L->Inv P (st t)
 Qt:∀x,x<P.n+P.m->oS P v x
 val:∀t,t<=L->∀x,x<P.n+P.m->(st t).v x=v x
theorem J3{v w:Nat->Rat}{x:Nat}{s:Int}(h:v x=w x):can P v x s=can P w x s:=by simp only[can,h]
theorem aze{v w:Nat->Rat}{x:Nat}{s:Int}(h:v x=w x):room P v x s=room P w x s:=by simp only[room,h]
theorem Zx{T:b8}(h:fh P T){a col:Nat}(aN:a<P.m)(af:col<P.n){dY:b8}(e:dY.rows=(T.fy a col).rows)(x:Nat):bas P dY x↔(x=T.aj col∨(bas P T x/\x≠T.rows a)):=by
 rw[<-FO h aN af x];unfold bas;rw[e]
theorem Qv.core{st:Nat->b8}{a dL:Nat->Nat}{w:Nat->Int}{L:Nat}{v:Nat->Rat}(R:Qv P c st a dL w L v)(s t r:Nat)(gz:s<t)(aS:t<L)(aO:(st s).rows (a s)=r)(he:(st t).aj (dL t)=r)
 (hle:∀u,s<=u->u<=t->(st u).rows (a u)<=r/\(st u).aj (dL u)<=r):False:=by
 have gs:=R.go s (by omega);have gt:=R.go t aS;have is:=R.inv s (by omega);have it:=R.inv t (by omega);have hw:=gs.cS;have nQ:∀j,r<j->∀d,s+d<=t->(bas P (st (s+d)) j↔bas P (st s) j):=by
  intro j aH d
  induction d with
  | zero=>exact λ_=>Iff.rfl
  | succ d ih=>
    intro aB;obtain⟨bn,bh⟩:=hle (s+d) (by omega) (by omega);have g:=R.go (s+d) (by omega);have i:=R.inv (s+d) (by omega);refine((Zx i.bj g.aN g.af (R.eF (s+d) (by omega)) j).trans ⟨λh=>?_,λh=>.inr ⟨h,by omega⟩⟩).trans (ih (by omega))
    rcases h with h | ⟨h,_⟩
    ·omega
    ·exact h
 obtain⟨W,kg⟩:=bZa (kU P (st s) (dL s) (w s));have azf:CP P W:=kg▸Qu is gs.af;have U:obj P c W<0:=by
  rw[kg,Zw is gs.af,gs.yl]
  rcases lq gs.d with⟨aD,e⟩ | ⟨aD,e⟩<;>rw[e]
  ·simp;grind
  ·simp;grind
 rw[FP it azf]at U;have We:(st s).aj (dL s)<r:=by
  have:=(hle s (bR _) (by omega)).2;have aF:(st s).aj (dL s)≠r:=λe=>is.bj.rc _ _ gs.aN gs.af (aO.trans e.symm);omega
 have mF:=R.val s (by omega);have Qw:=R.val t (by omega);have z1:r<P.n+P.m:=by rw[<-aO];exact is.bj.r _ gs.aN
 have Zy:W r=(st s).M (a s) (dL s)*(w s:Rat):=by rw[kg,<-aO];exact CT is.bj gs.af gs.aN
 have sk:=CR hw gs.uD;have bl:=Zv (J2 hw gs.uD) gs.zero;rw[aO,mF r z1]at bl;refine absurd (ay5 (f:=λk=>red P c (st t) k*W ((st t).aj k)) gt.af (λk ag=>?_) ?_) (hA.2 (mO U))
 ·have sR:=it.bj.c k ag;by_cases aB:red P c (st t) k=0
  ·show 0<=red P c (st t) k*_;rw[aB,lE];exact k3
  by_cases aH:r<(st t).aj k
  ·have hL:¬bas P (st t) ((st t).aj k):=λ⟨i,hi,e⟩=>it.bj.rc i k hi ag e;have aa:=nQ _ aH (t-s) (by omega);rw[show s+(t-s)=t by omega]at aa;obtain⟨k',vz,bw⟩:=Zn is.bj sR λh=>hL (aa.2 h);have:W ((st t).aj k)=0:=by
    rw[kg,<-bw,uF is.bj gs.af vz,aU];rintro rfl;omega
   show 0<=_*W _;rw[this,bYn];exact k3
  ·by_cases JW:(st t).aj k=r
   ·have sN:k=dL t:=it.bj.ci _ _ ag gt.af (JW.trans he.symm);have hk:=gt.can;rw[he,gt.yl,<-sN]at hk;rw[J3 (Qw r z1)]at hk;show 0<=red P c (st t) k*W ((st t).aj k);rw[JW,Zy,bWL ((st s).M (a s) (dL s))]
    rcases lq aB with⟨aD,e⟩ | ⟨aD,e⟩<;>rw[e]at hk<;>rcases sk with⟨s1,s2⟩ | ⟨s1,s2⟩<;>rw[s1]at bl
    ·have:=jr (mO aD) (mO (oU gs.uD));rw[s2];grind
    ·rcases bl with⟨z,_⟩ | ⟨_,z⟩
     ·cases z
     ·have:=FL (by decide) hk _ z;exact absurd this bXs
    ·rcases bl with⟨_,z⟩ | ⟨z,_⟩
     ·have:=FK (by decide) hk _ z;exact absurd this bXs
     ·cases z
    ·have aq:0<=-red P c (st t) k:=by grind
     have:=jr aq (mO (oU gs.uD));rw[s2];grind
   ·have azg:(st t).aj k<r:=by omega
    have tA:can P (st t).v ((st t).aj k) (-cT (red P c (st t) k))=false:=by
     cases hk:can P (st t).v ((st t).aj k) (-cT (red P c (st t) k)) with
     | false=>rfl
     | true=>have:=gt.FM k ag aB hk;omega
    rw[J3 (Qw _ sR)]at tA;obtain⟨j,Zz⟩:=bZa ((st t).aj k);rw[<-Zz]at tA azg sR;show 0<=red P c (st t) k*W ((st t).aj k);rw[<-Zz];have key:∀(σ:Int),(σ=1∨σ=-1)->room P v j σ=some 0->(σ:Rat)*W j<=0:=by
     intro σ lP ym
     rcases is.bj.mE j sR with⟨i,hi,FU⟩ | ⟨k',vz,Qx⟩
     ·have CU:W j=(st s).M i (dL s)*(w s:Rat):=by rw[kg,<-FU];exact CT is.bj gs.af hi
      by_cases dp:(st s).M i (dL s)=0
      ·rw[CU,dp,lE,bYn];exact k3
      ·have EV:w s*cT ((st s).M i (dL s))≠σ:=λe=>by
        have:=gs.Qq i hi dp (by rw[FU,e,aze (mF j sR)];exact ym);rw[aO,FU]at this;omega
       have aC:=oU dp;rw[CU]
       rcases CR hw dp with⟨s1,s2⟩ | ⟨s1,s2⟩<;>rw[s1]at EV<;>rcases lP with rfl | rfl
       ·exact absurd rfl EV
       ·simp;grind
       ·simp;grind
       ·exact absurd rfl EV
     ·by_cases sN:k'=dL s
      ·have CU:W j=(w s:Rat):=by rw[kg,<-Qx,uF is.bj gs.af vz,bm sN]
       have hk:=gs.can;rw[<-sN,Qx,J3 (mF j sR)]at hk;have azh:=Zv lP ym;rw[CU]
       rcases hw with eo | eo<;>rw[eo]at hk|-<;>rcases azh with⟨rfl,z⟩ | ⟨rfl,z⟩
       ·exact absurd (FK (by decide) hk _ z) bXs
       ·simp;grind
       ·simp;grind
       ·exact absurd (FL (by decide) hk _ z) bXs
      ·have CU:W j=0:=by rw[kg,<-Qx,uF is.bj gs.af vz,aU sN]
       rw[CU,bYn];exact k3
    have ZA:=R.Qt j sR
    rcases lq aB with⟨aD,e⟩ | ⟨aD,e⟩<;>rw[e]at tA
    ·obtain⟨l,ck,cJ⟩:=JT (by decide) tA;have eT:=ZA.1 l ck;have:=key (-1) (.inr rfl) (by rw[JY ck];congr 1;grind);have a8:0<=W j:=by simp at this;grind
     exact jr (mO aD) a8
    ·obtain⟨l,ck,cJ⟩:=JS (by decide) tA;have eT:=ZA.2 l ck;have:=key 1 (.inl rfl) (by rw[JX ck];congr 1;grind);have a8:0<=-W j:=by simp at this;grind
     have cg:0<=-red P c (st t) k:=by grind
     have:=jr cg a8;grind
 ·have hk:=gt.can;rw[he,gt.yl]at hk;rw[J3 (Qw r z1)]at hk;show 0<red P c (st t) (dL t)*W ((st t).aj (dL t));rw[he,Zy,bWL ((st s).M (a s) (dL s))]
  rcases lq gt.d with⟨aD,e⟩ | ⟨aD,e⟩<;>rw[e]at hk<;>rcases sk with⟨s1,s2⟩ | ⟨s1,s2⟩<;>rw[s1]at bl
  ·have:=Rat.mul_pos aD (oU gs.uD);rw[s2];grind
  ·rcases bl with⟨z,_⟩ | ⟨_,z⟩
   ·cases z
   ·exact absurd (FL (by decide) hk _ z) bXs
  ·rcases bl with⟨_,z⟩ | ⟨z,_⟩
   ·exact absurd (FK (by decide) hk _ z) bXs
   ·cases z
  ·have aq:0 < -red P c (st t) (dL t):=by grind
   have:=Rat.mul_pos aq (oU gs.uD);rw[s2];grind
def cP(B:Nat)(q:Rat):Prop:=q.num.natAbs<=B/\q.den<=B
theorem Ad(q:Rat):q*(q.den:Rat)=(q.num:Rat):=by
 have h:=Rat.num_divInt_den q;rw[Rat.divInt_eq_div]at h;have aB:(q.den:Rat)≠0:=by
  intro e;have:q.den=0:=by exact_mod_cast e
  exact q.den_nz this
 have e:((q.den:Int):Rat)=(q.den:Rat):=q3 _;rw[e]at h;grind
theorem azi{B:Nat}{p q:Rat}(aC:cP B p)(aV:cP B q)(h:p<q):1<=(q-p)*((B:Rat)*B):=by
 have qo:(0:Rat)<p.den:=by exact_mod_cast p.den_pos
 have ru:(0:Rat)<q.den:=by exact_mod_cast q.den_pos
 have Qy:p*p.den=p.num:=Ad p;have azj:q*q.den=q.num:=Ad q;have U:0<(q-p)*((p.den:Rat)*q.den):=Rat.mul_pos (by grind) (Rat.mul_pos qo ru);have e:(q-p)*((p.den:Rat)*q.den)=((q.num*p.den-p.num*q.den:Int):Rat):=by
  simp only[Rat.intCast_sub,bVh,<-Qy,<-azj,q3];grind
 rw[e]at U;have aa:0<q.num*p.den-p.num*q.den:=by exact_mod_cast U
 have aq:(1:Rat)<=((q.num*p.den-p.num*q.den:Int):Rat):=by exact_mod_cast aa
 rw[<-e]at aq;have azk:(p.den:Rat)<=B:=by exact_mod_cast aC.2
 have azl:(q.den:Rat)<=B:=by exact_mod_cast aV.2
 have a8:(p.den:Rat)*q.den<=(B:Rat)*B:=by
  have cx:=bUO azk (mO ru);have dC:(0:Rat)<=B:=by grind
  have a2:=A8 azl dC;grind
 have cg:=A8 a8 (show(0:Rat)<=q-p by grind);grind
theorem ZB{B:Nat}{p:Rat}(aC:cP B p):-(B:Rat)<=p/\p<=B:=by
 have qo:(1:Rat)<=p.den:=by exact_mod_cast p.den_pos
 have Qy:p*p.den=p.num:=Ad p;have U:-(B:Int)<=p.num/\p.num<=B:=by have:=aC.1;omega
 have aa:-(B:Rat)<=p.num:=by
  have h:((-(B:Int):Int):Rat)<=p.num:=by exact_mod_cast U.1
  rwa [Rat.intCast_neg,q3]at h
 have aq:(p.num:Rat)<=B:=by exact_mod_cast U.2
 rw[<-Qy]at aa aq;have dC:(0:Rat)<=B:=by exact_mod_cast Nat.zero_le B
 constructor
 ·apply hA.1;intro h;have a8:p<0:=by grind
  have:=A8 qo (show(0:Rat)<=-p by grind);grind
 ·apply hA.1;intro h;have a8:0<p:=by grind
  have:=A8 qo (mO a8);grind
theorem ZC{T:b8}{col:Nat}{q:Rat}(aV:q=0):∀k x,iT T col q k x=T.v x
 | 0,x=>by
   show(if x=T.aj col then _ else _)=_;subst aV;split<;>grind
 | k+1,x=>by
   show(if x=T.rows k then iT T col q k x+T.M k col*q else iT T col q k x)=_;rw[ZC aV k x,aV];split<;>grind
theorem azm(G:b8->Prop)(bA:∀T dY,G T->pE P c T=some dY->G dY)(hi:∀T,G T->Inv P T/\uE P T){B:Nat}(dC:∀T,G T->cP B (obj P c T.v)){T:b8}(bK:G T):Ends (pE P c) T:=by
 apply oa;intro dr;obtain⟨st,aD,gz⟩:=Zj dr;have aK:∀t,G (st t):=by
  intro t
  induction t with
  | zero=>rw[aD];exact bK
  | succ t ih=>exact bA _ _ ih (gz t)
 have lM:∀t,∃p:Nat×Int×jI×Rat,kT P c (st t) p.1 p.2.1 p.2.2.1 p.2.2.2/\st (t+1)=l3 P (st t) p.1 p.2.1 p.2.2.2 p.2.2.1.ind:=λt=>by
  obtain⟨col,way,f,q,U,aa⟩:=Zr (gz t);exact⟨(col,way,f,q),U,aa⟩
 have BI:∀t,obj P c (st (t+1)).v<=obj P c (st t).v:=λt=>by
  obtain⟨p,g,e⟩:=lM t;obtain⟨i1,i2⟩:=hi _ (aK t);rw[e,g.obj i1];have:=jr (mO (oU g.d)) (g.hB i2 i1.bj);grind
 have azn:∀d t,obj P c (st (t+d)).v<=obj P c (st t).v:=by
  intro d
  induction d with
  | zero=>exact λt=>k3
  | succ d ih=>exact λt=>Rat.le_trans (BI (t+d)) (ih t)
 have Bp:∀t,∃u,t<=u/\obj P c (st (u+1)).v<obj P c (st u).v:=by
  intro t;apply oa;intro aF;have aV:∀u,t<=u->∃p:Nat×Nat×Int,CS P c (st u) p.1 p.2.1 p.2.2/\(st (u+1)).rows=((st u).fy p.1 p.2.1).rows/\∀x,(st (u+1)).v x=(st u).v x:=λu hu=>by
   obtain⟨⟨col,way,f,q⟩,g,e⟩:=lM u;simp only at g e;obtain⟨i1,i2⟩:=hi _ (aK u);have sS:=g.hB i2 i1.bj;have bl:q=0:=by
    apply oa;intro dr;apply aF;refine⟨u,hu,?_⟩;rw[e,g.obj i1];have:=Rat.mul_pos (oU g.d) (show 0<q by grind);grind
   subst bl;obtain⟨a,aN,aB⟩:=g.azd;rw[aN]at e;refine⟨(a,col,way),aB,by rw[e];rfl,λx=>?_⟩;rw[e];show iT (st u) col (if way<0 then -0 else 0) P.m x=_;exact ZC (by split<;>grind) _ _
  have ju:∀d,∃p:Nat×Nat×Int,CS P c (st (t+d)) p.1 p.2.1 p.2.2/\(st (t+d+1)).rows=((st (t+d)).fy p.1 p.2.1).rows/\∀x,(st (t+d+1)).v x=(st (t+d)).v x:=λd=>aV (t+d) (by omega);have mq:∀d,∀x,(st (t+d)).v x=(st t).v x:=by
   intro d
   induction d with
   | zero=>exact λx=>rfl
   | succ d ih=>exact λx=>((bXc (ju d)).2.2 x).trans (ih x)
  have R:Qv P c (λd=>st (t+d)) (λd=>(Classical.choose (ju d)).1) (λd=>(Classical.choose (ju d)).2.1) (λd=>(Classical.choose (ju d)).2.2) (3^(P.n+P.m)) (st t).v:=
   ⟨λd _=>(bXc (ju d)).1,λd _=>(bXc (ju d)).2.1,λd _=>(hi _ (aK _)).1,(hi _ (aK t)).2,λd _ x _=>mq d x⟩
  refine Qm (bas:=λd x=>bas P (st (t+d)) x) (lv:=λd=>(st (t+d)).rows ((Classical.choose (ju d)).1)) (en:=λd=>(st (t+d)).aj ((Classical.choose (ju d)).2.1)) (λd aB x=>?_) (λd aB=>?_) (λs u r U aa aq a8 cg _=>R.core s u r U aa aq a8 cg) (P.n+P.m) 0 (λd _ aB=>?_) (by omega)
  ·have g:=R.go d aB;exact Zx (hi _ (aK _)).1.bj g.aN g.af (R.eF d aB) x
  ·have g:=R.go d aB;have i:=(hi _ (aK (t+d))).1;exact⟨⟨_,g.aN,rfl⟩,λ⟨j,aH,e⟩=>i.bj.rc j _ aH g.af e⟩
  ·have g:=R.go d (by omega);have i:=(hi _ (aK (t+d))).1;exact⟨i.bj.r _ g.aN,i.bj.c _ g.af⟩
 have iE:∀K:Nat,∃t,(K:Rat)<=(obj P c (st 0).v-obj P c (st t).v)*((B:Rat)*B):=by
  intro K
  induction K with
  | zero=>exact⟨0,by simp;grind⟩
  | succ K ih=>
    obtain⟨t,h⟩:=ih;obtain⟨u,U,aa⟩:=Bp t;have aq:=azn (u-t) t;rw[show t+(u-t)=u by omega]at aq;have a8:=azi (dC _ (aK (u+1))) (dC _ (aK u)) aa;have Qz:(0:Rat)<=(B:Rat)*B:=by
     have dC:(0:Rat)<=B:=by exact_mod_cast Nat.zero_le B
     exact jr dC dC
    have cg:=bUO aq Qz;refine⟨u+1,?_⟩;have:((K+1:Nat):Rat)=(K:Rat)+1:=by simp
    rw[this];grind
 obtain⟨t,h⟩:=iE (2*B*(B*B)+1);obtain⟨cR,b9⟩:=ZB (dC _ (aK 0));obtain⟨fK,rQ⟩:=ZB (dC _ (aK t));have Qz:(0:Rat)<=(B:Rat)*B:=by
  have dC:(0:Rat)<=B:=by exact_mod_cast Nat.zero_le B
  exact jr dC dC
 have cg:=bUO (show obj P c (st 0).v-obj P c (st t).v<=2*(B:Rat) by grind) Qz;have e:((2*B*(B*B)+1:Nat):Rat)=2*(B:Rat)*((B:Rat)*B)+1:=by simp
 rw[e]at h;grind
end
def ko(j l:Nat):Rat:=if j<l then 1 else if l<j then -1 else 0
theorem azo(j l:Nat):ko l j=-ko j l:=by
 unfold ko;by_cases U:j<l
 ·rw[aU (by omega),bm U,bm U]
 ·by_cases aa:l<j
  ·rw[bm aa,aU U,bm aa];grind
  ·rw[aU aa,aU U,aU U,aU aa];grind
def fZ(n:Nat):List (Nat->Rat)->(Nat->Rat)->Rat
 | [],_=>1
 | r::rs,w=>bs (λj=>r j*w j*fZ n rs (λl=>w l*ko j l)) n
section
variable{n:Nat}
theorem azp(r s:Nat->Rat)(B:List (Nat->Rat))(w:Nat->Rat):fZ n (r::s::B) w=-fZ n (s::r::B) w:=by
 have ex:∀(r s:Nat->Rat),fZ n (r::s::B) w=bs (λj=>bs (λl=>r j*s l*(w j*w l*ko j l*fZ n B (λx=>w x*ko j x*ko l x))) n) n:=λr s=>by
  simp only[fZ];refine eB λj _=>?_;rw[<-jl];exact eB λl _=>by grind
 rw[ex,ex,FG];have:∀(f:Nat->Rat) (N:Nat),-bs f N=bs (λi=>-f i) N:=λf N=>by
  have:=jl (-1) f N;rw[show(λi=>-f i)=λi=>(-1)*f i from funext λi=>by grind,this];grind
 rw[this];refine eB λj _=>?_;rw[this];refine eB λl _=>?_;have e:(λx=>w x*ko l x*ko j x)=λx=>w x*ko j x*ko l x:=funext λx=>by grind
 rw[e,azo j l];grind
theorem QA(r s:Nat->Rat)(B:List (Nat->Rat)):∀(A:List (Nat->Rat)) (w:Nat->Rat),fZ n (A++r::s::B) w=-fZ n (A++s::r::B) w
 | [],w=>azp r s B w
 | a::A,w=>by
   simp only[bYx,fZ];have:=jl (-1) (λj=>a j*w j*fZ n (A++s::r::B) (λl=>w l*ko j l)) n;have e:bs (λj=>a j*w j*fZ n (A++r::s::B) (λl=>w l*ko j l)) n=bs (λj=>(-1)*(a j*w j*fZ n (A++s::r::B) (λl=>w l*ko j l))) n:=eB λj _=>by
    rw[QA r s B A];grind
   rw[e,this];grind
theorem QB(r:Nat->Rat)(w:Nat->Rat):∀(B A:List (Nat->Rat)),r∈B->fZ n (A++r::B) w=0
 | [],_,h=>by cases h
 | s::B,A,h=>by
   by_cases e:r=s
   ·subst e;have:=QA (n:=n) r r B A w;grind
   ·have dC:r∈B:=by
     rcases lD.1 h with h | h
     ·exact absurd h e
     ·exact h
    rw[QA];have:=QB r w B (A++[s]) dC;rw[bWh]at this;have e2:A++([s]++r::B)=A++s::r::B:=rfl;rw[e2]at this;rw[this];grind
theorem azq(r:Nat->Rat)(w:Nat->Rat){A B:List (Nat->Rat)}(h:r∈A∨r∈B):fZ n (A++r::B) w=0:=by
 rcases h with h | h
 ·obtain⟨fL,fV,rfl⟩:=List.append_of_mem h;rw[bWh];exact QB r w (fV++r::B) fL (List.mem_append_right _ (.head _))
 ·exact QB r w B A h
theorem QC:∀{A A':List (Nat->Rat)} (w:Nat->Rat),A.length=A'.length->(∀(i:Nat) (r r':Nat->Rat),A[i]? = some r->A'[i]? = some r'->∀j,j<n->r j=r' j)->fZ n A w=fZ n A' w
 | [],[],_,_,_=>rfl
 | r::A,r'::A',w,aO,h=>by
   simp only[fZ];refine eB λj aH=>?_;rw[h 0 r r' rfl rfl j aH,QC (λl=>w l*ko j l) (by simpa using aO) λi a a' e bw=>h (i+1) a a' (by simpa using e) (by simpa using bw)]
 | [],_::_,_,aO,_=>by simp at aO
 | _::_,[],_,aO,_=>by simp at aO
theorem QD(a b:Rat)(r s:Nat->Rat)(B:List (Nat->Rat)):∀(A:List (Nat->Rat)) (w:Nat->Rat),fZ n (A++(λj=>a*r j+b*s j)::B) w=a*fZ n (A++r::B) w+b*fZ n (A++s::B) w
 | [],w=>by
   simp only[bVo,fZ];rw[<-jl,<-jl,<-pC];exact eB λj _=>by grind
 | c::A,w=>by
   simp only[bYx,fZ];rw[<-jl,<-jl,<-pC];refine eB λj _=>?_;rw[QD a b r s B A];grind
theorem ZD(f:Nat->Nat->Rat)(m:Nat->Rat)(A B:List (Nat->Rat))(w:Nat->Rat):∀N,fZ n (A++(λj=>bs (λi=>m i*f i j) N)::B) w=bs (λi=>m i*fZ n (A++f i::B) w) N
 | 0=>by
   have:=QD (n:=n) 0 0 (λ_=>0) (λ_=>0) B A w;have e:(λj=>bs (λi=>m i*f i j) 0)=λj=>(0:Rat)*(λ_=>(0:Rat)) j+0*(λ_=>(0:Rat)) j:=by
    funext j;simp[bs,bYG]
   rw[e,this];simp only[bs];grind
 | N+1=>by
   have e:(λj=>bs (λi=>m i*f i j) (N+1))=λj=>1*(λj=>bs (λi=>m i*f i j) N) j+m N*f N j:=by
    funext j;simp only[bs];grind
   rw[e,QD,ZD f m A B w N];simp only[bs];grind
theorem azr{N:Nat}{C:Nat->Nat->Rat}{g m:Nat->Rat}(aK:∀j,j<n->g j=bs (λk=>m k*C k j) N){k:Nat}(ag:k<N)(w:Nat->Rat):
 fZ n (((List.range N).map C).take k++g::((List.range N).map C).drop (k+1)) w=m k*fZ n ((List.range N).map C) w:=by
 have ao:fZ n (((List.range N).map C).take k++g::((List.range N).map C).drop (k+1)) w=fZ n (((List.range N).map C).take k++(λj=>bs (λi=>m i*C i j) N)::((List.range N).map C).drop (k+1)) w:=by
  refine QC w (by simp) λi r r' h gJ j aH=>?_;have aO:(((List.range N).map C).take k).length=k:=by simp;omega
  by_cases hi:i<k
  ·rw[lB (by omega)]at h gJ;rw[h]at gJ;cases gJ;rfl
  ·rw[lA (by omega),aO]at h gJ;by_cases JP:i=k
   ·subst JP;simp at h gJ;subst h gJ;exact aK j aH
   ·obtain⟨d,aB⟩:∃d,i-k=d+1:=⟨i-k-1,by omega⟩;rw[aB]at h gJ;simp only[bYO]at h gJ;rw[h]at gJ;cases gJ;rfl
 rw[ao,ZD,qL (j:=k) ag λi hi aF=>?_]
 ·congr 1;have:((List.range N).map C).take k++C k::((List.range N).map C).drop (k+1)=(List.range N).map C:=by
   have h:((List.range N).map C)[k]'(by simpa using ag)=C k:=by simp
   rw[<-h,<-List.drop_eq_getElem_cons,bVf]
  rw[this]
 ·rw[azq (C i) w,bYn];have J4:∀(l:List (Nat->Rat)) (q:Nat),l[q]? = some (C i)->C i∈l:=λl q h=>fR h;by_cases h:i<k
  ·refine .inl (J4 _ i ?_);rw[pT h];simp[hi]
  ·refine .inr (J4 _ (i-(k+1)) ?_);rw[o',show k+1+(i-(k+1))=i by omega];simp[hi]
theorem azs{N:Nat}{C J5:Nat->Nat->Rat}{g:Nat->Rat}{k:Nat}(ag:k<N)(h:∀i,i<N->J5 i=if i=k then g else C i)(_w:Nat->Rat):(List.range N).map J5=((List.range N).map C).take k++g::((List.range N).map C).drop (k+1):=by
 apply bYQ;intro i;have aO:(((List.range N).map C).take k).length=k:=by simp;omega
 by_cases hi:i<N
 ·have e:((List.range N).map J5)[i]? = some (J5 i):=by simp[hi]
  rw[e,h i hi];by_cases U:i<k
  ·rw[aU (by omega),lB (by omega),pT U];simp[hi]
  ·rw[lA (by omega),aO];by_cases aa:i=k
   ·subst aa;simp
   ·obtain⟨d,aB⟩:∃d,i-k=d+1:=⟨i-k-1,by omega⟩;rw[aB,aU aa,bYO,o',show k+1+d=i by omega];simp[hi]
 ·rw[jq (by simp;omega),jq (by simp;omega)]
def fz(q:Rat)(b:Nat):Prop:=∃z:Int,q=z/\z.natAbs<=b
theorem fz.mono{q:Rat}{a b:Nat}(h:fz q a)(nQ:a<=b):fz q b:=let ⟨z,U,aa⟩:=h;⟨z,U,bH aa nQ⟩
theorem fz.add{p q:Rat}{a b:Nat}(h:fz p a)(g:fz q b):fz (p+q) (a+b):=by
 obtain⟨x,rfl,U⟩:=h;obtain⟨y,rfl,aa⟩:=g;exact⟨x+y,by simp[Rat.intCast_add],bH (Int.natAbs_add_le _ _) (by omega)⟩
theorem fz.mul{p q:Rat}{a b:Nat}(h:fz p a)(g:fz q b):fz (p*q) (a*b):=by
 obtain⟨x,rfl,U⟩:=h;obtain⟨y,rfl,aa⟩:=g;exact⟨x*y,by simp,by rw[bXq];exact ie U aa⟩
theorem fz.sum{f:Nat->Rat}{b:Nat}:∀{n:Nat},(∀i,i<n->fz (f i) b)->fz (bs f n) (n*b)
 | 0,_=>⟨0,by simp[bs],by simp⟩
 | n+1,h=>by
   rw[bs,bZW];exact(fz.sum λi hi=>h i (by omega)).add (h n (by omega))
theorem azt(j l:Nat):fz (ko j l) 1:=by
 unfold ko;by_cases U:j<l
 ·rw[bm U];exact⟨1,by simp,by decide⟩
 ·by_cases aa:l<j
  ·rw[aU U,bm aa];exact⟨-1,by simp,by decide⟩
  ·rw[aU U,aU aa];exact⟨0,by simp,by decide⟩
theorem QE{E:Nat}:∀{A:List (Nat->Rat)} {w:Nat->Rat},(∀r∈A,∀j,j<n->fz (r j) E)->(∀j,fz (w j) 1)->fz (fZ n A w) ((n*E)^A.length)
 | [],_,_,_=>⟨1,by simp[fZ],by simp⟩
 | r::A,w,h,hw=>by
   simp only[fZ,bZN,bZm];have:=fz.sum (f:=λj=>r j*w j*fZ n A (λl=>w l*ko j l)) (b:=E*1*(n*E)^A.length) (n:=n) λj aH=>
    ((h r (.head _) j aH).mul (hw j)).mul (QE (λr an=>h r (.tail _ an)) λl=>(hw l).mul (azt j l))
   refine this.mono (Nat.le_of_eq ?_);rw[Nat.mul_one,<-og,gw]
theorem FW{q p r:Rat}{a b B:Nat}(h:q*r=p)(aC:fz p a)(an:fz r b)(aD:r≠0)(aN:a<=B)(ai:b<=B):cP B q:=by
 obtain⟨x,rfl,U⟩:=aC;obtain⟨y,rfl,aa⟩:=an;have bu:y≠0:=by rintro rfl;exact aD (by simp)
 have e:q.num*y=x*q.den:=by
  have U:((q.num*y:Int):Rat)=((x*(q.den:Int):Int):Rat):=by
   rw[bVh,bVh,<-Ad q,q3];grind
  exact_mod_cast U
 have e2:q.num.natAbs*y.natAbs=x.natAbs*q.den:=by
  have:=congrArg Int.natAbs e;simpa [bXq]using this
 have aB:q.den∣y.natAbs:=q.reduced.symm.dvd_of_dvd_mul_left (e2▸Nat.dvd_mul_left _ _);have aF:q.num.natAbs∣x.natAbs:=q.reduced.dvd_of_dvd_mul_right (e2▸Nat.dvd_mul_right _ _);have azu:0<y.natAbs:=Int.natAbs_pos.2 bu;refine⟨?_,bH (Nat.le_of_dvd azu aB) (by omega)⟩;by_cases az:x=0
 ·subst az;rw[Int.natAbs_zero,Nat.zero_mul]at e2
  rcases Nat.mul_eq_zero.1 e2 with e2 | e2
  ·rw[e2];exact Nat.zero_le _
  ·omega
 ·exact bH (Nat.le_of_dvd (Int.natAbs_pos.2 az) aF) (by omega)
end
def form(P:cr)(x j:Nat):Rat:=if x<P.n then(if x=j then 1 else 0) else P.A (x-P.n) j
section
variable{P:cr}{c:Nat->Rat}{T:b8}
theorem ZE(P:cr){j:Nat}(aH:j<P.n):CP P λx=>form P x j:=λi hi=>by
 have U:¬P.n+i<P.n:=by omega
 show form P (P.n+i) j=bs (λk=>P.A i k*form P k j) P.n;rw[qL (j:=j) aH λk ag aF=>by simp[form,ag,aF]];simp only[form,U,if_false,aH,if_true,Nat.add_sub_cancel_left];grind
theorem QF(h:Inv P T){i:Nat}(hi:i<P.m){j:Nat}(aH:j<P.n):form P (T.rows i) j=bs (λk=>T.M i k*form P (T.aj k) j) P.n:=(h.fJ _).1 (ZE P aH) i hi
structure rR(P:cr)(s:Nat->Nat)(S E:Nat):Prop where
 pos:∀x,1<=s x
 le:∀x,s x<=S
 one:∀x,x<P.n->s x=1
 z:∀x j,x<P.n+P.m->j<P.n->fz ((s x:Rat)*form P x j) E
def nt(P:cr)(s:Nat->Nat)(T:b8)(k j:Nat):Rat:=(s (T.aj k):Rat)*form P (T.aj k) j
def h9(P:cr)(s:Nat->Nat)(T:b8):Rat:=fZ P.n ((List.range P.n).map (nt P s T)) λ_=>1
theorem FX{s:Nat->Nat}(h:∀x,1<=s x)(x:Nat):(s x:Rat)≠0:=by
 have:=h x;intro e;have:s x=0:=by exact_mod_cast e
 omega
theorem QG{s:Nat->Nat}(aG:∀x,1<=s x){g:Nat->Rat}{m:Nat->Rat}{t:Nat}(aK:∀j,j<P.n->g j=bs (λk=>m k*form P (T.aj k) j) P.n){k:Nat}(ag:k<P.n):
 fZ P.n (((List.range P.n).map (nt P s T)).take k++(λj=>(t:Rat)*g j)::((List.range P.n).map (nt P s T)).drop (k+1)) (λ_=>1)*(s (T.aj k):Rat)=m k*((t:Rat)*h9 P s T):=by
 have U:∀j,j<P.n->(λj=>(t:Rat)*g j) j=bs (λk=>((t:Rat)*m k/(s (T.aj k):Rat))*nt P s T k j) P.n:=λj aH=>by
  show(t:Rat)*g j=_;rw[aK j aH,<-jl];refine eB λk _=>?_;unfold nt;have:=FX aG (T.aj k);grind
 rw[azr U ag,h9];have:=FX aG (T.aj k);grind
theorem ZG{s:Nat->Nat}(aG:∀x,1<=s x)(h:Inv P T){a col:Nat}(aN:a<P.m)(af:col<P.n)(aC:T.M a col≠0)(gx:h9 P s T≠0):h9 P s (T.fy a col)≠0:=by
 have U:=QG (T:=T) aG (t:=s (T.rows a)) (λj aH=>QF h aN aH) af;have aa:(List.range P.n).map (nt P s (T.fy a col))=((List.range P.n).map (nt P s T)).take col++(λj=>(s (T.rows a):Rat)*form P (T.rows a) j)::((List.range P.n).map (nt P s T)).drop (col+1):=by
  refine azs af (λi hi=>?_) (λ_=>1);funext j;unfold nt;by_cases e:i=col
  ·subst e;show(s (if i=i then _ else _):Rat)*form P (if i=i then _ else _) j=_;simp
  ·show(s (if i=col then _ else _):Rat)*form P (if i=col then _ else _) j=_;simp[e]
 rw[<-aa]at U;intro aD;have aq:fZ P.n ((List.range P.n).map (nt P s (T.fy a col))) (λ_=>1)=0:=aD;rw[aq,lE]at U;have:=FX aG (T.rows a);have a8:T.M a col*((s (T.rows a):Rat)*h9 P s T)=0:=U.symm
 rcases bWe.1 a8 with cg | cg
 ·exact aC cg
 ·rcases bWe.1 cg with dj | dj
  ·exact this dj
  ·exact gx dj
theorem J6{s:Nat->Nat}{S:Nat}(h:∀x,s x<=S)(x:Nat):fz (s x:Rat) S:=⟨(s x:Int),(q3 _).symm,by simpa using h x⟩
variable{s:Nat->Nat}{S E:Nat}
theorem QH(aG:rR P s S E)(h:fh P T):∀r∈(List.range P.n).map (nt P s T),∀j,j<P.n->fz (r j) E:=by
 intro r an j aH;obtain⟨k,ag,rfl⟩:=bYm.1 an;exact aG.z _ j (h.c k (bWd.1 ag)) aH
theorem FY(aG:rR P s S E)(h:fh P T):fz (h9 P s T) ((P.n*E)^P.n):=by
 have:=QE (n:=P.n) (w:=λ_=>1) (QH aG h) λ_=>⟨1,by simp,by decide⟩;simpa [h9]using this
theorem ZH(aG:rR P s S E)(h:fh P T){g:Nat->Rat}(aK:∀j,j<P.n->fz (g j) E){k:Nat}(ag:k<P.n):fz (fZ P.n (((List.range P.n).map (nt P s T)).take k++g::((List.range P.n).map (nt P s T)).drop (k+1)) λ_=>1) ((P.n*E)^P.n):=by
 have:=QE (n:=P.n) (E:=E) (w:=λ_=>1) (A:=((List.range P.n).map (nt P s T)).take k++g::((List.range P.n).map (nt P s T)).drop (k+1)) (λr an j aH=>by
  rcases bXf.1 an with an | an
  ·exact QH aG h r (bWH an) j aH
  ·rcases lD.1 an with rfl | an
   ·exact aK j aH
   ·exact QH aG h r (bVV an) j aH) λ_=>⟨1,by simp,by decide⟩
 have aO:(((List.range P.n).map (nt P s T)).take k++g::((List.range P.n).map (nt P s T)).drop (k+1)).length=P.n:=by simp;omega
 rwa [aO]at this
theorem ZI(aG:rR P s S E)(h:Inv P T){i k:Nat}(hi:i<P.m)(ag:k<P.n):fz (T.M i k*((s (T.rows i):Rat)*h9 P s T)) ((P.n*E)^P.n*S):=by
 rw[<-QG (T:=T) aG.pos (t:=s (T.rows i)) (λj aH=>QF h hi aH) ag];exact(ZH aG h.bj (λj aH=>aG.z _ j (h.bj.r i hi) aH) ag).mul (J6 aG.le _)
theorem azv(aG:rR P s S E)(h:Inv P T)(gx:h9 P s T≠0){i k:Nat}(hi:i<P.m)(ag:k<P.n):cP ((P.n*E)^P.n*S) (T.M i k):=
 FW rfl (ZI aG h hi ag) ((J6 aG.le _).mul (FY aG h.bj)) (λe=>by
  rcases bWe.1 e with dj | dj
  ·exact FX aG.pos _ dj
  ·exact gx dj) (bR _) (Nat.le_of_eq (gw _ _))
def sT(f:Nat->Nat):Nat->Nat
 | 0=>1
 | n+1=>sT f n*f n
theorem J8{f:Nat->Nat}(h:∀i,1<=f i):∀n,1<=sT f n
 | 0=>bR _
 | n+1=>bXS (J8 h n) (h n)
theorem CV{f:Nat->Nat}{B:Nat}:∀{n:Nat},(∀i,i<n->f i<=B)->sT f n<=B^n
 | 0,_=>bR _
 | n+1,h=>by
   rw[sT,bZm];exact ie (CV λi hi=>h i (by omega)) (h n (by omega))
theorem FZ{f:Nat->Nat}:∀{n i:Nat},i<n->f i∣sT f n
 | n+1,i,h=>by
   rw[sT];by_cases e:i=n
   ·subst e;exact Nat.dvd_mul_left _ _
   ·exact Nat.dvd_trans (FZ (by omega)) (Nat.dvd_mul_right _ _)
theorem J9{q:Rat}{B Q:Nat}(aV:cP B q)(aB:q.den∣Q){R:Nat}(dD:Q<=R):fz (q*(Q:Rat)) (B*R):=by
 obtain⟨e,rfl⟩:=aB;have U:q*((q.den*e:Nat):Rat)=((q.num*(e:Int):Int):Rat):=by
  have:=Ad q;simp only[Rat.natCast_mul,bVh,q3];grind
 refine⟨_,U,?_⟩;rw[bXq];refine ie aV.1 ?_;have:=q.den_pos;exact bH (bWK e this) dD
def lr(P:cr)(T:b8):Nat:=sT (λk=>(T.v (T.aj k)).den) P.n
theorem ZJ(T:b8):(lr P T:Rat)≠0:=by
 intro e;have:lr P T=0:=by exact_mod_cast e
 have:=J8 (f:=λk=>(T.v (T.aj k)).den) (λk=>(T.v (T.aj k)).den_pos) P.n;unfold lr at*
 omega
theorem Ka{T:b8}{V:Nat}(aw:∀k,k<P.n->cP V (T.v (T.aj k))):lr P T<=V^P.n:=CV λk ag=>(aw k ag).2
def qN(n F S V:Nat):Nat:=n*(F*S*(V*V^n))+F*S*(V*V^n)
theorem ZK(aG:rR P s S E)(h:Inv P T){V:Nat}(aw:∀k,k<P.n->cP V (T.v (T.aj k))){i:Nat}(hi:i<P.m):fz (T.v (T.rows i)*((s (T.rows i):Rat)*h9 P s T*(lr P T:Rat))) (P.n*((P.n*E)^P.n*S*(V*V^P.n))):=by
 have e:T.v (T.rows i)*((s (T.rows i):Rat)*h9 P s T*(lr P T:Rat))=bs (λk=>T.M i k*((s (T.rows i):Rat)*h9 P s T)*(T.v (T.aj k)*(lr P T:Rat))) P.n:=by
  rw[(h.fJ _).1 h.val i hi];have:=jl ((s (T.rows i):Rat)*h9 P s T*(lr P T:Rat)) (λk=>T.M i k*T.v (T.aj k)) P.n;rw[bWL,<-this];exact eB λk _=>by grind
 rw[e];exact fz.sum λk ag=>(ZI aG h hi ag).mul (J9 (aw k ag) (FZ ag) (Ka aw))
theorem one_le_pow{V n:Nat}(h:1<=V):1<=V^n:=bWk _ _ h
theorem QI(aG:rR P s S E)(h:Inv P T)(gx:h9 P s T≠0){V:Nat}(eI:1<=V)(aw:∀k,k<P.n->cP V (T.v (T.aj k))){x:Nat}(az:x<P.n+P.m):cP (qN P.n ((P.n*E)^P.n) S V+V) (T.v x):=by
 rcases h.bj.mE x az with⟨i,hi,rfl⟩ | ⟨k,ag,rfl⟩
 ·refine FW rfl (ZK aG h aw hi) (((J6 aG.le _).mul (FY aG h.bj)).mul (show fz (lr P T:Rat) (V^P.n) from⟨(lr P T:Int),(q3 _).symm,by simpa using Ka aw⟩)) (λe=>?_) ?_ ?_
  ·rcases bWe.1 e with dj | dj
   ·rcases bWe.1 dj with j4 | j4
    ·exact FX aG.pos _ j4
    ·exact gx j4
   ·exact ZJ T dj
  ·unfold qN;omega
  ·have U:S*(P.n*E)^P.n*V^P.n<=(P.n*E)^P.n*S*(V*V^P.n):=by
    rw[gw S];exact r8 _ (bWK _ eI)
   unfold qN;omega
 ·obtain⟨U,aa⟩:=aw k ag;exact⟨by omega,by omega⟩
theorem azx(aG:rR P s S E)(h:Inv P T)(gx:h9 P s T≠0){V:Nat}(eI:1<=V)(aw:∀k,k<P.n->cP V (T.v (T.aj k))){iS:Nat}(hb:1<=iS)(J7:iS<=S)(af:∀j,j<P.n->fz ((iS:Rat)*c j) E):cP (P.n*(E*qN P.n ((P.n*E)^P.n) S V)+qN P.n ((P.n*E)^P.n) S V) (obj P c T.v):=by
 have fk:1<=S:=bH hb J7;have uz:(iS:Rat)≠0:=by
  intro e;have:iS=0:=by exact_mod_cast e
  omega
 have QJ:∀j,j<P.n->fz (T.v j*(h9 P s T*(lr P T:Rat))) (qN P.n ((P.n*E)^P.n) S V):=λj aH=>by
  rcases h.bj.mE j (by omega) with⟨i,hi,e⟩ | ⟨k,ag,e⟩
  ·have:=ZK aG h aw hi;rw[e,aG.one j aH]at this;have e2:T.v j*(((1:Nat):Rat)*h9 P s T*(lr P T:Rat))=T.v j*(h9 P s T*(lr P T:Rat)):=by simp;try grind
   rw[e2]at this;exact this.mono (by unfold qN;omega)
  ·have U:=J9 (aw k ag) (FZ (f:=λk=>(T.v (T.aj k)).den) ag) (Ka aw);have aa:=(FY aG h.bj).mul U;rw[e]at aa;have e2:h9 P s T*(T.v j*(sT (λk=>(T.v (T.aj k)).den) P.n:Rat))=T.v j*(h9 P s T*(lr P T:Rat)):=by unfold lr;grind
   rw[e2]at aa;refine aa.mono ?_;have:(P.n*E)^P.n*(V*V^P.n)<=(P.n*E)^P.n*S*(V*V^P.n):=hQ _ (bWJ _ fk);unfold qN;omega
 have e:obj P c T.v*((iS:Rat)*(h9 P s T*(lr P T:Rat)))=bs (λj=>((iS:Rat)*c j)*(T.v j*(h9 P s T*(lr P T:Rat)))) P.n:=by
  have:=jl ((iS:Rat)*(h9 P s T*(lr P T:Rat))) (λj=>c j*T.v j) P.n;rw[obj,bWL,<-this];exact eB λj _=>by grind
 refine FW e (fz.sum λj aH=>(af j aH).mul (QJ j aH)) ((show fz (iS:Rat) S from⟨(iS:Int),(q3 _).symm,by simpa using J7⟩).mul ((FY aG h.bj).mul (show fz (lr P T:Rat) (V^P.n) from⟨(lr P T:Int),(q3 _).symm,by simpa using Ka aw⟩))) (λe=>?_) (by omega) ?_
 ·rcases bWe.1 e with dj | dj
  ·exact uz dj
  ·rcases bWe.1 dj with j4 | j4
   ·exact gx j4
   ·exact ZJ T j4
 ·have U:S*((P.n*E)^P.n*V^P.n)<=(P.n*E)^P.n*S*(V*V^P.n):=by
   rw[<-og,gw S];exact r8 _ (bWK _ eI)
  have:(P.n*E)^P.n*S*(V*V^P.n)<=qN P.n ((P.n*E)^P.n) S V:=by unfold qN;omega
  omega
end
end Go.Dam.C
namespace Go.Dam.C
open Go Go.Dam
structure hj(X:aY):Prop extends hC X where
 pK:Has X F.pK C.pK
 wV:Has X F.wV C.wV
 wW:Has X F.wW C.wW
 uY:Has X F.uY C.uY
 uZ:Has X F.uZ C.uZ
 u1:Has X F.u1 C.u1
 s8:Has X F.s8 C.s8
 wX:Has X F.wX C.wX
 wY:Has X F.wY C.wY
 wZ:Has X F.wZ C.wZ
 u2:Has X F.u2 C.u2
 u3:Has X F.u3 C.u3
 w1:Has X F.w1 C.w1
 u4:Has X F.u4 C.u4
 w2:Has X F.w2 C.w2
 w3:Has X F.w3 C.w3
 u5:Has X F.u5 C.u5
 u6:Has X F.u6 C.u6
 u7:Has X F.u7 C.u7
 w4:Has X F.w4 C.w4
 w5:Has X F.w5 C.w5
 w6:Has X F.w6 C.w6
variable{X:aY}{pm:Perm}{H H' cL:ah}{n:Nat}
def ia(H:ah)(v:Value):Option Rat->Prop
 | none=>v=.pointer none
 | some q=>c1 H v q
theorem ia.up{v:Value}{o:Option Rat}(h:ia H v o)(u:bp pm n H H'):ia H' v o:=by
 cases o with
 | none=>exact h
 | some q=>exact c1.up h u
theorem ia.ext{v:Value}{o:Option Rat}(h:ia H v o)(u:Ext H H'):ia H' v o:=by
 cases o with
 | none=>exact h
 | some q=>exact c1.ext h u
def gT(l:List UInt8):Option Rat:=if l=[] then none else some (rd l)
theorem Dt(al:hj X)(g:cl pm H){l:List UInt8}(aO:l.length<1000000)(aF:l≠[]->isNum l=true):Call X pm F.pK [aW l] H λr H'=>K pm H H'/\ia H' r (gT l):=by
 refine Call.has al.pK rfl ?_;by_cases h:l=[]
 ·subst h;simp[gi,gT,ia];exact K.refl g
 ·have ai:(l==[])=false:=by simpa using h
  have he:l.isEmpty=false:=by simpa using h
  simp[gi,ai];refine aR.bZb (B' al.toOb g aO) ?_;rintro r H1 ⟨av,U⟩;have aF:=aF h
  rcases U with⟨e,rfl⟩ | ⟨q,p,e,rfl,aV⟩
  ·simp[isNum,e]at aF
  ·simp[gT,h,rd,e,ia];exact⟨av,aV⟩
def yp(lo up:Option Rat):Rat:=match lo with
 | some l=>l
 | none=>up.getD 0
theorem aCr(al:hj X)(g:cl pm H){a b c:Value}{lo up:Option Rat}(aN:ia H a lo)(ai:ia H b up)(_af:fG c=true):Call X pm F.wV [.agg #[a,b,c]] H λr H'=>K pm H H'/\c1 H' r (yp lo up):=by
 refine Call.h6 al.wV rfl λQ bU=>?_;obtain⟨H1,cw⟩:=bZa (H.new (.cells [a,b,c] (.t T.w7)));have av:=bZv g cw;have aK:H1.get H.next=some (.cells [a,b,c] (.t T.w7)):=by rw[cw];exact dT
 obtain⟨d,aB⟩:=bZa (H.next);rw[<-aB]at aK
 cases lo with
 | some l=>
   obtain⟨a',rfl,pD⟩:=id aN;simp[g.pick,g.make,ptr,<-cw,<-aB,aK];refine bU _ _ _ ?_;simp;exact⟨av,⟨a',rfl,av.some g pD⟩⟩
 | none=>
   obtain rfl:a=.pointer none:=aN
   cases up with
   | some u=>
     obtain⟨b',rfl,ec⟩:=id ai;simp[g.pick,g.make,ptr,<-cw,<-aB,aK];refine bU _ _ _ ?_;simp;exact⟨av,⟨b',rfl,av.some g ec⟩⟩
   | none=>
     obtain rfl:b=.pointer none:=ai;simp[g.pick,g.make,ptr,<-cw,<-aB,aK];refine aR.bZb (vs:=[.int .i64 0]) (sE al.toOb av.aL (n:=0) (by omega) (by omega)) ?_;rintro r aJ ⟨aI,aa⟩;simp;refine bU _ _ _ ?_;simp;exact⟨av.trans aI,by simpa [yp]using aa⟩
structure qY(H:ah)(P:cr)(v:Nat->Rat)(x:Nat)(a b c:Value):Prop where
 lo:ia H a (P.lo x)
 up:ia H b (P.up x)
 v:c1 H c (v x)
theorem qY.k{P:cr}{v:Nat->Rat}{x:Nat}{a b c:Value}(h:qY H P v x a b c)(u:bp pm n H H'):qY H' P v x a b c:=⟨h.lo.up u,h.up.up u,h.v.up u⟩
structure Lc(P:cr)(v:Nat->Rat)(x t:Nat):Prop where
 lo:∀l,P.lo x=some l->sz l t
 up:∀u,P.up x=some u->sz u t
 v:sz (v x) t
section
variable(al:hj X)(g:cl pm H){P:cr}{v:Nat->Rat}{x t:Nat}{a b c:Value}(aw:qY H P v x a b c)(aG:Lc P v x t)(aS:t<=30000000)
include al g aw aG aS
theorem abZ{way:Int}:Call X pm F.u1 [.agg #[a,b,c],.int .i64 way] H λr H'=>K pm H H'/\r=.bool (can P v x way):=by
 refine Call.h6 al.u1 rfl λQ bU=>?_;obtain⟨H1,cw⟩:=bZa (H.new (.cells [a,b,c] (.t T.w7)));have av:=bZv g cw;have aK:H1.get H.next=some (.cells [a,b,c] (.t T.w7)):=by rw[cw];exact dT
 obtain⟨d,aB⟩:=bZa (H.next);rw[<-aB]at aK;have pL:t<=iP:=bH aS (by decide);obtain⟨U,aa,aq⟩:=aw;obtain⟨s1,s2,de⟩:=aG;obtain⟨ek,rfl,x4⟩:=id aq;have yG:=aq.up av;by_cases hw:0<way
 ·cases hu:P.up x with
  | none=>
    rw[hu]at aa;obtain rfl:b=.pointer none:=aa;have aN:∃p,a=.pointer p:=by
     cases e:P.lo x with
     | none=>rw[e]at U;exact⟨_,U⟩
     | some l=>rw[e]at U;obtain⟨a',rfl,_⟩:=U;exact⟨_,rfl⟩
    obtain⟨p,rfl⟩:=aN;simp[g.pick,g.make,ptr,<-cw,<-aB,aK,hw,zWb];refine aR.not (by simp) ?_;simp[zWb];refine bU _ _ _ ?_;simp[can,hw,hu];exact av
  | some u=>
    rw[hu]at aa;obtain⟨b',rfl,ec⟩:=id aa;have aN:∃p,a=.pointer p:=by
     cases e:P.lo x with
     | none=>rw[e]at U;exact⟨_,U⟩
     | some l=>rw[e]at U;obtain⟨a',rfl,_⟩:=U;exact⟨_,rfl⟩
    obtain⟨p,rfl⟩:=aN;simp[g.pick,g.make,ptr,<-cw,<-aB,aK,hw,zWb];refine aR.bZb (ud al.toOb av.aL yG.of (c1.of (c1.up aa av)) (de.ca pL) ((s2 u hu).ca pL)) ?_;rintro _ aJ ⟨rfl,rfl⟩;simp;refine bU _ _ _ ?_;simp[can,hw,hu,rz];exact av
 ·have ai:∃p,b=.pointer p:=by
   cases e:P.up x with
   | none=>rw[e]at aa;exact⟨_,aa⟩
   | some l=>rw[e]at aa;obtain⟨a',rfl,_⟩:=aa;exact⟨_,rfl⟩
  obtain⟨p,rfl⟩:=ai
  cases aO:P.lo x with
  | none=>
    rw[aO]at U;obtain rfl:a=.pointer none:=U;simp[g.pick,g.make,ptr,<-cw,<-aB,aK,hw,zWb];refine aR.not (by simp) ?_;simp[zWb];refine bU _ _ _ ?_;simp[can,hw,aO];exact av
  | some l=>
    rw[aO]at U;obtain⟨a',rfl,pD⟩:=id U;simp[g.pick,g.make,ptr,<-cw,<-aB,aK,hw,zWb];refine aR.bZb (ud al.toOb av.aL yG.of (c1.of (c1.up U av)) (de.ca pL) ((s1 l aO).ca pL)) ?_;rintro _ aJ ⟨rfl,rfl⟩;simp;refine bU _ _ _ ?_;simp[can,hw,aO,xT];exact av
end
end Go.Dam.C
namespace Go.Dam.C
open Go Go.Dam
variable{X:aY}{pm:Perm}{H H' cL H0:ah}{n:Nat}
theorem ia.ptr{v:Value}{o:Option Rat}(h:ia H v o):∃p,v=.pointer p:=by
 cases o with
 | none=>exact⟨_,h⟩
 | some l=>obtain⟨a',rfl,_⟩:=h;exact⟨_,rfl⟩
section
variable(al:hj X)(g:cl pm H){P:cr}{v:Nat->Rat}{x t:Nat}{a b c:Value}(aw:qY H P v x a b c)(aG:Lc P v x t)(aS:t<=30000000)
include al g aw aG aS
theorem Sf:Call X pm F.s8 [.agg #[a,b,c]] H λr H'=>K pm H H'/\r=.int .i64 (off P v x):=by
 refine Call.h6 al.s8 rfl λQ bU=>?_;obtain⟨H1,cw⟩:=bZa (H.new (.cells [a,b,c] (.t T.w7)));have av:=bZv g cw;have aK:H1.get H.next=some (.cells [a,b,c] (.t T.w7)):=by rw[cw];exact dT
 obtain⟨d,aB⟩:=bZa (H.next);rw[<-aB]at aK;have pL:t<=iP:=bH aS (by decide);obtain⟨U,aa,aq⟩:=aw;obtain⟨s1,s2,de⟩:=aG;obtain⟨ek,rfl,x4⟩:=id aq;have yG:=aq.up av;have up:∀(L:bQ),a7 1 L=some (.pointer (some ⟨d,0,none⟩))->(∀l,P.lo x=some l->¬v x<l)->a7 3 L=some (.bool false)->wp X pm (.code AA) L H1 [.bI 0,.seq GB] Q:=by
  intro L ck ey eT;have po:off P v x=uB P v x:=by
   unfold off
   cases aO:P.lo x with
   | none=>rfl
   | some l=>simp[ey l aO]
  cases hu:P.up x with
  | none=>
    rw[hu]at aa;obtain rfl:b=.pointer none:=aa;simp[ck,eT,aK,zWb];refine aR.not (by simp) ?_;simp[zWb];refine bU _ _ _ ?_;simp[po,uB,hu];exact av
  | some u=>
    rw[hu]at aa;obtain⟨b',rfl,ec⟩:=id aa;simp[ck,eT,aK];refine aR.bZb (ud al.toOb av.aL yG.of (c1.of (c1.up aa av)) (de.ca pL) ((s2 u hu).ca pL)) ?_;rintro _ aJ ⟨rfl,rfl⟩;by_cases af:u<v x
    ·simp[xT,af];refine bU _ _ _ ?_;simp[po,uB,hu,af];exact av
    ·simp[xT,af];refine bU _ _ _ ?_;simp[po,uB,hu,af];exact av
 obtain⟨p,rfl⟩:=aa.ptr
 cases aO:P.lo x with
 | none=>
   rw[aO]at U;obtain rfl:a=.pointer none:=U;simp[g.pick,g.make,ptr,<-cw,<-aB,aK,zWb,-AA];refine aR.not (by simp) ?_;simp[zWb,-AA,-GB];exact up _ (by simp) (λl h=>by rw[aO]at h;cases h) (by simp)
 | some l=>
   rw[aO]at U;obtain⟨a',rfl,pD⟩:=id U;simp[g.pick,g.make,ptr,<-cw,<-aB,aK,-AA];refine aR.bZb (ud al.toOb av.aL yG.of (c1.of (c1.up U av)) (de.ca pL) ((s1 l aO).ca pL)) ?_;rintro _ aJ ⟨rfl,rfl⟩;by_cases af:v x<l
   ·simp[zWb,rz,af];refine bU _ _ _ ?_;simp[off,aO,af];exact av
   ·simp[rz,af,-AA,-GB];exact up _ (by simp) (λl' h=>by rw[aO]at h;cases h;exact af) (by simp)
theorem ab0{way:Int}:Call X pm F.u4 [.agg #[a,b,c],.int .i64 way] H λr H'=>K pm H H'/\ia H' r (room P v x way):=by
 refine Call.h6 al.u4 rfl λQ bU=>?_;obtain⟨H1,cw⟩:=bZa (H.new (.cells [a,b,c] (.t T.w7)));have av:=bZv g cw;have aK:H1.get H.next=some (.cells [a,b,c] (.t T.w7)):=by rw[cw];exact dT
 obtain⟨d,aB⟩:=bZa (H.next);rw[<-aB]at aK;have pL:t<=iP:=bH aS (by decide);obtain⟨U,aa,aq⟩:=aw;obtain⟨s1,s2,de⟩:=aG;obtain⟨ek,rfl,x4⟩:=id aq;have yG:=aq.up av;obtain⟨p,rfl⟩:=U.ptr;obtain⟨q,rfl⟩:=aa.ptr;by_cases hw:0<way
 ·have lU:¬way<0:=by omega
  cases hu:P.up x with
  | none=>
    rw[hu]at aa;cases aa;simp[g.pick,g.make,ptr,<-cw,<-aB,aK,hw,lU,zWb];refine bU _ _ _ ?_;simp[room,hw,lU,hu,ia];exact av
  | some u=>
    rw[hu]at aa;obtain⟨b',e,ec⟩:=id aa;cases e;simp[g.pick,g.make,ptr,<-cw,<-aB,aK,hw,lU,zWb];refine aR.bZb (Jp al.toOb av.aL (c1.of (c1.up aa av)) yG.of ((s2 u hu).ca pL) (de.ca pL)) ?_;rintro r aJ ⟨aI,h⟩;simp;refine bU _ _ _ ?_;simp[room,hw,hu,ia];exact⟨av.trans aI,h⟩
 ·by_cases lU:way<0
  ·cases aO:P.lo x with
   | none=>
     rw[aO]at U;cases U;simp[g.pick,g.make,ptr,<-cw,<-aB,aK,hw,lU,zWb];refine bU _ _ _ ?_;simp[room,hw,lU,aO,ia];exact av
   | some l=>
     rw[aO]at U;obtain⟨b',e,ec⟩:=id U;cases e;simp[g.pick,g.make,ptr,<-cw,<-aB,aK,hw,lU,zWb];refine aR.bZb (Jp al.toOb av.aL yG.of (c1.of (c1.up U av)) (de.ca pL) ((s1 l aO).ca pL)) ?_;rintro r aJ ⟨aI,h⟩;simp;refine bU _ _ _ ?_;simp[room,hw,lU,aO,ia];exact⟨av.trans aI,h⟩
  ·simp[g.pick,g.make,ptr,<-cw,<-aB,aK,hw,lU,zWb];refine bU _ _ _ ?_;simp[room,hw,lU,ia];exact av
end
abbrev tyT:Nat:=T.aCs
abbrev tyV:Nat:=T.w7
theorem jh{lo:Nat}{ok:List Nat}{o:Option Nat}{b:Nat}(h:lo<=b):Perm.may ⟨lo,ok,o⟩ b=true:=by
 unfold Perm.may;rw[dA];simp[h]
def sl(b k:Nat):Value:=if k=0 then .slice none 0 0 else .slice (some ⟨b,0,none⟩) k k
theorem eQ{b k:Nat}(h:0<k):sl b k=.slice (some ⟨b,0,none⟩) k k:=aU (by omega)
def u9(H:ah)(b k:Nat)(f:Nat->Nat):Prop:=∃ss,H.get b=some (.cells ss (.n 1))/\ss.length=k/\∀i,i<k->ss[i]? = some (.int .i64 (f i:Int))
def AB(H:ah)(P:cr)(b k:Nat)(v:Nat->Rat):Prop:=∃ss,H.get b=some (.cells ss (.n 3))/\ss.length=k*3/\∀x,x<k->∃p q c,ss[x*3]? = some p/\ss[x*3+1]? = some q/\ss[x*3+2]? = some c/\qY H P v x p q c
def GC(H:ah)(b k w:Nat)(aA:Nat->Nat):Prop:=∃ss,H.get b=some (.cells ss (.n 1))/\ss.length=k/\∀i,i<k->ss[i]? = some (.slice (some ⟨aA (5+i),0,none⟩) w w)
structure dH(P:cr)(ba:Nat)(H:ah)(aA:Nat->Nat)(lc cc:Value)(T:b8):Prop where
 t:H.get (aA 0)=some (.cells [lc,cc,sl (aA 1) (P.n+P.m),sl (aA 2) P.m,sl (aA 3) P.n,sl (aA 4) P.m] (.t tyT))
 v:0<P.n+P.m->AB H P (aA 1) (P.n+P.m) T.v
 r:0<P.m->u9 H (aA 2) P.m T.rows
 c:0<P.n->u9 H (aA 3) P.n T.aj
 m:0<P.m->GC H (aA 4) P.m P.n aA
 row:∀i,i<P.m->eV H (aA (5+i)) P.n P.n (T.M i)
 inj:∀i j,i<5+P.m->j<5+P.m->aA i=aA j->i=j
 ge:∀i,i<5+P.m->ba<=aA i
theorem u9.ext{b k:Nat}{f:Nat->Nat}(h:u9 H b k f)(e:∀y,H.get b=some y->H'.get b=some y):u9 H' b k f:=let ⟨ss,U,aa⟩:=h;⟨ss,e _ U,aa⟩
theorem GC.ext{b k w:Nat}{f:Nat->Nat}(h:GC H b k w f)(e:∀y,H.get b=some y->H'.get b=some y):GC H' b k w f:=let ⟨ss,U,aa⟩:=h;⟨ss,e _ U,aa⟩
theorem AB.ext{P:cr}{b k:Nat}{v:Nat->Rat}(h:AB H P b k v)(u:bp pm n H H')(e:∀y,H.get b=some y->H'.get b=some y):AB H' P b k v:=by
 obtain⟨ss,U,aa,aq⟩:=h;refine⟨ss,e _ U,aa,λx az=>?_⟩;obtain⟨p,q,c,ao,e2,bd,b1⟩:=aq x az;exact⟨p,q,c,ao,e2,bd,b1.k u⟩
theorem eV.ext{c w k:Nat}{x:Nat->Rat}(h:eV H c w k x)(u:bp pm n H H')(e:∀y,H.get c=some y->H'.get c=some y):eV H' c w k x:=by
 obtain⟨cH,U,aa,aq⟩:=h;refine⟨cH,e _ U,aa,λi hi=>?_⟩;obtain⟨p,ao,e2⟩:=aq i hi;exact⟨p,ao,e2.up u⟩
section
variable{P:cr}{ba:Nat}{aA:Nat->Nat}{lc cc:Value}{T:b8}
theorem dH.k(h:dH P ba H aA lc cc T)(g:cl pm H)(k:K pm H H'):dH P ba H' aA lc cc T where
 t:=k.some g h.t
 v:=λaC=>(h.v aC).ext k λ_ e=>k.some g e
 r:=λaC=>(h.r aC).ext λ_ e=>k.some g e
 c:=λaC=>(h.c aC).ext λ_ e=>k.some g e
 m:=λaC=>(h.m aC).ext λ_ e=>k.some g e
 row:=λi hi=>(h.row i hi).ext k λ_ e=>k.some g e
 inj:=h.inj
 ge:=h.ge
theorem dH.mono(h:dH P ba H aA lc cc T){n1:Nat}(aF:n1<=ba):dH P n1 H aA lc cc T:=⟨h.t,h.v,h.r,h.c,h.m,h.row,h.inj,λi hi=>bH aF (h.ge i hi)⟩
theorem dH.ne(h:dH P ba H aA lc cc T){i j:Nat}(hi:i<5+P.m)(aH:j<5+P.m)(aF:i≠j):aA i≠aA j:=λe=>aF (h.inj i j hi aH e)
theorem h7{b c:Nat}{x:cj}(h:b≠c):∀y,H.get b=some y->(H.put c x).get b=some y:=λy e=>by rw[cq h];exact e
theorem AD{ss:List Value}{i j:Nat}{u:Value}(h:i≠j):(ss.set j u)[i]? = ss[i]?:=by
 rw[List.getElem?_set,aU (λe=>h e.symm)]
theorem dH.ab1(h:dH P ba H aA lc cc T)(g:cl pm H){x:Nat}(az:x<P.n+P.m){u:Value}{q:Rat}(hu:c1 H u q){ss:List Value}(aG:H.get (aA 1)=some (.cells ss (.n 3))):
 bp pm ba H (H.put (aA 1) (.cells (ss.set (x*3+2) u) (.n 3)))/\dH P ba (H.put (aA 1) (.cells (ss.set (x*3+2) u) (.n 3))) aA lc cc {T with v:=λy=>if y=x then q else T.v y}:=by
 have up:bp pm ba H (H.put (aA 1) (.cells (ss.set (x*3+2) u) (.n 3))):=bp.put (.refl g) (h.ge 1 (by omega)) aG (by simp) _;have ne:∀i,i<5+P.m->i≠1->aA i≠aA 1:=λi hi aF=>h.ne hi (by omega) aF;refine⟨up,h7 (ne 0 (by omega) (by decide)) _ h.t,λaC=>?_,λaC=>(h.r aC).ext (h7 (ne 2 (by omega) (by decide))),λaC=>(h.c aC).ext (h7 (ne 3 (by omega) (by decide))),λaC=>(h.m aC).ext (h7 (ne 4 (by omega) (by decide))),λi hi=>(h.row i hi).ext up (h7 (ne _ (by omega) (by omega))),h.inj,h.ge⟩;obtain⟨aCt,U,aa,aq⟩:=h.v aC;rw[aG]at U;cases U;refine⟨_,dX,by rw[bWl];exact aa,λy bu=>?_⟩;obtain⟨p,r,c,ao,e2,bd,b1⟩:=aq y bu;by_cases e:y=x
 ·subst e;refine⟨p,r,u,by rw[AD (by omega)];exact ao,by rw[AD (by omega)];exact e2,by rw[List.getElem?_set,bm rfl,bm (by omega)],b1.lo.up up,b1.up.up up,?_⟩;simpa using hu.up up
 ·refine⟨p,r,c,by rw[AD (by omega)];exact ao,by rw[AD (by omega)];exact e2,by rw[AD (by omega)];exact bd,b1.lo.up up,b1.up.up up,?_⟩;simpa [e]using b1.v.up up
theorem dH.Ld(h:dH P ba H aA lc cc T)(g:cl pm H){i k:Nat}(hi:i<P.m)(ag:k<P.n){u:Value}{q:Rat}(hu:c1 H u q){ss:List Value}(aG:H.get (aA (5+i))=some (.cells ss (.n 1))):
 bp pm ba H (H.put (aA (5+i)) (.cells (ss.set k u) (.n 1)))/\dH P ba (H.put (aA (5+i)) (.cells (ss.set k u) (.n 1))) aA lc cc {T with M:=λa b=>if a=i/\b=k then q else T.M a b}:=by
 have up:bp pm ba H (H.put (aA (5+i)) (.cells (ss.set k u) (.n 1))):=bp.put (.refl g) (h.ge _ (by omega)) aG (by simp) _;have ne:∀j,j<5+P.m->j≠5+i->aA j≠aA (5+i):=λj aH aF=>h.ne aH (by omega) aF;refine⟨up,h7 (ne 0 (by omega) (by omega)) _ h.t,λaC=>(h.v aC).ext up (h7 (ne 1 (by omega) (by omega))),λaC=>(h.r aC).ext (h7 (ne 2 (by omega) (by omega))),λaC=>(h.c aC).ext (h7 (ne 3 (by omega) (by omega))),λaC=>(h.m aC).ext (h7 (ne 4 (by omega) (by omega))),λj aH=>?_,h.inj,h.ge⟩;by_cases e:j=i
 ·subst e;obtain⟨cH,U,aa,aq⟩:=h.row j aH;rw[aG]at U;cases U;refine⟨_,dX,by rw[bWl];exact aa,λb ai=>?_⟩;obtain⟨p,ao,e2⟩:=aq b ai;by_cases x2:b=k
  ·subst x2;refine⟨u,by rw[List.getElem?_set,bm rfl,bm (by omega)],?_⟩;simpa using hu.up up
  ·refine⟨p,by rw[AD x2];exact ao,?_⟩;simpa [x2]using e2.up up
 ·have:=(h.row j aH).ext up (h7 (ne _ (by omega) (by omega)));refine this.congr λb ai=>?_;simp[e]
theorem dH.congr{dY:b8}(h:dH P ba H aA lc cc T)(aw:∀x,x<P.n+P.m->dY.v x=T.v x)(an:∀i,i<P.m->dY.rows i=T.rows i)(af:∀k,k<P.n->dY.aj k=T.aj k)(dp:∀i k,i<P.m->k<P.n->dY.M i k=T.M i k):dH P ba H aA lc cc dY where
 t:=h.t
 v:=λaC=>by
  obtain⟨ss,U,aa,aq⟩:=h.v aC;refine⟨ss,U,aa,λx az=>?_⟩;obtain⟨p,q,c,ao,e2,bd,b1⟩:=aq x az;exact⟨p,q,c,ao,e2,bd,b1.lo,b1.up,by rw[aw x az];exact b1.v⟩
 r:=λaC=>by
  obtain⟨ss,U,aa,aq⟩:=h.r aC;exact⟨ss,U,aa,λi hi=>by rw[an i hi];exact aq i hi⟩
 c:=λaC=>by
  obtain⟨ss,U,aa,aq⟩:=h.c aC;exact⟨ss,U,aa,λi hi=>by rw[af i hi];exact aq i hi⟩
 m:=h.m
 row:=λi hi=>(h.row i hi).congr λk ag=>dp i k hi ag
 inj:=h.inj
 ge:=h.ge
theorem u9.set{b k:Nat}{f:Nat->Nat}(h:u9 H b k f){i v:Nat}(hi:i<k){ss:List Value}(aG:H.get b=some (.cells ss (.n 1))):u9 (H.put b (.cells (ss.set i (.int .i64 (v:Int))) (.n 1))) b k λj=>if j=i then v else f j:=by
 obtain⟨aCt,U,aa,aq⟩:=h;rw[aG]at U;cases U;refine⟨_,dX,by rw[bWl];exact aa,λj aH=>?_⟩;by_cases e:j=i
 ·subst e;rw[List.getElem?_set,bm rfl,bm (by omega)];simp
 ·rw[AD e,aq j aH];simp[e]
theorem dH.aCu(h:dH P ba H aA lc cc T)(g:cl pm H){i v:Nat}(hi:i<P.m){ss:List Value}(aG:H.get (aA 2)=some (.cells ss (.n 1))):
 bp pm ba H (H.put (aA 2) (.cells (ss.set i (.int .i64 (v:Int))) (.n 1)))/\dH P ba (H.put (aA 2) (.cells (ss.set i (.int .i64 (v:Int))) (.n 1))) aA lc cc {T with rows:=λj=>if j=i then v else T.rows j}:=by
 have up:bp pm ba H (H.put (aA 2) (.cells (ss.set i (.int .i64 (v:Int))) (.n 1))):=bp.put (.refl g) (h.ge _ (by omega)) aG (by simp) _;have ne:∀j,j<5+P.m->j≠2->aA j≠aA 2:=λj aH aF=>h.ne aH (by omega) aF;exact⟨up,h7 (ne 0 (by omega) (by omega)) _ h.t,λaC=>(h.v aC).ext up (h7 (ne 1 (by omega) (by omega))),λaC=>(h.r aC).set hi aG,λaC=>(h.c aC).ext (h7 (ne 3 (by omega) (by omega))),λaC=>(h.m aC).ext (h7 (ne 4 (by omega) (by omega))),λj aH=>(h.row j aH).ext up (h7 (ne _ (by omega) (by omega))),h.inj,h.ge⟩
theorem dH.mT(h:dH P ba H aA lc cc T)(g:cl pm H){i v:Nat}(hi:i<P.n){ss:List Value}(aG:H.get (aA 3)=some (.cells ss (.n 1))):
 bp pm ba H (H.put (aA 3) (.cells (ss.set i (.int .i64 (v:Int))) (.n 1)))/\dH P ba (H.put (aA 3) (.cells (ss.set i (.int .i64 (v:Int))) (.n 1))) aA lc cc {T with aj:=λj=>if j=i then v else T.aj j}:=by
 have up:bp pm ba H (H.put (aA 3) (.cells (ss.set i (.int .i64 (v:Int))) (.n 1))):=bp.put (.refl g) (h.ge _ (by omega)) aG (by simp) _;have ne:∀j,j<5+P.m->j≠3->aA j≠aA 3:=λj aH aF=>h.ne aH (by omega) aF;exact⟨up,h7 (ne 0 (by omega) (by omega)) _ h.t,λaC=>(h.v aC).ext up (h7 (ne 1 (by omega) (by omega))),λaC=>(h.r aC).ext (h7 (ne 2 (by omega) (by omega))),λaC=>(h.c aC).set hi aG,λaC=>(h.m aC).ext (h7 (ne 4 (by omega) (by omega))),λj aH=>(h.row j aH).ext up (h7 (ne _ (by omega) (by omega))),h.inj,h.ge⟩
end
structure l4(P:cr)(T:b8)(t:Nat):Prop where
 v:∀x,x<P.n+P.m->Lc P T.v x t
 M:∀i k,i<P.m->k<P.n->sz (T.M i k) t
structure s9(P:cr):Prop where
 n:P.n<=20
 m:P.m<=40
section
variable{P:cr}{ba:Nat}{aA:Nat->Nat}{lc cc:Value}{T:b8}
theorem uA(b k:Nat):∃base,sl b k=.slice base k k/\(0<k->base=some ⟨b,0,none⟩):=by
 by_cases h:k=0
 ·subst h;exact⟨none,rfl,λh=>by omega⟩
 ·exact⟨_,eQ (by omega),λ_=>rfl⟩
theorem ab2(h:fh P T){col:Nat}(af:col<P.n){q:Rat}{i:Nat}(hi:i<P.m):iT T col q i (T.rows i)=T.v (T.rows i):=by
 rw[Qo h af hi i (by omega),aU (by omega)]
theorem ab3(al:hj X)(g0:cl pm H0)(ey:pm.lo<=ba)(aF:ba<=H0.next)(dU:s9 P)(aD:dH P ba H0 aA lc cc T)(bj:fh P T){t:Nat}(aS:t<=100000)(aG:l4 P T t){col:Nat}(af:col<P.n){w:Value}{q:Rat}(hw:c1 H0 w q)(aV:sz q t):
 Call X pm F.uY [.pointer (some ⟨aA 0,0,none⟩),.int .i64 (col:Int),w] H0 λ_ H'=>bp pm ba H0 H'/\dH P ba H' aA lc cc (T.iC P col q):=by
 refine Call.h6 al.uY rfl λQ bU=>?_;have j2:=dU.n;have mM:=dU.m;have jK:0<P.n+P.m:=by omega
 obtain⟨vs,v1,v2,v3⟩:=aD.v jK;obtain⟨cs,cy,dd,dy⟩:=aD.c (by omega);have az:=bj.c col af;obtain⟨p,r,c,ao,e2,bd,b1⟩:=v3 _ az;have w8:=dy col af;have fq:=aD.t;rw[eQ jK,eQ (show 0<P.n by omega)]at fq;have eO:∀o i,i<5+P.m->Perm.may ⟨pm.lo,pm.ok,o⟩ (aA i)=true:=λo i hi=>jh (bH ey (aD.ge i hi));have AE:T.aj col<1000:=by omega
 simp[-Sg];refine eg.of g0.lo rfl ?_;have l1:=g0.lt fq;have jG:=g0.lt v1;have n0:=g0.lt cy;simp[dt,g0.none,g0.fo,fq,v1,cy,af,w8,az,dx,dm,l1,n0,-Le];have bE:K pm H0 (H0.up 13):=(K.refl g0).up 13;simp[bd,-Le];have de:=(aG.v _ az).v;refine aR.bZb (vs:=[c,w]) (v8 al.toOb bE.aL (b1.v.up bE).of (hw.up bE).of (de.ca (bH aS (by decide))) (aV.ca (bH aS (by decide)))) ?_;rintro u H1 ⟨av,hu⟩;have qx:=bE.trans av;have g1:=qx.aL;obtain⟨ab4,t2⟩:=(aD.k g0 qx).ab1 g1 az hu (qx.some g0 v1);have BF:=qx.some g0 v1;obtain⟨GD,rfl,_⟩:=id hu;have rH:=eO pm.num 1 (by omega);have bO:T.aj col*3+2<vs.length:=by omega
 have aCv:iT T col q 0=λy=>if y=T.aj col then T.v (T.aj col)+q else T.v y:=by
  funext x;show(if x=T.aj col then T.v x+q else T.v x)=_;by_cases e:x=T.aj col
  ·simp[e]
  ·simp[e]
 have Sh:dH P ba (H1.put (aA 1) (.cells (vs.set (T.aj col*3+2) (.pointer (some ⟨GD,0,none⟩))) (.n 3))) aA lc cc {T with v:=iT T col q 0}:=by rw[aCv];exact t2
 obtain⟨aJ,ee⟩:=bZa (H1.put (aA 1) (.cells (vs.set (T.aj col*3+2) (.pointer (some ⟨GD,0,none⟩))) (.n 3)));rw[<-ee]at ab4 Sh;have aCw:bp pm ba H0 aJ:=(qx.mono aF).trans ab4;have eb:=Sh.t;obtain⟨base,gN,yH⟩:=uA (aA 4) P.m;rw[gN]at eb;simp[BF,rH,bO,<-ee,eb,-Si]
 refine gG (σ:=Unit) P.m (λ_ _=>[(0,.pointer (some ⟨aA 0,0,none⟩)),(1,.int .i64 (col:Int)),(2,w),(34,.slice base P.m P.m)])
  (λi _ H'=>bp pm ba H0 H'/\dH P ba H' aA lc cc {T with v:=iT T col q i}) () (by decide) (by omega) (by simp) ⟨aCw,Sh⟩ (by simp) ?_ ?_
 ·rintro i _ bN hi ⟨fu,t3⟩;have g3:=fu.aL;obtain rfl:=yH (by omega);obtain⟨ms,m1,m2,m3⟩:=t3.m (by omega);obtain⟨cH,bJ,bG,cO⟩:=t3.row i hi;obtain⟨o1,u',n9⟩:=cO col af;have AF:=m3 i hi;simp[m1,AF,hi,bJ,u',af];refine aR.bZb (vs:=[o1]) (jF al.toOb g3 n9.of ((aG.M i col hi af).ca (bH aS (by decide)))) ?_;rintro _ bN ⟨rfl,rfl⟩;by_cases dp:T.M i col=0
  ·simp[lj,dp];refine⟨fu,t3.congr (λx _=>?_) (λ_ _=>rfl) (λ_ _=>rfl) λ_ _ _ _=>rfl⟩;show(if x=T.rows i then iT T col q i x+T.M i col*q else iT T col q i x)=iT T col q i x;rw[dp];split<;>grind
  ·obtain⟨aCx,cS,bL,kF⟩:=t3.v jK;obtain⟨aHh,b4,cB,dh⟩:=t3.r (by omega);have bu:=bj.r i hi;obtain⟨aCy,aX,ab5,f1,f2,f3,f4⟩:=kF _ bu;have AG:=t3.t;rw[eQ jK,eQ (show 0<P.m by omega)]at AG;have yI:=dh i hi;have hB:=g3.lt AG;have bn:=g3.lt cS;have bh:=g3.lt b4;have ox:=g3.lt bJ;have aCz:c1 bN ab5 (T.v (T.rows i)):=by
    have:=f4.v;rwa [show({T with v:=iT T col q i}:b8).v (T.rows i)=iT T col q i (T.rows i) from rfl,ab2 bj af hi]at this
   simp[lj,dp,-Lf];refine eg.of g3.lo rfl ?_;simp[dt,g3.none,g3.fo,AG,b4,hi,yI,bu,dx,dm,hB,bh,-Lf];have w9:K pm bN (bN.up 13):=(K.refl g3).up 13;generalize bN.up 13=cp at w9|-;have g4:=w9.aL;have Gf:=w9.some g3 cS;have pM:=w9.some g3 bJ;have ze:=g4.lt Gf;have MU:=g4.lt pM;refine eg.of g4.lo rfl ?_;have s':K pm cp (cp.up 15):=(K.refl g4).up 15;have ji:=w9.trans s';have fC:t<=iP:=bH aS (by decide);have Sj:t+t<=iP:=bH (Nat.add_le_add aS aS) (by decide);simp[dt,g4.none,g4.fo,Gf,f3,pM,u',af];have ab6:=(hw.up fu).up ji;have ab7:=aG.M i col hi af;refine bZx s'.aL (vs:=[o1,w]) (by simp[g4.none]) (λpm' bS=>sF al.toOb bS (n9.up ji).of ab6.of (ab7.ca fC) (aV.ca fC)) ?_;rintro qZ ep cv f6;have df:=cv.res g4;simp;refine bYf cv.aL (vs:=[ab5,qZ]) (by simp[df]) (λpm' bS=>v8 al.toOb bS ((aCz.up ji).up cv).of f6.of ((aG.v _ bu).v.ca fC) ((la ab7 aV).ca Sj)) ?_;rintro AH hM dJ f7;have dW:=(K.trans cv dJ).res g4;have Du:=ji.trans (cv.trans dJ);have ab8:=Du.some g3 cS;obtain⟨aHi,rfl,_⟩:=id f7;have GF:=λm=>qz (n9.up ji) ab6 (ji.some g3 cS) m;simp[dW,ab8,jh (bH ey (aD.ge 1 (by omega))),show T.rows i*3+2<aCx.length by omega,dx,dm,ze,MU,ez,GF];obtain⟨u8,t8⟩:=(t3.k g3 Du).ab1 dJ.aL bu f7 ab8;refine⟨(fu.k Du (bH aF fu.next)).trans u8,t8.congr (λx _=>?_) (λ_ _=>rfl) (λ_ _=>rfl) λ_ _ _ _=>rfl⟩;show(if x=T.rows i then iT T col q i x+T.M i col*q else iT T col q i x)=if x=T.rows i then T.v (T.rows i)+T.M i col*q else iT T col q i x
   by_cases e:x=T.rows i
   ·rw[bm e,bm e,e,ab2 bj af hi]
   ·rw[aU e,aU e]
 ·rintro _ bN ⟨fu,t3⟩;simp;refine bU _ _ _ ?_;simp;exact⟨fu,t3⟩
end
section
variable{P:cr}{ba:Nat}{aA:Nat->Nat}{lc cc:Value}{T:b8}
def r2(T:b8)(i k:Nat)(r:Nat->Rat):b8:={T with M:=λx y=>if x=i/\y<k then r y else T.M x y}
theorem GG{i k:Nat}{r:Nat->Rat}{q:Rat}(h:q=r k)(x y:Nat):(r2 T i (k+1) r).M x y=if x=i/\y=k then q else(r2 T i k r).M x y:=by
 subst h;show(if x=i/\y<k+1 then r y else T.M x y)=if x=i/\y=k then r k else(if x=i/\y<k then r y else T.M x y)
 by_cases e:x=i
 ·by_cases e2:y=k
  ·subst e2;simp[e]
  ·by_cases bd:y<k
   ·simp[e,e2,bd,show y<k+1 by omega]
   ·simp[e,e2,bd,show ¬y<k+1 by omega]
 ·simp[e]
theorem ab9{i k:Nat}{r:Nat->Rat}(h:T.M i k=r k)(x y:Nat):(r2 T i (k+1) r).M x y=(r2 T i k r).M x y:=by
 rw[GG rfl];split
 ·rename_i e;obtain⟨rfl,rfl⟩:=e;show r y=if x=x/\y<y then r y else T.M x y
  simp[h]
 ·rfl
theorem aca{i k:Nat}{r:Nat->Rat}:(r2 T i k r).M i k=T.M i k:=by
 show(if i=i/\k<k then r k else T.M i k)=_;simp
def xa(T:b8)(a col i k:Nat):Rat:=if k=col then T.M i col*T.M a col else T.M i k+T.M i col*T.M a k
theorem aCA(al:hj X)(g0:cl pm H0)(ey:pm.lo<=ba)(aF:ba<=H0.next)(dU:s9 P)(aD:dH P ba H0 aA lc cc T){t:Nat}(aS:t<=400000)(aG:∀i k,i<P.m->k<P.n->sz (T.M i k) t){a i col:Nat}(aN:a<P.m)(hi:i<P.m)(ta:i≠a)(af:col<P.n)
 {w:Value} (hw:c1 H0 w (T.M i col)) {L:bQ} {u64:Value} (c0:a7 0 L=some (.pointer (some ⟨aA 0,0,none⟩))) (ck:a7 1 L=some (.int .i64 (a:Int))) (cJ:a7 2 L=some (.int .i64 (col:Int))) (h1:a7 6 L=some (.slice (some ⟨aA (5+a),0,none⟩) P.n P.n)) (l10:a7 10 L=some (.slice (some ⟨aA (5+i),0,none⟩) P.n P.n)) (nc:a7 11 L=some w)
 (OV:a7 64 L=some u64) (OW:a7 65 L=some (.int .i64 (P.m:Int))) (aCB:a7 66 L=some (.int .i64 (i:Int))) {Q:c'}
 (fin:∀l' H',bp pm ba H0 H'->dH P ba H' aA lc cc (r2 T i P.n (xa T a col i))->Sub [(66,.int .i64 (i:Int)),(65,.int .i64 (P.m:Int)),(0,.pointer (some ⟨aA 0,0,none⟩)),(1,.int .i64 (a:Int)),(2,.int .i64 (col:Int)),(6,.slice (some ⟨aA (5+a),0,none⟩) P.n P.n),(64,u64)] l'->Q .normal l' H'):
 wp X pm (.code Dv) L H0 [] Q:=by
 have j2:=dU.n;have mM:=dU.m;have fC:t<=iP:=bH aS (by decide);have Sj:t+t<=iP:=bH (Nat.add_le_add aS aS) (by decide);have rH:=jh (ok:=pm.ok) (o:=pm.num) (bH ey (aD.ge (5+i) (by omega)));have dr:=aD.ne (i:=5+i) (j:=5+a) (by omega) (by omega) (by omega);simp[l10,-Sk]
 refine gG (σ:=Unit) P.n (λ_ _=>[(66,.int .i64 (i:Int)),(65,.int .i64 (P.m:Int)),(0,.pointer (some ⟨aA 0,0,none⟩)),(1,.int .i64 (a:Int)),(2,.int .i64 (col:Int)),(6,.slice (some ⟨aA (5+a),0,none⟩) P.n P.n),(10,.slice (some ⟨aA (5+i),0,none⟩) P.n P.n),(11,w),(64,u64)])
  (λk _ H'=>bp pm ba H0 H'/\dH P ba H' aA lc cc (r2 T i k (xa T a col i))) () (by decide) (by omega) (by simp[c0,ck,cJ,h1,l10,nc,OV,OW,aCB]) ⟨bp.refl g0,aD.congr (λ_ _=>rfl) (λ_ _=>rfl) (λ_ _=>rfl) λx y _ _=>by simp[r2]⟩ (by simp) ?_ ?_
 ·rintro k _ H1 ag ⟨fQ,t1⟩;have g1:=fQ.aL;obtain⟨cH,bJ,bG,cO⟩:=t1.row i hi;obtain⟨fr,bn,bh,cu⟩:=t1.row a aN;obtain⟨gP,vd,ib⟩:=cO k ag;obtain⟨GH,GI,xb⟩:=cu k ag;rw[aca]at ib;have aCC:(r2 T i k (xa T a col i)).M a k=T.M a k:=by
   show(if a=i/\k<k then _ else _)=_;rw[aU (by omega)]
  rw[aCC]at xb;have eo:=hw.up fQ;have s1:=aG i col hi af;have s2:=aG a k aN ag;have de:=aG i k hi ag;by_cases e:k=col
  ·subst e;simp[bn,GI,ag,-Sl];refine aR.bZb (vs:=[w,GH]) (sF al.toOb g1 eo.of xb.of (s1.ca fC) (s2.ca fC)) ?_;rintro r aJ ⟨aI,an⟩;obtain⟨rb,rfl,_⟩:=id an;have pM:=aI.some g1 bJ;obtain⟨fu,t3⟩:=(t1.k g1 aI).Ld aI.aL hi ag an pM;simp[pM,ag,rH,show k<cH.length by omega];refine⟨(fQ.k aI (bH aF fQ.next)).trans fu,t3.congr (λ_ _=>rfl) (λ_ _=>rfl) (λ_ _=>rfl) λx y _ _=>GG (by simp[xa]) x y⟩
  ·have bw:¬((k:Int)=(col:Int)):=by omega
   simp[bw,bn,GI,ag,-Sm,-Sn];refine aR.bZb (vs:=[GH]) (jF al.toOb g1 xb.of (s2.ca fC)) ?_;rintro _ H1 ⟨rfl,rfl⟩;by_cases gU:T.M a k=0
   ·simp[lj,gU];refine⟨fQ,t1.congr (λ_ _=>rfl) (λ_ _=>rfl) (λ_ _=>rfl) λx y _ _=>ab9 ?_ x y⟩;rw[xa,aU e,gU];grind
   ·have jG:=g1.lt bJ;have nj:=g1.lt bn;simp[lj,gU];refine eg.of g1.lo rfl ?_;have bE:K pm H1 (H1.up 15):=(K.refl g1).up 15;simp[dt,g1.none,g1.fo,bJ,vd,bn,GI,ag];have d1:=λm=>qz (eo.up bE) (xb.up bE) (bE.some g1 bJ) m;have d2:=λm=>qz (eo.up bE) (xb.up bE) (bE.some g1 bn) m;refine bZx bE.aL (vs:=[w,GH]) (by simp[g1.none]) (λpm' bS=>sF al.toOb bS (eo.up bE).of (xb.up bE).of (s1.ca fC) (s2.ca fC)) ?_;rintro qZ ep cv f6;have df:=cv.res g1;simp;refine bYf cv.aL (vs:=[gP,qZ]) (by simp[df]) (λpm' bS=>v8 al.toOb bS ((ib.up bE).up cv).of f6.of (de.ca fC) ((la s1 s2).ca Sj)) ?_;rintro AH hM dJ f7;have dW:=(K.trans cv dJ).res g1;have yJ:=bE.trans (cv.trans dJ);have pM:=yJ.some g1 bJ;obtain⟨rb,rfl,_⟩:=id f7;simp[dW,pM,ag,jh (bH ey (aD.ge (5+i) (by omega))),show k<cH.length by omega,dx,dm,jG,nj,ez,d1];obtain⟨fu,t3⟩:=(t1.k g1 yJ).Ld dJ.aL hi ag f7 pM;refine⟨(fQ.k yJ (bH aF fQ.next)).trans fu,t3.congr (λ_ _=>rfl) (λ_ _=>rfl) (λ_ _=>rfl) λx y _ _=>GG (by simp[xa,e]) x y⟩
 ·rintro _ bN ⟨fu,t3⟩;simp;exact fin _ _ fu t3 (by simp)
end
section
variable{P:cr}{ba:Nat}{aA:Nat->Nat}{lc cc:Value}{T:b8}
theorem aCD{a col k t:Nat}(aG:∀k,k<P.n->sz (T.M a k) t)(ag:k<P.n)(af:col<P.n)(aC:T.M a col≠0):sz (fY T a col k) (2*t):=by
 unfold fY;split
 ·exact ff (acb (aG col af) aC) (by omega)
 ·exact Lg (vP (aG k ag)) (aG col af) aC
def q0(T:b8)(a col i:Nat):b8:={T with M:=λx y=>if x=a then fY T a col y else if x<i then(T.fy a col).M x y else T.M x y}
theorem aCE(al:hj X)(g0:cl pm H0)(ey:pm.lo<=ba)(aF:ba<=H0.next)(dU:s9 P)(aD:dH P ba H0 aA lc cc T){t:Nat}(aS:t<=100000){a col:Nat}(aN:a<P.m)(af:col<P.n)(aG:∀k,k<P.n->sz (T.M a k) t)(aC:T.M a col≠0)
 {w:Value} (hw:c1 H0 w (T.M a col)) {ks:List Fr} {L:bQ} (c0:a7 0 L=some (.pointer (some ⟨aA 0,0,none⟩))) (ck:a7 1 L=some (.int .i64 (a:Int))) (cJ:a7 2 L=some (.int .i64 (col:Int))) (h1:a7 6 L=some (.slice (some ⟨aA (5+a),0,none⟩) P.n P.n)) (dO:a7 7 L=some w) (GJ:a7 25 L=some (.int .i64 (P.n:Int))) (aCF:a7 26 L=some (.int .i64 0)) {Q:c'}
 (fin:∀l' H',bp pm ba H0 H'->dH P ba H' aA lc cc (q0 T a col 0)->Sub [(0,.pointer (some ⟨aA 0,0,none⟩)),(1,.int .i64 (a:Int)),(2,.int .i64 (col:Int)),(6,.slice (some ⟨aA (5+a),0,none⟩) P.n P.n)] l'->wp X pm (.res .normal) l' H' ks Q):
 wp X pm (.code Lh) L H0 ks Q:=by
 have j2:=dU.n;have fC:t<=iP:=bH aS (by decide);have rH:=jh (ok:=pm.ok) (o:=pm.num) (bH ey (aD.ge (5+a) (by omega)));simp[-So]
 refine gG (σ:=Unit) P.n (λ_ _=>[(0,.pointer (some ⟨aA 0,0,none⟩)),(1,.int .i64 (a:Int)),(2,.int .i64 (col:Int)),(6,.slice (some ⟨aA (5+a),0,none⟩) P.n P.n),(7,w)])
  (λk _ H'=>bp pm ba H0 H'/\dH P ba H' aA lc cc (r2 T a k (fY T a col))) () (by decide) (by omega) (by simp[c0,ck,cJ,h1,dO,GJ,aCF]) ⟨bp.refl g0,aD.congr (λ_ _=>rfl) (λ_ _=>rfl) (λ_ _=>rfl) λx y _ _=>by simp[r2]⟩ (by simp) ?_ ?_
 ·rintro k _ H1 ag ⟨fQ,t1⟩;have g1:=fQ.aL;obtain⟨cH,bJ,bG,cO⟩:=t1.row a aN;obtain⟨gP,vd,ib⟩:=cO k ag;rw[aca]at ib;have eo:=hw.up fQ;have s1:=aG col af;have s2:=aG k ag;have sJ:k<cH.length:=by omega
  by_cases e:k=col
  ·subst e;simp[-Sp];refine aR.bZb (vs:=[.int .i64 1]) (sE al.toOb g1 (n:=1) (by omega) (by omega)) ?_;rintro r aJ ⟨aI,an⟩;simp[-Sq];refine aR.bZb (vs:=[r,w]) (K8 al.toOb aI.aL an.of (eo.up aI).of (by decide) (s1.ca fC) aC) ?_;rintro _ bN ⟨aQ,dh,rfl,lX⟩;obtain⟨rb,rfl,_⟩:=id lX;have h0:=aI.trans aQ;have pM:=h0.some g1 bJ;obtain⟨eX,t4⟩:=(t1.k g1 h0).Ld aQ.aL aN ag lX pM;simp[pM,ag,rH,sJ];refine⟨(fQ.k h0 (bH aF fQ.next)).trans eX,t4.congr (λ_ _=>rfl) (λ_ _=>rfl) (λ_ _=>rfl) λx y _ _=>GG (by simp[fY]) x y⟩
  ·have bw:¬((k:Int)=(col:Int)):=by omega
   simp[bw,bJ,vd,ag,-Sr,-Ss];refine aR.bZb (vs:=[gP]) (jF al.toOb g1 ib.of (s2.ca fC)) ?_;rintro _ H1 ⟨rfl,rfl⟩;by_cases gU:T.M a k=0
   ·simp[lj,gU];refine⟨fQ,t1.congr (λ_ _=>rfl) (λ_ _=>rfl) (λ_ _=>rfl) λx y _ _=>ab9 ?_ x y⟩;rw[fY,aU e,gU];grind
   ·simp[lj,gU,bJ,vd,ag,-St];refine aR.bZb (vs:=[gP]) (K7 al.toOb g1 ib.of (s2.ca fC)) ?_;rintro r aJ ⟨aI,an⟩;simp[-Su];refine aR.bZb (vs:=[r,w]) (K8 al.toOb aI.aL an.of (eo.up aI).of ((vP s2).ca fC) (s1.ca fC) aC) ?_;rintro _ bN ⟨aQ,dh,rfl,lX⟩;obtain⟨rb,rfl,_⟩:=id lX;have h0:=aI.trans aQ;have pM:=h0.some g1 bJ;obtain⟨eX,t4⟩:=(t1.k g1 h0).Ld aQ.aL aN ag lX pM;simp[pM,ag,rH,sJ];refine⟨(fQ.k h0 (bH aF fQ.next)).trans eX,t4.congr (λ_ _=>rfl) (λ_ _=>rfl) (λ_ _=>rfl) λx y _ _=>GG (by simp[fY,e]) x y⟩
 ·rintro _ bN ⟨fu,t3⟩;simp;refine fin _ _ fu (t3.congr (λ_ _=>rfl) (λ_ _=>rfl) (λ_ _=>rfl) λx y _ bu=>?_) (by simp);show(if x=a then fY T a col y else if x<0 then _ else T.M x y)=if x=a/\y<P.n then fY T a col y else T.M x y
  by_cases e:x=a
  ·simp[e,bu]
  ·simp[e]
end
section
variable{P:cr}{ba:Nat}{aA:Nat->Nat}{lc cc:Value}{T:b8}
theorem acd{a col i:Nat}(h:i=a∨T.M i col=0)(x y:Nat):(q0 T a col (i+1)).M x y=(q0 T a col i).M x y:=by
 show(if x=a then fY T a col y else if x<i+1 then(T.fy a col).M x y else T.M x y)=if x=a then fY T a col y else if x<i then(T.fy a col).M x y else T.M x y
 by_cases e:x=a
 ·simp[e]
 ·by_cases e2:x=i
  ·subst e2;have h:T.M x col=0:=h.resolve_left e;simp only[e,if_false,Nat.lt_irrefl,bXg,if_true];show(if x=a then _ else if y=col then T.M x col*fY T a col col else T.M x y+T.M x col*fY T a col y)=T.M x y;rw[aU e,h];split
   ·rename_i bu;subst bu;rw[h];grind
   ·grind
  ·by_cases bd:x<i
   ·simp[e,bd,show x<i+1 by omega]
   ·simp[e,bd,show ¬x<i+1 by omega]
theorem ace{a col i:Nat}(ta:i≠a):(q0 T a col i).M i=T.M i:=by
 funext y;show(if i=a then fY T a col y else if i<i then(T.fy a col).M i y else T.M i y)=_;simp[ta]
theorem aCG{a col i:Nat}:(q0 T a col i).M a=fY T a col:=by
 funext y;show(if a=a then fY T a col y else _)=_;simp
theorem aCH{a col i w:Nat}(ta:i≠a)(x y:Nat)(bu:y<w):(q0 T a col (i+1)).M x y=(r2 (q0 T a col i) i w (xa (q0 T a col i) a col i)).M x y:=by
 show(if x=a then fY T a col y else if x<i+1 then(T.fy a col).M x y else T.M x y)=if x=i/\y<w then xa (q0 T a col i) a col i y else(q0 T a col i).M x y
 by_cases e2:x=i
 ·subst e2;simp only[ta,if_false,bXg,if_true,bu,and_self];rw[xa,ace ta,aCG];show(if x=a then _ else if y=col then T.M x col*fY T a col col else T.M x y+T.M x col*fY T a col y)=_;rw[aU ta]
 ·simp only[e2,false_and,if_false];show _=if x=a then fY T a col y else if x<i then(T.fy a col).M x y else T.M x y
  by_cases bd:x<i
  ·simp[bd,show x<i+1 by omega]
  ·simp[bd,show ¬x<i+1 by omega]
theorem acf(al:hj X)(g0:cl pm H0)(ey:pm.lo<=ba)(aF:ba<=H0.next)(dU:s9 P)(aD:dH P ba H0 aA lc cc T){t:Nat}(fO:1<=t)(aS:t<=90000)(aG:∀i k,i<P.m->k<P.n->sz (T.M i k) t){a col:Nat}(aN:a<P.m)(af:col<P.n)(aC:T.M a col≠0):
 Call X pm F.uZ [.pointer (some ⟨aA 0,0,none⟩),.int .i64 (a:Int),.int .i64 (col:Int)] H0 λ_ H'=>bp pm ba H0 H'/\dH P ba H' aA lc cc (T.fy a col):=by
 refine Call.h6 al.uZ rfl λQ bU=>?_;have j2:=dU.n;have mM:=dU.m;have fC:t<=iP:=bH aS (by decide);have ft:0<P.m:=by omega
 have kA:0<P.n:=by omega
 have fq:=aD.t;rw[eQ (b:=aA 4) ft]at fq;obtain⟨ms,m1,m2,m3⟩:=aD.m ft;have AI:=m3 a aN;obtain⟨cH,bJ,bG,cO⟩:=aD.row a aN;obtain⟨o1,u',n9⟩:=cO col af;simp[fq,m1,AI,aN,-Sv];simp[bJ,u',af,-Lh,-Sw];refine aCE al g0 ey aF dU aD (t:=t) (by omega) aN af (λk ag=>aG a k aN ag) aC n9 (by simp) (by simp) (by simp) (by simp) (by simp) (by simp) (by simp) (λck H1 fQ t1 oJ=>?_);simp only[Gz]at oJ;obtain⟨jx,tU,zw,NY,_⟩:=oJ;have acg:=t1.t;rw[eQ (b:=aA 4) ft]at acg;have rB:∀i x y,x<P.m->y<P.n->sz ((q0 T a col i).M x y) (4*t+1):=λi x y az bu=>by
  have q':=λy bu=>aCD (T:=T) (a:=a) (col:=col) (k:=y) (λk ag=>aG a k aN ag) bu af aC;show sz (if x=a then fY T a col y else if x<i then(T.fy a col).M x y else T.M x y) _;split
  ·exact ff (q' y bu) (by omega)
  ·rename_i xc;split
   ·show sz (if x=a then _ else if y=col then T.M x col*fY T a col col else T.M x y+T.M x col*fY T a col y) _;rw[aU xc];split
    ·exact ff (la (aG x col az af) (q' col af)) (by omega)
    ·exact ff (zz (aG x y az bu) (la (aG x col az af) (q' y bu))) (by omega)
   ·exact ff (aG x y az bu) (by omega)
 simp[jx,acg,-Sx,-Sy]
 refine gG (σ:=Unit) P.m (λ_ _=>[(0,.pointer (some ⟨aA 0,0,none⟩)),(1,.int .i64 (a:Int)),(2,.int .i64 (col:Int)),(6,.slice (some ⟨aA (5+a),0,none⟩) P.n P.n),(64,.slice (some ⟨aA 4,0,none⟩) P.m P.m)])
  (λi _ H'=>bp pm ba H0 H'/\dH P ba H' aA lc cc (q0 T a col i)) () (by decide) (by omega) (by simp[jx,tU,zw,NY]) ⟨fQ,t1⟩ (by simp) ?_ ?_
 ·rintro i _ aJ hi ⟨fm,t2⟩;have g2:=fm.aL;have rj:=bH aF fm.next;obtain⟨aHj,cS,bL,kF⟩:=t2.m ft;have aCI:=kF i hi;obtain⟨fr,bn,bh,cu⟩:=t2.row i hi;obtain⟨aCJ,aCK,ach⟩:=cu col af;simp[cS,aCI,hi,bn,aCK,af,zWb,-Li,-Dv];by_cases ta:i=a
  ·subst ta;simp;refine aR.not (by simp) ?_;simp[zWb];exact⟨fm,t2.congr (λ_ _=>rfl) (λ_ _=>rfl) (λ_ _=>rfl) λx y _ _=>acd (.inl rfl) x y⟩
  ·have aCL:¬((i:Int)=(a:Int)):=by omega
   have Sz:((i:Int)==(a:Int))=false:=by simpa using aCL
   simp[Sz,-Li,-Dv];have Dw:(q0 T a col i).M i col=T.M i col:=by rw[ace ta]
   refine aR.bZb (vs:=[aCJ]) (jF al.toOb g2 ach.of ((rB i i col hi af).ca (bH (show 4*t+1<=400000 by omega) (by decide)))) ?_;rintro _ aJ ⟨rfl,rfl⟩;by_cases gU:T.M i col=0
   ·simp[lj,Dw,gU];exact⟨fm,t2.congr (λ_ _=>rfl) (λ_ _=>rfl) (λ_ _=>rfl) λx y _ _=>acd (.inr gU) x y⟩
   ·simp[lj,Dw,gU,-Dv];refine aCA al g2 ey rj dU t2 (t:=4*t+1) (by omega) (rB i) aN hi ta af ach (u64:=.slice (some ⟨aA 4,0,none⟩) P.m P.m) (by simp) (by simp) (by simp) (by simp) (by simp) (by simp) (by simp) (by simp) (by simp) λl' H' k5 ra ku=>?_;simp;exact⟨by simpa using ku,fm.trans k5,ra.congr (λ_ _=>rfl) (λ_ _=>rfl) (λ_ _=>rfl) λx y _ bu=>aCH ta x y bu⟩
 ·rintro _ aJ ⟨fm,t2⟩;have g2:=fm.aL;have eb:=t2.t;rw[eQ (b:=aA 2) ft,eQ (b:=aA 3) kA]at eb;obtain⟨rs,b4,cB,dh⟩:=t2.r ft;obtain⟨cs,cy,dd,dy⟩:=t2.c kA;have Dx:=dh a aN;have w8:=dy col af;have aci:a<rs.length:=by omega
  have acj:col<cs.length:=by omega
  have kf:rs[a]=.int .i64 (T.rows a:Int):=by
   have:=hG aci;rw[Dx]at this;exact(bYd this).symm
  have iZ:cs[col]=.int .i64 (T.aj col:Int):=by
   have:=hG acj;rw[w8]at this;exact(bYd this).symm
  have l1:=g2.lt eb;have nj:=g2.lt b4;have n0:=g2.lt cy;have dr:=t2.ne (i:=2) (j:=3) (by omega) (by omega) (by decide);have Dw:=λo=>jh (ok:=pm.ok) (o:=o) (bH ey (aD.ge 2 (by omega)));have aCM:=λo=>jh (ok:=pm.ok) (o:=o) (bH ey (aD.ge 3 (by omega)));simp;refine eg.of g2.lo rfl ?_;obtain⟨bN,iO⟩:=bZa ((aJ.up 28).put (aA 2) (.cells (rs.set a (.int .i64 (T.aj col:Int))) (.n 1)));have ack:bN.get (aA 3)=some (.cells cs (.n 1)):=by rw[iO,cq (Ne.symm dr)];exact cy
  have YI:∀t,bN.get (aJ.next+t)=none:=λt=>by rw[iO,cq (by omega)];exact g2.none t
  simp[dt,g2.none,g2.fo,<-iO,ack,YI,eb,b4,aN,cy,af,Dw,aCM,aci,acj,kf,iZ,zWb,dx,dm,l1,nj,n0];have bE:K pm aJ (aJ.up 28):=(K.refl g2).up 28;obtain⟨fu,t3⟩:=(t2.k g2 bE).aCu bE.aL aN (v:=T.aj col) (bE.some g2 b4);rw[<-iO]at fu t3;obtain⟨eX,t4⟩:=t3.mT fu.aL af (v:=T.rows a) ack;refine bU _ _ _ ?_;simp;refine⟨((fm.k bE (bH aF fm.next)).trans fu).trans eX,t4.congr (λ_ _=>rfl) (λ_ _=>rfl) (λ_ _=>rfl) λx y az _=>?_⟩;show(if x=a then fY T a col y else if y=col then _ else _)=if x=a then fY T a col y else if x<P.m then(T.fy a col).M x y else T.M x y
  by_cases e:x=a
  ·simp[e]
  ·rw[aU e,aU e,bm az];show _=if x=a then _ else _
   rw[aU e]
end
def e5:Option Nat->Int
 | none=>-1
 | some k=>k
theorem AB.load{P:cr}{b k:Nat}{v:Nat->Rat}(h:AB H P b k v){x:Nat}(az:x<k):∃ss p q c,H.get b=some (.cells ss (.n 3))/\cX ss (x*3) 3=some [p,q,c]/\qY H P v x p q c:=by
 obtain⟨ss,U,aa,aq⟩:=h;obtain⟨p,q,c,ao,e2,bd,b1⟩:=aq x az;refine⟨ss,p,q,c,U,?_,b1⟩;have aO:x*3+2<ss.length:=by omega
 unfold cX;rw[dA,bZK (show x*3+3<=ss.length by omega),cond_true];rw[I6 (show x*3<ss.length by omega),I6 (show x*3+1<ss.length by omega),I6 aO];rw[hG (by omega)]at ao e2 bd;cases ao;cases e2;cases bd;rfl
section
variable{P:cr}{ba:Nat}{aA:Nat->Nat}{lc cc:Value}{T:b8}
theorem GK{p:Nat->Bool}{key:Nat->Nat}{k:Nat}(h:p k=false):fX p key (k+1)=fX p key k:=by
 rw[fX];cases fX p key k<;>simp[h]
theorem GL{p:Nat->Bool}{key:Nat->Nat}{k b:Nat}(h:fX p key k=some b):b<k:=(zWd h).1
theorem aCN(al:hj X)(g0:cl pm H0)(dU:s9 P)(aD:dH P ba H0 aA lc cc T)(bj:fh P T){t:Nat}(aS:t<=100000)(aG:l4 P T t){a:Nat}(aN:a<P.m){way:Int}(kn:way=1∨way=-1):
 Call X pm F.wX [.pointer (some ⟨aA 0,0,none⟩),.int .i64 (a:Int),.int .i64 way] H0 λr H'=>K pm H0 H'/\r=.int .i64 (e5 (sP P T a way)):=by
 refine Call.h6 al.wX rfl λQ bU=>?_;have j2:=dU.n;have mM:=dU.m;have fC:t<=iP:=bH aS (by decide);have ft:0<P.m:=by omega
 have fq:=aD.t;rw[eQ (b:=aA 4) ft]at fq;obtain⟨ms,m1,m2,m3⟩:=aD.m ft;have AI:=m3 a aN;obtain⟨p,aC⟩:∃p:Nat->Bool,p=λk=>decide (T.M a k≠0)&&can P T.v (T.aj k) (way*cT (T.M a k)):=⟨_,rfl⟩;simp[fq,m1,AI,aN,-SA]
 refine gG (σ:=Unit) P.n (λk _=>[(0,.pointer (some ⟨aA 0,0,none⟩)),(1,.int .i64 (a:Int)),(2,.int .i64 way),(7,.int .i64 (e5 (fX p T.aj k))),(16,.slice (some ⟨aA (5+a),0,none⟩) P.n P.n)])
  (λk _ H'=>K pm H0 H') () (by decide) (by omega) (by simp[fX,e5]) (K.refl g0) (by simp) ?_ ?_
 ·rintro k _ H1 ag av;have g1:=av.aL;have kA:0<P.n:=by omega
  have jK:0<P.n+P.m:=by omega
  have t1:=aD.k g0 av;have fO:=t1.t;rw[eQ (b:=aA 1) jK,eQ (b:=aA 3) kA]at fO;obtain⟨cH,bJ,bG,cO⟩:=t1.row a aN;obtain⟨gP,vd,ib⟩:=cO k ag;obtain⟨cs,cy,dd,dy⟩:=t1.c kA;have xd:=dy k ag;have q1:=bj.c k ag;obtain⟨vs,va,vb,vc,v1,v2,v3⟩:=(t1.v jK).load q1;have k0:=aG.M a k aN ag;have l1:=g1.lt fO;have jG:=g1.lt v1;have n0:=g1.lt cy;have xe:=g1.lt bJ
  have last:∀(aJ:ah),K pm H0 aJ->p k=true->∀L:bQ,a7 0 L=some (.pointer (some ⟨aA 0,0,none⟩))->a7 1 L=some (.int .i64 (a:Int))->a7 2 L=some (.int .i64 way)->a7 7 L=some (.int .i64 (e5 (fX p T.aj k)))->a7 8 L=some (.int .i64 (k:Int))->
   a7 16 L=some (.slice (some ⟨aA (5+a),0,none⟩) P.n P.n)->a7 17 L=some (.int .i64 (P.n:Int))->a7 18 L=some (.int .i64 (k:Int))->∀ha:c',(∀l' H',K pm H0 H'->Sub [(18,.int .i64 (k:Int)),(17,.int .i64 (P.n:Int)),(0,.pointer (some ⟨aA 0,0,none⟩)),(1,.int .i64 (a:Int)),(2,.int .i64 way),(7,.int .i64 (e5 (fX p T.aj (k+1)))),(16,.slice (some ⟨aA (5+a),0,none⟩) P.n P.n)] l'->ha .normal l' H')->
   wp X pm (.code ve) L aJ [] ha:=by
   intro aJ aI lT L c0 ck cJ dO e3 AJ sD r3 ha fin;have g2:=aI.aL;have t2:=aD.k g0 aI;have eb:=t2.t;rw[eQ (b:=aA 3) kA]at eb;obtain⟨ds,d1,d2,d3⟩:=t2.c kA;have AK:=d3 k ag;have GM:=g2.lt eb;have GN:=g2.lt d1;simp;refine eg.of g2.lo rfl ?_;have bE:K pm H0 (aJ.up 19):=aI.trans ((K.refl g2).up 19)
   cases ai:fX p T.aj k with
   | none=>
     rw[ai]at dO;simp[dt,g2.none,g2.fo,dO,e3,e5,dx,dm,zWb];exact fin _ _ bE (by simp[c0,ck,cJ,AJ,sD,r3,fX,ai,lT,e5])
   | some b=>
     rw[ai]at dO;have Lj:=GL ai;have o0:b<P.n:=by omega
     have GO:=d3 b o0;by_cases bO:T.aj k<T.aj b
     ·simp[dt,g2.none,g2.fo,c0,dO,e3,eb,d1,AK,GO,ag,o0,e5,dx,dm,GM,GN,bO];exact fin _ _ bE (by simp[c0,ck,cJ,AJ,sD,r3,fX,ai,lT,e5,bO])
     ·simp[dt,g2.none,g2.fo,c0,dO,e3,eb,d1,AK,GO,ag,o0,e5,dx,dm,GM,GN,bO];exact fin _ _ bE (by simp[c0,ck,cJ,AJ,sD,r3,dO,fX,ai,lT,e5,bO])
  simp[bJ,vd,ag,-ve];refine eg.of g1.lo rfl ?_;simp[dt,g1.fo,-ve];have bE:K pm H1 (H1.up 24):=(K.refl g1).up 24;refine bYf bE.aL (vs:=[gP]) (by simp[g1.none]) (λpm' bS=>kM bS (jF al.toOb bS (ib.up bE).of (k0.ca fC))) ?_;rintro _ _-⟨rfl,rfl⟩;by_cases gU:T.M a k=0
  ·have bl:(cT (T.M a k)==0)=true:=by simp[lj,gU]
   simp[bl,zWb,g1.none,-ve];refine g'.not (by simp[g1.none]) (by simp) ?_;simp[zWb,g1.none,-ve];refine g'.not (by simp[g1.none]) (by simp) ?_;simp[zWb,g1.none,dx,dm,ez];exact⟨by rw[GK (by rw[aC];simp[gU])],av.trans bE⟩
  ·have bl:(cT (T.M a k)==0)=false:=by simp[lj,gU]
   have eo:=J2 kn gU;have mg:wr .i64 (way*cT (T.M a k))=way*cT (T.M a k):=zWc (by omega) (by omega);simp[bl,g1.none,fO,v1,cy,xd,ag,q1,v2,-ve];refine bZx bE.aL (vs:=[gP]) (by simp[g1.none]) (λpm' bS=>kM bS (jF al.toOb bS (ib.up bE).of (k0.ca fC))) ?_;rintro _ _-⟨rfl,rfl⟩;simp[g1.none,mg,-ve];refine Fq bE.aL (vs:=[.agg #[va,vb,vc],.int .i64 (way*cT (T.M a k))]) (by simp[g1.none]) (by simp) (by simp[c5]) rfl (λpm' bS=>abZ al bS (v3.k bE) (aG.v _ q1) (bH aS (by decide))) ?_;rintro _ aJ aI rfl;have df:=aI.res g1;have h8:=av.trans (bE.trans aI);have yK:=λm=>rA (ib.up bE) (bE.some g1 fO) m;have yL:=λm=>rA (ib.up bE) (bE.some g1 v1) m;have yM:=λm=>rA (ib.up bE) (bE.some g1 cy) m;have acm:=λm=>rA (ib.up bE) (bE.some g1 bJ) m
   cases hk:can P T.v (T.aj k) (way*cT (T.M a k)) with
   | false=>
     simp[df,dx,dm,l1,jG,n0,ez,yK,yL,yM];exact⟨by rw[GK (by rw[aC];simp[hk])],h8⟩
   | true=>
     simp[df,dx,dm,l1,jG,n0,ez,yK,yL,yM,-ve];exact last _ h8 (by rw[aC];simp[gU,hk]) _ (by simp) (by simp) (by simp) (by simp) (by simp) (by simp) (by simp) (by simp) _ λl' H' k' ku=>by
      simp;exact⟨by simpa using ku,k'⟩
 ·rintro _ H1 av;simp;refine bU _ _ _ ?_;simp[sP,aC];exact av
end
section
variable{P:cr}{ba:Nat}{aA:Nat->Nat}{lc cc:Value}{T:b8}
theorem aCO(al:hj X)(g0:cl pm H0)(dU:s9 P)(aD:dH P ba H0 aA lc cc T)(bj:fh P T){t:Nat}(aS:t<=100000)(aG:l4 P T t):
 Call X pm F.wY [.pointer (some ⟨aA 0,0,none⟩)] H0 λr H'=>K pm H0 H'/\r=.int .i64 (e5 (uC P T)):=by
 refine Call.h6 al.wY rfl λQ bU=>?_;have j2:=dU.n;have mM:=dU.m;have fq:=aD.t;obtain⟨base,gN,yH⟩:=uA (aA 2) P.m;rw[gN]at fq;obtain⟨p,aC⟩:∃p:Nat->Bool,p=λi=>decide (off P T.v (T.rows i)≠0):=⟨_,rfl⟩;simp[fq,-SB]
 refine gG (σ:=Unit) P.m (λk _=>[(0,.pointer (some ⟨aA 0,0,none⟩)),(3,.int .i64 (e5 (fX p T.rows k))),(9,.slice base P.m P.m)])
  (λk _ H'=>K pm H0 H') () (by decide) (by omega) (by simp[fX,e5]) (K.refl g0) (by simp) ?_ ?_
 ·rintro k _ H1 ag av;obtain rfl:=yH (by omega);have g1:=av.aL;have jK:0<P.n+P.m:=by omega
  have ft:0<P.m:=by omega
  have t1:=aD.k g0 av;have fO:=t1.t;rw[eQ (b:=aA 1) jK]at fO;obtain⟨rs,b4,cB,dh⟩:=t1.r ft;have aCP:=dh k ag;have q1:=bj.r k ag;obtain⟨vs,va,vb,vc,v1,v2,v3⟩:=(t1.v jK).load q1;simp[b4,aCP,ag,fO,v1,v2,q1,-SC];refine aR.of (vs:=[.agg #[va,vb,vc]]) (by simp) (by simp[c5]) (Sf al g1 v3 (aG.v _ q1) (bH aS (by decide))) ?_;rintro _ aJ ⟨aI,rfl⟩;have e0:=av.trans aI;have g2:=aI.aL;have t2:=aD.k g0 e0;have eb:=t2.t;rw[eQ (b:=aA 2) ft]at eb;obtain⟨ss,s1,s2,de⟩:=t2.r ft;by_cases bl:off P T.v (T.rows k)=0
  ·have Dk:(off P T.v (T.rows k)==0)=true:=by simpa using bl
   simp[Dk,zWb];exact⟨by rw[GK (by rw[aC];simp[bl])],e0⟩
  ·have Dk:(off P T.v (T.rows k)==0)=false:=by simpa using bl
   have lT:p k=true:=by rw[aC];simp[bl]
   cases ai:fX p T.rows k with
   | none=>
     simp[Dk,e5,zWb];exact⟨by simp[fX,ai,lT],e0⟩
   | some b=>
     have Lj:=GL ai;have tx:b<P.m:=by omega
     have acn:=de b tx;by_cases bO:T.rows k<T.rows b
     ·simp[Dk,e5,eb,s1,acn,tx,bO];exact⟨by simp[fX,ai,lT,bO],e0⟩
     ·simp[Dk,e5,eb,s1,acn,tx,bO];exact⟨by simp[fX,ai,lT,bO],e0⟩
 ·rintro _ H1 av;simp;refine bU _ _ _ ?_;simp[uC,aC];exact av
end
end Go.Dam.C
