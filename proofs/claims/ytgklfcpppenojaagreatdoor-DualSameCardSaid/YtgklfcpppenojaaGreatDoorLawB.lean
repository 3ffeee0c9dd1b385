/- What the functions of the program compute, for every input. -/
import Derived.Test.YtgklfcpppenojaaGreatDoorLawA
import Derived.Lib.ItoaNum
import Derived.Lib.ParseIntB
import Derived.Lib.SlTrimSet
import Derived.Lib.Repeat
namespace Go.Dam.C
open Go Go.Dam
variable{X:aY}{pm:Perm}{H H':ah}
section
variable[cn]
theorem gm.nat{v:Value}{ds:List Nat}(h:gm H v (strip ds)):c6 H v (bb ds):=⟨⟨_,h,C1 ds,qn ds⟩⟩
theorem gm.block{v:Value}{ds:List Nat}(h:gm H v ds)(aD:ds≠[]):∃b x s,v=.pointer (some ⟨b,0,none⟩)/\H.get b=some x/\rowOf x=some [s]/\er H s ds:=by
 rcases h with⟨_,h⟩ | h
 ·exact absurd h aD
 ·obtain⟨b,x,s,U,aa,aq,a8⟩:=h;exact⟨b,x,s,U,aa,aq.1,a8⟩
def wN(pm:Perm)(H:ah)(a b:List Nat):c':=λx l H'=>(x=gr.normal∨x=gr.ret)/\∃vs,nb l H' [.slot 4,.slot 5,.slot 6]=some vs/\
 (b6 pm H H'/\(bb b=0/\j5 vs=.tuple #[.pointer none,.pointer none,.bool false]∨bb b≠0/\∃q m,j5 vs=.tuple #[q,m,.bool true]/\c6 H' q (bb a/bb b)/\c6 H' m (bb a%bb b)))
end
theorem KH{b:List Nat}(aG:strip b=b):bb b=0↔b=[]:=by
 constructor
 ·intro h;have:=yt aG (k:=0) (by rw[h];simp);exact List.length_eq_zero_iff.1 (by omega)
 ·rintro rfl;rfl
section
variable[cn]
theorem _root_.Go.Dam.cU.perm{pm':Perm}(h:cU pm' H)(aF:pm.num=none)(aO:pm.lo<=H.next):cU pm H:=⟨aF,aO,h.wf,h.new⟩
theorem _root_.Go.Dam.b6.perm{pm':Perm}(h:b6 pm' H H')(aF:pm.num=none)(aO:pm.lo<=H.next):b6 pm H H':=⟨h.ok.perm aF (bH aO h.next),h.next,h.get⟩
theorem _root_.Go.Dam.b6.aAX{c:Nat}(au:cU pm H){n:Nat}(af:H.next<=c)(aF:c<H.next+n)(x:cj):b6 pm H ((H.up n).put c x) where
 ok:=⟨au.num,bH au.lo (hS _ _),λb ai=>by
  have ai:H.next+n<=b:=ai;rw[cq (by omega),zY];exact au.wf b (by omega),λb ai=>au.new b (bH (hS _ _) ai)⟩
 next:=hS _ _
 get:=λb ai=>by rw[cq (by omega),zY]
theorem er.hV{v:Value}{ds:List Nat}(h:er H v ds){k:List Value->Nat->bF}:(hV 1 v k).run pm H=(k (c4 ds) ds.length).run pm H:=by
 obtain⟨_,⟨rfl,rfl⟩ | ⟨c,off,cap,y,row,rfl,U,aa,aq,a8,_⟩⟩:=h
 ·rfl
 ·simp only[Dam.hV,bF.run,U,aa.row,Nat.mul_one,cX,dA];rw[bZF a8];simp only[cond_true,aq]
theorem er.parts{v:Value}{ds:List Nat}(h:er H v ds)(aD:ds≠[]):∃c off cap y row,v=.slice (some ⟨c,off,none⟩) ds.length cap/\H.get c=some y/\rowOf y=some row/\cX row off ds.length=some (c4 ds):=by
 obtain⟨_,⟨rfl,rfl⟩ | ⟨c,off,cap,y,row,rfl,U,aa,aq,a8,_⟩⟩:=h
 ·exact absurd rfl aD
 ·refine⟨c,off,cap,y,row,rfl,U,aa.row,?_⟩;simp only[cX,dA];rw[bZF a8];simp only[cond_true,aq]
end
theorem aAY(ds:List Nat):(c4 ds).all fG=true:=by simp[c4]
theorem aAZ{pm:Perm}{c off len cap bytes n:Nat}{cs:List Value}{new:List Value}{z:dI}(h:H.get c=some (.cells cs z))(hm:pm.may c=true)(aF:new.length=n)(aD:n≠0)(af:len+n<=cap)(aO:off+len+n<=cs.length)(oA:new.all fG=true):
 (iV 1 bytes (.slice (some ⟨c,off,none⟩) len cap) new n).run pm H=some (.slice (some ⟨c,off,none⟩) (len+n) cap,H.put c (.cells (cs.take (off+len)++(new++cs.drop (off+len+n))) z)):=by
 subst aF;simp only[iV,ed,dA,aD,af,decide_false,decide_true,cond_false,cond_true,putRow,bF.run,h,oA,setCells,Nat.mul_one];rw[bZF aO];simp only[cond_true,bF.run,hm]
theorem aA0{pm:Perm}{c off len cap bytes n:Nat}{cs:List Value}{new:List Value}{z:dI}(h:H.get c=some (.cells cs z))(hm:pm.may c=true)(aF:new.length=n)(aD:n≠0)(af:len+n<=cap)(aO:off+len+n<=cs.length)(oA:new.all fG=true):
 (iV 1 bytes (.slice (some ⟨c,off,none⟩) len cap) new n).runT pm H=some (.slice (some ⟨c,off,none⟩) (len+n) cap,H.put c (.cells (cs.take (off+len)++(new++cs.drop (off+len+n))) z),[c],[c]):=by
 subst aF;simp only[iV,ed,dA,aD,af,decide_false,decide_true,cond_false,cond_true,putRow,bF.runT,h,oA,setCells,Nat.mul_one];rw[bZF aO];simp only[cond_true,bF.runT,hm]
theorem aA1{x:Nat}(h:x≠0):0<aA x:=by unfold aA;rw[aU h];omega
theorem aA2{x k:Nat}(h:x<2^k):aA x<=k:=by
 by_cases aD:x=0
 ·subst aD;simp[aA]
 ·have U:=Ks aD;have:=(bYt (by omega:1<2)).1 (eD U h);omega
section
variable[cn]
structure l5(pm:Perm)(c:Nat)(H H':ah):Prop where
 ok:cU pm H'
 next:H.next<=H'.next
 get:∀x,x<H.next->x≠c->H'.get x=H.get x
theorem l5.refl(au:cU pm H)(c:Nat):l5 pm c H H:=⟨au,bR _,λ_ _ _=>rfl⟩
theorem l5.bT{c:Nat}{cL:ah}(h:l5 pm c H H')(g:b6 pm H' cL):l5 pm c H cL:=⟨g.ok,bH h.next g.next,λx az af=>(g.get x (hR az h.next)).trans (h.get x az af)⟩
theorem l5.only{c:Nat}{cL:ah}(h:l5 pm c H H')(g:kY pm c H' cL):l5 pm c H cL:=⟨g.ok,bH h.next g.next,λx az af=>(g.get x af).trans (h.get x az af)⟩
theorem l5.put{c d:Nat}(h:l5 pm c H H'){y:cj}(bu:H'.get d=some y)(aB:d=c∨H.next<=d)(x:cj):l5 pm c H (H'.put d x) where
 ok:=⟨h.ok.num,h.ok.lo,λb ai=>by have ai:H'.next<=b:=ai;have:=h.ok.lt bu;rw[cq (by omega)];exact h.ok.wf b ai,λb ai=>h.ok.new b ai⟩
 next:=h.next
 get:=λz bl af=>by rw[cq (by omega)];exact h.get z bl af
theorem l5.to{c:Nat}{H0:ah}(h:l5 pm c H H')(k:b6 pm H0 H)(af:H0.next<=c):b6 pm H0 H':=⟨h.ok,bH k.next h.next,λb ai=>(h.get b (hR ai k.next) (by omega)).trans (k.get b ai)⟩
theorem uR.aaR{cb c:Nat}{v:Value}{ds:List Nat}(h:uR cb H v ds)(au:cU pm H)(dr:cb≠c)(k:l5 pm c H H'):uR cb H' v ds:=by
 obtain⟨aO,off,cap,y,row,U,aa,aq⟩:=h;exact⟨aO,off,cap,y,row,U,(k.get cb (au.lt aa) dr).trans aa,aq⟩
end
theorem im{W:List Nat}{L:Nat}(bC:L<W.length)(h:dg W L=0):c4 W=(c4 W).take L++([.int .u32 0]++(c4 W).drop (L+1)):=by
 have:W.set L 0=W:=by
  apply bYj;intro i;by_cases ad:L=i
  ·subst ad;simp[dg,bC]at h;simp[bC,h]
  ·simp[ad]
 have aa:=setCells_one (cs:=c4 W) (i:=L) (v:=.int .u32 ((0:Nat):Int)) (by simpa using bC);rw[uO,this]at aa;have aq:setCells (c4 W) L [.int .u32 0]=some (c4 W):=aa;simp only[setCells,dA,List.length_singleton]at aq;rw[bZF (by rw[uN];omega)]at aq;simp only[cond_true,a6]at aq;exact aq.symm
theorem aA3{w:List Nat}{k:Nat}(h:k<=w.length):bb (w.take k)=b3 w k:=by
 have U:=Kt (w.take k) (w.drop k);rw[bXA]at U;have aa:=C' w k;rw[bYl,bYL h]at U;unfold aw at aa;omega
theorem aA4(p w:List Nat):aw (p++w) p.length=bb w:=by simp[aw]
section
variable[cn]
theorem aA5(al:fa X){H0:ah}(ea:b6 pm H0 H){c cb n m fH by':Nat}(kj:H0.next<=c)(uz:cn.s c){W a b b':List Nat}{vb:Value}(uU:H.get c=some (.cells (c4 W) (.n 1)))(Ry:W.length=n+2)(gy:fH=n+2)(kg:e' W)(eO:pm.may c=true)
 (ai:uR cb H vb b') (lI:cb≠c) (eP:b'.length=m+2) (hZ:strip b'=b') (yB:bb W=bb a*2^by') (oC:bb b'=bb b*2^by') (IF:m+2<=n) (aF:n<268435456) (fE:bb b≠0) (Rz:4294967296^(m+1)<=bb b)
 (hK:by'<32) (De:bb a<4294967296^n) {l:bQ} {v0:Value} (_aGM:a7 0 l=some v0) (dO:a7 7 l=some vb) (l10:a7 10 l=some (.int .i64 (by':Int))) (nc:a7 11 l=some (.slice (some ⟨c,0,none⟩) (n+1) fH)):wp X pm (.code Df) l H [] (wN pm H0 a b):=by
 have au:=ea.ok;obtain⟨n5,KI,kO,yw,rfl,f1,f2,f3⟩:=ai.2;rw[eP]at dO ai;have d':c<H.next:=au.lt uU;obtain⟨K,db⟩:=bZa (n+1-(m+2));have df:wr .i64 ((n:Int)+1-((m:Int)+2))=(K:Int):=by rw[zWc (by omega) (by omega)];omega
 obtain⟨V,eI⟩:=bZa (bb b');have Db:0<V:=by rw[eI,oC];exact bYM (tq fE) (lC _)
 have fM:=ai.1;have wO:=lC by';have aaS:V<4294967296^(m+2):=by rw[eI,<-eP];exact s0 fM
 have aGN:4294967296^(m+1)<=V:=by
  have:=C2 hZ (by rintro rfl;simp at eP);rwa [eP,show m+2-1=m+1 by omega,<-eI]at this
 have aA6:dg b' (m+2-1)≠0:=by
  intro h;have aa:bb b'=b3 b' (m+1):=by rw[<-kX (ds:=b') (i:=m+1+1) (by omega),b3];simp at h;simp[h]
  have:=pF fM (m+1);omega
 simp[-Dg,dO,nc,df];rw[rD au (by omega) (by omega)];simp[-Dg];have aA7:l5 pm c H (H.new (.cells (times [.int .u32 0] K) (.n 1))):=(l5.refl au c).bT ((b6.refl au).new _);have RA:wr .i64 ((K:Int)-1)=(K:Int)-1:=zWc (by omega) (by omega)
 refine hv.of (λt:Nat×List Nat×List Nat=>[(7,.slice (some ⟨cb,n5,none⟩) (m+2) KI),(10,.int .i64 (by':Int)),(11,.slice (some ⟨c,0,none⟩) (n+1) fH),(12,.slice (some ⟨H.next,0,none⟩) K K),(13,.int .i64 ((t.1:Int)-1))])
  (λt H'=>l5 pm c H H'/\H'.get c=some (.cells (c4 t.2.1) (.n 1))/\H'.get H.next=some (.cells (c4 t.2.2) (.n 1))/\e' t.2.1/\t.2.1.length=n+2/\e' t.2.2/\t.2.2.length=K/\t.1<=K/\
   aw t.2.1 t.1<V/\bb W=bb t.2.1+aw t.2.2 t.1*(4294967296^t.1*V)) (λt=>t.1) (K,W,List.replicate K 0) (by simp[dO,l10,nc,RA]) ⟨aA7,by rw[zy d'];exact uU,by rw[C3];simp,kg,Ry,aav K,by simp,by simp,?_,?_⟩ ?_
 ·show aw W K<V;rw[Gk W K kg,yB];refine bYI ?_;refine hR (bXY De wO) ?_;have ao:4294967296^n=4294967296^K*4294967296^(m+1):=by rw[<-hT];congr 1;omega
  rw[ao,og];refine r8 _ ?_;rw[eI,oC];exact hQ _ Rz
 ·show bb W=bb W+aw (List.replicate K 0) K*_;rw[Ak (by simp)];simp
 rintro⟨k,w,fr⟩ H1 ⟨av,hb,lK,mJ,wL,RB,Dh,aA8,Gp,gk⟩;simp only at hb lK mJ wL RB Dh aA8 Gp gk
 cases k with
 | zero=>
   simp;rw[ys]at Gp;rw[ys]at gk;simp only[Nat.pow_zero,Nat.one_mul]at gk;have Aq:bb fr=bb a/bb b:=by
    have:bb W/V=bb fr:=by
     rw[gk,Nat.add_mul_div_right _ _ Db,bYV Gp];omega
    rw[<-this,yB,eI,oC,Nat.mul_div_mul_right _ _ wO]
   have aA9:bb w=bb a%bb b*2^by':=by
    have:bb W%V=bb w:=by rw[gk,Nat.add_mul_mod_self_right,q4 Gp]
    rw[<-this,yB,eI,oC,Nat.mul_mod_mul_right]
   have KJ:bb (w.take (n+1))=bb w:=by
    rw[aA3 (by omega)];have U:=C' w (n+1);have aa:aw w (n+1)=0:=by
     rw[Gk w _ mJ];refine bYV ?_;have:4294967296^(m+2)<=4294967296^(n+1):=iH (by omega) (by omega);exact hR (Nat.lt_trans Gp aaS) this
    rw[aa,Nat.mul_zero,Nat.add_zero]at U;exact U.symm
   have aBa:er H1 (.slice (some ⟨c,0,none⟩) (n+1) fH) (w.take (n+1)):=⟨λd aB=>mJ d (bYk aB),.inr ⟨c,0,fH,_,_,by simp[wL],hb,.inl rfl,by simp[c4,List.map_take,wL],by simp[wL],by simp[wL];omega,uz⟩⟩;refine aR.bZb (qT al.fB av.ok (yu lK RB Dh (au.new _ (bR _))) (by omega)) ?_;rintro b4 aJ ⟨aI,kb⟩;simp;refine aR.bZb (qT al.fB aI.ok (aBa.bT av.ok aI) (by simp;omega)) ?_;rintro cB bN ⟨aQ,kB⟩;simp;refine aR.bZb (aaB al aQ.ok kB (eD (Q' _) (by simp;omega)) (k:=by') (by omega)) ?_;rintro dh cp ⟨bt,aBb,lX,_,wP,_⟩;simp[wN,fE];refine⟨(av.to ea kj).trans (aI.trans (aQ.trans bt)),b4,dh,⟨rfl,rfl⟩,?_,?_⟩
   ·rw[<-Aq];exact(kb.bT aI.ok (aQ.trans bt)).nat
   ·have:bb a%bb b=bb aBb:=by rw[wP,qn,KJ,aA9,Nat.mul_div_cancel _ wO]
    rw[this];exact lX.nat
 | succ k=>
   obtain⟨h,c9⟩:=bZa (k+(m+2)+1);have s6:wr .i64 (wr .i64 ((k:Int)+((m:Int)+2))+1)=(h:Int):=by rw[zWc (n:=(k:Int)+((m:Int)+2)) (by omega) (by omega),zWc (by omega) (by omega)];omega
   have qi:=aar (pm:=pm) (H:=H1) (esz:=1) (l:=k) (h:=h) (m:=fH) (cap:=fH) (off:=0) hb (.inl rfl) (by omega) (by omega) (bR _);simp only[Nat.zero_add,Nat.mul_one]at qi;have aBc:h-k=m+2+1:=by omega
   rw[aBc]at qi;simp[-Dg,s6,qi];obtain⟨u,hu⟩:=bZa (w.drop k);have aaT:w.take k++u=w:=by rw[hu];exact bXA k w
   have iK:(w.take k).length=k:=by simp[wL];omega
   have aaU:e' u:=by rw[hu];exact λd aB=>mJ d (bWe aB)
   have aBd:u.length=n+2-k:=by rw[hu,bWd,wL]
   have aGO:bb u=dg w k+4294967296*aw w (k+1):=by rw[hu];exact qU w k
   have xy:=mJ.dg k;have RC:bb u<4294967296*V:=by omega
   have zU:aw u (m+2+1)=0:=by
    rw[Gk u _ aaU];refine bYV (hR RC ?_);rw[bZh,gw];exact hQ _ (bWI aaS)
   have aaV:b3 u (m+2+1)=bb u:=by
    have:=C' u (m+2+1);rw[zU,Nat.mul_zero,Nat.add_zero]at this;exact this.symm
   have dr:H.next≠c:=by omega
   have lM:=aAP al (pm:=pm) (H:=H1) av.ok (c:=c) (cb:=cb) (j:=k) (n:=m+2) (cap:=fH-k) eO lI (p:=w.take k) (w:=u) (b:=b') (vb:=.slice (some ⟨cb,n5,none⟩) (m+2) KI) iK (by rw[aaT];exact hb) aaU (ai.aaR au lI av) eP.symm (by omega) (by omega) (by omega) (by omega) aA6 (by rw[aaV,<-eI];exact RC);rw[aaV,<-eI]at lM;refine aR.bZb lM ?_;rintro _ aJ ⟨rfl,kZ,w',kC,rX,Dc,aBe,aBf⟩;obtain⟨Q,bU⟩:=bZa (bb u/V);have aBg:Q<4294967296:=by rw[bU];exact bYI (by rw[gw];exact RC)
   rw[<-bU];have vM:aJ.get H.next=some (.cells (c4 fr) (.n 1)):=(kZ.get _ dr).trans lK;have lN:=setCells_one (cs:=c4 fr) (i:=k) (v:=.int .u32 (Q:Int)) (by rw[uN,Dh];omega);rw[uO]at lN;have aBh:pm.may H.next=true:=au.may (bR _);simp[-Dg,show k<K by omega,vM,lN,aBh];have aBi:aw w' (m+2+1)=0:=by
    have:w'.drop (m+2+1)=u.drop (m+2+1):=by
     apply bYj;intro i;have U:=aBf (m+2+1+i) (by omega);simp only[o'];unfold dg at U
     rcases bXo (m+2+1+i) u.length with aa | aa
     ·have aq:m+2+1+i<w'.length:=by omega
      simp only[hG aa,hG aq,bZy]at U|-;rw[U]
     ·rw[jq aa,jq (by omega)]
    unfold aw at zU|-;rw[this];exact zU
   have aaW:bb w'=bb u%V:=by
    have:=C' w' (m+2+1);rw[aBi,Nat.mul_zero,Nat.add_zero,aBe]at this;exact this
   have sJ:k<K:=by omega
   refine .of (k,w.take k++w',fr.set k Q) (by simp) (by simp;rw[zWc (by omega) (by omega)]) ⟨(av.only kZ).put vM (.inr (bR _)) _,?_,by simp,?_,?_,RB.set k aBg,by simp[Dh],by simp;omega,?_,?_⟩
   ·show(aJ.put H.next _).get c=_;rw[cq (by omega)];exact kC
   ·intro d aB
    rcases bYv.1 aB with h | h
    ·exact mJ d (bYk h)
    ·exact rX d h
   ·show(w.take k++w').length=n+2;rw[tr,iK,Dc,aBd];omega
   ·show aw (w.take k++w') k<V;have:=aA4 (w.take k) w';rw[iK]at this;rw[this,aaW];exact bYe _ Db
   ·show bb W=bb (w.take k++w')+aw (fr.set k Q) k*(4294967296^k*V);rw[gk,Kt,iK,aaW,qU (fr.set k Q) k,Gd (by omega),aaD (by omega),bZh];have ao:bb w=bb (w.take k)+4294967296^k*bb u:=by
     have:=Kt (w.take k) u;rw[aaT,iK]at this;exact this
    have e2:V*Q+bb u%V=bb u:=by rw[bU];exact bXl _ _
    rw[ao];generalize bb u%V=R at*
    rw[<-e2];generalize 4294967296^k=P;generalize aw fr (k+1)=Z;generalize bb (w.take k)=T;grind
theorem aBj(al:fa X){H0:ah}(ea:b6 pm H0 H){c cb ab n m fH by' hI:Nat}(kj:H0.next<=c)(uz:cn.s c){W a b b':List Nat}{vb:Value}{ax:cj}{aBk:Option Addr}{aaX:Nat}(uU:H.get c=some (.cells (c4 W) (.n 1)))(Ry:W.length=n+2)(gy:fH=n+2)(kg:e' W)
 (nQ:H.get ab=some ax) (py:rowOf ax=some [.slice aBk n aaX]) (Gq:ab≠c) (ai:uR cb H vb b') (lI:cb≠c) (eP:b'.length=m+2) (hZ:strip b'=b') (yB:bb W=bb a*2^by') (oC:bb b'=bb b*2^by') (IF:m+2<=n) (aF:n<268435456) (fE:bb b≠0) (Rz:4294967296^(m+1)<=bb b)
 (aaY:hI<=n+1) (bl:∀i,hI<=i->dg W i=0) (eO:pm.may c=true) (hK:by'<32) (De:bb a<4294967296^n)
 {l:bQ} (c0:a7 0 l=some (.pointer (some ⟨ab,0,none⟩))) (dO:a7 7 l=some vb) (l10:a7 10 l=some (.int .i64 (by':Int))) (nc:a7 11 l=some (.slice (some ⟨c,0,none⟩) hI fH)):wp X pm (.code wQ) l H [] (wN pm H0 a b):=by
 have au:=ea.ok;obtain⟨n5,KI,kO,yw,rfl,f1,f2,f3⟩:=ai.2;rw[eP]at dO;have d':c<H.next:=au.lt uU;simp[-Df]
 refine hv.of (λL:Nat=>[(0,.pointer (some ⟨ab,0,none⟩)),(7,.slice (some ⟨cb,n5,none⟩) (m+2) KI),(10,.int .i64 (by':Int)),(11,.slice (some ⟨c,0,none⟩) L fH)])
  (λL H'=>l5 pm c H H'/\H'.get c=some (.cells (c4 W) (.n 1))/\hI<=L/\L<=n+1) (λL=>n+1-L) hI (by simp[c0,dO,l10,nc]) ⟨l5.refl au c,uU,bR _,aaY⟩ ?_
 rintro L H1 ⟨av,hb,aBl,aGP⟩;have aaZ:=(av.get ab (au.lt nQ) Gq).trans nQ;by_cases hle:L<=n
 ·have hq:H1.get H1.next=none:=av.ok.wf _ (bR _);have aa0:c<H1.next:=av.ok.lt hb;have Di:=aAZ (H:=H1.new (.cells [.int .u32 0] (.n 1))) (bytes:=4) (off:=0) (len:=L) (cap:=fH) (n:=1) (c:=c) (pm:=pm) (cs:=c4 W) (new:=[.int .u32 0]) (z:=.n 1) (by rw[zy aa0];exact hb) eO rfl (by omega) (by omega) (by rw[uN];omega) rfl;rw[Nat.zero_add,<-im (by omega) (bl L aBl)]at Di;have df:((L:Int)<=(n:Int))=True:=by simp;exact hle
  simp[-Df,aaZ,py,hle,au.make,au.pick,cX,Di];refine⟨.of (L+1) (by simp;omega) (by simp) ⟨?_,by simp,by omega,by omega⟩,λh=>by omega⟩;exact(av.bT ((b6.refl av.ok).new _)).put (by rw[zy aa0];exact hb) (.inl rfl) _
 ·obtain rfl:L=n+1:=by omega
  simp[-Df,aaZ,py];refine⟨λh=>by omega,λ_=>?_⟩;exact aA5 al (av.to ea kj) kj uz hb Ry gy kg eO (ai.aaR au lI av) lI eP hZ yB oC IF aF fE Rz hK De (v0:=.pointer (some ⟨ab,0,none⟩)) (by simp) (by simp[eP]) (by simp) (by simp)
theorem er.iF{v:Value}{ds:List Nat}(h:er H v ds)(aD:ds≠[]):∃cb,uR cb H v ds:=by
 obtain⟨aO,⟨rfl,rfl⟩ | ⟨c,off,cap,y,row,rfl,U,aa,aq,a8,_⟩⟩:=h
 ·exact absurd rfl aD
 ·exact⟨c,aO,off,cap,y,row,rfl,U,aa.row,λi ad=>by rw[er.cell aq ad];simp[dg,ad]⟩
end
theorem aa1{ds:List Nat}(h:∀d∈ds,d=0):bb ds=0:=by
 induction ds with
 | nil=>rfl
 | cons d ds ih=>simp[bb,h d (.head _),ih λe he=>h e (.tail _ he)]
section
variable[cn]
theorem aBm(al:fa X)(au:cU pm H){v w:Value}{a b:List Nat}(aN:gm H v a)(ai:gm H w b)(jQ:strip a=a)(hZ:strip b=b)(ir:a.length<268435456)(iM:b.length<268435456)(aGQ:2<=b.length)(BH:bb b<=bb a)
 {l:bQ} {oY:Option Addr} {dZ:Nat} (h':er H (.slice oY b.length dZ) b) (c0:a7 0 l=some v) (ck:a7 1 l=some w) (dO:a7 7 l=some (.slice oY b.length dZ)):wp X pm (.code uV) l H [] (wN pm H a b):=by
 obtain⟨pI,rZ,RD⟩:=pm;obtain rfl:RD=none:=au.num;have hx:=aN.ej;have fM:=ai.ej;obtain⟨m,hm⟩:∃m,b.length=m+2:=⟨b.length-2,by omega⟩;obtain⟨n,aF⟩:=bZa (a.length);rw[<-aF]at ir;obtain⟨cb,n5,kO,yw,rfl,f1,f2,f3⟩:=h'.at rfl (i:=m+1) (by omega);rw[hm]at dO h';have fE:bb b≠0:=λh=>by have:=(KH hZ).1 h;rw[this]at hm;simp at hm
 have hlen:b.length<=n:=by rw[aF];exact yt hZ (eD BH (s0 hx))
 have d0:=fM.dg (m+1);have rT:bb b=b3 b (m+1)+dg b (m+1)*4294967296^(m+1):=by rw[<-kX (ds:=b) (i:=m+1+1) (by omega),b3]
 have aGR:=pF fM (m+1);have gh:dg b (m+1)≠0:=by
  intro aD;rw[aD,Nat.zero_mul,Nat.add_zero]at rT;have:=yt hZ (k:=m+1) (by omega);omega
 obtain⟨L,bC⟩:=bZa (aA (dg b (m+1)));have FD:L<=32:=by rw[bC];exact aA2 (by simpa using d0)
 have aaY:0<L:=by rw[bC];exact aA1 gh
 have wy:dg b (m+1)<2^L:=by rw[bC];exact Rc _
 have df:wr .i64 ((m:Int)+2-1)=((m+1:Nat):Int):=by rw[zWc (by omega) (by omega)];omega
 have aGS:wr .i64 ((m:Int)+1)=((m+1:Nat):Int):=by rw[zWc (by omega) (by omega)];omega
 simp[-wQ,dO,df,f1,f2,f3,fM.wK];refine aR.bZb (Re al (x:=dg b (m+1)) (by omega)) ?_;rintro _ H ⟨rfl,rfl⟩;rw[<-bC];obtain⟨by',hK⟩:=bZa (32-L);have dW:wr .i64 (32-(L:Int))=(by':Int):=by rw[zWc (by omega) (by omega)];omega
 simp[-wQ,ck,dW];refine aR.bZb (Ku al au ai (by omega) (k:=by') (by omega)) ?_;rintro b4 H1 ⟨av,aBn,kb,oJ,mj,j6⟩;obtain⟨b',ec⟩:=bZa (strip aBn);rw[<-ec]at kb;have aa2:strip b'=b':=by rw[ec];exact C1 _
 have aBo:e' b':=by rw[ec];exact aas oJ
 have aa3:bb b'=bb b*2^by':=by rw[ec,qn,mj]
 have lk:2^L*2^by'=4294967296:=by rw[<-hT,show L+by'=32 by omega]
 have wO:=lC by';have KK:b'.length=m+2:=by
  apply Nat.le_antisymm
  ·refine yt aa2 ?_;have cY:4294967296^(m+2)=4294967296^(m+1)*2^L*2^by':=by rw[bZh,og,lk]
   rw[aa3,cY];refine bXY ?_ wO;rw[rT,gw (4294967296^(m+1))];have:(dg b (m+1)+1)*4294967296^(m+1)<=2^L*4294967296^(m+1):=hQ _ wy;rw[bYw]at this;omega
  ·rcases bXo b'.length (m+2) with h | h
   ·exfalso;have U:=s0 aBo;have aa:4294967296^b'.length<=4294967296^(m+1):=iH (by omega) (by omega);have aq:=C2 hZ (by rintro rfl;simp at hm);rw[hm,show m+2-1=m+1 by omega]at aq;have a8:bb b*1<=bb b*2^by':=r8 _ wO;omega
   ·exact h
 obtain⟨aGT,Jx,aa4,rfl,h4,aBp,gQ⟩:=kb.block (by intro h;rw[h]at KK;simp at KK);have aa5:=aN.bT au av;have F5:a≠[]:=by rintro rfl;simp at aF;omega
 obtain⟨ab,ax,as,rfl,vx,py,eL⟩:=aa5.block F5;obtain⟨aGU,aGV,aaX,aGW,aGX,rfl,_,_,_⟩:=eL.parts F5;rw[<-aF]at eL py;simp[-wQ,h4,aBp];have ka:∀k,H1.get (H1.next+k)=none:=λk=>av.ok.wf _ (by omega);have Cb:H1.get H1.next=none:=av.ok.wf _ (by omega);have RE:ab<H1.next:=av.ok.lt vx;have gZ:wr .i64 ((n:Int)+2)=((n+2:Nat):Int):=by rw[zWc (by omega) (by omega)];omega
 obtain⟨fH,gy⟩:=bZa (n+2);rw[<-gy]at gZ;have xw:=aBq (H:=H1.up 15) (z:=[.int .u32 0]) (bytes:=4) (l:=0) (c:=fH) (lo:=pI) (b:=H1.next+6) (okl:=rZ) (by omega) (by omega) (by omega);obtain⟨c,af⟩:=bZa (H1.next+6);refine eg.of av.ok.lo rfl ?_;have dn:b6 ⟨pI,rZ,none⟩ H1 ((H1.up 15).put (H1.next+6) (.cells (times [.int .u32 0] fH) (.n 1))):=b6.aAX av.ok (by omega) (by omega) _;simp[-wQ,dt,c0,vx,py,ka,Cb,gZ,xw,ah.fS];obtain⟨uW,KL⟩:=bZa ((H1.up 15).put (H1.next+6) (.cells (times [.int .u32 0] fH) (.n 1)));have aGY:uW.next=H1.next+15:=by rw[KL];rfl
 have aBr:uW.get (H1.next+6)=some (.cells (times [.int .u32 0] fH) (.n 1)):=by rw[KL];simp
 rw[<-KL]at dn|-;have aa6:∀k,k≠6->uW.get (H1.next+k)=none:=λk ag=>by rw[KL,cq (by omega)];exact ka k
 have rM:=aa5.bT av.ok dn;refine g'.of (aa6 9 (by omega)) (by simp) (by simp) rfl (Ku al (pm:=⟨uW.next,_,none⟩) ⟨rfl,bR _,dn.ok.wf,dn.ok.new⟩ rM (by omega) (k:=by') (by omega)) ?_;rintro cB aJ ⟨aI,aBs,kB,qh,BG,rj⟩;obtain⟨a',pD⟩:=bZa (strip aBs);rw[<-pD]at kB;have aBt:strip a'=a':=by rw[pD];exact C1 _
 have aBu:e' a':=by rw[pD];exact aas qh
 have KM:bb a'=bb a*2^by':=by rw[pD,qn,BG]
 have aBv:a'.length<=n+1:=by
  refine yt aBt ?_;rw[KM,bZh];have U:=s0 hx;rw[<-aF]at U;have aa:2^by'<=4294967296:=iH (n:=2) (i:=by') (j:=32) (by omega) (by omega);exact hR (bXY U wO) (r8 _ aa)
 have uw:a'≠[]:=by
  intro aD;rw[aD]at KM;have U:=bYM (show 0<bb a by omega) wO;simp[bb]at KM;omega
 obtain⟨rb,rx,rs,rfl,KN,nk,As⟩:=kB.block uw;obtain⟨j1,aGZ,aG0,O4,aG1,rfl,KO,Dj,aa7⟩:=As.parts uw;have aBw:b6 ⟨pI,rZ,none⟩ uW aJ:=aI.perm rfl dn.ok.lo;have KP:∀k,k≠6->k<15->aJ.get (H1.next+k)=none:=λk ag fP=>(aI.get _ (by omega)).trans (aa6 k ag);have uU:aJ.get (H1.next+6)=some (.cells (times [.int .u32 0] fH) (.n 1)):=(aI.get _ (by omega)).trans aBr;have aa8:aJ.get ab=some ax:=(aI.get _ (by omega)).trans ((dn.get ab RE).trans vx);have aBx:uW.get ab=some ax:=(dn.get ab RE).trans vx;have aBy:Perm.may ⟨pI,rZ,some (H1.next+13)⟩ (H1.next+6)=true:=by
  unfold Perm.may;have:=av.ok.lo;have aa:pI<=H1.next+6:=by simp at this;omega
  simp[aa]
 have aG2:0<a'.length:=bYR.2 uw;have Di:=aA0 (bytes:=4) (off:=0) (len:=0) (cap:=fH) (pm:=⟨pI,rZ,some (H1.next+13)⟩) uU aBy (uN a') (by omega) (by omega) (by rw[C3,uN];simp;omega) (aAY a');simp only[Nat.zero_add,List.take_zero,bXK]at Di;obtain⟨W,Gr⟩:=bZa (a'++List.replicate (fH-a'.length) 0);have nU:c4 a'++List.drop a'.length (times [.int .u32 0] fH)=c4 W:=by
  rw[Gr,C3];simp[c4]
 rw[nU]at Di;have aa9:rb≠H1.next+6:=by rintro rfl;rw[uU]at KN;cases KN;rw[aba]at nk;rw[C3]at nk;cases fH with | zero=>simp[c4]at nk | succ q=>simp[c4,List.replicate_succ]at nk
 have KQ:gI ⟨pI,rZ,some (H1.next+9)⟩ [.pointer (some ⟨ab,0,none⟩),.int .i64 (by':Int)]=[]∨gI ⟨pI,rZ,some (H1.next+9)⟩ [.pointer (some ⟨ab,0,none⟩),.int .i64 (by':Int)]=[ab]:=by
  simp only[gI];cases Perm.may ⟨pI,rZ,some (H1.next+9)⟩ ab<;>simp
 have Gq:ab≠H1.next+6:=by omega
 have aBz:∀x,gp x []=true:=λx=>by simp[gp]
 have aBA:∀x,gp [] x=true:=λx=>rfl;have j8:gp [H1.next+6] [ab]=true:=by simp[gp];omega
 have aBB:gp [H1.next+6] [rb]=true:=by simp[gp];exact λh=>aa9 h.symm
 have cf:∀x y,aJ.get x=some y->x≠H1.next+6->(x<H1.next∨H1.next+15<=x):=by
  intro x y az dr
  rcases bXo x H1.next with h | h
  ·exact .inl h
  ·rcases bXo x (H1.next+15) with aa | aa
   ·exfalso;have:=KP (x-H1.next) (by omega) (by omega);rw[show H1.next+(x-H1.next)=x by omega,az]at this;cases this
   ·exact .inr aa
 have aBC:=cf rb rx KN aa9;have aBD:j1≠H1.next+6:=by
  rintro rfl;rw[uU]at KO;cases KO;rw[aba,C3]at Dj;cases Dj;obtain⟨_,g1⟩:=EN aa7;have:∀d∈a',d=0:=by
   intro d aB;have U:Value.int .u32 (d:Int)∈c4 a':=bZT.2 ⟨d,aB,rfl⟩;rw[g1]at U;have aa:=bWe (bYk U);obtain⟨e,he,aq⟩:=bZT.1 aa;rw[bWb he]at aq;simp only[Value.int.injEq,true_and]at aq;omega
  have aD:=aa1 this;have U:=bYM (show 0<bb a by omega) wO;omega
 have aBE:=cf j1 O4 KO aBD;obtain⟨KR,abb⟩:=gQ.iF (by rintro rfl;simp at KK);have aBF:KR<H1.next:=by obtain⟨_,_,_,_,_,_,h,_⟩:=abb;exact av.ok.lt h
 have aBG:b6 ⟨pI,rZ,none⟩ H (aJ.put (H1.next+6) (.cells (c4 W) (.n 1))):=((av.trans dn).trans aBw).put (by have:=av.next;omega) uU _;have aBH:bb W=bb a':=by
  rw[Gr,Kt,aa1 (ds:=List.replicate _ 0) λd aB=>bWb aB];simp
 have Qk:∀l:bQ,a7 0 l=some (.pointer (some ⟨ab,0,none⟩))->a7 7 l=some aa4->a7 10 l=some (.int .i64 (by':Int))->a7 11 l=some (.slice (some ⟨H1.next+6,0,none⟩) a'.length fH)->
  wp X ⟨pI,rZ,none⟩ (.code wQ) l (aJ.put (H1.next+6) (.cells (c4 W) (.n 1))) [] (wN ⟨pI,rZ,none⟩ H a b):=by
  intro l' cY nM Mw aBI;refine aBj al aBG (c:=H1.next+6) (cb:=KR) (ab:=ab) (n:=n) (m:=m) (W:=W) (b':=b') (vb:=aa4) (by have:=av.next;omega) (av.ok.new _ (by omega)) (by simp) (by rw[Gr];simp;omega) gy ?_ (ax:=ax) (by rw[cq Gq];exact aa8) py Gq ?_ (by omega) KK aa2 (by rw[aBH,KM]) aa3 (by omega) ir fE ?_ aBv ?_ ?_ (by omega) ?_ cY nM Mw aBI
  ·intro d aB;rw[Gr]at aB
   rcases bYv.1 aB with h | h
   ·exact aBu d h
   ·rw[bWb h];omega
  ·obtain⟨g1,go,gc,aBJ,aBK,g2,g3,g4⟩:=abb;exact⟨g1,go,gc,aBJ,aBK,g2,by rw[cq (by omega),aI.get KR (by omega),dn.get KR aBF];exact g3,g4⟩
  ·have:=C2 hZ (by rintro rfl;simp at hm);rwa [hm,show m+2-1=m+1 by omega]at this
  ·intro i ad;rw[Gr];simp only[dg];rw[lA ad,bXw];split<;>rfl
  ·have:=av.ok.lo;have aa:pI<=H1.next+6:=by simp at this;omega
   unfold Perm.may;simp[aa]
  ·rw[aF];exact s0 hx
 rcases KQ with KQ | KQ<;>simp[-wQ,KP,KN,nk,KO,Dj,aa7,Di,dx,dm,KQ,aBz,aBA,j8,aBB,ah.fS,HQ,xA,At,ik,vx,py,aBx,aa8,Gq,p1,D9,RE,aBC,aBE]
 ·refine Qk _ ?_ ?_ ?_ ?_<;>simp[c0]
 ·refine Qk _ ?_ ?_ ?_ ?_<;>simp[c0]
theorem Xb(al:fa X)(au:cU pm H){v w:Value}{a b:List Nat}(aN:gm H v a)(ai:gm H w b)(jQ:strip a=a)(hZ:strip b=b)(ir:a.length<268435456)(iM:b.length<268435456):
 Call X pm F.qm [v,w] H λr H'=>b6 pm H H'/\(bb b=0/\r=.tuple #[.pointer none,.pointer none,.bool false]∨bb b≠0/\∃q m,r=.tuple #[q,m,.bool true]/\c6 H' q (bb a/bb b)/\c6 H' m (bb a%bb b)):=by
 obtain⟨pI,rZ,RD⟩:=pm;obtain rfl:RD=none:=au.num;have hx:=aN.ej;have fM:=ai.ej;refine Call.has al.qm rfl ?_;show wp X _ _ _ _ _ (wN _ H a b);simp[-uV];refine aR.bZb (kW al.eK ai) ?_;rintro vb H ⟨rfl,h'⟩;obtain⟨oY,dZ,rfl⟩:=h'.form;simp[-uV];by_cases fE:b=[]
 ·subst fE;simp[wN,bb];exact b6.refl au
 have gN:0<b.length:=bYR.2 fE;have hL:bb b≠0:=λh=>fE ((KH hZ).1 h);simp[-uV,fE];refine aR.bZb (IP al aN ai (by omega) (by omega)) ?_;rintro _ H ⟨rfl,rfl⟩;simp[-uV];by_cases bO:bb a<bb b
 ·have:iu (bb a) (bb b)=-1:=by simp[iu,bO]
  simp[this];refine aR.bZb (qT al.fB au .nil (by simp)) ?_;rintro b4 H1 ⟨av,kb⟩;simp;refine aR.bZb (kW al.eK (aN.bT au av)) ?_;rintro va H1 ⟨rfl,eL⟩;simp;refine aR.bZb (qT al.fB av.ok eL (by omega)) ?_;rintro cB aJ ⟨aI,kB⟩;simp[wN,hL];refine⟨av.trans aI,b4,cB,⟨rfl,rfl⟩,?_,?_⟩
  ·rw[bYV bO];exact(kb.bT av.ok aI).nat
  ·rw[q4 bO];exact kB.nat
 have BH:(iu (bb a) (bb b)<0)=False:=by
  unfold iu;rw[aU bO];split<;>simp
 simp[-uV,BH];intro _;have ka:∀k,H.get (H.next+k)=none:=λk=>au.wf _ (by omega);have Cb:H.get H.next=none:=au.wf _ (by omega);have uw:a≠[]:=by
  rintro rfl;simp[bb]at bO;omega
 refine⟨λoJ=>?_,λoJ=>?_⟩
 ·obtain⟨ab,ax,as,rfl,vx,py,eL⟩:=aN.block uw;obtain⟨cb,n5,kO,yw,rfl,f1,f2,f3⟩:=h'.at rfl (i:=0) (by omega);have dr:ab≠cb:=by
   rintro rfl;rw[vx]at f1;cases f1;rw[py]at f2;cases f2;rw[Nat.add_zero]at f3
   cases n5 with
   | zero=>simp at f3;subst f3;rcases eL with⟨_,⟨h,_⟩ | ⟨_,_,_,_,_,h,_⟩⟩<;>cases h
   | succ n=>simp at f3
  have c0:=fM.dg 0;rw[Nat.add_zero]at f3;have w0:=fM.wK 0;refine eg.of au.lo rfl ?_;simp[-uV,dt,oJ,f1,f2,f3,w0,ka,Cb];refine g'.of (by simp[ka]) (by simp) (by simp) rfl (kW al.eK (H:=H.up 12) aN) ?_;rintro va _ ⟨rfl,aBL⟩;simp;have gN:bb b=dg b 0:=by rw[<-kX (ds:=b) (i:=1) (by omega)];simp[b3]
  refine g'.fixed (by simp[ka]) (by simp) (by simp) rfl (aaE al (au.up 12) aBL (by omega) (y:=dg b 0) (by omega) (by omega)) ?_;rintro _ aJ ⟨aI,q,fr,rfl,aBM,lK,vM⟩;have ld:bb a%dg b 0<dg b 0:=bYe _ (by omega);generalize lh:bb a%dg b 0=uI at*
  simp;have KP:∀k,k<12->aJ.get (H.next+k)=none:=λk ag=>(aI.get _ (by simp;omega)).trans (ka k);have lI:cb<H.next:=au.lt f1;have aBN:∀lo okl,gp (gI ⟨lo,okl,some (H.next+5)⟩ [.pointer (some ⟨ab,0,none⟩)]) [cb]=true:=by
   intro lo okl;simp only[gI];cases Perm.may ⟨lo,okl,some (H.next+5)⟩ ab<;>simp[gp,dr]
  have aBO:∀l,gp l []=true:=λl=>by simp[gp]
  simp[-uV,KP,dx,dm,aBN,aBO,lI];refine aR.bZb (qT al.fB aI.ok aBM (by omega)) ?_;rintro b4 bN ⟨aQ,kb⟩;simp;refine aR.bZb (IQ al aQ.ok (x:=uI) (by omega)) ?_;rintro cB cp ⟨bt,kB⟩;simp[wN,hL];refine⟨(((b6.refl au).up 12).trans aI).trans (aQ.trans bt),b4,cB,⟨rfl,rfl⟩,?_,?_⟩
  ·rw[gN,<-lK];exact(kb.bT aQ.ok bt).nat
  ·rw[gN,lh,<-IS uI,qn];exact kB.nat
 ·exact aBm al au aN ai jQ hZ ir iM (by omega) (by omega) h' (by simp) (by simp) (by simp)
theorem abc(al:fa X)(au:cU pm H){x y:Nat}(az:x<18446744073709551616)(bu:y<18446744073709551616):
 Call X pm F.uL [.int .u64 (x:Int),.int .u64 (y:Int)] H λr H'=>b6 pm H H'/\r=.int .u64 ((Nat.gcd x y:Nat):Int):=by
 refine Call.has al.uL rfl ?_;simp;refine hv.of (λs:Nat×Nat=>[(0,.int .u64 (s.1:Int)),(1,.int .u64 (s.2:Int))]) (λs H'=>b6 pm H H'/\s.1<18446744073709551616/\s.2<18446744073709551616/\Nat.gcd x y=Nat.gcd s.1 s.2) (λs=>s.2) (x,y) (by simp) ⟨b6.refl au,az,bu,rfl⟩ ?_;rintro⟨a,b⟩ H1 ⟨av,aN,ai,aK⟩;simp only at aN ai aK;by_cases fE:b=0
 ·subst fE;simp;exact⟨av,by rw[aK,Nat.gcd_zero_right]⟩
 ·have an:=Rn .u64 (a:Int) (b:Int) (by omega);have df:((a:Int)).tmod (b:Int)=((a%b:Nat):Int):=rfl;obtain⟨r,jg⟩:=bZa (a%b);rw[df,<-jg]at an;simp[fE];refine eg.E7 av.ok rfl rfl rfl ?_;simp[an];have n6:r<b:=by rw[jg];exact bYe _ (by omega)
  refine .of (b,r) (by simpa using n6) (by simp) ⟨av.up _,ai,by show r<_;omega,?_⟩;show Nat.gcd x y=Nat.gcd b r;rw[aK,jg,bYq a b,Nat.gcd_rec b a,bYq]
end
theorem aBP{q:Nat}(z:Nat):Nat.Coprime (2^z) (2*q+1):=by
 apply Nat.Coprime.pow_left;show Nat.gcd 2 (2*q+1)=1;rw[Nat.gcd_rec];have:(2*q+1)%2=1:=by omega
 rw[this];rfl
theorem RF{z p q:Nat}:Nat.gcd (2^z*(2*p+1)) (2*q+1)=Nat.gcd (2*p+1) (2*q+1):=Nat.Coprime.gcd_mul_left_cancel _ (aBP z)
theorem gcd_both{ny kq p q:Nat}:Nat.gcd (2^ny*(2*p+1)) (2^kq*(2*q+1))=2^min ny kq*Nat.gcd (2*p+1) (2*q+1):=by
 rcases Nat.le_total ny kq with h | h
 ·rw[bYL h];have e:2^kq*(2*q+1)=2^ny*(2^(kq-ny)*(2*q+1)):=by rw[<-og,<-hT,show ny+(kq-ny)=kq by omega]
  rw[e,Nat.gcd_mul_left,bYq (2*p+1),RF,bYq]
 ·rw[Nat.min_eq_right h];have e:2^ny*(2*p+1)=2^kq*(2^(ny-kq)*(2*p+1)):=by rw[<-og,<-hT,show kq+(ny-kq)=ny by omega]
  rw[e,Nat.gcd_mul_left,RF]
section
variable[cn]
theorem c6.out{v:Value}{n:Nat}(h:c6 H v n):∃ds,gm H v ds/\strip ds=ds/\bb ds=n:=h.ex
end
theorem i'{n k:Nat}{ds:List Nat}(aG:strip ds=ds)(aF:bb ds=n)(h:n<4294967296^k):ds.length<=k:=yt aG (by rw[aF];exact h)
theorem aBQ{n z q:Nat}(h:n=2^z*(2*q+1)):n/2^z=2*q+1:=by rw[h,Nat.mul_div_cancel_left _ (lC z)]
section
variable[cn]
theorem RG(al:fa X)(au:cU pm H){v:Value}{n z q:Nat}{k:Nat}(h:c6 H v n)(aF:n<4294967296^k)(ag:k<1073741824)(bl:n=2^z*(2*q+1))(jy:z<=34359738368):
 Call X pm F.qS [v,.int .i64 (z:Int)] H λr H'=>b6 pm H H'/\c6 H' r (2*q+1):=by
 obtain⟨ds,U,aa,aq⟩:=h.out;refine(aaB al au U (by have:=i' aa aq aF;omega) (k:=z) (by omega)).mono ?_;rintro r H' ⟨av,es,ao,e2,bd,b1⟩;refine⟨av,?_⟩;have:bb es=2*q+1:=by rw[bd,aq,aBQ bl]
 rw[<-this];exact ao.nat
end
theorem abd{z y p q:Nat}(h:2^z*(2*p+1)=2^y*(2*q+1)):¬z<y:=by
 intro bO;rw[show y=z+(y-z-1+1) by omega,hT,og]at h;have:=Nat.eq_of_mul_eq_mul_left (lC z) h;rw[bZh,gw (2^_) 2,og]at this;omega
theorem abe{z y p q:Nat}(h:2^z*(2*p+1)=2^y*(2*q+1)):z=y/\p=q:=by
 have U:=abd h;have aa:=abd h.symm;obtain rfl:z=y:=by omega
 have:=Nat.eq_of_mul_eq_mul_left (lC z) h;exact⟨rfl,by omega⟩
theorem aBR(k:Nat):(4294967296:Nat)^k=2^(32*k):=by rw[show(4294967296:Nat)=2^32 by rfl,<-bYr]
section
variable[cn]
def wR(pm:Perm)(H:ah)(t n:Nat):c':=λx l H'=>(x=gr.normal∨x=gr.ret)/\∃vs,nb l H' [.slot t]=some vs/\(b6 pm H H'/\c6 H' (j5 vs) n)
theorem aBS(al:fa X)(au:cU pm H){v w:Value}{n m k:Nat}(aw:c6 H v n)(hw:c6 H w m)(aF:n<4294967296^k)(hm:m<4294967296^k)(ag:k<268435456)(mS:n≠0)(ft:m≠0):
 Call X pm F.wG [v,w] H λr H'=>b6 pm H H'/\c6 H' r (Nat.gcd n m):=by
 obtain⟨a,aN,jQ,hX⟩:=aw.out;obtain⟨b,ai,hZ,hL⟩:=hw.out;have ir:=i' jQ hX aF;have iM:=i' hZ hL hm;refine Call.has al.wG rfl ?_;show wp X pm _ _ _ _ (wR pm H 4 (Nat.gcd n m));simp[-qW];refine aR.bZb (Gh al aN (by omega)) ?_;rintro _ H ⟨rfl,ny,rfl,aG3,KS⟩;simp[-qW];refine aR.bZb (Gh al ai (by omega)) ?_;rintro _ H ⟨rfl,kq,rfl,Dk,jy⟩;obtain⟨p,aC⟩:∃p,n=2^ny*(2*p+1):=by
  rcases KS with⟨h,_⟩ | ⟨q,h⟩
  ·exact absurd (hX.symm.trans h) mS
  ·exact⟨q,by rw[<-hX];exact h⟩
 obtain⟨q,aV⟩:∃q,m=2^kq*(2*q+1):=by
  rcases jy with⟨h,_⟩ | ⟨q,h⟩
  ·exact absurd (hL.symm.trans h) ft
  ·exact⟨q,by rw[<-hL];exact h⟩
 obtain⟨z0,qj⟩:=bZa (min ny kq);have df:(if kq<ny then(kq:Int) else(ny:Int))=(z0:Int):=by rw[qj];split<;>omega
 simp[-qW,df];refine aR.bZb (Gh al aN (by omega)) ?_;rintro _ H ⟨rfl,aBT,rfl,aBU,abf⟩;obtain⟨yk,ri⟩:∃p,n=2^aBT*(2*p+1):=by
  rcases abf with⟨h,_⟩ | ⟨q,h⟩
  ·exact absurd (hX.symm.trans h) mS
  ·exact⟨q,by rw[<-hX];exact h⟩
 simp[-qW];refine aR.bZb (RG al au aw aF (by omega) ri aBU) ?_;rintro v1 H1 ⟨av,mj⟩;simp[-qW];refine aR.bZb (Gh al (ai.bT au av) (by omega)) ?_;rintro _ H1 ⟨rfl,aBV,rfl,aBW,abg⟩;obtain⟨kv,ju⟩:∃q,m=2^aBV*(2*q+1):=by
  rcases abg with⟨h,_⟩ | ⟨q,h⟩
  ·exact absurd (hL.symm.trans h) ft
  ·exact⟨q,by rw[<-hL];exact h⟩
 simp[-qW];refine aR.bZb (RG al av.ok (hw.bT au av) hm (by omega) ju aBW) ?_;rintro cS aJ ⟨aI,eo⟩;obtain⟨rfl,rfl⟩:=abe (aC.symm.trans ri);obtain⟨rfl,rfl⟩:=abe (aV.symm.trans ju);clear KS jy abf abg;have B3:2*p+1<=n:=by rw[aC];exact bXh _ (lC _)
 have aG4:z0<8589934592:=by
  have U:2^ny<=n:=by rw[aC];exact bXg _ (by omega)
  rw[aBR]at aF;have:=(bYt (by omega:1<2)).1 (eD U aF);omega
 have Ar:2*q+1<=m:=by rw[aV];exact bXh _ (lC _)
 simp[-qW]
 refine hv.of (λs:Value×Value×Nat×Nat=>[(0,s.1),(1,s.2.1),(5,.int .i64 (z0:Int))])
  (λs H'=>b6 pm H H'/\c6 H' s.1 (2*s.2.2.1+1)/\c6 H' s.2.1 (2*s.2.2.2+1)/\Nat.gcd n m=2^z0*Nat.gcd (2*s.2.2.1+1) (2*s.2.2.2+1)/\2*s.2.2.1+1<4294967296^k/\2*s.2.2.2+1<4294967296^k) (λs=>s.2.2.1+s.2.2.2) (v1,cS,p,q) (by simp)
  ⟨av.trans aI,mj.bT av.ok aI,eo,by simp only;rw[aC,aV,gcd_both,qj],by simp only;omega,by simp only;omega⟩ ?_
 rintro⟨v,w,x,y⟩ bN ⟨aQ,wP,uP,aK,mK,lx⟩;simp only at wP uP aK mK lx;obtain⟨xs,kR,jw,jP⟩:=wP.out;obtain⟨dz,rW,wS,pJ⟩:=uP.out;have yi:=i' jw jP mK;have Kq:=i' wS pJ lx;simp[-qW];refine aR.bZb (IP al kR rW (by omega) (by omega)) ?_;rintro _ bN ⟨rfl,rfl⟩;rw[jP,pJ]
 have key:∀(v w:Value) (x y:Nat) (l:bQ) (iQ:Value×Value×Nat×Nat),c6 bN v (2*x+1)->c6 bN w (2*y+1)->y<x->Nat.gcd n m=2^z0*Nat.gcd (2*x+1) (2*y+1)->2*x+1<4294967296^k->2*y+1<4294967296^k->x+y<=iQ.2.2.1+iQ.2.2.2->
  a7 0 l=some v->a7 1 l=some w->a7 5 l=some (.int .i64 (z0:Int))->wp X pm (.code qW) l bN [.bI 1] λcZ l' H'=>match cZ with
   | .normal=>rF (λs:Value×Value×Nat×Nat=>[(0,s.1),(1,s.2.1),(5,.int .i64 (z0:Int))])
    (λs H'=>b6 pm H H'/\c6 H' s.1 (2*s.2.2.1+1)/\c6 H' s.2.1 (2*s.2.2.2+1)/\Nat.gcd n m=2^z0*Nat.gcd (2*s.2.2.1+1) (2*s.2.2.2+1)/\2*s.2.2.1+1<4294967296^k/\2*s.2.2.2+1<4294967296^k) (λs=>s.2.2.1+s.2.2.2) iQ l' H'
   | cZ=>wp X pm (.res cZ) l' H' [.bI 0] (wR pm H 4 (Nat.gcd n m)):=by
  clear wP uP aK mK lx kR jw jP rW wS pJ yi Kq;intro v w x y l iQ wP uP bO aK mK lx aG5 c0 ck lf;obtain⟨xs,kR,jw,jP⟩:=wP.out;obtain⟨dz,rW,wS,pJ⟩:=uP.out;have yi:=i' jw jP mK;have Kq:=i' wS pJ lx;simp[c0,ck];refine aR.bZb (Xa al aQ.ok kR rW (by omega) (by omega) wS) ?_;rintro _ cp ⟨bt,⟨h,_⟩ | ⟨_,r,ds,rfl,an,xN,Fv⟩⟩
  ·exact absurd h (by omega)
  have sQ:=an.nat;rw[Fv,jP,pJ]at sQ;obtain⟨d,aB⟩:=bZa (2*x+1-(2*y+1));rw[<-aB]at sQ;have gh:d≠0:=by omega
  obtain⟨es,aBX,aBY,RH⟩:=sQ.out;have rh:d<4294967296^k:=by omega
  have le:=i' aBY RH rh;simp;refine aR.bZb (Gh al aBX (by omega)) ?_;rintro _ cp ⟨rfl,z,rfl,bl,KS⟩;obtain⟨kv,ju⟩:∃q,d=2^z*(2*q+1):=by
   rcases KS with⟨h,_⟩ | ⟨q,h⟩
   ·exact absurd (RH.symm.trans h) gh
   ·exact⟨q,by rw[<-RH];exact h⟩
  have aG6:z≠0:=by
   rintro rfl;simp at ju;omega
  have Dh:2*(2*kv+1)<=d:=by
   rw[ju,show z=1+(z-1) by omega,hT,og];have:=bXh (2*kv+1) (lC (z-1));omega
  simp;refine aR.bZb (RG al bt.ok sQ rh (by omega) ju bl) ?_;rintro v5 cV ⟨cd,abh⟩;have abi:=(uP.bT aQ.ok bt).bT bt.ok cd;have aBZ:Nat.gcd (2*x+1) (2*y+1)=Nat.gcd (2*kv+1) (2*y+1):=by
   rw[<-Nat.gcd_sub_self_left (by omega:2*y+1<=2*x+1),<-aB,ju,RF]
  rw[aBZ]at aK;obtain⟨fs,sn,Py,Au⟩:=abh.out;obtain⟨gs,h4,eA,jU⟩:=abi.out;have ak:=i' Py Au (k:=k) (by omega);have aG7:=i' eA jU (k:=k) (by omega);obtain⟨yC,fx,aG8,rfl,KT,e8,hs⟩:=sn.block (by rintro rfl;simp[bb]at Au);obtain⟨Gs,aG9,aHa,rfl,xG,abj,Cl⟩:=h4.block (by rintro rfl;simp[bb]at jU);obtain⟨aHb,gM,rfl⟩:=hs.form;obtain⟨abk,gc,rfl⟩:=Cl.form;have bY:=(aQ.trans bt).trans cd
  have Is:∀l':bQ,a7 0 l'=some (.pointer (some ⟨yC,0,none⟩))->a7 1 l'=some (.pointer (some ⟨Gs,0,none⟩))->a7 5 l'=some (.int .i64 (z0:Int))->rF (λs:Value×Value×Nat×Nat=>[(0,s.1),(1,s.2.1),(5,.int .i64 (z0:Int))])
   (λs H'=>b6 pm H H'/\c6 H' s.1 (2*s.2.2.1+1)/\c6 H' s.2.1 (2*s.2.2.2+1)/\Nat.gcd n m=2^z0*Nat.gcd (2*s.2.2.1+1) (2*s.2.2.2+1)/\2*s.2.2.1+1<4294967296^k/\2*s.2.2.2+1<4294967296^k) (λs=>s.2.2.1+s.2.2.2) iQ l' cV:=by
   intro l' cY ao cK;refine .of (.pointer (some ⟨yC,0,none⟩),.pointer (some ⟨Gs,0,none⟩),kv,y) (by show kv+y<_;omega) (by simp[cY,ao,cK]) ⟨bY,abh,abi,aK,by show 2*kv+1<_;omega,lx⟩
  by_cases abl:fs.length<=2
  ·by_cases abm:gs.length<=2
   ·have Gt:¬2<fs.length:=by omega
    have RI:¬2<gs.length:=by omega
    have Mk:=s0 hs.1;have KU:=s0 Cl.1;have dC:(4294967296:Nat)^2=18446744073709551616:=rfl;have KV:bb fs<18446744073709551616:=by rw[<-dC];exact hR Mk (iH (by omega) abl)
    have KW:bb gs<18446744073709551616:=by rw[<-dC];exact hR KU (iH (by omega) abm)
    simp[KT,e8,xG,abj,Gt,RI,ck];refine aR.bZb (Ge al sn (by omega)) ?_;rintro _ cV ⟨rfl,rfl⟩;simp only[abl,if_true];simp[ck];refine aR.bZb (Ge al h4 (by omega)) ?_;rintro _ cV ⟨rfl,rfl⟩;simp only[abm,if_true];simp;refine aR.bZb (abc al cd.ok (x:=bb fs) (y:=bb gs) KV KW) ?_;rintro _ ep ⟨cv,rfl⟩;have RJ:Nat.gcd (bb fs) (bb gs)<=bb fs:=Nat.gcd_le_left _ (by omega);obtain⟨G,bA⟩:=bZa (Nat.gcd (bb fs) (bb gs));rw[<-bA]at RJ|-;simp;refine aR.bZb (IQ al cv.ok (x:=G) (by omega)) ?_;rintro PC hM ⟨dJ,RL⟩;simp[lf];refine aR.bZb (Ku al dJ.ok RL (eD (Q' _) (by simp)) (k:=z0) (by omega)) ?_;rintro abn ns ⟨jZ,d8,RM,_,Gu,_⟩;simp[wR];refine⟨bY.trans (cv.trans (dJ.trans jZ)),?_⟩;have:Nat.gcd n m=bb d8:=by rw[Gu,IS,bA,Au,jU,aK,gw]
    rw[this];exact RM.nat
   ·have Gt:¬2<fs.length:=by omega
    have RI:2<gs.length:=by omega
    simp[KT,e8,xG,abj,Gt,RI,ck];refine Is _ ?_ ?_ ?_<;>simp[ck,lf]
  ·have Gt:2<fs.length:=by omega
   simp[KT,e8,Gt];refine Is _ ?_ ?_ ?_<;>simp[ck,lf]
 by_cases heq:2*x+1=2*y+1
 ·have af:iu (2*x+1) (2*y+1)=0:=by simp[iu,heq]
  simp[af];refine aR.bZb (Ku al aQ.ok kR (by omega) (k:=z0) (by omega)) ?_;rintro abn ns ⟨jZ,d8,RM,_,Gu,_⟩;simp[wR];refine⟨aQ.trans jZ,?_⟩;have:Nat.gcd n m=bb d8:=by rw[Gu,jP,aK,<-heq,Nat.gcd_self,gw]
  rw[this];exact RM.nat
 ·by_cases bO:2*x+1<2*y+1
  ·have af:iu (2*x+1) (2*y+1)=-1:=by simp[iu,bO]
   simp[-qW,af];refine key w v y x _ (v,w,x,y) uP wP (by omega) (by rw[aK,bYq (2*y+1)]) lx mK (by simp;omega) ?_ ?_ ?_<;>simp
  ·have af:iu (2*x+1) (2*y+1)=1:=by unfold iu;rw[aU bO,aU heq]
   simp[-qW,af];refine key v w x y _ (v,w,x,y) wP uP (by omega) aK mK lx (by simp) ?_ ?_ ?_<;>simp
theorem avU(al:fa X)(au:cU pm H){v w:Value}{n m k:Nat}(aw:c6 H v n)(hw:c6 H w m)(aF:n<4294967296^k)(hm:m<4294967296^k)(ag:k<268435456):
 Call X pm F.wH [v,w] H λr H'=>b6 pm H H'/\c6 H' r (Nat.gcd n m):=by
 refine Call.has al.wH rfl ?_;show wp X pm _ _ _ _ (wR pm H 4 (Nat.gcd n m));simp[-r0];refine hv.of (λs:Value×Value×Nat×Nat=>[(5,s.1),(6,s.2.1)]) (λs H'=>b6 pm H H'/\c6 H' s.1 s.2.2.1/\c6 H' s.2.1 s.2.2.2/\Nat.gcd n m=Nat.gcd s.2.2.1 s.2.2.2/\s.2.2.1<4294967296^k/\s.2.2.2<4294967296^k) (λs=>s.2.2.2) (v,w,n,m) (by simp) ⟨b6.refl au,aw,hw,rfl,aF,hm⟩ ?_;rintro⟨v,w,x,y⟩ H1 ⟨av,mj,eo,aK,mK,lx⟩;simp only at mj eo aK mK lx;obtain⟨xs,kR,jw,jP⟩:=mj.out;obtain⟨dz,rW,wS,pJ⟩:=eo.out;have yi:=i' jw jP mK;have Kq:=i' wS pJ lx;simp[-r0];refine aR.bZb (Ge al kR (by omega)) ?_;rintro _ H1 ⟨rfl,rfl⟩
 have key:∀l:bQ,a7 5 l=some v->a7 6 l=some w->wp X pm (.code r0) l H1 [.bI 1] λcZ l' H'=>match cZ with
  | .normal=>rF (λs:Value×Value×Nat×Nat=>[(5,s.1),(6,s.2.1)]) (λs H'=>b6 pm H H'/\c6 H' s.1 s.2.2.1/\c6 H' s.2.1 s.2.2.2/\Nat.gcd n m=Nat.gcd s.2.2.1 s.2.2.2/\s.2.2.1<4294967296^k/\s.2.2.2<4294967296^k) (λs=>s.2.2.2) (v,w,x,y) l' H'
  | cZ=>wp X pm (.res cZ) l' H' [.bI 0] (wR pm H 4 (Nat.gcd n m)):=by
  intro l cK il;simp[il];refine aR.bZb (kW al.eK rW) ?_;rintro vb H1 ⟨rfl,h'⟩;obtain⟨oY,dZ,rfl⟩:=h'.form;by_cases yy:dz=[]
  ·subst yy;simp[cK];refine aR.bZb (kW al.eK kR) ?_;rintro va H1 ⟨rfl,eL⟩;simp;refine aR.bZb (qT al.fB av.ok eL (by omega)) ?_;rintro cB aJ ⟨aI,kB⟩;simp[wR];refine⟨av.trans aI,?_⟩;simp[bb]at pJ;rw[aK,<-pJ,Nat.gcd_zero_right,<-jP];exact kB.nat
  ·have aHc:0<dz.length:=bYR.2 yy;have abo:y≠0:=λh=>yy ((KH wS).1 (by rw[pJ,h]));simp[yy,cK];refine aR.bZb (kW al.eK kR) ?_;rintro va H1 ⟨rfl,eL⟩;obtain⟨ab,ac,rfl⟩:=eL.form;simp[il];refine aR.bZb (kW al.eK rW) ?_;rintro vb H1 ⟨rfl,h'⟩;obtain⟨oY,dZ,rfl⟩:=h'.form;by_cases aO:xs.length=dz.length
   ·simp[aO,cK,il];have Av:x≠0:=λh=>by
     have:xs=[]:=(KH jw).1 (by rw[jP,h]);rw[this]at aO;simp at aO;omega
    refine aR.bZb (aBS al av.ok mj eo mK lx ag Av abo) ?_;rintro cB aJ ⟨aI,kB⟩;simp[wR];exact⟨av.trans aI,by rw[aK];exact kB⟩
   ·have lS:¬((xs.length:Int)=(dz.length:Int)):=by omega
    simp[cK,il];refine⟨λ_=>?_,λh=>absurd h lS⟩;refine aR.bZb (Xb al av.ok kR rW jw wS (by omega) (by omega)) ?_;rintro _ aJ ⟨aI,⟨h,_⟩ | ⟨_,q,r,rfl,aV,an⟩⟩
    ·exact absurd (pJ.symm.trans h) abo
    rw[jP,pJ]at an;have bO:x%y<y:=bYe _ (by omega);simp[il];refine .of (w,r,y,x%y) (by simpa using bO) (by simp) ⟨av.trans aI,eo.bT av.ok aI,an,?_,lx,by show x%y<_;omega⟩;show Nat.gcd n m=Nat.gcd y (x%y);rw[aK,bYq x y,Nat.gcd_rec y x,bYq]
 by_cases U:xs.length<=2
 ·simp only[U,if_true];simp[-r0];refine aR.bZb (Ge al rW (by omega)) ?_;rintro _ H1 ⟨rfl,rfl⟩;by_cases aa:dz.length<=2
  ·simp only[aa,if_true];simp[-r0];have dC:(4294967296:Nat)^2=18446744073709551616:=rfl;have KV:bb xs<18446744073709551616:=by rw[<-dC];exact hR (s0 kR.ej) (iH (by omega) U)
   have KW:bb dz<18446744073709551616:=by rw[<-dC];exact hR (s0 rW.ej) (iH (by omega) aa)
   refine aR.bZb (abc al av.ok (x:=bb xs) (y:=bb dz) KV KW) ?_;rintro _ ep ⟨cv,rfl⟩;have RJ:Nat.gcd (bb xs) (bb dz)<18446744073709551616:=by
    rcases bXD (bb xs) with h | h
    ·rw[h,Nat.gcd_zero_left];exact KW
    ·exact eD (Nat.gcd_le_left _ h) KV
   obtain⟨G,bA⟩:=bZa (Nat.gcd (bb xs) (bb dz));rw[<-bA]at RJ|-;simp[-r0];refine aR.bZb (IQ al cv.ok (x:=G) (by omega)) ?_;rintro PC hM ⟨dJ,RL⟩;simp[wR];refine⟨av.trans (cv.trans dJ),?_⟩;have:Nat.gcd n m=bb [G%4294967296,G/4294967296]:=by rw[<-qn,IS,bA,jP,pJ,aK]
   rw[this];exact RL.nat
  ·simp only[aa,if_false];simp[-r0];refine key _ ?_ ?_<;>simp
 ·simp only[U,if_false];simp[-r0];refine aR.bZb (Ge al rW (by omega)) ?_;rintro _ H1 ⟨rfl,rfl⟩;by_cases aa:dz.length<=2
  ·simp only[aa,if_true];simp[-r0];refine key _ ?_ ?_<;>simp
  ·simp only[aa,if_false];simp[-r0];refine key _ ?_ ?_<;>simp
theorem NK(al:fa X)(au:cU pm H){v w:Value}{n m k:Nat}(aw:c6 H v n)(hw:c6 H w m)(aF:n<4294967296^k)(hm:m<4294967296^k)(ag:k<268435456):Call X pm F.rn [v,w] H λr H'=>b6 pm H H'/\c6 H' r (n+m):=by
 obtain⟨a,aN,jQ,hX⟩:=aw.out;obtain⟨b,ai,hZ,hL⟩:=hw.out;have ir:=i' jQ hX aF;have iM:=i' hZ hL hm;refine(avN al au aN ai (by omega) (by omega)).mono ?_;rintro r H' ⟨av,ds,U,_,aa⟩;exact⟨av,by rw[<-hX,<-hL,<-aa];exact U.nat⟩
theorem xP(al:fa X)(au:cU pm H){v w:Value}{n m k:Nat}(aw:c6 H v n)(hw:c6 H w m)(aF:n<4294967296^k)(hm:m<4294967296^k)(ag:k<268435456):Call X pm F.na [v,w] H λr H'=>b6 pm H H'/\c6 H' r (n*m):=by
 obtain⟨a,aN,jQ,hX⟩:=aw.out;obtain⟨b,ai,hZ,hL⟩:=hw.out;have ir:=i' jQ hX aF;have iM:=i' hZ hL hm;refine(avO al au aN ai (by omega) (by omega)).mono ?_;rintro r H' ⟨av,ds,U,_,aa⟩;exact⟨av,by rw[<-hX,<-hL,<-aa];exact U.nat⟩
theorem NL(al:fa X){v w:Value}{n m k:Nat}(aw:c6 H v n)(hw:c6 H w m)(aF:n<4294967296^k)(hm:m<4294967296^k)(ag:k<268435456):Call X pm F.oD [v,w] H λr H'=>H'=H/\r=.int .i64 (iu n m):=by
 obtain⟨a,aN,jQ,hX⟩:=aw.out;obtain⟨b,ai,hZ,hL⟩:=hw.out;have ir:=i' jQ hX aF;have iM:=i' hZ hL hm;subst hX hL;exact IP al aN ai (by omega) (by omega)
theorem W'(al:fa X)(au:cU pm H){v w:Value}{n m k:Nat}(aw:c6 H v n)(hw:c6 H w m)(aF:n<4294967296^k)(hm:m<4294967296^k)(ag:k<268435456):
 Call X pm F.rp [v,w] H λr H'=>b6 pm H H'/\(n<m/\r=.tuple #[.pointer none,.bool false]∨m<=n/\∃p,r=.tuple #[p,.bool true]/\c6 H' p (n-m)):=by
 obtain⟨a,aN,jQ,hX⟩:=aw.out;obtain⟨b,ai,hZ,hL⟩:=hw.out;have ir:=i' jQ hX aF;have iM:=i' hZ hL hm;subst hX hL;refine(Xa al au aN ai (by omega) (by omega) hZ).mono ?_;rintro r H' ⟨av,h | ⟨h,p,ds,U,aa,_,aq⟩⟩
 ·exact⟨av,.inl h⟩
 ·exact⟨av,.inr ⟨h,p,U,by rw[<-aq];exact aa.nat⟩⟩
theorem NM(al:fa X)(au:cU pm H){v w:Value}{n m k:Nat}(aw:c6 H v n)(hw:c6 H w m)(aF:n<4294967296^k)(hm:m<4294967296^k)(ag:k<268435456)(ft:m≠0):
 Call X pm F.qm [v,w] H λr H'=>b6 pm H H'/\∃q s,r=.tuple #[q,s,.bool true]/\c6 H' q (n/m)/\c6 H' s (n%m):=by
 obtain⟨a,aN,jQ,hX⟩:=aw.out;obtain⟨b,ai,hZ,hL⟩:=hw.out;have ir:=i' jQ hX aF;have iM:=i' hZ hL hm;subst hX hL;refine(Xb al au aN ai jQ hZ (by omega) (by omega)).mono ?_;rintro r H' ⟨av,⟨h,_⟩ | ⟨_,q,s,U,aa,aq⟩⟩
 ·exact absurd h ft
 ·exact⟨av,q,s,U,aa,aq⟩
theorem E5(al:fa X)(au:cU pm H){x:Nat}(az:x<18446744073709551616):Call X pm F.ja [.int .u64 (x:Int)] H λr H'=>b6 pm H H'/\c6 H' r x:=by
 refine(IQ al au az).mono ?_;rintro r H' ⟨av,U⟩;have:=U.nat;rw[<-qn,IS]at this;exact⟨av,this⟩
theorem Xc(al:fa X)(au:cU pm H):Call X pm F.ja [.int .u64 0] H λr H'=>b6 pm H H'/\c6 H' r 0:=E5 al au (x:=0) (by omega)
theorem B0(al:fa X)(au:cU pm H):Call X pm F.ja [.int .u64 1] H λr H'=>b6 pm H H'/\c6 H' r 1:=E5 al au (x:=1) (by omega)
end
theorem avP(x:Nat):((x:Int)==0)=decide (x=0):=by
 cases x with
 | zero=>rfl
 | succ x=>simp;omega
section
variable[cn]
theorem xQ(al:fa X){v:Value}{n k:Nat}(aw:c6 H v n)(aF:n<4294967296^k)(ag:k<268435456):Call X pm F.oE [v] H λr H'=>H'=H/\r=.bool (decide (n=0)):=by
 obtain⟨a,aN,jQ,hX⟩:=aw.out;have ir:=i' jQ hX aF;subst hX;refine Call.has al.oE rfl ?_;simp;refine aR.bZb (avQ al aN jQ (by omega)) ?_;rintro _ H ⟨rfl,rfl⟩;have:aA (bb a)=0↔bb a=0:=by
  unfold aA;split
  ·simp[*]
  ·simp[*]
 simp;rw[avP];exact decide_eq_decide.2 this
def iN(neg:Bool)(n d:Nat):Rat:=mkRat (if neg then -(n:Int) else(n:Int)) d
structure iv(H:ah)(v:Value)(q:Rat):Prop where
 ex:(v=.pointer none/\q=0)∨∃b x jA jB,v=.pointer (some ⟨b,0,none⟩)/\H.get b=some x/\NN x [.bool (decide (q<0)),jA,jB]/\c6 H jA q.num.natAbs/\c6 H jB q.den
theorem iv.bT{v:Value}{q:Rat}(h:iv H v q)(au:cU pm H)(ag:b6 pm H H'):iv H' v q:=by
 refine⟨h.ex.imp id ?_⟩;rintro⟨b,x,jA,jB,U,aa,aq,a8,cg⟩;exact⟨b,x,jA,jB,U,ag.some au aa,aq,a8.bT au ag,cg.bT au ag⟩
def jC(H:ah)(v:Value)(q:Rat):Prop:=iv H v q/\∃b cs t,v=.pointer (some ⟨b,0,none⟩)/\H.get b=some (.cells cs (.t t))
theorem jC.bT{v:Value}{q:Rat}(h:jC H v q)(au:cU pm H)(ag:b6 pm H H'):jC H' v q:=
 ⟨h.1.bT au ag,let ⟨b,cs,t,U,aa⟩:=h.2;⟨b,cs,t,U,ag.some au aa⟩⟩
end
theorem IT{neg:Bool}{n d:Nat}(aB:d≠0):(iN neg n d).den=d/Nat.gcd n d:=by
 unfold iN;rw[Rat.den_mkRat,aU aB,bYq];congr 2;cases neg<;>simp
theorem IU{neg:Bool}{n d:Nat}(aB:d≠0):(iN neg n d).num.natAbs=n/Nat.gcd n d:=by
 unfold iN;rw[Rat.num_mkRat,aU aB,bYq]
 cases neg with
 | false=>simp;rfl
 | true=>
   simp only[if_true,Int.natAbs_neg,Int.natAbs_natCast];rw[Int.neg_ediv_of_dvd (by exact_mod_cast Nat.gcd_dvd_left n d),Int.natAbs_neg];rfl
theorem E6(q:Rat):q<0↔q.num<0:=by
 rw[<-Rat.not_le,<-Rat.num_nonneg];omega
theorem avR{neg:Bool}{n d:Nat}(aB:d≠0):decide (iN neg n d<0)=(neg&&!decide (n=0)):=by
 have aK:0<Nat.gcd n d:=Nat.gcd_pos_of_pos_right _ (tq aB);have h:(iN neg n d<0)↔(neg=true/\n≠0):=by
  rw[E6];unfold iN;rw[Rat.num_mkRat,aU aB,bYq]
  cases neg with
  | false=>
    simp only[oc,if_false,Int.natAbs_natCast,false_and,iff_false];have:(0:Int)<=(n:Int)/(Nat.gcd n d:Nat):=Int.ediv_nonneg (by omega) (by omega);omega
  | true=>
    simp only[if_true,Int.natAbs_neg,Int.natAbs_natCast,true_and];have E4:((Nat.gcd n d:Nat):Int)∣(n:Int):=by exact_mod_cast Nat.gcd_dvd_left n d
    rw[Int.neg_ediv_of_dvd E4];have e:((n:Int)/(Nat.gcd n d:Nat))=((n/Nat.gcd n d:Nat):Int):=rfl;rw[e];constructor
    ·rintro h rfl;simp at h
    ·intro aD;have:0<n/Nat.gcd n d:=Nat.div_pos (Nat.le_of_dvd (tq aD) (Nat.gcd_dvd_left n d)) aK;omega
 rw[Bool.eq_iff_iff];simp only[eh,cG,mN,decide_eq_false_iff_not];exact h
section
variable[cn]
theorem c6.ptr{v:Value}{n:Nat}(h:c6 H v n):(v=.pointer none/\n=0)∨∃a,v=.pointer (some a):=by
 obtain⟨ds,U,_,aq⟩:=h.out
 rcases U with⟨h,rfl⟩ | ⟨b,_,_,h,_⟩
 ·exact .inl ⟨h,aq.symm⟩
 ·exact .inr ⟨_,h⟩
def zs(pm:Perm)(H:ah)(neg:Bool)(n d:Nat):c':=λx l H'=>(x=gr.normal∨x=gr.ret)/\∃vs,nb l H' [.slot 6,.slot 7]=some vs/\(b6 pm H H'/\(d=0/\j5 vs=.tuple #[.pointer none,.bool false]∨d≠0/\∃p,j5 vs=.tuple #[p,.bool true]/\jC H' p (iN neg n d)))
theorem Xd(al:fa X)(au:cU pm H){neg:Bool}{v w:Value}{n d k:Nat}(aw:c6 H v n)(hw:c6 H w d)(aF:n<4294967296^k)(aB:d<4294967296^k)(ag:k<268435456):
 Call X pm F.tQ [.bool neg,v,w] H λr H'=>b6 pm H H'/\(d=0/\r=.tuple #[.pointer none,.bool false]∨d≠0/\∃p,r=.tuple #[p,.bool true]/\jC H' p (iN neg n d)):=by
 refine Call.has al.tQ rfl ?_;show wp X pm _ _ _ _ (zs pm H neg n d);simp[-sq];refine aR.bZb (xQ al hw aB ag) ?_;rintro _ H ⟨rfl,rfl⟩;by_cases gh:d=0
 ·simp[gh,zs];exact b6.refl au
 have avS:0<Nat.gcd n d:=Nat.gcd_pos_of_pos_right _ (tq gh);obtain⟨G,bA⟩:=bZa (Nat.gcd n d)
 have key:∀(l:bQ) (H1:ah) (v1 cS:Value),b6 pm H H1->c6 H1 v1 (n/G)->c6 H1 cS (d/G)->a7 0 l=some (.bool neg)->a7 1 l=some v1->a7 2 l=some cS->
  wp X pm (.code sq) l H1 [] (zs pm H neg n d):=by
  intro l H1 v1 cS av mj eo c0 ck cJ;have avT:n/G=0↔n=0:=by
   rw[bA];constructor
   ·intro h
    rcases bXD n with aD | aD
    ·exact aD
    ·have:0<n/Nat.gcd n d:=Nat.div_pos (Nat.le_of_dvd aD (Nat.gcd_dvd_left n d)) avS;omega
   ·rintro rfl;simp
  have pd:∀(aJ:ah) (v2:Value),b6 pm H1 aJ->c6 aJ v2 (n/G)->b6 pm H (aJ.new (.cells [.bool (neg&&!decide (n=0)),v2,cS] (.t T.NO)))/\jC (aJ.new (.cells [.bool (neg&&!decide (n=0)),v2,cS] (.t T.NO))) (ptr aJ.next) (iN neg n d):=by
   intro aJ v2 aI BG;have aQ:b6 pm aJ (aJ.new (.cells [.bool (neg&&!decide (n=0)),v2,cS] (.t T.NO))):=(b6.refl aI.ok).new _;refine⟨(av.trans aI).trans aQ,⟨.inr ⟨aJ.next,_,v2,cS,rfl,dT,?_,?_,?_⟩⟩,_,_,_,rfl,dT⟩
   ·rw[avR gh];exact⟨rfl,rfl⟩
   ·rw[IU gh,<-bA];exact BG.bT aI.ok aQ
   ·rw[IT gh,<-bA];exact(eo.bT av.ok aI).bT aI.ok aQ
  have ET:n/G<4294967296^k:=eD (oe _ _) aF;have jy:decide (n/G=0)=decide (n=0):=decide_eq_decide.2 avT
  rcases mj.ptr with⟨rfl,aD⟩ | ⟨cx,rfl⟩
  ·simp[ck];refine aR.bZb (Xc al av.ok) ?_;rintro r aJ ⟨aI,an⟩;rw[<-aD]at an
   cases neg with
   | true=>
     simp[c0];refine aR.bZb (xQ al an ET ag) ?_;rintro _ aJ ⟨rfl,rfl⟩;have:=pd aJ r aI an;rw[jy]
     rcases an.ptr with⟨rfl,_⟩ | ⟨a2,rfl⟩<;>rcases eo.ptr with⟨rfl,_⟩ | ⟨a3,rfl⟩<;>simp[zs,cJ,gh,au.make,au.pick]<;>simpa using this
   | false=>
     simp[c0];refine aR.not (by simp) ?_;have:=pd aJ r aI an
     rcases an.ptr with⟨rfl,_⟩ | ⟨a2,rfl⟩<;>rcases eo.ptr with⟨rfl,_⟩ | ⟨a3,rfl⟩<;>simp[zs,cJ,gh,au.make,au.pick]<;>simpa using this
  ·simp[ck]
   cases neg with
   | true=>
     simp[c0];refine aR.bZb (xQ al mj ET ag) ?_;rintro _ H1 ⟨rfl,rfl⟩;have:=pd H1 _ (b6.refl av.ok) mj;rw[jy]
     rcases eo.ptr with⟨rfl,_⟩ | ⟨a3,rfl⟩<;>simp[zs,ck,cJ,gh,au.make,au.pick]<;>simpa using this
   | false=>
     simp[c0];refine aR.not (by simp) ?_;have:=pd H1 _ (b6.refl av.ok) mj
     rcases eo.ptr with⟨rfl,_⟩ | ⟨a3,rfl⟩<;>simp[zs,ck,cJ,gh,au.make,au.pick]<;>simpa using this
 simp[-sq,gh];refine aR.bZb (avU al au aw hw aF aB ag) ?_;rintro g H1 ⟨av,aK⟩;rw[<-bA]at aK;have NP:G<4294967296^k:=by
  rw[bA];exact eD (Nat.gcd_le_right _ (tq gh)) aB
 simp[-sq];refine aR.bZb (B0 al av.ok) ?_;rintro aGd aJ ⟨aI,xR⟩;have avV:1<4294967296^k:=by omega
 simp[-sq];refine aR.bZb (NL al (aK.bT av.ok aI) xR NP avV ag) ?_;rintro _ aJ ⟨rfl,rfl⟩;have e0:=av.trans aI;by_cases jb:G=1
 ·have af:iu G 1=0:=by simp[iu,jb]
  simp[-sq,af];refine key _ aJ v w e0 (by rw[jb,Nat.div_one];exact aw.bT au e0) (by rw[jb,Nat.div_one];exact hw.bT au e0) ?_ ?_ ?_<;>simp
 ·have af:iu G 1=1:=by unfold iu;rw[aU (by omega),aU jb]
  simp[-sq,af];refine aR.bZb (NM al e0.ok (aw.bT au e0) (aK.bT av.ok aI) aF NP ag (by omega)) ?_;rintro _ bN ⟨aQ,bn,s1,rfl,lK,_⟩;simp[-sq];have h0:=e0.trans aQ;refine aR.bZb (NM al aQ.ok (hw.bT au h0) ((aK.bT av.ok aI).bT e0.ok aQ) aB NP ag (by omega)) ?_;rintro _ cp ⟨bt,bh,s2,rfl,vM,_⟩;simp[-sq];refine key _ cp bn bh (h0.trans bt) (lK.bT aQ.ok bt) vM ?_ ?_ ?_<;>simp
def mr(neg:Bool)(n:Nat):Int:=if neg then -(n:Int) else(n:Int)
end
theorem B1(neg:Bool)(n d:Nat):iN neg n d=mkRat (mr neg n) d:=rfl
theorem rq(q:Rat):q.num=mr (decide (q<0)) q.num.natAbs:=by
 unfold mr;by_cases h:q<0
 ·have:=(E6 q).1 h;simp[h];omega
 ·have:¬q.num<0:=λaa=>h ((E6 q).2 aa);simp[h];omega
theorem IV(q:Rat):iN (decide (q<0)) q.num.natAbs q.den=q:=by
 rw[B1,<-rq];exact Rat.mkRat_self q
section
variable[cn]
def sz(q:Rat)(k:Nat):Prop:=q.num.natAbs<4294967296^k/\q.den<4294967296^k
end
theorem pq{n m k:Nat}(aF:n<4294967296^k)(hm:m<4294967296^k):n*m<4294967296^(2*k):=by
 rw[show 2*k=k+k by omega,hT];exact bXf aF hm
theorem oF{n j k:Nat}(h:n<4294967296^j)(aH:j<=k):n<4294967296^k:=hR h (iH (by decide) aH)
theorem IW{n m k:Nat}(aF:n<4294967296^k)(hm:m<4294967296^k):n+m<4294967296^(k+1):=by
 rw[bZh];generalize 4294967296^k=p at*
 omega
section
variable[cn]
theorem sr(al:fa X)(au:cU pm H){v:Value}{q:Rat}(h:iv H v q):
 Call X pm F.lW [v] H λr H'=>b6 pm H H'/\∃jA jB,r=.tuple #[.bool (decide (q<0)),jA,jB]/\c6 H' jA q.num.natAbs/\c6 H' jB q.den:=by
 refine Call.has al.lW rfl ?_
 rcases h.ex with⟨rfl,rfl⟩ | ⟨b,x,jA,jB,rfl,U,aa,aq,a8⟩
 ·simp;refine aR.bZb (Xc al au) ?_;rintro fw H1 ⟨av,rr⟩;simp;refine aR.bZb (B0 al av.ok) ?_;rintro b4 aJ ⟨aI,kb⟩;simp;exact⟨av.trans aI,fw,b4,⟨rfl,rfl⟩,rr.bT av.ok aI,kb⟩
 ·have qo:∃a,jB=.pointer (some a):=by
   rcases a8.ptr with⟨_,h⟩ | h
   ·exact absurd h q.den_nz
   ·exact h
  obtain⟨a,rfl⟩:=qo;simp[U,aa];refine eg.E7 au rfl rfl rfl ?_;simp[U,aa];have av:=(b6.refl au).up 15;exact⟨av,jA,_,⟨rfl,rfl⟩,aq.bT au av,a8.bT au av⟩
theorem B2(al:fa X)(au:cU pm H){neg:Bool}{v w:Value}{n d k:Nat}(aw:c6 H v n)(hw:c6 H w d)(aF:n<4294967296^k)(aB:d<4294967296^k)(ag:k<268435456)(gh:d≠0):
 Call X pm F.pr [.bool neg,v,w] H λr H'=>b6 pm H H'/\jC H' r (iN neg n d):=by
 refine Call.has al.pr rfl ?_;simp;refine aR.bZb (Xd al au (neg:=neg) aw hw aF aB ag) ?_;rintro _ H1 ⟨av,⟨h,_⟩ | ⟨_,p,rfl,aC⟩⟩
 ·exact absurd h gh
 ·simp;exact⟨av,aC⟩
theorem Xe(al:fa X)(au:cU pm H){v:Value}{q:Rat}{k:Nat}(h:iv H v q)(aG:sz q k)(ag:k<268435456):
 Call X pm F.gE [v] H λr H'=>b6 pm H H'/\r=.int .i64 (if q<0 then -1 else if q=0 then 0 else 1):=by
 refine Call.has al.gE rfl ?_;simp;refine aR.bZb (sr al au h) ?_;rintro _ H1 ⟨av,jA,jB,rfl,aF,aB⟩;by_cases aV:q<0
 ·simp[aV];exact av
 ·simp[aV];refine aR.bZb (xQ al aF aG.1 ag) ?_;rintro _ H1 ⟨rfl,rfl⟩;by_cases aD:q=0
  ·subst aD;simp;exact av
  ·have:¬q.num.natAbs=0:=by
    intro h;exact aD (bXJ.1 (by omega))
   simp[this,aD];exact av
end
theorem Xf(q:Rat):(-q).num.natAbs=q.num.natAbs/\(-q).den=q.den/\decide (-q<0)=(!decide (q<0)&&!decide (q.num.natAbs=0)):=by
 refine⟨by rw[Rat.neg_num];simp,Rat.neg_den q,?_⟩;rw[Bool.eq_iff_iff];simp only[eh,cG,mN,decide_eq_false_iff_not];rw[E6,E6,Rat.neg_num];omega
section
variable[cn]
theorem Xg(al:fa X)(au:cU pm H){v:Value}{q:Rat}{k:Nat}(h:iv H v q)(aG:sz q k)(ag:k<268435456):
 Call X pm F.nV [v] H λr H'=>b6 pm H H'/\jC H' r (-q):=by
 refine Call.has al.nV rfl ?_;simp;refine aR.bZb (sr al au h) ?_;rintro _ H1 ⟨av,jA,jB,rfl,aF,aB⟩;obtain⟨ao,e2,bd⟩:=Xf q;have pd:b6 pm H (H1.new (.cells [.bool (decide (-q<0)),jA,jB] (.t T.NQ)))/\jC (H1.new (.cells [.bool (decide (-q<0)),jA,jB] (.t T.NQ))) (ptr H1.next) (-q):=by
  have aQ:b6 pm H1 (H1.new (.cells [.bool (decide (-q<0)),jA,jB] (.t T.NQ))):=(b6.refl av.ok).new _;exact⟨av.trans aQ,⟨.inr ⟨H1.next,_,jA,jB,rfl,dT,⟨rfl,rfl⟩,by rw[ao];exact aF.bT av.ok aQ,by rw[e2];exact aB.bT av.ok aQ⟩⟩,_,_,_,rfl,dT⟩
 by_cases aV:q<0
 ·simp[aV];refine aR.not (by simp) ?_;rw[bd]at pd
  rcases aF.ptr with⟨rfl,_⟩ | ⟨a2,rfl⟩<;>rcases aB.ptr with⟨rfl,_⟩ | ⟨a3,rfl⟩<;>simp[au.make,au.pick]<;>simpa [aV]using pd
 ·simp[aV];refine aR.bZb (xQ al aF aG.1 ag) ?_;rintro _ H1 ⟨rfl,rfl⟩;rw[bd]at pd
  rcases aF.ptr with⟨rfl,_⟩ | ⟨a2,rfl⟩<;>rcases aB.ptr with⟨rfl,_⟩ | ⟨a3,rfl⟩<;>simp[au.make,au.pick]<;>simpa [aV]using pd
theorem avW(al:fa X)(au:cU pm H){v w:Value}{p q:Rat}{k:Nat}(U:iv H v p)(aa:iv H w q)(s1:sz p k)(s2:sz q k)(ag:k<67108864):
 Call X pm F.ke [v,w] H λr H'=>b6 pm H H'/\jC H' r (p*q):=by
 refine Call.has al.ke rfl ?_;simp;refine aR.bZb (sr al au U) ?_;rintro _ H1 ⟨av,jA,jB,rfl,B3,qo⟩;simp;refine aR.bZb (sr al av.ok (aa.bT au av)) ?_;rintro _ aJ ⟨aI,Xh,Xi,rfl,qp,ru⟩;simp;refine aR.bZb (xP al aI.ok (B3.bT av.ok aI) qp s1.1 s2.1 (by omega)) ?_;rintro dh bN ⟨aQ,lX⟩;simp;refine aR.bZb (xP al aQ.ok ((qo.bT av.ok aI).bT aI.ok aQ) (ru.bT aI.ok aQ) s1.2 s2.2 (by omega)) ?_;rintro kf cp ⟨bt,E8⟩;simp;refine aR.bZb (B2 al bt.ok (neg:=!(decide (p<0)==decide (q<0))) (lX.bT aQ.ok bt) E8 (pq s1.1 s2.1) (pq s1.2 s2.2) (by omega) (bYK p.den_nz q.den_nz)) ?_;rintro vN cV ⟨cd,IX⟩;simp;refine⟨av.trans (aI.trans (aQ.trans (bt.trans cd))),?_⟩;have:p*q=iN (!(decide (p<0)==decide (q<0))) (p.num.natAbs*q.num.natAbs) (p.den*q.den):=by
  rw[Rat.mul_def',B1];congr 1;rw[rq p,rq q];unfold mr;cases decide (p<0)<;>cases decide (q<0)<;>simp[Int.mul_neg,Int.neg_mul]
 rw[this];exact IX
end
theorem Xj{q:Rat}(aV:q≠0)(p:Rat):p/q=iN (!(decide (p<0)==decide (q<0))) (p.num.natAbs*q.den) (p.den*q.num.natAbs):=by
 have aF:q.num.natAbs≠0:=by
  intro h;exact aV (bXJ.1 (by omega))
 have hm:iN (!(decide (p<0)==decide (q<0))) (p.num.natAbs*q.den) (p.den*q.num.natAbs)*q=p:=by
  have ao:q=mkRat (mr (decide (q<0)) q.num.natAbs) q.den:=by rw[<-rq];exact(Rat.mkRat_self q).symm
  have e2:p=mkRat (mr (decide (p<0)) p.num.natAbs) p.den:=by rw[<-rq];exact(Rat.mkRat_self p).symm
  generalize zt:p.num.natAbs=P at*
  generalize bU:q.num.natAbs=Q at*
  have U:=p.den_nz;have aa:=q.den_nz;generalize qo:p.den=d at*
  generalize ru:q.den=e at*
  generalize aG:decide (p<0)=s at*
  generalize aS:decide (q<0)=t at*
  rw[ao,e2,B1,Rat.mkRat_mul_mkRat,Rat.mkRat_eq_iff (bYK (bYK U aF) aa) U];unfold mr;simp only[bXL];cases s<;>cases t<;>simp<;>grind
 generalize iN (!(decide (p<0)==decide (q<0))) (p.num.natAbs*q.den) (p.den*q.num.natAbs)=x at*
 grind
section
variable[cn]
theorem avX(al:fa X)(au:cU pm H){v w:Value}{p q:Rat}{k:Nat}(U:iv H v p)(aa:iv H w q)(s1:sz p k)(s2:sz q k)(ag:k<67108864):
 Call X pm F.oG [v,w] H λr H'=>b6 pm H H'/\(q=0/\r=.tuple #[.pointer none,.bool false]∨q≠0/\∃x,r=.tuple #[x,.bool true]/\jC H' x (p/q)):=by
 refine Call.has al.oG rfl ?_;simp;refine aR.bZb (sr al au U) ?_;rintro _ H1 ⟨av,jA,jB,rfl,B3,qo⟩;simp;refine aR.bZb (sr al av.ok (aa.bT au av)) ?_;rintro _ aJ ⟨aI,Xh,Xi,rfl,qp,ru⟩;simp;refine aR.bZb (xP al aI.ok (B3.bT av.ok aI) ru s1.1 s2.2 (by omega)) ?_;rintro dh bN ⟨aQ,lX⟩;simp;refine aR.bZb (xP al aQ.ok ((qo.bT av.ok aI).bT aI.ok aQ) (qp.bT aI.ok aQ) s1.2 s2.1 (by omega)) ?_;rintro kf cp ⟨bt,E8⟩;simp;refine aR.bZb (Xd al bt.ok (neg:=!(decide (p<0)==decide (q<0))) (lX.bT aQ.ok bt) E8 (pq s1.1 s2.2) (pq s1.2 s2.1) (by omega)) ?_;have bY:=av.trans (aI.trans (aQ.trans bt));rintro _ cV ⟨cd,⟨h,rfl⟩ | ⟨h,x,rfl,az⟩⟩
 ·have:q=0:=by
   rcases Nat.mul_eq_zero.1 h with h | h
   ·exact absurd h p.den_nz
   ·exact bXJ.1 (by omega)
  simp;exact⟨bY.trans cd,this⟩
 ·have:q≠0:=by
   rintro rfl;simp at h
  simp;exact⟨bY.trans cd,this,by rw[Xj this];exact az⟩
def avY(H:ah)(r:Value)(t:Int)(b:Nat):Prop:=∃s x j,r=.tuple #[.bool s,x]/\c6 H x j/\mr s j=t/\j<=b
theorem Xk(al:fa X)(au:cU pm H){p q:Bool}{v w:Value}{n m k:Nat}(aw:c6 H v n)(hw:c6 H w m)(aF:n<4294967296^k)(hm:m<4294967296^k)(ag:k<268435456):
 Call X pm F.tR [.bool p,v,.bool q,w] H λr H'=>b6 pm H H'/\avY H' r (mr p n+mr q m) (n+m):=by
 refine Call.has al.tR rfl ?_;by_cases hh:p=q
 ·subst hh;simp;refine aR.bZb (NK al au aw hw aF hm ag) ?_;rintro r H1 ⟨av,an⟩;simp;exact⟨av,p,r,n+m,rfl,an,by unfold mr;cases p<;>simp<;>omega,bR _⟩
 ·have avZ:(p==q)=false:=by simpa using hh
  simp[avZ];refine aR.bZb (W' al au aw hw aF hm ag) ?_;rintro _ H1 ⟨av,⟨bO,rfl⟩ | ⟨hle,x,rfl,az⟩⟩
  ·simp;refine aR.bZb (W' al av.ok (hw.bT au av) (aw.bT au av) hm aF ag) ?_;rintro _ aJ ⟨aI,⟨xS,rfl⟩ | ⟨hle,x,rfl,az⟩⟩
   ·omega
   ·simp;refine⟨av.trans aI,q,x,m-n,rfl,az,?_,by omega⟩;unfold mr;cases p<;>cases q<;>simp at hh|-<;>omega
  ·simp;refine⟨av,p,x,n-m,rfl,az,?_,by omega⟩;unfold mr;cases p<;>cases q<;>simp at hh|-<;>omega
theorem Xl(al:fa X)(au:cU pm H){v w:Value}{p q:Rat}{k:Nat}(U:iv H v p)(aa:iv H w q)(s1:sz p k)(s2:sz q k)(ag:k<67108864):
 Call X pm F.kG [v,w] H λr H'=>b6 pm H H'/\jC H' r (p+q):=by
 refine Call.has al.kG rfl ?_;simp;refine aR.bZb (sr al au U) ?_;rintro _ H1 ⟨av,jA,jB,rfl,B3,qo⟩;simp;refine aR.bZb (sr al av.ok (aa.bT au av)) ?_;rintro _ aJ ⟨aI,Xh,Xi,rfl,qp,ru⟩;have NR:=B3.bT av.ok aI;have IY:=qo.bT av.ok aI;simp;refine aR.bZb (xQ al NR s1.1 (by omega)) ?_;rintro _ aJ ⟨rfl,rfl⟩;have e0:=av.trans aI;by_cases jR:p.num=0
 ·have aC:p=0:=bXJ.1 jR;simp[jR];refine aR.bZb (B2 al aI.ok (neg:=decide (q<0)) qp ru s2.1 s2.2 (by omega) q.den_nz) ?_;rintro r bN ⟨aQ,an⟩;rw[IV]at an;simp;rw[aC,bXM];exact⟨e0.trans aQ,an⟩
 simp[jR];refine aR.bZb (NL al IY ru s1.2 s2.2 (by omega)) ?_;rintro _ aJ ⟨rfl,rfl⟩;have vO:p=mkRat (mr (decide (p<0)) p.num.natAbs) p.den:=by rw[<-rq];exact(Rat.mkRat_self p).symm
 have av0:q=mkRat (mr (decide (q<0)) q.num.natAbs) q.den:=by rw[<-rq];exact(Rat.mkRat_self q).symm
 by_cases aB:p.den=q.den
 ·have af:iu p.den q.den=0:=by simp[iu,aB]
  simp[af];refine aR.bZb (Xk al aI.ok (p:=decide (p<0)) (q:=decide (q<0)) NR qp s1.1 s2.1 (by omega)) ?_;rintro _ bN ⟨aQ,s,x,j,rfl,az,aG,aH⟩;simp;refine aR.bZb (B2 al aQ.ok (neg:=s) az (IY.bT aI.ok aQ) (eD aH (IW s1.1 s2.1)) (oF s1.2 (by omega)) (by omega) p.den_nz) ?_;rintro r cp ⟨bt,an⟩;simp;refine⟨e0.trans (aQ.trans bt),?_⟩;have:p+q=iN s j p.den:=by
   rw[B1,aG,aB,Rat.add_def',<-rq,<-rq,aB,<-Int.add_mul];exact Rat.mkRat_mul_right q.den_nz
  rw[this];exact an
 ·have af:iu p.den q.den≠0:=by unfold iu;split<;>simp
  simp[af];refine aR.bZb (xP al aI.ok NR ru s1.1 s2.2 (by omega)) ?_;rintro dh bN ⟨aQ,lX⟩;simp;refine aR.bZb (xP al aQ.ok (qp.bT aI.ok aQ) (IY.bT aI.ok aQ) s2.1 s1.2 (by omega)) ?_;rintro kf cp ⟨bt,E8⟩;simp;refine aR.bZb (Xk al bt.ok (p:=decide (p<0)) (q:=decide (q<0)) (lX.bT aQ.ok bt) E8 (pq s1.1 s2.2) (pq s2.1 s1.2) (by omega)) ?_;rintro _ cV ⟨cd,s,x,j,rfl,az,aG,aH⟩;have jS:=aQ.trans (bt.trans cd);simp;refine aR.bZb (xP al cd.ok (IY.bT aI.ok jS) (ru.bT aI.ok jS) s1.2 s2.2 (by omega)) ?_;rintro NS ep ⟨cv,av1⟩;simp;refine aR.bZb (B2 al cv.ok (neg:=s) (az.bT cd.ok cv) av1 (eD aH (IW (pq s1.1 s2.2) (pq s2.1 s1.2))) (oF (pq s1.2 s2.2) (by omega)) (by omega) (bYK p.den_nz q.den_nz)) ?_;rintro r hM ⟨dJ,an⟩;simp;refine⟨e0.trans (jS.trans (cv.trans dJ)),?_⟩;have:p+q=iN s j (p.den*q.den):=by
   rw[B1,aG,Rat.add_def'];congr 1;rw[rq p,rq q];unfold mr;cases decide (p<0)<;>cases decide (q<0)<;>simp[Int.neg_mul]
  rw[this];exact an
end
theorem vP{q:Rat}{k:Nat}(h:sz q k):sz (-q) k:=by
 obtain⟨ao,e2,_⟩:=Xf q;exact⟨by rw[ao];exact h.1,by rw[e2];exact h.2⟩
section
variable[cn]
theorem Xm(al:fa X)(au:cU pm H){v w:Value}{p q:Rat}{k:Nat}(U:iv H v p)(aa:iv H w q)(s1:sz p k)(s2:sz q k)(ag:k<67108864):
 Call X pm F.nW [v,w] H λr H'=>b6 pm H H'/\jC H' r (p-q):=by
 refine Call.has al.nW rfl ?_;simp;refine aR.bZb (Xg al au aa s2 (by omega)) ?_;rintro b4 H1 ⟨av,kb⟩;simp;refine aR.bZb (Xl al av.ok (U.bT au av) kb.1 s1 (vP s2) ag) ?_;rintro cB aJ ⟨aI,kB⟩;simp;exact⟨av.trans aI,by rw[Rat.sub_eq_add_neg];exact kB⟩
theorem av2(al:fa X)(au:cU pm H){v w:Value}{p q:Rat}{k:Nat}(U:iv H v p)(aa:iv H w q)(s1:sz p k)(s2:sz q k)(de:sz (p-q) (2*k+1))(ag:k<67108864):
 Call X pm F.k7 [v,w] H λr H'=>b6 pm H H'/\r=.int .i64 (if p<q then -1 else if p=q then 0 else 1):=by
 refine Call.has al.k7 rfl ?_;simp;refine aR.bZb (Xm al au U aa s1 s2 ag) ?_;rintro b4 H1 ⟨av,kb⟩;simp;refine aR.bZb (Xe al av.ok kb.1 de (by omega)) ?_;rintro _ aJ ⟨aI,rfl⟩;have ao:(p-q<0)↔(p<q):=by constructor<;>intro h<;>grind
 have e2:(p-q=0)↔(p=q):=by constructor<;>intro h<;>grind
 simp[ao,e2];exact av.trans aI
end
end Go.Dam.C
namespace Go.Dam
open Go
abbrev aW(l:List UInt8):Value:=.string ⟨l.toArray⟩
@[simp] theorem asC(l:List UInt8):(ByteArray.mk l.toArray).size=l.length:=rfl
@[simp] theorem mk_data(l:List UInt8):(ByteArray.mk l.toArray).data=l.toArray:=rfl
theorem asD{a b:ByteArray}(h:a.data.toList=b.data.toList):a=b:=by
 obtain⟨⟨a⟩⟩:=a;obtain⟨⟨b⟩⟩:=b;exact congrArg (λl:List UInt8=>ByteArray.mk ⟨l⟩) h
theorem asE(cW:ByteArray):∀(n i:Nat) (r:List UInt8),cW.size-i=n->ByteArray.toList.loop cW i r=r.reverse++cW.data.toList.drop i:=by
 intro n
 induction n with
 | zero=>
   intro i r h;rw[ByteArray.toList.loop];have U:¬i<cW.size:=by omega
   rw[aU U,List.drop_eq_nil_of_le (by have:cW.data.toList.length=cW.size:=bZO;omega)];simp
 | succ n ih=>
   intro i r h;rw[ByteArray.toList.loop];have U:i<cW.size:=by omega
   have aa:i<cW.data.toList.length:=by rw[bZO];exact U
   rw[bm U,ih (i+1) _ (by omega),List.drop_eq_getElem_cons aa];have aq:cW.get! i=cW.data.toList[i]:=by
    show cW.data[i]! = _;rw[getElem!_pos cW.data i (by simpa using aa)];simp
   rw[aq];simp
@[simp] theorem aII(l:List UInt8):(ByteArray.mk l.toArray).toList=l:=by
  unfold ByteArray.toList;rw[asE _ _ 0 [] rfl];simp
theorem gi(s:ByteArray):s.toList=s.data.toList:=by
 unfold ByteArray.toList;rw[asE _ _ 0 [] rfl];simp
@[simp] theorem aIJ(l:List UInt8)(i j:Nat):(ByteArray.mk l.toArray).extract i j=⟨((l.drop i).take (j-i)).toArray⟩:=by
  apply asD;simp[ByteArray.data_extract,List.extract_eq_take_drop]
@[simp] theorem aIK(a b:List UInt8):(ByteArray.mk a.toArray++ByteArray.mk b.toArray)=⟨(a++b).toArray⟩:=by
  apply asD;simp[ByteArray.data_append]
end Go.Dam
namespace Go.Dam.C
open Go Go.Dam
theorem asL(c:Nat):Lib.repeatL [48] c=List.replicate c 48:=by
 induction c with
 | zero=>rfl
 | succ c ih=>rw[Lib.repeatL,ih];rfl
theorem F6{u k:Nat}(h:u<10^k)(ag:1<=k):Lib.nDigits u<=k:=by
 induction k generalizing u with
 | zero=>omega
 | succ k ih=>
   by_cases mm:u<10
   ·rw[Lib.nDigits_small mm];omega
   ·rw[Lib.nDigits_big mm];rw[bZh]at h;have so:1<=k:=by
     cases k with
     | zero=>simp at h;omega
     | succ k=>omega
    have:=ih (u:=u/10) (by omega) so;omega
section
variable[cn]
def A6:Nat->Nat->List UInt8
 | 0,_=>[]
 | k+1,r=>A6 k (r/10)++[UInt8.ofNat (48+r%10)]
end
theorem asM{q:Nat}(aV:0<q):∀{k r:Nat},r<10^k->Lib.decDigits (q*10^k+r)=Lib.decDigits q++A6 k r
 | 0,r,h=>by
   have:r=0:=by simpa using h
   subst this;simp[A6]
 | k+1,r,h=>by
   rw[bZh]at h;have aC:1<=10^k:=bYX _ _ (by decide);have Zu:1<=q*10^k:=bYM aV aC;have e:q*10^(k+1)+r=10*(q*10^k)+r:=by rw[bZh];grind
   rw[e,Lib.decDigits,dif_neg (by omega)];have ao:(10*(q*10^k)+r)/10=q*10^k+r/10:=by omega
   have e2:(10*(q*10^k)+r)%10=r%10:=by omega
   rw[ao,e2,asM aV (k:=k) (r:=r/10) (by omega),A6,bYU]
theorem asN:∀{k r:Nat},1<=k->r<10^k->A6 k r=List.replicate (k-Lib.nDigits r) 48++Lib.decDigits r
 | 0,r,h,_=>by omega
 | 1,r,_,h=>by
   have h:r<10:=by simpa using h
   rw[Lib.nDigits_small h,Lib.decDigits_one h];simp[A6,q4 h]
 | k+2,r,_,h=>by
   rw[A6,asN (k:=k+1) (r:=r/10) (by omega) (by rw[bZh]at h;omega)];by_cases mm:r<10
   ·have e:r/10=0:=by omega
    rw[e,Lib.nDigits_small mm,Lib.nDigits_small (by omega),Lib.decDigits_one (by omega:0<10),Lib.decDigits_one mm,q4 mm];rw[show k+2-1=(k+1-1)+1 by omega,List.replicate_succ',bYU,bYU];rfl
   ·rw[Lib.nDigits_big mm,bYU,show k+2-(Lib.nDigits (r/10)+1)=k+1-Lib.nDigits (r/10) by omega];congr 1
    conv=>rhs;rw[Lib.decDigits,dif_neg mm]
section
variable[cn]
def l9(n:Nat):List UInt8:=if n=0 then[] else Lib.decDigits n
end
theorem aE4(m:Nat)(hm:m≠0):l9 (m/1000000000)++(if m/1000000000=0 then Lib.decDigits (m%1000000000) else Lib.repeatL [48] (9-(Lib.decDigits (m%1000000000)).length)++Lib.decDigits (m%1000000000))=l9 m:=by
 have U:l9 m=Lib.decDigits m:=by simp[l9,hm]
 by_cases h:m/1000000000=0
 ·rw[U,h];have:m%1000000000=m:=by omega
  simp[l9,this]
 ·rw[U,aU h,asL,Lib.decDigits_length,<-asN (k:=9) (by omega) (by show m%1000000000<1000000000;omega)];rw[l9,aU h,<-asM (by omega) (by show m%1000000000<1000000000;omega)];congr 1;show m/1000000000*1000000000+m%1000000000=m;omega
theorem Gc{n k:Nat}(h:n<4294967296^k)(ag:1<=k):(Lib.decDigits n).length<=10*k:=by
 rw[Lib.decDigits_length];refine F6 ?_ (by omega);rw[bYr];exact hR h (bWg (by decide) k)
theorem Kf(n:Nat):Lib.decDigits n≠[]:=by
 intro h;have:=Lib.decDigits_length n;rw[h]at this;have:=Lib.nDigits_pos n;simp at*
 omega
end Go.Dam.C
namespace Go.Dam.C
open Go Go.Dam
variable[cn]
def aE5:cj:=.eE (.nat 0)
def qI(H:ah):Bool:=match H.get 1 with
 | some (.eE (.nat 0))=>true
 | _=>false
def DV(_:Perm)(args:List Value)(H:ah):Option (Value×ah):=match args with
 | [.int .u64 (.ofNat u),.int .i64 b]=>bif jO b 10&&(Nat.blt u 18446744073709551616&&qI H) then some (aW (Lib.decDigits u),H) else none
 | _=>none
def DW(_:Perm)(args:List Value)(H:ah):Option (Value×ah):=match args with
 | [.string s,.int .i64 (.ofNat c)]=>bif Nat.ble c 1000&&Nat.ble s.size 1000 then some (aW (Lib.repeatL s.data.toList c),H) else none
 | _=>none
def Hm(_:Perm)(args:List Value)(H:ah):Option (Value×ah):=match args with
 | [.string s,.string c]=>bif Nat.ble s.size 1000000&&(Nat.ble c.size 1000&&c.data.toList.all λb=>Nat.blt b.toNat 128) then some (aW (Lib.trimS s.data.toList c.data.toList),H) else none
 | _=>none
def Hn(_:Perm)(args:List Value)(H:ah):Option (Value×ah):=match args with
 | [.string s,.int .i64 b,.int .i64 c]=>bif jO b 10&&(jO c 32&&Nat.ble s.size 1000000) then(match Lib.parseUintB 32 s.data.toList with
   | .ok u=>some (.tuple #[.int .u64 (u:Int),.nilIface],H)
   | _=>none) else none
 | _=>none
def zu(_:Perm)(args:List Value)(H:ah):Option (Value×ah):=match args with
 | [.string s,.int .u8 (.ofNat c)]=>bif Nat.blt c 256 then some (.int .i64 (oy c s.data.toList 0),H) else none
 | _=>none
structure kr(X:aY):Prop extends fa X where
 idx:X.ov F.Uz=some zu
 tg:Has X F.tg C.tg
 th:Has X F.th C.th
 tj:Has X F.tj C.tj
 ti:Has X F.ti C.ti
 tk:Has X F.tk C.tk
 xj:Has X F.xj C.xj
 vl:Has X F.vl C.vl
 fmt:X.ov F.Uw=some DV
 rep:X.ov F.Uy=some DW
 trim:X.ov F.Hh=some Hm
 parse:X.ov F.Ux=some Hn
variable{X:aY}{pm:Perm}{H H':ah}
def Tab(H:ah):Prop:=H.get 1=some aE5
theorem Tab.bT(h:Tab H)(au:cU pm H)(ag:b6 pm H H'):Tab H':=ag.some au h
end Go.Dam.C
namespace Go.Dam.C
open Go Go.Dam
variable{X:aY}{pm:Perm}{H H':ah}
theorem aE6(al:kr X)(aS:Tab H){u:Nat}(hu:u<18446744073709551616):Call X pm F.Uw [.int .u64 (u:Int),.int .i64 10] H λr H'=>H'=H/\r=aW (Lib.decDigits u):=by
 refine Call.over al.fmt (v:=aW (Lib.decDigits u)) (H':=H) ?_ ⟨rfl,rfl⟩;show DV pm [.int .u64 (.ofNat u),.int .i64 10] H=_;have U:qI H=true:=by unfold qI;rw[aS];rfl
 simp only[DV,U,js,hu,decide_true];rfl
theorem aE7(al:kr X){l:List UInt8}{c:Nat}(af:c<=1000)(aO:l.length<=1000):Call X pm F.Uy [aW l,.int .i64 (c:Int)] H λr H'=>H'=H/\r=aW (Lib.repeatL l c):=by
 refine Call.over al.rep (v:=aW (Lib.repeatL l c)) (H':=H) ?_ ⟨rfl,rfl⟩;show DW pm [aW l,.int .i64 (.ofNat c)] H=_;simp[DW,dA,af,aO]
end Go.Dam.C
namespace Go.Dam.C
open Go Go.Dam
variable[cn]
attribute [simp] xr
variable{X:aY}{pm:Perm}{H H':ah}
theorem aE8(au:cU pm H){r:Value}{a:List Nat}(aB:er H r a)(ir:a.length<=1073741824):
 ∃s1 aJ,bF.run pm (hV 1 r λnew n=>iV 1 4 (.slice none 0 0) new n) H=some (s1,aJ)/\b6 pm H aJ/\er aJ s1 a:=by
 by_cases aD:a=[]
 ·subst aD;refine⟨.slice none 0 0,H,?_,.refl au,.nil⟩;obtain⟨_,⟨rfl,_⟩ | ⟨c,off,cap,y,row,rfl,U,aa,aq,a8,_⟩⟩:=id aB
  ·simp[iV]
  ·simp[U,aa.row,cX,iV,dA,show off<=row.length by simpa using a8]
 ·obtain⟨c,off,cap,y,row,rfl,U,aa,aq⟩:=aB.parts aD;have aO:0<a.length:=bYR.2 aD;have oA:(c4 a).all fG=true:=by
   rw[hz];intro x az;obtain⟨d,_,rfl⟩:=bZT.1 az;rfl
  refine⟨.slice (some ⟨H.next,0,none⟩) a.length a.length,H.new (.cells (c4 a) (.n 1)),?_,(b6.refl au).new _,aB.1,.inr ⟨H.next,0,a.length,_,c4 a,rfl,dT,.inl rfl,?_,?_,bR _,au.new _ (bR _)⟩⟩
  ·simp[U,aa,aq,iV,dA,oA,show ¬a.length=0 by omega,show a.length*4<=17179869184 by omega,show a.length<=17179869184 by omega,au.make,au.pick]
  ·rw[List.drop_zero,tp (by simp[c4])]
  ·simp[c4]
theorem UC(al:kr X)(au:cU pm H)(aS:Tab H){v:Value}{n k:Nat}(aw:c6 H v n)(aF:n<4294967296^k)(so:1<=k)(ag:k<100000000):
 Call X pm F.uM [v] H λr H'=>b6 pm H H'/\r=aW (Lib.decDigits n):=by
 obtain⟨a,aN,jQ,hX⟩:=aw.out;have ir:=i' jQ hX aF;refine Call.has al.uM rfl ?_;simp;refine aR.bZb (kW al.eK aN) ?_;rintro fw _ ⟨rfl,aB⟩;obtain⟨s1,aJ,aE9,aI,kd⟩:=aE8 au aB (by omega);simp[-hV,aE9];refine hv.of (λs:Value×List Nat×List UInt8=>[(3,s.1),(4,aW s.2.2)]) (λs H'=>b6 pm aJ H'/\er H' s.1 s.2.1/\strip s.2.1=s.2.1/\s.2.1.length<=k/\l9 (bb s.2.1)++s.2.2=l9 n) (λs=>bb s.2.1) (s1,a,[]) (by simp) ⟨.refl aI.ok,kd,jQ,ir,by simp[hX]⟩ ?_;rintro⟨v3,ds,s⟩ bN ⟨aQ,Ap,gz,hlen,hinv⟩;simp only at Ap gz hlen hinv;obtain⟨base,cap,rfl⟩:=Ap.form;have Kp:(l9 n).length<=10*k:=by
  unfold l9;split
  ·simp
  ·exact Gc aF so
 by_cases aD:ds=[]
 ·subst aD;have aG:s=l9 n:=by simpa [bb,l9]using hinv
  simp[aG];by_cases mS:n=0
  ·subst mS;simp[l9];exact⟨aI.trans aQ,by rw[Lib.decDigits_one (by omega)];rfl⟩
  ·have:l9 n=Lib.decDigits n:=by simp[l9,mS]
   rw[this];simp[Kf n];exact aI.trans aQ
 ·have IB:0<ds.length:=bYR.2 aD;have aFa:bb ds≠0:=by
   have:=C2 gz aD;have:=bYY (n:=ds.length-1) (show 0<4294967296 by decide);omega
  simp[IB];refine aR.bZb (aaE al.tofa aQ.ok Ap (by omega) (y:=1000000000) (by omega) (by omega)) ?_;rintro _ cp ⟨bt,IL,fr,rfl,OT,qp,Dh⟩;simp;refine aR.bZb (Q9 al.fB bt.ok OT (by omega)) ?_;rintro _ cV ⟨cd,b,x,LA,rfl,xG,aFb,L0⟩;have jS:=aI.trans (aQ.trans (bt.trans cd));simp[xG,aFb];refine aR.bZb (aE6 al (aS.bT au jS) (u:=bb ds%1000000000) (by omega)) ?_;rintro _ cV ⟨rfl,rfl⟩;obtain⟨uX,Hc,rfl⟩:=L0.form;have aFc:(strip fr).length<=k:=by
   have:=i' (k:=k) (C1 fr) (qn fr) (by rw[qp];exact eD (oe _ _) (hR (s0 Ap.1) (iH (by decide) hlen)));exact this
  have ld:=Lib.decDigits_length (bb ds%1000000000);have aIL:Lib.nDigits (bb ds%1000000000)<=9:=F6 (by show _<1000000000;omega) (by omega);have lM:=aE4 (bb ds) aFa;have qi:s.length<=10*k:=by
   have:=congrArg List.length hinv;simp at this;omega
  have E4:bb ds/1000000000<bb ds:=by omega
  by_cases sS:strip fr=[]
  ·have aV:bb ds/1000000000=0:=by rw[<-qp,<-qn,sS];rfl
   rw[bm aV]at lM;simp[sS,dA,ld,show Lib.nDigits (bb ds%1000000000)+s.length<=4294967296 by omega];refine .of (.slice uX 0 Hc,[],Lib.decDigits (bb ds%1000000000)++s) (by show bb []<bb ds;simp[bb];omega) (by simp) ⟨aQ.trans (bt.trans cd),by rw[sS]at L0;exact L0,by simp[strip],by simp,?_⟩;show l9 (bb [])++(_++s)=l9 n;rw[<-hinv,<-lM,aV];simp[bb]
  ·have aV:bb ds/1000000000≠0:=by
    rw[<-qp,<-qn];have:=C2 (C1 fr) sS;have:=bYY (n:=(strip fr).length-1) (show 0<4294967296 by decide);omega
   rw[aU aV]at lM;have hw:wr .i64 ((9:Int)-((Lib.nDigits (bb ds%1000000000):Nat):Int))=((9-Lib.nDigits (bb ds%1000000000):Nat):Int):=by rw[zWc (by omega) (by omega)];omega
   have nR:0<(strip fr).length:=bYR.2 sS;simp[nR,dA,ld,hw];refine aR.bZb (aE7 al (l:=[48]) (c:=9-Lib.nDigits (bb ds%1000000000)) (by omega) (by simp)) ?_;rintro _ cV ⟨rfl,rfl⟩;have asO:(Lib.repeatL [48] (9-Lib.nDigits (bb ds%1000000000))).length=9-Lib.nDigits (bb ds%1000000000):=by rw[asL];simp
   simp[dA,ld,asO,show 9-Lib.nDigits (bb ds%1000000000)+Lib.nDigits (bb ds%1000000000)<=4294967296 by omega,show 9-Lib.nDigits (bb ds%1000000000)+Lib.nDigits (bb ds%1000000000)+s.length<=4294967296 by omega];refine .of (.slice uX (strip fr).length Hc,strip fr,Lib.repeatL [48] (9-Lib.nDigits (bb ds%1000000000))++Lib.decDigits (bb ds%1000000000)++s) (by show bb (strip fr)<bb ds;rw[qn,qp];exact E4) (by simp) ⟨aQ.trans (bt.trans cd),L0,C1 fr,aFc,?_⟩;show l9 (bb (strip fr))++(_++s)=l9 n;rw[qn,qp,<-hinv,<-lM,ld];simp
end Go.Dam.C
namespace Go.Dam.C
open Go Go.Dam
variable{X:aY}{pm:Perm}{H H':ah}
section
variable[cn]
def iF(c:UInt8):Bool:=Nat.ble 48 c.toNat&&Nat.ble c.toNat 57
def tn(acc:Nat)(l:List UInt8):Nat:=l.foldl (λa c=>a*10+(c.toNat-48)) acc
def fi(l:List UInt8):Nat:=tn 0 l
end
theorem aFd(l:List UInt8):∀acc,tn acc l=acc*10^l.length+fi l:=by
 induction l with
 | nil=>intro acc;simp[tn,fi]
 | cons c l ih=>
   intro acc;have U:=ih (acc*10+(c.toNat-48));have aa:=ih (0*10+(c.toNat-48));simp only[fi,tn,bYW]at U aa|-;rw[U,aa,bZt,bZh];grind
theorem UD(a b:List UInt8):fi (a++b)=fi a*10^b.length+fi b:=by
 rw[fi,tn,List.foldl_append];exact aFd b _
theorem Kc{l:List UInt8}(h:l.all iF=true):fi l<10^l.length:=by
 induction l with
 | nil=>simp[fi,tn]
 | cons c l ih=>
   simp only[bYm,cG]at h;have U:=ih h.2;have aa:fi (c::l)=(c.toNat-48)*10^l.length+fi l:=by
    have:=UD [c] l;simpa [fi,tn]using this
   have aq:c.toNat-48<=9:=by
    have:=h.1;simp[iF,dA]at this;omega
   rw[aa,bZt,bZh];have:=hQ (10^l.length) aq;omega
theorem asP:∀(l:List UInt8) (acc:Nat),l.all iF=true->(acc+1)*10^l.length<=1000000000->Lib.parseUintM (2^32-1) acc l=.ok (tn acc l)
 | [],acc,_,_=>rfl
 | c::l,acc,h,ai=>by
   simp only[bYm,cG]at h;have af:=h.1;simp[iF,dA]at af;rw[bZt,bZh]at ai;have aC:1<=10^l.length:=bYX _ _ (by decide);have yH:(acc*10+(c.toNat-48)+1)*10^l.length<=1000000000:=by
    refine bH (hQ _ (show acc*10+(c.toNat-48)+1<=(acc+1)*10 by omega)) ?_;rw[og,gw 10];exact ai
   have C9:acc*10+(c.toNat-48)+1<=1000000000:=bH (bXg _ aC) yH;rw[Lib.parseUintM,bm ⟨af.1,af.2⟩,aU (by omega),aU (by omega)];exact asP l _ h.2 yH
section
variable[cn]
abbrev yX:List UInt8:=[48,49,50,51,52,53,54,55,56,57]
end
theorem aFe(c:UInt8):yX.contains c=iF c:=by
 have:∀n:_root_.Fin 256,yX.contains (UInt8.ofNat n.val)=iF (UInt8.ofNat n.val):=by decide +kernel
 have h:=this ⟨c.toNat,c.toNat_lt⟩;simpa using h
theorem dropWhile_nil{p:UInt8->Bool}:∀{l:List UInt8},l.dropWhile p=[]->l.all p=true
 | [],_=>rfl
 | c::l,h=>by
   rw[List.dropWhile_cons]at h;split at h
   ·rename_i af;simp[af];have:=dropWhile_nil h;simpa using this
   ·cases h
theorem asQ{l:List UInt8}:(Lib.trimS l yX=[])↔l.all iF=true:=by
 have e:(λc=>yX.contains c)=iF:=funext aFe;constructor
 ·intro h;unfold Lib.trimS Lib.trimLeftS Lib.trimRightS at h;rw[e]at h;have U:=dropWhile_nil h;rw[List.all_reverse]at U;have aa:(l.reverse.takeWhile iF).all iF=true:=by
   exact List.all_takeWhile
  have aq:l.reverse.all iF=true:=by
   rw[<-List.takeWhile_append_dropWhile (p:=iF) (l:=l.reverse),List.all_append,aa,U];rfl
  rwa [List.all_reverse]at aq
 ·intro h;unfold Lib.trimS Lib.trimLeftS Lib.trimRightS;rw[e];have U:l.reverse.dropWhile iF=[]:=by
   have:l.reverse.all iF=true:=by rw[List.all_reverse];exact h
   generalize l.reverse=m at*
   induction m with
   | nil=>rfl
   | cons c m ih=>
     simp only[bYm,cG]at this;rw[List.dropWhile_cons,bm this.1];exact ih this.2
  rw[U];rfl
theorem aFf(al:kr X){l:List UInt8}(aO:l.length<=1000000):Call X pm F.Hh [aW l,aW yX] H λr H'=>H'=H/\r=aW (Lib.trimS l yX):=by
 refine Call.over al.trim (v:=aW (Lib.trimS l yX)) (H':=H) ?_ ⟨rfl,rfl⟩;simp only[Hm,dA,asC,aO,decide_true,Bool.true_and];rfl
theorem aFg(al:kr X){l:List UInt8}(h:l.all iF=true)(aD:l≠[])(mm:l.length<=9):Call X pm F.Ux [aW l,.int .i64 10,.int .i64 32] H λr H'=>H'=H/\r=.tuple #[.int .u64 ((fi l:Nat):Int),.nilIface]:=by
 refine Call.over al.parse (v:=.tuple #[.int .u64 ((fi l:Nat):Int),.nilIface]) (H':=H) ?_ ⟨rfl,rfl⟩;have aC:Lib.parseUintB 32 l=.ok (fi l):=by
  unfold Lib.parseUintB;rw[aU aD];refine asP l 0 h ?_;have:10^l.length<=10^9:=iH (by decide) mm;omega
 simp only[Hn,dA,asC,show l.length<=1000000 by omega,decide_true];simp[aC]
section
variable[cn]
def je(l:List UInt8):Bool:=!l.isEmpty&&(Nat.ble l.length 2000&&(!(Nat.blt 1 l.length&&l.head? ==some 48)&&l.all iF))
end
theorem QU(n:Nat):10^n<=4294967296^n:=bWg (by decide) n
theorem aFh{p:UInt8->Bool}{l:List UInt8}(h:l.all p=true)(k:Nat):(l.take k).all p=true/\(l.drop k).all p=true:=by
 have:=h;rw[<-bXA k l,List.all_append,cG]at this;exact this
section
variable[cn]
def yY(pm:Perm)(H:ah)(l:List UInt8):c':=λx l' H'=>(x=gr.normal∨x=gr.ret)/\∃vs,nb l' H' [.slot 2,.slot 3]=some vs/\(b6 pm H H'/\(je l=false/\j5 vs=.tuple #[.pointer none,.bool false]∨je l=true/\∃p,j5 vs=.tuple #[p,.bool true]/\c6 H' p (fi l)))
theorem aFi(al:kr X)(au:cU pm H){l:List UInt8}(aK:je l=true)(aB:l.all iF=true)(hlen:l.length<=2000)(U:1<=l.length){L:bQ}(c0:a7 0 L=some (aW l)):
 wp X pm (.code yV) L H [] (yY pm H l):=by
 simp;refine aR.bZb (Q9 al.fB au er.nil (by simp)) ?_;rintro bJ H1 ⟨av,n1⟩;have n1:c6 H1 bJ 0:=(show gm H1 bJ (strip []) from .inr n1).nat;have hw:wr .i64 ((l.length%9:Nat):Int)=((l.length%9:Nat):Int):=zWc (by omega) (by omega);have lU:wr .i64 ((l.length:Int)%9)=((l.length%9:Nat):Int):=by rw[<-hw];simp
 simp[c0]
 refine hv.of (λs:List UInt8×Nat×Value×Nat=>[(0,aW s.1),(5,.int .i64 (s.2.1:Int)),(4,s.2.2.1)])
  (λs H'=>b6 pm H1 H'/\c6 H' s.2.2.1 s.2.2.2/\s.1.all iF=true/\s.1.length<=l.length/\fi l=s.2.2.2*10^s.1.length+fi s.1/\(s.2.1=9->s.1.length%9=0)/\(s.2.1≠9->s.2.1=s.1.length%9/\s.2.2.2=0))
  (λs=>2*s.1.length+(if s.2.1=9 then 0 else 1)) (l,l.length%9,bJ,0) (by simp[c0]) ⟨.refl av.ok,n1,aB,bR _,by simp,by simp;omega,by simp⟩ ?_
 rintro⟨r,bY,out,m⟩ aJ ⟨aI,hm,As,ld,mq,UE,zL⟩;simp only at hm As ld mq UE zL;by_cases rr:r=[]
 ·subst rr;have:m=fi l:=by rw[mq];simp[fi,tn]
  simp[yY,aK];exact⟨av.trans aI,by rw[<-this];exact hm⟩
 ·have asO:0<r.length:=bYR.2 rr;by_cases CH:bY=0
  ·subst CH;have:=zL (by omega);simp[rr];exact .of (r,9,out,m) (by simp) (by simp) ⟨aI,hm,hz.1 As,ld,mq,λ_=>this.1.symm,λh=>absurd rfl h⟩
  ·have aFj:0<bY:=by omega
   have sJ:bY<=r.length/\bY<=9:=by
    by_cases h:bY=9
    ·have:=UE h;omega
    ·have:=zL h;omega
   have UF:=aFh As bY;have d':(r.take bY).length=bY:=by simp;omega
   have rh:(r.drop bY).length=r.length-bY:=by simp
   simp[rr,aFj,sJ];refine aR.bZb (aFg al UF.1 (by intro h;rw[h]at d';simp at d';omega) (by omega)) ?_;rintro _ aJ ⟨rfl,rfl⟩;have ui:List.take (r.length-bY) (r.drop bY)=r.drop bY:=tp (by rw[rh];exact bR _);have UG:=Kc UF.1;rw[d']at UG;have aIM:fi (r.take bY)<1000000000:=hR UG (iH (n:=10) (by decide) sJ.2);have aFk:fi r=fi (r.take bY)*10^(r.length-bY)+fi (r.drop bY):=by
    conv=>lhs;rw[<-bXA bY r]
    rw[UD,rh]
   have om:fi l=(m*1000000000+fi (r.take bY))*10^(r.length-bY)+fi (r.drop bY):=by
    rw[mq,aFk];by_cases h:bY=9
    ·have:10^r.length=1000000000*10^(r.length-bY):=by
      rw[h,show(1000000000:Nat)=10^9 from rfl,<-hT];congr 1;omega
     rw[this];grind
    ·rw[(zL h).2];simp
   have bO:=Kc aB;have zt:1<=10^(r.length-bY):=bYX _ _ (by decide);have pZ:m*1000000000+fi (r.take bY)<4294967296^l.length:=by
    refine eD ?_ (hR bO (QU _));rw[om];exact bH (bXg _ zt) (hS _ _)
   have hu:1000000000<4294967296^l.length:=by
    have:4294967296^1<=4294967296^l.length:=iH (by decide) U;omega
   simp;refine aR.bZb (E5 al.tofa aI.ok (x:=1000000000) (by omega)) ?_;rintro cO bN ⟨aQ,Cu⟩;simp;refine aR.bZb (xP al.tofa aQ.ok (hm.bT aI.ok aQ) Cu (k:=l.length) (eD (by omega) pZ) hu (by omega)) ?_;rintro aIN cp ⟨bt,aFl⟩;simp;refine aR.bZb (E5 al.tofa bt.ok (x:=fi (r.take bY)) (by omega)) ?_;rintro aIO cV ⟨cd,Rf⟩;simp;refine aR.bZb (NK al.tofa cd.ok (aFl.bT bt.ok cd) Rf (k:=l.length) (eD (hS _ _) pZ) (eD (Nat.le_add_left _ _) pZ) (by omega)) ?_;rintro qZ ep ⟨cv,aFm⟩;simp[sJ];refine .of (r.drop bY,9,qZ,m*1000000000+fi (r.take bY)) (by show 2*(r.drop bY).length+0<2*r.length+_;rw[rh];omega) (by simp;exact ui.symm▸rfl) ⟨aI.trans (aQ.trans (bt.trans (cd.trans cv))),aFm,hz.1 UF.2,by simp;omega,by show fi l=_;simp only;rw[rh];exact om,λ_=>?_,λh=>absurd rfl h⟩;show(r.drop bY).length%9=0;rw[rh];by_cases h:bY=9
   ·have:=UE h;omega
   ·have:=(zL h).1;omega
theorem UH(al:kr X)(au:cU pm H){l:List UInt8}:
 Call X pm F.sY [aW l] H λr H'=>b6 pm H H'/\(je l=false/\r=.tuple #[.pointer none,.bool false]∨je l=true/\∃p,r=.tuple #[p,.bool true]/\c6 H' p (fi l)):=by
 refine Call.has al.sY rfl ?_;show wp X pm (.code sY.body) _ H [] (yY pm H l)
 cases aO:l with
 | nil=>
   simp;refine aR.not (by simp) ?_;simp[je,yY];exact .refl au
 | cons c t=>
   rw[<-aO];have U:l.isEmpty=false:=by rw[aO];rfl
   have aD:l[0]? = some c:=by rw[aO];rfl
   have dr:l≠[]:=by rw[aO];simp
   have c9:l.head? = some c:=by rw[aO];rfl
   have aK:je l=(Nat.ble l.length 2000&&(!(Nat.blt 1 l.length&&c==48)&&l.all iF)):=by unfold je;rw[U,c9];simp
   by_cases aa:2000<l.length
   ·simp[U,aa];refine aR.not (by simp) ?_;simp[yY,aK,dA,show ¬l.length<=2000 by omega];exact .refl au
   ·simp[U,aa];by_cases aq:1<l.length/\c.toNat=48
    ·simp[aq.1,aq.2,aD];refine aR.not (by simp) ?_;have af:c=48:=bXI.1 (by rw[aq.2];rfl);simp[yY,aK,js,aq.1,af];exact .refl au
    ·have fin:∀{L:bQ},a7 0 L=some (aW l)->a7 25 L=some (.bool false)->aR X pm ⟨some 27,some (25,false),.call F.Hh [.t 26,.c (.string ⟨#[48,49,50,51,52,53,54,55,56,57]⟩)]⟩ F.Hh [.t 26,.c (.string ⟨#[48,49,50,51,52,53,54,55,56,57]⟩)] Hj ((26,aW l)::L) H [.seq Hi,.seq yV] (yY pm H l):=by
      intro L c0 GJ;refine aR.of (by simp[GJ]) (by simp) (aFf al (l:=l) (by omega)) ?_;rintro _ H ⟨rfl,rfl⟩;have KU:je l=l.all iF:=by
       rw[aK];have ao:Nat.ble l.length 2000=true:=by simp[dA];omega
       have e2:(Nat.blt 1 l.length&&c==48)=false:=by
        by_cases bn:1<l.length
        ·by_cases bh:c=48
         ·exact absurd ⟨bn,by rw[bh];rfl⟩ aq
         ·simp[bh]
        ·simp[js];omega
       rw[ao,e2];simp
      by_cases aB:l.all iF=true
      ·have aS:=asQ.2 aB;simp[GJ,aS,-yV];exact aFi al au (by rw[KU];exact aB) aB (by omega) (by rw[aO];simp) (by simp[c0])
      ·have aS:Lib.trimS l yX≠[]:=λh=>aB (asQ.1 h);simp[GJ,aS,-yV,yY,KU,aB];exact .refl au
     by_cases bn:1<l.length
     ·have bh:((c.toNat:Int)==48)=false:=by
       have:¬c.toNat=48:=λh=>aq ⟨bn,h⟩;simp;omega
      simp[bn,bh,aD,-yV,-Hi,-Hj];refine fin ?_ ?_<;>simp[*]
     ·simp[bn,-yV,-Hi,-Hj];refine fin ?_ ?_<;>simp[*]
end
theorem aFn(al:kr X)(c:UInt8)(t:List UInt8):Call X pm F.tk [aW (c::t),aW [c]] H λr H'=>H'=H/\r=.bool true:=by
 refine Call.has al.tk rfl ?_;simp[show ¬((t.length:Int)+1<1) by omega]
theorem aFo(al:kr X)(c:UInt8){l:List UInt8}(h:l.head?≠some c):Call X pm F.tk [aW l,aW [c]] H λr H'=>H'=H/\r=.bool false:=by
 refine Call.has al.tk rfl ?_
 cases l with
 | nil=>simp
 | cons d t=>
   have:d≠c:=λe=>h (by rw[e];rfl);simp[this,show ¬((t.length:Int)+1<1) by omega]
theorem aFp(al:kr X)(c:UInt8)(t:List UInt8):Call X pm F.th [aW (c::t),aW [c]] H λr H'=>H'=H/\r=.tuple #[aW t,.bool true]:=by
 refine Call.has al.th rfl ?_;simp;have h:Call X pm F.ti [aW (c::t),aW [c]] H λr H'=>H'=H/\r=.tuple #[aW t,.bool true]:=by
  refine Call.has al.ti rfl ?_;simp;refine aR.bZb (aFn al c t) ?_;rintro _ _ ⟨rfl,rfl⟩;simp
 refine aR.bZb h ?_;rintro _ _ ⟨rfl,rfl⟩;simp
theorem aFq(al:kr X)(c:UInt8){l:List UInt8}(h:l.head?≠some c):Call X pm F.th [aW l,aW [c]] H λr H'=>H'=H/\r=.tuple #[aW l,.bool false]:=by
 refine Call.has al.th rfl ?_;simp;have h:Call X pm F.ti [aW l,aW [c]] H λr H'=>H'=H/\r=.tuple #[aW l,.bool false]:=by
  refine Call.has al.ti rfl ?_;simp;refine aR.bZb (aFo al c h) ?_;rintro _ _ ⟨rfl,rfl⟩;simp
 refine aR.bZb h ?_;rintro _ _ ⟨rfl,rfl⟩;simp
theorem asR:∀{l:List UInt8} {n:Nat},47∉l->oy 47 l n=-1
 | [],_,_=>rfl
 | c::l,n,h=>by
   have af:¬c.toNat=47:=λe=>h (by rw[show c=47 from bXI.1 (by rw[e];rfl)];exact .head _);simp only[oy,ed,af,decide_false,cond_false];exact asR λhm=>h (.tail _ hm)
theorem asS:∀{a:List UInt8} {b:List UInt8} {n:Nat},47∉a->oy 47 (a++47::b) n=((n+a.length:Nat):Int)
 | [],b,n,_=>by
   simp only[bXK,oy,ed];rfl
 | c::a,b,n,h=>by
   have af:¬c.toNat=47:=λe=>h (by rw[show c=47 from bXI.1 (by rw[e];rfl)];exact .head _);simp only[bZQ,oy,ed,af,decide_false,cond_false];rw[asS λhm=>h (.tail _ hm)];simp only[bZt];congr 1;omega
theorem aFr(al:kr X)(l:List UInt8):Call X pm F.Uz [aW l,.int .u8 47] H λr H'=>H'=H/\r=.int .i64 (oy 47 l 0):=
 Call.over al.idx (v:=.int .i64 (oy 47 l 0)) (H':=H) rfl ⟨rfl,rfl⟩
theorem asT(al:kr X)(l:List UInt8):Call X pm F.xj [aW l,aW [47]] H λr H'=>H'=H/\r=.int .i64 (oy 47 l 0):=by
 refine Call.has al.xj rfl ?_;have h:Call X pm F.vl [aW l,.int .u8 47] H λr H'=>H'=H/\r=.int .i64 (oy 47 l 0):=by
  refine Call.has al.vl rfl ?_;simp;refine aR.bZb (aFr al l) ?_;rintro _ _ ⟨rfl,rfl⟩;simp
 by_cases aO:[47]=l
 ·subst aO;simp;rfl
 simp[aO];refine aR.bZb h ?_;rintro _ _ ⟨rfl,rfl⟩;simp
theorem aFs(al:kr X){l:List UInt8}(aO:47∉l):Call X pm F.tg [aW l,aW [47]] H λr H'=>H'=H/\r=.tuple #[aW l,aW [],.bool false]:=by
 refine Call.has al.tg rfl ?_;simp;have h:Call X pm F.tj [aW l,aW [47]] H λr H'=>H'=H/\r=.tuple #[aW l,aW [],.bool false]:=by
  refine Call.has al.tj rfl ?_;simp;refine aR.bZb (asT al l) ?_;rintro _ _ ⟨rfl,rfl⟩;rw[asR aO];simp
 refine aR.bZb h ?_;rintro _ _ ⟨rfl,rfl⟩;simp
section
variable[cn]
theorem aFt(al:kr X)(au:cU pm H){a b:List UInt8}(aN:47∉a)(aO:a.length<1000000):Call X pm F.tg [aW (a++47::b),aW [47]] H λr H'=>b6 pm H H'/\r=.tuple #[aW a,aW b,.bool true]:=by
 refine Call.has al.tg rfl ?_;simp;have h:Call X pm F.tj [aW (a++47::b),aW [47]] H λr H'=>b6 pm H H'/\r=.tuple #[aW a,aW b,.bool true]:=by
  refine Call.has al.tj rfl ?_;simp;refine aR.bZb (asT al (a++47::b)) ?_;rintro _ _ ⟨rfl,rfl⟩;rw[asS aN];have hw:wr .i64 ((a.length:Int)+1)=((a.length+1:Nat):Int):=by rw[zWc (by omega) (by omega)];simp
  simp;refine eg.E7 au rfl rfl rfl ?_;simp[hw];exact⟨(b6.refl au).up _,by rw[tp (by omega)]⟩
 refine aR.bZb h ?_;rintro _ _ ⟨av,rfl⟩;simp;exact av
end
theorem asF{neg:Bool}{n d k:Nat}(aF:n<4294967296^k)(aB:d<4294967296^k)(gh:d≠0):sz (iN neg n d) k:=by
 have h:(if neg then -(n:Int) else(n:Int)).natAbs=n:=by cases neg<;>simp
 unfold iN;rw[<-bXx gh,bXF];refine⟨eD ?_ aF,eD (oe _ _) aB⟩
 conv=>rhs;rw[<-h]
 exact bXv _ _
theorem Ho{n:Int}:wr .u64 n=n%18446744073709551616:=by
 rw[vE];simp[IntKind.wrap,IntKind.bits,IntKind.signed]
theorem aFu(al:kr X){n:Int}(aD:-9223372036854775808<=n)(U:n<=9223372036854775807):Call X pm F.wJ [.int .i64 n] H λr H'=>H'=H/\r=.int .u64 ((n.natAbs:Nat):Int):=by
 refine Call.has al.wJ rfl ?_;by_cases aF:n<0
 ·have e:wr .u64 (0-wr .u64 n)=((n.natAbs:Nat):Int):=by rw[Ho,Ho];omega
  have bw:wr .u64 (-wr .u64 n)=((n.natAbs:Nat):Int):=by rw[Ho,Ho];omega
  simp[aF,bw]
 ·have e:wr .u64 n=((n.natAbs:Nat):Int):=by rw[Ho];omega
  simp[aF,e]
section
variable[cn]
theorem aCa(al:kr X)(au:cU pm H){n:Int}(aD:-9223372036854775808<=n)(U:n<=9223372036854775807):Call X pm F.kp [.int .i64 n] H λr H'=>b6 pm H H'/\jC H' r (n:Rat):=by
 refine Call.has al.kp rfl ?_;simp;refine aR.bZb (aFu al aD U) ?_;rintro _ _ ⟨rfl,rfl⟩;simp;refine aR.bZb (E5 al.tofa au (x:=n.natAbs) (by omega)) ?_;rintro bJ H1 ⟨av,n1⟩;simp;refine aR.bZb (B0 al.tofa av.ok) ?_;rintro bG aJ ⟨aI,lk⟩;have ao:∃a,bJ=.pointer a:=by
  rcases n1.ptr with⟨h,_⟩ | ⟨a,h⟩
  ·exact⟨_,h⟩
  ·exact⟨_,h⟩
 have e2:∃a,bG=.pointer a:=by
  rcases lk.ptr with⟨h,_⟩ | ⟨a,h⟩
  ·exact⟨_,h⟩
  ·exact⟨_,h⟩
 obtain⟨cx,rfl⟩:=ao;obtain⟨a2,rfl⟩:=e2;simp[aI.ok.make,aI.ok.pick];have aQ:=(b6.refl aI.ok).new (cj.cells [.bool (decide (n<0)),.pointer cx,.pointer a2] (.t T.aEz));refine⟨av.trans (aI.trans aQ),⟨.inr ⟨_,_,.pointer cx,.pointer a2,rfl,dT,?_,?_,?_⟩⟩,_,_,_,rfl,dT⟩
 ·exact⟨by simp[Rat.intCast_neg_iff],rfl⟩
 ·rw[Rat.num_intCast];exact(n1.bT av.ok aI).bT aI.ok aQ
 ·rw[Rat.den_intCast];exact lk.bT aI.ok aQ
def dB(q:Rat):List UInt8:=(if q<0 then[45] else[])++(Lib.decDigits q.num.natAbs++(if q.den=1 then[] else 47::Lib.decDigits q.den))
end
theorem QT(n:Nat):fi (Lib.decDigits n)=n:=by
 induction n using Nat.strongRecOn with
 | _ n ih=>
   by_cases h:n<10
   ·rw[Lib.decDigits_one h];have:(48+n)%256=48+n:=by omega
    simp[fi,tn,this]
   ·rw[Lib.decDigits,dif_neg h,UD,ih (n/10) (by omega)];have:(48+n%10)%256=48+n%10:=by omega
    simp[fi,tn,this];omega
theorem QS{n m:Nat}(h:Lib.decDigits n=Lib.decDigits m):n=m:=by rw[<-QT n,h,QT]
theorem L1{n:Nat}:Lib.decDigits n=[49]↔n=1:=by
 have U:Lib.decDigits 1=[49]:=by rw[Lib.decDigits_one (by omega)];rfl
 constructor
 ·intro h;rw[<-U]at h;exact QS h
 ·rintro rfl;exact U
section
variable[cn]
theorem abG(al:kr X)(au:cU pm H)(aS:Tab H){v:Value}{q:Rat}{k:Nat}(h:iv H v q)(aG:sz q k)(so:1<=k)(ag:k<100000000):
 Call X pm F.mI [v] H λr H'=>b6 pm H H'/\r=aW (dB q):=by
 refine Call.has al.mI rfl ?_;simp;refine aR.bZb (sr al.tofa au h) ?_;rintro _ H1 ⟨av,jA,jB,rfl,aF,aB⟩;simp;refine aR.bZb (UC al av.ok (aS.bT au av) aF aG.1 so ag) ?_;rintro _ aJ ⟨aI,rfl⟩;have ln:=Gc aG.1 so;have Cm:=Gc aG.2 so;have e0:=av.trans aI;have t2:=aS.bT au e0;have kd:=aB.bT av.ok aI;by_cases aV:q<0
 ·simp[aV,dA,show 1+(Lib.decDigits q.num.natAbs).length<=4294967296 by omega];refine aR.bZb (UC al aI.ok t2 kd aG.2 so ag) ?_;rintro _ bN ⟨aQ,rfl⟩;by_cases U:q.den=1
  ·have e:Lib.decDigits 1=[49]:=L1.2 rfl;simp[U,e,dB,aV];exact e0.trans aQ
  ·have e:Lib.decDigits q.den≠[49]:=λh=>U (L1.1 h);simp[e,dB,aV,U,dA,show 1+(Lib.decDigits q.den).length<=4294967296 by omega,show(Lib.decDigits q.num.natAbs).length+1+((Lib.decDigits q.den).length+1)<=4294967296 by omega];exact e0.trans aQ
 ·simp[aV];refine aR.bZb (UC al aI.ok t2 kd aG.2 so ag) ?_;rintro _ bN ⟨aQ,rfl⟩;by_cases U:q.den=1
  ·have e:Lib.decDigits 1=[49]:=L1.2 rfl;simp[U,e,dB,aV];exact e0.trans aQ
  ·have e:Lib.decDigits q.den≠[49]:=λh=>U (L1.1 h);simp[e,dB,aV,U,dA,show 1+(Lib.decDigits q.den).length<=4294967296 by omega,show(Lib.decDigits q.num.natAbs).length+((Lib.decDigits q.den).length+1)<=4294967296 by omega];exact e0.trans aQ
def qu(l:List UInt8)(neg:Bool)(a b:List UInt8):Option Rat:=
 if je a=true/\je b=true/\fi b≠0/\dB (iN neg (fi a) (fi b))=l then some (iN neg (fi a) (fi b)) else none
def kK(l:List UInt8):Bool×List UInt8:=if l.head? = some 45 then(true,l.tail) else(false,l)
def oI(t:List UInt8):List UInt8×List UInt8:=if 47∈t then(t.takeWhile (· != 47),(t.dropWhile (· != 47)).tail) else(t,[49])
def jD(l:List UInt8):Option Rat:=qu l (kK l).1 (oI (kK l).2).1 (oI (kK l).2).2
def yZ(pm:Perm)(H:ah)(o:Option Rat):c':=λx l' H'=>(x=gr.normal∨x=gr.ret)/\∃vs,nb l' H' [.slot 2,.slot 3]=some vs/\(b6 pm H H'/\(o=none/\j5 vs=.tuple #[.pointer none,.bool false]∨∃q p,o=some q/\j5 vs=.tuple #[p,.bool true]/\jC H' p q))
end
theorem Ca{l:List UInt8}(h:je l=true):fi l<4294967296^l.length/\l.length<=2000/\1<=l.length:=by
 unfold je at h;simp[dA]at h;refine⟨hR (Kc (by rw[hz];exact h.2.2.2)) (QU _),h.2.1,?_⟩
 cases l with
 | nil=>exact absurd rfl h.1
 | cons=>simp
section
variable[cn]
theorem asU(al:kr X){H0:ah}(ea:b6 pm H0 H)(aS:Tab H){l a b:List UInt8}{neg:Bool}{L:bQ}(c0:a7 0 L=some (aW l))(lf:a7 5 L=some (.bool neg))(h1:a7 6 L=some (aW a))(dO:a7 7 L=some (aW b)):
 wp X pm (.code A4) L H [] (yZ pm H0 (qu l neg a b)):=by
 have au:=ea.ok;simp[h1,-tl];refine aR.bZb (UH al au (l:=a)) ?_;rintro _ H1 ⟨av,U⟩
 rcases U with⟨g1,rfl⟩ | ⟨g1,bJ,rfl,n1⟩
 ·simp[dO,-tl];refine aR.bZb (UH al av.ok (l:=b)) ?_;rintro _ aJ ⟨aI,aa⟩
  rcases aa with⟨g2,rfl⟩ | ⟨g2,bG,rfl,lk⟩<;>
  ·simp[-tl];refine aR.not (by simp) ?_;simp[yZ,qu,g1,-tl];exact ea.trans (av.trans aI)
 ·simp[dO,-tl];refine aR.bZb (UH al av.ok (l:=b)) ?_;rintro _ aJ ⟨aI,aa⟩
  rcases aa with⟨g2,rfl⟩ | ⟨g2,bG,rfl,lk⟩
  ·simp[-tl];refine aR.not (by simp) ?_;simp[yZ,qu,g2,-tl];exact ea.trans (av.trans aI)
  ·have e0:=av.trans aI;have aFv:=n1.bT av.ok aI;obtain⟨abk,ir,aIP⟩:=Ca g1;obtain⟨Gs,iM,aAS⟩:=Ca g2;have asV:=oF abk (hS a.length b.length);have asW:=oF Gs (Nat.le_add_left b.length a.length);simp[-tl];refine aR.bZb (xQ al.tofa lk Gs (by omega)) ?_;rintro _ _ ⟨rfl,rfl⟩;by_cases aD:fi b=0
   ·simp[aD,yZ,qu,-tl];exact ea.trans e0
   ·simp[aD,lf];refine aR.bZb (B2 al.tofa aI.ok (neg:=neg) aFv lk asV asW (by omega) aD) ?_;rintro cO bN ⟨aQ,Cu⟩;have h0:=e0.trans aQ;simp;refine aR.bZb (abG al aQ.ok (aS.bT au h0) Cu.1 (asF asV asW aD) (by omega) (by omega)) ?_;rintro _ cp ⟨bt,rfl⟩;have mz:=h0.trans bt;by_cases aV:dB (iN neg (fi a) (fi b))=l
    ·simp[c0,aV,yZ];refine⟨ea.trans mz,_,?_,Cu.bT aQ.ok bt⟩;simp[qu,g1,g2,aD,aV]
    ·simp[c0,aV,yZ,qu];exact ea.trans mz
theorem aCb(al:kr X)(au:cU pm H)(aS:Tab H){l:List UInt8}(aO:l.length<1000000):
 Call X pm F.nx [aW l] H λr H'=>b6 pm H H'/\(jD l=none/\r=.tuple #[.pointer none,.bool false]∨∃q p,jD l=some q/\r=.tuple #[p,.bool true]/\jC H' p q):=by
 refine Call.has al.nx rfl ?_;show wp X pm (.code nx.body) _ H [] (yZ pm H (jD l));have rest:∀{L:bQ},(kK l).2.length<=l.length->a7 0 L=some (aW l)->a7 4 L=some (aW (kK l).2)->a7 5 L=some (.bool (kK l).1)->wp X pm (.code DT) L H [] (yZ pm H (jD l)):=by
  intro L RP c0 hP lf;unfold jD;generalize aF:kK l=lL at*
  obtain⟨neg,t⟩:=lL;simp only at hP lf RP;simp only;by_cases hm:47∈t
  ·obtain⟨a,b,rfl,aN⟩:=List.eq_append_cons_of_mem hm;have af:oI (a++47::b)=(a,b):=by
    have ao:∀x∈a,(x != (47:UInt8))=true:=λx az=>by
     simp;rintro rfl;exact aN az
    unfold oI;rw[bm hm,List.takeWhile_append_of_pos ao,List.dropWhile_append_of_pos ao];simp
   rw[af];simp[hP,-A4];refine aR.bZb (aFt al au (a:=a) (b:=b) aN (by simp at RP;omega)) ?_;rintro _ H1 ⟨av,rfl⟩;simp[-A4];refine asU al av (aS.bT au av) ?_ ?_ ?_ ?_<;>simp[c0,lf]
  ·have af:oI t=(t,[49]):=by unfold oI;rw[aU hm]
   rw[af];simp[hP,-A4];refine aR.bZb (aFs al (l:=t) hm) ?_;rintro _ H1 ⟨rfl,rfl⟩;simp[-A4];refine asU al (.refl au) aS ?_ ?_ ?_ ?_<;>simp[c0,lf]
 simp[-DT];by_cases c9:l.head? = some 45
 ·have qh:l=45::l.tail:=by
   cases l with
   | nil=>cases c9
   | cons c t=>simp at c9;subst c9;rfl
  have aF:kK l=(true,l.tail):=by unfold kK;rw[bm c9]
  have af:=aFp (X:=X) (pm:=pm) (H:=H) al 45 l.tail;rw[<-qh]at af;refine aR.bZb af ?_;rintro _ _ ⟨rfl,rfl⟩;simp[-DT];refine rest ?_ ?_ ?_ ?_<;>simp[aF]
 ·have aF:kK l=(false,l):=by unfold kK;rw[aU c9]
  refine aR.bZb (aFq al 45 c9) ?_;rintro _ _ ⟨rfl,rfl⟩;simp[-DT];refine rest ?_ ?_ ?_ ?_<;>simp[aF]
theorem av3(al:fa X)(au:cU pm H){v:Value}{q:Rat}{k:Nat}(h:iv H v q)(aG:sz q k)(ag:k<67108864):
 Call X pm F.su [v] H λr H'=>b6 pm H H'/\r=.bool (decide (q.den=1)):=by
 refine Call.has al.su rfl ?_;simp;refine aR.bZb (sr al au h) ?_;rintro _ H1 ⟨av,jA,jB,rfl,aF,aB⟩;simp;refine aR.bZb (B0 al av.ok) ?_;rintro cB aJ ⟨aI,aa⟩;simp;refine aR.bZb (NL al (aB.bT av.ok aI) aa aG.2 (eD (tq q.den_nz) aG.2) (by omega)) ?_;rintro _ bN ⟨rfl,rfl⟩;simp;refine⟨av.trans aI,?_⟩;unfold iu;have:=q.den_nz;by_cases U:q.den=1
 ·simp[U]
 ·have aa:q.den≠0:=this;simp[U,aa]
omit [cn] in
theorem av4(q:Rat):iN (decide (q<0)) (q.num.natAbs/q.den+(if q<0/\q.num.natAbs%q.den≠0 then 1 else 0)) 1=(q.floor:Rat):=by
 rw[B1];have aB:(0:Int)<q.den:=Int.natCast_pos.2 q.den_pos;have e:mr (decide (q<0)) (q.num.natAbs/q.den+(if q<0/\q.num.natAbs%q.den≠0 then 1 else 0))=q.floor:=by
  conv=>rhs;rw[Rat.floor_def,rq q]
  unfold mr;by_cases h:q<0
  ·simp only[h,decide_true,if_true,true_and];rw[Int.neg_ediv];by_cases aa:q.num.natAbs%q.den=0
   ·have aq:(q.den:Int)∣(q.num.natAbs:Int):=Int.natCast_dvd_natCast.2 (Nat.dvd_of_mod_eq_zero aa);simp[aa,aq]
   ·have aq:¬(q.den:Int)∣(q.num.natAbs:Int):=λh=>aa (Nat.mod_eq_zero_of_dvd (Int.natCast_dvd_natCast.1 h));rw[bm aa,aU aq,Int.sign_eq_one_of_pos aB];simp only[Int.natCast_add,Int.natCast_ediv];omega
  ·simp[h]
 rw[e];exact Rat.mkRat_one _
theorem av5(al:fa X)(au:cU pm H){v:Value}{q:Rat}{k:Nat}(h:iv H v q)(aG:sz q k)(ag:k<67108864):
 Call X pm F.tS [v] H λr H'=>b6 pm H H'/\jC H' r (q.floor:Rat):=by
 refine Call.has al.tS rfl ?_;have bc:=av4 q;have j6:q.num.natAbs/q.den<4294967296^k:=eD (oe _ _) aG.1;have Xn:1<4294967296^(k+1):=Nat.one_lt_pow (by omega) (by omega);simp[-rv];refine aR.bZb (sr al au h) ?_;rintro _ H1 ⟨av,jA,jB,rfl,aF,aB⟩;simp[-rv];refine aR.bZb (NM al av.ok aF aB aG.1 aG.2 (by omega) q.den_nz) ?_;rintro _ aJ ⟨aI,a,s,rfl,aN,an⟩;have e0:=av.trans aI
 have key:∀{bN:ah} {L:bQ} {p:Value} {n:Nat},b6 pm aJ bN->c6 bN p n->n<4294967296^(k+1)->iN (decide (q<0)) n 1=(q.floor:Rat)->a7 3 L=some (.bool (decide (q<0)))->a7 6 L=some p->
  wp X pm (.code rv) L bN [] λx l H'=>(x=.normal∨x=.ret)/\∃vs,nb l H' [.slot 2]=some vs/\(b6 pm H H'/\jC H' (j5 vs) (q.floor:Rat)):=by
  intro bN L p n aQ aC aO he eT h1;simp[eT,h1];refine aR.bZb (B0 al aQ.ok) ?_;rintro b4 cp ⟨bt,U⟩;simp;refine aR.bZb (B2 al bt.ok (neg:=decide (q<0)) (aC.bT aQ.ok bt) U aO Xn (by omega) (by omega)) ?_;rintro cB cV ⟨cd,aa⟩;simp;rw[<-he];exact⟨(e0.trans aQ).trans (bt.trans cd),aa⟩
 by_cases aV:q<0
 ·simp[aV,-rv];refine aR.bZb (xQ al an (eD (Nat.mod_le _ _) aG.1) (by omega)) ?_;rintro _ aJ ⟨rfl,rfl⟩;by_cases aD:q.num.natAbs%q.den=0
  ·simp[aD,-rv];exact key (b6.refl aI.ok) aN (oF j6 (by omega)) (by simpa [aV,aD]using bc) (by simp[aV]) (by simp)
  ·simp[aD,-rv];refine aR.bZb (B0 al aI.ok) ?_;rintro dh bN ⟨aQ,aq⟩;simp[-rv];refine aR.bZb (NK al aQ.ok (aN.bT aI.ok aQ) aq (oF j6 (bYx k)) Xn (by omega)) ?_;rintro kf cp ⟨bt,a8⟩;simp[-rv];refine key (aQ.trans bt) a8 ?_ (by simpa [aV,aD]using bc) (by simp[aV]) (by simp);rw[bZh];omega
 ·simp[aV,-rv];refine aR.not (by simp) ?_;simp[-rv];exact key (b6.refl aI.ok) aN (oF j6 (by omega)) (by simpa [aV]using bc) (by simp[aV]) (by simp)
end
end Go.Dam.C
namespace Go.Dam.C
open Go Go.Dam Go.RowKit
instance:cn:=⟨λ_=>True⟩
def Dl:Array Value:=(Lib.pow10Tab.map λz=>Value.int .u64 z).toArray
def wz(w:World)(N:Nat->Prop)(b o:Nat)(l:List Value):Prop:=N b/\∃c e cz,w.heap[b]? = some (.cells c e cz)/\o+l.length<=c.size/\∀i v,l[i]? = some v->c[o+i]? = some v
def Dm(w:World)(N:Nat->Prop)(s:Value)(ds:List Nat):Prop:=
 e' ds/\((s=.slice none 0 0/\ds=[])∨(∃a,s=.slice (some a) 0 0/\ds=[])∨∃c o cap,s=.slice (some ⟨c,o,none⟩) ds.length cap/\ds.length<=cap/\wz w N c o (c4 ds))
def Aw(w:World)(N:Nat->Prop)(v:Value)(n:Nat):Prop:=
 (v=.pointer none/\n=0)∨∃b o s ds,v=.pointer (some ⟨b,o,none⟩)/\wz w N b o [s]/\Dm w N s ds/\strip ds=ds/\bb ds=n
def yD(w:World)(N:Nat->Prop)(v:Value)(q:Rat):Prop:=
 (v=.pointer none/\q=0)∨∃b o p d,v=.pointer (some ⟨b,o,none⟩)/\wz w N b o [.bool (decide (q<0)),p,d]/\Aw w N p q.num.natAbs/\Aw w N d q.den
section
variable{w w':World}{N oz:Nat->Prop}
theorem wz.mono{b o:Nat}{l:List Value}(h:wz w N b o l)(g:∀c,N c->c<w.heap.size->oz c/\w'.heap[c]? = w.heap[c]?):wz w' oz b o l:=by
 obtain⟨aD,c,e,cz,U,aa⟩:=h;obtain⟨g1,g2⟩:=g _ aD (ic.1 U).1;exact⟨g1,c,e,cz,g2.trans U,aa⟩
theorem Dm.mono{s:Value}{ds:List Nat}(h:Dm w N s ds)(g:∀c,N c->c<w.heap.size->oz c/\w'.heap[c]? = w.heap[c]?):Dm w' oz s ds:=
 ⟨h.1,h.2.imp id (Or.imp id λ⟨c,o,cap,a,b,d⟩=>⟨c,o,cap,a,b,d.mono g⟩)⟩
theorem Aw.mono{v:Value}{n:Nat}(h:Aw w N v n)(g:∀c,N c->c<w.heap.size->oz c/\w'.heap[c]? = w.heap[c]?):Aw w' oz v n:=
 h.imp id λ⟨b,o,s,ds,a,d,e,f⟩=>⟨b,o,s,ds,a,d.mono g,e.mono g,f⟩
theorem yD.mono{v:Value}{q:Rat}(h:yD w N v q)(g:∀c,N c->c<w.heap.size->oz c/\w'.heap[c]? = w.heap[c]?):yD w' oz v q:=
 h.imp id λ⟨b,o,p,d,a,e,f,i⟩=>⟨b,o,p,d,a,e.mono g,f.mono g,i.mono g⟩
end
def nz:da where
 rel:=λw N b o=>o=.nat 0/\N b/\∃e cz,w.heap[b]? = some (.cells Dl e cz)
 zg:=λ⟨aD,U,e,cz,aa⟩ h=>⟨aD,(h _ U).1,e,cz,((h _ U).2).trans aa⟩
def iG:da where
 rel:=λw N b o=>match o with
  | .nat n=>n=0/\N b/\∃e cz,w.heap[b]? = some (.cells Dl e cz)
  | .lF q=>yD w N (.pointer (some ⟨b,0,none⟩)) q
 zg:=λ{w w' N oz b o} h g=>by
  cases o with
  | nat n=>obtain⟨aD,U,e,cz,aa⟩:=h;exact⟨aD,(g _ U).1,e,cz,((g _ U).2).trans aa⟩
  | lF q=>exact yD.mono h λc af _=>g c af
structure In(O:da)(N:Nat->Prop)(W:World)(γ:bo)(H:ah):Prop where
 rel:Rel O 0 γ H W
 ro:∀b,¬hr (H.get b)
 FE:∃L,γ 1=some L/\L.bI=1/\L.d=0
 fJ:H.get 1=some (.eE (.nat 0))
 n:∀b L,γ b=some L->N L.bI
 Qj:∃c e cz,W.heap[1]? = some (.cells c e cz)
def Ext(H H':ah):Prop:=∀b y,H.get b=some y->H'.get b=some y
theorem Ext.refl(H:ah):Ext H H:=λ_ _ h=>h
theorem Ext.trans{H H' cL:ah}(h:Ext H H')(g:Ext H' cL):Ext H cL:=λb y e=>g b y (h b y e)
theorem er.le{H H':ah}{v:Value}{ds:List Nat}(h:er H v ds)(aO:Ext H H'):er H' v ds:=by
 refine⟨h.1,h.2.imp id ?_⟩;rintro⟨c,off,cap,y,row,U,aa,aq⟩;exact⟨c,off,cap,y,row,U,aO _ _ aa,aq⟩
theorem c6.le{H H':ah}{v:Value}{n:Nat}(h:c6 H v n)(aO:Ext H H'):c6 H' v n:=⟨h.ex.imp λ_ q=>⟨q.1.imp id (by
 rintro⟨b,x,s,U,aa,aq,a8⟩;exact⟨b,x,s,U,aO _ _ aa,aq,a8.le aO⟩),q.2⟩⟩
theorem iv.le{H H':ah}{v:Value}{q:Rat}(h:iv H v q)(aO:Ext H H'):iv H' v q:=by
 refine⟨h.ex.imp id ?_⟩;rintro⟨b,x,jA,jB,U,aa,aq,a8,cg⟩;exact⟨b,x,jA,jB,U,aO _ _ aa,aq,a8.le aO,cg.le aO⟩
section
variable{O:da}{N:Nat->Prop}{W:World}{γ:bo}{H:ah}
def RN:Dam.Loc:=⟨1,0,0,0⟩
def gO:bo:=λb=>if b=1 then some RN else none
def KX:ah:=⟨(cI.ak:cI cj).set (.eE (.nat 0)) 1,2⟩
theorem qq{b:Nat}{L:Dam.Loc}(h:gO b=some L):b=1/\L=RN:=by
 unfold gO at h;split at h
 ·simp only[a6]at h;exact⟨by assumption,h.symm⟩
 ·cases h
theorem Ax(b:Nat):KX.get b=if b=1 then some (.eE (.nat 0)) else none:=by
 show((cI.ak:cI cj).set (.eE (.nat 0)) 1).get b=_;rw[cI.pb];by_cases h:b=1
 ·rw[bm h,bm h]
 ·rw[aU h,aU h];rfl
theorem aB0(kZ:∀N:Nat->Prop,N 1->O.rel W N 1 (.nat 0))(c9:1<W.heap.size):Rel O 0 gO KX W:=by
 refine⟨λb L h=>?_,λb L h=>?_,λb h=>?_,λb b' L L' h gJ r r' q=>?_,λb L h r=>?_,Nat.zero_le _⟩
 ·obtain⟨rfl,rfl⟩:=qq h;refine⟨.eE (.nat 0),by rw[Ax,bm rfl],?_⟩;have e8:iJ gO KX W 1:=⟨c9,λb L h r=>by
   obtain⟨rfl,_⟩:=qq h;rw[Ax,bm rfl]at r;exact r.elim⟩
  exact⟨e8,rfl,kZ _ e8⟩
 ·obtain⟨rfl,_⟩:=qq h;show 1<2;omega
 ·rw[Ax,aU];have:2<=b:=h;omega
 ·obtain⟨rfl,_⟩:=qq h;rw[Ax,bm rfl]at r;exact r.elim
 ·obtain⟨rfl,_⟩:=qq h;rw[Ax,bm rfl]at r;exact r.elim
theorem In.start(kZ:∀M:Nat->Prop,M 1->O.rel W M 1 (.nat 0)){c:Array Value}{e:TypeId}{cz:Nat×Nat}(c9:W.heap[1]? = some (.cells c e cz))(gd:N 1):In O N W gO KX:=
 ⟨aB0 kZ (ic.1 c9).1,λb h=>by rw[Ax]at h;split at h<;>exact h.elim,⟨RN,rfl,rfl,rfl⟩,by rw[Ax,bm rfl],λb L h=>by obtain⟨_,rfl⟩:=qq h;exact gd,c,e,cz,c9⟩
theorem In.add(h:In O N W γ H){l l':List Value}{b o:Nat}(hw:wz W N b o l')(an:cm γ l l'):
 In O N W (γ.set H.next ⟨b,o,0,0⟩) (H.new (.ro l))/\γ.le (γ.set H.next ⟨b,o,0,0⟩)/\Ext H (H.new (.ro l)):=by
 obtain⟨aB1,c,elem,cz,hw,gb,af⟩:=hw;have hle:=h.rel.Wk ⟨b,o,0,0⟩;have aB2:H.get H.next=none:=h.rel.new _ (bR _);have aK:∀b,(H.new (.ro l)).get b=if b=H.next then some (.ro l) else H.get b:=λb=>ah.qa H b _
 have Dn:∀b,¬hr ((H.new (.ro l)).get b):=λb=>by
  rw[aK];split
  ·exact λh=>h.elim
  ·exact h.ro b
 have q8:∀c,c<W.heap.size->iJ (γ.set H.next ⟨b,o,0,0⟩) (H.new (.ro l)) W c:=λc af=>⟨af,λb L _ r=>(Dn b r).elim⟩;obtain⟨j9,g1,g2,g3⟩:=h.FE;have U:(1:Nat)≠H.next:=λe=>by have:=h.rel.lt 1 _ g1;omega
 refine⟨⟨⟨λb' L ai=>?_,λb' L ai=>?_,λb' ai=>?_,λb _ _ _ _ _ r _ _=>(Dn b r).elim,λb _ _ r=>(Dn b r).elim,Nat.zero_le _⟩,Dn,⟨j9,hle _ _ g1,g2,g3⟩,?_,λb' L ai=>?_,h.Qj⟩,hle,λb y e=>?_⟩
 ·by_cases e:b'=H.next
  ·subst e;rw[bo.im]at ai;cases ai;refine⟨.ro l,by rw[aK,bm rfl],q8 _ (ic.1 hw).1,c,elem,cz,hw,rfl,by rw[an.length];exact gb,λi v e=>?_⟩;obtain⟨v',a,r⟩:=an.get e;exact⟨v',af i v' a,r.mono hle⟩
  ·rw[bo.j' _ _ e]at ai;obtain⟨x,U,aa⟩:=h.rel.bI b' L ai;exact⟨x,by rw[aK,aU e];exact U,aa.mono hle (λc af=>⟨q8 c af.1,rfl⟩) (λ_=>rfl)⟩
 ·show b'<H.next+1;by_cases e:b'=H.next
  ·omega
  ·rw[bo.j' _ _ e]at ai;have:=h.rel.lt b' L ai;omega
 ·have ai:H.next+1<=b':=ai;rw[aK,aU (by omega)];exact h.rel.new b' (by omega)
 ·rw[aK,aU U];exact h.fJ
 ·by_cases e:b'=H.next
  ·subst e;rw[bo.im]at ai;cases ai;exact aB1
  ·rw[bo.j' _ _ e]at ai;exact h.n b' L ai
 ·rw[aK,aU]
  ·exact e
  ·rintro rfl;rw[aB2]at e;cases e
theorem aB3(ds:List Nat):cm γ (c4 ds) (c4 ds):=cm.vD rfl λi v v' a b=>by
 rw[a]at b;cases b;simp only[c4,bZE]at a
 cases e:ds[i]? with
 | none=>rw[e]at a;cases a
 | some d=>rw[e]at a;simp only[bZs,a6]at a;subst a;exact .int _ _
theorem In.aB4(h:In O N W γ H){s:Value}{ds:List Nat}(aB:Dm W N s ds):∃bk H' iQ,In O N W bk H'/\γ.le bk/\Ext H H'/\bg bk iQ s/\er H' iQ ds:=by
 obtain⟨aO,⟨rfl,rfl⟩ | ⟨a,rfl,rfl⟩ | ⟨c,o,cap,rfl,af,hw⟩⟩:=aB
 ·exact⟨γ,H,_,h,.refl _,.refl _,.xH,er.nil⟩
 ·obtain⟨L,g1,g2,g3⟩:=h.FE;have abp:=h.n 1 L g1;rw[g2]at abp;obtain⟨c,e,cz,bd⟩:=h.Qj;obtain⟨i1,ck,df⟩:=h.add (l:=[]) (l':=[]) (b:=1) (o:=0) ⟨abp,c,e,cz,bd,by simp,by simp⟩ .nil;exact⟨_,_,.slice (some ⟨H.next,0,none⟩) 0 0,i1,ck,df,.p9 (bo.im _ _ _),aO,.inr ⟨H.next,0,0,_,[],rfl,dT,.inr rfl,rfl,by simp,by simp,trivial⟩⟩
 ·obtain⟨i1,ck,df⟩:=h.add (l:=c4 ds) hw (aB3 ds);refine⟨_,_,.slice (some ⟨H.next,0,none⟩) ds.length cap,i1,ck,df,?_,aO,.inr ⟨H.next,0,cap,_,c4 ds,rfl,dT,.inr rfl,by rw[List.drop_zero];exact tp (by simp[c4]),by simp[c4],af,trivial⟩⟩;have:=bg.jN (γ:=γ.set H.next ⟨c,o,0,0⟩) (b:=H.next) (off:=0) (n:=ds.length) (cap:=cap) (dN:=cap) (L:=⟨c,o,0,0⟩) (bo.im _ _ _) (bR _) af (.inl rfl);simpa using this
theorem RO{c o:Nat}:bg (γ.set H.next ⟨c,o,0,0⟩) (.pointer (some ⟨H.next,0,none⟩)) (.pointer (some ⟨c,o,none⟩)):=by
 have:=bg.ptr (γ:=γ.set H.next ⟨c,o,0,0⟩) (b:=H.next) (off:=0) (L:=⟨c,o,0,0⟩) (bo.im _ _ _);simpa using this
theorem In.nat(h:In O N W γ H){v:Value}{n:Nat}(aB:Aw W N v n):∃bk H' p,In O N W bk H'/\γ.le bk/\Ext H H'/\bg bk p v/\c6 H' p n:=by
 obtain⟨rfl,rfl⟩ | ⟨b,o,s,ds,rfl,hw,aG,ao,e2⟩:=aB
 ·exact⟨γ,H,_,h,.refl _,.refl _,.EI,⟨[],.inl ⟨rfl,rfl⟩,rfl,rfl⟩⟩
 ·obtain⟨gO,H1,iQ,i1,ck,df,b4,d1⟩:=h.aB4 aG;obtain⟨i2,cJ,dW⟩:=i1.add (l:=[iQ]) hw (.cons b4 .nil);exact⟨_,_,_,i2,ck.trans cJ,df.trans dW,RO,⟨ds,.inr ⟨H1.next,_,iQ,rfl,dT,⟨rfl,rfl⟩,d1.le dW⟩,ao,e2⟩⟩
theorem In.lF(h:In O N W γ H){v:Value}{q:Rat}(aB:yD W N v q):∃bk H' p,In O N W bk H'/\γ.le bk/\Ext H H'/\bg bk p v/\iv H' p q:=by
 obtain⟨rfl,rfl⟩ | ⟨b,o,p,d,rfl,hw,aC,aB⟩:=aB
 ·exact⟨γ,H,_,h,.refl _,.refl _,.EI,⟨.inl ⟨rfl,rfl⟩⟩⟩
 ·obtain⟨gO,H1,jW,i1,ck,df,b4,d1⟩:=h.nat aC;obtain⟨dQ,aJ,bJ,i2,cJ,dW,cB,d2⟩:=i1.nat aB;obtain⟨i3,eT,gZ⟩:=i2.add (l:=[.bool (decide (q<0)),jW,bJ]) hw (.cons (.bool _) (.cons (b4.mono cJ) (.cons cB .nil)));exact⟨_,_,_,i3,(ck.trans cJ).trans eT,(df.trans dW).trans gZ,RO,⟨.inr ⟨aJ.next,_,jW,bJ,rfl,dT,⟨rfl,rfl⟩,d1.le (dW.trans gZ),d2.le gZ⟩⟩⟩
end
section
variable{O:da}{base:Nat}{N:Nat->Prop}{w:World}{γ:bo}{H:ah}
theorem aB5(an:Rel O base γ H w)(gd:∀b L,γ b=some L->N L.bI){b:Nat}{L:Dam.Loc}{x:cj}{row:List Value}(bC:γ b=some L)(az:H.get b=some x)(af:rowOf x=some row){off:Nat}{l l':List Value}
 (aO:(row.drop off).take l.length=l) (au:off+l.length<=row.length) (aw:∀(i:Nat) (v v':Value),l[i]? = some v->bg γ v v'->l'[i]? = some v') (RP:l'.length=l.length):wz w N L.bI (L.d+off) l':=by
 obtain⟨c,e,cz,av,aI,aQ⟩:=an.row bC az af;refine⟨gd _ _ bC,c,e,cz,av,by omega,λi v ad=>?_⟩;have z6:=(nD.1 ad).1;have cg:row[off+i]? = some (l[i]'(by omega)):=by
  have:=congrArg (·[i]?) aO;simp only[pT (show i<l.length by omega),o']at this;rw[this,hG]
 obtain⟨v',bn,bh⟩:=aQ _ _ cg;have:=aw i _ v' (hG (by omega)) bh;rw[this]at ad;cases ad;rw[bYb];exact bn
theorem er.out(an:Rel O base γ H w)(gd:∀b L,γ b=some L->N L.bI){s eZ:Value}{ds:List Nat}(h:er H s ds)(aw:bg γ s eZ):Dm w N eZ ds:=by
 obtain⟨aO,⟨rfl,rfl⟩ | ⟨c,off,cap,y,row,rfl,aK,bu,aq,a8,cg,_⟩⟩:=h
 ·cases aw;exact⟨aO,.inl ⟨rfl,rfl⟩⟩
 ·obtain⟨L,bC,_,_,⟨dN,rfl,mY,_⟩ | ⟨aD,_,a',rfl⟩⟩:=aw.sj
  ·have hlen:(c4 ds).length=ds.length:=by simp[c4]
   refine⟨aO,.inr (.inr ⟨L.bI,L.d+off,dN,rfl,by omega,aB5 an gd bC aK bu.row (l:=c4 ds) (by rw[hlen];exact aq) (by omega) (λi v v' e r=>?_) rfl⟩)⟩;rw[e];simp only[c4,bZE]at e
   cases bw:ds[i]? with
   | none=>rw[bw]at e;cases e
   | some d=>rw[bw]at e;simp only[bZs,a6]at e;subst e;rw[r.gC]
  ·exact⟨aO,.inr (.inl ⟨a',rfl,bWE aD⟩)⟩
theorem c6.abq(an:Rel O base γ H w)(gd:∀b L,γ b=some L->N L.bI){v v':Value}{n:Nat}(h:c6 H v n)(aw:bg γ v v'):Aw w N v' n:=by
 obtain⟨ds,⟨rfl,rfl⟩ | ⟨b,x,s,rfl,aK,az,aG⟩,ao,e2⟩:=h.ex
 ·cases aw;exact .inl ⟨rfl,e2.symm⟩
 ·obtain⟨L,bC,_,rfl⟩:=aw.pj;obtain⟨c,e,cz,av,aI,aQ⟩:=an.row bC aK az.1;obtain⟨eZ,bn,bh⟩:=aQ 0 s rfl;refine .inr ⟨L.bI,L.d+0,eZ,ds,rfl,⟨gd _ _ bC,c,e,cz,av,by simpa using aI,λi u ad=>?_⟩,aG.out an gd bh,ao,e2⟩
  cases i with
  | zero=>simp at ad;subst ad;exact bn
  | succ i=>simp at ad
theorem jC.out(an:Rel O base γ H w)(gd:∀b L,γ b=some L->N L.bI){v v':Value}{q:Rat}(h:jC H v q)(aw:bg γ v v'):∃c L b,v'=.pointer (some ⟨c,0,none⟩)/\γ b=some L/\L.bI=c/\hr (H.get b)/\yD w N v' q:=by
 obtain⟨h,b,cs,t,rfl,ai⟩:=h;obtain⟨e,_⟩ | ⟨b,x,jA,jB,e,aK,az,aF,aB⟩:=h.ex
 ·cases e
 cases e;rw[ai]at aK;cases aK;have kR:=az.1;simp only[rowOf,a6]at kR;subst kR;obtain⟨L,bC,_,rfl⟩:=aw.pj;obtain⟨y,U,aa⟩:=an.bI b L bC;rw[ai]at U;cases U;obtain⟨c,elem,cz,av,_,⟨_,ao,e2,bd⟩,bt,cd,cv⟩:=aa;obtain⟨eZ,bn,bh⟩:=cv 0 _ rfl;obtain⟨yk,bJ,bG⟩:=cv 1 _ rfl;obtain⟨m',d1,d2⟩:=cv 2 _ rfl;rw[bh.qf]at bn;simp only[e2,Nat.zero_add]at bn bJ d1|-;refine⟨L.bI,L,b,rfl,bC,rfl,by rw[ai];trivial,.inr ⟨L.bI,0,yk,m',rfl,⟨gd _ _ bC,c,elem,cz,av,by have bd:c.size=3:=bd;simp[bd],λi u ad=>?_⟩,aF.abq an gd bG,aB.abq an gd d2⟩⟩;rw[Nat.zero_add]
 rcases i with _ | _ | _ | i
 ·simp at ad;subst ad;exact bn
 ·simp at ad;subst ad;exact bJ
 ·simp at ad;subst ad;exact d1
 ·simp at ad
end
end Go.Dam.C
namespace Go.Dam.C
open Go Go.Dam
theorem aEN{p q:Rat}{k:Nat}(aC:sz p k)(aV:sz q k):sz (p+q) (2*k+1):=by
 have e:p+q=mkRat (p.num*q.den+q.num*p.den) (p.den*q.den):=Rat.add_def' p q;have gh:p.den*q.den≠0:=bYK p.den_nz q.den_nz;rw[e,<-bXx gh,bXF];refine⟨eD (bXv _ _) ?_,eD (oe _ _) (oF (pq aC.2 aV.2) (by omega))⟩;refine eD (Int.natAbs_add_le _ _) ?_;rw[bYc,bYc];exact IW (pq aC.1 aV.2) (pq aV.1 aC.2)
theorem aEO{p q:Rat}{k:Nat}(aC:sz p k)(aV:sz q k):sz (p*q) (2*k):=by
 have e:p*q=mkRat (p.num*q.num) (p.den*q.den):=Rat.mul_def' p q;have gh:p.den*q.den≠0:=bYK p.den_nz q.den_nz;rw[e,<-bXx gh,bXF];refine⟨eD (bXv _ _) ?_,eD (oe _ _) (pq aC.2 aV.2)⟩;rw[bYc];exact pq aC.1 aV.1
theorem acb{q:Rat}{k:Nat}(aV:sz q k)(aD:q≠0):sz (1/q) k:=by
 rw[Xj aD];simp only[Rat.num_ofNat,Rat.den_ofNat];have aF:q.num.natAbs≠0:=λh=>aD (bXJ.1 (by omega));refine asF ?_ ?_ ?_
 ·simpa using aV.2
 ·simpa using aV.1
 ·simpa using aF
theorem ff{q:Rat}{k j:Nat}(aV:sz q k)(h:k<=j):sz q j:=⟨oF aV.1 h,oF aV.2 h⟩
theorem Dq{p q:Rat}{k:Nat}(aC:sz p k)(aV:sz q k):sz (p-q) (2*k+1):=by rw[Rat.sub_eq_add_neg];exact aEN aC (vP aV)
theorem Lg{p q:Rat}{k:Nat}(aC:sz p k)(aV:sz q k)(aD:q≠0):sz (p/q) (2*k):=by
 have:p/q=p*(1/q):=by grind
 rw[this];exact aEO aC (acb aV aD)
theorem zz{p q:Rat}{a b:Nat}(aC:sz p a)(aV:sz q b):sz (p+q) (a+b+1):=by
 have e:p+q=mkRat (p.num*q.den+q.num*p.den) (p.den*q.den):=Rat.add_def' p q;have gh:p.den*q.den≠0:=bYK p.den_nz q.den_nz;have U:=bXf aC.1 aV.2;have aa:=bXf aC.2 aV.1;have aq:=bXf aC.2 aV.2;rw[<-hT]at U aa aq;rw[e,<-bXx gh,bXF];refine⟨eD (bXv _ _) ?_,eD (oe _ _) (oF aq (by omega))⟩;refine eD (Int.natAbs_add_le _ _) ?_;rw[bYc,bYc];refine IW U ?_;rw[gw];exact aa
theorem la{p q:Rat}{a b:Nat}(aC:sz p a)(aV:sz q b):sz (p*q) (a+b):=by
 have e:p*q=mkRat (p.num*q.num) (p.den*q.den):=Rat.mul_def' p q;have gh:p.den*q.den≠0:=bYK p.den_nz q.den_nz;rw[e,<-bXx gh,bXF,sz,hT];refine⟨eD (bXv _ _) ?_,eD (oe _ _) (bXf aC.2 aV.2)⟩;rw[bYc];exact bXf aC.1 aV.1
theorem Yv{p q:Rat}{a b:Nat}(aC:sz p a)(aV:sz q b):sz (p-q) (a+b+1):=by rw[Rat.sub_eq_add_neg];exact zz aC (vP aV)
theorem uh{k:Nat}(ag:1<=k):sz 0 k:=by
 have:4294967296^1<=4294967296^k:=iH (by decide) ag;exact⟨by show 0<_;omega,by show 1<_;omega⟩
def iP:Nat:=60000000
def DU(n k:Nat):Bool:=Nat.blt n.log2 (32*k)
theorem asG{n k:Nat}(h:DU n k=true)(_cXc:1<=k):n<4294967296^k:=by
 unfold DU at h;rw[js,eh]at h;rw[show(4294967296:Nat)=2^32 from rfl,<-bYr];by_cases aD:n=0
 ·subst aD;exact bYY (by decide)
 ·exact(Nat.log2_lt aD).1 h
theorem asH{n k:Nat}(h:n<4294967296^k)(ag:1<=k):DU n k=true:=by
 unfold DU;rw[js,eh];by_cases aD:n=0
 ·subst aD;simp;omega
 ·rw[Nat.log2_lt aD,bYr];exact h
def ca(q:Rat):Bool:=DU q.num.natAbs iP&&DU q.den iP
theorem ca.sz{q:Rat}(h:ca q=true):sz q iP:=by
 unfold ca at h;rw[cG]at h;exact⟨asG h.1 (by decide),asG h.2 (by decide)⟩
theorem sz.ca{q:Rat}{k:Nat}(h:sz q k)(ag:k<=iP):ca q=true:=by
 have h:=ff h ag;unfold C.ca;rw[cG];exact⟨asH h.1 (by decide),asH h.2 (by decide)⟩
end Go.Dam.C
namespace Go.Dam.C
open Go Go.Dam
def qD(H:ah)(v:Value):Option Rat:=match v with
 | .pointer none=>some 0
 | .pointer (some ⟨b,0,none⟩)=>(match H.get b with
   | some (.eE (.lF q))=>some q
   | _=>none)
 | _=>none
inductive jn where
 | eW (q:Rat)
 | val (v:Value)
 | no
 | yes (q:Rat)
def jn.out(H:ah):jn->Value×ah
 | .eW q=>(.pointer (some ⟨H.next,0,none⟩),H.new (.eE (.lF q)))
 | .val v=>(v,H)
 | .no=>(.tuple #[.pointer none,.bool false],H)
 | .yes q=>(.tuple #[.pointer (some ⟨H.next,0,none⟩),.bool true],H.new (.eE (.lF q)))
def eM(r:List Value->ah->Option jn):yE:=λ_ args H=>bif qI H then(match r args H with
 | some r=>some (r.out H)
 | none=>none) else none
def b4(f:Rat->jn)(args:List Value)(H:ah):Option jn:=match args with
 | [a]=>(match qD H a with
   | some p=>bif ca p then some (f p) else none
   | none=>none)
 | _=>none
def cB(f:Rat->Rat->jn)(args:List Value)(H:ah):Option jn:=match args with
 | [a,b]=>(match qD H a with
   | some p=>(match qD H b with
     | some q=>bif ca p&&ca q then some (f p q) else none
     | none=>none)
   | none=>none)
 | _=>none
def kL(p q:Rat):Int:=if p<q then -1 else if p=q then 0 else 1
def cT(q:Rat):Int:=if q<0 then -1 else if q=0 then 0 else 1
def Gx(args:List Value)(_:ah):Option jn:=match args with
 | [.int .i64 n]=>bif decide (-9223372036854775808<=n)&&decide (n<=9223372036854775807) then some (.eW (n:Rat)) else none
 | _=>none
def Dp(args:List Value)(_:ah):Option jn:=match args with
 | [.string s]=>bif Nat.blt s.size 1000000 then some (match jD s.data.toList with
   | some q=>.yes q
   | none=>.no) else none
 | _=>none
def KZ:=cB λp q=>.eW (p+q)
def K0:=cB λp q=>.eW (p-q)
def K1:=cB λp q=>.eW (p*q)
def K2:=cB λp q=>if q=0 then .no else .yes (p/q)
def K3:=cB λp q=>.val (.int .i64 (kL p q))
def K4:=b4 λq=>.eW (-q)
def K5:=b4 λq=>.val (.int .i64 (cT q))
def RT:=b4 λq=>.eW (q.floor:Rat)
def RU:=b4 λq=>.val (.bool (decide (q.den=1)))
def K6:=b4 λq=>.val (aW (dB q))
structure Ob(X:aY):Prop where
 abH:X.ov F.kp=some (eM Gx)
 RV:X.ov F.nx=some (eM Dp)
 abI:X.ov F.kG=some (eM KZ)
 abJ:X.ov F.nW=some (eM K0)
 abK:X.ov F.ke=some (eM K1)
 abL:X.ov F.oG=some (eM K2)
 abM:X.ov F.k7=some (eM K3)
 abN:X.ov F.nV=some (eM K4)
 abO:X.ov F.gE=some (eM K5)
 aCc:X.ov F.tS=some (eM RT)
 aCd:X.ov F.su=some (eM RU)
 abP:X.ov F.mI=some (eM K6)
structure cl(pm:Perm)(H:ah):Prop extends cU pm H where
 fJ:Tab H
structure bp(pm:Perm)(n:Nat)(H H':ah):Prop where
 aL:cl pm H'
 next:H.next<=H'.next
 get:∀b,b<n->H'.get b=H.get b
 eE:∀b o,H.get b=some (.eE o)->H'.get b=some (.eE o)
abbrev K(pm:Perm)(H H':ah):Prop:=bp pm H.next H H'
variable{X:aY}{pm pm':Perm}{H H' cL H0:ah}{n m:Nat}
theorem cl.lt(g:cl pm H){b:Nat}{x:cj}(e:H.get b=some x):b<H.next:=g.tocU.lt e
theorem cl.may(g:cl pm H){b:Nat}(h:H.next<=b):pm.may b=true:=g.tocU.may h
theorem cl.perm(g:cl pm H)(U:pm'.num=none)(aa:pm'.lo<=H.next):cl pm' H:=⟨⟨U,aa,g.wf,g.new⟩,g.fJ⟩
theorem cl.make(g:cl pm H)(aJ:ah)(x:cj):pm.make aJ x=aJ.new x:=g.tocU.make aJ x
theorem cl.pick(g:cl pm H)(aJ:ah):pm.pick aJ=aJ.next:=g.tocU.pick aJ
theorem bp.refl(g:cl pm H):bp pm n H H:=⟨g,bR _,λ_ _=>rfl,λ_ _ h=>h⟩
theorem bp.mono(u:bp pm n H H')(h:m<=n):bp pm m H H':=⟨u.aL,u.next,λb ai=>u.get b (hR ai h),u.eE⟩
theorem bp.trans(u:bp pm n H H')(v:bp pm n H' cL):bp pm n H cL:=⟨v.aL,bH u.next v.next,λb ai=>(v.get b ai).trans (u.get b ai),λb o h=>v.eE b o (u.eE b o h)⟩
theorem bp.k(u:bp pm n H H')(v:K pm H' cL)(h:n<=H'.next):bp pm n H cL:=u.trans (v.mono h)
theorem K.trans(u:K pm H H')(v:K pm H' cL):K pm H cL:=bp.k u v u.next
theorem bp.perm(u:bp pm n H H')(U:pm'.num=none)(aa:pm'.lo<=H'.next):bp pm' n H H':=⟨u.aL.perm U aa,u.next,u.get,u.eE⟩
theorem K.refl(g:cl pm H):K pm H H:=bp.refl g
theorem K.some(k:K pm H H')(g:cl pm H){b:Nat}{x:cj}(e:H.get b=some x):H'.get b=some x:=(k.get b (g.lt e)).trans e
theorem bp.new(u:bp pm n H H')(h:n<=H'.next)(x:cj):bp pm n H (H'.new x) where
 aL:=⟨⟨u.aL.num,bH u.aL.lo (bYx _),λb ai=>by
  have ai:H'.next+1<=b:=ai;rw[ah.qa,aU (by omega)];exact u.aL.wf b (by omega),λb ai=>trivial⟩,by
  have:=u.aL.lt u.aL.fJ;show(H'.new x).get 1=_;rw[ah.qa,aU (by omega)];exact u.aL.fJ⟩
 next:=bH u.next (bYx _)
 get:=λb ai=>by rw[ah.qa,aU (by omega)];exact u.get b ai
 eE:=λb o e=>by
  have e:=u.eE b o e;have:=u.aL.lt e;rw[ah.qa,aU (by omega)];exact e
theorem K.new(g:cl pm H)(x:cj):K pm H (H.new x):=bp.new (.refl g) (bR _) x
theorem bZi{A:ah}{x:cj}(g:cl pm H)(h:A=H.new x):K pm H A:=by rw[h];exact K.new g _
theorem bp.put(u:bp pm n H H'){c:Nat}{y:cj}(h:n<=c)(aK:H'.get c=some y)(bu:∀o,y≠.eE o)(x:cj):bp pm n H (H'.put c x) where
 aL:=⟨⟨u.aL.num,u.aL.lo,λb ai=>by
  have ai:H'.next<=b:=ai;have:=u.aL.lt aK;rw[ah.fS,aU (by omega)];exact u.aL.wf b ai,λb ai=>trivial⟩,by
  show(H'.put c x).get 1=_;rw[ah.fS,aU]
  ·exact u.aL.fJ
  ·rintro rfl;rw[u.aL.fJ]at aK;cases aK;exact bu _ rfl⟩
 next:=u.next
 get:=λb ai=>by rw[ah.fS,aU (by omega)];exact u.get b ai
 eE:=λb o e=>by
  have e:=u.eE b o e;rw[ah.fS,aU]
  ·exact e
  ·rintro rfl;rw[e]at aK;cases aK;exact bu _ rfl
theorem bp.up(u:bp pm n H H')(k:Nat):bp pm n H (H'.up k) where
 aL:=⟨⟨u.aL.num,bH u.aL.lo (hS _ _),λb ai=>u.aL.wf b (bH (hS _ _) ai),λ_cYT _cYU=>trivial⟩,u.aL.fJ⟩
 next:=bH u.next (hS _ _)
 get:=u.get
 eE:=u.eE
def c1(H:ah)(v:Value)(q:Rat):Prop:=∃b,v=.pointer (some ⟨b,0,none⟩)/\H.get b=some (.eE (.lF q))
theorem c1.up{v:Value}{q:Rat}(h:c1 H v q)(u:bp pm n H H'):c1 H' v q:=let ⟨b,U,aa⟩:=h;⟨b,U,u.eE b _ aa⟩
theorem c1.of{v:Value}{q:Rat}(h:c1 H v q):qD H v=some q:=by
 obtain⟨b,rfl,aa⟩:=h;simp only[qD,aa]
theorem rE(h:Tab H):qI H=true:=by unfold qI;rw[h];rfl
theorem c1.new{q:Rat}:c1 (H.new (.eE (.lF q))) (.pointer (some ⟨H.next,0,none⟩)) q:=⟨_,rfl,dT⟩
section
variable(al:Ob X)(g:cl pm H){v w:Value}{p q:Rat}(U:qD H v=some p)(aa:qD H w=some q)(s1:ca p=true)(s2:ca q=true)
include g al
theorem sE{n:Int}(aD:-9223372036854775808<=n)(U:n<=9223372036854775807):Call X pm F.kp [.int .i64 n] H λr H'=>K pm H H'/\c1 H' r (n:Rat):=
 Call.over al.abH (v:=.pointer (some ⟨H.next,0,none⟩)) (H':=H.new (.eE (.lF n))) (by simp[eM,rE g.fJ,Gx,aD,U,jn.out]) ⟨K.new g _,.new⟩
theorem B'{l:List UInt8}(aO:l.length<1000000):Call X pm F.nx [aW l] H λr H'=>K pm H H'/\(jD l=none/\r=.tuple #[.pointer none,.bool false]∨∃q p,jD l=some q/\r=.tuple #[p,.bool true]/\c1 H' p q):=by
 cases e:jD l with
 | none=>exact Call.over al.RV (v:=.tuple #[.pointer none,.bool false]) (H':=H) (by simp[eM,rE g.fJ,Dp,e,aO,jn.out,js]) ⟨K.refl g,.inl ⟨rfl,rfl⟩⟩
 | some q=>exact Call.over al.RV (v:=.tuple #[.pointer (some ⟨H.next,0,none⟩),.bool true]) (H':=H.new (.eE (.lF q))) (by simp[eM,rE g.fJ,Dp,e,aO,jn.out,js]) ⟨K.new g _,.inr ⟨q,_,rfl,rfl,.new⟩⟩
include U s1
theorem K7:Call X pm F.nV [v] H λr H'=>K pm H H'/\c1 H' r (-p):=
 Call.over al.abN (v:=.pointer (some ⟨H.next,0,none⟩)) (H':=H.new (.eE (.lF (-p)))) (by simp[eM,rE g.fJ,K4,C.b4,U,s1,jn.out]) ⟨K.new g _,.new⟩
theorem jF:Call X pm F.gE [v] H λr H'=>H'=H/\r=.int .i64 (cT p):=
 Call.over al.abO (v:=.int .i64 (cT p)) (H':=H) (by simp[eM,rE g.fJ,K5,C.b4,U,s1,jn.out]) ⟨rfl,rfl⟩
theorem Cj:Call X pm F.mI [v] H λr H'=>H'=H/\r=aW (dB p):=
 Call.over al.abP (v:=aW (dB p)) (H':=H) (by simp[eM,rE g.fJ,K6,C.b4,U,s1,jn.out]) ⟨rfl,rfl⟩
include aa s2
theorem v8:Call X pm F.kG [v,w] H λr H'=>K pm H H'/\c1 H' r (p+q):=
 Call.over al.abI (v:=.pointer (some ⟨H.next,0,none⟩)) (H':=H.new (.eE (.lF (p+q)))) (by simp[eM,rE g.fJ,KZ,C.cB,U,aa,s1,s2,jn.out]) ⟨K.new g _,.new⟩
theorem Jp:Call X pm F.nW [v,w] H λr H'=>K pm H H'/\c1 H' r (p-q):=
 Call.over al.abJ (v:=.pointer (some ⟨H.next,0,none⟩)) (H':=H.new (.eE (.lF (p-q)))) (by simp[eM,rE g.fJ,K0,C.cB,U,aa,s1,s2,jn.out]) ⟨K.new g _,.new⟩
theorem sF:Call X pm F.ke [v,w] H λr H'=>K pm H H'/\c1 H' r (p*q):=
 Call.over al.abK (v:=.pointer (some ⟨H.next,0,none⟩)) (H':=H.new (.eE (.lF (p*q)))) (by simp[eM,rE g.fJ,K1,C.cB,U,aa,s1,s2,jn.out]) ⟨K.new g _,.new⟩
theorem K8(aD:q≠0):Call X pm F.oG [v,w] H λr H'=>K pm H H'/\∃x,r=.tuple #[x,.bool true]/\c1 H' x (p/q):=
 Call.over al.abL (v:=.tuple #[.pointer (some ⟨H.next,0,none⟩),.bool true]) (H':=H.new (.eE (.lF (p/q)))) (by simp[eM,rE g.fJ,K2,C.cB,U,aa,s1,s2,aD,jn.out]) ⟨K.new g _,_,rfl,.new⟩
theorem ud:Call X pm F.k7 [v,w] H λr H'=>H'=H/\r=.int .i64 (kL p q):=
 Call.over al.abM (v:=.int .i64 (kL p q)) (H':=H) (by simp[eM,rE g.fJ,K3,C.cB,U,aa,s1,s2,jn.out]) ⟨rfl,rfl⟩
end
end Go.Dam.C
namespace Go.Dam
open Go
section
variable{X:aY}{pm:Perm}{Q ha:c'}
theorem fN.mono(h:∀x l H,Q x l H->ha x l H):∀{ks:List Fr} {x:gr} {e:Env} {H:ah},fN X pm x e H ks Q->fN X pm x e H ks ha
 | [],_,_,_,⟨l,a,b⟩=>⟨l,a,h _ _ _ b⟩
 | .seq b::ks,x,e,H,q=>by
   cases x with
   | normal=>
     obtain⟨cZ,bw,H',bn,bh⟩:=q;exact⟨cZ,bw,H',bn,fN.mono h bh⟩
   | exit i=>exact fN.mono (ks:=ks) (x:=.exit i) h q
   | ret=>exact fN.mono (ks:=ks) (x:=.ret) h q
 | .bI id::ks,x,e,H,q=>by
   cases x with
   | normal=>exact fN.mono (ks:=ks) (x:=.normal) h q
   | ret=>exact fN.mono (ks:=ks) (x:=.ret) h q
   | exit i=>
     simp only[fN]at q|-;split
     ·rename_i ad;rw[bm ad]at q;exact fN.mono h q
     ·rename_i ad;rw[aU ad]at q;exact fN.mono h q
theorem l6.mono(h:∀x l H,Q x l H->ha x l H){c:r1}{l:bQ}{H:ah}{ks:List Fr}(q:l6 X pm c l H ks Q):l6 X pm c l H ks ha:=λe he=>by
 have:=q e he
 cases c with
 | code c=>obtain⟨cZ,bw,H',bn,bh⟩:=this;exact⟨cZ,bw,H',bn,fN.mono h bh⟩
 | ops os=>obtain⟨bw,H',bn,bh⟩:=this;exact⟨bw,H',bn,fN.mono h bh⟩
 | res x=>exact fN.mono h this
theorem wp_mono(h:∀x l H,Q x l H->ha x l H){c:r1}{l:bQ}{H:ah}{ks:List Fr}:wp X pm c l H ks Q->wp X pm c l H ks ha:=by
 fun_induction wp X pm c l H ks Q with
 | case1 l H ks ih=>intro q;rw[wp];exact ih q
 | case2 l H ks os ih=>intro q;rw[wp];exact ih q
 | case3=>intro q;rw[wp];exact l6.mono h q
 | case4 l H ks a b ih=>intro q;rw[wp];exact ih q
 | case5 l H ks c a b t af vK vL=>intro q;rw[wp];rw[af];exact⟨λe=>vK (q.1 e),λe=>vL (q.2 e)⟩
 | case6=>intro q;exact q.elim
 | case7 l H ks id b ih=>intro q;rw[wp];exact ih q
 | case8=>intro q;rw[wp];exact l6.mono h q
 | case9 l H ks id ih=>intro q;rw[wp];exact ih q
 | case10 l H ks ih=>intro q;rw[wp];exact ih q
 | case11=>intro q;exact q.elim
 | case12 l H ks ih=>intro q;rw[wp];exact ih q
 | case13 l H ks o os f args au=>intro q;rw[wp];rw[au];exact l6.mono h q
 | case14 l H ks o os f args au=>intro q;rw[wp];rw[au];exact l6.mono h q
 | case15 l H ks o os v H' aG U aa ih=>
   intro q;rw[wp];split
   ·rename_i f args au;exact absurd au (U _ _)
   ·rename_i f args au;exact absurd au (aa _ _)
   ·rw[aG];exact ih q
 | case16=>intro q;exact q.elim
 | case17 l H x=>intro q;rw[wp];exact h _ _ _ q
 | case18 l H b ks ih=>intro q;rw[wp];exact ih q
 | case19 l H b ks x az ih=>intro q;cases x with
   | normal=>exact absurd rfl az
   | exit i=>rw[RW];exact ih q
   | ret=>rw[Ju];exact ih q
 | case20 l H id ks ih=>intro q;rw[Gy,bm rfl];exact ih q
 | case21 l H id ks i ad ih=>intro q;rw[Gy,aU ad];exact ih q
 | case22 l H id ks x az ih=>intro q;cases x with
   | normal=>rw[RX];exact ih q
   | exit i=>exact absurd rfl (az i)
   | ret=>rw[Jt];exact ih q
end
section
variable{X:aY}{pm:Perm}{Q ha:c'}
theorem fN.frame{yF:List Fr}(h:∀x l H,ha x l H->wp X pm (.res x) l H yF Q):∀{ks:List Fr} {x:gr} {e:Env} {H:ah},fN X pm x e H ks ha->fN X pm x e H (ks++yF) Q
 | [],x,e,H,⟨l,a,b⟩=>qX (h _ _ _ b) e a
 | .seq b::ks,x,e,H,q=>by
   cases x with
   | normal=>
     obtain⟨cZ,bw,H',bn,bh⟩:=q;exact⟨cZ,bw,H',bn,fN.frame h bh⟩
   | exit i=>exact fN.frame (ks:=ks) (x:=.exit i) h q
   | ret=>exact fN.frame (ks:=ks) (x:=.ret) h q
 | .bI id::ks,x,e,H,q=>by
   cases x with
   | normal=>exact fN.frame (ks:=ks) (x:=.normal) h q
   | ret=>exact fN.frame (ks:=ks) (x:=.ret) h q
   | exit i=>
     simp only[fN,bZQ]at q|-;split
     ·rename_i ad;rw[bm ad]at q;exact fN.frame h q
     ·rename_i ad;rw[aU ad]at q;exact fN.frame h q
theorem l6.frame{yF:List Fr}(h:∀x l H,ha x l H->wp X pm (.res x) l H yF Q){c:r1}{l:bQ}{H:ah}{ks:List Fr}(q:l6 X pm c l H ks ha):l6 X pm c l H (ks++yF) Q:=λe he=>by
 have:=q e he
 cases c with
 | code c=>obtain⟨cZ,bw,H',bn,bh⟩:=this;exact⟨cZ,bw,H',bn,fN.frame h bh⟩
 | ops os=>obtain⟨bw,H',bn,bh⟩:=this;exact⟨bw,H',bn,fN.frame h bh⟩
 | res x=>exact fN.frame h this
theorem aCe{yF:List Fr}(h:∀x l H,ha x l H->wp X pm (.res x) l H yF Q){c:r1}{l:bQ}{H:ah}{ks:List Fr}:wp X pm c l H ks ha->wp X pm c l H (ks++yF) Q:=by
 fun_induction wp X pm c l H ks ha with
 | case1 l H ks ih=>intro q;rw[wp];exact ih q
 | case2 l H ks os ih=>intro q;rw[wp];exact ih q
 | case3=>intro q;rw[wp];exact l6.frame h q
 | case4 l H ks a b ih=>intro q;rw[wp];exact ih q
 | case5 l H ks c a b t af vK vL=>intro q;rw[wp];rw[af];exact⟨λe=>vK (q.1 e),λe=>vL (q.2 e)⟩
 | case6=>intro q;exact q.elim
 | case7 l H ks id b ih=>intro q;rw[wp];exact ih q
 | case8=>intro q;rw[wp];exact l6.frame h q
 | case9 l H ks id ih=>intro q;rw[wp];exact ih q
 | case10 l H ks ih=>intro q;rw[wp];exact ih q
 | case11=>intro q;exact q.elim
 | case12 l H ks ih=>intro q;rw[wp];exact ih q
 | case13 l H ks o os f args au=>intro q;rw[wp];rw[au];exact l6.frame h q
 | case14 l H ks o os f args au=>intro q;rw[wp];rw[au];exact l6.frame h q
 | case15 l H ks o os v H' aG U aa ih=>
   intro q;rw[wp];split
   ·rename_i f args au;exact absurd au (U _ _)
   ·rename_i f args au;exact absurd au (aa _ _)
   ·rw[aG];exact ih q
 | case16=>intro q;exact q.elim
 | case17 l H x=>intro q;exact h _ _ _ q
 | case18 l H b ks ih=>intro q;rw[bZQ,wp];exact ih q
 | case19 l H b ks x az ih=>intro q;cases x with
   | normal=>exact absurd rfl az
   | exit i=>rw[bZQ,RW];exact ih q
   | ret=>rw[bZQ,Ju];exact ih q
 | case20 l H id ks ih=>intro q;rw[bZQ,Gy,bm rfl];exact ih q
 | case21 l H id ks i ad ih=>intro q;rw[bZQ,Gy,aU ad];exact ih q
 | case22 l H id ks x az ih=>intro q;cases x with
   | normal=>rw[bZQ,RX];exact ih q
   | exit i=>exact absurd rfl (az i)
   | ret=>rw[bZQ,Jt];exact ih q
theorem wp_cut{c:r1}{l:bQ}{H:ah}{ks:List Fr}(ha:c')(q:wp X pm c l H [] ha)(h:∀x l H,ha x l H->wp X pm (.res x) l H ks Q):wp X pm c l H ks Q:=aCe (ks:=[]) h q
end
end Go.Dam
namespace Go.Dam.C
open Go Go.Dam
variable{X:aY}{pm:Perm}{H H':ah}
def K9(X:aY)(pm:Perm)(f:Nat)(ks:List Fr)(Q:c')(eF:bQ->ah->Prop):c':=λx l' H'=>match x with
 | .normal=>eF l' H'
 | .exit j=>if j=f then eF l' H' else wp X pm (.res (.exit j)) l' H' ks Q
 | .ret=>wp X pm (.res .ret) l' H' ks Q
@[simp] theorem aHd{f:Nat}{ks:List Fr}{Q:c'}{eF:bQ->ah->Prop}{l:bQ}:K9 X pm f ks Q eF .normal l H=eF l H:=rfl
@[simp] theorem axU{f:Nat}{ks:List Fr}{Q:c'}{eF:bQ->ah->Prop}{l:bQ}:K9 X pm f ks Q eF .ret l H=wp X pm (.res .ret) l H ks Q:=rfl
@[simp] theorem aCf{f:Nat}{ks:List Fr}{Q:c'}{eF:bQ->ah->Prop}{l:bQ}{i:Nat}:K9 X pm f ks Q eF (.exit i) l H=if i=f then eF l H else wp X pm (.res (.exit i)) l H ks Q:=rfl
theorem abQ{i iq:Nat}{u v:Value}{l':bQ}:∀(M:bQ),a7 i M=none->a7 iq M=none->Sub M l'->Sub M ((i,u)::(iq,v)::l')
 | [],_,_,_=>trivial
 | (j,w)::M,a,b,c=>by
   simp only[RY]at a b;by_cases RZ:i=j
   ·rw[bm RZ]at a;cases a
   by_cases R0:iq=j
   ·rw[bm R0]at b;cases b
   rw[aU RZ]at a;rw[aU R0]at b;simp only[Gz,RY,Ne.symm RZ,Ne.symm R0,if_false]at c|-;exact⟨c.1,abQ M a b c.2⟩
theorem gG{σ:Type}{c i n iq e f:Nat}{B:ae}{l:bQ}{ks:List Fr}{Q:c'}(N:Nat)(L:Nat->σ->bQ)(I:Nat->σ->ah->Prop)(iQ:σ)
 (aB:c≠i/\c≠n/\iq≠i/\iq≠n/\i≠n) (gd:N<9223372036854775807) (aG:Sub ((i,.int .i64 0)::(n,.int .i64 (N:Int))::L 0 iQ) l) (aD:I 0 iQ H)
 (bC:∀k s,a7 i (L k s)=none/\a7 iq (L k s)=none)
 (step:∀k s H,k<N->I k s H->wp X pm (.code B) ((c,.bool true)::(i,.int .i64 (k:Int))::(n,.int .i64 (N:Int))::L k s) H []
  (K9 X pm f ks Q λl' H'=>∃eZ,Sub ((i,.int .i64 (k:Int))::(n,.int .i64 (N:Int))::L (k+1) eZ) l'/\I (k+1) eZ H'))
 (fin:∀s H,I N s H->wp X pm (.res (.exit e)) ((c,.bool false)::(i,.int .i64 (N:Int))::(n,.int .i64 (N:Int))::L N s) H ks Q):
 hv X pm (.seq (.aT [o c (.bin .lss .aZ (.t i) (.t n))]) (.seq (.cond (.t c) .skip (.exit e)) (.seq (.block f B) (.aT [o iq (.bin .add .aZ (.t i) (.c (.int .i64 (.ofNat 1)))),m i iq])))) l H ks Q:=by
 obtain⟨d1,d2,d3,d4,d5⟩:=aB;refine hv.of (σ:=Nat×σ) (λs=>(i,.int .i64 (s.1:Int))::(n,.int .i64 (N:Int))::L s.1 s.2) (λs H=>s.1<=N/\I s.1 s.2 H) (λs=>N-s.1) (0,iQ) (by simpa using aG) ⟨Nat.zero_le _,aD⟩ ?_;rintro⟨k,s⟩ H ⟨ag,dw⟩;simp only at ag dw|-;by_cases fI:k<N
 ·have cS:wr .i64 ((k:Int)+1)=((k+1:Nat):Int):=by rw[zWc (by omega) (by omega)];simp
  simp[Ne.symm d5,fI];refine wp_cut _ (step k s H fI dw) λx l' H' aV=>?_
  have eF:(∃eZ,Sub ((i,.int .i64 (k:Int))::(n,.int .i64 (N:Int))::L (k+1) eZ) l'/\I (k+1) eZ H')->wp X pm (.res .normal) l' H' [.seq (.aT [o iq (.bin .add .aZ (.t i) (.c (.int .i64 (.ofNat 1)))),m i iq])] λx l' H'=>match x with
   | .normal=>rF (λ(s:Nat×σ)=>(i,.int .i64 (s.1:Int))::(n,.int .i64 (N:Int))::L s.1 s.2) (λs H=>s.1<=N/\I s.1 s.2 H) (λs=>N-s.1) (k,s) l' H'
   | x=>wp X pm (.res x) l' H' ks Q:=by
   rintro⟨eZ,U,aa⟩;simp only[Gz]at U;obtain⟨ao,e2,bd⟩:=U;simp[ao,cS];refine .of (k+1,eZ) (by show N-(k+1)<N-k;omega) ?_ ⟨by show k+1<=N;omega,aa⟩;simp only[Gz,RY,if_true,Ne.symm d5,if_false,Ne.symm d4];exact⟨rfl,e2,abQ _ (bC _ _).1 (bC _ _).2 bd⟩
  cases x with
  | normal=>rw[RX];exact eF aV
  | exit j=>
    rw[aCf]at aV;rw[Gy];split
    ·rename_i h;rw[bm h]at aV;exact eF aV
    ·rename_i h;rw[aU h]at aV;rw[RW,O3];exact aV
  | ret=>rw[Jt,Ju,O3];exact aV
 ·obtain rfl:k=N:=by omega
  simp[Ne.symm d5];exact fin s H dw
theorem GA{o:aE}{f:FuncId}{args:List cD}{fx:List Bool}{os:List aE}{b0 k:Nat}{l:bQ}{acc:List Rec}{fin:Fin}{vs:List Value}{R:Value->ah->Prop}(g:cl pm H)(ai:H.get (b0+k)=none)
 (aK:l7 o l=some true) (aN:fD (kt l) args=some vs) (az:fx.headD false=false) (h:∀pm',cl pm' H->Call X pm' f vs H λr H'=>K pm' H H'/\R r H')
 (eF:∀v H1,K pm H H1->R v H1->mL X pm fx.tail os b0 (k+1) (ly l o.dst v) H1 (⟨[],gI ⟨pm.lo,pm.ok,some (b0+k)⟩ vs,H,v,λ_=>none⟩::acc) fin):g' X pm o f args fx os b0 k l H acc fin:=
 g'.of ai aK aN az (h _ (g.perm rfl (bR _))) λv H1 ⟨av,r⟩=>eF v H1 (av.perm g.num (bH g.lo av.next)) r
theorem bZk{o:aE}{f:FuncId}{args:List cD}{fx:List Bool}{os:List aE}{b0 k:Nat}{l:bQ}{acc:List Rec}{fin:Fin}{vs:List Value}{R:Value->ah->Prop}(g:cl pm H)(ai:H.get (b0+k)=none)
 (h:∀pm',cl pm' H->Call X pm' f vs H λr H'=>K pm' H H'/\R r H')
 (eF:∀v H1,K pm H H1->R v H1->mL X pm fx.tail os b0 (k+1) (ly l o.dst v) H1 (⟨[],gI ⟨pm.lo,pm.ok,some (b0+k)⟩ vs,H,v,λ_=>none⟩::acc) fin) (aK:l7 o l=some true:=by simp) (aN:fD (kt l) args=some vs:=by simp) (az:fx.headD false=false:=by rfl):g' X pm o f args fx os b0 k l H acc fin:=GA g ai aK aN az h eF
theorem Fq{o:aE}{f:FuncId}{args:List cD}{fx:List Bool}{os:List aE}{b0 k:Nat}{l:bQ}{acc:List Rec}{fin:Fin}{vs:List Value}{R:Value->ah->Prop}(g:cl pm H)(ai:H.get (b0+k)=none)
 (aK:l7 o l=some true) (aN:fD (kt l) args=some vs) (az:fx.headD false=true) (h:∀pm',cl pm' H->Call X pm' f vs H λr H'=>K pm' H H'/\R r H')
 (eF:∀v H1,K pm H H1->R v H1->mL X pm fx.tail os b0 (k+1) (ly l o.dst v) H1 (⟨[],[],H,v,λ_=>none⟩::acc) fin):g' X pm o f args fx os b0 k l H acc fin:=
 g'.fixed ai aK aN az (h _ (g.perm rfl g.lo)) λv H1 ⟨av,r⟩=>eF v H1 (av.perm g.num (bH g.lo av.next)) r
theorem bZm{o:aE}{f:FuncId}{args:List cD}{fx:List Bool}{os:List aE}{b0 k:Nat}{l:bQ}{acc:List Rec}{fin:Fin}{vs:List Value}{R:Value->ah->Prop}(g:cl pm H)(ai:H.get (b0+k)=none)
 (h:∀pm',cl pm' H->Call X pm' f vs H λr H'=>K pm' H H'/\R r H')
 (eF:∀v H1,K pm H H1->R v H1->mL X pm fx.tail os b0 (k+1) (ly l o.dst v) H1 (⟨[],[],H,v,λ_=>none⟩::acc) fin) (aK:l7 o l=some true:=by simp) (aN:fD (kt l) args=some vs:=by simp) (az:fx.headD false=true:=by rfl):g' X pm o f args fx os b0 k l H acc fin:=Fq g ai aK aN az h eF
theorem kM{f:FuncId}{vs:List Value}{R:Value->Prop}(g:cl pm H)(h:Call X pm f vs H λr H'=>H'=H/\R r):Call X pm f vs H λr H'=>K pm H H'/\H'=H/\R r:=
 h.mono λ_ _ ⟨a,b⟩=>by subst a;exact⟨K.refl g,rfl,b⟩
end Go.Dam.C
namespace Go.Dam.C
open Go Go.Dam
theorem eJ(l:List Nat):gp [] l=true:=rfl
theorem ez(l:List Nat):gp l []=true:=by simp[gp]
theorem qs(m:Perm)(l:List UInt8):gI m [aW l]=[]:=rfl
structure eu where
 name:List UInt8
 low:List UInt8
 up:List UInt8
 cost:List UInt8
 int:Bool
structure fb where
 col:Int
 v:List UInt8
structure di where
 name:List UInt8
 kind:Int
 cM:List fb
 rhs:List UInt8
 Ff:List UInt8
structure bD where
 aj:List eu
 rows:List di
def eu.cells(c:eu):List Value:=[aW c.name,aW c.low,aW c.up,aW c.cost,.bool c.int]
def fb.cells(c:fb):List Value:=[.int .i64 c.col,aW c.v]
def di.cells(r:di)(vc:Value):List Value:=[aW r.name,.int .i64 r.kind,vc,aW r.rhs,aW r.Ff]
def isNum(l:List UInt8):Bool:=(jD l).isSome
def rd(l:List UInt8):Rat:=(jD l).getD 0
structure zWa(H:ah)(v:Value)(m w:Nat)(P:Nat->List Value->Prop):Prop where
 ex:∃base cap,v=.slice base m cap/\∀i,i<m->∃b off y row cs,base=some ⟨b,off,none⟩/\H.get b=some y/\rowOf y=some row/\cX row (off+i*w) w=some cs/\P i cs
def kI(H:ah)(v:Value)(l:List eu):Prop:=zWa H v l.length 5 λi cs=>∃c,l[i]? = some c/\cs=c.cells
def nX(H:ah)(v:Value)(l:List fb):Prop:=zWa H v l.length 2 λi cs=>∃c,l[i]? = some c/\cs=c.cells
def nY(H:ah)(v:Value)(l:List di):Prop:=zWa H v l.length 5 λi cs=>∃r vc,l[i]? = some r/\cs=r.cells vc/\nX H vc r.cM
def ps(H:ah)(v:Value)(lp:bD):Prop:=∃v1 v2,v=.agg #[v1,v2]/\kI H v1 lp.aj/\nY H v2 lp.rows
structure hC(X:aY):Prop extends Ob X where
 pt:Has X F.pt C.pt
 kJ:Has X F.kJ C.kJ
 vR:Has X F.vR C.vR
 vS:Has X F.vS C.vS
 pv:Has X F.pv C.pv
 vT:Has X F.vT C.vT
 tW:Has X F.tW C.tW
 qt:Has X F.qt C.qt
 tX:Has X F.tX C.tX
 tY:Has X F.tY C.tY
 tZ:Has X F.tZ C.tZ
 sw:Has X F.sw C.sw
 t':Has X F.t' C.t'
 ua:Has X F.ua C.ua
 vU:Has X F.vU C.vU
 sx:Has X F.sx C.sx
 vV:Has X F.vV C.vV
 ub:Has X F.ub C.ub
 vW:Has X F.vW C.vW
 sy:Has X F.sy C.sy
 uc:Has X F.uc C.uc
 vX:Has X F.vX C.vX
variable{X:aY}{pm:Perm}{H H' cL:ah}{n:Nat}
theorem zWa.imp{v:Value}{m w:Nat}{P sA:Nat->List Value->Prop}(h:zWa H v m w P)(aK:∀b y,H.get b=some y->H'.get b=some y)(aC:∀i cs,i<m->P i cs->sA i cs):zWa H' v m w sA:=by
 obtain⟨base,cap,U,aa⟩:=h.ex;exact⟨base,cap,U,λi ad=>by
  obtain⟨b,off,y,row,cs,ao,e2,bd,b1,cK⟩:=aa i ad;exact⟨b,off,y,row,cs,ao,aK _ _ e2,bd,b1,aC _ _ ad cK⟩⟩
theorem kI.ext{v:Value}{l:List eu}(h:kI H v l)(aK:Ext H H'):kI H' v l:=zWa.imp h aK λ_ _ _=>id
theorem nX.ext{v:Value}{l:List fb}(h:nX H v l)(aK:Ext H H'):nX H' v l:=zWa.imp h aK λ_ _ _=>id
theorem nY.ext{v:Value}{l:List di}(h:nY H v l)(aK:Ext H H'):nY H' v l:=
 zWa.imp h aK λ_ _ _ ⟨r,vc,U,aa,aq⟩=>⟨r,vc,U,aa,aq.ext aK⟩
theorem ps.ext{v:Value}{lp:bD}(h:ps H v lp)(aK:Ext H H'):ps H' v lp:=by
 obtain⟨v1,v2,U,aa,aq⟩:=h;exact⟨v1,v2,U,aa.ext aK,aq.ext aK⟩
theorem K.ext(k:K pm H H')(g:cl pm H):Ext H H':=λ_ _ h=>k.some g h
theorem zWa.at{v:Value}{m w:Nat}{P:Nat->List Value->Prop}(h:zWa H v m w P):∃base cap,v=.slice base m cap/\∀i,i<m->∃b off y row cs,base=some ⟨b,off,none⟩/\H.get b=some y/\rowOf y=some row/\cX row (off+i*w) w=some cs/\P i cs:=h.ex
theorem Fg(al:hC X)(g:cl pm H){l:List UInt8}(aO:l.length<1000000):Call X pm F.pt [aW l] H λr H'=>K pm H H'/\r=.bool (isNum l):=by
 refine Call.has al.pt rfl ?_;simp;refine aR.bZb (B' al.toOb g aO) ?_;rintro r H1 ⟨av,h⟩
 rcases h with⟨e,rfl⟩ | ⟨q,p,e,rfl,aV⟩
 ·simp[isNum,e];exact av
 ·simp[isNum,e];exact av
theorem sB(al:hC X)(g:cl pm H){l:List UInt8}(aO:l.length<1000000)(aF:isNum l=true):Call X pm F.kJ [aW l] H λr H'=>K pm H H'/\c1 H' r (rd l):=by
 refine Call.has al.kJ rfl ?_;simp;refine aR.bZb (B' al.toOb g aO) ?_;rintro r H1 ⟨av,h⟩
 rcases h with⟨e,rfl⟩ | ⟨q,p,e,rfl,aV⟩
 ·simp[isNum,e]at aF
 ·simp[rd,e];exact⟨av,aV⟩
theorem X5{t:List UInt8}:(oI t).1.length<=t.length/\(oI t).2.length<=max t.length 1:=by
 unfold oI;split
 ·refine⟨(List.takeWhile_sublist _).length_le,bH ?_ (Nat.le_max_left _ _)⟩;rw[List.length_tail];exact bH (Nat.sub_le _ _) (List.dropWhile_sublist _).length_le
 ·simp;omega
theorem X6{l:List UInt8}:(kK l).2.length<=l.length:=by
 unfold kK;split<;>simp
theorem jf{l:List UInt8}{k:Nat}(h:l.length<=k)(ag:1<=k):sz (rd l) k:=by
 unfold rd
 cases e:jD l with
 | none=>
   have:4294967296^1<=4294967296^k:=iH (by decide) ag;exact⟨by show 0<_;omega,by show 1<_;omega⟩
 | some q=>
   unfold jD qu at e;split at e
   ·rename_i af;obtain⟨g1,g2,g3,g4⟩:=af;simp only[a6]at e;have U:=@X5 (kK l).2;have aa:=@X6 l;have cx:=(Ca g1).1;have a2:=(Ca g2).1;have ao:=oF cx (show _<=k by omega);have e2:=oF a2 (show _<=k by omega);rw[<-e];simp only[bZy];exact⟨by rw[IU g3];exact eD (oe _ _) ao,by rw[IT g3];exact eD (oe _ _) e2⟩
   ·cases e
theorem sC{l:List UInt8}(h:l.length<=10000):ca (rd l)=true:=(jf (k:=10000) h (by decide)).ca (by decide)
theorem rz(p q:Rat):(kL p q<0)=(p<q):=by
 unfold kL;apply propext;by_cases h:p<q
 ·simp[h]
 ·by_cases aa:p=q<;>simp[h,aa]
theorem cmp_eq(p q:Rat):(kL p q=0)=(p=q):=by
 unfold kL;apply propext;by_cases h:p<q
 ·simp only[h,if_true];exact⟨λh=>by omega,λe=>absurd (e▸h) bYo⟩
 ·by_cases aa:p=q<;>simp[h,aa]
theorem xT(p q:Rat):(0<kL p q)=(q<p):=by
 unfold kL;apply propext;by_cases h:p<q
 ·simp only[h,if_true];exact⟨λh=>by omega,λe=>absurd e (hA.2 (mO h))⟩
 ·by_cases aa:p=q
  ·subst aa;simp
  ·simp only[h,aa,if_false];exact⟨λ_=>Rat.lt_of_le_of_ne (hA.1 h) (Ne.symm aa),λ_=>by omega⟩
theorem axm(p q:Rat):(!decide (p<=q))=decide (q<p):=by
 by_cases h:p<=q
 ·simp[h,hA.2 h]
 ·simp[h,Rat.not_le.1 h]
end Go.Dam.C
namespace Go.Dam.C
open Go Go.Dam
def nf(c:eu):Bool:=isNum c.cost&&((c.low.isEmpty||isNum c.low)&&((c.up.isEmpty||isNum c.up)&&(c.low.isEmpty||(c.up.isEmpty||decide (rd c.low<=rd c.up)))))
def eu.ok(c:eu):Prop:=c.low.length<=10000/\c.up.length<=10000/\c.cost.length<=10000
variable{X:aY}{pm:Perm}{H H' cL:ah}
def vY(rs:List r9)(R:Value->ah->Prop):c':=λx l H'=>(x=.normal∨x=.ret)/\∃vs,nb l H' rs=some vs/\R (j5 vs) H'
@[simp] theorem gF{rs:List r9}{R:Value->ah->Prop}{x:gr}{l:bQ}{H':ah}:vY rs R x l H'=((x=.normal∨x=.ret)/\∃vs,nb l H' rs=some vs/\R (j5 vs) H'):=rfl
theorem Call.mu{f:FuncId}{args:List Value}{R:Value->ah->Prop}{F:b2}(al:Has X f F)(aF:Nat.ble args.length F.lL=true)
 (h:wp X pm (.code F.body) (zx args 0 []) H [] (vY F.res R)):Call X pm f args H R:=Call.has al aF h
theorem cl.none(g:cl pm H)(t:Nat):H.get (H.next+t)=Option.none:=g.wf _ (hS _ _)
theorem cl.fo(g:cl pm H):H.get H.next=Option.none:=g.wf _ (bR _)
theorem bp.res{n:Nat}{H1:ah}(u:K pm (H.up n) H1)(g:cl pm H):∀t,t<n->H1.get (H.next+t)=none:=λt aS=>(u.get _ (by show H.next+t<H.next+n;omega)).trans (g.none t)
theorem X7(al:hC X){H0:ah}(ea:K pm H0 H){nm lo up co:List UInt8}{i:Bool}(U:lo.length<=10000)(aa:up.length<=10000)(n1:lo.isEmpty=true∨isNum lo=true)(fU:up.isEmpty=true∨isNum up=true){b:Nat}{z:dI}(aK:H.get b=some (.cells [aW nm,aW lo,aW up,aW co,.bool i] z)){L:bQ}(ck:a7 1 L=some (.pointer (some ⟨b,0,none⟩))):
 wp X pm (.code ng) L H [] (vY [.slot 2] λr H'=>K pm H0 H'/\r=.bool (lo.isEmpty||(up.isEmpty||decide (rd lo<=rd up)))):=by
 have g:=ea.aL;have ka:∀k,H.get (H.next+k)=none:=g.none;have Cb:H.get H.next=none:=g.fo;have iM:=g.lt aK;have bE:K pm H (H.up 19):=(K.refl g).up 19;simp[-gF];refine eg.of g.lo rfl ?_;by_cases aG:lo.isEmpty=true∨up.isEmpty=true
 ·have bd:(lo.isEmpty||up.isEmpty)=true:=by simpa using aG
  have ag:=ea.trans bE;cases cY:lo.isEmpty<;>cases ao:up.isEmpty<;>first | (simp[cY,ao]at bd;done) | skip
  all_goals
   simp[dt,ka,Cb,ck,aK,gi,cY,ao]
   refine g'.not (by simp[ka]) (by simp) ?_
   simp
   refine g'.not (by simp[ka]) (by simp) ?_
   simp
   refine g'.not (by simp[ka]) (by simp) ?_
   simp[ka,dx,dm,iM, ez]
   exact ag
 ·have ao:lo.isEmpty=false:=by cases h:lo.isEmpty<;>simp[h]at aG|-
  have e2:up.isEmpty=false:=by cases h:up.isEmpty<;>simp[h]at aG|-
  simp[ao]at n1;simp[e2]at fU;simp[dt,ka,Cb,ck,aK,gi,ao,e2];refine bZk bE.aL (vs:=[aW lo]) (by simp[ka]) (λpm' bS=>sB al bS (by omega) n1) ?_;rintro bJ H1 bn f1;have b4:=bn.res g;simp;refine bZm bn.aL (vs:=[aW up]) (by simp[b4]) (λpm' bS=>sB al bS (by omega) fU) ?_;rintro bG aJ bh f2;have cB:=(bn.trans bh).res g;simp;refine bZm bh.aL (vs:=[bJ,bG]) (by simp[cB]) (λpm' bS=>kM bS (ud al.toOb bS (f1.up bh).of f2.of (sC U) (sC aa))) ?_;rintro _ bN cu ⟨rfl,rfl⟩;simp[cB,dx,dm,iM,eJ,ez,qs,xT,axm];exact ea.trans (bE.trans (bn.trans bh))
theorem Oc(al:hC X){H0:ah}(ea:K pm H0 H){nm lo up co:List UInt8}{i:Bool}(U:lo.length<=10000)(aa:up.length<=10000){b:Nat}{z:dI}(aK:H.get b=some (.cells [aW nm,aW lo,aW up,aW co,.bool i] z)){L:bQ}(ck:a7 1 L=some (.pointer (some ⟨b,0,none⟩)))
 {c:Bool} (n1:c=false->lo.isEmpty=true∨isNum lo=true) (sD:a7 17 L=some (.bool c)) :
 wp X pm (.ops (qv.drop 3)) L H [.seq ue,.seq ng] (vY [.slot 2] λr H'=>K pm H0 H'/\r=.bool (!c&&((up.isEmpty||isNum up)&&(lo.isEmpty||(up.isEmpty||decide (rd lo<=rd up)))))):=by
 rw[show qv.drop 3=(m 18 17)::⟨(some 19),(some (18,false)),.fieldAddr 2 (.t 1)⟩::⟨(some 20),(some (18,false)),.load false 1 (.t 19)⟩::⟨(some 21),(some (18,false)),.bin .neq .aZ (.t 20) (.c (.string ⟨#[]⟩))⟩::⟨(some 22),(some (18,false)),.aM (.t 21)⟩::⟨(some 23),(some (22,true)),.fieldAddr 2 (.t 1)⟩::⟨(some 24),(some (22,true)),.load false 1 (.t 23)⟩::⟨(some 25),(some (22,true)),.call F.pt [(.t 24)]⟩::Od from rfl]
 cases c with
 | true=>
   simp[sD,-ng,-gF];refine aR.not (by simp[zWb]) ?_;simp[zWb];exact ea
 | false=>
   have n1:=n1 rfl
   cases e:up.isEmpty with
   | true=>
     simp[sD,ck,aK,gi,e,-ng,-gF];refine aR.not (by simp) ?_;simp[-ng,-gF];refine wp_mono (λx l H' h=>?_) (X7 al ea (nm:=nm) (co:=co) (i:=i) U aa n1 (.inl e) aK (by simp[ck]));simpa [e]using h
   | false=>
     simp[sD,ck,aK,gi,e,-ng,-gF];refine aR.bZb (Fg al ea.aL (l:=up) (by omega)) ?_;rintro _ H1 ⟨av,rfl⟩
     cases ao:isNum up with
     | true=>
       simp[-ng,-gF];refine wp_mono (λx l H' h=>?_) (X7 al (ea.trans av) (nm:=nm) (co:=co) (i:=i) U aa n1 (.inr ao) (av.some ea.aL aK) (by simp[ck]));simpa [e]using h
     | false=>
       simp[-ng];exact ea.trans av
theorem axn(al:hC X)(g:cl pm H){c:eu}(af:c.ok):Call X pm F.vR [.agg c.cells.toArray] H λr H'=>K pm H H'/\r=.bool (nf c):=by
 obtain⟨nm,lo,up,co,i⟩:=c;obtain⟨U,aa,aq⟩:=af;simp only at U aa aq;refine Call.mu al.vR rfl ?_;obtain⟨H1,cw⟩:=bZa (H.new (.cells [aW nm,aW lo,aW up,aW co,.bool i] (.t T.X8)));have av:=bZi g cw;have aK:H1.get H.next=some (.cells [aW nm,aW lo,aW up,aW co,.bool i] (.t T.X8)):=by rw[cw];exact dT
 obtain⟨b,ai⟩:=bZa (H.next);rw[<-ai]at aK;simp[g.pick,g.make,ptr,eu.cells,<-cw,<-ai,aK,-ng,-qv,-ue,-gF];refine aR.bZb (Fg al av.aL (l:=co) (by omega)) ?_;rintro r aJ ⟨aI,rfl⟩;have eA:=aI.some av.aL aK;have e0:=av.trans aI;have Oe:qv=⟨(some 15),(some (11,true)),.un .not (.t 14)⟩::⟨(some 16),(some (7,false)),.pick (.t 11) (.t 15) (.c (.bool false))⟩::(o 17 (.pick (.t 7) (.c (.bool true)) (.t 16)))::qv.drop 3:=rfl
 cases ao:isNum co with
 | false=>
   simp[zWb,-ng,-qv,-ue,-gF];refine aR.not (by simp) ?_;rw[Oe];simp[zWb,-ng,-qv,-ue,-gF,-List.drop_succ_cons];refine wp_mono (λx l H' h=>?_) (Oc al e0 (nm:=nm) (co:=co) (i:=i) U aa eA (c:=true) (by simp) (λh=>by cases h) (by simp));simpa [nf,ao]using h
 | true=>
   cases e2:lo.isEmpty with
   | true=>
     simp[eA,gi,e2,zWb,-ng,-qv,-ue,-gF];refine aR.not (by simp) ?_;rw[Oe];simp[zWb,-ng,-qv,-ue,-gF,-List.drop_succ_cons];refine wp_mono (λx l H' h=>?_) (Oc al e0 (nm:=nm) (co:=co) (i:=i) U aa eA (c:=false) (by simp) (λ_=>.inl e2) (by simp));simpa [nf,ao,e2]using h
   | false=>
     simp[eA,gi,e2, -ng,-qv,-ue,-gF];refine aR.bZb (Fg al aI.aL (l:=lo) (by omega)) ?_;rintro r bN ⟨aQ,rfl⟩;rw[Oe];simp[-ng,-qv,-ue,-gF,-List.drop_succ_cons];refine wp_mono (λx l H' h=>?_) (Oc al (e0.trans aQ) (nm:=nm) (co:=co) (i:=i) U aa (aQ.some aI.aL eA) (c:=!isNum lo) (by simp) (λh=>.inr (by simpa using h)) (by simp));simpa [nf,ao,e2]using h
end Go.Dam.C
namespace Go.Dam.C
open Go Go.Dam
def fb.ok(c:fb):Prop:=c.v.length<=10000
def di.ok(r:di):Prop:=r.rhs.length<=10000/\r.cM.length<=1000000/\∀c∈r.cM,c.ok
def jE(n:Int):Int->List fb->Bool
 | _,[]=>true
 | last,c::l=>isNum c.v&&(c.v != [48]&&(decide (last<c.col)&&(decide (c.col<n)&&jE n c.col l)))
def k8(r:di)(n:Int):Bool:=jE n (-1) r.cM&&(isNum r.rhs&&(r.Ff.isEmpty&&(decide (1<=r.kind)&&decide (r.kind<=3))))
variable{X:aY}{pm:Perm}{H H' cL:ah}
theorem K.next(k:K pm H H'):H.next<=H'.next:=bp.next k
theorem mv(g:cl pm H)(x y:cj)(az:∀o,x≠.eE o):K pm H ((H.new x).put H.next y):=bp.put (K.new g x) (bR _) dT az y
theorem bYF{A:ah}{x y:cj}{p:Nat}(g:cl pm H)(h:A=(H.new x).put p y)(aC:p=H.next)(az:∀o,x≠.eE o:=by simp):K pm H A:=by rw[h,aC];exact mv g _ _ az
theorem I6{α:Type}{l:List α}{k:Nat}(h:k<l.length):l.drop k=l[k]::l.drop (k+1):=List.drop_eq_getElem_cons h
theorem axo(al:hC X){H0:ah}(ea:K pm H0 H){r:di}{vc:Value}(an:r.rhs.length<=10000){b:Nat}{z:dI}(aK:H.get b=some (.cells (r.cells vc) z)){L:bQ}(cJ:a7 2 L=some (.pointer (some ⟨b,0,none⟩))):
 wp X pm (.code Cc) L H [] (vY [.slot 4] λq H'=>K pm H0 H'/\q=.bool (isNum r.rhs&&(r.Ff.isEmpty&&(decide (1<=r.kind)&&decide (r.kind<=3))))):=by
 obtain⟨nm,p5,qw,Cd,rg⟩:=r;simp[cJ,aK,di.cells,-gF];refine aR.bZb (Fg al ea.aL (l:=Cd) (by simp at an;omega)) ?_;rintro _ H1 ⟨av,rfl⟩;have h4:=av.some ea.aL aK;have qx:=ea.trans av;cases ao:isNum Cd
 ·simp[ zWb];exact qx
 ·cases e2:rg.isEmpty
  ·simp[cJ,h4,di.cells,gi, e2,zWb];exact qx
  ·by_cases bd:(1:Int)<=p5
   ·simp[cJ,h4,di.cells,gi, e2,bd,Int.not_lt.2 bd,];exact⟨qx,by by_cases b1:p5<=3<;>simp[b1]<;>omega⟩
   ·simp[cJ,h4,di.cells,gi, e2,bd,Int.not_le.1 bd,zWb];exact qx
theorem axp(al:hC X)(g:cl pm H){r:di}{vc:Value}{n:Nat}(an:r.ok)(aw:nX H vc r.cM):
 Call X pm F.vS [.agg (r.cells vc).toArray,.int .i64 (n:Int)] H λq H'=>K pm H H'/\q=.bool (k8 r n):=by
 refine Call.mu al.vS rfl ?_;obtain⟨U,aa,aq⟩:=an;obtain⟨base,cap,rfl,eU⟩:=aw.at;obtain⟨H1,cw⟩:=bZa (H.new (.cells (r.cells (.slice base r.cM.length cap)) (.t T.Of)));have av:=bZi g cw;have aK:H1.get H.next=some (.cells (r.cells (.slice base r.cM.length cap)) (.t T.Of)):=by rw[cw];exact dT
 obtain⟨b,ai⟩:=bZa (H.next);rw[<-ai]at aK;simp[g.pick,g.make,ptr,<-cw,<-ai,aK,-Cc,-I7,-gF];simp[di.cells,-Cc,-I7,-gF]
 refine gG (σ:=Int) r.cM.length (λk last=>[(1,.int .i64 (n:Int)),(2,.pointer (some ⟨b,0,none⟩)),(9,.slice base r.cM.length cap),(5,.int .i64 last)])
  (λk last H'=>K pm H H'/\H'.get b=some (.cells (r.cells (.slice base r.cM.length cap)) (.t T.Of))/\jE n last (r.cM.drop k)=jE n (-1) r.cM) (-1) (by decide) (by omega) (by simp) ⟨av,aK,rfl⟩ (by simp) ?_ ?_
 ·rintro k last aJ ag ⟨aI,eA,af⟩;obtain⟨b',off,y,row,cs,rfl,e2,bd,b1,c,cK,rfl⟩:=eU k ag;rw[I6 ag]at af;have il:r.cM[k]=c:=by rw[hG ag]at cK;exact bZI cK
  rw[il]at af;have Fh:c.ok:=aq c (il▸bXH ag);have gW:=aI.some g e2;have g2:=aI.aL;obtain⟨bN,iO⟩:=bZa ((aJ.new (.cells [.int .i64 0,.string ⟨#[]⟩] (.t T.I8))).put aJ.next (.cells [.int .i64 c.col,aW c.v] (.t T.I8)));have aQ:K pm aJ bN:=by rw[iO];exact mv g2 _ _ (by simp)
  have jU:bN.get aJ.next=some (.cells [.int .i64 c.col,aW c.v] (.t T.I8)):=by rw[iO];exact dX
  have aF:(aJ.new (.cells [.int .i64 0,.string ⟨#[]⟩] (.t T.I8))).get b'=some y:=by rw[zy (g2.lt gW)];exact gW
  simp[ag,gW,bd,b1,fb.cells,g2.pick,g2.make,g2.may (bR _),ptr,c5,<-iO,jU];refine aR.bZb (Fg al aQ.aL (l:=c.v) (by have:=Fh;unfold fb.ok at this;omega)) ?_;rintro _ cp ⟨bt,rfl⟩;have mw:=bt.some aQ.aL jU;have vZ:=aI.trans (aQ.trans bt);have xG:=(aQ.trans bt).some g2 eA;have ret:jE n last (c::r.cM.drop (k+1))=false->K pm H cp/\k8 r n=false:=λe=>⟨vZ,by simp[k8,<-af,e]⟩;cases ao:isNum c.v
  ·simp[zWb];refine ret ?_;simp[jE,ao]
  ·by_cases nM:c.v=[48]
   ·simp[nM,mw,gi,zWb];refine ret ?_;simp[jE, nM]
   ·have I9:(c.v==[48])=false:=by simpa using nM
    by_cases mh:last<c.col
    ·by_cases pe:c.col<n
     ·simp[I9,mh,pe,mw,gi,];refine⟨vZ,xG,?_⟩;simpa [jE,bne,ao,I9,mh,pe]using af
     ·simp[I9,mh,pe,mw,gi,];refine ret ?_;simp[jE,pe]
    ·simp[I9,mh,mw,gi,zWb];refine ret ?_;simp[jE,mh]
 ·rintro last aJ ⟨aI,eA,af⟩;simp[-Cc,-gF];have:=axo al aI (r:=r) U eA (L:=(12,.bool false)::(11,.int .i64 (r.cM.length:Int))::(10,.int .i64 (r.cM.length:Int))::[(1,.int .i64 (n:Int)),(2,.pointer (some ⟨b,0,none⟩)),(9,.slice base r.cM.length cap),(5,.int .i64 last)]) (by simp);refine wp_mono (λx l H' h=>?_) this;rw[List.drop_length]at af;simpa [k8,<-af,jE]using h
end Go.Dam.C
namespace Go.Dam.C
open Go Go.Dam
variable{X:aY}{pm:Perm}{H H' cL H0:ah}{n:Nat}
theorem axq:C.vX=C.uc:=rfl
theorem X9{X':Nat}(al:Has X X' C.uc)(g:cl pm H){v:Value}{m:Nat}{R:Nat->List Value->Prop}(aw:zWa H v m 5 R)(hm:m<=1000000){f:FuncId}{fs cs:Array Value}(Q:Nat->Bool)
 (bc:∀i H' c,i<m->R i c->K pm H H'->Call X pm f (.agg c.toArray::cs.toList) H' λr cL=>K pm H' cL/\r=.bool (Q i)):
 Call X pm X' [v,.func (.func f) fs cs] H λr H'=>K pm H H'/\∃z:Int,r=.int .i64 z/\(0<=z↔∃i,i<m/\Q i=true):=by
 refine Call.mu al rfl ?_;obtain⟨base,cap,rfl,eU⟩:=aw.at;simp[-Og,-Ce,-gF];refine gG (σ:=Unit) m (λk _=>[(0,.slice base m cap),(1,.func (.func f) fs cs)]) (λk _ H'=>K pm H H'/\∀i,i<k->Q i=false) () (by decide) (by omega) (by simp) ⟨K.refl g,by simp⟩ (by simp) ?_ ?_
 ·rintro k _ H1 ag ⟨av,bU⟩;obtain⟨b,off,y,row,c,rfl,e2,bd,b1,cK⟩:=eU k ag;simp[ag,av.some g e2,bd,b1,c5,-Ce,-gF];refine Cf.of (g:=f) (fs:=fs) (cs:=cs) (vs:=[.agg c.toArray]) (by simp) (by simp) (by simp) (bc k H1 c ag cK av) ?_;rintro _ aJ ⟨aI,rfl⟩;cases aV:Q k
  ·simp[-Ce,-gF];refine⟨av.trans aI,λi ad=>?_⟩;by_cases h:i=k
   ·exact h▸aV
   ·exact bU i (by omega)
  ·simp[-Ce];exact⟨av.trans aI,k,ag,aV⟩
 ·rintro _ H1 ⟨av,bU⟩;simp;exact⟨av,λi ad=>bU i ad⟩
theorem axr(al:hC X)(g:cl pm H){v:Value}{m:Nat}{R:Nat->List Value->Prop}(aw:zWa H v m 5 R)(hm:m<=1000000){f:FuncId}{fs cs:Array Value}(Q:Nat->Bool)
 (bc:∀i H' c,i<m->R i c->K pm H H'->Call X pm f (.agg c.toArray::cs.toList) H' λr cL=>K pm H' cL/\r=.bool (Q i)) {t:Bool} (aS:t=true↔∃i,i<m/\Q i=true):
 Call X pm F.vW [v,.func (.func f) fs cs] H λr H'=>K pm H H'/\r=.bool t:=by
 refine Call.mu al.vW rfl ?_;simp;refine aR.bZb (vs:=[v,.func (.func f) fs cs]) (X9 al.uc g aw hm Q bc) ?_;rintro _ H1 ⟨av,z,rfl,bl⟩;rw[<-aS]at bl;simp;refine⟨av,?_⟩;cases t<;>simp at bl|-<;>omega
theorem Oh(al:hC X)(g:cl pm H){v:Value}{m:Nat}{R:Nat->List Value->Prop}(aw:zWa H v m 5 R)(hm:m<=1000000){f:FuncId}{fs cs:Array Value}(Q:Nat->Bool)
 (bc:∀i H' c,i<m->R i c->K pm H H'->Call X pm f (.agg c.toArray::cs.toList) H' λr cL=>K pm H' cL/\r=.bool (Q i)) {t:Bool} (aS:t=true↔∃i,i<m/\Q i=true):
 Call X pm F.sy [v,.func (.func f) fs cs] H λr H'=>K pm H H'/\r=.bool t:=by
 refine Call.mu al.sy rfl ?_;simp;refine aR.bZb (vs:=[v,.func (.func f) fs cs]) (X9 (axq▸al.vX) g aw hm Q bc) ?_;rintro _ H1 ⟨av,z,rfl,bl⟩;rw[<-aS]at bl;simp;refine⟨av,?_⟩;cases t<;>simp at bl|-<;>omega
def bD.dP(lp:bD):Bool:=!(decide (100<lp.aj.length)||decide (440<lp.rows.length))&&(lp.aj.all nf&&lp.rows.all λr=>k8 r lp.aj.length)
structure bD.ok(lp:bD):Prop where
 c:lp.aj.length<=20
 r:lp.rows.length<=40
 cs:∀c∈lp.aj,c.ok
 rs:∀r∈lp.rows,r.ok
theorem Fi(al:hC X)(g:cl pm H){v:Value}{lp:bD}(aO:ps H v lp)(au:lp.ok):Call X pm F.pv [v] H λr H'=>K pm H H'/\r=.bool lp.dP:=by
 refine Call.mu al.pv rfl ?_;obtain⟨v1,v2,rfl,af,an⟩:=aO;obtain⟨cR,cy,rfl,aGf⟩:=af.at;obtain⟨b9,dd,rfl,xU⟩:=an.at;have oJ:=au.c;have qh:=au.r;obtain⟨H1,cw⟩:=bZa (H.new (.cells [.slice cR lp.aj.length cy,.slice b9 lp.rows.length dd] (.t T.Ya)));have av:=bZi g cw;have aK:H1.get H.next=some (.cells [.slice cR lp.aj.length cy,.slice b9 lp.rows.length dd] (.t T.Ya)):=by rw[cw];exact dT
 obtain⟨b,ai⟩:=bZa (H.next);rw[<-ai]at aK;simp[g.pick,g.make,ptr,<-cw,<-ai,aK,-Fj,-gF];by_cases s1:100<lp.aj.length
 ·simp[s1,zWb, -Fj];exact⟨av,by simp[bD.dP,s1]⟩
 by_cases s2:440<lp.rows.length
 ·simp[s1,s2,aK,-Fj];exact⟨av,by simp[bD.dP,s2]⟩
 have ao:∀c∈lp.aj,c.ok:=au.cs;have e2:∀c∈lp.rows,c.ok:=au.rs;simp[s1,s2,aK,-Oi,-gF];refine aR.of (vs:=[.slice cR lp.aj.length cy,.func (.func F.vT) #[] #[]]) (by simp) (by simp;rfl) (axr al av.aL (af.ext (av.ext g)) (by omega) (f:=F.vT) (cs:=#[]) (λi=>!((lp.aj[i]?.map nf).getD true)) ?_ (t:=!lp.aj.all nf) ?_) ?_
 ·rintro i aJ cs ad ⟨c,U,rfl⟩ aI;refine Call.mu al.vT rfl ?_;have jV:=K.new aI.aL (.cells c.cells (.t T.Oj));have aGg:(aJ.new (.cells c.cells (.t T.Oj))).get aJ.next=some (.cells c.cells (.t T.Oj)):=dT;simp[aI.aL.pick,aI.aL.make,ptr,cX,c5,show c.cells.length=5 from rfl];refine aR.of (vs:=[.agg c.cells.toArray]) (by simp) (by simp[show c.cells.take 5=c.cells from rfl]) (axn al jV.aL (ao c (fR U))) ?_;rintro _ bN ⟨aQ,rfl⟩;simp[U];exact jV.trans aQ
 ·rw[mN,bXi,Ne,hz];constructor
  ·intro h;simp only[Classical.not_forall]at h;obtain⟨c,af,aF⟩:=h;obtain⟨i,ad⟩:=bWf af;exact⟨i,(nD.1 ad).1,by simp[ad,aF]⟩
  ·rintro⟨i,ad,aV⟩ h;have:=h lp.aj[i] (bXH ad);simp[hG ad,this]at aV
 rintro _ aJ ⟨aI,rfl⟩;have e0:=av.trans aI;have eA:=aI.some av.aL aK;cases uf:lp.aj.all nf
 ·simp[zWb];refine aR.not (by simp) ?_;simp[zWb];exact⟨e0,by simp[bD.dP,uf]⟩
 simp[eA];refine aR.bZb (vs:=[.slice b9 lp.rows.length dd,.func (.func F.tW) #[] #[.pointer (some ⟨b,0,none⟩)]]) (Oh al e0.aL (an.ext (e0.ext g)) (by omega) (f:=F.tW) (cs:=#[.pointer (some ⟨b,0,none⟩)]) (λi=>!((lp.rows[i]?.map λr=>k8 r lp.aj.length).getD true)) ?_ (t:=!lp.rows.all λr=>k8 r lp.aj.length) ?_) ?_
 ·rintro i bN cs ad ⟨r,vc,U,rfl,k9⟩ aQ;refine Call.mu al.tW rfl ?_;have jV:=K.new aQ.aL (.cells (r.cells vc) (.t T.axs));have jU:=(aQ.trans jV).some e0.aL eA;simp[aQ.aL.pick,aQ.aL.make,ptr,cX,c5,show(r.cells vc).length=5 from rfl,jU];refine aR.of (vs:=[.agg (r.cells vc).toArray,.int .i64 (lp.aj.length:Int)]) (by simp) (by simp[show(r.cells vc).take 5=r.cells vc from rfl]) (axp al jV.aL (e2 r (fR U)) (k9.ext ((aQ.trans jV).ext e0.aL))) ?_;rintro _ cp ⟨bt,rfl⟩;simp[U];exact jV.trans bt
 ·rw[mN,bXi,Ne,hz];constructor
  ·intro h;simp only[Classical.not_forall]at h;obtain⟨c,af,aF⟩:=h;obtain⟨i,ad⟩:=bWf af;exact⟨i,(nD.1 ad).1,by simp[ad,aF]⟩
  ·rintro⟨i,ad,aV⟩ h;have:=h lp.rows[i] (bXH ad);simp[hG ad,this]at aV
 rintro _ bN ⟨aQ,rfl⟩;simp;exact⟨e0.trans aQ,by simp[bD.dP,uf,s1,s2]⟩
structure Ay(H:ah)(v:Value)(m:Nat)(P:Nat->Value->Prop):Prop where
 ex:∃base cap,v=.slice base m cap/\∀i,i<m->∃b off y row u,base=some ⟨b,off,none⟩/\H.get b=some y/\rowOf y=some row/\row[off+i]? = some u/\P i u
theorem Ay.imp{v:Value}{m:Nat}{P sA:Nat->Value->Prop}(h:Ay H v m P)(aK:Ext H H')(aC:∀i u,i<m->P i u->sA i u):Ay H' v m sA:=by
 obtain⟨base,cap,U,aa⟩:=h.ex;exact⟨base,cap,U,λi ad=>by
  obtain⟨b,off,y,row,u,ao,e2,bd,b1,cK⟩:=aa i ad;exact⟨b,off,y,row,u,ao,aK _ _ e2,bd,b1,aC _ _ ad cK⟩⟩
def kh(H:ah)(v:Value)(l:List (List UInt8)):Prop:=Ay H v l.length λi u=>∃s,l[i]? = some s/\u=aW s
def mx(H:ah)(v:Value)(m:Nat)(x:Nat->Rat):Prop:=Ay H v m λi u=>c1 H u (x i)
theorem kh.ext{v:Value}{l:List (List UInt8)}(h:kh H v l)(aK:Ext H H'):kh H' v l:=Ay.imp h aK λ_ _ _=>id
theorem c1.ext{v:Value}{q:Rat}(h:c1 H v q)(aK:Ext H H'):c1 H' v q:=let ⟨b,U,aa⟩:=h;⟨b,U,aK _ _ aa⟩
theorem mx.ext{v:Value}{m:Nat}{x:Nat->Rat}(h:mx H v m x)(aK:Ext H H'):mx H' v m x:=Ay.imp h aK λ_ _ _ h=>h.ext aK
def wm(H:ah)(v:Value)(w i:Nat)(ss:List Value):Option Nat->Prop
 | none=>i=0/\ss=[]/\v=.slice none 0 0
 | some c=>v=.slice (some ⟨c,0,none⟩) i i/\ss.length=i*w/\H.get c=some (.cells ss (.n w))
theorem wm.len{v:Value}{w i:Nat}{ss:List Value}{o:Option Nat}(g:wm H v w i ss o):ss.length=i*w:=by
 cases o with
 | none=>obtain⟨rfl,rfl,_⟩:=g;simp
 | some c=>exact g.2.1
theorem wm.ext{v:Value}{w i:Nat}{ss:List Value}{o:Option Nat}(g:wm H v w i ss o)(h:∀c y,o=some c->H.get c=some y->H'.get c=some y):wm H' v w i ss o:=by
 cases o with
 | none=>exact g
 | some c=>exact⟨g.1,g.2.1,h c _ rfl g.2.2⟩
@[simp] theorem aHe(v:Value):cX [v] 0 1=some [v]:=rfl
theorem abR(l:List Value):cX l 0 l.length=some l:=by simp[cX]
theorem YF(g:cl pm H){v:Value}{w i by':Nat}{ss xs:List Value}{o:Option Nat}(gs:wm H v w i ss o)(az:xs.all fG=true)(mK:xs.length=w)(hw:1<=w)(ad:i<1000000)(hK:by'<=200)(aF:n<=H.next)(af:∀c,o=some c->n<=c/\pm.may c=true):
 ∃H',(iV w by' v xs 1).run pm H=some (.slice (some ⟨H.next,0,none⟩) (i+1) (i+1),H')/\wm H' (.slice (some ⟨H.next,0,none⟩) (i+1) (i+1)) w (i+1) (ss++xs) (some H.next)/\bp pm n H H'/\H'.next=H.next+1/\
  ∀b,b<H.next->o≠some b->H'.get b=H.get b:=by
 have ai:(i+1)*by'<=17179869184:=bH (r8 _ hK) (by omega)
 cases o with
 | none=>
   obtain⟨rfl,rfl,rfl⟩:=gs;refine⟨H.new (.cells xs (.n w)),?_,⟨rfl,by simp[mK],dT⟩,bp.new (.refl g) aF _,rfl,λb ai _=>zy ai⟩;unfold iV;simp at ai;simp only[az];simp[g.make,g.pick,show by'<=17179869184 by omega,hw]
 | some c=>
   obtain⟨rfl,aO,aK⟩:=gs;obtain⟨hb,kC⟩:=af c rfl;have x7:cX ss 0 (i*w)=some ss:=by rw[<-aO];exact abR ss
   refine⟨(H.put c .dead).new (.cells (ss++xs) (.n w)),?_,⟨rfl,by simp[aO,mK,bZz],dT⟩,bp.new (bp.put (.refl g) hb aK (by simp) .dead) aF _,rfl,λb ai aF=>by rw[zy (show b<(H.put c .dead).next from ai),cq (λe=>aF (by rw[e]))]⟩;unfold iV;simp only[az];simp[g.make,g.pick,ai,aK,x7,kC,hw,show ¬(i+1<=i) by omega,show i+1<=17179869184 by omega]
def n7(pm:Perm)(n:Nat)(H:ah)(v:Value)(i:Nat)(x:Nat->Rat):Prop:=∃ss o,wm H v 1 i ss o/\(∀c,o=some c->n<=c/\pm.may c=true)/\∀j,j<i->∃p,ss[j]? = some p/\c1 H p (x j)
theorem n7.nil{x:Nat->Rat}:n7 pm n H (.slice none 0 0) 0 x:=⟨[],none,⟨rfl,rfl,rfl⟩,by simp,by simp⟩
theorem n7.row{v:Value}{i:Nat}{x:Nat->Rat}(h:n7 pm n H v i x):mx H v i x:=by
 obtain⟨ss,o,gs,_,az⟩:=h
 cases o with
 | none=>
   obtain⟨rfl,_,rfl⟩:=gs;exact⟨none,0,rfl,λi ad=>absurd ad (od _)⟩
 | some c=>
   obtain⟨rfl,_,aK⟩:=gs;refine⟨_,_,rfl,λj aH=>?_⟩;obtain⟨p,U,aa⟩:=az j aH;exact⟨c,0,_,ss,p,rfl,aK,rfl,by simpa using U,aa⟩
theorem n7.k{v:Value}{i:Nat}{x:Nat->Rat}(h:n7 pm n H v i x)(g:cl pm H)(k:K pm H H'):n7 pm n H' v i x:=by
 obtain⟨ss,o,gs,au,az⟩:=h;exact⟨ss,o,gs.ext λc y _ e=>k.some g e,au,λj aH=>(az j aH).imp λp q=>⟨q.1,q.2.up k⟩⟩
theorem n7.app{v:Value}{i by':Nat}{x:Nat->Rat}(h:n7 pm n H v i x)(g:cl pm H){p:Value}{q:Rat}(aC:c1 H p q)(ad:i<1000000)(hK:by'<=200)(aF:n<=H.next):
 ∃H',(iV 1 by' v [p] 1).run pm (H.new (.cells [p] (.n 1)))=some (.slice (some ⟨H.next+1,0,none⟩) (i+1) (i+1),H')/\n7 pm n H' (.slice (some ⟨H.next+1,0,none⟩) (i+1) (i+1)) (i+1) (λj=>if j=i then q else x j)/\bp pm n H H':=by
 obtain⟨ss,o,gs,au,az⟩:=h;have jV:=K.new g (.cells [p] (.n 1));obtain⟨a,rfl,aN⟩:=id aC;obtain⟨H',ao,e2,bd,b1,cK⟩:=YF jV.aL (by':=by') (n:=n) (gs.ext λc y _ e=>jV.some g e) (xs:=[.pointer (some ⟨a,0,none⟩)]) rfl rfl (bR _) ad hK (by show n<=H.next+1;omega) au;have u:=(jV.mono aF).trans bd;refine⟨H',ao,⟨_,_,e2,λc af=>?_,λj aH=>?_⟩,u⟩
 ·cases af;exact⟨by show n<=H.next+1;omega,g.may (by show H.next<=H.next+1;omega)⟩
 ·have aO:=gs.len;by_cases e:j=i
  ·subst e;refine⟨.pointer (some ⟨a,0,none⟩),?_,by simpa using aC.up u⟩;rw[lA (by omega)];simp[aO]
  ·obtain⟨r,b4,cB⟩:=az j (by omega);exact⟨r,by rw[lB (by omega)];exact b4,by simpa [e]using cB.up u⟩
def e1(l:List (List UInt8))(i:Nat):Rat:=rd (l.getD i [])
theorem Jf(al:hC X)(g:cl pm H){v:Value}{l:List (List UInt8)}{many:Int}(aw:kh H v l)(aO:l.length<1000000)(aG:∀s∈l,s.length<1000000):
 Call X pm F.qt [v,.int .i64 many] H λr H'=>K pm H H'/\(l.all isNum=false/\r=.tuple #[.slice none 0 0,.bool false]∨l.all isNum=true/\∃u,r=.tuple #[u,.bool (decide ((l.length:Int)=many))]/\mx H' u l.length (e1 l)):=by
 refine Call.mu al.qt rfl ?_;obtain⟨base,cap,rfl,eU⟩:=aw.ex;simp[-R1,-Dr,-gF]
 refine gG (σ:=Value) l.length (λk u=>[(0,.slice base l.length cap),(1,.int .i64 many),(6,u),(11,.slice base l.length cap)])
  (λk u H'=>K pm H H'/\(l.take k).all isNum=true/\n7 pm H.next H' u k (e1 l)) (.slice none 0 0) (by decide) (by omega) (by simp) ⟨K.refl g,by simp,n7.nil⟩ (by simp) ?_ ?_
 ·rintro k u H1 ag ⟨av,aF,bc⟩;obtain⟨b,off,y,row,w,rfl,e2,bd,b1,s,cK,rfl⟩:=eU k ag;have qi:=aG s (fR cK);have ui:l.take (k+1)=l.take k++[s]:=by rw[List.take_add_one,cK];rfl
  have As:e1 l k=rd s:=by simp[e1,List.getD,cK]
  simp[ag,av.some g e2,bd,b1,-Dr,-gF];refine aR.bZb (vs:=[aW s]) (B' al.toOb av.aL qi) ?_;rintro _ aJ ⟨aI,⟨h,rfl⟩ | ⟨q,p,h,rfl,aC⟩⟩
  ·simp[-Dr];refine⟨av.trans aI,.inl ⟨s,fR cK,by simp[isNum,h]⟩⟩
  ·obtain⟨bN,cx,a2,a3⟩:=(bc.k av.aL aI).app (by':=8) aI.aL aC (by omega) (by omega) (av.trans aI).next;have aV:e1 l k=q:=by rw[As];simp[rd,h]
   have R2:(λj=>if j=k then q else e1 l j)=e1 l:=by
    funext j;by_cases e:j=k
    ·subst e;simp[aV]
    ·simp[e]
   rw[R2]at a2;obtain⟨a,rfl,_⟩:=id aC;simp[aI.aL.pick,aI.aL.make,fill,setCells,cx,-Dr,-gF];rw[hz]at aF;refine⟨bp.trans (av.trans aI) a3,λx az=>?_,a2⟩;rw[ui,bYv]at az
   rcases az with az | az
   ·exact aF x az
   ·simp at az;subst az;simp[isNum,h]
 ·rintro u H1 ⟨av,aF,bc⟩;rw[bXG]at aF;simp;refine⟨av,.inr ⟨by simpa using aF,u,⟨rfl,?_⟩,bc.row⟩⟩;by_cases h:(l.length:Int)=many<;>simp[h]
def ix:List fb->(Nat->Rat)->Rat
 | [],_=>0
 | c::l,x=>ix l x+rd c.v*x c.col.toNat
def ug(kind c:Int):Bool:=if kind=1 then decide (c<=0) else if kind=3 then decide (0<=c) else decide (c=0)
theorem Yb(al:hC X){kind c:Int}:Call X pm F.tY [.int .i64 kind,.int .i64 c] H λr H'=>H'=H/\r=.bool (ug kind c):=by
 refine Call.mu al.tY rfl ?_;by_cases U:kind=1
 ·subst U;simp[ug,<-Int.not_lt]
 ·by_cases aq:kind=3
  ·subst aq;simp[ug,<-Int.not_lt]
  ·have ao:(kind==1)=false:=by simpa using U
   have bd:(kind==3)=false:=by simpa using aq
   simp[ao,bd,ug,U,aq];by_cases h:c=0<;>simp[h]
theorem Yc(l:List fb)(c:fb)(x:Nat->Rat):ix (l++[c]) x=ix l x+rd c.v*x c.col.toNat:=by
 induction l with
 | nil=>simp[ix]
 | cons d l ih=>simp only[bZQ,ix,ih];grind
theorem Ok{l:List fb}{x:Nat->Rat}{t:Nat}(aO:∀c∈l,c.ok/\sz (x c.col.toNat) t):sz (ix l x) (l.length*(t+10001)+1):=by
 induction l with
 | nil=>exact uh (by simp)
 | cons c l ih=>
   obtain⟨U,aa⟩:=aO c (.head _);refine ff (zz (ih λd aB=>aO d (.tail _ aB)) (la (jf (k:=10000) U (by decide)) aa)) ?_;simp only[bZt,bZz];omega
structure Ol(l:List fb)(n:Nat):Prop where
 len:l.length<=1000
 all:∀c∈l,c.ok/\isNum c.v=true/\0<=c.col/\c.col<n
theorem Yd(al:hC X)(g:cl pm H){v w:Value}{l:List fb}{x:Nat->Rat}{t:Nat}(aw:nX H v l)(hw:mx H w n x)(au:Ol l n)(aS:t<=20000)(az:∀i,i<n->sz (x i) t):
 Call X pm F.tX [v,w] H λr H'=>K pm H H'/\c1 H' r (ix l x):=by
 refine Call.mu al.tX rfl ?_;have aO:=au.len;obtain⟨base,cap,rfl,eU⟩:=aw.at;obtain⟨dG,dE,rfl,xU⟩:=hw.ex;have gb:∀k,sz (ix (l.take k) x) 31000000:=λk=>by
  refine ff (Ok (t:=t) λc af=>?_) ?_
  ·obtain⟨U,_,aq,a8⟩:=au.all c (bYk af);exact⟨U,az _ (by omega)⟩
  ·have U:(l.take k).length<=1000:=bH (List.take_sublist _ _).length_le aO;have aa:t+10001<=30001:=by omega
   have aq:(l.take k).length*(t+10001)<=30001000:=bH (ie U aa) (by decide);exact bH (bXj aq) (by decide)
 simp[-I',-Ja,-gF];refine aR.bZb (vs:=[.int .i64 0]) (sE al.toOb g (n:=0) (by omega) (by omega)) ?_;rintro jW H1 ⟨av,jR⟩;simp[-I',-Ja,-gF]
 refine gG (σ:=Value) l.length (λk u=>[(1,.slice dG n dE),(5,u),(9,.slice base l.length cap)])
  (λk u H'=>K pm H H'/\c1 H' u (ix (l.take k) x)) jW (by decide) (by omega) (by simp) ⟨av,by simpa [ix]using jR⟩ (by simp) ?_ ?_
 ·rintro k u aJ ag ⟨aI,hu⟩;obtain⟨b,off,y,row,cs,rfl,e2,bd,b1,c,cK,rfl⟩:=eU k ag;obtain⟨U,aa,aq,a8⟩:=au.all c (fR cK);have Cg:c.col.toNat<n:=by omega
  obtain⟨b9,xV,iL,xW,q,rfl,f2,f3,f4,f5⟩:=xU _ Cg;obtain⟨j,aH⟩:∃j:Nat,c.col=(j:Int):=⟨c.col.toNat,by omega⟩;have zA:c.col.toNat=j:=by omega
  rw[zA]at Cg f4 f5;have g2:=aI.aL;have gW:=aI.some g e2;have xX:=aI.some g f2;obtain⟨bN,iO⟩:=bZa ((aJ.new (.cells [.int .i64 0,.string ⟨#[]⟩] (.t T.Jb))).put aJ.next (.cells [.int .i64 c.col,aW c.v] (.t T.Jb)));have aQ:K pm aJ bN:=by rw[iO];exact mv g2 _ _ (by simp)
  have jU:bN.get aJ.next=some (.cells [.int .i64 c.col,aW c.v] (.t T.Jb)):=by rw[iO];exact dX
  have aF:(aJ.new (.cells [.int .i64 0,.string ⟨#[]⟩] (.t T.Jb))).get b=some y:=by rw[zy (g2.lt gW)];exact gW
  have g3:=aQ.aL;have v7:=aQ.some g2 xX;simp[ag,gW,bd,b1,fb.cells,g2.pick,g2.make,g2.may (bR _),ptr,c5,<-iO];refine eg.of g3.lo rfl ?_;have bE:K pm bN (bN.up 12):=(K.refl g3).up 12;have bO:=g3.lt jU;have xS:=g3.lt v7;simp[dt,g3.none,g3.fo,jU,aH,Cg,v7,f3,f4];refine bZk bE.aL (vs:=[aW c.v]) (by simp[g3.none]) (λpm' bS=>sB al bS (by have:=U;unfold fb.ok at this;omega) aa) ?_;rintro bJ cp bt f1;have b4:=bt.res g3;simp;have Om:c1 cp q (x j):=((f5.ext (aI.ext g)).up aQ).up (bE.trans bt);have Jc:=az j Cg;refine bZm bt.aL (vs:=[bJ,q]) (by simp[b4]) (λpm' bS=>sF al.toOb bS f1.of Om.of (sC U) (Jc.ca (bH aS (by decide)))) ?_;rintro bG cV cd f2;have cB:=(K.trans bt cd).res g3;simp;have xY:sz (rd c.v*x j) 30000:=ff (la (jf (k:=10000) U (by decide)) Jc) (by omega);refine bZm cd.aL (vs:=[u,bG]) (by simp[cB]) (λpm' bS=>v8 al.toOb bS ((((hu.up aQ).up bE).up bt).up cd).of f2.of ((gb k).ca (by decide)) (xY.ca (by decide))) ?_;rintro cO ep cv f3;have dh:=(K.trans (K.trans bt cd) cv).res g3;have ui:l.take (k+1)=l.take k++[c]:=by rw[List.take_add_one,cK];rfl
  have pd:c1 ep cO (ix (l.take (k+1)) x):=by rw[ui,Yc,zA];exact f3
  simp[dh,dx,dm,bO,xS,eJ,ez,qs];exact⟨aI.trans (aQ.trans (bE.trans (bt.trans (cd.trans cv)))),pd⟩
 ·rintro u aJ ⟨aI,hu⟩;rw[bXG]at hu;simp;exact⟨aI,hu⟩
def bD.col(lp:bD)(i:Nat):eu:=lp.aj.getD i ⟨[],[],[],[],false⟩
def bs(f:Nat->Rat):Nat->Rat
 | 0=>0
 | n+1=>bs f n+f n
theorem Ch{f:Nat->Rat}{t:Nat}:∀{n:Nat},(∀i,i<n->sz (f i) t)->sz (bs f n) (n*(t+1)+1)
 | 0,_=>uh (by simp)
 | n+1,h=>by
   refine ff (zz (Ch λi ad=>h i (by omega)) (h n (by omega))) ?_;rw[bZz];omega
def bD.nh(lp:bD)(x:Nat->Rat):Rat:=bs (λi=>rd (lp.col i).cost*x i) lp.aj.length
theorem bD.zB{lp:bD}{i:Nat}{c:eu}(h:lp.aj[i]? = some c):lp.col i=c:=by simp[bD.col,List.getD,h]
theorem On{c:eu}(h:nf c=true):isNum c.cost=true:=by simp[nf]at h;exact h.1
theorem Ci{lp:bD}(h:lp.dP=true){c:eu}(af:c∈lp.aj):nf c=true:=by simp[bD.dP]at h;exact h.2.1 c af
theorem zC{lp:bD}(h:lp.dP=true){r:di}(an:r∈lp.rows):k8 r lp.aj.length=true:=by simp[bD.dP]at h;exact h.2.2 r an
theorem Jd{xs:List (List UInt8)}(h:∀s∈xs,s.length<=10000)(i:Nat):sz (e1 xs i) 10000:=by
 unfold e1;rw[ob]
 cases e:xs[i]? with
 | none=>exact jf (by simp) (by decide)
 | some s=>exact jf (h s (fR e)) (by decide)
theorem Ye(al:hC X)(g:cl pm H){v w:Value}{lp:bD}{x:Nat->Rat}{t:Nat}(aw:ps H v lp)(au:lp.ok)(hm:lp.dP=true)(hw:mx H w lp.aj.length x)(aS:t<=20000)(az:∀i,i<lp.aj.length->sz (x i) t):
 Call X pm F.t' [v,w] H λr H'=>K pm H H'/\c1 H' r (lp.nh x)/\sz (lp.nh x) 700000:=by
 refine Call.mu al.t' rfl ?_;obtain⟨v1,v2,rfl,af,an⟩:=aw;obtain⟨base,cap,rfl,eU⟩:=af.at;obtain⟨dG,dE,rfl,xU⟩:=hw.ex;have aO:=au.c;have xY:∀i,i<lp.aj.length->sz (rd (lp.col i).cost*x i) 30000:=λi ad=>by
  have Cg:lp.aj[i]? = some (lp.col i):=by rw[bD.col,ob,hG ad];rfl
  exact ff (la (jf (k:=10000) (au.cs _ (fR Cg)).2.2 (by decide)) (az i ad)) (by omega)
 have gb:∀k,k<=lp.aj.length->sz (bs (λi=>rd (lp.col i).cost*x i) k) 700000:=λk ag=>
  ff (Ch λi ad=>xY i (by omega)) (by omega)
 obtain⟨H1,cw⟩:=bZa (H.new (.cells [.slice base lp.aj.length cap,v2] (.t T.Yf)));have av:=bZi g cw;have aK:H1.get H.next=some (.cells [.slice base lp.aj.length cap,v2] (.t T.Yf)):=by rw[cw];exact dT
 obtain⟨b,ai⟩:=bZa (H.next);rw[<-ai]at aK;simp[g.pick,g.make,ptr,<-cw,<-ai,-Oo,-Je,-gF];refine aR.bZb (vs:=[.int .i64 0]) (sE al.toOb av.aL (n:=0) (by omega) (by omega)) ?_;rintro jW aJ ⟨aI,jR⟩;simp[aI.some av.aL aK,-Je,-Oq,-gF]
 refine gG (σ:=Value) lp.aj.length (λk u=>[(1,.slice dG lp.aj.length dE),(5,u),(10,.slice base lp.aj.length cap)])
  (λk u H'=>K pm H H'/\c1 H' u (bs (λi=>rd (lp.col i).cost*x i) k)) jW (by decide) (by omega) (by simp) ⟨av.trans aI,by simpa [bs]using jR⟩ (by simp) ?_ ?_
 ·rintro k u bN ag ⟨aQ,hu⟩;obtain⟨b,off,y,row,cs,rfl,e2,bd,b1,c,cK,rfl⟩:=eU k ag;obtain⟨b9,xV,iL,xW,q,rfl,f2,f3,f4,f5⟩:=xU k ag;have lb:=fR cK;have uj:=On (Ci hm lb);have d':=(au.cs c lb).2.2;have g3:=aQ.aL;have gW:=aQ.some g e2;have xX:=aQ.some g f2;obtain⟨nm,lo,up,co,it⟩:=c;simp only at d' uj;obtain⟨cp,nZ⟩:=bZa ((bN.new (.cells [.string ⟨#[]⟩,.string ⟨#[]⟩,.string ⟨#[]⟩,.string ⟨#[]⟩,.bool false] (.t T.Ot))).put bN.next (.cells [aW nm,aW lo,aW up,aW co,.bool it] (.t T.Ot)));have bt:K pm bN cp:=by rw[nZ];exact mv g3 _ _ (by simp)
  have mw:cp.get bN.next=some (.cells [aW nm,aW lo,aW up,aW co,.bool it] (.t T.Ot)):=by rw[nZ];exact dX
  have g4:=bt.aL;have v7:=bt.some g3 xX;simp[ag,gW,bd,b1,eu.cells,g3.pick,g3.make,g3.may (bR _),ptr,c5,<-nZ];refine eg.of g4.lo rfl ?_;have bE:K pm cp (cp.up 11):=(K.refl g4).up 11;have bO:=g4.lt mw;have xS:=g4.lt v7;simp[dt,g4.none,g4.fo,mw,ag,v7,f3,f4];refine bZk bE.aL (vs:=[aW co]) (by simp[g4.none]) (λpm' bS=>sB al bS (by omega) uj) ?_;rintro bJ cV cd f1;have b4:=cd.res g4;simp;have Om:c1 cV q (x k):=((f5.ext (aQ.ext g)).up bt).up (bE.trans cd);have Jc:=az k ag;refine bZm cd.aL (vs:=[bJ,q]) (by simp[b4]) (λpm' bS=>sF al.toOb bS f1.of Om.of (sC d') (Jc.ca (bH aS (by decide)))) ?_;rintro bG ep cv f2;have cB:=(K.trans cd cv).res g4;simp;have lZ:=bD.zB cK;have eb:=xY k ag;rw[lZ]at eb;refine bZm cv.aL (vs:=[u,bG]) (by simp[cB]) (λpm' bS=>v8 al.toOb bS ((((hu.up bt).up bE).up cd).up cv).of f2.of ((gb k (by omega)).ca (by decide)) (eb.ca (by decide))) ?_;rintro cO hM dJ f3;have dh:=(K.trans (K.trans cd cv) dJ).res g4;simp[dh,dx,dm,bO,xS,eJ,ez,qs];refine⟨aQ.trans (bt.trans (bE.trans (cd.trans (cv.trans dJ)))),?_⟩;simp only[bs,lZ];exact f3
 ·rintro u aJ ⟨aI,hu⟩;simp;exact⟨aI,hu,gb _ (bR _)⟩
def h5(lp:bD)(xs:List (List UInt8))(m:Nat):Bool:=xs.all isNum&&(decide (xs.length=m)&&lp.dP)
def kN(lp:bD)(xs:List (List UInt8)):Option Rat:=if h5 lp xs lp.aj.length=true then some (lp.nh (e1 xs)) else none
def oK:Option Rat->Value
 | some q=>.tuple #[aW (dB q),.bool true]
 | none=>.tuple #[aW [],.bool false]
structure qy(xs:List (List UInt8)):Prop where
 len:xs.length<1000000
 all:∀s∈xs,s.length<=10000
theorem qy.lt{xs:List (List UInt8)}(h:qy xs):∀s∈xs,s.length<1000000:=λs aG=>eD (h.all s aG) (by decide)
theorem Yg(al:hC X)(g:cl pm H){v w:Value}{lp:bD}{xs:List (List UInt8)}(aw:ps H v lp)(au:lp.ok)(hw:kh H w xs)(aG:qy xs):
 Call X pm F.ua [v,w] H λr H'=>K pm H H'/\r=oK (kN lp xs):=by
 refine Call.mu al.ua rfl ?_;have iy:=aw;obtain⟨v1,v2,rfl,af,an⟩:=aw;obtain⟨base,cap,rfl,eU⟩:=af.at;obtain⟨H1,cw⟩:=bZa (H.new (.cells [.slice base lp.aj.length cap,v2] (.t T.Yh)));have av:=bZi g cw;have aK:H1.get H.next=some (.cells [.slice base lp.aj.length cap,v2] (.t T.Yh)):=by rw[cw];exact dT
 obtain⟨b,ai⟩:=bZa (H.next);rw[<-ai]at aK;simp[g.pick,g.make,ptr,<-cw,<-ai,aK,-Ou,-gF];refine aR.bZb (vs:=[w,.int .i64 (lp.aj.length:Int)]) (Jf al av.aL (hw.ext (av.ext g)) aG.len aG.lt) ?_;rintro _ aJ ⟨aI,⟨h,rfl⟩ | ⟨h,u,rfl,hu⟩⟩
 ·simp[zWb];refine aR.not (by simp) ?_;simp[zWb];exact⟨av.trans aI,by simp[kN,h5,h,oK]⟩
 have eA:=aI.some av.aL aK;have e0:=av.trans aI;by_cases hlen:xs.length=lp.aj.length
 ·simp[hlen,eA,cX,c5,-Ov];refine aR.bZb (vs:=[.agg #[.slice base lp.aj.length cap,v2]]) (Fi al aI.aL (iy.ext (e0.ext g)) au) ?_;rintro _ bN ⟨aQ,rfl⟩;have h0:=e0.trans aQ;have jU:=aQ.some aI.aL eA;cases hm:lp.dP
  ·simp;exact⟨h0,by simp[kN,h5,hm,oK]⟩
  ·rw[hlen]at hu;simp[jU,cX,c5];refine aR.bZb (vs:=[.agg #[.slice base lp.aj.length cap,v2],u]) (Ye al aQ.aL (iy.ext (h0.ext g)) au hm (hu.ext (aQ.ext aI.aL)) (t:=10000) (by decide) λi _=>Jd aG.all i) ?_;rintro p cp ⟨bt,aC,bl⟩;simp;refine aR.bZb (vs:=[p]) (Cj al.toOb bt.aL aC.of (bl.ca (by decide))) ?_;rintro _ _ ⟨rfl,rfl⟩;simp;exact⟨h0.trans bt,by simp[kN,h5,hm,h,hlen,oK]⟩
 ·have:¬((xs.length:Int)=(lp.aj.length:Int)):=by omega
  simp[this,zWb];refine aR.not (by simp) ?_;simp[zWb];exact⟨e0,by simp[kN,h5,hlen,oK]⟩
theorem Ow{pm:Perm}{c:Nat}:∀{l:List Value},(∀a,.pointer (some a)∈l->a.block≠c)->gp (gI pm l) [c]=true
 | [],_=>rfl
 | v::l,h=>by
   have ih:=Ow (pm:=pm) (c:=c) (l:=l) λa aN=>h a (.tail _ aN)
   cases v with
   | pointer o=>
     cases o with
     | none=>exact ih
     | some a=>
       simp only[gI]
       cases pm.may a.block with
       | false=>exact ih
       | true=>
         simp only[cond_true,gp,bYm,cG];exact⟨by simp[h a (.head _)],ih⟩
   | _=>exact ih
theorem c1.ne{p:Value}{q:Rat}(h:c1 H p q){c:Nat}{cs:List Value}{z:dI}(bu:H.get c=some (.cells cs z)):∀a,p=.pointer (some a)->a.block≠c:=by
 obtain⟨b,rfl,ai⟩:=h;rintro a e rfl;cases e;rw[bu]at ai;cases ai
theorem qz{p q:Value}{x y:Rat}(U:c1 H p x)(aa:c1 H q y){c:Nat}{cs:List Value}{z:dI}(bu:H.get c=some (.cells cs z))(m:Perm):gp (gI m [p,q]) [c]=true:=Ow λa aN=>by
 rcases lD.1 aN with e | aN
 ·exact U.ne bu a e.symm
 ·rcases lD.1 aN with e | aN
  ·exact aa.ne bu a e.symm
  ·cases aN
theorem rA{p:Value}{x:Rat}(U:c1 H p x){c:Nat}{cs:List Value}{z:dI}(bu:H.get c=some (.cells cs z))(m:Perm):gp (gI m [p]) [c]=true:=Ow λa aN=>by
 rcases lD.1 aN with e | aN
 ·exact U.ne bu a e.symm
 ·cases aN
theorem Fk{n:Nat}:∀{l:List fb} {last:Int},jE n last l=true->(∀c∈l,isNum c.v=true/\last<c.col/\c.col<n)/\(l≠[]->(l.length:Int)+last<n)
 | [],_,_=>⟨by simp,by simp⟩
 | c::l,last,h=>by
   simp only[jE,cG,eh]at h;obtain⟨U,_,aq,a8,cg⟩:=h;obtain⟨i1,i2⟩:=Fk cg;refine⟨λd aB=>?_,λ_=>?_⟩
   ·rcases lD.1 aB with rfl | aB
    ·exact⟨U,aq,a8⟩
    ·obtain⟨a,b,c⟩:=i1 d aB;exact⟨a,by omega,c⟩
   ·by_cases e:l=[]
    ·subst e;simp;omega
    ·have:=i2 e;simp only[bZt];omega
theorem Ck{r:di}{n:Nat}(h:k8 r n=true)(au:r.ok)(aF:n<=20):Ol r.cM n/\isNum r.rhs=true/\1<=r.kind/\r.kind<=3:=by
 simp only[k8,cG,eh]at h;obtain⟨U,aa,_,a8,cg⟩:=h;obtain⟨i1,i2⟩:=Fk U;refine⟨⟨?_,λc af=>?_⟩,aa,a8,cg⟩
 ·by_cases e:r.cM=[]
  ·simp[e]
  ·have:=i2 e;omega
 ·obtain⟨a,b,ek⟩:=i1 c af;exact⟨au.2.2 c af,a,by omega,ek⟩
theorem Yi{l:List fb}{x:Nat->Rat}{t n:Nat}(au:Ol l n)(aS:t<=20000)(az:∀i,i<n->sz (x i) t):sz (ix l x) 31000000:=by
 refine ff (Ok (t:=t) λc af=>?_) ?_
 ·obtain⟨U,_,aq,a8⟩:=au.all c af;exact⟨U,az _ (by omega)⟩
 ·have aa:t+10001<=30001:=by omega
  exact bH (bXj (bH (ie au.len aa) (by decide:1000*30001<=30001000))) (by decide)
def sG(c:eu)(q:Rat):Bool:=!((!c.low.isEmpty&&decide (q<rd c.low))||(!c.up.isEmpty&&decide (rd c.up<q)))
def xZ(lp:bD)(x:Nat->Rat):Nat->Bool
 | 0=>true
 | k+1=>xZ lp x k&&sG (lp.col k) (x k)
def zD(x:Nat->Rat)(r:di):Bool:=ug r.kind (kL (ix r.cM x) (rd r.rhs))
def Fl(lp:bD)(x:Nat->Rat):Bool:=xZ lp x lp.aj.length&&lp.rows.all (zD x)
theorem Ox{lp:bD}{x:Nat->Rat}:∀{k:Nat},xZ lp x k=true↔∀i,i<k->sG (lp.col i) (x i)=true
 | 0=>by simp[xZ]
 | k+1=>by
   rw[xZ,cG,Ox];constructor
   ·rintro⟨U,aa⟩ i ad;by_cases e:i=k
    ·exact e▸aa
    ·exact U i (by omega)
   ·intro h;exact⟨λi ad=>h i (by omega),h k (by omega)⟩
theorem axt(al:hC X)(g:cl pm H){r:di}{vc u:Value}{x:Nat->Rat}{t b:Nat}{z:dI}(an:r.ok)(aF:n<=20)(dC:k8 r n=true)(af:nX H vc r.cM)(hu:mx H u n x)(ai:H.get b=some (.cells [u] z))(aS:t<=20000)(az:∀i,i<n->sz (x i) t):
 Call X pm F.sw [.agg (r.cells vc).toArray,.pointer (some ⟨b,0,none⟩)] H λq H'=>K pm H H'/\q=.bool (!zD x r):=by
 refine Call.mu al.sw rfl ?_;obtain⟨U,aa,aq,a8⟩:=Ck dC an aF;have oL:=Yi U aS az;have ld:=an.1;obtain⟨H1,cw⟩:=bZa (H.new (.cells (r.cells vc) (.t T.Yj)));have av:=bZi g cw;have aK:H1.get H.next=some (.cells (r.cells vc) (.t T.Yj)):=by rw[cw];exact dT
 obtain⟨d,aB⟩:=bZa (H.next);rw[<-aB]at aK;have g1:=av.aL;have gN:=av.some g ai;simp[g.pick,g.make,ptr,<-cw,<-aB,-gF];refine eg.of g1.lo rfl ?_;have bE:K pm H1 (H1.up 13):=(K.refl g1).up 13;have bO:=g1.lt aK;have xS:=g1.lt gN;obtain⟨nm,p5,qw,Cd,rg⟩:=r;simp only at ld aa aq a8 oL U;simp[dt,g1.none,g1.fo,aK,gN,di.cells];refine bZk bE.aL (vs:=[vc,u]) (by simp[g1.none]) (λpm' bS=>Yd al bS (af.ext ((av.trans bE).ext g)) (hu.ext ((av.trans bE).ext g)) U aS az) ?_;rintro bJ aJ aI f1;have b4:=aI.res g1;simp;refine bZk aI.aL (vs:=[aW Cd]) (by simp[b4]) (λpm' bS=>sB al bS (by omega) aa) ?_;rintro bG bN aQ f2;have cB:=(K.trans aI aQ).res g1;simp;have uk:=f1.up aQ;refine bZk aQ.aL (vs:=[bJ,bG]) (by simp[cB]) (λpm' bS=>kM bS (ud al.toOb bS uk.of f2.of (oL.ca (by decide)) (sC ld))) ?_;rintro _ _ bt ⟨rfl,rfl⟩;simp;refine bZm aQ.aL (vs:=[.int .i64 p5,.int .i64 (kL (ix qw x) (rd Cd))]) (by simp[cB]) (λpm' bS=>kM bS (Yb al)) ?_;rintro _ _ cd ⟨rfl,rfl⟩;have Cl:=(bE.trans (K.trans aI aQ)).some g1 aK;have kd:=λm=>qz uk f2 Cl m;have Oy:=af;obtain⟨cW,fH,rfl,_⟩:=af.at;obtain⟨Oz,OA,rfl,_⟩:=hu.ex;have aC:∀m,gI m [.slice cW qw.length fH,.slice Oz n OA]=[]:=λm=>rfl;simp[cB,dx,dm,bO,xS,eJ,ez,qs,kd,aC,zD];exact bE.trans (K.trans aI aQ) |> av.trans
theorem Yk(c:eu)(h:nf c=true):(c.low.isEmpty=false->isNum c.low=true)/\(c.up.isEmpty=false->isNum c.up=true):=by
 simp[nf]at h;constructor
 ·intro e
  rcases h.2.1 with U | U
  ·simp[U]at e
  ·exact U
 ·intro e
  rcases h.2.2.1 with U | U
  ·simp[U]at e
  ·exact U
theorem axu(al:hC X)(ea:K pm H0 H){c:eu}(dC:nf c=true)(dM:c.ok){b d:Nat}{z z2:dI}{base:Option Addr}{cap k:Nat}{x:Nat->Rat}(ai:H.get b=some (.cells c.cells z))(aB:H.get d=some (.cells [.slice base n cap] z2))(hu:mx H (.slice base n cap) n x)(ag:k<n)(az:ca (x k)=true)
 {L:bQ} (lf:a7 5 L=some (.pointer (some ⟨d,0,none⟩))) (dO:a7 7 L=some (.int .i64 (k:Int))) (e3:a7 8 L=some (.pointer (some ⟨b,0,none⟩))) {Q:c'}
 (fin:∀l' H',K pm H0 H'->K pm H H'->a7 61 l'=some (.bool (!sG c (x k)))->(∀j,j<32->a7 j l'=a7 j L)->wp X pm (.code jX) l' H' [] Q):wp X pm (.code Jg) L H [] Q:=by
 have g:=ea.aL;obtain⟨nm,lo,up,co,it⟩:=c;obtain⟨U,aa,aq⟩:=dM;obtain⟨n1,fU⟩:=Yk _ dC;simp only at U aa aq n1 fU;obtain⟨aGh,dN,e,eU⟩:=hu.ex;cases e;obtain⟨b9,xV,iL,xW,q,rfl,f2,f3,f4,f5⟩:=eU k ag;have bE:K pm H (H.up 30):=(K.refl g).up 30;have iM:=g.lt ai;have Cm:=g.lt aB;have cJ:=g.lt f2;simp[-jX];refine eg.of g.lo rfl ?_;cases cY:lo.isEmpty
 ·have n1:=n1 cY;simp[dt,g.none,g.fo,ai,aB,eu.cells,lf,dO,e3,gi,cY,ag,f2,f3,f4,-jX];refine bZk bE.aL (vs:=[aW lo]) (by simp[g.none]) (λpm' bS=>sB al bS (by omega) n1) ?_;rintro bJ H1 av f1;have b4:=av.res g;have bn:=(f5.up bE).up av;simp[-jX];refine bZm av.aL (vs:=[q,bJ]) (by simp[b4]) (λpm' bS=>kM bS (ud al.toOb bS bn.of f1.of az (sC U))) ?_;rintro _ _ aI ⟨rfl,rfl⟩;have tN:=bE.trans av;have gN:=tN.some g ai;have gQ:=tN.some g aB;have sn:=tN.some g f2;by_cases kH:x k<rd lo
  ·simp[b4,rz,kH,zWb,-jX];refine g'.not (by simp[b4]) (by simp) ?_;simp[zWb,-jX];refine g'.not (by simp[b4]) (by simp) ?_;simp[b4,zWb,dx,dm,iM,Cm,cJ,eJ,ez,qs,-jX];refine fin _ _ (ea.trans tN) tN (by simp[sG,cY,kH]) λj aH=>?_;simp[show ∀i,32<=i->j≠i from λi ad=>by omega]
  ·cases ao:up.isEmpty
   ·have fU:=fU ao;simp[b4,rz,kH, eu.cells,gN,gQ,ag,sn,f3,f4,gi,ao,lf,dO,e3,-jX];refine bZk av.aL (vs:=[aW up]) (by simp[b4]) (λpm' bS=>sB al bS (by omega) fU) ?_;rintro cO bN aQ v7;have dh:=(K.trans av aQ).res g;simp[-jX];refine bZm aQ.aL (vs:=[q,cO]) (by simp[dh]) (λpm' bS=>kM bS (ud al.toOb bS (bn.up aQ).of v7.of az (sC aa))) ?_;rintro _ _ bt ⟨rfl,rfl⟩;simp[dh, xT,dx,dm,iM,Cm,cJ,eJ,ez,qs,-jX];refine fin _ _ (ea.trans (tN.trans aQ)) (tN.trans aQ) (by simp[sG,cY,ao,kH]) λj aH=>?_;simp[show ∀i,32<=i->j≠i from λi ad=>by omega]
   ·simp[b4,rz,kH,zWb,eu.cells,gN,gi,ao,e3,-jX];refine g'.not (by simp[b4]) (by simp) ?_;simp[zWb,-jX];refine g'.not (by simp[b4]) (by simp) ?_;simp[b4,zWb,dx,dm,iM,Cm,cJ,eJ,ez,qs,-jX];refine fin _ _ (ea.trans tN) tN (by simp[sG,cY,ao,kH]) λj aH=>?_;simp[show ∀i,32<=i->j≠i from λi ad=>by omega]
 ·simp[dt,g.none,g.fo,ai, eu.cells,  e3,gi,cY,-jX];refine g'.not (by simp[g.none]) (by simp) ?_;simp[zWb,-jX];refine g'.not (by simp[g.none]) (by simp) ?_;cases ao:up.isEmpty
  ·have fU:=fU ao;simp[g.none,zWb,ai,aB,eu.cells,ag,f2,f3,f4,gi,ao,lf,dO,e3,-jX];refine bZk bE.aL (vs:=[aW up]) (by simp[g.none]) (λpm' bS=>sB al bS (by omega) fU) ?_;rintro cO bN aQ v7;have dh:=aQ.res g;simp[-jX];refine bZm aQ.aL (vs:=[q,cO]) (by simp[dh]) (λpm' bS=>kM bS (ud al.toOb bS ((f5.up bE).up aQ).of v7.of az (sC aa))) ?_;rintro _ _ bt ⟨rfl,rfl⟩;simp[dh, xT,dx,dm,iM,Cm,cJ,eJ,ez,qs,-jX];refine fin _ _ (ea.trans (bE.trans aQ)) (bE.trans aQ) (by simp[sG,cY,ao]) λj aH=>?_;simp[show ∀i,32<=i->j≠i from λi ad=>by omega]
  ·simp[g.none,zWb,ai,eu.cells,gi,ao,e3,-jX];refine g'.not (by simp[g.none]) (by simp) ?_;simp[zWb,-jX];refine g'.not (by simp[g.none]) (by simp) ?_;simp[g.none,zWb,dx,dm,iM,   ez, -jX];refine fin _ _ (ea.trans bE) bE (by simp[sG,cY,ao]) λj aH=>?_;simp[show ∀i,32<=i->j≠i from λi ad=>by omega]
def lg(lp:bD)(xs:List (List UInt8)):Bool:=h5 lp xs lp.aj.length&&Fl lp (e1 xs)
theorem bD.Cn{lp:bD}{i:Nat}(h:i<lp.aj.length):lp.aj[i]? = some (lp.col i):=by rw[bD.col,ob,hG h];rfl
theorem Yl{α:Type}{l:List α}{f:α->Bool}:((!l.all f)=true)↔∃i,i<l.length/\(!((l[i]?.map f).getD true))=true:=by
 rw[mN,bXi,Ne,hz];constructor
 ·intro h;simp only[Classical.not_forall]at h;obtain⟨c,af,aF⟩:=h;obtain⟨i,ad⟩:=bWf af;exact⟨i,(nD.1 ad).1,by simp[ad,aF]⟩
 ·rintro⟨i,ad,aV⟩ h;have:=h l[i] (bXH ad);simp[hG ad,this]at aV
theorem Ym(al:hC X)(g:cl pm H){v w:Value}{lp:bD}{xs:List (List UInt8)}(aw:ps H v lp)(au:lp.ok)(hw:kh H w xs)(aG:qy xs):
 Call X pm F.tZ [v,w] H λr H'=>K pm H H'/\r=.bool (lg lp xs):=by
 refine Call.mu al.tZ rfl ?_;have iy:=aw;obtain⟨v1,v2,rfl,af,an⟩:=aw;obtain⟨base,cap,rfl,eU⟩:=af.at;obtain⟨dG,dE,rfl,xU⟩:=an.at;have aF:=au.c;have oj:=au.r;obtain⟨H1,cw⟩:=bZa (H.new (.cells [.slice base lp.aj.length cap,.slice dG lp.rows.length dE] (.t T.OB)));have av:=bZi g cw;have aK:H1.get H.next=some (.cells [.slice base lp.aj.length cap,.slice dG lp.rows.length dE] (.t T.OB)):=by rw[cw];exact dT
 obtain⟨b,ai⟩:=bZa (H.next);rw[<-ai]at aK;simp[g.pick,g.make,ptr,<-cw,<-ai,aK,-OC,-gF];refine aR.bZb (vs:=[w,.int .i64 (lp.aj.length:Int)]) (Jf al av.aL (hw.ext (av.ext g)) aG.len aG.lt) ?_;have alloc:∀{aJ:ah} (u:Value),K pm H1 aJ->∃bN,bN=(aJ.new (.cells [.slice none 0 0] (.t T.Fm))).put aJ.next (.cells [u] (.t T.Fm))/\K pm H bN/\bN.get b=some (.cells [.slice base lp.aj.length cap,.slice dG lp.rows.length dE] (.t T.OB))/\bN.get aJ.next=some (.cells [u] (.t T.Fm))/\K pm aJ bN:=λ{aJ} u aI=>by
  have jV:=mv aI.aL (.cells [.slice none 0 0] (.t T.Fm)) (.cells [u] (.t T.Fm)) (by simp);exact⟨_,rfl,av.trans (aI.trans jV),(aI.trans jV).some av.aL aK,dX,jV⟩
 rintro _ aJ ⟨aI,⟨h,rfl⟩ | ⟨h,u,rfl,hu⟩⟩
 ·obtain⟨bN,bd,aQ,g3,d3,my⟩:=alloc (.slice none 0 0) aI;simp[zWb,aI.aL.pick,aI.aL.make,ptr,aI.aL.may (bR _),<-bd];refine aR.not (by simp) ?_;simp[zWb];exact⟨aQ,by simp[lg,h5,h]⟩
 obtain⟨Co,Cp,rfl,_⟩:=id hu.ex;obtain⟨bN,bd,aQ,g3,d3,my⟩:=alloc (.slice Co xs.length Cp) aI;simp[zWb,aI.aL.pick,aI.aL.make,ptr,aI.aL.may (bR _),<-bd,-Jh];by_cases hlen:xs.length=lp.aj.length
 ·have aV:((xs.length:Int)=(lp.aj.length:Int)):=by omega
  simp[aV,g3,cX,c5,-Jh];refine aR.of (vs:=[.agg #[.slice base lp.aj.length cap,.slice dG lp.rows.length dE]]) (by simp[hlen]) (by simp) (Fi al aQ.aL (iy.ext (aQ.ext g)) au) ?_;rintro _ cp ⟨bt,rfl⟩;have mz:=aQ.trans bt;cases hm:lp.dP
  ·simp[hlen];exact⟨mz,by simp[lg,h5,hm]⟩
  ·have x0:=(hu.ext (my.ext aI.aL)).ext (bt.ext aQ.aL);rw[hlen]at x0 d3;have g4:=bt.some aQ.aL g3;have d4:=bt.some aQ.aL d3;have rl:∀i,i<lp.aj.length->sz (e1 xs i) 10000:=λi _=>Jd aG.all i;have dM:h5 lp xs lp.aj.length=true:=by simp[h5,h,hlen,hm]
   simp[hlen,g4,-Cq,-OD]
   refine gG (σ:=Unit) lp.aj.length (λk _=>[(2,.pointer (some ⟨b,0,none⟩)),(5,.pointer (some ⟨aJ.next,0,none⟩)),(25,.slice base lp.aj.length cap)])
    (λk _ H'=>K pm H H'/\K pm cp H'/\xZ lp (e1 xs) k=true) () (by decide) (by omega) (by simp) ⟨mz,K.refl mz.aL,rfl⟩ (by simp) ?_ ?_
   ·rintro k _ cV ag ⟨cd,ki,hW⟩;obtain⟨b',off,y,row,cs,rfl,e2,bd,b1,c,cK,rfl⟩:=eU k ag;have lb:=fR cK;have gW:=cd.some g e2;have g5:=cd.aL;obtain⟨ep,mA⟩:=bZa ((cV.new (.cells [.string ⟨#[]⟩,.string ⟨#[]⟩,.string ⟨#[]⟩,.string ⟨#[]⟩,.bool false] (.t T.OE))).put cV.next (.cells [aW c.name,aW c.low,aW c.up,aW c.cost,.bool c.int] (.t T.OE)));have cv:K pm cV ep:=by rw[mA];exact mv g5 _ _ (by simp)
    have qA:ep.get cV.next=some (.cells c.cells (.t T.OE)):=by rw[mA];exact dX
    simp[ag,gW,bd,b1,g5.pick,g5.make,g5.may (bR _),ptr,c5,eu.cells,<-mA,-Jg,-Cq];refine axu al (cd.trans cv) (Ci hm lb) (au.cs c lb) (k:=k) (x:=e1 xs) qA ((ki.trans cv).some bt.aL d4) (x0.ext ((ki.trans cv).ext bt.aL)) ag ((rl k ag).ca (by decide)) (by simp) (by simp) (by simp) ?_;intro l' hM dJ axv axw lS;have lZ:=bD.zB cK;simp[axw,-Cq];cases ad:sG c (e1 xs k)
    ·simp;refine⟨dJ,?_⟩;have:xZ lp (e1 xs) lp.aj.length=false:=by
      rw[bXi];intro h;have:=Ox.1 h k ag;rw[lZ,ad]at this;cases this
     simp[lg,Fl,this]
    ·simp[lS,-Cq];exact⟨dJ,(ki.trans cv).trans axv,by simp[xZ,hW,lZ,ad]⟩
   ·rintro _ cV ⟨cd,ki,hW⟩;simp[ki.some bt.aL g4];refine aR.bZb (vs:=[.slice dG lp.rows.length dE,.func (.func F.sw) #[] #[.pointer (some ⟨aJ.next,0,none⟩)]]) (Oh al cd.aL (an.ext (cd.ext g)) (by omega) (f:=F.sw) (cs:=#[.pointer (some ⟨aJ.next,0,none⟩)]) (λi=>!((lp.rows[i]?.map (zD (e1 xs))).getD true)) ?_ (t:=!lp.rows.all (zD (e1 xs))) Yl) ?_
    ·rintro i ep cs ad ⟨r,vc,U,rfl,k9⟩ cv;have lh:=fR U;simp only[U,bZs,bZy];exact axt al cv.aL (au.rs r lh) aF (zC hm lh) (k9.ext (cv.ext cd.aL)) (x0.ext ((ki.trans cv).ext bt.aL)) ((ki.trans cv).some bt.aL d4) (t:=10000) (by decide) rl
    rintro _ ep ⟨cv,rfl⟩;simp;exact⟨cd.trans cv,by simp[lg,Fl,dM,hW]⟩
 ·have:¬((xs.length:Int)=(lp.aj.length:Int)):=by omega
  simp[this,];refine aR.not (by simp) ?_;simp[zWb];exact⟨aQ,by simp[lg,h5,hlen]⟩
theorem um(q:Rat):(cT q<0)=(q<0):=by
 unfold cT;apply propext;by_cases h:q<0
 ·simp[h]
 ·by_cases aa:q=0<;>simp[h,aa]
theorem wa(q:Rat):(0<cT q)=(0<q):=by
 unfold cT;apply propext;by_cases h:q<0
 ·simp only[h,if_true];exact⟨λh=>by omega,λe=>absurd e (hA.2 (mO h))⟩
 ·by_cases aa:q=0
  ·subst aa;simp
  ·simp only[h,aa,if_false];exact⟨λ_=>Rat.lt_of_le_of_ne (hA.1 h) (Ne.symm aa),λ_=>by omega⟩
theorem lj(q:Rat):(cT q=0)=(q=0):=by
 unfold cT;apply propext;by_cases h:q<0
 ·simp only[h,if_true];exact⟨λh=>by omega,λe=>by subst e;exact absurd h bYo⟩
 ·by_cases aa:q=0<;>simp[h,aa]
def axx(lp:bD)(x:Nat->Rat):Nat->Bool
 | 0=>true
 | k+1=>axx lp x k&&(!(lp.col k).int||decide ((x k).den=1))
def qB(c:eu)(q:Rat):Bool:=!((!c.low.isEmpty&&decide (q<0))||(!c.up.isEmpty&&decide (0<q)))
def wb(lp:bD)(x:Nat->Rat):Nat->Bool
 | 0=>true
 | k+1=>wb lp x k&&qB (lp.col k) (x k)
theorem OF{lp:bD}{x:Nat->Rat}:∀{k:Nat},wb lp x k=true↔∀i,i<k->qB (lp.col i) (x i)=true
 | 0=>by simp[wb]
 | k+1=>by
   rw[wb,cG,OF];constructor
   ·rintro⟨U,aa⟩ i ad;by_cases e:i=k
    ·exact e▸aa
    ·exact U i (by omega)
   ·intro h;exact⟨λi ad=>h i (by omega),h k (by omega)⟩
def x1(x:Nat->Rat)(r:di):Bool:=ug r.kind (cT (ix r.cM x))
def Cr(lp:bD)(x:Nat->Rat):Bool:=wb lp x lp.aj.length&&(lp.rows.all (x1 x)&&decide (lp.nh x<0))
def pw(lp:bD)(xs:List (List UInt8)):Bool:=h5 lp xs lp.aj.length&&Cr lp (e1 xs)
theorem axy(al:hC X)(g:cl pm H){r:di}{vc u:Value}{x:Nat->Rat}{t b:Nat}{z:dI}(an:r.ok)(aF:n<=20)(dC:k8 r n=true)(af:nX H vc r.cM)(hu:mx H u n x)(ai:H.get b=some (.cells [u] z))(aS:t<=20000)(az:∀i,i<n->sz (x i) t):
 Call X pm F.sx [.agg (r.cells vc).toArray,.pointer (some ⟨b,0,none⟩)] H λq H'=>K pm H H'/\q=.bool (!x1 x r):=by
 refine Call.mu al.sx rfl ?_;obtain⟨U,aa,aq,a8⟩:=Ck dC an aF;have oL:=Yi U aS az;obtain⟨H1,cw⟩:=bZa (H.new (.cells (r.cells vc) (.t T.Yn)));have av:=bZi g cw;have aK:H1.get H.next=some (.cells (r.cells vc) (.t T.Yn)):=by rw[cw];exact dT
 obtain⟨d,aB⟩:=bZa (H.next);rw[<-aB]at aK;have g1:=av.aL;have gN:=av.some g ai;simp[g.pick,g.make,ptr,<-cw,<-aB,-gF];refine eg.of g1.lo rfl ?_;have bE:K pm H1 (H1.up 10):=(K.refl g1).up 10;have bO:=g1.lt aK;have xS:=g1.lt gN;obtain⟨nm,p5,qw,Cd,rg⟩:=r;simp only at aa aq a8 oL U;simp[dt,g1.none,g1.fo,aK,gN,di.cells];refine bZk bE.aL (vs:=[vc,u]) (by simp[g1.none]) (λpm' bS=>Yd al bS (af.ext ((av.trans bE).ext g)) (hu.ext ((av.trans bE).ext g)) U aS az) ?_;rintro bJ aJ aI f1;have b4:=aI.res g1;simp;refine bZk aI.aL (vs:=[bJ]) (by simp[b4]) (λpm' bS=>kM bS (jF al.toOb bS f1.of (oL.ca (by decide)))) ?_;rintro _ _ bt ⟨rfl,rfl⟩;simp;refine bZm aI.aL (vs:=[.int .i64 p5,.int .i64 (cT (ix qw x))]) (by simp[b4]) (λpm' bS=>kM bS (Yb al)) ?_;rintro _ _ cd ⟨rfl,rfl⟩;have Cl:=(bE.trans aI).some g1 aK;have kd:=λm=>rA f1 Cl m;obtain⟨cW,fH,rfl,_⟩:=af.at;obtain⟨Oz,OA,rfl,_⟩:=hu.ex;have aC:∀m,gI m [.slice cW qw.length fH,.slice Oz n OA]=[]:=λm=>rfl;simp[b4,dx,dm,bO,xS,eJ,ez,kd,aC,x1];exact av.trans (bE.trans aI)
theorem axz(al:hC X)(g:cl pm H){v w:Value}{lp:bD}{xs:List (List UInt8)}(aw:ps H v lp)(au:lp.ok)(hw:kh H w xs)(aG:qy xs):
 Call X pm F.vU [v,w] H λr H'=>K pm H H'/\r=.bool (pw lp xs):=by
 refine Call.mu al.vU rfl ?_;have iy:=aw;obtain⟨v1,v2,rfl,af,an⟩:=aw;obtain⟨base,cap,rfl,eU⟩:=af.at;obtain⟨dG,dE,rfl,xU⟩:=an.at;have aF:=au.c;have oj:=au.r;obtain⟨H1,cw⟩:=bZa (H.new (.cells [.slice base lp.aj.length cap,.slice dG lp.rows.length dE] (.t T.OG)));have av:=bZi g cw;have aK:H1.get H.next=some (.cells [.slice base lp.aj.length cap,.slice dG lp.rows.length dE] (.t T.OG)):=by rw[cw];exact dT
 obtain⟨b,ai⟩:=bZa (H.next);rw[<-ai]at aK;simp[g.pick,g.make,ptr,<-cw,<-ai,aK,-OH,-gF];refine aR.bZb (vs:=[w,.int .i64 (lp.aj.length:Int)]) (Jf al av.aL (hw.ext (av.ext g)) aG.len aG.lt) ?_;have alloc:∀{aJ:ah} (u:Value),K pm H1 aJ->∃bN,bN=(aJ.new (.cells [.slice none 0 0] (.t T.Fo))).put aJ.next (.cells [u] (.t T.Fo))/\K pm H bN/\bN.get b=some (.cells [.slice base lp.aj.length cap,.slice dG lp.rows.length dE] (.t T.OG))/\bN.get aJ.next=some (.cells [u] (.t T.Fo))/\K pm aJ bN:=λ{aJ} u aI=>by
  have jV:=mv aI.aL (.cells [.slice none 0 0] (.t T.Fo)) (.cells [u] (.t T.Fo)) (by simp);exact⟨_,rfl,av.trans (aI.trans jV),(aI.trans jV).some av.aL aK,dX,jV⟩
 rintro _ aJ ⟨aI,⟨h,rfl⟩ | ⟨h,u,rfl,hu⟩⟩
 ·obtain⟨bN,OI,aQ,g3,d3,my⟩:=alloc (.slice none 0 0) aI;simp[zWb,aI.aL.pick,aI.aL.make,ptr,aI.aL.may (bR _),<-OI];refine aR.not (by simp) ?_;simp[zWb];exact⟨aQ,by simp[pw,h5,h]⟩
 obtain⟨Co,Cp,rfl,_⟩:=id hu.ex;obtain⟨bN,OI,aQ,g3,d3,my⟩:=alloc (.slice Co xs.length Cp) aI;simp[zWb,aI.aL.pick,aI.aL.make,ptr,aI.aL.may (bR _),<-OI,-Ji];by_cases hlen:xs.length=lp.aj.length
 ·have aV:((xs.length:Int)=(lp.aj.length:Int)):=by omega
  simp[aV,g3,cX,c5,-Ji];refine aR.of (vs:=[.agg #[.slice base lp.aj.length cap,.slice dG lp.rows.length dE]]) (by simp[hlen]) (by simp) (Fi al aQ.aL (iy.ext (aQ.ext g)) au) ?_;rintro _ cp ⟨bt,rfl⟩;have mz:=aQ.trans bt;cases hm:lp.dP
  ·simp[hlen];exact⟨mz,by simp[pw,h5,hm]⟩
  ·have x0:=(hu.ext (my.ext aI.aL)).ext (bt.ext aQ.aL);rw[hlen]at x0 d3;obtain⟨_,_,e,axA⟩:=id x0.ex;cases e;have g4:=bt.some aQ.aL g3;have d4:=bt.some aQ.aL d3;have rl:∀i,i<lp.aj.length->sz (e1 xs i) 10000:=λi _=>Jd aG.all i;have dM:h5 lp xs lp.aj.length=true:=by simp[h5,h,hlen,hm]
   simp[hlen,g4,-qC,-OJ]
   refine gG (σ:=Unit) lp.aj.length (λk _=>[(2,.pointer (some ⟨b,0,none⟩)),(5,.pointer (some ⟨aJ.next,0,none⟩)),(26,.slice base lp.aj.length cap)])
    (λk _ H'=>K pm H H'/\K pm cp H'/\wb lp (e1 xs) k=true) () (by decide) (by omega) (by simp) ⟨mz,K.refl mz.aL,rfl⟩ (by simp) ?_ ?_
   ·rintro k _ cV ag ⟨cd,ki,hW⟩;obtain⟨b',off,y,row,cs,rfl,e2,bd,b1,c,cK,rfl⟩:=eU k ag;obtain⟨b9,xV,iL,xW,q,rfl,f2,f3,f4,f5⟩:=axA k ag;have gW:=cd.some g e2;have g5:=cd.aL;obtain⟨ep,mA⟩:=bZa ((cV.new (.cells [.string ⟨#[]⟩,.string ⟨#[]⟩,.string ⟨#[]⟩,.string ⟨#[]⟩,.bool false] (.t T.OK))).put cV.next (.cells [aW c.name,aW c.low,aW c.up,aW c.cost,.bool c.int] (.t T.OK)));have cv:K pm cV ep:=by rw[mA];exact mv g5 _ _ (by simp)
    have qA:ep.get cV.next=some (.cells [aW c.name,aW c.low,aW c.up,aW c.cost,.bool c.int] (.t T.OK)):=by rw[mA];exact dX
    have lZ:=bD.zB cK;have zE:=ki.trans cv;have bc:=zE.some bt.aL f2;have d6:=zE.some bt.aL d4;have aV:=f5.up zE;have rB:=(rl k ag).ca (by decide:10000<=iP);have we:=cd.trans cv;have no:qB c (e1 xs k)=false->K pm H ep/\pw lp xs=false:=λad=>by
     have:wb lp (e1 xs) lp.aj.length=false:=by
      rw[bXi];intro h;have:=OF.1 h k ag;rw[lZ,ad]at this;cases this
     exact⟨we,by simp[pw,Cr,this]⟩
    have dz:qB c (e1 xs k)=true->K pm H ep/\K pm cp ep/\wb lp (e1 xs) (k+1)=true:=λad=>⟨we,zE,by simp[wb,hW,lZ,ad]⟩;cases cY:c.low.isEmpty
    ·simp[ag,gW,bd,b1,g5.pick,g5.make,g5.may (bR _),ptr,c5,eu.cells,<-mA,qA,gi,cY,d6,bc,f3,f4,-qC];refine aR.bZb (vs:=[q]) (jF al.toOb cv.aL aV.of rB) ?_;rintro _ _ ⟨rfl,rfl⟩;by_cases kH:e1 xs k<0
     ·simp[um,kH,zWb];refine aR.not (by simp) ?_;simp[zWb];exact no (by simp[qB,cY,kH])
     ·cases ao:c.up.isEmpty
      ·simp[um,kH,qA,gi,ao,d6,ag,bc,f3,f4,-qC];refine aR.bZb (vs:=[q]) (jF al.toOb cv.aL aV.of rB) ?_;rintro _ _ ⟨rfl,rfl⟩;by_cases cy:0<e1 xs k
       ·simp[wa,cy,];exact no (by simp[qB,ao,cy])
       ·simp[wa,cy,-qC];exact dz (by simp[qB,kH,cy])
      ·simp[um,kH,qA,gi,ao,zWb,-qC];refine aR.not (by simp) ?_;simp[zWb,-qC];exact dz (by simp[qB,kH,ao])
    ·simp[ag,gW,bd,b1,g5.pick,g5.make,g5.may (bR _),ptr,c5,eu.cells,<-mA,qA,gi,cY,zWb,-qC];refine aR.not (by simp) ?_;cases ao:c.up.isEmpty
     ·simp[zWb,qA,gi,ao,d6,ag,bc,f3,f4,-qC];refine aR.bZb (vs:=[q]) (jF al.toOb cv.aL aV.of rB) ?_;rintro _ _ ⟨rfl,rfl⟩;by_cases cy:0<e1 xs k
      ·simp[wa,cy,];exact no (by simp[qB,ao,cy])
      ·simp[wa,cy,-qC];exact dz (by simp[qB,cY,cy])
     ·simp[qA,gi,ao,zWb,-qC];refine aR.not (by simp) ?_;simp[zWb,-qC];exact dz (by simp[qB,cY,ao])
   ·rintro _ cV ⟨cd,ki,hW⟩;have Yo:=ki.some bt.aL g4;have d5:=ki.some bt.aL d4;simp[Yo,-OL];refine aR.bZb (vs:=[.slice dG lp.rows.length dE,.func (.func F.sx) #[] #[.pointer (some ⟨aJ.next,0,none⟩)]]) (Oh al cd.aL (an.ext (cd.ext g)) (by omega) (f:=F.sx) (cs:=#[.pointer (some ⟨aJ.next,0,none⟩)]) (λi=>!((lp.rows[i]?.map (x1 (e1 xs))).getD true)) ?_ (t:=!lp.rows.all (x1 (e1 xs))) Yl) ?_
    ·rintro i ep cs ad ⟨r,vc,U,rfl,k9⟩ cv;have lh:=fR U;simp only[U,bZs,bZy];exact axy al cv.aL (au.rs r lh) aF (zC hm lh) (k9.ext (cv.ext cd.aL)) (x0.ext ((ki.trans cv).ext bt.aL)) ((ki.trans cv).some bt.aL d4) (t:=10000) (by decide) rl
    rintro _ ep ⟨cv,rfl⟩;have we:=cd.trans cv;cases kB:lp.rows.all (x1 (e1 xs))
    ·simp[zWb];refine aR.not (by simp) ?_;simp[zWb];refine aR.not (by simp) ?_;simp[zWb];exact⟨we,by simp[pw,Cr,kB]⟩
    ·simp[cv.some cd.aL Yo,cv.some cd.aL d5,cX,c5];refine aR.bZb (vs:=[.agg #[.slice base lp.aj.length cap,.slice dG lp.rows.length dE],.slice Co lp.aj.length Cp]) (Ye al cv.aL (iy.ext (we.ext g)) au hm (x0.ext ((ki.trans cv).ext bt.aL)) (t:=10000) (by decide) rl) ?_;rintro p hM ⟨dJ,aC,bl⟩;simp;refine aR.bZb (vs:=[p]) (jF al.toOb dJ.aL aC.of (bl.ca (by decide))) ?_;rintro _ _ ⟨rfl,rfl⟩;simp[um];exact⟨we.trans dJ,by simp[pw,Cr,dM,hW,kB]⟩
 ·have:¬((xs.length:Int)=(lp.aj.length:Int)):=by omega
  simp[this,];refine aR.not (by simp) ?_;simp[zWb];exact⟨aQ,by simp[pw,h5,hlen]⟩
theorem Call.h6{f:FuncId}{args:List Value}{R:Value->ah->Prop}{F:b2}(al:Has X f F)(aF:Nat.ble args.length F.lL=true)
 (h:∀Q:c',(∀x l H',vY F.res R x l H'->Q x l H')->wp X pm (.code F.body) (zx args 0 []) H [] Q):Call X pm f args H R:=Call.mu al aF (h _ λ_ _ _=>id)
theorem Jj:jD []=none:=by simp[jD,kK,oI,qu,je]
theorem axB(al:hC X)(g:cl pm H){l:List UInt8}(aO:l.length<1000000):Call X pm F.kJ [aW l] H λr H'=>K pm H H'/\qD H' r=some (rd l):=by
 refine Call.has al.kJ rfl ?_;simp;refine aR.bZb (B' al.toOb g aO) ?_;rintro r H1 ⟨av,h⟩
 rcases h with⟨e,rfl⟩ | ⟨q,p,e,rfl,aV⟩
 ·simp[rd,e,qD];exact av
 ·simp[rd,e];exact⟨av,aV.of⟩
def wg(c:eu)(d:Rat):Option Rat:=if d≠0/\(if d<0 then c.up else c.low).isEmpty=true then none else some (d*rd (if d<0 then c.up else c.low))
theorem axC(al:hC X)(g:cl pm H){c:eu}{w:Value}{d:Rat}{t:Nat}(dM:c.ok)(hw:c1 H w d)(aS:t<=30000000)(aB:sz d t):
 Call X pm F.vV [.agg c.cells.toArray,w] H λr H'=>K pm H H'/\(wg c d=none/\r=.tuple #[.pointer none,.bool false]∨∃q p,wg c d=some q/\r=.tuple #[p,.bool true]/\c1 H' p q/\sz q (t+10000)):=by
 refine Call.h6 al.vV rfl λQ bU=>?_;have rB:=aB.ca (bH aS (by decide));obtain⟨nm,lo,up,co,it⟩:=c;obtain⟨U,aa,aq⟩:=dM;simp only at U aa aq;obtain⟨H1,cw⟩:=bZa (H.new (.cells [aW nm,aW lo,aW up,aW co,.bool it] (.t T.Yp)));have av:=bZi g cw;have aK:H1.get H.next=some (.cells [aW nm,aW lo,aW up,aW co,.bool it] (.t T.Yp)):=by rw[cw];exact dT
 have eo:=hw.up av;simp[g.pick,g.make,ptr,eu.cells,<-cw,aK,-Cs,-OM];refine aR.bZb (vs:=[w]) (jF al.toOb av.aL eo.of rB) ?_;rintro _ H1 ⟨rfl,rfl⟩;have key:∀(b:List UInt8) (L:bQ),b.length<=10000->b=(if d<0 then up else lo)->a7 1 L=some w->a7 6 L=some (aW b)->wp X pm (.code Cs) L H1 [] Q:=by
  intro b L ai he ck h1;simp[ck,-zF];refine aR.bZb (vs:=[w]) (jF al.toOb av.aL eo.of rB) ?_;rintro _ H1 ⟨rfl,rfl⟩;have fin:∀{kz:bQ},a7 1 kz=some w->a7 6 kz=some (aW b)->¬(d≠0/\b.isEmpty=true)->wp X pm (.code zF) kz H1 [] Q:=by
   intro kz m1 m6 aF;simp[m1,m6];refine aR.bZb (vs:=[aW b]) (axB al av.aL (by omega)) ?_;rintro bJ aJ ⟨aI,f1⟩;simp[-gF];refine aR.bZb (vs:=[w,bJ]) (sF al.toOb aI.aL (eo.up aI).of f1 rB (sC ai)) ?_;rintro bG bN ⟨aQ,f2⟩;simp;refine bU _ _ _ ?_;simp;refine⟨av.trans (aI.trans aQ),d*rd b,?_,f2,la aB (jf ai (by decide))⟩;rw[wg,<-he,aU aF]
  by_cases aD:d=0
  ·have:cT d=0:=by rw[lj];exact aD
   simp[this,zWb,-zF];exact fin (by simp[ck]) (by simp[h1]) (by simp[aD])
  ·have:(cT d==0)=false:=by simpa [lj]using aD
   cases x2:b.isEmpty
   ·simp[this,h1,gi,x2,-zF];exact fin (by simp[ck]) (by simp[h1]) (by simp[x2])
   ·simp[this,h1,gi,x2,-zF];refine bU _ _ _ ?_;simp;exact⟨av,by simp[wg,<-he,aD,x2]⟩
 by_cases mX:d<0
 ·simp[um,mX,aK,-Cs];exact key up _ aa (by simp[mX]) (by simp) (by simp)
 ·simp[um,mX,-Cs];exact key lo _ U (by simp[mX]) (by simp) (by simp)
def eV(H:ah)(c n k:Nat)(x:Nat->Rat):Prop:=∃cH,H.get c=some (.cells cH (.n 1))/\cH.length=n/\∀i,i<k->∃p,cH[i]? = some p/\c1 H p (x i)
theorem eV.k{c k:Nat}{x:Nat->Rat}(h:eV H c n k x)(g:cl pm H)(u:K pm H H'):eV H' c n k x:=by
 obtain⟨cH,U,aa,aq⟩:=h;exact⟨cH,u.some g U,aa,λi ad=>(aq i ad).imp λp q=>⟨q.1,q.2.up u⟩⟩
theorem eV.put{c k m:Nat}{x:Nat->Rat}{cH:List Value}(g:cl pm H)(hm:m<=c)(aK:H.get c=some (.cells cH (.n 1)))(aO:cH.length=n)(h:∀i,i<k->∃p,cH[i]? = some p/\c1 H p (x i)){i:Nat}(ad:i<n){p:Value}{q:Rat}(aC:c1 H p q){k':Nat}(ag:∀j,j<k'->j=i∨j<k):
 bp pm m H (H.put c (.cells (cH.set i p) (.n 1)))/\eV (H.put c (.cells (cH.set i p) (.n 1))) c n k' (λj=>if j=i then q else x j):=by
 have u:=bp.put (n:=m) (.refl g) hm aK (by simp) (.cells (cH.set i p) (.n 1));refine⟨u,_,dX,by simp[aO],λj aH=>?_⟩;by_cases e:j=i
 ·subst e;exact⟨p,by rw[bXz (by omega)],by simpa using aC.up u⟩
 ·obtain⟨r,b4,cB⟩:=h j ((ag j aH).resolve_left e);exact⟨r,by rw[bXC (Ne.symm e)];exact b4,by simpa [e]using cB.up u⟩
theorem eV.row{c cap:Nat}{x:Nat->Rat}(h:eV H c n n x):mx H (.slice (some ⟨c,0,none⟩) n cap) n x:=by
 obtain⟨cH,U,aa,aq⟩:=h;exact⟨_,_,rfl,λi ad=>by
  obtain⟨p,bJ,bG⟩:=aq i ad;exact⟨c,0,_,cH,p,rfl,U,rfl,by simpa using bJ,bG⟩⟩
theorem eV.congr{c k:Nat}{x y:Nat->Rat}(h:eV H c n k x)(e:∀i,i<k->y i=x i):eV H c n k y:=by
 obtain⟨cH,U,aa,aq⟩:=h;exact⟨cH,U,aa,λi ad=>by rw[e i ad];exact aq i ad⟩
def bD.row(lp:bD)(i:Nat):di:=lp.rows.getD i ⟨[],1,[],[],[]⟩
theorem bD.Yq{lp:bD}{i:Nat}{r:di}(h:lp.rows[i]? = some r):lp.row i=r:=by simp[bD.row,List.getD,h]
def rC(y:Rat)(d:Nat->Rat)(c:fb):Nat->Rat:=λj=>if j=c.col.toNat then d j-rd c.v*y else d j
def ni(l:List fb)(y:Rat)(d:Nat->Rat):Nat->Rat:=l.foldl (rC y) d
def d0(lp:bD)(wc:Bool)(j:Nat):Rat:=if wc then rd (lp.col j).cost else 0
def wh(lp:bD)(wc:Bool)(y:Nat->Rat):Nat->Nat->Rat
 | 0=>d0 lp wc
 | k+1=>ni (lp.row k).cM (y k) (wh lp wc y k)
def zG(lp:bD)(y:Nat->Rat)(k:Nat):Rat:=bs (λi=>y i*rd (lp.row i).rhs) k
def Ct(lp:bD)(y:Nat->Rat)(i:Nat):Bool:=!((decide ((lp.row i).kind=1)&&decide (0<y i))||(decide ((lp.row i).kind=3)&&decide (y i<0)))
def l0(lp:bD)(d:Nat->Rat)(s:Rat):Nat->Option Rat
 | 0=>some s
 | k+1=>match l0 lp d s k with
   | none=>none
   | some s=>(match wg (lp.col k) (d k) with
     | none=>none
     | some q=>some (s+q))
def x3(lp:bD)(y:Nat->Rat):Nat->Bool
 | 0=>true
 | k+1=>x3 lp y k&&Ct lp y k
def zH(lp:bD)(wc:Bool)(y:Nat->Rat):Option Rat:=if x3 lp y lp.rows.length=true then l0 lp (wh lp wc y lp.rows.length) (zG lp y lp.rows.length) lp.aj.length else none
def gR(lp:bD)(xs:List (List UInt8))(wc:Bool):Option Rat:=if h5 lp xs lp.rows.length=true then zH lp wc (e1 xs) else none
theorem Jk{lp:bD}{y:Nat->Rat}:∀{k:Nat},x3 lp y k=true↔∀i,i<k->Ct lp y i=true
 | 0=>by simp[x3]
 | k+1=>by
   rw[x3,cG,Jk];constructor
   ·rintro⟨U,aa⟩ i ad;by_cases e:i=k
    ·exact e▸aa
    ·exact U i (by omega)
   ·intro h;exact⟨λi ad=>h i (by omega),h k (by omega)⟩
theorem axD{lp:bD}{d:Nat->Rat}{s:Rat}{k:Nat}(h:l0 lp d s k=none):∀m,k<=m->l0 lp d s m=none:=by
 intro m hm
 induction m with
 | zero=>obtain rfl:k=0:=by omega
         exact h
 | succ m ih=>
   by_cases e:k=m+1
   ·exact e▸h
   ·rw[l0,ih (by omega)]
theorem Yr{y:Rat}{j:Nat}:∀{l:List fb} {d:Nat->Rat},(∀c∈l,c.col.toNat≠j)->ni l y d j=d j
 | [],_,_=>rfl
 | c::l,d,h=>by
   show ni l y (rC y d c) j=d j;rw[Yr λc af=>h c (.tail _ af),rC,aU (Ne.symm (h c (.head _)))]
theorem Ys{n:Int}:∀{l:List fb} {last:Int} (k:Nat),jE n last l=true->jE n last (l.take k)=true
 | [],_,k,h=>by simp[jE]
 | c::l,last,0,h=>by simp[jE]
 | c::l,last,k+1,h=>by
   simp only[jE,cG,List.take_succ_cons]at h|-;exact⟨h.1,h.2.1,h.2.2.1,h.2.2.2.1,Ys k h.2.2.2.2⟩
theorem Yt{y:Rat}{j:Nat}{n:Nat}:∀{l:List fb} {last:Int} {d:Nat->Rat},-1<=last->jE n last l=true->ni l y d j=d j∨∃c∈l,ni l y d j=d j-rd c.v*y
 | [],_,_,_,_=>.inl rfl
 | c::l,last,d,aO,h=>by
   have af:=Fk h;simp only[jE,cG,eh]at h;obtain⟨U,_,aq,a8,cg⟩:=h;show ni l y (rC y d c) j=d j∨∃e∈c::l,ni l y (rC y d c) j=d j-rd e.v*y;by_cases e:j=c.col.toNat
   ·refine .inr ⟨c,.head _,?_⟩;rw[Yr,rC,bm e];intro a aN;have:=((Fk cg).1 a aN).2.1;omega
   ·have ao:rC y d c j=d j:=by rw[rC,aU e]
    rcases Yt (last:=c.col) (d:=rC y d c) (by omega) cg with h | ⟨a,aN,h⟩
    ·exact .inl (h.trans ao)
    ·exact .inr ⟨a,.tail _ aN,by rw[h,ao]⟩
theorem Yu{r:di}{n:Nat}(dC:k8 r n=true)(au:r.ok){y:Rat}(bu:sz y 10000){d:Nat->Rat}{t:Nat}(aB:∀j,sz (d j) t)(k j:Nat):sz (ni (r.cM.take k) y d j) (t+20001):=by
 simp only[k8,cG]at dC
 rcases Yt (y:=y) (j:=j) (d:=d) (by omega) (Ys k dC.1) with h | ⟨c,af,h⟩
 ·rw[h];exact ff (aB j) (by omega)
 ·rw[h];have x4:=au.2.2 c (bYk af);exact ff (Yv (aB j) (la (jf (k:=10000) x4 (by decide)) bu)) (by omega)
theorem bD.rowAt{lp:bD}{i:Nat}(h:i<lp.rows.length):lp.rows[i]? = some (lp.row i):=by rw[bD.row,ob,hG h];rfl
theorem axE{lp:bD}(au:lp.ok)(wc:Bool)(j:Nat):sz (d0 lp wc j) 10000:=by
 unfold d0
 cases wc with
 | false=>exact uh (by decide)
 | true=>
   simp only[if_true];refine jf ?_ (by decide);by_cases h:j<lp.aj.length
   ·exact(au.cs _ (fR (bD.Cn h))).2.2
   ·rw[bD.col,ob,jq (by omega)];simp
theorem ON{lp:bD}(au:lp.ok)(hm:lp.dP=true){wc:Bool}{y:Nat->Rat}(bu:∀i,sz (y i) 10000):∀k,k<=lp.rows.length->∀j,sz (wh lp wc y k j) (10000+k*20001)
 | 0,_,j=>by simpa [wh]using axE au wc j
 | k+1,ag,j=>by
   have an:=fR (bD.rowAt (lp:=lp) (i:=k) (by omega));have:=Yu (zC hm an) (au.rs _ an) (bu k) (ON (wc:=wc) au hm bu k (by omega)) (lp.row k).cM.length j;rw[bXG]at this;exact ff this (by omega)
theorem Yw{lp:bD}(au:lp.ok){y:Nat->Rat}(bu:∀i,sz (y i) 10000){k:Nat}(ag:k<=lp.rows.length):sz (zG lp y k) 800100:=by
 have:=au.r;refine ff (Ch (t:=20000) λi ad=>?_) (by omega);have an:=fR (bD.rowAt (lp:=lp) (i:=i) (by omega));exact ff (la (bu i) (jf (k:=10000) (au.rs _ an).1 (by decide))) (by omega)
theorem OO{lp:bD}(au:lp.ok){d:Nat->Rat}{s:Rat}{t:Nat}(aG:sz s 800100)(aB:∀j,sz (d j) t):∀{k:Nat} {q:Rat},k<=lp.aj.length->l0 lp d s k=some q->sz q (800100+k*(t+10001))
 | 0,q,_,h=>by simp only[l0,a6]at h;subst h;simpa using aG
 | k+1,q,ag,h=>by
   rw[l0]at h
   cases e:l0 lp d s k with
   | none=>rw[e]at h;cases h
   | some eZ=>
     rw[e]at h;simp only at h
     cases e2:wg (lp.col k) (d k) with
     | none=>rw[e2]at h;cases h
     | some p=>
       rw[e2]at h;simp only[a6]at h;subst h;have af:=au.cs _ (fR (bD.Cn (lp:=lp) (i:=k) (by omega)));have:sz p (t+10000):=by
        unfold wg at e2;by_cases c9:d k≠0/\(if d k<0 then(lp.col k).up else(lp.col k).low).isEmpty=true
        ·rw[bm c9]at e2;cases e2
        ·rw[aU c9]at e2;simp only[a6]at e2;subst e2;refine la (aB k) (jf ?_ (by decide));split
         ·exact af.2.1
         ·exact af.1
       refine ff (zz (OO au aG aB (by omega) e) this) ?_;rw[bZz];omega
theorem axF(al:hC X)(g0:cl pm H0)(ea:K pm H0 H){lp:bD}(au:lp.ok){b c:Nat}{z:dI}{base:Option Addr}{cap:Nat}{v2 u:Value}{d:Nat->Rat}{s:Rat}{t:Nat}(af:kI H0 (.slice base lp.aj.length cap) lp.aj)(ai:H.get b=some (.cells [.slice base lp.aj.length cap,v2] z))
 (aB:eV H c lp.aj.length lp.aj.length d) (hu:c1 H u s) (aS:t<=1000000) (oL:∀j,sz (d j) t) (Jl:sz s 800100) {L:bQ} (eT:a7 3 L=some (.pointer (some ⟨b,0,none⟩))) (l10:a7 10 L=some (.slice (some ⟨c,0,none⟩) lp.aj.length lp.aj.length)) (zI:a7 13 L=some u) {Q:c'}
 (bU:∀x l H',vY [.slot 6,.slot 7] (λr H'=>K pm H0 H'/\r=oK (l0 lp d s lp.aj.length)) x l H'->Q x l H'):wp X pm (.code Fp) L H [] Q:=by
 have aF:=au.c;obtain⟨_,_,e,eU⟩:=af.at;cases e;have g:=ea.aL;simp[eT,ai,-OP,-OQ]
 refine gG (σ:=Value×Rat) lp.aj.length (λk v=>[(10,.slice (some ⟨c,0,none⟩) lp.aj.length lp.aj.length),(13,v.1),(132,.slice base lp.aj.length cap)])
  (λk v H'=>K pm H0 H'/\K pm H H'/\c1 H' v.1 v.2/\l0 lp d s k=some v.2) (u,s) (by decide) (by omega) (by simp[l10,zI]) ⟨ea,K.refl g,hu,rfl⟩ (by simp) ?_ ?_
 ·rintro k ⟨v,q⟩ H1 ag ⟨av,OR,aw,aV⟩;simp only at aw aV;obtain⟨b',off,y,row,cs,rfl,e2,bd,b1,cQ,cK,rfl⟩:=eU k ag;have lb:=fR cK;have lZ:=bD.zB cK;have gW:=av.some g0 e2;have g1:=av.aL;obtain⟨cH,d1,d2,d3⟩:=aB.k g OR;obtain⟨p,bJ,bG⟩:=d3 k ag;obtain⟨aJ,ee⟩:=bZa ((H1.new (.cells [.string ⟨#[]⟩,.string ⟨#[]⟩,.string ⟨#[]⟩,.string ⟨#[]⟩,.bool false] (.t T.OS))).put H1.next (.cells [aW cQ.name,aW cQ.low,aW cQ.up,aW cQ.cost,.bool cQ.int] (.t T.OS)));have aI:K pm H1 aJ:=by rw[ee];exact mv g1 _ _ (by simp)
  have eA:aJ.get H1.next=some (.cells [aW cQ.name,aW cQ.low,aW cQ.up,aW cQ.cost,.bool cQ.int] (.t T.OS)):=by rw[ee];exact dX
  have g2:=aI.aL;have qE:=aI.some g1 d1;have jG:=g2.lt eA;have nj:=g2.lt qE;have bE:K pm aJ (aJ.up 11):=(K.refl g2).up 11;simp[ag,gW,bd,b1,g1.pick,g1.make,g1.may (bR _),ptr,c5,eu.cells,<-ee,-Jm];refine eg.of g2.lo rfl ?_;simp[dt,g2.none,g2.fo,eA,qE,bJ,ag,cX,c5,-Jm];refine Fq bE.aL (vs:=[.agg cQ.cells.toArray,p]) (by simp[g2.none]) (by simp) (by simp[eu.cells]) rfl (λpm' bS=>axC al bS (au.cs cQ lb) ((bG.up aI).up bE) (by omega) (oL k)) ?_;rintro r bN aQ an;have dh:=aQ.res g2;have jH:=av.trans (aI.trans (bE.trans aQ));have axG:=OR.trans (aI.trans (bE.trans aQ))
  rcases an with⟨h,rfl⟩ | ⟨bh,axH,h,rfl,lk,jy⟩
  ·simp[dh,dx,dm,jG,nj];refine bU _ _ _ ?_;have:l0 lp d s (k+1)=none:=by rw[l0,aV];simp only[lZ,h]
   simp[axD this _ (by omega:k+1<=lp.aj.length),oK];exact jH
  ·simp[dh,dx,dm,jG,nj];have OT:=OO au Jl oL (by omega) aV;have OU:sz q 22000000:=ff OT (by
    have U:k*(t+10001)<=20*1010001:=ie (by omega) (by omega);omega)
   refine aR.bZb (vs:=[v,axH]) (v8 al.toOb aQ.aL (((aw.up aI).up bE).up aQ).of lk.of (OU.ca (by decide)) (jy.ca (bH (Nat.add_le_add_right aS _) (by decide)))) ?_;rintro cO cp ⟨bt,Cu⟩;simp;exact⟨jH.trans bt,axG.trans bt,_,Cu,by rw[l0,aV];simp only[lZ,h]⟩
 ·rintro⟨v,q⟩ H1 ⟨av,OR,aw,aV⟩;simp only at aw aV;simp;have OU:sz q 22000000:=ff (OO au Jl oL (by omega) aV) (by
   have U:lp.aj.length*(t+10001)<=20*1010001:=ie (by omega) (by omega);omega)
  refine aR.bZb (vs:=[v]) (Cj al.toOb av.aL aw.of (OU.ca (by decide))) ?_;rintro _ H1 ⟨rfl,rfl⟩;simp;refine bU _ _ _ ?_;simp[aV,oK];exact av
def gS(c:Nat)(H H':ah):Prop:=∀b x,b≠c->H.get b=some x->H'.get b=some x
theorem gS.refl{c:Nat}:gS c H H:=λ_ _ _ h=>h
theorem gS.trans{c:Nat}(h:gS c H H')(g:gS c H' cL):gS c H cL:=λb x ai e=>g b x ai (h b x ai e)
theorem K.uf{c:Nat}(k:K pm H H')(g:cl pm H):gS c H H':=λ_ _ _ e=>k.some g e
theorem gS.put{c:Nat}{y:cj}:gS c H (H.put c y):=λ_ _ ai e=>by rw[cq ai];exact e
theorem gS.eW{c:Nat}(h:gS c H H'){v:Value}{q:Rat}{cs:List Value}{z:dI}(af:H.get c=some (.cells cs z))(aw:c1 H v q):c1 H' v q:=by
 obtain⟨b,rfl,ai⟩:=aw;exact⟨b,rfl,h b _ (by rintro rfl;rw[ai]at af;cases af) ai⟩
theorem axI(al:hC X)(g:cl pm H){r:di}{vc w:Value}{rb m k:Nat}{z:dI}{y:Nat->Rat}(an:H.get rb=some (.cells (r.cells vc) z))(hw:mx H w m y)(ag:k<m)(aG:ca (y k)=true)
 {L:bQ} (e3:a7 8 L=some w) (x5:a7 14 L=some (.int .i64 (k:Int))) (wi:a7 15 L=some (.pointer (some ⟨rb,0,none⟩))) {Q:c'}
 (bad:(decide (r.kind=1)&&decide (0<y k)||decide (r.kind=3)&&decide (y k<0))=true->∀l',a7 6 l'=some (aW [])->a7 7 l'=some (.bool false)->Q .ret l' H)
 (je:(decide (r.kind=1)&&decide (0<y k)||decide (r.kind=3)&&decide (y k<0))=false->∀l':bQ,(∀j,j<66->a7 j l'=a7 j L)->wp X pm (.code qF) l' H [] Q):
 wp X pm (.code Jn) L H [] Q:=by
 obtain⟨base,cap,rfl,eU⟩:=hw.ex;obtain⟨b9,xV,iL,xW,q,rfl,f2,f3,f4,f5⟩:=eU k ag;have aH:∀j,j<66->∀i,66<=i->j≠i:=λj aH i ad=>by omega
 by_cases av:r.kind=1
 ·simp[wi,an,di.cells,av,e3,x5,ag,f2,f3,f4,-qF];refine aR.bZb (vs:=[q]) (jF al.toOb g f5.of aG) ?_;rintro _ H ⟨rfl,rfl⟩;by_cases cy:0<y k
  ·simp[wa,cy,zWb,-qF];refine aR.not (by simp) ?_;simp[zWb];exact bad (by simp[av,cy]) _ (by simp) (by simp)
  ·simp[wa,cy,wi,an,di.cells,av,zWb,-qF];refine aR.not (by simp) ?_;simp[zWb,-qF];refine je (by simp[av,cy]) _ λj qG=>?_;simp[aH j qG]
 ·have ao:(r.kind==1)=false:=by simpa using av
  by_cases aQ:r.kind=3
  ·simp[wi,an,di.cells,aQ,zWb,-qF];refine aR.not (by simp) ?_;simp[wi,an,di.cells,aQ,e3,x5,ag,f2,f3,f4,-qF];refine aR.bZb (vs:=[q]) (jF al.toOb g f5.of aG) ?_;rintro _ H ⟨rfl,rfl⟩;by_cases cy:y k<0
   ·simp[um,cy];exact bad (by simp[aQ,cy]) _ (by simp) (by simp)
   ·simp[um,cy,-qF];refine je (by simp[aQ,cy]) _ λj qG=>?_;simp[aH j qG]
  ·have bd:(r.kind==3)=false:=by simpa using aQ
   simp[wi,an,di.cells,ao,zWb,-qF];refine aR.not (by simp) ?_;simp[wi,an,di.cells,bd,zWb,-qF];refine aR.not (by simp) ?_;simp[zWb,-qF];refine je (by simp[av,aQ]) _ λj qG=>?_;simp[aH j qG]
theorem axJ(al:hC X)(g0:cl pm H0)(ea:K pm H0 H){r:di}{vc w u vb vr:Value}{rb m M k c:Nat}{z:dI}{y d:Nat->Rat}{t:Nat}(dM:r.ok)(dC:k8 r n=true)(aF:n<=20)(k9:nX H0 vc r.cM)(an:H.get rb=some (.cells (r.cells vc) z))(_cYL:rb≠c)(kj:H0.next<=c)
 (aB:eV H c n n d) (hw:∀H',gS c H H'->mx H' w m y) (ag:k<m) (bu:sz (y k) 10000) (aS:t<=1000000) (oL:∀j,sz (d j) t) {L:bQ} (eT:a7 3 L=some vb) (e3:a7 8 L=some w) (l10:a7 10 L=some (.slice (some ⟨c,0,none⟩) n n)) (zI:a7 13 L=some u) (x5:a7 14 L=some (.int .i64 (k:Int))) (wi:a7 15 L=some (.pointer (some ⟨rb,0,none⟩)))
 (axK:a7 63 L=some vr) (OV:a7 64 L=some (.int .i64 (M:Int))) (OW:a7 65 L=some (.int .i64 (k:Int))) {Q:c'}
 (fin:∀l' H',K pm H0 H'->gS c H H'->eV H' c n n (ni r.cM (y k) d)->Sub [(65,.int .i64 (k:Int)),(64,.int .i64 (M:Int)),(3,vb),(8,w),(10,.slice (some ⟨c,0,none⟩) n n),(13,u),(63,vr)] l'->Q .normal l' H'):
 wp X pm (.code x6) L H [] Q:=by
 obtain⟨xR,_,_,_⟩:=Ck dC dM aF;have hlen:=xR.len;obtain⟨base,cap,rfl,eU⟩:=k9.at;obtain⟨Jo,iW,OX,_⟩:=(hw H gS.refl).ex;subst OX;simp[wi,an,di.cells,-OY]
 refine gG (σ:=Unit) r.cM.length (λp _=>[(14,.int .i64 (k:Int)),(15,.pointer (some ⟨rb,0,none⟩)),(105,.slice base r.cM.length cap),(65,.int .i64 (k:Int)),(64,.int .i64 (M:Int)),(3,vb),(8,.slice Jo m iW),(10,.slice (some ⟨c,0,none⟩) n n),(13,u),(63,vr)])
  (λp _ H'=>K pm H0 H'/\gS c H H'/\eV H' c n n (ni (r.cM.take p) (y k) d)) () (by decide) (by omega) (by simp[eT,e3,l10,zI,x5,wi,axK,OV,OW]) ⟨ea,gS.refl,aB⟩ (by simp) ?_ ?_
 ·rintro p _ H1 aC ⟨av,ao,gQ⟩;obtain⟨b',off,kO,row,cs,rfl,e2,bd,b1,cQ,cK,rfl⟩:=eU p aC;obtain⟨U,aa,aq,a8⟩:=xR.all cQ (fR cK);obtain⟨j,aH⟩:∃j:Nat,cQ.col=(j:Int):=⟨cQ.col.toNat,by omega⟩;have mB:j<n:=by omega
  have zA:cQ.col.toNat=j:=by omega
  obtain⟨_,_,e,Fs⟩:=(hw H1 ao).ex;cases e;obtain⟨b9,xV,iL,xW,q,rfl,f2,f3,f4,f5⟩:=Fs k ag;have g1:=av.aL;have gW:=av.some g0 e2;obtain⟨aJ,ee⟩:=bZa ((H1.new (.cells [.int .i64 0,.string ⟨#[]⟩] (.t T.OZ))).put H1.next (.cells [.int .i64 cQ.col,aW cQ.v] (.t T.OZ)));have aI:K pm H1 aJ:=by rw[ee];exact mv g1 _ _ (by simp)
  have eA:aJ.get H1.next=some (.cells [.int .i64 cQ.col,aW cQ.v] (.t T.OZ)):=by rw[ee];exact dX
  have g2:=aI.aL;have xX:=aI.some g1 f2;obtain⟨cH,d1,d2,d3⟩:=gQ.k g1 aI;obtain⟨axL,axM,axN⟩:=d3 j mB;have jG:=g2.lt eA;have nj:=g2.lt d1;have n0:=g2.lt xX;have bE:K pm aJ (aJ.up 19):=(K.refl g2).up 19;have axO:=Yu dC dM bu oL p;have eO:∀o,Perm.may ⟨pm.lo,pm.ok,o⟩ c=true:=λo=>by
   have:=g0.may kj;exact this
  simp[aC,gW,bd,b1,g1.pick,g1.make,g1.may (bR _),ptr,c5,fb.cells,<-ee];refine eg.of g2.lo rfl ?_;simp[dt,g2.none,g2.fo,eA,aH,mB,ag,xX,f3,f4,d1,axM];refine bZk bE.aL (vs:=[aW cQ.v]) (by simp[g2.none]) (λpm' bS=>sB al bS (by have:=U;unfold fb.ok at this;omega) aa) ?_;rintro bJ bN aQ f1;have b4:=aQ.res g2;have cu:=((f5.up aI).up bE).up aQ;simp;refine bZk aQ.aL (vs:=[bJ,q]) (by simp[b4]) (λpm' bS=>sF al.toOb bS f1.of cu.of (sC U) (bu.ca (by decide))) ?_;rintro bG cp bt f6;have cB:=(K.trans aQ bt).res g2;have xY:sz (rd cQ.v*y k) 20000:=ff (la (jf (k:=10000) U (by decide)) bu) (by omega);have Yx:=((axN.up bE).up aQ).up bt;simp;refine bZk bt.aL (vs:=[axL,bG]) (by simp[cB]) (λpm' bS=>Jp al.toOb bS Yx.of f6.of ((axO j).ca (bH (Nat.add_le_add_right aS _) (by decide))) (xY.ca (by decide))) ?_;rintro cO cV cd f7;have jS:=bE.trans (K.trans (K.trans aQ bt) cd);have dh:=(K.trans (K.trans aQ bt) cd).res g2;have qE:=jS.some g2 d1;obtain⟨up,Ft⟩:=eV.put (m:=H0.next) cd.aL kj qE d2 (λi ad=>(d3 i ad).imp λv aw=>⟨aw.1,aw.2.up jS⟩) mB f7 (k':=n) (λi ad=>.inr ad);obtain⟨a3,rfl,_⟩:=id f7;have qH:=(bE.trans aQ).some g2 eA;have x7:=(bE.trans aQ).some g2 d1;have axP:=(K.trans (bE.trans aQ) bt).some g2 eA;have Jq:=λm=>qz f1 cu qH m;have Jr:=λm=>qz f1 cu x7 m;have axQ:=λm=>qz Yx f6 axP m;have zJ:j<cH.length:=by omega
  simp[dh,qE,mB,zJ,eO,dx,dm,jG,nj,n0,eJ,ez,qs,Jq,Jr,axQ];have ui:r.cM.take (p+1)=r.cM.take p++[cQ]:=by rw[List.take_add_one,cK];rfl
  refine⟨bp.trans (av.trans (aI.trans jS)) up,ao.trans (gS.trans ((K.trans aI jS).uf g1) gS.put),?_⟩;rw[ui,ni,List.foldl_append];refine Ft.congr λi _=>?_;show rC (y k) (ni (r.cM.take p) (y k) d) cQ i=_;rw[rC,zA];by_cases e:i=j
  ·simp[e]
  ·simp[e]
 ·rintro _ H1 ⟨av,ao,gQ⟩;rw[bXG]at gQ;simp;exact fin _ _ av ao gQ (by simp)
theorem axR(al:hC X)(g0:cl pm H0)(ea:K pm H0 H){lp:bD}(au:lp.ok)(hm:lp.dP=true){wc:Bool}{b c:Nat}{z:dI}{base dG:Option Addr}{cap dE:Nat}{u w:Value}{y:Nat->Rat}(af:kI H0 (.slice base lp.aj.length cap) lp.aj)(an:nY H0 (.slice dG lp.rows.length dE) lp.rows)
 (ai:H.get b=some (.cells [.slice base lp.aj.length cap,.slice dG lp.rows.length dE] z)) (sg:b≠c) (kj:H0.next<=c) (aB:eV H c lp.aj.length lp.aj.length (d0 lp wc)) (hw:∀H',gS c H H'->mx H' w lp.rows.length y) (bu:∀i,sz (y i) 10000) (hu:c1 H u 0)
 {L:bQ} (eT:a7 3 L=some (.pointer (some ⟨b,0,none⟩))) (e3:a7 8 L=some w) (l10:a7 10 L=some (.slice (some ⟨c,0,none⟩) lp.aj.length lp.aj.length)) (zI:a7 13 L=some u) {Q:c'}
 (bU:∀x l H',vY [.slot 6,.slot 7] (λr H'=>K pm H0 H'/\r=oK (zH lp wc y)) x l H'->Q x l H'):wp X pm (.code Cv) L H [] Q:=by
 have aF:=au.c;have Js:=au.r;obtain⟨_,_,e,eU⟩:=an.at;cases e;have g:=ea.aL;simp[eT,ai,-Fp,-O0]
 refine gG (σ:=Value) lp.rows.length (λk v=>[(3,.pointer (some ⟨b,0,none⟩)),(8,w),(10,.slice (some ⟨c,0,none⟩) lp.aj.length lp.aj.length),(13,v),(63,.slice dG lp.rows.length dE)])
  (λk v H'=>K pm H0 H'/\gS c H H'/\eV H' c lp.aj.length lp.aj.length (wh lp wc y k)/\c1 H' v (zG lp y k)/\x3 lp y k=true) u (by decide) (by omega) (by simp[eT,e3,l10,zI]) ⟨ea,gS.refl,aB,hu,rfl⟩ (by simp) ?_ ?_
 ·rintro k v H1 ag ⟨av,ao,gQ,aw,O1⟩;obtain⟨b',off,kO,row,cs,rfl,e2,bd,b1,r,vc,cK,rfl,k9⟩:=eU k ag;have lh:=fR cK;have jg:=bD.Yq cK;have dC:=zC hm lh;have dM:=au.rs r lh;obtain⟨bn,bh,cu,e9⟩:=Ck dC dM aF;have g1:=av.aL;have gW:=av.some g0 e2;obtain⟨aGj,IN,_,_⟩:=id gQ;have d':=g1.lt IN;obtain⟨aJ,ee⟩:=bZa ((H1.new (.cells [.string ⟨#[]⟩,.int .i64 0,.slice none 0 0,.string ⟨#[]⟩,.string ⟨#[]⟩] (.t T.O2))).put H1.next (.cells [aW r.name,.int .i64 r.kind,vc,aW r.rhs,aW r.Ff] (.t T.O2)));have aI:K pm H1 aJ:=by rw[ee];exact mv g1 _ _ (by simp)
  have eA:aJ.get H1.next=some (.cells (r.cells vc) (.t T.O2)):=by rw[ee];exact dX
  have g2:=aI.aL;have e0:=av.trans aI;have Cw:=ao.trans (aI.uf g1);obtain⟨cW,Yy,rfl,_⟩:=k9.at;simp[ag,gW,bd,b1,g1.pick,g1.make,g1.may (bR _),ptr,c5,di.cells,<-ee,-Jn];refine axI al g2 eA (hw aJ Cw) ag ((bu k).ca (by decide)) (by simp) (by simp) (by simp) (λaxS l' h1 dO=>?_) (λaxT l' lS=>?_)
  ·simp only[axU,Jt,Ju,O3];refine bU _ _ _ ?_;have:x3 lp y lp.rows.length=false:=by
    rw[bXi];intro h;have:=Jk.1 h k ag;rw[Ct,jg,axS]at this;cases this
   simp[h1,dO,zH,this,oK];exact e0
  ·obtain⟨Jo,iW,OX,Fs⟩:=(hw aJ Cw).ex;subst OX;obtain⟨b9,xV,iL,xW,q,rfl,f2,f3,f4,f5⟩:=Fs k ag;have oL:=λj=>ON (wc:=wc) au hm bu k (by omega) j;have jG:=g2.lt eA;have n0:=g2.lt f2;have bE:K pm aJ (aJ.up 11):=(K.refl g2).up 11;have ld:=dM.1;simp only[di.cells]at eA;simp[-x6];refine eg.of g2.lo rfl ?_;simp[dt,g2.none,g2.fo,lS,eA,ag,f2,f3,f4,-x6];refine bZk bE.aL (vs:=[aW r.rhs]) (by simp[g2.none]) (λpm' bS=>sB al bS (by omega) bh) ?_;rintro bJ bN aQ f1;have b4:=aQ.res g2;simp[-x6];refine bZm aQ.aL (vs:=[q,bJ]) (by simp[b4]) (λpm' bS=>sF al.toOb bS ((f5.up bE).up aQ).of f1.of ((bu k).ca (by decide)) (sC ld)) ?_;rintro bG cp bt f6;have cB:=(K.trans aQ bt).res g2;have axV:=(((aw.up aI).up bE).up aQ).up bt;have xY:sz (y k*rd r.rhs) 20000:=ff (la (bu k) (jf (k:=10000) ld (by decide))) (by omega);simp[-x6];refine bZm bt.aL (vs:=[v,bG]) (by simp[cB]) (λpm' bS=>v8 al.toOb bS axV.of f6.of ((Yw au bu (by omega)).ca (by decide)) (xY.ca (by decide))) ?_;rintro cO cV cd f7;have dh:=(K.trans (K.trans aQ bt) cd).res g2;have jS:=bE.trans (K.trans (K.trans aQ bt) cd);simp[dh,dx,dm,jG,n0,eJ,ez,qs,-x6];have sH:=e0.trans jS;have Yz:=Cw.trans (jS.uf g2);have qH:=jS.some g2 eA;refine axJ al g0 sH (vb:=.pointer (some ⟨b,0,none⟩)) (u:=cO) (vr:=.slice (some ⟨b',off,none⟩) lp.rows.length dE) (M:=lp.rows.length) dM dC aF k9 qH (by omega) kj ((gQ.k g1 aI).k g2 jS) (λH' he=>hw H' (Yz.trans he)) ag (bu k) (t:=10000+k*20001) (by omega) oL (by simp[lS]) (by simp[lS]) (by simp[lS]) (by simp) (by simp[lS]) (by simp[lS]) (by simp[lS]) (by simp[lS]) (by simp[lS]) (λYA ep cv il d6 axW=>?_);obtain⟨aGk,O4,_,_⟩:=((gQ.k g1 aI).k g2 jS);have f8:c1 ep cO (zG lp y (k+1)):=by
    have:zG lp y (k+1)=zG lp y k+y k*rd r.rhs:=by simp[zG,bs,jg]
    rw[this];exact il.eW O4 f7
   refine⟨cO,by simpa using axW,cv,Yz.trans il,?_,f8,?_⟩
   ·simpa [wh,jg]using d6
   ·rw[x3,O1,Ct,jg,axT];rfl
 ·rintro v H1 ⟨av,ao,gQ,aw,O1⟩;simp[-Fp];have oL:=λj=>ON (wc:=wc) au hm bu lp.rows.length (bR _) j;refine axF al g0 av au af (ao b _ sg ai) gQ aw (t:=10000+lp.rows.length*20001) (by omega) oL (Yw au bu (bR _)) (by simp) (by simp) (by simp) λx l H' h=>bU x l H' ?_;simpa [zH,O1]using h
theorem axX(al:hC X)(g0:cl pm H0)(ea:K pm H0 H){lp:bD}(au:lp.ok)(hm:lp.dP=true){wc:Bool}{b c:Nat}{z:dI}{base dG:Option Addr}{cap dE:Nat}{w:Value}{y:Nat->Rat}(af:kI H0 (.slice base lp.aj.length cap) lp.aj)(an:nY H0 (.slice dG lp.rows.length dE) lp.rows)
 (ai:H.get b=some (.cells [.slice base lp.aj.length cap,.slice dG lp.rows.length dE] z)) (sg:b≠c) (kj:H0.next<=c) (aB:eV H c lp.aj.length 0 (d0 lp wc)) (hw:∀H',gS c H H'->mx H' w lp.rows.length y) (bu:∀i,sz (y i) 10000)
 {L:bQ} (cJ:a7 2 L=some (.bool wc)) (eT:a7 3 L=some (.pointer (some ⟨b,0,none⟩))) (e3:a7 8 L=some w) (l10:a7 10 L=some (.slice (some ⟨c,0,none⟩) lp.aj.length lp.aj.length)) {Q:c'}
 (bU:∀x l H',vY [.slot 6,.slot 7] (λr H'=>K pm H0 H'/\r=oK (zH lp wc y)) x l H'->Q x l H'):wp X pm (.code Jv) L H [] Q:=by
 have aF:=au.c;obtain⟨_,_,e,eU⟩:=af.at;cases e;have g:=ea.aL;have eO:pm.may c=true:=g0.may kj;simp[eT,ai,-Cv,-O5]
 refine gG (σ:=Unit) lp.aj.length (λk _=>[(2,.bool wc),(3,.pointer (some ⟨b,0,none⟩)),(8,w),(10,.slice (some ⟨c,0,none⟩) lp.aj.length lp.aj.length),(42,.slice base lp.aj.length cap)])
  (λk _ H'=>K pm H0 H'/\gS c H H'/\eV H' c lp.aj.length k (d0 lp wc)) () (by decide) (by omega) (by simp[cJ,eT,e3,l10]) ⟨ea,gS.refl,aB⟩ (by simp) ?_ ?_
 ·rintro k _ H1 ag ⟨av,ao,gQ⟩;obtain⟨b',off,kO,row,cs,rfl,e2,bd,b1,cQ,cK,rfl⟩:=eU k ag;have lb:=fR cK;have lZ:=bD.zB cK;have uj:=On (Ci hm lb);have d':=(au.cs cQ lb).2.2;have g1:=av.aL;have gW:=av.some g0 e2;obtain⟨aJ,ee⟩:=bZa ((H1.new (.cells [.string ⟨#[]⟩,.string ⟨#[]⟩,.string ⟨#[]⟩,.string ⟨#[]⟩,.bool false] (.t T.Jw))).put H1.next (.cells [aW cQ.name,aW cQ.low,aW cQ.up,aW cQ.cost,.bool cQ.int] (.t T.Jw)));have aI:K pm H1 aJ:=by rw[ee];exact mv g1 _ _ (by simp)
  have eA:aJ.get H1.next=some (.cells [aW cQ.name,aW cQ.low,aW cQ.up,aW cQ.cost,.bool cQ.int] (.t T.Jw)):=by rw[ee];exact dX
  have g2:=aI.aL;simp[ag,gW,bd,b1,g1.pick,g1.make,g1.may (bR _),ptr,c5,eu.cells,<-ee,-O6];refine aR.bZb (vs:=[.int .i64 0]) (sE al.toOb g2 (n:=0) (by omega) (by omega)) ?_;rintro bJ bN ⟨aQ,f1⟩;obtain⟨cH,d1,d2,d3⟩:=(gQ.k g1 aI).k g2 aQ;have my:=aI.trans aQ;have zJ:k<cH.length:=by omega
  obtain⟨eX,Ft⟩:=eV.put (m:=H0.next) (x:=d0 lp wc) aQ.aL kj d1 d2 d3 ag f1 (k':=k+1) (λi ad=>by omega);obtain⟨cx,rfl,_⟩:=id f1;have x7:=(gQ.k g1 aI).k g2 aQ;have dr:H1.next≠c:=λe=>by
   obtain⟨aGl,qE,_,_⟩:=gQ;have:=g1.lt qE;omega
  have jU:=aQ.some g2 eA;obtain⟨cp,nZ⟩:=bZa (bN.put c (.cells (cH.set k (.pointer (some ⟨cx,0,none⟩))) (.n 1)));rw[<-nZ]at eX Ft;have mw:cp.get H1.next=some (.cells [aW cQ.name,aW cQ.low,aW cQ.up,aW cQ.cost,.bool cQ.int] (.t T.Jw)):=by rw[nZ,cq dr];exact jU
  have YB:gS c H cp:=ao.trans (gS.trans (my.uf g1) (by rw[nZ];exact gS.put));have jY:K pm H0 cp:=bp.trans (av.trans my) eX;simp[ag,d1,zJ,eO,<-nZ]
  cases wc with
  | false=>
    simp;refine⟨jY,YB,Ft.congr λi ad=>?_⟩;by_cases e:i=k<;>simp[e,d0]
  | true=>
    simp[mw];refine aR.bZb (vs:=[aW cQ.cost]) (sB al eX.aL (by omega) uj) ?_;rintro bG cV ⟨cd,f5⟩;obtain⟨axY,cy,dd,dy⟩:=Ft.k eX.aL cd;have axZ:k<axY.length:=by omega
    obtain⟨kk,ax0⟩:=eV.put (m:=H0.next) cd.aL kj cy dd dy ag f5 (k':=k+1) (λi ad=>by omega);obtain⟨a2,rfl,_⟩:=id f5;simp[ag,cy,axZ,eO];refine⟨bp.trans (jY.trans cd) kk,YB.trans (gS.trans (cd.uf eX.aL) gS.put),ax0.congr λi ad=>?_⟩;by_cases e:i=k
    ·subst e;simp[d0,lZ]
    ·simp[e]
 ·rintro _ H1 ⟨av,ao,gQ⟩;simp[-Cv];refine aR.bZb (vs:=[.int .i64 0]) (sE al.toOb av.aL (n:=0) (by omega) (by omega)) ?_;rintro bJ aJ ⟨aI,f1⟩;have Cw:=ao.trans (aI.uf av.aL);simp[-Cv];exact axR al g0 (av.trans aI) au hm af an (Cw b _ sg ai) sg kj (gQ.k av.aL aI) (λH' h=>hw H' (Cw.trans h)) bu (by simpa using f1) (by simp) (by simp) (by simp) (by simp) bU
theorem YC(al:hC X)(g:cl pm H){v w:Value}{lp:bD}{xs:List (List UInt8)}{wc:Bool}(aw:ps H v lp)(au:lp.ok)(hw:kh H w xs)(aG:qy xs):
 Call X pm F.ub [v,w,.bool wc] H λr H'=>K pm H H'/\r=oK (gR lp xs wc):=by
 refine Call.h6 al.ub rfl λQ bU=>?_;have iy:=aw;obtain⟨v1,v2,rfl,af,an⟩:=aw;obtain⟨base,cap,rfl,eU⟩:=af.at;obtain⟨dG,dE,rfl,xU⟩:=an.at;have aF:=au.c;obtain⟨H1,cw⟩:=bZa (H.new (.cells [.slice base lp.aj.length cap,.slice dG lp.rows.length dE] (.t T.YD)));have av:=bZi g cw;have aK:H1.get H.next=some (.cells [.slice base lp.aj.length cap,.slice dG lp.rows.length dE] (.t T.YD)):=by rw[cw];exact dT
 obtain⟨b,ai⟩:=bZa (H.next);rw[<-ai]at aK;simp[g.pick,g.make,ptr,<-cw,<-ai,aK,-O7];refine aR.bZb (vs:=[w,.int .i64 (lp.rows.length:Int)]) (Jf al av.aL (hw.ext (av.ext g)) aG.len aG.lt) ?_;have no:∀{l':bQ} {H':ah},K pm H H'->h5 lp xs lp.rows.length=false->a7 6 l'=some (aW [])->a7 7 l'=some (.bool false)->Q .ret l' H':=λag h h1 dO=>bU _ _ _ (by simp[h1,dO,gR,h,oK];exact ag);rintro _ aJ ⟨aI,⟨h,rfl⟩ | ⟨h,u,rfl,hu⟩⟩
 ·simp[zWb];refine aR.not (by simp) ?_;simp[zWb];exact no (av.trans aI) (by simp[h5,h]) (by simp) (by simp)
 have aQ:=av.trans aI;have g3:=aI.some av.aL aK;by_cases hlen:xs.length=lp.rows.length
 ·simp[hlen,g3,cX,c5,-O8];refine aR.bZb (vs:=[.agg #[.slice base lp.aj.length cap,.slice dG lp.rows.length dE]]) (Fi al aQ.aL (iy.ext (aQ.ext g)) au) ?_;rintro _ cp ⟨bt,rfl⟩;have mz:=aQ.trans bt;cases hm:lp.dP
  ·simp;exact no mz (by simp[h5,hm]) (by simp) (by simp)
  ·rw[hlen]at hu;have g4:=bt.some aQ.aL g3;have dM:h5 lp xs lp.rows.length=true:=by simp[h5,h,hlen,hm]
   simp[g4,rD mz.aL.tocU (show lp.aj.length<=1073741824 by omega) (show 8*lp.aj.length<=17179869184 by omega),-Jv];have cd:K pm cp (cp.new (.cells (times [.pointer none] lp.aj.length) (.n 1))):=K.new mz.aL _;have aO:∀m,(times [Value.pointer none] m).length=m:=λm=>by
    induction m with
    | zero=>rfl
    | succ m ih=>rw[times,tr,ih];simp;omega
   have eP:=mz.aL.lt g4;refine axX (wc:=wc) al g (mz.trans cd) au hm af an (cd.some mz.aL g4) (by omega) mz.next ⟨_,dT,aO _,λi ad=>absurd ad (od _)⟩ (w:=u) (y:=e1 xs) (λH' he=>?_) (Jd aG.all) (by simp) (by simp) (by simp) (by simp) λx l H' dD=>bU x l H' ?_
   ·obtain⟨Co,Cp,rfl,ax1⟩:=hu.ex;refine⟨Co,Cp,rfl,λi ad=>?_⟩;obtain⟨b9,xV,iL,xW,q,rfl,f2,f3,f4,f5⟩:=ax1 i ad;have jS:=bt.trans cd;have nj:=aQ.aL.lt f2;have a8:aJ.next<=cp.next:=bt.next;refine⟨b9,xV,iL,xW,q,rfl,he b9 iL (by omega) (jS.some aQ.aL f2),f3,f4,?_⟩;obtain⟨YE,rfl,aV⟩:=f5;have n0:=aQ.aL.lt aV;exact⟨YE,rfl,he YE _ (by omega) (jS.some aQ.aL aV)⟩
   ·simpa [gR,dM]using dD
 ·have:¬((xs.length:Int)=(lp.rows.length:Int)):=by omega
  simp[this,zWb];refine aR.not (by simp) ?_;simp[zWb];exact no aQ (by simp[h5,hlen]) (by simp) (by simp)
end Go.Dam.C
namespace Go.Dam.C
theorem eB{f g:Nat->Rat}:∀{n:Nat},(∀i,i<n->f i=g i)->bs f n=bs g n
 | 0,_=>rfl
 | n+1,h=>by rw[bs,bs,eB λi ad=>h i (by omega),h n (by omega)]
theorem pC(f g:Nat->Rat):∀n,bs (λi=>f i+g i) n=bs f n+bs g n
 | 0=>by simp[bs,bZP]
 | n+1=>by rw[bs,bs,bs,pC f g n];grind
theorem jl(c:Rat)(f:Nat->Rat):∀n,bs (λi=>c*f i) n=c*bs f n
 | 0=>by simp[bs]
 | n+1=>by rw[bs,bs,jl c f n];grind
theorem rN{f:Nat->Rat}{n:Nat}(h:∀i,i<n->f i=0):bs f n=0:=by
 induction n with
 | zero=>rfl
 | succ n ih=>rw[bs,ih λi ad=>h i (by omega),h n (by omega),bZP]
theorem qL{f:Nat->Rat}{n j:Nat}(aH:j<n)(h:∀i,i<n->i≠j->f i=0):bs f n=f j:=by
 induction n with
 | zero=>omega
 | succ n ih=>
   rw[bs];by_cases e:j=n
   ·subst e;rw[rN λi ad=>h i (by omega) (by omega)];grind
   ·rw[ih (by omega) λi ad aF=>h i (by omega) aF,h n (by omega) (by omega)];grind
theorem sO{f:Nat->Rat}{n j:Nat}(aH:j<n):bs f n=f j+bs (λi=>if i=j then 0 else f i) n:=by
 have h:bs f n=bs (λi=>(if i=j then f i else 0)+(if i=j then 0 else f i)) n:=eB λi _=>by
  by_cases e:i=j<;>simp[e,bXM,bZP]
 rw[h,pC,qL (j:=j) aH λi _ aF=>by simp[aF]];simp
theorem FG(f:Nat->Nat->Rat)(n:Nat):∀m,bs (λi=>bs (λj=>f i j) n) m=bs (λj=>bs (λi=>f i j) m) n
 | 0=>by simp only[bs];rw[rN λ_ _=>rfl]
 | m+1=>by simp only[bs];rw[FG f n m,<-pC]
theorem ay4(f g:Nat->Rat)(n:Nat):bs (λi=>f i-g i) n=bs f n-bs g n:=by
 have:=pC f (λi=>(-1)*g i) n;rw[jl]at this;rw[show(λi=>f i-g i)=λi=>f i+(-1)*g i from funext λi=>by grind,this];grind
theorem FH{f g:Nat->Rat}:∀{n:Nat},(∀i,i<n->f i<=g i)->bs f n<=bs g n
 | 0,_=>k3
 | n+1,h=>by
   rw[bs,bs];have U:=FH (n:=n) λi ad=>h i (by omega);have aa:=h n (by omega);grind
theorem Ql{f:Nat->Rat}{n:Nat}(h:∀i,i<n->0<=f i):0<=bs f n:=by
 have:=FH (f:=λ_=>0) (n:=n) h;rwa [rN λ_ _=>rfl]at this
theorem ay5{f:Nat->Rat}{n j:Nat}(aH:j<n)(h:∀i,i<n->0<=f i)(aC:0<f j):0<bs f n:=by
 rw[sO aH];have:0<=bs (λi=>if i=j then 0 else f i) n:=Ql λi ad=>by
  by_cases e:i=j
  ·simp[e,]
  ·simpa [e]using h i ad
 grind
def fX(p:Nat->Bool)(key:Nat->Nat):Nat->Option Nat
 | 0=>none
 | k+1=>match fX p key k with
   | none=>if p k=true then some k else none
   | some b=>if p k=true/\key k<key b then some k else some b
theorem FI{p:Nat->Bool}{key:Nat->Nat}:∀{n:Nat},fX p key n=none->∀j,j<n->p j=false
 | 0,_,j,aH=>absurd aH (od _)
 | n+1,h,j,aH=>by
   rw[fX]at h
   cases e:fX p key n with
   | none=>
     rw[e]at h;simp only at h;by_cases aC:p n=true
     ·rw[bm aC]at h;cases h
     ·by_cases mB:j=n
      ·subst mB;simpa using aC
      ·exact FI e j (by omega)
   | some b=>
     rw[e]at h;simp only at h;split at h<;>cases h
theorem zWd{p:Nat->Bool}{key:Nat->Nat}:∀{n b:Nat},fX p key n=some b->b<n/\p b=true/\∀j,j<n->p j=true->key b<=key j
 | 0,_,h=>by cases h
 | n+1,b,h=>by
   rw[fX]at h
   cases e:fX p key n with
   | none=>
     rw[e]at h;simp only at h;by_cases aC:p n=true
     ·rw[bm aC]at h;cases h;refine⟨by omega,aC,λj aH z8=>?_⟩;by_cases mB:j=n
      ·subst mB;exact bR _
      ·have:=FI e j (by omega);rw[this]at z8;cases z8
     ·rw[aU aC]at h;cases h
   | some a=>
     rw[e]at h;obtain⟨i1,i2,i3⟩:=zWd e;simp only at h;by_cases aC:p n=true/\key n<key a
     ·rw[bm aC]at h;cases h;refine⟨by omega,aC.1,λj aH z8=>?_⟩;by_cases mB:j=n
      ·subst mB;exact bR _
      ·have:=i3 j (by omega) z8;omega
     ·rw[aU aC]at h;cases h;refine⟨by omega,i2,λj aH z8=>?_⟩;by_cases mB:j=n
      ·subst mB;exact Nat.le_of_not_lt λh=>aC ⟨z8,h⟩
      ·exact i3 j (by omega) z8
section
variable{bas:Nat->Nat->Prop}{lv en:Nat->Nat}{L:Nat}
theorem Zd(U:∀t,t<L->∀x,bas (t+1) x↔(x=en t∨(bas t x/\x≠lv t))){x a:Nat}:∀d,a+d<=L->¬bas a x->bas (a+d) x->∃u,a<=u/\u<a+d/\en u=x
 | 0,_,aF,ai=>absurd ai aF
 | d+1,aB,aF,ai=>by
   have ai:bas (a+d+1) x:=ai;rcases(U (a+d) (by omega) x).1 ai with h | ⟨h,_⟩
   ·exact⟨a+d,by omega,by omega,h.symm⟩
   ·obtain⟨u,U,aa,aq⟩:=Zd U d (by omega) aF h;exact⟨u,U,by omega,aq⟩
theorem Ze(U:∀t,t<L->∀x,bas (t+1) x↔(x=en t∨(bas t x/\x≠lv t))){x a:Nat}:∀d,a+d<=L->bas a x->¬bas (a+d) x->∃u,a<=u/\u<a+d/\lv u=x
 | 0,_,aF,ai=>absurd aF ai
 | d+1,aB,aF,ai=>by
   have ai:¬bas (a+d+1) x:=ai;by_cases az:bas (a+d) x
   ·refine⟨a+d,by omega,by omega,?_⟩;apply oa;intro dr;exact ai ((U (a+d) (by omega) x).2 (.inr ⟨az,λe=>dr e.symm⟩))
   ·obtain⟨u,U,aa,aq⟩:=Ze U d (by omega) aF az;exact⟨u,U,by omega,aq⟩
theorem Zf{p:Nat->Prop}{a b:Nat}(nQ:a<=b)(ai:p b):∃c,a<=c/\c<=b/\p c/\∀u,a<=u->u<c->¬p u:=by
 obtain⟨d,rfl⟩:∃d,b=a+d:=⟨b-a,by omega⟩
 induction d using Nat.strongRecOn with
 | _ d ih=>
   by_cases h:∃u,a<=u/\u<a+d/\p u
   ·obtain⟨u,U,aa,aq⟩:=h;obtain⟨e,rfl⟩:∃e,u=a+e:=⟨u-a,by omega⟩;obtain⟨c,cy,dd,dy,iZ⟩:=ih e (by omega) (by omega) aq;exact⟨c,cy,by omega,dy,iZ⟩
   ·exact⟨a+d,by omega,bR _,ai,λu U aa aq=>h ⟨u,U,aa,aq⟩⟩
theorem Qm(U:∀t,t<L->∀x,bas (t+1) x↔(x=en t∨(bas t x/\x≠lv t)))(aa:∀t,t<L->bas t (lv t)/\¬bas t (en t))
 (core:∀s t r,s<t->t<L->lv s=r->en t=r->(∀u,s<=u->u<=t->lv u<=r/\en u<=r)->(∀u,s<u->u<t->en u≠r)->False):
 ∀K a,(∀u,a<=u->u<a+3^K->lv u<K/\en u<K)->a+3^K<=L->False
 | 0,a,h,_=>absurd (h a (bR _) (by simp)).1 (od _)
 | K+1,a,h,bC=>by
   have aC:3^(K+1)=3^K+3^K+3^K:=by rw[bZh];omega
   have nR:0<3^K:=bYY (by decide);generalize aV:3^K=q at*
   have bB:∀b,a<=b->b+q<=a+3^(K+1)->∃u,b<=u/\u<b+q/\(lv u=K∨en u=K):=by
    intro b ai aGv;apply oa;intro aF;refine Qm U aa core K b (λu kE mo=>?_) (by rw[aV];omega);rw[aV]at mo;obtain⟨g1,g2⟩:=h u (by omega) (by omega);refine⟨?_,?_⟩
    ·apply oa;intro g;exact aF ⟨u,kE,mo,.inl (by omega)⟩
    ·apply oa;intro g;exact aF ⟨u,kE,mo,.inr (by omega)⟩
   have no:∀s t,a<=s->s<t->t<a+3^(K+1)->lv s=K->en t=K->False:=by
    intro s t aG gz aS aO he;obtain⟨c,cy,dd,dy,iZ⟩:=Zf (p:=λu=>en u=K) (show s+1<=t from gz) he;refine core s c K (by omega) (by omega) aO dy (λu kE mo=>?_) λu kE mo=>iZ u kE mo;obtain⟨g1,g2⟩:=h u (by omega) (by omega);omega
   obtain⟨t1,cx,cR,ao⟩:=bB a (bR _) (by omega);obtain⟨t2,a2,b9,e2⟩:=bB (a+q) (by omega) (by omega);obtain⟨t3,a3,fK,bd⟩:=bB (a+q+q) (by omega) (by omega);have aO:∀t,t<L->lv t=K->¬bas (t+1) K:=λt aS e ai=>by
    rcases(U t aS K).1 ai with h | ⟨_,h⟩
    ·exact(aa t aS).2 (by rw[<-h,<-e];exact(aa t aS).1)
    ·exact h e.symm
   have he:∀t,t<L->en t=K->bas (t+1) K:=λt aS e=>(U t aS K).2 (.inl e.symm);have yi:∀s t,a<=s->s<t->t<a+3^(K+1)->lv s=K->(lv t=K∨en t=K)->False:=by
    intro s t aG gz aS tD eb
    rcases eb with eb | eb
    ·obtain⟨u,fQ,fm,fu⟩:=Zd U (a:=s+1) (x:=K) (t-(s+1)) (by omega) (aO s (by omega) tD) (by
      rw[show s+1+(t-(s+1))=t by omega,<-eb];exact(aa t (by omega)).1)
     exact no s u aG (by omega) (by omega) tD fu
    ·exact no s t aG gz aS tD eb
   rcases ao with ao | ao
   ·exact yi t1 t2 cx (by omega) (by omega) ao e2
   ·rcases e2 with e2 | e2
    ·exact yi t2 t3 (by omega) (by omega) (by omega) e2 bd
    ·obtain⟨u,fQ,fm,fu⟩:=Ze U (a:=t1+1) (x:=K) (t2-(t1+1)) (by omega) (he t1 (by omega) ao) (by
      rw[show t1+1+(t2-(t1+1))=t2 by omega,<-e2];exact(aa t2 (by omega)).2)
     exact no u t2 (by omega) (by omega) (by omega) fu e2
end
structure cr where
 n:Nat
 m:Nat
 lo:Nat->Option Rat
 up:Nat->Option Rat
 A:Nat->Nat->Rat
structure b8 where
 v:Nat->Rat
 rows:Nat->Nat
 aj:Nat->Nat
 M:Nat->Nat->Rat
def CP(P:cr)(z:Nat->Rat):Prop:=∀i,i<P.m->z (P.n+i)=bs (λj=>P.A i j*z j) P.n
def FJ(P:cr)(T:b8)(z:Nat->Rat):Prop:=∀i,i<P.m->z (T.rows i)=bs (λk=>T.M i k*z (T.aj k)) P.n
structure fh(P:cr)(T:b8):Prop where
 r:∀i,i<P.m->T.rows i<P.n+P.m
 c:∀k,k<P.n->T.aj k<P.n+P.m
 qM:∀i j,i<P.m->j<P.m->T.rows i=T.rows j->i=j
 ci:∀i j,i<P.n->j<P.n->T.aj i=T.aj j->i=j
 rc:∀i k,i<P.m->k<P.n->T.rows i≠T.aj k
 mE:∀x,x<P.n+P.m->(∃i,i<P.m/\T.rows i=x)∨∃k,k<P.n/\T.aj k=x
structure Inv(P:cr)(T:b8):Prop where
 bj:fh P T
 fJ:∀z,CP P z↔FJ P T z
 val:CP P T.v
 sum:∀f:Nat->Rat,bs (λk=>f (T.aj k)) P.n+bs (λi=>f (T.rows i)) P.m=bs f P.n+bs (λi=>f (P.n+i)) P.m
def fY(T:b8)(a col k:Nat):Rat:=if k=col then 1/T.M a col else -(T.M a k)/T.M a col
def b8.fy(T:b8)(a col:Nat):b8 where
 v:=T.v
 rows:=λi=>if i=a then T.aj col else T.rows i
 aj:=λk=>if k=col then T.rows a else T.aj k
 M:=λi k=>if i=a then fY T a col k else if k=col then T.M i col*fY T a col col else T.M i k+T.M i col*fY T a col k
def iT(T:b8)(col:Nat)(q:Rat):Nat->Nat->Rat
 | 0=>λx=>if x=T.aj col then T.v x+q else T.v x
 | i+1=>λx=>if x=T.rows i then iT T col q i x+T.M i col*q else iT T col q i x
def b8.iC(P:cr)(T:b8)(col:Nat)(q:Rat):b8:={T with v:=iT T col q P.m}
section
variable{P:cr}{T:b8}
theorem fh.fy(h:fh P T){a col:Nat}(aN:a<P.m)(af:col<P.n):fh P (T.fy a col) where
 r:=λi ad=>by
  show(if i=a then _ else _)<_;split
  ·exact h.c col af
  ·exact h.r i ad
 c:=λk ag=>by
  show(if k=col then _ else _)<_;split
  ·exact h.r a aN
  ·exact h.c k ag
 qM:=λi j ad aH e=>by
  have e:(if i=a then T.aj col else T.rows i)=(if j=a then T.aj col else T.rows j):=e;by_cases U:i=a<;>by_cases aa:j=a<;>simp only[U,aa,if_true,if_false]at e
  ·omega
  ·exact absurd e.symm (h.rc j col aH af)
  ·exact absurd e (h.rc i col ad af)
  ·exact h.qM i j ad aH e
 ci:=λi j ad aH e=>by
  have e:(if i=col then T.rows a else T.aj i)=(if j=col then T.rows a else T.aj j):=e;by_cases U:i=col<;>by_cases aa:j=col<;>simp only[U,aa,if_true,if_false]at e
  ·omega
  ·exact absurd e (h.rc a j aN aH)
  ·exact absurd e.symm (h.rc a i aN ad)
  ·exact h.ci i j ad aH e
 rc:=λi k ad ag e=>by
  have e:(if i=a then T.aj col else T.rows i)=(if k=col then T.rows a else T.aj k):=e;by_cases U:i=a<;>by_cases aa:k=col<;>simp only[U,aa,if_true,if_false]at e
  ·exact absurd e.symm (h.rc a col aN af)
  ·exact aa (h.ci _ _ ag af e.symm)
  ·exact U (h.qM _ _ ad aN e)
  ·exact h.rc i k ad ag e
 mE:=λx az=>by
  rcases h.mE x az with⟨i,ad,e⟩ | ⟨k,ag,e⟩
  ·by_cases U:i=a
   ·exact .inr ⟨col,af,by show(if col=col then _ else _)=x;rw[bm rfl,<-U,e]⟩
   ·exact .inl ⟨i,ad,by show(if i=a then _ else _)=x;rw[aU U,e]⟩
  ·by_cases U:k=col
   ·exact .inl ⟨a,aN,by show(if a=a then _ else _)=x;rw[bm rfl,<-U,e]⟩
   ·exact .inr ⟨k,ag,by show(if k=col then _ else _)=x;rw[aU U,e]⟩
theorem FJ.fy(_cYn:fh P T){a col:Nat}(aN:a<P.m)(af:col<P.n)(aC:T.M a col≠0)(z:Nat->Rat):FJ P T z↔FJ P (T.fy a col) z:=by
 obtain⟨p,vO⟩:=bZa (T.M a col);have rest:∀(f:Nat->Rat),bs (λk=>f k*z ((T.fy a col).aj k)) P.n=f col*z (T.rows a)+bs (λk=>if k=col then 0 else f k*z (T.aj k)) P.n:=λf=>by
  rw[sO af];congr 1
  ·show f col*z (if col=col then _ else _)=_;rw[bm rfl]
  ·refine eB λk _=>?_;by_cases e:k=col
   ·simp[e]
   ·show(if k=col then 0 else f k*z (if k=col then _ else _))=_;simp only[e,if_false]
 have old:∀(f:Nat->Rat),bs (λk=>f k*z (T.aj k)) P.n=f col*z (T.aj col)+bs (λk=>if k=col then 0 else f k*z (T.aj k)) P.n:=λf=>sO af;obtain⟨R,dD⟩:∃R:(Nat->Rat)->Rat,∀f,R f=bs (λk=>if k=col then 0 else f k*z (T.aj k)) P.n:=⟨_,λ_=>rfl⟩;have ay6:R (fY T a col)=-(1/p)*R (T.M a):=by
  rw[dD,dD,<-jl];refine eB λk _=>?_;by_cases e:k=col
  ·simp[e]
  ·simp only[e,if_false,fY,<-vO];grind
 have Qn:z (T.rows a)=bs (λk=>T.M a k*z (T.aj k)) P.n↔z (T.aj col)=bs (λk=>fY T a col k*z ((T.fy a col).aj k)) P.n:=by
  rw[rest,old,<-dD,<-dD,ay6];have aF:fY T a col col=1/p:=by simp[fY,vO]
  rw[aF,<-vO];have ri:p≠0:=by rw[vO];exact aC
  constructor<;>intro h<;>grind
 have other:∀i,i≠a->z (T.aj col)=bs (λk=>fY T a col k*z ((T.fy a col).aj k)) P.n->bs (λk=>(T.fy a col).M i k*z ((T.fy a col).aj k)) P.n=bs (λk=>T.M i k*z (T.aj k)) P.n:=by
  intro i ad bl;rw[rest]at bl;rw[rest,old,<-dD];rw[<-dD]at bl|-;have U:(T.fy a col).M i col=T.M i col*fY T a col col:=by
   show(if i=a then _ else if col=col then _ else _)=_;rw[aU ad,bm rfl]
  have aa:R ((T.fy a col).M i)=R (T.M i)+T.M i col*R (fY T a col):=by
   rw[dD,dD,dD,<-jl,<-pC];refine eB λk _=>?_;by_cases e:k=col
   ·simp[e,bZP]
   ·show(if k=col then 0 else(if i=a then _ else if k=col then _ else _)*_)=_;simp only[e,ad,if_false];grind
  rw[U,aa];grind
 constructor
 ·intro h i ad;by_cases e:i=a
  ·subst e;have:=Qn.1 (h i aN);show z (if i=i then _ else _)=bs (λk=>(if i=i then _ else _)*_) P.n;simp only[if_true];exact this
  ·show z (if i=a then _ else _)=_;rw[aU e,other i e (Qn.1 (h a aN))];exact h i ad
 ·intro h;have pD:z (T.aj col)=bs (λk=>fY T a col k*z ((T.fy a col).aj k)) P.n:=by
   have:=h a aN;have:z (if a=a then T.aj col else T.rows a)=bs (λk=>(if a=a then fY T a col k else _)*z ((T.fy a col).aj k)) P.n:=this;simp only[if_true]at this;exact this
  intro i ad;by_cases e:i=a
  ·subst e;exact Qn.2 pD
  ·have:=h i ad;rw[other i e pD]at this;have:z (if i=a then T.aj col else T.rows i)=_:=this;rw[aU e]at this;exact this
theorem Inv.fy(h:Inv P T){a col:Nat}(aN:a<P.m)(af:col<P.n)(aC:T.M a col≠0):Inv P (T.fy a col):=
 ⟨h.bj.fy aN af,λz=>(h.fJ z).trans (FJ.fy h.bj aN af aC z),h.val,λf=>by
  rw[<-h.sum f,sO af,sO (f:=λk=>f (T.aj k)) af,sO aN,sO (f:=λi=>f (T.rows i)) aN];have ao:bs (λk=>if k=col then 0 else f ((T.fy a col).aj k)) P.n=bs (λk=>if k=col then 0 else f (T.aj k)) P.n:=eB λk _=>by
   by_cases e:k=col
   ·simp[e]
   ·simp only[e,if_false];show f (if k=col then _ else _)=_;rw[aU e]
  have e2:bs (λi=>if i=a then 0 else f ((T.fy a col).rows i)) P.m=bs (λi=>if i=a then 0 else f (T.rows i)) P.m:=eB λk _=>by
   by_cases e:k=a
   ·simp[e]
   ·simp only[e,if_false];show f (if k=a then _ else _)=_;rw[aU e]
  rw[ao,e2];have bd:f ((T.fy a col).aj col)=f (T.rows a):=by show f (if col=col then _ else _)=_;rw[bm rfl]
  have b1:f ((T.fy a col).rows a)=f (T.aj col):=by show f (if a=a then _ else _)=_;rw[bm rfl]
  rw[bd,b1];grind⟩
theorem Qo(h:fh P T){col:Nat}(af:col<P.n){q:Rat}{i:Nat}(ad:i<P.m):∀k,k<=P.m->iT T col q k (T.rows i)=if i<k then T.v (T.rows i)+T.M i col*q else T.v (T.rows i)
 | 0,_=>by simp[iT,h.rc i col ad af]
 | k+1,ag=>by
   show(if T.rows i=T.rows k then iT T col q k (T.rows i)+T.M k col*q else iT T col q k (T.rows i))=_;rw[Qo h af ad k (by omega)];by_cases e:i=k
   ·subst e;simp
   ·have:T.rows i≠T.rows k:=λe2=>e (h.qM i k ad (by omega) e2);rw[aU this];by_cases U:i<k
    ·rw[bm U,bm (by omega)]
    ·rw[aU U,aU (by omega)]
theorem Zg(h:fh P T){col:Nat}(af:col<P.n){q:Rat}{j:Nat}(aH:j<P.n):∀k,k<=P.m->iT T col q k (T.aj j)=if j=col then T.v (T.aj j)+q else T.v (T.aj j)
 | 0,_=>by
   show(if T.aj j=T.aj col then _ else _)=_;by_cases e:j=col
   ·simp[e]
   ·rw[aU e,aU λe2=>e (h.ci j col aH af e2)]
 | k+1,ag=>by
   show(if T.aj j=T.rows k then iT T col q k (T.aj j)+T.M k col*q else iT T col q k (T.aj j))=_;rw[aU λe=>h.rc k j (by omega) aH e.symm,Zg h af aH k (by omega)]
theorem Qp(h:fh P T){col:Nat}(af:col<P.n){q:Rat}{i:Nat}(ad:i<P.m):(T.iC P col q).v (T.rows i)=T.v (T.rows i)+T.M i col*q:=by
 have:=Qo h af (q:=q) ad P.m (bR _);rwa [bm ad]at this
theorem CQ(h:fh P T){col:Nat}(af:col<P.n){q:Rat}{j:Nat}(aH:j<P.n):(T.iC P col q).v (T.aj j)=if j=col then T.v (T.aj j)+q else T.v (T.aj j):=Zg h af aH P.m (bR _)
theorem Inv.iC(h:Inv P T){col:Nat}(af:col<P.n)(q:Rat):Inv P (T.iC P col q):=by
 refine⟨⟨h.bj.r,h.bj.c,h.bj.qM,h.bj.ci,h.bj.rc,h.bj.mE⟩,h.fJ,?_,h.sum⟩;refine(h.fJ _).2 λi ad=>?_;have aD:=(h.fJ _).1 h.val i ad;rw[Qp h.bj af ad,aD,sO af,sO (f:=λk=>T.M i k*(T.iC P col q).v (T.aj k)) af,CQ h.bj af af,bm rfl];have:bs (λk=>if k=col then 0 else T.M i k*(T.iC P col q).v (T.aj k)) P.n=bs (λk=>if k=col then 0 else T.M i k*T.v (T.aj k)) P.n:=eB λk ag=>by
  by_cases e:k=col
  ·simp[e]
  ·simp only[e,if_false,CQ h.bj af ag]
 rw[this];grind
end
def uB(P:cr)(v:Nat->Rat)(x:Nat):Int:=match P.up x with
 | some u=>if u<v x then -1 else 0
 | none=>0
def off(P:cr)(v:Nat->Rat)(x:Nat):Int:=match P.lo x with
 | some l=>if v x<l then 1 else uB P v x
 | none=>uB P v x
def can(P:cr)(v:Nat->Rat)(x:Nat)(way:Int):Bool:=if 0<way then(match P.up x with
    | none=>true
    | some u=>decide (v x<u)) else(match P.lo x with
    | none=>true
    | some l=>decide (l<v x))
def oS(P:cr)(v:Nat->Rat)(x:Nat):Prop:=(∀l,P.lo x=some l->l<=v x)/\∀u,P.up x=some u->v x<=u
theorem Zh{P:cr}{v:Nat->Rat}{x:Nat}(h:off P v x=0):oS P v x:=by
 unfold off uB at h;refine⟨λl aO=>?_,λu hu=>?_⟩
 ·rw[aO]at h;simp only at h;by_cases aw:v x<l
  ·rw[bm aw]at h;omega
  ·exact hA.1 aw
 ·rw[hu]at h;simp only at h;have aa:(if u<v x then(-1:Int) else 0)=0:=by
   cases aO:P.lo x with
   | none=>rw[aO]at h;exact h
   | some l=>
     rw[aO]at h;simp only at h;by_cases aw:v x<l
     ·rw[bm aw]at h;omega
     ·rwa [aU aw]at h
  by_cases aw:u<v x
  ·rw[bm aw]at aa;omega
  ·exact hA.1 aw
theorem yj{P:cr}{v:Nat->Rat}{x:Nat}(h:off P v x≠0):(off P v x=1/\∃l,P.lo x=some l/\v x<l)∨(off P v x=-1/\∃u,P.up x=some u/\u<v x):=by
 have hu:uB P v x≠0->(uB P v x=-1/\∃u,P.up x=some u/\u<v x):=by
  unfold uB
  cases hu:P.up x with
  | none=>simp
  | some u=>
    simp only;by_cases aw:u<v x
    ·simp[aw]
    ·simp[aw]
 unfold off at h|-
 cases aO:P.lo x with
 | none=>rw[aO]at h;exact .inr (hu h)
 | some l=>
   rw[aO]at h;simp only at h|-;by_cases aw:v x<l
   ·rw[bm aw];exact .inl ⟨rfl,l,rfl,aw⟩
   ·rw[aU aw]at h|-;exact .inr (hu h)
theorem JS{P:cr}{v:Nat->Rat}{x:Nat}{w:Int}(hw:0<w)(h:can P v x w=false):∃u,P.up x=some u/\u<=v x:=by
 unfold can at h;rw[bm hw]at h
 cases hu:P.up x with
 | none=>rw[hu]at h;cases h
 | some u=>rw[hu]at h;exact⟨u,rfl,hA.1 (by simpa using h)⟩
theorem JT{P:cr}{v:Nat->Rat}{x:Nat}{w:Int}(hw:¬0<w)(h:can P v x w=false):∃l,P.lo x=some l/\v x<=l:=by
 unfold can at h;rw[aU hw]at h
 cases hu:P.lo x with
 | none=>rw[hu]at h;cases h
 | some u=>rw[hu]at h;exact⟨u,rfl,hA.1 (by simpa using h)⟩
theorem FK{P:cr}{v:Nat->Rat}{x:Nat}{w:Int}(hw:0<w)(h:can P v x w=true):∀u,P.up x=some u->v x<u:=by
 intro u hu;unfold can at h;rw[bm hw,hu]at h;simpa using h
theorem FL{P:cr}{v:Nat->Rat}{x:Nat}{w:Int}(hw:¬0<w)(h:can P v x w=true):∀l,P.lo x=some l->l<v x:=by
 intro u hu;unfold can at h;rw[aU hw,hu]at h;simpa using h
section
variable{α:Type}(f:α->Option α)
def oT:Nat->α->Option α
 | 0,a=>some a
 | k+1,a=>match f a with
   | none=>none
   | some b=>oT k b
def Ends(a:α):Prop:=∃k,oT f k a=none
variable{f}
theorem Ends.next{a b:α}(h:Ends f a)(e:f a=some b):Ends f b:=by
 obtain⟨k,ag⟩:=h
 cases k with
 | zero=>cases ag
 | succ k=>
   rw[oT,e]at ag;exact⟨k,ag⟩
theorem Ends.least{a:α}(h:Ends f a):∃k,oT f k a=none/\∀j,j<k->oT f j a≠none:=by
 obtain⟨k,ag⟩:=h;obtain⟨c,_,_,dy,iZ⟩:=Zf (p:=λk=>oT f k a=none) (Nat.zero_le k) ag;exact⟨c,dy,λj aH=>iZ j (Nat.zero_le _) aH⟩
open Classical in
noncomputable def left(f:α->Option α)(a:α):Nat:=if h:Ends f a then Classical.choose (Ends.least h) else 0
theorem Zi{a b:α}(h:Ends f a)(e:f a=some b):left f b<left f a:=by
 have ai:=h.next e;unfold left;rw[dif_pos h,dif_pos ai];obtain⟨U,_⟩:=bYi h.least;obtain⟨_,g2⟩:=bYi ai.least;generalize Classical.choose h.least=n at*
 generalize Classical.choose ai.least=m at*
 cases n with
 | zero=>cases U
 | succ n=>
   rw[oT,e]at U;apply oa;intro aF;exact g2 n (by omega) U
theorem Zj{a:α}(h:¬Ends f a):∃st:Nat->α,st 0=a/\∀t,f (st t)=some (st (t+1)):=by
 have aG:∀(k:Nat) (a:α),oT f (k+1) a=(match oT f k a with | none=>none | some b=>f b):=by
  intro k
  induction k with
  | zero=>intro a;cases e:f a<;>simp[oT,e]
  | succ k ih=>
    intro a;rw[oT]
    cases e:f a with
    | none=>simp only[oT,e]
    | some b=>simp only;rw[ih b];simp only[oT,e]
 have JU:∀k,∃b,oT f k a=some b:=λk=>by
  cases e:oT f k a with
  | none=>exact absurd ⟨k,e⟩ h
  | some b=>exact⟨b,rfl⟩
 refine⟨λk=>Classical.choose (JU k),?_,λt=>?_⟩
 ·have:=bYi (JU 0);exact(bZI this).symm
 ·have U:=bYi (JU t);have aa:=bYi (JU (t+1));have aq:=aG t a;rw[U]at aq;exact aq.symm.trans aa
end
def uC(P:cr)(T:b8):Option Nat:=fX (λi=>decide (off P T.v (T.rows i)≠0)) T.rows P.m
def sP(P:cr)(T:b8)(a:Nat)(way:Int):Option Nat:=fX (λk=>decide (T.M a k≠0)&&can P T.v (T.aj k) (way*cT (T.M a k))) T.aj P.n
def goal(P:cr)(x:Nat)(way:Int):Rat:=if way<0 then(P.up x).getD 0 else(P.lo x).getD 0
def z'(P:cr)(T:b8)(a col:Nat):Rat:=(goal P (T.rows a) (off P T.v (T.rows a))-T.v (T.rows a))/T.M a col
def l2(P:cr)(T:b8)(a col:Nat):b8:=(T.iC P col (z' P T a col)).fy a col
def rO(P:cr)(T:b8):Option b8:=match uC P T with
 | none=>none
 | some a=>(match sP P T a (off P T.v (T.rows a)) with
   | none=>none
   | some col=>some (l2 P T a col))
def Aa(P:cr)(T:b8):Prop:=∀k,k<P.n->oS P T.v (T.aj k)
structure wA(P:cr)(T:b8)(a col:Nat):Prop where
 aN:a<P.m
 af:col<P.n
 off:off P T.v (T.rows a)≠0
 Qq:∀i,i<P.m->C.off P T.v (T.rows i)≠0->T.rows a<=T.rows i
 uD:T.M a col≠0
 can:can P T.v (T.aj col) (C.off P T.v (T.rows a)*cT (T.M a col))=true
 FM:∀k,k<P.n->T.M a k≠0->C.can P T.v (T.aj k) (C.off P T.v (T.rows a)*cT (T.M a k))=true->T.aj col<=T.aj k
theorem Zk{P:cr}{T dY:b8}(h:rO P T=some dY):∃a col,wA P T a col/\dY=l2 P T a col:=by
 unfold rO at h;split at h
 ·cases h
 ·rename_i a aN;split at h
  ·cases h
  ·rename_i col af;obtain⟨cx,a2,a3⟩:=zWd aN;obtain⟨cy,dd,dy⟩:=zWd af;simp only[cG,eh]at a2 a3 dd dy;exact⟨a,col,⟨cx,cy,a2,a3,dd.1,dd.2,λk ag U aa=>dy k ag ⟨U,aa⟩⟩,(bZI h).symm⟩
section
variable{P:cr}
theorem lq{q:Rat}(h:q≠0):(0<q/\cT q=1)∨(q<0/\cT q=-1):=by
 unfold cT;by_cases U:q<0
 ·exact .inr ⟨U,by simp[U]⟩
 ·exact .inl ⟨by grind,by simp[U,h]⟩
theorem ay7{x:Nat}{v w:Nat->Rat}{M:Rat}{way:Int}(dp:M≠0)(kn:way=1∨way=-1)(af:can P v x (way*cT M)=false)(hw:oS P w x):(way:Rat)*(M*(w x-v x))<=0:=by
 have JV:∀u,P.up x=some u->u<=v x->w x-v x<=0:=λu U aa=>by have:=hw.2 u U;grind
 have ey:∀l,P.lo x=some l->v x<=l->0<=w x-v x:=λu U aa=>by have:=hw.1 u U;grind
 rcases lq dp with⟨aD,e⟩ | ⟨aD,e⟩<;>rcases kn with rfl | rfl<;>rw[e]at af
 ·obtain⟨u,U,aa⟩:=JS (by decide) af;have:=JV u U aa;have:0<=M*(v x-w x):=jr (mO aD) (by grind);simp;grind
 ·obtain⟨u,U,aa⟩:=JT (by decide) af;have:=ey u U aa;have:0<=M*(w x-v x):=jr (mO aD) this;simp;grind
 ·obtain⟨u,U,aa⟩:=JT (by decide) af;have:=ey u U aa;have:0<=(-M)*(w x-v x):=jr (by grind) this;simp;grind
 ·obtain⟨u,U,aa⟩:=JS (by decide) af;have:=JV u U aa;have:0<=(-M)*(v x-w x):=jr (by grind) (by grind);simp;grind
theorem ay8{x:Nat}{v w:Nat->Rat}{M:Rat}{way:Int}(dp:M≠0)(kn:way=1∨way=-1)(au:off P w x≠0)(aw:v x=goal P x (off P w x))(af:can P v x (way*cT M)=true):(way:Rat)*(M*(w x-v x))<=0:=by
 unfold goal at aw
 rcases yj au with⟨ao,l,aO,U⟩ | ⟨ao,u,hu,U⟩
 ·rw[ao,aU (by decide),aO]at aw;simp only[bZy]at aw;have mX:w x-v x<0:=by grind
  have tH:¬(way*cT M=-1):=λh=>by
   have:=FL (by rw[h];decide) af l aO;grind
  rcases lq dp with⟨aD,e⟩ | ⟨aD,e⟩<;>rcases kn with rfl | rfl
  ·have:0<=M*(v x-w x):=jr (mO aD) (by grind);simp;grind
  ·exact absurd (by rw[e];rfl) tH
  ·exact absurd (by rw[e];rfl) tH
  ·have:0<=(-M)*(v x-w x):=jr (by grind) (by grind);simp;grind
 ·rw[ao,bm (by decide),hu]at aw;simp only[bZy]at aw;have nR:0<w x-v x:=by grind
  have tH:¬(way*cT M=1):=λh=>by
   have:=FK (by rw[h];decide) af u hu;grind
  rcases lq dp with⟨aD,e⟩ | ⟨aD,e⟩<;>rcases kn with rfl | rfl
  ·exact absurd (by rw[e];rfl) tH
  ·have:0<=M*(w x-v x):=jr (mO aD) (by grind);simp;grind
  ·have:0<=(-M)*(w x-v x):=jr (by grind) (by grind);simp;grind
  ·exact absurd (by rw[e];rfl) tH
theorem Ab{v:Nat->Rat}{x:Nat}(h:off P v x≠0):off P v x=1∨off P v x=-1:=(yj h).imp (·.1) (·.1)
theorem ay9{x:Nat}{v w:Nat->Rat}(au:off P v x≠0)(hw:oS P w x):0<(off P v x:Rat)*(w x-v x):=by
 rcases yj au with⟨ao,l,aO,U⟩ | ⟨ao,u,hu,U⟩
 ·rw[ao];have:=hw.1 l aO;simp;grind
 ·rw[ao];have:=hw.2 u hu;simp;grind
def FN(P:cr):Prop:=∀x l u,P.lo x=some l->P.up x=some u->l<=u
theorem aza(aG:FN P){v w:Nat->Rat}{x:Nat}(au:off P v x≠0)(hw:w x=goal P x (off P v x)):oS P w x:=by
 unfold goal at hw
 rcases yj au with⟨ao,l,aO,U⟩ | ⟨ao,u,hu,U⟩
 ·rw[ao,aU (by decide),aO]at hw;simp only[bZy]at hw;refine⟨λl' h=>?_,λu h=>?_⟩
  ·rw[aO]at h;cases h;rw[hw];exact k3
  ·rw[hw];exact aG x l u aO h
 ·rw[ao,bm (by decide),hu]at hw;simp only[bZy]at hw;refine⟨λl h=>?_,λk5 h=>?_⟩
  ·rw[hw];exact aG x l u h hu
  ·rw[hu]at h;cases h;rw[hw];exact k3
theorem Qr{T:b8}(h:Inv P T){a col:Nat}(g:wA P T a col):(l2 P T a col).v (T.rows a)=goal P (T.rows a) (off P T.v (T.rows a)):=by
 show(T.iC P col _).v (T.rows a)=_;rw[Qp h.bj g.af g.aN,z'];have:=g.uD;grind
theorem Zl{T:b8}(h:Inv P T){a col:Nat}(g:wA P T a col):Inv P (l2 P T a col):=(h.iC g.af _).fy g.aN g.af g.uD
theorem Zm(aG:FN P){T:b8}(h:Inv P T)(aF:Aa P T){a col:Nat}(g:wA P T a col):Aa P (l2 P T a col):=by
 intro k ag;show oS P (l2 P T a col).v (if k=col then T.rows a else T.aj k);by_cases e:k=col
 ·rw[bm e];exact aza aG g.off (Qr h g)
 ·rw[aU e];have:(l2 P T a col).v (T.aj k)=T.v (T.aj k):=by
   show(T.iC P col _).v (T.aj k)=_;rw[CQ h.bj g.af ag,aU e]
  obtain⟨U,aa⟩:=aF k ag;exact⟨λl aO=>by rw[this];exact U l aO,λl aO=>by rw[this];exact aa l aO⟩
structure Qs(P:cr)(st:Nat->b8)(a c:Nat->Nat)(L:Nat):Prop where
 go:∀t,t<L->wA P (st t) (a t) (c t)
 eF:∀t,t<L->st (t+1)=l2 P (st t) (a t) (c t)
 inv:∀t,t<=L->Inv P (st t)
 BP:∀t,t<=L->Aa P (st t)
def bas(P:cr)(T:b8)(x:Nat):Prop:=∃i,i<P.m/\T.rows i=x
theorem FO{T:b8}(h:fh P T){a col:Nat}(aN:a<P.m)(_bUQ:col<P.n)(x:Nat):bas P (T.fy a col) x↔(x=T.aj col∨(bas P T x/\x≠T.rows a)):=by
 constructor
 ·rintro⟨i,ad,e⟩;have e:(if i=a then T.aj col else T.rows i)=x:=e;by_cases U:i=a
  ·rw[bm U]at e;exact .inl e.symm
  ·rw[aU U]at e;exact .inr ⟨⟨i,ad,e⟩,λaa=>U (h.qM i a ad aN (e.trans aa))⟩
 ·rintro(rfl | ⟨⟨i,ad,rfl⟩,aa⟩)
  ·exact⟨a,aN,by show(if a=a then _ else _)=_;rw[bm rfl]⟩
  ·exact⟨i,ad,by show(if i=a then _ else _)=_;rw[aU λe=>aa (by rw[e])]⟩
theorem Zn{T:b8}(h:fh P T){x:Nat}(az:x<P.n+P.m)(aF:¬bas P T x):∃k,k<P.n/\T.aj k=x:=(h.mE x az).resolve_left aF
theorem Qs.core{st:Nat->b8}{a c:Nat->Nat}{L:Nat}(R:Qs P st a c L)(s t r:Nat)(gz:s<t)(aS:t<L)(aO:(st s).rows (a s)=r)(he:(st t).aj (c t)=r)
 (hle:∀u,s<=u->u<=t->(st u).rows (a u)<=r/\(st u).aj (c u)<=r) (dr:∀u,s<u->u<t->(st u).aj (c u)≠r):False:=by
 have gs:=R.go s (by omega);have gt:=R.go t aS;have is:=R.inv s (by omega);have it:=R.inv t (by omega);have z1:r<P.n+P.m:=by rw[<-aO];exact is.bj.r _ gs.aN
 have bT:∀u,u<L->∀x,x<P.n+P.m->¬bas P (st u) x->x≠(st u).aj (c u)->¬bas P (st (u+1)) x/\(st (u+1)).v x=(st u).v x:=by
  intro u hu x az ai aF;have g:=R.go u hu;have i:=R.inv u (by omega);obtain⟨k,ag,rfl⟩:=Zn i.bj az ai;rw[R.eF u hu];refine⟨λh=>?_,?_⟩
  ·rcases(FO (T:=(st u).iC P (c u) _) ⟨i.bj.r,i.bj.c,i.bj.qM,i.bj.ci,i.bj.rc,i.bj.mE⟩ g.aN g.af _).1 h with h | ⟨h,_⟩
   ·exact aF h
   ·exact ai h
  ·show((st u).iC P (c u) _).v _=_;rw[CQ i.bj g.af ag,aU λe=>aF (by rw[e])]
 have an:∀d,s+1+d<=t->¬bas P (st (s+1+d)) r/\(st (s+1+d)).v r=goal P r (off P (st s).v r):=by
  intro d
  induction d with
  | zero=>
    intro _;have e:=R.eF s (by omega);refine⟨λh=>?_,?_⟩
    ·have h:bas P (st (s+1)) r:=h;rw[e]at h;rcases(FO (T:=(st s).iC P (c s) _) ⟨is.bj.r,is.bj.c,is.bj.qM,is.bj.ci,is.bj.rc,is.bj.mE⟩ gs.aN gs.af _).1 h with h | ⟨_,h⟩
     ·exact is.bj.rc _ _ gs.aN gs.af (aO.trans h)
     ·exact h aO.symm
    ·show(st (s+1)).v r=_;rw[e,<-aO];exact Qr is gs
  | succ d ih=>
    intro aB;obtain⟨i1,i2⟩:=ih (by omega);obtain⟨av,aI⟩:=bT (s+1+d) (by omega) r z1 i1 λe=>dr _ (by omega) (by omega) e.symm;exact⟨av,aI.trans i2⟩
 obtain⟨sQ,Ac⟩:=an (t-(s+1)) (by omega);rw[show s+1+(t-(s+1))=t by omega]at sQ Ac;have nQ:∀j,r<j->j<P.n+P.m->∀d,s+d<=t->(bas P (st (s+d)) j↔bas P (st s) j)/\(¬bas P (st s) j->(st (s+d)).v j=(st s).v j):=by
  intro j aH sR d
  induction d with
  | zero=>exact λ_=>⟨Iff.rfl,λ_=>rfl⟩
  | succ d ih=>
    intro aB;obtain⟨i1,i2⟩:=ih (by omega);obtain⟨bn,bh⟩:=hle (s+d) (by omega) (by omega);have g:=R.go (s+d) (by omega);have i:=R.inv (s+d) (by omega);have e:=R.eF (s+d) (by omega);have ai:bas P (st (s+d+1)) j↔bas P (st (s+d)) j:=by
     rw[e];refine(FO (T:=(st (s+d)).iC P (c (s+d)) _) ⟨i.bj.r,i.bj.c,i.bj.qM,i.bj.ci,i.bj.rc,i.bj.mE⟩ g.aN g.af _).trans ⟨λh=>?_,λh=>.inr ⟨h,?_⟩⟩
     ·rcases h with h | ⟨h,_⟩
      ·have:j=(st (s+d)).aj (c (s+d)):=h;omega
      ·exact h
     ·show j≠(st (s+d)).rows (a (s+d));omega
    refine⟨ai.trans i1,λaF=>?_⟩;exact(bT (s+d) (by omega) j sR (λh=>aF (i1.1 h)) (by omega)).2.trans (i2 aF)
 have Zo:∀j,j<r->oS P (st s).v j:=by
  intro j aH
  rcases is.bj.mE j (by omega) with⟨i,ad,e⟩ | ⟨k,ag,e⟩
  ·refine Zh (oa λau=>?_);have:=gs.Qq i ad (by rw[e];exact au);omega
  ·rw[<-e];exact R.BP s (by omega) k ag
 obtain⟨x,az⟩:=bZa ((st t).rows (a t));have wB:x<r:=by
  have U:=(hle t (by omega) (bR _)).1;have aa:x≠r:=λe=>sQ ⟨a t,gt.aN,az.symm.trans e⟩;omega
 have kn:=Ab gt.off;rw[<-az]at kn;have au:=gt.off;rw[<-az]at au;have nR:=ay9 au (Zo x wB);have ao:=(it.fJ _).1 it.val (a t) gt.aN;have e2:=(it.fJ _).1 is.val (a t) gt.aN;rw[<-az]at ao e2;have gk:(off P (st t).v x:Rat)*((st s).v x-(st t).v x)=bs (λk=>(off P (st t).v x:Rat)*((st t).M (a t) k*((st s).v ((st t).aj k)-(st t).v ((st t).aj k)))) P.n:=by
  rw[jl,ao,e2,<-ay4];congr 1;exact eB λk _=>by grind
 have aGw:bs (λk=>(off P (st t).v x:Rat)*((st t).M (a t) k*((st s).v ((st t).aj k)-(st t).v ((st t).aj k)))) P.n<=0:=by
  have aD:bs (λ_=>(0:Rat)) P.n=0:=rN λ_ _=>rfl;rw[<-aD];refine FH λk ag=>?_;by_cases dp:(st t).M (a t) k=0
  ·rw[dp];have:(off P (st t).v x:Rat)*(0*((st s).v ((st t).aj k)-(st t).v ((st t).aj k)))=0:=by grind
   rw[this];exact k3
  ·have sR:=it.bj.c k ag;by_cases aH:(st t).aj k=r
   ·have sN:k=c t:=it.bj.ci _ _ ag gt.af (aH.trans he.symm);have hk:=gt.can;rw[<-az,<-sN,aH]at hk;rw[aH];exact ay8 dp kn (by rw[<-aO];exact gs.off) Ac hk
   ·by_cases JW:r<(st t).aj k
    ·have hL:¬bas P (st t) ((st t).aj k):=λ⟨i,ad,e⟩=>it.bj.rc i k ad ag e;obtain⟨bn,bh⟩:=nQ _ JW sR (t-s) (by omega);rw[show s+(t-s)=t by omega]at bn bh;rw[bh λh=>hL (bn.2 h)];have:(off P (st t).v x:Rat)*((st t).M (a t) k*((st s).v ((st t).aj k)-(st s).v ((st t).aj k)))=0:=by grind
     rw[this];exact k3
    ·refine ay7 dp kn ?_ (Zo _ (by omega));rw[az]
     cases hk:can P (st t).v ((st t).aj k) (off P (st t).v ((st t).rows (a t))*cT ((st t).M (a t) k)) with
     | false=>rfl
     | true=>
       have:=gt.FM k ag dp hk;omega
 rw[gk]at nR;grind
theorem azb(aG:FN P){T:b8}(h:Inv P T)(aF:Aa P T):Ends (rO P) T:=by
 apply oa;intro dr;obtain⟨st,aD,gz⟩:=Zj dr;have rM:∀t,∃p:Nat×Nat,wA P (st t) p.1 p.2/\st (t+1)=l2 P (st t) p.1 p.2:=λt=>by
  obtain⟨a,c,U,aa⟩:=Zk (gz t);exact⟨(a,c),U,aa⟩
 have hinv:∀t,Inv P (st t)/\Aa P (st t):=by
  intro t
  induction t with
  | zero=>rw[aD];exact⟨h,aF⟩
  | succ t ih=>
    obtain⟨p,g,e⟩:=rM t;rw[e];exact⟨Zl ih.1 g,Zm aG ih.1 ih.2 g⟩
 have R:Qs P st (λt=>(Classical.choose (rM t)).1) (λt=>(Classical.choose (rM t)).2) (3^(P.n+P.m)):=
  ⟨λt _=>(bYi (rM t)).1,λt _=>(bYi (rM t)).2,λt _=>(hinv t).1,λt _=>(hinv t).2⟩
 refine Qm (bas:=λt x=>bas P (st t) x) (lv:=λt=>(st t).rows ((Classical.choose (rM t)).1)) (en:=λt=>(st t).aj ((Classical.choose (rM t)).2)) (λt aS x=>?_) (λt aS=>?_) (λs t r U aa aq a8 cg dj=>R.core s t r U aa aq a8 cg dj) (P.n+P.m) 0 (λu _ hu=>?_) (by omega)
 ·have g:=R.go t aS;have i:=(hinv t).1;have key:∀dY a dL,dY=l2 P (st t) a dL->wA P (st t) a dL->(bas P dY x↔(x=(st t).aj dL∨(bas P (st t) x/\x≠(st t).rows a))):=λdY a dL e g=>by
   rw[e];exact FO (T:=(st t).iC P _ _) ⟨i.bj.r,i.bj.c,i.bj.qM,i.bj.ci,i.bj.rc,i.bj.mE⟩ g.aN g.af x
  exact key _ _ _ (R.eF t aS) g
 ·have g:=R.go t aS;have i:=(hinv t).1;exact⟨⟨_,g.aN,rfl⟩,λ⟨j,aH,e⟩=>i.bj.rc j _ aH g.af e⟩
 ·have g:=R.go u (by omega);have i:=(hinv u).1;exact⟨i.bj.r _ g.aN,i.bj.c _ g.af⟩
end
end Go.Dam.C
