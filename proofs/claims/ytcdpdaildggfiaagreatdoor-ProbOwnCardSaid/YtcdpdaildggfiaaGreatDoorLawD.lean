/- What the functions of the program compute, for every input. -/
import Derived.Test.YtcdpdaildggfiaaGreatDoorLawC
import Derived.Test.YtcdpdaildggfiaaGreatDoorLawB
import Derived.Test.YtcdpdaildggfiaaGreatDoorDamB
import Derived.Deep.Slices
import Derived.SliceStrings
namespace Go.Dam.C
open Go Go.Dam
variable{X:ar}{pm:Perm}{H aa bL aj:ad}{n:Nat}
theorem Ye(a:Bw X)(g:bs pm H){l:List UInt8}(g':l.length<1000000)(b:isNum l=true):Call X pm F.L' [aA l] H λr aa=>K pm H aa/\b9 aa r (rd l):=by
 refine Call.has a.L' rfl ?_;simp;refine aq.of (vX a.tozg g g') ?_;rintro r _ ⟨c,h⟩
 rcases h with⟨e,rfl⟩ | ⟨q,p,e,rfl,xm⟩
 ·simp[isNum,e]at b
 ·simp[rd,e];exact⟨c,xm⟩
def WN(o:Option Nat):Int:=match o with
 | some i=>(i:Int)
 | none=>-1
theorem Zf{a:List dy}{x:List (List UInt8)}(h:∀i,i<a.length->((a.getD i wQ).int&&decide ((fY x i).den≠1))=false):Bx a x=none:=by
 unfold Bx;rw[List.find?_range_eq_none];intro i a;rw[h i a];rfl
theorem Ze{a:List dy}{x:List (List UInt8)}{i:Nat}(aJ:i<a.length)(b:((a.getD i wQ).int&&decide ((fY x i).den≠1))=true)(h:∀j,j<i->((a.getD j wQ).int&&decide ((fY x j).den≠1))=false):Bx a x=some i:=by
 unfold Bx;rw[List.find?_range_eq_some];exact⟨b,VX.2 aJ,λj a=>by rw[h j a];rfl⟩
abbrev XH:Nat:=T.Z1
theorem Zg(o:Bw X)(g:bs pm H){p:Nat}{u v:Value}{D:List Value}{E:cz}{a:List dy}{x:List (List UInt8)}(G:H.get p=some (.cells (u::D) E))(I:gC H u a)(J:iN H v x)(g':x.length=a.length)(L:x.all isNum=true)(M:∀s∈x,s.length<=10000)(u:a.length<=1000):
 Call X pm F.Tu [.pointer (some ⟨p,0,none⟩),v] H λr aa=>K pm H aa/\r=.int .i64 (WN (Bx a x)):=by
 refine Call.kK o.Tu rfl ?_;obtain⟨N,O,rfl,P⟩:=I.at;obtain⟨Q,R,rfl,w⟩:=J.ex;rw[g']at w;obtain⟨b,l⟩:∃b:Nat->Bool,b=λi=>(a.getD i wQ).int&&decide ((fY x i).den≠1):=⟨_,rfl⟩;have S:(∀i,i<a.length->b i=false)->Bx a x=none:=λh=>Zf λi d=>by have:=h i d;rw[l]at this;exact this
 have T:∀i,i<a.length->b i=true->(∀j,j<i->b j=false)->Bx a x=some i:=λi d u h=>Ze d (by rw[l]at u;exact u) λj m=>by have:=h j m;rw[l]at this;exact this
 simp[G,-X1,-X2,-eL]
 refine eE (σ:=Unit) a.length (λ_ _=>[(0,.pointer (some ⟨p,0,none⟩)),(1,.slice Q x.length R),(11,.slice N a.length O)])
  (λi _ aa=>K pm H aa/\∀j,j<i->b j=false) () (by simp) ⟨K.refl g,λj m=>absurd m (hz _)⟩ ?_ ?_
 ·rintro i _ n d ⟨e,y⟩;have f:=e.h;obtain⟨_,F,_,H,_,rfl,U,V,W,c,X,rfl⟩:=P i d;obtain⟨_,_,_,_,_,Y,Z,f3,f4,s,z,rfl⟩:=w i d;subst Y;have u:a.getD i wQ=c:=by rw[il,X];rfl
  have v:fY x i=rd s:=by simp[fY,List.getD,z]
  have p:b i=(c.int&&decide ((rd s).den≠1)):=by rw[l];show((a.getD i wQ).int&&decide ((fY x i).den≠1))=_;rw[u,v]
  have A:b i=false->∀j,j<i+1->b j=false:=λh j m=>by
   by_cases g:j=i
   ·subst g;exact h
   ·exact y j (by omega)
  have a:=eB z;have aa:isNum s=true:=(eD.1 L) s a;have ab:=M s a;have ad:=e.some g U;have ae:=e.some g Z;obtain⟨q,r⟩:∃q,q=n.next:=⟨_,rfl⟩;obtain⟨B,t⟩:∃a,a=(n.new (.cells [.string ⟨#[]⟩,.string ⟨#[]⟩,.string ⟨#[]⟩,.string ⟨#[]⟩,.bool false] (.t XH))).put q (.cells [aA c.name,aA c.low,aA c.up,aA c.cost,.bool c.int] (.t XH)):=⟨_,rfl⟩;have k:K pm n B:=by rw[t,r];exact ic f _ _
  have g2:=k.h;have a:B.get q=some (.cells [aA c.name,aA c.low,aA c.up,aA c.cost,.bool c.int] (.t XH)):=by rw[t];exact b1
  have b:∀x,(n.new x).get q=some x:=λx=>by rw[r];exact b4
  have h:pm.may q=true:=f.may (by omega);have af:=k.some f ae;have j:bx H (F+i*5) 5=some [aA c.name,aA c.low,aA c.up,aA c.cost,.bool c.int]:=W;simp[d,ad,V,j,f.pick,f.make,ptr,bB,<-r,b,h,setCells,<-t,a,-V8,-VN,-eL]
  cases C:c.int with
  | false=>
    simp[bz,-V8,-VN,-eL];refine aq.not ?_;simp[-WE,-VN,-eL];refine aq.not ?_;simp[bz,-eL];exact⟨e.trans k,A (by rw[p,C];rfl)⟩
  | true=>
    simp[g',d,af,f3,f4,-V8,-VN,-eL];refine aq.of (az:=[aA s]) (Ye o g2 (by omega) aa) ?_;rintro u _ ⟨g,a⟩;have b:=g.h;simp[-WE,-VN,-eL];refine aq.of (az:=[u]) (Zb o.tozg b a.of (CS ab)) ?_;rintro _ _ ⟨rfl,rfl⟩;by_cases a:(rd s).den=1
    ·simp[a,-eL];exact⟨(e.trans k).trans g,A (by rw[p,a];simp)⟩
    ·simp[a];refine⟨(e.trans k).trans g,?_⟩;rw[T i d (by rw[p,C];simp[a]) y];rfl
 ·rintro _ _ ⟨a,b⟩;simp;exact⟨a,by rw[S b];rfl⟩
def Oc(cs:List dy)(i:Nat)(ah up:List UInt8):List dy:=cs.set i {cs.getD i wQ with low:=ah,up:=up}
theorem Yg(s:Bw X)(g:bs pm H){t:Value}{cs:List dy}{ak i:Nat}{ah up:List UInt8}(u:dk H ak t cs.length 5 (y4 cs))(aJ:i<cs.length)(E:cs.length<=1000):
 Call X pm F.Ob [t,.int .i64 (i:Int),aA ah,aA up] H λr aa=>K pm H aa/\dk aa H.next r (Oc cs i ah up).length 5 (y4 (Oc cs i ah up)):=by
 refine Call.P s.Ob rfl λ_ G=>?_;obtain⟨I,J,k,_⟩:=id u;subst k;simp[-XX,-XW];refine aq.of (az:=[.slice I cs.length J]) (vO (w:=5) (cc:=72) s.pI g u E (λi cs ⟨c,_,k⟩=>by rw[k];rfl)) ?_;rintro r v ⟨x,M,N,O⟩;have k:=x.h;obtain⟨b,L,h,P,rfl,y,l⟩:=N.pos (by omega);have z:∀j,j<cs.length->M j=(cs.getD j wQ).cells:=λj e=>by
  obtain⟨c,d,g⟩:=O j e;rw[g,il,d];rfl
 obtain⟨a,m⟩:∃n,n=L.set (i*5+1) (aA ah):=⟨_,rfl⟩;obtain⟨f,B⟩:∃n,n=a.set (i*5+2) (aA up):=⟨_,rfl⟩;obtain⟨o,p⟩:∃A,A=v.put b (.cells a (.n 5)):=⟨_,rfl⟩;obtain⟨C,q⟩:∃A,A=o.put b (.cells f (.n 5)):=⟨_,rfl⟩;have k:=l.lt aJ (show 1<5 by decide);have n:=l.lt aJ (show 2<5 by decide);have s:setCells L (i*5+1) [aA ah]=some a:=by rw[m];exact setCells_one k
 have t:setCells a (i*5+2) [aA up]=some f:=by rw[B];exact setCells_one (by rw[m];simpa using n)
 have k:o.get b=some (.cells a (.n 5)):=by rw[p];exact b1
 have Q:C.get b=some (.cells f (.n 5)):=by rw[q];exact b1
 have n:c0 a 5 cs.length λj=>(if j=i then{cs.getD i wQ with low:=ah} else cs.getD j wQ:dy).cells:=by
  rw[m];exact l.set aJ (by decide) _ (by rw[z i aJ];simp[dy.cells]) λj e a=>by simp[a,z j e]
 have R:c0 f 5 cs.length λj=>(if j=i then{cs.getD i wQ with low:=ah,up:=up} else cs.getD j wQ:dy).cells:=by
  rw[B];exact n.set aJ (by decide) _ (by simp[dy.cells]) λj _ a=>by simp[a]
 have a:pm.may b=true:=g.may h;have l:K pm H o:=by rw[p];exact aF.put x h y (by simp) _
 have m:K pm H C:=by rw[q];exact aF.put l h k (by simp) _
 simp[aJ,y,s,a,<-p,k,t,<-q];refine G _ _ _ ?_;simp;have D:(Oc cs i ah up).length=cs.length:=by simp[Oc]
 rw[D];refine⟨m,dR.e (ah:=H.next) (aJ:=v.next) (.inr ⟨b,f,h,P,rfl,Q,R⟩) λj e=>?_⟩;refine⟨_,?_,rfl⟩;have a:j<(Oc cs i ah up).length:=by rw[D];exact e
 have:=Zt (cs:=cs) (i:=i) (j:=j) (c:={cs.getD i wQ with low:=ah,up:=up}) (d:=wQ) aJ;rw[<-this];show(Oc cs i ah up)[j]? = some ((Oc cs i ah up).getD j wQ);rw[il,eu a];rfl
end Go.Dam.C
namespace Go.Dam.C
open Go Go.Dam
variable{X:ar}{pm dC:Perm}{H aa bL aj:ad}{n p mB cA q' uy wh rP:Nat}{GI Ni Aj:Value}{deep:Bool}{s:n6}{cs:List dy}
theorem sl.perm(k:sl pm p mB cA uy wh H aa)(a:dC.num=none)(b:dC.ah<=aa.next):sl dC p mB cA uy wh H aa:=⟨k.h.perm a b,k.next,k.get,k.cr,k.t,k.r⟩
theorem wi.k(h:wi H p GI Ni deep rP s mB cA q')(g:bs pm H)(k:K pm H aa):wi aa p GI Ni deep rP s mB cA q':=by
 obtain⟨d,c,f,i,j,l,a,m,n,o,r⟩:=h;have e:∀b y,ti p mB cA b->H.get b=some y->ti p mB cA b/\aa.get b=some y:=λb y a e=>⟨a,k.some g e⟩;exact⟨d,⟨c.1.imp λ_ q=>k.some g q,c.2.imp λ_ q=>k.some g q⟩,f,i,j,l,k.some g a,m.imp e λL q=>k.some g q,n.imp (λb y a h=>⟨a,(e b y a.f h).2⟩) λL q=>k.some g q,o.imp (λb y a h=>⟨a,(e b y a.f h).2⟩),r.up k⟩
theorem wi.lt(h:wi H p GI Ni deep rP s mB cA q')(g:bs pm H):p<H.next/\mB<H.next/\cA<H.next:=by
 obtain⟨_,⟨⟨_,a⟩,_,b⟩,_,_,_,_,c,_⟩:=h;exact⟨g.lt c,g.lt a,g.lt b⟩
theorem wi.new(h:wi H p GI Ni deep rP s mB cA q')(g:bs pm H){ak k w:Nat}{v:Value}{P:Nat->List Value->Prop}(a:dk aa ak v k w P)(b:H.next<=ak):Ah aa (ti p mB cA) v k w P:=by
 obtain⟨_,_,_⟩:=h.lt g;exact a.p.imp (λ_ _ _ e=>⟨⟨by omega,by omega,by omega⟩,e⟩) λ_ _ _ h=>h
theorem b9.YK(k:sl pm p mB cA uy wh H aa){w:Value}{q:Rat}(h:b9 H w q):b9 aa w q:=let ⟨b,a,c⟩:=h;⟨b,a,k.cr b _ c⟩
theorem yN.set{A:Nat->Prop}{v xt:Value}{l:List Ai}(h:yN H A cA v l){k:Nat}(q:k<l.length)(x:Ai)(g:Bg H A xt x.d)(j:∀b,A b->b≠cA):
 ∃L kB,v=.slice (some ⟨cA,0,none⟩) l.length l.length/\H.get cA=some (.cells L (.n 5))/\L.length=l.length*5/\setCells L (k*5) (x.cells xt)=some kB/\yN (H.put cA (.cells kB (.n 5))) A cA v (l.set k x):=by
 rcases h with⟨_,e⟩ | ⟨rfl,L,cF,f,dw,gZ⟩
 ·grind
 ·have m:=dw.1;have a:k*5+5<=l.length*5:=by omega
  have n:∃kB,setCells L (k*5) (x.cells xt)=some kB:=by
   unfold setCells;rw[cg,ix (show k*5+(x.cells xt).length<=L.length by simp[Ai.cells];omega)];exact⟨_,rfl⟩
  obtain⟨kB,c⟩:=n;obtain⟨_,_,o⟩:=Dc c;have p:(x.cells xt).length=5:=rfl;have d:∀b y,A b->H.get b=some y->A b/\(H.put cA (.cells kB (.n 5))).get b=some y:=λb y a e=>⟨a,by rw[a7 (h:=j b a)];exact e⟩;refine⟨L,kB,rfl,cF,m,c,.inr ⟨by simp,kB,b1,λj=>if j=k then x.cells xt else f j,⟨by simp;omega,λj a=>?_⟩,λi c=>?_⟩⟩
  ·have a:j<l.length:=by simpa using a
   by_cases e:j=k
   ·grind
   ·simp only[e,if_false];refine⟨(dw.2 j a).1,λq b=>?_⟩;rw[o,p,aC (by omega)];exact(dw.2 j a).2 q b
  ·have b:i<l.length:=by simpa using c
   by_cases e:i=k
   ·subst e;simp only[List.getElem_set_self,if_true];exact⟨xt,rfl,g.imp d⟩
   ·simp only[List.getElem_set_ne (Ne.symm e),e,if_false];exact(gZ i b).imp λxt q=>⟨q.1,q.2.imp d⟩
theorem wi.node(h:wi H p GI Ni deep rP s mB cA q')(g:bs pm H){k:Nat}(b:k<s.tree.length)(x:Ai){xt:Value}(f:Bg H (Bv p mB cA) xt x.d):
 ∃L kB d i,H.get p=some (.cells (GI::Ni::.bool deep::.int .i64 (rP:Int)::d::.slice (some ⟨cA,0,none⟩) s.tree.length s.tree.length::i) (.t zd))/\H.get cA=some (.cells L (.n 5))/\L.length=s.tree.length*5/\setCells L (k*5) (x.cells xt)=some kB/\
  wi (H.put cA (.cells kB (.n 5))) p GI Ni deep rP {s with tree:=s.tree.set k x} mB cA q'/\sl pm p mB cA mB cA H (H.put cA (.cells kB (.n 5))):=by
 obtain⟨j,l,c,_,m,o,a,q,r,t,v⟩:=h;obtain⟨L,kB,rfl,d,i,w,z⟩:=r.set b x f λb a=>a.2.2;have r:p≠cA:=λe=>by grind
 have f:∀b y,ti p mB cA b->H.get b=some y->ti p mB cA b/\(H.put cA (.cells kB (.n 5))).get b=some y:=λb y a e=>⟨a,by rw[a7 (h:=a.2.2)];exact e⟩;have u:=aF.put (n:=0) (.refl g) (Nat.zero_le _) d (by simp) (.cells kB (.n 5));refine⟨L,kB,c,_,a,d,i,w,⟨j,⟨?_,_,b1⟩,c,_,m,o,by rw[a7 (h:=r)];simpa using a,q.imp f λ_ e=>?_,by simpa using z,t.imp (λb y a e=>⟨a,(f b y a.f e).2⟩),v.up u⟩,⟨u.h,u.next,λb _ h=>a7 (h:=h.2.2),u.cr,.inl rfl,.inl rfl⟩⟩
 ·by_cases e:mB=cA
  ·simp_all
  ·rw[a7 (h:=e)];exact l.1
 ·by_cases a:mB=cA
  ·grind
  ·rw[a7 (h:=a)];exact e
abbrev XI:Nat:=T.Z0
theorem getD_at{cs:List dy}{i:Nat}(aJ:i<cs.length):cs[i]? = some (cs.getD i wQ):=by
 grind
theorem Zd(f:Bw X)(g:bs pm H)(aK:pm.ah<=p)(h:wi H p GI Ni deep rP s mB cA q'){k i:Nat}(W:Ah H (ti p mB cA) Aj cs.length 5 (y4 cs))(hk:k<s.tree.length)(aJ:i<cs.length)(aL:cs.length<=1000){w:Value}{v:Rat}(hw:b9 H w v)
 (sv:bw v=true) (sf:bw (v.floor:Rat)=true) (aW:bw ((v.floor:Rat)+1)=true) (hn:s.tree.length<=900) (ht:s.todo.length<=900):
 Call X pm F.Tt [.pointer (some ⟨p,0,none⟩),.agg #[.int .i64 (k:Int),Aj],.int .i64 (i:Int),w] H λ_ aa=>∃uy wh aX,wi aa p GI Ni deep rP (s.branch k cs i v) uy wh aX/\sl pm p mB cA uy wh H aa:=by
 refine Call.P f.Tt rfl λ_ hQ=>?_;obtain⟨cb,Y,Z⟩:=W.form;obtain⟨_,_,e2,_,aY⟩:=id W;subst Z;cases e2;have aX:cb≠none:=λZ=>by grind
 cases cb with
 | none=>grind
 | some _=>
 obtain⟨b,N,y,aZ,rfl,_,hy,a1,_,a6⟩:=aY _ rfl;obtain⟨_,aM,_,aN,rfl⟩:=a6 i aJ;rw[getD_at aJ]at aN;cases aN;obtain⟨c,hc⟩:∃c,c=cs.getD i wQ:=⟨_,rfl⟩;rw[<-hc]at aM;have a7:bx aZ (N+i*5) 5=some [aA c.name,aA c.low,aA c.up,aA c.cost,.bool c.int]:=aM;obtain⟨l,al⟩:∃b,b=H.next:=⟨_,rfl⟩;obtain⟨H1,ab⟩:∃A,A=H.new (.cells [.int .i64 (k:Int),.slice (some ⟨b,N,none⟩) cs.length Y] (.t Br)):=⟨_,rfl⟩;have k1:K pm H H1:=by rw[ab];exact K.new g _
 have g1:=k1.h;have n1:H1.next=l+1:=by rw[ab,al];rfl
 have aM:H1.get l=some (.cells [.int .i64 (k:Int),.slice (some ⟨b,N,none⟩) cs.length Y] (.t Br)):=by rw[ab,al];exact b4
 simp[g.pick,g.make,ptr,<-al,<-ab,-X0,-XZ];refine aq.of (az:=[w]) (Y8 f.tozg g1 (hw.up k1).of sv) ?_;rintro r H2 ⟨k2,a8⟩;have O:=k2.h;have ab:=k2.next;have aO:=k1.trans k2;have aP:=k2.some g1 aM;have a_:=aO.some g hy;obtain⟨j,B⟩:∃b,b=H2.next:=⟨_,rfl⟩;have ba:pm.may j=true:=O.may (by omega);have bb:∀ab,(H2.new ab).get j=some ab:=λab=>by simp_all
 obtain⟨t,ad⟩:∃A,A=(H2.new (.cells [.string ⟨#[]⟩,.string ⟨#[]⟩,.string ⟨#[]⟩,.string ⟨#[]⟩,.bool false] (.t XI))).put j (.cells [aA c.name,aA c.low,aA c.up,aA c.cost,.bool c.int] (.t XI)):=⟨_,rfl⟩;have k3:K pm H2 t:=by rw[ad,B];exact ic O _ _
 have q:=k3.h;have n3:t.next=j+1:=by rw[ad,B];rfl
 have ae:=aO.trans k3;have an:t.get j=some (.cells [aA c.name,aA c.low,aA c.up,aA c.cost,.bool c.int] (.t XI)):=by rw[ad];exact b1
 have ao:=k3.some O aP;have af:=a8.up k3;have ar:=h.k g ae;simp[aP,aJ,a_,a1,a7,O.pick,O.make,ptr,bB,<-B,bb,ba,setCells,<-ad,-XY];refine cy.of q.ah rfl ?_;obtain⟨z,P⟩:∃z,z=t.next:=⟨_,rfl⟩;have Q:K pm t (t.up 11):=(K.refl q).up 11;have au:=λu=>(by rw[P];exact q.none u:(t.up 11).get (z+u)=none);have O:=(by rw[P];exact q.J:(t.up 11).get z=none);rw[<-P];simp[b7,au,O,ao,an];refine eM Q.h (az:=[r]) (by simp[au]) rfl (λdC d=>jR d (tv f.tozg d (af.up Q).of sf)) ?_;rintro _ _-⟨rfl,rfl⟩;simp;refine gS Q.h (az:=[.slice (some ⟨b,N,none⟩) cs.length Y,.int .i64 (i:Int),aA c.low,aA (cZ (v.floor:Rat))]) (by simp[au]) rfl (λdC d=>Yg f d (W.e.imp ((ae.trans Q).ext g) λ_ _ _ h=>h) aJ aL) ?_;rintro r4 _ O h4;have R:=O.h;have G:=K.trans Q O;have av:=O.res q;rw[<-P]at av;have bc:=ar.k q G;have Q:(t.up 11).next=z+11:=by rw[P];rfl
 have t:=O.next;have t:Oc cs i c.low (cZ (v.floor:Rat))=Sr cs i (cZ (v.floor:Rat)):=by rw[hc];rfl
 rw[t]at h4;have bd:=ar.new q h4 (by omega);obtain⟨_,_,_⟩:=ar.lt q;obtain⟨_,_,_⟩:=h.lt g;simp;refine fL.fixed (az:=[.pointer (some ⟨p,0,none⟩),r4]) (by simp[av]) (by simp) (by simp) rfl (WM f (R.perm rfl R.ah) aK bc bd (by omega) (by omega)) ?_;rintro _ I ⟨bf,bg,_,rfl,aw,e⟩;have e:=e.perm (dC:=pm) g.num (by have:=e.next;grind);have a:=e.h;have t:=e.next;have f5:ti p mB cA l:=⟨by omega,by omega,by omega⟩;have t:ti p mB cA j:=⟨by omega,by omega,by omega⟩;have S:=e.some R f5 (G.some q ao);have ag:=e.some R t (G.some q an);have ai:=(af.up G).YK e;have bh:=e.YL R (W.imp (λb y q Z=>⟨q,(K.trans ae G).some g Z⟩) λ_ _ _ h=>h) λ_ _ _ h=>h;have q:∀m,du (ed m [r]) [l]=true:=λm=>lz af ao m;have t:∀m,du (ed m [r]) [j]=true:=λm=>lz af an m;simp[cj,cd, dM,q,t,show l<z by omega,show j<z by omega,-VF];refine⟨(e.get _ (by omega) ⟨by omega,by omega,by omega⟩).trans (av 10 (by decide)),?_⟩;have q:=aw.lt a;have q:=a.lt S;have q:=a.lt ag;refine cy.of a.ah rfl ?_;obtain⟨T,C⟩:∃z,z=I.next:=⟨_,rfl⟩;have kV:K pm I (I.up 13):=(K.refl a).up 13;have q:=λu=>(by rw[C];exact a.none u:(I.up 13).get (T+u)=none);have t:=(by rw[C];exact a.J:(I.up 13).get T=none);have z:(I.up 13).next=T+13:=by rw[C];rfl
 rw[<-C];simp[b7,q,t,S,ag,-VF];refine eM kV.h (az:=[.int .i64 1]) (by simp[q]) rfl (λdC d=>o0 f.tozg d (n:=1) (by decide) (by decide)) ?_;rintro on _ J aj;have t:=J.h;have L:=K.trans kV J;have q:=J.res a;rw[<-C]at q;have z:((1:Int):Rat)=1:=rfl;rw[z]at aj;simp[-VF];have bj:bw (1:Rat)=true:=by decide +kernel
 refine eM t (az:=[r,on]) (by simp[q]) rfl (λdC d=>q5 f.tozg d (ai.up L).of aj.of sf bj) ?_;rintro ax _ U ay;have g7:=U.h;have ak:=K.trans L U;have aB:=(K.trans J U).res a;rw[<-C]at aB;simp[-VF];refine eM g7 (az:=[ax]) (by simp[aB]) rfl (λdC d=>jR d (tv f.tozg d ay.of aW)) ?_;rintro _ _-⟨rfl,rfl⟩;simp[-VF];refine gS g7 (az:=[.slice (some ⟨b,N,none⟩) cs.length Y,.int .i64 (i:Int),aA (cZ ((v.floor:Rat)+1)),aA c.up]) (by simp[aB]) rfl (λdC d=>Yg f d (bh.e.imp (ak.ext a) λ_ _ _ h=>h) aJ aL) ?_;rintro z _ q t;have g8:=q.h;have aQ:=K.trans ak q;have aC:=(K.trans J (K.trans U q)).res a;rw[<-C]at aC;have bk:=aw.k a aQ;have C:Oc cs i (cZ ((v.floor:Rat)+1)) c.up=VA cs i (cZ ((v.floor:Rat)+1)):=by rw[hc];rfl
 rw[C]at t;have c:=J.next;have c:=U.next;have c:=q.next;have bl:=aw.new a t (by omega);simp[-VF];refine fL.fixed (az:=[.pointer (some ⟨p,0,none⟩),z]) (by simp[aC]) (by simp) (by simp) rfl (WM f (g8.perm rfl g8.ah) aK bk bl (by simp[n6.r1];omega) (by simp[n6.r1];omega)) ?_;rintro _ M ⟨aR,V,bm,rfl,aD,D⟩;have D:=D.perm (dC:=pm) g.num (by have:=D.next;grind);have x:=D.h;have c:=D.next;have aE:=(sl.NM (p:=p) (mB:=bf) (cA:=bg) aQ).trans D;have c:=e.WR (by omega) f5;have aF:=aE.some a c S;have aG:=ai.YK aE;have d3:∀m,du (ed m [r,on]) [l]=true:=λm=>nO (ai.up L) aj (L.some a S) m;have d4:∀m,du (ed m [r,on]) [j]=true:=λm=>nO (ai.up L) aj (L.some a ag) m;have d5:∀m,du (ed m [ax]) [l]=true:=λm=>lz ay (ak.some a S) m;have d6:∀m,du (ed m [ax]) [j]=true:=λm=>lz ay (ak.some a ag) m;have d7:∀m,ed m [Value.int .i64 1]=[]:=λm=>rfl;simp[cj,cd,jT,dM,d3,d4,d5,d6,d7,show l<T by omega,show j<T by omega];refine⟨(D.get _ (by omega) ⟨by omega,by omega,by omega⟩).trans (aC 12 (by decide)),?_⟩;have a:k<((s.r1 (Sr cs i (cZ (v.floor:Rat)))).r1 (VA cs i (cZ ((v.floor:Rat)+1)))).tree.length:=by simp[n6.r1];omega
 have E:K pm M (M.up 14):=(K.refl x).up 14;have aS:=E.h;obtain⟨bn,L',_,_,B,aT,bo,bp,aU,aV⟩:=(aD.k x E).node aS a ⟨i,cZ (v.floor:Rat),s.tree.length,s.tree.length+1,[]⟩ (xt:=.slice none 0 0) ⟨.nil,λ_ _ _ _ h=>(by cases h)⟩;have a:((s.r1 (Sr cs i (cZ (v.floor:Rat)))).r1 (VA cs i (cZ ((v.floor:Rat)+1)))).tree.length=s.tree.length+2:=by simp[n6.r1]
 rw[a]at B bo;refine cy.of x.ah rfl ?_;obtain⟨y,aH⟩:∃y,y=M.next:=⟨_,rfl⟩;have aI:=λu=>(by rw[aH];exact x.none u:(M.up 14).get (y+u)=none);have c:=(by rw[aH];exact x.J:(M.up 14).get y=none);rw[<-aH];have a:=B;simp only[qX]at a aT;simp[b7,aI,c,aF,a];refine eM aS (az:=[r]) (by simp[aI]) rfl (λdC d=>jR d (tv f.tozg d (aG.up E).of sf)) ?_;rintro _ _-⟨rfl,rfl⟩;obtain⟨A,hA⟩:∃A,A=(M.up 14).put V (.cells L' (.n 5)):=⟨_,rfl⟩;have a:∀m,du (ed m [r]) [p]=true:=λm=>lz (aG.up E) B m;have c:∀m,du (ed m [r]) [l]=true:=λm=>lz (aG.up E) (E.some x aF) m;have d:(((s.r1 (Sr cs i (cZ (v.floor:Rat)))).tree.length:Nat):Int)=(s.tree.length:Int)+1:=by simp[n6.r1]
 have f:setCells bn (k*5) [.int .i64 (i:Int),aA (cZ (v.floor:Rat)),.int .i64 (s.tree.length:Int),.int .i64 ((s.tree.length:Int)+1),.slice none 0 0]=some L':=bp;have j:=aD.lt x;have j:=λo=>eG (ah:=pm.ah) (ok:=pm.ok) (o:=o) (b:=V) (by have:=aD.ge;omega);have m:=x.lt aF;rw[<-hA]at aU aV;simp[aI,fill,d,show k<s.tree.length+2 by omega,bB,aT,f,j,<-hA,cj,cd, dM,a,c,show p<y by omega,show l<y by omega,show V<y by omega];refine hQ _ _ _ ?_;simp;have a:sl pm p mB cA aR V H A:=(((sl.NM (p:=p) (mB:=mB) (cA:=cA) (K.trans ae G)).trans e).trans aE).trans ((sl.NM E).trans aV);exact⟨aR,V,⟨bm,aU⟩,a⟩
end Go.Dam.C
namespace Go.Dam.C
open Go Go.Dam
variable{X:ar}{pm:Perm}{H aa bL aj:ad}{n:Nat}
theorem Zn{mB q' k n ah rZ Bh:Nat}{fx:List Nat}{L:List Value}(h:H.get mB=some (.cells L (.n 2)))(g:L.length=q'*2)(q:k+1+n<=q')(i:∀j,j<(k+1+n)*2->∃v,L[j]? = some v/\c6 v=true)(l:Perm.may ⟨ah,fx,some rZ⟩ mB=true):
 ∃a aa F M,(ei 2 (.slice (some ⟨mB,(k+1)*2,none⟩) n Bh) λnew m=>eN 2 32 (.slice (some ⟨mB,0,none⟩) k q') new m).runT ⟨ah,fx,some rZ⟩ H=some (.slice (some ⟨mB,0,none⟩) (k+n) q',aa,F,M)/\aa.get mB=some (.cells a (.n 2))/\a.length=q'*2/\
  (∀b,b≠mB->aa.get b=H.get b)/\aa.next=H.next/\(∀x∈F,x=mB)/\(∀j,j<(k+n)*2->a[j]? = if j<k*2 then L[j]? else L[j+2]?)/\(∀{ak:Nat} {aj:ad} {pm:Perm},aF pm ak aj H->ak<=mB->aF pm ak aj aa):=by
 have c:bx L ((k+1)*2) (n*2)=some ((L.drop ((k+1)*2)).take (n*2)):=pf (by omega);by_cases e:n=0
 ·subst e;refine⟨L,H,[mB],[],?_,h,g,λ_ _=>rfl,rfl,by simp,λj _=>by rw[aT (by omega)],λu _=>u⟩;unfold ei;simp only[aQ.runT,h,rowOf,c];unfold eN;simp[aQ.runT]
 ·have m:((L.drop ((k+1)*2)).take (n*2)).all c6=true:=by
   rw[eD];intro v d;obtain⟨j,b,rfl⟩:=u5 d;have d:j<n*2:=by simp at b;omega
   obtain⟨v,f,g⟩:=i ((k+1)*2+j) (by omega);have:((L.drop ((k+1)*2)).take (n*2))[j]? = some v:=by rw[kZ d,ki];exact f
   rw[eu b]at this;rw[jF this];exact g
  have d:((L.drop ((k+1)*2)).take (n*2)).length=n*2:=by simp;omega
  have o:∃g,setCells L (k*2) ((L.drop ((k+1)*2)).take (n*2))=some g:=by
   unfold setCells;rw[cg,ix (by rw[d];omega)];exact⟨_,rfl⟩
  obtain⟨a,f⟩:=o;obtain⟨_,_,p⟩:=Dc f;refine⟨a,H.put mB (.cells a (.n 2)),[mB,mB],[mB],?_,b1,by omega,λb a=>a7 (h:=a),rfl,by simp,λj _=>?_,λu a=>aF.put u a h (by simp) _⟩
  ·unfold ei;simp only[aQ.runT,h,rowOf,c];unfold eN;simp[e,show k+n<=q' by omega,putRow,h,m,f,l]
  ·rw[p,d];by_cases a:j<k*2
   ·rw[aT a,aC (by omega)]
   ·rw[aC a,aT (by omega),kZ (by omega),ki];congr 1;omega
theorem YM{c off l h m cap:Nat}{cs:List Value}{XF:Perm}(a:H.get c=some (.cells cs (.n 2)))(b:l<=h)(d:h<=m)(e:m<=cap):
 (h7 2 (some ⟨c,off,none⟩) l h m cap).runT XF H=some (.slice (some ⟨c,off+l*2,none⟩) (h-l) (m-l),H,[c],[]):=by
 unfold h7;simp[b,d,e,a,aQ.runT]
theorem Y4(x:Has X F.Dh C.Dh)(g:bs pm H){mB q' k len:Nat}{L:List Value}(h:H.get mB=some (.cells L (.n 2)))(y:L.length=q'*2)(A:len<=q')(W:k<len)(g':len<=1000000)(B:∀j,j<len*2->∃v,L[j]? = some v/\c6 v=true)(p:pm.ah<=mB):
 Call X pm F.Dh [.slice (some ⟨mB,0,none⟩) len q',.int .i64 (k:Int),.int .i64 ((k:Int)+1)] H λr aa=>r=.slice (some ⟨mB,0,none⟩) (len-1) q'/\∃kB,aa.get mB=some (.cells kB (.n 2))/\kB.length=q'*2/\(∀b,b≠mB->aa.get b=H.get b)/\(∀j,j<(len-1)*2->kB[j]? = if j<k*2 then L[j]? else L[j+2]?)/\aF pm mB H aa:=by
 refine Call.P x rfl λ_ C=>?_;have x:=g.lt h;obtain⟨z,e⟩:∃z,z=H.next:=⟨_,rfl⟩;have D:K pm H (H.up 8):=(K.refl g).up 8;have q:=λj=>(by rw[e];exact g.none j:(H.up 8).get (z+j)=none);have E:=(by rw[e];exact g.J:(H.up 8).get z=none);obtain⟨a,G⟩:∃a,a=len-(k+1):=⟨_,rfl⟩;obtain⟨x,f,F,_,I,i,_,s,_,J,M,N⟩:=Zn (H:=H.up 8) (mB:=mB) (q':=q') (k:=k) (n:=a) (ah:=pm.ah) (rZ:=z+6) (Bh:=q'-(k+1)) (fx:=pm.ok) (L:=L) h y (by omega) (λj O=>B j (by omega)) (eG p);have P:∀j,f.get (z+j)=none:=λj=>by rw[s _ (by omega)];exact q j
 have Q:∃c,setCells x ((k+a)*2) [.int .i64 0,.slice none 0 0]=some c:=by
  unfold setCells;rw[cg,ix (by simp;omega)];exact⟨_,rfl⟩
 obtain⟨c,t⟩:=Q;obtain⟨_,_,R⟩:=Dc t;obtain⟨S,d⟩:∃x,x=f.put mB (.cells c (.n 2)):=⟨_,rfl⟩;have T:pm.may mB=true:=eG p;have p:wr .i64 ((k:Int)+1)=(k:Int)+1:=b8;have u:cH (some (Value.int .i64 ((k:Int)+1)))=some (k+1):=by
  have:((k:Int)+1)=((k+1:Nat):Int):=by simp
  rw[this];simp[cH]
 have p:k+a=len-1:=by omega
 have p:aF pm mB H f:=N (D.mono (by omega)) (bg _);have U:aF pm mB H S:=by rw[d];exact aF.put p (bg _) i (by simp) _
 have V:=Ld (pm:=pm) (bZ:=2) (off:=0) (m:=len) (cap:=q') h (.inl rfl) (show k<=k+1 by omega) (by omega) A;have v:=YM (H:=H.up 8) (off:=0) (l:=0) (h:=k) (m:=q') (cap:=q') (XF:=⟨pm.ah,pm.ok,some (z+2)⟩) h (by omega) (by omega) (bg _);have o:=YM (H:=H.up 8) (off:=0) (l:=k+1) (h:=len) (m:=q') (cap:=q') (XF:=⟨pm.ah,pm.ok,some (z+5)⟩) h (by omega) (by omega) (bg _);rw[<-G]at o;simp only[Nat.zero_mul,Nat.zero_add,Nat.sub_zero]at v o;simp[u,V,show ¬(k:Int)=(k:Int)+1 by omega,-Wx];refine cy.of g.ah rfl ?_;rw[<-e];simp[b7,q,E,u,v,o,I,P,show mB<z by omega,cj,cd, -ei,-Wx];refine⟨λx e=>.inl (.inl (.inl (by have:=J x e;omega))),?_⟩;have w:=Ld (pm:=pm) (bZ:=2) (off:=0) (l:=k+a) (h:=len) (m:=q') (cap:=q') i (.inl rfl) (by omega) (by omega) (bg _);rw[show len-(k+a)=1 by omega,Nat.zero_add]at w;have e:cH (some (Value.int .i64 ((k:Int)+(a:Int))))=some (k+a):=by
  have:((k:Int)+(a:Int))=((k+a:Nat):Int):=by simp
  rw[this];simp[cH]
 simp[e,w,w2,times,i,t,T,<-d];refine C _ _ _ ?_;simp;refine⟨by omega,c,by rw[d];exact b1,by omega,λb a=>?_,λj O=>?_,U⟩
 ·rw[d,a7 (h:=a),s b a];rfl
 ·rw[R,aC (by omega)];exact M j (by omega)
variable{p mB cA q' rP:Nat}{GI Ni:Value}{deep:Bool}{s:n6}
theorem Zu{α:Type}{l:List α}{k i:Nat}(a:k<l.length)(aJ:i<(l.eraseIdx k).length):∃h,(l.eraseIdx k)[i]=l[if i<k then i else i+1]'h:=by
 have b:(l.eraseIdx k).length=l.length-1:=by rw[List.length_eraseIdx,aT a]
 have h:(if i<k then i else i+1)<l.length:=by split<;>omega
 refine⟨h,?_⟩;rw[List.getElem_eraseIdx];by_cases e:i<k<;>simp[e]
theorem ZJ(S:Bw X)(g:bs pm H)(aj:pm.ah<=p)(h:wi H p GI Ni deep rP s mB cA q')(T:s.todo≠[])(hn:s.todo.length<=1000):
 Call X pm F.Uu [.pointer (some ⟨p,0,none⟩)] H λr aa=>∃x z,s.todo[Bk deep s.todo.length]? = some x/\r=.agg #[.int .i64 (x.1:Int),z]/\Ah aa (ti p mB cA) z x.2.length 5 (y4 x.2)/\wi aa p GI Ni deep rP (s.del (Bk deep s.todo.length)) mB cA q'/\sl pm p mB cA mB cA H aa:=by
 refine Call.P S.Uu rfl λak hQ=>?_;obtain⟨⟨al,an⟩,ao,_,B,D,E,a,ar,au,av,aw⟩:=h;have lp:=g.lt a;have aS:0<s.todo.length:=qQ.2 T
 rcases ar with⟨_,e,_⟩ | ⟨rfl,Zv,L,AW,rK,WS⟩
 ·exact absurd e T
 have T:=g.lt AW;have U:p≠mB:=λe=>by rw[<-e,a]at AW;cases AW
 obtain⟨k,m⟩:∃k,k=Bk deep s.todo.length:=⟨_,rfl⟩;have n:k<s.todo.length:=by rw[m];unfold Bk;split<;>omega
 obtain⟨x,V⟩:∃x,x=s.todo[k]:=⟨_,rfl⟩;obtain⟨W,z,ax,P⟩:=WS k n;rw[<-V]at W P;have ay:bx L (k*2) 2=some [.int .i64 (x.1:Int),z]:=by
  rw[pf (by omega)];congr 1;apply nb;intro j
  rcases j with _ | _ | j
  ·rw[kZ (by decide),ki];simpa using W
  ·rw[kZ (by decide),ki];simpa using ax
  ·rw[gr (by simp;omega)];simp
 have aB:∀j,j<s.todo.length*2->∃z,L[j]? = some z/\c6 z=true:=λj Y=>by
  obtain⟨g,i,h,l⟩:=WS (j/2) (by omega)
  rcases Nat.mod_two_eq_zero_or_one j with e | e
  ·rw[show j/2*2=j by omega]at g;exact⟨_,g,rfl⟩
  ·rw[show j/2*2+1=j by omega]at h;obtain⟨b,_,e⟩:=l.form;exact⟨i,h,by rw[e];rfl⟩
 obtain⟨d,G⟩:∃b,b=H.next:=⟨_,rfl⟩;obtain⟨c,t⟩:∃A,A=H.new (.cells [.int .i64 0,.slice none 0 0] (.t Br)):=⟨_,rfl⟩;have I:K pm H c:=by rw[t];exact K.new g _
 have f:=I.h;have j:c.next=d+1:=by rw[t,G];rfl
 have aD:c.get d=some (.cells [.int .i64 0,.slice none 0 0] (.t Br)):=by rw[t,G];exact b4
 have J:=I.some g a;have Z:=I.some g AW;obtain⟨o,M⟩:∃b,b=c.next:=⟨_,rfl⟩;have aE:pm.may d=true:=g.may (by omega);have aG:pm.may o=true:=f.may (by omega);have aH:∀x,(c.new x).get o=some x:=λx=>by rw[M];exact b4
 obtain⟨u,v,aI⟩:=P.form;subst aI;obtain⟨Q,N⟩:∃A,A=(c.new (.cells [.int .i64 0,.slice none 0 0] (.t Br))).put o (.cells [.int .i64 (x.1:Int),.slice u x.2.length v] (.t Br)):=⟨_,rfl⟩;have j:K pm c Q:=by rw[N,M];exact ic f _ _
 have z:=j.h;have ab:=I.trans j;have I:Q.next=o+1:=by rw[N,M];rfl
 have ad:=j.some f J;have I:=j.some f Z;have aJ:=j.some f aD;have aL:Q.get o=some (.cells [.int .i64 (x.1:Int),.slice u x.2.length v] (.t Br)):=by rw[N];exact b1
 have Q:wr .i64 ((k:Int)+1)=(k:Int)+1:=b8;have aM:wr .i64 ((s.todo.length:Int)-1)=((s.todo.length-1:Nat):Int):=by rw[b8];omega
 have ae:∀j,aK 0 j=some (.pointer (some ⟨p,0,none⟩))->aK 2 j=some (.pointer (some ⟨d,0,none⟩))->aK 3 j=some (.int .i64 (k:Int))->wp X pm (.code C.V') j c [] ak:=λj c l2 j=>by
  simp[c,j,J,n,Z,ay,f.pick,f.make,ptr,bB,<-M,aH,aG,setCells,<-N,Q,ad,-X9];refine aq.of (az:=[.slice (some ⟨mB,0,none⟩) s.todo.length q',.int .i64 (k:Int),.int .i64 ((k:Int)+1)]) (Y4 S.Dh z I rK Zv n (by omega) aB (by omega)) ?_;rintro _ X ⟨rfl,L',aK,aN,C,aa,L⟩;have c:=L.h;have c:=L.next;have af:=(C p U).trans ad;obtain⟨r,i⟩:∃A,A=X.put p (.cells [GI,Ni,.bool deep,.int .i64 (rP:Int),.slice (some ⟨mB,0,none⟩) (s.todo.length-1) q',B,.int .i64 s.qc.st,aA s.qc.val,D,.slice none 0 0,.slice none 0 0,E] (.t zd)):=⟨_,rfl⟩;have aO:r.get p=some (.cells [GI,Ni,.bool deep,.int .i64 (rP:Int),.slice (some ⟨mB,0,none⟩) (s.todo.length-1) q',B,.int .i64 s.qc.st,aA s.qc.val,D,.slice none 0 0,.slice none 0 0,E] (.t zd)):=by rw[i];exact b1
  have aP:r.get o=some (.cells [.int .i64 (x.1:Int),.slice u x.2.length v] (.t Br)):=by rw[i,a7,C _ (by omega)];exact aL
  have ag:r.get d=some (.cells [.int .i64 0,.slice none 0 0] (.t Br)):=by rw[i,a7,C _ (by omega)];exact aJ
  obtain⟨l,q⟩:∃A,A=r.put d (.cells [.int .i64 (x.1:Int),.slice u x.2.length v] (.t Br)):=⟨_,rfl⟩;have c:l.get d=some (.cells [.int .i64 (x.1:Int),.slice u x.2.length v] (.t Br)):=by rw[q];exact b1
  have d:pm.may p=true:=eG aj;simp[af,d,setCells,<-i,aP,ag,aE,bx,bB,<-q, l2];refine hQ _ _ _ ?_;simp[dG,c,bx,bB,l2];have c:aF pm p H r:=by rw[i];exact aF.put ((aF.trans (aF.mono ab (by omega)) (aF.mono L (by omega)):aF pm p H X)) (bg _) af (by simp) _
  have F:aF pm p H l:=by rw[q];exact aF.put c (by omega) ag (by simp) _
  have K:∀b,b<H.next->b≠p->b≠mB->l.get b=H.get b:=λb c d f=>by
   rw[q,a7,i,a7 (h:=d),C b f];exact ab.get b c
  have w:∀b y,ti p mB cA b->H.get b=some y->ti p mB cA b/\l.get b=some y:=λb y h e=>⟨h,by rw[K b (g.lt e) h.1 h.2.1];exact e⟩;have R:l.get mB=some (.cells L' (.n 2)):=by rw[q,a7,i,a7 (h:=Ne.symm U)];exact aK
  have ah:l.get p=some (.cells [GI,Ni,.bool deep,.int .i64 (rP:Int),.slice (some ⟨mB,0,none⟩) (s.todo.length-1) q',B,.int .i64 s.qc.st,aA s.qc.val,D,.slice none 0 0,.slice none 0 0,E] (.t zd)):=by rw[q,a7];exact aO
  have aQ:s.todo[Bk deep s.todo.length]? = some x:=by rw[<-m,V,eu n]
  have ai:(s.todo.eraseIdx k).length=s.todo.length-1:=by rw[List.length_eraseIdx,aT n]
  obtain⟨f,c⟩:=ao.2;have aR:∃y,l.get cA=some y:=by
   by_cases e:cA=p
   ·rw[e];exact⟨_,ah⟩
   ·by_cases d:cA=mB
    ·rw[d];exact⟨_,R⟩
    ·exact⟨f,by rw[K cA (g.lt c) e d];exact c⟩
  rw[<-m];refine⟨x.1,x.2,?_,_,⟨rfl,rfl⟩,P.imp w λ_ _ _ h=>h,⟨⟨al,an⟩,⟨⟨_,R⟩,aR⟩,_,B,D,E,ah,?_,?_,av.imp λb y a e=>⟨a,(w b y a.f e).2⟩,aw.up F⟩,⟨F.h,F.next,λb a h=>K b a h.1 h.2.1,F.cr,.inl rfl,.inl rfl⟩⟩
  ·rw[m];exact aQ
  ·refine .inr ⟨by simp[n6.del,ai],by simp only[n6.del];omega,L',R,aN,λi c=>?_⟩;simp only[n6.del]at c|-;obtain⟨Y,e⟩:=Zu n c;rw[ai]at c;rw[e];obtain⟨c,g,d,f⟩:=WS _ Y;rw[aa (i*2) (by omega),aa (i*2+1) (by omega)];by_cases j:i<k
   ·rw[aT (show i*2<k*2 by omega),aT (show i*2+1<k*2 by omega)];simp only[j,if_true]at c d f|-;exact⟨c,g,d,f.imp w λ_ _ _ h=>h⟩
   ·rw[aC (show ¬i*2<k*2 by omega),aC (show ¬i*2+1<k*2 by omega)];simp only[j,if_false]at c d f|-;rw[show(i+1)*2=i*2+2 by omega]at c;rw[show(i+1)*2+1=i*2+1+2 by omega]at d;exact⟨c,g,d,f.imp w λ_ _ _ h=>h⟩
  ·refine au.imp (λb y a e=>⟨a,(w b y a.f e).2⟩) λ_ e=>?_;have s:cA≠p:=λh=>by rw[h,a]at e;cases e
   have p:cA≠mB:=λh=>by rw[h,AW]at e;cases e
   rw[K cA (g.lt e) s p];exact e
 cases O:deep with
 | false=>
   simp[g.pick,g.make,ptr,<-G,<-t,J,O,-V'];refine ae _ (by simp) (by simp) ?_;have:k=0:=by rw[m,O];rfl
   simp[this]
 | true=>
   simp[g.pick,g.make,ptr,<-G,<-t,J,O,aM,-V'];refine ae _ (by simp) (by simp) ?_;have:k=s.todo.length-1:=by rw[m,O];rfl
   simp[this]
end Go.Dam.C
namespace Go.Dam.C
open Go Go.Dam
variable{X:ar}{pm dC:Perm}{H aa bL aj:ad}{n:Nat}
theorem ZX{ab:aI}{T:bd}(h:d' ab)(b:ho ab.nM (eU ab) T):cu la (ab.rE T.v):=by
 have c:=QQ h.eU b.inv b.rM h.xU.v1 (λk d=>(b.at' k d).cu h.xU) h.Nq.p h.Nq.le h.Nq.z;refine cu.mono (a:=ab.nM.n*(jL ab.a.length*jO ab.nM.n ((ab.nM.n*jL ab.a.length)^ab.nM.n) (o3 ab.a.length) eX)+jO ab.nM.n ((ab.nM.n*jL ab.a.length)^ab.nM.n) (o3 ab.a.length) eX) c ?_;have b:=h.n;have c:jL ab.a.length<=dj 210:=by
  unfold jL;rw[show eX*eX^ab.a.length=eX^(ab.a.length+1) by rw[dH,dW],xW,gv];exact fX (by decide) (by omega)
 have d:jO ab.nM.n ((ab.nM.n*jL ab.a.length)^ab.nM.n) (o3 ab.a.length) eX<=dj 1660:=aY (e9 _ _) (MJ b);have e:jL ab.a.length*jO ab.nM.n ((ab.nM.n*jL ab.a.length)^ab.nM.n) (o3 ab.a.length) eX<=dj 1870:=by
  have:=gK c d;rwa [Dr (show 210+1660=1870 by decide)]at this
 have c:ab.nM.n*(jL ab.a.length*jO ab.nM.n ((ab.nM.n*jL ab.a.length)^ab.nM.n) (o3 ab.a.length) eX)<=6*dj 1870:=gK b e;have b:dj 1660<=dj 1870:=vu;have b:la=dj 30*dj 1870:=(Dr (show 30+1870=1900 by decide)).symm;have b:7<=dj 30:=aY (show 7<=dj 1 by rw[gv];decide) (vu);have c:=e8 (dj 1870) b;grind
theorem YO{ab:aI}(h:d' ab)(d:ab.I=true){a:hE}(c:lq ab a)(b:a.st=1):isNum a.val=true/\a.val.length<=10000:=by
 cases c with
 | inf _ _ _ _ _=>cases b
 | qW _ _ _ _ _=>cases b
 | opt T a _=>
   have b:=a.1.1;have c:∀j,j<ab.a.length->cu la (T.v j):=λj a=>vN (b.Gt h (by omega));have e:kW ab T=(List.range ab.a.length).map λj=>cZ (T.v j):=rfl;have f:oG ab (kW ab T)=some (ab.rE T.v):=by
    unfold oG;rw[e,aT (Yw d c),NH λj a=>R8 a (c j a)]
   have a:=ZX h b;show isNum (yT ab (kW ab T))=true/\(yT ab (kW ab T)).length<=10000;unfold yT;rw[f];exact⟨a.isNum,a.len⟩
theorem ZS{ab:aI}(h:d' ab)(b:ab.I=true){a:hE}(c:lq ab a)(d:a.st=1):a.x.length=ab.a.length/\a.x.all isNum=true/\∀s∈a.x,s.length<=10000:=by
 obtain⟨a,_,_⟩:=c.YC h b d;unfold sh at a;grind
variable{p mB cA q' uy wh rP:Nat}{GI Ni Aj:Value}{deep:Bool}{s:n6}{cs:List dy}
theorem yN.ZO{A:Nat->Prop}{v xt:Value}{l:List Ai}(h:yN H A cA v l){k:Nat}(a:k<l.length)(d:List (List UInt8))(m:Bg H A xt d)(j:∀b,A b->b≠cA):
 ∃L kB,v=.slice (some ⟨cA,0,none⟩) l.length l.length/\H.get cA=some (.cells L (.n 5))/\L.length=l.length*5/\setCells L (k*5+4) [xt]=some kB/\yN (H.put cA (.cells kB (.n 5))) A cA v (l.set k {l.getD k VI with d:=d}):=by
 rcases h with⟨_,e⟩ | ⟨rfl,L,cF,f,dw,gZ⟩
 ·grind
 ·have c:∀b y,A b->H.get b=some y->A b/\(H.put cA (.cells (L.set (k*5+4) xt) (.n 5))).get b=some y:=λb y g e=>⟨g,by rw[a7 (h:=j b g)];exact e⟩;have n:l.getD k VI=l[k]:=by rw[il,eu a];rfl
  obtain⟨_,b,_⟩:=gZ k a;refine⟨L,L.set (k*5+4) xt,rfl,cF,dw.1,setCells_one (dw.lt a (by decide)),.inr ⟨by simp,_,b1,λj=>if j=k then({l.getD k VI with d:=d}:Ai).cells xt else f j,?_,λi g=>?_⟩⟩
  ·rw[sB];exact dw.set a (by decide) xt (by rw[b,n];simp[Ai.cells]) λj _ h=>by simp[h]
  ·have d:i<l.length:=by simpa using g
   by_cases e:i=k
   ·subst e;simp only[List.getElem_set_self,if_true];exact⟨xt,rfl,m.imp c⟩
   ·simp only[List.getElem_set_ne (Ne.symm e),e,if_false];exact(gZ i d).imp λxt q=>⟨q.1,q.2.imp c⟩
theorem wi.Zp(h:wi H p GI Ni deep rP s mB cA q')(g:bs pm H){k:Nat}(b:k<s.tree.length)(d:List (List UInt8)){xt:Value}(i:Bg H (Bv p mB cA) xt d):
 ∃L kB f j,H.get p=some (.cells (GI::Ni::.bool deep::.int .i64 (rP:Int)::f::.slice (some ⟨cA,0,none⟩) s.tree.length s.tree.length::j) (.t zd))/\H.get cA=some (.cells L (.n 5))/\L.length=s.tree.length*5/\setCells L (k*5+4) [xt]=some kB/\
  wi (H.put cA (.cells kB (.n 5))) p GI Ni deep rP (s.uz k d) mB cA q'/\sl pm p mB cA mB cA H (H.put cA (.cells kB (.n 5))):=by
 obtain⟨l,m,c,_,o,q,a,r,t,v,w⟩:=h;obtain⟨L,kB,rfl,f,j,x,z⟩:=t.ZO b d i λb a=>a.2.2;have t:p≠cA:=λe=>by grind
 have i:∀b y,ti p mB cA b->H.get b=some y->ti p mB cA b/\(H.put cA (.cells kB (.n 5))).get b=some y:=λb y a e=>⟨a,by rw[a7 (h:=a.2.2)];exact e⟩;have u:=aF.put (n:=0) (.refl g) (Nat.zero_le _) f (by simp) (.cells kB (.n 5));refine⟨L,kB,c,_,a,f,j,x,⟨l,⟨?_,_,b1⟩,c,_,o,q,by rw[a7 (h:=t)];simpa [n6.uz]using a,r.imp i λ_ e=>?_,by simpa [n6.uz]using z,v.imp (λb y a e=>⟨a,(i b y a.f e).2⟩),w.up u⟩,⟨u.h,u.next,λb _ h=>a7 (h:=h.2.2),u.cr,.inl rfl,.inl rfl⟩⟩
 ·by_cases e:mB=cA
  ·simp_all
  ·rw[a7 (h:=e)];exact m.1
 ·by_cases a:mB=cA
  ·grind
  ·rw[a7 (h:=a)];exact e
abbrev VM:Nat:=T.Z2
end Go.Dam.C
namespace Go.Dam.C
open Go Go.Dam
variable{X:ar}{pm dC:Perm}{H aa bL aj:ad}{n p mB cA q' uy wh rP:Nat}{GI Ni Aj:Value}{deep:Bool}{s:n6}{cs:List dy}{l:aI}
theorem ZD{k:Nat}(a:(⟨cs,l.rows⟩:aI).I=false):s.look l k cs=s:=by unfold n6.look;rw[a];rfl
theorem ZE{k:Nat}{a:hE}(b:(⟨cs,l.rows⟩:aI).I=true)(eA:lq ⟨cs,l.rows⟩ a)(h:a.st≠1):s.look l k cs=s.uz k a.d:=by unfold n6.look;rw[aT b,VL eA,aC h]
theorem ZC{k:Nat}{a:hE}(b:(⟨cs,l.rows⟩:aI).I=true)(eA:lq ⟨cs,l.rows⟩ a)(h:a.st=1)(c:VH s.val (rd a.val)=true):s.look l k cs=s.uz k a.d:=by unfold n6.look;rw[aT b,VL eA,aT h,aT c]
theorem ZA{k:Nat}{a:hE}(b:(⟨cs,l.rows⟩:aI).I=true)(eA:lq ⟨cs,l.rows⟩ a)(h:a.st=1)(c:VH s.val (rd a.val)=false)(d:Bx l.a a.x=none):s.look l k cs={s.uz k a.d with val:=some (rd a.val),qc:=⟨1,a.val,a.x,[],[]⟩}:=by
 unfold n6.look;rw[aT b,VL eA,aT h,aC (by rw[c];decide),d]
theorem ZB{k i:Nat}{a:hE}(b:(⟨cs,l.rows⟩:aI).I=true)(eA:lq ⟨cs,l.rows⟩ a)(h:a.st=1)(c:VH s.val (rd a.val)=false)(d:Bx l.a a.x=some i):s.look l k cs=(s.uz k a.d).branch k cs i (fY a.x i):=by
 unfold n6.look;rw[aT b,VL eA,aT h,aC (by rw[c];decide),d]
theorem wi.YD{d f i k VE VD:Value}{b:hE}{aH:Option Rat}(g:bs pm H)(l:p<=mB/\p<=cA)(j:(∃y,H.get mB=some y)/\∃y,H.get cA=some y)(a:H.get p=some (.cells [GI,Ni,.bool deep,.int .i64 (rP:Int),d,f,.int .i64 s.qc.st,aA s.qc.val,i,.slice none 0 0,.slice none 0 0,k] (.t zd)))
 (m:BB H (ti p mB cA) mB q' d s.todo) (o:yN H (Bv p mB cA) cA f s.tree) (q:Bg H (Bv p mB cA) VE b.x) (r:eJ H VD aH):
 wi (H.put p (.cells [GI,Ni,.bool deep,.int .i64 (rP:Int),d,f,.int .i64 b.st,aA b.val,VE,.slice none 0 0,.slice none 0 0,VD] (.t zd))) p GI Ni deep rP {s with qc:=b,val:=aH} mB cA q'/\
  sl pm p mB cA mB cA H (H.put p (.cells [GI,Ni,.bool deep,.int .i64 (rP:Int),d,f,.int .i64 b.st,aA b.val,VE,.slice none 0 0,.slice none 0 0,VD] (.t zd))):=by
 have u:=aF.put (n:=0) (.refl g) (Nat.zero_le _) a (by simp) (.cells [GI,Ni,.bool deep,.int .i64 (rP:Int),d,f,.int .i64 b.st,aA b.val,VE,.slice none 0 0,.slice none 0 0,VD] (.t zd));obtain⟨A,c⟩:∃A,A=H.put p (.cells [GI,Ni,.bool deep,.int .i64 (rP:Int),d,f,.int .i64 b.st,aA b.val,VE,.slice none 0 0,.slice none 0 0,VD] (.t zd)):=⟨_,rfl⟩;rw[<-c]at u|-;have i:∀b y,ti p mB cA b->H.get b=some y->ti p mB cA b/\A.get b=some y:=λb y a e=>⟨a,by rw[c,a7 (h:=a.1)];exact e⟩;have k:∀b,(∃y,H.get b=some y)->∃y,A.get b=some y:=λb ⟨y,t⟩=>by
  by_cases e:b=p
  ·rw[c,e];exact⟨_,b1⟩
  ·exact⟨y,by rw[c,a7 (h:=e)];exact t⟩
 refine⟨⟨l,⟨k _ j.1,k _ j.2⟩,d,f,VE,VD,by rw[c];exact b1,m.imp i λL e=>?_,o.imp (λb y a e=>⟨a,(i b y a.f e).2⟩) λL e=>?_,q.imp (λb y a e=>⟨a,(i b y a.f e).2⟩),r.up u⟩,⟨u.h,u.next,λb _ h=>by rw[c,a7 (h:=h.1)],u.cr,.inl rfl,.inl rfl⟩⟩
 ·rw[c,a7 (h:=λb=>by rw[b,a]at e;cases e)];exact e
 ·rw[c,a7 (h:=λb=>by rw[b,a]at e;cases e)];exact e
theorem Yt{z:Int}(a:-wR<=(z:Rat))(b:(z:Rat)<=wR):bw (z:Rat)=true:=by
 have h:=CS (l:=cZ (z:Rat)) (aY (Ys (WT a b)) (by decide));rwa [WU (WT a b)]at h
theorem Zr{v:Rat}(a:-wR<=v)(b:v<=wR):-wR<=((v.floor:Int):Rat)/\((v.floor:Int):Rat)<=wR:=by
 refine⟨?_,Rat.le_trans (Rat.floor_le v) b⟩;rw[Wd]at a|-;exact Rat.intCast_le_intCast.2 (Rat.le_floor_iff.2 a)
theorem Zi{v:Rat}(a:-wR<=v)(b:v<=wR)(c:v.den≠1):-wR<=((v.floor+1:Int):Rat)/\((v.floor+1:Int):Rat)<=wR:=by
 constructor
 ·rw[Wd]at a|-;have:=Rat.le_floor_iff.2 a;exact Rat.intCast_le_intCast.2 (by omega)
 ·rw[Wc]at b|-;have a:((v.floor:Int):Rat)<((10^20:Int):Rat):=(by have:=Yq c;grind);have a:=Rat.intCast_lt_intCast.1 a;exact Rat.intCast_le_intCast.2 (by omega)
theorem ZF(G:Bw X)(g:bs pm H)(aL:pm.ah<=p)(hm:VG l)(h:wi H p GI Ni deep rP s mB cA q')(g0:bs pm aj)(bn:aj.next<=p)(yQ:aF pm p aj H)(g':fC aj 0 (.agg #[GI,Ni]) l){k:Nat}(hk:k<s.tree.length)(O:Bj l cs)(ak:Ah H (ti p mB cA) Aj cs.length 5 (y4 cs))(bm:∀i,i<l.rows.length->(l.row i).j.length<=1000)(hn:s.tree.length<=800)(ht:s.todo.length<=800)(hv:∀w,s.val=some w->bw w=true):
 Call X pm F.Tz [.pointer (some ⟨p,0,none⟩),.agg #[.int .i64 (k:Int),Aj]] H λ_ aa=>∃uy wh bn,wi aa p GI Ni deep rP (s.look l k cs) uy wh bn/\sl pm p mB cA uy wh H aa:=by
 refine Call.P G.Tz rfl λbo P=>?_;obtain⟨I,J,e⟩:=ak.form;subst e;obtain⟨_,_,e,aM,aN⟩:=id g';cases e;obtain⟨Q,R,e,_⟩:=id aN;subst e;obtain⟨L,ab,e,_⟩:=id aM;subst e;have sh:=O.XG hm.s;have bp:∀{aa:ad} {uy wh:Nat},sl pm p mB cA uy wh H aa->Ext aj aa:=λk b y e=>by
  have a:=g0.lt e;have a:=h.ge;have a:=h.lt g;exact(k.get b (by omega) ⟨by omega,by omega,by omega⟩).trans ((yQ.get b (by omega)).trans e)
 obtain⟨t,al⟩:∃b,b=H.next:=⟨_,rfl⟩;obtain⟨f,ae⟩:∃A,A=H.new (.cells [.int .i64 (k:Int),.slice I cs.length J] (.t Br)):=⟨_,rfl⟩;have S:K pm H f:=by rw[ae];exact K.new g _
 have E:=S.h;have n1:f.next=t+1:=by rw[ae,al];rfl
 have aO:f.get t=some (.cells [.int .i64 (k:Int),.slice I cs.length J] (.t Br)):=by rw[ae,al];exact b4
 have an:=h.k g S;obtain⟨_,_,_⟩:=h.lt g;obtain⟨_,_,_,_,_,_,bq,_⟩:=id an;obtain⟨z,hz⟩:∃z,z=f.next:=⟨_,rfl⟩;have kU:K pm f (f.up 17):=(K.refl E).up 17;have ao:=λj=>(by rw[hz];exact E.none j:(f.up 17).get (z+j)=none);have br:=(by rw[hz];exact E.J:(f.up 17).get z=none);obtain⟨M,T⟩:∃A,A=(f.up 17).put (z+8) (.cells [.int .i64 0,.string ⟨#[]⟩,.slice none 0 0,.slice none 0 0,.slice none 0 0] (.t VM)):=⟨_,rfl⟩;have ar:K pm f M:=by rw[T];exact aF.fill kU (by omega) (ao 8) (by show z+8<f.next+17;omega) _
 have aP:=ar.h;have af:∀j,j≠8->M.get (z+j)=none:=λj hj=>by rw[T,a7];exact ao j
 have bs:M.get (z+8)=some (.cells [.int .i64 0,.string ⟨#[]⟩,.slice none 0 0,.slice none 0 0,.slice none 0 0] (.t VM)):=by rw[T];exact b1
 have bn:M.next=z+17:=by rw[T,hz];rfl
 have bt:fC M 0 (.agg #[.slice I cs.length J,.slice Q l.rows.length R]) ⟨cs,l.rows⟩:=(show fC H 0 _ ⟨cs,l.rows⟩ from⟨_,_,rfl,ak.e,aN.ext λb y e=>(yQ.get b (by have:=g0.lt e;omega)).trans e⟩).ext ((S.trans ar).ext g);have d1:du [z+8] [t]=true:=fq (by omega);have d2:du [z+8] [p]=true:=fq (by omega);have aQ:=λU=>eG (ah:=pm.ah) (ok:=pm.ok) (o:=U) (b:=z+8) (by have:=E.ah;omega);simp[g.pick,g.make,ptr,<-al,<-ae,-WH];refine cy.of E.ah rfl ?_;rw[<-hz];simp[b7,ao,br,aO,bq,fill,bB,Perm.make,Perm.pick,ptr,<-T,-WH];refine eM aP (az:=[.agg #[.slice I cs.length J,.slice Q l.rows.length R]]) (by simp[af]) rfl (λdC au=>NN G.totg au bt sh bm) ?_;rintro _ V T h2;have g2:=T.h;have ae:=T.next;have aR:=K.trans ar T;have z2:=T.some aP bs;have ag:∀j,j<17->j≠8->V.get (z+j)=none:=λj hj ae=>(T.get _ (by omega)).trans (af j ae)
 rcases h2 with⟨OL,rfl⟩ | ⟨OL,Z8,a,u,rfl,_,_,hu,hL⟩
 ·obtain⟨c,a⟩:∃A,A=V.put (z+8) (.cells [.int .i64 0,.string ⟨#[]⟩,.slice none 0 0,.slice none 0 0,.slice none 0 0] (.t VM)):=⟨_,rfl⟩;have b:K pm f c:=by rw[a];exact aF.put aR (by omega) z2 (by simp) _
  simp[ag,z2,setCells, aQ,<-a,cj,cd, dM,ed,d1,d2,show t<z by omega,show p<z by omega,-X3];refine⟨by rw[a,a7];exact ag 16 (by decide) (by decide),?_⟩;refine P _ _ _ ?_;simp;rw[ZD OL];exact⟨mB,cA,⟨q',an.k E b⟩,.NM (S.trans b)⟩
 ·obtain⟨_,_,_,rfl,aS,aT,T⟩:=id hu;obtain⟨x,B,e1,_⟩:=aS.1.ex;obtain⟨W,Y,e2,_⟩:=aT.1.ex;obtain⟨ad,ai,e3,_⟩:=T.1.ex;subst e1 e2 e3;obtain⟨q,F⟩:∃A,A=V.put (z+8) (.cells [.int .i64 a.st,aA a.val,.slice x a.x.length B,.slice W a.d.length Y,.slice ad a.r.length ai] (.t VM)):=⟨_,rfl⟩;have T:K pm f q:=by rw[F];exact aF.put aR (by omega) z2 (by simp) _
  have u:=T.h;have bu:=S.trans T;have f:q.next=V.next:=by rw[F];rfl
  have aU:q.get (z+8)=some (.cells [.int .i64 a.st,aA a.val,.slice x a.x.length B,.slice W a.d.length Y,.slice ad a.r.length ai] (.t VM)):=by rw[F];exact b1
  have aV:q.get t=some (.cells [.int .i64 (k:Int),.slice I cs.length J] (.t Br)):=T.some E aO;have av:=an.k E T;have f:=av.lt u;have f:∀b,z<=b->ti p mB cA b:=λb d=>⟨by omega,by omega,by omega⟩;have E:∀{S:Value} {N:List (List UInt8)},h3 V M.next S N->Bg q (Bv p mB cA) S N:=λM=>by
   have g:=M.put (c:=z+8) (by omega) (.cells [.int .i64 a.st,aA a.val,.slice x a.x.length B,.slice W a.d.length Y,.slice ad a.r.length ai] (.t VM));rw[<-F]at g;exact g.p.imp λb y d e=>⟨⟨by omega,(f b (by omega)).2⟩,e⟩
  have px:=E aS;have M:=E aT;have bA:ti p mB cA t:=⟨by omega,by omega,by omega⟩;have bC:=f (z+8) (by omega);have kV:K pm q (q.up 11):=(K.refl u).up 11;have f:=kV.h;obtain⟨aW,E,_,_,bD,aX,_,bE,aw,ax⟩:=(av.k u kV).Zp f hk a.d (xt:=.slice W a.d.length Y) (M.imp λb y d e=>⟨d,kV.some u e⟩);obtain⟨H4,aY⟩:∃A,A=(q.up 11).put cA (.cells E (.n 5)):=⟨_,rfl⟩;rw[<-aY]at aw ax;have Z:=ax.h;have aa:=(sl.NM (p:=p) (mB:=mB) (cA:=cA) kV).trans ax;have f:=aa.next;have ay:=aa.some u bC aU;have bF:=aa.some u bA aV;have aZ:sl pm p mB cA mB cA H H4:=(sl.NM bu).trans aa;simp[ag,z2,setCells, aQ,<-F,cj,cd, dM,ed,d1,d2,show t<z by omega,show p<z by omega,-WG];refine⟨by rw[F,a7];exact ag 16 (by decide) (by decide),?_⟩;refine cy.of u.ah rfl ?_;obtain⟨y,hy⟩:∃y,y=q.next:=⟨_,rfl⟩;have E:=λj=>(by rw[hy];exact u.none j:(q.up 11).get (y+j)=none);have F:=(by rw[hy];exact u.J:(q.up 11).get y=none);have f:=bD;simp only[qX]at f aX;have q:=λU=>eG (ah:=pm.ah) (ok:=pm.ok) (o:=U) (b:=cA) (by have:=av.ge;omega);rw[<-hy];simp[b7,E,F,f,aV,aU,hk,aX,bE,q,<-aY,cj,cd, show t<y by omega,show p<y by omega,show z+8<y by omega,show cA<y by omega,-WG];simp[ay,-WI];by_cases D:a.st=1
  ·obtain⟨f,q⟩:=YO sh OL hL D;obtain⟨xl,xn,N⟩:=ZS sh OL hL D;have bG:bw (rd a.val)=true:=CS q;simp[D,ay,-X8,-X6];refine aq.of (az:=[aA a.val]) (Ye G Z (by omega) f) ?_;rintro fv H5 ⟨f,aB⟩;have n:=f.h;have aC:=aw.k Z f;have aD:=aZ.trans (sl.NM (p:=p) (mB:=mB) (cA:=cA) f);have a1:=f.some Z ay;have bH:=f.some Z bF;have a6:Bg H5 (Bv p mB cA) (.slice x a.x.length B) a.x:=px.imp λb y d e=>⟨d,f.some Z (aa.some u d.f e)⟩;obtain⟨_,_,aE,aF,aG,a8,aj,bI,bJ,bK,a_⟩:=id aC;have ba:VH s.val (rd a.val)=false->∀f,aK 0 f=some (.pointer (some ⟨p,0,none⟩))->aK 3 f=some (.pointer (some ⟨t,0,none⟩))->aK 5 f=some (.pointer (some ⟨z+8,0,none⟩))->aK 7 f=some fv->wp X pm (.code C.Ut) f H5 [] bo:=λbb f l0 bL l5 l7=>by
    have f:gC H5 (.slice L l.a.length ab) l.a:=(aM.imp (bp aD) λ_ _ _ h=>h).aP;simp[l0,l5,a1,-X7,-X4];refine aq.of (az:=[.pointer (some ⟨p,0,none⟩),.slice x a.x.length B]) (Zg G n aj f a6.1 (by rw[xl];exact O.len) xn N (by have:=hm.s.n;omega)) ?_;rintro _ r ⟨m,rfl⟩;have c:=m.h;have aI:=aC.k n m;have aJ:=aD.trans (sl.NM (p:=p) (mB:=mB) (cA:=cA) m);have X:=m.some n a1;have bc:=m.some n bH;have bd:Bg r (Bv p mB cA) (.slice x a.x.length B) a.x:=a6.imp λb y d e=>⟨d,m.some n e⟩;have f:=aI.lt c;have bf:=m.some n aj;have f:=aJ.next;obtain⟨v,C⟩:∃y,y=r.next:=⟨_,rfl⟩;obtain⟨H,rfl,_⟩:=id aB;have bz:=aB.up m;have bM:=λU=>eG (ah:=pm.ah) (ok:=pm.ok) (o:=U) (b:=p) aL;have f:=c.lt X;have f:=c.lt bc
    cases aK:Bx l.a a.x with
    | none=>
      have g:K pm r (r.up 14):=(K.refl c).up 14;have aq:=λj=>(by rw[C];exact c.none j:(r.up 14).get (v+j)=none);have bh:=(by rw[C];exact c.J:(r.up 14).get v=none);obtain⟨o,h⟩:∃A,A=(r.up 14).put p (.cells [.slice L l.a.length ab,.slice Q l.rows.length R,.bool deep,.int .i64 (rP:Int),aE,aF,.int .i64 (s.uz k a.d).qc.st,aA (s.uz k a.d).qc.val,aG,.slice none 0 0,.slice none 0 0,.pointer (some ⟨H,0,none⟩)] (.t zd)):=⟨_,rfl⟩;obtain⟨q,f,_⟩:=id aI;have i:=wi.YD (s:=s.uz k a.d) (b:=(s.uz k a.d).qc) (VD:=.pointer (some ⟨H,0,none⟩)) (aH:=some (rd a.val)) (VE:=aG) g.h q ⟨f.1,f.2⟩ (g.some c bf) ((bI.imp (λb y d e=>⟨d,(m.trans g).some n e⟩) λaW e=>(m.trans g).some n e)) ((bJ.imp (λb y d e=>⟨d,(m.trans g).some n e⟩) λaW e=>(m.trans g).some n e)) (bK.imp λb y d e=>⟨d,(m.trans g).some n e⟩) (bz.up g);rw[<-h]at i;have g7:=i.2.h;obtain⟨bj,bk,_,_,_,_,az,bl,bw,_,bx⟩:=id i.1;have w:o.get p=some (.cells [.slice L l.a.length ab,.slice Q l.rows.length R,.bool deep,.int .i64 (rP:Int),aE,aF,.int .i64 (s.uz k a.d).qc.st,aA (s.uz k a.d).qc.val,aG,.slice none 0 0,.slice none 0 0,.pointer (some ⟨H,0,none⟩)] (.t zd)):=by rw[h];exact b1
      rw[w]at az;cases az;obtain⟨_,bg⟩:∃A,A=o.put p (.cells [.slice L l.a.length ab,.slice Q l.rows.length R,.bool deep,.int .i64 (rP:Int),aE,aF,.int .i64 1,aA a.val,.slice x a.x.length B,.slice none 0 0,.slice none 0 0,.pointer (some ⟨H,0,none⟩)] (.t zd)):=⟨_,rfl⟩;have ah:=wi.YD (b:=⟨1,a.val,a.x,[],[]⟩) (VD:=.pointer (some ⟨H,0,none⟩)) (aH:=some (rd a.val)) (VE:=.slice x a.x.length B) g7 bj bk w bl bw (bd.imp λb y d e=>⟨d,i.2.some g.h d.f (g.some c e)⟩) bx;rw[<-bg]at ah;have dp:du [p] [z+8]=true:=fq (by omega);simp[WN,  ];refine cy.of c.ah rfl ?_;rw[<-C];have af:∀j,o.get (v+j)=none:=λj=>by rw[h,a7];exact aq j
      have d:o.get (z+8)=some (.cells [.int .i64 a.st,aA a.val,.slice x a.x.length B,.slice W a.d.length Y,.slice ad a.r.length ai] (.t VM)):=by rw[h,a7];exact X
      simp[b7,aq,bh,l0,l5,l7,X,fill,bB,bf,bM,setCells,<-h,af,w, <-bg,cj,cd,dM,dp,show z+8<v by omega,show p<v by omega];refine P _ _ _ ?_;simp;rw[ZA OL hL D bb aK];exact⟨mB,cA,⟨q',ah.1⟩,(aJ.trans (sl.NM g)).trans (i.2.trans ah.2)⟩
    | some i=>
      obtain⟨d,e,bN⟩:=Yi aK;have l:i<cs.length:=by rw[O.len];exact d
      obtain⟨ah,aq⟩:=YN hm.s O OL hL D l e;obtain⟨_,_,ex,bO⟩:=bd.1.ex;cases ex;obtain⟨bP,_,_,_,w,bQ,f2,f3,f4,b,f5,rfl⟩:=bO i (by rw[xl];exact l);subst bQ;have aH:fY a.x i=rd b:=by simp[fY,List.getD,f5]
      have o:=eB f5;have a7:K pm r (r.up 10):=(K.refl c).up 10;have bR:=a7.h;have bg:=λj=>(by rw[C];exact c.none j:(r.up 10).get (v+j)=none);have bS:=(by rw[C];exact c.J:(r.up 10).get v=none);have bT:i<a.x.length:=by rw[xl];exact l
      simp[WN,  ];refine cy.of c.ah rfl ?_;rw[<-C];simp[b7,bg,bS,l0,bL,l5,bc,X,bx,bB,bT,f2,f3,f4];refine eM bR (az:=[aA b]) (by simp[bg]) rfl (λdC au=>Ye G au (by have:=N b o;omega) (eD.1 xn b o)) ?_;rintro bU _ d bh;have s:=d.h;have e:=K.trans a7 d;have bj:=d.res c;rw[<-C]at bj;have bV:=aI.k c e;have bk:=aJ.trans (sl.NM (p:=p) (mB:=mB) (cA:=cA) e);have bW:=bk.YL g ak λ_ _ _ h=>h;rw[<-aH]at bh;have sv:bw (fY a.x i)=true:=by rw[aH];exact CS (N b o)
      obtain⟨bX,bY⟩:=Zr ah aq;obtain⟨b,d⟩:=Zi ah aq bN;have bl:=Yt b d;rw[Rat.intCast_add]at bl;simp;have bZ:=Zd (pm:=⟨pm.ah,pm.ok,none⟩) G (s.perm rfl s.ah) aL bV (k:=k) bW (by simpa [n6.uz]using hk) l (by have:=hm.s.n;have:=O.len;omega) bh sv (Yt bX bY) bl (by simp[n6.uz];omega) (by simp[n6.uz];omega);refine fL.fixed (az:=[.pointer (some ⟨p,0,none⟩),.agg #[.int .i64 (k:Int),.slice I cs.length J],.int .i64 (i:Int),bU]) (by simp[bj]) (by simp) (by simp[]) rfl bZ ?_;rintro _ _ ⟨d,e,f,j,b⟩;have b:=b.perm (dC:=pm) g.num (by have:=b.next;have:=s.ah;omega);simp[cj,cd,jT,dM,ed,show z+8<v by omega,show t<v by omega,show bP<v by have:=c.lt f2;omega];refine P _ _ _ ?_;simp;rw[ZB OL hL D bb aK];exact⟨d,e,⟨f,j⟩,bk.trans b⟩
   simp[aj,-V9,-X5,-Ut]
   cases b:s.val with
   | none=>
     have a:a8=.pointer none:=by simpa [n6.uz,b,eJ]using a_
     subst a;simp[bz,-V9,-Ut];refine aq.not ?_;simp[bz,-Ut];exact ba (by rw[b];rfl) _ (by simp) (by simp) (by simp) (by simp)
   | some w=>
     have c:b9 H5 a8 w:=by simpa [n6.uz,b,eJ]using a_
     obtain⟨L,rfl,_⟩:=id c;simp[aj,-V9,-Ut];refine aq.of (az:=[fv,.pointer (some ⟨L,0,none⟩)]) (q8 G.tozg n aB.of c.of bG (hv w b)) ?_;rintro _ _ ⟨rfl,rfl⟩;by_cases c:w<=rd a.val
     ·simp[qa,show ¬rd a.val<w from pD.2 c,-Ut];refine P _ _ _ ?_;simp;rw[ZC OL hL D (by rw[b];simp[VH,c])];exact⟨mB,cA,⟨q',aC⟩,aD⟩
     ·simp[qa,show rd a.val<w from Rat.not_le.1 c,-Ut];exact ba (by rw[b];simp[VH,c]) _ (by simp) (by simp) (by simp) (by simp)
  ·simp[D,-WI];refine P _ _ _ ?_;simp;rw[ZE OL hL D];exact⟨mB,cA,⟨q',aw⟩,aZ⟩
end Go.Dam.C
namespace Go.Dam.C
open Go Go.Dam
section
variable{α:Type}{f:α->Option α}
theorem Yu{a:α}(h:Ends f a):∃k b,e5 f k a=some b/\f b=none:=by
 obtain⟨k,c,d⟩:=h.least
 cases k with
 | zero=>cases c
 | succ j=>
   have g:=d j (by omega)
   cases e:e5 f j a with
   | none=>exact absurd e g
   | some b=>
     refine⟨j,b,e,?_⟩
     cases a:f b with
     | none=>rfl
     | some _=>
       have:=A7 e a;rw[c]at this;cases this
theorem WV{G:α->Prop}(c:∀a b,G a->f a=some b->G b):∀{k:Nat} {a b:α},G a->e5 f k a=some b->G b
 | 0,a,b,h,e=>by cases e;exact h
 | k+1,a,b,h,e=>by
   rw[e5]at e
   cases b:f a with
   | none=>rw[b]at e;cases e
   | some d=>rw[b]at e;exact WV c (c a d h b) e
end
theorem ZR{ab:aI}(h:d' ab)(k:ab.I=true):∃a,lq ab a:=by
 have R:=KO h k;obtain⟨_,b,k,c⟩:=Yu (R.g1 _ R.s1).2.2;have i:vW ab b:=WV R.cf R.s1 k;unfold hr at c
 cases e:kv ab.nM b with
 | some a=>
   rw[e]at c;simp only at c
   cases d:kM ab.nM b a (off ab.nM b.v (b.rows a)) with
   | some _=>rw[d]at c;cases c
   | none=>exact⟨_,.inf b a i e d⟩
 | none=>
   have c:=R.s2 b i e;obtain⟨_,a,b,d⟩:=Yu (R.g2 _ c).2.2;have h:ra ab a:=WV R.fR c b;unfold gk at d
   cases f:enters ab.nM ab.cs a with
   | none=>exact⟨_,.opt a h f⟩
   | some g=>
     rw[f]at d;simp only at d
     cases j:(dn ab.nM a g (hp ab.nM ab.cs a g) ab.nM.m).Y with
     | some _=>rw[j]at d;cases d
     | none=>exact⟨_,.qW a g h f j⟩
theorem ZQ{ab:aI}(h:d' ab)(b:ab.I=true):lq ab (Ak ab):=by
 obtain⟨_,a⟩:=ZR h b;rw[VL a];exact a
structure Vx(l:aI)(s:n6):Prop extends Bm l s where
 v:∀w,s.val=some w->bw w=true
 t:s.todo.length<=s.tree.length
theorem Vx.look{l:aI}{s:n6}(e:VG l)(h:Vx l s){k:Nat}{cs:List dy}(c:Bj l cs):Vx l (s.look l k cs)/\((s.look l k cs).tree.length=s.tree.length/\(s.look l k cs).todo.length=s.todo.length∨(s.look l k cs).tree.length=s.tree.length+2/\(s.look l k cs).todo.length=s.todo.length+2):=by
 have a:∀f,Vx l (s.uz k f):=λf=>⟨h.toBm.uz,h.v,by simpa [n6.uz]using h.t⟩;unfold n6.look;by_cases b:(⟨cs,l.rows⟩:aI).I=true
 ·rw[aT b];have g:=c.XG e.s;have i:=ZQ g b;by_cases d:(Ak ⟨cs,l.rows⟩).st=1
  ·rw[aT d];split
   ·exact⟨a _,.inl ⟨by simp[n6.uz],rfl⟩⟩
   ·split
    ·exact⟨⟨⟨(a _).jj⟩,λ_ h=>by cases h;exact CS (YO g b i d).2,(a _).t⟩,.inl ⟨by simp[n6.uz],rfl⟩⟩
    ·rename_i m n;obtain⟨l,j,o⟩:=Yi n;have k:m<cs.length:=by rw[c.len];exact l
     obtain⟨p,q⟩:=YN e.s c b i d k j;refine⟨⟨(a _).toBm.branch c k j p q o,h.v,?_⟩,.inr ⟨by simp[n6.branch,n6.r1,n6.uz],by simp[n6.branch,n6.r1,n6.uz]⟩⟩;have:=h.t;simp[n6.branch,n6.r1,n6.uz];omega
  ·rw[aC d];exact⟨a _,.inl ⟨by simp[n6.uz],rfl⟩⟩
 ·rw[aC b];exact⟨h,.inl ⟨rfl,rfl⟩⟩
theorem Vx.del{l:aI}{s:n6}(h:Vx l s){k:Nat}(a:k<s.todo.length):Vx l (s.del k):=⟨h.toBm.del,h.v,by
 have:=h.t;have e:(s.todo.eraseIdx k).length=s.todo.length-1:=by rw[List.length_eraseIdx,aT a]
 show(s.todo.eraseIdx k).length<=s.tree.length;omega⟩
end Go.Dam.C
namespace Go.Dam.C
open Go Go.Dam
variable{X:ar}{pm dC:Perm}{H aa bL aj:ad}{n p mB cA q' uy wh rP:Nat}{GI Ni Aj:Value}{deep:Bool}{s VK:n6}{cs:List dy}{l:aI}
theorem BB.form{A:Nat->Prop}{v:Value}{l:List (Nat×List dy)}(h:BB H A mB q' v l):∃a cap,v=.slice a l.length cap:=by
 rcases h with⟨rfl,rfl,_⟩ | ⟨rfl,_⟩
 ·exact⟨_,_,rfl⟩
 ·exact⟨_,_,rfl⟩
theorem yN.form{A:Nat->Prop}{v:Value}{l:List Ai}(h:yN H A cA v l):∃a,v=.slice a l.length l.length:=by
 rcases h with⟨rfl,rfl⟩ | ⟨rfl,_⟩
 ·exact⟨_,rfl⟩
 ·exact⟨_,rfl⟩
theorem ZN(o:Bw X)(g:bs pm H)(v:pm.ah<=p)(w:VG l)(h:wi H p GI Ni deep rP VK mB cA q')(C:bs pm aj)(J:aj.next<=p)(yQ:aF pm p aj H)(g':fC aj 0 (.agg #[GI,Ni]) l)(L:∀i,i<l.rows.length->(l.row i).j.length<=1000)(N:rP<=300)(y:VK.todo=[])(cq:VK.tree=[])(M:VK.val=none):
 Call X pm F.Vv [.pointer (some ⟨p,0,none⟩)] H λr aa=>∃c b uy wh N,Ac l deep rP (VK.r1 l.a) c b/\r=.bool b/\wi aa p GI Ni deep rP c uy wh N/\aF pm p H aa:=by
 refine Call.P o.Vv rfl λ_ D=>?_;have O:=h.lt g;have E:=h.ge;obtain⟨_,_,q,P,_⟩:=id g';cases q;have N:Ah H (ti p mB cA) GI l.a.length 5 (y4 l.a):=P.p.imp (λb _ _ q=>by
  have:=C.lt q;exact⟨⟨by omega,by omega,by omega⟩,(yQ.get b (by omega)).trans q⟩) λ_ _ _ h=>h
 obtain⟨_,_,_,_,_,_,q,_⟩:=id h;simp[q,-Yb];refine aq.of (az:=[.pointer (some ⟨p,0,none⟩),GI]) (WM o g v h N (by rw[cq];simp) (by rw[y];simp)) ?_;rintro _ _ ⟨Q,R,S,rfl,N,q⟩;have P:=q.h;have P:=q.up E.1 E.2 O.1;simp[-X',-Ya]
 refine ef.of (σ:=n6×Nat×Nat×Nat) (λ_=>[(0,.pointer (some ⟨p,0,none⟩))]) (λq aa=>Vx l q.1/\wi aa p GI Ni deep rP q.1 q.2.1 q.2.2.1 q.2.2.2/\aF pm p H aa/\q.1.tree.length<=rP+2/\∀c b,Ac l deep rP q.1 c b->Ac l deep rP (VK.r1 l.a) c b) (λq=>2*(rP+3-q.1.tree.length)+q.1.todo.length) (VK.r1 l.a,Q,R,S) (by simp)
  ⟨⟨(Bm.mk (by rw[y];simp)).r1 w.node,by simp[n6.r1,M],by simp[n6.r1,y,cq]⟩,N,P,by simp[n6.r1,cq],λ_ _ h=>h⟩ ?_
 rintro⟨s,z,A,B⟩ t ⟨f,d,i,q,e⟩;simp only at f d q e;have a:=i.h;obtain⟨G,_,_,_,_,_,j,T,U,_⟩:=id d;obtain⟨_,_,rfl⟩:=T.form;obtain⟨_,rfl⟩:=U.form;have u:=d.lt a;have q:=i.next;by_cases n:s.todo=[]
 ·simp[j,n];refine cy.of a.ah rfl ?_;simp[b7,a.none,a.J,j,cj,cd, u.1];refine D _ _ _ ?_;simp;have b:=Ac.done (l:=l) (deep:=deep) (m:=rP) s n;by_cases g:s.tree.length<=rP
  ·rw[ix g]at b;exact⟨s,.inr ⟨e _ _ b,g,⟨z,A,B,d.k a ((K.refl a).up 11)⟩,i.k ((K.refl a).up 11) (by omega)⟩⟩
  ·rw[l0 g]at b;exact⟨s,.inl ⟨e _ _ b,by omega,⟨z,A,B,d.k a ((K.refl a).up 11)⟩,i.k ((K.refl a).up 11) (by omega)⟩⟩
 ·have b:0<s.todo.length:=qQ.2 n;simp[j,b,-WJ];refine cy.of a.ah rfl ?_;have b:K pm t (t.up 10):=(K.refl a).up 10;have y:=b.h;have q:=d.k a b;have F:aF pm p H (t.up 10):=i.k b (by omega);by_cases b:rP<s.tree.length
  ·simp[b7,a.none,a.J,j,cj,cd, u.1,b,-WJ];refine D _ _ _ ?_;simp;exact⟨s,e _ _ (.Bq s n b),⟨z,A,B,q⟩,F⟩
  ·simp[b7,a.none,a.J,j,cj,cd, u.1,b,-Yc];refine aq.of (az:=[.pointer (some ⟨p,0,none⟩)]) (ZJ o y v q n (by have:=f.t;omega)) ?_;rintro _ _ ⟨x,Aj,g,rfl,K,m,a⟩;have H:=a.h;have r:=F.trans (a.up G.1 G.2 (by have:=u.1;show p<t.next+10;omega));have I:Bk deep s.todo.length<s.todo.length:=by unfold Bk;split<;>omega
   obtain⟨d,a⟩:=f.jj x (eB g);have b:=f.del I;have i:(s.del (Bk deep s.todo.length)).todo.length=s.todo.length-1:=by
    show(s.todo.eraseIdx _).length=_;rw[List.length_eraseIdx,aT I]
   have i:=r.next;simp;refine aq.of (az:=[.pointer (some ⟨p,0,none⟩),.agg #[.int .i64 (x.1:Int),Aj]]) (ZF o H v w m C J (yQ.trans r) g' (k:=x.1) d a K L (by show s.tree.length<=800;omega) (by have:=f.t;omega) b.v) ?_;rintro _ _ ⟨f,i,j,n,o⟩;have d:=m.ge;have q:=m.lt H;have m:=r.trans (o.up d.1 d.2 q.1);obtain⟨d,_⟩:=b.look w (k:=x.1) a;have a:(s.del (Bk deep s.todo.length)).tree.length=s.tree.length:=rfl;simp;refine jk.of ((s.del (Bk deep s.todo.length)).look l x.1 x.2,f,i,j) ?_ (by simp) ⟨d,n,m,?_,λc=>⟨λh=>e c false (.step s c false x g (by omega) h),λh=>e c true (.step s c true x g (by omega) h)⟩⟩
   ·show 2*(rP+3-((s.del (Bk deep s.todo.length)).look l x.1 x.2).tree.length)+((s.del (Bk deep s.todo.length)).look l x.1 x.2).todo.length<2*(rP+3-s.tree.length)+s.todo.length;omega
   ·show((s.del (Bk deep s.todo.length)).look l x.1 x.2).tree.length<=rP+2;omega
end Go.Dam.C
namespace Go.Dam.C
open Go Go.Dam
variable{X:ar}{pm dC:Perm}{H aa bL aj:ad}{n:Nat}{deep:Bool}{l:aI}
def Wb:n6:=⟨[],[],⟨2,[],[],[],[]⟩,none⟩
def Bp(k:Int):Nat:=if 0<k then min 300 k.toNat else 300
theorem ZI{k:Int}:Bp k<=300:=by unfold Bp;split<;>omega
theorem yN.ext{A:Nat->Prop}{cA:Nat}{v:Value}{l:List Ai}(h:yN H A cA v l)(e:Ext H aa):yN aa A cA v l:=h.imp (λb y a q=>⟨a,e b y q⟩) λ_ q=>e _ _ q
theorem yN.put{ak cA c:Nat}{v:Value}{l:List Ai}(h:yN H (λb=>ak<=b) cA v l)(a:c<ak)(a:ak<=cA)(x:bk):yN (H.put c x) (λb=>ak<=b) cA v l:=
 h.imp (λb _ a q=>⟨a,by rw[a7];exact q⟩) λ_ q=>by rw[a7];exact q
theorem yN.mono{ak cf cA:Nat}{v:Value}{l:List Ai}(h:yN H (λb=>ak<=b) cA v l)(a:cf<=ak):yN H (λb=>cf<=b) cA v l:=h.imp (λb _ _ q=>⟨by omega,q⟩) λ_ q=>q
theorem ZZ(Q:Bw X)(g:bs pm H)(hm:VG l){v:Value}(g':fC H 0 v l)(af:∀i,i<l.rows.length->(l.row i).j.length<=1000){k:Int}(ar:-9223372036854775808<=k)(hk:k<=9223372036854775807):
 Call X pm F.Vw [v,.bool deep,.int .i64 k] H λr aa=>K pm H aa/\∃a b A B cA,Ac l deep (Bp k) (Wb.r1 l.a) a b/\r=.tuple #[.agg #[.int .i64 a.qc.st,aA a.qc.val,A,.slice none 0 0,.slice none 0 0],B,.bool b]/\h3 aa H.next A a.qc.x/\yN aa (λb=>H.next<=b) cA B a.tree/\H.next<=cA:=by
 refine Call.P Q.Vw rfl λag hQ=>?_;obtain⟨_,_,rfl,hc,C⟩:=id g';obtain⟨j,i,e1,_⟩:=id hc;obtain⟨m,n,e2,_⟩:=id C;subst e1 e2;obtain⟨G,D⟩:∃b,b=H.next:=⟨_,rfl⟩;obtain⟨f,u⟩:∃f,f=H.new (.cells [.slice j l.a.length i,.slice m l.rows.length n] (.t T.YW)):=⟨_,rfl⟩;have R:K pm H f:=by rw[u];exact K.new g _
 have S:=R.h;have ai:f.get G=some (.cells [.slice j l.a.length i,.slice m l.rows.length n] (.t T.YW)):=by rw[u,D];exact b4
 have n1:f.next=G+1:=by rw[u,D];rfl
 obtain⟨c,E⟩:∃b,b=f.next:=⟨_,rfl⟩;obtain⟨d,w⟩:∃d,d=f.new (.cells [.int .i64 0,.string ⟨#[]⟩,.slice none 0 0,.slice none 0 0,.slice none 0 0] (.t T.Wa)):=⟨_,rfl⟩;have G:K pm f d:=by rw[w];exact K.new S _
 have U:=G.h;have aj:d.get c=some (.cells [.int .i64 0,.string ⟨#[]⟩,.slice none 0 0,.slice none 0 0,.slice none 0 0] (.t T.Wa)):=by rw[w,E];exact b4
 have ak:=G.some S ai;have V:=R.trans G;have f:d.next=c+1:=by rw[w,E];rfl
 obtain⟨p,x⟩:∃b,b=d.next:=⟨_,rfl⟩;obtain⟨q,z⟩:∃q,q=d.new (.cells [.slice j l.a.length i,.slice m l.rows.length n,.bool deep,.int .i64 300,.slice none 0 0,.slice none 0 0,.int .i64 2,.string ⟨#[]⟩,.slice none 0 0,.slice none 0 0,.slice none 0 0,.pointer none] (.t zd)):=⟨_,rfl⟩;have I:K pm d q:=by rw[z];exact K.new U _
 have W:=I.h;have J:q.get p=some (.cells [.slice j l.a.length i,.slice m l.rows.length n,.bool deep,.int .i64 300,.slice none 0 0,.slice none 0 0,.int .i64 2,.string ⟨#[]⟩,.slice none 0 0,.slice none 0 0,.slice none 0 0,.pointer none] (.t zd)):=by rw[z,x];exact b4
 have al:=K.trans V I;have f:q.next=p+1:=by rw[z,x];rfl
 have an:pm.may p=true:=g.may (by omega);simp[g.pick,g.make,    ptr,<-D,<-u,<-E,<-w,<-x,<-z,ak,bx,setCells,bB,-V0,-Yd]
 have Y:∀f s,aK 9 f=some (.pointer (some ⟨p,0,none⟩))->aK 6 f=some (.pointer (some ⟨c,0,none⟩))->aF pm p q s->s.get p=some (.cells [.slice j l.a.length i,.slice m l.rows.length n,.bool deep,.int .i64 (Bp k:Int),.slice none 0 0,.slice none 0 0,.int .i64 2,.string ⟨#[]⟩,.slice none 0 0,.slice none 0 0,.slice none 0 0,.pointer none] (.t zd))->
  wp X pm (.code V0) f s [] ag:=by
  intro f s Z l6 v f
  have sr:wi s p (.slice j l.a.length i) (.slice m l.rows.length n) deep (Bp k) Wb p p 0:=
   ⟨⟨bg _,bg _⟩,⟨⟨_,f⟩,⟨_,f⟩⟩,_,_,_,_,f,.inl ⟨rfl,rfl,rfl⟩,.inl ⟨rfl,rfl⟩,⟨iN.nil,λb _ _ i g=>by cases g⟩,rfl⟩
  have f:=v.h;have aa:aF pm p d s:=aF.trans (by rw[x];exact I) v;have d:=g.ah;simp[Z,-WK];refine aq.of (AW:=by simp) (az:=[.pointer (some ⟨p,0,none⟩)]) (ZN Q f (by omega) hm sr U (by omega) aa (g'.ext (V.ext g)) af ZI rfl rfl rfl) ?_;rintro _ h ⟨a,b,_,cA,_,C,rfl,d,F⟩;have e:=F.h;obtain⟨_,_,_,B,A,_,ab,_,ad,ae,_⟩:=id d;have L:h.get c=some (.cells [.int .i64 0,.string ⟨#[]⟩,.slice none 0 0,.slice none 0 0,.slice none 0 0] (.t T.Wa)):=(F.get c (by omega)).trans ((aa.get c (by omega)).trans aj);have d:pm.may c=true:=g.may (by omega);obtain⟨M,N,rfl⟩:=ae.form;obtain⟨rb,rfl⟩:=ad.form;simp[-WK];simp;refine cy.of e.ah rfl ?_;obtain⟨r,t⟩:∃A,A=(h.up 12).put c (.cells [.int .i64 a.qc.st,aA a.qc.val,.slice M a.qc.x.length N,.slice none 0 0,.slice none 0 0] (.t T.Wa)):=⟨_,rfl⟩;have f:=e.lt ab;have i:=e.lt L;have d:K pm h (h.up 12):=(K.refl e).up 12;have j:=d.some e L;have m:aF pm c h r:=by rw[t];exact aF.put (d.mono (by omega)) (bg _) j (by simp) _
  have n:du [c] [p]=true:=fq (by omega);have ao:r.get c=some (.cells [.int .i64 a.qc.st,aA a.qc.val,.slice M a.qc.x.length N,.slice none 0 0,.slice none 0 0] (.t T.Wa)):=by rw[t];exact b1
  have p:=λo=>eG (ah:=pm.ah) (ok:=pm.ok) (o:=o) (b:=c) (by omega);have q:∀j,r.get (h.next+j)=none:=λj=>by rw[t,a7];exact e.none j
  simp[b7,e.none,e.J,ab,L,Z,l6,p,q,bx,setCells,bB,cj,cd, dM,n,f,i,<-t];have kF:K pm H r:=by
   have q:aF pm H.next H h:=aF.trans al (aF.trans (v.mono (by omega)) (F.mono (by omega)));exact aF.trans q (m.mono (by omega))
  have O:∀b y,c<b->h.get b=some y->r.get b=some y:=λb y _ h=>by
   rw[t,a7];exact d.some e h
  refine hQ _ _ _ ⟨.inr rfl,[.agg #[.int .i64 a.qc.st,aA a.qc.val,.slice M a.qc.x.length N,.slice none 0 0,.slice none 0 0],.slice rb a.tree.length a.tree.length,.bool b],by simp[l6,ao,dG,bB,bx],kF,a,b,_,_,cA,C,rfl,?_,?_,by omega⟩
  ·exact ae.imp (te:=λb=>H.next<=b) λb y a e=>⟨by have:=a.1;omega,O b y (by have:=a.1;omega) e⟩
  ·exact ad.imp (λb y a e=>⟨by have:=a.1;omega,O b y (by have:=a.1;omega) e⟩) λ_ e=>O _ _ (by omega) e
 by_cases P:0<k
 ·simp[P,J,bx,setCells,an,-V0];refine Y _ _ (by simp) (by simp) (aF.put (.refl W) (bg _) J (by simp) _) ?_;rw[b1];have e:((Bp k:Nat):Int)=if k<300 then k else 300:=by unfold Bp;split<;>omega
  rw[e]
 ·simp[P,-V0];refine Y _ _ (by simp) (by simp) (.refl W) ?_;have e:Bp k=300:=by unfold Bp;rw[aC P]
  rw[e];exact J
end Go.Dam.C
namespace Go.Dam.C
open Go Go.Dam
theorem Zc{q:Rat}{N:Nat}(h:q.num.natAbs<=N):-((N:Int):Rat)<=q/\q<=((N:Int):Rat):=by
 have a:(N:Int)*1<=N*(q.den:Int):=Int.mul_le_mul_of_nonneg_left (by have:=q.den_pos;omega) (by omega);constructor
 ·rw[<-Rat.intCast_neg,Rat.le_iff,Rat.num_intCast,Rat.den_intCast,Int.neg_mul];omega
 ·rw[Rat.le_iff,Rat.num_intCast,Rat.den_intCast];omega
theorem Bl.short{s:List UInt8}(ez:s≠[])(h:s.length<=20):Bl s:=by
 have a:=Zc (vd h).1;have e:(((10^20:Nat):Nat):Int)=(10:Int)^20:=by decide +kernel
 rw[e]at a;refine⟨ez,by omega,?_,?_⟩
 ·rw[Wc];exact a.1
 ·rw[Wc];exact a.2
def By(t:Bool)(c:dy):dy:=if t then{c with cost:=[48]} else c
theorem Yn{t:Bool}{c:dy}:(By t c).low=c.low:=by cases t<;>rfl
theorem Yo{t:Bool}{c:dy}:(By t c).up=c.up:=by cases t<;>rfl
theorem Zk{t:Bool}{c:dy}:(By t c).int=c.int:=by cases t<;>rfl
noncomputable def qW(l:aI):Bool:=decide ((Ak l).st=3)
noncomputable def Bo(l:aI):aI:=⟨l.a.map (By (qW l)),l.rows⟩
def P2(l:aI):Bool:=l.a.any λc=>c.int&&(c.low.isEmpty||c.up.isEmpty)
theorem Wl{l:aI}:(Bo l).a.length=l.a.length:=by simp[Bo]
theorem Yv{l:aI}{i:Nat}(aJ:i<l.a.length):(Bo l).af i=By (qW l) (l.af i):=by
 rw[<-Yl,<-Yl];simp only[Bo,il,iw,eu aJ,gL,jf]
structure We(l:aI):Prop where
 s:d' l
 b:∀c∈l.a,c.low.length<=20/\c.up.length<=20
 k:∀i,i<l.rows.length->(l.row i).j.length<=1000
theorem We.ok{l:aI}(h:We l)(d:P2 l=false):VG (Bo l):=by
 refine⟨⟨by rw[Wl];exact h.s.n,h.s.m,λc a=>?_,h.s.r⟩,λ_ b e=>?_⟩
 ·obtain⟨c,f,rfl⟩:=k1.1 a;obtain⟨g,i,j⟩:=h.s.c c f;refine⟨by rw[Yn];exact g,by rw[Yo];exact i,?_⟩;unfold By;split
  ·simp
  ·exact j
 ·rw[Wl]at b;rw[Yv b]at e|-;rw[Zk]at e;rw[Yn,Yo];have a:=eB (aI.jv b);have c:=h.b _ a;have b:=List.any_eq_false.1 d _ a;simp[e]at b;exact⟨.short b.1 c.1,.short b.2 c.2⟩
inductive BA(l:aI)(deep:Bool)(k:Int):hE->List Ai->Int->Prop
 | form:l.I=false->BA l deep k ⟨0,[],[],[],[]⟩ [] 1
 | wide:l.I=true->P2 l=true->BA l deep k ⟨0,[],[],[],[]⟩ [] 10
 | Bq (Bz:n6):l.I=true->P2 l=false->Ac (Bo l) deep (Bp k) (Wb.r1 (Bo l).a) Bz false->BA l deep k ⟨4,[],[],[],[]⟩ [] 0
 | qW (Bz:n6):l.I=true->P2 l=false->Ac (Bo l) deep (Bp k) (Wb.r1 (Bo l).a) Bz true->qW l=true->Bz.qc.st=1->BA l deep k ⟨3,[],Bz.qc.x,[],(Ak l).r⟩ [] 0
 | done (Bz:n6):l.I=true->P2 l=false->Ac (Bo l) deep (Bp k) (Wb.r1 (Bo l).a) Bz true->¬(C.qW l=true/\Bz.qc.st=1)->BA l deep k ⟨Bz.qc.st,Bz.qc.val,Bz.qc.x,[],[]⟩ Bz.tree 0
variable{X:ar}{pm dC:Perm}{H aa bL aj:ad}{n:Nat}
variable{deep:Bool}{l:aI}
theorem ZH(M:Bw X)(g:bs pm H)(q:We l){v:Value}(g':fC H 0 v l){k:Int}(bo:-9223372036854775808<=k)(hk:k<=9223372036854775807):
 Call X pm F.SA [v,.bool deep,.int .i64 k] H λr aa=>K pm H aa/\∃u C cA a t e,r=.tuple #[u,C,.int .i64 e]/\iK aa H.next u a/\yN aa (λb=>H.next<=b) cA C t/\H.next<=cA/\BA l deep k a t e:=by
 refine Call.P M.SA rfl λaB hQ=>?_;obtain⟨c1,_,rfl,hc,hr⟩:=id g';obtain⟨N,O,D,_⟩:=id hc;obtain⟨E,G,e2,_⟩:=id hr;subst D e2;obtain⟨p0,aD⟩:∃b,b=H.next:=⟨_,rfl⟩;obtain⟨I,ai⟩:∃I,I=H.new (.cells [.slice N l.a.length O,.slice E l.rows.length G] (.t T.YV)):=⟨_,rfl⟩;have k1:K pm H I:=by rw[ai];exact K.new g _
 have g1:=k1.h;have bp:I.get p0=some (.cells [.slice N l.a.length O,.slice E l.rows.length G] (.t T.YV)):=by rw[ai,aD];exact b4
 have n1:I.next=p0+1:=by rw[ai,aD];rfl
 obtain⟨p,aE⟩:∃b,b=I.next:=⟨_,rfl⟩;obtain⟨J,aj⟩:∃J,J=I.new (.cells [.int .i64 0,.string ⟨#[]⟩,.slice none 0 0,.slice none 0 0,.slice none 0 0] (.t T.S0)):=⟨_,rfl⟩;have x:K pm I J:=by rw[aj];exact K.new g1 _
 have g2:=x.h;have bq:J.get p=some (.cells [.int .i64 0,.string ⟨#[]⟩,.slice none 0 0,.slice none 0 0,.slice none 0 0] (.t T.S0)):=by rw[aj,aE];exact b4
 have aX:=x.some g1 bp;have aY:=k1.trans x;have I:J.next=p+1:=by rw[aj,aE];rfl
 have W:pm.may p=true:=g.may (by omega);have Y:∀{aa:ad} {n:Nat},h3 aa n (.slice none 0 0) []:=⟨iN.nil,λb o _ d e=>by cases e⟩
 have aG:∀m aa y B xv dv rv C e cA a t,aK 6 m=some (.pointer (some ⟨p,0,none⟩))->aK 7 m=some C->aK 8 m=some (.int .i64 e)->K pm H aa->aa.get p=some (.cells [.int .i64 y,aA B,xv,dv,rv] (.t T.S0))->
  iK aa H.next (.agg #[.int .i64 y,aA B,xv,dv,rv]) a->yN aa (λb=>H.next<=b) cA C t->H.next<=cA->BA l deep k a t e->aB .ret m aa:=λm aa y B xv dv rv C e cA a t l6 l7 l8 kk hp eA c f q=>by
  refine hQ _ _ _ ⟨.inr rfl,[.agg #[.int .i64 y,aA B,xv,dv,rv],C,.int .i64 e],by simp[l6,l7,l8,hp,dG,bB,bx],kk,_,C,cA,a,t,e,rfl,eA,c,f,q⟩
 have aH:∀m aa y B e,aK 6 m=some (.pointer (some ⟨p,0,none⟩))->aK 7 m=some (.slice none 0 0)->aK 8 m=some (.int .i64 e)->K pm H aa->aa.get p=some (.cells [.int .i64 y,aA B,.slice none 0 0,.slice none 0 0,.slice none 0 0] (.t T.S0))->BA l deep k ⟨y,B,[],[],[]⟩ [] e->aB .ret m aa:=λm aa y B e l6 l7 l8 kk hp q=>
  aG m aa y B _ _ _ _ e H.next _ [] l6 l7 l8 kk hp ⟨_,_,_,rfl,Y,Y,Y⟩ (.inl ⟨rfl,rfl⟩) (bg _) q
 simp[g.pick,g.make,  ptr,<-aD,<-ai,<-aE,<-aj,aX,bx,bB,-XU,-XQ,-WC];refine aq.of (az:=[.agg #[.slice N l.a.length O,.slice E l.rows.length G]]) (zf M.toiO g2 (g'.ab.ext (aY.ext g)) q.s.ok) ?_;rintro _ H3 ⟨k3,rfl⟩;have g3:=k3.h;have aJ:=K.trans aY k3;have aL:=k3.some g2 bq;have aZ:=k3.some g2 aX
 cases Z:l.I with
 | false=>
   obtain⟨b,a⟩:∃A,A=H3.put p (.cells [.int .i64 0,.string ⟨#[]⟩,.slice none 0 0,.slice none 0 0,.slice none 0 0] (.t T.S0)):=⟨_,rfl⟩;have c:K pm H b:=by rw[a];exact aF.put aJ (by omega) aL (by simp) _
   simp[aL, setCells,W,<-a,-WC];refine aH _ b 0 [] 1 (by simp) (by simp) (by simp) c (by rw[a];exact b1) (.form Z)
 | true=>
   simp[aZ,-XP,-WB];have y:P2 l=true↔∃i,i<l.a.length/\((l.a[i]?.map λd=>d.int&&(d.low.isEmpty||d.up.isEmpty)).getD false)=true:=by
    unfold P2;rw[List.any_eq_true];constructor
    ·rintro⟨d,hc,h⟩;obtain⟨i,a⟩:=CG hc;exact⟨i,(je.1 a).1,by rw[a];exact h⟩
    ·rintro⟨i,a,h⟩;rw[eu a]at h;exact⟨_,x7 a,h⟩
   have B:c8 H3 (.slice N l.a.length O) l.a.length 5 (y4 l.a):=(hc.imp (aJ.ext g) λ_ _ _ h=>h).aP;refine aq.of (eA:=by simp;rfl) (az:=[.slice N l.a.length O,.func (.func F.SB) #[] #[]]) (Ms M.toiO g3 B (by have:=q.s.n;omega) (f:=F.SB) (cs:=#[]) (λi=>((l.a[i]?.map λd=>d.int&&(d.low.isEmpty||d.up.isEmpty)).getD false)) ?_ (t:=P2 l) y) ?_
   ·rintro i J cs _ ⟨d,c,rfl⟩ x;refine Call.kK M.SB rfl ?_;have a:=K.new x.h (.cells d.cells (.t T.XJ));have b:(J.new (.cells d.cells (.t T.XJ))).get J.next=some (.cells d.cells (.t T.XJ)):=b4;obtain⟨_,e,_,_,f⟩:=d;simp only[dy.cells]at a b|-
    cases f with
    | false=>simp[x.h.pick,x.h.make,ptr,bx,bB,b,c];exact a
    | true=>
      rcases e with _ | ⟨_,e⟩
      ·simp[x.h.pick,x.h.make,ptr,bx,bB,b,c];exact a
      ·simp[x.h.pick,x.h.make,ptr,bx,bB,b,c];exact a
   rintro _ H4 ⟨k4,rfl⟩;have g4:=k4.h;have ak:=K.trans aJ k4;have al:=k4.some g3 aL;have a1:=k4.some g3 aZ
   cases ae:P2 l with
   | true=>
     obtain⟨b,a⟩:∃A,A=H4.put p (.cells [.int .i64 0,.string ⟨#[]⟩,.slice none 0 0,.slice none 0 0,.slice none 0 0] (.t T.S0)):=⟨_,rfl⟩;have c:K pm H b:=by rw[a];exact aF.put ak (by omega) al (by simp) _
     simp[al, setCells,W,<-a,-WB];refine aH _ b 0 [] 10 (by simp) (by simp) (by simp) c (by rw[a];exact b1) (.wide Z ae)
   | false=>
     simp[a1,bx,bB,-XO];refine aq.of (az:=[.agg #[.slice N l.a.length O,.slice E l.rows.length G]]) (Ga M.toep g4 q.s.ok (g'.ab.ext (ak.ext g)) (λx=>KO q.s x)) ?_;rintro _ H5 ⟨k5,⟨h,_⟩ | ⟨_,f,_,rfl,br,hS⟩⟩
     ·rw[Z]at h;cases h
     have v:=k5.h;have bs:=K.trans ak k5;have bt:=k5.some g4 al;have bu:=k5.some g4 a1;have bw:=br;obtain⟨_,_,_,rfl,x,y,a6⟩:=bw;obtain⟨a8,a_,D,_⟩:=x.1.ex;obtain⟨ba,bb,e2,_⟩:=y.1.ex;obtain⟨an,ao,e3,_⟩:=a6.1.ex;subst D e2 e3;obtain⟨X,ar⟩:∃d,d=H5.next:=⟨_,rfl⟩;have bz:pm.may X=true:=v.may (by omega);have bA:∀Q,(H5.new Q).get X=some Q:=λQ=>by rw[ar];exact b4
     obtain⟨r,au⟩:∃A,A=(H5.new (.cells [.int .i64 0,.string ⟨#[]⟩,.slice none 0 0,.slice none 0 0,.slice none 0 0] (.t T.XK))).put X (.cells [.int .i64 f.st,aA f.val,.slice a8 f.x.length a_,.slice ba f.d.length bb,.slice an f.r.length ao] (.t T.XK)):=⟨_,rfl⟩;have k6:K pm H5 r:=by rw[au,ar];exact ic v _ _
     have t:=k6.h;have ab:=K.trans bs k6;have bc:=k6.some v bt;have bd:=k6.some v bu;have bf:r.get X=some (.cells [.int .i64 f.st,aA f.val,.slice a8 f.x.length a_,.slice ba f.d.length bb,.slice an f.r.length ao] (.t T.XK)):=by rw[au];exact b1
     have x:r.next=X+1:=by rw[au,ar];rfl
     simp[v.pick,v.make,ptr, <-ar,bA,bz,<-au,setCells,-V7];refine cy.of t.ah rfl ?_;obtain⟨z,hz⟩:∃z,z=r.next:=⟨_,rfl⟩;have kU:K pm r (r.up 8):=(K.refl t).up 8;have aM:=λj=>(by rw[hz];exact t.none j:(r.up 8).get (z+j)=none);have bC:=(by rw[hz];exact t.J:(r.up 8).get z=none);obtain⟨F,af⟩:∃A,A=(r.up 8).put (z+4) (.cells [.slice none 0 0,.slice none 0 0] (.t T.WA)):=⟨_,rfl⟩;have av:K pm r F:=by rw[af];exact aF.fill kU (by omega) (aM 4) (by show z+4<r.next+8;omega) _
     have aN:=av.h;have bh:∀j,j≠4->F.get (z+j)=none:=λj s=>by rw[af,a7];exact aM j
     have bD:F.get (z+4)=some (.cells [.slice none 0 0,.slice none 0 0] (.t T.WA)):=by rw[af];exact b1
     have x:F.next=z+8:=by rw[af,hz];rfl
     rw[<-hz];simp[b7,aM,bC,bd,Perm.make,Perm.pick,ptr,<-af,-V7];refine eM aN (az:=[.slice N l.a.length O]) (by simp[bh]) rfl (λdC x=>vO (w:=5) (cc:=72) M.pI x (hc.imp ((K.trans ab av).ext g) λ_ _ _ h=>h) (by have:=q.s.n;omega) (λi cs ⟨d,_,e⟩=>by rw[e];rfl)) ?_;rintro _ H7 k7 ⟨f1,c1,bE⟩;have x:=k7.h;have x:=k7.next;have bF:∀j,j<8->j≠4->H7.get (z+j)=none:=λj s x=>(k7.get _ (by omega)).trans (bh j x);have bj:=k7.some aN bD;obtain⟨R,e⟩:=c1.form;subst e;have bG:=λo=>eG (ah:=pm.ah) (ok:=pm.ok) (o:=o) (b:=z+4) (by have:=t.ah;omega);obtain⟨S,ag⟩:∃A,A=H7.put (z+4) (.cells [.slice R l.a.length l.a.length,.slice E l.rows.length G] (.t T.WA)):=⟨_,rfl⟩;have x:p0<z:=by have:=K.next ab;have:=t.lt bd;omega
     have y:du [z+4] [p0]=true:=fq (by omega);simp[bF,bj,setCells,bB,bG,<-ag,y,cj,cd,jT,dM,ed,x,-V7];have x:=K.trans ab (K.trans av k7);have bH:K pm H S:=by rw[ag];exact aF.put x (by have:=K.next ab;omega) bj (by simp) _
     have ht:decide (f.st=3)=qW l:=by unfold qW;rw[VL hS]
     have aO:S.get (z+4)=some (.cells [.slice R l.a.length l.a.length,.slice E l.rows.length G] (.t T.WA)):=by rw[ag];exact b1
     have aP:∀b L,r.get b=some L->S.get b=some L:=λb L h=>by
      have:=t.lt h;rw[ag,a7];exact k7.some aN (av.some t h)
     have bI:=aP _ _ bf;have bJ:=aP _ _ bc;have r:=t.lt bf;have r:=t.lt bc;have bk:dR S F.next H7.next (.slice R l.a.length l.a.length) l.a.length 5 λj=>(if j<0 then By (qW l) (l.af j) else l.af j).cells:=by
      have h:dR S F.next H7.next (.slice R l.a.length l.a.length) l.a.length 5 f1:=by rw[ag];exact c1.put (.inl (by omega)) _
      refine h.congr λj s=>?_;obtain⟨d,D,e2⟩:=bE j s;rw[aI.jv s]at D;cases D;simp[e2]
     have r:=q.s.n;obtain⟨n,aQ⟩:∃d,d=l.a.length:=⟨_,rfl⟩;rw[<-aQ]at aO bk;simp[aO,<-aQ,-XM,-XT]
     refine ef.of (σ:=Nat) (λi=>[(11,.pointer (some ⟨z+4,0,none⟩)),(9,.pointer (some ⟨X,0,none⟩)),(6,.pointer (some ⟨p,0,none⟩)),(1,.bool deep),(2,.int .i64 k),(37,.int .i64 (n:Int)),(38,.int .i64 (i:Int))])
      (λi aa=>i<=n/\K pm H aa/\(∀b L,b<F.next->S.get b=some L->aa.get b=some L)/\S.next<=aa.next/\dR aa F.next H7.next (.slice R n n) n 5 λj=>(if j<i then By (qW l) (l.af j) else l.af j).cells) (λi=>n-i) 0 (by simp) ⟨Nat.zero_le _,bH,λ_ _ _ h=>h,bg _,bk⟩ ?_
     rintro i H9 ⟨_,u,ad,n9,aR⟩;have g9:=u.h;have bl:=ad _ _ (by omega) aO;have aw:=ad _ _ (by omega) bI;have bm:=ad _ _ (by omega) bJ;by_cases ax:i<n
     ·have o:wr .i64 ((i:Int)+1)=((i+1:Nat):Int):=by rw[b8];simp
      by_cases c:f.st=3
      ·obtain⟨b,w,V,q2,q3,P,T⟩:=aR.pos (by omega);cases q3;obtain⟨k,U⟩:∃l,l=w.set (i*5+3) (aA [48]):=⟨_,rfl⟩;have r:=T.lt ax (show 3<5 by decide);have sc:setCells w (i*5+3) [aA [48]]=some k:=by rw[U];exact setCells_one r
       obtain⟨aa,a⟩:∃A,A=H9.put b (.cells k (.n 5)):=⟨_,rfl⟩;have r:H.next<=b:=by have:=K.next ab;omega
       have q:pm.may b=true:=g.may r;have w:K pm H aa:=by rw[a];exact aF.put u r P (by simp) _
       rw[c]at ht;have ah:c0 k 5 n λj=>(if j<i+1 then By (qW l) (l.af j) else l.af j).cells:=by
        rw[U];refine T.set ax (by decide) _ ?_ λj s h=>?_
        ·simp[<-ht,By,dy.cells]
        ·by_cases e:j<i
         ·rw[aT e,aT (by omega)]
         ·rw[aC e,aC (by omega)]
       simp[ax,aw,c,bl,P,sc,q,<-a,o];refine jk.of (i+1) ?_ (by simp) ⟨by omega,w,λ_ L hb h=>?_,?_,.inr ⟨b,k,V,q2,rfl,by rw[a];exact b1,ah⟩⟩
       ·show n-(i+1)<n-i;omega
       ·rw[a,a7];exact ad _ _ hb h
       ·rw[a];exact n9
      ·simp[ax,aw,c,o];rw[l0 c]at ht;refine jk.of (i+1) ?_ (by simp) ⟨by omega,u,ad,n9,aR.congr λj s=>?_⟩
       ·show n-(i+1)<n-i;omega
       ·simp[<-ht,By]
     ·obtain rfl:i=n:=by omega
      have bK:∀j,j<i->(Bo l).a[j]? = some (By (qW l) (l.af j)):=λj s=>by
       rw[<-Yv (by omega)];exact aI.jv (by rw[Wl];omega)
      have bL:fC H9 0 (.agg #[.slice R i i,.slice E l.rows.length G]) (Bo l):=by
       refine⟨_,_,rfl,?_,hr.ext (u.ext g)⟩;rw[Wl,<-aQ];exact dk.mono (dR.e (P:=y4 (Bo l).a) aR λj s=>⟨_,bK j s,by rw[aT s]⟩) (Nat.zero_le _) λ_ _ _ h=>h
      simp[bl,bx,bB,-XV,-XS];refine aq.of (az:=[.agg #[.slice R i i,.slice E l.rows.length G],.bool deep,.int .i64 k]) (ZZ M g9 (q.ok ae) bL (λj s=>q.k j s) bo hk) ?_;rintro _ ah ⟨aa,c,b,xv,rv,cA,aC,rfl,a7,bn,bM⟩;have o:=aa.h;obtain⟨xb,xc,rfl,_⟩:=id a7.1.ex;obtain⟨rb,rfl⟩:=bn.form;obtain⟨ay,aS⟩:∃d,d=ah.next:=⟨_,rfl⟩;have bN:pm.may ay=true:=o.may (by omega);have bO:∀Q,(ah.new Q).get ay=some Q:=λQ=>by rw[aS];exact b4
      obtain⟨w,aU⟩:∃A,A=(ah.new (.cells [.int .i64 0,.string ⟨#[]⟩,.slice none 0 0,.slice none 0 0,.slice none 0 0] (.t T.XL))).put ay (.cells [.int .i64 c.qc.st,aA c.qc.val,.slice xb c.qc.x.length xc,.slice none 0 0,.slice none 0 0] (.t T.XL)):=⟨_,rfl⟩;have U:K pm ah w:=by rw[aU,aS];exact ic o _ _
      have i:=U.h;have ka:K pm H w:=K.trans u (K.trans aa U);have aV:w.get ay=some (.cells [.int .i64 c.qc.st,aA c.qc.val,.slice xb c.qc.x.length xc,.slice none 0 0,.slice none 0 0] (.t T.XL)):=by rw[aU];exact b1
      have aW:=U.some o (aa.some g9 aw);have V:=U.some o (aa.some g9 bm);have i:=g9.lt aw;have l1:=g9.lt bm;have i:=K.next ab;simp[o.pick,o.make,ptr, <-aS,bO,bN,<-aU,setCells,-XR,-XN]
      cases b with
      | false=>
        obtain⟨b,a⟩:∃A,A=w.put p (.cells [.int .i64 4,.string ⟨#[]⟩,.slice none 0 0,.slice none 0 0,.slice none 0 0] (.t T.S0)):=⟨_,rfl⟩;have e:K pm H b:=by rw[a];exact aF.put ka (by omega) V (by simp) _
        simp[V,setCells,W,<-a];refine aH _ b 4 [] 0 (by simp) (by simp) (by simp) e (by rw[a];exact b1) (.Bq c Z ae aC)
      | true=>
        have i:p<H9.next:=l1;have P:∀g cs z,g=w.put p (.cells cs z)->h3 g H9.next (.slice xb c.qc.x.length xc) c.qc.x/\yN g (λb=>H9.next<=b) cA (.slice rb c.tree.length c.tree.length) c.tree/\h3 g H4.next (.slice an f.r.length ao) f.r:=λg cs z e=>by
         have a:=g4.lt al;have j:Ext H5 w:=λb L h=>U.some o (aa.some g9 (ad _ _ (by have:=t.lt (k6.some v h);omega) (aP _ _ (k6.some v h))));rw[e];exact⟨(a7.ext (U.ext o)).put i _,(bn.ext (U.ext o)).put i bM _,(a6.ext j).put a _⟩
        by_cases k:f.st=3/\c.qc.st=1
        ·obtain⟨g,a⟩:∃A,A=w.put p (.cells [.int .i64 3,.string ⟨#[]⟩,.slice xb c.qc.x.length xc,.slice none 0 0,.slice an f.r.length ao] (.t T.S0)):=⟨_,rfl⟩;have b:K pm H g:=by rw[a];exact aF.put ka (by omega) V (by simp) _
         obtain⟨e,_,T⟩:=P g _ _ a;simp[V,aW,aV,k.1,k.2,setCells,W,<-a];have hu:qW l=true:=by rw[<-ht,k.1];rfl
         refine aG _ g 3 [] _ _ _ _ 0 H.next ⟨3,[],c.qc.x,[],(Ak l).r⟩ [] (by simp) (by simp) (by simp) b (by rw[a];exact b1) ⟨_,_,_,rfl,e.mono (K.next u),Y,?_⟩ (.inl ⟨rfl,rfl⟩) (bg _) (.qW c Z ae aC hu k.2);rw[VL hS];exact T.mono (K.next ak)
        ·obtain⟨g,e⟩:∃A,A=w.put p (.cells [.int .i64 c.qc.st,aA c.qc.val,.slice xb c.qc.x.length xc,.slice none 0 0,.slice none 0 0] (.t T.S0)):=⟨_,rfl⟩;have i:K pm H g:=by rw[e];exact aF.put ka (by omega) V (by simp) _
         obtain⟨T,r2,_⟩:=P g _ _ e;have hn:¬(qW l=true/\c.qc.st=1):=λh=>k ⟨by have:=h.1;rw[<-ht]at this;exact qP this,h.2⟩;have H:∀m,aK 6 m=some (.pointer (some ⟨p,0,none⟩))->aK 7 m=some (.slice rb c.tree.length c.tree.length)->aK 8 m=some (.int .i64 0)->aB .ret m g:=λm a b d=>
          aG m g c.qc.st c.qc.val _ _ _ _ 0 cA ⟨c.qc.st,c.qc.val,c.qc.x,[],[]⟩ c.tree a b d i (by rw[e];exact b1) ⟨_,_,_,rfl,T.mono (K.next u),Y,Y⟩ (r2.mono (K.next u)) (by have:=K.next u;omega) (.done c Z ae aC hn)
         by_cases e3:f.st=3
         ·have D:c.qc.st≠1:=λh=>k ⟨e3,h⟩;simp[V,aW,aV,e3,D,setCells,bx,bB,W,<-e];exact H _ (by simp) (by simp) (by simp)
         ·have a:(f.st==3)=false:=by simp[e3]
          simp[V,aW,aV, a,setCells,bx,bB,W,<-e];exact H _ (by simp) (by simp) (by simp)
end Go.Dam.C
namespace Go.Dam.C
open Go Go.Dam
variable{deep:Bool}{l:aI}
theorem Ac.up{l:aI}{m n:Nat}{s a b:n6}{x:Bool}(c:m<=n)(h:Ac l deep m s a true)(g:Ac l deep n s b x):a=b/\x=true:=by
 obtain⟨a,b⟩:=(h.more c rfl).Zo g;exact⟨a,b.symm⟩
theorem BA.mono{k dd:Int}{b c:hE}{d e:List Ai}{f g:Int}(h:Bp k<=Bp dd)(i:BA l deep k b d f)(a:BA l deep dd c e g):f=g/\(b.st=4∨b=c/\d=e):=by
 cases i with
 | form b=>
   cases a with
   | form _=>exact⟨rfl,.inr ⟨rfl,rfl⟩⟩
   | wide c _=>rw[b]at c;cases c
   | Bq _ c _ _=>rw[b]at c;cases c
   | qW _ c _ _ _ _=>rw[b]at c;cases c
   | done _ c _ _ _=>rw[b]at c;cases c
 | wide f b=>
   cases a with
   | form c=>rw[f]at c;cases c
   | wide _ _=>exact⟨rfl,.inr ⟨rfl,rfl⟩⟩
   | Bq _ _ c _=>rw[b]at c;cases c
   | qW _ _ c _ _ _=>rw[b]at c;cases c
   | done _ _ c _ _=>rw[b]at c;cases c
 | Bq _ c f _=>
   refine⟨?_,.inl rfl⟩
   cases a with
   | form b=>rw[c]at b;cases b
   | wide _ b=>rw[f]at b;cases b
   | Bq _ _ _ _=>rfl
   | qW _ _ _ _ _ _=>rfl
   | done _ _ _ _ _=>rfl
 | qW _ f g b j k=>
   cases a with
   | form c=>rw[f]at c;cases c
   | wide _ c=>rw[g]at c;cases c
   | Bq _ _ _ c=>obtain⟨_,l⟩:=b.up h c;cases l
   | qW _ _ _ c _ _=>obtain⟨rfl,_⟩:=b.up h c;exact⟨rfl,.inr ⟨rfl,rfl⟩⟩
   | done _ _ _ c l=>obtain⟨rfl,_⟩:=b.up h c;exact absurd ⟨j,k⟩ l
 | done _ f g b j=>
   cases a with
   | form c=>rw[f]at c;cases c
   | wide _ c=>rw[g]at c;cases c
   | Bq _ _ _ a=>obtain⟨_,c⟩:=b.up h a;cases c
   | qW _ _ _ c k l=>obtain⟨rfl,_⟩:=b.up h c;exact absurd ⟨k,l⟩ j
   | done _ _ _ c _=>obtain⟨rfl,_⟩:=b.up h c;exact⟨rfl,.inr ⟨rfl,rfl⟩⟩
end Go.Dam.C
namespace Go.Dam.C
open Go Go.Dam
variable{X:ar}{pm dC:Perm}{H aa bL aj:ad}{n:Nat}
structure rn(X:ar):Prop extends tg X where
 nQ:Has X F.nQ C.nQ
 nR:Has X F.nR C.nR
 ng:Has X F.ng C.ng
 mA:Has X F.mA C.mA
theorem Nv(c:dq):et [.i,.s] c.cells c.cells=some true:=by
 simp[dq.cells,et]
theorem Nu(c:dy):et [.s,.s,.s,.s,.b] c.cells c.cells=some true:=by
 simp[dy.cells,et]
theorem L0(k:rn X)(g:bs pm H){v aH:Value}{l:List dq}(m:gB H v l)(n:gB H aH l)(g':l.length<=1000000):
 Call X pm F.nQ [v,aH] H λr aa=>K pm H aa/\r=.bool true:=by
 refine Call.P k.nQ rfl λ_ o=>?_;obtain⟨p,q,s,t⟩:=m.ex;obtain⟨u,w,x,y⟩:=n.ex;subst s x;obtain⟨a,z⟩:∃k,k=l.length:=⟨_,rfl⟩;simp[-Ay,<-z];refine ef.of (σ:=Nat) (λi=>[(0,.slice p a q),(1,.slice u a w),(5,.int .i64 (i:Int))]) (λi aa=>i<=a/\K pm H aa) (λi=>a-i) 0 (by simp) ⟨Nat.zero_le _,K.refl g⟩ ?_;rintro i e ⟨_,c⟩;have b:=c.h;by_cases f:i<a
 ·obtain⟨_,_,_,_,_,l,r,v,A,_,k,B⟩:=t i (by omega);obtain⟨_,_,d,_,_,C,D,E,F,_,h,G⟩:=y i (by omega);rw[k]at h;cases h;subst l C;have j:=c.some g r;have d:=c.some g D;have H:=b.lt j;have I:=b.lt d;have J:wr .i64 ((i:Int)+1)=((i+1:Nat):Int):=by rw[b8];simp
  have g:K pm e (e.up 9):=(K.refl b).up 9;simp[f];refine cy.of b.ah rfl ?_;simp[b7,b.none,b.J,f,j,d,v,E,A,F,B,G,cj,cd, H,I,bB,J,Nv];refine jk.of (i+1) ?_ (by simp) ⟨by omega,K.trans c g⟩;show a-(i+1)<a-i;omega
 ·obtain rfl:i=a:=by omega
  simp;exact o _ _ _ (by simp;exact c)
theorem ME(l:rn X)(g:bs pm H){r:bQ}{bP m:Value}(n:gB H bP r.j)(o:gB H m r.j)(g':r.j.length<=1000000):
 Call X pm F.nR [.agg (r.cells bP).toArray,.agg (r.cells m).toArray] H λr aa=>K pm H aa/\r=.bool true:=by
 refine Call.P l.nR rfl λ_ v=>?_;obtain⟨e,f,w,_⟩:=n.ex;obtain⟨h,i,x,_⟩:=o.ex;subst w x;obtain⟨y,p⟩:∃j,j=H.next:=⟨_,rfl⟩;obtain⟨a,b⟩:∃a,a=H.new (.cells (r.cells (.slice e r.j.length f)) (.t T.Hm)):=⟨_,rfl⟩;have q:K pm H a:=by rw[b];exact K.new g _
 have s:=q.h;have t:a.get y=some (.cells (r.cells (.slice e r.j.length f)) (.t T.Hm)):=by rw[b,p];exact b4
 obtain⟨z,u⟩:∃j,j=a.next:=⟨_,rfl⟩;obtain⟨c,d⟩:∃c,c=a.new (.cells (r.cells (.slice h r.j.length i)) (.t T.Hn)):=⟨_,rfl⟩;have j:K pm a c:=by rw[d];exact K.new s _
 have m:=j.h;have a:c.get z=some (.cells (r.cells (.slice h r.j.length i)) (.t T.Hn)):=by rw[d,u];exact b4
 have c:=j.some s t;have k:=q.trans j;simp only[bQ.cells]at b d t a c|-;simp[g.pick,g.make,  ptr,<-p,<-b,<-u,<-d,c,a,-Az];refine aq.of (az:=[.slice e r.j.length f,.slice h r.j.length i]) (L0 l m (n.ext (k.ext g)) (o.ext (k.ext g)) g') ?_;rintro _ _ ⟨A,rfl⟩;simp;exact v _ _ _ (by simp;exact K.trans k A)
theorem FM(L:rn X)(g:bs pm H){v aH:Value}{ab:aI}(y:ab.ok)(hv:iL H v ab)(ai:iL H aH ab):
 Call X pm F.ng [v,aH] H λr aa=>K pm H aa/\r=.bool true:=by
 refine Call.P L.ng rfl λ_ hQ=>?_;obtain⟨_,_,rfl,hc,hr⟩:=hv;obtain⟨M,N,rfl,O⟩:=hc.at;obtain⟨P,Q,rfl,R⟩:=hr.at;obtain⟨o,_,rfl,aj,ak⟩:=ai;obtain⟨S,U,rfl,V⟩:=aj.at;obtain⟨W,Y,rfl,Z⟩:=ak.at;obtain⟨a,ad⟩:∃A,A=ab.a.length:=⟨_,rfl⟩;obtain⟨b,ae⟩:∃A,A=ab.rows.length:=⟨_,rfl⟩;have A:=y.c;have ai:=y.r;rw[<-ad]at O V A;rw[<-ae]at R Z ai;obtain⟨p,af⟩:∃f,f=H.next:=⟨_,rfl⟩;obtain⟨e,B⟩:∃e,e=H.new (.cells [.slice M a N,.slice P b Q] (.t T.Ki)):=⟨_,rfl⟩;have k1:K pm H e:=by rw[B];exact K.new g _
 have g1:=k1.h;have al:e.get p=some (.cells [.slice M a N,.slice P b Q] (.t T.Ki)):=by rw[B,af];exact b4
 obtain⟨q,ag⟩:∃f,f=e.next:=⟨_,rfl⟩;obtain⟨h,C⟩:∃h,h=e.new (.cells [.slice S a U,.slice W b Y] (.t T.Kj)):=⟨_,rfl⟩;have A:K pm e h:=by rw[C];exact K.new g1 _
 have n:=A.h;have D:h.get q=some (.cells [.slice S a U,.slice W b Y] (.t T.Kj)):=by rw[C,ag];exact b4
 have E:=A.some g1 al;have G:=k1.trans A;simp[g.pick,g.make,  ptr,<-af,<-B,<-ag,<-C,E,D,<-ad,<-ae,-CO,-CR];refine ef.of (σ:=Nat) (λi=>[(2,.pointer (some ⟨p,0,none⟩)),(3,.pointer (some ⟨q,0,none⟩)),(5,.int .i64 (i:Int))]) (λi aa=>i<=a/\K pm h aa) (λi=>a-i) 0 (by simp) ⟨Nat.zero_le _,K.refl n⟩ ?_;rintro i H3 ⟨_,k⟩;have c:=k.h;have s:=k.some n E;have ah:=k.some n D;have an:=c.lt s;have ao:=c.lt ah;by_cases t:i<a
 ·obtain⟨f,_,_,_,_,m,r,u,v,_,e,w⟩:=O i t;obtain⟨_,_,d,_,_,x,z,F,H,_,j,I⟩:=V i t;rw[e]at j;cases j;subst m x;have e:=K.trans G k;have l:=e.some g r;have d:=e.some g z;have J:=c.lt l;have T:=c.lt d;have o:wr .i64 ((i:Int)+1)=((i+1:Nat):Int):=by rw[b8];simp
  have g:K pm H3 (H3.up 11):=(K.refl c).up 11;simp[t,s];refine cy.of c.ah rfl ?_;simp[b7,c.none,c.J,s,ah,an,ao,t,l,d,u,F,v,H,w,I,cj,cd, J,T,bB,o,Nu];refine jk.of (i+1) ?_ (by simp) ⟨by omega,K.trans k g⟩;show a-(i+1)<a-i;omega
 ·obtain rfl:i=a:=by omega
  simp[s,-CP,-CQ];refine ef.of (σ:=Nat) (λi=>[(2,.pointer (some ⟨p,0,none⟩)),(3,.pointer (some ⟨q,0,none⟩)),(6,.int .i64 (i:Int))]) (λi aa=>i<=b/\K pm h aa) (λi=>b-i) 0 (by simp) ⟨Nat.zero_le _,k⟩ ?_;rintro j l ⟨hj,m⟩;have d:=m.h;have u:=m.some n E;have T:=m.some n D;have a:=d.lt u;have a:=d.lt T;by_cases v:j<b
  ·obtain⟨f,_,_,_,_,f1,f2,f3,f4,r,vc,X,f6,f7⟩:=R j v;obtain⟨b2,_,F,_,_,d1,d2,d3,d4,_,aa,d5,d6,d7⟩:=Z j v;rw[X]at d5;cases d5;subst f1 d1;have w:=K.trans G m;have y1:=w.some g f2;have F:=w.some g d2;have a:=d.lt y1;have a:=d.lt F;have o:wr .i64 ((j:Int)+1)=((j+1:Nat):Int):=by rw[b8];simp
   have x:K pm l (l.up 12):=(K.refl d).up 12;have ab:r.j.length<=1000000:=(y.rs _ (eB X)).2.1;obtain⟨z,H⟩:∃z,z=l.next:=⟨_,rfl⟩;have I:=λj=>(by rw[H];exact d.none j:(l.up 12).get (z+j)=none);have aq:=(by rw[H];exact d.J:(l.up 12).get z=none);simp[v,u];refine cy.of d.ah rfl ?_;rw[<-H];simp[b7,I,aq,u,T,v,y1,F,f3,d3,f4,d4,f6,d6,bB];refine gS x.h (az:=[.agg (r.cells vc).toArray,.agg (r.cells aa).toArray]) (by simp[I]) rfl (λdC a=>ME L a (f7.ext ((K.trans w x).ext g)) (d7.ext ((K.trans w x).ext g)) ab) ?_;rintro _ H5 J rfl;have a:=J.next;have a:∀j,j<12->H5.get (z+j)=none:=λj hj=>(J.get _ (by show z+j<l.next+12;omega)).trans (I j);simp[a,cj,cd,  o,show p<z by omega,show q<z by omega,show f<z by omega,show b2<z by omega];refine jk.of (j+1) ?_ (by simp) ⟨by omega,K.trans m (K.trans x J)⟩;show b-(j+1)<b-j;omega
  ·obtain rfl:j=b:=by omega
   simp[u];exact hQ _ _ _ (by simp;exact K.trans G m)
end Go.Dam.C
namespace Go.Dam.C
open Go Go.Dam
variable{X:ar}{pm dC:Perm}{H aa bL aj:ad}{n:Nat}
theorem hD.put{ak c:Nat}{r:Value}{ab:aI}(h:hD H ak r ab)(a:c<ak)(x:bk):hD (H.put c x) ak r ab:=by
 obtain⟨b,c,d,e,f,rfl,g,i,j,k,l⟩:=h;exact⟨b,c,d,e,f,rfl,g,i,j.put (.inl a) x,k.put (.inl (by omega)) x,λj a=>(l j a).put (by omega) x λ_ _ _ h=>h⟩
theorem hD.ext{ak:Nat}{r:Value}{ab:aI}(h:hD H ak r ab)(e:Ext H aa):hD aa ak r ab:=by
 obtain⟨a,b,c,d,f,rfl,g,i,j,k,l⟩:=h;exact⟨a,b,c,d,f,rfl,g,i,j.ext e,k.ext e,λj a=>(l j a).imp e λ_ _ _ h=>h⟩
theorem hD.mono{ak m0:Nat}{r:Value}{ab:aI}(h:hD H ak r ab)(e:m0<=ak):hD H m0 r ab:=by
 obtain⟨a,b,c,d,f,rfl,_,g,i,j,k⟩:=h;exact⟨a,b,c,d,f,rfl,by omega,g,i.mono e (bg _),j,k⟩
theorem hD.form{ak:Nat}{r:Value}{ab:aI}(h:hD H ak r ab):∃a b,r=.agg #[.slice a ab.a.length ab.a.length,.slice b ab.rows.length ab.rows.length]:=by
 obtain⟨_,_,_,_,_,rfl,_,_,c,d,_⟩:=h;obtain⟨a,rfl⟩:=c.form;obtain⟨b,rfl⟩:=d.form;exact⟨a,b,rfl⟩
theorem FU(l:rn X)(g:bs pm H){p ak:Nat}{ab:aI}(t:ey H p ak ab)(u:ab.a.length<=1000)(v:ab.rows.length<=1000)(w:∀i,i<ab.rows.length->(ab.row i).j.length<=1000):
 Call X pm F.mA [.pointer (some ⟨p,0,none⟩)] H λr aa=>K pm H aa/\hD aa H.next r ab:=by
 refine Call.P l.mA rfl λ_ x=>?_;obtain⟨_,_,y,m⟩:=t;obtain⟨_,_,z,A,B⟩:=id m;cases z;obtain⟨C,D,E,_⟩:=id A;obtain⟨G,I,J,_⟩:=id B;subst E J;obtain⟨a,h⟩:∃t,t=H.next:=⟨_,rfl⟩;obtain⟨b,d⟩:∃b,b=H.new (.cells [.slice none 0 0,.slice none 0 0] (.t T.ua)):=⟨_,rfl⟩;have e:K pm H b:=by rw[d];exact K.new g _
 have n:=e.h;have L:b.get a=some (.cells [.slice none 0 0,.slice none 0 0] (.t T.ua)):=by rw[d,h];exact b4
 have t:b.next=a+1:=by rw[d,h];rfl
 have b:=e.some g y;have M:pm.may a=true:=g.may (by omega);simp[g.pick,g.make,ptr,<-h,<-d,b,bx,bB,-Ad];refine aq.of (az:=[.agg #[.slice C ab.a.length D,.slice G ab.rows.length I]]) (tX l.tovR n (m.ext (e.ext g)) u v w) ?_;rintro _ N ⟨i,o⟩;have b:=i.h;obtain⟨j,k,rfl⟩:=o.form;have q:=i.some n L;obtain⟨s,f⟩:∃A,A=N.put a (.cells [.slice j ab.a.length ab.a.length,.slice k ab.rows.length ab.rows.length] (.t T.ua)):=⟨_,rfl⟩;have b:K pm H s:=by rw[f];exact aF.put (K.trans e i) (by omega) q (by simp) _
 have d:s.get a=some (.cells [.slice j ab.a.length ab.a.length,.slice k ab.rows.length ab.rows.length] (.t T.ua)):=by rw[f];exact b1
 simp[q,setCells,M,<-f];refine x _ _ _ ?_;simp[dG,d,bx,bB];refine⟨b,?_⟩;have h:=(o.put (c:=a) (by omega) (.cells [.slice j ab.a.length ab.a.length,.slice k ab.rows.length ab.rows.length] (.t T.ua))).mono (m0:=H.next) (by omega);rw[<-f]at h;exact h
end Go.Dam.C
namespace Go.Dam.C
open Go Go.Dam
variable{X:ar}{pm:Perm}{H aa bL aj:ad}{n:Nat}
structure F5(X:ar):Prop extends oU X where
 km:Has X F.km C.km
abbrev LB:Nat:=T.R6
theorem zZ{m w cap cc ak:Nat}{c:Option Addr}{P:Nat->List Value->Prop}(h:c8 H (.slice c m cap) m w P)(r:fM ak (.slice c m cap))(s:1<=w)(t:m<=1000)(u:cc<=200)(v:∀i cs,P i cs->cs.all c6=true):
 ∃f l,(∀x∈f,∃y,H.get x=some y)/\(0<m->l.length=m*w/\∀i,i<m->∃cs,bx l (i*w) w=some cs/\P i cs)/\
  ∀aa,Ext H aa->∀ah b fx,(ei w (.slice c m cap) λnew n=>eN w cc (.slice none 0 0) new n).runT ⟨ah,fx,some b⟩ aa=some (aP b m,fp aa b m w l,f,iS b m):=by
 obtain⟨_,_,e,d⟩:=h.ex;cases e
 cases c with
 | none=>
   have a:m=0:=by
    apply lW;intro _;obtain⟨_,_,_,_,_,e,_⟩:=d 0 (by omega);cases e
   subst a;refine⟨[],[],(by simp),λh=>absurd h (Nat.lt_irrefl 0),λaa _ ah b fx=>?_⟩;unfold ei;exact z1
 | some _=>
   have k:0<m:=r.2;obtain⟨z,A,y,B,_,f,g,n,_⟩:=d 0 k;cases f;have o:∀i,i<m->∃cs,bx B (A+i*w) w=some cs/\P i cs:=λi a=>by
    obtain⟨_,_,_,_,cs,f,b,h,l,m⟩:=d i a;cases f;rw[g]at b;cases b;rw[n]at h;cases h;exact⟨cs,l,m⟩
   obtain⟨l,C,c,d⟩:=AS k (λi a=>(o i a).imp λ_ h=>h.1);have q:∀i,i<m->∃cs,bx l (i*w) w=some cs/\P i cs:=λi a=>by
    obtain⟨cs,b,f⟩:=o i a;exact⟨cs,by rw[d i a,b],f⟩
   refine⟨[z],l,λx j=>⟨y,by rw[lY.1 j];exact g⟩,λ_=>⟨c,q⟩,λaa j ah b fx=>?_⟩;have D:l.all c6=true:=by
    rw[eD];intro _ b;obtain⟨p,h,rfl⟩:=u5 b;have a:p<m*w:=by omega
    have b:p/w<m:=ox (by rw[dW];exact a);obtain⟨cs,a,c⟩:=q (p/w) b;have b:=(pg a).2;have a:=eD.1 (v _ _ c);have c:p%w<w:=kY _ (by omega);have e:p/w*w+p%w=p:=by rw[dW];exact qM p w
    refine a _ ?_;rw[b];refine List.mem_iff_getElem?.2 ⟨p%w,?_⟩;rw[kZ c,ki,e];exact eu h
   unfold ei;simp only[aQ.runT,j _ _ g,n,C];rw[copyV D s t u]
structure zh(H:ad)(ak cP cA:Nat)(ab:aI)(cn:Nat->Nat):Prop where
 b:ak<=cP/\cP<cA/\cA<H.next/\∀i,i<ab.rows.length->cA<cn i
 c:0<ab.a.length->∃L,H.get cP=some (.cells L (.n 5))/\c0 L 5 ab.a.length λj=>(ab.af j).cells
 w:0<ab.rows.length->∃L,H.get cA=some (.cells L (.n 5))/\c0 L 5 ab.rows.length λi=>(ab.row i).cells (aP (cn i) (ab.row i).j.length)
 v:∀i,i<ab.rows.length->0<(ab.row i).j.length->∃M,H.get (cn i)=some (.cells M (.n 2))/\c0 M 2 (ab.row i).j.length λk=>((ab.row i).j.getD k wN).cells
variable{c7 cb cP cA c3 ct:Nat}{eO cB:Nat->List Value}
theorem L1(w:bs pm aj)(q:oV aj c7 cb cP cA)(s:eo pm aj H c7 cb cP cA c3 ct eO cB)(R:ct<=12){i:Nat}(aJ:i<ct){r:bQ}{bP:Value}{ak:Nat}(B:cB i=r.cells bP)
 (D:gB aj bP r.j) (U:fM ak bP) (V:r.j.length<=1000) {R:b5}
 (E:∀aN aa b,Sub [(15,.int .i64 (i:Int)),(14,.int .i64 (ct:Int)),(2,.pointer (some ⟨c7,0,none⟩)),(3,.pointer (some ⟨cb,0,none⟩))] aN->eo pm aj aa c7 cb cP cA c3 ct eO (λj=>if j=i then r.cells (aP b r.j.length) else cB j)->
  (0<r.j.length->∃M,aa.get b=some (.cells M (.n 2))/\c0 M 2 r.j.length λk=>(r.j.getD k wN).cells)->H.next<=b->(∀b y,b≠cA->H.get b=some y->aa.get b=some y)->R .normal aN aa):
 wp X pm (.code (.seq (.bj [m 17 15,m 4 17]) C.CN)) [(16,.bool true),(15,.int .i64 (i:Int)),(14,.int .i64 (ct:Int)),(2,.pointer (some ⟨c7,0,none⟩)),(3,.pointer (some ⟨cb,0,none⟩))] H [] R:=by
 have g:=s.k.h;have R:=q.bX;have R:=q.cv;have R:=q.cF;have R:=q.dw;have R:=g.lt s.x;obtain⟨L,F,G⟩:=s.w (by omega);have u:=s.x;rw[cO (show 0<ct by omega)]at u;have f:L[i*5+2]? = some bP:=by rw[(G.2 i aJ).2 2 (by decide),B];rfl
 obtain⟨W,Y,rfl,_⟩:=D.ex;have R:gB H (.slice W r.j.length Y) r.j:=D.ext (s.k.ext w);obtain⟨D,I,W,J,N⟩:=zZ (cc:=24) R U (by decide) V (by decide) (λi Z ⟨ab,_,R⟩=>by rw[R];rfl);have ad:∀x∈D,x<H.next:=λx c=>by obtain⟨y,D⟩:=W x c;exact g.lt D
 obtain⟨z,e⟩:∃z,z=H.next:=⟨_,rfl⟩;obtain⟨d,O⟩:∃k,k=r.j.length:=⟨_,rfl⟩;rw[<-O]at N J E;rw[<-O]at f;have P:K pm H (H.up 13):=(K.refl g).up 13;have Q:=N _ (P.ext g) pm.ah (z+9) pm.ok;obtain⟨v,l⟩:∃A,A=fp (H.up 13) (z+9) d 2 I:=⟨_,rfl⟩;have p:K pm H v:=by rw[l];exact aF.fp P (by omega) (by rw[e];exact g.none 9) (by show z+9<H.next+13;omega)
 rw[<-l]at Q;have ae:∀j,j≠9->v.get (z+j)=none:=λj S=>by rw[l,o9,e];exact g.none j
 have T:=p.some g F;have D:=p.some g u;obtain⟨A2,t⟩:∃A,A=v.put cA (.cells (L.set (i*5+2) (aP (z+9) d)) (.n 5)):=⟨_,rfl⟩;have s2:eo pm aj A2 c7 cb cP cA c3 ct eO (λj=>if j=i then r.cells (aP (z+9) d) else cB j):=by
  rw[t];exact(s.up p).row q aJ (by decide) (by rw[B];simp[bQ.cells]) (λj _ h=>by simp[h]) T
 have af:∀b i,c6 (aP b i)=true:=λb i=>by unfold aP;split<;>rfl
 have ag:∀b i,(aP b i).cells=#[aP b i]:=λb i=>by unfold aP;split<;>rfl
 have ai:setCells L (i*5+2) [aP (z+9) d]=some (L.set (i*5+2) (aP (z+9) d)):=setCells_one (G.lt aJ (show 2<5 by decide));have al:=λo=>eG (ah:=pm.ah) (ok:=pm.ok) (o:=o) (b:=cA) (by have:=w.ah;omega);have d1:=(jU (a:=[cb]) (b:=iS (z+9) d) (n:=z) (λx c=>by rw[lY.1 c];omega) (λx c=>by rw[rG c];omega)).2;have l4:cb<z:=by omega
 have l5:cA<z:=by omega
 have an:=λj=>(by rw[e];exact g.none j:(H.up 13).get (z+j)=none);have ao:=(by rw[e];exact g.J:(H.up 13).get z=none);simp;refine cy.of g.ah rfl ?_;rw[<-e];simp[b7,an,ao,u,F,aJ,f,Q,ae,T, ag,af,ai,al,<-t,d1,l4,l5,cj,cd,dM,-ei];refine⟨λx c=>.inl (.inl (.inl (by have:=ad x c;omega))),?_⟩;refine E _ _ (z+9) ?_ s2 (λh=>?_) (by omega) λb y hb h=>?_
 ·simp
 ·obtain⟨a,b⟩:=J h;refine⟨I,by rw[t,a7,l];exact rF h,c0.of a λj S=>?_⟩;obtain⟨Z,i,ab,f,rfl⟩:=b j S;rw[i,il,f];rfl
 ·rw[t,a7 (h:=hb)];exact p.some g h
end Go.Dam.C
namespace Go.Dam.C
open Go Go.Dam
variable{X:ar}{pm:Perm}{H aa bL aj:ad}{n:Nat}
theorem L2(hX:F5 X)(g:bs pm H){v:Value}{ab:aI}{ak:Nat}(hv:hC H ak v ab)(W:d' ab)(aC:∀i,i<ab.rows.length->(ab.row i).j.length<=1000):
 Call X pm F.km [v] H λr aa=>K pm H aa/\∃bc cA cn,r=.agg #[aP bc ab.a.length,aP cA ab.rows.length]/\zh aa H.next bc cA ab cn:=by
 refine Call.P hX.km rfl λ_ hQ=>?_;obtain⟨_,_,rfl,hc,hr,aD,aE⟩:=hv;have aO:=W.n;have aO:=W.m;obtain⟨ao,aq,rfl,_⟩:=hc.ex;obtain⟨ar,au,rfl,_⟩:=c8.ex hr;obtain⟨I,C⟩:∃b,b=H.next:=⟨_,rfl⟩;obtain⟨s,J⟩:∃s,s=H.new (.cells [.slice ao ab.a.length aq,.slice ar ab.rows.length au] (.t LB)):=⟨_,rfl⟩;have k1:K pm H s:=by rw[J];exact K.new g _
 have g1:=k1.h;have aG:s.get I=some (.cells [.slice ao ab.a.length aq,.slice ar ab.rows.length au] (.t LB)):=by rw[J,C];exact b4
 obtain⟨p,V⟩:∃b,b=s.next:=⟨_,rfl⟩;obtain⟨a,L⟩:∃a,a=s.new (.cells [.slice none 0 0,.slice none 0 0] (.t tyU1)):=⟨_,rfl⟩;have W:K pm s a:=by rw[L];exact K.new g1 _
 have d:=W.h;have aH:a.get p=some (.cells [.slice none 0 0,.slice none 0 0] (.t tyU1)):=by rw[L,V];exact b4
 have E:=W.some g1 aG;have Y:=k1.trans W;have W:s.next=I+1:=by rw[J,C];rfl
 have s:a.next=p+1:=by rw[L,V];rfl
 obtain⟨fc,lc,W,Z,ad⟩:=zZ (cc:=72) (gC.ext hc (Y.ext g)) aD (by decide) (by omega) (by decide) (λi cs ⟨av,_,f⟩=>by rw[f];rfl);obtain⟨fr,M,ao,ae,af⟩:=zZ (cc:=80) (c8.imp hr (Y.ext g) λ_ _ _ h=>h) aE (by decide) (by omega) (by decide) (λi cs ⟨av,bP,_,f,m,_⟩=>by
  rw[f];obtain⟨_,_,b,_⟩:=m.ex;rw[b];rfl)
 have ag:∀x∈fc,x<a.next:=λx e=>by obtain⟨aq,s⟩:=W x e;exact d.lt s
 have N:∀x∈fr,x<a.next:=λx e=>by obtain⟨aq,s⟩:=ao x e;exact d.lt s
 obtain⟨t,O⟩:∃k,k=ab.a.length:=⟨_,rfl⟩;obtain⟨l,P⟩:∃k,k=ab.rows.length:=⟨_,rfl⟩;rw[<-O]at ad Z E;rw[<-P]at af ae E;obtain⟨z,w⟩:∃z,z=a.next:=⟨_,rfl⟩;have kU:K pm a (a.up 9):=(K.refl d).up 9;have xU:=kU.ext d;obtain⟨Q,D⟩:∃A,A=fp (a.up 9) (z+2) t 5 lc:=⟨_,rfl⟩;have ai:K pm a Q:=by rw[D];exact aF.fp kU (by omega) (by rw[w];exact d.none 2) (by show z+2<a.next+9;omega)
 have c2:=ad _ xU pm.ah (z+2) pm.ok;have aJ:=ai.ext d;obtain⟨R,y⟩:∃A,A=fp Q (z+5) l 5 M:=⟨_,rfl⟩;have S:∀j,j≠2->Q.get (z+j)=none:=λj c=>by rw[D,o9,w];exact d.none j
 have s:Q.next=z+9:=by rw[D,tY,w];rfl
 have aw:K pm a R:=by rw[y];exact aF.fp ai (by omega) (S 5 (by decide)) (by omega)
 have c4:=af _ aJ pm.ah (z+5) pm.ok;have T:∀j,j≠2->j≠5->R.get (z+j)=none:=λj c _=>by rw[y,o9];exact S j c
 have aK:R.next=z+9:=by rw[y,tY,s]
 rw[<-D]at c2;rw[<-y]at c4;have aL:=ai.some d E;have s:=aw.some d E;simp[g.pick,g.make,ptr,<-C,<-J,  <-V,<-L,-yh];refine cy.of d.ah rfl ?_;rw[<-w];have ax:=λj=>(by rw[w];exact d.none j:(a.up 9).get (z+j)=none);have ay:=(by rw[w];exact d.J:(a.up 9).get z=none);have az:∀b i,c6 (aP b i)=true:=λb i=>by unfold aP;split<;>rfl
 have aM:∀b i,(aP b i).cells=#[aP b i]:=λb i=>by unfold aP;split<;>rfl
 obtain⟨G,u⟩:∃A,A=R.put (z+7) (.cells [.slice none 0 0,.slice none 0 0] (.t tyU2)):=⟨_,rfl⟩;obtain⟨A4,B⟩:∃A,A=G.put (z+7) (.cells [aP (z+2) t,aP (z+5) l] (.t tyU2)):=⟨_,rfl⟩;have aA:G.get (z+8)=none:=by rw[u,a7];exact T 8 (by decide) (by decide)
 have aj:G.get (z+7)=some (.cells [.slice none 0 0,.slice none 0 0] (.t tyU2)):=by rw[u];exact b1
 have J:=λo=>eG (ah:=pm.ah) (ok:=pm.ok) (o:=o) (b:=z+7) (by have:=d.ah;omega);have L:I<z:=by omega
 have al:∀j k,∀x∈iS (z+j) k,z<=x:=λj k x e=>by rw[rG e];omega
 have C:∀x∈[I],x<z:=λx e=>by rw[lY.1 e];omega
 have s:∀x∈[z+7],z<=x:=λx e=>by rw[lY.1 e];omega
 rw[<-w]at ag N;have d1:=λj k=>(jU C (al j k)).2;have d2:=λj k=>(jU N (al j k)).2;have d3:=(jU C s).2;have d4:=(jU ag s).2;have d5:=(jU N s).2;have d6:=(wK (n:=t) (show z+2≠z+7 by omega)).2;have d7:=(wK (n:=l) (show z+5≠z+7 by omega)).2;have f1:∀b∈fc,b<z∨z+9<=b:=λb U=>.inl (ag b U);have f2:∀b∈fr,b<z∨z+9<=b:=λb U=>.inl (N b U);rw[<-O,<-P];simp[d1, d3,d4,d5,d6,d7,L,dM,b7,ax,ay,E,c2,S,aL,c4,T,aM,az,setCells,bB,Perm.make,Perm.pick,ptr,<-u,aA,aj,J,<-B,cj,cd,-ei,-yh];refine⟨⟨λx e=>.inl (.inl (f1 x e)),λx e=>.inl (.inl (f2 x e))⟩,?_⟩;have e:G.next=z+9:=by rw[u];exact aK
 have s:K pm a G:=by rw[u];exact aF.fill aw (by omega) (T 7 (by decide) (by decide)) (by omega) _
 have aB:K pm a A4:=by rw[B];exact aF.put s (by omega) aj (by simp) _
 have a:A4.next=z+9:=by rw[B];exact e
 have aN:oV H p (z+7) (z+2) (z+5):=⟨by omega,by omega,by omega,by omega⟩;obtain⟨q,an⟩:∃q:Nat->Value,∀j,j<l->(bx M (j*5) 5=some ((ab.row j).cells (q j))/\gB H (q j) (ab.row j).j/\fM ak (q j)):=by
  have:∀j,∃v,j<l->(bx M (j*5) 5=some ((ab.row j).cells v)/\gB H v (ab.row j).j/\fM ak v):=λj=>by
   by_cases c:j<l
   ·obtain⟨cs,b,r,bP,m,rfl,g,i⟩:=(ae (by omega)).2 j c;rw[aI.rowAt (by omega)]at m;cases m;exact⟨bP,λ_=>⟨b,g,i⟩⟩
   ·exact⟨.bool true,λh=>absurd h c⟩
  exact⟨λj=>(this j).choose,λj=>(this j).choose_spec⟩
 have s0:eo pm H A4 p (z+7) (z+2) (z+5) t l (λj=>(ab.af j).cells) (λj=>(ab.row j).cells (q j)):=by
  refine⟨K.trans Y aB,aB.some d aH,by rw[B];exact b1,λh=>⟨lc,?_,c0.of (Z h).1 λj c=>?_⟩,λh=>⟨M,?_,c0.of (ae h).1 λj c=>(an j c).1⟩⟩
  ·rw[B,a7,u,a7,y,o9,D];exact rF h
  ·obtain⟨cs,b,av,m,rfl⟩:=(Z h).2 j c;rw[aI.jv (by omega)]at m;cases m;exact b
  ·rw[B,a7,u,a7,y];exact rF h
 clear D y u B af ad c2 c4 S T aA aj d1 d2 d3 d4 d5 d6 d7 f1 f2 ax ay al;obtain⟨_,d,_⟩:=k9 (z+2) t;obtain⟨_,e,_⟩:=k9 (z+5) l;have a:=s0.x;rw[d,e]at a;simp[a,-CL,-CM]
 refine eE (σ:=Nat->Nat) l (λ_ _=>[(2,.pointer (some ⟨p,0,none⟩)),(3,.pointer (some ⟨z+7,0,none⟩))])
  (λi cn aa=>eo pm H aa p (z+7) (z+2) (z+5) t l (λj=>(ab.af j).cells) (λj=>if j<i then(ab.row j).cells (aP (cn j) (ab.row j).j.length) else(ab.row j).cells (q j))/\
   ∀j,j<i->(0<(ab.row j).j.length->∃M,aa.get (cn j)=some (.cells M (.n 2))/\c0 M 2 (ab.row j).j.length λk=>((ab.row j).j.getD k wN).cells)/\z+6<=cn j)
  (λ_=>0) (by simp) ⟨by simpa using s0,λj c=>absurd c (hz _)⟩ ?_ ?_
 ·rintro i cn _ a ⟨d,o⟩;refine L1 g aN d (by omega) a (r:=ab.row i) (bP:=q i) (ak:=ak) (by simp) (an i a).2.1 (an i a).2.2 (aC i (by omega)) ?_;intro _ _ b a v n U F;have e:=d.k.h.lt d.x;refine⟨λj=>if j=i then b else cn j,a,?_,λj c=>?_⟩
  ·have f:(λj=>if j=i then(ab.row i).cells (aP b (ab.row i).j.length) else if j<i then(ab.row j).cells (aP (cn j) (ab.row j).j.length) else(ab.row j).cells (q j))=(λj=>if j<i+1 then(ab.row j).cells (aP (if j=i then b else cn j) (ab.row j).j.length) else(ab.row j).cells (q j)):=by
    funext j;by_cases f:j=i
    ·subst f;simp
    ·by_cases m:j<i
     ·simp[f,m,show j<i+1 by omega]
     ·simp[f,m,show ¬j<i+1 by omega]
   rw[<-f];exact v
  ·by_cases f:j=i
   ·subst f;simp only[if_true];exact⟨n,by omega⟩
   ·simp only[f,if_false];obtain⟨a,b⟩:=o j (by omega);exact⟨λh=>(a h).imp λ_ n=>⟨F _ _ (by omega) n.1,n.2⟩,b⟩
 ·rintro cn o ⟨n,r⟩;have v:=n.x;have F:=n.r;have gB:=n.k.h;have aa:pm.may p=true:=g.may (by omega);obtain⟨X,b⟩:∃A,A=o.put p (.cells [aP (z+2) t,aP (z+5) l] (.t tyU1)):=⟨_,rfl⟩;simp[v,F,bx,bB, az,setCells,aa,<-b];refine hQ _ _ _ ?_;have a:X.get p=some (.cells [aP (z+2) t,aP (z+5) l] (.t tyU1)):=by rw[b];exact b1
  have d:K pm H X:=by rw[b];exact aF.put n.k (by omega) F (by simp) _
  simp[dG,a,bx,bB];refine⟨d,z+2,z+5,⟨by rw[O],by rw[P]⟩,cn,⟨by omega,by omega,by have:=d.h.lt a;have:=gB.lt v;rw[b];show z+5<o.next;omega,λi a=>by have:=(r i (by omega)).2;omega⟩,λh=>?_,λh=>?_,λi a h=>?_⟩
  ·obtain⟨L,a,d⟩:=n.c (by omega);exact⟨L,by rw[b,a7];exact a,by rw[<-O];exact d⟩
  ·obtain⟨L,d,a⟩:=n.w (by omega);refine⟨L,by rw[b,a7];exact d,?_⟩;rw[<-P];refine⟨a.1,λj c=>?_⟩;have:=a.2 j c;simp only[c,if_true]at this;exact this
  ·obtain⟨a,_⟩:=r i (by omega);exact(a h).imp λ_ a=>⟨by rw[b,a7];exact a.1,a.2⟩
def Ma(l:List (List UInt8))(i:Nat):List UInt8:=(l.getD i []).take 20
def Bn(H:ad)(ak:Nat)(v:Value)(k:Nat)(f:Nat->List UInt8):Prop:=∃c,v=aP c k/\(0<k->ak<=c/\dT H c k f)
theorem Bn.strs{ak k:Nat}{v:Value}{f:Nat->List UInt8}(h:Bn H ak v k f):iN H v ((List.range k).map f):=by
 obtain⟨_,rfl,h⟩:=h;by_cases e:k=0
 ·subst e;exact iN.nil
 ·rw[cO (by omega)];exact(h (by omega)).2.strs
theorem Bn.k{ak k:Nat}{v:Value}{f:Nat->List UInt8}(h:Bn H ak v k f)(g:bs pm H)(u:K pm H aa):Bn aa ak v k f:=by
 obtain⟨c,e,h⟩:=h;exact⟨c,e,λa=>⟨(h a).1,(h a).2.k g u⟩⟩
theorem Bn.mono{ak cf k:Nat}{v:Value}{f:Nat->List UInt8}(h:Bn H ak v k f)(b:cf<=ak):Bn H cf v k f:=by
 obtain⟨c,e,h⟩:=h;exact⟨c,e,λa=>⟨aY b (h a).1,(h a).2⟩⟩
theorem Bn.put{ak k b:Nat}{v:Value}{f:Nat->List UInt8}(h:Bn H ak v k f)(a:b<ak)(x:bk):Bn (H.put b x) ak v k f:=by
 obtain⟨c,e,h⟩:=h;exact⟨c,e,λa=>⟨(h a).1,(h a).2.e7 (by have:=(h a).1;omega) x⟩⟩
theorem YS(o:oU X)(u:Has X F.Bs C.Bs)(i:bs pm aj){v:Value}{l:List (List UInt8)}{n:Nat}(N:n<=1000)(w:iN aj v l):
 Call X pm F.Bs [v,.int .i64 (n:Int)] aj λr aa=>K pm aj aa/\Bn aa aj.next r (min n l.length) (Ma l):=by
 refine Call.P u rfl λ_ q=>?_;obtain⟨x,y,rfl,z⟩:=w.ex;simp[-Xh]
 refine ef.of (σ:=Nat×Nat) (λs=>[(0,.slice x l.length y),(1,.int .i64 (n:Int)),(5,aP s.2 s.1),(6,.int .i64 (s.1:Int))])
  (λs aa=>s.1<=n/\s.1<=l.length/\K pm aj aa/\(0<s.1->aj.next<=s.2/\dT aa s.2 s.1 (Ma l))) (λs=>n-s.1) (0,0) (by simp[aP]) ⟨Nat.zero_le _,Nat.zero_le _,K.refl i,λh=>absurd h (Nat.lt_irrefl 0)⟩ ?_
 rintro⟨k,d⟩ b ⟨u,w,a,e⟩;simp only at u w e;have f:=a.h;by_cases g:k<l.length
 ·by_cases r:k<n
  ·obtain⟨_,_,_,_,_,rfl,v,A,B,s,C,rfl⟩:=z k g;have u:=a.some i v;have D:Ma l k=s.take 20:=by rw[Ma,il,C];rfl
   simp[g,r,u,A,B, -Xi];refine aq.of (az:=[aA s,.int .i64 20]) (pX o (n:=20)) ?_;rintro _ b ⟨rfl,rfl⟩;have m:=K.new f (.cells [aA (s.take 20)] (.n 1));obtain⟨c,o,t,E,F⟩:∃c o,lg (b.new (.cells [aA (s.take 20)] (.n 1))) (aP d k) 1 k c o/\(∀h,o=some h->aj.next<=h/\pm.may h=true)/\∀j,j<k->c[j]? = some (aA (Ma l j)):=by
    by_cases p:k=0
    ·subst p;exact⟨[],none,⟨rfl,rfl,rfl⟩,by simp,by simp⟩
    ·obtain⟨l,n⟩:=e (by omega);obtain⟨c,o,u,G⟩:=n.k f m;exact⟨c,some d,⟨cO (by omega),by simpa using u,o⟩,λh H=>by cases H;exact⟨l,i.may l⟩,G⟩
   obtain⟨_,I,J,L,_,_⟩:=zy m.h (cc:=16) (n:=aj.next) t (xs:=[aA (s.take 20)]) rfl rfl (bg _) (by omega) (by omega) (by have:=a.next;show aj.next<=b.next+1;omega) E;have c:wr .i64 ((k:Int)+1)=((k+1:Nat):Int):=by rw[b8];simp
   simp[f.pick,f.make,I,c];refine jk.of (k+1,b.next+1) (by show n-(k+1)<n-k;omega) (by simp[aP]) ⟨by show k+1<=n;omega,by show k+1<=l.length;omega,aF.trans (K.trans a m) L,λ_=>⟨by have:=a.next;show aj.next<=b.next+1;omega,?_⟩⟩;obtain⟨_,b,c⟩:=J;refine⟨_,c,by simpa using b,λj _=>?_⟩;have M:=t.len;by_cases p:j=k
   ·subst p;rw[hR (by omega),D];simp[M]
   ·rw[hi (by omega)];exact F j (by omega)
  ·simp[g,r,];refine q _ _ _ ?_;simp;have:min n l.length=k:=by omega
   exact⟨a,by rw[this];exact⟨d,rfl,e⟩⟩
 ·simp[g,bz];refine q _ _ _ ?_;simp;have:min n l.length=k:=by omega
  exact⟨a,by rw[this];exact⟨d,rfl,e⟩⟩
theorem De{ak b k w:Nat}{P:Nat->List Value->Prop}(h:0<k->ak<=b/\∃L f,H.get b=some (.cells L (.n w))/\c0 L w k f/\∀i,i<k->P i (f i)):dk H ak (aP b k) k w P:=by
 by_cases e:k=0
 ·subst e;exact⟨none,0,rfl,λ_=>rfl,λ_ e=>by cases e⟩
 ·obtain⟨a,L,f,c,d,g⟩:=h (by omega);rw[cO (by omega)];exact dR.e (ah:=ak) (aJ:=b+1) (.inr ⟨b,L,a,by omega,rfl,c,d⟩) g
theorem zh.e{ak c cA:Nat}{ab:aI}{cn:Nat->Nat}(h:zh H ak c cA ab cn):fC H ak (.agg #[aP c ab.a.length,aP cA ab.rows.length]) ab:=by
 have d:=h.b;refine⟨_,_,rfl,De λa=>?_,De λa=>?_⟩
 ·obtain⟨L,b,c⟩:=h.c a;exact⟨d.1,L,_,b,c,λ_ b=>⟨_,aI.jv b,rfl⟩⟩
 ·obtain⟨L,c,e⟩:=h.w a;refine⟨by omega,L,_,c,e,λi b=>⟨_,_,aI.rowAt b,rfl,De λa=>?_⟩⟩;obtain⟨M,c,e⟩:=h.v i b a;refine⟨by have:=d.2.2.2 i b;omega,M,_,c,e,λ_ f=>⟨_,?_,rfl⟩⟩;rw[il,eu f];rfl
theorem Zj(ab:aI):We ab.cut:=by
 refine⟨ab.NL,λc a=>?_,λi b=>?_⟩
 ·obtain⟨c,_,rfl⟩:=k1.1 a;simp only[dy.cut,k4];omega
 ·obtain⟨_,_,e⟩:=k1.1 (eB (aI.rowAt b):ab.cut.row i∈(ab.rows.take 6).map bQ.cut);rw[<-e];simp only[bQ.cut,pG,k4];omega
structure VO(X:ar):Prop extends Bw X where
 nQ:Has X F.nQ C.nQ
 nR:Has X F.nR C.nR
 ng:Has X F.ng C.ng
 mA:Has X F.mA C.mA
 km:Has X F.km C.km
 Bs:Has X F.Bs C.Bs
 Vz:Has X F.Vz C.Vz
theorem VO.q(h:VO X):rn X:=⟨h.totg,h.nQ,h.nR,h.ng,h.mA⟩
theorem VO.r(h:VO X):F5 X:=⟨h.tooU,h.km⟩
abbrev Wy:Nat:=T.Zy
abbrev WL:List UInt8:=[49,50,51,52,53]
theorem Bn.ok{ak k:Nat}{v:Value}{l:List (List UInt8)}(_:Bn H ak v k (Ma l))(b:k<=1000):o4 ((List.range k).map (Ma l)):=by
 refine⟨by simp;omega,λ_ a=>?_⟩;obtain⟨_,_,rfl⟩:=k1.1 a;unfold Ma;rw[k4];omega
set_option maxHeartbeats 1000000 in
theorem Y9(b:VO X)(g:bs pm H){v vx vy:Value}{ab:aI}{lx ly:List (List UInt8)}(a6:mr H v ab)(hx:iN H vx lx)(hy:iN H vy ly):
 Call X pm F.Vz [v,vx,vy] H λr aa=>K pm H aa/\r=.bool true:=by
 refine Call.P b.Vz rfl λa8 hQ=>?_;have hv:=a6.ab;obtain⟨_,_,rfl,hc,hr⟩:=hv;obtain⟨aD,aE,rfl,_⟩:=hc.at;obtain⟨aG,aH,rfl,_⟩:=hr.at;obtain⟨y,aJ⟩:∃e,e=H.next:=⟨_,rfl⟩;obtain⟨s,Z⟩:∃s,s=H.new (.cells [.slice aD ab.a.length aE,.slice aG ab.rows.length aH] (.t Wy)):=⟨_,rfl⟩;have k1:K pm H s:=by rw[Z];exact K.new g _
 have g1:=k1.h;have a_:s.get y=some (.cells [.slice aD ab.a.length aE,.slice aG ab.rows.length aH] (.t Wy)):=by rw[Z,aJ];exact b4
 have n1:s.next=y+1:=by rw[Z,aJ];rfl
 have bI:pm.may y=true:=g.may (by omega);simp[g.pick,g.make,ptr,<-aJ,<-Z,-Xe,-W6];refine aq.of (az:=[]) (M6 b.tooU g1.dD) ?_;rintro _ s ⟨rfl,rfl⟩;simp[a_,bx,bB,-Xd,-W5];refine aq.of (az:=[.agg #[.slice aD ab.a.length aE,.slice aG ab.rows.length aH]]) (FD b.tooU pm _ g1 _ ab (a6.ext (k1.ext g))) ?_;rintro _ H2 ⟨k2,f2⟩;have g2:=k2.h;have bb:=k2.some g1 a_;obtain⟨_,_,rfl,bc,bd,bJ,bK⟩:=f2;obtain⟨f,h,rfl,_⟩:=bc.at;obtain⟨i,j,rfl,_⟩:=bd.rows.at;obtain⟨H3,O⟩:∃A,A=H2.put y (.cells [.slice f ab.cut.a.length h,.slice i ab.cut.rows.length j] (.t Wy)):=⟨_,rfl⟩;have Z:aF pm H.next H2 H3:=by rw[O];exact aF.put (.refl g2) (by omega) bb (by simp) _
 have k3:K pm H H3:=aF.trans (K.trans k1 k2) Z;have g3:=k3.h;have r3:H3.get y=some (.cells [.slice f ab.cut.a.length h,.slice i ab.cut.rows.length j] (.t Wy)):=by rw[O];exact b1
 have aL:hC H3 s.next (.agg #[.slice f ab.cut.a.length h,.slice i ab.cut.rows.length j]) ab.cut:=by
  rw[O];exact hC.put ⟨_,_,rfl,bc,bd,bJ,bK⟩ (by omega) _
 have ad:=Zj ab;obtain⟨l,hl⟩:∃l,l=ab.cut:=⟨_,rfl⟩;rw[<-hl]at O r3 aL ad;have k:=ad.s;have ae:=ad.k;have bL:=aL.e;have s:∀o aa,K pm H aa->aK 6 o=some (.bool true)->a8 .ret o aa:=λo aa z s=>hQ _ _ _ (by simp[s];exact z);simp[bb,setCells,bI,<-hl,<-O,r3,bx,bB,-Xc,-W4];refine aq.of (az:=[.agg #[.slice f l.a.length h,.slice i l.rows.length j]]) (L2 b.r g3 aL k ae) ?_;rintro _ H4 ⟨k4,bf,bM,_,rfl,ow⟩;have B:=k4.h;have bh:=ow.e;obtain⟨C,ag⟩:∃t,t=H4.next:=⟨_,rfl⟩;have bO:pm.may C=true:=B.may (by have:=K.next k3;have:=K.next k4;omega);have bP:∀x,(H4.new x).get C=some x:=λx=>by rw[ag];exact b4
 obtain⟨D,ai⟩:∃aM,aM=aP bf l.a.length:=⟨_,rfl⟩;obtain⟨E,aN⟩:∃aM,aM=aP bM l.rows.length:=⟨_,rfl⟩;rw[<-ai,<-aN]at bh;obtain⟨d,aj⟩:∃A,A=(H4.new (.cells [.slice none 0 0,.slice none 0 0] (.t T.WW))).put C (.cells [D,E] (.t T.WW)):=⟨_,rfl⟩;have k5:K pm H4 d:=by rw[aj,ag];exact ic B _ _
 have c:=k5.h;have s:=K.trans k4 k5;have ak:=K.trans k3 s;have w:=s.some g3 r3;have P:d.get C=some (.cells [D,E] (.t T.WW)):=by rw[aj];exact b1
 have O:d.next=C+1:=by rw[aj,ag];rfl
 have q:=bL.ext (s.ext g3);have bQ:=bh.ext (k5.ext B);have bj:∀{e z:Nat},c6 (aP e z)=true/\(aP e z).cells=#[aP e z]:=λ{e z}=>by unfold aP;split<;>exact⟨rfl,rfl⟩
 have s:c6 D=true/\D.cells=#[D]:=by rw[ai];exact bj
 have z:c6 E=true/\E.cells=#[E]:=by rw[aN];exact bj
 simp[B.pick,B.make,ptr, <-ag,bP,bO,<-ai,<-aN,s,z,setCells,<-aj,-Xb,-Wj];refine aq.of (az:=[vx,.int .i64 6]) (YS (n:=6) b.tooU b.Bs c (by decide) (hx.ext (ak.ext g))) ?_;rintro ag _ ⟨s,tx⟩;have g6:=s.h;simp[-Xa,-Wj];refine aq.of (az:=[vy,.int .i64 6]) (YS (n:=6) b.tooU b.Bs g6 (by decide) (hy.ext ((K.trans ak s).ext g))) ?_;rintro aD _ ⟨O,ty⟩;have z:=O.h;have Z:=K.trans s O;have s:=tx.k g6 O;have sx:=s.strs;have sy:=ty.strs;have aj:o4 ((List.range (min 6 lx.length)).map (Ma lx)):=tx.ok (by omega);have aE:o4 ((List.range (min 6 ly.length)).map (Ma ly)):=ty.ok (by omega);have O:=Z.some c w;simp[O,bx,bB,-W3];refine aq.of (az:=[.agg #[.slice f l.a.length h,.slice i l.rows.length j]]) (zf b.toiO z (q.ext (Z.ext c)).ab k.ok) ?_;rintro _ _ ⟨s,_⟩;have g8:=s.h;have j8:=K.trans Z s;have Z:=s.some z O;simp[Z,bx,bB,-W2];refine aq.of (az:=[.agg #[.slice f l.a.length h,.slice i l.rows.length j],ag]) (Y7 b.toiO g8 (q.ext (j8.ext c)).ab k.ok (sx.ext (s.ext z)) aj) ?_;rintro _ _ ⟨O,_⟩;have g9:=O.h;have j9:=K.trans j8 O;have a9:=O.some g8 Z;simp[a9,bx,bB,-W1];refine aq.of (az:=[.agg #[.slice f l.a.length h,.slice i l.rows.length j],aD,.bool true]) (Y3 b.toiO g9 (q.ext (j9.ext c)).ab k.ok (sy.ext ((K.trans s O).ext z)) aE) ?_;rintro _ _ ⟨Z,_⟩;have aD:=Z.h;have aE:=K.trans j9 Z;have aG:=Z.some g9 a9;simp[aG,bx,bB,-W0];refine aq.of (az:=[.agg #[.slice f l.a.length h,.slice i l.rows.length j],ag]) (Za b.toiO aD (q.ext (aE.ext c)).ab k.ok (sx.ext ((K.trans s (K.trans O Z)).ext z)) aj) ?_;rintro _ _ ⟨s,_⟩;have z:=s.h;have O:=K.trans aE s;have Z:=s.some aD aG;simp[Z,bx,bB,-WZ];refine aq.of (az:=[.agg #[.slice f l.a.length h,.slice i l.rows.length j]]) (Ga b.toep z k.ok (q.ext (O.ext c)).ab (λhm=>KO k hm)) ?_;rintro _ _ ⟨s,_⟩;have ag:=s.h;have aj:=K.trans O s;have O:=s.some z Z;simp[O,bx,bB,-WY];refine aq.of (az:=[.agg #[.slice f l.a.length h,.slice i l.rows.length j],.bool true,.int .i64 20]) (ZH b.toBw ag ad ((q.ext (aj.ext c)).mono (Nat.zero_le _)) (by decide) (by decide)) ?_;rintro _ _ ⟨s,_⟩;have aO:=s.h;have aQ:=K.trans aj s;have z:=s.some ag O;simp[z,bx,bB,-W',-WX];refine aq.of (az:=[.agg #[.slice f l.a.length h,.slice i l.rows.length j]]) (NN b.totg aO (q.ext (aQ.ext c)) k ae) ?_;rintro _ G ⟨s,bR⟩;have m:=s.h;have al:=K.trans aQ s;have bS:=s.some aO z;have bT:=al.some c P;obtain⟨an,I⟩:∃t,t=G.next:=⟨_,rfl⟩;have s:=K.next al;have bU:=K.next ak;have aR:pm.may an=true:=m.may (by omega);have aS:∀x,(G.new x).get an=some x:=λx=>by rw[I];exact b4
 have ao:∀o s,aK 3 o=some (.pointer (some ⟨y,0,none⟩))->aK 8 o=some (.pointer (some ⟨C,0,none⟩))->aF pm d.next d s->wp X pm (.code Bi) o s [] a8:=λo s o y uZ=>by
  have a:Ext d s:=λe _ g=>(uZ.get e (c.lt g)).trans g;have g:=a _ _ w;have n:=a _ _ P;simp[o,y,g,n,bx,bB,-W9];refine aq.of (az:=[.agg #[.slice f l.a.length h,.slice i l.rows.length j],.agg #[D,E]]) (FM b.q uZ.h k.ok (q.ab.ext a) (bQ.ab.ext a)) ?_;rintro _ _ ⟨p,rfl⟩;simp;refine hQ _ _ _ ?_;simp;exact K.trans (aF.trans ak (uZ.mono bU)) p
 rcases bR with⟨hm,rfl⟩ | ⟨hm,p,a,u,rfl,Zw,ZT,hu,hL⟩
 ·obtain⟨g,a⟩:∃A,A=(G.new (.cells [.int .i64 0,.string ⟨#[]⟩,.slice none 0 0,.slice none 0 0,.slice none 0 0] (.t T.Wf))).put an (.cells [.int .i64 0,.string ⟨#[]⟩,.slice none 0 0,.slice none 0 0,.slice none 0 0] (.t T.Wf)):=⟨_,rfl⟩;have f:K pm G g:=by rw[a,I];exact ic m _ _
  simp[m.pick,m.make,ptr, <-I,aS,aR,<-a,setCells,bz,-Wh,-Bi];simp[-V1,-Bi];exact ao _ _ (by simp) (by simp) (K.trans al f)
 ·obtain⟨_,_,_,rfl,f,h,i⟩:=id hu;obtain⟨bV,bW,e1,_⟩:=f.1.ex;obtain⟨bX,bY,e2,_⟩:=h.1.ex;obtain⟨bZ,b0,e3,_⟩:=i.1.ex;subst e1 e2 e3;obtain⟨bl,aK⟩:∃A,A=(G.new (.cells [.int .i64 0,.string ⟨#[]⟩,.slice none 0 0,.slice none 0 0,.slice none 0 0] (.t T.Wf))).put an (.cells [.int .i64 a.st,aA a.val,.slice bV a.x.length bW,.slice bX a.d.length bY,.slice bZ a.r.length b0] (.t T.Wf)):=⟨_,rfl⟩;have f:K pm G bl:=by rw[aK,I];exact ic m _ _
  have v:=f.h;have aP:=K.trans al f;have aa:=f.some m bS;have b2:=f.some m bT;have ab:=ZT.ext (f.ext m);have f:=K.next aQ;by_cases f:l.a.length=0
  ·rw[f]at aa;simp[m.pick,m.make,ptr,bB,<-I,aS,aR,<-aK,setCells,bz,aa,-Wh,-Bi];simp[-V1,-Bi];exact ao _ _ (by simp) (by simp) aP
  ·have a:0<l.a.length:=by omega
   simp[m.pick,m.make,ptr,bB,<-I,aS,aR,<-aK,setCells,bz,aa,a,-V1,-Bi];have f:pm.may p=true:=aO.may Zw;obtain⟨_,_,h,_⟩:=id ab;have i:=v.lt h;refine aq.of (az:=[.pointer (some ⟨p,0,none⟩),.int .i64 0,.string ⟨#[48]⟩,.string ⟨#[49]⟩]) (LV (ah:=[48]) (up:=[49]) (af:=0) b.totg v f ab k ae (by decide) (by decide)) ?_;intro _ Q b3;obtain⟨ar,g,n',aU,aV⟩:fO pm p bl Q/\∃g n',ey Q p n' g/\(g=l∨g=l.kr 0 [48] [49]):=by
    rcases b3 with⟨_,kO,_⟩ | ⟨dd,Z6,Z7,⟨_,kO,_⟩ | ⟨_,kO,bN,_⟩⟩
    ·exact⟨kO.jx,l,_,ab.ext (kO.ext v),.inl rfl⟩
    ·exact⟨kO.jx,l,_,ab.ext (kO.ext v),.inl rfl⟩
    ·obtain rfl:dd=0:=by omega
     exact⟨kO,_,_,bN,.inr rfl⟩
   have R:=ar.h
   have au:g.a.length=l.a.length:=by rcases aV with rfl | rfl;(rfl);(exact sT)
   have F:g.rows=l.rows:=by rcases aV with rfl | rfl<;>rfl
   have bm:(g.af 0).cost=(l.af 0).cost:=by
    rcases aV with rfl | rfl
    ·rfl
    ·rw[K3 a,aT rfl]
   have aW:∀i,i<g.rows.length->(g.row i).j.length<=1000:=λi f=>by
    have n:g.row i=l.row i:=by unfold aI.row;rw[F]
    rw[n];exact ae i (by rw[<-F];exact f)
   have f:=k.n;have f:=k.m;have f:∀{e:Nat} {bn:bk},d.get e=some bn->e≠p:=λav n=>by have:=c.lt av;omega
   have h:=K.next aP;have bo:aF pm d.next d Q:=aF.trans aP (ar.up (by omega) h);have h:=ar.some v (f w) aa;have h:=ar.some v (f P) b2;simp[-Bi,-Xg,-Wk];refine aq.of (az:=[.pointer (some ⟨p,0,none⟩)]) (FU b.q R aU (by omega) (by rw[F];omega) aW) ?_;rintro _ _ ⟨H,bp⟩;obtain⟨q1,q2,rfl⟩:=bp.form;have aw:=H.h;simp[-Bi,-Xf,-Wk];refine aq.of (az:=[.pointer (some ⟨p,0,none⟩)]) (FU b.q aw (aU.ext (H.ext R)) (by omega) (by rw[F];omega) aW) ?_;rintro _ r ⟨J,bq⟩;obtain⟨q3,q4,rfl⟩:=bq.form;have L:=J.h;rw[au,F];obtain⟨S,aX⟩:∃t,t=r.next:=⟨_,rfl⟩;obtain⟨U,ax⟩:∃A,A=r.new (.cells [.slice none 0 0,.slice none 0 0] (.t T.Wg)):=⟨_,rfl⟩;have aY:K pm r U:=by rw[ax];exact K.new L _
   have br:=aY.h;have f:U.next=S+1:=by rw[ax,aX];rfl
   obtain⟨M,bs⟩:∃t,t=U.next:=⟨_,rfl⟩;obtain⟨V,aZ⟩:∃A,A=U.new (.cells [.slice none 0 0,.slice none 0 0] (.t T.VR)):=⟨_,rfl⟩;have ay:K pm U V:=by rw[aZ];exact K.new br _
   have f:=ay.h;have bt:V.get S=some (.cells [.slice none 0 0,.slice none 0 0] (.t T.Wg)):=ay.some br (by rw[ax,aX];exact b4);have b5:V.get M=some (.cells [.slice none 0 0,.slice none 0 0] (.t T.VR)):=by rw[aZ,bs];exact b4
   obtain⟨a1,aB⟩:∃A,A=V.put S (.cells [.slice q1 l.a.length l.a.length,.slice q2 l.rows.length l.rows.length] (.t T.Wg)):=⟨_,rfl⟩;have bu:a1.get M=some (.cells [.slice none 0 0,.slice none 0 0] (.t T.VR)):=by rw[aB,a7];exact b5
   obtain⟨N,aC⟩:∃A,A=a1.put M (.cells [.slice q3 l.a.length l.a.length,.slice q4 l.rows.length l.rows.length] (.t T.VR)):=⟨_,rfl⟩;have f:=bo.next;have h:=K.next H;have h:=K.next J;have h:pm.may S=true:=L.may (by omega);have i:pm.may M=true:=L.may (by omega);have j:aF pm Q.next Q V:=K.trans H (K.trans J (K.trans aY ay));have j:aF pm r.next r a1:=by rw[aB];exact aF.put (K.trans aY ay) (by omega) bt (by simp) _
   have W:aF pm r.next r N:=by rw[aC];exact aF.put j (by omega) bu (by simp) _
   have j:=W.h;have bw:N.get S=some (.cells [.slice q1 l.a.length l.a.length,.slice q2 l.rows.length l.rows.length] (.t T.Wg)):=by rw[aC,a7,aB];exact b1
   have bA:N.get M=some (.cells [.slice q3 l.a.length l.a.length,.slice q4 l.rows.length l.rows.length] (.t T.VR)):=by rw[aC];exact b1
   have bC:aF pm d.next d N:=aF.trans bo (aF.trans (K.trans H J |>.mono f) (W.mono (by omega)));have f:=(bC.get _ (c.lt w)).trans w;simp[L.pick,L.make,  ptr,<-aX,<-ax,<-bs,<-aZ,bt,setCells,h,<-aB,bu,i,<-aC,bw,bA,f,bx,bB,-Bi,-W8];obtain⟨_,_,_,_,_,n,_,_,bD,_,_⟩:=bp;cases n;rw[au]at bD;obtain⟨bg,Lg,b6,_,n,bE,b7⟩:=bD.pos a;cases n;obtain⟨_,_,_,_,_,n,_,_,bF,_,_⟩:=bq;cases n;rw[au]at bF;obtain⟨ba,La,_,_,n,bG,b8⟩:=bF.pos a;cases n;have f:=aw.lt bE;have f:=L.lt bG;have bH:N.get bg=some (.cells Lg (.n 5)):=(W.get bg (by omega)).trans (J.some aw bE);obtain⟨L',b9⟩:∃x,x=Lg.set 3 (aA WL):=⟨_,rfl⟩;have f:=b7.lt a (show 3<5 by decide);have sc:setCells Lg 3 [aA WL]=some L':=by rw[b9];exact setCells_one (by omega)
   obtain⟨X,Y⟩:∃A,A=N.put bg (.cells L' (.n 5)):=⟨_,rfl⟩;have f:pm.may bg=true:=R.may b6;have u:aF pm d.next d X:=by rw[Y];exact aF.put bC (by omega) bH (by simp) _
   have o:=u.h;have h:=(u.get _ (c.lt w)).trans w;have i:=(u.get _ (c.lt P)).trans P;have j:X.get M=some (.cells [.slice (some ⟨ba,0,none⟩) l.a.length l.a.length,.slice q4 l.rows.length l.rows.length] (.t T.VR)):=by rw[Y,a7];exact bA
   have k:X.get ba=some (.cells La (.n 5)):=by rw[Y,a7];exact(W.get ba (by omega)).trans bG
   have m:La[3]? = some (aA (l.af 0).cost):=by
    have:=(b8.2 0 a).2 3 (by decide);simpa [dy.cells,bm]using this
   have h:(0:Int)<(l.a.length:Int):=by omega
   simp[bw,a,bH, sc,f,<-Y,   -Bi,-W7];by_cases h:(l.af 0).cost=WL
   ·have p:∃f,X.get bf=some (.cells f (.n 5))/\f[3]? = some (aA (l.af 0).cost):=by
     obtain⟨f,q,r⟩:=ow.c a;have n:=k5.some B q;refine⟨f,(u.get _ (c.lt n)).trans n,?_⟩;have:=(r.2 0 a).2 3 (by decide);simpa [dy.cells]using this
    obtain⟨f,c,f⟩:=p;rw[ai,cO a]at i;simp[j,k,m,a,h,   bz,-VS,-Wi,-Bi];refine aq.not ?_;rw[VS];simp[i,c,f,a,h,bz,-Bi];exact ao _ _ (by simp) (by simp) u
   ·have K:((l.af 0).cost==[49,50,51,52,53])=false:=by simpa using h
    have c:ey X p n' g:=aU.ext λe bn av=>by
     have:=R.lt av;rw[Y,a7,W.get e (by omega)];exact J.some aw (H.some R av)
    simp[j,k,m,a, K,-VS,-Wi,-Bi];refine aq.of (az:=[.pointer (some ⟨p,0,none⟩)]) (FU b.q o c (by omega) (by rw[F];omega) aW) ?_;rintro _ ah ⟨T,aI⟩;have b:=T.h;obtain⟨_,_,_,_,_,rfl,_,_,af,_,_⟩:=aI;rw[au]at af;obtain⟨_,Lz,_,_,rfl,b,c⟩:=af.pos a;have e:Lz[3]? = some (aA (l.af 0).cost):=by
     have:=(c.2 0 a).2 3 (by decide);simpa [dy.cells,bm]using this
    have c:aF pm d.next d ah:=aF.trans u (T.mono u.next);rw[VS];simp[a,b,e,K, bz,-Bi];exact ao _ _ (by simp) (by simp) c
end Go.Dam.C
namespace Go.Dam.C
open Go Go.Dam Go.RowKit
def fl.post:fl->Value->ad->Prop
 | .cB q,v,H=>fA H v q
 | .val u,v,_=>v=u/\plainCell u=true
 | .no,v,_=>v=.tuple #[.pointer none,.bool false]
 | .yes q,v,H=>∃p,v=.tuple #[p,.bool true]/\fA H p q
theorem RT{γ:aL}{v aH:Value}(h:aD γ v aH)(a:plainCell v=true):aH=v:=by
 cases h<;>first | rfl | (simp[plainCell]at a)
theorem HW{H:ad}(h:j0 H=true):H.get 1=some (.cr (.nat 0)):=by
 unfold j0 at h;split at h
 ·assumption
 ·cases h
theorem AM{c:Nat}{γ:aL}{H:ad}{w:World}(d:Rel fh c γ H w){a bF:Value}{p:Rat}(h:n1 H a=some p)(b:aD γ a bF):o5 w (fg γ H w) bF p:=by
 unfold n1 at h;split at h
 ·cases b;simp only[ax]at h;exact .inl ⟨rfl,h.symm⟩
 ·rename_i e;split at h
  ·rename_i _ f;obtain⟨L,g,_,rfl⟩:=b.jA;obtain⟨_,a,i⟩:=d.aW e L g;rw[f]at a;cases a;obtain⟨_,j,k⟩:=i;simp only[ax]at h;subst h;simp only[j];exact k
  ·cases h
 ·cases h
theorem Step.cr{O:b0}{p:Nat}{pm:Perm}{γ:aL}{H:ad}{w ao:World}(f:Rel O p γ H w)(e:Below w.heap.size w ao){o:wc}{c:Nat}(i:w.heap.size<=c)(u:c<ao.heap.size)
 (v:O.rel ao (λb=>b<ao.heap.size/\(fg γ H w b∨w.heap.size<=b)) c o):Step O p pm γ H w (γ.set H.next ⟨c,0,0,0⟩) (H.new (.cr o)) ao:=by
 have q:=f.IK ⟨c,0,0,0⟩;have k:∀c,c<w.heap.size->ao.heap[c]? = w.heap[c]?:=e.block;have x:∀b L,γ b=some L->ev (H.get b)->L.aW<w.heap.size:=λb L h r=>by
  obtain⟨_,a,d⟩:=f.aW b L h;rw[a]at r;exact d.lt r
 have g:∀b,(H.new (.cr o)).get b=if b=H.next then some (.cr o) else H.get b:=λb=>ad.jZ H b _
 have j:∀b L,γ.set H.next ⟨c,0,0,0⟩ b=some L->ev ((H.new (.cr o)).get b)->γ b=some L/\ev (H.get b):=λb L h r=>by
  rw[g]at r;by_cases c:b=H.next
  ·rw[aT c]at r;exact r.elim
  ·rw[aL.fZ _ _ c]at h;rw[aC c]at r;exact⟨h,r⟩
 have l:∀b,(b<ao.heap.size/\(fg γ H w b∨w.heap.size<=b))->fg (γ.set H.next ⟨c,0,0,0⟩) (H.new (.cr o)) ao b:=λb ⟨a,d⟩=>⟨a,λm L h r=>by
  obtain⟨b,c⟩:=j m L h r
  rcases d with d | d
  ·exact d.2 m L b c
  ·have:=x m L b c;omega⟩
 have y:∀b,fg γ H w b->fg (γ.set H.next ⟨c,0,0,0⟩) (H.new (.cr o)) ao b/\ao.heap[b]? = w.heap[b]?:=λb h=>⟨l b ⟨eC h.1 e.size,.inl h⟩,k b h.1⟩;refine⟨⟨λb L h=>?_,λb L h=>?_,λb h=>?_,λb s L t h z r A B=>?_,λb L h r=>?_,aY f.size e.size⟩,q,λb L a d=>?_,e.size,λc i _=>k c i,oo _,λb e _=>?_,λb L h r=>?_,λb L a d=>?_,e.os,e.tape,e.output⟩
 ·rw[g];by_cases n:b=H.next
  ·subst n;rw[aL.fa]at h;cases h;rw[aT rfl];exact⟨_,rfl,l c ⟨u,.inr i⟩,rfl,O.qV v λb e=>⟨l b e,rfl⟩⟩
  ·rw[aL.fZ _ _ n]at h;obtain⟨x,a,d⟩:=f.aW b L h;rw[aC n];exact⟨x,a,d.mono q y λr=>k _ (d.lt r)⟩
 ·show b<H.next+1;by_cases e:b=H.next
  ·omega
  ·rw[aL.fZ _ _ e]at h;have:=f.lt b L h;omega
 ·have h:H.next+1<=b:=h;rw[g,aC (by omega)];exact f.new b (by omega)
 ·obtain⟨c,e⟩:=j b L h r;obtain⟨k,l⟩:=j s t z A;exact f.inj b s L t c k e l B
 ·obtain⟨c,e⟩:=j b L h r;exact f.low b L c e
 ·by_cases c:b=H.next
  ·subst c;rw[aL.fa]at a;cases a;exact .inl i
  ·rw[aL.fZ _ _ c,d]at a;cases a
 ·rw[g,aC (by omega)]
 ·have:=f.lt b L h;rw[g,aC (by omega)]at r;exact r
 ·by_cases e:b=H.next
  ·exact .inl (by omega)
  ·rw[aL.fZ _ _ e,d]at a;cases a
section
variable{P:Program}{G:Nat->Bool}{X:ar}
theorem N4(i:∀g,G g=true->g=1)(j:∀m d,dK hZ P G (X.K m d)){N:Nat->Prop}{W:World}{γ:aL}{H:ad}(h:In hZ N W γ H){f:FuncId}{args:List Value}{fm:Array Value}{R:Value->ad->Prop}(e:Call X ⟨0,[],none⟩ f args H R)(eA:br γ args fm.toList):
 ml P f fm W λcJ ao=>∃r aH c aa,cJ=.returned aH/\R r aa/\aD c r aH/\Rel hZ 0 c aa ao/\Below W.heap.size W ao/\(∀b L,c b=some L->N L.aW∨W.heap.size<=L.aW)/\∀b L,c b=some L->ev (aa.get b)->W.heap.size<=L.aW:=by
 obtain⟨r,aa,⟨M,k⟩,l⟩:=e;have m:eF G γ:=by
  intro g b;obtain rfl:=i g b;obtain⟨L,b,f,i⟩:=h.uk;exact⟨L,b,f,i⟩
 have n:=j M M ⟨0,[],none⟩ f args H r aa rfl (k M M (bg _) (bg _)) 0 γ W fm h.rel m eA;refine n.mono λcJ ao ⟨c,aH,i,j,a⟩=>⟨r,aH,c,aa,i,l,j,a.rel,⟨a.os,a.tape,a.output,a.grow,λc e=>a.u c e λb L d r=>(h.ro b r).elim⟩,λb L d=>?_,λb L d rw=>?_⟩
 ·cases f:γ b with
  | some c=>
    have:=a.ext b c f;rw[d]at this;cases this;exact .inl (h.n b L f)
  | none=>
    rcases a.fresh b L d f with q | ⟨c,_,_,q,_⟩
    ·exact .inr q
    ·exact(h.ro c q).elim
 ·cases f:γ b with
  | some c=>exact(h.ro b (a.hW b c f rw)).elim
  | none=>
    rcases a.fresh b L d f with q | ⟨a,_,_,q,_⟩
    ·exact q
    ·exact(h.ro a q).elim
theorem xe(B:G 1=true)(C:∀g,G g=true->g=1)(D:∀m d,dK hZ P G (X.K m d)){f:FuncId}{r:List Value->ad->Option fl}
 (h:∀args H x,r args H=some x->∀g γ w fm,Rel fh g γ H w->br γ args fm->∀fe aj,In hZ (fg γ H w) w fe aj->∃j k l,In hZ (fg γ H w) w j k/\br j l fm/\Call X ⟨0,[],none⟩ f l k x.post):eh fh P G f (cL r):=by
 intro E args H _ _ _ a g γ w fm e F I;unfold cL at a
 cases m:j0 H with
 | false=>rw[m]at a;cases a
 | true=>
   rw[m]at a;simp only[cond_true]at a;split at a
   ·rename_i x J;simp only[ax]at a;obtain⟨L,G,K,_⟩:=F 1 B;obtain⟨_,b,d⟩:=e.aW 1 L G;rw[HW m]at b;cases b;obtain⟨u,_,_,_,M,O,n⟩:=d;rw[K]at u n;obtain⟨j,k,l,P,Q,o⟩:=h args H x J g γ w fm.toList e I _ _ (In.start (λ_ h=>⟨rfl,h,M,O,n⟩) n u);refine(N4 C D P o Q).mono λ_ v ⟨r,_,R,S,b,f,d,y,s,T,U⟩=>?_;have z:∀{p i:Value} {q:Rat},fA S p q->aD R p i->∃c,i=.pointer (some ⟨c,0,none⟩)/\Step fh g E γ H w (γ.set H.next ⟨c,0,0,0⟩) (H.new (.cr (.gY q))) v/\aD (γ.set H.next ⟨c,0,0,0⟩) (.pointer (some ⟨H.next,0,none⟩)) i:=λ{p i q} t V=>by
     obtain⟨c,L,r,rfl,A,rfl,h,W⟩:=fA.out (N:=λc=>fg γ H w c∨w.heap.size<=c) y T t V;have X:L.aW<v.heap.size:=by
      obtain⟨x,w,H⟩:=y.aW r L A;rw[w]at h;exact H.lt h
     exact⟨L.aW,rfl,Step.cr e s (U r L A h) X (W.mono λc o Y=>⟨⟨Y,o⟩,rfl⟩),Cq⟩
    cases x with
    | cB q=>
      cases a;obtain⟨c,rfl,h,r⟩:=z f d;exact⟨_,_,b,r,h⟩
    | val _=>
      cases a;obtain⟨rfl,h⟩:=f;obtain rfl:=RT d h;exact⟨γ,_,b,.plainCell h,Step.below e s⟩
    | no=>
      cases a;cases f;obtain⟨r,rfl,w⟩:=d.yK;obtain⟨r⟩:=r
      cases w with
      | cons x h=>
        cases h with
        | cons h A=>
          cases A;cases x;cases h;exact⟨γ,_,b,.tuple (.cons .uQ (.cons (.bool _) .nil)),Step.below e s⟩
    | yes q=>
      cases a;obtain⟨p,rfl,t⟩:=f;obtain⟨r,rfl,w⟩:=d.yK;obtain⟨r⟩:=r
      cases w with
      | cons x h=>
        cases h with
        | cons h A=>
          cases A;obtain⟨c,rfl,H,N⟩:=z t x;obtain rfl:=h.jP;exact⟨_,_,b,.tuple (.cons N (.cons (.bool _) .nil)),H⟩
   ·cases a
theorem In.ok{O:b0}{N:Nat->Prop}{W:World}{γ:aL}{H:ad}(h:In O N W γ H):bR ⟨0,[],none⟩ H:=⟨rfl,Nat.zero_le _,h.rel.new,λ_ _=>trivial⟩
theorem u'(e:G 1=true)(i:∀g,G g=true->g=1)(j:∀m d,dK hZ P G (X.K m d)){f:FuncId}{k:Rat->fl}
 (h:∀{H v q},bR ⟨0,[],none⟩ H->Tab H->eY H v q->bw q=true->Call X ⟨0,[],none⟩ f [v] H (k q).post):eh fh P G f (cL (nf k)):=by
 refine xe e i j λ_ H _ a _ _ _ _ d g _ _ l=>?_;unfold nf at a;split at a
 ·rename_i _;split at a
  ·rename_i p n
   cases b:bw p with
   | false=>rw[b]at a;cases a
   | true=>
     rw[b]at a;simp only[cond_true,ax]at a;subst a
     cases g with
     | cons f k=>
       cases k;obtain⟨m,o,q,c,_,_,r,s⟩:=l.gY (AM d n f);exact⟨m,o,[q],c,.cons r .nil,h c.ok c.dD s b⟩
  ·cases a
 ·cases a
theorem va(i:G 1=true)(j:∀g,G g=true->g=1)(l:∀m d,dK hZ P G (X.K m d)){f:FuncId}{k:Rat->Rat->fl}
 (h:∀{H v u p q},bR ⟨0,[],none⟩ H->eY H v p->eY H u q->bw p=true->bw q=true->Call X ⟨0,[],none⟩ f [v,u] H (k p q).post):eh fh P G f (cL (k5 k)):=by
 refine xe i j l λ_ H _ a _ _ _ _ d g _ _ m=>?_;unfold k5 at a;split at a
 ·rename_i _ _;split at a
  ·rename_i p n;split at a
   ·rename_i q o
    cases b:(bw p&&bw q) with
    | false=>rw[b]at a;cases a
    | true=>
      rw[b]at a;simp only[cond_true,ax]at a;subst a;rw[b3]at b
      cases g with
      | cons f c=>
        cases c with
        | cons c k=>
          cases k;obtain⟨_,_,p,q,_,_,r,s⟩:=m.gY (AM d n f);obtain⟨t,u,v,e,w,x,y,z⟩:=q.gY (AM d o c);exact⟨t,u,[p,v],e,.cons (r.mono w) (.cons y .nil),h e.ok (s.le x) z b.1 b.2⟩
   ·cases a
  ·cases a
 ·cases a
structure FN(P:Program)(G:Nat->Bool):Prop where
 KW:eh fh P G F.fW (cL vb)
 KT:eh fh P G F.hQ (cL sL)
 KP:eh fh P G F.gq (cL x')
 KY:eh fh P G F.ik (cL yf)
 KU:eh fh P G F.fV (cL yc)
 KR:eh fh P G F.jc (cL yb)
 KQ:eh fh P G F.gJ (cL ya)
 KV:eh fh P G F.ij (cL yd)
 KX:eh fh P G F.dY (cL ye)
 KS:eh fh P G F.mU (cL CJ)
 K0:eh fh P G F.lT (cL CK)
 KZ:eh fh P G F.hy (cL yg)
theorem Oz(f:G 1=true)(i:∀g,G g=true->g=1)(j:∀m d,dK hZ P G (X.K m d))(k:fT X):FN P G where
 KW:=xe f i j λw H x b y γ z A B r t u n=>by
  unfold vb at b;split at b
  ·rename_i v
   cases e:(decide (-9223372036854775808<=v)&&decide (v<=9223372036854775807)) with
   | false=>rw[e]at b;cases b
   | true=>
     rw[e]at b;simp only[cond_true,ax]at b;subst b;simp only[b3,df]at e;exact⟨t,u,[.int .i64 v],n,(by cases r with | cons c d=>cases d;rw[c.U];exact .cons (.int _ _) .nil),(MD k n.ok e.1 e.2).mono λ_ _ h=>h.2⟩
  ·cases b
 KT:=xe f i j λw H x b y γ z A B r t u n=>by
  unfold sL at b;split at b
  ·rename_i s
   cases o:Nat.blt s.size 1000000 with
   | false=>rw[o]at b;cases b
   | true=>
     rw[o]at b;simp only[cond_true,ax]at b;subst b;rw[fG,df]at o;refine⟨t,u,[.string s],n,(by cases r with | cons c d=>cases d;rw[c.fK];exact .cons (.str _) .nil),?_⟩;refine(Mo (l:=s.data.toList) k n.ok n.dD o).mono λC D h=>?_
     rcases h.2 with⟨e,h⟩ | ⟨q,p,e,h,fF⟩
     ·rw[e];exact h
     ·rw[e];exact⟨p,h,fF⟩
  ·cases b
 KP:=va f i j λa c d g m=>(Fw k.toc4 a c d (bw.aS g) (bw.aS m) (by decide)).mono λ_ _ h=>h.2
 KY:=va f i j λa c d g m=>(Gb k.toc4 a c d (bw.aS g) (bw.aS m) (by decide)).mono λ_ _ h=>h.2
 KU:=va f i j λa c d g m=>(MA k.toc4 a c d (bw.aS g) (bw.aS m) (by decide)).mono λ_ _ h=>h.2
 KR:=va f i j λ{H _ _ p q} a c d g m=>(Md k.toc4 a c d (bw.aS g) (bw.aS m) (by decide)).mono λC D h=>by
  rcases h.2 with⟨e,h⟩ | ⟨e,x,h,fF⟩
  ·rw[aT e];exact h
  ·rw[aC e];exact⟨x,h,fF⟩
 KQ:=va f i j λa c d g m=>(LY k.toc4 a c d (bw.aS g) (bw.aS m) (s3 (bw.aS g) (bw.aS m)) (by decide)).mono λ_ _ h=>⟨h.2,rfl⟩
 KV:=u' f i j λa _ h s=>(FZ k.toc4 a h (bw.aS s) (by decide)).mono λ_ _ h=>h.2
 KX:=u' f i j λa _ h s=>(F' k.toc4 a h (bw.aS s) (by decide)).mono λ_ _ h=>⟨h.2,rfl⟩
 KS:=u' f i j λa _ h s=>(Ml k.toc4 a h (bw.aS s) (by decide)).mono λ_ _ h=>h.2
 K0:=u' f i j λa _ h s=>(ML k.toc4 a h (bw.aS s) (by decide)).mono λ_ _ h=>⟨h.2,rfl⟩
 KZ:=u' f i j λa E h s=>(Gf k a E h (bw.aS s) (by decide) (by decide)).mono λ_ _ h=>⟨h.2,rfl⟩
end
section
variable{O:b0}{P:Program}{W:World}
def ek(O:b0)(W:World)(aH:Value)(Q:ad->Value->Prop):Prop:=∀γ H,In O (λ_=>True) W γ H->∃a b v,In O (λ_=>True) W a b/\γ.le a/\Ext H b/\aD a v aH/\Q b v
def wk(Q:ad->Value->Prop):Prop:=∀H a v,Ext H a->Q H v->Q a v
theorem ek.plain{v:Value}(h:plainCell v=true):ek O W v λ_ u=>u=v:=λγ H a=>⟨γ,H,v,a,.refl _,.refl _,.plainCell h,rfl⟩
theorem ek.imp{v:Value}{Q a:ad->Value->Prop}(h:ek O W v Q)(g:∀H u,Q H u->a H u):ek O W v a:=λγ H b=>
 let ⟨a,c,u,d,e,f,i,j⟩:=h γ H b;⟨a,c,u,d,e,f,i,g _ _ j⟩
theorem ek.list{V:Nat->Value}{Q:Nat->ad->Value->Prop}(b:∀i,wk (Q i)):∀k,(∀i,i<k->ek O W (V i) (Q i))->∀γ H,In O (λ_=>True) W γ H->
 ∃a aa,∃u:Nat->Value,In O (λ_=>True) W a aa/\γ.le a/\Ext H aa/\∀i,i<k->aD a (u i) (V i)/\Q i aa (u i)
 | 0,_,γ,H,a=>⟨γ,H,λ_=>.bool true,a,.refl _,.refl _,λi a=>absurd a (hz _)⟩
 | k+1,h,γ,H,a=>by
   obtain⟨f,g,u,j,l,m,n⟩:=ek.list b k (λi a=>h i (by omega)) γ H a;obtain⟨a,o,v,p,c,d,q,r⟩:=h k (by omega) f g j;refine⟨a,o,λi=>if i=k then v else u i,p,l.trans c,m.trans d,λi _=>?_⟩;by_cases e:i=k
   ·subst e;simp only[if_true];exact⟨q,r⟩
   ·simp only[e,if_false];obtain⟨p,q⟩:=n i (by omega);exact⟨p.mono c,b i _ _ _ d q⟩
theorem ek.nil{w:Nat}{Q:ad->Nat->List Value->Prop}:ek O W (.slice none 0 0) λH u=>eg H u 0 w (Q H):=λγ H a=>
 ⟨γ,H,_,a,.refl _,.refl _,.pM,none,0,rfl,bg _,λ_=>rfl,λ_ h=>by cases h⟩
theorem ek.slice{a:Addr}{len cap w:Nat}{V:Nat->Value}{Q:Nat->ad->Value->Prop}(r:∀i,wk (Q i))(g':len<=cap)(y:0<w)(s:∀j,j<cap*w->W.cell? (a.add j)=some (V j))(h:∀j,j<len*w->ek O W (V j) (Q j)):
 ek O W (.slice (some a) len cap) λH v=>eg H v len w λi cs=>∃u:Nat->Value,cs=(List.range w).map (λk=>u (i*w+k))/\∀k,k<w->Q (i*w+k) H (u (i*w+k)):=by
 intro γ H c;obtain⟨l,d,u,m,z,A,t⟩:=ek.list r (len*w) h γ H c;have M:((List.range (len*w)).map u).length=len*w:=by simp
 have B:br l ((List.range (len*w)).map u) ((List.range (len*w)).map V):=br.oc (by simp) λi v _ p q=>by
  rw[iw]at p q;by_cases a:i<len*w
  ·rw[pF a]at p q;cases p;cases q;exact(t i a).1
  ·rw[gr (by simpa using a)]at p;cases p
 obtain⟨_,_,_,_⟩:=m.uk;obtain⟨b,o,C,D⟩:∃b o,nF W (λ_=>True) b o ((List.range (len*w)).map V)/\aD (l.set d.next ⟨b,o,0,0⟩) (.slice (some ⟨d.next,0,none⟩) len cap) (.slice (some a) len cap):=by
  by_cases E:cap=0
  ·subst E;obtain rfl:len=0:=by omega
   obtain⟨a,b,f,g⟩:=m.zR;exact⟨1,0,⟨trivial,a,b,f,g,by simp,by simp⟩,.ks (aL.fa _ _ _)⟩
  ·have F:0<cap*w:=pC (by omega) y;have f:=s 0 F;obtain⟨b,o,G⟩:=a;have H:G=none:=by simpa [Addr.add]using World.cell?_spot f
   subst H;obtain⟨a,h,k,g⟩:∃a h k,W.heap[b]? = some (.cells a h k):=by
    unfold World.cell? at f;split at f
    ·rename_i a e I g;exact⟨a,e,I,by simpa [Addr.add]using g⟩
    ·cases f
   have u:∀i,i<cap*w->a[o+i]? = some (V i):=by
    intro i c;have b:=s i c;rw[add_eq]at b;simpa [World.cell?,g]using b
   have N:=(e'.1 (u (cap*w-1) (by omega))).1;have O:len*w<=cap*w:=e8 _ g';refine⟨b,o,⟨trivial,a,h,k,g,by simp;omega,λi v e=>?_⟩,?_⟩
   ·rw[iw]at e;by_cases b:i<len*w
    ·rw[pF b]at e;cases e;exact u i (by omega)
    ·rw[gr (by simpa using b)]at e;cases e
   ·have:=aD.fb (γ:=l.set d.next ⟨b,o,0,0⟩) (b:=d.next) (off:=0) (n:=len) (cap:=cap) (cG:=cap) (L:=⟨b,o,0,0⟩) (aL.fa _ _ _) (bg _) g' (.inl rfl);simpa using this
 obtain⟨J,K,x⟩:=m.add C B;refine⟨_,_,_,J,z.trans K,A.trans x,D,_,cap,rfl,g',(λh=>by cases h),λa h=>?_⟩;cases h;refine⟨d.next,0,_,rfl,.inl b4,by simp,λi c=>⟨_,pf ?_,u,?_,λk j=>r _ _ _ _ x (t _ ?_).2⟩⟩
 ·have:i*w+w<=len*w:=by rw[<-hS];exact e8 _ c
  simp;omega
 ·apply nb;intro k;by_cases j:k<w
  ·have:i*w+w<=len*w:=by rw[<-hS];exact e8 _ c
   rw[kZ j,ki,iw,iw,pF j,pF (by omega),Nat.zero_add];rfl
  ·rw[gr (by simp;omega),gr (by simpa using j)]
 ·have:i*w+w<=len*w:=by rw[<-hS];exact e8 _ c
  omega
theorem yC{v:Value}:wk λ_ u=>u=v:=λ_ _ _ _ h=>h
theorem eg.qV{m w:Nat}{P:Nat->List Value->Prop}:wk λH v=>eg H v m w P:=λ_ _ _ e h=>eg.imp h e λ_ _ _ h=>h
def eV:Value->List UInt8
 | .string s=>s.data.toList
 | _=>[]
def qu:Value->Int
 | .int _ n=>n
 | _=>0
def wy:Value->Bool
 | .bool b=>b
 | _=>false
def hs(v:Value):Prop:=∃s,v=.string s
def n4(v:Value):Prop:=∃n,v=.int .i64 n
def rX(v:Value):Prop:=∃b,v=.bool b
theorem hs.st{v:Value}(h:hs v):v=aA (eV v):=by obtain⟨_,rfl⟩:=h;rfl
theorem n4.int{v:Value}(h:n4 v):v=.int .i64 (qu v):=by obtain⟨_,rfl⟩:=h;rfl
theorem rX.bool{v:Value}(h:rX v):v=.bool (wy v):=by obtain⟨_,rfl⟩:=h;rfl
theorem hs.lift{v:Value}(h:hs v):ek O W v λ_ u=>u=v:=by obtain⟨_,rfl⟩:=h;exact .plain rfl
theorem n4.lift{v:Value}(h:n4 v):ek O W v λ_ u=>u=v:=by obtain⟨_,rfl⟩:=h;exact .plain rfl
theorem rX.lift{v:Value}(h:rX v):ek O W v λ_ u=>u=v:=by obtain⟨_,rfl⟩:=h;exact .plain rfl
def tp(W:World)(w:Nat)(v:Value)(E:(Nat->Value)->Prop):Prop:=v=.slice none 0 0∨∃b c a,∃V:Nat->Value,v=.slice (some b) c a/\c<=a/\(∀j,j<a*w->W.cell? (b.add j)=some (V j))/\∀i,i<a->E λk=>V (i*w+k)
def tr(W:World)(v:Value):Prop:=tp W 1 v λV=>hs (V 0)
def tf(W:World)(v:Value):Prop:=tp W 2 v λV=>n4 (V 0)/\hs (V 1)
def vQ(W:World)(v:Value):Prop:=tp W 5 v λV=>hs (V 0)/\hs (V 1)/\hs (V 2)/\hs (V 3)/\rX (V 4)
def RowsIn(W:World)(v:Value):Prop:=tp W 5 v λV=>hs (V 0)/\n4 (V 1)/\tf W (V 2)/\hs (V 3)/\hs (V 4)
theorem tr.lift{v:Value}(h:tr W v):∃l,ek O W v λH u=>iN H u l:=by
 rcases h with rfl | ⟨o,e,f,V,rfl,p,q,g⟩
 ·exact⟨[],λγ H a=>⟨γ,H,_,a,.refl _,.refl _,.pM,iN.nil⟩⟩
 ·refine⟨(List.range e).map λi=>eV (V i),(ek.slice (w:=1) (Q:=λj _ u=>u=V j) (λ_=>yC) p (by decide) q λj _=>?_).imp λH u h=>?_⟩
  ·have:=g j (by omega);simp only[Nat.mul_one,Nat.add_zero]at this;exact this.lift
  ·obtain⟨k,f,rfl,_,r,s⟩:=h;refine⟨k,f,by simp,λi a=>?_⟩;have a:i<e:=by simpa using a
   cases k with
   | none=>have:=r rfl;omega
   | some o=>
     obtain⟨h,m,n,rfl,b,_,t⟩:=s _ rfl;obtain⟨_,v,u,rfl,f⟩:=t i a;have e:=f 0 (by decide);simp only[Nat.mul_one,Nat.add_zero]at e;have f:=(pg v).2;have c:=congrArg (λl=>l[0]?) f;simp[e]at c;have d:=g i (by omega);simp only[Nat.mul_one,Nat.add_zero]at d;exact b.elim (λb=>⟨h,m,_,n,V i,rfl,b,rfl,c.symm,eV (V i),by simp[a],d.st⟩) λb=>⟨h,m,_,n,V i,rfl,b,rfl,c.symm,eV (V i),by simp[a],d.st⟩
theorem tf.lift{v:Value}(h:tf W v):∃l:List dq,ek O W v λH u=>eg H u l.length 2 λi cs=>∃c,l[i]? = some c/\cs=c.cells:=by
 rcases h with rfl | ⟨_,b,_,V,rfl,c,d,a⟩
 ·exact⟨[],ek.nil⟩
 ·refine⟨(List.range b).map λi=>⟨qu (V (i*2+0)),eV (V (i*2+1))⟩,(ek.slice (w:=2) (Q:=λj _ u=>u=V j) (λ_=>yC) c (by decide) d λj _=>?_).imp λH u h=>?_⟩
  ·obtain⟨f,g⟩:=a (j/2) (by omega);have e:j=j/2*2+0∨j=j/2*2+1:=by omega
   rcases e with e | e<;>rw[e]
   ·exact f.lift
   ·exact g.lift
  ·simp only[pG,x1];refine eg.imp h (λ_ _ e=>e) λi cs c ⟨u,e,b⟩=>⟨⟨qu (V (i*2+0)),eV (V (i*2+1))⟩,by simp[c],?_⟩;obtain⟨c,d⟩:=a i (by omega);have a:=b 0 (by decide);have f:=b 1 (by decide);rw[e];show[u (i*2+0),u (i*2+1)]=_;rw[a,f];show[V (i*2+0),V (i*2+1)]=[.int .i64 (qu (V (i*2+0))),aA (eV (V (i*2+1)))];rw[<-c.int,<-d.st]
theorem vQ.lift{v:Value}(h:vQ W v):∃l:List dy,ek O W v λH u=>eg H u l.length 5 λi cs=>∃c,l[i]? = some c/\cs=c.cells:=by
 rcases h with rfl | ⟨_,a,_,V,rfl,c,d,b⟩
 ·exact⟨[],ek.nil⟩
 ·refine⟨(List.range a).map λi=>⟨eV (V (i*5+0)),eV (V (i*5+1)),eV (V (i*5+2)),eV (V (i*5+3)),wy (V (i*5+4))⟩,(ek.slice (w:=5) (Q:=λj _ u=>u=V j) (λ_=>yC) c (by decide) d λj _=>?_).imp λH u h=>?_⟩
  ·obtain⟨f,g,h,i,k⟩:=b (j/5) (by omega);have e:j=j/5*5+0∨j=j/5*5+1∨j=j/5*5+2∨j=j/5*5+3∨j=j/5*5+4:=by omega
   rcases e with e | e | e | e | e<;>rw[e]
   ·exact f.lift
   ·exact g.lift
   ·exact h.lift
   ·exact i.lift
   ·exact k.lift
  ·simp only[pG,x1];refine eg.imp h (λ_ _ e=>e) λi cs c ⟨u,e,a⟩=>⟨⟨eV (V (i*5+0)),eV (V (i*5+1)),eV (V (i*5+2)),eV (V (i*5+3)),wy (V (i*5+4))⟩,by simp[c],?_⟩;obtain⟨c,d,f,g,j⟩:=b i (by omega);rw[e];show[u (i*5+0),u (i*5+1),u (i*5+2),u (i*5+3),u (i*5+4)]=[aA (eV (V (i*5+0))),aA (eV (V (i*5+1))),aA (eV (V (i*5+2))),aA (eV (V (i*5+3))),.bool (wy (V (i*5+4)))];rw[a 0 (by decide),a 1 (by decide),a 2 (by decide),a 3 (by decide),a 4 (by decide),<-c.st,<-d.st,<-f.st,<-g.st,<-j.bool]
theorem RowsIn.lift{v:Value}(h:RowsIn W v):∃l:List bQ,ek O W v λH u=>rf H u l:=by
 rcases h with rfl | ⟨c,k,d,V,rfl,m,n,f⟩
 ·exact⟨[],λγ H a=>⟨γ,H,_,a,.refl _,.refl _,.pM,none,0,rfl,bg _,λ_=>rfl,λc h=>by cases h⟩⟩
 ·have g:∀i,∃l:List dq,i<d->ek O W (V (i*5+2)) λH u=>eg H u l.length 2 λi b=>∃c,l[i]? = some c/\b=c.cells:=λi=>by
   by_cases a:i<d
   ·obtain⟨l,h⟩:=(f i a).2.2.1.lift (O:=O);exact⟨l,λ_=>h⟩
   ·exact⟨[],λh=>absurd h a⟩
  obtain⟨a,l⟩:∃a:Nat->List dq,∀i,i<d->ek O W (V (i*5+2)) λH u=>eg H u (a i).length 2 λd b=>∃c,(a i)[d]? = some c/\b=c.cells:=⟨λi=>(g i).choose,λi=>(g i).choose_spec⟩
  refine⟨(List.range k).map λi=>⟨eV (V (i*5+0)),qu (V (i*5+1)),a i,eV (V (i*5+3)),eV (V (i*5+4))⟩,
   (ek.slice (w:=5) (Q:=λj H u=>if j%5=2 then eg H u (a (j/5)).length 2 λd b=>∃c,(a (j/5))[d]? = some c/\b=c.cells else u=V j) (λj=>?_) m (by decide) n λj _=>?_).imp λH u h=>?_⟩
  ·by_cases e:j%5=2
   ·simp only[e,if_true];exact eg.qV
   ·simp only[e,if_false];exact yC
  ·obtain⟨h,o,_,p,q⟩:=f (j/5) (by omega);have e:j=j/5*5+0∨j=j/5*5+1∨j=j/5*5+2∨j=j/5*5+3∨j=j/5*5+4:=by omega
   rcases e with e | e | e | e | e
   ·simp only[show ¬j%5=2 by omega,if_false];rw[e];exact h.lift
   ·simp only[show ¬j%5=2 by omega,if_false];rw[e];exact o.lift
   ·have:=l (j/5) (by omega);rw[<-e]at this;simp only[show j%5=2 by omega,if_true];exact this
   ·simp only[show ¬j%5=2 by omega,if_false];rw[e];exact p.lift
   ·simp only[show ¬j%5=2 by omega,if_false];rw[e];exact q.lift
  ·unfold rf;simp only[pG,x1];refine eg.imp h (λ_ _ e=>e) λi b c ⟨u,e,b⟩=>⟨⟨eV (V (i*5+0)),qu (V (i*5+1)),a i,eV (V (i*5+3)),eV (V (i*5+4))⟩,u (i*5+2),by simp[c],?_,?_⟩
   ·obtain⟨g,h,_,j,k⟩:=f i (by omega);have a:=b 0 (by decide);have c:=b 1 (by decide);have d:=b 3 (by decide);have f:=b 4 (by decide);rw[aC (by omega)]at a c d f;rw[e];show[u (i*5+0),u (i*5+1),u (i*5+2),u (i*5+3),u (i*5+4)]=[aA (eV (V (i*5+0))),.int .i64 (qu (V (i*5+1))),u (i*5+2),aA (eV (V (i*5+3))),aA (eV (V (i*5+4)))];rw[a,c,d,f,<-g.st,<-h.int,<-j.st,<-k.st]
   ·have a:=b 2 (by decide);rw[aT (by omega),show(i*5+2)/5=i by omega]at a;exact a
def v7(W:World)(v:Value):Prop:=∃a b,v=.agg #[a,b]/\vQ W a/\RowsIn W b
def Fx(W:World)(v:Value):Prop:=∃a b c d e,v=.agg #[a,b,c,d,e]/\n4 a/\hs b/\tr W c/\tr W d/\tr W e
theorem v7.lift{v:Value}(h:v7 W v):∃ab:aI,ek O W v λH u=>mr H u ab:=by
 obtain⟨_,_,rfl,a,b⟩:=h;obtain⟨c,e⟩:=a.lift (O:=O);obtain⟨a,f⟩:=b.lift (O:=O);refine⟨⟨c,a⟩,λγ H b=>?_⟩;obtain⟨g,i,a,j,k,l,m,n⟩:=e γ H b;obtain⟨e,o,b,p,c,d,q,r⟩:=f g i j;exact⟨e,o,.agg #[a,b],p,k.trans c,l.trans d,.agg (.cons (m.mono c) (.cons q .nil)),a,b,rfl,eg.qV _ _ _ d n,r⟩
theorem Fx.lift{v:Value}(h:Fx W v):∃a:hE,ek O W v λH u=>vZ H u a:=by
 obtain⟨_,_,_,_,_,rfl,a,c,d,e,g⟩:=h;obtain⟨x,i⟩:=d.lift (O:=O);obtain⟨j,k⟩:=e.lift (O:=O);obtain⟨r,l⟩:=g.lift (O:=O);obtain⟨n,rfl⟩:=a;obtain⟨s,rfl⟩:=c;refine⟨⟨n,s.data.toList,x,j,r⟩,λγ H a=>?_⟩;obtain⟨g,j,c,m,o,p,q,t⟩:=i γ H a;obtain⟨i,r,d,u,e,f,v,w⟩:=k g j m;obtain⟨j,k,g,m,a,b,x,y⟩:=l i r u;exact⟨j,k,.agg #[.int .i64 n,.string s,c,d,g],m,(o.trans e).trans a,(p.trans f).trans b,.agg (.cons (.int _ _) (.cons (.str _) (.cons ((q.mono e).mono a) (.cons (v.mono a) (.cons x .nil))))),c,d,g,rfl,t.ext (f.trans b),w.ext b,y⟩
section
variable{re:Type}{enc:TypeId×Value->re}{base:Nat}{held:Bool}
theorem Du{t e l w:Nat}{v:Value}{x:DataW re×List MemPlace}{E:(Nat->Value)->Prop}(o:P.underlying t=some (.slice e))(p:P.cellsOf e=w)(h:DataW.trod enc P W base (λ_=>true) held l t [v]=some x)
 (q:∀(V:Nat->Value) n y,DataW.trod enc P W base (λ_=>true) held n e ((List.range w).map V)=some y->E V):tp W w v E:=by
 rcases Deep.open_slice o h with⟨e4,_⟩ | ⟨a,len,cap,m,n,D,F2,e4,_,g',_,hm,_,A1⟩
 ·exact .inl (by simpa using e4)
 ·have hm:m=cap:=by simpa using hm
  subst hm;rw[p]at A1;refine .inr ⟨a,len,m,λj=>(W.cell? (a.add j)).getD (.bool true),by simpa using e4,g',?_⟩;have f:∀i,i<m->∃b,b.length=w/\(∀k,k<w->W.cell? (a.add (i*w+k))=b[k]?)/\DataW.trod enc P W base (λ_=>true) held n e b=some (D i,F2 i):=λi c=>by
   obtain⟨b,a,e⟩:=A1 i c;obtain⟨_,g,h⟩:=World.cells?_some a;exact⟨b,g,λk a=>by rw[<-h k a,Deep.add_add],e⟩
  refine⟨λj d=>?_,λi c=>?_⟩
  ·have g:0<w:=m' λe=>by subst e;simp at d
   obtain⟨b,e,h,_⟩:=f (j/w) (ox (by rw[dW];exact d));have d:=h (j%w) (kY _ g);rw[show j/w*w+j%w=j by rw[dW];exact qM j w]at d;rw[eu (by rw[e];exact kY _ g)]at d;show _=some ((W.cell? (a.add j)).getD _);rw[d];rfl
  ·obtain⟨b,_,b,a⟩:=f i c;refine q _ n (D i,F2 i) ?_;rw[<-a];congr 1;apply nb;intro k;by_cases a:k<w
   ·rw[iw,pF a,<-b k a];have:=b k a;rw[eu (by omega)]at this;rw[this];simp[this]
   ·rw[gr (by simpa using a),gr (by omega)]
theorem gX{e a:Nat}{cx:Array Field}{cs:List Value}{x:DataW re×List MemPlace}{i:Nat}{f:Field}{u:Value}(c:P.underlying e=some (.struct cx))(h:DataW.trod enc P W base (λ_=>true) held a e cs=some x)
 (a:cx[i]? = some f) (d:P.cellsOf f.type=1) (g:cs[f.offset]? = some u):∃n y,DataW.trod enc P W base (λ_=>true) held n f.type [u]=some y:=by
 obtain⟨_,n,_,_,_,_,j⟩:=DataW.trod_struct c h;have b:=j i f a;have c:=(e'.1 a).1;have e:(cs.drop f.offset).take 1=[u]:=by
  apply nb;intro k
  cases k with
  | zero=>simp[g]
  | succ k=>simp[List.getElem?_take]
 rw[d,e,eu (by omega)]at b;exact⟨n,_,b⟩
theorem lI{t a:Nat}{u:Value}{y:DataW re×List MemPlace}(b:P.underlying t=some .string)(h:DataW.trod enc P W base (λ_=>true) held a t [u]=some y):hs u:=by
 obtain⟨s,e,_⟩:=DataW.trod_string b h;exact⟨s,by simpa using e⟩
theorem A6{t a:Nat}{u:Value}{y:DataW re×List MemPlace}(b:P.underlying t=some (.int .i64))(h:DataW.trod enc P W base (λ_=>true) held a t [u]=some y):n4 u:=by
 obtain⟨s,e,_⟩:=DataW.trod_int b h;exact⟨s,by simpa using e⟩
theorem OX{t a:Nat}{u:Value}{y:DataW re×List MemPlace}(b:P.underlying t=some .bool)(h:DataW.trod enc P W base (λ_=>true) held a t [u]=some y):rX u:=by
 obtain⟨s,e,_⟩:=DataW.trod_bool b h;exact⟨s,by simpa using e⟩
end
end
end Go.Dam.C
