import Derived.Test.YtlhomfgcibjccaaGreatDoorTP02
set_option linter.all false
set_option maxHeartbeats 8000000
set_option maxRecDepth 20000
open Go Go.LL
namespace Go.Proofs
variable{own:Int}{qs:List bW}{α:Type}{A:Option Addr}{c:Nat}
def qT(b:Sb)(own:Int):List N4:=if Zl b own=0 then Zi b else[]
def EV{b:Sb}(ok:bA b)(h:own≠0):Zl b own=own:=by rw[Zl,jO ok,aT (by decide),iF h]
def iY{b:Sb}(h:Zl b own=0):bA b/\own=0/\Zi b≠[]:=by
 unfold Zl at h;by_cases a:ZF b=0
 ·rw[a,aT (by decide)]at h;by_cases d:own=0
  ·rw[aT O]at h;refine⟨Ow a,d,λe=>?_⟩;rw[e]at h;exact absurd h (by decide)
  rw[iF d]at h;exact absurd h d
 rw[iF a]at h;exact absurd h a
def iX{b:Sb}(h:Zl b own=0):qT b own=Zi b:=iF h
def k8{H:Hp}{b:Sb}{d:List N4}(ok:bA b)(h:cX H qs (d.map (tL b.pk.length)))(f:∀t∈d,t∈Zi b){i:Nat}(m:i<qs.length) :
  ∃a:i<d.length,aF H (dN qs[i]) (tL b.pk.length d[i])/\(tL b.pk.length d[i]).length=b.pk.length/\Ys (tL b.pk.length d[i])=d[i]/\Yp d[i]:=by
 have e:=ok.n;have p:=h.len;rw[qAh]at p;have a:i<d.length:=O;obtain⟨g,_⟩:=h.at_ i m (by rw[qAh];exact a);rw[qAZ]at g;have k:=f _ (bY a);refine⟨a,g,gO e.2 _,mV e.2 λj o l=>?_,vV ok _ k⟩;exact((hZ e.2).1 k).1.2 j o l
def sN(k n:Nat):gB k n=fN k n:=by unfold gB fN;simp only[Int.natCast_eq_zero,Int.natCast_inj]
theorem JF(p:α->Bool){L:List α}{j:Nat}(a:j<L.length):((L.take (j+1)).filter p).length=((L.take j).filter p).length+if p L[j]=true then 1 else 0:=by rw[kE p a,BY];split<;>rfl
def JE(p:α->Bool)(L:List α)(j:Nat):((L.take j).filter p).length<=L.length:=qAz (qBd _ _) (by rw[qAj];omega)
section
variable{P:aX}[Tz P][Loud P]{H:Hp}
def kN{b:Sb}(hb:Zr H b)(ok:bA b) :
  LL.Zc P 90 #[b.v,vi own] H λv d=>aL H d/\∃A c qs,v=.tuple #[.slice A qs.length c,vi (Zl b own)]/\aF d (.slice A qs.length c) qs/\cX d qs ((qT b own).map (tL b.pk.length)):=by
 refine aJ.m (bG JW) (args:=[b.v,vi own]) rfl ?_;unfold nJ Sb.v;refine OJ (λa=>?_) (λa=>?_)
 ·refine Y ?_;have e:=EV ok a;exact⟨.refl _,none,0,[],by rw[e];rfl,.nil _,by rw[qT,e,aT a];exact .nil _⟩
 have a:own=0:=by simpa using a
 subst a;refine Y ?_;refine Za [b.v] (Ni hb ok) ?_;rintro v k ⟨j,A,c,qs,rfl,s1,g⟩;rw[R5 ok]at g;have i:=g.len;rw[qAh]at i;refine OJ (λh=>?_) (λh=>?_)
 ·have f:Zi b=[]:=qAt.1 O;have e:Zl b 0=9:=by rw[mE ok,bS,iF f]
  refine Y ?_;exact⟨j,none,0,[],by rw[e];rfl,.nil _,by rw[qT,e,aT (by decide)];exact .nil _⟩
 have f:Zi b≠[]:=λe=>h (by rw[i,e];rfl);have e:Zl b 0=0:=by rw[mE ok,R3 f]
 refine Y ?_;exact⟨j,A,c,qs,by rw[e];rfl,s1,by rw[iX e];exact g⟩
def kY{b:Sb}{A g:Option Addr}{c h:Nat}{qs:List bW}{a:List N4}{l:List Int}(hb:Zr H b)(ok:bA b)(s1:aF H (.slice A qs.length c) qs)(B:cX H qs (a.map (tL b.pk.length)))(q:∀t∈a,t∈Zi b)(Z:1<=a.length/\a.length<=81)(L:aF H (.slice g l.length h) l)(M:cZ b.pk.length l) :
  LL.Zc P 94 #[b.v,.slice A qs.length c,.slice g l.length h] H λv s=>aL H s/\v=.agg #[vi (cG b a l).lo,vi (cG b a l).hi]:=by
 have hn:=ok.n;have z:=B.len;rw[qAh]at z;refine aJ.m (bG JX) (args:=[b.v,.slice A qs.length c,.slice g l.length h]) rfl ?_;unfold nW Sb.v;have J:∀j (y:j<a.length),(a.take (j+1)).foldl (V2 b l) (iR b a l)=V2 b l ((a.take j).foldl (V2 b l) (iR b a l)) a[j]:=λj y=>Oe _ _ y;have I:0<qs.length:=O;obtain⟨f,C,D,r,E⟩:=k8 ok B q I;have e:Enc.enc qs[0]=[dN qs[0]]:=rfl;have G:a.getD 0 ⟨0,0,0,0⟩=a[0]:=ZD f _;have o:=J 0 f;rw[qCa,List.foldl_nil]at o;have w:((a.take (0+1)).foldl (V2 b l) (iR b a l)).lo=(Yg b a[0] l).2:=by rw[o,V2,iR,G];exact Int.min_self _
 have u:((a.take (0+1)).foldl (V2 b l) (iR b a l)).hi=(Yg b a[0] l).2:=by rw[o,V2,iR,G];exact Int.max_self _
 refine Y ?_;refine Zz 0 s1 I λQ d=>?_;rw[e]at d;refine Y ?_;refine Ya (v:=dN qs[0]) d (Y ?_);refine Za [b.v,dN qs[0],.slice g l.length h] (kX hb ok C D (by rw[r];exact E) L M) ?_;rintro v U ⟨S,rfl⟩;rw[r];refine Y ?_;refine Zv (qs.length-1) (λj s=>aL H s) (λj=>[(1,.slice A qs.length c),(2,.slice g l.length h),(3,vi 0),(6,vi 0),(8,vi 0),(9,vi ((j:Int)+1))]) (λj=>[(3,b.cs),(6,[vi 0,vi 0]),(8,[vi ((a.take (j+1)).foldl (V2 b l) (iR b a l)).lo,vi ((a.take (j+1)).foldl (V2 b l) (iR b a l)).hi])]) S V ⟨rfl,rfl,by rw[w,u];rfl,trivial⟩ ?_;rintro j W y k;refine OJ (λR=>?_) (λR=>?_)
 ·have p:j+1<qs.length:=O;obtain⟨f,C,D,r,E⟩:=k8 ok (B.inc k) q p;have e:Enc.enc qs[j+1]=[dN qs[j+1]]:=rfl;have o:=J (j+1) f;generalize(a.take (j+1)).foldl (V2 b l) (iR b a l)=F at *;refine Y ?_;refine pN (s1.inc k) rfl (by show some (vi ((j:Int)+1))=some (vi ((j+1:Nat):Int));rfl) rfl (i:=j+1) p λQ d=>?_;rw[e]at d;refine Y ?_;refine Ya (v:=dN qs[j+1]) d (Y ?_);refine Za [b.v,dN qs[j+1],.slice g l.length h] (kX (hb.inc k) ok C D (by rw[r];exact E) (L.inc k) M) ?_;rintro v X ⟨T,rfl⟩;rw[r];refine Y ?_;refine z5 rfl rfl (Y ?_);refine q8 rfl rfl (Y ?_);exact⟨⟨j+1,O⟩,bN O,k.trans T,V,⟨rfl,rfl,by rw[o];rfl,trivial⟩,rfl⟩
 have:j+1=a.length:=O;rw[this,IF];refine Y ?_;exact⟨k,rfl⟩
def RN{b:Sb}{w:Value}{T:List Int}{t:N4}{l:List Int}(hb:Zr H b)(ok:bA b)(g:aF H w T)(a:T.length=b.pk.length)(e:Ys T=t)(k:Yp t)(i:aF H (.slice A l.length c) l)(j:cZ b.pk.length l) :
  LL.Zc P 146 #[b.v,w,.slice A l.length c] H λv n=>aL H n/\v=vb (gd b l t):=by
 subst e;refine aJ.m (bG JA) (args:=[b.v,w,.slice A l.length c]) rfl ?_;unfold mT Sb.v;refine Y ?_;refine Za [b.v,w,.slice A l.length c] (RK hb ok g a k i j) ?_;rintro v q ⟨d,p⟩;refine Y ?_;refine YE p rfl ?_;refine OJ (λf=>?_) (λf=>?_)
 ·have e:pM (Yg b (Ys T) l).1=true:=qK.1 (qAt.1 O);refine Y ?_;refine Za [b.v,w,.slice A l.length c] (kX (hb.inc d) ok (g.inc d) a k (i.inc d) j) ?_;rintro v r ⟨o,rfl⟩;refine Zp OL (Y ?_);exact⟨d.trans o,by rw[gd,nT,e];rfl⟩
 have e:pM (Yg b (Ys T) l).1=false:=qBR.2 λh=>f (by rw[qK.2 h];rfl);refine Y ?_;exact⟨d,by rw[gd,nT,e];rfl⟩
def RX{b:Sb}{f:Option Addr}{g:Nat}{a:List N4}{l:List Int}(hb:Zr H b)(ok:bA b)(s1:aF H (.slice A qs.length c) qs)(s:cX H qs (a.map (tL b.pk.length)))(q:∀t∈a,t∈Zi b)(x:a.length<=81)(z:aF H (.slice f l.length g) l)(B:cZ b.pk.length l) :
  LL.Zc P 100 #[b.v,.slice A qs.length c,.slice f l.length g] H λv o=>aL H o/\v=vi (fN (cG b a l).good a.length):=by
 have k:=s.len;rw[qAh]at k;refine aJ.m (bG JZ) (args:=[b.v,.slice A qs.length c,.slice f l.length g]) rfl ?_;unfold nL Sb.v;rw[jU];refine Y ?_;refine Zv qs.length (λj o=>aL H o) (λj=>[(1,.slice A qs.length c),(2,.slice f l.length g),(3,vi 0),(7,vi ((a.take j).filter (gd b l)).length),(8,vi j)]) (λj=>[(3,b.cs)]) (.refl _) V V ?_;rintro j G K d;have y:=JE (gd b l) a j;refine OJ (λw=>?_) (λw=>?_)
 ·have i:j<qs.length:=O;obtain⟨p,C,D,E,F⟩:=k8 ok (s.inc d) q i;have n:Enc.enc qs[j]=[dN qs[j]]:=rfl;have e:=JF (gd b l) p;refine Y ?_;refine Zz j (s1.inc d) i λJ h=>?_;rw[n]at h;refine Y ?_;refine Ya (v:=dN qs[j]) h (Y ?_);refine Za [b.v,dN qs[j],.slice f l.length g] (RN (hb.inc d) ok C D E F (z.inc d) B) ?_;rintro v I ⟨r,rfl⟩;cases hg:gd b l a[j]with
  | true=>
   have e:=e.trans (by rw[iF hg]);refine Y ?_;exact⟨⟨j+1,O⟩,bN O,d.trans r,⟨rfl,rfl,rfl,by rw[e];rfl,rfl,trivial⟩,V,rfl⟩
  | false=>
   have e:=e.trans (by rw[aT (by rw[hg];decide)]);refine Y ?_;exact⟨⟨j+1,O⟩,bN O,d.trans r,⟨rfl,rfl,rfl,by rw[e];rfl,rfl,trivial⟩,V,rfl⟩
 have:j=a.length:=O;subst this;rw[IF];refine Y ?_;refine Za [vi (a.filter (gd b l)).length,vi qs.length] (RY _ _) ?_;rintro v _ ⟨rfl,rfl⟩;refine Y ?_;exact⟨d,by rw[sN,k];rfl⟩
def RO{b:Sb}(n:Nat):LL.Zc P 49 #[b.v,vi ((n+1:Nat):Int)] H λv a=>H=a/\v=(gE b n).v:=by refine aJ.m (bG JU) (args:=[b.v,vi ((n+1:Nat):Int)]) rfl ?_;unfold nV Sb.v;refine Y ?_;exact⟨rfl,rfl⟩
end
abbrev dP(b:Sb)(a:List N4):List (List Int):=(ZB b.pk.length).filter (eV b a)
def mG{b:Sb}(ok:bA b):(ZB b.pk.length).length<=24:=by rw[<-pO ok.n];exact(pY ok.n.2 (dO _)).1
theorem uK{b:Sb}{a:List N4}(h:a≠[]):O4 b a=(dP b a).map λp=>(cG b a p).hi:=by rw[dP,<-jG h,qCP];rfl
def uL{b:Sb}{a:List N4}(h:a≠[])(g:dE b a≠[])(f:Zo (O4 b a)<(dP b a).length):Yu b a=(dP b a)[Zo (O4 b a)]:=by
 have d:Zo (O4 b a)<(dE b a).length:=by have e:=qBc List.length (jG (b:=b) h);rw[qAh]at e;rw[e];exact f
 have e:(dP b a)[Zo (O4 b a)]=((dE b a).map (ZX b.pk.length))[Zo (O4 b a)]'(by rw[qAh];exact d):=by congr 1;exact(jG h).symm
 rw[e,qAZ,Yu,ZD d]
def zG(b:Sb):Prop:=Zl b 0=0/\dE b (Zi b)≠[]
instance (b:Sb):Decidable (zG b):=inferInstanceAs (Decidable (_/\_))
def bT(b:Sb):List Int:=if zG b then Yu b (Zi b)else[]
def eE(b:Sb):Int:=if zG b then(cG b (Zi b) (Yu b (Zi b))).lo else 0
def dU(b:Sb):Int:=if zG b then(cG b (Zi b) (Yu b (Zi b))).hi else 0
section
variable{P:aX}[Tz P][Loud P]{H:Hp}
def kR{b:Sb}{ts:List N4}(hb:Zr H b)(ok:bA b)(s1:aF H (.slice A qs.length c) qs)(l1:cX H qs (ts.map (tL b.pk.length)))(Q:∀t∈ts,t∈Zi b)(J:ts.length<=81)(L:ts≠[]) :
  LL.Zc P 103 #[b.v,.slice A qs.length c] H λv u=>aL H u/\∃A c g,v=.slice A g.length c/\aF u v g/\cX u g (dP b ts):=by
 refine aJ.m (bG I5) (args:=[b.v,.slice A qs.length c]) rfl ?_;unfold nM Sb.v;refine Y ?_;refine Za [b.v] (RR ok.n) ?_;rintro _ U ⟨i1,A6,c6,a,rfl,s6,l6⟩;have N:=l6.len;have vK:=mG ok;have M:=λ(k:Nat) (Z:k<(ZB b.pk.length).length)=>kO ok.n (bY Z);rw[show dP b ts=(ZB b.pk.length).filter (eV b ts)from rfl];generalize ZB b.pk.length=C at *;refine Y ?_;refine ZO (α:=Hp×Value×List bW×Option Nat) a.length (λk s u=>aL U s.1/\aL s.1 u/\dD s.1 u 26 s.2.1 s.2.2.1 s.2.2.2/\cX s.1 s.2.2.1 ((C.take k).filter (eV b ts)))
  (λk s=>[(1,.slice A qs.length c),(2,vi 0),(5,s.2.1),(6,.slice A6 a.length c6),(7,vi k)]) (λ_ _=>[(2,b.cs)]) (U,.slice none 0 0,[],none) ⟨.refl _,.refl _,.nil _ _ _,.nil _⟩ V V ?_
 rintro k ⟨G,v5,g,b5⟩ H3 Z ⟨w,x,E,y⟩;simp only at w x E y;have aHl:=y.len;have z:=qBd (eV b ts) (C.take k);rw[qAj]at z;refine OJ (λh2=>?_) (λh2=>?_)
 ·have o:k<a.length:=O;have q:k<C.length:=O;have f:=w.trans x;have r:=i1.trans f;obtain⟨S,ck⟩:=l6.at_ k o q;have hp:=M k q;have e:=kE (eV b ts) q;have j:Enc.enc a[k]=[dN a[k]]:=rfl;have hq:=iA S;have W:dN a[k]=.slice a[k].1 (C[k]).length a[k].2.2:=by rw[<-hq]
  have B:=lK (p:=gd b C[k]) L;rw[<-jU b ts C[k],<-IN]at B;have B:fN (cG b ts C[k]).good ts.length=1↔eV b ts C[k]=true:=B;refine Y ?_;refine Zz k (s6.inc f) o λa2 d=>?_;rw[j]at d;refine Y ?_;refine Ya (v:=dN a[k]) d (Y ?_);refine Za [b.v,.slice A qs.length c,dN a[k]] (by rw[W];exact RX (hb.inc r) ok (s1.inc r) (l1.inc r) Q J (by rw[<-W];exact S.inc f) hp) ?_;rintro v H4 ⟨D,rfl⟩;refine OJ (λI=>?_) (λI=>?_)
  ·have K:=B.1 I;rw[iF K]at e;refine Y ?_;refine Zz k (s6.inc (f.trans D)) o λa2 d=>?_;rw[j]at d;refine Y ?_;refine Ya (v:=dN a[k]) d (Y ?_);refine ZY (cs:=[dN a[k]]) (OL _) rfl λwL i=>Y ?_;refine U7 (l':=[a[k]]) (bI kU) (bI kU) (cD rO) rfl (by decide) ((x.trans D).trans (Zs i)) ((E.inc D).ins i) (Z0 (l:=[a[k]])) rfl (by simp;omega) O rfl rfl (OL _) λT H7 F n1 n2 n3=>Y ?_;exact⟨(⟨k+1,O⟩,(G,T,g++[a[k]],F)),bN O,⟨w,n1,n2,by show cX G (g++[a[k]]) ((C.take (k+1)).filter (eV b ts));rw[e];exact y.snoc (S.inc w) ck⟩,V,V,rfl⟩
  have K:¬ eV b ts C[k]=true:=λh=>I (B.2 h);rw[aT K,qAf]at e;refine Y ?_;exact⟨(⟨k+1,O⟩,(G,v5,g,b5)),bN O,⟨w,x.trans D,E.inc D,by show cX G g ((C.take (k+1)).filter (eV b ts));rw[e];exact y⟩,V,V,rfl⟩
 have:k=a.length:=O;subst this;rw[N,IF]at y;obtain⟨A5,c5,rfl,q5⟩:=jF E;refine Y ?_;exact⟨(i1.trans w).trans x,A5,c5,g,rfl,E.sl,y.inc x⟩
end
def iB{b:Sb}{a:List N4}(h:a≠[]):(dP b a).length=(dE b a).length:=by rw[dP,<-jG h,qAh]
def lM{b:Sb}(ok:bA b)(a:List N4):(dP b a).length<=24:=qAz (qBd _ _) (mG ok)
def sP{b:Sb}(ok:bA b){a:List N4}{p:List Int}(h:p∈dP b a):cZ b.pk.length p:=kO ok.n (qAC.1 h).1
section
variable{P:aX}[Tz P][Loud P]{H:Hp}
def RS{b:Sb}(hb:Zr H b)(p:b.Sz):LL.Zc P 31 #[b.v] H λv l=>aL H l/\v=.tuple #[vi (if Zl b 0=0 then(dE b (Zi b)).length else 0),vi (Zl b 0)]:=by
 refine aJ.m (bG JP) (args:=[b.v]) rfl ?_;unfold oB Sb.v;refine Y ?_;refine Za [b.v] (cF hb p) ?_;rintro v _ ⟨rfl,rfl⟩;refine OJ (λf=>?_) (λf=>?_)
 ·have e:Zl b 0=ZF b:=iF f;refine Y ?_;exact⟨.refl _,by rw[e,aT f];rfl⟩
 have ok:=Ow (b:=b) (by simpa using f);refine Y ?_;refine Za [b.v,vi 0] (kN hb ok) ?_;rintro v r ⟨g,k,c1,qs,rfl,s1,j⟩;refine OJ (λa=>?_) (λa=>?_)
 ·refine Y ?_;exact⟨g,by rw[aT a];rfl⟩
 have a:Zl b 0=0:=by simpa using a
 have d:=(iY a).2.2;rw[iX a]at j;refine Y ?_;refine Za [b.v,.slice k qs.length c1] (kR (hb.inc g) ok s1 j (λ_ h=>h) (UI ok) d) ?_;rintro v s ⟨n,q,c2,t,rfl,_,o⟩;have i:=o.len;rw[iB d]at i;refine Y ?_;exact⟨g.trans n,by rw[iF a,a,<-i];rfl⟩
def RU{b:Sb}(hb:Zr H b)(sz:b.Sz):LL.Zc P 33 #[b.v] H λv L=>aL H L/\∃A c,v=.tuple #[.slice A (bT b).length c,.agg #[vi (eE b),vi (dU b)],vb (decide (zG b)),vi (Zl b 0)]/\aF L (.slice A (bT b).length c) (bT b):=by
 refine aJ.m (bG JQ) (args:=[b.v]) rfl ?_;unfold oC Sb.v;refine Y ?_;refine Za [b.v] (cF hb sz) ?_;rintro v _ ⟨rfl,rfl⟩;refine OJ (λM=>?_) (λM=>?_)
 ·have e:Zl b 0=ZF b:=iF M;have d:¬ zG b:=λh=>M (e ▸ h.1);refine Y ?_;exact⟨.refl _,none,0,by rw[bT,eE,dU,aT d,aT d,aT d,qAo d,e];rfl,by rw[bT,aT d];exact .nil _⟩
 have ok:=Ow (b:=b) (by simpa using M);refine Y ?_;refine Za [b.v,vi 0] (kN hb ok) ?_;rintro v H1 ⟨N,F,c1,qs,rfl,s1,l1⟩;refine OJ (λr=>?_) (λr=>?_)
 ·have d:¬ zG b:=λh=>r h.1;refine Y ?_;exact⟨N,none,0,by rw[bT,eE,dU,aT d,aT d,aT d,qAo d];rfl,by rw[bT,aT d];exact .nil _⟩
 have r:Zl b 0=0:=by simpa using r
 have k:=(iY r).2.2;have s:=UI ok;have n:=qAX.2 k;rw[iX r]at l1;refine Y ?_;refine Za [b.v,.slice F qs.length c1] (kR (hb.inc N) ok s1 l1 (λ_ h=>h) s k) ?_;rintro v H2 ⟨Q,A2,c2,a,rfl,s2,l2⟩;have Z:=l2.len;have h24:=lM ok (Zi b);have Rm:=iB (b:=b) k;refine OJ (λT=>?_) (λT=>?_)
 ·have d:¬ zG b:=λh=>h.2 (qAt.1 O);refine Y ?_;exact⟨N.trans Q,none,0,by rw[bT,eE,dU,aT d,aT d,aT d,qAo d,r];rfl,by rw[bT,aT d];exact .nil _⟩
 have hm:dE b (Zi b)≠[]:=λe=>T (by rw[Z,Rm,e];rfl);have d:zG b:=⟨r,hm⟩;rw[bT,eE,dU,iF d,iF d,iF d,decide_eq_true d,r];have J:=N.trans Q;have hK:=uK (b:=b) k;have G:(O4 b (Zi b)).length=a.length:=by rw[hK,qAh,Z]
 have x:Zo (O4 b (Zi b))<a.length:=by rw[<-G];exact uF (λe=>T (by rw[<-G,e];rfl))
 have hse:=uL (b:=b) k hm (by rw[<-Z];exact x);have I:∀i (p:i<(dP b (Zi b)).length),el (O4 b (Zi b)) i=(cG b (Zi b) (dP b (Zi b))[i]).hi:=λi p=>by rw[hK,el,ZD (by rw[qAh];exact p),qAZ]
 have y:=λ(i:Nat) (p:i<(dP b (Zi b)).length)=>sP ok (bY p);have z:∀t∈Zi b,t∈Zi b:=λ_ h=>h;rw[hse];generalize dP b (Zi b)=C at *;generalize O4 b (Zi b)=K at *;have row:∀i (p:i<a.length),∃W:i<C.length,aF H2 (dN a[i]) C[i]/\dN a[i]=.slice a[i].1 C[i].length a[i].2.2:=λi p=>by have W:i<C.length:=O;obtain⟨g1,_⟩:=l2.at_ i p W;exact⟨W,g1,by rw[<-iA g1]⟩
 have o:∀i (p:i<a.length),Enc.enc a[i]=[dN a[i]]:=λi p=>rfl;have h0:0<a.length:=O;have D:=s1.inc Q;have B:=l1.inc Q;have w:=hb.inc J;refine Y ?_;refine Zz 0 s2 h0 λa2 g=>?_;rw[o]at g;refine Y ?_;refine Ya (v:=dN a[0]) g (Y ?_);refine Zv (a.length-1) (λj L=>aL H2 L) (λj=>[(1,vi 0),(3,vi 0),(7,.slice F qs.length c1),(9,.slice A2 a.length c2),(10,dN (a.getD (cO K (j+1)) (none,0,0))),(11,vi ((j:Int)+1))]) (λj=>[(1,b.cs),(3,[vi 0,vi 0])]) (.refl _)
  ⟨rfl,rfl,rfl,rfl,by rw[cO,cO,aT (qCR _),ZD h0];rfl,rfl,trivial⟩ V ?_
 rintro j H3 hj f;refine OJ (λh4=>?_) (λh4=>?_)
 ·have u:j+1<a.length:=O;have X:cO K (j+1)<a.length:=by have:=EM (l:=K) (j+1) O;omega
  rw[ZD X];obtain⟨x1,x2,x3⟩:=row _ u;obtain⟨R,S,E⟩:=row _ X;have ex:=I _ x1;have ey:=I _ R;refine Y ?_;refine pN (s2.inc f) rfl (by show some (vi ((j:Int)+1))=some (vi ((j+1:Nat):Int));rfl) rfl (i:=j+1) u λa2 g=>?_;rw[o]at g;refine Y ?_;refine Ya (v:=dN a[j+1]) g (Y ?_);refine Za [b.v,.slice F qs.length c1,dN a[j+1]] (by rw[x3];exact kY (w.inc f) ok (D.inc f) (B.inc f) z ⟨n,s⟩ (by rw[<-x3];exact x2.inc f) (y _ x1)) ?_;rintro v H4 ⟨q,rfl⟩;rw[<-ex];refine Zp OL (Y ?_);refine Za [b.v,.slice F qs.length c1,dN a[cO K (j+1)]] (by rw[E];exact kY (w.inc (f.trans q)) ok (D.inc (f.trans q)) (B.inc (f.trans q)) z ⟨n,s⟩ (by rw[<-E];exact S.inc (f.trans q)) (y _ R)) ?_;rintro v H5 ⟨i5,rfl⟩;rw[<-ey];refine Zp OL ?_;refine OJ (λU=>?_) (λU=>?_)
  ·have e:cO K (j+1+1)=j+1:=by rw[cO,iF U]
   refine Y ?_;refine pN (s2.inc ((f.trans q).trans i5)) rfl (by show some (vi ((j:Int)+1))=some (vi ((j+1:Nat):Int));rfl) rfl (i:=j+1) u λa2 g=>?_;rw[o]at g;refine Y ?_;refine Ya (v:=dN a[j+1]) g (Y ?_);exact⟨⟨j+1,O⟩,bN O,(f.trans q).trans i5,⟨rfl,rfl,rfl,rfl,by rw[e,ZD u];rfl,rfl,trivial⟩,V,rfl⟩
  have e:cO K (j+1+1)=cO K (j+1):=by rw[cO,aT U]
  refine Y ?_;exact⟨⟨j+1,O⟩,bN O,(f.trans q).trans i5,⟨rfl,rfl,rfl,rfl,by rw[e,ZD X];rfl,rfl,trivial⟩,V,rfl⟩
 have ej:j+1=K.length:=O;rw[ej,show cO K K.length=Zo K from rfl,ZD x];obtain⟨R,S,E⟩:=row _ x;refine Y ?_;refine Za [b.v,.slice F qs.length c1,dN a[Zo K]] (by rw[E];exact kY (w.inc f) ok (D.inc f) (B.inc f) z ⟨n,s⟩ (by rw[<-E];exact S.inc f) (y _ R)) ?_;rintro v H4 ⟨q,rfl⟩;refine Y ?_;exact⟨(J.trans f).trans q,a[Zo K].1,a[Zo K].2.2,by rw[<-E];rfl,by rw[<-E];exact S.inc (f.trans q)⟩
def RL{b:Sb}(hb:Zr H b)(Q:b.Sz):LL.Zc P 35 #[b.v] H λv r=>aL H r/\v=.tuple #[vi (if Zl b 0=0 then V7 b (Zi b)else 0:Nat),vb (decide (Zl b 0=0/\V7 b (Zi b)≠0)),vi (Zl b 0)]:=by
 refine aJ.m (bG JR) (args:=[b.v]) rfl ?_;unfold nU Sb.v;refine Y ?_;refine Za [b.v] (cF hb Q) ?_;rintro v _ ⟨rfl,rfl⟩;refine OJ (λi=>?_) (λi=>?_)
 ·have e:Zl b 0=ZF b:=iF i;refine Y ?_;exact⟨.refl _,by rw[e,aT i,qAo (λh=>i h.1)];rfl⟩
 have ok:=Ow (b:=b) (by simpa using i);refine Y ?_;refine Za [b.v,vi 0] (kN hb ok) ?_;rintro v I ⟨q,B,c1,qs,rfl,s1,G⟩;refine OJ (λa=>?_) (λa=>?_)
 ·refine Y ?_;exact⟨q,by rw[aT a,qAo (λh=>a h.1)];rfl⟩
 have a:Zl b 0=0:=by simpa using a
 have d:=(iY a).2.2;have x:=UI ok;rw[iX a]at G;rw[iF a,a];have C:=JM (b:=b) (ts:=Zi b);have y:=λn=>JO b n;refine Y ?_;refine Zv 3 (λj r=>aL I r/\∀n,n<j->dE (gE b n) (Zi b)=[]) (λj=>[(1,vi 0),(6,.slice B qs.length c1),(8,vi ((j:Int)+1))]) (λj=>[(1,b.cs)]) ⟨.refl _,λn h=>absurd h (qBm _)⟩ V V ?_;rintro j S U ⟨f,z⟩;refine OJ (λM=>?_) (λM=>?_)
 ·have k:j<3:=O;have l:=Ij ok k;refine Y ?_;refine Za [b.v,vi ((j+1:Nat):Int)] (RO j) ?_;rintro v _ ⟨rfl,rfl⟩;refine Y ?_;refine Za [(gE b j).v,.slice B qs.length c1] (kR (b:=gE b j) (ts:=Zi b) (Tl (hb.inc (q.trans f)) j) l (s1.inc f) (G.inc f) (λt h=>by rw[y];exact h) x d) ?_;rintro v T ⟨F,R,c3,W,rfl,_,N⟩;have o:=N.len;rw[iB d]at o;have u:=lM l (Zi b);rw[iB d]at u;refine OJ (λw=>?_) (λw=>?_)
  ·have p:dE (gE b j) (Zi b)≠[]:=λe=>by rw[e]at o;simp at o;rw[o]at w;exact absurd w (by decide)
   have e:V7 b (Zi b)=j+1:=by
    rcases C with⟨_,g⟩ | ⟨K,L,s,D⟩
    ·exact absurd (g j k) p
    by_cases g:j+1<V7 b (Zi b)
    ·exact absurd (D j g) p
    by_cases J:V7 b (Zi b)-1<j
    ·exact absurd (z _ J) s
    omega
   rw[e,decide_eq_true (show(0:Int)=0/\j+1≠0 from⟨rfl,O⟩)];refine Y ?_;exact⟨(q.trans f).trans F,rfl⟩
  have p:dE (gE b j) (Zi b)=[]:=qAt.1 O;refine Y ?_;exact⟨⟨j+1,O⟩,bN O,⟨f.trans F,λn E=>by
   have E:n<j+1:=E;by_cases e:n=j
   ·rw[e];exact p
   exact z n O⟩,V,V,rfl⟩
 have:j=3:=O;subst this;have e:V7 b (Zi b)=0:=by
  rcases C with⟨g,_⟩ | ⟨K,L,s,D⟩
  ·exact g
  exact absurd (z _ O) s
 rw[e,qAo (show ¬ ((0:Int)=0/\(0:Nat)≠0)from λh=>h.2 rfl)];refine Y ?_;exact⟨q.trans f,rfl⟩
theorem sU(a:P=PP){b:Sb}(hb:Zr H b)(i:Yk H)(e:aC H ⟨1,0,none⟩ [vf 284]) :
  oS.m P (tJ P mH λv _=>v=vb true) (Vv [b.v]) H:=by
 unfold oS Sb.v;refine Y ?_;refine Za [b.v] (eO hb) ?_;rintro v _ ⟨rfl,g,rfl,r⟩;cases g with
 | true=>
  refine Y ?_;refine Za [] (bB a i e) ?_;rintro v F ⟨_,rfl⟩;refine Y ?_;rfl
 | false=>
 have f:=(r rfl).sz;refine Y ?_;refine Za [b.v] (KI a hb f i e) ?_;rintro v F ⟨x,rfl⟩;refine Y ?_;refine Za [b.v] (RS (hb.inc x) f) ?_;rintro v U ⟨M,rfl⟩;have l:=x.trans M;refine OJ (λt=>?_) (λt=>?_)
 ·exact absurd t (by simp)
 refine OJ (λk=>?_) (λk=>?_)
 ·exact absurd k (by simp)
 refine Y ?_;refine Za [b.v] (PS a (hb.inc l) f (aC.inc i l) (aC.inc e l)) ?_;rintro v G ⟨N,L⟩;have y:=l.trans N;obtain⟨D,c3,rfl,S⟩:∃A c,v=.tuple #[.slice A (bT b).length c,.agg #[vi (eE b),vi (dU b)],vb (decide (zG b)),vi (Zl b 0)]/\aF G (.slice A (bT b).length c) (bT b):=by
  rcases L with⟨h,rfl⟩ | ⟨s,J,A,c,k,p,rfl⟩
  ·have d:¬ zG b:=h;exact⟨none,0,by rw[bT,eE,dU,aT d,aT d,aT d,qAo d];rfl,by rw[bT,aT d];exact .nil _⟩
  have d:zG b:=⟨s,J⟩;exact⟨A,c,by rw[bT,eE,dU,iF d,iF d,iF d,decide_eq_true d,s],by rw[bT,iF d];exact k⟩
 refine Y ?_;refine Za [b.v] (RU (hb.inc y) f) ?_;rintro v V ⟨C,E,I,rfl,T⟩;have o:=y.trans C;have j:(bT b).length<=1000000:=by
  unfold bT;split
  ·rename_i h;obtain⟨ok,_,q⟩:=iY h.1;obtain⟨_,_,_,g,_⟩:=sO q h.2;have:=(kO ok.n g).len;have:=ok.n;omega
  exact qAI _
 refine Y ?_;refine Za [.slice D (bT b).length c3,.slice E (bT b).length I] (EI (S.inc C) T j j) ?_;rintro v _ ⟨rfl,rfl⟩;rw[decide_eq_true (show bT b=bT b from rfl)];refine Y ?_;refine CA (b:=decide (eE b=eE b/\dU b=dU b)) (xs:=#[vi (eE b),vi (dU b)]) (ys:=#[vi (eE b),vi (dU b)]) EC (λQ g H K=>zY (.inr zJ) Q K) rfl rfl ?_;rw[decide_eq_true (show eE b=eE b/\dU b=dU b from⟨rfl,rfl⟩)];refine Y ?_;refine EU rfl rfl ?_;rw[bne_self_eq_false];refine OJ (λp=>?_) (λp=>?_)
 ·exact absurd p (by simp)
 refine Y ?_;refine Za [b.v] (TP a (hb.inc o) f (aC.inc i o) (aC.inc e o)) ?_;rintro v W ⟨O,rfl⟩;have z:=o.trans O;refine Y ?_;refine Za [b.v] (RL (hb.inc z) f) ?_;rintro v X ⟨R,rfl⟩;have B:=z.trans R;refine OJ (λu=>?_) (λu=>?_);rotate_left
 ·exact absurd rfl u
 refine Y ?_;refine ET rfl rfl ?_;rw[qCn];refine OJ (λw=>?_) (λw=>?_);rotate_left
 ·exact absurd rfl w
 refine Y ?_;refine Za [] (bB a (aC.inc i B) (aC.inc e B)) ?_;rintro v Z ⟨_,rfl⟩;refine Y ?_;rfl
end
