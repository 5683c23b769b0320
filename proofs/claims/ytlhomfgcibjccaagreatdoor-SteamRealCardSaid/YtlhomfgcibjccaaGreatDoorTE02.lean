import Derived.Test.YtlhomfgcibjccaaGreatDoorTE01
set_option linter.all false
set_option maxHeartbeats 8000000
set_option maxRecDepth 20000
open Go Go.LL
namespace Go.Proofs
variable{p lt lp:List Int}{A At Ap:Option Addr}{c ct cp:Nat}{z:Int}{lv:Value}
def EV{f:Nat->Int}{l:List Nat}{j:Nat}(h:j<l.length):el (l.map f) j=f l[j]:=by rw[el,ZD (by simpa using h),qAZ]
def k8{b:Sb}{a:List N4}(h:a≠[])(v:dE b a≠[]):∃m∈dE b a,Yu b a=ZX b.pk.length m/\Yu b a∈ZB b.pk.length/\eR b a (Yu b a)=true /\
  (∀k∈dE b a,(cG b a (Yu b a)).hi<=(cG b a (ZX b.pk.length k)).hi)/\∀k∈dE b a,(cG b a (ZX b.pk.length k)).hi=(cG b a (Yu b a)).hi->m<=k:=by
 have d:=uF (l:=O4 b a) (by simpa[O4]using v);have q:(O4 b a).length=(dE b a).length:=by rw[O4,qAh]
 rw[q]at d;have e:Yu b a=ZX b.pk.length (dE b a)[Zo (O4 b a)]:=by rw[Yu,ZD d]
 have f:(dE b a)[Zo (O4 b a)]∈dE b a:=bY d;obtain⟨s,x,t⟩:=kK.1 f;have w:ZX b.pk.length (dE b a)[Zo (O4 b a)]∈ZB b.pk.length:=by rw[ZX,ZD (show(dE b a)[Zo (O4 b a)]-1<(ZB b.pk.length).length by omega)];exact bY _
 have n:∀j (i:j<(dE b a).length),el (O4 b a) j=(cG b a (ZX b.pk.length (dE b a)[j])).hi:=λj i=>by rw[O4,EV i]
 refine⟨_,f,e,by rw[e];exact w,by rw[e,<-mL h s];exact t,λk o=>?_,λk o u=>?_⟩
 ·obtain⟨j,i,rfl⟩:=qAk.1 o;have:=CV (l:=O4 b a) (j:=j) O;rw[n j i,n _ d]at this;rw[e];exact this
 obtain⟨j,i,rfl⟩:=qAk.1 o;have y:=PU (l:=O4 b a) (j:=j) O (by rw[n j i,n _ d,u,e]);by_cases r:Zo (O4 b a)=j
 ·subst r;exact dO _
 exact qDB (qAY.1 (PV b a) _ _ d i O)
def wC{b:Sb}{a:List N4}(h:a≠[])(f:p∈ZB b.pk.length)(e:eR b a p=true):∃m∈dE b a,ZX b.pk.length m=p:=by
 have:p∈(dE b a).map (ZX b.pk.length):=by rw[vY h];exact qAC.2 ⟨f,e⟩
 exact qAB.1 this
def rG{b:Sb}{a:List N4}(h:a≠[])(i:dE b a≠[])(j:p∈ZB b.pk.length)(g:eR b a p=true):(cG b a (Yu b a)).hi<=(cG b a p).hi:=by obtain⟨m,d,e⟩:=wC h j g;obtain⟨_,_,_,_,_,f,_⟩:=k8 h i;rw[<-e];exact f m d
def yW{b:Sb}{ts:List N4}:(V7 b ts=0/\∀n,n<3->dE (gE b n) ts=[])\/(1<=V7 b ts/\V7 b ts<=3/\dE (gE b (V7 b ts-1)) ts≠[]/\∀n,n+1<V7 b ts->dE (gE b n) ts=[]):=by
 have d:∀{l:List Nat},¬ l≠[]->l=[]:=λh=>qAd h;by_cases a:dE (gE b 0) ts≠[]
 ·have e:V7 b ts=1:=iF a;rw[e];exact .inr ⟨by decide,by decide,a,λn i=>O⟩
 by_cases f:dE (gE b 1) ts≠[]
 ·have e:V7 b ts=2:=by rw[V7,aT a,iF f]
  rw[e];refine .inr ⟨by decide,by decide,f,λn i=>?_⟩;obtain rfl:n=0:=O;exact d a
 by_cases g:dE (gE b 2) ts≠[]
 ·have e:V7 b ts=3:=by rw[V7,aT a,aT f,iF g]
  rw[e];refine .inr ⟨by decide,by decide,g,λn i=>?_⟩;have:n=0\/n=1:=O;rcases this with rfl | rfl
  ·exact d a
  exact d f
 have e:V7 b ts=0:=by rw[V7,aT a,aT f,aT g]
 rw[e];refine .inl ⟨rfl,λn i=>?_⟩;have:n=0\/n=1\/n=2:=O;rcases this with rfl | rfl | rfl
 ·exact d a
 ·exact d f
 exact d g
def y5{b:Sb}(ok:bA b):gE b (b.hd.toNat-1)=b:=by have h:=ok.hd;have e:((b.hd.toNat-1+1:Nat):Int)=b.hd:=O;rw[gE,e]
def yV{b:Sb}{ts:List N4}(ok:bA b)(a:dE b ts≠[]):1<=V7 b ts/\(V7 b ts:Int)<=b.hd:=by
 have j:=ok.hd;have e:=y5 ok;rcases yW (b:=b) (ts:=ts)with⟨_,h⟩ | ⟨d,g,i,f⟩
 ·have:=h (b.hd.toNat-1) O;rw[e]at this;exact absurd this a
 refine⟨d,qAd λk=>?_⟩;have:=f (b.hd.toNat-1) O;rw[e]at this;exact absurd this a
def iC{b:Sb}{t:N4}:∀{j:Nat},j<=4->∀{i:Nat},i<4->(bT b t j).get i=if i<j then min (max (t.get i) (aD b i).lo) (aD b i).hi else t.get i
 | 0,_,i,_=>by rw[bT,aT O]
 | j+1,d,i,a=>by
  rw[bT,N4.aZ _ _ a];by_cases e:i=j
  ·subst e;rw[iF rfl,iF O]
  rw[aT e,iC O a];by_cases h:i<j
  ·rw[iF h,iF O]
  rw[aT h,aT O]
theorem JF{b:Sb}(ok:bA b){l:List Int}(k:l.length=b.pk.length):fG b l=true↔Ys l∈Zi b:=by
 have d:=ok.n;rw[fG,qAc,EL,kZ d.2];refine qDl ?_ qCH;constructor
 ·intro h;refine⟨λj a=>?_,λj a e=>?_⟩
  ·have:(bT b (Ys l) b.pk.length).get j=(Ys l).get j:=by rw[h]
   rw[iC d.2 O,iF a]at this;have:=(gO ok a).1;omega
  rw[fJ a,qAa,qAn O];rfl
 rintro⟨f,i⟩;refine N4.ext' λj a=>?_;rw[iC d.2 a];split
 ·rename_i e;have:=f j e;omega
 rfl
def cH(b:Sb)(l:List fI)(n:Nat):List Int:=(List.range n).map λ(i:Nat)=>(aD b i).lo+(cZ l i).tmod ((aD b i).hi-(aD b i).lo+1)
def fU(b:Sb)(l:List fI)(n:Nat):(cH b l n).length=n:=by simp[cH]
def rI(b:Sb)(l:List fI){n i:Nat}(h:i<n):(cH b l n).getD i 0=(aD b i).lo+(cZ l i).tmod ((aD b i).hi-(aD b i).lo+1):=by rw[ZD (by rw[fU];exact h)];simp[cH]
def kR{b:Sb}(ok:bA b)(l:List fI){i:Nat}(h:i<b.pk.length):(aD b i).lo<=(cH b l b.pk.length).getD i 0/\(cH b l b.pk.length).getD i 0<=(aD b i).hi:=by rw[rI b l h];have a:=(gO ok h).1;have:=iB (m:=(aD b i).hi-(aD b i).lo+1) (nJ l i).1 O;omega
def sU{b:Sb}(ok:bA b)(l:List fI):∀z∈cH b l b.pk.length,1<=z/\z<=20:=λz e=>by
 obtain⟨i,d,rfl⟩:=qAk.1 e;have a:i<b.pk.length:=by rw[fU]at d;exact d
 have h:=kR ok l a;rw[ZD d]at h;have:=(gO ok a).1;omega
theorem sV{b:Sb}(ok:bA b)(l:List fI):jT b (Ys (cH b l b.pk.length)):=by
 have e:=ok.n;refine⟨λj a=>?_,λj a d=>?_⟩
 ·rw[fJ O];exact kR ok l a
 rw[fJ a,qAa,qAn (by rw[fU];exact d)];rfl
def dP(t:N4)(x:Nt):Nt:={ x with lo:=min (UG t x.ps) x.lo,hi:=max (UG t x.ps) x.hi }
def bK(b:Sb)(t:N4)(A:Option Addr)(c:Nat):Sb:={ b with nt:=b.nt.map (dP t),A2:=A,c2:=c }
def nI{n:Nat}{l:List Int}{t:N4}(g:n<=4)(h:oV n l)(d:Yp t):0<=UG t l/\UG t l<=80:=by have a:=z6 d (n:=n) (l:=l) (λz e=>by have:=h.2 z e;omega) l.length (dO _);have f:=uD h;rw[IF]at a;omega
def pY{b:Sb}(ok:bA b){t:N4}(e:Yp t)(A:Option Addr)(c:Nat):bA (bK b t A c) where
 pl:=ok.pl
 hd:=ok.hd
 td:=ok.td
 n:=ok.n
 pk:=ok.pk
 nm:=ok.nm
 nn:=by show(b.nt.map _).length<=3;rw[qAh];exact ok.nn
 nt:=λx f=>by obtain⟨y,g,rfl⟩:=qAB.1 f;obtain⟨d,a,h⟩:=ok.nt y g;have:=nI ok.n.2 a e;refine⟨d,a,?_⟩;show 0<=min (UG t y.ps) y.lo/\min (UG t y.ps) y.lo<=max (UG t y.ps) y.hi/\max (UG t y.ps) y.hi<=80;omega
def pX{b:Sb}(ok:bA b){t:N4}(h:jT b t)(A:Option Addr)(c:Nat):t∈Zi (bK b t A c):=by refine(kZ (b:=bK b t A c) ok.n.2).2 ⟨h,?_⟩;show(b.nt.map (dP t)).all (vU t)=true;rw[List.all_map,IN];intro x _;show decide (min (UG t x.ps) x.lo<=UG t x.ps/\UG t x.ps<=max (UG t x.ps) x.hi)=true;exact decide_eq_true O
def iM(b:Sb)(i:Nat):List Int:=Oh (lD (Vj b i))
def jR(b:Sb)(l:List Int):Int:=if Zi b=[]then 0 else(cG b (Zi b) l).lo
def jL(b:Sb)(l:List Int):Int:=if Zi b=[]then 0 else(cG b (Zi b) l).hi
def jW(b:Sb)(l:List Int):Int:=if Zi b=[]then 0 else fN (cG b (Zi b) l).good (Zi b).length
def D2(b:Sb)(l:List Int)(i:Nat):Int:=if Zi b=[]then 0 else fN ((cG b (Zi b) l).cold.get i) (Zi b).length
def fF(b:Sb):Nat:=if Zi b=[]then 0 else(dE b (Zi b)).length
def g0(b:Sb):List Int:=if fF b=0 then[]else Yu b (Zi b)
def eV(b:Sb):Int:=if fF b=0 then 0 else(cG b (Zi b) (Yu b (Zi b))).lo
def eI(b:Sb):Int:=if fF b=0 then 0 else(cG b (Zi b) (Yu b (Zi b))).hi
def nR(b:Sb):Nat:=if Zi b=[]then 0 else V7 b (Zi b)
def HV(b:Sb):List Int:=if Zi b=[]then CU b else[]
def gB{b:Sb}{α:Type}(x y:α):(if bS b=0 then x else y)=if Zi b=[]then y else x:=by
 by_cases h:Zi b=[]
 ·rw[aT (λe=>gR.1 e h),iF h]
 rw[iF (gR.2 h),aT h]
def iI{b:Sb}(ok:bA b){l:List Int}(a:dU b.pk.length l):Zl b (Yq b l)=bS b:=by rw[gG a,eE ok]
def fT{b:Sb}:fF b≠0↔Zi b≠[]/\dE b (Zi b)≠[]:=by
 unfold fF;split
 ·rename_i h;exact⟨λe=>absurd rfl e,λe=>absurd h e.1⟩
 rename_i h;exact⟨λe=>⟨h,λa=>e (by rw[a];rfl)⟩,λe a=>e.2 (qAt.1 a)⟩
section
variable{P:aX}[Tz P][Loud P]{H:Hp}{b:Sb}
def JP(ok:bA b)(hb:Zr H b)(d:Yk H):LL.Zc P 19 #[b.v] H λv a=>aL H a/\v=.tuple #[vi (Zi b).length,vi 0]:=
 LL.Zc.mono (IC hb ok.sz' d) λv a h=>by rw[iF (jO ok),jO ok]at h;exact h
theorem JB(ok:bA b){i:Nat}(l:i<b.pk.length)(hb:Zr H b)(k:Yk H):LL.Zc P 21 #[b.v,vi i] H λv a=>aL H a/\∃A c,v=.tuple #[.slice A (iM b i).length c,vi (bS b)]/\aF a (.slice A (iM b i).length c) (iM b i):=
 LL.Zc.mono (PR hb ok.sz' k) λv a h=>by
  rw[kX l,eE ok,qAD]at h;obtain⟨d,w,rfl,⟨g,rfl⟩ | ⟨_,m,f⟩⟩:=h
  ·have j:Zi b=[]:=qAd λe=>g (jU e);have e:iM b i=[]:=by rw[iM,Vj,j];rfl
   rw[e];exact⟨d,none,0,rfl,.nil _⟩
  obtain⟨A,c,rfl,_⟩:=id f.sl;exact⟨d,A,c,rfl,f.sl⟩
def JU(ok:bA b){l:List Int}(d:dU b.pk.length l)(j:aF H (.slice A l.length c) l)(g:l.length<=c)(hb:Zr H b)(i:Yk H)(a:aC H ⟨1,0,none⟩ [vf 284]) :
  LL.Zc P 24 #[b.v,.slice A l.length c] H λv f=>aL H f/\v=.tuple #[.agg #[vi (jR b l),vi (jL b l)],vi (bS b)]:=
 LL.Zc.mono (KH hb ok.sz' i a j g (by have:=d.len;have:=ok.n;omega)) λv f h=>by
  have e:ON b l=(jR b l,jL b l):=by rw[ON,iI ok d,gB,jR,jL];split<;>rfl
  rw[e,iI ok d]at h;exact h
def JW(ok:bA b){l:List Int}(e:dU b.pk.length l)(i:aF H (.slice A l.length c) l)(f:l.length<=c)(hb:Zr H b)(g:Yk H)(a:aC H ⟨1,0,none⟩ [vf 284]) :
  LL.Zc P 28 #[b.v,.slice A l.length c] H λv d=>aL H d/\v=.tuple #[vi (jW b l),vi (bS b)]:=
 LL.Zc.mono (FR hb ok.sz' g a i f (by have:=e.len;have:=ok.n;omega)) λv d h=>by rw[xB,iI ok e,gB]at h;exact h
def JX(ok:bA b){l:List Int}{i:Nat}(k:i<b.pk.length)(f:dU b.pk.length l)(m:aF H (.slice A l.length c) l)(g:l.length<=c)(hb:Zr H b)(j:Yk H)(a:aC H ⟨1,0,none⟩ [vf 284]) :
  LL.Zc P 26 #[b.v,.slice A l.length c,vi i] H λv d=>aL H d/\v=.tuple #[vi (D2 b l i),vi (bS b)]:=
 LL.Zc.mono (TQ hb ok.sz' j a m g (by have:=f.len;have:=ok.n;omega)) λv d h=>by
  have e:Oc b l i=0:=by rw[Oc,gG f,aT (by decide),kX k]
  rw[CX,e,eE ok,gB,qAD]at h;exact h
def I8(a:P=PP)(ok:bA b)(hb:Zr H b)(g:Yk H)(d:aC H ⟨1,0,none⟩ [vf 284]) :
  LL.Zc P 30 #[b.v] H λv f=>aL H f/\v=.tuple #[vi (fF b:Nat),vi (bS b)]:=
 LL.Zc.mono (KI a hb ok.sz' g d) λv f h=>by
  rw[eE ok,gB]at h;have e:((fF b:Nat):Int)=if Zi b=[]then 0 else((dE b (Zi b)).length:Int):=by unfold fF;split<;>rfl
  rw[e];exact h
def I9(hO:P=PP)(ok:bA b)(hb:Zr H b)(m:Yk H)(f:aC H ⟨1,0,none⟩ [vf 284]) :
  LL.Zc P 32 #[b.v] H λv d=>aL H d/\∃A c,v=.tuple #[.slice A (g0 b).length c,.agg #[vi (eV b),vi (eI b)],vb (decide (fF b≠0)),vi (bS b)]/\(g0 b).length<=c/\aF d (.slice A (g0 b).length c) (g0 b):=
 LL.Zc.mono (PS hO hb ok.sz' m f) λv d h=>by
  have g:Zl b 0=0↔Zi b≠[]:=by rw[eE ok,gR]
  obtain⟨i,⟨a,rfl⟩ | ⟨a,j,A,c,k,l,rfl⟩⟩:=h
  ·have e:fF b=0:=qAd λe=>a ⟨g.2 (fT.1 e).1,(fT.1 e).2⟩;rw[g0,eV,eI,iF e,iF e,iF e,qAo O,eE ok];exact⟨i,none,0,rfl,dO _,.nil _⟩
  have e:fF b≠0:=fT.2 ⟨g.1 a,j⟩;rw[g0,eV,eI,aT e,aT e,aT e,decide_eq_true e,jU (g.1 a)];exact⟨i,A,c,rfl,l,k⟩
def JV(a:P=PP)(ok:bA b)(hb:Zr H b)(i:Yk H)(d:aC H ⟨1,0,none⟩ [vf 284]) :
  LL.Zc P 34 #[b.v] H λv f=>aL H f/\v=.tuple #[vi (nR b:Nat),vb (decide (nR b≠0)),vi (bS b)]:=
 LL.Zc.mono (TP a hb ok.sz' i d) λv f h=>by
  have e:(if Zl b 0=0 then V7 b (Zi b)else 0)=nR b:=by rw[eE ok,gB];rfl
  have g:decide (Zl b 0=0/\V7 b (Zi b)≠0)=decide (nR b≠0):=by
   refine qBk.2 ?_;rw[eE ok,gR,nR];split
   ·rename_i h;exact⟨λe=>absurd h e.1,λe=>absurd rfl e⟩
   rename_i h;exact⟨λe=>e.2,λe=>⟨h,e⟩⟩
  rw[e,g,eE ok]at h;exact h
def JS(ok:bA b)(hb:Zr H b)(d:Yk H):LL.Zc P 54 #[b.v] H λv a=>aL H a/\∃A c,v=.tuple #[.slice A (HV b).length c,vi 0]/\(HV b).length<=c/\aF a (.slice A (HV b).length c) (HV b):=
 LL.Zc.mono (Ib hb ok.sz' d) λv a h=>by
  have e:VU b=HV b:=by
   unfold VU HV;by_cases h:Zi b=[]
   ·rw[iF ⟨jO ok,h⟩,iF h]
   rw[aT (λe=>h e.2),aT h]
  rw[e,jO ok]at h;exact h
def mD(ok:bA b)(a:lt.length=b.pk.length)(d:∀z∈lt,1<=z/\z<=20)(e:dU b.pk.length lp):Z7 b lt lp=0:=by rw[Z7,jO ok,aT (by decide),kN a d,aT (by decide),gG e]
theorem nU(ok:bA b)(g:lt.length=b.pk.length)(i:∀z∈lt,1<=z/\z<=20)(f:dU b.pk.length lp)(o:aF H (.slice At lt.length ct) lt)(m:aF H (.slice Ap lp.length cp) lp)(k:lp.length<=cp)(hb:Zr H b)(l:Yk H)(e:aC H ⟨1,0,none⟩ [vf 284]) :
  LL.Zc P 46 #[b.v,.slice At lt.length ct,.slice Ap lp.length cp] H λv a=>aL H a/\∃A c,v=.tuple #[.slice A (gM b (Ys lt) lp).length c,vi 0]/\aF a (.slice A (gM b (Ys lt) lp).length c) (gM b (Ys lt) lp):=
 LL.Zc.mono (KL hb ok.sz' l e o m k (by have:=ok.n;omega) (by have:=f.len;have:=ok.n;omega)) λv a h=>by rw[mD ok g i f]at h;obtain⟨j,w,q,rfl,d⟩:=h;rw[iF rfl]at d;obtain⟨A,c,rfl,_⟩:=id d.sl;exact⟨j,A,c,rfl,d.sl⟩
def nH(ok:bA b)(f:lt.length=b.pk.length)(g:∀z∈lt,1<=z/\z<=20)(e:dU b.pk.length lp)(l:aF H (.slice At lt.length ct) lt)(k:aF H (.slice Ap lp.length cp) lp)(i:lp.length<=cp)(hb:Zr H b)(j:Yk H)(a:aC H ⟨1,0,none⟩ [vf 284]) :
  LL.Zc P 73 #[b.v,.slice At lt.length ct,.slice Ap lp.length cp] H λv d=>aL H d/\v=.tuple #[vi (Yg b (Ys lt) lp).2,vi 0]:=
 LL.Zc.mono (Hu hb ok.sz' j a l k i (by have:=ok.n;omega) (by have:=e.len;have:=ok.n;omega)) λv d h=>by rw[mD ok f g e,iF rfl]at h;exact h
def JZ(ok:bA b)(d:lt.length=b.pk.length)(f:∀z∈lt,1<=z/\z<=20)(i:aF H (.slice At lt.length ct) lt)(hb:Zr H b)(g:Yk H) :
  LL.Zc P 75 #[b.v,.slice At lt.length ct] H λv a=>aL H a/\v=.tuple #[vb (fG b lt),vi 0]:=
 LL.Zc.mono (JY hb ok.sz' g i (by have:=ok.n;omega)) λv a h=>by
  have e:fH b lt=0:=by rw[fH,jO ok,aT (by decide),kN d f]
  rw[e,iF rfl]at h;exact h
end
section
variable{P:aX}[Tz P][Loud P]{H:Hp}
def y6{b:Sb}(n:Int)(d:b.pk.length<=1000000):LL.Zc P 89 #[b.v,vi n] H λv a=>H=a/\v=vb (decide (0<=n/\n<b.pk.length)):=by refine aJ.m (bG ER) (args:=[b.v,vi n]) rfl ?_;unfold lV Sb.v;refine Y ?_;refine Za [vi n,vi 0,vi (b.pk.length-1)] (pF _ _ _) ?_;rintro v _ ⟨rfl,rfl⟩;refine Y ?_;exact⟨rfl,qBc vb (qBk.2 O)⟩
def JD{l:List Int}:l.any (λx=>z == x)=decide (z∈l):=by rw[qBT,qBg,qAy];exact⟨λ⟨x,a,e⟩=>by rw[qDH]at e;rw[e];exact a,λh=>⟨z,h,qCn z⟩⟩
def JQ{b:Sb}{l:List Int}(o:aF H (.slice A l.length c) l)(B:l.length<=c)(D:l.length<=1000000)(y:b.pk.length<=1000000) :
  LL.Zc P 79 #[b.v,.slice A l.length c] H λv i=>H=i/\v=vi (Yq b l):=by
 refine aJ.m (bG EQ) (args:=[b.v,.slice A l.length c]) rfl ?_;unfold mH Sb.v;refine OJ (λs=>?_) (λs=>?_)
 ·refine Y ?_;exact⟨rfl,by rw[Yq,iF O];rfl⟩
 refine Y ?_;refine Zv l.length (λj i=>H=i/\VB b.pk.length l j=0) (λj=>[(1,.slice A l.length c),(2,vi 0),(5,vi j)]) (λj=>[(2,b.cs)]) ⟨rfl,rfl⟩ V V ?_;rintro j _ C ⟨rfl,r⟩;refine OJ (λt=>?_) (λt=>?_)
 ·have d:j<l.length:=O;have w:l.getD j 0=l[j]:=ZD d _;have e:VB b.pk.length l (j+1)=(if ¬ (0<=l[j]/\l[j]<b.pk.length)then 6 else if(l.take j).any (λz=>l[j] == z)then 5 else 0):=by rw[VB,aT (by rw[r];simp),w]
  rw[JD]at e;have stop:VB b.pk.length l (j+1)≠0->Yq b l=VB b.pk.length l (j+1):=λh=>by rw[Yq,aT O,PZ h _ O]
  refine Y ?_;refine Zz j o d λa n=>Y ?_;refine Ya n (Y ?_);refine Za [b.v,vi l[j]] (y6 _ y) ?_;rintro v _ ⟨rfl,rfl⟩;refine OJ (λu=>?_) (λu=>?_)
  ·have q:=e.trans (iF O);refine Y ?_;exact⟨rfl,by rw[stop (by rw[q];decide),q];rfl⟩
  have f:=e.trans (aT O);refine Y ?_;refine IE (lo:=0) (hi:=j) (k:=.i64) (bI dW) (cD t3) rfl (.inl ⟨rfl,rfl⟩) ⟨_,rfl,rfl⟩ O O ?_;rw[PY,qBI,qBI];refine Y ?_;refine Zz j o d λa n=>Y ?_;refine Ya n (Y ?_);have x:(l.take j).length=j:=by rw[qAj];omega
  refine Za [.slice A j c,vi l[j]] (gW (P0 o O) O) ?_;rintro v _ ⟨rfl,rfl⟩;cases hag:decide (l[j]∈l.take j)with
  | true=>
   rw[hag]at f;refine Y ?_;exact⟨rfl,by rw[stop (by rw[f];decide),f];rfl⟩
  | false=>
   rw[hag]at f;refine Y ?_;exact⟨⟨j+1,O⟩,bN O,⟨rfl,f⟩,V,V,rfl⟩
 have:j=l.length:=O;subst this;refine Y ?_;exact⟨rfl,by rw[Yq,aT O,r];rfl⟩
def mJ{l:List Int}{i:Nat}(a:i<l.length)(d:l.length<=4):(Ys l).get i=l[i]:=by rw[fJ O,ZD a]
theorem JA{u w:Value}{d:List Int}(B:aF H u lt)(r:aF H w d)(y:lt.length<=4)(s:∀z∈d,0<=z/\z<lt.length)(o:Yp (Ys lt))(D:d.length<=1000000) :
  LL.Zc P 135 #[u,w] H λv g=>H=g/\v=vi (UG (Ys lt) d):=by
 obtain⟨A,c,rfl,_⟩:=id r;refine aJ.m (bG ES) (args:=[u,.slice A d.length c]) rfl ?_;unfold mI;refine Y ?_;refine Zv d.length (λj g=>H=g) (λj=>[(0,u),(1,.slice A d.length c),(5,vi (UG (Ys lt) (d.take j))),(6,vi j)]) (λj=>[]) rfl V trivial ?_;rintro j _ C rfl;refine OJ (λx=>?_) (λx=>?_)
 ·have f:j<d.length:=O;have t:=s _ (bY f);have k:=ID (Ys lt) f;have E:=z6 (n:=4) o (l:=d) (λz t=>by have:=s z t;omega) j O;have F:=o d[j].toNat O;have q:d[j].toNat<lt.length:=O;have e:lt[d[j].toNat]=(Ys lt).get d[j].toNat:=(mJ q y).symm;refine Y ?_;refine Zz j r f λa h=>Y ?_;refine Ya h (Y ?_);refine pN (i:=d[j].toNat) B rfl (by show some (vi d[j])=some (vi ((d[j].toNat:Nat):Int));congr 2;omega) rfl q λa h=>?_;rw[e]at h;refine Y ?_;refine Ya h (Y ?_);exact dM (I:=λj g=>H=g) (env:=λj=>[(0,u),(1,.slice A d.length c),(5,vi (UG (Ys lt) (d.take j))),(6,vi j)]) (box:=λ_=>[]) f rfl ⟨rfl,rfl,by rw[k];rfl,rfl,trivial⟩ trivial rfl
 have:j=d.length:=O;subst this;rw[IF];refine Y ?_;exact⟨rfl,rfl⟩
end
def y4{b:Sb}(h:Zi b≠[]):jW b p=1↔eR b (Zi b) p=true:=by rw[jW,aT h,iA,gD h,eR,IN]
def pH{b:Sb}{i:Nat}:z∈iM b i↔∃t∈Zi b,t.get i=z:=by rw[iM,Oh,(nK (KR _) _ (dO _)).2.1,IF,(CC _).mem_iff,pV]
def gH{b:Sb}{t:N4}(h:t∈Zi b):Zi b≠[]:=λe=>by rw[e]at h;simp at h
def rD{b:Sb}{t:N4}(h:t∈Zi b)(p:List Int):jR b p<=(Yg b t p).2/\(Yg b t p).2<=jL b p:=by have a:=gH h;rw[jR,jL,aT a,aT a];exact⟨(kM a).1 t h,(kL a).1 t h⟩
def sK{b:Sb}{t:N4}(h:t∈Zi b)(p:List Int){i:Nat}(d:i<4):(D2 b p i=1->(i:Int)∈gM b t p)/\(D2 b p i=2->(i:Int) ∉ gM b t p):=by
 have a:=gH h;have e:(i:Int)∈gM b t p↔(Yg b t p).1.get i=true:=by rw[iX];exact⟨λ⟨j,f,e,g⟩=>by(obtain rfl:i=j:=by omega);exact g,λg=>⟨i,d,rfl,g⟩⟩
 rw[D2,aT a,pU _ _ _ d,e,gD a,kT];exact⟨λg=>g t h,λg=>by rw[g t h];decide⟩
def sJ{b:Sb}{t:N4}(h:t∈Zi b)(p:List Int):(jW b p=1->gM b t p=[]/\(Yg b t p).2<=b.td)/\(jW b p=2->¬ (gM b t p=[]/\(Yg b t p).2<=b.td)):=by
 have a:=gH h;have e:(gM b t p=[]/\(Yg b t p).2<=b.td)↔gd b p t=true:=by rw[nL,gd,nT,qAc,qAy]
 rw[jW,aT a,iA,e,gD a,kT];exact⟨λg=>g t h,λg=>by rw[g t h];decide⟩
def sI{b:Sb}(ok:bA b)(h:fF b≠0):nR b≠0/\(nR b:Int)<=b.hd:=by obtain⟨a,d⟩:=fT.1 h;have:=yV ok d;rw[nR,aT a];omega
structure nV(b:Sb)(t:N4):Prop where
 aGr:g0 b∈ZB b.pk.length
 cold:gM b t (g0 b)=[]
 aFS:(Yg b t (g0 b)).2<=b.td
 lo:eV b<=(Yg b t (g0 b)).2
 hi:(Yg b t (g0 b)).2<=eI b
 aI9:∀p∈ZB b.pk.length,jW b p=1->eI b<=jL b p
def sL{b:Sb}{t:N4}(e:t∈Zi b)(h:fF b≠0):nV b t:=by obtain⟨a,i⟩:=fT.1 h;obtain⟨m,_,_,k,l,_⟩:=k8 a i;have d:g0 b=Yu b (Zi b):=aT h;have j:eV b=(cG b (Zi b) (Yu b (Zi b))).lo:=aT h;have f:eI b=(cG b (Zi b) (Yu b (Zi b))).hi:=aT h;have g:=IN.1 l t e;rw[gd,nT,qAc,qAy]at g;refine⟨by rw[d];exact k,by rw[d];exact nL.2 g.1,by rw[d];exact g.2,by rw[d,j];exact(kM a).1 t e,by rw[d,f];exact(kL a).1 t e,λp o n=>?_⟩;rw[f,jL,aT a];exact rG a i o ((y4 a).1 n)
section
variable{P:aX}[Tz P][Loud P]{H:Hp}
def sH(b:Sb)(l:List fI)(j:Nat):cH b l (j+1)=cH b l j++[(aD b j).lo+(cZ l j).tmod ((aD b j).hi-(aD b j).lo+1)]:=sS
def rE{b:Sb}{l:List fI}(ok:bA b)(hb:Zr H b)(F:aF H lv l):LL.Zc P 44 #[b.v,lv] H λv f=>aL H f/\∃A c,v=.slice A (cH b l b.pk.length).length c/\(cH b l b.pk.length).length<=c/\aF f (.slice A (cH b l b.pk.length).length c) (cH b l b.pk.length):=by
 have R:=ok.n;refine aJ.m (bG JK) (args:=[b.v,lv]) rfl ?_;unfold lT Sb.v;refine Y ?_;refine ZO (α:=Value×Option Nat) b.pk.length (λj s f=>aL H f/\dD H f 3 s.1 (cH b l j) s.2) (λj s=>[(1,lv),(2,vi 0),(4,.slice none 0 0),(5,s.1),(6,vi j)]) (λ_ _=>[(2,b.cs)]) (.slice none 0 0,none) ⟨.refl _,.nil _ _ _⟩ V V ?_;rintro j ⟨W,M⟩ K Q ⟨k,q⟩;simp only at q;have G:=fU b l j;refine OJ (λE=>?_) (λE=>?_)
 ·have e:j<b.pk.length:=O;obtain⟨N,_⟩:=gO ok e;have row:Enc.enc b.pk[j]=[.string (aD b j).nm,vi (aD b j).lo,vi (aD b j).hi,vi (aD b j).bF,vi (aD b j).bJ]:=by rw[show b.pk[j]=aD b j from(ZD e _).symm];rfl
  have t:=sH b l j;refine Y ?_;refine Zz j (hb.pk.inc k) e λa u=>?_;rw[row]at u;refine Y ?_;refine Zn (cs:=[vi (aD b j).lo,vi (aD b j).hi]) (OL _) rfl (YN (ds:=[vi (aD b j).bF,vi (aD b j).bJ]) (eY (n:=1) u rfl)) rfl (Y ?_);refine Za [lv,vi j] (JR (F.inc k)) ?_;rintro v _ ⟨rfl,rfl⟩;refine Y ?_;refine Za [.agg #[vi (aD b j).lo,vi (aD b j).hi],vi (cZ l j)] (I5 O (nJ l j).1) ?_;rintro v _ ⟨rfl,rfl⟩;generalize(aD b j).lo+(cZ l j).tmod ((aD b j).hi-(aD b j).lo+1)=x at *;refine Y ?_;refine ZY (cs:=[vi x]) (OL _) rfl λU h=>?_;refine Zp OL (Y ?_);refine U7 (l':=[x]) (bI dW) (bI dW) (cD t3) rfl (by decide) (k.trans (Zs h)) (q.ins h) qY rfl (by simp only[qAA];omega) O rfl rfl (OL _) λJ L B k1 w S=>?_;rw[<-t]at w;refine Y ?_;exact⟨(⟨j+1,O⟩,(J,B)),bN O,⟨k1,w⟩,V,V,rfl⟩
 have:j=b.pk.length:=O;subst this;obtain⟨y,C,rfl,I⟩:=jF q;refine Y ?_;exact⟨k,y,C,rfl,I,q.sl⟩
end
def pW{b:Sb}(ok:bA b)(i:Nat):(iM b i).length<=1000000:=by
 have a:=nW (lD (Vj b i)) (lD (Vj b i)).length;have d:(lD (Vj b i)).length=(Zi b).length:=by rw[(CC _).length_eq,Vj,qAh]
 have e:=UI ok;show(Z8 (lD (Vj b i)) (lD (Vj b i)).length).length<=1000000;omega
theorem pO{b:Sb}{t:N4}{j:Nat}(a:j<b.nt.length):(b.nt.take (j+1)).map (dP t)=(b.nt.take j).map (dP t)++[dP t b.nt[j]]:=by rw[iN a,qBL];rfl
section
variable{P:aX}[Tz P][Loud P]{H:Hp}
def iZ{s:Int}{p:Bool}(g:s=1->p=true)(h:s=2->p=false):LL.Zc P 78 #[vi s,vb p] H λv f=>H=f/\v=vb true:=by
 refine aJ.m (bG JO) (args:=[vi s,vb p]) rfl ?_;unfold mG;by_cases a:s=1
 ·obtain rfl:=a;obtain rfl:=g rfl;refine Y ?_;exact⟨rfl,rfl⟩
 by_cases d:s=2
 ·obtain rfl:=d;obtain rfl:=h rfl;refine Y ?_;exact⟨rfl,rfl⟩
 refine OJ (λk1=>?_) (λk1=>?_);rotate_left
 ·exact absurd k1 (by simpa using a)
 refine OJ (λe=>?_) (λe=>?_);rotate_left
 ·exact absurd e (by simpa using d)
 refine Y ?_;exact⟨rfl,rfl⟩
theorem JC{b:Sb}{T:List Int}(ok:bA b)(hb:Zr H b)(G:aF H (.slice At T.length ct) T)(C:T.length=b.pk.length)(D:Yp (Ys T)) :
  LL.Zc P 77 #[b.v,.slice At T.length ct] H λv g=>aL H g/\∃A c,v=(bK b (Ys T) A c).v/\Zr g (bK b (Ys T) A c):=by
 have K:=ok.n;have L:=ok.nn;refine aJ.m (bG JN) (args:=[b.v,.slice At T.length ct]) rfl ?_;unfold mF Sb.v;refine Y ?_;refine ZO (α:=(Option Addr×Nat)×Option Nat) b.nt.length (λj s g=>aL H g/\dD H g 85 (.slice s.1.1 ((b.nt.take j).map (dP (Ys T))).length s.1.2) ((b.nt.take j).map (dP (Ys T))) s.2)
  (λj s=>[(1,.slice At T.length ct),(2,vi 0),(4,vi 0),(5,vi 0),(6,vi j)])
  (λj s=>[(2,b.cs),(4,[vi 0,vi 0,vi 0,.slice none 0 0,.slice none 0 0]),(5,[vi b.pl,vi b.hd,vi b.td,.slice b.A1 b.pk.length b.c1,.slice s.1.1 ((b.nt.take j).map (dP (Ys T))).length s.1.2])])
  ((none,0),none) ⟨.refl H,.nil H H 85⟩ V V ?_
 rintro j ⟨⟨E,F⟩,Z⟩ W hj ⟨f,i⟩;simp only at i;refine OJ (λC=>?_) (λC=>?_)
 ·have e:j<b.nt.length:=O;obtain⟨g1,r,g3⟩:=ok.nt _ (bY e);have g4:=uD r;have g5:=nI K.2 r D;have u:=pO (t:=Ys T) e;have J:((b.nt.take j).map (dP (Ys T))).length<=j:=by rw[qAh,qAj];omega
  refine Y ?_;refine Zz j (hb.nt.inc f) e λa I=>Y ?_;refine YA (cs:=[.slice b.nt[j].A b.nt[j].ps.length b.nt[j].c,vi b.nt[j].lo,vi b.nt[j].hi]) I (Y ?_);refine Za [.slice At T.length ct,.slice b.nt[j].A b.nt[j].ps.length b.nt[j].c] (JA (G.inc f) ((hb.ps _ (bY e)).inc f) O (λz Q=>by have:=r.2 z Q;omega) D O) ?_;rintro v _ ⟨rfl,rfl⟩;refine Y ?_;refine z5 rfl rfl (Y ?_);refine q8 rfl rfl (Y ?_);refine Za [vi (min (UG (Ys T) b.nt[j].ps) b.nt[j].lo),vi (max (UG (Ys T) b.nt[j].ps) b.nt[j].hi)] (IM _ _) ?_;rintro v _ ⟨rfl,rfl⟩;refine Y ?_;refine ZY (cs:=[.slice b.nt[j].A b.nt[j].ps.length b.nt[j].c,vi (min (UG (Ys T) b.nt[j].ps) b.nt[j].lo),vi (max (UG (Ys T) b.nt[j].ps) b.nt[j].hi)]) (OL _) rfl λr2 h=>Y ?_;refine U7 (l':=[dP (Ys T) b.nt[j]]) (bI qO) (bI qO) (cD C4) rfl (by decide) (f.trans (Zs h)) (i.ins h) (Z0 (l:=[dP (Ys T) b.nt[j]])) rfl (by simp only[qAA];omega) O rfl rfl (OL _) λU X o R w k6=>?_;rw[<-u]at w;obtain⟨k,q,rfl,_⟩:=id w.sl;refine Y ?_;exact⟨(⟨j+1,O⟩,((k,q),o)),bN O,⟨R,w⟩,V,V,rfl⟩
 have:j=b.nt.length:=O;subst this;rw[IF]at i ⊢;obtain⟨_,_,B,S⟩:=jF i;simp only[Value.slice.injEq]at B;obtain⟨_,_,rfl⟩:=B;refine Y ?_;refine⟨f,E,F,rfl,hb.pk.inc f,i.sl,λx M=>?_,hb.q1,S⟩;obtain⟨y,N,rfl⟩:=qAB.1 M;exact(hb.ps _ N).inc f
theorem qJ(r:P=PP){b:Sb}{l:List fI}{m k:Int}(hb:Zr H b)(lG:aF H lv l)(hm:0<=m/\m<256)(hk:0<=k/\k<256)(hg:Yk H)(R:aC H ⟨1,0,none⟩ [vf 284]) :
  lS.m P (tJ P kY λv _=>v=vb true) (Vv [b.v,lv,.int .u8 m,.int .u8 k]) H:=by
 unfold lS Sb.v;refine Y ?_;refine Za [b.v] (sN hb) ?_;rintro v _ ⟨rfl,g,rfl,yI⟩;cases g with
 | false=>
  refine Y ?_;refine Za [] (bB r hg R) ?_;rintro v H1 ⟨_,rfl⟩;refine Y ?_;rfl
 | true=>
 have ok:=yI rfl;refine Y ?_;refine Za [b.v,lv] (rE ok hb lG) ?_;rintro v H1 ⟨i1,At,ct,rfl,Ga,M⟩;have K:=fU b l b.pk.length;have t2:=sU ok l;have tsp:=sV ok l;have ht:=uE t2;generalize cH b l b.pk.length=T at *;refine Y ?_;refine Za [b.v,.slice At T.length ct] (JC ok (hb.inc i1) M K ht) ?_;rintro _ H2 ⟨j2,s,c2,rfl,f⟩;have i2:=i1.trans j2;have d:=pY ok ht s c2;have X:=pX ok tsp s c2;replace K:T.length=(bK b (Ys T) s c2).pk.length:=K;rw[show(bK b (Ys T) s c2).v=.agg #[vi (bK b (Ys T) s c2).pl,vi (bK b (Ys T) s c2).hd,vi (bK b (Ys T) s c2).td,.slice (bK b (Ys T) s c2).A1 (bK b (Ys T) s c2).pk.length (bK b (Ys T) s c2).c1,.slice (bK b (Ys T) s c2).A2 (bK b (Ys T) s c2).nt.length (bK b (Ys T) s c2).c2]from rfl];generalize bK b (Ys T) s c2=o at *;have hn:=d.n;have j:Yk H2:=aC.inc hg i2;have e:=aC.inc R i2;replace M:=M.inc j2;clear hg R hb i1 j2 i2;refine Y ?_;refine Vs (bI Tryz.underlying5) (bI Tryz.underlying3) rfl ?_;rw[Uk (show pZ k from⟨O,O⟩)];refine Y ?_;refine iJ rfl rfl O ?_;obtain⟨i,hi,ei⟩:=kO (n:=o.pk.length) hk.1 O;rw[ei];refine Y ?_;refine Za [o.v,.int .u8 m] (I6 hn hm) ?_;rintro v H3 ⟨i3,A,c,p,BH,rfl,hc,hl⟩;have hp:=lL hn BH;refine Zp OL (Y ?_);refine Za [o.v,.slice At T.length ct] (JZ d K t2 (M.inc i3) (f.inc i3) (aC.inc j i3)) ?_;rintro v H4 ⟨j4,rfl⟩;have i4:=i3.trans j4;rw[show fG o T=true from(JF d K).2 X];refine Y ?_;refine Za [o.v] (JP d (f.inc i4) (aC.inc j i4)) ?_;rintro v H5 ⟨j5,rfl⟩;have i5:=i4.trans j5;refine Y ?_;refine Za [o.v] (JS d (f.inc i5) (aC.inc j i5)) ?_;rintro v H6 ⟨j6,Ac,cc,rfl,_,_⟩;have i6:=i5.trans j6;have S:=gH X;rw[show HV o=[]from aT S];refine Y ?_;refine Za [o.v,vi i] (JB d hi (f.inc i6) (aC.inc j i6)) ?_;rintro v H7 ⟨j7,Ax,cx,rfl,hx⟩;have i7:=i6.trans j7;have NH:=hl.inc ((((j4.trans j5).trans j6).trans j7));refine Y ?_;refine Za [o.v,.slice A p.length c] (JU d hp NH hc (f.inc i7) (aC.inc j i7) (aC.inc e i7)) ?_;rintro v H8 ⟨j8,rfl⟩;have i8:=i7.trans j8;have Rs:=NH.inc j8;refine Y ?_;refine Za [o.v,.slice At T.length ct,.slice A p.length c] (nH d K t2 hp (M.inc i8) Rs hc (f.inc i8) (aC.inc j i8) (aC.inc e i8)) ?_;rintro v H9 ⟨j9,rfl⟩;have i9:=i8.trans j9;have Rr:=Rs.inc j9;refine Y ?_;refine Za [o.v,.slice At T.length ct,.slice A p.length c] (nU d K t2 hp (M.inc i9) Rr hc (f.inc i9) (aC.inc j i9) (aC.inc e i9)) ?_;rintro v J0 ⟨U,Ad,cd,rfl,wT⟩;have y:=i9.trans U;have L:=Rr.inc U;refine Y ?_;refine Za [o.v,.slice A p.length c,vi i] (JX d hi hp L hc (f.inc y) (aC.inc j y) (aC.inc e y)) ?_;rintro v L7 ⟨G,rfl⟩;have B:=y.trans G;have Fe:=L.inc G;refine Y ?_;refine Za [o.v,.slice A p.length c] (JW d hp Fe hc (f.inc B) (aC.inc j B) (aC.inc e B)) ?_;rintro v L6 ⟨V,rfl⟩;have C:=B.trans V;refine Y ?_;refine Za [o.v] (I9 r d (f.inc C) (aC.inc j C) (aC.inc e C)) ?_;rintro v Nr ⟨W,As,cs,rfl,Q,Qv⟩;have BA:=C.trans W;refine Y ?_;refine Za [o.v] (I8 r d (f.inc BA) (aC.inc j BA) (aC.inc e BA)) ?_;rintro v Np ⟨I,rfl⟩;have D:=BA.trans I;refine Y ?_;refine Za [o.v] (JV r d (f.inc D) (aC.inc j D) (aC.inc e D)) ?_;rintro v No ⟨J,rfl⟩;have E:=D.trans J;have t:Yk No:=aC.inc j E;have q:=aC.inc e E;have zX:=f.inc E;have N:=M.inc E;have hx3:=hx.inc ((((((((j8.trans j9).trans U).trans G).trans V).trans W).trans I).trans J));have Ge:=wT.inc ((((G.trans V).trans W).trans I).trans J);have u:=Qv.inc (I.trans J);rw[jU S];have vJ:=qAX.2 S;have r1:=rD X p;have r2:=sK X p (i:=i) O;have r3:=sJ X p;have KB:i<T.length:=O;have GZ:T[i]∈iM o i:=pH.2 ⟨_,X,mJ KB O⟩;have vI:=pW d i;have cdl:(gM o (Ys T) p).length<=1000000:=qAz (B9 _ _) (by decide);refine OJ (λk1=>?_) (λk1=>?_)
 ·exact absurd k1 O
 refine Y ?_;refine Zz i N KB λa ha=>Y ?_;refine Ya ha (Y ?_);refine Za [.slice Ax (iM o i).length cx,vi T[i]] (gW hx3 vI) ?_;rintro v _ ⟨rfl,rfl⟩;rw[decide_eq_true GZ];refine Y ?_;refine Za [vi (Yg o (Ys T) p).2,vi (jR o p),vi (jL o p)] (pF _ _ _) ?_;rintro v _ ⟨rfl,rfl⟩;rw[decide_eq_true r1];refine Y ?_;refine Za [.slice Ad (gM o (Ys T) p).length cd,vi i] (gW Ge cdl) ?_;rintro v _ ⟨rfl,rfl⟩;refine Y ?_;refine Za [vi (D2 o p i),vb (decide ((i:Int)∈gM o (Ys T) p))] (iZ (λg=>decide_eq_true (r2.1 g)) λg=>qAo (r2.2 g)) ?_;rintro v _ ⟨rfl,rfl⟩;have hfe:fF o≠0->nR o≠0/\(nR o:Int)<=o.hd:=sI d;have Eb:fF o≠0->nV o (Ys T):=sL X;have hz0:fF o=0->g0 o=[]:=λh=>iF h;refine OJ (λk2=>?_) (λk2=>?_);rotate_left;refine Y ?_;refine Za [vi (jW o p),vb false] (iZ (λg=>absurd (by rw[(r3.1 g).1];rfl) k2) λ_=>rfl) ?_;rotate_left;refine Y ?_;refine Za [vi (jW o p),vb (decide ((Yg o (Ys T) p).2<=o.td))] (iZ (λg=>decide_eq_true (r3.1 g).2) λg=>qAo λh=>r3.2 g ⟨qAt.1 O,h⟩) ?_;all_goals
  rintro v _ ⟨rfl,rfl⟩
  clear k2
  by_cases Z:fF o=0
  ·rw[qAo (show ¬ fF o≠0 from λx=>x Z),Z,hz0 Z];refine Y ?_;refine lM rfl rfl (Y ?_);by_cases he:nR o=0
   ·rw[qAo (show ¬ nR o≠0 from λx=>x he)];refine Y ?_;refine Za [] (bB r t q) ?_;rintro v Nn ⟨_,rfl⟩;refine Y ?_;rfl
   rw[decide_eq_true he];refine Y ?_;refine Za [] (bB r t q) ?_;rintro v Nn ⟨_,rfl⟩;refine Y ?_;rfl
  ·obtain⟨f1,f2⟩:=hfe Z;obtain⟨q1,q2,q3,q4,q5,q6⟩:=Eb Z;have q6:=q6 p BH;have w:=lL hn q1;rw[decide_eq_true (show fF o≠0 from Z),decide_eq_true (show nR o≠0 from f1)];refine Y ?_;refine lM rfl rfl ?_;rw[decide_eq_true (show((fF o:Nat):Int) > 0 by omega)];refine OJ (λk3=>?_) (λk3=>?_)
   ·exact absurd k3 O
   refine Y ?_;refine Za [o.v,.slice As (g0 o).length cs] (JQ u Q (by have:=w.len;omega) O) ?_;rintro v _ ⟨rfl,rfl⟩;rw[gG w];refine Y ?_;refine Za [o.v,.slice At T.length ct,.slice As (g0 o).length cs] (nH d K t2 w N u Q zX t q) ?_;rintro v Nn ⟨i16,rfl⟩;refine Y ?_;refine Za [o.v,.slice At T.length ct,.slice As (g0 o).length cs] (nU d K t2 w (N.inc i16) (u.inc i16) Q (zX.inc i16) (aC.inc t i16) (aC.inc q i16)) ?_;rintro v H17 ⟨F,Az,cz,rfl,_⟩;rw[q2];refine OJ (λk4=>?_) (λk4=>?_);rotate_left
   ·exact absurd q3 k4
   refine Y ?_;refine Za [vi (Yg o (Ys T) (g0 o)).2,vi (eV o),vi (eI o)] (pF _ _ _) ?_;rintro v _ ⟨rfl,rfl⟩;rw[decide_eq_true (show eV o<=(Yg o (Ys T) (g0 o)).2/\(Yg o (Ys T) (g0 o)).2<=eI o from⟨q4,q5⟩)];refine OJ (λk5=>?_) (λk5=>?_)
   ·refine Y ?_;refine Za [] (bB r (aC.inc t (i16.trans F)) (aC.inc q (i16.trans F))) ?_;rintro v H18 ⟨_,rfl⟩;refine Y ?_;rfl
   refine OJ (λk6=>?_) (λk6=>?_);rotate_left
   ·exact absurd (q6 (by simpa using k5)) k6
   refine Y ?_;refine Za [] (bB r (aC.inc t (i16.trans F)) (aC.inc q (i16.trans F))) ?_;rintro v H18 ⟨_,rfl⟩;refine Y ?_;rfl
end
