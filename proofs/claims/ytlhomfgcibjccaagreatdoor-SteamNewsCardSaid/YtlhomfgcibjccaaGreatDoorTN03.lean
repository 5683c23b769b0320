import Derived.Test.YtlhomfgcibjccaaGreatDoorTN02
set_option linter.all false
set_option maxHeartbeats 8000000
set_option maxRecDepth 20000
open Go Go.LL
namespace Go.Proofs
variable{x:Nt}{lo hi:Int}
def kP{G:Prop} (h:G:=by refine Y ?_;exact⟨.refl _,dP,by rw[e];rfl,gB _,by rw[eR,e,aT (by decide)];exact .refl _⟩):G:=h
section
variable{P:aX}[Tz P][Loud P]{H:Hp}
def pR{b:Sb}(hb:Zr H b)(k:b.Sz):LL.Zc P 124 #[b.v] H λv i=>aL H i/\((Vh b≠0/\v=.tuple #[dP.v,vi (Vh b)])\/(Vh b=0/\v=.tuple #[b.v,vi 0])):=by
 refine aJ.m (bG JZ) (args:=[b.v]) rfl ?_;unfold lS Sb.v;refine Y ?_;refine Za [b.v] (cF hb k) ?_;rintro v _ ⟨rfl,rfl⟩;refine OJ (λa=>?_) (λa=>?_)
 ·have e:Vh b=ZF b:=iF a;refine Y ?_;exact⟨.refl _,.inl ⟨by rw[e];exact a,by rw[e];rfl⟩⟩
 have a:ZF b=0:=by simpa using a
 have ok:=Ow a;refine Y ?_;refine Za [b.v] (jG hb ok) ?_;rintro v l ⟨h,A,c,n,rfl,s1,j⟩;have g:=j.len;rw[iX ok,qAh]at g;refine OJ (λf=>?_) (λf=>?_)
 ·have d:Zi b=[]:=qAt.1 O;have e:Vh b=9:=by rw[Vh,a,aT (by decide),iF (by rw[Vl,d];rfl)]
  refine Y ?_;exact⟨h,.inl ⟨by rw[e];decide,by rw[e];rfl⟩⟩
 have d:Zi b≠[]:=λe=>f (by rw[g,e];rfl);have e:Vh b=0:=by rw[RQ ok,pT d]
 refine Y ?_;exact⟨h,.inr ⟨e,rfl⟩⟩
def RK{b:Sb}(hb:Zr H b)(g:b.Sz)(q:aF H (.slice x.A x.ps.length x.c) x.ps)(i:x.ps.length<=1000000)(p:b.nt.length<=20) :
  LL.Zc P 64 #[b.v,vR x] H λv k=>aL H k/\∃c:Sb,v=.tuple #[c.v,vi (eI b x)]/\Zr k c/\dG (fH b x) c:=by
 refine aJ.m (bG JS) (args:=[b.v,vR x]) rfl ?_;unfold mQ Sb.v;refine Y ?_;refine Za [b.v] (cF hb g) ?_;rintro v _ ⟨rfl,rfl⟩;refine OJ (λa=>?_) (λa=>?_)
 ·have e:eI b x=ZF b:=iF a;refine Y ?_;exact⟨.refl _,dP,by rw[e];rfl,gB _,by rw[fH,e,aT a];exact .refl _⟩
 have a:ZF b=0:=by simpa using a
 have e:eI b x=Vh (eK b x):=by rw[eI,a,aT (by decide)]
 refine Y ?_;refine Za [b.v,vR x] (T1 hb g.nt q) ?_;rintro _ r ⟨n,A,c,rfl,d⟩;have o:Vh (C3 b x A c)=eI b x:=by rw[e];exact PO ⟨rfl,rfl,rfl⟩ rfl rfl
 refine Y ?_;refine Za [(C3 b x A c).v] (pR d ⟨g.pk,by show(b.nt++[x]).length<=_;rw[BY];exact qAz (Nat.add_le_add_right p 1) (by decide),λy f=>by
  rcases qAi.1 f with f | f
  ·exact g.ps y f
  rw[oR.1 f];exact i,g.nm⟩) ?_
 rintro v s ⟨j,l⟩;rw[o]at l;rcases l with⟨h,rfl⟩ | ⟨h,rfl⟩
 ·refine Y ?_;exact⟨n.trans j,dP,rfl,gB _,by rw[fH,aT h];exact .refl _⟩
 refine Y ?_;exact⟨n.trans j,C3 b x A c,by rw[h];rfl,d.inc j,by rw[fH,iF h];exact⟨rfl,rfl,rfl,rfl,rfl,λ_ _ _=>⟨rfl,rfl,rfl⟩⟩⟩
def RP{b:Sb}{n:Int}(hb:Zr H b)(s:b.Sz) :
  LL.Zc P 65 #[b.v,vi n,.agg #[vi lo,vi hi]] H λv t=>aL H t/\∃c:Sb,v=.tuple #[c.v,vi (Vk b n lo hi)]/\Zr t c/\dG (eR b n lo hi) c:=by
 refine aJ.m (bG JU) (args:=[b.v,vi n,.agg #[vi lo,vi hi]]) rfl ?_;unfold mR Sb.v;refine Y ?_;refine Za [b.v] (cF hb s) ?_;rintro v _ ⟨rfl,rfl⟩;refine OJ (λf=>?_) (λf=>?_)
 ·have e:Vk b n lo hi=ZF b:=iF f;refine Y ?_;exact⟨.refl _,dP,by rw[e];rfl,gB _,by rw[eR,e,aT f];exact .refl _⟩
 have f:ZF b=0:=by simpa using f
 have ok:=Ow f;refine Y ?_;refine Za [b.v,vi n] (ES _ s.1) ?_;rintro v _ ⟨rfl,rfl⟩;refine OJ (λo=>?_) (λo=>?_)
 ·have e:Vk b n lo hi=6:=by rw[Vk,f,aT (by decide),Yz,aT o,iF (by decide)]
  exact kP
 have u:Yz b n=0:=iF o;obtain⟨i,rfl⟩:=qBr o.1;have d:i<b.pk.length:=O;have row:=kF d;have B:=iA ok d;refine Y ?_;refine Za [.agg #[vi lo,vi hi],vi 1,vi 20] (Ig _ _ _ _) ?_;rintro v _ ⟨rfl,rfl⟩;refine OJ (λp=>?_) (λp=>?_)
 ·have e:Vk b i lo hi=1:=by rw[Vk,f,aT (by decide),u,aT (by decide),iF p]
  exact kP
 have l:Vk b i lo hi=if min (aD b i).hi hi<max (aD b i).lo lo then 9 else Vh (Vz b i (max (aD b i).lo lo) (min (aD b i).hi hi)):=by rw[Vk,f,aT (by decide),u,aT (by decide),aT (λh=>h p),qAD]
 refine Y ?_;refine Zz i hb.pk d λa w=>?_;rw[row]at w;refine Y ?_;refine Zn (cs:=[vi (aD b i).lo,vi (aD b i).hi]) (OL _) rfl (YN (ds:=[vi (aD b i).bF,vi (aD b i).bJ]) (eY (n:=1) w rfl)) rfl (Y ?_);refine Za [.agg #[vi (aD b i).lo,vi (aD b i).hi],.agg #[vi lo,vi hi]] (Ni _ _ _ _) ?_;rintro v _ ⟨rfl,rfl⟩;refine Zp OL ?_;refine OJ (λq=>?_) (λq=>?_)
 ·have e:Vk b i lo hi=9:=by rw[l,iF q]
  exact kP
 have l:=l.trans (aT q);have D:eR b i lo hi=if Vk b i lo hi=0 then Vz b i (max (aD b i).lo lo) (min (aD b i).hi hi)else dP:=by rw[eR,qAD]
 rw[D];generalize F:max (aD b i).lo lo=j at *;generalize E:min (aD b i).hi hi=g at *;refine Y ?_;refine Za [b.v,vi i,.agg #[vi j,vi g]] (sP hb d s.1) ?_;rintro _ G ⟨z,A,c,rfl,k⟩;have C:Vh (gH b i j g A c)=Vk b i lo hi:=by rw[l];exact PO ⟨rfl,rfl,rfl⟩ rfl rfl
 refine Y ?_;refine Za [(gH b i j g A c).v] (pR k (pP ok A c d O O O).sz') ?_;rintro v I ⟨r,y⟩;rw[C]at y;rcases y with⟨h,rfl⟩ | ⟨h,rfl⟩
 ·refine Y ?_;exact⟨z.trans r,dP,rfl,gB _,by rw[aT h];exact .refl _⟩
 refine Y ?_;exact⟨z.trans r,gH b i j g A c,by rw[h];rfl,k.inc r,by rw[iF h];exact⟨rfl,rfl,rfl,rfl,rfl,λ_ _ _=>⟨rfl,rfl,rfl⟩⟩⟩
def Nh{b:Sb}{A:Option Addr}{c p:Nat}{f:List bW}{a:List N4}(ok:bA b)(s1:aF H (.slice A f.length c) f)(C:cX H f (a.map (tL b.pk.length)))(z:∀t∈a,t∈Zi b)(D:a≠[])(G:a.length<=81)(B:p<b.pk.length) :
  LL.Zc P 122 #[.slice A f.length c,vi p] H λv H'=>H=H'/\v=vi (xA p a):=by
 have N:=ok.n;have i:p<4:=O;have y:=C.len;rw[qAh]at y;have R:=kS i a;refine aJ.m (bG JY) (args:=[.slice A f.length c,vi p]) rfl ?_;unfold mD;have at_:∀k (o:k<f.length),∃g:k<a.length,∃q1:aF H (dN f[k]) (tL b.pk.length a[k]),∃q2:p<(tL b.pk.length a[k]).length,(tL b.pk.length a[k])[p]=a[k].get p:=λk o=>by obtain⟨g,q1,q2,_,_⟩:=R2 ok C z o;exact⟨g,q1,by rw[q2];exact B,by rw[<-ZD _ 0,iZ B N.2]⟩
 refine Y ?_;refine ZO (α:=Int) f.length (λj m H'=>H=H'/\0<=m/\m<=xA p a/\∀k (o:k<a.length),k<j->bK p a (a[k].get p)<=m) (λj m=>[(0,.slice A f.length c),(1,vi p),(5,vi m),(6,vi j)]) (λ_ _=>[]) 0 ⟨rfl,qAx 0,(qM i a).1,λk _ h=>absurd h (qBm _)⟩ V trivial ?_;rintro j m _ hj ⟨rfl,L,M,r⟩;refine OJ (λE=>?_) (λE=>?_)
 ·have g9:j<f.length:=O;obtain⟨K,Z,y2,y3⟩:=at_ j g9;refine Y ?_;refine Zv f.length (λk H'=>H=H') (λk=>[(0,.slice A f.length c),(1,vi p),(5,vi m),(6,vi j),(7,vi (bK p (a.take k) (a[j].get p))),(8,vi k)]) (λ_=>[]) rfl V trivial ?_;rintro k _ o rfl;have I:0<=bK p (a.take k) (a[j].get p)/\bK p (a.take k) (a[j].get p)<=81:=by have:=JD (λt=>decide (t.get p=a[j].get p)) a k;unfold bK;omega
  refine OJ (λF=>?_) (λF=>?_)
  ·have q:k<f.length:=O;obtain⟨g,U,W,X⟩:=at_ k q;have l:bK p (a.take (k+1)) (a[j].get p)=bK p (a.take k) (a[j].get p)+if a[k].get p=a[j].get p then 1 else 0:=by rw[iN g,iJ]
   refine Y ?_;refine Zz k s1 q λu d=>Y ?_;refine Ya (v:=dN f[k]) d (Y ?_);refine Zz p U W λu d=>?_;rw[X]at d;refine Y ?_;refine Ya (v:=vi (a[k].get p)) d (Y ?_);refine Zz j s1 g9 λu d=>Y ?_;refine Ya (v:=dN f[j]) d (Y ?_);refine Zz p Z y2 λu d=>?_;rw[y3]at d;refine Y ?_;refine Ya (v:=vi (a[j].get p)) d ?_;refine OJ (λw=>?_) (λw=>?_)
   ·have l:=l.trans (by rw[iF w]);refine Y ?_;exact⟨⟨k+1,O⟩,bN O,rfl,⟨rfl,rfl,rfl,rfl,by rw[l];rfl,rfl,trivial⟩,trivial,rfl⟩
   have l:=l.trans (by rw[aT w,qBO]);refine Y ?_;exact⟨⟨k+1,O⟩,bN O,rfl,⟨rfl,rfl,rfl,rfl,by rw[l];rfl,rfl,trivial⟩,trivial,rfl⟩
  have:k=a.length:=O;subst this;rw[IF];have S:=R (a[j].get p);refine Y ?_;refine q8 rfl rfl (Y ?_);exact⟨(⟨j+1,O⟩,max m (bK p a (a[j].get p))),bN O,⟨rfl,by show 0<=max m _;omega,by show max m _<=_;omega,λx T s=>by
   have s:x<j+1:=s;show _<=max m _;by_cases e:x=j
   ·subst e;omega
   have:=r x T O;omega⟩,V,trivial,rfl⟩
 have J:j=a.length:=O;have e:m=xA p a:=by obtain⟨t,Q,et⟩:=kZ i D;obtain⟨k,o,rfl⟩:=qAk.1 Q;have:=r k o O;omega
 refine Y ?_;exact⟨rfl,by rw[e];rfl⟩
def WdB{b:Sb}(hb:Zr H b)(y:b.Sz) :
  LL.Zc P 62 #[b.v] H λv i=>aL H i/\v=.tuple #[vi (if Zl b 0=0 then(Y7 (Zi b) b.pk.length).1 else 0),vi (if Zl b 0=0 then(Y7 (Zi b) b.pk.length).2 else 0),vi (Zl b 0)]:=by
 refine aJ.m (bG JQ) (args:=[b.v]) rfl ?_;unfold nM Sb.v;refine Y ?_;refine Za [b.v] (cF hb y) ?_;rintro v _ ⟨rfl,rfl⟩;refine OJ (λd=>?_) (λd=>?_)
 ·have e:Zl b 0=ZF b:=iF d;refine Y ?_;exact⟨.refl _,by rw[e,aT d,aT d];rfl⟩
 have ok:=Ow (b:=b) (by simpa using d);have A:=ok.n;refine Y ?_;refine Za [b.v,vi 0] (yY hb ok) ?_;rintro v u ⟨s,r,c1,t,rfl,s1,q⟩;refine OJ (λa=>?_) (λa=>?_)
 ·refine Y ?_;exact⟨s,by rw[aT a,aT a];rfl⟩
 have a:Zl b 0=0:=by simpa using a
 have p:=(y0 a).2.2;have l:=UI ok;rw[mH a]at q;have f:=q.len;rw[qAh]at f;rw[iF a,iF a,a];refine Y ?_;refine Zv b.pk.length (λj i=>u=i) (λj=>[(1,vi 0),(6,.slice r t.length c1),(8,vi (Y7 (Zi b) j).1),(9,vi (Y7 (Zi b) j).2),(10,vi j)]) (λj=>[(1,b.cs)]) rfl ⟨rfl,rfl,rfl,by rw[show(Y7 (Zi b) 0).2=((Zi b).length:Int)from rfl,<-f];rfl,rfl,trivial⟩ V ?_;rintro j _ z rfl;refine OJ (λw=>?_) (λw=>?_)
 ·have o:j<b.pk.length:=O;have c:Y7 (Zi b) (j+1)=if xA j (Zi b)<(Y7 (Zi b) j).2 then((j:Int),xA j (Zi b))else Y7 (Zi b) j:=rfl
  refine Y ?_;refine Za [.slice r t.length c1,vi j] (Nh ok s1 q (λ_ h=>h) p l o) ?_;rintro v _ ⟨rfl,rfl⟩;refine OJ (λk=>?_) (λk=>?_)
  ·have c:=c.trans (iF k);refine Y ?_;exact⟨⟨j+1,O⟩,bN O,rfl,⟨rfl,rfl,by rw[c];rfl,by rw[c];rfl,rfl,trivial⟩,V,rfl⟩
  have c:=c.trans (aT k);refine Y ?_;exact⟨⟨j+1,O⟩,bN O,rfl,⟨rfl,rfl,by rw[c];rfl,by rw[c];rfl,rfl,trivial⟩,V,rfl⟩
 have:j=b.pk.length:=O;subst this;refine Y ?_;exact⟨s,rfl⟩
def Wdy{b:Sb}(hb:Zr H b)(sz:b.Sz):LL.Zc P 61 #[b.v] H λv y=>aL H y/\∃u,v=.tuple #[u,vi (ZF b)]/\aF y u (VU b):=by
 refine aJ.m (bG JP) (args:=[b.v]) rfl ?_;unfold nL Sb.v;refine Y ?_;refine Za [b.v] (cF hb sz) ?_;rintro v _ ⟨rfl,rfl⟩;refine OJ (λr=>?_) (λr=>?_)
 ·refine Y ?_;exact⟨.refl _,_,rfl,by rw[VU,aT (λh=>r h.1)];exact .nil _⟩
 have r:ZF b=0:=by simpa using r
 have ok:=Ow r;have S:=ok.nn;rw[r];refine Y ?_;refine Za [b.v] (jG hb ok) ?_;rintro v H1 ⟨i1,A,c,qs,rfl,s1,l1⟩;have E:=l1.len;rw[iX ok,qAh]at E;refine OJ (λJ=>?_) (λJ=>?_)
 ·refine Y ?_;exact⟨i1,_,rfl,by rw[VU,aT (λh=>by rw[E,h.2]at J;exact absurd J (by decide))];exact .nil _⟩
 have I:Zi b=[]:=qAt.1 O;rw[VU,iF ⟨r,I⟩,<-JO ok I];refine Y ?_;refine Za [vi b.nt.length] (Wdw O) ?_;rintro X H2 ⟨i2,bb,ow⟩;have s2:aF H2 X (cH b.nt.length):=ow.sl;have T:(cH b.nt.length).length=b.nt.length:=by simp[cH]
 refine Y ?_;refine YE s2 rfl ?_;rw[T];refine Y ?_;refine Za [X,vi b.nt.length] (RN O s2) ?_;rintro v3 H3 ⟨i3,e,G,l3⟩;have p:=(i1.trans i2).trans i3;have hvl:=l3.len;have zP:=jU b.nt.length;have h16:2 ^ b.nt.length<=2 ^ 3:=qBz (by decide) S;have z:=λ(k:Nat) (hk:k<(fD b.nt.length).length)=>fU.1 (bY hk);have tC:=iI b (n:=b.nt.length);have N:∀k,oV b.nt.length (qW b ((fD b.nt.length).take k) (cH b.nt.length)):=λk=>(iI b (n:=b.nt.length) ((fD b.nt.length).take k) (cH b.nt.length) (λl E=>fU.1 (qDT E)) (mM _) (by rw[pG];exact I)).1.1;have Q:=λ(j:Nat) (hj:j<(fD b.nt.length).length)=>EQ (b:=b) (f:=cH b.nt.length) hj;have h0:qW b ((fD b.nt.length).take 0) (cH b.nt.length)=cH b.nt.length:=by rw[qCa];rfl
 generalize cH b.nt.length=F at *;generalize fD b.nt.length=L at *;refine Y ?_;refine ZO (α:=Value) e.length (λk s y=>aL H3 y/\aF y s (qW b (L.take k) F)) (λk s=>[(1,vi 0),(5,s),(6,v3),(7,vi k)]) (λ_ _=>[(1,b.cs)]) X ⟨.refl _,by rw[h0];exact s2.inc i3⟩ V V ?_;rintro k s H4 hk ⟨q,D⟩;refine Y ?_;refine YE (G.inc q) rfl ?_;refine OJ (λh3=>?_) (λh3=>?_)
 ·have i:k<e.length:=O;have t:k<L.length:=O;have K:=z k t;have h5:=N k;have g:=Q k t;have Z:=(l3.at_ k i t).inc q;have e1:=uD K;have e2:=uD h5;generalize qW b (L.take k) F=R at *;have row:Enc.enc e[k]=[e[k]]:=rfl;refine Y ?_;refine Zz k (G.inc q) i λa o=>?_;rw[row]at o;refine Y ?_;refine Ya (v:=e[k]) o (Y ?_);refine Za [e[k],s] (Wdx Z D O O) ?_;rintro v _ ⟨rfl,rfl⟩;cases hfw:cZ L[k] R with
  | false=>
   have g:qW b (L.take (k+1)) F=R:=by rw[g,EZ,aT (λh=>by rw[hfw]at h;exact absurd h.1 (by decide))]
   refine Y ?_;exact⟨(⟨k+1,O⟩,s),bN O,⟨q,by show aF H4 s (qW b (L.take (k+1)) F);rw[g];exact D⟩,V,V,rfl⟩
  | true=>
   refine Y ?_;refine Zz k (G.inc q) i λa o=>?_;rw[row]at o;refine Y ?_;refine Ya (v:=e[k]) o (Y ?_);refine Za [b.v,e[k]] (sO (hb.inc (p.trans q)) Z K O) ?_;rintro _ H5 ⟨U,A5,c5,rfl,M⟩;have C:=yX ok K A5 c5;refine Y ?_;refine Za [(hZ b L[k] A5 c5).v] (jG M C) ?_;rintro v H6 ⟨W,A6,c6,qs6,rfl,s6,l6⟩;have B:=l6.len;rw[iX C,qAh,yW]at B;have w:=(q.trans U).trans W;refine OJ (λh6=>?_) (λh6=>?_)
   ·have g:qW b (L.take (k+1)) F=L[k]:=by rw[g,EZ,iF ⟨hfw,qAt.1 O⟩]
    refine Y ?_;refine Zz k (G.inc w) i λa o=>?_;rw[row]at o;refine Y ?_;refine Ya (v:=e[k]) o (Y ?_);exact⟨(⟨k+1,O⟩,e[k]),bN O,⟨w,by show aF H6 e[k] (qW b (L.take (k+1)) F);rw[g];exact(Z.inc U).inc W⟩,V,V,rfl⟩
   have g:qW b (L.take (k+1)) F=R:=by rw[g,EZ,aT (λh=>h6 (by rw[B,h.2];rfl))]
   refine Y ?_;exact⟨(⟨k+1,O⟩,s),bN O,⟨w,by show aF H6 s (qW b (L.take (k+1)) F);rw[g];exact(D.inc U).inc W⟩,V,V,rfl⟩
 have:k=L.length:=O;subst this;rw[IF]at D;refine Y ?_;exact⟨p.trans q,s,rfl,D⟩
def pW{b:Sb}:(VU b).length<=1000000:=by
 unfold VU;split
 ·rename_i h;have ok:=Ow h.1;have a:=uD (pH ok h.2);have c:=ok.nn;exact qAz a O
 exact qAI _
theorem sH(hO:P=PP){b:Sb}{n:Int}(hb:Zr H b)(hx:aF H (.slice x.A x.ps.length x.c) x.ps)(j:Yk H)(k:aC H ⟨1,0,none⟩ [vf 284]) :
  nI.m P (tJ P mL λv _=>v=vb true) (Vv [b.v,vR x,vi n,.agg #[vi lo,vi hi]]) H:=by
 unfold nI Sb.v;refine Y ?_;refine Za [b.v] (eO hb) ?_;rintro v _ ⟨rfl,g,rfl,C⟩;cases g with
 | true=>
  refine Y ?_;refine Za [] (bB hO j k) ?_;rintro v H1 ⟨_,rfl⟩;refine Y ?_;rfl
 | false=>
 have l:=C rfl;have e:=l.sz;refine OJ (λK=>?_) (λK=>?_)
 ·refine Y ?_;refine Za [] (bB hO j k) ?_;rintro v H1 ⟨_,rfl⟩;refine Y ?_;rfl
 have r:x.ps.length<=1000000:=O;clear K;refine Y ?_;refine Za [b.v] (Ib hb e j) ?_;rintro v H1 ⟨i1,o,c1,rfl,_,s1⟩;refine Y ?_;refine Za [b.v] (Wdy (hb.inc i1) e) ?_;rintro v H2 ⟨T,u,rfl,su⟩;have E:=i1.trans T;refine Y ?_;refine Za [.slice o (VU b).length c1,u] (EI (s1.inc T) su pW pW) ?_;rintro v _ ⟨rfl,rfl⟩;rw[decide_eq_true (show VU b=VU b from rfl)];refine OJ (λh3=>?_) (λh3=>?_)
 ·exact absurd h3 (by simp)
 refine Y ?_;refine Za [b.v] (Tk (hb.inc E) e (aC.inc j E)) ?_;rintro v H3 ⟨j3,rfl⟩;have i3:=E.trans j3;refine Y ?_;refine Za [b.v] (WdB (hb.inc i3) e) ?_;rintro v H4 ⟨j4,rfl⟩;have i4:=i3.trans j4;refine OJ (λL=>?_) (λL=>?_)
 ·exact absurd L (by simp)
 refine OJ (λM=>?_) (λM=>?_)
 ·exact absurd M (by simp)
 refine OJ (λN=>?_) (λN=>?_)
 ·exact absurd N (by simp)
 refine Y ?_;refine Za [b.v,vR x] (RL (hb.inc i4) e (aC.inc j i4) (hx.inc i4) r) ?_;rintro v H5 ⟨j5,D⟩;have i5:=i4.trans j5;obtain⟨c,rfl,hc,z⟩:∃c:Sb,v=.tuple #[.agg #[vi c.pl,vi c.hd,vi c.td,.slice c.A1 c.pk.length c.c1,.slice c.A2 c.nt.length c.c2],vi (eI b x)]/\Zr H5 c/\dG (fH b x) c:=by
  rcases D with⟨h,rfl⟩ | ⟨h,okN,Z,l,w,rfl⟩
  ·exact⟨dP,rfl,gB _,by rw[fH,aT h];exact .refl _⟩
  exact⟨Z,by rw[h],w,by rw[fH,iF h];exact l⟩
 refine Y ?_;refine Za [b.v,vR x] (RK (hb.inc i5) e (hx.inc i5) r l.nt) ?_;rintro v H6 ⟨U,d,rfl,i,q⟩;have F:=i5.trans U;rw[show d.v=.agg #[vi d.pl,vi d.hd,vi d.td,.slice d.A1 d.pk.length d.c1,.slice d.A2 d.nt.length d.c2]from rfl];refine Y ?_;refine Za [c.v,d.v] (lJ (z.C8 q) i (hc.inc U) (q.sz yU)) ?_;rintro v _ ⟨rfl,rfl⟩;refine OJ (λQ=>?_) (λQ=>?_)
 ·exact absurd Q (by simp)
 refine Y ?_;refine Za [b.v,vi n,.agg #[vi lo,vi hi]] (TR (hb.inc F) e (aC.inc j F)) ?_;rintro v X ⟨j7,D⟩;have S:=F.trans j7;obtain⟨c',rfl,y,p⟩:∃c:Sb,v=.tuple #[.agg #[vi c.pl,vi c.hd,vi c.td,.slice c.A1 c.pk.length c.c1,.slice c.A2 c.nt.length c.c2],vi (Vk b n lo hi)]/\Zr X c/\dG (eR b n lo hi) c:=by
  rcases D with⟨h,rfl⟩ | ⟨h,_,_,b1,d,e1,DW,l,i,rfl⟩
  ·exact⟨dP,rfl,gB _,by rw[eR,aT h];exact .refl _⟩
  exact⟨d,by rw[h],i,by rw[eR,iF h,<-e1];exact l⟩
 refine Y ?_;refine Za [b.v,vi n,.agg #[vi lo,vi hi]] (RP (hb.inc S) e) ?_;rintro v H8 ⟨V,a,rfl,B,f⟩;have i8:=S.trans V;rw[show a.v=.agg #[vi a.pl,vi a.hd,vi a.td,.slice a.A1 a.pk.length a.c1,.slice a.A2 a.nt.length a.c2]from rfl];refine Y ?_;refine Za [c'.v,a.v] (lJ (p.C8 f) B (y.inc V) (f.sz qL)) ?_;rintro v _ ⟨rfl,rfl⟩;refine OJ (λR=>?_) (λR=>?_);rotate_left
 ·exact absurd rfl R
 refine Y ?_;refine Za [] (bB hO (aC.inc j i8) (aC.inc k i8)) ?_;rintro v H9 ⟨_,rfl⟩;refine Y ?_;rfl
end
