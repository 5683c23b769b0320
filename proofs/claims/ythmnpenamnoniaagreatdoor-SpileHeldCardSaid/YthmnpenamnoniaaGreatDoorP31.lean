import Derived.Test.YthmnpenamnoniaaGreatDoorP30
set_option linter.all false
set_option maxHeartbeats 16000000
set_option maxRecDepth 20000
open Go Go.LL
namespace Go.Proofs
variable{v:Value}{f:fZ}{n a b:Int}{j i r rm:Nat}{l:List e9}{o:Obj}
def P6:Tryz.prog.underlying 227=some (.array 3 161):=U
def NK:ZU Tryz.prog 161=some (1,some .nilFunc,8):=U
def KN:Yi Tryz.prog 161=some none:=U
section
variable{P:aY}[Tz P][Loud P]{H:Hp}
def sV(n h e:Int):LL.Za P 145 #[vi n,vi h,vi e] H λv k=>H=k/\v=vb (decide (h<=n/\n<=e)):=by refine aI.m (bG Zyq) rfl ?_;unfold Dy;refine OJ (λc=>?_) (λc=>?_)<;>refine Y ?_<;>exact⟨rfl,by simp[Yn,c]⟩
def MC(a b k h:Int):LL.Za P 264 #[.agg #[vi a,vi b],vi k,vi h] H λv p=>H=p/\v=vb (decide (k<=a/\a<=b/\b<=h)):=by refine aI.m (bG Zx1) rfl ?_;unfold Hn;refine OJ (λc=>?_) (λc=>?_)<;>refine Y ?_;refine OI (λe=>?_) (λe=>?_)<;>refine Y ?_<;>exact⟨rfl,by simp[Yn,c,e]⟩;exact⟨rfl,by simp[Yn,c]⟩
def TZ(s:ZJ H v f)(B:1<=f.pt.length/\f.pt.length<=1000):LL.Za P 144 #[v,vi n] H λv k=>H=k/\v=vb (decide (VS f.pt<=n/\n<=VR f.pt)):=by obtain⟨t,c1,u,c2,w,c3,rfl,e,z,A⟩:=s;have p:VS f.pt=(f.pt[0]'O).h:=qAQ e9.h (Z8 O _);have q:VR f.pt=(f.pt[f.pt.length-1]'O).h:=qAQ e9.h (Z8 O _);have el:((f.pt.length:Int)-1)=((f.pt.length-1:Nat):Int):=O;refine aI.m (bG Zyr) rfl ?_;unfold Dx;refine Y ?_;refine Zo 0 e O λa c=>Y ?_;refine Zg (OL _) rfl (by rw[add_zero];exact Z2 (cs:=[vi (f.pt[0]'O).h]) (ds:=[vi (f.pt[0]'O).lo,vi (f.pt[0]'O).hi]) c) (Y ?_);rw[el];refine Zo (f.pt.length-1) e O λa c=>Y ?_;refine Zg (OL _) rfl (by rw[add_zero];exact Z2 (cs:=[vi (f.pt[f.pt.length-1]'O).h]) (ds:=[vi (f.pt[f.pt.length-1]'O).lo,vi (f.pt[f.pt.length-1]'O).hi]) c) (Y ?_);refine Zl (vs:=[vi n,vi (f.pt[0]'O).h,vi (f.pt[f.pt.length-1]'O).h]) (sV _ _ _) (Y ?_);exact⟨rfl,by rw[p,q];rfl⟩
def T2(e:ZJ H v f)(u:f.pt.length<=1000):LL.Za P 266 #[v,vi n] H λv c=>H=c/\v=vb (decide (0<=n/\n<=(f.pt.length:Int)-1)):=by obtain⟨h,c1,k,c2,p,c3,rfl,q,s,t⟩:=e;refine aI.m (bG ZxZ) rfl ?_;unfold Hq;refine Y ?_;refine Zl (vs:=[vi n,vi 0,vi ((f.pt.length:Int)-1)]) (sV _ _ _) (Y ?_);exact⟨rfl,rfl⟩
def Zzh(X:ZJ H v f)(hn:f.pt.length<=1000):LL.Za P 261 #[v] H λv A=>H=A/\UF v ((0<=f.pk/\f.pk<=20)/\YB f.pt):=by
 obtain⟨D,c1,L,c2,M,c3,rfl,J,G,s⟩:=X;refine aI.m (bG Zx4) rfl ?_;generalize f.pt=l at *;unfold Ja;refine Y ?_;refine Zl (vs:=[vi f.pk,vi 0,vi 20]) (sV _ _ _) ?_;refine OJ (λF=>?_) (λF=>?_)
 ·refine Y ?_;exact⟨rfl,.no (by decide) λh=>F h.1⟩
 refine Y ?_;refine Zl (vs:=[vi l.length,vi 2,vi 5]) (sV _ _ _) ?_;refine OJ (λR=>?_) (λR=>?_)
 ·refine Y ?_;exact⟨rfl,.no (by decide) λh=>by have:=h.2.n;omega⟩
 refine Y ?_;refine ZF l.length (λj A=>H=A/\(∀p∈l.take j,yN p)/\∀i (k:i+1<j) (h:i+1<l.length),l[i].h<l[i+1].h) (λj=>[(1,vi 0),(20,.slice D l.length c1),(21,vi l.length),(22,vi j)]) (λ_=>[(1,[vi f.pk,.slice D l.length c1,.slice L f.tp.length c2,.slice M f.sk.length c3])]) ⟨rfl,by simp,O⟩ V V ?_;rintro j _ hj ⟨rfl,w,I⟩;refine OJ (λG=>?_) (λG=>?_)
 ·have e:j<l.length:=O;have c:¬ yN l[j]->¬ ((0<=f.pk/\f.pk<=20)/\YB l):=λh u=>h (u.2.pt _ (qAa e));refine Y ?_;refine Zo j J e λa C=>Y ?_;refine ZL (cs:=[vi l[j].h,vi l[j].lo,vi l[j].hi]) C (Y ?_);refine Zl (vs:=[vi l[j].h,vi 0,vi 959]) (sV _ _ _) ?_;refine OJ (λs=>?_) (λs=>?_)
  ·refine Y ?_;exact⟨rfl,.no (by decide) (c λh=>s h.1)⟩
  have Q:∀(W:∀i (k:i+1<j+1) (h:i+1<l.length),l[i].h<l[i+1].h),True:=λ_=>trivial;refine OJ (λS=>?_) (λS=>?_)
  ·obtain⟨t,rfl⟩:∃t,j=t+1:=⟨j-1,O⟩;have N:((t+1:Nat):Int)-1=(t:Int):=O;refine Y ?_;rw[N];refine Zo t J O λa C=>Y ?_;refine Zg (OL _) rfl (by rw[add_zero];exact Z2 (cs:=[vi (l[t]'O).h]) (ds:=[vi (l[t]'O).lo,vi (l[t]'O).hi]) C) ?_;refine OJ (λU=>?_) (λU=>?_)
   ·refine Y ?_;exact⟨rfl,.no (by decide) λh=>by have:=h.2.up t e;omega⟩
   refine Y ?_;refine Zl (vs:=[.agg #[vi l[t+1].lo,vi l[t+1].hi],vi 0,vi 959]) (MC _ _ _ _) ?_;refine OJ (λq=>?_) (λq=>?_)
   ·refine Y ?_;exact⟨rfl,.no (by decide) (c λh=>q h.2.1)⟩
   refine OJ (λB=>?_) (λB=>?_)
   ·refine Y ?_;exact⟨rfl,.no (by decide) (c λh=>by have:=h.2.2;omega)⟩
   refine Y ?_;exact⟨⟨t+1+1,O⟩,qCN O (qCC (t+1)),⟨rfl,tB e w ⟨s,q,O⟩,λi k h=>by
    rcases Nat.lt_succ_iff_lt_or_eq.1 k with u | u
    ·exact I i u h
    obtain rfl:i=t:=O;omega⟩,V,V,rfl⟩
  refine Y ?_;refine Zl (vs:=[.agg #[vi l[j].lo,vi l[j].hi],vi 0,vi 959]) (MC _ _ _ _) ?_;refine OJ (λq=>?_) (λq=>?_)
  ·refine Y ?_;exact⟨rfl,.no (by decide) (c λh=>q h.2.1)⟩
  refine OJ (λB=>?_) (λB=>?_)
  ·refine Y ?_;exact⟨rfl,.no (by decide) (c λh=>by have:=h.2.2;omega)⟩
  refine Y ?_;exact⟨⟨j+1,O⟩,cZ O,⟨rfl,tB e w ⟨s,q,O⟩,λi k h=>by have Z:i+1<j+1:=k;omega⟩,V,V,rfl⟩
 have:j=l.length:=O;subst this;rw[qAh]at w;refine Y ?_;exact⟨rfl,.rI ⟨O,⟨O,w,λi k=>I i k k⟩⟩⟩
def Ztj(p:ZJ H v f)(q:f.pt.length<=1000):LL.Za P 265 #[v,vi a,vi b] H λv s=>H=s/\UF v (((0<=a/\a<=(f.pt.length:Int)-1)/\(0<=b/\b<=(f.pt.length:Int)-1))/\a<b):=by
 have c:=p;obtain⟨u,c1,w,c2,z,c3,rfl,A,B,C⟩:=p;refine aI.m (bG Zx0) rfl ?_;unfold Ho;refine Y ?_;refine Zl (vs:=[.agg #[vi f.pk,.slice u f.pt.length c1,.slice w f.tp.length c2,.slice z f.sk.length c3],vi a]) (T2 c q) ?_;refine OJ (λe=>?_) (λe=>?_)
 ·refine Y ?_;exact⟨rfl,.no (by decide) λh=>e h.1.1⟩
 refine Y ?_;refine Zl (vs:=[.agg #[vi f.pk,.slice u f.pt.length c1,.slice w f.tp.length c2,.slice z f.sk.length c3],vi b]) (T2 c q) ?_;refine OJ (λk=>?_) (λk=>?_)
 ·refine Y ?_;exact⟨rfl,.no (by decide) λh=>k h.1.2⟩
 refine OJ (λt=>?_) (λt=>?_)
 ·refine Y ?_;exact⟨rfl,.no (by decide) λh=>by have:=h.2;omega⟩
 refine Y ?_;exact⟨rfl,.rI ⟨⟨e,k⟩,O⟩⟩
def Zze(D:ZJ H v f)(R:f.pt.length<=1000):LL.Za P 262 #[v] H λv u=>H=u/\UF v (xO f.pt.length f.tp):=by
 have A:=D;obtain⟨G,c1,B,c2,I,c3,rfl,S,N,U⟩:=D;refine aI.m (bG Zx3) rfl ?_;unfold Jb;refine OJ (λJ=>?_) (λJ=>?_)
 ·refine Y ?_;exact⟨rfl,.no (by decide) λh=>by have:=h.n;omega⟩
 refine Y ?_;refine ZF f.tp.length (λj u=>H=u/\∀p∈f.tp.take j,sF f.pt.length p) (λj=>[(1,vi 0),(13,.slice B f.tp.length c2),(14,vi f.tp.length),(15,vi j)]) (λ_=>[(1,[vi f.pk,.slice G f.pt.length c1,.slice B f.tp.length c2,.slice I f.sk.length c3])]) ⟨rfl,by simp⟩ V V ?_;rintro j _ W ⟨rfl,z⟩;refine OJ (λL=>?_) (λL=>?_)
 ·have e:j<f.tp.length:=O;have k:¬ sF f.pt.length f.tp[j]->¬ xO f.pt.length f.tp:=λh M=>h (M.t _ (qAa e));have next:=λh=>tB e z (p:=sF f.pt.length) h
  refine Y ?_;refine Zo j N e λa Q=>?_;generalize f.tp[j]=t at *;refine Y ?_;refine ZL (cs:=[vi t.fr,vi t.to,vi t.lo,vi t.hi]) Q (Y ?_);refine Zf (vs:=[.agg #[vi f.pk,.slice G f.pt.length c1,.slice B f.tp.length c2,.slice I f.sk.length c3],vi t.fr,vi t.to]) (Ztj A R) ?_;rintro v _ ⟨rfl,s,rfl,C⟩;refine OJ (λq=>?_) (λq=>?_)
  ·refine Y ?_;exact⟨rfl,.no q (k λh=>q (C.2 ⟨h.1,h.2.1⟩))⟩
  have F:=C.1 q;refine Y ?_;refine Zl (vs:=[.agg #[vi t.lo,vi t.hi],vi 0,vi 9999]) (MC _ _ _ _) ?_;refine OJ (λw=>?_) (λw=>?_)
  ·refine Y ?_;exact⟨rfl,.no (by decide) (k λh=>w h.2.2)⟩
  refine Y ?_;exact⟨⟨j+1,O⟩,cZ O,⟨rfl,next ⟨F.1,F.2,w⟩⟩,V,V,rfl⟩
 have:j=f.tp.length:=O;subst this;rw[qAh]at z;refine Y ?_;exact⟨rfl,.rI ⟨O,z⟩⟩
def Zzf(C:ZJ H v f)(N:1<=f.pt.length/\f.pt.length<=1000):LL.Za P 263 #[v] H λv t=>H=t/\UF v (yQ f.pt f.sk):=by
 have A:=C;obtain⟨D,c1,F,c2,B,c3,rfl,Q,R,L⟩:=C;refine aI.m (bG Zx2) rfl ?_;unfold Jc;refine OJ (λG=>?_) (λG=>?_)
 ·refine Y ?_;exact⟨rfl,.no (by decide) λh=>by have:=h.n;omega⟩
 refine Y ?_;refine ZF f.sk.length (λj t=>H=t/\∀p∈f.sk.take j,sE f.pt p) (λj=>[(1,vi 0),(12,.slice B f.sk.length c3),(13,vi f.sk.length),(14,vi j)]) (λ_=>[(1,[vi f.pk,.slice D f.pt.length c1,.slice F f.tp.length c2,.slice B f.sk.length c3])]) ⟨rfl,by simp⟩ V V ?_;rintro j _ S ⟨rfl,z⟩;refine OJ (λI=>?_) (λI=>?_)
 ·have e:j<f.sk.length:=O;have q:¬ sE f.pt f.sk[j]->¬ yQ f.pt f.sk:=λh J=>h (J.s _ (qAa e));have next:=λh=>tB e z (p:=sE f.pt) h
  refine Y ?_;refine Zo j L e λa M=>?_;generalize f.sk[j]=k at *;refine Y ?_;refine ZL (cs:=[vi k.h,vi k.lg,vb k.iH]) M (Y ?_);refine Zl (vs:=[.agg #[vi f.pk,.slice D f.pt.length c1,.slice F f.tp.length c2,.slice B f.sk.length c3],vi k.h]) (TZ A N) ?_;refine OJ (λu=>?_) (λu=>?_)
  ·refine Y ?_;exact⟨rfl,.no (by decide) (q λh=>u h.1)⟩
  refine Y ?_;refine Zl (vs:=[vi k.lg,vi 0,vi 959]) (sV _ _ _) ?_;refine OJ (λw=>?_) (λw=>?_)
  ·refine Y ?_;exact⟨rfl,.no (by decide) (q λh=>w h.2)⟩
  refine Y ?_;exact⟨⟨j+1,O⟩,cZ O,⟨rfl,next ⟨u,w⟩⟩,V,V,rfl⟩
 have:j=f.sk.length:=O;subst this;rw[qAh]at z;refine Y ?_;exact⟨rfl,.rI ⟨O,z⟩⟩
def W3(F:aC H ⟨0,0,none⟩ [vf 261,vf 262,vf 263])(z:ZJ H v f)(u:f.pt.length<=1000):LL.Za P 74 #[v] H λv q=>H=q/\UF v (nM f):=by
 have k:=z;obtain⟨A,c1,B,c2,C,c3,rfl,I,J,L⟩:=z;refine aI.m (bG ZyT) rfl ?_;unfold Ew;refine Y ?_;refine ZL F (Y ?_);refine ZF 3 (λj q=>H=q/\(1<=j->(0<=f.pk/\f.pk<=20)/\YB f.pt)/\(2<=j->xO f.pt.length f.tp)/\(3<=j->yQ f.pt f.sk)) (λj=>[(1,vi 0),(6,.agg #[vf 261,vf 262,vf 263]),(7,vi j)]) (λ_=>[(1,[vi f.pk,.slice A f.pt.length c1,.slice B f.tp.length c2,.slice C f.sk.length c3])]) ⟨rfl,O,O,O⟩ V V ?_;rintro j _ M ⟨rfl,p,w,D⟩;refine OJ (λG=>?_) (λG=>?_)
 ·have t:j=0\/j=1\/j=2:=O;refine Y ?_;rcases t with rfl | rfl | rfl
  ·refine OY (bL P6) (bH NK) (pF KN) rfl rfl (i:=0) O rfl (Y ?_);refine Yp rfl rfl (Yg U (Zzh k u)) ?_;rintro v _ ⟨rfl,s,rfl,e⟩;refine OJ (λc=>?_) (λc=>?_)
   ·refine Y ?_;exact⟨rfl,.no c λh=>c (e.2 ⟨h.pk,h.pt⟩)⟩
   refine Y ?_;exact⟨⟨1,O⟩,(by show 3-1<3-0;omega),⟨rfl,λ_=>e.1 c,λh=>absurd (show 2<=1 from h) O,λh=>absurd (show 3<=1 from h) O⟩,V,V,rfl⟩
  ·refine OY (bL P6) (bH NK) (pF KN) rfl rfl (i:=1) O rfl (Y ?_);refine Yp rfl rfl (Yg U (Zze k u)) ?_;rintro v _ ⟨rfl,s,rfl,e⟩;refine OJ (λc=>?_) (λc=>?_)
   ·refine Y ?_;exact⟨rfl,.no c λh=>c (e.2 h.tp)⟩
   refine Y ?_;exact⟨⟨2,O⟩,(by show 3-2<3-1;omega),⟨rfl,λ_=>p O,λ_=>e.1 c,λh=>absurd (show 3<=2 from h) O⟩,V,V,rfl⟩
  have N:=(p O).2.n;refine OY (bL P6) (bH NK) (pF KN) rfl rfl (i:=2) O rfl (Y ?_);refine Yp rfl rfl (Yg U (Zzf k ⟨O,u⟩)) ?_;rintro v _ ⟨rfl,s,rfl,e⟩;refine OJ (λc=>?_) (λc=>?_)
  ·refine Y ?_;exact⟨rfl,.no c λh=>c (e.2 h.sk)⟩
  refine Y ?_;exact⟨⟨3,O⟩,(by show 3-3<3-2;omega),⟨rfl,λ_=>p O,λ_=>w O,λ_=>e.1 c⟩,V,V,rfl⟩
 have:j=3:=O;subst this;refine Y ?_;exact⟨rfl,.rI ⟨(p O).1,(p O).2,w O,D O⟩⟩
end
structure R5 where
 (a b c d e:Int)
def R5.get(n:R5):Nat->Int
 | 0=>n.a
 | 1=>n.b
 | 2=>n.c
 | 3=>n.d
 | _=>n.e
def R5.cells(n:R5):List Value:=[vi n.a,vi n.b,vi n.c,vi n.d,vi n.e]
abbrev YW(n:R5):Value:=.agg #[vi n.a,vi n.b,vi n.c,vi n.d,vi n.e]
instance:Enc R5:=⟨5,R5.cells,λ_=>rfl⟩
def R5.put(n:R5)(j:Nat)(v:Int):R5:=⟨if j=0 then v else n.a,if j=1 then v else n.b,if j=2 then v else n.c,if j=3 then v else n.d,if j=4 then v else n.e⟩
theorem OR(n:R5)(c:j<5):n.cells[0+j * 1]? = some (vi (n.get j)):=by
 match j,c with
 | 0,_=>rfl
 | 1,_=>rfl
 | 2,_=>rfl
 | 3,_=>rfl
 | 4,_=>rfl
theorem ZqT(n:R5)(v:Int)(c:j<5):ZZ n.cells (0+j * 1) [vi v]=(n.put j v).cells:=by
 match j,c with
 | 0,_=>rfl
 | 1,_=>rfl
 | 2,_=>rfl
 | 3,_=>rfl
 | 4,_=>rfl
theorem ZqU(n:R5)(v:Int)(c:i<5)(e:j<5):(n.put j v).get i=if i=j then v else n.get i:=by
 match i,c,j,e with
 | 0,_,0,_ | 0,_,1,_ | 0,_,2,_ | 0,_,3,_ | 0,_,4,_=>rfl
 | 1,_,0,_ | 1,_,1,_ | 1,_,2,_ | 1,_,3,_ | 1,_,4,_=>rfl
 | 2,_,0,_ | 2,_,1,_ | 2,_,2,_ | 2,_,3,_ | 2,_,4,_=>rfl
 | 3,_,0,_ | 3,_,1,_ | 3,_,2,_ | 3,_,3,_ | 3,_,4,_=>rfl
 | 4,_,0,_ | 4,_,1,_ | 4,_,2,_ | 4,_,3,_ | 4,_,4,_=>rfl
def R5.Ok(n:R5):Prop:=∀j,j<5->0<=n.get j/\n.get j<=959
def O1(h:-959<=a/\a<=959)(hb:-959<=b/\b<=959):-919681<=a * b/\a * b<=919681:=by have c:(a * b).natAbs=a.natAbs * b.natAbs:=Int.natAbs_mul a b;have e:a.natAbs * b.natAbs<=959 * 959:=qBN O O;omega
def Qf(h:-919681<=a/\a<=919681):-919681<=a.tdiv b/\a.tdiv b<=919681:=by have c:(a.tdiv b).natAbs=a.natAbs / b.natAbs:=Int.natAbs_tdiv a b;have e:a.natAbs / b.natAbs<=a.natAbs:=Nat.div_le_self _ _;omega
def EE(l:List e9)(x:Int):Nat->Nat->Nat
 | 0,i=>i
 | k+1,i=>if(l.getD (i+1) ⟨0,0,0⟩).h<x then EE l x k (i+1)else i
def Oo(l:List e9)(x:Int):Nat:=EE l x (l.length-2) 0
def LV(n c:Int):Int:=if n.tmod c<0 then n.tdiv c-1 else n.tdiv c
def nR(l:List e9)(i:Nat):e9:=l.getD i ⟨0,0,0⟩
def lW(l:List e9)(r:R5)(x:Int):Int:=r.get (Oo l x)+LV ((r.get (Oo l x+1)-r.get (Oo l x)) * (x-(nR l (Oo l x)).h)) ((nR l (Oo l x+1)).h-(nR l (Oo l x)).h)
def Yy(h:YB l)(c:i<l.length):nR l i=l[i]/\yN l[i]:=⟨Z8 c _,h.pt _ (qAa c)⟩
section
variable{P:aY}[Tz P][Loud P]{H:Hp}
def TY{r:R5}{x:Int}(J:ZJ H v f)(e:YB f.pt)(D:r.Ok)(Z:VS f.pt<=x/\x<=VR f.pt):LL.Za P 86 #[v,YW r,vi x] H λv t=>H=t/\v=vi (lW f.pt r x):=by
 obtain⟨F,c1,G,c2,I,c3,rfl,w,S,U⟩:=J;refine aI.m (bG ZyG) rfl ?_;generalize f.pt=l at *;have X:=e.n;have Q:VS l=(l[0]'O).h:=qAQ e9.h (Z8 O _);have R:VR l=(l[l.length-1]'O).h:=qAQ e9.h (Z8 O _);have p0:=(Yy e (show 0<l.length by omega)).2.1;have pN:=(Yy e (show l.length-1<l.length by omega)).2.1;unfold Fo;refine Y ?_;refine ZF (l.length-2) (λj t=>H=t/\EE l x (l.length-2-j) j=Oo l x) (λj=>[(2,vi x),(3,vi 0),(4,vi 0),(7,vi j)]) (λ_=>[(3,[vi f.pk,.slice F l.length c1,.slice G f.tp.length c2,.slice I f.sk.length c3]),(4,r.cells)]) ⟨rfl,rfl⟩ V V ?_;rintro j _ W ⟨rfl,C⟩;have c:j+1<l.length:=O;have B:l.getD (j+1) ⟨0,0,0⟩=l[j+1]:=Z8 c _;refine Y ?_;refine Zo (j+1) w c λa p=>Y ?_;refine Zg (OL _) rfl (by rw[add_zero];exact Z2 (cs:=[vi l[j+1].h]) (ds:=[vi l[j+1].lo,vi l[j+1].hi]) p) ?_;refine OJ (λs=>?_) (λs=>?_)
 ·have L:j<l.length-2:=by
   rcases qAM j (l.length-2)with h | h
   ·exact h
   obtain rfl:j=l.length-2:=O;simp only[show l.length-2+1=l.length-1 by omega]at s;omega
  have A:EE l x (l.length-2-(j+1)) (j+1)=Oo l x:=by
   rw[<-C,show l.length-2-j=(l.length-2-(j+1))+1 by omega];show _=if _ then _ else _
   rw[B,BY s]
  refine Y ?_;exact⟨⟨j+1,O⟩,cZ O,⟨rfl,A⟩,V,V,rfl⟩
 have q:Oo l x=j:=by
  rw[<-C];cases hk:l.length-2-j with
  | zero=>rfl
  | succ k=>
   show(if _ then _ else _)=j;rw[B,bY s]
 have z:lW l r x=r.get j+LV ((r.get (j+1)-r.get j) * (x-l[j].h)) (l[j+1].h-l[j].h):=by rw[lW,q,(Yy e (show j<l.length by omega)).1,(Yy e c).1]
 rw[z];have rj:=D j O;have N:=D (j+1) O;have q0:=(Yy e (show j<l.length by omega)).2.1;have q1:=(Yy e c).2.1;have up:=e.up j c;have M:=O1 (a:=r.get (j+1)-r.get j) (b:=x-l[j].h) ⟨O,O⟩ ⟨O,O⟩;refine Y ?_;refine Zo j w O λa p=>Y ?_;refine Zg (OL _) rfl (by rw[add_zero];exact Z2 (cs:=[vi (l[j]'O).h]) (ds:=[vi (l[j]'O).lo,vi (l[j]'O).hi]) p) (Y ?_);refine Zo (j+1) w c λa p=>Y ?_;refine Zg (OL _) rfl (by rw[add_zero];exact Z2 (cs:=[vi l[j+1].h]) (ds:=[vi l[j+1].lo,vi l[j+1].hi]) p) (Y ?_);refine VB (j:=j+1) rfl rfl O (Y ?_);refine VN (OL _) rfl rfl (OR r (j:=j+1) O) (Y ?_);refine VB (j:=j) rfl rfl O (Y ?_);refine VN (OL _) rfl rfl (OR r (j:=j) O) (Y ?_);refine VA rfl rfl ⟨O,O⟩ ?_;generalize(r.get (j+1)-r.get j) * (x-l[j].h)=n at *;have td:=Qf (b:=l[j+1].h-l[j].h) M;refine Y ?_;refine Uy rfl rfl O ⟨O,O⟩ (Y ?_);refine E0 rfl rfl O (Y ?_);unfold LV;refine OI (λu=>?_) (λu=>?_)
 ·rw[BY u];refine Y ?_;refine VB (j:=j) rfl rfl O (Y ?_);refine VN (OL _) rfl rfl (OR r (j:=j) O) (Y ?_);exact⟨rfl,rfl⟩
 rw[bY u];refine Y ?_;refine VB (j:=j) rfl rfl O (Y ?_);refine VN (OL _) rfl rfl (OR r (j:=j) O) (Y ?_);exact⟨rfl,rfl⟩
end
def wY(n:Nat):Nat->Nat->Nat
 | 0,k=>k
 | f+1,k=>if(k+1) * (k+1)<=n then wY n f (k+1)else k
def Ni(n:Nat):∀f k,k<=n->wY n f k<=n
 | 0,k,h=>h
 | f+1,k,h=>by
  rw[wY];split
  ·rename_i c;exact Ni n f (k+1) (by have:=Nat.le_mul_of_pos_left (k+1) (show 0<k+1 by omega);omega)
  exact h
def OP(n:Nat):Nat:=wY n n 0
structure iY where
 (h b:Int)
deriving DecidableEq
abbrev fS(k:iY):Value:=.agg #[vi k.h,vi k.b]
def oM(k:iY):Int:=(OP (k.h * k.h+k.b * k.b).toNat:Nat)
def Qo:Tryz.prog.underlying 305=some (.map 322 3):=U
def M5:lO Tryz.prog 322=some ([("high",3,0),("broad",3,1)],false):=U
section
variable{P:aY}[Tz P]{H:Hp}{g:Bool}{d:Nat}
def Zwu{c e:Int}(Q:Bool->Bool->Hp->Prop)(k:Q (decide (a=c/\b=e)) g H):bD P.toPQ (Op.equalIn (d+1+1) 322 (.agg #[vi a,vi b]) (.agg #[vi c,vi e])) Q g H:=by have B:∀(x y:Int) (Q:Value->Bool->Hp->Prop) g H,bD P.toPQ (part 3 #[vi x,vi y] 0) Q g H↔Q (vi x) g H:=λx y Q g H=>YL rfl Q;have C:∀(x y:Int) (Q:Value->Bool->Hp->Prop) g H,bD P.toPQ (part 3 #[vi x,vi y] 1) Q g H↔Q (vi y) g H:=λx y Q g H=>YL rfl Q;obtain⟨G,I,t,⟨u,D,z⟩,⟨w,F,A⟩,s⟩:=xC (p:=P.toProgram) (by rw[Tz.prog (P:=P)];exact M5);rw[Op.equalIn];simp only[Ze,ZA t,Vu,s,dO,qAf,Zi];simp only[u,w,D,F,z,A,Ze,qBx,qBs,List.forIn_nil];by_cases m:a=c<;>by_cases q:b=e<;>simp[B,C,uK,Ze,Zi,m,q]at k ⊢<;>exact k
def W9{k:iY}{Q:Option (Nat×Value)->Bool->Hp->Prop}{g:Bool}{H:Hp}:∀(m:List (iY×Int)) (b i:Nat),Q (bQ m k i) g H->bD P.toPQ (Instr.findAsking 322 (fS k) (aM fS b m) i) Q g H
 | [],b,i,h=>by simpa[aM,Instr.findAsking,bQ,Zi]using h
 | (p,v) :: r,b,i,h=>by
  simp only[aM,Instr.findAsking,Ze];show bD P.toPQ (Op.equalIn (9998+1+1) 322 (fS k) (fS p)) _ g H;refine Zwu _ ?_;rw[bQ]at h;by_cases e:k=p
  ·rw[BY e]at h;rw[decide_eq_true ⟨qAQ iY.h e,qAQ iY.b e⟩];simpa[Zi]using h
  rw[bY e]at h;rw[qAy (λt=>e (by obtain⟨a,b⟩:=k;obtain⟨c,d⟩:=p;obtain⟨q,s⟩:=t;simp only at q s;rw[q,s]))];simp only[dO,qAf];exact W9 r (b+1) (i+1) h
theorem ZvT{t:TypeDesc}{k:iY}:∀(m:List (iY×Int)) (b i:Nat),Instr.findNow t (fS k) (aM fS b m) i=(if m=[]then some none else none)
 | [],b,i=>rfl
 | (c,v) :: r,b,i=>by simp only[aM,Instr.findNow];cases t<;>rfl
def Cq:sB (α:=iY) P.toPQ 322 fS where
 uM:=λb a Q g H h=>by
  have A:∀(x y:Int) (Q:Value->Bool->Hp->Prop) g H,bD P.toPQ (part 3 #[vi x,vi y] 0) Q g H↔Q (vi x) g H:=λx y Q g H=>YL rfl Q;have B:∀(x y:Int) (Q:Value->Bool->Hp->Prop) g H,bD P.toPQ (part 3 #[vi x,vi y] 1) Q g H↔Q (vi y) g H:=λx y Q g H=>YL rfl Q;have C:∀(v:Int) (Q:Unit->Bool->Hp->Prop) g H,bD P.toPQ (Instr.checkKey b 9999 3 (vi v)) Q g H↔Q () g H:=λv Q g H=>by rw[show(9999:Nat)=9998+1 from rfl,Instr.checkKey];simp only[Ze,ZA (bL (P:=P) nQ),Zi]
  obtain⟨q,s,k,⟨t,D,w⟩,⟨u,F,z⟩,G⟩:=xC (p:=P.toProgram) (by rw[Tz.prog (P:=P)];exact M5);rw[show(10000:Nat)=9999+1 from rfl,Instr.checkKey];simp only[Ze,ZA k];have pm:∀{α β:Type} (f:α->β) (x:Sem α) (Q:β->Bool->Hp->Prop) g H,bD P.toPQ (f <$> x) Q g H↔bD P.toPQ x (λa g H=>Q (f a) g H) g H:=λf x Q g H=>by have e:f <$> x=(do let a <-x;pure (f a)):=rfl;rw[e,Ze];exact qCm
  simp only[t,u,D,F,w,z,Ze,qBx,qBs,List.forIn_nil];simpa[A,B,C,pm,Ze,Zi]using h
 uH:=λm a Q g H h=>by
  obtain⟨q,s,k,_⟩:=xC (p:=P.toProgram) (by rw[Tz.prog (P:=P)];exact M5);simp only[Instr.findKey,Ze,ZA k,ZvT];by_cases e:m=[]
  ·subst e;simpa[bQ,Zi]using h
  rw[bY e];exact W9 m 0 0 h
 oP:=λa=>by obtain⟨a,b⟩:=a;simp[Instr.sameBits]
end
section
variable{P:aY}{d:Option Nat}{next:aL->Hp->Prop}{σ:aL}{H:Hp}{x y:Operand}{ty:TypeId}{α:Type}[DecidableEq α]{kv:α->Value}{T K E:TypeId}
def ZtE{m:List (α×Int)}{a:α}{pm:Bool}{c:Nat}(w:P.toProgram.underlying T=some (.map K E))(t:sB P.toPQ K kv)(C:TI P.toProgram E 1 (vi 0) c)(k:σ.get x=some (.map (some r)))(q:σ.get y=some (kv a))(u:H r=some (Zu kv m,pm))(e:P.still H.gh=false)
  (h:next (σ.set d (.tuple #[vi (ZH m a),vb (bQ m a 0).isSome])) H):(aR.raw (.lookup T x y true) ty).m P d next σ H:=by
 obtain⟨B,z,D,A,F⟩:=C.ex;refine YX (by simp[Op.operands,k,q]) (s:=Instr.lookup T (.map (some r)) (kv a) true) (by simp[execOp,aN,k,q]) ?_;simp only[Instr.lookup,Ze,ZA w];refine⟨_,_,⟨e,u⟩,rfl,rfl,?_⟩;rw[Zu,bD];simp only[Ze,Zi];refine t.uM _ _ ?_;refine t.uH m a ?_;have:=L5 m a 0;cases hf:bQ m a 0 with
 | none=>
  rw[hf]at this h;simp only at this ⊢;simp only[Ze,Uu z A,Zi,qAH];rw[this];exact h
 | some p=>
  rw[hf]at this h;simp only at this ⊢;simp only[Ze,Zi,qAH];rw[this];exact h
end
section
variable{α:Type}[DecidableEq α]
def ZvP(m:List (α×Int))(a b:α)(w:Int)(h:b≠a):∀i,bQ (bV m a w) b i=none↔bQ m b i=none:=by
 induction m with
 | nil=>intro i;simp[bV,bQ,h]
 | cons p r ih=>
  obtain⟨k,v⟩:=p;intro i;rw[bV];by_cases e:a=k
  ·rw[BY e,bQ,bQ];subst e;rw[bY h,bY h]
  rw[bY e,bQ,bQ];by_cases c:b=k
  ·rw[BY c,BY c]
  rw[bY c,bY c];exact ih (i+1)
end
def MR(m:List (iY×Int)):Prop:=∀k,bQ m k 0≠none->ZH m k=oM k
def KW{H:Hp}(h:H r=some (o,true)):H=H.ins r o:=by
 refine Hp.ext' (λc=>?_) rfl;by_cases e:c=r
 ·subst e;rw[Hp.aD,h]
 rw[Hp.aE _ _ e]
def _root_.Go.LL.aC.insM{H:Hp}{a:Addr}{k:List Value}{m:List (iY×Int)}(h:aC H a k)(u:H r=some (Zu fS m,true)):k=[]\/aC (H.ins r o) a k:=by
 obtain⟨t,w,p,q,s⟩:=h;by_cases e:a.block=r
 ·cases k with
  | nil=>exact .inl rfl
  | cons c k=>
   exfalso;have:=s 0 (by simp);rw[e]at q;rw[u]at q;simp only[aT,qAL]at q;rw[<-q.1]at this;simp[Zu,Obj.fT]at this
 exact .inr ⟨t,w,p,by rw[Hp.aE _ _ e];exact q,s⟩
def Zj.insM{α:Type}[Enc α]{H:Hp}{l:List α}{m:List (iY×Int)}(h:Zj H v l)(k:0<Enc.sz α)(B:H r=some (Zu fS m,true)):Zj (H.ins r o) v l:=by
 obtain⟨A,c,w,z⟩:=h;refine⟨A,c,w,λq=>?_⟩;obtain⟨a,s,t⟩:=z q;rcases t.insM B with e | u
 ·exfalso;have p:=UC l;rw[e]at p;have p:0=l.length * Enc.sz α:=p;have D:=Nat.mul_pos (qCR.2 q) k;omega
 exact⟨a,s,u⟩
def ZJ.insM{H:Hp}{m:List (iY×Int)}(h:ZJ H v f)(c:H r=some (Zu fS m,true)):ZJ (H.ins r o) v f:=by obtain⟨e,c1,k,c2,p,c3,q,s,t,u⟩:=h;exact⟨e,c1,k,c2,p,c3,q,s.insM (show 0<3 by decide) c,t.insM (show 0<4 by decide) c,u.insM (show 0<3 by decide) c⟩
section
variable{P:aY}[Tz P][Loud P]{H:Hp}
def Zqv(n:Nat)(C:n<=3000000):LL.Za P 242 #[vi n] H λv e=>H=e/\v=vi (OP n):=by
 refine aI.m (bG Zx7) rfl ?_;unfold Ix;refine Y ?_;refine ZF n (λj e=>H=e/\wY n (n-j) j=OP n) (λj=>[(0,vi n),(3,vi j)]) (λ_=>[]) ⟨rfl,rfl⟩ V trivial ?_;rintro j _ A ⟨rfl,t⟩;have B:(j+1) * (j+1)<=3000001 * 3000001:=qBN O O;have s:((j:Int)+1) * ((j:Int)+1)=(((j+1) * (j+1):Nat):Int):=by rw[qCJ];rfl
 refine Y ?_;refine VA rfl rfl (by rw[s];exact⟨O,O⟩) ?_;rw[s];generalize u:(j+1) * (j+1)=q at *;refine OJ (λw=>?_) (λw=>?_)
 ·have h:q<=n:=O;have z:j<n:=by have:=Nat.le_mul_of_pos_left (j+1) (show 0<j+1 by omega);omega
  have p:wY n (n-(j+1)) (j+1)=OP n:=by
   rw[<-t,show n-j=(n-(j+1))+1 by omega];show _=if _ then _ else _
   rw[u,BY h]
  refine Y ?_;exact⟨⟨j+1,O⟩,cZ O,⟨rfl,p⟩,V,trivial,rfl⟩
 have c:OP n=j:=by
  rw[<-t];cases hk:n-j with
  | zero=>rfl
  | succ k=>
   show(if _ then _ else _)=j;rw[u,bY O]
 refine Y ?_;exact⟨rfl,by rw[c];rfl⟩
def Zp2{k:iY}{m:List (iY×Int)}(s:H r=some (Zu fS m,true))(q:MR m)(c:(-959<=k.h/\k.h<=959)/\(-959<=k.b/\k.b<=959)):LL.Za P 241 #[.map (some r),fS k] H λv z=>(∃u,MR u/\z=H.ins r (Zu fS u))/\v=vi (oM k):=by
 refine aI.m (bG Zx8) rfl ?_;unfold Iw;refine Y ?_;refine ZtE (bL Qo) Cq (bH t3) (m:=m) (a:=k) rfl rfl s (OL _) ?_;cases hf:bQ m k 0 with
 | some p=>
  have C:=q k (by rw[hf];simp);rw[C];refine Y ?_;exact⟨⟨m,q,KW s⟩,rfl⟩
 | none=>
  have G:=O1 c.1 c.1;have I:=O1 c.2 c.2;have D:0<=k.h * k.h:=by
   have:k.h * k.h=((k.h.natAbs * k.h.natAbs:Nat):Int):=by rw[qCJ];exact(Int.natAbs_mul_self' k.h).symm
   omega
  have F:0<=k.b * k.b:=by
   have:k.b * k.b=((k.b.natAbs * k.b.natAbs:Nat):Int):=by rw[qCJ];exact(Int.natAbs_mul_self' k.b).symm
   omega
  have es:oM k=(OP (k.h * k.h+k.b * k.b).toNat:Nat):=rfl;refine Y ?_;refine VA rfl rfl ⟨O,O⟩ (Y ?_);refine VA rfl rfl ⟨O,O⟩ ?_;have A:k.h * k.h+k.b * k.b=((k.h * k.h+k.b * k.b).toNat:Int):=O;generalize(k.h * k.h+k.b * k.b).toNat=n at *;refine Y ?_;rw[A];refine Zl (vs:=[vi n]) (Zqv n O) ?_;rw[<-es];refine Y ?_;refine Je (bL Qo) Cq (m:=m) (a:=k) (w:=oM k) rfl rfl rfl s (OL _) (Y ?_);refine⟨⟨bV m k (oM k),λt B=>?_,rfl⟩,rfl⟩;rw[ED];by_cases e:t=k
  ·rw[BY e,e]
  rw[bY e];exact q t λh=>B ((ZvP m k t _ e 0).2 h)
def Ly{k:iY}(c:(-959<=k.h/\k.h<=959)/\(-959<=k.b/\k.b<=959)):0<=oM k/\oM k<=1839362:=by have m:=O1 c.1 c.1;have p:=O1 c.2 c.2;have:=Ni (k.h * k.h+k.b * k.b).toNat (k.h * k.h+k.b * k.b).toNat 0 (qBg _);have e:oM k=(OP (k.h * k.h+k.b * k.b).toNat:Nat):=rfl;rw[e];unfold OP;omega
def UR(l:List e9)(r:R5)(i:Nat):iY:=⟨(nR l (i+1)).h-(nR l i).h,max (r.get i-r.get (i+1)) (r.get (i+1)-r.get i)⟩
def V4(l:List e9)(r:R5)(a:Nat):Nat->Int
 | 0=>0
 | k+1=>V4 l r a k+oM (UR l r (a+k))
def Lx{r:R5}(c:YB l)(e:r.Ok)(p:i+1<l.length):(-959<=(UR l r i).h/\(UR l r i).h<=959)/\(-959<=(UR l r i).b/\(UR l r i).b<=959):=by have q:=c.n;have k:=Yy c (show i<l.length by omega);have m:=Yy c p;have s:=k.2.1;have t:=m.2.1;have u:=e i O;have w:=e (i+1) O;unfold UR;rw[k.1,m.1];simp only;omega
def Ce{l:List e9}{r:R5}(c:YB l)(e:r.Ok){a:Nat}:∀k,a+k<l.length->0<=V4 l r a k/\V4 l r a k<=k * 1839362
 | 0,_=>by simp[V4]
 | k+1,h=>by have:=Ce c e k (a:=a) O;have:=Ly (Lx c e (i:=a+k) O);rw[V4];omega
def Zvl{r:R5}{a k:Nat}{m:List (iY×Int)}(C:ZJ H v f)(u:YB f.pt)(w:r.Ok)(F:H rm=some (Zu fS m,true))(W:MR m)(X:a+k<f.pt.length) :
  LL.Za P 239 #[v,.map (some rm),YW r,vi a,vi ((a+k:Nat):Int)] H λv z=>(∃c,MR c/\z=H.ins rm (Zu fS c))/\v=vi (V4 f.pt r a k):=by
 have Z:=C;obtain⟨L,c1,M,c2,N,c3,rfl,U,h2,h3⟩:=C;have hn:=u.n;refine aI.m (bG Zx9) rfl ?_;unfold Iv;refine Y ?_;refine ZF k (λj z=>∃c,MR c/\z=H.ins rm (Zu fS c)) (λj=>[(1,.map (some rm)),(4,vi ((a+k:Nat):Int)),(5,vi 0),(7,vi 0),(11,vi (V4 f.pt r a j)),(12,vi ((a+j:Nat):Int))]) (λ_=>[(5,[vi f.pk,.slice L f.pt.length c1,.slice M f.tp.length c2,.slice N f.sk.length c3]),(7,r.cells)]) ⟨m,W,KW F⟩ V V ?_;rintro j _ hj ⟨c,q,rfl⟩;refine OJ (λS=>?_) (λS=>?_)
 ·have kP:j<k:=O;have e:a+j+1<f.pt.length:=O;have I:=Yy u (show a+j<f.pt.length by omega);have J:=Yy u e;have p0:=I.2.1;have p1:=J.2.1;have r0:=w (a+j) O;have r1:=w (a+j+1) O;have D:=Lx u w e;have G:=Ce u w j (a:=a) O;have hsd:=Ly D;have t:=U.insM (o:=Zu fS c) (show 0<3 by decide) F;have p:UR f.pt r (a+j)=⟨f.pt[a+j+1].h-f.pt[a+j].h,max (r.get (a+j)-r.get (a+j+1)) (r.get (a+j+1)-r.get (a+j))⟩:=by unfold UR;rw[I.1,J.1]
  have R:V4 f.pt r a (j+1)=V4 f.pt r a j+oM (UR f.pt r (a+j)):=rfl;refine Y ?_;refine Zo (a+j+1) t e λQ B=>Y ?_;refine Zg (OL _) rfl (by rw[add_zero];exact Z2 (cs:=[vi f.pt[a+j+1].h]) (ds:=[vi f.pt[a+j+1].lo,vi f.pt[a+j+1].hi]) B) (Y ?_);refine Zo (a+j) t O λQ B=>Y ?_;refine Zg (OL _) rfl (by rw[add_zero];exact Z2 (cs:=[vi (f.pt[a+j]'O).h]) (ds:=[vi (f.pt[a+j]'O).lo,vi (f.pt[a+j]'O).hi]) B) (Y ?_);refine VB (j:=a+j) rfl rfl O (Y ?_);refine VN (OL _) rfl rfl (OR r (j:=a+j) O) (Y ?_);refine VB (j:=a+j+1) rfl rfl O (Y ?_);refine VN (OL _) rfl rfl (OR r (j:=a+j+1) O) (Y ?_);refine VB (j:=a+j+1) rfl rfl O (Y ?_);refine VN (OL _) rfl rfl (OR r (j:=a+j+1) O) (Y ?_);refine VB (j:=a+j) rfl rfl O (Y ?_);refine VN (OL _) rfl rfl (OR r (j:=a+j) O) (Y ?_);refine CD rfl rfl (Y ?_);refine Zf (vs:=[.map (some rm),fS ⟨f.pt[a+j+1].h-f.pt[a+j].h,max (r.get (a+j)-r.get (a+j+1)) (r.get (a+j+1)-r.get (a+j))⟩]) (Zp2 (Hp.aD _ _ _) q (by rw[<-p];exact D)) ?_;rintro v _ ⟨⟨m2,A,rfl⟩,rfl⟩;refine Zr OL ?_;rw[<-p];generalize oM (UR f.pt r (a+j))=s at *;refine Y ?_;exact⟨⟨j+1,O⟩,cZ O,⟨m2,A,YD⟩,⟨rfl,rfl,rfl,rfl,by rw[R];rfl,rfl,trivial⟩,V,rfl⟩
 have:j=k:=O;subst this;refine Y ?_;exact⟨⟨c,q,rfl⟩,rfl⟩
end
def rJ(l:List e9)(r:R5)(t:n7):Bool:=decide (t.lo<=V4 l r t.fr.toNat (t.to-t.fr).toNat/\V4 l r t.fr.toNat (t.to-t.fr).toNat<=t.hi)
def tO(l:List e9)(r:R5)(k:jR):Bool:=decide (k.lg<=lW l r k.h) == k.iH
def U0(f:fZ)(r:R5):Bool:=f.tp.all (rJ f.pt r) && f.sk.all (tO f.pt r)
section
variable{P:aY}[Tz P][Loud P]{H:Hp}
def Zvy{r:R5}{m:List (iY×Int)}(hf:ZJ H v f)(M:nM f)(hr:r.Ok)(R:H rm=some (Zu fS m,true))(hM:MR m) :
  LL.Za P 223 #[v,.map (some rm),YW r] H λv L=>(∃q,MR q/\L=H.ins rm (Zu fS q))/\v=vb (U0 f r):=by
 have Q:=hf;obtain⟨A1,c1,X,c2,Z,c3,rfl,h1,h2,h3⟩:=hf;have hp:=M.pt;have hn:=hp.n;refine aI.m (bG Zya) rfl ?_;unfold Iu;have rU:=M.tp.n;have hns:=M.sk.n;refine Y ?_;refine ZF f.tp.length (λj L=>(∃q,MR q/\L=H.ins rm (Zu fS q))/\(f.tp.take j).all (rJ f.pt r)=true) (λj=>[(1,.map (some rm)),(3,vi 0),(5,vi 0),(13,.slice X f.tp.length c2),(14,vi f.tp.length),(15,vi j)]) (λ_=>[(3,[vi f.pk,.slice A1 f.pt.length c1,.slice X f.tp.length c2,.slice Z f.sk.length c3]),(5,r.cells)]) ⟨⟨m,hM,KW R⟩,by simp⟩ V V ?_;rintro j _ hj ⟨⟨q,D,rfl⟩,C⟩;refine OJ (λg1=>?_) (λg1=>?_)
 ·have A:j<f.tp.length:=O;obtain⟨⟨t1,t2⟩,t3,t4⟩:=M.tp.t _ (qAa A);have G:=ER (f:=rJ f.pt r) A;have I:=EQ (f:=rJ f.pt r) A;refine Y ?_;refine Zo j (h2.insM (o:=Zu fS q) (show 0<4 by decide) R) A λa ha=>?_;have J:rJ f.pt r f.tp[j]=decide (f.tp[j].lo<=V4 f.pt r f.tp[j].fr.toNat (f.tp[j].to-f.tp[j].fr).toNat/\V4 f.pt r f.tp[j].fr.toNat (f.tp[j].to-f.tp[j].fr).toNat<=f.tp[j].hi):=rfl;generalize dJ:rJ f.pt r f.tp[j]=B at *;generalize f.tp[j]=t at *;obtain⟨U,ea⟩:∃U:Nat,t.fr=U:=⟨t.fr.toNat,O⟩;obtain⟨k0,ek⟩:∃k0:Nat,t.to=((U+k0:Nat):Int):=⟨(t.to-t.fr).toNat,O⟩;have e1:t.fr.toNat=U:=O;have e2:(t.to-t.fr).toNat=k0:=O;rw[e1,e2]at J;refine Y ?_;refine ZL (cs:=[vi t.fr,vi t.to,vi t.lo,vi t.hi]) ha ?_;rw[ea,ek];refine Y ?_;refine Zf (vs:=[.agg #[vi f.pk,.slice A1 f.pt.length c1,.slice X f.tp.length c2,.slice Z f.sk.length c3],.map (some rm),YW r,vi U,vi ((U+k0:Nat):Int)]) (Zvl (Q.insM R) hp hr (Hp.aD _ _ _) D O) ?_;rintro v _ ⟨⟨m2,N,rfl⟩,rfl⟩;refine Zr OL (Y ?_);refine Zl (vs:=[vi (V4 f.pt r U k0),vi t.lo,vi t.hi]) (sV _ _ _) (Y ?_);rw[YD];refine OI (λg2=>?_) (λg2=>?_)
  ·refine Y ?_;exact⟨⟨m2,N,rfl⟩,by rw[U0,I (by rw[J];exact qAy g2)];rfl⟩
  refine Y ?_;exact⟨⟨j+1,O⟩,cZ O,⟨⟨m2,N,rfl⟩,by rw[G,C,J,decide_eq_true g2];rfl⟩,V,V,rfl⟩
 have F:f.tp.all (rJ f.pt r)=true:=by rw[<-C,qAz O]
 refine Y ?_;refine ZF f.sk.length (λj L=>H.ins rm (Zu fS q)=L/\(f.sk.take j).all (tO f.pt r)=true) (λj=>[(3,vi 0),(5,vi 0),(38,.slice Z f.sk.length c3),(39,vi f.sk.length),(40,vi j)]) (λ_=>[(3,[vi f.pk,.slice A1 f.pt.length c1,.slice X f.tp.length c2,.slice Z f.sk.length c3]),(5,r.cells)]) ⟨rfl,by simp⟩ V V ?_;rintro i _ hi ⟨rfl,e⟩;refine OJ (λg3=>?_) (λg3=>?_)
 ·have z:i<f.sk.length:=O;obtain⟨s1,s2⟩:=M.sk.s _ (qAa z);have G:=ER (f:=tO f.pt r) z;have I:=EQ (f:=tO f.pt r) z;refine Y ?_;refine Zo i (h3.insM (o:=Zu fS q) (show 0<3 by decide) R) z λa ha=>?_;have J:tO f.pt r f.sk[i]=(decide (f.sk[i].lg<=lW f.pt r f.sk[i].h) == f.sk[i].iH):=rfl;generalize tO f.pt r f.sk[i]=B at *;generalize f.sk[i]=k at *;refine Y ?_;refine ZL (cs:=[vi k.h,vi k.lg,vb k.iH]) ha (Y ?_);refine Zl (vs:=[.agg #[vi f.pk,.slice A1 f.pt.length c1,.slice X f.tp.length c2,.slice Z f.sk.length c3],YW r,vi k.h]) (TY (Q.insM R) hp hr s1) ?_;refine Zr OL (Y ?_);refine ZtC rfl rfl (Y ?_);cases hb:(decide (k.lg<=lW f.pt r k.h) == k.iH)with
  | true=>
   rw[show(decide (k.lg<=lW f.pt r k.h) != k.iH)=false by rw[bne,hb];rfl];refine Y ?_;exact⟨⟨i+1,O⟩,cZ O,⟨rfl,by rw[G,e,J,hb];rfl⟩,V,V,rfl⟩
  | false=>
   rw[show(decide (k.lg<=lW f.pt r k.h) != k.iH)=true by rw[bne,hb];rfl];refine Y ?_;exact⟨⟨q,D,rfl⟩,by rw[U0,I (by rw[J];exact hb),Bool.and_false];rfl⟩
 have:i=f.sk.length:=O;subst this;rw[qAh]at e;refine Y ?_;exact⟨⟨q,D,rfl⟩,by rw[U0,F,e];rfl⟩
end
def fC{α:Type}(f:Int->List α)(e:Int):Nat->List α
 | 0=>[]
 | c+1=>f (e-c)++fC f e c
def Vk(f:fZ):Nat->R5->List R5
 | 0,m=>if U0 f m then[m]else[]
 | k+1,m=>fC (λv=>Vk f k (m.put (f.pt.length-(k+1)) v)) (nR f.pt (f.pt.length-(k+1))).hi ((nR f.pt (f.pt.length-(k+1))).hi-(nR f.pt (f.pt.length-(k+1))).lo+1).toNat
def ZN(f:fZ):List R5:=Vk f f.pt.length ⟨0,0,0,0,0⟩
def Ug(x:R5):List Value:=[YW x]
def sX(c e k h:Nat):Value:=.func (.func 222) #[] #[pt c,pt e,pt k,pt h]
structure tE(G:Hp)(bc:List Value)(rb rl rm ry rn:Nat)(y:Value):Prop where
 b:G rb=some (.cells bc.toArray 155,true)
 l:G rl=some (.cells #[.map (some rm)] 305,true)
 y:G ry=some (.cells #[y] 303,true)
 n:G rn=some (.cells #[sX rb rl ry rn] 306,true)
 m:∃m,MR m/\G rm=some (Zu fS m,true)
 d:rm≠rb/\rm≠rl/\rm≠ry/\rm≠rn
def tE.put{G:Hp}{c:List Value}{rb e p k:Nat}{y:Value}(h:tE G c rb e rm p k y){m:List (iY×Int)}(w:MR m):tE (G.ins rm (Zu fS m)) c rb e rm p k y:=by obtain⟨q,s,t,u⟩:=h.d;exact⟨by rw[Hp.aE _ _ (qAm q)];exact h.b,by rw[Hp.aE _ _ (qAm s)];exact h.l,by rw[Hp.aE _ _ (qAm t)];exact h.y,by rw[Hp.aE _ _ (qAm u)];exact h.n,⟨m,w,Hp.aD _ _ _⟩,h.d⟩
def Jx{m:R5}(h:m.Ok){v:Int}(q:0<=v/\v<=959):(m.put i v).Ok:=by
 intro j k;by_cases p:i<5
 ·rw[ZqU _ _ k p];split
  ·exact q
  exact h j k
 have:m.put i v=m:=by obtain⟨a,b,c,d,e⟩:=m;simp only[R5.put,bY (show ¬ i=0 by omega),bY (show ¬ i=1 by omega),bY (show ¬ i=2 by omega),bY (show ¬ i=3 by omega),bY (show ¬ i=4 by omega)]
 rw[this];exact h j k
theorem Zs4(m:R5)(i:Nat)(v w:Int):(m.put i v).put i w=m.put i w:=by obtain⟨a,b,c,d,e⟩:=m;simp only[R5.put,R5.mk.injEq];refine⟨?_,?_,?_,?_,?_⟩<;>split<;>rfl
section
variable{P:aY}[Tz P][Loud P]
def ZvC{J L M:Option Addr}{c1 c2 c3:Nat}{y:Value}{xs:List (List Value)}{I:Nat->Hp->Prop}{S:Hp->Prop}(hF:nM f)(hI:∀n,Up (I n))(hS:Up S)(hN:∀n H,I n H->ZJ H (.agg #[vi f.pk,.slice J f.pt.length c1,.slice L f.tp.length c2,.slice M f.sk.length c3]) f)
  (hy:∀n (hn:n<xs.length) H,I n H->bR P y (xs[n]).toArray H (λv u=>(v=.bool true/\I (n+1) u)\/(v=.bool false/\S u))) (W rl rm ry rn:Nat) :
  ∀(k:Nat) (m:R5) (rest:List (List Value)) (H G:Hp),k<=f.pt.length->m.Ok->tE G [vi f.pk,.slice J f.pt.length c1,.slice L f.tp.length c2,.slice M f.sk.length c3] W rl rm ry rn y->JG G (eS xs I ((Vk f k m).map Ug++rest)) H ->
   LL.Za P 222 #[YW m,vi (f.pt.length-k:Nat),pt W,pt rl,pt ry,pt rn] H λv u=>(v=vb true/\∃B,tE B [vi f.pk,.slice J f.pt.length c1,.slice L f.tp.length c2,.slice M f.sk.length c3] W rl rm ry rn y/\JG B (eS xs I rest) u)\/(v=vb false/\∃B,JG B S u):=by
 have wE:∀rest H,eS xs I rest H->ZJ H (.agg #[vi f.pk,.slice J f.pt.length c1,.slice L f.tp.length c2,.slice M f.sk.length c3]) f:=λrest H ⟨p,_,_,h⟩=>hN p H h
 have hp:=hF.pt
 have hn:=hp.n
 have aF:∀{B u c},JG B (eS xs I c) u->Zj u (.slice J f.pt.length c1) f.pt:=by intro B u c kP;obtain⟨B1,e1,B2,e2,B3,e3,e,hh,_⟩:=wE _ _ (kP.up (uP hI));simp only[Value.agg.injEq,qBe,qAD,Value.slice.injEq,qBP,true_and]at e;obtain⟨⟨rfl,rfl⟩,_⟩:=e;exact hh
 intro k
 induction k with
 | zero=>
  intro m rest H G hk hm N w;rw[Vk]at w;refine aI.m (bG WC) rfl ?_;unfold LO;refine Y ?_;refine Zg (OL _) rfl (by rw[add_zero];exact Z2 (ds:=[.slice L f.tp.length c2,.slice M f.sk.length c3]) (Un (ZE (w.inc _ _ N.b)) rfl)) ?_;refine OJ (λh1=>?_) (λh1=>?_);rotate_left
  ·exact absurd O h1
  refine Y ?_;refine Z5 (cs:=[vi f.pk,.slice J f.pt.length c1,.slice L f.tp.length c2,.slice M f.sk.length c3]) (OL _) rfl (ZE (w.inc _ _ N.b)) rfl (Y ?_);refine Zg (OL _) rfl (ZE (cs:=[.map (some rm)]) (w.inc _ _ N.l)) (Y ?_);obtain⟨m0,S3,SN⟩:=N.m;refine Zf (vs:=[.agg #[vi f.pk,.slice J f.pt.length c1,.slice L f.tp.length c2,.slice M f.sk.length c3],.map (some rm),YW m]) (Zvy (wE _ _ (w.up (uP hI))) hF hm (w.inc _ _ SN) S3) ?_;rintro v _ ⟨⟨m',hM',rfl⟩,rfl⟩;have D:=w.put (Zu fS m') SN;have AH:=N.put hM';cases hr:U0 f m with
  | false=>
   rw[hr]at D;refine Y ?_;exact .inl ⟨rfl,_,AH,D⟩
  | true=>
   rw[hr]at D;refine Y ?_;refine Zg (OL _) rfl (ZE (cs:=[y]) (D.inc _ _ AH.y)) (Y ?_);refine Yp (vs:=[YW m]) rfl rfl (JG.call (λH h=>eS.call (S:=S) hy h) D) ?_;rintro v H7 ⟨Hc,F,rfl,q1,q2,(⟨rfl,q3⟩ | ⟨rfl,q3⟩)⟩
   ·refine Y ?_;exact .inl ⟨rfl,_,AH,Hc,F,rfl,q1,q2,q3⟩
   refine Y ?_;exact .inr ⟨rfl,_,Hc,F,rfl,q1,q2,q3⟩
 | succ k ih=>
  intro m rest H G hk hm N w;rw[Vk]at w;have Q:f.pt.length-(k+1)<f.pt.length:=O;have nW:((f.pt.length-(k+1):Nat):Int)+1=(f.pt.length-k:Nat):=O;generalize f.pt.length-(k+1)=i at *;have SS:i<5:=O;obtain⟨I1,p1,p2,p3⟩:=Yy hp Q;rw[I1]at w;refine aI.m (bG WC) rfl ?_;unfold LO;have cb:∀{B u c},tE B [vi f.pk,.slice J f.pt.length c1,.slice L f.tp.length c2,.slice M f.sk.length c3] W rl rm ry rn y->JG B (eS xs I c) u->aC u ((((⟨W,0,none⟩:Addr).add 0)).add 1) [.slice J f.pt.length c1]:=by intro B u c hf' kP;rw[add_zero];exact Z2 (ds:=[.slice L f.tp.length c2,.slice M f.sk.length c3]) (Un (ZE (kP.inc _ _ hf'.b)) rfl)
  refine Y ?_;refine Zg (OL _) rfl (cb N w) ?_;refine OJ (λh1=>?_) (λh1=>?_)
  ·exact absurd h1 O
  refine Y ?_;refine Zg (OL _) rfl (cb N w) (Y ?_);refine Zo i (aF w) Q λa ha=>Y ?_;refine Zg (OL _) rfl (by rw[add_zero];exact Z2 (cs:=[vi f.pt[i].lo]) (ds:=[vi f.pt[i].hi]) (Un ha rfl)) (Y ?_);generalize iD:(f.pt[i].hi-f.pt[i].lo+1).toNat=A at w;refine Z4 (α:=R5×Hp) A (λq s u=>tE s.2 [vi f.pk,.slice J f.pt.length c1,.slice L f.tp.length c2,.slice M f.sk.length c3] W rl rm ry rn y/\(∀v,s.1.put i v=m.put i v)/\s.1.Ok /\
    JG s.2 (eS xs I ((fC (λv=>Vk f k (m.put i v)) f.pt[i].hi (A-q)).map Ug++rest)) u)
   (λq s=>[(1,vi i),(2,pt W),(3,pt rl),(4,pt ry),(5,pt rn),(6,vi 0),(8,vb false),(9,vi (f.pt[i].lo+q))]) (λ_ s=>[(6,s.1.cells)]) (m,G) ⟨N,λ_=>rfl,hm,w⟩ ⟨rfl,rfl,rfl,rfl,rfl,rfl,rfl,by simp[aL.set],trivial⟩ V ?_
  rintro q ⟨m',G3⟩ H3 hq ⟨C,R,hm',t⟩;simp only at C R hm' t;refine Y ?_;refine Zg (OL _) rfl (cb C t) (Y ?_);refine Zo i (aF t) Q λa ha=>Y ?_;refine Zg (OL _) rfl (Un (cs:=[vi f.pt[i].lo,vi f.pt[i].hi]) (Un ha rfl) rfl) ?_;refine OJ (λh2=>?_) (λh2=>?_)
  ·refine Y ?_;refine VB (j:=i) rfl rfl SS (Y ?_);refine CC (OL _) rfl rfl rfl rfl (by show 0+i * 1+1<=5;omega) rfl ?_;have zV:ZZ m'.cells (0+i * 1) [vi (f.pt[i].lo+q)]=(m.put i (f.pt[i].lo+q)).cells:=by rw[ZqT _ _ SS,R]
   have e5:ZZ m'.cells (0+i * 1) (Value.cells (vi (f.pt[i].lo+q))).toList=(m.put i (f.pt[i].lo+q)).cells:=zV;rw[e5];have CY:(m.put i (f.pt[i].lo+q)).Ok:=Jx hm ⟨O,O⟩;have e6:A-q=(A-(q+1))+1:=O;have e7:f.pt[i].hi-((A-(q+1):Nat):Int)=f.pt[i].lo+q:=O;rw[e6,fC,qBi,qAS,e7]at t;refine Y ?_;refine Zg (OL _) rfl (ZE (cs:=[sX W rl ry rn]) (t.inc _ _ C.n)) (Y ?_);rw[nW];refine Yp (vs:=[YW (m.put i (f.pt[i].lo+q)),vi (f.pt.length-k:Nat)]) rfl rfl (Yg U (ih (m.put i (f.pt[i].lo+q)) _ H3 G3 O CY C t)) ?_;rintro v H5 (⟨rfl,G5,hf5,JD⟩ | ⟨rfl,G5,JD⟩)
   ·refine Y ?_;refine⟨(⟨q+1,O⟩,(m.put i (f.pt[i].lo+q),G5)),cZ O,⟨hf5,λv=>Zs4 _ _ _ _,CY,JD⟩,⟨rfl,rfl,rfl,rfl,rfl,rfl,rfl,?_,trivial⟩,V,rfl⟩;show some (vi (f.pt[i].lo+q+1))=some (vi (f.pt[i].lo+(q+1:Nat)));congr 2;omega
   refine Y ?_;exact .inr ⟨rfl,G5,JD⟩
  have e6:A-q=0:=O;rw[e6,fC,qBJ,qAn]at t;refine Y ?_;exact .inl ⟨rfl,G3,C,t⟩
end
