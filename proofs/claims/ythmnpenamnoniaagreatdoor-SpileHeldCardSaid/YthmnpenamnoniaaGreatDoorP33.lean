import Derived.Test.YthmnpenamnoniaaGreatDoorP24
import Derived.Test.YthmnpenamnoniaaGreatDoorP27
import Derived.Test.YthmnpenamnoniaaGreatDoorP29
import Derived.Test.YthmnpenamnoniaaGreatDoorP30
import Derived.Test.YthmnpenamnoniaaGreatDoorP32
set_option linter.all false
set_option maxHeartbeats 8000000
set_option maxRecDepth 100000
open Go Go.LL
namespace Go.Proofs
section
variable{f:fZ}{n a m p:Int}{v lv bv:Value}{l:List Int}{k:jR}{b:Bk}{c:gA}
def CL:Tryz.prog.underlying 73=some (.slice 29):=U
def QJ:ZU Tryz.prog 29=some (1,some (.slice none 0 0),24):=U
def yO(n:Nat)(l:List Int):Prop:=l.length=n/\∀x∈l,0<=x/\x<=959
def Vn(f:fZ)(i:Nat):List Int:=(List.range ((nR f.pt i).hi-(nR f.pt i).lo+1).toNat).map λ(t:Nat)=>(nR f.pt i).lo+t
def Vo(f:fZ):Nat->List (List Int)
 | 0=>[[]]
 | i+1=>(Vo f i).flatMap λl=>(Vn f i).map λn=>l++[n]
def Dh(v:YB f.pt){i:Nat}(h:i<f.pt.length):(Vn f i).length<=3:=by obtain⟨e,j,o,q⟩:=Yy v h;rw[Vn,qAe,qBK,e];omega
def XM{f:fZ}(v:YB f.pt):∀i,i<=f.pt.length->(Vo f i).length<=3 ^ i
 | 0,_=>by simp[Vo]
 | i+1,e=>by rw[Vo,qDb];exact qAE (L9 (k:=3) λl h=>by rw[qAe];exact Dh v O) (qBz _ (XM v i O))
def MB{f:fZ}(v:YB f.pt):∀i,i<=f.pt.length->∀l∈Vo f i,yO i l
 | 0,_,l,h=>by rw[Vo,iF]at h;subst h;exact⟨rfl,by simp⟩
 | i+1,z,l,h=>by
  rw[Vo,qCg]at h;obtain⟨m,w,h⟩:=h;obtain⟨n,o,rfl⟩:=qAj.1 h;obtain⟨s,u⟩:=MB v i O m w;refine⟨by simp[s],λx j=>?_⟩;rcases qAi.1 j with j | j
  ·exact u x j
  rw[iF.1 j];rw[Vn,qAj]at o;obtain⟨t,q,rfl⟩:=o;obtain⟨e,A,B,C⟩:=Yy v (show i<f.pt.length by omega);rw[qAU]at q;rw[e]at q ⊢;omega
section
variable{P:aY}[Tz P][Loud P]{H:Hp}
def ZqN(I:0<=n/\n<=4000000):LL.Za P 220 #[vi n] H λv t=>H=t/\∃k:Int,v=vi k/\0<=k/\k<=2097152:=by
 refine aI.m (bG Zyc) rfl ?_;unfold Em;refine Y ?_;refine Z4 1048576 (λj (k:Int) t=>H=t/\0<=k/\k+2 * (1048576-(j:Int))<=2097152) (λj k=>[(0,vi n),(3,vi k),(4,vi (1048576-(j:Int)))]) (λ_ _=>[]) 0 ⟨rfl,O,O⟩ V trivial ?_;rintro j k _ F ⟨rfl,z,C⟩;refine OJ (λA=>?_) (λA=>?_)
 ·obtain⟨q,D⟩:∃q:Int,q=1048576-(j:Int):=⟨_,rfl⟩;rw[<-D];have E:0<q/\q<=1048576:=O;have s:q.tdiv 2=q / 2:=qBt O;have o:∀i:Int,0<=i->i+2 * (q / 2)<=2097152->∃h:{ j:Nat // j<=1048576 }×Int,1048576-h.1.1<1048576-j/\(H=H/\0<=h.2/\h.2+2 * (1048576-(h.1.1:Int))<=2097152)/\h.2=i/\1048576-(h.1.1:Int)=q / 2:=λi z C=>⟨(⟨(1048576-q / 2).toNat,O⟩,i),by show 1048576-(1048576-q / 2).toNat<_;omega,⟨rfl,z,by show i+2 * (1048576-(((1048576-q / 2).toNat:Nat):Int))<=_;omega⟩,rfl,by show 1048576-(((1048576-q / 2).toNat:Nat):Int)=_;omega⟩;have G:0<=(k+q) * (k+q)/\(k+q) * (k+q)<=4398046511104:=by
   have e:(k+q) * (k+q)=(((k+q).toNat * (k+q).toNat:Nat):Int):=by rw[qCJ,Int.toNat_of_nonneg O]
   have:=qBN (show(k+q).toNat<=2097152 by omega) (show(k+q).toNat<=2097152 by omega);omega
  refine Y ?_;refine VA rfl rfl ⟨O,O⟩ ?_;refine OJ (λB=>?_) (λB=>?_)
  ·refine Y ?_;refine Uy rfl rfl (by decide) (by rw[s];exact⟨O,O⟩) ?_;rw[s];obtain⟨h,u,w,a3,x⟩:=o (k+q) O O;refine Y ?_;exact⟨h,u,w,⟨rfl,by rw[a3];rfl,by rw[x];rfl,trivial⟩,trivial,rfl⟩
  refine Y ?_;refine Uy rfl rfl (by decide) (by rw[s];exact⟨O,O⟩) ?_;rw[s];obtain⟨h,u,w,a3,x⟩:=o k O O;refine Y ?_;exact⟨h,u,w,⟨rfl,by rw[a3];rfl,by rw[x];rfl,trivial⟩,trivial,rfl⟩
 refine Y ?_;exact⟨rfl,k,rfl,z,O⟩
def ZqK{e:Int}(j:-919681<=n/\n<=919681)(hb:1<=e/\e<=959):LL.Za P 221 #[vi n,vi e] H λv h=>H=h/\∃k:Int,v=vi k/\-1000000<=k/\k<=1000000:=by
 refine aI.m (bG Zyb) rfl ?_;unfold It;have s:=Qf (b:=e) j;have t:-900000000<=n.tdiv e * e/\n.tdiv e * e<=900000000:=by have o:(n.tdiv e * e).natAbs=(n.tdiv e).natAbs * e.natAbs:=Int.natAbs_mul _ _;have q:(n.tdiv e).natAbs * e.natAbs<=919681 * 959:=qBN O O;omega
 refine Y ?_;refine Uy rfl rfl O ⟨O,O⟩ (Y ?_);refine VA rfl rfl ⟨O,O⟩ ?_;refine OJ (λi=>?_) (λi=>?_)
 ·refine Y ?_;exact⟨rfl,_,rfl,O,O⟩
 refine Y ?_;exact⟨rfl,_,rfl,O,O⟩
def ZqS{x:Int}(C:ZJ H v f)(q:YB f.pt)(o:Zj H lv l)(E:yO f.pt.length l)(R:VS f.pt<=x/\x<=VR f.pt):LL.Za P 187 #[v,lv,vi x] H λv t=>H=t/\∃k:Int,v=vi k:=by
 obtain⟨z,c1,A,c2,B,c3,rfl,u,L,M⟩:=C;refine aI.m (bG Zyk) rfl ?_;obtain⟨F,s⟩:=E;generalize f.pt=p at *;have Q:=q.n;have K:VR p=(p[p.length-1]'O).h:=qAQ e9.h (Z8 O _);have J:VS p=(p[0]'O).h:=qAQ e9.h (Z8 O _);have T:=(Yy q (show 0<p.length by omega)).2.1;have U:=(Yy q (show p.length-1<p.length by omega)).2.1;unfold Ee;refine Y ?_;refine ZF (p.length-2) (λj t=>H=t) (λj=>[(1,lv),(2,vi x),(3,vi 0),(6,vi 0),(7,vi j)]) (λ_=>[(3,[vi f.pk,.slice z p.length c1,.slice A f.tp.length c2,.slice B f.sk.length c3])]) rfl V V ?_;rintro j _ N rfl;have i:j+1<p.length:=O;refine Y ?_;refine Zo (j+1) u i λa e=>Y ?_;refine Zg (OL _) rfl (by rw[add_zero];exact Z2 (cs:=[vi p[j+1].h]) (ds:=[vi p[j+1].lo,vi p[j+1].hi]) e) ?_;refine OJ (λw=>?_) (λw=>?_)
 ·have D:j<p.length-2:=by
   rcases qAM j (p.length-2)with h | h
   ·exact h
   obtain rfl:j=p.length-2:=O;simp only[show p.length-2+1=p.length-1 by omega]at w;omega
  refine Y ?_;exact⟨⟨j+1,O⟩,cZ O,rfl,V,V,rfl⟩
 have rj:=s _ (qAa (show j<l.length by omega));have I:=s _ (qAa (show j+1<l.length by omega));have X:=(Yy q (show j<p.length by omega)).2.1;have Z:=(Yy q i).2.1;have up:=q.up j i;have G:=O1 (a:=(l[j+1]'O)-(l[j]'O)) (b:=x-p[j].h) ⟨O,O⟩ ⟨O,O⟩;refine Y ?_;refine Zo j u O λa e=>Y ?_;refine Zg (OL _) rfl (by rw[add_zero];exact Z2 (cs:=[vi (p[j]'O).h]) (ds:=[vi (p[j]'O).lo,vi (p[j]'O).hi]) e) (Y ?_);refine Zo (j+1) u i λa e=>Y ?_;refine Zg (OL _) rfl (by rw[add_zero];exact Z2 (cs:=[vi p[j+1].h]) (ds:=[vi p[j+1].lo,vi p[j+1].hi]) e) (Y ?_);refine Zo j o O λa e=>Y ?_;refine Z9 e (Y ?_);refine Zo (j+1) o O λa e=>Y ?_;refine Z9 e (Y ?_);refine Zo j o O λa e=>Y ?_;refine Z9 e (Y ?_);refine VA rfl rfl ⟨O,O⟩ (Y ?_);refine Zf (vs:=[vi (((l[j+1]'O)-(l[j]'O)) * (x-p[j].h)),vi (p[j+1].h-p[j].h)]) (ZqK G ⟨O,O⟩) ?_;rintro v _ ⟨rfl,k,rfl,k1,S⟩;refine Y ?_;exact⟨rfl,_,rfl⟩
def ZqQ{a k:Nat}(G:ZJ H v f)(x:YB f.pt)(t:Zj H lv l)(J:yO f.pt.length l)(F:a+k<f.pt.length):LL.Za P 186 #[v,lv,vi a,vi ((a+k:Nat):Int)] H λv i=>H=i/\∃k:Int,v=vi k:=by
 obtain⟨A,c1,B,c2,C,c3,rfl,D,N,Q⟩:=G;refine aI.m (bG Zyl) rfl ?_;obtain⟨K,q⟩:=J;generalize f.pt=p at *;have S:=x.n;unfold Ed;refine Y ?_;refine Z4 k (λj (s:Int) i=>H=i/\0<=s/\s<=j * 2097152) (λj s=>[(1,lv),(3,vi ((a+k:Nat):Int)),(4,vi 0),(8,vi 0),(9,vi s),(10,vi ((a+j:Nat):Int))]) (λ_ _=>[(4,[vi f.pk,.slice A p.length c1,.slice B f.tp.length c2,.slice C f.sk.length c3])]) 0 ⟨rfl,O,O⟩ V V ?_;rintro j s _ R ⟨rfl,s1,s2⟩;refine OJ (λE=>?_) (λE=>?_)
 ·have w:j<k:=O;have o:a+j+1<p.length:=O;have L:=Yy x (show a+j<p.length by omega);have M:=Yy x o;have Z:=L.2.1;have p1:=M.2.1;have r0:=q _ (qAa (show a+j<l.length by omega));have r1:=q _ (qAa (show a+j+1<l.length by omega));have m1:=O1 (a:=p[a+j+1].h-(p[a+j]'O).h) (b:=p[a+j+1].h-(p[a+j]'O).h) ⟨O,O⟩ ⟨O,O⟩;have T:=O1 (a:=(l[a+j+1]'O)-(l[a+j]'O)) (b:=(l[a+j+1]'O)-(l[a+j]'O)) ⟨O,O⟩ ⟨O,O⟩;have sq:∀z:Int,0<=z * z:=λz=>by
   rcases Int.le_total 0 z with h | h
   ·exact Int.mul_nonneg h h
   have:=Int.mul_nonneg (show 0<=-z by omega) (show 0<=-z by omega);rwa [Int.neg_mul_neg]at this
  have U:=sq (p[a+j+1].h-(p[a+j]'O).h);have X:=sq ((l[a+j+1]'O)-(l[a+j]'O));refine Y ?_;refine Zo (a+j+1) D o λu e=>Y ?_;refine Zg (OL _) rfl (by rw[add_zero];exact Z2 (cs:=[vi p[a+j+1].h]) (ds:=[vi p[a+j+1].lo,vi p[a+j+1].hi]) e) (Y ?_);refine Zo (a+j) D O λu e=>Y ?_;refine Zg (OL _) rfl (by rw[add_zero];exact Z2 (cs:=[vi (p[a+j]'O).h]) (ds:=[vi (p[a+j]'O).lo,vi (p[a+j]'O).hi]) e) (Y ?_);refine Zo (a+j+1) t O λu e=>Y ?_;refine Z9 e (Y ?_);refine Zo (a+j) t O λu e=>Y ?_;refine Z9 e (Y ?_);refine VA rfl rfl ⟨O,O⟩ (Y ?_);refine VA rfl rfl ⟨O,O⟩ (Y ?_);refine Zf (vs:=[vi ((p[a+j+1].h-(p[a+j]'O).h) * (p[a+j+1].h-(p[a+j]'O).h)+((l[a+j+1]'O)-(l[a+j]'O)) * ((l[a+j+1]'O)-(l[a+j]'O)))]) (ZqN ⟨O,O⟩) ?_;rintro v _ ⟨rfl,z,rfl,z1,z2⟩;refine Y ?_;refine D9 (I:=λj (s:Int) i=>H=i/\0<=s/\s<=j * 2097152) (env:=λj s=>[(1,lv),(3,vi ((a+k:Nat):Int)),(4,vi 0),(8,vi 0),(9,vi s),(10,vi ((a+j:Nat):Int))]) (box:=λ_ _=>[(4,[vi f.pk,.slice A p.length c1,.slice B f.tp.length c2,.slice C f.sk.length c3])]) (s+z) w ⟨rfl,O,O⟩ V V rfl
 refine Y ?_;exact⟨rfl,_,rfl⟩
def Zqq{t:n7}(o:ZJ H v f)(A:YB f.pt)(j:Zj H lv l)(x:yO f.pt.length l)(B:sF f.pt.length t):LL.Za P 135 #[v,lv,.agg #[vi t.fr,vi t.to,vi t.lo,vi t.hi]] H λv s=>H=s/\∃b,v=vb b:=by have i:=o;obtain⟨C,c1,D,c2,E,c3,rfl,F,G,I⟩:=o;refine aI.m (bG ZyB) rfl ?_;unfold Dm;obtain⟨⟨J,K⟩,t3,t4⟩:=B;obtain⟨e,u⟩:∃e:Nat,t.fr=e:=⟨t.fr.toNat,O⟩;obtain⟨k0,w⟩:∃k0:Nat,t.to=((e+k0:Nat):Int):=⟨(t.to-t.fr).toNat,O⟩;rw[u,w];refine Y ?_;refine Zf (vs:=[.agg #[vi f.pk,.slice C f.pt.length c1,.slice D f.tp.length c2,.slice E f.sk.length c3],lv,vi e,vi ((e+k0:Nat):Int)]) (ZqQ i A j x O) ?_;rintro v _ ⟨rfl,z,rfl⟩;refine Zr OL (Y ?_);refine Zl (vs:=[vi z,vi t.lo,vi t.hi]) (Ub _ _ _) (Y ?_);exact⟨rfl,_,rfl⟩
def ZqC(j:ZJ H v f)(t:YB f.pt)(i:Zj H lv l)(s:yO f.pt.length l)(q:sE f.pt k):LL.Za P 136 #[v,lv,.agg #[vi k.h,vi k.lg,vb k.iH]] H λv o=>H=o/\∃b,v=vb b:=by have e:=j;obtain⟨u,c1,w,c2,x,c3,rfl,A,B,C⟩:=j;refine aI.m (bG ZyA) rfl ?_;unfold Dn;refine Y ?_;refine Zf (vs:=[.agg #[vi f.pk,.slice u f.pt.length c1,.slice w f.tp.length c2,.slice x f.sk.length c3],lv,vi k.h]) (ZqS e t i s q.1) ?_;rintro v _ ⟨rfl,z,rfl⟩;refine Zr OL (Y ?_);refine ZtI rfl rfl (Y ?_);exact⟨rfl,_,rfl⟩
def ZqO(F:ZJ H v f)(e:nM f)(A:Zj H lv l)(G:yO f.pt.length l):LL.Za P 73 #[v,lv] H λv u=>H=u/\∃b,v=vb b:=by
 have w:=F;obtain⟨C,c1,D,c2,E,c3,rfl,T,K,L⟩:=F;refine aI.m (bG ZyU) rfl ?_;unfold Ev;have R:=e.tp.n;have Q:=e.sk.n;refine Y ?_;refine ZF f.tp.length (λj u=>H=u) (λj=>[(1,lv),(2,vi 0),(5,vi j)]) (λ_=>[(2,[vi f.pk,.slice C f.pt.length c1,.slice D f.tp.length c2,.slice E f.sk.length c3])]) rfl V V ?_;rintro j _ U rfl;refine OJ (λI=>?_) (λI=>?_)
 ·have z:j<f.tp.length:=O;have S:=e.tp.t _ (qAa z);refine Y ?_;refine Zo j K z λa B=>?_;generalize f.tp[j]=t at *;refine Y ?_;refine ZL (cs:=[vi t.fr,vi t.to,vi t.lo,vi t.hi]) B (Y ?_);refine Zf (vs:=[.agg #[vi f.pk,.slice C f.pt.length c1,.slice D f.tp.length c2,.slice E f.sk.length c3],lv,.agg #[vi t.fr,vi t.to,vi t.lo,vi t.hi]]) (Zqq w e.pt A G S) ?_;rintro v _ ⟨rfl,b,rfl⟩;cases b with
  | false=>
   refine Y ?_;exact⟨rfl,_,rfl⟩
  | true=>
   refine Y ?_;exact⟨⟨j+1,O⟩,cZ O,rfl,V,V,rfl⟩
 refine Y ?_;refine ZF f.sk.length (λj u=>H=u) (λj=>[(1,lv),(2,vi 0),(6,vi j)]) (λ_=>[(2,[vi f.pk,.slice C f.pt.length c1,.slice D f.tp.length c2,.slice E f.sk.length c3])]) rfl V V ?_;rintro i _ M rfl;refine OJ (λJ=>?_) (λJ=>?_)
 ·have x:i<f.sk.length:=O;have N:=e.sk.s _ (qAa x);refine Y ?_;refine Zo i L x λa B=>?_;generalize f.sk[i]=t at *;refine Y ?_;refine ZL (cs:=[vi t.h,vi t.lg,vb t.iH]) B (Y ?_);refine Zf (vs:=[.agg #[vi f.pk,.slice C f.pt.length c1,.slice D f.tp.length c2,.slice E f.sk.length c3],lv,.agg #[vi t.h,vi t.lg,vb t.iH]]) (ZqC w e.pt A G N) ?_;rintro v _ ⟨rfl,b,rfl⟩;cases b with
  | false=>
   refine Y ?_;exact⟨rfl,_,rfl⟩
  | true=>
   refine Y ?_;exact⟨⟨i+1,O⟩,cZ O,rfl,V,V,rfl⟩
 refine Y ?_;exact⟨rfl,_,rfl⟩
theorem ZqR(hf:ZJ H v f)(hF:nM f) :
  LL.Za P 21 #[v] H λv h=>bA H h/\∃A c n,v=.slice A n c:=by
 have hf0:=hf;have v:=hF.pt;have hn:=v.n;obtain⟨A1,c1,A2,c2,A3,c3,rfl,hp,_,_⟩:=hf;refine aI.m (bG Zy7) rfl ?_;unfold Fy;refine Y ?_;refine Z0 (cs:=[.slice none 0 0]) (OL _) rfl λR wB=>?_;have s0:Zj (H.ins R (.cells [Value.slice none 0 0].toArray 29)) (.slice (some ⟨R,0,none⟩) 1 1) [Value.slice none 0 0]:=M7;have l0:V9 (H.ins R (.cells [Value.slice none 0 0].toArray 29)) [Value.slice none 0 0] (Vo f 0):=(V9.nil _).tN (.nil _);have i0:bA H (H.ins R (.cells [Value.slice none 0 0].toArray 29)):=Zk wB;generalize H.ins R (.cells [Value.slice none 0 0].toArray 29)=H0 at *;refine Y ?_;refine Z4 (α:=Value×List Value) f.pt.length (λi s h=>bA H h/\Zj h s.1 s.2/\V9 h s.2 (Vo f i)) (λi s=>[(1,vi 0),(3,s.1),(4,vi i)]) (λ_ _=>[(1,[vi f.pk,.slice A1 f.pt.length c1,.slice A2 f.tp.length c2,.slice A3 f.sk.length c3])]) (.slice (some ⟨R,0,none⟩) 1 1,[.slice none 0 0]) ⟨i0,s0,l0⟩ V V ?_;rintro i ⟨v3,T⟩ D hi ⟨i1,S,l3⟩;simp only at S l3;have SP:=l3.len;have hml:=XM v i hi;have h81:3 ^ i<=3 ^ 5:=qAZ (by decide) O;refine OJ (λh1=>?_) (λh1=>?_)
 ·have B:i<f.pt.length:=O;have zS:=Dh v B;obtain⟨Z,p1,p2,p3⟩:=Yy v B;refine Y ?_;refine Z4 (α:=Hp×Value×List Value×Option Nat) T.length (λk s h=>bA D s.1/\bA s.1 h/\cS s.1 h 29 s.2.1 s.2.2.1 s.2.2.2/\V9 s.1 s.2.2.1 (((Vo f i).take k).flatMap λl=>(Vn f i).map λn=>l++[n]))
   (λk s=>[(1,vi 0),(3,v3),(4,vi i),(5,s.2.1),(6,vi k)]) (λ_ _=>[(1,[vi f.pk,.slice A1 f.pt.length c1,.slice A2 f.tp.length c2,.slice A3 f.sk.length c3])]) (D,.slice none 0 0,[],none) ⟨.refl D,.refl D,.nil _ _ _,.nil _⟩ V V ?_
  rintro k ⟨G,v5,ws,b5⟩ H2 hk ⟨X,K,o5,l5⟩;simp only at X K o5 l5;have hl5:=l5.len;have hwl:ws.length<=k * 3:=by rw[hl5];refine qAE (L9 (k:=3) λl hl=>by rw[qAe];exact zS) (qBz _ (by rw[qBu];omega))
  refine Y ?_;refine ZK (S.inc (X.trans K)) rfl ?_;refine OJ (λh2=>?_) (λh2=>?_)
  ·have j:k<T.length:=O;have o:k<(Vo f i).length:=O;have hft:=ZvK (f:=λl=>(Vn f i).map λn=>l++[n]) o;obtain⟨aAC,aAB⟩:=MB v i O (Vo f i)[k] (qAa o);have z:=l3.at_ k j o;generalize(Vo f i)[k]=l at *;generalize(List.flatMap (λl=>(Vn f i).map λn=>l++[n]) ((Vo f i).take k))=L at *;refine Y ?_;refine Zo i ((hp.inc i1).inc (X.trans K)) B λa u=>Y ?_;refine Zg (OL _) rfl (by rw[add_zero];exact Z2 (cs:=[vi f.pt[i].lo]) (ds:=[vi f.pt[i].hi]) (Un u rfl)) (Y ?_);have iD:(Vn f i).length=(f.pt[i].hi-f.pt[i].lo+1).toNat:=by rw[Vn,qAe,qBK,Z]
   refine Z4 (α:=Hp×Value×List Value×Option Nat) (Vn f i).length (λt s h=>bA D s.1/\bA s.1 h/\cS s.1 h 29 s.2.1 s.2.2.1 s.2.2.2/\V9 s.1 s.2.2.1 (L++((Vn f i).take t).map λn=>l++[n]))
    (λt s=>[(1,vi 0),(3,v3),(4,vi i),(5,s.2.1),(6,vi k),(7,vi (f.pt[i].lo+t))]) (λ_ _=>[(1,[vi f.pk,.slice A1 f.pt.length c1,.slice A2 f.tp.length c2,.slice A3 f.sk.length c3])]) (G,v5,ws,b5) ⟨X,K,o5,by simpa using l5⟩ ⟨rfl,rfl,rfl,rfl,rfl,by simp[aL.set],trivial⟩ V ?_
   rintro t ⟨G1,v6,I,b6⟩ U ht ⟨N,Q,o6,l6⟩;simp only at N Q o6 l6;have hl6:=l6.len;refine Y ?_;refine Zo i ((hp.inc i1).inc (N.trans Q)) B λa u=>Y ?_;refine Zg (OL _) rfl (Un (cs:=[vi f.pt[i].lo,vi f.pt[i].hi]) (Un u rfl) rfl) ?_;refine OJ (λh3=>?_) (λh3=>?_)
   ·have Xu:t<(Vn f i).length:=O;have Xv:(Vn f i)[t]=f.pt[i].lo+t:=by simp[Vn,Z]
    have Xr:(L++((Vn f i).take (t+1)).map λn=>l++[n])=(L++((Vn f i).take t).map λn=>l++[n])++[l++[f.pt[i].lo+t]]:=by rw[iO Xu,qBi,Xv,qAS];rfl
    have SA:I.length<=800:=by rw[hl6,IN,qAe,qBu];omega
    refine Y ?_;refine Oj (bL eW) (bH t3) (OL _) λr1 rS=>?_;have o7:cS U (U.ins r1 (.cells #[] 3)) 3 (.slice (some ⟨r1,0,none⟩) 0 0) ([]:List Int) (some r1):=NV rS;have q3:bA U (U.ins r1 (.cells #[] 3)):=Zk rS;generalize U.ins r1 (.cells #[] 3)=H4 at *;refine Y ?_;refine Zo k ((S.inc (N.trans Q)).inc q3) j λa u=>Y ?_;refine Z9 u (Y ?_);refine YN (l':=l) (bL eW) (bL eW) (bH t3) rfl (by decide) q3 o7 (z.inc ((N.trans Q).trans q3)) (KX l) (by simp;omega) O rfl rfl (OL _) λv8 H5 b8 q4 M _=>Y ?_;refine Z0 (cs:=[vi (f.pt[i].lo+t)]) (OL _) rfl λr2 SH=>Y ?_;refine YN (l':=[f.pt[i].lo+t]) (bL eW) (bL eW) (bH t3) rfl (by decide) (q4.trans (Zk SH)) (M.ins SH) Zu2 rfl (by simp;omega) O rfl rfl (OL _) λv9 H6 b9 q5 o9 _=>?_;rw[qAn]at o9;obtain⟨G2,w1,w2,w3,w4⟩:=Jq Q o6 q5 o9;obtain⟨A9,c9,rfl,_⟩:=id w4;refine Y ?_;refine Z0 (cs:=[.slice A9 (l++[f.pt[i].lo+↑t]).length c9]) (OL _) rfl λr3 x=>Y ?_;refine YN (l':=[Value.slice A9 (l++[f.pt[i].lo+↑t]).length c9]) (bL CL) (bL CL) (bH QJ) rfl (by decide) (w2.trans (Zk x)) (w3.ins x) M7 rfl (by simp;omega) O rfl rfl (OL _) λJ H7 E q6 F _=>Y ?_;refine⟨(⟨t+1,O⟩,(G2,J,I++[.slice A9 (l++[f.pt[i].lo+↑t]).length c9],E)),cZ O,⟨N.trans w1,q6,F,by rw[Xr];exact(l6.inc w1).tN w4⟩,⟨rfl,rfl,rfl,rfl,rfl,?_,trivial⟩,V,rfl⟩;show some (vi (f.pt[i].lo+t+1))=some (vi (f.pt[i].lo+(t+1:Nat)));congr 2;omega
   have:t=(Vn f i).length:=O;subst this;rw[qAh]at l6;refine Y ?_;exact⟨(⟨k+1,O⟩,(G1,v6,I,b6)),cZ O,⟨N,Q,o6,by rw[hft];exact l6⟩,V,V,rfl⟩
  have:k=T.length:=O;subst this;rw[qAz O]at l5;refine Y ?_;exact⟨(⟨i+1,O⟩,(v5,ws)),cZ O,⟨(i1.trans X).trans K,o5.sl,l5.inc K⟩,V,V,rfl⟩
 have:i=f.pt.length:=O;subst this;refine Y ?_;refine Z4 (α:=Value×List Value×Option Nat) T.length (λk s h=>bA D h/\cS D h 29 s.1 s.2.1 s.2.2/\s.2.1.length<=k) (λk s=>[(1,vi 0),(3,v3),(8,s.1),(9,vi k)]) (λ_ _=>[(1,[vi f.pk,.slice A1 f.pt.length c1,.slice A2 f.tp.length c2,.slice A3 f.sk.length c3])]) (.slice none 0 0,[],none) ⟨.refl _,.nil _ _ _,AT _⟩ V V ?_;rintro k ⟨v8,I,b8⟩ H2 hk ⟨C,M,SA⟩;simp only at M SA;refine Y ?_;refine ZK (S.inc C) rfl ?_;refine OJ (λh2=>?_) (λh2=>?_)
 ·have j:k<T.length:=O;have o:k<(Vo f f.pt.length).length:=O;have IW:=MB v f.pt.length (AT _) (Vo f f.pt.length)[k] (qAa o);have z:=l3.at_ k j o;generalize(Vo f f.pt.length)[k]=l at *;have Xn:∃w,w=T[k]:=⟨_,rfl⟩;obtain⟨w,hw⟩:=Xn;refine Y ?_;refine Zo k (S.inc C) j λa u=>?_;rw[<-hw]at u z;refine Y ?_;refine Z9 u (Y ?_);refine Zf (vs:=[.agg #[vi f.pk,.slice A1 f.pt.length c1,.slice A2 f.tp.length c2,.slice A3 f.sk.length c3],w]) (ZqO (hf0.inc (i1.trans C)) hF (z.inc C) IW) ?_;rintro v _ ⟨rfl,b,rfl⟩;cases b with
  | false=>
   refine Y ?_;exact⟨(⟨k+1,O⟩,(v8,I,b8)),cZ O,⟨C,M,by show I.length<=k+1;omega⟩,V,V,rfl⟩
  | true=>
   refine Y ?_;refine Zo k (S.inc C) j λa u=>?_;rw[<-hw]at u;refine Y ?_;refine Z9 u ?_;obtain⟨Aw,cw,rfl,_⟩:=id z;refine Y ?_;refine Z0 (cs:=[.slice Aw l.length cw]) (OL _) rfl λr3 x=>Y ?_;refine YN (l':=[Value.slice Aw l.length cw]) (bL CL) (bL CL) (bH QJ) rfl (by decide) (C.trans (Zk x)) (M.ins x) M7 rfl (by simp;omega) O rfl rfl (OL _) λJ H7 E q6 F _=>Y ?_;exact⟨(⟨k+1,O⟩,(J,I++[.slice Aw l.length cw],E)),cZ O,⟨q6,F,by simp;omega⟩,V,V,rfl⟩
 refine Y ?_;obtain⟨A,c,rfl,_⟩:=M.sl;exact⟨i1.trans C,_,_,_,rfl⟩
end
def Zqm:lO Tryz.prog 147=some ([("Height",3,0),("Breadth",56,1)],false):=U
def Zql:lO Tryz.prog 152=some ([("From",3,0),("To",3,1),("Girth",56,2)],false):=U
def Sa:lO Tryz.prog 71=some ([("Height",3,0),("Long",3,1),("Fits",4,2)],false):=U
def Zvr:uW Tryz.prog 147=false:=U
def Zvq:uW Tryz.prog 152=false:=U
def g71:uW Tryz.prog 71=false:=U
def a4f:Yi Tryz.prog 4=some none:=U
section
variable{P:aY}[Tz P]{H:Hp}{g:Bool}{d:Nat}
def Zti{cs:Array Value}{off:Nat}(h:cs[off]? = some v)(Q:Value->Bool->Hp->Prop):bD P.toPQ (part 4 cs off) Q g H↔Q v g H:=by simp only[part,Ze,sJ (pF (P:=P) a4f),dO,qAf,h,Zi]
def Zws{a b:Bool}(Q:Bool->Bool->Hp->Prop):bD P.toPQ (Op.equalIn (d+1) 4 (vb a) (vb b)) Q g H↔Q (a == b) g H:=by simp only[Op.equalIn,Ze,ZA (bL (P:=P) QE),Zi]
def Zww{a:e9}(Q:Bool->Bool->Hp->Prop)(i:Q true g H):bD P.toPQ (Op.equalIn (d+1+1+1) 147 (.agg #[vi a.h,vi a.lo,vi a.hi]) (.agg #[vi a.h,vi a.lo,vi a.hi])) Q g H:=by have w:∀(x y z:Int) (Q:Value->Bool->Hp->Prop) g H,bD P.toPQ (part 3 #[vi x,vi y,vi z] 0) Q g H↔Q (vi x) g H:=λx y z Q g H=>YL rfl Q;have A:∀(x y z:Int) (Q:Value->Bool->Hp->Prop) g H,bD P.toPQ (part 56 #[vi x,vi y,vi z] 1) Q g H↔Q (.agg #[vi y,vi z]) g H:=λx y z Q g H=>Js TM Q;obtain⟨D,E,o,⟨q,B,t⟩,⟨s,C,u⟩,j⟩:=xC (p:=P.toProgram) (by rw[Tz.prog (P:=P)];exact Zqm);rw[Op.equalIn];simp only[Ze,ZA o,Vu,j,dO,qAf,Zi];simp only[q,s,B,C,t,u,Ze,qBx,qBs,List.forIn_nil];simp[w,A,uK,Ab (.inr HO),Ze,Zi];exact i
def Zwv{a:n7}(Q:Bool->Bool->Hp->Prop)(h:Q true g H):bD P.toPQ (Op.equalIn (d+1+1+1) 152 (.agg #[vi a.fr,vi a.to,vi a.lo,vi a.hi]) (.agg #[vi a.fr,vi a.to,vi a.lo,vi a.hi])) Q g H:=by have B:∀(x y z u:Int) (Q:Value->Bool->Hp->Prop) g H,bD P.toPQ (part 3 #[vi x,vi y,vi z,vi u] 0) Q g H↔Q (vi x) g H:=λx y z u Q g H=>YL rfl Q;have C:∀(x y z u:Int) (Q:Value->Bool->Hp->Prop) g H,bD P.toPQ (part 3 #[vi x,vi y,vi z,vi u] 1) Q g H↔Q (vi y) g H:=λx y z u Q g H=>YL rfl Q;have D:∀(x y z u:Int) (Q:Value->Bool->Hp->Prop) g H,bD P.toPQ (part 56 #[vi x,vi y,vi z,vi u] 2) Q g H↔Q (.agg #[vi z,vi u]) g H:=λx y z u Q g H=>Js TM Q;obtain⟨G,I,f3,j,⟨o,E,t⟩,⟨q,F,w⟩,⟨s,t3,A⟩,i⟩:=Qw (p:=P.toProgram) (by rw[Tz.prog (P:=P)];exact Zql);rw[Op.equalIn];simp only[Ze,ZA j,Vu,i,dO,qAf,Zi];simp only[o,q,s,E,F,t3,t,w,A,Ze,qBx,qBs,List.forIn_nil];simp[B,C,D,uK,Ab (.inr HO),Ze,Zi];exact h
def Zwr{a:jR}(Q:Bool->Bool->Hp->Prop)(i:Q true g H):bD P.toPQ (Op.equalIn (d+1+1) 71 (.agg #[vi a.h,vi a.lg,vb a.iH]) (.agg #[vi a.h,vi a.lg,vb a.iH])) Q g H:=by have B:∀(x y:Int) (z:Bool) (Q:Value->Bool->Hp->Prop) g H,bD P.toPQ (part 3 #[vi x,vi y,vb z] 0) Q g H↔Q (vi x) g H:=λx y z Q g H=>YL rfl Q;have C:∀(x y:Int) (z:Bool) (Q:Value->Bool->Hp->Prop) g H,bD P.toPQ (part 3 #[vi x,vi y,vb z] 1) Q g H↔Q (vi y) g H:=λx y z Q g H=>YL rfl Q;have D:∀(x y:Int) (z:Bool) (Q:Value->Bool->Hp->Prop) g H,bD P.toPQ (part 4 #[vi x,vi y,vb z] 2) Q g H↔Q (vb z) g H:=λx y z Q g H=>Zti rfl Q;obtain⟨G,I,f3,o,⟨q,E,u⟩,⟨s,F,w⟩,⟨t,t3,A⟩,j⟩:=Qw (p:=P.toProgram) (by rw[Tz.prog (P:=P)];exact Sa);rw[Op.equalIn];simp only[Ze,ZA o,Vu,j,dO,qAf,Zi];simp only[q,s,t,E,F,t3,u,w,A,Ze,qBx,qBs,List.forIn_nil];simp[B,C,D,uK,Zws,Ze,Zi];exact i
end
theorem XC(v:Zw b):U1 b=true:=by have e:=v.n;have h:=v.lA;rw[U1,decide_eq_true (show b.aF.length<=20 by omega),decide_eq_true (show b.bJ.length<=20 by omega),decide_eq_true (A5 v)];rfl
def ZuR{e:gA}(v:Zw b)(q:Zw (ZM b c))(s:Zw (ZM b e))(o:e.p=c.p)(t:c.gl<=e.gl)(u:e.gh<=c.gh):UH (ZM b c) (ZM b e) where
 op:=rfl
 n:=rfl
 bd:=λ_ _=>⟨rfl,rfl,rfl⟩
 sub:=λx i=>by rw[T7 v s]at i;rw[T7 v q];obtain⟨j,h⟩:=qAq.1 i;refine qAq.2 ⟨j,?_⟩;simp only[uT,qAv]at h ⊢;rw[o]at h;omega
section
variable{P:aY}[Tz P][Loud P]{H:Hp}
theorem ZqP(A:ZJ H v f)(z:nM f):LL.Za P 24 #[v,.agg #[vi k.h,vi k.lg,vb k.iH]] H λv s=>bA H s/\ZJ s v (UQ f k):=by obtain⟨F,c1,G,c2,I,c3,rfl,u,w,x⟩:=A;refine aI.m (bG Zy4) rfl ?_;unfold Gb;have S:=z.sk.n;refine Y ?_;refine Oj (bL oB) (bH vV) (OL _) λo i=>?_;refine Zr OL ?_;have D:cS H (H.ins o (.cells #[] 71)) 71 (.slice (some ⟨o,0,none⟩) 0 0) ([]:List jR) (some o):=NV i;have t:bA H (H.ins o (.cells #[] 71)):=Zk i;generalize H.ins o (.cells #[] 71)=K at *;refine Y ?_;refine YN (l':=f.sk) (bL oB) (bL oB) (bH vV) rfl (by decide) t D (x.inc t) (Dg _) (by simp;omega) O rfl rfl (OL _) λV L N B E _=>?_;refine Zr OL (Y ?_);refine Z0 (cs:=[vi k.h,vi k.lg,vb k.iH]) (OL _) rfl λU j=>?_;refine Zr OL (Y ?_);refine YN (l':=[k]) (bL oB) (bL oB) (bH vV) rfl (by decide) (B.trans (Zk j)) (E.ins j) (YJ (l:=[k])) rfl (by simp;omega) O rfl rfl (OL _) λX M Q k1 C T=>?_;have q:=C.sl;rw[qAn]at q;obtain⟨J,R,rfl,_⟩:=id q;refine Y ?_;exact⟨k1,_,_,_,_,_,_,rfl,u.inc k1,w.inc k1,q⟩
def ZqM{u w:Value}(R:nM f)(hu:ZJ H u f)(hw:ZJ H w f):LL.Za P 23 #[u,w] H λv s=>H=s/\v=vb true:=by
 obtain⟨E,c1,F,c2,G,c3,rfl,S,T,a3⟩:=hu;obtain⟨I,L,J,M,K,N,rfl,U,X,Z⟩:=hw;refine aI.m (bG Zy5) rfl ?_;unfold Ga;have n1:=R.pt.n;have n2:=R.tp.n;have n3:=R.sk.n;have C:∀{z:Int},(!decide (z=z))=false:=λ{z}=>by rw[decide_eq_true rfl];rfl
 refine Y ?_;rw[C];refine Y ?_;rw[C];refine Y ?_;rw[C];refine Y ?_;rw[C];refine Y ?_;refine ZF f.pt.length (λj s=>H=s) (λj=>[(2,vi 0),(3,vi 0),(5,vi j)]) (λ_=>[(2,[vi f.pk,.slice E f.pt.length c1,.slice F f.tp.length c2,.slice G f.sk.length c3]),(3,[vi f.pk,.slice I f.pt.length L,.slice J f.tp.length M,.slice K f.sk.length N])]) rfl V V ?_;rintro j _ hj rfl;refine OJ (λg1=>?_) (λg1=>?_)
 ·have x:j<f.pt.length:=O;refine Y ?_;refine Zo j S x λa q=>Y ?_;refine ZL q (Y ?_);refine Zo j U x λa q=>Y ?_;refine ZL q (Y ?_);refine yI (b:=true) (xs:=#[vi f.pt[j].h,vi f.pt[j].lo,vi f.pt[j].hi]) (ys:=#[vi f.pt[j].h,vi f.pt[j].lo,vi f.pt[j].hi]) Zvr (λQ g H B=>Zww Q B) rfl rfl (Y ?_);exact⟨⟨j+1,O⟩,cZ O,rfl,V,V,rfl⟩
 refine Y ?_;refine ZF f.tp.length (λj s=>H=s) (λj=>[(2,vi 0),(3,vi 0),(6,vi j)]) (λ_=>[(2,[vi f.pk,.slice E f.pt.length c1,.slice F f.tp.length c2,.slice G f.sk.length c3]),(3,[vi f.pk,.slice I f.pt.length L,.slice J f.tp.length M,.slice K f.sk.length N])]) rfl V V ?_;rintro i _ D rfl;refine OJ (λg2=>?_) (λg2=>?_)
 ·have t:i<f.tp.length:=O;refine Y ?_;refine Zo i T t λa q=>Y ?_;refine ZL q (Y ?_);refine Zo i X t λa q=>Y ?_;refine ZL q (Y ?_);refine yI (b:=true) (xs:=#[vi f.tp[i].fr,vi f.tp[i].to,vi f.tp[i].lo,vi f.tp[i].hi]) (ys:=#[vi f.tp[i].fr,vi f.tp[i].to,vi f.tp[i].lo,vi f.tp[i].hi]) Zvq (λQ g H B=>Zwv Q B) rfl rfl (Y ?_);exact⟨⟨i+1,O⟩,cZ O,rfl,V,V,rfl⟩
 refine Y ?_;refine ZF f.sk.length (λj s=>H=s) (λj=>[(2,vi 0),(3,vi 0),(7,vi j)]) (λ_=>[(2,[vi f.pk,.slice E f.pt.length c1,.slice F f.tp.length c2,.slice G f.sk.length c3]),(3,[vi f.pk,.slice I f.pt.length L,.slice J f.tp.length M,.slice K f.sk.length N])]) rfl V V ?_;rintro k _ hk rfl;refine OJ (λg3=>?_) (λg3=>?_)
 ·have A:k<f.sk.length:=O;refine Y ?_;refine Zo k a3 A λa q=>Y ?_;refine ZL q (Y ?_);refine Zo k Z A λa q=>Y ?_;refine ZL q (Y ?_);refine yI (b:=true) (xs:=#[vi f.sk[k].h,vi f.sk[k].lg,vb f.sk[k].iH]) (ys:=#[vi f.sk[k].h,vi f.sk[k].lg,vb f.sk[k].iH]) g71 (λQ g H B=>Zwr Q B) rfl rfl (Y ?_);exact⟨⟨k+1,O⟩,cZ O,rfl,V,V,rfl⟩
 refine Y ?_;exact⟨rfl,rfl⟩
def Zz9{c:Int}(h:0<=a/\a<=c/\c<=959)(i:0<=n):LL.Za P 50 #[.agg #[vi a,vi c],vi n] H λv e=>H=e/\v=vi (a+n.tmod (c-a+1)):=by refine aI.m (bG ZxR) rfl ?_;unfold Hz;refine Y ?_;refine E0 rfl rfl O ?_;have:=NN (m:=c-a+1) i O;refine Y ?_;exact⟨rfl,rfl⟩
def Zpn{c:Int}:LL.Za P 80 #[vi a,vi c] H λv e=>H=e/\v=.agg #[vi a,vi c]:=by refine aI.m (bG ZyM) rfl ?_;unfold Ff;refine Y ?_;exact⟨rfl,rfl⟩
def ZAi(u:ZJ H v f)(e:YB f.pt)(s:0<=m/\m<65536):LL.Za P 26 #[v,.int .u16 m] H λv t=>H=t/\∃x,v=vi x/\VS f.pt<=x/\x<=VR f.pt:=by
 obtain⟨w,c1,z,c2,A,c3,rfl,o,D,E⟩:=u;refine aI.m (bG Zy2) rfl ?_;unfold Gd;generalize f.pt=p at *;have F:=e.n;have B:VS p=(p[0]'O).h:=qAQ e9.h (Z8 O _);have C:VR p=(p[p.length-1]'O).h:=qAQ e9.h (Z8 O _);have G:=(Yy e (show 0<p.length by omega)).2.1;have I:=(Yy e (show p.length-1<p.length by omega)).2.1;have mono:∀j (q:j<p.length),(p[0]'O).h<=p[j].h:=by
  intro j;induction j with
  | zero=>exact λ_=>qAA _
  | succ j ih=>intro q;have:=ih O;have:=e.up j q;omega
 have m0:=mono (p.length-1) O;have el:((p.length:Int)-1)=((p.length-1:Nat):Int):=O;refine Y ?_;refine Zo 0 o O λa i=>Y ?_;refine Zg (OL _) rfl (by rw[add_zero];exact Z2 (cs:=[vi (p[0]'O).h]) (ds:=[vi (p[0]'O).lo,vi (p[0]'O).hi]) i) (Y ?_);rw[el];refine Zo (p.length-1) o O λa i=>Y ?_;refine Zg (OL _) rfl (by rw[add_zero];exact Z2 (cs:=[vi (p[p.length-1]'O).h]) (ds:=[vi (p[p.length-1]'O).lo,vi (p[p.length-1]'O).hi]) i) (Y ?_);refine Uz (bL Tryz.underlying69) (bL Tryz.underlying3) rfl ?_;rw[Ud (show kQ m from⟨O,O⟩)];refine Y ?_;refine Zl (vs:=[vi (p[0]'O).h,vi (p[p.length-1]'O).h]) Zpn ?_;refine Zr OL (Y ?_);refine Zl (vs:=[.agg #[vi (p[0]'O).h,vi (p[p.length-1]'O).h],vi m]) (Zz9 ⟨O,O,O⟩ s.1) ?_;have:=NN (a:=m) (m:=(p[p.length-1]'O).h-(p[0]'O).h+1) s.1 O;refine Y ?_;exact⟨rfl,_,rfl,O,O⟩
def Zqw(hb:bK H bv b):LL.Za P 19 #[bv] H λv j=>H=j/\∃t,v=vb t/\(t=true->U1 b=true/\b.bJ.length<3):=by
 have i:=hb;obtain⟨_,_,rfl,⟨q,u,rfl,_⟩,⟨o,s,rfl,_⟩⟩:=hb;refine aI.m (bG Zza) rfl ?_;unfold Fv;refine Y ?_;refine Zl (vs:=[.agg #[vi b.op,vi b.sl,.slice q b.aF.length u,.slice o b.bJ.length s]]) (KH i) ?_;cases h:U1 b with
 | false=>
  refine Y ?_;exact⟨rfl,_,rfl,λe=>by simp at e⟩
 | true=>
  refine Y ?_;exact⟨rfl,_,rfl,λe=>⟨rfl,by have:=of_decide_eq_true e;omega⟩⟩
def KG(v:Zw b)(q:Zw (ZM b c))(hb:bK H bv b)(o:ZY H) :
  LL.Za P 41 #[bv,.agg #[vi c.p,vi c.gl,vi c.gh]] H λu j=>bA H j/\((0<nB (ZM b c)/\∃w,u=.tuple #[w,vi 0]/\bK j w (ZM b c))\/(¬ 0<nB (ZM b c)/\∃w,u=.tuple #[w,vi 9]/\bK j w J9)):=by
 have s:=v.n;have t:=v.lA;refine LL.Za.mono (WG hb o O O) ?_;rintro u j ⟨i,w,rfl,e⟩;refine⟨i,?_⟩;rw[ZwP v q]at e ⊢;by_cases h:0<nB (ZM b c)
 ·rw[UU h]at e ⊢;exact .inl ⟨h,w,rfl,e⟩
 rw[GA h]at e ⊢;exact .inr ⟨h,w,rfl,e⟩
theorem Zt6{w u o j:Int}(val:Zw b)(F:b.bJ.length<3)(hb:bK H bv b)(A:ZY H)(M:0<=p/\p<256)(K:0<=m/\m<256)(C:w<=o/\o<=j/\j<=u) :
  LL.Za P 28 #[bv,.int .u8 p,.agg #[vi w,vi u],.agg #[vi o,vi j],.int .u8 m] H λv G=>bA H G/\v=vb true:=by
 have hn:=val.n;have s:=hb;obtain⟨_,_,rfl,⟨S,X,rfl,_⟩,⟨R,V,rfl,_⟩⟩:=hb;refine aI.m (bG Zy0) rfl ?_;unfold Eo;refine Y ?_;refine Uz (bL Tryz.underlying5) (bL Tryz.underlying3) rfl ?_;rw[Ud (show kQ p from⟨O,O⟩)];refine Y ?_;refine E0 rfl rfl O ?_;obtain⟨i,Z,J⟩:=Qg (n:=b.aF.length) M.1 O;rw[J];refine Y ?_;rw[qAy (show ¬ o<w by omega)];refine Y ?_;rw[qAy (show ¬ o > j by omega)];refine Y ?_;rw[qAy (show ¬ j > u by omega)];refine Y ?_;refine Zl (vs:=[.agg #[vi w,vi u],vi (-199),vi 199]) (xP _ _ _ _) ?_;refine OJ (λE=>?_) (λE=>?_)
 ·refine Y ?_;exact⟨.refl _,rfl⟩
 have B:Zw (ZM b ⟨i,w,u⟩):=Qs val F ⟨by show(0:Int)<=(i:Int);omega,by show(i:Int)<_;omega⟩ E;have z:Zw (ZM b ⟨i,o,j⟩):=Qs val F ⟨by show(0:Int)<=(i:Int);omega,by show(i:Int)<_;omega⟩ ⟨by show -199<=o;omega,C.2.1,by show j<=199;omega⟩;have L:=ZuR val B z rfl C.1 C.2.2;refine Y ?_;refine Zf (vs:=[.agg #[vi b.op,vi b.sl,.slice S b.aF.length X,.slice R b.bJ.length V],.agg #[vi i,vi w,vi u]]) (KG (c:=⟨i,w,u⟩) val B s A) ?_;rintro v T ⟨q,⟨k1,Q,rfl,h⟩ | ⟨k1,Q,rfl,h⟩⟩
 ·obtain⟨_,_,rfl,⟨_,_,rfl,_⟩,⟨_,_,rfl,_⟩⟩:=id h;refine Y ?_;refine Zf (vs:=[.agg #[vi b.op,vi b.sl,.slice S b.aF.length X,.slice R b.bJ.length V],.agg #[vi i,vi o,vi j]]) (KG (c:=⟨i,o,j⟩) val z (s.inc q) (aC.inc A q)) ?_;rintro v I ⟨t,⟨x,D,rfl,e⟩ | ⟨x,D,rfl,e⟩⟩
  ·obtain⟨_,_,rfl,⟨_,_,rfl,_⟩,⟨_,_,rfl,_⟩⟩:=id e;refine Y ?_;refine Zv rfl (KH (h.inc t)) ?_;rintro v _ ⟨rfl,rfl⟩;rw[XC B];refine Y ?_;refine Zv rfl (KH e) ?_;rintro v _ ⟨rfl,rfl⟩;rw[XC z];refine Y ?_;rw[decide_eq_true (show((ZM b ⟨i,w,u⟩).aF.length:Int)=(b.aF.length:Int)from rfl)];refine Y ?_;rw[decide_eq_true (show((ZM b ⟨i,o,j⟩).aF.length:Int)=(b.aF.length:Int)from rfl)];refine Y ?_;refine Zv rfl (Zzt B z L x (h.inc t) e (aC.inc A (q.trans t)) K) ?_;rintro v U ⟨N,rfl⟩;refine Y ?_;exact⟨(q.trans t).trans N,rfl⟩
  obtain⟨_,_,rfl,⟨_,_,rfl,_⟩,⟨_,_,rfl,_⟩⟩:=id e;refine Y ?_;exact⟨q.trans t,rfl⟩
 obtain⟨_,_,rfl,⟨_,_,rfl,_⟩,⟨_,_,rfl,_⟩⟩:=id h;refine Y ?_;refine Zf (vs:=[.agg #[vi b.op,vi b.sl,.slice S b.aF.length X,.slice R b.bJ.length V],.agg #[vi i,vi o,vi j]]) (KG (c:=⟨i,o,j⟩) val z (s.inc q) (aC.inc A q)) ?_;rintro v I ⟨t,⟨x,D,rfl,e⟩ | ⟨x,D,rfl,e⟩⟩
 ·exact absurd (L.pos x) k1
 obtain⟨_,_,rfl,⟨_,_,rfl,_⟩,⟨_,_,rfl,_⟩⟩:=id e;refine Y ?_;exact⟨q.trans t,rfl⟩
theorem ZpI(K:P=PP){h:Int}(hb:bK H bv b)(hp:0<=p/\p<256)(hf:ZJ H v f)(hh:0<=h/\h<65536)(hm:0<=m/\m<256)(hg:ZY H)(q:aC H ⟨0,0,none⟩ [vf 261,vf 262,vf 263]) :
  KF.m P (sC P Mr λv _=>v=vb true) (VD [bv,.int .u8 p,v,.int .u16 h,.agg #[vi k.h,vi k.lg,vb k.iH],.int .u8 m]) H:=by
 have E:=hb;have i:=hf;obtain⟨_,_,rfl,⟨Ap,cp,rfl,_⟩,⟨Ac,cc,rfl,_⟩⟩:=hb;obtain⟨A1,c1,A2,c2,A3,c3,rfl,_,_,_⟩:=hf;have done:∀{V:Hp},bA H V->LL.Za P 7 #[] V λv _=>v=vb true:=λhi=>LL.Za.mono (ZpD K (aC.inc hg hi)) λv _ h=>h.2;unfold KF;refine Y ?_;refine Zv rfl (Zqw E) ?_;rintro v _ ⟨rfl,t,rfl,N⟩;cases t with
 | false=>
  refine Y ?_;refine Zf (vs:=[]) (done (.refl _)) ?_;rintro v X rfl;refine Y ?_;rfl
 | true=>
 obtain⟨Q,h3⟩:=N rfl;have val:=ZvO Q;refine Y ?_;refine Zv rfl (Zv8 i) ?_;rintro v _ ⟨rfl,t,rfl,N⟩;cases t with
 | false=>
  refine Y ?_;refine Zf (vs:=[]) (done (.refl _)) ?_;rintro v X rfl;refine Y ?_;rfl
 | true=>
 have D:=N rfl;have hn:=D.pt.n;refine Y ?_;refine Zv rfl (ZqR i D) ?_;rintro v X ⟨I,A,c,n,rfl⟩;refine OJ (λg1=>?_) (λg1=>?_)
 ·refine Y ?_;refine Zf (vs:=[]) (done I) ?_;rintro v H2 rfl;refine Y ?_;rfl
 refine Y ?_;refine Zv rfl (Zz1 (k:=k) (aC.inc q I) (i.inc I) O) ?_;rintro v H2 ⟨i2,⟨s,g2,rfl⟩ | ⟨C,w,rfl,hw⟩⟩
 ·refine OJ (λZ=>?_) (λZ=>?_)
  ·refine Y ?_;refine Zf (vs:=[]) (done (I.trans i2)) ?_;rintro v H3 rfl;refine Y ?_;rfl
  exact absurd Z g2
 have j:=I.trans i2;have J:wL f:=⟨D,λe=>by obtain⟨r,hr⟩:=List.exists_mem_of_ne_nil _ C.2;have:=Nl hr;rw[e]at this;simp at this⟩;have u:=hw;obtain⟨B1,d1,B2,d2,B3,d3,rfl,_,_,_⟩:=hw;refine Y ?_;refine Zv rfl (ZqP (k:=k) (i.inc j) D) ?_;rintro v H3 ⟨o,hv⟩;have R:=hv;obtain⟨C1,e1,C2,e2,C3,e3,rfl,_,_,_⟩:=hv;refine Zr OL (Y ?_);refine Zv rfl (ZqM C.1 (u.inc o) R) ?_;rintro v _ ⟨rfl,rfl⟩;refine Y ?_;refine Zv rfl (Dc (u.inc o) (by have:=C.1.pt.n;omega)) ?_;rintro v _ ⟨rfl,s,rfl,L⟩;have M:=L.2 C.1;subst M;refine Y ?_;refine Zv rfl (ZAi (i.inc (j.trans o)) D.pt hh) ?_;rintro v _ ⟨rfl,x,rfl,hx⟩;refine Y ?_;refine Zv rfl (T1 (aC.inc q (j.trans o)) (i.inc (j.trans o)) J hx) ?_;rintro v H4 ⟨U,xl,xh,rfl,T,S⟩;refine Y ?_;refine Zv rfl (T1 (aC.inc q ((j.trans o).trans U)) (u.inc (o.trans U)) C hx) ?_;rintro v H5 ⟨i5,yl,yh,rfl,G,F⟩;have B:=((j.trans o).trans U).trans i5;have sub:∀z,z∈(ZN (UQ f k)).map (λr=>lW (UQ f k).pt r x)->z∈(ZN f).map (λr=>lW f.pt r x):=λz hz=>by obtain⟨r,h1,h2⟩:=qAj.1 hz;exact qAj.2 ⟨r,Nl h1,h2⟩
 have q1:=T.2 _ (sub _ G.1);have q2:=S.2 _ (sub _ F.1);have q3:=G.2 _ F.1;refine Y ?_;refine Zv rfl (Zt6 val h3 (E.inc B) (aC.inc hg B) hp hm ⟨q1,q3,q2⟩) ?_;rintro v H6 ⟨i6,rfl⟩;refine Y ?_;refine Zf (vs:=[]) (done (B.trans i6)) ?_;rintro v H7 rfl;refine Y ?_;rfl
end
end
open Go.Conc Go.ConcM
open YthmnpenamnoniaaGreatDoor Go.ChangeShapes Go.WideShapes
def ZwW:Tryz.prog.cellsOf 4=1:=U
def ZwV:Tryz.prog.cellsOf 64=1:=U
def ZwU:Tryz.prog.cellsOf 65=1:=U
def ZwT:Tryz.prog.cellsOf 66=1:=U
def ZwS:Tryz.prog.cellsOf 68=4:=U
def Aq:Tryz.prog.cellsOf 71=3:=U
def An:Tryz.prog.cellsOf 147=3:=U
def Ao:Tryz.prog.cellsOf 152=4:=U
section
variable{H:Type}{enc:TypeId×Value->H}{W:World}{base:Nat}{sp:Nat->Bool}{held:Bool}{fuel:Nat}{cs:List Value}{y:DataW H×List MemPlace}{r:Reach}{b0:Nat}{v:Value}{d:DataW H}{ps:List MemPlace}
def Zzx(h:DataW.trod enc Tryz.prog W base sp held fuel 4 cs=some y):∃b,cs=[vb b]:=by obtain⟨b,h,_⟩:=DataW.trod_bool Tryz.underlying4 h;exact⟨b,h⟩
def ZvA(h:DataW.trod enc Tryz.prog W base sp held fuel 147 cs=some y):∃x:e9,cs=Enc.enc x:=by
 obtain⟨xs,n,rfl,_,u,w,t⟩:=DataW.trod_struct Tryz.underlying147 h;rw[An]at u;obtain⟨C,z⟩:=Yx (xs:=xs) (i:=0) (by rw[w];decide);obtain⟨D,A⟩:=Yx (xs:=xs) (i:=1) (by rw[w];decide);have q:DataW.trod enc Tryz.prog W base sp held n 3 ((cs.drop 0).take (Tryz.prog.cellsOf 3))=xs[0]?:=t 0 _ rfl;have s:DataW.trod enc Tryz.prog W base sp held n 56 ((cs.drop 1).take (Tryz.prog.cellsOf 56))=xs[1]?:=t 1 _ rfl;rw[z]at q;rw[A]at s;obtain⟨a,o⟩:=Ul q;obtain⟨b,c,hb⟩:=BB s;rw[sP]at o;rw[BM]at hb;have o:=Vf o;have e:=qAQ (·[0]?) hb;have j:=qAQ (·[1]?) hb;simp[qBo,qBp]at e j;refine⟨⟨a,b,c⟩,O5 u λi B=>?_⟩;match i,B with
 | 0,_=>exact o
 | 1,_=>exact e
 | 2,_=>exact j
def Zvt(h:DataW.trod enc Tryz.prog W base sp held fuel 152 cs=some y):∃x:n7,cs=Enc.enc x:=by
 obtain⟨xs,n,rfl,_,A,t,s⟩:=DataW.trod_struct Tryz.underlying152 h;rw[Ao]at A;obtain⟨F,B⟩:=Yx (xs:=xs) (i:=0) (by rw[t];decide);obtain⟨G,C⟩:=Yx (xs:=xs) (i:=1) (by rw[t];decide);obtain⟨I,D⟩:=Yx (xs:=xs) (i:=2) (by rw[t];decide);have u:DataW.trod enc Tryz.prog W base sp held n 3 ((cs.drop 0).take (Tryz.prog.cellsOf 3))=xs[0]?:=s 0 _ rfl;have w:DataW.trod enc Tryz.prog W base sp held n 3 ((cs.drop 1).take (Tryz.prog.cellsOf 3))=xs[1]?:=s 1 _ rfl;have z:DataW.trod enc Tryz.prog W base sp held n 56 ((cs.drop 2).take (Tryz.prog.cellsOf 56))=xs[2]?:=s 2 _ rfl;rw[B]at u;rw[C]at w;rw[D]at z;obtain⟨a,o⟩:=Ul u;obtain⟨g,q⟩:=Ul w;obtain⟨b,c,hb⟩:=BB z;rw[sP]at o q;rw[BM]at hb;have o:=Vf o;have q:=Vf q;have e:=qAQ (·[0]?) hb;have j:=qAQ (·[1]?) hb;simp[qBo,qBp]at e j;refine⟨⟨a,g,b,c⟩,O5 A λi E=>?_⟩;match i,E with
 | 0,_=>exact o
 | 1,_=>exact q
 | 2,_=>exact e
 | 3,_=>exact j
def Df(h:DataW.trod enc Tryz.prog W base sp held fuel 71 cs=some y):∃x:jR,cs=Enc.enc x:=by
 obtain⟨xs,n,rfl,_,w,q,o⟩:=DataW.trod_struct Tryz.underlying71 h;rw[Aq]at w;obtain⟨D,z⟩:=Yx (xs:=xs) (i:=0) (by rw[q];decide);obtain⟨E,A⟩:=Yx (xs:=xs) (i:=1) (by rw[q];decide);obtain⟨F,B⟩:=Yx (xs:=xs) (i:=2) (by rw[q];decide);have s:DataW.trod enc Tryz.prog W base sp held n 3 ((cs.drop 0).take (Tryz.prog.cellsOf 3))=xs[0]?:=o 0 _ rfl;have t:DataW.trod enc Tryz.prog W base sp held n 3 ((cs.drop 1).take (Tryz.prog.cellsOf 3))=xs[1]?:=o 1 _ rfl;have u:DataW.trod enc Tryz.prog W base sp held n 4 ((cs.drop 2).take (Tryz.prog.cellsOf 4))=xs[2]?:=o 2 _ rfl;rw[z]at s;rw[A]at t;rw[B]at u;obtain⟨a,e⟩:=Ul s;obtain⟨g,j⟩:=Ul t;obtain⟨b,hb⟩:=Zzx u;rw[sP]at e j;rw[ZwW]at hb;have e:=Vf e;have j:=Vf j;have hb:=Vf hb;refine⟨⟨a,g,b⟩,O5 w λi C=>?_⟩;match i,C with
 | 0,_=>exact e
 | 1,_=>exact j
 | 2,_=>exact hb
theorem Zv2(h:DataW.trod enc Tryz.prog W base sp held fuel 68 cs=some y):∃f:fZ,ZJ (lP W) (.agg cs.toArray) f:=by
 obtain⟨xs,n,rfl,_,C,t,s⟩:=DataW.trod_struct Tryz.underlying68 h;rw[ZwS]at C;obtain⟨T,K⟩:=Yx (xs:=xs) (i:=0) (by rw[t];decide);obtain⟨U,L⟩:=Yx (xs:=xs) (i:=1) (by rw[t];decide);obtain⟨V,M⟩:=Yx (xs:=xs) (i:=2) (by rw[t];decide);obtain⟨X,N⟩:=Yx (xs:=xs) (i:=3) (by rw[t];decide);have z:DataW.trod enc Tryz.prog W base sp held n 3 ((cs.drop 0).take (Tryz.prog.cellsOf 3))=xs[0]?:=s 0 _ rfl;have A:DataW.trod enc Tryz.prog W base sp held n 64 ((cs.drop 1).take (Tryz.prog.cellsOf 64))=xs[1]?:=s 1 _ rfl;have B:DataW.trod enc Tryz.prog W base sp held n 65 ((cs.drop 2).take (Tryz.prog.cellsOf 65))=xs[2]?:=s 2 _ rfl;have f3:DataW.trod enc Tryz.prog W base sp held n 66 ((cs.drop 3).take (Tryz.prog.cellsOf 66))=xs[3]?:=s 3 _ rfl;rw[K]at z;rw[L]at A;rw[M]at B;rw[N]at f3;obtain⟨a,q⟩:=Ul z;obtain⟨Q,e,D,G⟩:=A0 (α:=e9) Tryz.underlying64 An (show 0<3 by decide) (λh=>ZvA h) A;obtain⟨R,j,E,I⟩:=A0 (α:=n7) Tryz.underlying65 Ao (show 0<4 by decide) (λh=>Zvt h) B;obtain⟨S,o,F,J⟩:=A0 (α:=jR) Tryz.underlying66 Aq (show 0<3 by decide) (λh=>Df h) f3;obtain⟨u,c1,rfl,_⟩:=id G;obtain⟨w,c2,rfl,_⟩:=id I;obtain⟨x,c3,rfl,_⟩:=id J;rw[sP]at q;rw[ZwV]at e;rw[ZwU]at j;rw[ZwT]at o;have q:=Vf q;have e:=Vf e;have j:=Vf j;have o:=Vf o;refine⟨⟨a,D,E,F⟩,u,c1,w,c2,x,c3,?_,G,I,J⟩;have:cs=[vi a,.slice u D.length c1,.slice w E.length c2,.slice x F.length c3]:=O5 C λi O=>by
  match i,O with
  | 0,_=>exact q
  | 1,_=>exact e
  | 2,_=>exact j
  | 3,_=>exact o
 rw[this]
def Zv3(e:Value.okWide Tryz.prog W r b0 68 v)(i:DataW.Trod enc Tryz.prog W base sp held 68 v d ps):∃f:fZ,ZJ (lP W) v f:=by obtain⟨fuel,j⟩:=i;obtain⟨c,rfl⟩:=PH Tryz.underlying68 e;obtain⟨m,h⟩:=Zv2 j;exact⟨m,by simpa[Value.cells]using h⟩
def Zvv(e:Value.okWide Tryz.prog W r b0 71 v)(i:DataW.Trod enc Tryz.prog W base sp held 71 v d ps):∃k:jR,v=.agg #[vi k.h,vi k.lg,vb k.iH]:=by obtain⟨fuel,j⟩:=i;obtain⟨c,rfl⟩:=PH Tryz.underlying71 e;obtain⟨x,o⟩:=Df j;obtain⟨c⟩:=c;exact⟨x,by simpa[Value.cells,Enc.enc]using o⟩
def Zpg(e:Value.okWide Tryz.prog W r b0 69 v)(h:DataW.Trod enc Tryz.prog W base sp held 69 v d ps):∃n,v=.int .u16 n/\0<=n/\n<65536:=by obtain⟨n,rfl,_,_,i⟩:=open_int Tryz.underlying69 e h;simp only[Lit.wf,oR,qAv]at i;have j:IntKind.u16.min=0:=rfl;have o:IntKind.u16.max=65535:=rfl;exact⟨n,rfl,O,O⟩
end
