import Derived.Test.YtlhomfgcibjccaaGreatDoorP21
import Derived.Test.YtlhomfgcibjccaaGreatDoorP28
set_option linter.all false
set_option maxHeartbeats 8000000
set_option maxRecDepth 20000
open Go Go.LL
namespace Go.Proofs
variable{l:List Int}{j n:Nat}{b:Sb}{fv v:Value}{f:Nt->Bool}{t:N4}{N:Hp->Prop}
def ZhY{G:Prop} (h:G:=by refine Y ?_;rw[aT O]at e0;exact⟨⟨k+1,O⟩,bN O,⟨rfl,e0⟩,V,V,rfl⟩):G:=h
def ZiW(n:Nat){l:List Nt}(a:j<l.length):vC n (l.drop j)=if Vf n l[j]≠0 then Vf n l[j]else vC n (l.drop (j+1)):=by rw[yT a,vC]
section
variable{P:aX}[Tz P][Loud P]{H:Hp}
def Ztk(hb:Zr H b)(F:b.Sz):LL.Zc P 279 #[b.v] H λv s=>H=s/\v=vi (YU b):=by
 have Z:=F.nt;have E:=F.pk;refine aJ.m (bG Zwo) (args:=[b.v]) rfl ?_;unfold ZjL Sb.v;refine OJ (λJ=>?_) (λJ=>?_)
 ·refine Y ?_;exact⟨rfl,by rw[YU,iF O];rfl⟩
 refine Y ?_;refine Zv b.nt.length (λj s=>H=s/\vC b.pk.length b.nt=vC b.pk.length (b.nt.drop j)) (λj=>[(1,vi 0),(14,.slice b.A2 b.nt.length b.c2),(15,vi b.nt.length),(16,vi j)]) (λ_=>[(1,b.cs)]) ⟨rfl,rfl⟩ V V ?_;rintro j _ X ⟨rfl,u⟩;refine OJ (λK=>?_) (λK=>?_)
 ·have q:j<b.nt.length:=O;rw[ZiW _ q]at u;have z:=hb.ps b.nt[j] (bY q);have U:=F.ps b.nt[j] (bY q);refine Y ?_;refine Zz j hb.nt q λa R=>?_;generalize b.nt[j]=x at *;have stop:Vf b.pk.length x≠0->YU b=Vf b.pk.length x:=λh=>by rw[YU,aT O,u,iF h]
  have next:Vf b.pk.length x=0->vC b.pk.length b.nt=vC b.pk.length (b.nt.drop (j+1)):=λh=>by rw[u,aT (by rw[h];simp)]
  unfold Vf at stop next
  refine Y ?_;refine YA (cs:=[.slice x.A x.ps.length x.c,vi x.lo,vi x.hi]) R ?_;refine OJ (λL=>?_) (λL=>?_)
  ·refine Y ?_;exact⟨rfl,by rw[stop (by rw[iF O];simp),iF O];rfl⟩
  rw[aT O]at stop next
  refine Y ?_;refine Zv x.ps.length (λk s=>H=s/\n9 b.pk.length x.ps k=0) (λk=>[(1,vi 0),(4,vi 0),(14,.slice b.A2 b.nt.length b.c2),(15,vi b.nt.length),(16,vi j),(25,.slice x.A x.ps.length x.c),(26,vi x.ps.length),(27,vi k)]) (λ_=>[(1,b.cs),(4,[.slice x.A x.ps.length x.c,vi x.lo,vi x.hi])]) ⟨rfl,rfl⟩ V V ?_;rintro k _ T ⟨rfl,I⟩;refine OJ (λM=>?_) (λM=>?_)
  ·have w:k<x.ps.length:=O;have S:x.ps.getD k 0=x.ps[k]:=ZD w _;have p:n9 b.pk.length x.ps (k+1)≠0->YU b=n9 b.pk.length x.ps (k+1):=λh=>by have e:=Ae h x.ps.length O;rw[stop (by rw[e,iF h];exact h),e,iF h]
   have e0:n9 b.pk.length x.ps (k+1)=if ¬ (0<=x.ps[k]/\x.ps[k]<b.pk.length)then 6 else if 0<k/\x.ps[k]<=x.ps.getD (k-1) 0 then 7 else 0:=by rw[n9,aT (by rw[I];simp),S]
   refine Y ?_;refine Zz k z w λW B=>Y ?_;refine Ya B (Y ?_);refine Za [b.v,vi x.ps[k]] (Kk _ E) ?_;rintro v _ ⟨rfl,rfl⟩;refine OJ (λr=>?_) (λr=>?_)
   ·refine Y ?_;rw[iF r]at e0;exact⟨rfl,by rw[p (by rw[e0];decide),e0];rfl⟩
   rw[aT O]at e0;refine OJ (λQ=>?_) (λQ=>?_)
   ·have y:k-1<x.ps.length:=O;have D:x.ps.getD (k-1) 0=x.ps[k-1]:=ZD y _;rw[D]at e0;refine Y ?_;refine pN (i:=k-1) z rfl (by show some (vi ((k:Int)-1))=some (vi ((k-1:Nat):Int));congr 2;omega) rfl y λa3 C=>Y ?_;refine Ya C ?_;refine OJ (λG=>?_) (λG=>?_)
    ·refine Y ?_;rw[iF ⟨O,G⟩]at e0;exact⟨rfl,by rw[p (by rw[e0];decide),e0];rfl⟩
    exact ZhY
   exact ZhY
  have:k=x.ps.length:=O;subst this;rw[I,aT (by simp)]at stop next
  refine Y ?_;refine Za [.agg #[vi x.lo,vi x.hi],vi 0,vi 80] (Me _ _ _ _) ?_;rintro v _ ⟨rfl,rfl⟩;refine OJ (λr=>?_) (λr=>?_)
  ·refine Y ?_;exact⟨rfl,by rw[stop (by rw[iF r];decide),iF r];rfl⟩
  refine Y ?_;exact⟨⟨j+1,O⟩,bN O,⟨rfl,next (by rw[aT O])⟩,V,V,rfl⟩
 have:j=b.nt.length:=O;subst this;refine Y ?_;rw[qDs]at u;exact⟨rfl,by rw[YU,aT O,u];rfl⟩
def CG(hb:Zr H b)(p:b.Sz)(s:Yk H):LL.Zc P 71 #[b.v] H λv e=>aL H e/\v=vi (ZF b):=by
 refine aJ.m (bG ZxE) (args:=[b.v]) rfl ?_;unfold Zk1 Sb.v;refine Y ?_;refine YA s (Y ?_);refine Zv 3 (λj e=>aL H e/\(1<=j->YQ b=0)/\(2<=j->Yr b=0)/\(3<=j->YU b=0)) (λj=>[(1,vi 0),(6,.agg #[vf 277,vf 278,vf 279]),(7,vi j)]) (λ_=>[(1,b.cs)]) ⟨.refl _,O,O,O⟩ V V ?_;rintro j u x ⟨c,d,g,q⟩;refine OJ (λr=>?_) (λr=>?_)
 ·have k:j=0\/j=1\/j=2:=O;refine Y ?_;rcases k with rfl | rfl | rfl
  ·refine LC (bI Mr) (cD Mm) (zZ It) rfl rfl (i:=0) O rfl (Y ?_);refine ZM (vs:=[b.v]) rfl rfl (Yj U ZnB) ?_;rintro v _ ⟨rfl,rfl⟩;refine OJ (λa=>?_) (λa=>?_)
   ·refine Y ?_;exact⟨c,by rw[ZF,iF (by exact a)];rfl⟩
   refine Y ?_;exact⟨⟨1,O⟩,(by show 3-1<3-0;omega),⟨c,λ_=>a,λh=>absurd (show 2<=1 from h) O,λh=>absurd (show 3<=1 from h) O⟩,V,V,rfl⟩
  ·refine LC (bI Mr) (cD Mm) (zZ It) rfl rfl (i:=1) O rfl (Y ?_);refine ZM (vs:=[b.v]) rfl rfl (Yj U (Zsm (hb.inc c) p)) ?_;rintro v w ⟨o,rfl⟩;refine OJ (λa=>?_) (λa=>?_)
   ·refine Y ?_;exact⟨c.trans o,by rw[ZF,aT (by rw[d O];simp),iF a];rfl⟩
   refine Y ?_;exact⟨⟨2,O⟩,(by show 3-2<3-1;omega),⟨c.trans o,λ_=>d O,λ_=>a,λh=>absurd (show 3<=2 from h) O⟩,V,V,rfl⟩
  refine LC (bI Mr) (cD Mm) (zZ It) rfl rfl (i:=2) O rfl (Y ?_);refine ZM (vs:=[b.v]) rfl rfl (Yj U (Ztk (hb.inc c) p)) ?_;rintro v _ ⟨rfl,rfl⟩;refine OJ (λa=>?_) (λa=>?_)
  ·refine Y ?_;exact⟨c,by rw[ZF,aT (by rw[d O];simp),aT (by rw[g O];simp)];rfl⟩
  refine Y ?_;exact⟨⟨3,O⟩,(by show 3-3<3-2;omega),⟨c,λ_=>d O,λ_=>g O,λ_=>a⟩,V,V,rfl⟩
 have:j=3:=O;subst this;refine Y ?_;exact⟨c,by rw[ZF,aT (by rw[d O];simp),aT (by rw[g O];simp),q O];rfl⟩
def Xx(n:Int):LL.Zc P 216 #[.int .u8 n] H λv c=>H=c/\v=vb (decide (48<=n/\n<=57)):=by refine aJ.m (bG ZwE) (args:=[.int .u8 n]) rfl ?_;unfold Zj1;refine OJ (λa=>?_) (λa=>?_)<;>refine Y ?_<;>exact⟨rfl,by simp[Y5,a]⟩
def ZyN{s:ByteArray}(y:s.size<=1000000):LL.Zc P 164 #[.string s] H λv c=>H=c/\v=vb (uO s):=by
 refine aJ.m (bG ZwN) (args:=[.string s]) rfl ?_;unfold Zka;refine Y ?_;refine QS rfl ?_;refine OJ (λq=>?_) (λq=>?_)
 ·refine Y ?_;exact⟨rfl,by rw[uO,qAo O];rfl⟩
 refine Y ?_;refine QS rfl ?_;refine OJ (λr=>?_) (λr=>?_)
 ·refine Y ?_;exact⟨rfl,by rw[uO,qAo O];rfl⟩
 refine Y ?_;refine W5 (i:=0) rfl rfl O (Y ?_);refine Za [.int .u8 (sF s 0)] (Xx _) ?_;rintro v _ ⟨rfl,rfl⟩;have stop:∀j,j<s.size->wV s j=false->uO s=false:=λj o h=>by
  have:(List.range s.size).all (wV s)=false:=by rw[List.all_eq_false];exact⟨j,by simpa using o,by simp[h]⟩
  rw[uO,this,Bool.and_false]
 refine OJ (λd=>?_) (λd=>?_)
 ·refine Y ?_;exact⟨rfl,by rw[stop 0 O (by unfold wV;simp;omega)];rfl⟩
 refine Y ?_;refine Zv s.size (λj c=>H=c/\(List.range j).all (wV s)=true) (λj=>[(0,.string s),(3,vi j)]) (λ_=>[]) ⟨rfl,rfl⟩ V trivial ?_;rintro j _ o ⟨rfl,g⟩;refine Y ?_;refine QS rfl ?_;refine OJ (λu=>?_) (λu=>?_)
 ·have a:j<s.size:=O;have next:wV s j=true->(List.range (j+1)).all (wV s)=true:=λh=>by rw[qBs,qDQ,g];simp[h]
  have st:=stop j a;have p:j=0->¬ (48<=sF s j/\sF s j<=57):=by rintro rfl;exact d
  unfold wV at next st
  refine Y ?_;refine W5 (i:=j) rfl rfl a (Y ?_);refine Za [.int .u8 (sF s j)] (Xx _) ?_;rintro v _ ⟨rfl,rfl⟩;refine OJ (λk=>?_) (λk=>?_)
  ·refine Y ?_;refine W5 (i:=j) rfl rfl a ?_;refine OJ (λw=>?_) (λw=>?_)
   ·refine Y ?_;exact⟨rfl,by rw[st (by simp;omega)];rfl⟩
   refine Y ?_;refine W5 (i:=j) rfl rfl a ?_;refine OJ (λx=>?_) (λx=>?_)
   ·refine Y ?_;exact⟨rfl,by rw[st (by simp;omega)];rfl⟩
   refine Y ?_;exact⟨⟨j+1,O⟩,bN O,⟨rfl,next (by simp;omega)⟩,V,trivial,rfl⟩
  refine Y ?_;exact⟨⟨j+1,O⟩,bN O,⟨rfl,next (by have:=λe=>p e k;simp;omega)⟩,V,trivial,rfl⟩
 refine Y ?_;have:j=s.size:=O;subst this;exact⟨rfl,by rw[uO,g,decide_eq_true O];rfl⟩
def ZyI{lv:Value}(k:aF H lv l)(C:n<=1000000)(A:l.length<=1000000):LL.Zc P 55 #[lv,vi n] H λv o=>H=o/\v=vi (n9 n l l.length):=by
 refine aJ.m (bG c68) (args:=[lv,vi n]) rfl ?_;unfold Pj;refine Y ?_;refine Zv l.length (λj o=>H=o/\n9 n l j=0) (λj=>[(0,lv),(1,vi n),(5,vi j)]) (λ_=>[]) ⟨rfl,rfl⟩ V trivial ?_;rintro j _ B ⟨rfl,u⟩;refine Y ?_;refine YE k rfl ?_;refine OJ (λw=>?_) (λw=>?_)
 ·have e:j<l.length:=O;have z:l.getD j 0=l[j]:=ZD e _;have d:n9 n l (j+1)≠0->n9 n l l.length=n9 n l (j+1):=λh=>Ae h _ O;have c:n9 n l (j+1)=if ¬ (0<=l[j]/\l[j]<n)then 6 else if 0<j/\l[j]<=l.getD (j-1) 0 then 7 else 0:=by rw[n9,aT (by rw[u];simp),z]
  refine Y ?_;refine Zz j k e λa p=>Y ?_;refine Ya p (Y ?_);refine Za [vi l[j],vi 0,vi (n-1)] (pF _ _ _) ?_;rintro v _ ⟨rfl,rfl⟩;refine OJ (λx=>?_) (λx=>?_)
  ·refine Y ?_;rw[iF O]at c;exact⟨rfl,by rw[d (by rw[c];decide),c];rfl⟩
  rw[aT O]at c;refine OJ (λy=>?_) (λy=>?_)
  ·have g:j-1<l.length:=O;have r:l.getD (j-1) 0=l[j-1]:=ZD g _;rw[r]at c;refine Y ?_;refine Zz j k e λa p=>Y ?_;refine Ya p (Y ?_);refine pN (i:=j-1) k rfl (by show some (vi ((j:Int)-1))=some (vi ((j-1:Nat):Int));congr 2;omega) rfl g λa3 q=>Y ?_;refine Ya q ?_;refine OJ (λs=>?_) (λs=>?_)
   ·refine Y ?_;rw[iF ⟨O,s⟩]at c;exact⟨rfl,by rw[d (by rw[c];decide),c];rfl⟩
   refine Y ?_;rw[aT O]at c;exact⟨⟨j+1,O⟩,bN O,⟨rfl,c⟩,V,trivial,rfl⟩
  refine Y ?_;rw[aT O]at c;exact⟨⟨j+1,O⟩,bN O,⟨rfl,c⟩,V,trivial,rfl⟩
 have:j=l.length:=O;subst this;refine Y ?_;exact⟨rfl,by rw[u];rfl⟩
def Zvy(hb:Zr H b)(F:b.Sz):LL.Zc P 126 #[.slice b.A1 b.pk.length b.c1] H λv q=>H=q/\v=vi (Yr b):=by
 have W:=F.pk;refine aJ.m (bG Zxa) (args:=[.slice b.A1 b.pk.length b.c1]) rfl ?_;unfold Zkx;refine Y ?_;refine Za [vi b.pk.length,vi 1,vi 4] (pF _ _ _) ?_;rintro v _ ⟨rfl,rfl⟩;refine OJ (λG=>?_) (λG=>?_)
 ·refine Y ?_;exact⟨rfl,by rw[Yr,iF O];rfl⟩
 refine Y ?_;refine Zv b.pk.length (λj q=>H=q/\qB b.pk j=0) (λj=>[(0,.slice b.A1 b.pk.length b.c1),(3,vi j)]) (λ_=>[]) ⟨rfl,rfl⟩ V trivial ?_;rintro j _ U ⟨rfl,z⟩;refine OJ (λI=>?_) (λI=>?_)
 ·have p:j<b.pk.length:=O;have D:b.pk.getD j ⟨⟨#[]⟩,0,0,0,0⟩=b.pk[j]:=ZD p _;have stop:VC (b.pk.take j) b.pk[j]≠0->Yr b=VC (b.pk.take j) b.pk[j]:=λh=>by
   have e:qB b.pk (j+1)=VC (b.pk.take j) b.pk[j]:=by rw[qB,aT (by rw[z];simp),D]
   rw[Yr,aT O,Jw (j:=j+1) (by rw[e];exact h) _ O,e]
  have next:VC (b.pk.take j) b.pk[j]=0->qB b.pk (j+1)=0:=λh=>by rw[qB,aT (by rw[z];simp),D];exact h
  have B:=F.nm b.pk[j] (bY p);refine Y ?_;refine Zz j hb.pk p λa R=>?_;generalize b.pk[j]=x at *;refine Y ?_;refine YA (cs:=[.string x.nm,vi x.lo,vi x.hi,vi x.bF,vi x.bJ]) R (Y ?_);refine Za [.string x.nm] (ZyN B) ?_;rintro v _ ⟨rfl,rfl⟩;unfold VC at stop next
  cases u:uO x.nm with
  | false=>
   rw[u]at stop;refine Y ?_;exact⟨rfl,by rw[stop (by simp)];rfl⟩
  | true=>
  rw[u]at stop next
  simp only[Bool.true_eq_false,qAw]at stop next
  refine Y ?_;refine Zv j (λk q=>H=q/\(b.pk.take k).any (λo=>o.nm.toList == x.nm.toList)=false) (λk=>[(0,.slice b.A1 b.pk.length b.c1),(3,vi j),(4,vi 0),(5,vi k)]) (λ_=>[(4,[.string x.nm,vi x.lo,vi x.hi,vi x.bF,vi x.bJ])]) ⟨rfl,rfl⟩ V V ?_;rintro k _ S ⟨rfl,r⟩;refine OJ (λJ=>?_) (λJ=>?_)
  ·have s:k<b.pk.length:=O;have g:(b.pk.take (k+1)).any (λo=>o.nm.toList == x.nm.toList)=(b.pk[k].nm.toList == x.nm.toList):=by rw[iN s,qDb,r];simp
   refine Y ?_;refine Zz k hb.pk s λT w=>?_;generalize b.pk[k]=y at *;refine Y ?_;refine Zh (OL _) rfl (by rw[add_zero];exact YN (cs:=[.string y.nm]) (ds:=[vi y.lo,vi y.hi,vi y.bF,vi y.bJ]) w) (Y ?_);refine ZiM rfl rfl ?_;cases hy:y.nm.toList == x.nm.toList with
   | true=>
    rw[hy]at g;have:(b.pk.take j).any (λo=>o.nm.toList == x.nm.toList)=true:=by
     rw[qBg]at g ⊢;obtain⟨o,E,A⟩:=g;refine⟨o,?_,A⟩;have e:b.pk.take (k+1)=(b.pk.take j).take (k+1):=by rw[List.take_take,qCr O]
     rw[e]at E;exact qDT E
    rw[this]at stop;refine Y ?_;exact⟨rfl,by rw[stop (by simp)];rfl⟩
   | false=>
    rw[hy]at g;refine Y ?_;exact⟨⟨k+1,O⟩,bN O,⟨rfl,g⟩,V,V,rfl⟩
  have:k=j:=O;subst this;rw[r]at stop next
  simp only[DO,qAw]at stop next
  have i:¬ (rY x=true)->Yr b=1:=λh=>by
   have C:rY x=false:=by simpa using h
   rw[stop (by rw[iF C];simp),iF C]
  refine Y ?_;refine Za [.agg #[vi x.lo,vi x.hi],vi 1,vi 20] (Ig _ _ _ _) ?_;rintro v _ ⟨rfl,rfl⟩;refine OJ (λK=>?_) (λK=>?_)
  ·refine Y ?_;exact⟨rfl,by rw[i (by unfold rY;simp;omega)];rfl⟩
  refine OJ (λL=>?_) (λL=>?_)
  ·refine Y ?_;exact⟨rfl,by rw[i (by unfold rY;simp;omega)];rfl⟩
  refine Y ?_;refine Za [vi x.bF,vi 1,vi 20] (pF _ _ _) ?_;rintro v _ ⟨rfl,rfl⟩;refine OJ (λM=>?_) (λM=>?_)
  ·refine Y ?_;exact⟨rfl,by rw[i (by unfold rY;simp;omega)];rfl⟩
  refine Y ?_;refine Za [vi x.bJ,vi 1,vi 20] (pF _ _ _) ?_;rintro v _ ⟨rfl,rfl⟩;refine OJ (λQ=>?_) (λQ=>?_)
  ·refine Y ?_;exact⟨rfl,by rw[i (by unfold rY;simp;omega)];rfl⟩
  refine Y ?_;exact⟨⟨k+1,O⟩,bN O,⟨rfl,next (by rw[aT (by unfold rY;simp;omega)])⟩,V,trivial,rfl⟩
 have:j=b.pk.length:=O;subst this;refine Y ?_;exact⟨rfl,by rw[Yr,aT O,z];rfl⟩
def cF(hb:Zr H b)(o:b.Sz):LL.Zc P 67 #[b.v] H λv p=>H=p/\v=vi (ZF b):=by
 have R:=o.nt;have u:=o.pk;refine aJ.m (bG ZxF) (args:=[b.v]) rfl ?_;unfold Zk2 Sb.v;refine Y ?_;have z:¬ ((1<=b.pl/\b.pl<=3)/\(1<=b.hd/\b.hd<=3)/\(0<=b.td/\b.td<=200))->ZF b=1:=λh=>by rw[ZF,YQ,aT h];rfl
 refine Za [vi b.pl,vi 1,vi 3] (pF _ _ _) ?_;rintro v _ ⟨rfl,rfl⟩;refine OJ (λF=>?_) (λF=>?_)
 ·refine Y ?_;exact⟨rfl,by rw[z O];rfl⟩
 refine Y ?_;refine Za [vi b.hd,vi 1,vi 3] (pF _ _ _) ?_;rintro v _ ⟨rfl,rfl⟩;refine OJ (λG=>?_) (λG=>?_)
 ·refine Y ?_;exact⟨rfl,by rw[z O];rfl⟩
 refine Y ?_;refine Za [vi b.td,vi 0,vi 200] (pF _ _ _) ?_;rintro v _ ⟨rfl,rfl⟩;refine OJ (λI=>?_) (λI=>?_)
 ·refine Y ?_;exact⟨rfl,by rw[z O];rfl⟩
 have E:YQ b=0:=by rw[YQ,iF O]
 refine Y ?_;refine Za [.slice b.A1 b.pk.length b.c1] (Zvy hb o) ?_;rintro v _ ⟨rfl,rfl⟩;refine OJ (λr=>?_) (λr=>?_)
 ·refine Y ?_;exact⟨rfl,by rw[ZF,aT (by rw[E];simp),iF r];rfl⟩
 have q:ZF b=YU b:=by rw[ZF,aT (by rw[E];simp),aT (by rw[r];simp)]
 refine OJ (λJ=>?_) (λJ=>?_)
 ·refine Y ?_;exact⟨rfl,by rw[q,YU,iF O];rfl⟩
 rw[YU,aT O]at q;refine Y ?_;refine Zv b.nt.length (λj p=>H=p/\ZF b=vC b.pk.length (b.nt.drop j)) (λj=>[(1,vi 0),(4,vi j)]) (λ_=>[(1,b.cs)]) ⟨rfl,q⟩ V V ?_;rintro j _ Q ⟨rfl,k⟩;refine OJ (λK=>?_) (λK=>?_)
 ·have d:j<b.nt.length:=O;rw[ZiW _ d]at k;have w:=hb.ps b.nt[j] (bY d);have y:=o.ps b.nt[j] (bY d);refine Y ?_;refine Zz j hb.nt d λa M=>?_;generalize b.nt[j]=x at *;have stop:Vf b.pk.length x≠0->ZF b=Vf b.pk.length x:=λh=>by rw[k,iF h]
  have next:Vf b.pk.length x=0->ZF b=vC b.pk.length (b.nt.drop (j+1)):=λh=>by rw[k,aT (by rw[h];simp)]
  unfold Vf at stop next
  refine Y ?_;refine YA (cs:=[.slice x.A x.ps.length x.c,vi x.lo,vi x.hi]) M ?_;refine OJ (λL=>?_) (λL=>?_)
  ·refine Y ?_;exact⟨rfl,by rw[stop (by rw[iF O];simp),iF O];rfl⟩
  rw[aT O]at stop next
  refine Y ?_;refine Za [.slice x.A x.ps.length x.c,vi b.pk.length] (ZyI w u y) ?_;rintro v _ ⟨rfl,rfl⟩;refine OJ (λi=>?_) (λi=>?_)
  ·refine Y ?_;exact⟨rfl,by rw[stop (by rw[iF i];exact i),iF i];rfl⟩
  rw[aT (by rw[i];simp)]at stop next
  refine Y ?_;refine Za [.agg #[vi x.lo,vi x.hi],vi 0,vi 80] (Ig _ _ _ _) ?_;rintro v _ ⟨rfl,rfl⟩;refine OJ (λs=>?_) (λs=>?_)
  ·refine Y ?_;exact⟨rfl,by rw[stop (by rw[iF s];decide),iF s];rfl⟩
  refine Y ?_;exact⟨⟨j+1,O⟩,bN O,⟨rfl,next (by rw[aT O])⟩,V,V,rfl⟩
 have:j=b.nt.length:=O;subst this;refine Y ?_;rw[qDs]at k;exact⟨rfl,by rw[k];rfl⟩
end
structure bA(b:Sb):Prop where
 pl:1<=b.pl/\b.pl<=3
 hd:1<=b.hd/\b.hd<=3
 td:0<=b.td/\b.td<=200
 n:1<=b.pk.length/\b.pk.length<=4
 pk:∀i (h:i<b.pk.length),(1<=b.pk[i].lo/\b.pk[i].lo<=b.pk[i].hi/\b.pk[i].hi<=20)/\b.pk[i].hi-b.pk[i].lo<3/\(1<=b.pk[i].bF/\b.pk[i].bF<=20)/\(1<=b.pk[i].bJ/\b.pk[i].bJ<=20)
 nm:∀i (h:i<b.pk.length),uO b.pk[i].nm=true/\(b.pk.take i).any (λo=>o.nm.toList == b.pk[i].nm.toList)=false
 nn:b.nt.length<=3
 nt:∀x∈b.nt,x.ps≠[]/\oV b.pk.length x.ps/\(0<=x.lo/\x.lo<=x.hi/\x.hi<=80)
def Zij{l:List Pk}:∀{n:Nat},qB l n=0->n<=l.length->∀i (h:i<l.length),i<n->VC (l.take i) l[i]=0
 | 0,_,_,i,h,c=>absurd c (qBm _)
 | n+1,h,g,i,d,c=>by
  rw[qB]at h;split at h
  ·rename_i a;exact absurd h a
  rename_i a;rcases qDI.1 c with e | rfl
  ·exact Zij (by simpa using a) O i d e
  rwa [ZD d]at h
def Zsh(h:n9 n l l.length=0):oV n l:=by
 have key:∀j,j<=l.length->n9 n l j=0:=λj a=>qAd λe=>by have:=Ae e _ a;rw[h]at this;exact e this.symm
 have m:∀j (a:j<l.length),(0<=l[j]/\l[j]<n)/\(0<j->l.getD (j-1) 0<l[j]):=by
  intro j a;have e:=key (j+1) a;rw[n9,aT (by rw[key j O];simp),ZD a]at e;split at e
  ·simp at e
  split at e
  ·simp at e
  exact⟨O,λh=>O⟩
 refine⟨?_,λz s=>?_⟩
 ·rw[qAY];intro i j d a g;have st:∀k,k<l.length->∀i (d:i<l.length) (o:k<l.length),i<k->l[i]<l[k]:=by
   intro k;induction k with
   | zero=>intro _ i _ _ h;omega
   | succ k ih=>
    intro o i d r q;have e:=(m (k+1) o).2 O;have c:k<l.length:=O;rw[qAU,ZD c]at e;by_cases p:i=k
    ·subst p;exact e
    have:=ih c i d c O;omega
  exact st j a i d a g
 obtain⟨j,a,rfl⟩:=qAk.1 s;exact(m j a).1
def Zm9{n:Nat}{l:List Int}(h:oV n l):∀j,j<=l.length->n9 n l j=0
 | 0,_=>rfl
 | j+1,e=>by have a:j<l.length:=e;rw[n9,aT (by rw[Zm9 h j O];simp),ZD a,aT (by have:=h.2 _ (bY a);omega),aT];rintro⟨g,d⟩;have c:j-1<l.length:=O;rw[ZD c]at d;have:=qAY.1 h.1 (j-1) j c a O;omega
def ZiU{n:Nat}:∀{l:List Nt},vC n l=0->∀x∈l,Vf n x=0
 | [],_,x,c=>by simp at c
 | a :: l,h,x,c=>by
  rw[vC]at h;split at h
  ·rename_i d;exact absurd h d
  rename_i d;rcases qAq.1 c with rfl | c
  ·simpa using d
  exact ZiU h x c
def Ow(h:ZF b=0):bA b:=by
 unfold ZF at h;split at h
 ·rename_i d;exact absurd h d
 rename_i d;split at h
 ·rename_i a;exact absurd h a
 rename_i a;have d:YQ b=0:=qAd d;have a:Yr b=0:=qAd a;have p:(1<=b.pl/\b.pl<=3)/\(1<=b.hd/\b.hd<=3)/\(0<=b.td/\b.td<=200):=by
  unfold YQ at d;split at d
  ·assumption
  simp at d
 unfold Yr at a;split at a
 ·simp at a
 rename_i w;have q:1<=b.pk.length/\b.pk.length<=4:=qAd w;unfold YU at h;split at h
 ·simp at h
 have r:∀i (c:i<b.pk.length),uO b.pk[i].nm=true/\(b.pk.take i).any (λo=>o.nm.toList == b.pk[i].nm.toList)=false/\rY b.pk[i]=true:=λi c=>by
  have e:=Zij a (dO _) i c c;unfold VC at e;split at e
  ·simp at e
  split at e
  ·simp at e
  split at e
  ·simp at e
  rename_i k m s;exact⟨by simpa using k,by simpa using m,by simpa using s⟩
 refine⟨p.1,p.2.1,p.2.2,q,λi c=>?_,λi c=>⟨(r i c).1,(r i c).2.1⟩,O,λx z=>?_⟩
 ·have e:=(r i c).2.2;simp only[rY,qAc,qAR]at e;exact⟨e.1.1.1,e.1.1.2,e.1.2,e.2⟩
 have e:=ZiU h x z;unfold Vf at e;split at e
 ·simp at e
 split at e
 ·rename_i k;exact absurd e k
 split at e
 ·simp at e
 rename_i k m s;exact⟨λh=>k (by rw[h];rfl),Zsh (by simpa using m),O⟩
def bA.sz(h:bA b)(c:∀p∈b.pk,p.nm.size<=1000000):b.Sz:=⟨by have:=h.n;omega,by have:=h.nn;omega,λx a=>by have:=uD (h.nt x a).2.1;have:=h.n;omega,c⟩
def UG(t:N4)(l:List Int):Int:=l.foldl (λs p=>s+t.get p.toNat) 0
theorem ID(t:N4)(a:j<l.length):UG t (l.take (j+1))=UG t (l.take j)+t.get l[j].toNat:=by unfold UG;rw[iN a,qCE];rfl
def Yp(t:N4):Prop:=∀j,j<4->0<=t.get j/\t.get j<=20
def z6{t:N4}(d:Yp t){n:Nat}{l:List Int}(c:∀z∈l,0<=z/\z<4):∀j,j<=l.length->0<=UG t (l.take j)/\UG t (l.take j)<=20 * j
 | 0,_=>by simp[UG]
 | j+1,e=>by have a:j<l.length:=e;rw[ID t a];have g:=z6 d (n:=n) c j O;have h:=c l[j] (bY a);have i:=d l[j].toNat O;omega
def vU(t:N4)(x:Nt):Bool:=decide (x.lo<=UG t x.ps/\UG t x.ps<=x.hi)
def cB(b:Sb)(t:N4):Bool:=b.nt.all (vU t)
abbrev SH(x:Nt):Value:=.agg #[.slice x.A x.ps.length x.c,vi x.lo,vi x.hi]
section
variable{P:aX}[Tz P][Loud P]{H:Hp}
def ZyP{l:List Nt}(o:∀x∈l,ZV P fv #[SH x] H λv e=>H=e/\v=vb (f x))(h:aF H v l)(q:l.length<=1000000) :
  LL.Zc P 218 #[v,fv] H λv e=>H=e/\∃r:Int,v=vi r/\(0<=r↔l.any f=true):=by
 refine aJ.m (bG ZwD) (args:=[v,fv]) rfl ?_;unfold Zj0;refine Y ?_;refine YE h rfl (Y ?_);refine Zv l.length (λj e=>H=e/\(l.take j).any f=false) (λj=>[(0,v),(1,fv),(7,vi l.length),(8,vi j)]) (λj=>[]) ⟨rfl,rfl⟩ V trivial ?_;rintro j _ p ⟨rfl,c⟩;refine OJ (λi=>?_) (λi=>?_)
 ·have d:j<l.length:=O;refine Y ?_;refine Zz j h d λa k=>Y ?_;refine YA k (Y ?_);refine ZM rfl rfl (o _ (bY d)) ?_;rintro w _ ⟨rfl,rfl⟩;refine OJ (λg=>?_) (λg=>?_)
  ·refine Y ?_;exact⟨rfl,j,rfl,by simp only[qDC,true_iff];rw[qBg];exact⟨l[j],bY d,g⟩⟩
  refine Y ?_;refine⟨⟨j+1,O⟩,bN O,⟨rfl,?_⟩,V,trivial,rfl⟩;show(l.take (j+1)).any f=false;rw[iN d,qDb,c];simp[g]
 have:j=l.length:=O;subst this;rw[IF]at c;refine Y ?_;exact⟨rfl,-1,rfl,by simp[c]⟩
def Zy3{l:List Nt}(d:∀x∈l,ZV P fv #[SH x] H λv a=>H=a/\v=vb (f x))(g:aF H v l)(i:l.length<=1000000) :
  LL.Zc P 169 #[v,fv] H λv a=>H=a/\v=vb (l.any f):=by
 refine aJ.m (bG ZwK) (args:=[v,fv]) rfl ?_;unfold Zj7;refine Y ?_;refine ZW (vs:=[v,fv]) rfl (ZyP d g i) ?_;rintro w _ ⟨rfl,r,rfl,c⟩;refine Y ?_;refine⟨rfl,?_⟩;show vb (decide (0<=r))=vb _;congr 1;cases h:l.any f with
 | true=>exact decide_eq_true (c.2 h)
 | false=>exact qAo λe=>by rw[c.1 e]at h;simp at h
def ZpJ{x:Nt}{r:Nat}(D:Yp t)(u:∀z∈x.ps,0<=z/\z<4)(K:x.ps.length<=1000)(s:aF H (.slice x.A x.ps.length x.c) x.ps)(h:aC H ⟨r,0,none⟩ t.cells) :
  LL.Zc P 170 #[SH x,.pointer (some ⟨r,0,none⟩)] H λv q=>H=q/\v=vb (!vU t x):=by
 refine aJ.m (bG ZwJ) (args:=[SH x,.pointer (some ⟨r,0,none⟩)]) rfl ?_;unfold Zj6;refine Y ?_;refine Zv x.ps.length (λj q=>H=q) (λj=>[(1,.pointer (some ⟨r,0,none⟩)),(2,vi 0),(4,vi (UG t (x.ps.take j))),(8,.slice x.A x.ps.length x.c),(9,vi x.ps.length),(10,vi j)]) (λ_=>[(2,[.slice x.A x.ps.length x.c,vi x.lo,vi x.hi])]) rfl V V ?_;rintro j _ B rfl;refine OJ (λw=>?_) (λw=>?_)
 ·have g:j<x.ps.length:=O;obtain⟨n,C⟩:∃n:Nat,x.ps[j]=n:=⟨x.ps[j].toNat,by have:=u _ (bY g);omega⟩;have i:n<4:=by have:=u _ (bY g);omega
  have k:=ID t g;have I:=z6 D (n:=0) u j O;have J:=D n i;rw[C,qAD]at k;refine Y ?_;refine Zz j s g λa y=>?_;rw[C]at y;refine Y ?_;refine Ya y (Y ?_);refine ZsX (bI QK) (cD t3) rfl rfl i (Y ?_);have G:aC H ((⟨r,0,none⟩:Addr).add (n * 1)) [vi (t.get n)]:=by
   obtain⟨w,o,p,E,F⟩:=h;refine⟨P4 rfl _,o,p,by rw[II];exact E,λj B=>?_⟩;have:j=0:=by simpa using B
   subst this;rw[IJ];have e:=F (0+n * 1) (by show 0+n * 1<4;omega);rw[ZvA _ i]at e;simpa using e
  refine Ya G (Y ?_);exact⟨⟨j+1,O⟩,bN O,rfl,⟨rfl,rfl,by rw[k];rfl,rfl,rfl,rfl,trivial⟩,V,rfl⟩
 have:j=x.ps.length:=O;subst this;rw[IF];refine Y ?_;refine Za [vi (UG t x.ps),vi x.lo,vi x.hi] (V6 _ _ _) ?_;rintro v _ ⟨rfl,rfl⟩;refine Y ?_;exact⟨rfl,rfl⟩
def Ic(hb:Zr H b)(ok:bA b)(h:Yp t):LL.Zc P 132 #[b.v,Zu t] H λv e=>H.Sub e/\v=vb (cB b t):=by refine aJ.m (bG Zw6) (args:=[b.v,Zu t]) rfl ?_;unfold Zkt Sb.v;refine Y ?_;refine V9 rfl (OL _) λr g=>?_;have s1:=Yf (o:=.cells (Zu t).cells 105) g;have c1:aC (H.ins r (.cells (Zu t).cells 105)) ⟨r,0,none⟩ t.cells:=VK;have a:=hb.sub s1;generalize H.ins r (.cells (Zu t).cells 105)=k at *;refine Y ?_;refine VQ rfl rfl (Y ?_);refine Za [.slice b.A2 b.nt.length b.c2,.func (.func 170) #[] #[.pointer (some ⟨r,0,none⟩)]] (Zy3 (f:=λx=>!vU t x) (λx c=>Yj U (ZpJ h (λz i=>by have:=(ok.nt x c).2.1.2 z i;have:=ok.n;omega) (by have:=uD (ok.nt x c).2.1;have:=ok.n;omega) (a.ps x c) c1)) a.nt (by have:=ok.nn;omega)) ?_;rintro v _ ⟨rfl,rfl⟩;refine Y ?_;exact⟨s1,by show vb _=vb _;congr 1;rw[cB,List.all_eq_not_any_not]⟩
def Ii(p:aF H v l)(g:l.length<=4):LL.Zc P 131 #[v] H λv o=>H.Sub o/\v=Zu (Ys l):=by
 refine aJ.m (bG Zw7) (args:=[v]) rfl ?_;unfold Zku;refine Y ?_;refine Vt (cD Zn9) (OL _) λr i=>Y ?_;refine ZsQ (hi:=4) (k:=.i64) (bI QK) (cD t3) O rfl (.inl ⟨rfl,rfl⟩) O (Y ?_);refine Zs1 (cs:=[vi 0,vi 0,vi 0,vi 0]) (bI dW) (cD t3) rfl rfl (p.sub (Yf i)) g rfl (Hp.aG _ _ _) (OL _) ?_;rw[Us];have e:l.map vi++[vi 0,vi 0,vi 0,vi 0].drop l.length=(Ys l).cells:=by
  match l,g with
  | [],_=>rfl
  | [a],_=>rfl
  | [a,b],_=>rfl
  | [a,b,c],_=>rfl
  | [a,b,c,d],_=>rfl
  | a :: b :: c :: d :: e :: l,h=>simp at h
 rw[e];refine Y ?_;refine YA VK (Y ?_);exact⟨Yf i,rfl⟩
end
instance:Enc N4:=⟨4,λm=>m.cells,λ_=>rfl⟩
def gT{α:Type}(f:Int->List α)(a:Int):Nat->List α
 | 0=>[]
 | c+1=>f (a-c)++gT f a c
def aD(b:Sb)(i:Nat):Pk:=b.pk.getD i ⟨⟨#[]⟩,0,0,0,0⟩
def bX(b:Sb):Nat->N4->List N4
 | 0,m=>if cB b m=true then[m]else[]
 | r+1,m=>gT (λv=>bX b r (m.put (b.pk.length-(r+1)) v)) (aD b (b.pk.length-(r+1))).hi ((aD b (b.pk.length-(r+1))).hi-(aD b (b.pk.length-(r+1))).lo+1).toNat
def Zi(b:Sb):List N4:=bX b b.pk.length ⟨0,0,0,0⟩
def DX(x:N4):List Value:=[Zu x]
def Ar(a c d:Nat):Value:=.func (.func 137) #[] #[pt a,pt d,pt c]
structure Wc(G:Hp)(bc:List Value)(rb rn ry:Nat)(y:Value)(E1 E2 E3:TypeId):Prop where
 b:G rb=some (.cells bc.toArray E1,true)
 n:G rn=some (.cells #[Ar rb rn ry] E2,true)
 y:G ry=some (.cells #[y] E3,true)
def Yp.put{m:N4}(h:Yp m)(i:Nat){v:Int}(c:0<=v/\v<=20):Yp (m.put i v):=λj a=>by
 rw[N4.aZ _ _ a];split
 ·exact c
 exact h j a
def ZlX:Yp ⟨0,0,0,0⟩:=λj a=>by
 match j,a with
 | 0,_=>exact⟨by decide,by decide⟩
 | 1,_=>exact⟨by decide,by decide⟩
 | 2,_=>exact⟨by decide,by decide⟩
 | 3,_=>exact⟨by decide,by decide⟩
section
variable{P:aX}[Tz P][Loud P]{H:Hp}
def ZoE{y:Value}{E1 E2 E3:TypeId}{B:List (List Value)}{I:Nat->Hp->Prop}{S:Hp->Prop}(ok:bA b)(hI:∀n,Up (I n))(hS:Up S)(hN:∀n H,I n H->Zr H b)
  (hy:∀n (hn:n<B.length) H,I n H->ZV P y (B[n]).toArray H (λv w=>(v=.bool true/\I (n+1) w)\/(v=.bool false/\S w))) (u M Q:Nat) {G:Hp} (J:Wc G b.cs u M Q y E1 E2 E3) :
  ∀(r:Nat) (m:N4) (rest:List (List Value)) (H:Hp),r<=b.pk.length->Yp m->JG G (xD B I ((bX b r m).map DX++rest)) H ->
   LL.Zc P 137 #[Zu m,vi (b.pk.length-r:Nat),pt u,pt Q,pt M] H λv w=>(v=vb true/\JG G (xD B I rest) w)\/(v=vb false/\JG G S w):=by
 have x:∀{rest H},JG G (xD B I rest) H->Zr H b:=λg=>by obtain⟨p,_,_,h⟩:=g.up (ZgF hI);exact hN p _ h
 have SZ:=ok.n
 intro r
 induction r with
 | zero=>
  intro m rest H hr hm g;rw[bX]at g;refine aJ.m (bG Zm3) (args:=[Zu m,vi (b.pk.length-0:Nat),pt u,pt Q,pt M]) rfl ?_;unfold Kv;have bk:=x g;have C:aC H ⟨u,0,none⟩ b.cs:=ZA (g.inc _ _ J.b);refine Y ?_;refine Zh (OL _) rfl (Ux (j:=3) C rfl) ?_;refine OJ (λD=>?_) (λD=>?_);rotate_left
  ·exact absurd O D
  refine Y ?_;refine YA C (Y ?_);refine Za [b.v,Zu m] (Ic bk ok hm) ?_;rintro v H1 ⟨s1,rfl⟩;have o:=g.sub s1;refine OJ (λE=>?_) (λE=>?_)
  ·rw[aT (by simp[E])]at o;refine Y ?_;exact .inl ⟨rfl,o⟩
  rw[iF (by simpa using E),qCq,qBG]at o;refine Y ?_;refine Zh (OL _) rfl (ZA (o.inc _ _ J.y)) (Y ?_);refine ZM (vs:=[Zu m]) rfl rfl (JG.call (λH h=>xD.call (S:=S) hy h) o) ?_;rintro v H7 ⟨Hc,F,rfl,q1,q2,(⟨rfl,q3⟩ | ⟨rfl,q3⟩)⟩
  ·refine Y ?_;exact .inl ⟨rfl,Hc,F,rfl,q1,q2,q3⟩
  refine Y ?_;exact .inr ⟨rfl,Hc,F,rfl,q1,q2,q3⟩
 | succ r ih=>
  intro m rest H hr hm g;rw[bX]at g;have z:b.pk.length-(r+1)<b.pk.length:=O;have FK:((b.pk.length-(r+1):Nat):Int)+1=(b.pk.length-r:Nat):=O;generalize b.pk.length-(r+1)=i at *;have K:i<4:=O;have hpt:aD b i=b.pk[i]:=ZD z _;rw[hpt]at g;have hp:=ok.pk i z;refine aJ.m (bG Zm3) (args:=[Zu m,vi i,pt u,pt Q,pt M]) rfl ?_;unfold Kv;have bk:=x g;have C:aC H ⟨u,0,none⟩ b.cs:=ZA (g.inc _ _ J.b);refine Y ?_;refine Zh (OL _) rfl (Ux (j:=3) C rfl) ?_;refine OJ (λD=>?_) (λD=>?_)
  ·exact absurd D O
  refine Y ?_;refine Zh (OL _) rfl (Ux (j:=3) C rfl) (Y ?_);refine Zz i bk.pk z λa Z=>Y ?_;refine Zh (OL _) rfl (Ux (j:=1) Z rfl) (Y ?_);generalize uA:(b.pk[i].hi-b.pk[i].lo+1).toNat=e at g;refine ZO (α:=N4) e (λk s w=>(∀v,s.put i v=m.put i v)/\JG G (xD B I ((gT (λv=>bX b r (m.put i v)) b.pk[i].hi (e-k)).map DX++rest)) w)
   (λk s=>[(1,vi i),(2,pt u),(3,pt Q),(4,pt M),(5,vi 0),(8,vi (b.pk[i].lo+k))]) (λ_ s=>[(5,s.cells)]) m ⟨λ_=>rfl,g⟩ ⟨rfl,rfl,rfl,rfl,rfl,by simp[aM.set],trivial⟩ V ?_
  rintro k m' H3 hk ⟨L,d⟩;have R:=x d;have T:aC H3 ⟨u,0,none⟩ b.cs:=ZA (d.inc _ _ J.b);refine Y ?_;refine Zh (OL _) rfl (Ux (j:=3) T rfl) (Y ?_);refine Zz i R.pk z λa Z=>Y ?_;refine Zh (OL _) rfl (Ux (j:=2) Z rfl) ?_;refine OJ (λE=>?_) (λE=>?_)
  ·refine Y ?_;refine CF (j:=i) rfl rfl K (Y ?_);refine FX (OL _) rfl rfl rfl rfl (by show 0+i * 1+1<=4;omega) rfl ?_;have e5:ZG m'.cells (0+i * 1) (Value.cells (vi (b.pk[i].lo+k))).toList=(m.put i (b.pk[i].lo+k)).cells:=by rw[<-L];exact T4 _ _ K
   rw[e5];have hm4:Yp (m.put i (b.pk[i].lo+k)):=hm.put i ⟨O,O⟩;have X:e-k=(e-(k+1))+1:=O;have e7:b.pk[i].hi-((e-(k+1):Nat):Int)=b.pk[i].lo+k:=O;rw[X,gT,qBL,qAW,e7]at d;refine Y ?_;refine Zh (OL _) rfl (ZA (d.inc _ _ J.n)) (Y ?_);rw[FK];refine ZM (vs:=[Zu (m.put i (b.pk[i].lo+k)),vi (b.pk.length-r:Nat)]) rfl rfl (Yj U (ih (m.put i (b.pk[i].lo+k)) _ H3 O hm4 d)) ?_;rintro v H5 (⟨rfl,A⟩ | ⟨rfl,A⟩)
   ·refine Y ?_;refine⟨(⟨k+1,O⟩,m.put i (b.pk[i].lo+k)),bN O,⟨λv=>N4.rX _ _ _,A⟩,⟨rfl,rfl,rfl,rfl,rfl,?_,trivial⟩,V,rfl⟩;show some (vi (b.pk[i].lo+k+1))=some (vi (b.pk[i].lo+(k+1:Nat)));congr 2;omega
   refine Y ?_;exact .inr ⟨rfl,A⟩
  have X:e-k=0:=O;rw[X,gT,qDo,qBt]at d;refine Y ?_;exact .inl ⟨rfl,d⟩
end
def ZgU:Yl Tryz.prog 172=some (1,some .nilFunc,8):=U
def Ml:Yl Tryz.prog 105=some (4,some (.agg #[vi 0,vi 0,vi 0,vi 0]),32):=U
def ZgL:Tryz.prog.underlying 102=some (.slice 105):=U
def Zoa:Yl Tryz.prog 102=some (1,some (.slice none 0 0),24):=U
theorem Zi8{l:List N4}(a:n<(l.map DX).length):(l.map DX)[n]=[Zu (l[n]'(by simpa using a))]:=by rw[qAZ];rfl
def Zha{α:Type}{f:Int->List α}{hi:Int}{k:Nat}(a:∀v,(f v).length<=k):∀c,(gT f hi c).length<=c * k
 | 0=>by simp[gT]
 | c+1=>by rw[gT,BY,qBY];have:=a (hi-c);have:=Zha (hi:=hi) a c;omega
def Zhp{b:Sb}(ok:bA b):∀r,r<=b.pk.length->∀m,(bX b r m).length<=3 ^ r
 | 0,_,m=>by rw[bX];split<;>simp
 | r+1,g,m=>by rw[bX];have d:b.pk.length-(r+1)<b.pk.length:=O;have c:aD b (b.pk.length-(r+1))=b.pk[b.pk.length-(r+1)]:=ZD d _;have e:=ok.pk _ d;rw[<-c]at e;refine qAz (Zha (λv=>Zhp ok r O _) _) ?_;rw[qDA,Nat.mul_comm];exact Nat.mul_le_mul_left _ O
def UI(ok:bA b):(Zi b).length<=81:=by have h:=Zhp ok b.pk.length (dO _) ⟨0,0,0,0⟩;have c:3 ^ b.pk.length<=3 ^ 4:=qBz O ok.n.2;unfold Zi;omega
def Vl(b:Sb):Bool:=!(Zi b).isEmpty
def ZU(b:Sb)(w:Value):Value:=.agg #[vi b.pl,vi b.hd,vi b.td,.slice b.A1 b.pk.length b.c1,.slice b.A2 b.nt.length b.c2,w]
def U1:Value:=.agg #[vi 0,vi 0,vi 0,.slice none 0 0,.slice none 0 0,.slice none 0 0]
def Zl(b:Sb)(own:Int):Int:=if ZF b≠0 then ZF b else if own≠0 then own else if(Zi b).length=0 then 9 else 0
section
variable{P:aX}[Tz P][Loud P]{H:Hp}
def jZ(ok:bA b):KU P (.func (.func 83) #[b.v] #[]) (λH=>Zr H b) ((Zi b).map DX):=by
 rintro y I S H ⟨W,T,V,C⟩ D E L M p;have B:y.cells=#[y]:=by rw[C];rfl
 refine Yj U ?_;refine aJ.m (bG Zxz) (args:=[b.v,y]) rfl ?_;unfold ZkW Sb.v;generalize A:(Zi b).map DX=O at *;have r:JG .nil (xD O I ((Zi b).map DX++[])) H:=⟨H,.nil,(Hp.eG H).symm,Hp.eQ H,λb x h=>by simp[Hp.nil]at h,by rw[qAf,A];exact .start p⟩;refine Y ?_;refine V9 rfl (OL _) λe z=>?_;have s:=r.new (.cells b.v.cells 108) z;refine Y ?_;refine V9 rfl (OL _) λg i=>?_;have u:=s.new (.cells y.cells 168) i;refine Y ?_;refine Vt (cD ZgU) (OL _) λd c=>?_;have w:=u.new (.cells (Value.nilFunc).cells 172) c;have G:g≠e:=by rintro rfl;rw[Hp.aG]at i;simp at i
 have J:d≠g:=by rintro rfl;rw[Hp.aG]at c;simp at c
 have K:d≠e:=by rintro rfl;rw[Hp.aH _ _ (qAF G),Hp.aG]at c;simp at c
 refine Y ?_;refine VQ rfl rfl (Y ?_);refine Vq (v:=Ar e d g) (cD ZgU) rfl rfl (Hp.aG _ _ _) rfl rfl (OL _) ?_;have o:=w.put (.cells #[Ar e d g] 172) (Hp.aG _ _ _);have F:Wc ((((Hp.nil.ins e (.cells b.v.cells 108)).ins g (.cells y.cells 168)).ins d (.cells (Value.nilFunc).cells 172)).ins d (.cells #[Ar e d g] 172)) b.cs e d g y 108 172 168:=by
  refine⟨?_,Hp.aG _ _ _,?_⟩
  ·rw[Hp.aH _ _ (qAF K),Hp.aH _ _ (qAF K),Hp.aH _ _ (qAF G)];exact Hp.aG _ _ _
  rw[Hp.aH _ _ (qAF J),Hp.aH _ _ (qAF J),<-B];exact Hp.aG _ _ _
 refine Y ?_;refine Zh (OL _) rfl (ZA (o.inc _ _ F.n)) (Y ?_);have a:=ZoE ok D E L M e d g F b.pk.length ⟨0,0,0,0⟩ [] _ (dO _) ZlX o;rw[qCv]at a;refine ZM rfl rfl (Yj U a) ?_;rintro v Q (⟨rfl,q⟩ | ⟨rfl,q⟩)
 ·refine Y ?_;exact .inl (q.up (ZgF D)).stop
 refine Y ?_;exact .inr (q.up E)
def Md(hb:Zr H b)(ok:bA b):LL.Zc P 114 #[b.v] H λv a=>aL H a/\v=vb (Vl b):=by
 refine aJ.m (bG Zxg) (args:=[b.v]) rfl ?_;unfold ZkD Sb.v;refine Y ?_;refine V9 rfl (OL _) λI o=>Y ?_;refine Vt (cD t4) (OL _) λq c=>?_;have w:aL H ((H.ins I (.cells b.v.cells 108)).ins q (.cells (vb false).cells 4)):=(Zs o).trans (Zs c);have C:H q=none:=YL (Zs o) c;refine Y ?_;refine Zn (cs:=b.cs) (OL _) rfl (aC.inc (VK (cs:=b.cs)) (Zs c)) rfl (Y ?_);refine VQ rfl rfl (Y ?_);refine Zi5 OL rfl (jZ ok) (λx G=>by obtain⟨k,_,rfl⟩:=qAB.1 G;rfl)
  (λn a=>n=0/\aL H a/\a q=some (.cells #[vb false] 4,true)) (λe a=>e=.ret/\aL H a/\aC a ⟨q,0,none⟩ [vb true]/\Vl b=true) ⟨rfl,w,Hp.aG _ _ _⟩
  (λn a J F ⟨r,s,u⟩=>⟨r,s.trans (Ue _ _),Hp.aW u⟩) (λe a J F ⟨r,s,u,E⟩=>⟨r,s.trans (Ue _ _),u.inc (Ue _ _),E⟩) (λn a h=>hb.inc h.2.1) ?_ ?_ ?_
 ·rintro n p A ⟨rfl,g,i⟩;have d:Vl b=true:=by
   rw[qAh]at p;cases hh:Zi b with
   | nil=>rw[hh]at p;simp at p
   | cons x l=>rw[Vl,hh];rfl
  rw[Zi8 p];refine Y ?_;refine Vq (cD t4) rfl rfl i rfl rfl (OL _) (Y ?_);exact⟨rfl,FT g C,VK,d⟩
 ·rintro A ⟨B,g,i⟩;have y:Vl b=false:=by rw[qAh]at B;rw[Vl,qAb B];rfl
  refine Y ?_;refine Vq (cD t4) rfl rfl i rfl rfl (OL _) (Y ?_);refine Zlr (vs:=[vb false]) rfl (OL _) ⟨⟨_,rfl,VK⟩,trivial⟩ ?_;exact⟨FT g C,by rw[y];rfl⟩
 rintro e A K ⟨rfl,g,i,D⟩;refine Y ?_;refine Zlr (vs:=[vb true]) rfl (OL _) ⟨⟨_,rfl,i⟩,trivial⟩ ?_;exact⟨g,by rw[D];rfl⟩
def Zy9{l:List N4}(R:KU P fv N (l.map DX))(hN:∀a,aL H a->N a)(hl:l.length<=1000000):LL.Zc P 136 #[.slice none 0 0,fv] H λv a=>aL H a/\∃d,dD H a 105 v l d:=by
 refine aJ.m (bG Zw5) (args:=[.slice none 0 0,fv]) rfl ?_;unfold Zks;refine Y ?_;refine V9 rfl (OL _) λw B=>Y ?_;refine Zi5 OL rfl R (λx hx=>by obtain⟨k,_,rfl⟩:=qAB.1 hx;rfl)
  (λn a=>aL H a/\∃v d,a w=some (.cells #[v] 102,true)/\dD H a 105 v (l.take n) d/\d≠some w) (λe a=>False) ⟨Zs B,_,none,Hp.aG _ _ _,.nil H _ 105,by simp⟩
  (λn a J Q ⟨h1,v,d,M,h3,h4⟩=>⟨h1.trans (Ue _ _),v,d,Hp.aW M,h3.inc (Ue _ _),h4⟩) (λe a J Q h=>h) (λn a h=>hN _ h.1) ?_ ?_ ?_
 ·rintro n S E ⟨F,v,d,I,y,L⟩;rw[Zi8 S];rw[qAh]at S;have r:l.take (n+1)=l.take n++[l[n]]:=by rw[iN S]
  generalize l[n]=x at *;have M:H w=none:=B;refine Y ?_;refine Vt (cD Ml) (OL _) λU p=>Y ?_;refine Zip (v:=Zu x) (cD Ml) (cs:=[vi 0,vi 0,vi 0,vi 0]) rfl rfl (Hp.aG _ _ _) rfl rfl rfl (OL _) ?_;rw[Us];have G:=F.trans (Zs (o:=.cells (Zu x).cells 105) p);have i:=Zs (o:=.cells (Zu x).cells 105) p _ _ I;have K:=y.ins (o:=.cells (Zu x).cells 105) p;have c5:aC (E.ins U (.cells (Zu x).cells 105)) ⟨U,0,none⟩ x.cells:=VK;generalize E.ins U (.cells (Zu x).cells 105)=H4 at *;refine Y ?_;refine Zh (OL _) rfl (ZA (cs:=[v]) i) (Y ?_);refine YA c5 (Y ?_);refine ZY (cs:=x.cells) (OL _) rfl λr6 g=>Y ?_;have hv1:v.cells=#[v]/\Value.cJ v=true:=by obtain⟨_,⟨e,_⟩ | ⟨_,_,_,_,e,_⟩⟩:=y.own<;>(subst e;exact⟨rfl,rfl⟩)
  refine U7 (l':=[x]) (bI ZgL) (bI ZgL) (cD Ml) rfl (by decide) (G.trans (Zs g)) (K.ins g) (Z0 (l:=[x])) rfl (by simp;omega) O rfl rfl (OL _) λD Z V k1 T X=>?_;have g6:Z w=some (.cells #[v] 102,true):=X.keep w _ (Zs g _ _ i) (λe=>L e);have C:D.cells=#[D]/\Value.cJ D=true:=by obtain⟨_,⟨e,_⟩ | ⟨_,_,_,_,e,_⟩⟩:=T.own<;>(subst e;exact⟨rfl,rfl⟩)
  have A:V≠some w:=by
   rcases X.new with rfl | ⟨q,rfl,W⟩
   ·exact L
   rintro e;obtain rfl:=iO e;rw[Zs g _ _ i]at W;simp at W
  refine Y ?_;refine Vq (v:=D) (cD Zoa) rfl rfl g6 C.1 C.2 (OL _) (Y ?_);refine⟨FT k1 M,D,V,Hp.aG _ _ _,?_,A⟩;rw[r];refine⟨T.own.sub λc z e Q=>?_,T.fresh⟩;rw[Hp.aH _ _ (by rintro rfl;exact A e)];exact Q
 ·rintro E ⟨F,v,d,I,y,L⟩;rw[qAh,IF]at y;refine Y ?_;refine Zh (OL _) rfl (ZA (cs:=[v]) I) (Y ?_);exact⟨F,d,y⟩
 rintro e E he h;exact h.elim
def Tu{l:List N4}(c:KU P fv N (l.map DX))(e:∀a,aL H a->N a)(g:l.length<=1000000):LL.Zc P 82 #[fv] H λv a=>aL H a/\∃d,dD H a 105 v l d:=by refine aJ.m (bG ZxA) (args:=[fv]) rfl ?_;unfold ZkX;refine Y ?_;refine Za [.slice none 0 0,fv] (Zy9 c e g) ?_;rintro v a h;refine Y ?_;exact h
def IC(hb:Zr H b)(o:b.Sz)(h:Yk H):LL.Zc P 19 #[b.v] H λv e=>aL H e/\v=.tuple #[vi (if ZF b=0 then(Zi b).length else 0),vi (ZF b)]:=by
 refine aJ.m (bG ZxW) (args:=[b.v]) rfl ?_;unfold Zlj Sb.v;refine Y ?_;refine Za [b.v] (CG hb o h) ?_;rintro v q ⟨a,rfl⟩;refine OJ (λc=>?_) (λc=>?_)
 ·refine Y ?_;exact⟨a,by rw[aT c];rfl⟩
 have val:=Ow (b:=b) c;have g:=UI val;refine Y ?_;refine VQ rfl rfl (Y ?_);refine Za [.func (.func 83) #[b.v] #[]] (Tu (jZ val) (λe i=>(hb.inc a).inc i) O) ?_;rintro v r ⟨d,s,k⟩;obtain⟨p,u,rfl,_⟩:=k.sl;refine Y ?_;exact⟨a.trans d,by rw[iF c,c];rfl⟩
def Ov{own:Int}(hb:Zr H b)(A:b.Sz)(y:Yk H)(x:∀g,aL H g->ZV P fv #[b.v] g λv d=>aL g d/\v=vi own) :
  LL.Zc P 85 #[b.v,fv] H λv d=>aL H d/\((Zl b own≠0/\v=.tuple #[U1,vi (Zl b own)])\/(Zl b own=0/\bA b/\1<=(Zi b).length/\∃w k,v=.tuple #[ZU b w,vi 0]/\dD H d 105 w (Zi b) k)):=by
 refine aJ.m (bG Zxy) (args:=[b.v,fv]) rfl ?_;unfold ZkV Sb.v;refine Y ?_;refine Za [b.v] (CG hb A y) ?_;rintro v g ⟨a,rfl⟩;refine OJ (λh=>?_) (λh=>?_)
 ·refine Y ?_;exact⟨a,.inl ⟨by rw[Zl,iF h];exact h,by rw[Zl,iF h];rfl⟩⟩
 have val:=Ow (b:=b) h;have q:=UI val;refine Y ?_;refine ZM (vs:=[b.v]) rfl rfl (x g a) ?_;rintro v C ⟨c,rfl⟩;refine OJ (λo=>?_) (λo=>?_)
 ·have e:Zl b own=own:=by rw[Zl,aT O,iF o]
  refine Y ?_;exact⟨a.trans c,.inl ⟨by rw[e];exact o,by rw[e];rfl⟩⟩
 refine Y ?_;refine VQ rfl rfl (Y ?_);refine Za [.func (.func 83) #[b.v] #[]] (Tu (jZ val) (λd z=>((hb.inc a).inc c).inc z) O) ?_;rintro v D ⟨i,k,p⟩;obtain⟨B,E,rfl,_⟩:=p.sl;refine OJ (λu=>?_) (λu=>?_)
 ·have e:Zl b own=9:=by rw[Zl,aT O,aT O,iF O]
  refine Y ?_;exact⟨(a.trans c).trans i,.inl ⟨by rw[e];decide,by rw[e];rfl⟩⟩
 have e:Zl b own=0:=by rw[Zl,aT O,aT O,aT O]
 refine Y ?_;exact⟨(a.trans c).trans i,.inr ⟨e,val,O,_,k,rfl,p.own,λr s=>YL (a.trans c) (p.fresh r s)⟩⟩
end
