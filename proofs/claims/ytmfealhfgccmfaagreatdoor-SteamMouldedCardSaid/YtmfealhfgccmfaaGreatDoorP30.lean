import Derived.Test.YtmfealhfgccmfaaGreatDoorP21
import Derived.Test.YtmfealhfgccmfaaGreatDoorP28
import Derived.Test.YtmfealhfgccmfaaGreatDoorP29
set_option linter.all false
set_option maxHeartbeats 8000000
set_option maxRecDepth 100000
def D1{G:Prop}(h:G:=by refine Y ?_;exact⟨rfl,by rw[vX (by unfold xM;simp;omega)];rfl⟩):G:=h
def TJ{G:Prop}(h:G:=by refine Y ?_;rw[iF O]at e0;exact⟨⟨k+1,O⟩,gI O,⟨rfl,e0⟩,V,V,rfl⟩):G:=h
def DV{G:Prop}(h:G:=by exact⟨rfl,by rw[FV (by rw[e0];decide),e0];rfl⟩):G:=h
def SY{G:Prop}(h:G:=by refine Y ?_;rw[iF O]at e0;exact⟨⟨j+1,O⟩,gI O,⟨rfl,e0⟩,V,trivial,rfl⟩):G:=h
open Go Go.LL
namespace Go.Proofs
section
variable{b:Sb}
def Zix(n:Nat){l:List Nt}{j:Nat}(a:j<l.length):uV n (l.drop j)=if Vr n l[j]≠0 then Vr n l[j]else uV n (l.drop (j+1)):=by rw[CI a,uV]
section
variable{P:fP}[Tz P][Loud P]{H:Hp}
def ZtW(hb:Zq H b)(F:b.Sz):LL.Zb P 410 #[b.v] H λv q=>H=q/\v=vi (Y4 b):=by
 have Z:=F.nt;have E:=F.pk;refine aU.m (fO Zxn) rfl ?_;unfold Zjv Sb.v;refine OJ (λJ=>?_) (λJ=>?_)
 ·refine Y ?_;exact⟨rfl,by rw[Y4,qAa O];rfl⟩
 refine Y ?_;refine ZC b.nt.length (λj q=>H=q/\uV b.pk.length b.nt=uV b.pk.length (b.nt.drop j)) (λj=>[(1,vi 0),(14,.slice b.A2 b.nt.length b.c2),(15,vi b.nt.length),(16,vi j)]) (λ_=>[(1,b.cs)]) ⟨rfl,rfl⟩ V V ?_;rintro j _ X ⟨rfl,s⟩;refine OJ (λK=>?_) (λK=>?_)
 ·have o:j<b.nt.length:=O;rw[Zix _ o]at s;have z:=hb.ps b.nt[j] (iN o);have T:=F.ps b.nt[j] (iN o);refine Y ?_;refine ZB j hb.nt o λa Q=>?_;generalize b.nt[j]=x at *;have stop:Vr b.pk.length x≠0->Y4 b=Vr b.pk.length x:=λh=>by rw[Y4,iF O,s,qAa h]
  have next:Vr b.pk.length x=0->uV b.pk.length b.nt=uV b.pk.length (b.nt.drop (j+1)):=λh=>by rw[s,iF (by rw[h];simp)]
  unfold Vr at stop next
  refine Y ?_;refine YL (cs:=[.slice x.A x.ps.length x.c,vi x.lo,vi x.hi]) Q ?_;refine OJ (λL=>?_) (λL=>?_)
  ·refine Y ?_;exact⟨rfl,by rw[stop (by rw[qAa O];simp),qAa O];rfl⟩
  rw[iF O]at stop next
  refine Y ?_;refine ZC x.ps.length (λk q=>H=q/\pR b.pk.length x.ps k=0) (λk=>[(1,vi 0),(4,vi 0),(14,.slice b.A2 b.nt.length b.c2),(15,vi b.nt.length),(16,vi j),(25,.slice x.A x.ps.length x.c),(26,vi x.ps.length),(27,vi k)]) (λ_=>[(1,b.cs),(4,[.slice x.A x.ps.length x.c,vi x.lo,vi x.hi])]) ⟨rfl,rfl⟩ V V ?_;rintro k _ S ⟨rfl,I⟩;refine OJ (λM=>?_) (λM=>?_)
  ·have u:k<x.ps.length:=O;have R:x.ps.getD k 0=x.ps[k]:=ZG u _;have FV:pR b.pk.length x.ps (k+1)≠0->Y4 b=pR b.pk.length x.ps (k+1):=λh=>by have e:=Lh h x.ps.length O;rw[stop (by rw[e,qAa h];exact h),e,qAa h]
   have e0:pR b.pk.length x.ps (k+1)=if ¬ (0<=x.ps[k]/\x.ps[k]<b.pk.length)then 6 else if 0<k/\x.ps[k]<=x.ps.getD (k-1) 0 then 7 else 0:=by rw[pR,iF (by rw[I];simp),R]
   refine Y ?_;refine ZB k z u λU B=>Y ?_;refine Z8 B (Y ?_);refine Zo (ZfA _ E) ?_;refine OJ (λp=>?_) (λp=>?_)
   ·refine Y ?_;rw[qAa p]at e0;exact DV
   rw[iF O]at e0;refine OJ (λN=>?_) (λN=>?_)
   ·have w:k-1<x.ps.length:=O;have D:x.ps.getD (k-1) 0=x.ps[k-1]:=ZG w _;rw[D]at e0;refine Y ?_;refine yZ (i:=k-1) z rfl (by show some (vi ((k:Int)-1))=some (vi ((k-1:Nat):Int));congr 2;omega) rfl w λa3 C=>Y ?_;refine Z8 C ?_;refine OJ (λG=>?_) (λG=>?_)
    ·refine Y ?_;rw[qAa ⟨O,G⟩]at e0;exact DV
    exact TJ
   exact TJ
  have:k=x.ps.length:=O;subst this;rw[I,iF (by simp)]at stop next
  refine Y ?_;refine Zo (ZeC _ _ _ _) ?_;refine OJ (λp=>?_) (λp=>?_)
  ·refine Y ?_;exact⟨rfl,by rw[stop (by rw[qAa p];decide),qAa p];rfl⟩
  refine Y ?_;exact⟨⟨j+1,O⟩,gI O,⟨rfl,next (by rw[iF O])⟩,V,V,rfl⟩
 have:j=b.nt.length:=O;subst this;refine Y ?_;rw[qCQ]at s;exact⟨rfl,by rw[Y4,iF O,s];rfl⟩
def HN(hb:Zq H b)(p:b.Sz)(u:Yb H):LL.Zb P 129 #[b.v] H λv g=>fI H g/\v=vi (ZN b):=by
 refine aU.m (fO ZyD) rfl ?_;unfold ZkL Sb.v;refine Y ?_;refine YL u (Y ?_);refine ZC 3 (λj g=>fI H g/\(1<=j->Y1 b=0)/\(2<=j->YD b=0)/\(3<=j->Y4 b=0)) (λj=>[(1,vi 0),(6,.agg #[vf 408,vf 409,vf 410]),(7,vi j)]) (λ_=>[(1,b.cs)]) ⟨.refl _,O,O,O⟩ V V ?_;rintro j w z ⟨c,e,k,q⟩;refine OJ (λs=>?_) (λs=>?_)
 ·have n:j=0\/j=1\/j=2:=O;refine Y ?_;rcases n with rfl | rfl | rfl
  ·refine uH (fU Zel) (fT Zes) (rD Zf8) rfl rfl (i:=0) O rfl (Y ?_);refine ZP (vs:=[b.v]) rfl rfl (Yv U ZnJ) ?_;rintro v _ ⟨rfl,rfl⟩;refine OJ (λa=>?_) (λa=>?_)
   ·refine Y ?_;exact⟨c,by rw[ZN,qAa (by exact a)];rfl⟩
   refine Y ?_;exact⟨⟨1,O⟩,(by show 3-1<3-0;omega),⟨c,λ_=>a,λh=>absurd (show 2<=1 from h) O,λh=>absurd (show 3<=1 from h) O⟩,V,V,rfl⟩
  ·refine uH (fU Zel) (fT Zes) (rD Zf8) rfl rfl (i:=1) O rfl (Y ?_);refine ZP (vs:=[b.v]) rfl rfl (Yv U (ZsH (hb.inc c) p)) ?_;rintro v x ⟨o,rfl⟩;refine OJ (λa=>?_) (λa=>?_)
   ·refine Y ?_;exact⟨c.trans o,by rw[ZN,iF (by rw[e O];simp),qAa a];rfl⟩
   refine Y ?_;exact⟨⟨2,O⟩,(by show 3-2<3-1;omega),⟨c.trans o,λ_=>e O,λ_=>a,λh=>absurd (show 3<=2 from h) O⟩,V,V,rfl⟩
  refine uH (fU Zel) (fT Zes) (rD Zf8) rfl rfl (i:=2) O rfl (Y ?_);refine ZP (vs:=[b.v]) rfl rfl (Yv U (ZtW (hb.inc c) p)) ?_;rintro v _ ⟨rfl,rfl⟩;refine OJ (λa=>?_) (λa=>?_)
  ·refine Y ?_;exact⟨c,by rw[ZN,iF (by rw[e O];simp),iF (by rw[k O];simp)];rfl⟩
  refine Y ?_;exact⟨⟨3,O⟩,(by show 3-3<3-2;omega),⟨c,λ_=>e O,λ_=>k O,λ_=>a⟩,V,V,rfl⟩
 have:j=3:=O;subst this;refine Y ?_;exact⟨c,by rw[ZN,iF (by rw[e O];simp),iF (by rw[k O];simp),q O];rfl⟩
def ZmG(n:Int):LL.Zb P 252 #[.int .u8 n] H λv a=>H=a/\v=vb (decide (48<=n/\n<=57)):=by refine aU.m (fO ZxD) rfl ?_;unfold ZjL;exact LH
def ZzS{s:ByteArray}(A:s.size<=1000000):LL.Zb P 178 #[.string s] H λv c=>H=c/\v=vb (tJ s):=by
 refine aU.m (fO ZxM) rfl ?_;unfold ZjU;refine Y ?_;refine yY rfl ?_;refine OJ (λq=>?_) (λq=>?_)
 ·refine Y ?_;exact⟨rfl,by rw[tJ,qAU O];rfl⟩
 refine Y ?_;refine yY rfl ?_;refine OJ (λu=>?_) (λu=>?_)
 ·refine Y ?_;exact⟨rfl,by rw[tJ,qAU O];rfl⟩
 refine Y ?_;refine HK (i:=0) rfl rfl O (Y ?_);refine Zo (ZmG _) ?_;have stop:∀j,j<s.size->vV s j=false->tJ s=false:=λj o h=>by
  have:(List.range s.size).all (vV s)=false:=by rw[qDq];exact⟨j,by simpa using o,by simp[h]⟩
  rw[tJ,this,Bool.and_false]
 refine OJ (λg=>?_) (λg=>?_)
 ·refine Y ?_;exact⟨rfl,by rw[stop 0 O (by unfold vV;simp;omega)];rfl⟩
 refine Y ?_;refine ZC s.size (λj c=>H=c/\(List.range j).all (vV s)=true) (λj=>[(0,.string s),(3,vi j)]) (λ_=>[]) ⟨rfl,rfl⟩ V trivial ?_;rintro j _ o ⟨rfl,k⟩;refine Y ?_;refine yY rfl ?_;refine OJ (λw=>?_) (λw=>?_)
 ·have a:j<s.size:=O;have next:vV s j=true->(List.range (j+1)).all (vV s)=true:=λh=>by rw[qCZ,qBO,k];simp[h]
  have st:=stop j a;have p:j=0->¬ (48<=l7 s j/\l7 s j<=57):=by rintro rfl;exact g
  unfold vV at next st
  refine Y ?_;refine HK (i:=j) rfl rfl a (Y ?_);refine Zo (ZmG _) ?_;refine OJ (λn=>?_) (λn=>?_)
  ·refine Y ?_;refine HK (i:=j) rfl rfl a ?_;refine OJ (λx=>?_) (λx=>?_)
   ·refine Y ?_;exact⟨rfl,by rw[st (by simp;omega)];rfl⟩
   refine Y ?_;refine HK (i:=j) rfl rfl a ?_;refine OJ (λz=>?_) (λz=>?_)
   ·refine Y ?_;exact⟨rfl,by rw[st (by simp;omega)];rfl⟩
   refine Y ?_;exact⟨⟨j+1,O⟩,gI O,⟨rfl,next (by simp;omega)⟩,V,trivial,rfl⟩
  refine Y ?_;exact⟨⟨j+1,O⟩,gI O,⟨rfl,next (by have:=λe=>p e n;simp;omega)⟩,V,trivial,rfl⟩
 refine Y ?_;have:j=s.size:=O;subst this;exact⟨rfl,by rw[tJ,k,decide_eq_true O];rfl⟩
def ZzM{lv:Value}{l:List Int}{n:Nat}(g:dF H lv l)(D:n<=1000000)(B:l.length<=1000000):LL.Zb P 162 #[lv,vi n] H λv k=>H=k/\v=vi (pR n l l.length):=by
 refine aU.m (fO c68) rfl ?_;unfold Qy;refine Y ?_;refine ZC l.length (λj k=>H=k/\pR n l j=0) (λj=>[(0,lv),(1,vi n),(5,vi j)]) (λ_=>[]) ⟨rfl,rfl⟩ V trivial ?_;rintro j _ C ⟨rfl,u⟩;refine Y ?_;refine YH g rfl ?_;refine OJ (λw=>?_) (λw=>?_)
 ·have c:j<l.length:=O;have A:l.getD j 0=l[j]:=ZG c _;have FV:pR n l (j+1)≠0->pR n l l.length=pR n l (j+1):=λh=>Lh h _ O;have e0:pR n l (j+1)=if ¬ (0<=l[j]/\l[j]<n)then 6 else if 0<j/\l[j]<=l.getD (j-1) 0 then 7 else 0:=by rw[pR,iF (by rw[u];simp),A]
  refine Y ?_;refine ZB j g c λa o=>Y ?_;refine Z8 o (Y ?_);refine Zo (O2 _ _ _) ?_;refine OJ (λx=>?_) (λx=>?_)
  ·refine Y ?_;rw[qAa O]at e0;exact DV
  rw[iF O]at e0;refine OJ (λz=>?_) (λz=>?_)
  ·have e:j-1<l.length:=O;have q:l.getD (j-1) 0=l[j-1]:=ZG e _;rw[q]at e0;refine Y ?_;refine ZB j g c λa o=>Y ?_;refine Z8 o (Y ?_);refine yZ (i:=j-1) g rfl (by show some (vi ((j:Int)-1))=some (vi ((j-1:Nat):Int));congr 2;omega) rfl e λa3 p=>Y ?_;refine Z8 p ?_;refine OJ (λs=>?_) (λs=>?_)
   ·refine Y ?_;rw[qAa ⟨O,s⟩]at e0;exact DV
   exact SY
  exact SY
 have:j=l.length:=O;subst this;refine Y ?_;exact⟨rfl,by rw[u];rfl⟩
def Zwu(hb:Zq H b)(C:b.Sz):LL.Zb P 161 #[.slice b.A1 b.pk.length b.c1] H λv n=>H=n/\v=vi (YD b):=by
 have R:=C.pk;refine aU.m (fO Zx9) rfl ?_;unfold Zkh;refine Y ?_;refine Zo (O2 _ _ _) ?_;refine OJ (λD=>?_) (λD=>?_)
 ·refine Y ?_;exact⟨rfl,by rw[YD,qAa O];rfl⟩
 refine Y ?_;refine ZC b.pk.length (λj n=>H=n/\sK b.pk j=0) (λj=>[(0,.slice b.A1 b.pk.length b.c1),(3,vi j)]) (λ_=>[]) ⟨rfl,rfl⟩ V trivial ?_;rintro j _ Q ⟨rfl,hk⟩;refine OJ (λE=>?_) (λE=>?_)
 ·have i:j<b.pk.length:=O;have hg:b.pk.getD j ⟨⟨#[]⟩,0,0,0,0⟩=b.pk[j]:=ZG i _;have stop:VJ (b.pk.take j) b.pk[j]≠0->YD b=VJ (b.pk.take j) b.pk[j]:=λh=>by exact TB
  have next:VJ (b.pk.take j) b.pk[j]=0->sK b.pk (j+1)=0:=λh=>by rw[sK,iF (by rw[hk];simp),hg];exact h
  have z:=C.nm b.pk[j] (iN i);refine Y ?_;refine ZB j hb.pk i λa L=>?_;generalize b.pk[j]=x at *;refine Y ?_;refine YL (cs:=[.string x.nm,vi x.lo,vi x.hi,vi x.jG,vi x.jN]) L (Y ?_);refine Zo (ZzS z) ?_;unfold VJ at stop next
  cases s:tJ x.nm with
  | false=>
   rw[s]at stop;refine Y ?_;exact⟨rfl,by rw[stop (by simp)];rfl⟩
  | true=>
  rw[s]at stop next
  simp only[Bool.true_eq_false,qAq]at stop next
  refine Y ?_;refine ZC j (λk n=>H=n/\(b.pk.take k).any (λo=>o.nm.toList == x.nm.toList)=false) (λk=>[(0,.slice b.A1 b.pk.length b.c1),(3,vi j),(4,vi 0),(5,vi k)]) (λ_=>[(4,[.string x.nm,vi x.lo,vi x.hi,vi x.jG,vi x.jN])]) ⟨rfl,rfl⟩ V V ?_;rintro k _ M ⟨rfl,p⟩;refine OJ (λF=>?_) (λF=>?_)
  ·have q:k<b.pk.length:=O;have g:(b.pk.take (k+1)).any (λo=>o.nm.toList == x.nm.toList)=(b.pk[k].nm.toList == x.nm.toList):=by rw[BY q,qDc,p];simp
   refine Y ?_;refine ZB k hb.pk q λN u=>?_;generalize b.pk[k]=y at *;refine Y ?_;refine Zh (OL _) rfl (by rw[add_zero];exact YN (cs:=[.string y.nm]) (ds:=[vi y.lo,vi y.hi,vi y.jG,vi y.jN]) u) (Y ?_);refine L8 rfl rfl ?_;cases hy:y.nm.toList == x.nm.toList with
   | true=>
    rw[hy]at g;have:(b.pk.take j).any (λo=>o.nm.toList == x.nm.toList)=true:=by
     rw[qCj]at g ⊢;obtain⟨o,B,w⟩:=g;refine⟨o,?_,w⟩;have e:b.pk.take (k+1)=(b.pk.take j).take (k+1):=by rw[List.take_take,qBX O]
     rw[e]at B;exact qDC B
    rw[this]at stop;refine Y ?_;exact⟨rfl,by rw[stop (by simp)];rfl⟩
   | false=>
    rw[hy]at g;refine Y ?_;exact⟨⟨k+1,O⟩,gI O,⟨rfl,g⟩,V,V,rfl⟩
  have:k=j:=O;subst this;rw[p]at stop next
  simp only[oR,qAq]at stop next
  have vX:¬ (xM x=true)->YD b=1:=λh=>by
   have A:xM x=false:=by simpa using h
   rw[stop (by rw[qAa A];simp),qAa A]
  refine Y ?_;refine Zo (CA _ _ _ _) ?_;refine OJ (λG=>?_) (λG=>?_)
  ·exact D1
  refine OJ (λI=>?_) (λI=>?_)
  ·exact D1
  refine Y ?_;refine Zo (O2 _ _ _) ?_;refine OJ (λJ=>?_) (λJ=>?_)
  ·exact D1
  refine Y ?_;refine Zo (O2 _ _ _) ?_;refine OJ (λK=>?_) (λK=>?_)
  ·exact D1
  refine Y ?_;exact⟨⟨k+1,O⟩,gI O,⟨rfl,next (by rw[iF (by unfold xM;simp;omega)])⟩,V,trivial,rfl⟩
 have:j=b.pk.length:=O;subst this;refine Y ?_;exact⟨rfl,by rw[YD,iF O,hk];rfl⟩
def ZnG(hb:Zq H b)(o:b.Sz):LL.Zb P 85 #[b.v] H λv p=>H=p/\v=vi (ZN b):=by
 have R:=o.nt;have w:=o.pk;refine aU.m (fO ZyF) rfl ?_;unfold ZkN Sb.v;refine Y ?_;have C:¬ ((1<=b.pl/\b.pl<=3)/\(1<=b.hd/\b.hd<=3)/\(0<=b.td/\b.td<=200))->ZN b=1:=λh=>by rw[ZN,Y1,iF h];rfl
 refine Zo (O2 _ _ _) ?_;refine OJ (λE=>?_) (λE=>?_)
 ·refine Y ?_;exact⟨rfl,by rw[C O];rfl⟩
 refine Y ?_;refine Zo (O2 _ _ _) ?_;refine OJ (λF=>?_) (λF=>?_)
 ·refine Y ?_;exact⟨rfl,by rw[C O];rfl⟩
 refine Y ?_;refine Zo (O2 _ _ _) ?_;refine OJ (λG=>?_) (λG=>?_)
 ·refine Y ?_;exact⟨rfl,by rw[C O];rfl⟩
 have D:Y1 b=0:=by rw[Y1,qAa O]
 refine Y ?_;refine Zo (Zwu hb o) ?_;refine OJ (λs=>?_) (λs=>?_)
 ·refine Y ?_;exact⟨rfl,by rw[ZN,iF (by rw[D];simp),qAa s];rfl⟩
 have q:ZN b=Y4 b:=by rw[ZN,iF (by rw[D];simp),iF (by rw[s];simp)]
 refine OJ (λI=>?_) (λI=>?_)
 ·refine Y ?_;exact⟨rfl,by rw[q,Y4,qAa O];rfl⟩
 rw[Y4,iF O]at q;refine Y ?_;refine ZC b.nt.length (λj p=>H=p/\ZN b=uV b.pk.length (b.nt.drop j)) (λj=>[(1,vi 0),(4,vi j)]) (λ_=>[(1,b.cs)]) ⟨rfl,q⟩ V V ?_;rintro j _ Q ⟨rfl,k⟩;refine OJ (λJ=>?_) (λJ=>?_)
 ·have e:j<b.nt.length:=O;rw[Zix _ e]at k;have z:=hb.ps b.nt[j] (iN e);have B:=o.ps b.nt[j] (iN e);refine Y ?_;refine ZB j hb.nt e λa K=>?_;generalize b.nt[j]=x at *;have stop:Vr b.pk.length x≠0->ZN b=Vr b.pk.length x:=λh=>by rw[k,qAa h]
  have next:Vr b.pk.length x=0->ZN b=uV b.pk.length (b.nt.drop (j+1)):=λh=>by rw[k,iF (by rw[h];simp)]
  unfold Vr at stop next
  refine Y ?_;refine YL (cs:=[.slice x.A x.ps.length x.c,vi x.lo,vi x.hi]) K ?_;refine OJ (λh7=>?_) (λh7=>?_)
  ·refine Y ?_;exact⟨rfl,by rw[stop (by rw[qAa O];simp),qAa O];rfl⟩
  rw[iF O]at stop next
  refine Y ?_;refine Zo (ZzM z w B) ?_;refine OJ (λi=>?_) (λi=>?_)
  ·refine Y ?_;exact⟨rfl,by rw[stop (by rw[qAa i];exact i),qAa i];rfl⟩
  rw[iF (by rw[i];simp)]at stop next
  refine Y ?_;refine Zo (CA _ _ _ _) ?_;refine OJ (λu=>?_) (λu=>?_)
  ·refine Y ?_;exact⟨rfl,by rw[stop (by rw[qAa u];decide),qAa u];rfl⟩
  refine Y ?_;exact⟨⟨j+1,O⟩,gI O,⟨rfl,next (by rw[iF O])⟩,V,V,rfl⟩
 have:j=b.nt.length:=O;subst this;refine Y ?_;rw[qCQ]at k;exact⟨rfl,by rw[k];rfl⟩
end
def h7(f:Nat->Int):List Value:=[vi (f 0),vi (f 1),vi (f 2),vi (f 3),vi (f 4),vi (f 5),vi (f 6)]
instance:Enc U8:=⟨1,λu=>[.int .u8 u.v],λ_=>rfl⟩
end
section
open Go.Conc Go.ConcM
variable{W:World}
open YtmfealhfgccmfaaGreatDoor
abbrev J4:=List (String×DataW Unit)
def A7:Tryz.prog.globalNamed "ribband/steam.checks" = some 4:=U
def zV:(Tryz.prog.globals[4]?).map (·.type)=some 317:=U
def ZwH:Tryz.prog.cellsOf 317=3:=U
def ZwG:Tryz.prog.cellsOf 254=1:=U
def LW:Tryz.prog.globalNamed "ribband/steam.first" = some 3:=U
def J7:(Tryz.prog.globals[3]?).map (·.type)=some 314:=U
def ZwA:Tryz.prog.cellsOf 314=1:=U
def ZwB:Tryz.prog.cellsOf 312=1:=U
set_option maxRecDepth 100000 in
def nL{L:J4}(M:("ribband/steam.checks",Rows.laid_ribband_steam_checks)∈L)(h:laidMetH Tryz.prog L W):Yb (oX W):=by
 obtain⟨g,t,cs,fuel,p,B,O,Q,J⟩:=h.funcs M;obtain rfl:=aT (A7.symm.trans B);obtain rfl:=aT (zV.symm.trans O);obtain⟨xs,n,rfl,R,C,N,A⟩:=DataW.trod_array Tryz.underlying317 J;rw[ZwH]at C;have w:=A 0 (by decide);have x:=A 1 (by decide);have z:=A 2 (by decide);rw[ZwG]at w x z;obtain⟨F,G,I,rfl⟩:∃a b c,xs=[a,b,c]:=by
  match xs,N with
  | [a,b,c],_=>exact⟨a,b,c,rfl⟩
 obtain⟨c0,c1,c2,k⟩:∃a b c,cs.toList=[a,b,c]:=by
  match h:cs.toList,C with
  | [a,b,c],_=>exact⟨a,b,c,rfl⟩
 rw[k]at w x z;have q:DataW.agg [.held [40,114,105,98,98,97,110,100,47,115,116,101,97,109,46,98,111,111,107,41,46,121,97,114,100],.held [40,114,105,98,98,97,110,100,47,115,116,101,97,109,46,98,111,111,107,41,46,112,108,97,110,107,115],.held [40,114,105,98,98,97,110,100,47,115,116,101,97,109,46,98,111,111,107,41,46,110,111,116,101,115]]=DataW.agg [F.1,G.1,I.1]:=(Prod.mk.inj R).1;simp only[DataW.agg.injEq,qBg,qCw]at q;obtain⟨k0,k1,D⟩:=q;obtain⟨S,z0⟩:=F;obtain⟨T,X⟩:=G;obtain⟨V,Y⟩:=I;dsimp only at k0 k1 D;subst k0 k1 D;obtain rfl:=Go.func_of_trod (f0:=408) Tryz.underlying254 U w;obtain rfl:=Go.func_of_trod (f0:=409) Tryz.underlying254 U x;obtain rfl:=Go.func_of_trod (f0:=410) Tryz.underlying254 U z;have m:cs=#[vf 408,vf 409,vf 410]:=by rw[<-qBT (xs:=cs),k]
 subst m;have s:=World.var?_cell B Q;obtain⟨_,o,u,_⟩:=V4 (s 0);refine⟨rfl,o,false,by rw[MD];rw[u];rfl,λj K=>?_⟩;match j,K with
 | 0,_=>obtain⟨_,E,e,i⟩:=V4 (s 0);rw[u]at e;obtain rfl:=aT e;exact i
 | 1,_=>obtain⟨_,E,e,i⟩:=V4 (s 1);rw[u]at e;obtain rfl:=aT e;exact i
 | 2,_=>obtain⟨_,E,e,i⟩:=V4 (s 2);rw[u]at e;obtain rfl:=aT e;exact i
set_option maxRecDepth 100000 in
def mN{L:J4}(D:("ribband/steam.first",Rows.laid_ribband_steam_first)∈L)(h:laidMetH Tryz.prog L W):aM (oX W) ⟨3,0,none⟩ [vf 407]:=by
 obtain⟨g,t,cs,fuel,p,u,F,G,B⟩:=h.funcs D;obtain rfl:=aT (LW.symm.trans u);obtain rfl:=aT (J7.symm.trans F);obtain⟨xs,n,rfl,I,w,E,z⟩:=DataW.trod_struct Tryz.underlying314 B;rw[ZwA]at w;obtain⟨q,rfl⟩:∃a,xs=[a]:=by
  match xs,E with
  | [a],_=>exact⟨a,rfl⟩
 obtain⟨c0,i⟩:∃a,cs.toList=[a]:=by
  match h:cs.toList,w with
  | [a],_=>exact⟨a,rfl⟩
 have e:=z 0 _ rfl;rw[i]at e;have e:DataW.trod (funcToken Tryz.prog) Tryz.prog W _ _ true n 312 ((([c0]:List Value).drop 0).take (Tryz.prog.cellsOf 312))=some q:=e;rw[ZwB]at e;have c:DataW.agg [.held [114,105,98,98,97,110,100,47,115,116,101,97,109,46,102,105,114,115,116,36,49]]=DataW.agg [q.1]:=(Prod.mk.inj I).1;simp only[DataW.agg.injEq,qBg,qCw]at c;obtain⟨K,z0⟩:=q;dsimp only at c;subst c;obtain rfl:=Go.func_of_trod (f0:=407) Tryz.underlying312 U e;have k:cs=#[vf 407]:=by rw[<-qBT (xs:=cs),i]
 subst k;have s:=World.var?_cell u G;obtain⟨_,o,x,_⟩:=V4 (s 0);refine⟨rfl,o,false,by rw[MD];rw[x];rfl,λj C=>?_⟩;match j,C with
 | 0,_=>obtain⟨_,J,m,A⟩:=V4 (s 0);rw[x]at m;obtain rfl:=aT m;exact A
open Go.ChangeShapes Go.WideShapes Go.ChangeAt Go.RowKit
section
variable{H:Type}{enc:TypeId×Value->H}
set_option maxRecDepth 100000 in
theorem mM(L:J4){Gl:Hp->Prop}(Q:∀W,laidMetH Tryz.prog L W->Gl (oX W))(n:∀(os:Os) (args:Array Value),laidMetH Tryz.prog L ((World.doorLaid Tryz.prog 600 os).forCall (λ_ _=>0) ⟨#[],args,[]⟩).memory){f:FuncId}{fn:Func}{t:Nat}{s:ChangeSpec}(os:Os)(g:os.Started)(F:Stop.Interp)(c:s.vars=[])
  (S:Tryz.prog.funcs[f]? = some fn) (aN0:fn.results=#[.tmp t]) (V:fn.resultTypes=#[4]) (T:Tryz.prog.inits.idxOf? f=none)
  (hs:∀i:List (DataW H),i.length=fn.params.toList.length->s.fn H i={ results:=[.lit (.bool true)],args:=i })
  (G:∀t∈fn.params.toList,Tryz.prog.readableRec t=true/\t<Tryz.prog.types.size)
  (A:∀(W:World) (base:Nat) (args:Array Value) (i:List (DataW H)) (p:List MemPlace),(∀(j:Nat) t v,fn.params[j]? = some t->args[j]? = some v->Value.okWide Tryz.prog W .any base t v) ->
   DataW.TrodAll enc Tryz.prog W 0 (λ_=>true) true fn.params.toList args.toList i p->Gl (oX W)->LL.Reach PP (CG Tryz.prog f fn t (vb true)) (Frame.enter Tryz.prog f args .normal) [] (oX W))
  (a:Array Value)
  (U:Input.okWideB Tryz.prog ((World.doorLaid Tryz.prog 600 os).forCall (λ_ _=>0) ⟨#[],a,[]⟩) f ⟨#[],a,[]⟩=true)
  (I:s.preB enc Tryz.prog fn [] false ((World.doorLaid Tryz.prog 600 os).forCall (λ_ _=>0) ⟨#[],a,[]⟩).memory a 8=true)
  (Y:s.sizedB enc Tryz.prog fn false ((World.doorLaid Tryz.prog 600 os).forCall (λ_ _=>0) ⟨#[],a,[]⟩).memory a 8=true) :
  ReturnsInLeavingWide { calm:=true } Tryz.checked os f .any (λw args=>(s.pre enc Tryz.prog fn [] false w args/\laidMetH Tryz.prog L w)/\sizedMet enc Tryz.prog fn (OpenSpec.ofChange s) false w args)
   ((OpenSpec.ofChange s).postWith enc Tryz.prog fn F (outsideKept [.timePasses]) false true false):=by
 refine ZuO (C:=Tryz.checked) (X:=λw _=>laidMetH Tryz.prog L w) (λ_ _ _ hh h=>h.of_heap hh) Zn5 g S
  (ZnR (enc:=enc) (C:=Tryz.checked) (os:=os) (X:=λw _=>laidMetH Tryz.prog L w) (World.doorLaid Tryz.prog 600 os) a 8 rfl (ZnU os a) U I Y (n os a)) ?_
 intro W base args i gs k z R hL
 have hW:DataW.Whole enc Tryz.prog fn.params.toList s.vars false W args.toList i gs k:=R
 have J:∀(j:Nat) t v,fn.params[j]? = some t->args[j]? = some v->Value.okWide Tryz.prog W .any base t v:=z
 have B:=hW
 obtain⟨p,q,O,Z,rfl,_,_⟩:=hW
 rw[c]at Z
 obtain⟨rfl,rfl⟩:=trodVars_none Z
 obtain⟨M,K,o,w',t',r1,r2,r3,v,e,hp,g1,g2,g3,g4⟩:=ZpB T (A W base args i p J O (Q W hL))
 refine⟨M,K,o,w',t',r1,r2,r3,v,e,⟨?_,hp.2.os⟩,g1,g2,g3,g4⟩
 obtain⟨rfl,N⟩:=hp
 have m:Below W.heap.size W { w' with os:=W.os }:=⟨rfl,N.tape,N.out,N.size,N.heap⟩
 have E:∀x∈p++[],x.block<W.heap.size:=λx hx=>B.lt x hx
 rw[qAl]at E
 have u:=hs i (ZgC O)
 have D:=Zm6 Kj m G O E
 refine⟨i,[],p++[],[],p,[],B,?_,?_,?_,m.frame _,λh=>by cases h⟩
 ·rw[qAl,u,V];exact trodAll_mk1 (shut_bool Tryz.underlying4 _)
 ·rw[qAl,u];exact D
 ·rw[c,qAl,u];rfl
end
end
variable{l:List Int}{b:Sb}{fv v:Value}{f:Nt->Bool}{t:N4}
structure gY(b:Sb):Prop where
 pl:1<=b.pl/\b.pl<=3
 hd:1<=b.hd/\b.hd<=3
 td:0<=b.td/\b.td<=200
 n:1<=b.pk.length/\b.pk.length<=4
 pk:∀i (h:i<b.pk.length),(1<=b.pk[i].lo/\b.pk[i].lo<=b.pk[i].hi/\b.pk[i].hi<=20)/\b.pk[i].hi-b.pk[i].lo<3/\(1<=b.pk[i].jG/\b.pk[i].jG<=20)/\(1<=b.pk[i].jN/\b.pk[i].jN<=20)
 nm:∀i (h:i<b.pk.length),tJ b.pk[i].nm=true/\(b.pk.take i).any (λo=>o.nm.toList == b.pk[i].nm.toList)=false
 nn:b.nt.length<=3
 nt:∀x∈b.nt,x.ps≠[]/\FI b.pk.length x.ps/\(0<=x.lo/\x.lo<=x.hi/\x.hi<=80)
def Zh1{l:List Pk}:∀{n:Nat},sK l n=0->n<=l.length->∀i (h:i<l.length),i<n->VJ (l.take i) l[i]=0
 | 0,_,_,i,h,c=>absurd c (qBW _)
 | n+1,h,j,i,e,c=>by
  rw[sK]at h;split at h
  ·rename_i a;exact absurd h a
  rename_i a;rcases qAv.1 c with g | rfl
  ·exact Zh1 (by simpa using a) O i e g
  rwa [ZG e]at h
def ZsB{n:Nat}(h:pR n l l.length=0):FI n l:=by
 have key:∀j,j<=l.length->pR n l j=0:=λj a=>qAb λe=>by have:=Lh e _ a;rw[h]at this;exact e this.symm
 have o:∀j (a:j<l.length),(0<=l[j]/\l[j]<n)/\(0<j->l.getD (j-1) 0<l[j]):=by
  intro j a;have e:=key (j+1) a;rw[pR,iF (by rw[key j O];simp),ZG a]at e;split at e
  ·simp at e
  split at e
  ·simp at e
  exact⟨O,λh=>O⟩
 refine⟨?_,λz w=>?_⟩
 ·rw[qCd];intro i j g a m;have st:∀k,k<l.length->∀i (g:i<l.length) (p:k<l.length),i<k->l[i]<l[k]:=by
   intro k;induction k with
   | zero=>intro _ i _ _ h;omega
   | succ k ih=>
    intro p i g u s;have e:=(o (k+1) p).2 O;have c:k<l.length:=O;rw[qBE,ZG c]at e;by_cases q:i=k
    ·subst q;exact e
    have:=ih c i g c O;omega
  exact st j a i g a m
 obtain⟨j,a,rfl⟩:=qAz.1 w;exact(o j a).1
def Zm8{n:Nat}{l:List Int}(h:FI n l):∀j,j<=l.length->pR n l j=0
 | 0,_=>rfl
 | j+1,g=>by have a:j<l.length:=g;rw[pR,iF (by rw[Zm8 h j O];simp),ZG a,iF (by have:=h.2 _ (iN a);omega),iF];rintro⟨i,e⟩;have c:j-1<l.length:=O;rw[ZG c]at e;have:=qCd.1 h.1 (j-1) j c a O;omega
def Ziv{n:Nat}:∀{l:List Nt},uV n l=0->∀x∈l,Vr n x=0
 | [],_,x,c=>by simp at c
 | a :: l,h,x,c=>by
  rw[uV]at h;split at h
  ·rename_i e;exact absurd h e
  rename_i e;rcases qAi.1 c with rfl | c
  ·simpa using e
  exact Ziv h x c
def Ob(h:ZN b=0):gY b:=by
 unfold ZN at h;split at h
 ·rename_i g;exact absurd h g
 rename_i g;split at h
 ·rename_i a;exact absurd h a
 rename_i a;have g:Y1 b=0:=qAb g;have a:YD b=0:=qAb a;have n:(1<=b.pl/\b.pl<=3)/\(1<=b.hd/\b.hd<=3)/\(0<=b.td/\b.td<=200):=by
  unfold Y1 at g;split at g
  ·assumption
  simp at g
 unfold YD at a;split at a
 ·simp at a
 rename_i w;have p:1<=b.pk.length/\b.pk.length<=4:=qAb w;unfold Y4 at h;split at h
 ·simp at h
 have q:∀i (c:i<b.pk.length),tJ b.pk[i].nm=true/\(b.pk.take i).any (λo=>o.nm.toList == b.pk[i].nm.toList)=false/\xM b.pk[i]=true:=λi c=>by
  have e:=Zh1 a (DO _) i c c;unfold VJ at e;split at e
  ·simp at e
  split at e
  ·simp at e
  split at e
  ·simp at e
  rename_i k m s;exact⟨by simpa using k,by simpa using m,by simpa using s⟩
 refine⟨n.1,n.2.1,n.2.2,p,λi c=>?_,λi c=>⟨(q i c).1,(q i c).2.1⟩,O,λx A=>?_⟩
 ·have e:=(q i c).2.2;simp only[xM,qAc,qAK]at e;exact⟨e.1.1.1,e.1.1.2,e.1.2,e.2⟩
 have e:=Ziv h x A;unfold Vr at e;split at e
 ·simp at e
 split at e
 ·rename_i k;exact absurd e k
 split at e
 ·simp at e
 rename_i k m s;exact⟨λh=>k (by rw[h];rfl),ZsB (by simpa using m),O⟩
def gY.sz(h:gY b)(c:∀p∈b.pk,p.nm.size<=1000000):b.Sz:=⟨by have:=h.n;omega,by have:=h.nn;omega,λx a=>by have:=Zf5 (h.nt x a).2.1;have:=h.n;omega,c⟩
def Oa(t:N4)(l:List Int):Int:=l.foldl (λs p=>s+t.get p.toNat) 0
theorem ZgY(t:N4){j:Nat}(a:j<l.length):Oa t (l.take (j+1))=Oa t (l.take j)+t.get l[j].toNat:=by unfold Oa;rw[BY a,qCs];rfl
def YA(t:N4):Prop:=∀j,j<4->0<=t.get j/\t.get j<=20
def ZgZ{t:N4}(e:YA t){n:Nat}{l:List Int}(c:∀z∈l,0<=z/\z<4):∀j,j<=l.length->0<=Oa t (l.take j)/\Oa t (l.take j)<=20 * j
 | 0,_=>by simp[Oa]
 | j+1,g=>by have a:j<l.length:=g;rw[ZgY t a];have h:=ZgZ e (n:=n) c j O;have i:=c l[j] (iN a);have k:=e l[j].toNat O;omega
def rE(t:N4)(x:Nt):Bool:=decide (x.lo<=Oa t x.ps/\Oa t x.ps<=x.hi)
def hV(b:Sb)(t:N4):Bool:=b.nt.all (rE t)
abbrev Qx(x:Nt):Value:=.agg #[.slice x.A x.ps.length x.c,vi x.lo,vi x.hi]
section
variable{P:fP}[Tz P][Loud P]{H:Hp}
def ZzU{l:List Nt}(hf:∀x∈l,Z5 P fv #[Qx x] H λv H'=>H=H'/\v=vb (f x))(hl:dF H v l)(a:l.length<=1000000) :
  LL.Zb P 327 #[v,fv] H λv H'=>H=H'/\∃r:Int,v=vi r/\(0<=r↔l.any f=true):=by
 refine aU.m (fO ZxC) rfl ?_;unfold ZjK;exact gq6
def Zz7{l:List Nt}(c:∀x∈l,Z5 P fv #[Qx x] H λv a=>H=a/\v=vb (f x))(e:dF H v l)(g:l.length<=1000000) :
  LL.Zb P 263 #[v,fv] H λv a=>H=a/\v=vb (l.any f):=by
 refine aU.m (fO ZxJ) rfl ?_;unfold ZjR;refine Y ?_;refine Z7 (vs:=[v,fv]) rfl (ZzU c e g) ?_;exact TT
def ZpV{x:Nt}{r:Nat}(E:YA t)(u:∀z∈x.ps,0<=z/\z<4)(L:x.ps.length<=1000)(s:dF H (.slice x.A x.ps.length x.c) x.ps)(h:aM H ⟨r,0,none⟩ t.cells) :
  LL.Zb P 264 #[Qx x,.pointer (some ⟨r,0,none⟩)] H λv q=>H=q/\v=vb (!rE t x):=by
 refine aU.m (fO ZxI) rfl ?_;unfold ZjQ;refine Y ?_;refine ZC x.ps.length (λj q=>H=q) (λj=>[(1,.pointer (some ⟨r,0,none⟩)),(2,vi 0),(4,vi (Oa t (x.ps.take j))),(8,.slice x.A x.ps.length x.c),(9,vi x.ps.length),(10,vi j)]) (λ_=>[(2,[.slice x.A x.ps.length x.c,vi x.lo,vi x.hi])]) rfl V V ?_;rintro j _ C rfl;refine OJ (λw=>?_) (λw=>?_)
 ·have g:j<x.ps.length:=O;obtain⟨n,D⟩:∃n:Nat,x.ps[j]=n:=⟨x.ps[j].toNat,by have:=u _ (iN g);omega⟩;have i:n<4:=by have:=u _ (iN g);omega
  have k:=ZgY t g;have J:=ZgZ E (n:=0) u j O;have K:=E n i;rw[D,qAL]at k;refine Y ?_;refine ZB j s g λa B=>?_;rw[D]at B;refine Y ?_;refine Z8 B (Y ?_);refine W7 (fU HL) (fT t3) rfl rfl i (Y ?_);have I:aM H ((⟨r,0,none⟩:Addr).add (n * 1)) [vi (t.get n)]:=by
   obtain⟨w,o,p,F,G⟩:=h;refine⟨XD rfl _,o,p,by rw[MB];exact F,λj C=>?_⟩;have:j=0:=by simpa using C
   subst this;rw[MC];have e:=G (0+n * 1) (by show 0+n * 1<4;omega);rw[Kg _ i]at e;simpa using e
  refine Z8 I (Y ?_);exact⟨⟨j+1,O⟩,gI O,rfl,⟨rfl,rfl,by rw[k];rfl,rfl,rfl,rfl,trivial⟩,V,rfl⟩
 have:j=x.ps.length:=O;subst this;rw[qAh];refine Y ?_;refine Zo (Uc _ _ _) (Y ?_);exact⟨rfl,rfl⟩
def ZpU(hb:Zq H b)(ok:gY b)(j:YA t):LL.Zb P 200 #[b.v,ZI t] H λv h=>H.Sub h/\v=vb (hV b t):=by refine aU.m (fO Zx5) rfl ?_;unfold Zkd Sb.v;refine Y ?_;refine Ug rfl (OL _) λr i=>?_;have g:=YB (o:=.cells (ZI t).cells 239) i;have c1:aM (H.ins r (.cells (ZI t).cells 239)) ⟨r,0,none⟩ t.cells:=VR;have a:=hb.sub g;generalize H.ins r (.cells (ZI t).cells 239)=p at *;refine Y ?_;refine VW rfl rfl (Y ?_);refine Zo (Zz7 (f:=λx=>!rE t x) (λx c=>Yv U (ZpV j (λz k=>by have:=(ok.nt x c).2.1.2 z k;have:=ok.n;omega) (by have:=Zf5 (ok.nt x c).2.1;have:=ok.n;omega) (a.ps x c) c1)) a.nt (by have:=ok.nn;omega)) (Y ?_);exact⟨g,by show vb _=vb _;congr 1;rw[hV,List.all_eq_not_any_not]⟩
def Zoc(n:dF H v l)(g:l.length<=4):LL.Zb P 193 #[v] H λv j=>H.Sub j/\v=ZI (YQ l):=by
 refine aU.m (fO Zx6) rfl ?_;unfold Zke;refine Y ?_;refine VY (fT Zom) (OL _) λr i=>Y ?_;refine Ztb (hi:=4) (k:=.i64) (fU HL) (fT t3) O rfl (.inl ⟨rfl,rfl⟩) O (Y ?_);refine Ztz (cs:=[vi 0,vi 0,vi 0,vi 0]) (fU jR) (fT t3) rfl rfl (n.sub (YB i)) g rfl (Hp.aQ _ _ _) (OL _) ?_;rw[Uy];have e:l.map vi++[vi 0,vi 0,vi 0,vi 0].drop l.length=(YQ l).cells:=by
  match l,g with
  | [],_=>rfl
  | [a],_=>rfl
  | [a,b],_=>rfl
  | [a,b,c],_=>rfl
  | [a,b,c,d],_=>rfl
  | a :: b :: c :: d :: e :: l,h=>simp at h
 rw[e];refine Y ?_;refine YL VR (Y ?_);exact⟨YB i,rfl⟩
end
instance:Enc N4:=⟨4,λm=>m.cells,λ_=>rfl⟩
def oJ{α:Type}(f:Int->List α)(a:Int):Nat->List α
 | 0=>[]
 | c+1=>f (a-c)++oJ f a c
def gA(b:Sb)(i:Nat):Pk:=b.pk.getD i ⟨⟨#[]⟩,0,0,0,0⟩
def hU(b:Sb):Nat->N4->List N4
 | 0,m=>if hV b m=true then[m]else[]
 | r+1,m=>oJ (λv=>hU b r (m.put (b.pk.length-(r+1)) v)) (gA b (b.pk.length-(r+1))).hi ((gA b (b.pk.length-(r+1))).hi-(gA b (b.pk.length-(r+1))).lo+1).toNat
def Za(b:Sb):List N4:=hU b b.pk.length ⟨0,0,0,0⟩
def DC(x:N4):List Value:=[ZI x]
def Ns(a c e:Nat):Value:=.func (.func 199) #[] #[pt a,pt e,pt c]
structure Znm(G:Hp)(bc:List Value)(rb rn ry:Nat)(y:Value)(E1 E2 E3:TypeId):Prop where
 b:G rb=some (.cells bc.toArray E1,true)
 n:G rn=some (.cells #[Ns rb rn ry] E2,true)
 y:G ry=some (.cells #[y] E3,true)
def YA.put{m:N4}(h:YA m)(i:Nat){v:Int}(c:0<=v/\v<=20):YA (m.put i v):=λj a=>by
 rw[N4.iC _ _ a];split
 ·exact c
 exact h j a
def ZlJ:YA ⟨0,0,0,0⟩:=λj a=>by
 match j,a with
 | 0,_=>exact⟨by decide,by decide⟩
 | 1,_=>exact⟨by decide,by decide⟩
 | 2,_=>exact⟨by decide,by decide⟩
 | 3,_=>exact⟨by decide,by decide⟩
section
variable{P:fP}[Tz P][Loud P]{H:Hp}
def ZoS{y:Value}{E1 E2 E3:TypeId}{C:List (List Value)}{I:Nat->Hp->Prop}{S:Hp->Prop}(ok:gY b)(hI:∀n,Up (I n))(hS:Up S)(hN:∀n H,I n H->Zq H b)
  (hy:∀n (hn:n<C.length) H,I n H->Z5 P y (C[n]).toArray H (λv w=>(v=.bool true/\I (n+1) w)\/(v=.bool false/\S w))) (B rn ry:Nat) {G:Hp} (K:Znm G b.cs B rn ry y E1 E2 E3) :
  ∀(r:Nat) (m:N4) (rest:List (List Value)) (H:Hp),r<=b.pk.length->YA m->JG G (kB C I ((hU b r m).map DC++rest)) H ->
   LL.Zb P 199 #[ZI m,vi (b.pk.length-r:Nat),pt B,pt ry,pt rn] H λv w=>(v=vb true/\JG G (kB C I rest) w)\/(v=vb false/\JG G S w):=by
 have x:∀{rest H},JG G (kB C I rest) H->Zq H b:=λo=>by obtain⟨p,_,_,h⟩:=o.up (BL hI);exact hN p _ h
 have Ji:=ok.n
 intro r
 induction r with
 | zero=>
  intro m rest H hr Z o;rw[hU]at o;refine aU.m (fO ZmZ) rfl ?_;unfold Zfl;have bk:=x o;have D:aM H ⟨B,0,none⟩ b.cs:=ZM (o.inc _ _ K.b);refine Y ?_;refine Zh (OL _) rfl (UG (j:=3) D rfl) ?_;refine OJ (λE=>?_) (λE=>?_);rotate_left
  ·exact absurd O E
  refine Y ?_;refine YL D (Y ?_);refine Zg (ZpU bk ok Z) ?_;rintro v H1 ⟨s1,rfl⟩;have q:=o.sub s1;refine OJ (λJ=>?_) (λJ=>?_)
  ·rw[iF (by simp[J])]at q;refine Y ?_;exact .inl ⟨rfl,q⟩
  rw[qAa (by simpa using J),qBm,qBa]at q;refine Y ?_;refine Zh (OL _) rfl (ZM (q.inc _ _ K.y)) (Y ?_);refine ZP (vs:=[ZI m]) rfl rfl (JG.call (λH h=>kB.call (S:=S) hy h) q) ?_;rintro v H7 ⟨Hc,F,rfl,q1,q2,(⟨rfl,q3⟩ | ⟨rfl,q3⟩)⟩
  ·refine Y ?_;exact .inl ⟨rfl,Hc,F,rfl,q1,q2,q3⟩
  refine Y ?_;exact .inr ⟨rfl,Hc,F,rfl,q1,q2,q3⟩
 | succ r ih=>
  intro m rest H hr Z o;rw[hU]at o;have z:b.pk.length-(r+1)<b.pk.length:=O;have X:((b.pk.length-(r+1):Nat):Int)+1=(b.pk.length-r:Nat):=O;generalize b.pk.length-(r+1)=i at *;have L:i<4:=O;have FZ:gA b i=b.pk[i]:=ZG z _;rw[FZ]at o;have hp:=ok.pk i z;refine aU.m (fO ZmZ) rfl ?_;unfold Zfl;have bk:=x o;have D:aM H ⟨B,0,none⟩ b.cs:=ZM (o.inc _ _ K.b);refine Y ?_;refine Zh (OL _) rfl (UG (j:=3) D rfl) ?_;refine OJ (λE=>?_) (λE=>?_)
  ·exact absurd E O
  refine Y ?_;refine Zh (OL _) rfl (UG (j:=3) D rfl) (Y ?_);refine ZB i bk.pk z λa T=>Y ?_;refine Zh (OL _) rfl (UG (j:=1) T rfl) (Y ?_);generalize rA:(b.pk[i].hi-b.pk[i].lo+1).toNat=g at o;refine Yp (α:=N4) g (λk s w=>(∀v,s.put i v=m.put i v)/\JG G (kB C I ((oJ (λv=>hU b r (m.put i v)) b.pk[i].hi (g-k)).map DC++rest)) w)
   (λk s=>[(1,vi i),(2,pt B),(3,pt ry),(4,pt rn),(5,vi 0),(8,vi (b.pk[i].lo+k))]) (λ_ s=>[(5,s.cells)]) m ⟨λ_=>rfl,o⟩ ⟨rfl,rfl,rfl,rfl,rfl,by simp[fG.set],trivial⟩ V ?_
  rintro k m' H3 hk ⟨M,e⟩;have N:=x e;have Q:aM H3 ⟨B,0,none⟩ b.cs:=ZM (e.inc _ _ K.b);refine Y ?_;refine Zh (OL _) rfl (UG (j:=3) Q rfl) (Y ?_);refine ZB i N.pk z λa T=>Y ?_;refine Zh (OL _) rfl (UG (j:=2) T rfl) ?_;refine OJ (λJ=>?_) (λJ=>?_)
  ·refine Y ?_;refine sV (j:=i) rfl rfl L (Y ?_);refine EL (OL _) rfl rfl rfl rfl (by show 0+i * 1+1<=4;omega) rfl ?_;have e5:ZR m'.cells (0+i * 1) (Value.cells (vi (b.pk[i].lo+k))).toList=(m.put i (b.pk[i].lo+k)).cells:=by rw[<-M];exact HI _ _ L
   rw[e5];have N0:YA (m.put i (b.pk[i].lo+k)):=Z.put i ⟨O,O⟩;have R:g-k=(g-(k+1))+1:=O;have e7:b.pk[i].hi-((g-(k+1):Nat):Int)=b.pk[i].lo+k:=O;rw[R,oJ,qBt,qAE,e7]at e;refine Y ?_;refine Zh (OL _) rfl (ZM (e.inc _ _ K.n)) (Y ?_);rw[X];refine ZP (vs:=[ZI (m.put i (b.pk[i].lo+k)),vi (b.pk.length-r:Nat)]) rfl rfl (Yv U (ih (m.put i (b.pk[i].lo+k)) _ H3 O N0 e)) ?_;rintro v H5 (⟨rfl,A⟩ | ⟨rfl,A⟩)
   ·refine Y ?_;refine⟨(⟨k+1,O⟩,m.put i (b.pk[i].lo+k)),gI O,⟨λv=>N4.n8 _ _ _,A⟩,⟨rfl,rfl,rfl,rfl,rfl,?_,trivial⟩,V,rfl⟩;show some (vi (b.pk[i].lo+k+1))=some (vi (b.pk[i].lo+(k+1:Nat)));congr 2;omega
   refine Y ?_;exact .inr ⟨rfl,A⟩
  have R:g-k=0:=O;rw[R,oJ,qBM,qAt]at e;refine Y ?_;exact .inl ⟨rfl,e⟩
end
