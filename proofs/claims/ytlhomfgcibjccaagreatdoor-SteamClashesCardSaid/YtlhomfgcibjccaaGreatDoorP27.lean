import Derived.Test.YtlhomfgcibjccaaGreatDoorP20
import Derived.Test.YtlhomfgcibjccaaGreatDoorP26
set_option linter.all false
set_option maxHeartbeats 8000000
set_option maxRecDepth 20000
open Go Go.LL
namespace Go.Proofs
variable{l:List Int}{j n:Nat}{b:Sb}{fv v:Value}{f:Nt->Bool}{t:N4}{N:Hp->Prop}
theorem Zh3{G:Prop} (h:G:=by refine Y ?_;rw[bY O]at e0;exact⟨⟨k+1,O⟩,dX O,⟨rfl,e0⟩,V,V,rfl⟩):G:=h
theorem Zi8(n:Nat){l:List Nt}(hj:j<l.length):uE n (l.drop j)=if Ve n l[j]≠0 then Ve n l[j]else uE n (l.drop (j+1)):=by rw[JZ hj,uE]
section
variable{P:bF}[Tz P][Loud P]{H:Hp}
theorem ZtB(hb:Zs H b)(sz:b.Sz):LL.Zc P 279 #[b.v] H λv H'=>H=H'/\v=vi (YU b):=by
 have hn:=sz.nt;have BD:=sz.pk;refine aO.m (cF ZwE) (args:=[b.v]) rfl ?_;unfold ZjX Sb.v;refine Y ?_;refine OI (λh0=>?_) (λh0=>?_)
 ·refine Y ?_;exact⟨rfl,by rw[YU,iO O];rfl⟩
 refine Y ?_;refine Zw b.nt.length (λj H'=>H=H'/\uE b.pk.length b.nt=uE b.pk.length (b.nt.drop j)) (λj=>[(1,vi 0),(14,.slice b.A2 b.nt.length b.c2),(15,vi b.nt.length),(16,vi j)]) (λ_=>[(1,b.cs)]) ⟨rfl,rfl⟩ V V ?_;rintro j _ hj ⟨rfl,hk⟩;refine Y ?_;refine OI (λh1=>?_) (λh1=>?_)
 ·have cH:j<b.nt.length:=O;rw[Zi8 _ cH]at hk;have yX:=hb.ps b.nt[j] (IN cH);have Wa:=sz.ps b.nt[j] (IN cH);refine Y ?_;refine Zx hb.nt rfl rfl rfl (i:=j) cH λa ha=>?_;generalize b.nt[j]=x at *;have stop:Ve b.pk.length x≠0->YU b=Ve b.pk.length x:=λh=>by rw[YU,bY O,hk,iO h]
  have next:Ve b.pk.length x=0->uE b.pk.length b.nt=uE b.pk.length (b.nt.drop (j+1)):=λh=>by rw[hk,bY (by rw[h];simp)]
  unfold Ve at stop next
  refine Y ?_;refine Zl (cs:=[.slice x.A x.ps.length x.c,vi x.lo,vi x.hi]) (OL _) rfl ha rfl (Y ?_);refine OI (λh2=>?_) (λh2=>?_)
  ·refine Y ?_;exact⟨rfl,by rw[stop (by rw[iO O];simp),iO O];rfl⟩
  rw[bY O]at stop next
  refine Y ?_;refine Zw x.ps.length (λk H'=>H=H'/\nS b.pk.length x.ps k=0) (λk=>[(1,vi 0),(4,vi 0),(14,.slice b.A2 b.nt.length b.c2),(15,vi b.nt.length),(16,vi j),(25,.slice x.A x.ps.length x.c),(26,vi x.ps.length),(27,vi k)]) (λ_=>[(1,b.cs),(4,[.slice x.A x.ps.length x.c,vi x.lo,vi x.hi])]) ⟨rfl,rfl⟩ V V ?_;rintro k _ rI ⟨rfl,hq⟩;refine Y ?_;refine OI (λh3=>?_) (λh3=>?_)
  ·have gG:k<x.ps.length:=O;have hg:x.ps.getD k 0=x.ps[k]:=ZA gG _;have sB:nS b.pk.length x.ps (k+1)≠0->YU b=nS b.pk.length x.ps (k+1):=λh=>by have e:=Co h x.ps.length O;rw[stop (by rw[e,iO h];exact h),e,iO h]
   have e0:nS b.pk.length x.ps (k+1)=if ¬ (0<=x.ps[k]/\x.ps[k]<b.pk.length)then 6 else if 0<k/\x.ps[k]<=x.ps.getD (k-1) 0 then 7 else 0:=by rw[nS,bY (by rw[hq];simp),hg]
   refine Y ?_;refine Zx yX rfl rfl rfl (i:=k) gG λa2 QO=>Y ?_;refine Zg (OL _) rfl QO (Y ?_);refine Za (vs:=[b.v,vi x.ps[k]]) rfl (Mt _ BD) ?_;rintro v _ ⟨rfl,rfl⟩;refine Y ?_;refine OI (λh4=>?_) (λh4=>?_)
   ·refine Y ?_;rw[iO h4]at e0;exact⟨rfl,by rw[sB (by rw[e0];decide),e0];rfl⟩
   rw[bY O]at e0;refine Y ?_;refine OI (λh5=>?_) (λh5=>?_)
   ·have sY:k-1<x.ps.length:=O;have fU:x.ps.getD (k-1) 0=x.ps[k-1]:=ZA sY _;rw[fU]at e0;refine Y ?_;refine Zx (i:=k-1) yX rfl (by show some (vi ((k:Int)-1))=some (vi ((k-1:Nat):Int));congr 2;omega) rfl sY λa3 Jc=>Y ?_;refine Zg (OL _) rfl Jc (Y ?_);refine OI (λh6=>?_) (λh6=>?_)
    ·refine Y ?_;rw[iO ⟨O,h6⟩]at e0;exact⟨rfl,by rw[sB (by rw[e0];decide),e0];rfl⟩
    exact Zh3
   exact Zh3
  have:k=x.ps.length:=O;subst this;rw[hq,bY (by simp)]at stop next
  refine Y ?_;refine Za (vs:=[.agg #[vi x.lo,vi x.hi],vi 0,vi 80]) rfl (Pu _ _ _ _) ?_;rintro v _ ⟨rfl,rfl⟩;refine Y ?_;refine OI (λh4=>?_) (λh4=>?_)
  ·refine Y ?_;exact⟨rfl,by rw[stop (by rw[iO h4];decide),iO h4];rfl⟩
  refine Y ?_;exact⟨⟨j+1,O⟩,dX O,⟨rfl,next (by rw[bY O])⟩,V,V,rfl⟩
 have:j=b.nt.length:=O;subst this;refine Y ?_;rw[qDe]at hk;exact⟨rfl,by rw[YU,bY O,hk];rfl⟩
theorem L3(hb:Zs H b)(sz:b.Sz)(hg:Yl H):LL.Zc P 71 #[b.v] H λv H'=>bO H H'/\v=vi (ZF b):=by
 refine aO.m (cF ZxU) (args:=[b.v]) rfl ?_;unfold Zld Sb.v;refine Y ?_;refine Zl (OL _) rfl hg rfl (Y ?_);refine Zw 3 (λj H'=>bO H H'/\(1<=j->YP b=0)/\(2<=j->Yr b=0)/\(3<=j->YU b=0)) (λj=>[(1,vi 0),(6,.agg #[vf 277,vf 278,vf 279]),(7,vi j)]) (λ_=>[(1,b.cs)]) ⟨.refl _,O,O,O⟩ V V ?_;rintro j H1 hj ⟨i1,g1,g2,g3⟩;refine Y ?_;refine OI (λh1=>?_) (λh1=>?_)
 ·have s8:j=0\/j=1\/j=2:=O;refine Y ?_;rcases s8 with rfl | rfl | rfl
  ·refine MP (dC Qj) (eI Qc) (E6 Kv) rfl rfl (i:=0) O rfl (Y ?_);refine ZN (vs:=[b.v]) rfl rfl (Yk U ZnP) ?_;rintro v _ ⟨rfl,rfl⟩;refine Y ?_;refine OI (λh2=>?_) (λh2=>?_)
   ·refine Y ?_;exact⟨i1,by rw[ZF,iO (by exact h2)];rfl⟩
   refine Y ?_;exact⟨⟨1,O⟩,(by show 3-1<3-0;omega),⟨i1,λ_=>h2,λh=>absurd (show 2<=1 from h) O,λh=>absurd (show 3<=1 from h) O⟩,V,V,rfl⟩
  ·refine MP (dC Qj) (eI Qc) (E6 Kv) rfl rfl (i:=1) O rfl (Y ?_);refine ZN (vs:=[b.v]) rfl rfl (Yk U (ZsD (hb.bA i1) sz)) ?_;rintro v H2 ⟨i2,rfl⟩;refine Y ?_;refine OI (λh2=>?_) (λh2=>?_)
   ·refine Y ?_;exact⟨i1.trans i2,by rw[ZF,bY (by rw[g1 O];simp),iO h2];rfl⟩
   refine Y ?_;exact⟨⟨2,O⟩,(by show 3-2<3-1;omega),⟨i1.trans i2,λ_=>g1 O,λ_=>h2,λh=>absurd (show 3<=2 from h) O⟩,V,V,rfl⟩
  refine MP (dC Qj) (eI Qc) (E6 Kv) rfl rfl (i:=2) O rfl (Y ?_);refine ZN (vs:=[b.v]) rfl rfl (Yk U (ZtB (hb.bA i1) sz)) ?_;rintro v _ ⟨rfl,rfl⟩;refine Y ?_;refine OI (λh2=>?_) (λh2=>?_)
  ·refine Y ?_;exact⟨i1,by rw[ZF,bY (by rw[g1 O];simp),bY (by rw[g2 O];simp)];rfl⟩
  refine Y ?_;exact⟨⟨3,O⟩,(by show 3-3<3-2;omega),⟨i1,λ_=>g1 O,λ_=>g2 O,λ_=>h2⟩,V,V,rfl⟩
 have:j=3:=O;subst this;refine Y ?_;exact⟨i1,by rw[ZF,bY (by rw[g1 O];simp),bY (by rw[g2 O];simp),g3 O];rfl⟩
theorem ZmY(n:Int):LL.Zc P 216 #[.int .u8 n] H λv H'=>H=H'/\v=vb (decide (48<=n/\n<=57)):=by refine aO.m (cF ZwU) (args:=[.int .u8 n]) rfl ?_;unfold Zkd;refine Y ?_;refine OI (λh1=>?_) (λh1=>?_)<;>refine Y ?_<;>exact⟨rfl,by simp[YR,h1]⟩
theorem Zy4{s:ByteArray}(hz:s.size<=1000000):LL.Zc P 164 #[.string s] H λv H'=>H=H'/\v=vb (tN s):=by
 refine aO.m (cF Zw3) (args:=[.string s]) rfl ?_;unfold Zkm;refine Y ?_;refine SA rfl (Y ?_);refine OI (λh1=>?_) (λh1=>?_)
 ·refine Y ?_;exact⟨rfl,by rw[tN,qAZ O];rfl⟩
 refine Y ?_;refine SA rfl (Y ?_);refine OI (λh2=>?_) (λh2=>?_)
 ·refine Y ?_;exact⟨rfl,by rw[tN,qAZ O];rfl⟩
 refine Y ?_;refine XT (i:=0) rfl rfl O (Y ?_);refine Za (vs:=[.int .u8 (rO s 0)]) rfl (ZmY _) ?_;rintro v _ ⟨rfl,rfl⟩;have stop:∀j,j<s.size->v3 s j=false->tN s=false:=λj hj h=>by
  have:(List.range s.size).all (v3 s)=false:=by rw[List.all_eq_false];exact⟨j,by simpa using hj,by simp[h]⟩
  rw[tN,this,Bool.and_false]
 refine Y ?_;refine OI (λh3=>?_) (λh3=>?_)
 ·refine Y ?_;exact⟨rfl,by rw[stop 0 O (by unfold v3;simp;omega)];rfl⟩
 refine Y ?_;refine Zw s.size (λj H'=>H=H'/\(List.range j).all (v3 s)=true) (λj=>[(0,.string s),(3,vi j)]) (λ_=>[]) ⟨rfl,rfl⟩ V trivial ?_;rintro j _ hj ⟨rfl,hI⟩;refine Y ?_;refine SA rfl (Y ?_);refine OI (λh4=>?_) (λh4=>?_)
 ·have cH:j<s.size:=O;have next:v3 s j=true->(List.range (j+1)).all (v3 s)=true:=λh=>by rw[qCH,List.all_append,hI];simp[h]
  have st:=stop j cH;have d0:j=0->¬ (48<=rO s j/\rO s j<=57):=by rintro rfl;exact h3
  unfold v3 at next st
  refine Y ?_;refine XT (i:=j) rfl rfl cH (Y ?_);refine Za (vs:=[.int .u8 (rO s j)]) rfl (ZmY _) ?_;rintro v _ ⟨rfl,rfl⟩;refine Y ?_;refine OI (λhd=>?_) (λhd=>?_)
  ·refine Y ?_;refine XT (i:=j) rfl rfl cH (Y ?_);refine OI (λh5=>?_) (λh5=>?_)
   ·refine Y ?_;exact⟨rfl,by rw[st (by simp;omega)];rfl⟩
   refine Y ?_;refine XT (i:=j) rfl rfl cH (Y ?_);refine OI (λh6=>?_) (λh6=>?_)
   ·refine Y ?_;exact⟨rfl,by rw[st (by simp;omega)];rfl⟩
   refine Y ?_;exact⟨⟨j+1,O⟩,dX O,⟨rfl,next (by simp;omega)⟩,V,trivial,rfl⟩
  refine Y ?_;exact⟨⟨j+1,O⟩,dX O,⟨rfl,next (by have:=λe=>d0 e hd;simp;omega)⟩,V,trivial,rfl⟩
 refine Y ?_;have:j=s.size:=O;subst this;exact⟨rfl,by rw[tN,hI,decide_eq_true O];rfl⟩
theorem ZyZ{lv:Value}(hl:aV H lv l)(hn:n<=1000000)(oG:l.length<=1000000):LL.Zc P 55 #[lv,vi n] H λv H'=>H=H'/\v=vi (nS n l l.length):=by
 refine aO.m (cF c68) (args:=[lv,vi n]) rfl ?_;unfold Rx;refine Y ?_;refine Zw l.length (λj H'=>H=H'/\nS n l j=0) (λj=>[(0,lv),(1,vi n),(5,vi j)]) (λ_=>[]) ⟨rfl,rfl⟩ V trivial ?_;rintro j _ hj ⟨rfl,hq⟩;refine Y ?_;refine YD hl rfl (Y ?_);refine OI (λh1=>?_) (λh1=>?_)
 ·have cH:j<l.length:=O;have hg:l.getD j 0=l[j]:=ZA cH _;have sB:nS n l (j+1)≠0->nS n l l.length=nS n l (j+1):=λh=>Co h _ O;have e0:nS n l (j+1)=if ¬ (0<=l[j]/\l[j]<n)then 6 else if 0<j/\l[j]<=l.getD (j-1) 0 then 7 else 0:=by rw[nS,bY (by rw[hq];simp),hg]
  refine Y ?_;refine Zx hl rfl rfl rfl (i:=j) cH λa ha=>Y ?_;refine Zg (OL _) rfl ha (Y ?_);refine Za (vs:=[vi l[j],vi 0,vi (n-1)]) rfl (E9 _ _ _) ?_;rintro v _ ⟨rfl,rfl⟩;refine Y ?_;refine OI (λh2=>?_) (λh2=>?_)
  ·refine Y ?_;rw[iO O]at e0;exact⟨rfl,by rw[sB (by rw[e0];decide),e0];rfl⟩
  rw[bY O]at e0;refine Y ?_;refine OI (λh3=>?_) (λh3=>?_)
  ·have sY:j-1<l.length:=O;have fU:l.getD (j-1) 0=l[j-1]:=ZA sY _;rw[fU]at e0;refine Y ?_;refine Zx hl rfl rfl rfl (i:=j) cH λa ha=>Y ?_;refine Zg (OL _) rfl ha (Y ?_);refine Zx (i:=j-1) hl rfl (by show some (vi ((j:Int)-1))=some (vi ((j-1:Nat):Int));congr 2;omega) rfl sY λa3 Jc=>Y ?_;refine Zg (OL _) rfl Jc (Y ?_);refine OI (λh6=>?_) (λh6=>?_)
   ·refine Y ?_;rw[iO ⟨O,h6⟩]at e0;exact⟨rfl,by rw[sB (by rw[e0];decide),e0];rfl⟩
   refine Y ?_;rw[bY O]at e0;exact⟨⟨j+1,O⟩,dX O,⟨rfl,e0⟩,V,trivial,rfl⟩
  refine Y ?_;rw[bY O]at e0;exact⟨⟨j+1,O⟩,dX O,⟨rfl,e0⟩,V,trivial,rfl⟩
 have:j=l.length:=O;subst this;refine Y ?_;exact⟨rfl,by rw[hq];rfl⟩
theorem ZvO(hb:Zs H b)(sz:b.Sz):LL.Zc P 126 #[.slice b.A1 b.pk.length b.c1] H λv H'=>H=H'/\v=vi (Yr b):=by
 have hn:=sz.pk;refine aO.m (cF Zxq) (args:=[.slice b.A1 b.pk.length b.c1]) rfl ?_;unfold ZkJ;refine Y ?_;refine Za (vs:=[vi b.pk.length,vi 1,vi 4]) rfl (E9 _ _ _) ?_;rintro v _ ⟨rfl,rfl⟩;refine Y ?_;refine OI (λh0=>?_) (λh0=>?_)
 ·refine Y ?_;exact⟨rfl,by rw[Yr,iO O];rfl⟩
 refine Y ?_;refine Zw b.pk.length (λj H'=>H=H'/\pR b.pk j=0) (λj=>[(0,.slice b.A1 b.pk.length b.c1),(3,vi j)]) (λ_=>[]) ⟨rfl,rfl⟩ V trivial ?_;rintro j _ hj ⟨rfl,hk⟩;refine Y ?_;refine OI (λh1=>?_) (λh1=>?_)
 ·have cH:j<b.pk.length:=O;have hg:b.pk.getD j ⟨⟨#[]⟩,0,0,0,0⟩=b.pk[j]:=ZA cH _;have stop:VB (b.pk.take j) b.pk[j]≠0->Yr b=VB (b.pk.take j) b.pk[j]:=λh=>by
   have e:pR b.pk (j+1)=VB (b.pk.take j) b.pk[j]:=by rw[pR,bY (by rw[hk];simp),hg]
   rw[Yr,bY O,Me (j:=j+1) (by rw[e];exact h) _ O,e]
  have next:VB (b.pk.take j) b.pk[j]=0->pR b.pk (j+1)=0:=λh=>by rw[pR,bY (by rw[hk];simp),hg];exact h
  have fP:=sz.nm b.pk[j] (IN cH);refine Y ?_;refine Zx hb.pk rfl rfl rfl (i:=j) cH λa ha=>?_;generalize b.pk[j]=x at *;refine Y ?_;refine Zl (cs:=[.string x.nm,vi x.lo,vi x.hi,vi x.fK,vi x.fW]) (OL _) rfl ha rfl (Y ?_);refine Za (vs:=[.string x.nm]) rfl (Zy4 fP) ?_;rintro v _ ⟨rfl,rfl⟩;unfold VB at stop next
  cases IA:tN x.nm with
  | false=>
   rw[IA]at stop;refine Y ?_;exact⟨rfl,by rw[stop (by simp)];rfl⟩
  | true=>
  rw[IA]at stop next
  simp only[Bool.true_eq_false,qAk]at stop next
  refine Y ?_;refine Zw j (λk H'=>H=H'/\(b.pk.take k).any (λo=>o.nm.toList == x.nm.toList)=false) (λk=>[(0,.slice b.A1 b.pk.length b.c1),(3,vi j),(4,vi 0),(5,vi k)]) (λ_=>[(4,[.string x.nm,vi x.lo,vi x.hi,vi x.fK,vi x.fW])]) ⟨rfl,rfl⟩ V V ?_;rintro k _ rI ⟨rfl,pO⟩;refine Y ?_;refine OI (λh2=>?_) (λh2=>?_)
  ·have gG:k<b.pk.length:=O;have Q0:(b.pk.take (k+1)).any (λo=>o.nm.toList == x.nm.toList)=(b.pk[k].nm.toList == x.nm.toList):=by rw[qAd gG,qCj,pO];simp
   refine Y ?_;refine Zx hb.pk rfl rfl rfl (i:=k) gG λa2 QO=>?_;generalize b.pk[k]=y at *;refine Y ?_;refine Zg (OL _) rfl (by rw[add_zero];exact YM (cs:=[.string y.nm]) (ds:=[vi y.lo,vi y.hi,vi y.fK,vi y.fW]) QO) (Y ?_);refine ZiY rfl rfl ?_;cases hy:y.nm.toList == x.nm.toList with
   | true=>
    rw[hy]at Q0;have:(b.pk.take j).any (λo=>o.nm.toList == x.nm.toList)=true:=by
     rw[qBL]at Q0 ⊢;obtain⟨o,ho,Gw⟩:=Q0;refine⟨o,?_,Gw⟩;have e:b.pk.take (k+1)=(b.pk.take j).take (k+1):=by rw[List.take_take,qCi O]
     rw[e]at ho;exact List.mem_of_mem_take ho
    rw[this]at stop;refine Y ?_;exact⟨rfl,by rw[stop (by simp)];rfl⟩
   | false=>
    rw[hy]at Q0;refine Y ?_;exact⟨⟨k+1,O⟩,dX O,⟨rfl,Q0⟩,V,V,rfl⟩
  have:k=j:=O;subst this;rw[pO]at stop next
  simp only[iN,qAk]at stop next
  have E4:¬ (qU x=true)->Yr b=1:=λh=>by
   have h':qU x=false:=by simpa using h
   rw[stop (by rw[iO h'];simp),iO h']
  refine Y ?_;refine Za (vs:=[.agg #[vi x.lo,vi x.hi],vi 1,vi 20]) rfl (Xy _ _ _ _) ?_;rintro v _ ⟨rfl,rfl⟩;refine Y ?_;refine OI (λh3=>?_) (λh3=>?_)
  ·refine Y ?_;exact⟨rfl,by rw[E4 (by unfold qU;simp;omega)];rfl⟩
  refine Y ?_;refine OI (λh4=>?_) (λh4=>?_)
  ·refine Y ?_;exact⟨rfl,by rw[E4 (by unfold qU;simp;omega)];rfl⟩
  refine Y ?_;refine Za (vs:=[vi x.fK,vi 1,vi 20]) rfl (E9 _ _ _) ?_;rintro v _ ⟨rfl,rfl⟩;refine Y ?_;refine OI (λh5=>?_) (λh5=>?_)
  ·refine Y ?_;exact⟨rfl,by rw[E4 (by unfold qU;simp;omega)];rfl⟩
  refine Y ?_;refine Za (vs:=[vi x.fW,vi 1,vi 20]) rfl (E9 _ _ _) ?_;rintro v _ ⟨rfl,rfl⟩;refine Y ?_;refine OI (λh6=>?_) (λh6=>?_)
  ·refine Y ?_;exact⟨rfl,by rw[E4 (by unfold qU;simp;omega)];rfl⟩
  refine Y ?_;exact⟨⟨k+1,O⟩,dX O,⟨rfl,next (by rw[bY (by unfold qU;simp;omega)])⟩,V,trivial,rfl⟩
 have:j=b.pk.length:=O;subst this;refine Y ?_;exact⟨rfl,by rw[Yr,bY O,hk];rfl⟩
theorem Zzo(hb:Zs H b)(sz:b.Sz):LL.Zc P 67 #[b.v] H λv H'=>H=H'/\v=vi (ZF b):=by
 have hn:=sz.nt;have BD:=sz.pk;refine aO.m (cF ZxV) (args:=[b.v]) rfl ?_;unfold Zle Sb.v;refine Y ?_;have y1:¬ ((1<=b.pl/\b.pl<=3)/\(1<=b.hd/\b.hd<=3)/\(0<=b.td/\b.td<=200))->ZF b=1:=λh=>by rw[ZF,YP,bY h];rfl
 refine Za (vs:=[vi b.pl,vi 1,vi 3]) rfl (E9 _ _ _) ?_;rintro v _ ⟨rfl,rfl⟩;refine Y ?_;refine OI (λh1=>?_) (λh1=>?_)
 ·refine Y ?_;exact⟨rfl,by rw[y1 O];rfl⟩
 refine Y ?_;refine Za (vs:=[vi b.hd,vi 1,vi 3]) rfl (E9 _ _ _) ?_;rintro v _ ⟨rfl,rfl⟩;refine Y ?_;refine OI (λh2=>?_) (λh2=>?_)
 ·refine Y ?_;exact⟨rfl,by rw[y1 O];rfl⟩
 refine Y ?_;refine Za (vs:=[vi b.td,vi 0,vi 200]) rfl (E9 _ _ _) ?_;rintro v _ ⟨rfl,rfl⟩;refine Y ?_;refine OI (λh3=>?_) (λh3=>?_)
 ·refine Y ?_;exact⟨rfl,by rw[y1 O];rfl⟩
 have y0:YP b=0:=by rw[YP,iO O]
 refine Y ?_;refine Za (vs:=[.slice b.A1 b.pk.length b.c1]) rfl (ZvO hb sz) ?_;rintro v _ ⟨rfl,rfl⟩;refine Y ?_;refine OI (λh4=>?_) (λh4=>?_)
 ·refine Y ?_;exact⟨rfl,by rw[ZF,bY (by rw[y0];simp),iO h4];rfl⟩
 have e0:ZF b=YU b:=by rw[ZF,bY (by rw[y0];simp),bY (by rw[h4];simp)]
 refine Y ?_;refine OI (λh5=>?_) (λh5=>?_)
 ·refine Y ?_;exact⟨rfl,by rw[e0,YU,iO O];rfl⟩
 rw[YU,bY O]at e0;refine Y ?_;refine Zw b.nt.length (λj H'=>H=H'/\ZF b=uE b.pk.length (b.nt.drop j)) (λj=>[(1,vi 0),(4,vi j)]) (λ_=>[(1,b.cs)]) ⟨rfl,e0⟩ V V ?_;rintro j _ hj ⟨rfl,hk⟩;refine Y ?_;refine OI (λh6=>?_) (λh6=>?_)
 ·have cH:j<b.nt.length:=O;rw[Zi8 _ cH]at hk;have yX:=hb.ps b.nt[j] (IN cH);have Wa:=sz.ps b.nt[j] (IN cH);refine Y ?_;refine Zx hb.nt rfl rfl rfl (i:=j) cH λa ha=>?_;generalize b.nt[j]=x at *;have stop:Ve b.pk.length x≠0->ZF b=Ve b.pk.length x:=λh=>by rw[hk,iO h]
  have next:Ve b.pk.length x=0->ZF b=uE b.pk.length (b.nt.drop (j+1)):=λh=>by rw[hk,bY (by rw[h];simp)]
  unfold Ve at stop next
  refine Y ?_;refine Zl (cs:=[.slice x.A x.ps.length x.c,vi x.lo,vi x.hi]) (OL _) rfl ha rfl (Y ?_);refine OI (λh7=>?_) (λh7=>?_)
  ·refine Y ?_;exact⟨rfl,by rw[stop (by rw[iO O];simp),iO O];rfl⟩
  rw[bY O]at stop next
  refine Y ?_;refine Za (vs:=[.slice x.A x.ps.length x.c,vi b.pk.length]) rfl (ZyZ yX BD Wa) ?_;rintro v _ ⟨rfl,rfl⟩;refine Y ?_;refine OI (λh8=>?_) (λh8=>?_)
  ·refine Y ?_;exact⟨rfl,by rw[stop (by rw[iO h8];exact h8),iO h8];rfl⟩
  rw[bY (by rw[h8];simp)]at stop next
  refine Y ?_;refine Za (vs:=[.agg #[vi x.lo,vi x.hi],vi 0,vi 80]) rfl (Xy _ _ _ _) ?_;rintro v _ ⟨rfl,rfl⟩;refine Y ?_;refine OI (λh9=>?_) (λh9=>?_)
  ·refine Y ?_;exact⟨rfl,by rw[stop (by rw[iO h9];decide),iO h9];rfl⟩
  refine Y ?_;exact⟨⟨j+1,O⟩,dX O,⟨rfl,next (by rw[bY O])⟩,V,V,rfl⟩
 have:j=b.nt.length:=O;subst this;refine Y ?_;rw[qDe]at hk;exact⟨rfl,by rw[hk];rfl⟩
end
structure fN(b:Sb):Prop where
 pl:1<=b.pl/\b.pl<=3
 hd:1<=b.hd/\b.hd<=3
 td:0<=b.td/\b.td<=200
 n:1<=b.pk.length/\b.pk.length<=4
 pk:∀i (h:i<b.pk.length),(1<=b.pk[i].lo/\b.pk[i].lo<=b.pk[i].hi/\b.pk[i].hi<=20)/\b.pk[i].hi-b.pk[i].lo<3/\(1<=b.pk[i].fK/\b.pk[i].fK<=20)/\(1<=b.pk[i].fW/\b.pk[i].fW<=20)
 nm:∀i (h:i<b.pk.length),tN b.pk[i].nm=true/\(b.pk.take i).any (λo=>o.nm.toList == b.pk[i].nm.toList)=false
 nn:b.nt.length<=3
 nt:∀x∈b.nt,x.ps≠[]/\TH b.pk.length x.ps/\(0<=x.lo/\x.lo<=x.hi/\x.hi<=80)
theorem Ziv{l:List Pk}:∀{n:Nat},pR l n=0->n<=l.length->∀i (h:i<l.length),i<n->VB (l.take i) l[i]=0
 | 0,_,_,i,h,hi=>absurd hi (qBh _)
 | n+1,h,hn,i,hl,hi=>by
  rw[pR]at h;split at h
  ·rename_i h1;exact absurd h h1
  rename_i h1;rcases qCv.1 hi with h' | rfl
  ·exact Ziv (by simpa using h1) O i hl h'
  rwa [ZA hl]at h
theorem Zsy(h:nS n l l.length=0):TH n l:=by
 have key:∀j,j<=l.length->nS n l j=0:=λj hj=>oR λe=>by have:=Co e _ hj;rw[h]at this;exact e this.symm
 have h1:∀j (hj:j<l.length),(0<=l[j]/\l[j]<n)/\(0<j->l.getD (j-1) 0<l[j]):=by
  intro j hj;have e:=key (j+1) hj;rw[nS,bY (by rw[key j O];simp),ZA hj]at e;split at e
  ·simp at e
  split at e
  ·simp at e
  exact⟨O,λh=>O⟩
 refine⟨?_,λz hz=>?_⟩
 ·rw[qBK];intro i j hi hj nU;have st:∀k,k<l.length->∀i (hi:i<l.length) (hk:k<l.length),i<k->l[i]<l[k]:=by
   intro k;induction k with
   | zero=>intro _ i _ _ h;omega
   | succ k ih=>
    intro hk i hi gG hik;have e:=(h1 (k+1) hk).2 O;have sY:k<l.length:=O;rw[qBb,ZA sY]at e;by_cases e1:i=k
    ·subst e1;exact e
    have:=ih sY i hi sY O;omega
  exact st j hj i hi hj nU
 obtain⟨j,hj,rfl⟩:=qAJ.1 hz;exact(h1 j hj).1
theorem Znn{n:Nat}{l:List Int}(h:TH n l):∀j,j<=l.length->nS n l j=0
 | 0,_=>rfl
 | j+1,hj=>by have cH:j<l.length:=hj;rw[nS,bY (by rw[Znn h j O];simp),ZA cH,bY (by have:=h.2 _ (IN cH);omega),bY];rintro⟨h0,h1⟩;have x7:j-1<l.length:=O;rw[ZA x7]at h1;have:=qBK.1 h.1 (j-1) j x7 cH O;omega
theorem Zi6{n:Nat}:∀{l:List Nt},uE n l=0->∀x∈l,Ve n x=0
 | [],_,x,hx=>by simp at hx
 | a :: l,h,x,hx=>by
  rw[uE]at h;split at h
  ·rename_i h1;exact absurd h h1
  rename_i h1;rcases qAp.1 hx with rfl | hx
  ·simpa using h1
  exact Zi6 h x hx
theorem U2(h:ZF b=0):fN b:=by
 unfold ZF at h;split at h
 ·rename_i h1;exact absurd h h1
 rename_i h1;split at h
 ·rename_i h2;exact absurd h h2
 rename_i h2;have h1:YP b=0:=oR h1;have h2:Yr b=0:=oR h2;have g1:(1<=b.pl/\b.pl<=3)/\(1<=b.hd/\b.hd<=3)/\(0<=b.td/\b.td<=200):=by
  unfold YP at h1;split at h1
  ·assumption
  simp at h1
 unfold Yr at h2;split at h2
 ·simp at h2
 rename_i g2;have QT:1<=b.pk.length/\b.pk.length<=4:=oR g2;unfold YU at h;split at h
 ·simp at h
 have p1:∀i (hi:i<b.pk.length),tN b.pk[i].nm=true/\(b.pk.take i).any (λo=>o.nm.toList == b.pk[i].nm.toList)=false/\qU b.pk[i]=true:=λi hi=>by
  have e:=Ziv h2 (aC _) i hi hi;unfold VB at e;split at e
  ·simp at e
  split at e
  ·simp at e
  split at e
  ·simp at e
  rename_i e1 e2 e3;exact⟨by simpa using e1,by simpa using e2,by simpa using e3⟩
 refine⟨g1.1,g1.2.1,g1.2.2,QT,λi hi=>?_,λi hi=>⟨(p1 i hi).1,(p1 i hi).2.1⟩,O,λx hx=>?_⟩
 ·have e:=(p1 i hi).2.2;simp only[qU,BY,qAK]at e;exact⟨e.1.1.1,e.1.1.2,e.1.2,e.2⟩
 have e:=Zi6 h x hx;unfold Ve at e;split at e
 ·simp at e
 split at e
 ·rename_i e1;exact absurd e e1
 split at e
 ·simp at e
 rename_i e1 e2 e3;exact⟨λh=>e1 (by rw[h];rfl),Zsy (by simpa using e2),O⟩
theorem fN.sz(h:fN b)(hz:∀p∈b.pk,p.nm.size<=1000000):b.Sz:=⟨by have:=h.n;omega,by have:=h.nn;omega,λx hx=>by have:=Kz (h.nt x hx).2.1;have:=h.n;omega,hz⟩
def UG(t:N4)(l:List Int):Int:=l.foldl (λs p=>s+t.get p.toNat) 0
theorem Zg7(t:N4)(hj:j<l.length):UG t (l.take (j+1))=UG t (l.take j)+t.get l[j].toNat:=by unfold UG;rw[qAd hj,qCw];rfl
def Yp(t:N4):Prop:=∀j,j<4->0<=t.get j/\t.get j<=20
theorem Zg8{t:N4}(ht:Yp t){n:Nat}{l:List Int}(hl:∀z∈l,0<=z/\z<4):∀j,j<=l.length->0<=UG t (l.take j)/\UG t (l.take j)<=20 * j
 | 0,_=>by simp[UG]
 | j+1,hj=>by have cH:j<l.length:=hj;rw[Zg7 t cH];have h1:=Zg8 ht (n:=n) hl j O;have h2:=hl l[j] (IN cH);have h3:=ht l[j].toNat O;omega
def KA(t:N4)(x:Nt):Bool:=decide (x.lo<=UG t x.ps/\UG t x.ps<=x.hi)
def fE(b:Sb)(t:N4):Bool:=b.nt.all (KA t)
abbrev TQ(x:Nt):Value:=.agg #[.slice x.A x.ps.length x.c,vi x.lo,vi x.hi]
section
variable{P:bF}[Tz P][Loud P]{H:Hp}
theorem Zy6{l:List Nt}(hf:∀x∈l,ZX P fv #[TQ x] H λv H'=>H=H'/\v=vb (f x))(hl:aV H v l)(hn:l.length<=1000000) :
  LL.Zc P 218 #[v,fv] H λv H'=>H=H'/\∃r:Int,v=vi r/\(0<=r↔l.any f=true):=by
 refine aO.m (cF ZwT) (args:=[v,fv]) rfl ?_;unfold Zkc;refine Y ?_;refine YD hl rfl (Y ?_);refine Zw l.length (λj H'=>H=H'/\(l.take j).any f=false) (λj=>[(0,v),(1,fv),(7,vi l.length),(8,vi j)]) (λj=>[]) ⟨rfl,rfl⟩ V trivial ?_;rintro j _ hj ⟨rfl,lH⟩;refine Y ?_;refine OI (λh1=>?_) (λh1=>?_)
 ·have cH:j<l.length:=O;refine Y ?_;refine Zx hl rfl rfl rfl (i:=j) cH λa ha=>Y ?_;refine Zl (OL _) rfl ha rfl (Y ?_);refine ZN rfl rfl (hf _ (IN cH)) ?_;rintro w _ ⟨rfl,rfl⟩;refine Y ?_;refine OI (λh2=>?_) (λh2=>?_)
  ·refine Y ?_;exact⟨rfl,j,rfl,by simp only[qCo,true_iff];rw[qBL];exact⟨l[j],IN cH,h2⟩⟩
  refine Y ?_;refine⟨⟨j+1,O⟩,dX O,⟨rfl,?_⟩,V,trivial,rfl⟩;show(l.take (j+1)).any f=false;rw[qAd cH,qCj,lH];simp[h2]
 have:j=l.length:=O;subst this;rw[qAw]at lH;refine Y ?_;exact⟨rfl,-1,rfl,by simp[lH]⟩
theorem Zzk{l:List Nt}(hf:∀x∈l,ZX P fv #[TQ x] H λv H'=>H=H'/\v=vb (f x))(hl:aV H v l)(hn:l.length<=1000000) :
  LL.Zc P 169 #[v,fv] H λv H'=>H=H'/\v=vb (l.any f):=by
 refine aO.m (cF Zw0) (args:=[v,fv]) rfl ?_;unfold Zkj;refine Y ?_;refine Za (vs:=[v,fv]) rfl (Zy6 hf hl hn) ?_;rintro w _ ⟨rfl,r,rfl,hr⟩;refine Y ?_;refine⟨rfl,?_⟩;show vb (decide (0<=r))=vb _;congr 1;cases h:l.any f with
 | true=>exact decide_eq_true (hr.2 h)
 | false=>exact qAZ λe=>by rw[hr.1 e]at h;simp at h
theorem ZpZ{x:Nt}{r:Nat}(ht:Yp t)(hx:∀z∈x.ps,0<=z/\z<4)(hz:x.ps.length<=1000)(yX:aV H (.slice x.A x.ps.length x.c) x.ps)(h:aD H ⟨r,0,none⟩ t.cells) :
  LL.Zc P 170 #[TQ x,.pointer (some ⟨r,0,none⟩)] H λv H'=>H=H'/\v=vb (!KA t x):=by
 refine aO.m (cF ZwZ) (args:=[TQ x,.pointer (some ⟨r,0,none⟩)]) rfl ?_;unfold Zki;refine Y ?_;refine Zw x.ps.length (λj H'=>H=H') (λj=>[(1,.pointer (some ⟨r,0,none⟩)),(2,vi 0),(4,vi (UG t (x.ps.take j))),(8,.slice x.A x.ps.length x.c),(9,vi x.ps.length),(10,vi j)]) (λ_=>[(2,[.slice x.A x.ps.length x.c,vi x.lo,vi x.hi])]) rfl V V ?_;rintro j _ hj rfl;refine Y ?_;refine OI (λh1=>?_) (λh1=>?_)
 ·have cH:j<x.ps.length:=O;obtain⟨n,hn⟩:∃n:Nat,x.ps[j]=n:=⟨x.ps[j].toNat,by have:=hx _ (IN cH);omega⟩;have tQ:n<4:=by have:=hx _ (IN cH);omega
  have bB:=Zg7 t cH;have pL:=Zg8 ht (n:=0) hx j O;have j0:=ht n tQ;rw[hn,qAA]at bB;refine Y ?_;refine Zx yX rfl rfl rfl (i:=j) cH λa ha=>?_;rw[hn]at ha;refine Y ?_;refine Zg (OL _) rfl ha (Y ?_);refine Zte (dC SW) (eI t3) rfl rfl tQ (Y ?_);have hc:aD H ((⟨r,0,none⟩:Addr).add (n * 1)) [vi (t.get n)]:=by
   obtain⟨h1,o,p,h2,h3⟩:=h;refine⟨W4 rfl _,o,p,by rw[LB];exact h2,λj hj=>?_⟩;have:j=0:=by simpa using hj
   subst this;rw[LC];have e:=h3 (0+n * 1) (by show 0+n * 1<4;omega);rw[ZvQ _ tQ]at e;simpa using e
  refine Zg (OL _) rfl hc (Y ?_);exact⟨⟨j+1,O⟩,dX O,rfl,⟨rfl,rfl,by rw[bB];rfl,rfl,rfl,rfl,trivial⟩,V,rfl⟩
 have:j=x.ps.length:=O;subst this;rw[qAw];refine Y ?_;refine Za (vs:=[vi (UG t x.ps),vi x.lo,vi x.hi]) rfl (V6 _ _ _) ?_;rintro v _ ⟨rfl,rfl⟩;refine Y ?_;exact⟨rfl,rfl⟩
theorem ZpY(hb:Zs H b)(ok:fN b)(ht:Yp t):LL.Zc P 132 #[b.v,Zv t] H λv H'=>H.Sub H'/\v=vb (fE b t):=by refine aO.m (cF Zxm) (args:=[b.v,Zv t]) rfl ?_;unfold ZkF Sb.v;refine Y ?_;refine V9 rfl (OL _) λr hr=>?_;have s1:=Yg (o:=.cells (Zv t).cells 105) hr;have c1:aD (H.ins r (.cells (Zv t).cells 105)) ⟨r,0,none⟩ t.cells:=VJ;have gI:=hb.sub s1;generalize H.ins r (.cells (Zv t).cells 105)=H1 at *;refine Y ?_;refine VP rfl rfl (Y ?_);refine Za (vs:=[.slice b.A2 b.nt.length b.c2,.func (.func 170) #[] #[.pointer (some ⟨r,0,none⟩)]]) rfl (Zzk (f:=λx=>!KA t x) (λx hx=>Yk U (ZpZ ht (λz hz=>by have:=(ok.nt x hx).2.1.2 z hz;have:=ok.n;omega) (by have:=Kz (ok.nt x hx).2.1;have:=ok.n;omega) (gI.ps x hx) c1)) gI.nt (by have:=ok.nn;omega)) ?_;rintro v _ ⟨rfl,rfl⟩;refine Y ?_;exact⟨s1,by show vb _=vb _;congr 1;rw[fE,List.all_eq_not_any_not]⟩
theorem Zog(hl:aV H v l)(hn:l.length<=4):LL.Zc P 131 #[v] H λv H'=>H.Sub H'/\v=Zv (Ys l):=by
 refine aO.m (cF Zxn) (args:=[v]) rfl ?_;unfold ZkG;refine Y ?_;refine Vs (eI Zoo) (OL _) λr hr=>Y ?_;refine Zs7 (hi:=4) (k:=.i64) (dC SW) (eI t3) O rfl (.inl ⟨rfl,rfl⟩) O (Y ?_);refine Zti (cs:=[vi 0,vi 0,vi 0,vi 0]) (dC oO) (eI t3) rfl rfl (hl.sub (Yg hr)) hn rfl (Hp.aF _ _ _) (OL _) ?_;rw[Us];have e:l.map vi++[vi 0,vi 0,vi 0,vi 0].drop l.length=(Ys l).cells:=by
  match l,hn with
  | [],_=>rfl
  | [a],_=>rfl
  | [a,b],_=>rfl
  | [a,b,c],_=>rfl
  | [a,b,c,d],_=>rfl
  | a :: b :: c :: d :: e :: l,h=>simp at h
 rw[e];refine Y ?_;refine Zl (OL _) rfl VJ rfl (Y ?_);exact⟨Yg hr,rfl⟩
end
instance:Enc N4:=⟨4,λm=>m.cells,λ_=>rfl⟩
def rZ{α:Type}(f:Int->List α)(hi:Int):Nat->List α
 | 0=>[]
 | c+1=>f (hi-c)++rZ f hi c
def aZ(b:Sb)(i:Nat):Pk:=b.pk.getD i ⟨⟨#[]⟩,0,0,0,0⟩
def dS(b:Sb):Nat->N4->List N4
 | 0,m=>if fE b m=true then[m]else[]
 | r+1,m=>rZ (λv=>dS b r (m.dD (b.pk.length-(r+1)) v)) (aZ b (b.pk.length-(r+1))).hi ((aZ b (b.pk.length-(r+1))).hi-(aZ b (b.pk.length-(r+1))).lo+1).toNat
def Zi(b:Sb):List N4:=dS b b.pk.length ⟨0,0,0,0⟩
def D5(x:N4):List Value:=[Zv x]
def Br(rb rn ry:Nat):Value:=.func (.func 137) #[] #[pt rb,pt ry,pt rn]
structure ZnA(G:Hp)(bc:List Value)(rb rn ry:Nat)(y:Value)(E1 E2 E3:TypeId):Prop where
 b:G rb=some (.cells bc.toArray E1,true)
 n:G rn=some (.cells #[Br rb rn ry] E2,true)
 y:G ry=some (.cells #[y] E3,true)
theorem Yp.dD{m:N4}(h:Yp m)(i:Nat){v:Int}(hv:0<=v/\v<=20):Yp (m.dD i v):=λj hj=>by
 rw[N4.fA _ _ hj];split
 ·exact hv
 exact h j hj
theorem Zma:Yp ⟨0,0,0,0⟩:=λj hj=>by
 match j,hj with
 | 0,_=>exact⟨by decide,by decide⟩
 | 1,_=>exact⟨by decide,by decide⟩
 | 2,_=>exact⟨by decide,by decide⟩
 | 3,_=>exact⟨by decide,by decide⟩
section
variable{P:bF}[Tz P][Loud P]{H:Hp}
theorem ZoT{y:Value}{E1 E2 E3:TypeId}{xs:List (List Value)}{I:Nat->Hp->Prop}{S:Hp->Prop}(ok:fN b)(hI:∀n,Up (I n))(hS:Up S)(hN:∀n H,I n H->Zs H b)
  (hy:∀n (hn:n<xs.length) H,I n H->ZX P y (xs[n]).toArray H (λv H'=>(v=.bool true/\I (n+1) H')\/(v=.bool false/\S H'))) (rb rn ry:Nat) {G:Hp} (hf:ZnA G b.cs rb rn ry y E1 E2 E3) :
  ∀(r:Nat) (m:N4) (rest:List (List Value)) (H:Hp),r<=b.pk.length->Yp m->JG G (wA xs I ((dS b r m).map D5++rest)) H ->
   LL.Zc P 137 #[Zv m,vi (b.pk.length-r:Nat),pt rb,pt ry,pt rn] H λv H'=>(v=vb true/\JG G (wA xs I rest) H')\/(v=vb false/\JG G S H'):=by
 have GG:∀{rest H},JG G (wA xs I rest) H->Zs H b:=λhj=>by obtain⟨p,_,_,h⟩:=hj.up (ZgL hI);exact hN p _ h
 have tQ:=ok.n
 intro r
 induction r with
 | zero=>
  intro m rest H hr hm hj;rw[dS]at hj;refine aO.m (cF Zng) (args:=[Zv m,vi (b.pk.length-0:Nat),pt rb,pt ry,pt rn]) rfl ?_;unfold Nh;have bk:=GG hj;have cb:aD H ⟨rb,0,none⟩ b.cs:=ZC (hj.bA _ _ hf.b);refine Y ?_;refine Zg (OL _) rfl (Ux (j:=3) cb rfl) (Y ?_);refine OI (λh1=>?_) (λh1=>?_);rotate_left
  ·exact absurd O h1
  refine Y ?_;refine Zl (OL _) rfl cb rfl (Y ?_);refine Za (vs:=[b.v,Zv m]) rfl (ZpY bk ok hm) ?_;rintro v H1 ⟨s1,rfl⟩;have x7:=hj.sub s1;refine Y ?_;refine OI (λh2=>?_) (λh2=>?_)
  ·rw[bY (by simp[h2])]at x7;refine Y ?_;exact .inl ⟨rfl,x7⟩
  rw[iO (by simpa using h2),qBo,qBn]at x7;refine Y ?_;refine Zg (OL _) rfl (ZC (x7.bA _ _ hf.y)) (Y ?_);refine ZN (vs:=[Zv m]) rfl rfl (JG.call (λH h=>wA.call (S:=S) hy h) x7) ?_;rintro v H7 ⟨Hc,F,rfl,q1,q2,(⟨rfl,q3⟩ | ⟨rfl,q3⟩)⟩
  ·refine Y ?_;exact .inl ⟨rfl,Hc,F,rfl,q1,q2,q3⟩
  refine Y ?_;exact .inr ⟨rfl,Hc,F,rfl,q1,q2,q3⟩
 | succ r ih=>
  intro m rest H hr hm hj;rw[dS]at hj;have hi:b.pk.length-(r+1)<b.pk.length:=O;have oH:((b.pk.length-(r+1):Nat):Int)+1=(b.pk.length-r:Nat):=O;generalize b.pk.length-(r+1)=i at *;have tR:i<4:=O;have PF:aZ b i=b.pk[i]:=ZA hi _;rw[PF]at hj;have hp:=ok.pk i hi;refine aO.m (cF Zng) (args:=[Zv m,vi i,pt rb,pt ry,pt rn]) rfl ?_;unfold Nh;have bk:=GG hj;have cb:aD H ⟨rb,0,none⟩ b.cs:=ZC (hj.bA _ _ hf.b);refine Y ?_;refine Zg (OL _) rfl (Ux (j:=3) cb rfl) (Y ?_);refine OI (λh1=>?_) (λh1=>?_)
  ·exact absurd h1 O
  refine Y ?_;refine Zg (OL _) rfl (Ux (j:=3) cb rfl) (Y ?_);refine Zx bk.pk rfl rfl rfl (i:=i) hi λa ha=>Y ?_;refine Zg (OL _) rfl (Ux (j:=1) ha rfl) (Y ?_);generalize fY:(b.pk[i].hi-b.pk[i].lo+1).toNat=bI at hj;refine ZQ (α:=N4) bI (λk s H'=>(∀v,s.dD i v=m.dD i v)/\JG G (wA xs I ((rZ (λv=>dS b r (m.dD i v)) b.pk[i].hi (bI-k)).map D5++rest)) H')
   (λk s=>[(1,vi i),(2,pt rb),(3,pt ry),(4,pt rn),(5,vi 0),(8,vi (b.pk[i].lo+k))]) (λ_ s=>[(5,s.cells)]) m ⟨λ_=>rfl,hj⟩ ⟨rfl,rfl,rfl,rfl,rfl,by simp[aN.set],trivial⟩ V ?_
  rintro k m' H3 hk ⟨Gs,s8⟩;have bk3:=GG s8;have cb3:aD H3 ⟨rb,0,none⟩ b.cs:=ZC (s8.bA _ _ hf.b);refine Y ?_;refine Zg (OL _) rfl (Ux (j:=3) cb3 rfl) (Y ?_);refine Zx bk3.pk rfl rfl rfl (i:=i) hi λa ha=>Y ?_;refine Zg (OL _) rfl (Ux (j:=2) ha rfl) (Y ?_);refine OI (λh2=>?_) (λh2=>?_)
  ·refine Y ?_;refine KB (j:=i) rfl rfl tR (Y ?_);refine LQ (OL _) rfl rfl rfl rfl (by show 0+i * 1+1<=4;omega) rfl ?_;have e5:ZH m'.cells (0+i * 1) (Value.cells (vi (b.pk[i].lo+k))).toList=(m.dD i (b.pk[i].lo+k)).cells:=by rw[<-Gs];exact Zhd _ _ tR
   rw[e5];have hm4:Yp (m.dD i (b.pk[i].lo+k)):=hm.dD i ⟨O,O⟩;have e6:bI-k=(bI-(k+1))+1:=O;have e7:b.pk[i].hi-((bI-(k+1):Nat):Int)=b.pk[i].lo+k:=O;rw[e6,rZ,List.map_append,qBy,e7]at s8;refine Y ?_;refine Zg (OL _) rfl (ZC (s8.bA _ _ hf.n)) (Y ?_);rw[oH];refine ZN (vs:=[Zv (m.dD i (b.pk[i].lo+k)),vi (b.pk.length-r:Nat)]) rfl rfl (Yk U (ih (m.dD i (b.pk[i].lo+k)) _ H3 O hm4 s8)) ?_;rintro v H5 (⟨rfl,Hz⟩ | ⟨rfl,Hz⟩)
   ·refine Y ?_;refine⟨(⟨k+1,O⟩,m.dD i (b.pk[i].lo+k)),dX O,⟨λv=>N4.qT _ _ _,Hz⟩,⟨rfl,rfl,rfl,rfl,rfl,?_,trivial⟩,V,rfl⟩;show some (vi (b.pk[i].lo+k+1))=some (vi (b.pk[i].lo+(k+1:Nat)));congr 2;omega
   refine Y ?_;exact .inr ⟨rfl,Hz⟩
  have e6:bI-k=0:=O;rw[e6,rZ,qDb,qAx]at s8;refine Y ?_;exact .inl ⟨rfl,s8⟩
end
theorem Zg0:Ym Tryz.prog 172=some (1,some .nilFunc,8):=U
theorem Qb:Ym Tryz.prog 105=some (4,some (.agg #[vi 0,vi 0,vi 0,vi 0]),32):=U
theorem ZgR:Tryz.prog.underlying 102=some (.slice 105):=U
theorem Zop:Ym Tryz.prog 102=some (1,some (.slice none 0 0),24):=U
theorem Zjk{l:List N4}(hn:n<(l.map D5).length):(l.map D5)[n]=[Zv (l[n]'(by simpa using hn))]:=by rw[qBs];rfl
theorem Zhg{α:Type}{f:Int->List α}{hi:Int}{k:Nat}(hf:∀v,(f v).length<=k):∀c,(rZ f hi c).length<=c * k
 | 0=>by simp[rZ]
 | c+1=>by rw[rZ,qAc,qCF];have:=hf (hi-c);have:=Zhg (hi:=hi) hf c;omega
theorem Zhu{b:Sb}(ok:fN b):∀r,r<=b.pk.length->∀m,(dS b r m).length<=3 ^ r
 | 0,_,m=>by rw[dS];split<;>simp
 | r+1,hr,m=>by rw[dS];have hi:b.pk.length-(r+1)<b.pk.length:=O;have PF:aZ b (b.pk.length-(r+1))=b.pk[b.pk.length-(r+1)]:=ZA hi _;have hp:=ok.pk _ hi;rw[<-PF]at hp;refine qAT (Zhg (λv=>Zhu ok r O _) _) ?_;rw[Nat.pow_succ,Nat.mul_comm];exact Nat.mul_le_mul_left _ O
theorem UI(ok:fN b):(Zi b).length<=81:=by have h:=Zhu ok b.pk.length (aC _) ⟨0,0,0,0⟩;have h2:3 ^ b.pk.length<=3 ^ 4:=qBe O ok.n.2;unfold Zi;omega
def Vk(b:Sb):Bool:=!(Zi b).isEmpty
def ZW(b:Sb)(w:Value):Value:=.agg #[vi b.pl,vi b.hd,vi b.td,.slice b.A1 b.pk.length b.c1,.slice b.A2 b.nt.length b.c2,w]
def U3:Value:=.agg #[vi 0,vi 0,vi 0,.slice none 0 0,.slice none 0 0,.slice none 0 0]
def Zn(b:Sb)(own:Int):Int:=if ZF b≠0 then ZF b else if own≠0 then own else if(Zi b).length=0 then 9 else 0
section
variable{P:bF}[Tz P][Loud P]{H:Hp}
theorem jV(ok:fN b):KY P (.func (.func 83) #[b.v] #[]) (λH=>Zs H b) ((Zi b).map D5):=by
 rintro y I S H ⟨yf,ya,yb,Fl⟩ hI hS hN hy HK;have Fo:y.cells=#[y]:=by rw[Fl];rfl
 refine Yk U ?_;refine aO.m (cF ZxP) (args:=[b.v,y]) rfl ?_;unfold Zk8 Sb.v;generalize FW:(Zi b).map D5=xs at *;have qE:JG .nil (wA xs I ((Zi b).map D5++[])) H:=⟨H,.nil,(Hp.dT H).symm,Hp.eO H,λb x h=>by simp[Hp.nil]at h,by rw[qAj,FW];exact .start HK⟩;refine Y ?_;refine V9 rfl (OL _) λrb PC=>?_;have x7:=qE.new (.cells b.v.cells 108) PC;refine Y ?_;refine V9 rfl (OL _) λry HP=>?_;have oX:=x7.new (.cells y.cells 168) HP;refine Y ?_;refine Vs (eI Zg0) (OL _) λrn AY=>?_;have s8:=oX.new (.cells (Value.nilFunc).cells 172) AY;have n1:ry≠rb:=by rintro rfl;rw[Hp.aF]at HP;simp at HP
 have n2:rn≠ry:=by rintro rfl;rw[Hp.aF]at AY;simp at AY
 have n3:rn≠rb:=by rintro rfl;rw[Hp.aE _ _ (qAi n1),Hp.aF]at AY;simp at AY
 refine Y ?_;refine VP rfl rfl (Y ?_);refine Vp (v:=Br rb rn ry) (eI Zg0) rfl rfl (Hp.aF _ _ _) rfl rfl (OL _) ?_;have BM:=s8.dD (.cells #[Br rb rn ry] 172) (Hp.aF _ _ _);have hf:ZnA ((((Hp.nil.ins rb (.cells b.v.cells 108)).ins ry (.cells y.cells 168)).ins rn (.cells (Value.nilFunc).cells 172)).ins rn (.cells #[Br rb rn ry] 172)) b.cs rb rn ry y 108 172 168:=by
  refine⟨?_,Hp.aF _ _ _,?_⟩
  ·rw[Hp.aE _ _ (qAi n3),Hp.aE _ _ (qAi n3),Hp.aE _ _ (qAi n1)];exact Hp.aF _ _ _
  rw[Hp.aE _ _ (qAi n2),Hp.aE _ _ (qAi n2),<-Fo];exact Hp.aF _ _ _
 refine Y ?_;refine Zg (OL _) rfl (ZC (BM.bA _ _ hf.n)) (Y ?_);have gS:=ZoT ok hI hS hN hy rb rn ry hf b.pk.length ⟨0,0,0,0⟩ [] _ (aC _) Zma BM;rw[qCG]at gS;refine ZN rfl rfl (Yk U gS) ?_;rintro v H7 (⟨rfl,h7⟩ | ⟨rfl,h7⟩)
 ·refine Y ?_;exact .inl (h7.up (ZgL hI)).stop
 refine Y ?_;exact .inr (h7.up hS)
theorem Pt(hb:Zs H b)(ok:fN b):LL.Zc P 114 #[b.v] H λv H'=>bO H H'/\v=vb (Vk b):=by
 refine aO.m (cF Zxw) (args:=[b.v]) rfl ?_;unfold ZkP Sb.v;refine Y ?_;refine V9 rfl (OL _) λr1 pL=>Y ?_;refine Vs (eI t4) (OL _) λr2 j0=>?_;have pU:bO H ((H.ins r1 (.cells b.v.cells 108)).ins r2 (.cells (vb false).cells 4)):=(Zt pL).trans (Zt j0);have h0:H r2=none:=YK (Zt pL) j0;refine Y ?_;refine Zl (cs:=b.cs) (OL _) rfl (aD.bA (VJ (cs:=b.cs)) (Zt j0)) rfl (Y ?_);refine VP rfl rfl (Y ?_);refine Zjh OL rfl (jV ok) (λx hx=>by obtain⟨k,_,rfl⟩:=qAX.1 hx;rfl)
  (λn H'=>n=0/\bO H H'/\H' r2=some (.cells #[vb false] 4,true)) (λe H'=>e=.ret/\bO H H'/\aD H' ⟨r2,0,none⟩ [vb true]/\Vk b=true) ⟨rfl,pU,Hp.aF _ _ _⟩
  (λn H' J hc ⟨h1,h2,h3⟩=>⟨h1,h2.trans (Ue _ _),Hp.aK h3⟩) (λe H' J hc ⟨h1,h2,h3,h4⟩=>⟨h1,h2.trans (Ue _ _),h3.bA (Ue _ _),h4⟩) (λn H' h=>hb.bA h.2.1) ?_ ?_ ?_
 ·rintro n hn H3 ⟨rfl,g1,g2⟩;have N5:Vk b=true:=by
   rw[qAs]at hn;cases hh:Zi b with
   | nil=>rw[hh]at hn;simp at hn
   | cons x l=>rw[Vk,hh];rfl
  rw[Zjk hn];refine Y ?_;refine Vp (eI t4) rfl rfl g2 rfl rfl (OL _) (Y ?_);exact⟨rfl,RG g1 h0,VJ,N5⟩
 ·rintro H3 ⟨g0,g1,g2⟩;have iV:Vk b=false:=by rw[qAs]at g0;rw[Vk,qAf g0];rfl
  refine Y ?_;refine Vp (eI t4) rfl rfl g2 rfl rfl (OL _) (Y ?_);refine ZlE (vs:=[vb false]) rfl (OL _) ⟨⟨_,rfl,VJ⟩,trivial⟩ ?_;exact⟨RG g1 h0,by rw[iV];rfl⟩
 rintro e H3 he ⟨rfl,g1,g2,g3⟩;refine Y ?_;refine ZlE (vs:=[vb true]) rfl (OL _) ⟨⟨_,rfl,g2⟩,trivial⟩ ?_;exact⟨g1,by rw[g3];rfl⟩
theorem Zzr{l:List N4}(x8:KY P fv N (l.map D5))(hN:∀H',bO H H'->N H')(hl:l.length<=1000000):LL.Zc P 136 #[.slice none 0 0,fv] H λv H'=>bO H H'/\∃bb,fZ H H' 105 v l bb:=by
 refine aO.m (cF Zxl) (args:=[.slice none 0 0,fv]) rfl ?_;unfold ZkE;refine Y ?_;refine V9 rfl (OL _) λr2 j0=>Y ?_;refine Zjh OL rfl x8 (λx hx=>by obtain⟨k,_,rfl⟩:=qAX.1 hx;rfl)
  (λn H'=>bO H H'/\∃v bb,H' r2=some (.cells #[v] 102,true)/\fZ H H' 105 v (l.take n) bb/\bb≠some r2) (λe H'=>False) ⟨Zt j0,_,none,Hp.aF _ _ _,.nil H _ 105,by simp⟩
  (λn H' J hc ⟨h1,v,bb,h2,h3,h4⟩=>⟨h1.trans (Ue _ _),v,bb,Hp.aK h2,h3.bA (Ue _ _),h4⟩) (λe H' J hc h=>h) (λn H' h=>hN _ h.1) ?_ ?_ ?_
 ·rintro n hn H3 ⟨g1,v,bb,g2,g3,g4⟩;rw[Zjk hn];rw[qAs]at hn;have N1:l.take (n+1)=l.take n++[l[n]]:=by rw[qAd hn]
  generalize l[n]=x at *;have h2:H r2=none:=j0;refine Y ?_;refine Vs (eI Qb) (OL _) λr5 yW=>Y ?_;refine ZiB (v:=Zv x) (eI Qb) (cs:=[vi 0,vi 0,vi 0,vi 0]) rfl rfl (Hp.aF _ _ _) rfl rfl rfl (OL _) ?_;rw[Us];have g1':=g1.trans (Zt (o:=.cells (Zv x).cells 105) yW);have QT:=Zt (o:=.cells (Zv x).cells 105) yW _ _ g2;have Jr:=g3.ins (o:=.cells (Zv x).cells 105) yW;have c5:aD (H3.ins r5 (.cells (Zv x).cells 105)) ⟨r5,0,none⟩ x.cells:=VJ;generalize H3.ins r5 (.cells (Zv x).cells 105)=H4 at *;refine Y ?_;refine Zg (OL _) rfl (ZC (cs:=[v]) QT) (Y ?_);refine Zl (OL _) rfl c5 rfl (Y ?_);refine Z0 (cs:=x.cells) (OL _) rfl λr6 oF=>Y ?_;have AN:v.cells=#[v]/\Value.dZ v=true:=by obtain⟨_,⟨e,_⟩ | ⟨_,_,_,_,e,_⟩⟩:=g3.own<;>(subst e;exact⟨rfl,rfl⟩)
  refine Oa (l':=[x]) (dC ZgR) (dC ZgR) (eI Qb) rfl (by decide) (g1'.trans (Zt oF)) (Jr.ins oF) (Z2 (l:=[x])) rfl (by simp;omega) O rfl rfl (OL _) λv' H6 b' k1 k2 k3=>?_;have g6:H6 r2=some (.cells #[v] 102,true):=k3.keep r2 _ (Zt oF _ _ QT) (λe=>g4 e);have Tu:v'.cells=#[v']/\Value.dZ v'=true:=by obtain⟨_,⟨e,_⟩ | ⟨_,_,_,_,e,_⟩⟩:=k2.own<;>(subst e;exact⟨rfl,rfl⟩)
  have eY:b'≠some r2:=by
   rcases k3.new with rfl | ⟨q,rfl,hq⟩
   ·exact g4
   rintro e;obtain rfl:=dO e;rw[Zt oF _ _ QT]at hq;simp at hq
  refine Y ?_;refine Vp (v:=v') (eI Zop) rfl rfl g6 Tu.1 Tu.2 (OL _) (Y ?_);refine⟨RG k1 h2,v',b',Hp.aF _ _ _,?_,eY⟩;rw[N1];refine⟨k2.own.sub λc z e hc=>?_,k2.fresh⟩;rw[Hp.aE _ _ (by rintro rfl;exact eY e)];exact hc
 ·rintro H3 ⟨g1,v,bb,g2,g3,g4⟩;rw[qAs,qAw]at g3;refine Y ?_;refine Zg (OL _) rfl (ZC (cs:=[v]) g2) (Y ?_);exact⟨g1,bb,g3⟩
 rintro e H3 he h;exact h.elim
theorem ZnJ{l:List N4}(x8:KY P fv N (l.map D5))(hN:∀H',bO H H'->N H')(hl:l.length<=1000000):LL.Zc P 82 #[fv] H λv H'=>bO H H'/\∃bb,fZ H H' 105 v l bb:=by refine aO.m (cF ZxQ) (args:=[fv]) rfl ?_;unfold Zk9;refine Y ?_;refine Za (vs:=[.slice none 0 0,fv]) rfl (Zzr x8 hN hl) ?_;rintro v H' h;refine Y ?_;exact h
theorem Kn(hb:Zs H b)(sz:b.Sz)(hg:Yl H):LL.Zc P 19 #[b.v] H λv H'=>bO H H'/\v=.tuple #[vi (if ZF b=0 then(Zi b).length else 0),vi (ZF b)]:=by
 refine aO.m (cF Zyd) (args:=[b.v]) rfl ?_;unfold Zlw Sb.v;refine Y ?_;refine Za (vs:=[b.v]) rfl (L3 hb sz hg) ?_;rintro v H1 ⟨oH,rfl⟩;refine Y ?_;refine OI (λh1=>?_) (λh1=>?_)
 ·refine Y ?_;exact⟨oH,by rw[bY h1];rfl⟩
 have val:=U2 (b:=b) h1;have dJ:=UI val;refine Y ?_;refine VP rfl rfl (Y ?_);refine Za (vs:=[.func (.func 83) #[b.v] #[]]) rfl (ZnJ (jV val) (λH' hi=>(hb.bA oH).bA hi) O) ?_;rintro v H2 ⟨pU,bb,ow⟩;obtain⟨Aw,cw,rfl,_⟩:=ow.sl;refine Y ?_;exact⟨oH.trans pU,by rw[iO h1,h1];rfl⟩
theorem Ox{own:Int}(hb:Zs H b)(sz:b.Sz)(hg:Yl H)(hf:∀H1,bO H H1->ZX P fv #[b.v] H1 λv H'=>bO H1 H'/\v=vi own) :
  LL.Zc P 85 #[b.v,fv] H λv H'=>bO H H'/\((Zn b own≠0/\v=.tuple #[U3,vi (Zn b own)])\/(Zn b own=0/\fN b/\1<=(Zi b).length/\∃w bb,v=.tuple #[ZW b w,vi 0]/\fZ H H' 105 w (Zi b) bb)):=by
 refine aO.m (cF ZxO) (args:=[b.v,fv]) rfl ?_;unfold Zk7 Sb.v;refine Y ?_;refine Za (vs:=[b.v]) rfl (L3 hb sz hg) ?_;rintro v H1 ⟨oH,rfl⟩;refine Y ?_;refine OI (λh1=>?_) (λh1=>?_)
 ·refine Y ?_;exact⟨oH,.inl ⟨by rw[Zn,iO h1];exact h1,by rw[Zn,iO h1];rfl⟩⟩
 have val:=U2 (b:=b) h1;have dJ:=UI val;refine Y ?_;refine ZN (vs:=[b.v]) rfl rfl (hf H1 oH) ?_;rintro v H2 ⟨pU,rfl⟩;refine Y ?_;refine OI (λh2=>?_) (λh2=>?_)
 ·have e:Zn b own=own:=by rw[Zn,bY O,iO h2]
  refine Y ?_;exact⟨oH.trans pU,.inl ⟨by rw[e];exact h2,by rw[e];rfl⟩⟩
 refine Y ?_;refine VP rfl rfl (Y ?_);refine Za (vs:=[.func (.func 83) #[b.v] #[]]) rfl (ZnJ (jV val) (λH' hi=>((hb.bA oH).bA pU).bA hi) O) ?_;rintro v H3 ⟨T9,bb,ow⟩;obtain⟨Aw,cw,rfl,_⟩:=ow.sl;refine Y ?_;refine OI (λh3=>?_) (λh3=>?_)
 ·have e:Zn b own=9:=by rw[Zn,bY O,bY O,iO O]
  refine Y ?_;exact⟨(oH.trans pU).trans T9,.inl ⟨by rw[e];decide,by rw[e];rfl⟩⟩
 have e:Zn b own=0:=by rw[Zn,bY O,bY O,bY O]
 refine Y ?_;exact⟨(oH.trans pU).trans T9,.inr ⟨e,val,O,_,bb,rfl,ow.own,λr e2=>YK (oH.trans pU) (ow.fresh r e2)⟩⟩
end
