import Derived.Test.YtlhomfgcibjccaaGreatDoorP21
import Derived.Test.YtlhomfgcibjccaaGreatDoorP22
import Derived.Test.YtlhomfgcibjccaaGreatDoorP33
set_option linter.all false
set_option maxHeartbeats 8000000
set_option maxRecDepth 20000
open Go Go.LL
namespace Go.Proofs
variable{r cap a b p n r2 s x y:Nat}{l:List Int}{rest:List Value}{E:Int->List Value}{cv:Value}{S:Int->Prop}{H0:Hp}
section
variable{P:bF}[Tz P][Loud P]{H:Hp}
theorem ZsR(hE:Yx E)(hC:YN P E H r cv S)(hS:∀k,k<l.length->S (el l k))(hA:H r=some (.cells (iQ E l++rest).toArray 122 (0,0),true))(hn:l.length=n)(BT:a<=p)(PK:p<b)(hb:b<=n)(hl:n<=1000000) :
  LL.Zc P 240 #[.slice (some ⟨r,0,none⟩) n cap,vi a,vi b,vi p,cv] H λv H'=>∃l' q t,AT E H H' r l' rest/\Rg a b l l'/\Re a b l' q/\v=.tuple #[vi (q:Nat),vb t]:=by
 refine aO.m (cF ZwM) (args:=[.slice (some ⟨r,0,none⟩) n cap,vi a,vi b,vi p,cv]) rfl ?_;unfold Zj5;have nL:=AT.of hA;refine Y ?_;refine Zd p rfl rfl O O (Y ?_);refine Zl (Loud.aL _) rfl (AT.cA hE nL O rfl) (Yx.len hE _) (Y ?_);refine Zd a rfl rfl O O (Y ?_);refine Zl (Loud.aL _) rfl (AT.cA hE nL O rfl) (Yx.len hE _) (Y ?_);refine Zd a rfl rfl O O (Y ?_);refine Z3 hE nL O rfl rfl rfl λHW fQ=>?_;refine Zq Loud.aL (Y ?_);refine Zd p rfl rfl O O (Y ?_);refine Z3 hE fQ (by rw[IF];omega) rfl rfl rfl λH1 kF=>?_;refine OB ?_;have lA:(l.set a (el l p)).set p (el l a)=cY l a p:=rfl;rw[lA]at kF;have sA:Rg a b l (cY l a p):=.step _ _ (.refl l) O O O O;have ev:el (cY l a p) a=el l p:=by
  rw[Yi _ O O];by_cases e:a=p
  ·rw[iO e,e]
  rw[bY e,iO rfl]
 have D4:nW a b (a+1) (b-1) (el l p) (cY l a p):=⟨ev,λk h1 h2=>O,λk h1 h2=>O,O,O,O⟩;generalize cY l a p=c1 at *;have JM:((b:Int)-1)=((b-1:Nat):Int):=O;rw[JM];generalize el l p=v at *;have EN:=sA.len;refine OB ?_;refine Z4 (λ(i:Nat) H'=>H1=H'/\nW a b i (b-1) v c1/\((b-1)<i\/v<=el c1 i)/\(a+1)<=i) (λi=>[(0,.slice (some ⟨r,0,none⟩) n cap),(1,vi a),(4,cv),(12,vi ((i:Nat):Int)),(13,vi (((b-1):Nat):Int))]) (λ_=>[]) ?_ ?_
 ·refine Y ?_;refine Zw ((b-1)+1-(a+1)) (λt H'=>H1=H'/\nW a b ((a+1)+t) (b-1) v c1) (λt=>[(0,.slice (some ⟨r,0,none⟩) n cap),(1,vi a),(4,cv),(12,vi (((a+1)+t:Nat):Int)),(13,vi (((b-1):Nat):Int))]) (λ_=>[]) ⟨rfl,D4⟩ V trivial ?_;rintro t _ ht ⟨rfl,cO⟩;have q1:=cO.ai;have q2:=cO.ij;have q3:=cO.jb;have q4:=cO.eq;refine Y ?_;refine OI (λz1=>?_) (λz1=>?_)
  ·refine Y ?_;refine Zd ((a+1)+t) rfl rfl O O (Y ?_);refine Zl (Loud.aL _) rfl (AT.cA hE kF O rfl) (Yx.len hE _) (Y ?_);refine Zd a rfl rfl O O (Y ?_);refine Zl (Loud.aL _) rfl (AT.cA hE kF O rfl) (Yx.len hE _) (Y ?_);refine ZN rfl rfl (hC _ (AT.keep kF) _ _ (ZI sA O hS O) (ZI sA O hS O)) ?_;intro vW KW hW;obtain⟨eA,eB⟩:=hW;subst eA eB;refine Y ?_;refine OI (λz2=>?_) (λz2=>?_);all_goals rw[Vv]at z2
   all_goals rw[q4]at z2
   ·refine Y ?_;refine⟨⟨t+1,O⟩,dX O,⟨rfl,q4,λk k1 k2=>?_,cO.hi,?_,?_,cO.jb⟩,V,trivial,rfl⟩
    ·have k2:k<(a+1)+(t+1):=k2;by_cases e:k=(a+1)+t
     ·subst e;exact z2
     exact cO.lo k k1 O
    ·show a+1<=(a+1)+(t+1);omega
    show(a+1)+(t+1)<=(b-1)+1;omega
   refine Y ?_;exact⟨(a+1)+t,⟨rfl,cO,.inr O,O⟩,V,trivial,rfl⟩
  refine Y ?_;exact⟨(a+1)+t,⟨rfl,cO,.inl O,O⟩,V,trivial,rfl⟩
 rintro i2 _ ⟨rfl,G5,KK,gi2⟩;refine OB ?_;refine Z4 (λ(j:Nat) H'=>H1=H'/\nW a b i2 j v c1/\(j<i2\/el c1 j<v)/\(i2<=j->v<=el c1 i2)/\j<=(b-1)) (λj=>[(0,.slice (some ⟨r,0,none⟩) n cap),(1,vi a),(4,cv),(12,vi ((i2:Nat):Int)),(13,vi ((j:Nat):Int))]) (λ_=>[]) ?_ ?_
 ·refine Y ?_;refine Zw ((b-1)+1-i2) (λt H'=>H1=H'/\nW a b i2 ((b-1)-t) v c1) (λt=>[(0,.slice (some ⟨r,0,none⟩) n cap),(1,vi a),(4,cv),(12,vi ((i2:Nat):Int)),(13,vi (((b-1)-t:Nat):Int))]) (λ_=>[]) ⟨rfl,G5⟩ V trivial ?_;rintro t _ ht ⟨rfl,cO⟩;have q1:=cO.ai;have q2:=cO.ij;have q3:=cO.jb;have q4:=cO.eq;have q5:=G5.ij;have q6:=G5.jb;obtain⟨jj,sZ⟩:∃jj,(b-1)-t=jj:=⟨_,rfl⟩;rw[sZ]at cO q2 q3 ⊢;refine Y ?_;refine OI (λz1=>?_) (λz1=>?_)
  ·refine Y ?_;refine Zd jj rfl rfl O O (Y ?_);refine Zl (Loud.aL _) rfl (AT.cA hE kF O rfl) (Yx.len hE _) (Y ?_);refine Zd a rfl rfl O O (Y ?_);refine Zl (Loud.aL _) rfl (AT.cA hE kF O rfl) (Yx.len hE _) (Y ?_);refine ZN rfl rfl (hC _ (AT.keep kF) _ _ (ZI sA O hS O) (ZI sA O hS O)) ?_;intro vW KW hW;obtain⟨eA,eB⟩:=hW;subst eA eB;refine Y ?_;refine OI (λz2=>?_) (λz2=>?_);all_goals rw[Vv]at z2
   all_goals rw[q4]at z2
   ·refine Y ?_;refine⟨⟨t+1,O⟩,dX O,⟨rfl,q4,cO.lo,λk k1 k2=>?_,cO.ai,?_,?_⟩,⟨rfl,rfl,rfl,rfl,?_,trivial⟩,trivial,rfl⟩
    ·have k1:(b-1)-(t+1)<k:=k1;by_cases e:k=jj
     ·subst e;omega
     exact cO.hi k O k2
    ·show i2<=(b-1)-(t+1)+1;omega
    ·show(b-1)-(t+1)+1<=b;omega
    show some (vi ((jj:Int)-1))=some (vi (((b-1)-(t+1):Nat):Int));congr 2;omega
   refine Y ?_;exact⟨jj,⟨rfl,cO,.inr O,λh=>by have:=KK;omega,O⟩,V,trivial,rfl⟩
  refine Y ?_;exact⟨jj,⟨rfl,cO,.inl O,λh=>O,O⟩,V,trivial,rfl⟩
 rintro j3 _ ⟨rfl,z4,M5,M4,gj3⟩;have w1:=z4.ai;have w2:=z4.ij;have w3:=z4.jb;refine OB ?_;refine Yb (Y ?_);refine OI (λg1=>?_) (λg1=>?_)
 ·refine Y ?_;refine Zd a rfl rfl O O (Y ?_);refine Zl (Loud.aL _) rfl (AT.cA hE kF O rfl) (Yx.len hE _) (Y ?_);refine Zd j3 rfl rfl O O (Y ?_);refine Zl (Loud.aL _) rfl (AT.cA hE kF O rfl) (Yx.len hE _) (Y ?_);refine Zd j3 rfl rfl O O (Y ?_);refine Z3 hE kF O rfl rfl rfl λHW fQ=>?_;refine Zq Loud.aL (Y ?_);refine Zd a rfl rfl O O (Y ?_);refine Z3 hE fQ (by rw[IF];omega) rfl rfl rfl λH5 jT=>Y ?_;exact⟨cY c1 j3 a,j3,true,jT,.step _ _ sA O O O O,z4.gL O O,rfl⟩
 have nU:i2<=j3:=O;have dG:i2≠j3:=λe=>by have h1:=M4 nU;rw[e]at h1;rcases M5 with h | h<;>omega
 have lR:=z4.swap nU (M4 nU) (by rcases M5 with h | h<;>omega) O;have nQ:Rg a b l (cY c1 i2 j3):=.step _ _ sA O O O O;refine OB ?_;refine Zd j3 rfl rfl O O (Y ?_);refine Zl (Loud.aL _) rfl (AT.cA hE kF O rfl) (Yx.len hE _) (Y ?_);refine Zd i2 rfl rfl O O (Y ?_);refine Zl (Loud.aL _) rfl (AT.cA hE kF O rfl) (Yx.len hE _) (Y ?_);refine Zd i2 rfl rfl O O (Y ?_);refine Z3 hE kF O rfl rfl rfl λHW fQ=>?_;refine Zq Loud.aL (Y ?_);refine Zd j3 rfl rfl O O (Y ?_);refine Z3 hE fQ (by rw[IF];omega) rfl rfl rfl λH5 jT=>?_;have lA:(c1.set i2 (el c1 j3)).set j3 (el c1 i2)=cY c1 i2 j3:=rfl;rw[lA]at jT;generalize cY c1 i2 j3=c3 at *;have Jw:((j3:Int)-1)=((j3-1:Nat):Int):=O;refine OB ?_;rw[Jw];refine Yb ?_;refine OB ?_;refine ZQ (α:=List Int×Nat×Nat) (j3-1+1-(i2+1)) (λt s H'=>AT E H H' r s.1 rest/\Rg a b l s.1/\nW a b s.2.1 s.2.2 v s.1/\s.2.2+1-s.2.1+t=j3-1+1-(i2+1)) (λt s=>[(0,.slice (some ⟨r,0,none⟩) n cap),(1,vi a),(4,cv),(12,vi ((s.2.1:Nat):Int)),(13,vi ((s.2.2:Nat):Int))]) (λ_ _=>[]) (c3,i2+1,j3-1) ⟨jT,nQ,lR,by show j3-1+1-(i2+1)+0=_;omega⟩ V trivial ?_;rintro t0 ⟨c4,i4,j4⟩ H7 AS ⟨dV,mV,z5,hm⟩;clear lR;have lR:=z5;clear z5;simp only at dV mV lR hm;have I6:=mV.len;have y1:=lR.ai;have y2:=lR.ij;have y3:=lR.jb;refine OB ?_;refine Z4 (λ(i:Nat) H'=>H7=H'/\nW a b i j4 v c4/\(j4<i\/v<=el c4 i)/\i4<=i) (λi=>[(0,.slice (some ⟨r,0,none⟩) n cap),(1,vi a),(4,cv),(12,vi ((i:Nat):Int)),(13,vi ((j4:Nat):Int))]) (λ_=>[]) ?_ ?_
 ·refine Y ?_;refine Zw (j4+1-i4) (λt H'=>H7=H'/\nW a b (i4+t) j4 v c4) (λt=>[(0,.slice (some ⟨r,0,none⟩) n cap),(1,vi a),(4,cv),(12,vi ((i4+t:Nat):Int)),(13,vi ((j4:Nat):Int))]) (λ_=>[]) ⟨rfl,lR⟩ V trivial ?_;rintro t _ ht ⟨rfl,cO⟩;have q1:=cO.ai;have q2:=cO.ij;have q3:=cO.jb;have q4:=cO.eq;refine Y ?_;refine OI (λz1=>?_) (λz1=>?_)
  ·refine Y ?_;refine Zd (i4+t) rfl rfl O O (Y ?_);refine Zl (Loud.aL _) rfl (AT.cA hE dV O rfl) (Yx.len hE _) (Y ?_);refine Zd a rfl rfl O O (Y ?_);refine Zl (Loud.aL _) rfl (AT.cA hE dV O rfl) (Yx.len hE _) (Y ?_);refine ZN rfl rfl (hC _ (AT.keep dV) _ _ (ZI mV O hS O) (ZI mV O hS O)) ?_;intro vW KW hW;obtain⟨eA,eB⟩:=hW;subst eA eB;refine Y ?_;refine OI (λz2=>?_) (λz2=>?_);all_goals rw[Vv]at z2
   all_goals rw[q4]at z2
   ·refine Y ?_;refine⟨⟨t+1,O⟩,dX O,⟨rfl,q4,λk k1 k2=>?_,cO.hi,?_,?_,cO.jb⟩,V,trivial,rfl⟩
    ·have k2:k<i4+(t+1):=k2;by_cases e:k=i4+t
     ·subst e;exact z2
     exact cO.lo k k1 O
    ·show a+1<=i4+(t+1);omega
    show i4+(t+1)<=j4+1;omega
   refine Y ?_;exact⟨i4+t,⟨rfl,cO,.inr O,O⟩,V,trivial,rfl⟩
  refine Y ?_;exact⟨i4+t,⟨rfl,cO,.inl O,O⟩,V,trivial,rfl⟩
 rintro i5 _ ⟨rfl,uB,DX,Jp⟩;refine OB ?_;refine Z4 (λ(j:Nat) H'=>H7=H'/\nW a b i5 j v c4/\(j<i5\/el c4 j<v)/\(i5<=j->v<=el c4 i5)/\j<=j4) (λj=>[(0,.slice (some ⟨r,0,none⟩) n cap),(1,vi a),(4,cv),(12,vi ((i5:Nat):Int)),(13,vi ((j:Nat):Int))]) (λ_=>[]) ?_ ?_
 ·refine Y ?_;refine Zw (j4+1-i5) (λt H'=>H7=H'/\nW a b i5 (j4-t) v c4) (λt=>[(0,.slice (some ⟨r,0,none⟩) n cap),(1,vi a),(4,cv),(12,vi ((i5:Nat):Int)),(13,vi ((j4-t:Nat):Int))]) (λ_=>[]) ⟨rfl,uB⟩ V trivial ?_;rintro t _ ht ⟨rfl,cO⟩;have q1:=cO.ai;have q2:=cO.ij;have q3:=cO.jb;have q4:=cO.eq;have q5:=uB.ij;have q6:=uB.jb;obtain⟨jj,sZ⟩:∃jj,j4-t=jj:=⟨_,rfl⟩;rw[sZ]at cO q2 q3 ⊢;refine Y ?_;refine OI (λz1=>?_) (λz1=>?_)
  ·refine Y ?_;refine Zd jj rfl rfl O O (Y ?_);refine Zl (Loud.aL _) rfl (AT.cA hE dV O rfl) (Yx.len hE _) (Y ?_);refine Zd a rfl rfl O O (Y ?_);refine Zl (Loud.aL _) rfl (AT.cA hE dV O rfl) (Yx.len hE _) (Y ?_);refine ZN rfl rfl (hC _ (AT.keep dV) _ _ (ZI mV O hS O) (ZI mV O hS O)) ?_;intro vW KW hW;obtain⟨eA,eB⟩:=hW;subst eA eB;refine Y ?_;refine OI (λz2=>?_) (λz2=>?_);all_goals rw[Vv]at z2
   all_goals rw[q4]at z2
   ·refine Y ?_;refine⟨⟨t+1,O⟩,dX O,⟨rfl,q4,cO.lo,λk k1 k2=>?_,cO.ai,?_,?_⟩,⟨rfl,rfl,rfl,rfl,?_,trivial⟩,trivial,rfl⟩
    ·have k1:j4-(t+1)<k:=k1;by_cases e:k=jj
     ·subst e;omega
     exact cO.hi k O k2
    ·show i5<=j4-(t+1)+1;omega
    ·show j4-(t+1)+1<=b;omega
    show some (vi ((jj:Int)-1))=some (vi ((j4-(t+1):Nat):Int));congr 2;omega
   refine Y ?_;exact⟨jj,⟨rfl,cO,.inr O,λh=>by have:=DX;omega,O⟩,V,trivial,rfl⟩
  refine Y ?_;exact⟨jj,⟨rfl,cO,.inl O,λh=>O,O⟩,V,trivial,rfl⟩
 rintro j6 _ ⟨rfl,oT,zQ,zP,Jn⟩;have x1:=oT.ai;have x2:=oT.ij;have x3:=oT.jb;refine OB ?_;refine Yb (Y ?_);refine OI (λg2=>?_) (λg2=>?_)
 ·refine Y ?_;refine Zd a rfl rfl O O (Y ?_);refine Zl (Loud.aL _) rfl (AT.cA hE dV O rfl) (Yx.len hE _) (Y ?_);refine Zd j6 rfl rfl O O (Y ?_);refine Zl (Loud.aL _) rfl (AT.cA hE dV O rfl) (Yx.len hE _) (Y ?_);refine Zd j6 rfl rfl O O (Y ?_);refine Z3 hE dV O rfl rfl rfl λHW fQ=>?_;refine Zq Loud.aL (Y ?_);refine Zd a rfl rfl O O (Y ?_);refine Z3 hE fQ (by rw[IF];omega) rfl rfl rfl λH9 m8=>Y ?_;exact⟨cY c4 j6 a,j6,false,m8,.step _ _ mV O O O O,oT.gL O O,rfl⟩
 have lF:i5<=j6:=O;have BK:i5≠j6:=λe=>by have h1:=zP lF;rw[e]at h1;rcases zQ with h | h<;>omega
 have G4:=oT.swap lF (zP lF) (by rcases zQ with h | h<;>omega) O;have pQ:Rg a b l (cY c4 i5 j6):=.step _ _ mV O O O O;refine Y ?_;refine Zd j6 rfl rfl O O (Y ?_);refine Zl (Loud.aL _) rfl (AT.cA hE dV O rfl) (Yx.len hE _) (Y ?_);refine Zd i5 rfl rfl O O (Y ?_);refine Zl (Loud.aL _) rfl (AT.cA hE dV O rfl) (Yx.len hE _) (Y ?_);refine Zd i5 rfl rfl O O (Y ?_);refine Z3 hE dV O rfl rfl rfl λHW fQ=>?_;refine Zq Loud.aL (Y ?_);refine Zd j6 rfl rfl O O (Y ?_);refine Z3 hE fQ (by rw[IF];omega) rfl rfl rfl λH9 m8=>Y ?_;refine⟨(⟨j3-1+1-(i2+1)-(j6-1+1-(i5+1)),O⟩,(cY c4 i5 j6,i5+1,j6-1)),?_,⟨m8,pQ,G4,?_⟩,⟨rfl,rfl,rfl,rfl,?_,trivial⟩,trivial,rfl⟩
 ·show j3-1+1-(i2+1)-(j3-1+1-(i2+1)-(j6-1+1-(i5+1)))<j3-1+1-(i2+1)-t0;omega
 ·show j6-1+1-(i5+1)+(j3-1+1-(i2+1)-(j6-1+1-(i5+1)))=j3-1+1-(i2+1);omega
 show some (vi ((j6:Int)-1))=some (vi ((j6-1:Nat):Int));congr 2;omega
theorem ZsV(hE:Yx E)(hC:YN P E H r cv S)(hS:∀k,k<l.length->S (el l k))(hA:H r=some (.cells (iQ E l++rest).toArray 122 (0,0),true))(hn:l.length=n)(BT:a<=p)(PK:p<b)(hb:b<=n)(hl:n<=1000000) :
  LL.Zc P 239 #[.slice (some ⟨r,0,none⟩) n cap,vi a,vi b,vi p,cv] H λv H'=>∃l' q,AT E H H' r l' rest/\Rg a b l l'/\Rf a b l' q (el l p)/\v=vi (q:Nat):=by
 refine aO.m (cF ZwN) (args:=[.slice (some ⟨r,0,none⟩) n cap,vi a,vi b,vi p,cv]) rfl ?_;unfold Zj6;have nL:=AT.of hA;refine Y ?_;refine Zd p rfl rfl O O (Y ?_);refine Zl (Loud.aL _) rfl (AT.cA hE nL O rfl) (Yx.len hE _) (Y ?_);refine Zd a rfl rfl O O (Y ?_);refine Zl (Loud.aL _) rfl (AT.cA hE nL O rfl) (Yx.len hE _) (Y ?_);refine Zd a rfl rfl O O (Y ?_);refine Z3 hE nL O rfl rfl rfl λHW fQ=>?_;refine Zq Loud.aL (Y ?_);refine Zd p rfl rfl O O (Y ?_);refine Z3 hE fQ (by rw[IF];omega) rfl rfl rfl λH1 kF=>?_;refine OB ?_;have lA:(l.set a (el l p)).set p (el l a)=cY l a p:=rfl;rw[lA]at kF;have sA:Rg a b l (cY l a p):=.step _ _ (.refl l) O O O O;have ev:el (cY l a p) a=el l p:=by
  rw[Yi _ O O];by_cases e:a=p
  ·rw[iO e,e]
  rw[bY e,iO rfl]
 have D4:tH a b (a+1) (b-1) (el l p) (cY l a p):=⟨ev,λk h1 h2=>O,λk h1 h2=>O,O,O,O⟩;generalize cY l a p=c1 at *;have JM:((b:Int)-1)=((b-1:Nat):Int):=O;rw[JM];generalize el l p=v at *;have EN:=sA.len;refine Yb ?_;refine OB ?_;refine ZQ (α:=List Int×Nat×Nat) (b-1+1-(a+1)) (λt s H'=>AT E H H' r s.1 rest/\Rg a b l s.1/\tH a b s.2.1 s.2.2 v s.1/\s.2.2+1-s.2.1+t=b-1+1-(a+1)) (λt s=>[(0,.slice (some ⟨r,0,none⟩) n cap),(1,vi a),(4,cv),(11,vi ((s.2.1:Nat):Int)),(12,vi ((s.2.2:Nat):Int))]) (λ_ _=>[]) (c1,a+1,b-1) ⟨kF,sA,D4,by show b-1+1-(a+1)+0=_;omega⟩ V trivial ?_;rintro t0 ⟨c4,i4,j4⟩ H7 AS ⟨dV,nQ,lR,hm⟩;clear D4;simp only at dV nQ lR hm;have I6:=nQ.len;have y1:=lR.ai;have y2:=lR.ij;have y3:=lR.jb;refine OB ?_;refine Z4 (λ(i:Nat) H'=>H7=H'/\tH a b i j4 v c4/\(j4<i\/v<el c4 i)/\i4<=i) (λi=>[(0,.slice (some ⟨r,0,none⟩) n cap),(1,vi a),(4,cv),(11,vi ((i:Nat):Int)),(12,vi ((j4:Nat):Int))]) (λ_=>[]) ?_ ?_
 ·refine Y ?_;refine Zw (j4+1-i4) (λt H'=>H7=H'/\tH a b (i4+t) j4 v c4) (λt=>[(0,.slice (some ⟨r,0,none⟩) n cap),(1,vi a),(4,cv),(11,vi ((i4+t:Nat):Int)),(12,vi ((j4:Nat):Int))]) (λ_=>[]) ⟨rfl,lR⟩ V trivial ?_;rintro t _ ht ⟨rfl,cO⟩;have q1:=cO.ai;have q2:=cO.ij;have q3:=cO.jb;have q4:=cO.eq;refine Y ?_;refine OI (λz1=>?_) (λz1=>?_)
  ·refine Y ?_;refine Zd a rfl rfl O O (Y ?_);refine Zl (Loud.aL _) rfl (AT.cA hE dV O rfl) (Yx.len hE _) (Y ?_);refine Zd (i4+t) rfl rfl O O (Y ?_);refine Zl (Loud.aL _) rfl (AT.cA hE dV O rfl) (Yx.len hE _) (Y ?_);refine ZN rfl rfl (hC _ (AT.keep dV) _ _ (ZI nQ O hS O) (ZI nQ O hS O)) ?_;intro vW KW hW;obtain⟨eA,eB⟩:=hW;subst eA eB;refine Y ?_;refine OI (λz2=>?_) (λz2=>?_);all_goals rw[Vv]at z2
   all_goals rw[q4]at z2
   ·refine Y ?_;refine⟨⟨t+1,O⟩,dX O,⟨rfl,q4,λk k1 k2=>?_,cO.hi,?_,?_,cO.jb⟩,V,trivial,rfl⟩
    ·have k2:k<i4+(t+1):=k2;by_cases e:k=i4+t
     ·subst e;omega
     exact cO.lo k k1 O
    ·show a+1<=i4+(t+1);omega
    show i4+(t+1)<=j4+1;omega
   refine Y ?_;exact⟨i4+t,⟨rfl,cO,.inr O,O⟩,V,trivial,rfl⟩
  refine Y ?_;exact⟨i4+t,⟨rfl,cO,.inl O,O⟩,V,trivial,rfl⟩
 rintro i5 _ ⟨rfl,uB,DX,Jp⟩;refine OB ?_;refine Z4 (λ(j:Nat) H'=>H7=H'/\tH a b i5 j v c4/\(j<i5\/el c4 j<=v)/\(i5<=j->v<el c4 i5)/\j<=j4) (λj=>[(0,.slice (some ⟨r,0,none⟩) n cap),(1,vi a),(4,cv),(11,vi ((i5:Nat):Int)),(12,vi ((j:Nat):Int))]) (λ_=>[]) ?_ ?_
 ·refine Y ?_;refine Zw (j4+1-i5) (λt H'=>H7=H'/\tH a b i5 (j4-t) v c4) (λt=>[(0,.slice (some ⟨r,0,none⟩) n cap),(1,vi a),(4,cv),(11,vi ((i5:Nat):Int)),(12,vi ((j4-t:Nat):Int))]) (λ_=>[]) ⟨rfl,uB⟩ V trivial ?_;rintro t _ ht ⟨rfl,cO⟩;have q1:=cO.ai;have q2:=cO.ij;have q3:=cO.jb;have q4:=cO.eq;have q5:=uB.ij;have q6:=uB.jb;obtain⟨jj,sZ⟩:∃jj,j4-t=jj:=⟨_,rfl⟩;rw[sZ]at cO q2 q3 ⊢;refine Y ?_;refine OI (λz1=>?_) (λz1=>?_)
  ·refine Y ?_;refine Zd a rfl rfl O O (Y ?_);refine Zl (Loud.aL _) rfl (AT.cA hE dV O rfl) (Yx.len hE _) (Y ?_);refine Zd jj rfl rfl O O (Y ?_);refine Zl (Loud.aL _) rfl (AT.cA hE dV O rfl) (Yx.len hE _) (Y ?_);refine ZN rfl rfl (hC _ (AT.keep dV) _ _ (ZI nQ O hS O) (ZI nQ O hS O)) ?_;intro vW KW hW;obtain⟨eA,eB⟩:=hW;subst eA eB;refine Y ?_;refine OI (λz2=>?_) (λz2=>?_);all_goals rw[Vv]at z2
   all_goals rw[q4]at z2
   ·refine Y ?_;refine⟨⟨t+1,O⟩,dX O,⟨rfl,q4,cO.lo,λk k1 k2=>?_,cO.ai,?_,?_⟩,⟨rfl,rfl,rfl,rfl,?_,trivial⟩,trivial,rfl⟩
    ·have k1:j4-(t+1)<k:=k1;by_cases e:k=jj
     ·subst e;exact z2
     exact cO.hi k O k2
    ·show i5<=j4-(t+1)+1;omega
    ·show j4-(t+1)+1<=b;omega
    show some (vi ((jj:Int)-1))=some (vi ((j4-(t+1):Nat):Int));congr 2;omega
   refine Y ?_;exact⟨jj,⟨rfl,cO,.inr O,λh=>by have:=DX;omega,O⟩,V,trivial,rfl⟩
  refine Y ?_;exact⟨jj,⟨rfl,cO,.inl O,λh=>O,O⟩,V,trivial,rfl⟩
 rintro j6 _ ⟨rfl,oT,zQ,zP,Jn⟩;have x1:=oT.ai;have x2:=oT.ij;have x3:=oT.jb;refine OB ?_;refine Yb (Y ?_);refine OI (λg2=>?_) (λg2=>?_)
 ·refine Y ?_;exact⟨c4,i5,dV,nQ,oT.gL O,rfl⟩
 have lF:i5<=j6:=O;have BK:i5≠j6:=λe=>by have h1:=zP lF;rw[e]at h1;rcases zQ with h | h<;>omega
 have G4:=oT.swap lF (zP lF) (by rcases zQ with h | h<;>omega) O;have pQ:Rg a b l (cY c4 i5 j6):=.step _ _ nQ O O O O;refine Y ?_;refine Zd j6 rfl rfl O O (Y ?_);refine Zl (Loud.aL _) rfl (AT.cA hE dV O rfl) (Yx.len hE _) (Y ?_);refine Zd i5 rfl rfl O O (Y ?_);refine Zl (Loud.aL _) rfl (AT.cA hE dV O rfl) (Yx.len hE _) (Y ?_);refine Zd i5 rfl rfl O O (Y ?_);refine Z3 hE dV O rfl rfl rfl λHW fQ=>?_;refine Zq Loud.aL (Y ?_);refine Zd j6 rfl rfl O O (Y ?_);refine Z3 hE fQ (by rw[IF];omega) rfl rfl rfl λH9 m8=>Y ?_;refine⟨(⟨b-1+1-(a+1)-(j6-1+1-(i5+1)),O⟩,(cY c4 i5 j6,i5+1,j6-1)),?_,⟨m8,pQ,G4,?_⟩,⟨rfl,rfl,rfl,rfl,?_,trivial⟩,trivial,rfl⟩
 ·show b-1+1-(a+1)-(b-1+1-(a+1)-(j6-1+1-(i5+1)))<b-1+1-(a+1)-t0;omega
 ·show j6-1+1-(i5+1)+(b-1+1-(a+1)-(j6-1+1-(i5+1)))=b-1+1-(a+1);omega
 show some (vi ((j6:Int)-1))=some (vi ((j6-1:Nat):Int));congr 2;omega
end
theorem nY.u2{H H':Hp}(h:nY H H' r2 s)(hA:H r=some (.cells (iQ E l++rest).toArray 122 (0,0),true))(hr:r≠r2):H' r=some (.cells (iQ E l++rest).toArray 122 (0,0),true):=h.keep _ _ hr hA
section
variable{P:bF}[Tz P][Loud P]{H:Hp}
theorem Ly(hE:Yx E)(hC:YN P E H r cv S)(hS:∀k,k<l.length->S (el l k))(hA:H r=some (.cells (iQ E l++rest).toArray 122 (0,0),true))(hn:l.length=n)(hx:x<n)(hy:y<n)(hr:r≠r2)(h2:H r2=some (.cells #[vi s] 3 (0,0),true))(HO:s<=1000) :
  LL.Zc P 259 #[.slice (some ⟨r,0,none⟩) n cap,vi x,vi y,pt r2,cv] H λv H'=>∃s' x' y':Nat,nY H H' r2 s'/\s'<=s+1/\v=.tuple #[vi x',vi y']/\((x'=x/\y'=y)\/(x'=y/\y'=x)):=by
 refine aO.m (cF ZwH) (args:=[.slice (some ⟨r,0,none⟩) n cap,vi x,vi y,pt r2,cv]) rfl ?_;unfold Zj0;have nL:=AT.of hA;refine Y ?_;refine Zd y rfl rfl O O (Y ?_);refine Zl (Loud.aL _) rfl (AT.cA hE nL O rfl) (Yx.len hE _) (Y ?_);refine Zd x rfl rfl O O (Y ?_);refine Zl (Loud.aL _) rfl (AT.cA hE nL O rfl) (Yx.len hE _) (Y ?_);refine ZN rfl rfl (hC _ (AT.keep nL) _ _ (hS _ O) (hS _ O)) ?_;intro vW KW hW;obtain⟨eA,eB⟩:=hW;subst eA eB;refine Y ?_;refine OI (λh1=>?_) (λh1=>?_);all_goals rw[Vv]at h1
 ·refine Y ?_;refine VD rfl (Y ?_);refine Zg (OL _) rfl (ZC (cs:=[vi s]) h2) (Y ?_);refine VD rfl (Y ?_);refine Vp (eI t3) rfl rfl h2 rfl rfl (OL _) (Y ?_);exact⟨s+1,y,x,⟨λb z hb hz=>by rw[Hp.aE _ _ hb];exact hz,Hp.aF _ _ _⟩,aC _,rfl,.inr ⟨rfl,rfl⟩⟩
 refine Y ?_;exact⟨s,x,y,⟨λb z hb hz=>hz,h2⟩,O,rfl,.inl ⟨rfl,rfl⟩⟩
theorem ZlJ{z:Nat}(hE:Yx E)(hC:YN P E H0 r cv S)(hk:∀b x,b≠r->H0 b=some x->H b=some x)(WN:H0 r2=none)(hS:∀k,k<l.length->S (el l k))(hA:H r=some (.cells (iQ E l++rest).toArray 122 (0,0),true))(hn:l.length=n)(hx:x<n)(hy:y<n)(hz:z<n)(hr:r≠r2)(h2:H r2=some (.cells #[vi s] 3 (0,0),true))(HO:s<=900) :
  LL.Zc P 256 #[.slice (some ⟨r,0,none⟩) n cap,vi x,vi y,vi z,pt r2,cv] H λv H'=>∃s' q:Nat,nY H H' r2 s'/\s'<=s+3/\v=vi q/\(q=x\/q=y\/q=z):=by
 have rI:∀{H':Hp} {s:Nat},nY H H' r2 s->∀b x,b≠r->H0 b=some x->H' b=some x:=λk b x hb h=>k.keep b x (by rintro rfl;rw[WN]at h;simp at h) (hk b x hb h);refine aO.m (cF ZwI) (args:=[.slice (some ⟨r,0,none⟩) n cap,vi x,vi y,vi z,pt r2,cv]) rfl ?_;unfold Zj1;refine Y ?_;refine Za (vs:=[.slice (some ⟨r,0,none⟩) n cap,vi x,vi y,pt r2,cv]) rfl (Ly hE (hC.of hk) hS hA hn hx hy hr h2 O) ?_;rintro v H1 ⟨s1,x1,y1,k1,g1,rfl,p1⟩;refine Y ?_;refine Za (vs:=[.slice (some ⟨r,0,none⟩) n cap,vi y1,vi z,pt r2,cv]) rfl (Ly hE (hC.of (rI k1)) hS (k1.u2 hA hr) hn O hz hr k1.at_ O) ?_;rintro v H2 ⟨s2,y2,z2,k2,g2,rfl,p2⟩;refine Y ?_;refine Za (vs:=[.slice (some ⟨r,0,none⟩) n cap,vi x1,vi y2,pt r2,cv]) rfl (Ly hE (hC.of (rI (k1.trans k2))) hS (k2.u2 (k1.u2 hA hr) hr) hn O O hr k2.at_ O) ?_;rintro v H3 ⟨s3,x3,y3,k3,g3,rfl,p3⟩;refine Y ?_;exact⟨s3,y3,(k1.trans k2).trans k3,O,rfl,O⟩
theorem Kw(hE:Yx E)(hC:YN P E H0 r cv S)(hk:∀b x,b≠r->H0 b=some x->H b=some x)(WN:H0 r2=none)(hS:∀k,k<l.length->S (el l k))(hA:H r=some (.cells (iQ E l++rest).toArray 122 (0,0),true))(hn:l.length=n)(h0:1<=x)(hx:x+1<n)(hl:n<=1000000)(hr:r≠r2)(h2:H r2=some (.cells #[vi s] 3 (0,0),true))(HO:s<=900) :
  LL.Zc P 255 #[.slice (some ⟨r,0,none⟩) n cap,vi x,pt r2,cv] H λv H'=>∃s' q:Nat,nY H H' r2 s'/\s'<=s+3/\v=vi q/\(q+1=x\/q=x\/q=x+1):=by
 have rI:∀{H':Hp} {s:Nat},nY H H' r2 s->∀b x,b≠r->H0 b=some x->H' b=some x:=λk b x hb h=>k.keep b x (by rintro rfl;rw[WN]at h;simp at h) (hk b x hb h);refine aO.m (cF ZwJ) (args:=[.slice (some ⟨r,0,none⟩) n cap,vi x,pt r2,cv]) rfl ?_;unfold Zj2;have e1:((x:Int)-1)=((x-1:Nat):Int):=O;have e2:((x:Int)+1)=((x+1:Nat):Int):=O;refine Y ?_;rw[e1,e2];refine Za (vs:=[.slice (some ⟨r,0,none⟩) n cap,vi (x-1:Nat),vi x,vi (x+1:Nat),pt r2,cv]) rfl (ZlJ hE hC hk WN hS hA hn O O hx hr h2 HO) ?_;rintro v H1 ⟨s1,q,k1,g1,rfl,p1⟩;refine Y ?_;exact⟨s1,q,k1,g1,rfl,O⟩
theorem ZvN(hE:Yx E)(hC:YN P E H r cv S)(hS:∀k,k<l.length->S (el l k))(hA:H r=some (.cells (iQ E l++rest).toArray 122 (0,0),true))(hn:l.length=n)(rW:a+12<b)(hb:b<=n)(hl:n<=1000000) :
  LL.Zc P 236 #[.slice (some ⟨r,0,none⟩) n cap,vi a,vi b,cv] H λv H'=>∃q h:Nat,bO H H'/\v=.tuple #[vi q,vi h]/\a<=q/\q<b:=by
 refine aO.m (cF ZwQ) (args:=[.slice (some ⟨r,0,none⟩) n cap,vi a,vi b,cv]) rfl ?_;unfold Zj9;obtain⟨d,rfl⟩:∃d,b=a+d:=⟨b-a,O⟩;have ed:(((a+d:Nat):Int)-(a:Int))=(d:Int):=O;have e4:((d:Int)).tdiv 4=((d / 4:Nat):Int):=by rw[qAV O];omega
 refine Y ?_;rw[ed];refine Vs (eI t3) (OL _) λr2 j0=>?_;have EH:H r2=none:=j0;have hr:r≠r2:=by rintro rfl;rw[hA]at j0;simp at j0
 have ET:(H.ins r2 (.cells (vi 0).cells 3)) r=some (.cells (iQ E l++rest).toArray 122 (0,0),true):=by rw[Hp.aE _ _ hr];exact hA
 have k0:nY H (H.ins r2 (.cells (vi 0).cells 3)) r2 0:=⟨λb z hb hz=>by rw[Hp.aE _ _ hb];exact hz,Hp.aF _ _ _⟩;generalize H.ins r2 (.cells (vi 0).cells 3)=H1 at *;have s9:∀H' s,nY H1 H' r2 s->bO H H':=λH' s k b z hz=>by
  have hb:b≠r2:=by rintro rfl;rw[hz]at j0;simp at j0
  exact k.keep b z hb (k0.keep b z hb hz)
 have rI:∀{H':Hp} {s:Nat},nY H1 H' r2 s->∀b x,b≠r->H b=some x->H' b=some x:=λk b x _ h=>s9 _ _ k b x h;refine Y ?_;refine VC rfl rfl (by decide) (by rw[e4];exact⟨O,O⟩) ?_;rw[e4];generalize hm:d / 4=m at *;refine Y ?_;refine V8 rfl rfl ⟨O,O⟩ (Y ?_);refine VC rfl rfl (by decide) (by rw[e4];exact⟨O,O⟩) ?_;rw[e4];refine Y ?_;refine V8 rfl rfl ⟨O,O⟩ (Y ?_);refine VC rfl rfl (by decide) (by rw[e4];exact⟨O,O⟩) ?_;rw[e4];refine Y ?_;refine V8 rfl rfl ⟨O,O⟩ ?_;refine OB ?_;refine Z4 (λ(x:Nat×Nat) H'=>nY H1 H' r2 x.1/\a<=x.2/\x.2<a+d) (λx=>[(11,pt r2),(13,vi (x.2:Nat))]) (λ_=>[]) ?_ ?_
 ·refine OB ?_;refine OI (λg1=>?_) (λg1=>?_)
  ·refine OB ?_;refine Z4 (λ(x:Nat×Nat×Nat×Nat) H'=>nY H1 H' r2 x.1/\x.1<=9/\x.2.1<a+d/\a<=x.2.1/\x.2.2.1<a+d/\a<=x.2.2.1/\x.2.2.2<a+d/\a<=x.2.2.2) (λx=>[(0,.slice (some ⟨r,0,none⟩) n cap),(3,cv),(11,pt r2),(12,vi (x.2.1:Nat)),(13,vi (x.2.2.1:Nat)),(14,vi (x.2.2.2:Nat))]) (λ_=>[]) ?_ ?_
   ·have h1:((a:Int)+(m:Int) * 1)=((a+m:Nat):Int):=O;have h2:((a:Int)+(m:Int) * 2)=((a+m * 2:Nat):Int):=O;have h3:((a:Int)+(m:Int) * 3)=((a+m * 3:Nat):Int):=O;rw[h1,h2,h3];refine Y ?_;refine OI (λg2=>?_) (λg2=>?_)
    ·refine Y ?_;refine Za (vs:=[.slice (some ⟨r,0,none⟩) n cap,vi (a+m:Nat),pt r2,cv]) rfl (Kw (s:=0) hE hC (rI ⟨λ_ _ _ h=>h,k0.at_⟩) EH hS ET hn O O hl hr k0.at_ O) ?_;rintro v H2 ⟨s2,q2,k2,w2,rfl,p2⟩;refine Y ?_;refine Za (vs:=[.slice (some ⟨r,0,none⟩) n cap,vi (a+m * 2:Nat),pt r2,cv]) rfl (Kw hE hC (rI k2) EH hS (k2.u2 ET hr) hn O O hl hr k2.at_ O) ?_;rintro v H3 ⟨s3,q3,k3,w3,rfl,p3⟩;refine Y ?_;refine Za (vs:=[.slice (some ⟨r,0,none⟩) n cap,vi (a+m * 3:Nat),pt r2,cv]) rfl (Kw hE hC (rI (k2.trans k3)) EH hS (k3.u2 (k2.u2 ET hr) hr) hn O O hl hr k3.at_ O) ?_;rintro v H4 ⟨s4,q4,k4,w4,rfl,p4⟩;refine Y ?_;exact⟨(s4,q2,q3,q4),⟨(k2.trans k3).trans k4,by show s4<=9;omega,by show q2<a+d;omega,by show a<=q2;omega,by show q3<a+d;omega,by show a<=q3;omega,by show q4<a+d;omega,by show a<=q4;omega⟩,V,trivial,rfl⟩
    refine Y ?_;exact⟨(0,a+m,a+m * 2,a+m * 3),⟨⟨λ_ _ _ h=>h,k0.at_⟩,by show 0<=9;omega,by show a+m<a+d;omega,by show a<=a+m;omega,by show a+m * 2<a+d;omega,by show a<=a+m * 2;omega,by show a+m * 3<a+d;omega,by show a<=a+m * 3;omega⟩,V,trivial,rfl⟩
   rintro⟨s5,i5,j5,k5⟩ H5 ⟨c5,b5,b6,b7,b8,b9,Kf,Ke⟩;simp only at c5 b5 b6 b7 b8 b9 Kf Ke;refine Y ?_;refine Za (vs:=[.slice (some ⟨r,0,none⟩) n cap,vi i5,vi j5,vi k5,pt r2,cv]) rfl (ZlJ hE hC (rI c5) EH hS (c5.u2 ET hr) hn O O O hr c5.at_ O) ?_;rintro v H6 ⟨s6,q6,k6,w6,rfl,p6⟩;refine Y ?_;exact⟨(s6,q6),⟨c5.trans k6,by show a<=q6;omega,by show q6<a+d;omega⟩,V,trivial,rfl⟩
  exact absurd g1 O
 rintro⟨s7,q7⟩ H7 ⟨c7,b7,b8⟩;simp only at c7 b7 b8;refine Y ?_;refine Zg (OL _) rfl (ZC (cs:=[vi s7]) c7.at_) (Y ?_);refine OI (λg3=>?_) (λg3=>?_)
 ·refine Y ?_;exact⟨q7,1,s9 _ _ c7,rfl,b7,b8⟩
 refine Y ?_;refine OI (λg4=>?_) (λg4=>?_)
 ·refine Y ?_;exact⟨q7,2,s9 _ _ c7,rfl,b7,b8⟩
 refine Y ?_;exact⟨q7,0,s9 _ _ c7,rfl,b7,b8⟩
end
theorem ZhY{G:Prop} (h:G:=by refine Y ?_;exact⟨(⟨t0+1,O⟩,(c3,i)),dX O,⟨iI,D2,by show a+1<=i;omega,by show i<=b;omega,M2⟩,V,trivial,rfl⟩):G:=h
section
variable{P:bF}[Tz P][Loud P]{H:Hp}
theorem Zp1(hE:Yx E)(hC:YN P E H r cv S)(hS:∀k,k<l.length->S (el l k))(hA:H r=some (.cells (iQ E l++rest).toArray 122 (0,0),true))(hn:l.length=n)(rW:a<b)(hb:b<=n)(hl:n<=1000000) :
  LL.Zc P 237 #[.slice (some ⟨r,0,none⟩) n cap,vi a,vi b,cv] H λv H'=>∃l',AT E H H' r l' rest/\Rg a b l l':=by
 refine aO.m (cF ZwP) (args:=[.slice (some ⟨r,0,none⟩) n cap,vi a,vi b,cv]) rfl ?_;unfold Zj8;refine Y ?_;refine ZQ (α:=List Int) b (λt c H'=>AT E H H' r c rest/\Rg a b l c) (λt c=>[(0,.slice (some ⟨r,0,none⟩) n cap),(8,vi ((a+t:Nat):Int)),(9,vi ((b:Int)-1-(t:Nat)))]) (λ_ _=>[]) l ⟨AT.of hA,.refl l⟩ ⟨rfl,rfl,?_,trivial⟩ trivial ?_
 ·show some (vi _)=some (vi _);congr 2;omega
 rintro t c H1 ht ⟨ar,rg⟩;have bU:=rg.len;refine Y ?_;refine OI (λg1=>?_) (λg1=>?_)
 ·obtain⟨j,hj⟩:∃j:Nat,(b:Int)-1-(t:Nat)=(j:Int):=⟨b-1-t,O⟩;rw[hj];have nU:a+t<j:=O;have IP:j<b:=O;refine Y ?_;refine Zd j rfl rfl O O (Y ?_);refine Zl (Loud.aL _) rfl (AT.cA hE ar O rfl) (Yx.len hE _) (Y ?_);refine Zd (a+t) rfl rfl O O (Y ?_);refine Zl (Loud.aL _) rfl (AT.cA hE ar O rfl) (Yx.len hE _) (Y ?_);refine Zd (a+t) rfl rfl O O (Y ?_);refine Z3 hE ar O rfl rfl rfl λHW fQ=>?_;refine Zq Loud.aL (Y ?_);refine Zd j rfl rfl O O (Y ?_);refine Z3 hE fQ (by rw[IF];omega) rfl rfl rfl λH4 dV=>Y ?_;refine⟨(⟨t+1,O⟩,cY c (a+t) j),dX O,⟨dV,.step _ _ rg O O O IP⟩,⟨rfl,rfl,?_,trivial⟩,trivial,rfl⟩;show some (vi ((j:Int)-1))=some (vi ((b:Int)-1-((t+1:Nat):Int)));congr 2;omega
 refine Y ?_;exact⟨c,ar,rg⟩
theorem ZsT(hE:Yx E)(hC:YN P E H r cv S)(hS:∀k,k<l.length->S (el l k))(hA:H r=some (.cells (iQ E l++rest).toArray 122 (0,0),true))(hn:l.length=n)(rW:a<b)(hb:b<=n)(hl:n<=1000000)(lw:DD a b l) :
  LL.Zc P 238 #[.slice (some ⟨r,0,none⟩) n cap,vi a,vi b,cv] H λv H'=>∃(l':List Int) (t:Bool),AT E H H' r l' rest/\Rg a b l l'/\v=vb t/\(t=true->So a b l'):=by
 refine aO.m (cF ZwO) (args:=[.slice (some ⟨r,0,none⟩) n cap,vi a,vi b,cv]) rfl ?_;unfold Zj7;refine Y ?_;refine ZQ (α:=List Int×Nat) 5 (λt s H'=>AT E H H' r s.1 rest/\Rg a b l s.1/\a+1<=s.2/\s.2<=b/\So a s.2 s.1) (λt s=>[(0,.slice (some ⟨r,0,none⟩) n cap),(1,vi a),(2,vi b),(3,cv),(9,vi (s.2:Nat)),(10,vi (t:Nat))]) (λ_ _=>[]) (l,a+1) ⟨AT.of hA,.refl l,aC _,by show a+1<=b;omega,Um l (aC _)⟩ V trivial ?_;rintro t0 ⟨c,i0⟩ H1 AS ⟨ar,rg,oH,pU,so⟩;simp only at ar rg oH pU so;have bU:=rg.len;refine Y ?_;refine OI (λg1=>?_) (λg1=>?_)
 ·refine OB ?_;refine Yb ?_;refine OB ?_;refine Z4 (λ(i:Nat) H'=>H1=H'/\i0<=i/\i<=b/\So a i c/\(i=b\/el c i<el c (i-1))) (λi=>[(0,.slice (some ⟨r,0,none⟩) n cap),(1,vi a),(2,vi b),(3,cv),(9,vi (i:Nat)),(10,vi (t0:Nat))]) (λ_=>[]) ?_ ?_
  ·refine Y ?_;refine Zw (b-i0) (λt H'=>H1=H'/\So a (i0+t) c) (λt=>[(0,.slice (some ⟨r,0,none⟩) n cap),(1,vi a),(2,vi b),(3,cv),(9,vi (i0+t:Nat)),(10,vi (t0:Nat))]) (λ_=>[]) ⟨rfl,so⟩ V trivial ?_;rintro t _ ht ⟨rfl,GY⟩;refine Y ?_;refine OI (λz1=>?_) (λz1=>?_)
   ·refine Y ?_;refine Zd (i0+t) rfl rfl O O (Y ?_);refine Zl (Loud.aL _) rfl (AT.cA hE ar O rfl) (Yx.len hE _) (Y ?_);refine Zd (i0+t-1) rfl rfl O O (Y ?_);refine Zl (Loud.aL _) rfl (AT.cA hE ar O rfl) (Yx.len hE _) (Y ?_);refine ZN rfl rfl (hC _ (AT.keep ar) _ _ (ZI rg O hS O) (ZI rg O hS O)) ?_;intro vW KW hW;obtain⟨eA,eB⟩:=hW;subst eA eB;refine Y ?_;refine OI (λz2=>?_) (λz2=>?_);all_goals rw[Vv]at z2
    ·refine Y ?_;refine⟨⟨t+1,O⟩,dX O,⟨rfl,?_⟩,V,trivial,rfl⟩;refine V5 λx x1 x2=>?_;have x2:x+1<i0+(t+1):=x2;by_cases e:x+1=i0+t
     ·rw[e,show x=i0+t-1 by omega];omega
     exact GY x (x+1) x1 O O
    refine Y ?_;exact⟨i0+t,⟨rfl,O,O,GY,.inr O⟩,V,trivial,rfl⟩
   refine Y ?_;exact⟨i0+t,⟨rfl,O,O,GY,.inl O⟩,V,trivial,rfl⟩
  rintro i _ ⟨rfl,T9,tR,M1,st⟩;refine OB ?_;refine Yb ?_;refine OB ?_;refine OI (λg2=>?_) (λg2=>?_)
  ·have:i=b:=O;subst this;refine Y ?_;exact⟨c,true,ar,rg,rfl,λ_=>M1⟩
  have hib:i<b:=O;refine OB ?_;refine Yb ?_;refine OB ?_;refine OI (λg3=>?_) (λg3=>?_)
  ·refine Y ?_;exact⟨c,false,ar,rg,rfl,λh=>by simp at h⟩
  refine OB ?_;refine Zd (i-1) rfl rfl O O (Y ?_);refine Zl (Loud.aL _) rfl (AT.cA hE ar O rfl) (Yx.len hE _) (Y ?_);refine Zd i rfl rfl O O (Y ?_);refine Zl (Loud.aL _) rfl (AT.cA hE ar O rfl) (Yx.len hE _) (Y ?_);refine Zd i rfl rfl O O (Y ?_);refine Z3 hE ar O rfl rfl rfl λHW fQ=>?_;refine Zq Loud.aL (Y ?_);refine Zd (i-1) rfl rfl O O (Y ?_);refine Z3 hE fQ (by rw[IF];omega) rfl rfl rfl λH4 dV=>?_;have lA:(c.set i (el c (i-1))).set (i-1) (el c i)=cY c i (i-1):=rfl;rw[lA]at dV;have nQ:Rg a b l (cY c i (i-1)):=.step _ _ rg O O O O;have QY:∀x,x<i-1->el (cY c i (i-1)) x=el c x:=λx hx=>by rw[Yi _ O O,bY O,bY O]
  generalize cY c i (i-1)=c1 at *;have EN:=nQ.len;refine OB ?_;refine Z4 (λ(c2:List Int) H'=>AT E H H' r c2 rest/\Rg a b l c2/\So a i c2) (λ_=>[(0,.slice (some ⟨r,0,none⟩) n cap),(1,vi a),(2,vi b),(3,cv),(9,vi (i:Nat)),(10,vi (t0:Nat))]) (λ_=>[]) ?_ ?_
  ·refine OB ?_;refine OI (λg4=>?_) (λg4=>?_)
   ·have g4:a+2<=i:=O;refine Y ?_;refine ZQ (α:=List Int) (i-1) (λt c2 H'=>AT E H H' r c2 rest/\Rg a b l c2/\a<=i-1-t/\(∀x y,a<=x->x<=y->y<i->x≠i-1-t->y≠i-1-t->el c2 x<=el c2 y)/\(∀y,i-1-t<y->y<i->el c2 (i-1-t)<=el c2 y)) (λt _=>[(0,.slice (some ⟨r,0,none⟩) n cap),(1,vi a),(2,vi b),(3,cv),(9,vi (i:Nat)),(10,vi (t0:Nat)),(11,vi (i-1-t:Nat))]) (λ_ _=>[]) c1 ⟨dV,nQ,O,?_,λy y1 y2=>O⟩ ⟨rfl,rfl,rfl,rfl,rfl,rfl,?_,trivial⟩ trivial ?_
    ·intro x y x1 x2 x3 x4 x5;rw[QY x O,QY y O];exact M1 x y x1 x2 O
    ·show some (vi ((i:Int)-1))=some (vi ((i-1-0:Nat):Int));congr 2;omega
    rintro t c2 H5 ht ⟨jT,nP,Hw,r8,HB⟩;have QG:=nP.len;have Ey:=lw.rg nP O;obtain⟨j,hj⟩:∃j,i-1-t=j:=⟨_,rfl⟩;rw[hj]at Hw r8 HB ⊢;have gL:(a<j->el c2 (j-1)<=el c2 j)->So a i c2:=λhh=>V5 λx x1 x2=>by
     by_cases e1:x=j
     ·subst e1;exact HB _ O O
     by_cases e2:x+1=j
     ·subst e2;exact hh O
     exact r8 _ _ x1 O O e1 e2
    refine Y ?_;refine OI (λz1=>?_) (λz1=>?_)
    ·refine Y ?_;refine Zd j rfl rfl O O (Y ?_);refine Zl (Loud.aL _) rfl (AT.cA hE jT O rfl) (Yx.len hE _) (Y ?_);refine Zd (j-1) rfl rfl O O (Y ?_);refine Zl (Loud.aL _) rfl (AT.cA hE jT O rfl) (Yx.len hE _) (Y ?_);refine ZN rfl rfl (hC _ (AT.keep jT) _ _ (ZI nP O hS O) (ZI nP O hS O)) ?_;intro vW KW hW;obtain⟨eA,eB⟩:=hW;subst eA eB;refine Y ?_;refine OI (λz2=>?_) (λz2=>?_);all_goals rw[Vv]at z2
     ·refine Y ?_;exact⟨c2,⟨jT,nP,gL λ_=>O⟩,V,trivial,rfl⟩
     have haj:a<j:=by
      refine oR λhh=>?_;have IQ:j=a:=O;rcases Ey with h | h
      ·omega
      have:=h j O O;rw[<-IQ]at this;omega
     refine Y ?_;refine Zd (j-1) rfl rfl O O (Y ?_);refine Zl (Loud.aL _) rfl (AT.cA hE jT O rfl) (Yx.len hE _) (Y ?_);refine Zd j rfl rfl O O (Y ?_);refine Zl (Loud.aL _) rfl (AT.cA hE jT O rfl) (Yx.len hE _) (Y ?_);refine Zd j rfl rfl O O (Y ?_);refine Z3 hE jT O rfl rfl rfl λHW fQ=>?_;refine Zq Loud.aL (Y ?_);refine Zd (j-1) rfl rfl O O (Y ?_);refine Z3 hE fQ (by rw[IF];omega) rfl rfl rfl λH6 iI=>Y ?_;have jD:∀x,x≠j-1->el (cY c2 j (j-1)) x=if x=j then el c2 (j-1)else el c2 x:=λx hx=>by rw[Yi _ O O,bY hx]
     have rJ:el (cY c2 j (j-1)) (j-1)=el c2 j:=by rw[Yi _ O O,iO rfl]
     have rU:i-1-(t+1)=j-1:=O;refine⟨(⟨t+1,O⟩,cY c2 j (j-1)),(by show i-1-(t+1)<j;omega),⟨iI,.step _ _ nP O O O O,?_,?_,?_⟩,⟨rfl,rfl,rfl,rfl,rfl,rfl,?_,trivial⟩,trivial,rfl⟩
     ·show a<=i-1-(t+1);omega
     ·show ∀x y,a<=x->x<=y->y<i->x≠i-1-(t+1)->y≠i-1-(t+1)->_;intro x y h1 h2 h3 h4 h5;rw[rU]at h4 h5;rw[jD x h4,jD y h5];by_cases hx:x=j
      ·rw[iO hx];by_cases hy:y=j
       ·rw[iO hy];exact qAy _
       rw[bY hy];exact r8 _ _ O O h3 O hy
      rw[bY hx];by_cases hy:y=j
      ·rw[iO hy];exact r8 _ _ h1 O O hx O
      rw[bY hy];exact r8 _ _ h1 h2 h3 hx hy
     ·show ∀y,i-1-(t+1)<y->y<i->el (cY c2 j (j-1)) (i-1-(t+1))<=_;intro y h1 h2;rw[rU]at h1 ⊢;rw[rJ,jD y O];by_cases hy:y=j
      ·rw[iO hy];omega
      rw[bY hy];exact HB _ O h2
     show some (vi ((j:Int)-1))=some (vi ((i-1-(t+1):Nat):Int));congr 2;omega
    refine Y ?_;exact⟨c2,⟨jT,nP,gL λh=>O⟩,V,trivial,rfl⟩
   refine Y ?_;exact⟨c1,⟨dV,nQ,Um _ O⟩,V,trivial,rfl⟩
  rintro c2 H5 ⟨jT,nP,r8⟩;have QG:=nP.len;refine OB ?_;refine OI (λg5=>?_) (λg5=>?_)
  ·refine Y ?_;refine ZQ (α:=List Int) b (λt c3 H'=>AT E H H' r c3 rest/\Rg a b l c3/\So a i c3) (λt _=>[(0,.slice (some ⟨r,0,none⟩) n cap),(1,vi a),(2,vi b),(3,cv),(9,vi (i:Nat)),(10,vi (t0:Nat)),(12,vi (i+1+t:Nat))]) (λ_ _=>[]) c2 ⟨jT,nP,r8⟩ V trivial ?_;rintro t c3 H6 ht ⟨iI,D2,M2⟩;have Iy:=D2.len;refine Y ?_;refine OI (λz1=>?_) (λz1=>?_)
   ·refine Y ?_;refine Zd (i+1+t) rfl rfl O O (Y ?_);refine Zl (Loud.aL _) rfl (AT.cA hE iI O rfl) (Yx.len hE _) (Y ?_);refine Zd (i+t) rfl rfl O O (Y ?_);refine Zl (Loud.aL _) rfl (AT.cA hE iI O rfl) (Yx.len hE _) (Y ?_);refine ZN rfl rfl (hC _ (AT.keep iI) _ _ (ZI D2 O hS O) (ZI D2 O hS O)) ?_;intro vW KW hW;obtain⟨eA,eB⟩:=hW;subst eA eB;refine Y ?_;refine OI (λz2=>?_) (λz2=>?_);all_goals rw[Vv]at z2
    ·exact ZhY
    refine Y ?_;refine Zd (i+t) rfl rfl O O (Y ?_);refine Zl (Loud.aL _) rfl (AT.cA hE iI O rfl) (Yx.len hE _) (Y ?_);refine Zd (i+1+t) rfl rfl O O (Y ?_);refine Zl (Loud.aL _) rfl (AT.cA hE iI O rfl) (Yx.len hE _) (Y ?_);refine Zd (i+1+t) rfl rfl O O (Y ?_);refine Z3 hE iI O rfl rfl rfl λHW fQ=>?_;refine Zq Loud.aL (Y ?_);refine Zd (i+t) rfl rfl O O (Y ?_);refine Z3 hE fQ (by rw[IF];omega) rfl rfl rfl λH8 oK=>Y ?_;refine⟨(⟨t+1,O⟩,cY c3 (i+1+t) (i+t)),dX O,⟨oK,.step _ _ D2 O O O O,?_⟩,V,trivial,rfl⟩;intro x y x1 x2 x3;rw[Yi _ O O,Yi _ O O,bY O,bY O,bY O,bY O];exact M2 x y x1 x2 x3
   exact ZhY
  refine Y ?_;exact⟨(⟨t0+1,O⟩,(c2,i)),dX O,⟨jT,nP,by show a+1<=i;omega,by show i<=b;omega,r8⟩,V,trivial,rfl⟩
 refine Y ?_;exact⟨c,false,ar,rg,rfl,λh=>by simp at h⟩
end
