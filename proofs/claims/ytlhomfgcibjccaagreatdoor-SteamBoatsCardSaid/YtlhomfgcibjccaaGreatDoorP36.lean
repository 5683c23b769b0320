import Derived.Test.YtlhomfgcibjccaaGreatDoorP22
import Derived.Test.YtlhomfgcibjccaaGreatDoorP23
import Derived.Test.YtlhomfgcibjccaaGreatDoorP35
set_option linter.all false
set_option maxHeartbeats 8000000
set_option maxRecDepth 20000
open Go Go.LL
namespace Go.Proofs
variable{r cap a b p n r2 s x y:Nat}{l:List Int}{rest:List Value}{E:Int->List Value}{cv:Value}{S:Int->Prop}{H0:Hp}
section
variable{P:aX}[Tz P][Loud P]{H:Hp}
def ZsA(d:Yx E)(hC:YO P E H r cv S)(W:∀k,k<l.length->S (el l k))(hA:H r=some (.cells (iS E l++rest).toArray 122 (0,0),true))(hn:l.length=n)(FN:a<=p)(Et:p<b)(hb:b<=n)(hl:n<=1000000) :
  LL.Zc P 240 #[.slice (some ⟨r,0,none⟩) n cap,vi a,vi b,vi p,cv] H λv A=>∃l' q t,AT E H A r l' rest/\Rg a b l l'/\Nl a b l' q/\v=.tuple #[vi (q:Nat),vb t]:=by
 refine aJ.m (bG Zww) (args:=[.slice (some ⟨r,0,none⟩) n cap,vi a,vi b,vi p,cv]) rfl ?_;unfold ZjT;have Z:=AT.of hA;refine Y ?_;refine Zd p rfl rfl O O (Y ?_);refine Zn (Loud.aV _) rfl (AT.cA d Z O rfl) (Yx.len d _) (Y ?_);refine Zd a rfl rfl O O (Y ?_);refine Zn (Loud.aV _) rfl (AT.cA d Z O rfl) (Yx.len d _) (Y ?_);refine Zd a rfl rfl O O (Y ?_);refine Z1 d Z O rfl rfl rfl λHW B=>?_;refine Zp Loud.aV (Y ?_);refine Zd p rfl rfl O O (Y ?_);refine Z1 d B (by rw[qAg];omega) rfl rfl rfl λH1 g=>?_;refine OB ?_;have pB:(l.set a (el l p)).set p (el l a)=dS l a p:=rfl;rw[pB]at g;have J:Rg a b l (dS l a p):=.step _ _ (.refl l) O O O O;have ev:el (dS l a p) a=el l p:=by
  rw[Yh _ O O];by_cases e:a=p
  ·rw[iF e,e]
  rw[aT e,iF rfl]
 have Da:oD a b (a+1) (b-1) (el l p) (dS l a p):=⟨ev,λk h1 h2=>O,λk h1 h2=>O,O,O,O⟩;generalize dS l a p=c1 at *;have HS:((b:Int)-1)=((b-1:Nat):Int):=O;rw[HS];generalize el l p=v at *;have NX:=J.len;refine OB ?_;refine Z2 (λ(i:Nat) A=>H1=A/\oD a b i (b-1) v c1/\((b-1)<i\/v<=el c1 i)/\(a+1)<=i) (λi=>[(0,.slice (some ⟨r,0,none⟩) n cap),(1,vi a),(4,cv),(12,vi ((i:Nat):Int)),(13,vi (((b-1):Nat):Int))]) (λ_=>[]) ?_ ?_
 ·refine Y ?_;refine Zv ((b-1)+1-(a+1)) (λt A=>H1=A/\oD a b ((a+1)+t) (b-1) v c1) (λt=>[(0,.slice (some ⟨r,0,none⟩) n cap),(1,vi a),(4,cv),(12,vi (((a+1)+t:Nat):Int)),(13,vi (((b-1):Nat):Int))]) (λ_=>[]) ⟨rfl,Da⟩ V trivial ?_;rintro t _ ht ⟨rfl,c⟩;have q1:=c.ai;have q2:=c.ij;have q3:=c.jb;have Q:=c.eq;refine OJ (λz1=>?_) (λz1=>?_)
  ·refine Y ?_;refine Zd ((a+1)+t) rfl rfl O O (Y ?_);refine Zn (Loud.aV _) rfl (AT.cA d g O rfl) (Yx.len d _) (Y ?_);refine Zd a rfl rfl O O (Y ?_);refine Zn (Loud.aV _) rfl (AT.cA d g O rfl) (Yx.len d _) (Y ?_);refine ZM rfl rfl (hC _ (AT.keep g) _ _ (ZH J O W O) (ZH J O W O)) ?_;intro vW KW hW;obtain⟨eA,eB⟩:=hW;subst eA eB;refine OJ (λF=>?_) (λF=>?_);all_goals rw[Vw]at F
   all_goals rw[Q]at F
   ·refine Y ?_;refine⟨⟨t+1,O⟩,bN O,⟨rfl,Q,λk k1 U=>?_,c.hi,?_,?_,c.jb⟩,V,trivial,rfl⟩
    ·have U:k<(a+1)+(t+1):=U;by_cases e:k=(a+1)+t
     ·subst e;exact F
     exact c.lo k k1 O
    ·show a+1<=(a+1)+(t+1);omega
    show(a+1)+(t+1)<=(b-1)+1;omega
   refine Y ?_;exact⟨(a+1)+t,⟨rfl,c,.inr O,O⟩,V,trivial,rfl⟩
  refine Y ?_;exact⟨(a+1)+t,⟨rfl,c,.inl O,O⟩,V,trivial,rfl⟩
 rintro f _ ⟨rfl,GK,J2,gi2⟩;refine OB ?_;refine Z2 (λ(j:Nat) A=>H1=A/\oD a b f j v c1/\(j<f\/el c1 j<v)/\(f<=j->v<=el c1 f)/\j<=(b-1)) (λj=>[(0,.slice (some ⟨r,0,none⟩) n cap),(1,vi a),(4,cv),(12,vi ((f:Nat):Int)),(13,vi ((j:Nat):Int))]) (λ_=>[]) ?_ ?_
 ·refine Y ?_;refine Zv ((b-1)+1-f) (λt A=>H1=A/\oD a b f ((b-1)-t) v c1) (λt=>[(0,.slice (some ⟨r,0,none⟩) n cap),(1,vi a),(4,cv),(12,vi ((f:Nat):Int)),(13,vi (((b-1)-t:Nat):Int))]) (λ_=>[]) ⟨rfl,GK⟩ V trivial ?_;rintro t _ ht ⟨rfl,c⟩;have q1:=c.ai;have q2:=c.ij;have q3:=c.jb;have Q:=c.eq;have q5:=GK.ij;have q6:=GK.jb;obtain⟨I,BN⟩:∃I,(b-1)-t=I:=⟨_,rfl⟩;rw[BN]at c q2 q3 ⊢;refine OJ (λz1=>?_) (λz1=>?_)
  ·refine Y ?_;refine Zd I rfl rfl O O (Y ?_);refine Zn (Loud.aV _) rfl (AT.cA d g O rfl) (Yx.len d _) (Y ?_);refine Zd a rfl rfl O O (Y ?_);refine Zn (Loud.aV _) rfl (AT.cA d g O rfl) (Yx.len d _) (Y ?_);refine ZM rfl rfl (hC _ (AT.keep g) _ _ (ZH J O W O) (ZH J O W O)) ?_;intro vW KW hW;obtain⟨eA,eB⟩:=hW;subst eA eB;refine OJ (λF=>?_) (λF=>?_);all_goals rw[Vw]at F
   all_goals rw[Q]at F
   ·refine Y ?_;refine⟨⟨t+1,O⟩,bN O,⟨rfl,Q,c.lo,λk k1 U=>?_,c.ai,?_,?_⟩,⟨rfl,rfl,rfl,rfl,?_,trivial⟩,trivial,rfl⟩
    ·have k1:(b-1)-(t+1)<k:=k1;by_cases e:k=I
     ·subst e;omega
     exact c.hi k O U
    ·show f<=(b-1)-(t+1)+1;omega
    ·show(b-1)-(t+1)+1<=b;omega
    show some (vi ((I:Int)-1))=some (vi (((b-1)-(t+1):Nat):Int));congr 2;omega
   refine Y ?_;exact⟨I,⟨rfl,c,.inr O,λh=>by have:=J2;omega,O⟩,V,trivial,rfl⟩
  refine Y ?_;exact⟨I,⟨rfl,c,.inl O,λh=>O,O⟩,V,trivial,rfl⟩
 rintro w _ ⟨rfl,M,MH,MF,gj3⟩;have w1:=M.ai;have w2:=M.ij;have w3:=M.jb;refine OB ?_;refine Z9 ?_;refine OJ (λg1=>?_) (λg1=>?_)
 ·refine Y ?_;refine Zd a rfl rfl O O (Y ?_);refine Zn (Loud.aV _) rfl (AT.cA d g O rfl) (Yx.len d _) (Y ?_);refine Zd w rfl rfl O O (Y ?_);refine Zn (Loud.aV _) rfl (AT.cA d g O rfl) (Yx.len d _) (Y ?_);refine Zd w rfl rfl O O (Y ?_);refine Z1 d g O rfl rfl rfl λHW B=>?_;refine Zp Loud.aV (Y ?_);refine Zd a rfl rfl O O (Y ?_);refine Z1 d B (by rw[qAg];omega) rfl rfl rfl λH5 T=>Y ?_;exact⟨dS c1 w a,w,true,T,.step _ _ J O O O O,M.fin O O,rfl⟩
 have D7:f<=w:=O;have pK:f≠w:=λe=>by have h1:=MF D7;rw[e]at h1;rcases MH with h | h<;>omega
 have D:=M.swap D7 (MF D7) (by rcases MH with h | h<;>omega) O;have Cu:Rg a b l (dS c1 f w):=.step _ _ J O O O O;refine OB ?_;refine Zd w rfl rfl O O (Y ?_);refine Zn (Loud.aV _) rfl (AT.cA d g O rfl) (Yx.len d _) (Y ?_);refine Zd f rfl rfl O O (Y ?_);refine Zn (Loud.aV _) rfl (AT.cA d g O rfl) (Yx.len d _) (Y ?_);refine Zd f rfl rfl O O (Y ?_);refine Z1 d g O rfl rfl rfl λHW B=>?_;refine Zp Loud.aV (Y ?_);refine Zd w rfl rfl O O (Y ?_);refine Z1 d B (by rw[qAg];omega) rfl rfl rfl λH5 T=>?_;have pB:(c1.set f (el c1 w)).set w (el c1 f)=dS c1 f w:=rfl;rw[pB]at T;generalize dS c1 f w=c3 at *;have Gz:((w:Int)-1)=((w-1:Nat):Int):=O;refine OB ?_;rw[Gz];refine Z9 ?_;refine OB ?_;refine ZO (α:=List Int×Nat×Nat) (w-1+1-(f+1)) (λt s A=>AT E H A r s.1 rest/\Rg a b l s.1/\oD a b s.2.1 s.2.2 v s.1/\s.2.2+1-s.2.1+t=w-1+1-(f+1)) (λt s=>[(0,.slice (some ⟨r,0,none⟩) n cap),(1,vi a),(4,cv),(12,vi ((s.2.1:Nat):Int)),(13,vi ((s.2.2:Nat):Int))]) (λ_ _=>[]) (c3,f+1,w-1) ⟨T,Cu,D,by show w-1+1-(f+1)+0=_;omega⟩ V trivial ?_;rintro t0 ⟨R,L,G⟩ H7 D4 ⟨o,u,X,hm⟩;clear D;have D:=X;clear X;simp only at o u D hm;have Gh:=u.len;have y1:=D.ai;have y2:=D.ij;have y3:=D.jb;refine OB ?_;refine Z2 (λ(i:Nat) A=>H7=A/\oD a b i G v R/\(G<i\/v<=el R i)/\L<=i) (λi=>[(0,.slice (some ⟨r,0,none⟩) n cap),(1,vi a),(4,cv),(12,vi ((i:Nat):Int)),(13,vi ((G:Nat):Int))]) (λ_=>[]) ?_ ?_
 ·refine Y ?_;refine Zv (G+1-L) (λt A=>H7=A/\oD a b (L+t) G v R) (λt=>[(0,.slice (some ⟨r,0,none⟩) n cap),(1,vi a),(4,cv),(12,vi ((L+t:Nat):Int)),(13,vi ((G:Nat):Int))]) (λ_=>[]) ⟨rfl,D⟩ V trivial ?_;rintro t _ ht ⟨rfl,c⟩;have q1:=c.ai;have q2:=c.ij;have q3:=c.jb;have Q:=c.eq;refine OJ (λz1=>?_) (λz1=>?_)
  ·refine Y ?_;refine Zd (L+t) rfl rfl O O (Y ?_);refine Zn (Loud.aV _) rfl (AT.cA d o O rfl) (Yx.len d _) (Y ?_);refine Zd a rfl rfl O O (Y ?_);refine Zn (Loud.aV _) rfl (AT.cA d o O rfl) (Yx.len d _) (Y ?_);refine ZM rfl rfl (hC _ (AT.keep o) _ _ (ZH u O W O) (ZH u O W O)) ?_;intro vW KW hW;obtain⟨eA,eB⟩:=hW;subst eA eB;refine OJ (λF=>?_) (λF=>?_);all_goals rw[Vw]at F
   all_goals rw[Q]at F
   ·refine Y ?_;refine⟨⟨t+1,O⟩,bN O,⟨rfl,Q,λk k1 U=>?_,c.hi,?_,?_,c.jb⟩,V,trivial,rfl⟩
    ·have U:k<L+(t+1):=U;by_cases e:k=L+t
     ·subst e;exact F
     exact c.lo k k1 O
    ·show a+1<=L+(t+1);omega
    show L+(t+1)<=G+1;omega
   refine Y ?_;exact⟨L+t,⟨rfl,c,.inr O,O⟩,V,trivial,rfl⟩
  refine Y ?_;exact⟨L+t,⟨rfl,c,.inl O,O⟩,V,trivial,rfl⟩
 rintro z _ ⟨rfl,GJ,DQ,Gv⟩;refine OB ?_;refine Z2 (λ(j:Nat) A=>H7=A/\oD a b z j v R/\(j<z\/el R j<v)/\(z<=j->v<=el R z)/\j<=G) (λj=>[(0,.slice (some ⟨r,0,none⟩) n cap),(1,vi a),(4,cv),(12,vi ((z:Nat):Int)),(13,vi ((j:Nat):Int))]) (λ_=>[]) ?_ ?_
 ·refine Y ?_;refine Zv (G+1-z) (λt A=>H7=A/\oD a b z (G-t) v R) (λt=>[(0,.slice (some ⟨r,0,none⟩) n cap),(1,vi a),(4,cv),(12,vi ((z:Nat):Int)),(13,vi ((G-t:Nat):Int))]) (λ_=>[]) ⟨rfl,GJ⟩ V trivial ?_;rintro t _ ht ⟨rfl,c⟩;have q1:=c.ai;have q2:=c.ij;have q3:=c.jb;have Q:=c.eq;have q5:=GJ.ij;have q6:=GJ.jb;obtain⟨I,BN⟩:∃I,G-t=I:=⟨_,rfl⟩;rw[BN]at c q2 q3 ⊢;refine OJ (λz1=>?_) (λz1=>?_)
  ·refine Y ?_;refine Zd I rfl rfl O O (Y ?_);refine Zn (Loud.aV _) rfl (AT.cA d o O rfl) (Yx.len d _) (Y ?_);refine Zd a rfl rfl O O (Y ?_);refine Zn (Loud.aV _) rfl (AT.cA d o O rfl) (Yx.len d _) (Y ?_);refine ZM rfl rfl (hC _ (AT.keep o) _ _ (ZH u O W O) (ZH u O W O)) ?_;intro vW KW hW;obtain⟨eA,eB⟩:=hW;subst eA eB;refine OJ (λF=>?_) (λF=>?_);all_goals rw[Vw]at F
   all_goals rw[Q]at F
   ·refine Y ?_;refine⟨⟨t+1,O⟩,bN O,⟨rfl,Q,c.lo,λk k1 U=>?_,c.ai,?_,?_⟩,⟨rfl,rfl,rfl,rfl,?_,trivial⟩,trivial,rfl⟩
    ·have k1:G-(t+1)<k:=k1;by_cases e:k=I
     ·subst e;omega
     exact c.hi k O U
    ·show z<=G-(t+1)+1;omega
    ·show G-(t+1)+1<=b;omega
    show some (vi ((I:Int)-1))=some (vi ((G-(t+1):Nat):Int));congr 2;omega
   refine Y ?_;exact⟨I,⟨rfl,c,.inr O,λh=>by have:=DQ;omega,O⟩,V,trivial,rfl⟩
  refine Y ?_;exact⟨I,⟨rfl,c,.inl O,λh=>O,O⟩,V,trivial,rfl⟩
 rintro C _ ⟨rfl,N,MG,ME,Gt⟩;have x1:=N.ai;have x2:=N.ij;have x3:=N.jb;refine OB ?_;refine Z9 ?_;refine OJ (λg2=>?_) (λg2=>?_)
 ·refine Y ?_;refine Zd a rfl rfl O O (Y ?_);refine Zn (Loud.aV _) rfl (AT.cA d o O rfl) (Yx.len d _) (Y ?_);refine Zd C rfl rfl O O (Y ?_);refine Zn (Loud.aV _) rfl (AT.cA d o O rfl) (Yx.len d _) (Y ?_);refine Zd C rfl rfl O O (Y ?_);refine Z1 d o O rfl rfl rfl λHW B=>?_;refine Zp Loud.aV (Y ?_);refine Zd a rfl rfl O O (Y ?_);refine Z1 d B (by rw[qAg];omega) rfl rfl rfl λH9 IA=>Y ?_;exact⟨dS R C a,C,false,IA,.step _ _ u O O O O,N.fin O O,rfl⟩
 have K:z<=C:=O;have BL:z≠C:=λe=>by have h1:=ME K;rw[e]at h1;rcases MG with h | h<;>omega
 have GI:=N.swap K (ME K) (by rcases MG with h | h<;>omega) O;have GD:Rg a b l (dS R z C):=.step _ _ u O O O O;refine Y ?_;refine Zd C rfl rfl O O (Y ?_);refine Zn (Loud.aV _) rfl (AT.cA d o O rfl) (Yx.len d _) (Y ?_);refine Zd z rfl rfl O O (Y ?_);refine Zn (Loud.aV _) rfl (AT.cA d o O rfl) (Yx.len d _) (Y ?_);refine Zd z rfl rfl O O (Y ?_);refine Z1 d o O rfl rfl rfl λHW B=>?_;refine Zp Loud.aV (Y ?_);refine Zd C rfl rfl O O (Y ?_);refine Z1 d B (by rw[qAg];omega) rfl rfl rfl λH9 IA=>Y ?_;refine⟨(⟨w-1+1-(f+1)-(C-1+1-(z+1)),O⟩,(dS R z C,z+1,C-1)),?_,⟨IA,GD,GI,?_⟩,⟨rfl,rfl,rfl,rfl,?_,trivial⟩,trivial,rfl⟩
 ·show w-1+1-(f+1)-(w-1+1-(f+1)-(C-1+1-(z+1)))<w-1+1-(f+1)-t0;omega
 ·show C-1+1-(z+1)+(w-1+1-(f+1)-(C-1+1-(z+1)))=w-1+1-(f+1);omega
 show some (vi ((C:Int)-1))=some (vi ((C-1:Nat):Int));congr 2;omega
def ZsE(g:Yx E)(hC:YO P E H r cv S)(X:∀k,k<l.length->S (el l k))(hA:H r=some (.cells (iS E l++rest).toArray 122 (0,0),true))(hn:l.length=n)(FN:a<=p)(Et:p<b)(hb:b<=n)(hl:n<=1000000) :
  LL.Zc P 239 #[.slice (some ⟨r,0,none⟩) n cap,vi a,vi b,vi p,cv] H λv z=>∃l' q,AT E H z r l' rest/\Rg a b l l'/\Nm a b l' q (el l p)/\v=vi (q:Nat):=by
 refine aJ.m (bG Zwx) (args:=[.slice (some ⟨r,0,none⟩) n cap,vi a,vi b,vi p,cv]) rfl ?_;unfold ZjU;have I:=AT.of hA;refine Y ?_;refine Zd p rfl rfl O O (Y ?_);refine Zn (Loud.aV _) rfl (AT.cA g I O rfl) (Yx.len g _) (Y ?_);refine Zd a rfl rfl O O (Y ?_);refine Zn (Loud.aV _) rfl (AT.cA g I O rfl) (Yx.len g _) (Y ?_);refine Zd a rfl rfl O O (Y ?_);refine Z1 g I O rfl rfl rfl λHW J=>?_;refine Zp Loud.aV (Y ?_);refine Zd p rfl rfl O O (Y ?_);refine Z1 g J (by rw[qAg];omega) rfl rfl rfl λH1 M=>?_;refine OB ?_;have pB:(l.set a (el l p)).set p (el l a)=dS l a p:=rfl;rw[pB]at M;have R:Rg a b l (dS l a p):=.step _ _ (.refl l) O O O O;have ev:el (dS l a p) a=el l p:=by
  rw[Yh _ O O];by_cases e:a=p
  ·rw[iF e,e]
  rw[aT e,iF rfl]
 have N:uM a b (a+1) (b-1) (el l p) (dS l a p):=⟨ev,λk h1 h2=>O,λk h1 h2=>O,O,O,O⟩;generalize dS l a p=c1 at *;have HS:((b:Int)-1)=((b-1:Nat):Int):=O;rw[HS];generalize el l p=v at *;have NX:=R.len;refine Z9 ?_;refine OB ?_;refine ZO (α:=List Int×Nat×Nat) (b-1+1-(a+1)) (λt s z=>AT E H z r s.1 rest/\Rg a b l s.1/\uM a b s.2.1 s.2.2 v s.1/\s.2.2+1-s.2.1+t=b-1+1-(a+1)) (λt s=>[(0,.slice (some ⟨r,0,none⟩) n cap),(1,vi a),(4,cv),(11,vi ((s.2.1:Nat):Int)),(12,vi ((s.2.2:Nat):Int))]) (λ_ _=>[]) (c1,a+1,b-1) ⟨M,R,N,by show b-1+1-(a+1)+0=_;omega⟩ V trivial ?_;rintro t0 ⟨F,B,u⟩ W D4 ⟨d,o,C,hm⟩;clear N;simp only at d o C hm;have Gh:=o.len;have y1:=C.ai;have y2:=C.ij;have y3:=C.jb;refine OB ?_;refine Z2 (λ(i:Nat) z=>W=z/\uM a b i u v F/\(u<i\/v<el F i)/\B<=i) (λi=>[(0,.slice (some ⟨r,0,none⟩) n cap),(1,vi a),(4,cv),(11,vi ((i:Nat):Int)),(12,vi ((u:Nat):Int))]) (λ_=>[]) ?_ ?_
 ·refine Y ?_;refine Zv (u+1-B) (λt z=>W=z/\uM a b (B+t) u v F) (λt=>[(0,.slice (some ⟨r,0,none⟩) n cap),(1,vi a),(4,cv),(11,vi ((B+t:Nat):Int)),(12,vi ((u:Nat):Int))]) (λ_=>[]) ⟨rfl,C⟩ V trivial ?_;rintro t _ ht ⟨rfl,c⟩;have q1:=c.ai;have q2:=c.ij;have q3:=c.jb;have Q:=c.eq;refine OJ (λz1=>?_) (λz1=>?_)
  ·refine Y ?_;refine Zd a rfl rfl O O (Y ?_);refine Zn (Loud.aV _) rfl (AT.cA g d O rfl) (Yx.len g _) (Y ?_);refine Zd (B+t) rfl rfl O O (Y ?_);refine Zn (Loud.aV _) rfl (AT.cA g d O rfl) (Yx.len g _) (Y ?_);refine ZM rfl rfl (hC _ (AT.keep d) _ _ (ZH o O X O) (ZH o O X O)) ?_;intro vW KW hW;obtain⟨eA,eB⟩:=hW;subst eA eB;refine OJ (λG=>?_) (λG=>?_);all_goals rw[Vw]at G
   all_goals rw[Q]at G
   ·refine Y ?_;refine⟨⟨t+1,O⟩,bN O,⟨rfl,Q,λk k1 Z=>?_,c.hi,?_,?_,c.jb⟩,V,trivial,rfl⟩
    ·have Z:k<B+(t+1):=Z;by_cases e:k=B+t
     ·subst e;omega
     exact c.lo k k1 O
    ·show a+1<=B+(t+1);omega
    show B+(t+1)<=u+1;omega
   refine Y ?_;exact⟨B+t,⟨rfl,c,.inr O,O⟩,V,trivial,rfl⟩
  refine Y ?_;exact⟨B+t,⟨rfl,c,.inl O,O⟩,V,trivial,rfl⟩
 rintro f _ ⟨rfl,L,DQ,Gv⟩;refine OB ?_;refine Z2 (λ(j:Nat) z=>W=z/\uM a b f j v F/\(j<f\/el F j<=v)/\(f<=j->v<el F f)/\j<=u) (λj=>[(0,.slice (some ⟨r,0,none⟩) n cap),(1,vi a),(4,cv),(11,vi ((f:Nat):Int)),(12,vi ((j:Nat):Int))]) (λ_=>[]) ?_ ?_
 ·refine Y ?_;refine Zv (u+1-f) (λt z=>W=z/\uM a b f (u-t) v F) (λt=>[(0,.slice (some ⟨r,0,none⟩) n cap),(1,vi a),(4,cv),(11,vi ((f:Nat):Int)),(12,vi ((u-t:Nat):Int))]) (λ_=>[]) ⟨rfl,L⟩ V trivial ?_;rintro t _ ht ⟨rfl,c⟩;have q1:=c.ai;have q2:=c.ij;have q3:=c.jb;have Q:=c.eq;have q5:=L.ij;have q6:=L.jb;obtain⟨K,BN⟩:∃K,u-t=K:=⟨_,rfl⟩;rw[BN]at c q2 q3 ⊢;refine OJ (λz1=>?_) (λz1=>?_)
  ·refine Y ?_;refine Zd a rfl rfl O O (Y ?_);refine Zn (Loud.aV _) rfl (AT.cA g d O rfl) (Yx.len g _) (Y ?_);refine Zd K rfl rfl O O (Y ?_);refine Zn (Loud.aV _) rfl (AT.cA g d O rfl) (Yx.len g _) (Y ?_);refine ZM rfl rfl (hC _ (AT.keep d) _ _ (ZH o O X O) (ZH o O X O)) ?_;intro vW KW hW;obtain⟨eA,eB⟩:=hW;subst eA eB;refine OJ (λG=>?_) (λG=>?_);all_goals rw[Vw]at G
   all_goals rw[Q]at G
   ·refine Y ?_;refine⟨⟨t+1,O⟩,bN O,⟨rfl,Q,c.lo,λk k1 Z=>?_,c.ai,?_,?_⟩,⟨rfl,rfl,rfl,rfl,?_,trivial⟩,trivial,rfl⟩
    ·have k1:u-(t+1)<k:=k1;by_cases e:k=K
     ·subst e;exact G
     exact c.hi k O Z
    ·show f<=u-(t+1)+1;omega
    ·show u-(t+1)+1<=b;omega
    show some (vi ((K:Int)-1))=some (vi ((u-(t+1):Nat):Int));congr 2;omega
   refine Y ?_;exact⟨K,⟨rfl,c,.inr O,λh=>by have:=DQ;omega,O⟩,V,trivial,rfl⟩
  refine Y ?_;exact⟨K,⟨rfl,c,.inl O,λh=>O,O⟩,V,trivial,rfl⟩
 rintro w _ ⟨rfl,D,T,U,Gt⟩;have x1:=D.ai;have x2:=D.ij;have x3:=D.jb;refine OB ?_;refine Z9 ?_;refine OJ (λg2=>?_) (λg2=>?_)
 ·refine Y ?_;exact⟨F,f,d,o,D.fin O,rfl⟩
 have A:f<=w:=O;have BL:f≠w:=λe=>by have h1:=U A;rw[e]at h1;rcases T with h | h<;>omega
 have GI:=D.swap A (U A) (by rcases T with h | h<;>omega) O;have GD:Rg a b l (dS F f w):=.step _ _ o O O O O;refine Y ?_;refine Zd w rfl rfl O O (Y ?_);refine Zn (Loud.aV _) rfl (AT.cA g d O rfl) (Yx.len g _) (Y ?_);refine Zd f rfl rfl O O (Y ?_);refine Zn (Loud.aV _) rfl (AT.cA g d O rfl) (Yx.len g _) (Y ?_);refine Zd f rfl rfl O O (Y ?_);refine Z1 g d O rfl rfl rfl λHW J=>?_;refine Zp Loud.aV (Y ?_);refine Zd w rfl rfl O O (Y ?_);refine Z1 g J (by rw[qAg];omega) rfl rfl rfl λH9 IA=>Y ?_;refine⟨(⟨b-1+1-(a+1)-(w-1+1-(f+1)),O⟩,(dS F f w,f+1,w-1)),?_,⟨IA,GD,GI,?_⟩,⟨rfl,rfl,rfl,rfl,?_,trivial⟩,trivial,rfl⟩
 ·show b-1+1-(a+1)-(b-1+1-(a+1)-(w-1+1-(f+1)))<b-1+1-(a+1)-t0;omega
 ·show w-1+1-(f+1)+(b-1+1-(a+1)-(w-1+1-(f+1)))=b-1+1-(a+1);omega
 show some (vi ((w:Int)-1))=some (vi ((w-1:Nat):Int));congr 2;omega
end
def oF.arrT{H c:Hp}(h:oF H c r2 s)(d:H r=some (.cells (iS E l++rest).toArray 122 (0,0),true))(e:r≠r2):c r=some (.cells (iS E l++rest).toArray 122 (0,0),true):=h.keep _ _ e d
section
variable{P:aX}[Tz P][Loud P]{H:Hp}
def Jq(d:Yx E)(A:YO P E H r cv S)(j:∀k,k<l.length->S (el l k))(w:H r=some (.cells (iS E l++rest).toArray 122 (0,0),true))(F:l.length=n)(I:x<n)(J:y<n)(G:r≠r2)(e:H r2=some (.cells #[vi s] 3 (0,0),true))(C:s<=1000) :
  LL.Zc P 259 #[.slice (some ⟨r,0,none⟩) n cap,vi x,vi y,pt r2,cv] H λv q=>∃o g h:Nat,oF H q r2 o/\o<=s+1/\v=.tuple #[vi g,vi h]/\((g=x/\h=y)\/(g=y/\h=x)):=by
 refine aJ.m (bG Zwr) (args:=[.slice (some ⟨r,0,none⟩) n cap,vi x,vi y,pt r2,cv]) rfl ?_;unfold ZjO;have c:=AT.of w;refine Y ?_;refine Zd y rfl rfl O O (Y ?_);refine Zn (Loud.aV _) rfl (AT.cA d c O rfl) (Yx.len d _) (Y ?_);refine Zd x rfl rfl O O (Y ?_);refine Zn (Loud.aV _) rfl (AT.cA d c O rfl) (Yx.len d _) (Y ?_);refine ZM rfl rfl (A _ (AT.keep c) _ _ (j _ O) (j _ O)) ?_;intro K D B;obtain⟨t,u⟩:=B;subst t u;refine OJ (λi=>?_) (λi=>?_);all_goals rw[Vw]at i
 ·refine Y ?_;refine VE rfl (Y ?_);refine Zh (OL _) rfl (ZA (cs:=[vi s]) e) (Y ?_);refine VE rfl (Y ?_);refine Vq (cD t3) rfl rfl e rfl rfl (OL _) (Y ?_);exact⟨s+1,y,x,⟨λb z hb f=>by rw[Hp.aH _ _ hb];exact f,Hp.aG _ _ _⟩,dO _,rfl,.inr ⟨rfl,rfl⟩⟩
 refine Y ?_;exact⟨s,x,y,⟨λb z hb f=>f,e⟩,O,rfl,.inl ⟨rfl,rfl⟩⟩
def Zlw{z:Nat}(o:Yx E)(j:YO P E H0 r cv S)(w:∀b x,b≠r->H0 b=some x->H b=some x)(g:H0 r2=none)(t:∀k,k<l.length->S (el l k))(i:H r=some (.cells (iS E l++rest).toArray 122 (0,0),true))(u:l.length=n)(D:x<n)(F:y<n)(G:z<n)(c:r≠r2)(B:H r2=some (.cells #[vi s] 3 (0,0),true))(C:s<=900) :
  LL.Zc P 256 #[.slice (some ⟨r,0,none⟩) n cap,vi x,vi y,vi z,pt r2,cv] H λv e=>∃A q:Nat,oF H e r2 A/\A<=s+3/\v=vi q/\(q=x\/q=y\/q=z):=by
 have d:∀{e:Hp} {s:Nat},oF H e r2 s->∀b x,b≠r->H0 b=some x->e b=some x:=λk b x hb h=>k.keep b x (by rintro rfl;rw[g]at h;simp at h) (w b x hb h);refine aJ.m (bG Zws) (args:=[.slice (some ⟨r,0,none⟩) n cap,vi x,vi y,vi z,pt r2,cv]) rfl ?_;unfold ZjP;refine Y ?_;refine Za [.slice (some ⟨r,0,none⟩) n cap,vi x,vi y,pt r2,cv] (Jq o (j.of w) t i u D F c B O) ?_;rintro v Q ⟨s1,K,L,k1,U,rfl,X⟩;refine Y ?_;refine Za [.slice (some ⟨r,0,none⟩) n cap,vi L,vi z,pt r2,cv] (Jq o (j.of (d k1)) t (k1.arrT i c) u O G c k1.at_ O) ?_;rintro v R ⟨s2,M,z2,f,V,rfl,Z⟩;refine Y ?_;refine Za [.slice (some ⟨r,0,none⟩) n cap,vi K,vi M,pt r2,cv] (Jq o (j.of (d (k1.trans f))) t (f.arrT (k1.arrT i c) c) u O O c f.at_ O) ?_;rintro v T ⟨J,x3,N,I,W,rfl,p3⟩;refine Y ?_;exact⟨J,N,(k1.trans f).trans I,O,rfl,O⟩
def Iu(z:Yx E)(w:YO P E H0 r cv S)(f:∀b x,b≠r->H0 b=some x->H b=some x)(c:H0 r2=none)(A:∀k,k<l.length->S (el l k))(u:H r=some (.cells (iS E l++rest).toArray 122 (0,0),true))(C:l.length=n)(I:1<=x)(F:x+1<n)(J:n<=1000000)(D:r≠r2)(t:H r2=some (.cells #[vi s] 3 (0,0),true))(e:s<=900) :
  LL.Zc P 255 #[.slice (some ⟨r,0,none⟩) n cap,vi x,pt r2,cv] H λv d=>∃g q:Nat,oF H d r2 g/\g<=s+3/\v=vi q/\(q+1=x\/q=x\/q=x+1):=by
 have B:∀{d:Hp} {s:Nat},oF H d r2 s->∀b x,b≠r->H0 b=some x->d b=some x:=λk b x hb h=>k.keep b x (by rintro rfl;rw[c]at h;simp at h) (f b x hb h);refine aJ.m (bG Zwt) (args:=[.slice (some ⟨r,0,none⟩) n cap,vi x,pt r2,cv]) rfl ?_;unfold ZjQ;have i:((x:Int)-1)=((x-1:Nat):Int):=O;have j:((x:Int)+1)=((x+1:Nat):Int):=O;refine Y ?_;rw[i,j];refine Za [.slice (some ⟨r,0,none⟩) n cap,vi (x-1:Nat),vi x,vi (x+1:Nat),pt r2,cv] (Zlw z w f c A u C O O F D t e) ?_;rintro v G ⟨s1,q,k1,o,rfl,K⟩;refine Y ?_;exact⟨s1,q,k1,o,rfl,O⟩
def Zvx(I:Yx E)(G:YO P E H r cv S)(J:∀k,k<l.length->S (el l k))(hA:H r=some (.cells (iS E l++rest).toArray 122 (0,0),true))(K:l.length=n)(CP:a+12<b)(hb:b<=n)(R:n<=1000000) :
  LL.Zc P 236 #[.slice (some ⟨r,0,none⟩) n cap,vi a,vi b,cv] H λv f=>∃q h:Nat,aL H f/\v=.tuple #[vi q,vi h]/\a<=q/\q<b:=by
 refine aJ.m (bG ZwA) (args:=[.slice (some ⟨r,0,none⟩) n cap,vi a,vi b,cv]) rfl ?_;unfold ZjX;obtain⟨d,rfl⟩:∃d,b=a+d:=⟨b-a,O⟩;have ed:(((a+d:Nat):Int)-(a:Int))=(d:Int):=O;have w:((d:Int)).tdiv 4=((d / 4:Nat):Int):=by rw[qBX O];omega
 refine Y ?_;rw[ed];refine Vt (cD t3) (OL _) λr2 g=>?_;have e:H r2=none:=g;have o:r≠r2:=by rintro rfl;rw[hA]at g;simp at g
 have i:(H.ins r2 (.cells (vi 0).cells 3)) r=some (.cells (iS E l++rest).toArray 122 (0,0),true):=by rw[Hp.aH _ _ o];exact hA
 have k0:oF H (H.ins r2 (.cells (vi 0).cells 3)) r2 0:=⟨λb z hb L=>by rw[Hp.aH _ _ hb];exact L,Hp.aG _ _ _⟩;generalize H.ins r2 (.cells (vi 0).cells 3)=F at *;have c:∀f s,oF F f r2 s->aL H f:=λf s k b z L=>by
  have hb:b≠r2:=by rintro rfl;rw[L]at g;simp at g
  exact k.keep b z hb (k0.keep b z hb L)
 have j:∀{f:Hp} {s:Nat},oF F f r2 s->∀b x,b≠r->H b=some x->f b=some x:=λk b x _ h=>c _ _ k b x h;refine Y ?_;refine VD rfl rfl (by decide) (by rw[w];exact⟨O,O⟩) ?_;rw[w];generalize hm:d / 4=m at *;refine Y ?_;refine V8 rfl rfl ⟨O,O⟩ (Y ?_);refine VD rfl rfl (by decide) (by rw[w];exact⟨O,O⟩) ?_;rw[w];refine Y ?_;refine V8 rfl rfl ⟨O,O⟩ (Y ?_);refine VD rfl rfl (by decide) (by rw[w];exact⟨O,O⟩) ?_;rw[w];refine Y ?_;refine V8 rfl rfl ⟨O,O⟩ ?_;refine OB ?_;refine Z2 (λ(x:Nat×Nat) f=>oF F f r2 x.1/\a<=x.2/\x.2<a+d) (λx=>[(11,pt r2),(13,vi (x.2:Nat))]) (λ_=>[]) ?_ ?_
 ·refine OB ?_;refine OI (λg1=>?_) (λg1=>?_)
  ·refine OB ?_;refine Z2 (λ(x:Nat×Nat×Nat×Nat) f=>oF F f r2 x.1/\x.1<=9/\x.2.1<a+d/\a<=x.2.1/\x.2.2.1<a+d/\a<=x.2.2.1/\x.2.2.2<a+d/\a<=x.2.2.2) (λx=>[(0,.slice (some ⟨r,0,none⟩) n cap),(3,cv),(11,pt r2),(12,vi (x.2.1:Nat)),(13,vi (x.2.2.1:Nat)),(14,vi (x.2.2.2:Nat))]) (λ_=>[]) ?_ ?_
   ·have h1:((a:Int)+(m:Int) * 1)=((a+m:Nat):Int):=O;have h2:((a:Int)+(m:Int) * 2)=((a+m * 2:Nat):Int):=O;have h3:((a:Int)+(m:Int) * 3)=((a+m * 3:Nat):Int):=O;rw[h1,h2,h3];refine OJ (λg2=>?_) (λg2=>?_)
    ·refine Y ?_;refine Za [.slice (some ⟨r,0,none⟩) n cap,vi (a+m:Nat),pt r2,cv] (Iu (s:=0) I G (j ⟨λ_ _ _ h=>h,k0.at_⟩) e J i K O O R o k0.at_ O) ?_;rintro v H2 ⟨s2,T,A,w2,rfl,p2⟩;refine Y ?_;refine Za [.slice (some ⟨r,0,none⟩) n cap,vi (a+m * 2:Nat),pt r2,cv] (Iu I G (j A) e J (A.arrT i o) K O O R o A.at_ O) ?_;rintro v H3 ⟨s3,U,M,w3,rfl,p3⟩;refine Y ?_;refine Za [.slice (some ⟨r,0,none⟩) n cap,vi (a+m * 3:Nat),pt r2,cv] (Iu I G (j (A.trans M)) e J (M.arrT (A.arrT i o) o) K O O R o M.at_ O) ?_;rintro v H4 ⟨s4,W,k4,w4,rfl,p4⟩;refine Y ?_;exact⟨(s4,T,U,W),⟨(A.trans M).trans k4,by show s4<=9;omega,by show T<a+d;omega,by show a<=T;omega,by show U<a+d;omega,by show a<=U;omega,by show W<a+d;omega,by show a<=W;omega⟩,V,trivial,rfl⟩
    refine Y ?_;exact⟨(0,a+m,a+m * 2,a+m * 3),⟨⟨λ_ _ _ h=>h,k0.at_⟩,by show 0<=9;omega,by show a+m<a+d;omega,by show a<=a+m;omega,by show a+m * 2<a+d;omega,by show a<=a+m * 2;omega,by show a+m * 3<a+d;omega,by show a<=a+m * 3;omega⟩,V,trivial,rfl⟩
   rintro⟨s5,i5,j5,k5⟩ H5 ⟨B,b5,b6,t,u,b9,N,Q⟩;simp only at B b5 b6 t u b9 N Q;refine Y ?_;refine Za [.slice (some ⟨r,0,none⟩) n cap,vi i5,vi j5,vi k5,pt r2,cv] (Zlw I G (j B) e J (B.arrT i o) K O O O o B.at_ O) ?_;rintro v H6 ⟨s6,X,k6,w6,rfl,p6⟩;refine Y ?_;exact⟨(s6,X),⟨B.trans k6,by show a<=X;omega,by show X<a+d;omega⟩,V,trivial,rfl⟩
  exact absurd g1 O
 rintro⟨s7,Z⟩ H7 ⟨C,t,u⟩;simp only at C t u;refine Y ?_;refine Zh (OL _) rfl (ZA (cs:=[vi s7]) C.at_) ?_;refine OJ (λg3=>?_) (λg3=>?_)
 ·refine Y ?_;exact⟨Z,1,c _ _ C,rfl,t,u⟩
 refine OJ (λg4=>?_) (λg4=>?_)
 ·refine Y ?_;exact⟨Z,2,c _ _ C,rfl,t,u⟩
 refine Y ?_;exact⟨Z,0,c _ _ C,rfl,t,u⟩
end
def ZhT{G:Prop} (h:G:=by refine Y ?_;exact⟨(⟨t0+1,O⟩,(c3,i)),bN O,⟨jS,DT,by show a+1<=i;omega,by show i<=b;omega,MD⟩,V,trivial,rfl⟩):G:=h
section
variable{P:aX}[Tz P][Loud P]{H:Hp}
def ZpL(d:Yx E)(I:YO P E H r cv S)(J:∀k,k<l.length->S (el l k))(w:H r=some (.cells (iS E l++rest).toArray 122 (0,0),true))(L:l.length=n)(z:a<b)(hb:b<=n)(K:n<=1000000) :
  LL.Zc P 237 #[.slice (some ⟨r,0,none⟩) n cap,vi a,vi b,cv] H λv f=>∃q,AT E H f r q rest/\Rg a b l q:=by
 refine aJ.m (bG Zwz) (args:=[.slice (some ⟨r,0,none⟩) n cap,vi a,vi b,cv]) rfl ?_;unfold ZjW;refine Y ?_;refine ZO (α:=List Int) b (λt c f=>AT E H f r c rest/\Rg a b l c) (λt c=>[(0,.slice (some ⟨r,0,none⟩) n cap),(8,vi ((a+t:Nat):Int)),(9,vi ((b:Int)-1-(t:Nat)))]) (λ_ _=>[]) l ⟨AT.of w,.refl l⟩ ⟨rfl,rfl,?_,trivial⟩ trivial ?_
 ·show some (vi _)=some (vi _);congr 2;omega
 rintro t c D M ⟨e,o⟩;have A:=o.len;refine OJ (λu=>?_) (λu=>?_)
 ·obtain⟨j,C⟩:∃j:Nat,(b:Int)-1-(t:Nat)=(j:Int):=⟨b-1-t,O⟩;rw[C];have B:a+t<j:=O;have i:j<b:=O;refine Y ?_;refine Zd j rfl rfl O O (Y ?_);refine Zn (Loud.aV _) rfl (AT.cA d e O rfl) (Yx.len d _) (Y ?_);refine Zd (a+t) rfl rfl O O (Y ?_);refine Zn (Loud.aV _) rfl (AT.cA d e O rfl) (Yx.len d _) (Y ?_);refine Zd (a+t) rfl rfl O O (Y ?_);refine Z1 d e O rfl rfl rfl λG h=>?_;refine Zp Loud.aV (Y ?_);refine Zd j rfl rfl O O (Y ?_);refine Z1 d h (by rw[qAg];omega) rfl rfl rfl λF g=>Y ?_;refine⟨(⟨t+1,O⟩,dS c (a+t) j),bN O,⟨g,.step _ _ o O O O i⟩,⟨rfl,rfl,?_,trivial⟩,trivial,rfl⟩;show some (vi ((j:Int)-1))=some (vi ((b:Int)-1-((t+1:Nat):Int)));congr 2;omega
 refine Y ?_;exact⟨c,e,o⟩
def ZsC(d:Yx E)(hC:YO P E H r cv S)(N:∀k,k<l.length->S (el l k))(hA:H r=some (.cells (iS E l++rest).toArray 122 (0,0),true))(hn:l.length=n)(CP:a<b)(hb:b<=n)(hl:n<=1000000)(lw:C6 a b l) :
  LL.Zc P 238 #[.slice (some ⟨r,0,none⟩) n cap,vi a,vi b,cv] H λv q=>∃(l':List Int) (t:Bool),AT E H q r l' rest/\Rg a b l l'/\v=vb t/\(t=true->So a b l'):=by
 refine aJ.m (bG Zwy) (args:=[.slice (some ⟨r,0,none⟩) n cap,vi a,vi b,cv]) rfl ?_;unfold ZjV;refine Y ?_;refine ZO (α:=List Int×Nat) 5 (λt s q=>AT E H q r s.1 rest/\Rg a b l s.1/\a+1<=s.2/\s.2<=b/\So a s.2 s.1) (λt s=>[(0,.slice (some ⟨r,0,none⟩) n cap),(1,vi a),(2,vi b),(3,cv),(9,vi (s.2:Nat)),(10,vi (t:Nat))]) (λ_ _=>[]) (l,a+1) ⟨AT.of hA,.refl l,dO _,by show a+1<=b;omega,Un l (dO _)⟩ V trivial ?_;rintro t0 ⟨c,z⟩ H1 D4 ⟨A,C,FK,S4,so⟩;simp only at A C FK S4 so;have jQ:=C.len;refine OJ (λg1=>?_) (λg1=>?_)
 ·refine OB ?_;refine Z9 ?_;refine OB ?_;refine Z2 (λ(i:Nat) q=>H1=q/\z<=i/\i<=b/\So a i c/\(i=b\/el c i<el c (i-1))) (λi=>[(0,.slice (some ⟨r,0,none⟩) n cap),(1,vi a),(2,vi b),(3,cv),(9,vi (i:Nat)),(10,vi (t0:Nat))]) (λ_=>[]) ?_ ?_
  ·refine Y ?_;refine Zv (b-z) (λt q=>H1=q/\So a (z+t) c) (λt=>[(0,.slice (some ⟨r,0,none⟩) n cap),(1,vi a),(2,vi b),(3,cv),(9,vi (z+t:Nat)),(10,vi (t0:Nat))]) (λ_=>[]) ⟨rfl,so⟩ V trivial ?_;rintro t _ ht ⟨rfl,K⟩;refine OJ (λz1=>?_) (λz1=>?_)
   ·refine Y ?_;refine Zd (z+t) rfl rfl O O (Y ?_);refine Zn (Loud.aV _) rfl (AT.cA d A O rfl) (Yx.len d _) (Y ?_);refine Zd (z+t-1) rfl rfl O O (Y ?_);refine Zn (Loud.aV _) rfl (AT.cA d A O rfl) (Yx.len d _) (Y ?_);refine ZM rfl rfl (hC _ (AT.keep A) _ _ (ZH C O N O) (ZH C O N O)) ?_;intro vW KW W;obtain⟨Q,R⟩:=W;subst Q R;refine OJ (λD=>?_) (λD=>?_);all_goals rw[Vw]at D
    ·refine Y ?_;refine⟨⟨t+1,O⟩,bN O,⟨rfl,?_⟩,V,trivial,rfl⟩;refine V5 λx L M=>?_;have M:x+1<z+(t+1):=M;by_cases e:x+1=z+t
     ·rw[e,show x=z+t-1 by omega];omega
     exact K x (x+1) L O O
    refine Y ?_;exact⟨z+t,⟨rfl,O,O,K,.inr O⟩,V,trivial,rfl⟩
   refine Y ?_;exact⟨z+t,⟨rfl,O,O,K,.inl O⟩,V,trivial,rfl⟩
  rintro i _ ⟨rfl,hi3,uS,Nz,st⟩;refine OB ?_;refine Z9 ?_;refine OB ?_;refine OI (λg2=>?_) (λg2=>?_)
  ·have:i=b:=O;subst this;refine Y ?_;exact⟨c,true,A,C,rfl,λ_=>Nz⟩
  have hib:i<b:=O;refine OB ?_;refine Z9 ?_;refine OB ?_;refine OI (λg3=>?_) (λg3=>?_)
  ·refine Y ?_;exact⟨c,false,A,C,rfl,λh=>by simp at h⟩
  refine OB ?_;refine Zd (i-1) rfl rfl O O (Y ?_);refine Zn (Loud.aV _) rfl (AT.cA d A O rfl) (Yx.len d _) (Y ?_);refine Zd i rfl rfl O O (Y ?_);refine Zn (Loud.aV _) rfl (AT.cA d A O rfl) (Yx.len d _) (Y ?_);refine Zd i rfl rfl O O (Y ?_);refine Z1 d A O rfl rfl rfl λHW u=>?_;refine Zp Loud.aV (Y ?_);refine Zd (i-1) rfl rfl O O (Y ?_);refine Z1 d u (by rw[qAg];omega) rfl rfl rfl λH4 F=>?_;have pB:(c.set i (el c (i-1))).set (i-1) (el c i)=dS c i (i-1):=rfl;rw[pB]at F;have J:Rg a b l (dS c i (i-1)):=.step _ _ C O O O O;have T:∀x,x<i-1->el (dS c i (i-1)) x=el c x:=λx G=>by rw[Yh _ O O,aT O,aT O]
  generalize dS c i (i-1)=c1 at *;have NX:=J.len;refine OB ?_;refine Z2 (λ(c2:List Int) q=>AT E H q r c2 rest/\Rg a b l c2/\So a i c2) (λ_=>[(0,.slice (some ⟨r,0,none⟩) n cap),(1,vi a),(2,vi b),(3,cv),(9,vi (i:Nat)),(10,vi (t0:Nat))]) (λ_=>[]) ?_ ?_
  ·refine OB ?_;refine OI (λg4=>?_) (λg4=>?_)
   ·have g4:a+2<=i:=O;refine Y ?_;refine ZO (α:=List Int) (i-1) (λt c2 q=>AT E H q r c2 rest/\Rg a b l c2/\a<=i-1-t/\(∀x y,a<=x->x<=y->y<i->x≠i-1-t->y≠i-1-t->el c2 x<=el c2 y)/\(∀y,i-1-t<y->y<i->el c2 (i-1-t)<=el c2 y)) (λt _=>[(0,.slice (some ⟨r,0,none⟩) n cap),(1,vi a),(2,vi b),(3,cv),(9,vi (i:Nat)),(10,vi (t0:Nat)),(11,vi (i-1-t:Nat))]) (λ_ _=>[]) c1 ⟨F,J,O,?_,λy y1 y2=>O⟩ ⟨rfl,rfl,rfl,rfl,rfl,rfl,?_,trivial⟩ trivial ?_
    ·intro x y L M x3 x4 x5;rw[T x O,T y O];exact Nz x y L M O
    ·show some (vi ((i:Int)-1))=some (vi ((i-1-0:Nat):Int));congr 2;omega
    rintro t c2 H5 ht ⟨f,g,Fg,o,I⟩;have NW:=g.len;have Dj:=lw.rg g O;obtain⟨j,hj⟩:∃j,i-1-t=j:=⟨_,rfl⟩;rw[hj]at Fg o I ⊢;have U:(a<j->el c2 (j-1)<=el c2 j)->So a i c2:=λhh=>V5 λx L M=>by
     by_cases e1:x=j
     ·subst e1;exact I _ O O
     by_cases e2:x+1=j
     ·subst e2;exact hh O
     exact o _ _ L O O e1 e2
    refine OJ (λz1=>?_) (λz1=>?_)
    ·refine Y ?_;refine Zd j rfl rfl O O (Y ?_);refine Zn (Loud.aV _) rfl (AT.cA d f O rfl) (Yx.len d _) (Y ?_);refine Zd (j-1) rfl rfl O O (Y ?_);refine Zn (Loud.aV _) rfl (AT.cA d f O rfl) (Yx.len d _) (Y ?_);refine ZM rfl rfl (hC _ (AT.keep f) _ _ (ZH g O N O) (ZH g O N O)) ?_;intro vW KW W;obtain⟨Q,R⟩:=W;subst Q R;refine OJ (λD=>?_) (λD=>?_);all_goals rw[Vw]at D
     ·refine Y ?_;exact⟨c2,⟨f,g,U λ_=>O⟩,V,trivial,rfl⟩
     have haj:a<j:=by
      refine qAd λhh=>?_;have Z:j=a:=O;rcases Dj with h | h
      ·omega
      have:=h j O O;rw[<-Z]at this;omega
     refine Y ?_;refine Zd (j-1) rfl rfl O O (Y ?_);refine Zn (Loud.aV _) rfl (AT.cA d f O rfl) (Yx.len d _) (Y ?_);refine Zd j rfl rfl O O (Y ?_);refine Zn (Loud.aV _) rfl (AT.cA d f O rfl) (Yx.len d _) (Y ?_);refine Zd j rfl rfl O O (Y ?_);refine Z1 d f O rfl rfl rfl λHW u=>?_;refine Zp Loud.aV (Y ?_);refine Zd (j-1) rfl rfl O O (Y ?_);refine Z1 d u (by rw[qAg];omega) rfl rfl rfl λH6 jS=>Y ?_;have w:∀x,x≠j-1->el (dS c2 j (j-1)) x=if x=j then el c2 (j-1)else el c2 x:=λx G=>by rw[Yh _ O O,aT G]
     have X:el (dS c2 j (j-1)) (j-1)=el c2 j:=by rw[Yh _ O O,iF rfl]
     have S0:i-1-(t+1)=j-1:=O;refine⟨(⟨t+1,O⟩,dS c2 j (j-1)),(by show i-1-(t+1)<j;omega),⟨jS,.step _ _ g O O O O,?_,?_,?_⟩,⟨rfl,rfl,rfl,rfl,rfl,rfl,?_,trivial⟩,trivial,rfl⟩
     ·show a<=i-1-(t+1);omega
     ·show ∀x y,a<=x->x<=y->y<i->x≠i-1-(t+1)->y≠i-1-(t+1)->_;intro x y h1 h2 h3 h4 h5;rw[S0]at h4 h5;rw[w x h4,w y h5];by_cases G:x=j
      ·rw[iF G];by_cases B:y=j
       ·rw[iF B];exact qAx _
       rw[aT B];exact o _ _ O O h3 O B
      rw[aT G];by_cases B:y=j
      ·rw[iF B];exact o _ _ h1 O O G O
      rw[aT B];exact o _ _ h1 h2 h3 G B
     ·show ∀y,i-1-(t+1)<y->y<i->el (dS c2 j (j-1)) (i-1-(t+1))<=_;intro y h1 h2;rw[S0]at h1 ⊢;rw[X,w y O];by_cases B:y=j
      ·rw[iF B];omega
      rw[aT B];exact I _ O h2
     show some (vi ((j:Int)-1))=some (vi ((i-1-(t+1):Nat):Int));congr 2;omega
    refine Y ?_;exact⟨c2,⟨f,g,U λh=>O⟩,V,trivial,rfl⟩
   refine Y ?_;exact⟨c1,⟨F,J,Un _ O⟩,V,trivial,rfl⟩
  rintro c2 H5 ⟨f,g,o⟩;have NW:=g.len;refine OB ?_;refine OI (λg5=>?_) (λg5=>?_)
  ·refine Y ?_;refine ZO (α:=List Int) b (λt c3 q=>AT E H q r c3 rest/\Rg a b l c3/\So a i c3) (λt _=>[(0,.slice (some ⟨r,0,none⟩) n cap),(1,vi a),(2,vi b),(3,cv),(9,vi (i:Nat)),(10,vi (t0:Nat)),(12,vi (i+1+t:Nat))]) (λ_ _=>[]) c2 ⟨f,g,o⟩ V trivial ?_;rintro t c3 H6 ht ⟨jS,DT,MD⟩;have Gg:=DT.len;refine OJ (λz1=>?_) (λz1=>?_)
   ·refine Y ?_;refine Zd (i+1+t) rfl rfl O O (Y ?_);refine Zn (Loud.aV _) rfl (AT.cA d jS O rfl) (Yx.len d _) (Y ?_);refine Zd (i+t) rfl rfl O O (Y ?_);refine Zn (Loud.aV _) rfl (AT.cA d jS O rfl) (Yx.len d _) (Y ?_);refine ZM rfl rfl (hC _ (AT.keep jS) _ _ (ZH DT O N O) (ZH DT O N O)) ?_;intro vW KW W;obtain⟨Q,R⟩:=W;subst Q R;refine OJ (λD=>?_) (λD=>?_);all_goals rw[Vw]at D
    ·exact ZhT
    refine Y ?_;refine Zd (i+t) rfl rfl O O (Y ?_);refine Zn (Loud.aV _) rfl (AT.cA d jS O rfl) (Yx.len d _) (Y ?_);refine Zd (i+1+t) rfl rfl O O (Y ?_);refine Zn (Loud.aV _) rfl (AT.cA d jS O rfl) (Yx.len d _) (Y ?_);refine Zd (i+1+t) rfl rfl O O (Y ?_);refine Z1 d jS O rfl rfl rfl λHW u=>?_;refine Zp Loud.aV (Y ?_);refine Zd (i+t) rfl rfl O O (Y ?_);refine Z1 d u (by rw[qAg];omega) rfl rfl rfl λH8 ar8=>Y ?_;refine⟨(⟨t+1,O⟩,dS c3 (i+1+t) (i+t)),bN O,⟨ar8,.step _ _ DT O O O O,?_⟩,V,trivial,rfl⟩;intro x y L M x3;rw[Yh _ O O,Yh _ O O,aT O,aT O,aT O,aT O];exact MD x y L M x3
   exact ZhT
  refine Y ?_;exact⟨(⟨t0+1,O⟩,(c2,i)),bN O,⟨f,g,by show a+1<=i;omega,by show i<=b;omega,o⟩,V,trivial,rfl⟩
 refine Y ?_;exact⟨c,false,A,C,rfl,λh=>by simp at h⟩
end
