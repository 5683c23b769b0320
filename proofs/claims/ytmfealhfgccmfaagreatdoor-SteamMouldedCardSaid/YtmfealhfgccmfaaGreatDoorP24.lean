import Derived.Test.YtmfealhfgccmfaaGreatDoorP23
set_option linter.all false
set_option maxHeartbeats 16000000
set_option maxRecDepth 20000
def LI{G:Prop}(h:G:=by refine Y ?_;exact⟨c6,⟨qV,NP⟩,V,trivial,rfl⟩):G:=h
def TL{G:Prop}(h:G:=by refine Y ?_;exact⟨(⟨t0+1,O⟩,(c3,i)),gI O,⟨qV,Q6,by show a+1<=i;omega,by show i<=b;omega,so6⟩,V,trivial,rfl⟩):G:=h
def GV{G:Prop}(h:G:=by rintro v H2 ⟨c2,Xt,Qk,so2⟩;refine Y ?_;have pd2:=pd.step Qk vM;exact⟨c2,ar.trans Xt,pd2.rg,pd2.fin so2⟩):G:=h
open Go Go.LL
namespace Go.Proofs
variable{r cap a b n:Nat}{l:List Int}{rest mm vs:List Value}{E:Int->List Value}{S:Int->Prop}{v:Value}{ls:List (List Int)}
section
variable{P:fP}[Tz P][Loud P]{H:Hp}
def ZpW(s:SK P H r S E mm)(K:∀k,k<l.length->S (el l k))(z:H r=some (.cells (kH E l++rest).toArray (pX E) (0,0),true))(M:l.length=n)(C:a<b)(hb:b<=n)(L:n<=1000000) :
  LL.Zb P (fz mm 228 341) (.slice (some ⟨r,0,none⟩) n cap :: vi a :: vi b :: mm).toArray H λv h=>∃u,AT E H h r u rest/\Rg a b l u:=by
 have B:=s;rcases s with⟨d⟩ | ⟨q,d,A⟩
 rotate_left;refine aU.m (fO Zxy) rfl ?_;unfold ZjG;let mm:=[q]
 let o:Nat->Nat:=λn=>n+2
 let I:Nat×Value:=(3,q)
 rotate_left;refine aU.m (fO Zw1) rfl ?_;unfold Zi9;let mm:List Value:=[]
 let o:Nat->Nat:=λn=>n
 let I:Nat×Value:=(0,.slice (some ⟨r,0,none⟩) n cap)
 have A:=True.intro;all_goals
  refine Y ?_
  refine Yp (α:=List Int) b (λt c h=>AT E H h r c rest/\Rg a b l c) (λt c=>[(0,.slice (some ⟨r,0,none⟩) n cap),(o 6,vi ((a+t:Nat):Int)),(o 7,vi ((b:Int)-1-(t:Nat)))]) (λ_ _=>[]) l ⟨AT.of z,.refl l⟩ ⟨rfl,rfl,?_,trivial⟩ trivial ?_
  ·show some (vi _)=some (vi _);congr 2;omega
  rintro t c J N ⟨e,p⟩
  have D:=p.len
  refine Y ?_
  refine OI (λy=>?_) (λy=>?_)
  ·obtain⟨j,G⟩:∃j:Nat,(b:Int)-1-(t:Nat)=(j:Int):=⟨b-1-t,O⟩;rw[G];have F:a+t<j:=O;have i:j<b:=O;refine Y ?_;refine Zi j rfl rfl O O (Y ?_);first | refine Zh (Loud.fD _) rfl (AT.cI d e O rfl) ?_ | refine Zn (Loud.fD _) rfl (AT.cA d e O rfl) (g9.len d _) ?_
   refine Y ?_;refine Zi (a+t) rfl rfl O O (Y ?_);first | refine Zh (Loud.fD _) rfl (AT.cI d e O rfl) ?_ | refine Zn (Loud.fD _) rfl (AT.cA d e O rfl) (g9.len d _) ?_
   refine Y ?_;refine Zi (a+t) rfl rfl O O (Y ?_);first | refine Zr (m8.row d) (fT t3) e O rfl rfl rfl (d _).symm rfl λx f=>?_ | refine Zr d (fT Z0) e O rfl rfl rfl rfl (g9.len d _) λx f=>?_
   refine Zz Loud.fD (Y ?_);refine Zi j rfl rfl O O (Y ?_);first | refine Zr (m8.row d) (fT t3) f (by rw[qAe];omega) rfl rfl rfl (d _).symm rfl λw g=>?_ | refine Zr d (fT Z0) f (by rw[qAe];omega) rfl rfl rfl rfl (g9.len d _) λw g=>?_
   refine Y ?_;refine⟨(⟨t+1,O⟩,jK c (a+t) j),gI O,⟨g,.step _ _ p O O O i⟩,⟨rfl,rfl,?_,trivial⟩,trivial,rfl⟩;show some (vi ((j:Int)-1))=some (vi ((b:Int)-1-((t+1:Nat):Int)));congr 2;omega
  ·refine Y ?_;exact⟨c,e,p⟩
def ZsV(hK:SK P H r S E mm)(Q:∀k,k<l.length->S (el l k))(hA:H r=some (.cells (kH E l++rest).toArray (pX E) (0,0),true))(hn:l.length=n)(Wp:a<b)(hb:b<=n)(hl:n<=1000000)(lw:FD a b l) :
  LL.Zb P (fz mm 229 342) (.slice (some ⟨r,0,none⟩) n cap :: vi a :: vi b :: mm).toArray H λv w=>∃(l':List Int) (t:Bool),AT E H w r l' rest/\Rg a b l l'/\v=vb t/\(t=true->So a b l'):=by
 have N3:=hK;rcases hK with⟨d⟩ | ⟨cv,d,hC⟩
 rotate_left;refine aU.m (fO Zxx) rfl ?_;unfold ZjF;let mm:=[cv]
 let u:Nat->Nat:=λn=>n+2
 let J:Nat×Value:=(3,cv)
 rotate_left;refine aU.m (fO Zw0) rfl ?_;unfold Zi8;let mm:List Value:=[]
 let u:Nat->Nat:=λn=>n
 let J:Nat×Value:=(0,.slice (some ⟨r,0,none⟩) n cap)
 have hC:=True.intro;all_goals
  refine Y ?_
  refine Yp (α:=List Int×Nat) 5 (λt s w=>AT E H w r s.1 rest/\Rg a b l s.1/\a+1<=s.2/\s.2<=b/\So a s.2 s.1) (λt s=>[(0,.slice (some ⟨r,0,none⟩) n cap),(1,vi a),(2,vi b),J,(u 7,vi (s.2:Nat)),(u 8,vi (t:Nat))]) (λ_ _=>[]) (l,a+1) ⟨AT.of hA,.refl l,DO _,by show a+1<=b;omega,O7 l (DO _)⟩ V trivial ?_
  rintro t0 ⟨c,A⟩ H1 NW ⟨q,D,KY,SJ,so⟩
  simp only at q D KY SJ so
  have qB:=D.len
  refine Y ?_
  refine OI (λg1=>?_) (λg1=>?_)
  ·refine OB ?_;refine VL ?_;refine OB ?_;refine VD (λ(i:Nat) w=>H1=w/\A<=i/\i<=b/\So a i c/\(i=b\/el c i<el c (i-1))) (λi=>[(0,.slice (some ⟨r,0,none⟩) n cap),(1,vi a),(2,vi b),J,(u 7,vi (i:Nat)),(u 8,vi (t0:Nat))]) (λ_=>[]) ?_ ?_
   ·refine Y ?_;refine ZC (b-A) (λt w=>H1=w/\So a (A+t) c) (λt=>[(0,.slice (some ⟨r,0,none⟩) n cap),(1,vi a),(2,vi b),J,(u 7,vi (A+t:Nat)),(u 8,vi (t0:Nat))]) (λ_=>[]) ⟨rfl,so⟩ V trivial ?_;rintro t _ ht ⟨rfl,L⟩;refine OJ (λz1=>?_) (λz1=>?_)
    ·refine Y ?_;refine Zi (A+t) rfl rfl O O (Y ?_);first | refine Zh (Loud.fD _) rfl (AT.cI d q O rfl) ?_ | refine Zn (Loud.fD _) rfl (AT.cA d q O rfl) (g9.len d _) ?_
     refine Y ?_;refine Zi (A+t-1) rfl rfl O O (Y ?_);first | refine Zh (Loud.fD _) rfl (AT.cI d q O rfl) ?_ | refine Zn (Loud.fD _) rfl (AT.cA d q O rfl) (g9.len d _) ?_
     refine Y ?_;first | refine Zg (Vv _ _) ?_ | refine ZP rfl rfl (hC _ (AT.keep q) _ _ (ZL D O Q O) (ZL D O Q O)) ?_
     intro vW KW hW;obtain⟨U,W⟩:=hW;subst U W;refine OJ (λF=>?_) (λF=>?_);all_goals try rw[Vj]at F
     ·refine Y ?_;refine⟨⟨t+1,O⟩,gI O,⟨rfl,?_⟩,V,trivial,rfl⟩;refine O8 λx M N=>?_;have N:x+1<A+(t+1):=N;by_cases e:x+1=A+t
      ·rw[e,show x=A+t-1 by omega];omega
      exact L x (x+1) M O O
     refine Y ?_;exact⟨A+t,⟨rfl,O,O,L,.inr O⟩,V,trivial,rfl⟩
    refine Y ?_;exact⟨A+t,⟨rfl,O,O,L,.inl O⟩,V,trivial,rfl⟩
   rintro i _ ⟨rfl,hi3,Tw,soi,st⟩;refine OB ?_;refine VL ?_;refine OB ?_;refine OI (λg2=>?_) (λg2=>?_)
   ·have:i=b:=O;subst this;refine Y ?_;exact⟨c,true,q,D,rfl,λ_=>soi⟩
   have hib:i<b:=O;refine OB ?_;refine VL ?_;refine OB ?_;refine OI (λg3=>?_) (λg3=>?_)
   ·refine Y ?_;exact⟨c,false,q,D,rfl,λh=>by simp at h⟩
   refine OB ?_;refine Zi (i-1) rfl rfl O O (Y ?_);first | refine Zh (Loud.fD _) rfl (AT.cI d q O rfl) ?_ | refine Zn (Loud.fD _) rfl (AT.cA d q O rfl) (g9.len d _) ?_
   refine Y ?_;refine Zi i rfl rfl O O (Y ?_);first | refine Zh (Loud.fD _) rfl (AT.cI d q O rfl) ?_ | refine Zn (Loud.fD _) rfl (AT.cA d q O rfl) (g9.len d _) ?_
   refine Y ?_;refine Zi i rfl rfl O O (Y ?_);first | refine Zr (m8.row d) (fT t3) q O rfl rfl rfl (d _).symm rfl λR g=>?_ | refine Zr d (fT Z0) q O rfl rfl rfl rfl (g9.len d _) λR g=>?_
   refine Zz Loud.fD (Y ?_);refine Zi (i-1) rfl rfl O O (Y ?_);first | refine Zr (m8.row d) (fT t3) g (by rw[qAe];omega) rfl rfl rfl (d _).symm rfl λH4 C=>?_ | refine Zr d (fT Z0) g (by rw[qAe];omega) rfl rfl rfl rfl (g9.len d _) λH4 C=>?_
   have xZ:(c.set i (el c (i-1))).set (i-1) (el c i)=jK c i (i-1):=rfl;rw[xZ]at C;have K:Rg a b l (jK c i (i-1)):=.step _ _ D O O O O;have X:∀x,x<i-1->el (jK c i (i-1)) x=el c x:=λx G=>by rw[Vt _ O O,iF O,iF O]
   generalize jK c i (i-1)=c1 at *;have hc1:=K.len;refine OB ?_;refine VD (λ(c2:List Int) w=>AT E H w r c2 rest/\Rg a b l c2/\So a i c2) (λ_=>[(0,.slice (some ⟨r,0,none⟩) n cap),(1,vi a),(2,vi b),J,(u 7,vi (i:Nat)),(u 8,vi (t0:Nat))]) (λ_=>[]) ?_ ?_
   ·refine OB ?_;refine OI (λg4=>?_) (λg4=>?_)
    ·have g4:a+2<=i:=O;refine Y ?_;refine Yp (α:=List Int) (i-1) (λt c2 w=>AT E H w r c2 rest/\Rg a b l c2/\a<=i-1-t/\(∀x y,a<=x->x<=y->y<i->x≠i-1-t->y≠i-1-t->el c2 x<=el c2 y)/\(∀y,i-1-t<y->y<i->el c2 (i-1-t)<=el c2 y)) (λt _=>[(0,.slice (some ⟨r,0,none⟩) n cap),(1,vi a),(2,vi b),J,(u 7,vi (i:Nat)),(u 8,vi (t0:Nat)),(u 9,vi (i-1-t:Nat))]) (λ_ _=>[]) c1 ⟨C,K,O,?_,λy y1 y2=>O⟩ ⟨rfl,rfl,rfl,rfl,rfl,rfl,?_,trivial⟩ trivial ?_
     ·intro x y M N x3 x4 x5;rw[X x O,X y O];exact soi x y M N O
     ·show some (vi ((i:Int)-1))=some (vi ((i-1-0:Nat):Int));congr 2;omega
     rintro t c2 H5 ht ⟨f,o,hja,p,I⟩;have Wj:=o.len;have lw5:=lw.rg o O;obtain⟨j,hj⟩:∃j,i-1-t=j:=⟨_,rfl⟩;rw[hj]at hja p I ⊢;have Z:(a<j->el c2 (j-1)<=el c2 j)->So a i c2:=λhh=>O8 λx M N=>by
      by_cases e1:x=j
      ·subst e1;exact I _ O O
      by_cases e2:x+1=j
      ·subst e2;exact hh O
      exact p _ _ M O O e1 e2
     refine OJ (λz1=>?_) (λz1=>?_)
     ·refine Y ?_;refine Zi j rfl rfl O O (Y ?_);first | refine Zh (Loud.fD _) rfl (AT.cI d f O rfl) ?_ | refine Zn (Loud.fD _) rfl (AT.cA d f O rfl) (g9.len d _) ?_
      refine Y ?_;refine Zi (j-1) rfl rfl O O (Y ?_);first | refine Zh (Loud.fD _) rfl (AT.cI d f O rfl) ?_ | refine Zn (Loud.fD _) rfl (AT.cA d f O rfl) (g9.len d _) ?_
      refine Y ?_;first | refine Zg (Vv _ _) ?_ | refine ZP rfl rfl (hC _ (AT.keep f) _ _ (ZL o O Q O) (ZL o O Q O)) ?_
      intro vW KW hW;obtain⟨U,W⟩:=hW;subst U W;refine OJ (λF=>?_) (λF=>?_);all_goals try rw[Vj]at F
      ·refine Y ?_;exact⟨c2,⟨f,o,Z λ_=>O⟩,V,trivial,rfl⟩
      have haj:a<j:=by
       refine qAb λhh=>?_;have Tm:j=a:=O;rcases lw5 with h | h
       ·omega
       have:=h j O O;rw[<-Tm]at this;omega
      refine Y ?_;refine Zi (j-1) rfl rfl O O (Y ?_);first | refine Zh (Loud.fD _) rfl (AT.cI d f O rfl) ?_ | refine Zn (Loud.fD _) rfl (AT.cA d f O rfl) (g9.len d _) ?_
      refine Y ?_;refine Zi j rfl rfl O O (Y ?_);first | refine Zh (Loud.fD _) rfl (AT.cI d f O rfl) ?_ | refine Zn (Loud.fD _) rfl (AT.cA d f O rfl) (g9.len d _) ?_
      refine Y ?_;refine Zi j rfl rfl O O (Y ?_);first | refine Zr (m8.row d) (fT t3) f O rfl rfl rfl (d _).symm rfl λR g=>?_ | refine Zr d (fT Z0) f O rfl rfl rfl rfl (g9.len d _) λR g=>?_
      refine Zz Loud.fD (Y ?_);refine Zi (j-1) rfl rfl O O (Y ?_);first | refine Zr (m8.row d) (fT t3) g (by rw[qAe];omega) rfl rfl rfl (d _).symm rfl λH6 qV=>?_ | refine Zr d (fT Z0) g (by rw[qAe];omega) rfl rfl rfl rfl (g9.len d _) λH6 qV=>?_
      refine Y ?_;have z:∀x,x≠j-1->el (jK c2 j (j-1)) x=if x=j then el c2 (j-1)else el c2 x:=λx G=>by rw[Vt _ O O,iF G]
      have K5:el (jK c2 j (j-1)) (j-1)=el c2 j:=by rw[Vt _ O O,qAa rfl]
      have KU:i-1-(t+1)=j-1:=O;refine⟨(⟨t+1,O⟩,jK c2 j (j-1)),(by show i-1-(t+1)<j;omega),⟨qV,.step _ _ o O O O O,?_,?_,?_⟩,⟨rfl,rfl,rfl,rfl,rfl,rfl,?_,trivial⟩,trivial,rfl⟩
      ·show a<=i-1-(t+1);omega
      ·show ∀x y,a<=x->x<=y->y<i->x≠i-1-(t+1)->y≠i-1-(t+1)->_;intro x y h1 h2 h3 h4 h5;rw[KU]at h4 h5;rw[z x h4,z y h5];by_cases G:x=j
       ·rw[qAa G];by_cases B:y=j
        ·rw[qAa B];exact qAO _
        rw[iF B];exact p _ _ O O h3 O B
       rw[iF G];by_cases B:y=j
       ·rw[qAa B];exact p _ _ h1 O O G O
       rw[iF B];exact p _ _ h1 h2 h3 G B
      ·show ∀y,i-1-(t+1)<y->y<i->el (jK c2 j (j-1)) (i-1-(t+1))<=_;intro y h1 h2;rw[KU]at h1 ⊢;rw[K5,z y O];by_cases B:y=j
       ·rw[qAa B];omega
       rw[iF B];exact I _ O h2
      show some (vi ((j:Int)-1))=some (vi ((i-1-(t+1):Nat):Int));congr 2;omega
     refine Y ?_;exact⟨c2,⟨f,o,Z λh=>O⟩,V,trivial,rfl⟩
    refine Y ?_;exact⟨c1,⟨C,K,O7 _ O⟩,V,trivial,rfl⟩
   rintro c2 H5 ⟨f,o,p⟩;have Wj:=o.len;refine OB ?_;refine OI (λg5=>?_) (λg5=>?_)
   ·refine Y ?_;refine Yp (α:=List Int) b (λt c3 w=>AT E H w r c3 rest/\Rg a b l c3/\So a i c3) (λt _=>[(0,.slice (some ⟨r,0,none⟩) n cap),(1,vi a),(2,vi b),J,(u 7,vi (i:Nat)),(u 8,vi (t0:Nat)),(u 10,vi (i+1+t:Nat))]) (λ_ _=>[]) c2 ⟨f,o,p⟩ V trivial ?_;rintro t c3 H6 ht ⟨qV,Q6,so6⟩;have hc6:=Q6.len;refine OJ (λz1=>?_) (λz1=>?_)
    ·refine Y ?_;refine Zi (i+1+t) rfl rfl O O (Y ?_);first | refine Zh (Loud.fD _) rfl (AT.cI d qV O rfl) ?_ | refine Zn (Loud.fD _) rfl (AT.cA d qV O rfl) (g9.len d _) ?_
     refine Y ?_;refine Zi (i+t) rfl rfl O O (Y ?_);first | refine Zh (Loud.fD _) rfl (AT.cI d qV O rfl) ?_ | refine Zn (Loud.fD _) rfl (AT.cA d qV O rfl) (g9.len d _) ?_
     refine Y ?_;first | refine Zg (Vv _ _) ?_ | refine ZP rfl rfl (hC _ (AT.keep qV) _ _ (ZL Q6 O Q O) (ZL Q6 O Q O)) ?_
     intro vW KW hW;obtain⟨U,W⟩:=hW;subst U W;refine OJ (λF=>?_) (λF=>?_);all_goals try rw[Vj]at F
     ·exact TL
     refine Y ?_;refine Zi (i+t) rfl rfl O O (Y ?_);first | refine Zh (Loud.fD _) rfl (AT.cI d qV O rfl) ?_ | refine Zn (Loud.fD _) rfl (AT.cA d qV O rfl) (g9.len d _) ?_
     refine Y ?_;refine Zi (i+1+t) rfl rfl O O (Y ?_);first | refine Zh (Loud.fD _) rfl (AT.cI d qV O rfl) ?_ | refine Zn (Loud.fD _) rfl (AT.cA d qV O rfl) (g9.len d _) ?_
     refine Y ?_;refine Zi (i+1+t) rfl rfl O O (Y ?_);first | refine Zr (m8.row d) (fT t3) qV O rfl rfl rfl (d _).symm rfl λR g=>?_ | refine Zr d (fT Z0) qV O rfl rfl rfl rfl (g9.len d _) λR g=>?_
     refine Zz Loud.fD (Y ?_);refine Zi (i+t) rfl rfl O O (Y ?_);first | refine Zr (m8.row d) (fT t3) g (by rw[qAe];omega) rfl rfl rfl (d _).symm rfl λH8 T=>?_ | refine Zr d (fT Z0) g (by rw[qAe];omega) rfl rfl rfl rfl (g9.len d _) λH8 T=>?_
     refine Y ?_;refine⟨(⟨t+1,O⟩,jK c3 (i+1+t) (i+t)),gI O,⟨T,.step _ _ Q6 O O O O,?_⟩,V,trivial,rfl⟩;intro x y M N x3;rw[Vt _ O O,Vt _ O O,iF O,iF O,iF O,iF O];exact so6 x y M N x3
    exact TL
   refine Y ?_;exact⟨(⟨t0+1,O⟩,(c2,i)),gI O,⟨f,o,by show a+1<=i;omega,by show i<=b;omega,p⟩,V,trivial,rfl⟩
  ·refine Y ?_;exact⟨c,false,q,D,rfl,λh=>by simp at h⟩
def Zy2{k:Nat}(X:SK P H r S E mm)(hS:∀k,k<l.length->S (el l k))(W:H r=some (.cells (kH E l++rest).toArray (pX E) (0,0),true))(hn:l.length=n)(hk:12<k)(hb:a+k<=n)(hl:n<=60000) :
  LL.Zb P (fz mm 226 339) (.slice (some ⟨r,0,none⟩) n cap :: vi a :: vi (a+k:Nat) :: mm).toArray H λv u=>∃l',AT E H u r l' rest/\Rg a (a+k) l l':=by
 have N3:=X;rcases X with⟨f⟩ | ⟨T,f,hC⟩
 rotate_left;refine aU.m (fO ZxA) rfl ?_;unfold ZjI;let mm:=[T]
 let i:Nat->Nat:=λn=>n+2
 let qq:Nat×Value:=(3,T)
 rotate_left;refine aU.m (fO Zw3) rfl ?_;unfold Zjb;let mm:List Value:=[]
 let i:Nat->Nat:=λn=>n
 let qq:Nat×Value:=(0,.slice (some ⟨r,0,none⟩) n cap)
 have hC:=True.intro;all_goals
  have ek:(((a+k:Nat):Int)-(a:Int))=(k:Int):=O
  have C:((k:Int)).tdiv 4=((k / 4:Nat):Int):=by rw[qBA O];omega
  have Sq:=ZuN (m:=k) O
  refine Y ?_
  rw[ek]
  refine OI (λU=>?_) (λU=>?_)
  ·refine Y ?_;refine VC (fU vD) (fU Zn3) rfl ?_;rw[U7 O];refine Y ?_;refine VY (fT Ak) (OL _) λh j=>?_;have Z:h≠r:=by rintro rfl;rw[W]at j;simp at j
   refine Y ?_;refine VV (fT Ak) rfl rfl (Hp.aQ _ _ _) rfl rfl (OL _) ?_;rw[Uy];have F:=(AT.of W).new (o:=.cells #[.int .u64 (k:Int)] 408) j;have I:(H.ins h (.cells #[.int .u64 (k:Int)] 408)) h=some (.cells #[.int .u64 (k:Int)] 408 (0,0),true):=Hp.aQ _ _ _;generalize H.ins h (.cells #[.int .u64 (k:Int)] 408)=H1 at *;refine Y ?_;refine Zo (vs:=[vi k]) (ZsC O) ?_;generalize hM:2 ^ jQ k=M at *;have hM0:1<=M:=by rw[<-hM];exact Nat.one_le_two_pow
   refine Y ?_;refine yC rfl rfl (by decide) (by rw[C];exact⟨O,O⟩) ?_;rw[C];refine Y ?_;refine u7 rfl rfl ⟨O,O⟩ (Y ?_);have e9:((a:Int)+((k / 4:Nat):Int) * 2-1)=((a+k / 4 * 2-1:Nat):Int):=O;rw[e9];refine Yp (α:=List Int×Nat) 3 (λt s u=>AT E H u r s.1 rest/\Rg a (a+k) l s.1/\u h=some (.cells #[.int .u64 (s.2:Int)] 408 (0,0),true)) (λt _=>[(0,.slice (some ⟨r,0,none⟩) n cap),(1,vi a),(i 6,vi k),(i 7,pt h),(i 8,.int .u64 (M:Int)),(i 9,vi (a+k / 4 * 2-1+t:Nat))]) (λ_ _=>[]) (l,k) ⟨F,.refl l,I⟩ V trivial ?_;rintro t ⟨c,y⟩ H2 ht ⟨B,D,hy⟩;simp only at B D hy;have qB:=D.len;refine Y ?_;refine yC rfl rfl (by decide) (by rw[C];exact⟨O,O⟩) ?_;rw[C];refine Y ?_;refine u7 rfl rfl ⟨O,O⟩ ?_;refine OJ (λg2=>?_) (λg2=>?_)
   ·refine Y ?_;refine Zg (vs:=[pt h]) (ZtX hy) ?_;rintro v Q ⟨z,hz,rfl,L,A⟩;have w:AT E H Q r c rest:=⟨λb x hb J=>by
     by_cases e:b=h
     ·subst e;rw[j]at J;simp at J
     exact A b x e (B.keep b x hb J),A r _ (qAo Z) B.at_⟩
    have B8:=Zzd z (M-1) O;generalize ho:(BitVec.ofInt IntKind.u64.bits (z:Int) &&& BitVec.ofInt IntKind.u64.bits ((M-1:Nat):Int)).toNat=o at *;refine Y ?_;refine Zs9 (q:=((M-1:Nat):Int)) rfl rfl (by rw[show(M:Int)-1=((M-1:Nat):Int)by omega,U7 O]) (Y ?_);refine ME (v:=.int .u64 (o:Int)) rfl rfl (.inl rfl) (by show Value.int .u64 (IntKind.u64.wrap _)=_;rw[ho,U7 O]) (Y ?_);refine VC (fU QE) (fU vD) rfl ?_;rw[V8 ⟨O,O⟩];refine OB ?_;refine VD (λ(q:Nat) u=>Q=u/\q<k) (λq=>[(0,.slice (some ⟨r,0,none⟩) n cap),(1,vi a),(i 6,vi k),(i 7,pt h),(i 8,.int .u64 (M:Int)),(i 9,vi (a+k / 4 * 2-1+t:Nat)),(i 10,vi q)]) (λ_=>[]) ?_ ?_
    ·refine OB ?_;refine OI (λg3=>?_) (λg3=>?_)
     ·refine Y ?_;exact⟨o-k,⟨rfl,O⟩,⟨rfl,rfl,rfl,rfl,rfl,rfl,by show some (vi ((o:Int)-(k:Int)))=some (vi ((o-k:Nat):Int));congr 2;omega,trivial⟩,trivial,rfl⟩
     refine Y ?_;exact⟨o,⟨rfl,O⟩,V,trivial,rfl⟩
    rintro q _ ⟨rfl,hq⟩;refine Y ?_;have d:=AT.of w.at_;refine Zi (a+q) rfl rfl O O (Y ?_);first | refine Zh (Loud.fD _) rfl (AT.cI f d O rfl) ?_ | refine Zn (Loud.fD _) rfl (AT.cA f d O rfl) (g9.len f _) ?_
    refine Y ?_;refine Zi (a+k / 4 * 2-1+t) rfl rfl O O (Y ?_);first | refine Zh (Loud.fD _) rfl (AT.cI f d O rfl) ?_ | refine Zn (Loud.fD _) rfl (AT.cA f d O rfl) (g9.len f _) ?_
    refine Y ?_;refine Zi (a+k / 4 * 2-1+t) rfl rfl O O (Y ?_);first | refine Zr (m8.row f) (fT t3) d O rfl rfl rfl (f _).symm rfl λHW p=>?_ | refine Zr f (fT Z0) d O rfl rfl rfl rfl (g9.len f _) λHW p=>?_
    refine Zz Loud.fD (Y ?_);refine Zi (a+q) rfl rfl O O (Y ?_);first | refine Zr (m8.row f) (fT t3) p (by rw[qAe];omega) rfl rfl rfl (f _).symm rfl λR g=>?_ | refine Zr f (fT Z0) p (by rw[qAe];omega) rfl rfl rfl rfl (g9.len f _) λR g=>?_
    refine Y ?_;have G:=w.trans g;have K:R h=some (.cells #[.int .u64 (z:Int)] 408 (0,0),true):=g.keep h _ Z L;refine⟨(⟨t+1,O⟩,(jK c (a+k / 4 * 2-1+t) (a+q),z)),gI O,⟨G,.step _ _ D O O O O,K⟩,V,trivial,rfl⟩
   refine Y ?_;exact⟨c,B,D⟩
  ·exact absurd U O
end
section
variable{P:fP}[Tz P][Loud P]
def Zvb{H:Hp}(g:SK P H r S E mm)(h:∀k,k<l.length->S (el l k))(f:H r=some (.cells (kH E l++rest).toArray (pX E) (0,0),true))(j:l.length=n)(c:a<=b)(hb:b<=n)(i:n<=1000000) :
  LL.Zb P (fz mm 224 337) (.slice (some ⟨r,0,none⟩) n cap :: vi a :: vi b :: mm).toArray H λv e=>∃d,AT E H e r d rest/\Rg a b l d/\So a b d:=by
 subst j;exact Zvc f c hb i g h
def Zvo{c:Nat}{H:Hp}(g:SK P H r S E mm)(h:∀k,k<l.length->S (el l k))(f:H r=some (.cells (kH E l++rest).toArray (pX E) (0,0),true))(j:l.length=n)(hb:a+c<=n)(i:n<=1000000) :
  LL.Zb P (fz mm 225 338) (.slice (some ⟨r,0,none⟩) n cap :: vi a :: vi (a+c:Nat) :: mm).toArray H λv e=>∃d,AT E H e r d rest/\Rg a (a+c) l d/\So a (a+c) d:=by
 subst j;exact Zvp g h f hb i
abbrev FW(o:Nat->Nat)(q:Nat×Value)(r n cap a b c:Nat)(f g:Bool):List (Nat×Value):=[(0,.slice (some ⟨r,0,none⟩) n cap),(1,vi a),(2,vi b),(3,vi c),q,(o 8,vb f),(o 9,vb g)]
theorem Zh3(hl:n<=60000):∀(N o j C:Nat) (l:List Int) (H:Hp),j-o<=N->H r=some (.cells (kH E l++rest).toArray (pX E) (0,0),true)->SK P H r S E mm->(∀k,k<l.length->S (el l k))->l.length=n->o<=j->j<=n->C<=100->FD o j l ->
  LL.Zb P (fz mm 157 288) (.slice (some ⟨r,0,none⟩) n cap :: vi o :: vi j :: vi C :: mm).toArray H λv T=>∃l',AT E H T r l' rest/\Rg o j l l'/\So o j l':=by
 intro N;induction N using Nat.strongRecOn with
 | _ N ih=>
 intro o j RJ l H hN hA hK R hn Wp hb Tf lw;have B:=hK;rcases hK with⟨hE⟩ | ⟨cv,hE,hC⟩
 rotate_left;refine aU.m (fO ZmW) rfl ?_;unfold Zfi;let mm:=[cv]
 let I:Nat->Nat:=λn=>n+2
 let qq:Nat×Value:=(4,cv)
 rotate_left;refine aU.m (fO Zxg) rfl ?_;unfold Zjo;let mm:List Value:=[]
 let I:Nat->Nat:=λn=>n
 let qq:Nat×Value:=(0,.slice (some ⟨r,0,none⟩) n cap)
 have hC:=True.intro;all_goals
  refine OB ?_
  refine Yp (α:=List Int×(Nat×Nat)×Nat×Bool×Bool) (j-o) (λt s T=>AT E H T r s.1 rest/\sZ o j s.2.1.1 s.2.1.2 l s.1/\s.2.2.1<=100/\s.2.1.2-s.2.1.1+t=j-o)
   (λt s=>FW I qq r n cap s.2.1.1 s.2.1.2 s.2.2.1 s.2.2.2.1 s.2.2.2.2) (λ_ _=>[]) (l,(o,j),RJ,true,true) ⟨AT.of hA,.start Wp lw,Tf,rfl⟩ V trivial ?_
  rintro t ⟨c,⟨a,b⟩,C,f,g⟩ H1 ht ⟨ar,pd,Jm,hm⟩
  simp only at ar pd Jm hm
  have qB:=pd.rg.len
  have g1:=pd.h1
  have g2:=pd.h2
  have g3:=pd.h3
  obtain⟨d,rfl⟩:∃d,b=a+d:=⟨b-a,O⟩
  have ed:(((a+d:Nat):Int)-(a:Int))=(d:Int):=O
  have D:a+d<=n:=O
  have es:UP ((VO (.slice (some ⟨r,0,none⟩) n cap :: vi o :: vi j :: vi RJ :: mm)).gR) (FW I qq r n cap a (a+d) C f g) []=UP [] (FW I qq r n cap a (a+d) C f g) []:=rfl
  dsimp only[FW]
  have vM:j<=c.length:=O
  refine OB ?_
  rw[ed]
  refine OB ?_
  refine VL ?_
  refine OB ?_
  refine OI (λc1=>?_) (λc1=>?_)
  ·refine Y ?_;refine Zg (vs:=.slice (some ⟨r,0,none⟩) n cap :: vi a :: vi (a+d:Nat) :: mm) (Zvb (B.of ar.keep) (λk A=>ZL pd.rg O R A) ar.at_ O O D O) ?_;exact GV
  ·have c1:12<d:=O;refine OB ?_;refine VL ?_;refine OB ?_;refine OI (λc2=>?_) (λc2=>?_)
   ·refine Y ?_;refine Zg (vs:=.slice (some ⟨r,0,none⟩) n cap :: vi a :: vi (a+d:Nat) :: mm) (Zvo (B.of ar.keep) (λk A=>ZL pd.rg O R A) ar.at_ O D O) ?_;exact GV
   refine OB ?_;refine VD (λ(s:List Int×Nat) T=>AT E H T r s.1 rest/\sZ o j a (a+d) l s.1/\s.2<=100) (λs=>(I 10,vi d) :: FW I qq r n cap a (a+d) s.2 f g) (λ_=>[]) ?_ ?_
   ·refine OB ?_;refine OI (λc3=>?_) (λc3=>?_)
    ·refine Y ?_;refine Zg (vs:=.slice (some ⟨r,0,none⟩) n cap :: vi a :: vi (a+d:Nat) :: mm) (Zy2 (B.of ar.keep) (λk A=>ZL pd.rg O R A) ar.at_ O c1 D hl) ?_;rintro v H2 ⟨c2',Xt,Qk⟩;refine Y ?_;exact⟨(c2',C-1),⟨ar.trans Xt,pd.step Qk vM,by show C-1<=100;omega⟩,⟨rfl,rfl,rfl,rfl,by show some (vi ((C:Int)-1))=some (vi ((C-1:Nat):Int));congr 2;omega,rfl,rfl,rfl,trivial⟩,trivial,rfl⟩
    refine Y ?_;exact⟨(c,C),⟨ar,pd,Jm⟩,V,trivial,rfl⟩
   rintro⟨c3,u⟩ H3 ⟨W,M,L⟩;simp only at W M L;have hc3:=M.rg.len;refine OB ?_;refine Zg (vs:=.slice (some ⟨r,0,none⟩) n cap :: vi a :: vi (a+d:Nat) :: mm) (Zwt (B.of W.keep) (λk A=>ZL M.rg O R A) W.at_ O O D O) ?_;rintro v H4 ⟨p4,h4,i4,rfl,p41,p42⟩;have x8:AT E H H4 r c3 rest:=⟨λb x hb hx=>i4 _ _ (W.keep b x hb hx),i4 _ _ W.at_⟩;refine OB ?_;refine VD (λ(s:List Int×Nat×Int) T=>AT E H T r s.1 rest/\sZ o j a (a+d) l s.1/\a<=s.2.1/\s.2.1<a+d) (λs=>(I 10,vi d) :: (I 11,vi s.2.1) :: (I 12,vi s.2.2) :: FW I qq r n cap a (a+d) u f g) (λ_=>[]) ?_ ?_
   ·refine OB ?_;refine OI (λc5=>?_) (λc5=>?_)
    ·refine Y ?_;refine Zg (vs:=.slice (some ⟨r,0,none⟩) n cap :: vi a :: vi (a+d:Nat) :: mm) (ZpW (B.of x8.keep) (λk A=>ZL M.rg O R A) x8.at_ O O D O) ?_;rintro v H5 ⟨Xm,ar5,rg5⟩;refine Y ?_;exact⟨(Xm,a+d-1-(p4-a),1),⟨x8.trans ar5,M.step rg5 O,by show a<=a+d-1-(p4-a);omega,by show a+d-1-(p4-a)<a+d;omega⟩,⟨rfl,by show some (vi _)=some (vi _);congr 2;show((a+d:Nat):Int)-1-((p4:Int)-(a:Int))=((a+d-1-(p4-a):Nat):Int);omega,rfl,rfl,rfl,rfl,rfl,rfl,rfl,rfl,trivial⟩,trivial,rfl⟩
    refine Y ?_;exact⟨(c3,p4,h4),⟨x8,M,p41,p42⟩,V,trivial,rfl⟩
   rintro⟨c6,p6,h6⟩ H6 ⟨qV,NP,Qm,Ql⟩;simp only at qV NP Qm Ql;have hc6:=NP.rg.len;refine OB ?_;refine VD (λ(s:List Int) T=>AT E H T r s rest/\sZ o j a (a+d) l s) (λ_=>(I 10,vi d) :: (I 11,vi p6) :: FW I qq r n cap a (a+d) u f g) (λ_=>[]) ?_ ?_
   ·cases f
    ·exact LI
    cases g
    ·exact LI
    refine OJ (λc7=>?_) (λc7=>?_)
    ·refine Y ?_;refine Zg (vs:=.slice (some ⟨r,0,none⟩) n cap :: vi a :: vi (a+d:Nat) :: mm) (ZsV (B.of qV.keep) (λk A=>ZL NP.rg O R A) qV.at_ O O D O NP.low) ?_;rintro v H7 ⟨c7',t7,ar7,rg7,rfl,so7⟩;have Qr:=NP.step rg7 O;refine OJ (λc8=>?_) (λc8=>?_)
     ·refine Y ?_;exact⟨c7',qV.trans ar7,Qr.rg,Qr.fin (so7 c8)⟩
     refine Y ?_;exact⟨c7',⟨qV.trans ar7,Qr⟩,V,trivial,rfl⟩
    exact LI
   rintro c8 H8 ⟨w,G⟩;have hc8:=G.rg.len;refine OB ?_;refine VD (λ(_:Unit) T=>H8=T) (λ_=>(I 10,vi d) :: (I 11,vi p6) :: FW I qq r n cap a (a+d) u f g) (λ_=>[]) ?_ ?_
   ·refine OB ?_;refine OI (λk1=>?_) (λk1=>?_)
    ·have k1:0<a:=O;refine Y ?_;refine Zi (a-1) rfl rfl O O (Y ?_);first | refine Zh (Loud.fD _) rfl (AT.cI hE w O rfl) ?_ | refine Zn (Loud.fD _) rfl (AT.cA hE w O rfl) (g9.len hE _) ?_
     refine Y ?_;refine Zi p6 rfl rfl O O (Y ?_);first | refine Zh (Loud.fD _) rfl (AT.cI hE w O rfl) ?_ | refine Zn (Loud.fD _) rfl (AT.cA hE w O rfl) (g9.len hE _) ?_
     refine Y ?_;first | refine Zg (Vv _ _) ?_ | refine ZP rfl rfl (hC _ (AT.keep w) _ _ (ZL G.rg O R O) (ZL G.rg O R O)) ?_
     intro vW KW hW;obtain⟨eA,eB⟩:=hW;subst eA eB;refine OJ (λk2=>?_) (λk2=>?_);all_goals try rw[Vj]at k2
     ·refine Y ?_;refine Zg (vs:=.slice (some ⟨r,0,none⟩) n cap :: vi a :: vi (a+d:Nat) :: vi p6 :: mm) (ZsW (B.of w.keep) (λk A=>ZL G.rg O R A) w.at_ O Qm Ql D O) ?_;rintro v H9 ⟨X,i,F,Q,pe9,rfl⟩;have hc9:=Q.len;have lo9:∀k,a<=k->k<a+d->el c8 p6<=el X k:=Q.all O (p:=λv=>el c8 p6<=v) (λk k1' k2'=>by
       rcases G.low with h | h
       ·omega
       have:=h k k1' k2';omega)
      obtain⟨e1,e2,e3,e4⟩:=pe9;have K:=(G.step Q O).left (q:=i) O e2 (λx y x1 x2 x3=>by have:=e3 x x1 O;have:=lo9 y O O;omega) (λx y x1 x2 x3 x4=>by have:=e3 x x1 x2;have:=e4 y x3 x4;omega);refine Y ?_;refine⟨(⟨j-o-(a+d-i),O⟩,(X,(i,a+d),u,f,g)),?_,⟨w.trans F,K,L,?_⟩,V,trivial,rfl⟩
      ·show j-o-(j-o-(a+d-i))<j-o-t;omega
      show a+d-i+(j-o-(a+d-i))=j-o;omega
     refine Y ?_;exact⟨(),rfl,V,trivial,rfl⟩
    refine Y ?_;exact⟨(),rfl,V,trivial,rfl⟩
   rintro _ _ rfl;refine OB ?_;refine Zg (vs:=.slice (some ⟨r,0,none⟩) n cap :: vi a :: vi (a+d:Nat) :: vi p6 :: mm) (ZsU (B.of w.keep) (λk A=>ZL G.rg O R A) w.at_ O Qm Ql D O) ?_;rintro v H9 ⟨X,i,t9,F,Q,⟨e1,e2,e3,e4⟩,rfl⟩;have hc9:=Q.len;have K:=G.step Q O;have e8:((d:Int)).tdiv 8=((d / 8:Nat):Int):=by rw[qBA O];omega
   refine Y ?_;refine yC rfl rfl (by decide) (by rw[e8];exact⟨O,O⟩) ?_;refine OJ (λk3=>?_) (λk3=>?_)
   ·refine Y ?_;refine Zg (vs:=.slice (some ⟨r,0,none⟩) n cap :: vi a :: vi i :: vi u :: mm) (ih (i-a) O a i u X H9 (DO _) F.at_ (B.of (w.trans F).keep) (λk A=>ZL K.rg O R A) O e1 O L (K.low.imp id λh k k1 k2=>h k k1 O)) ?_;rintro v H10 ⟨J,U,z,KA⟩;have out:∀k,i<=k->el J k=el X k:=λk A=>z.out O (.inr A);have lo:∀k,a<=k->k<i->el J k<=el X i:=z.all O (p:=λv=>v<=el X i) e3;have Z:=(K.step (z.mono (DO _) O) O).left (q:=i+1) O O (λx y x1 x2 x3=>by
     by_cases e:y<i
     ·exact KA x y x1 x2 e
     ·have ey:y=i:=O;subst ey;by_cases ex:x=y
      ·subst ex;exact qAO _
      rw[out y (DO _)];exact lo x x1 O) (λx y x1 x2 x3 x4=>by
     rw[out y O];have h4:=e4 y O x4;by_cases ex:x=i
     ·subst ex;rw[out x (DO _)];exact h4
     exact qCM (lo x x1 O) h4)
    refine Y ?_;refine⟨(⟨j-o-(a+d-(i+1)),O⟩,(J,(i+1,a+d),u,_,t9)),?_,⟨(w.trans F).trans U,Z,L,?_⟩,V,trivial,rfl⟩
    ·show j-o-(j-o-(a+d-(i+1)))<j-o-t;omega
    show a+d-(i+1)+(j-o-(a+d-(i+1)))=j-o;omega
   refine Y ?_;refine Zg (vs:=.slice (some ⟨r,0,none⟩) n cap :: vi (i+1:Nat) :: vi (a+d:Nat) :: vi u :: mm) (ih (a+d-(i+1)) O (i+1) (a+d) u X H9 (DO _) F.at_ (B.of (w.trans F).keep) (λk A=>ZL K.rg O R A) O O D L (.inr λk k1 k2=>e4 k O k2)) ?_;rintro v H10 ⟨J,U,z,KA⟩;have out:∀k,k<=i->el J k=el X k:=λk A=>z.out O (.inl O);have lo:∀k,i+1<=k->k<a+d->el X i<=el J k:=z.all O (p:=λv=>el X i<=v) (λk k1 k2=>e4 k O k2);have Z:=(K.step (z.mono O (DO _)) O).right (q:=i) e1 O (λx y x1 x2 x3=>by
    by_cases e:i<x
    ·exact KA x y O x2 x3
    ·have ex:x=i:=O;subst ex;by_cases ey:y=x
     ·subst ey;exact qAO _
     rw[out x (DO _)];exact lo y O x3) (λx y x1 x2 x3 x4=>by
    rw[out x O];have h3:=e3 x x1 x2;by_cases ey:y=i
    ·subst ey;rw[out y (DO _)];exact h3
    exact qCM h3 (lo y O x4))
   refine Y ?_;refine⟨(⟨j-o-(i-a),O⟩,(J,(a,i),u,_,t9)),?_,⟨(w.trans F).trans U,Z,L,?_⟩,V,trivial,rfl⟩
   ·show j-o-(j-o-(i-a))<j-o-t;omega
   show i-a+(j-o-(i-a))=j-o;omega
theorem Zht(l:List Int):kH (λz=>[vi z]) l=Zd l:=by
 rw[UC];unfold kH;induction l with
 | nil=>rfl
 | cons x l ih=>rw[qAI,ih];rfl
def ZsR(q:n<=60000):∀(N e c d:Nat) (l:List Int) (H:Hp),c-e<=N->H r=some (.cells (Zd l++rest).toArray 3 (0,0),true)->l.length=n->e<=c->c<=n->d<=100->FD e c l ->
  LL.Zb P 157 #[.slice (some ⟨r,0,none⟩) n cap,vi e,vi c,vi d] H λv k=>∃g,AR H k r g rest/\Rg e c l g/\So e c g:=
 λN e c d l H p o s j hb f t=>
  (Zh3 (rest:=rest) (cap:=cap) (E:=λz=>[vi z]) (S:=λ_=>True) q N e c d l H p (by rw[Zht];exact o) (.i λ_=>rfl) (λ_ _=>trivial) s j hb f t).mono λv k ⟨g,m,h⟩=>⟨g,⟨m.keep,by rw[<-Zht];exact m.at_⟩,h⟩
end
def u1(x:Int):List Int->List Int
 | []=>[x]
 | y :: r=>if x<=y then x :: y :: r else y :: u1 x r
def sB:List Int->List Int
 | []=>[]
 | x :: r=>u1 x (sB r)
def ZfD(x:Int):∀l,(u1 x l).Perm (x :: l)
 | []=>.refl _
 | y :: r=>by
  rw[u1];split
  ·exact .refl _
  exact((ZfD x r).cons y).trans (.swap x y r)
def HO:∀l,(sB l).Perm l
 | []=>.refl _
 | x :: r=>(ZfD x (sB r)).trans ((HO r).cons x)
def ZlH(x:Int):∀{l:List Int},l.Pairwise (·<=·)->(u1 x l).Pairwise (·<=·)
 | [],_=>by simp[u1]
 | y :: r,h=>by
  rw[u1];split
  ·rename_i c;refine qBF.2 ⟨λz d=>?_,h⟩;rcases qAi.1 d with rfl | d
   ·exact c
   exact qCM c ((qBF.1 h).1 z d)
  rename_i c;obtain⟨e,f⟩:=qBF.1 h;refine qBF.2 ⟨λz d=>?_,ZlH x f⟩;rcases qAi.1 ((ZfD x r).mem_iff.1 d)with rfl | d
  ·omega
  exact e z d
def Kn:∀l,(sB l).Pairwise (·<=·)
 | []=>.nil
 | x :: r=>ZlH x (Kn r)
def ZoQ{c:List Int}(h:l.Perm c)(d:l.Pairwise (·<=·))(e:c.Pairwise (·<=·)):l=c:=
 h.eq_of_pairwise (le:=(·<=·)) (λa b _ _ x y=>Int.le_antisymm x y) d e
def Zg8(h:So 0 l.length l):l.Pairwise (·<=·):=by rw[qCd];intro i j d c e;have:=h i j (qBf _) O c;rwa [V1 d,V1 c]at this
section
variable{P:fP}[Tz P][Loud P]{H:Hp}
def ZzH{d:Hp}{o:Option Nat}(y:fI d H)(s:gL d H 3 v l o)(g:l≠[])(z:l.length<=60000) :
  LL.Zb P 78 #[v] H λ_ j=>fI d j/\gL d j 3 v (sB l) o:=by
 have c:=s.fresh;obtain⟨F,⟨G,u,p⟩ | ⟨r,cap,rest,rfl,rfl,p,q,x⟩⟩:=s.own
 ·exact absurd (qAr u) g
 have h:=c r rfl;have A:=Zfy (m:=l.length) O;refine aU.m (fO Zy1) rfl ?_;unfold Zk9;refine Y ?_;refine VC (fU vD) (fU QE) rfl ?_;rw[U7 (m:=l.length) O];refine Y ?_;refine Zg (vs:=[.int .u64 l.length]) (X1 O) ?_;rintro w _ ⟨rfl,rfl⟩;refine Y ?_;refine Zg (vs:=[.slice (some ⟨r,0,none⟩) l.length cap,vi (0:Nat),vi l.length,vi (jQ l.length:Nat)]) (ZsR (rest:=rest) z l.length 0 l.length (jQ l.length) l H O p rfl (qBf _) (DO _) O (.inl rfl)) ?_;rintro w D ⟨B,k,t,C⟩;have f:=t.len;have i:B=sB l:=ZoQ ((t.perm (DO _)).trans (HO l).symm) (Zg8 (by rw[f];exact C)) (Kn l);have e:(sB l).length=l.length:=(HO l).length_eq;subst i;refine Y ?_;refine⟨k.inc y h,⟨by rw[V0];show _=(sB l).length * 1;omega,.inr ⟨r,cap,rest,rfl,by rw[e],k.at_,?_,by rw[e];exact x⟩⟩,c⟩;rw[IN,V0,e];rw[IN,V0]at q;exact q
def YN{H:Hp}{a:Addr}{cs ds:List Value}(h:aM H a (cs++ds)):aM H a cs:=by obtain⟨c,o,p,d,e⟩:=h;refine⟨c,o,p,d,λj f=>?_⟩;rw[e j (by rw[IN];omega),qAQ f]
def add_zero(a:Addr):a.add 0=a:=by unfold Addr.add;simp
def Po:Yw Tryz.prog 31=some (2,some (.agg #[vi 0,vi 0]),16):=U
end
def VQ:List Int->List Int->Int
 | [],[]=>0
 | [],_ :: _=>-1
 | _ :: _,[]=>1
 | x :: a,y :: b=>if YY x y≠0 then YY x y else VQ a b
section
variable{P:fP}[Tz P][Loud P]{H:Hp}
def Zwp(m n:Int):LL.Zb P 218 #[vi m,vi n] H λv e=>H=e/\v=vi (YY m n):=by
 refine aU.m (fO ZwT) rfl ?_;unfold Zi1;refine Y ?_;refine Z7 (vs:=[vi m]) rfl (ZfB m) ?_;rintro v _ ⟨rfl,rfl⟩;refine Y ?_;refine Z7 (vs:=[vi n]) rfl (ZfB n) ?_;rintro v _ ⟨rfl,rfl⟩;refine OJ (λc=>?_) (λc=>?_)
 ·refine Y ?_;exact⟨rfl,by rw[YY,qAa c];rfl⟩
 refine OJ (λd=>?_) (λd=>?_)
 ·refine Y ?_;exact⟨rfl,by rw[YY,iF c,qAa d];rfl⟩
 refine Y ?_;exact⟨rfl,by rw[YY,iF c,iF d];rfl⟩
def ZnA{u w:Value}{a b:List Int}(o:dF H u a)(hb:dF H w b)(B:a.length<=1000000)(x:b.length<=1000000)(f:P.still H.gh=false):LL.Zb P 149 #[u,w] H λv g=>H=g/\v=vi (VQ a b):=by
 refine aU.m (fO Zw8) rfl ?_;unfold Zjg;refine Y ?_;refine YH o rfl (Y ?_);refine ZC a.length (λj g=>H=g/\j<=b.length/\VQ a b=VQ (a.drop j) (b.drop j)) (λj=>[(0,u),(1,w),(9,u),(10,vi a.length),(11,vi j)]) (λ_=>[]) ⟨rfl,qBf _,rfl⟩ V trivial ?_;rintro j _ A ⟨rfl,t,c⟩;refine OJ (λs=>?_) (λs=>?_)
 ·have e:j<a.length:=O;rw[CI e]at c;refine Y ?_;refine yZ o rfl rfl rfl (i:=j) e λp y=>Y ?_;refine Zh f rfl y (Y ?_);refine YH hb rfl ?_;refine OJ (λh=>?_) (λh=>?_)
  ·refine Y ?_;have:b.drop j=[]:=qBZ O;rw[this]at c;exact⟨rfl,by rw[c];rfl⟩
  have d:j<b.length:=O;rw[CI d,VQ]at c;refine Y ?_;refine yZ hb rfl rfl rfl (i:=j) d λq z=>Y ?_;refine Zh f rfl z (Y ?_);refine Z7 (vs:=[vi a[j],vi b[j]]) rfl (Zwp _ _) ?_;rintro v _ ⟨rfl,rfl⟩;refine OJ (λk=>?_) (λk=>?_)
  ·refine Y ?_;rw[qAa k]at c;exact⟨rfl,by rw[c];rfl⟩
  refine Y ?_;rw[iF (by simpa using k)]at c;exact⟨⟨j+1,O⟩,gI O,⟨rfl,d,c⟩,V,trivial,rfl⟩
 have:j=a.length:=O;subst this;rw[qCQ]at c;refine Y ?_;refine YH o rfl (Y ?_);refine YH hb rfl ?_;refine OJ (λh=>?_) (λh=>?_)
 ·refine Y ?_;rw[CI (l:=b) (j:=a.length) O]at c;exact⟨rfl,by rw[c];rfl⟩
 refine Y ?_;rw[qBZ O]at c;exact⟨rfl,by rw[c];rfl⟩
structure qD(H:Hp)(vs:List Value)(ls:List (List Int)):Prop where
 len:vs.length=ls.length
 at_:∀i (h:i<vs.length) (h':i<ls.length),dF H vs[i] ls[i]
def qD.nil(H:Hp):qD H [] []:=⟨rfl,λi h=>by simp at h⟩
def qD.inc{H H':Hp}(h:qD H vs ls)(c:fI H H'):qD H' vs ls:=⟨h.len,λi a b=>(h.at_ i a b).inc c⟩
def qD.pP{H:Hp}(h:qD H vs ls)(d:dF H v l):qD H (vs++[v]) (ls++[l]):=by
 refine⟨by simp[h.len],λi a b=>?_⟩;have:=h.len;by_cases c:i<vs.length
 ·rw[qBw c,qBw O];exact h.at_ i c O
 simp only[IN,qAW]at a;have e:i=vs.length:=O;subst e;rw[qBL (DO _),qBL O];simp[this];exact d
end
