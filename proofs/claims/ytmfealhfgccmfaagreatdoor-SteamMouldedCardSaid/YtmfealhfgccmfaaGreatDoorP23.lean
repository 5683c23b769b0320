import Derived.Test.YtmfealhfgccmfaaGreatDoorP22
set_option linter.all false
set_option maxHeartbeats 16000000
set_option maxRecDepth 20000
def LR{G:Prop}(h:G:=by refine Y ?_;exact⟨jj,⟨rfl,jT,.inl O,λh=>O,O⟩,V,trivial,rfl⟩):G:=h
def S3{G:Prop}(h:G:=by refine Y ?_;exact⟨jj,⟨rfl,jT,.inr O,λh=>by have:=Ir;omega,O⟩,V,trivial,rfl⟩):G:=h
def GU{G:Prop}(h:G:=by refine Y ?_;exact⟨i4+t,⟨rfl,jT,.inr O,O⟩,V,trivial,rfl⟩):G:=h
def GO{G:Prop}(h:G:=by refine Y ?_;exact⟨i4+t,⟨rfl,jT,.inl O,O⟩,V,trivial,rfl⟩):G:=h
open Go Go.LL
namespace Go.Proofs
variable{r cap a b p n r2 s x y:Nat}{l:List Int}{rest mm:List Value}{E:Int->List Value}{S:Int->Prop}{H0:Hp}
section
variable{P:fP}[Tz P][Loud P]{H:Hp}
def ZsU(hK:SK P H r S E mm)(Z:∀k,k<l.length->S (el l k))(hA:H r=some (.cells (kH E l++rest).toArray (pX E) (0,0),true))(hn:l.length=n)(Wn:a<=p)(hpb:p<b)(hb:b<=n)(hl:n<=1000000) :
  LL.Zb P (fz mm 232 344) (.slice (some ⟨r,0,none⟩) n cap :: vi a :: vi b :: vi p :: mm).toArray H λv A=>∃l' q t,AT E H A r l' rest/\Rg a b l l'/\PtQ a b l' q/\v=.tuple #[vi (q:Nat),vb t]:=by
 have N3:=hK;rcases hK with⟨c⟩ | ⟨cv,c,hC⟩
 rotate_left;refine aU.m (fO Zxv) rfl ?_;unfold ZjD;let mm:=[cv]
 let B:Nat->Nat:=λn=>n+2
 let U:Nat×Value:=(4,cv)
 rotate_left;refine aU.m (fO ZwX) rfl ?_;unfold Zi5;let mm:List Value:=[]
 let B:Nat->Nat:=λn=>n
 let U:Nat×Value:=(0,.slice (some ⟨r,0,none⟩) n cap)
 have hC:=True.intro;all_goals
  have J:=AT.of hA
  refine Y ?_
  refine Zi p rfl rfl O O ?_
  refine Y ?_
  first | refine Zh (Loud.fD _) rfl (AT.cI c J O rfl) ?_ | refine Zn (Loud.fD _) rfl (AT.cA c J O rfl) (g9.len c _) ?_
  refine Y ?_
  refine Zi a rfl rfl O O ?_
  refine Y ?_
  first | refine Zh (Loud.fD _) rfl (AT.cI c J O rfl) ?_ | refine Zn (Loud.fD _) rfl (AT.cA c J O rfl) (g9.len c _) ?_
  refine Y ?_
  refine Zi a rfl rfl O O ?_
  refine Y ?_
  first | refine Zr (m8.row c) (fT t3) J O rfl rfl rfl (c _).symm rfl λW g=>?_ | refine Zr c (fT Z0) J O rfl rfl rfl rfl (g9.len c _) λW g=>?_
  refine Zz Loud.fD ?_
  refine Y ?_
  refine Zi p rfl rfl O O ?_
  refine Y ?_
  first | refine Zr (m8.row c) (fT t3) g (by rw[qAe];omega) rfl rfl rfl (c _).symm rfl λH1 d=>?_ | refine Zr c (fT Z0) g (by rw[qAe];omega) rfl rfl rfl rfl (g9.len c _) λH1 d=>?_
  refine OB ?_
  have xZ:(l.set a (el l p)).set p (el l a)=jK l a p:=rfl
  rw[xZ]at d
  have I:Rg a b l (jK l a p):=.step _ _ (.refl l) O O O O
  have ev:el (jK l a p) a=el l p:=by
   rw[Vt _ O O];by_cases e:a=p
   ·rw[qAa e,e]
   rw[iF e,qAa rfl]
  have pi1:vB a b (a+1) (b-1) (el l p) (jK l a p):=⟨ev,λk h1 h2=>O,λk h1 h2=>O,O,O,O⟩
  generalize jK l a p=c1 at *
  have Xj:((b:Int)-1)=((b-1:Nat):Int):=O
  rw[Xj]
  generalize el l p=v at *
  have hc1:=I.len
  refine OB ?_
  refine VD (λ(i:Nat) A=>H1=A/\vB a b i (b-1) v c1/\((b-1)<i\/v<=el c1 i)/\(a+1)<=i) (λi=>[(0,.slice (some ⟨r,0,none⟩) n cap),(1,vi a),U,(B 10,vi ((i:Nat):Int)),(B 11,vi (((b-1):Nat):Int))]) (λ_=>[]) ?_ ?_
  ·refine Y ?_;refine ZC ((b-1)+1-(a+1)) (λt A=>H1=A/\vB a b ((a+1)+t) (b-1) v c1) (λt=>[(0,.slice (some ⟨r,0,none⟩) n cap),(1,vi a),U,(B 10,vi (((a+1)+t:Nat):Int)),(B 11,vi (((b-1):Nat):Int))]) (λ_=>[]) ⟨rfl,pi1⟩ V trivial ?_;rintro t _ ht ⟨rfl,jT⟩;have q1:=jT.ai;have q2:=jT.ij;have q3:=jT.jb;have R:=jT.eq;refine OJ (λz1=>?_) (λz1=>?_)
   ·refine Y ?_;refine Zi ((a+1)+t) rfl rfl O O (Y ?_);first | refine Zh (Loud.fD _) rfl (AT.cI c d O rfl) ?_ | refine Zn (Loud.fD _) rfl (AT.cA c d O rfl) (g9.len c _) ?_
    refine Y ?_;refine Zi a rfl rfl O O (Y ?_);first | refine Zh (Loud.fD _) rfl (AT.cI c d O rfl) ?_ | refine Zn (Loud.fD _) rfl (AT.cA c d O rfl) (g9.len c _) ?_
    refine Y ?_;first | refine Zg (Vv _ _) ?_ | refine ZP rfl rfl (hC _ (AT.keep d) _ _ (ZL I O Z O) (ZL I O Z O)) ?_
    intro vW KW hW;obtain⟨eA,eB⟩:=hW;subst eA eB;refine OJ (λF=>?_) (λF=>?_);all_goals try rw[Vj]at F
    all_goals rw[R]at F
    ·refine Y ?_;refine⟨⟨t+1,O⟩,gI O,⟨rfl,R,λk k1 X=>?_,jT.hi,?_,?_,jT.jb⟩,V,trivial,rfl⟩
     ·have X:k<(a+1)+(t+1):=X;by_cases e:k=(a+1)+t
      ·subst e;exact F
      exact jT.lo k k1 O
     ·show a+1<=(a+1)+(t+1);omega
     show(a+1)+(t+1)<=(b-1)+1;omega
    refine Y ?_;exact⟨(a+1)+t,⟨rfl,jT,.inr O,O⟩,V,trivial,rfl⟩
   refine Y ?_;exact⟨(a+1)+t,⟨rfl,jT,.inl O,O⟩,V,trivial,rfl⟩
  rintro o _ ⟨rfl,Qq,Is,gi2⟩
  refine OB ?_
  refine VD (λ(j:Nat) A=>H1=A/\vB a b o j v c1/\(j<o\/el c1 j<v)/\(o<=j->v<=el c1 o)/\j<=(b-1)) (λj=>[(0,.slice (some ⟨r,0,none⟩) n cap),(1,vi a),U,(B 10,vi ((o:Nat):Int)),(B 11,vi ((j:Nat):Int))]) (λ_=>[]) ?_ ?_
  ·refine Y ?_;refine ZC ((b-1)+1-o) (λt A=>H1=A/\vB a b o ((b-1)-t) v c1) (λt=>[(0,.slice (some ⟨r,0,none⟩) n cap),(1,vi a),U,(B 10,vi ((o:Nat):Int)),(B 11,vi (((b-1)-t:Nat):Int))]) (λ_=>[]) ⟨rfl,Qq⟩ V trivial ?_;rintro t _ ht ⟨rfl,jT⟩;have q1:=jT.ai;have q2:=jT.ij;have q3:=jT.jb;have R:=jT.eq;have q5:=Qq.ij;have q6:=Qq.jb;obtain⟨jj,SG⟩:∃jj,(b-1)-t=jj:=⟨_,rfl⟩;rw[SG]at jT q2 q3 ⊢;refine OJ (λz1=>?_) (λz1=>?_)
   ·refine Y ?_;refine Zi jj rfl rfl O O (Y ?_);first | refine Zh (Loud.fD _) rfl (AT.cI c d O rfl) ?_ | refine Zn (Loud.fD _) rfl (AT.cA c d O rfl) (g9.len c _) ?_
    refine Y ?_;refine Zi a rfl rfl O O (Y ?_);first | refine Zh (Loud.fD _) rfl (AT.cI c d O rfl) ?_ | refine Zn (Loud.fD _) rfl (AT.cA c d O rfl) (g9.len c _) ?_
    refine Y ?_;first | refine Zg (Vv _ _) ?_ | refine ZP rfl rfl (hC _ (AT.keep d) _ _ (ZL I O Z O) (ZL I O Z O)) ?_
    intro vW KW hW;obtain⟨eA,eB⟩:=hW;subst eA eB;refine OJ (λF=>?_) (λF=>?_);all_goals try rw[Vj]at F
    all_goals rw[R]at F
    ·refine Y ?_;refine⟨⟨t+1,O⟩,gI O,⟨rfl,R,jT.lo,λk k1 X=>?_,jT.ai,?_,?_⟩,⟨rfl,rfl,rfl,rfl,?_,trivial⟩,trivial,rfl⟩
     ·have k1:(b-1)-(t+1)<k:=k1;by_cases e:k=jj
      ·subst e;omega
      exact jT.hi k O X
     ·show o<=(b-1)-(t+1)+1;omega
     ·show(b-1)-(t+1)+1<=b;omega
     show some (vi ((jj:Int)-1))=some (vi (((b-1)-(t+1):Nat):Int));congr 2;omega
    refine Y ?_;exact⟨jj,⟨rfl,jT,.inr O,λh=>by have:=Is;omega,O⟩,V,trivial,rfl⟩
   exact LR
  rintro w _ ⟨rfl,N,sj3,sk3,gj3⟩
  have w1:=N.ai
  have w2:=N.ij
  have w3:=N.jb
  refine OB ?_
  refine VL ?_
  refine Y ?_
  refine OI (λg1=>?_) (λg1=>?_)
  ·refine Y ?_;refine Zi a rfl rfl O O (Y ?_);first | refine Zh (Loud.fD _) rfl (AT.cI c d O rfl) ?_ | refine Zn (Loud.fD _) rfl (AT.cA c d O rfl) (g9.len c _) ?_
   refine Y ?_;refine Zi w rfl rfl O O (Y ?_);first | refine Zh (Loud.fD _) rfl (AT.cI c d O rfl) ?_ | refine Zn (Loud.fD _) rfl (AT.cA c d O rfl) (g9.len c _) ?_
   refine Y ?_;refine Zi w rfl rfl O O (Y ?_);first | refine Zr (m8.row c) (fT t3) d O rfl rfl rfl (c _).symm rfl λW g=>?_ | refine Zr c (fT Z0) d O rfl rfl rfl rfl (g9.len c _) λW g=>?_
   refine Zz Loud.fD (Y ?_);refine Zi a rfl rfl O O (Y ?_);first | refine Zr (m8.row c) (fT t3) g (by rw[qAe];omega) rfl rfl rfl (c _).symm rfl λH5 K=>?_ | refine Zr c (fT Z0) g (by rw[qAe];omega) rfl rfl rfl rfl (g9.len c _) λH5 K=>?_
   refine Y ?_;exact⟨jK c1 w a,w,true,K,.step _ _ I O O O O,N.fin O O,rfl⟩
  ·have SI:o<=w:=O;have pK:o≠w:=λe=>by have h1:=sk3 SI;rw[e]at h1;rcases sj3 with h | h<;>omega
   have D:=N.swap SI (sk3 SI) (by rcases sj3 with h | h<;>omega) O;have rg4:Rg a b l (jK c1 o w):=.step _ _ I O O O O;refine OB ?_;refine Zi w rfl rfl O O (Y ?_);first | refine Zh (Loud.fD _) rfl (AT.cI c d O rfl) ?_ | refine Zn (Loud.fD _) rfl (AT.cA c d O rfl) (g9.len c _) ?_
   refine Y ?_;refine Zi o rfl rfl O O (Y ?_);first | refine Zh (Loud.fD _) rfl (AT.cI c d O rfl) ?_ | refine Zn (Loud.fD _) rfl (AT.cA c d O rfl) (g9.len c _) ?_
   refine Y ?_;refine Zi o rfl rfl O O (Y ?_);first | refine Zr (m8.row c) (fT t3) d O rfl rfl rfl (c _).symm rfl λW g=>?_ | refine Zr c (fT Z0) d O rfl rfl rfl rfl (g9.len c _) λW g=>?_
   refine Zz Loud.fD (Y ?_);refine Zi w rfl rfl O O (Y ?_);first | refine Zr (m8.row c) (fT t3) g (by rw[qAe];omega) rfl rfl rfl (c _).symm rfl λH5 K=>?_ | refine Zr c (fT Z0) g (by rw[qAe];omega) rfl rfl rfl rfl (g9.len c _) λH5 K=>?_
   have xZ:(c1.set o (el c1 w)).set w (el c1 o)=jK c1 o w:=rfl;rw[xZ]at K;generalize jK c1 o w=c3 at *;have ej3:((w:Int)-1)=((w-1:Nat):Int):=O;refine OB ?_;rw[ej3];refine VL ?_;refine OB ?_;refine Yp (α:=List Int×Nat×Nat) (w-1+1-(o+1)) (λt s A=>AT E H A r s.1 rest/\Rg a b l s.1/\vB a b s.2.1 s.2.2 v s.1/\s.2.2+1-s.2.1+t=w-1+1-(o+1)) (λt s=>[(0,.slice (some ⟨r,0,none⟩) n cap),(1,vi a),U,(B 10,vi ((s.2.1:Nat):Int)),(B 11,vi ((s.2.2:Nat):Int))]) (λ_ _=>[]) (c3,o+1,w-1) ⟨K,rg4,D,by show w-1+1-(o+1)+0=_;omega⟩ V trivial ?_;rintro t0 ⟨T,i4,G⟩ H7 NW ⟨f,u,RB,hm⟩;clear D;have D:=RB;clear RB;simp only at f u D hm;have hc4:=u.len;have y1:=D.ai;have y2:=D.ij;have y3:=D.jb;refine OB ?_;refine VD (λ(i:Nat) A=>H7=A/\vB a b i G v T/\(G<i\/v<=el T i)/\i4<=i) (λi=>[(0,.slice (some ⟨r,0,none⟩) n cap),(1,vi a),U,(B 10,vi ((i:Nat):Int)),(B 11,vi ((G:Nat):Int))]) (λ_=>[]) ?_ ?_
   ·refine Y ?_;refine ZC (G+1-i4) (λt A=>H7=A/\vB a b (i4+t) G v T) (λt=>[(0,.slice (some ⟨r,0,none⟩) n cap),(1,vi a),U,(B 10,vi ((i4+t:Nat):Int)),(B 11,vi ((G:Nat):Int))]) (λ_=>[]) ⟨rfl,D⟩ V trivial ?_;rintro t _ ht ⟨rfl,jT⟩;have q1:=jT.ai;have q2:=jT.ij;have q3:=jT.jb;have R:=jT.eq;refine OJ (λz1=>?_) (λz1=>?_)
    ·refine Y ?_;refine Zi (i4+t) rfl rfl O O (Y ?_);first | refine Zh (Loud.fD _) rfl (AT.cI c f O rfl) ?_ | refine Zn (Loud.fD _) rfl (AT.cA c f O rfl) (g9.len c _) ?_
     refine Y ?_;refine Zi a rfl rfl O O (Y ?_);first | refine Zh (Loud.fD _) rfl (AT.cI c f O rfl) ?_ | refine Zn (Loud.fD _) rfl (AT.cA c f O rfl) (g9.len c _) ?_
     refine Y ?_;first | refine Zg (Vv _ _) ?_ | refine ZP rfl rfl (hC _ (AT.keep f) _ _ (ZL u O Z O) (ZL u O Z O)) ?_
     intro vW KW hW;obtain⟨eA,eB⟩:=hW;subst eA eB;refine OJ (λF=>?_) (λF=>?_);all_goals try rw[Vj]at F
     all_goals rw[R]at F
     ·refine Y ?_;refine⟨⟨t+1,O⟩,gI O,⟨rfl,R,λk k1 X=>?_,jT.hi,?_,?_,jT.jb⟩,V,trivial,rfl⟩
      ·have X:k<i4+(t+1):=X;by_cases e:k=i4+t
       ·subst e;exact F
       exact jT.lo k k1 O
      ·show a+1<=i4+(t+1);omega
      show i4+(t+1)<=G+1;omega
     exact GU
    exact GO
   rintro z _ ⟨rfl,Qp,Ir,gi5⟩;refine OB ?_;refine VD (λ(j:Nat) A=>H7=A/\vB a b z j v T/\(j<z\/el T j<v)/\(z<=j->v<=el T z)/\j<=G) (λj=>[(0,.slice (some ⟨r,0,none⟩) n cap),(1,vi a),U,(B 10,vi ((z:Nat):Int)),(B 11,vi ((j:Nat):Int))]) (λ_=>[]) ?_ ?_
   ·refine Y ?_;refine ZC (G+1-z) (λt A=>H7=A/\vB a b z (G-t) v T) (λt=>[(0,.slice (some ⟨r,0,none⟩) n cap),(1,vi a),U,(B 10,vi ((z:Nat):Int)),(B 11,vi ((G-t:Nat):Int))]) (λ_=>[]) ⟨rfl,Qp⟩ V trivial ?_;rintro t _ ht ⟨rfl,jT⟩;have q1:=jT.ai;have q2:=jT.ij;have q3:=jT.jb;have R:=jT.eq;have q5:=Qp.ij;have q6:=Qp.jb;obtain⟨jj,SG⟩:∃jj,G-t=jj:=⟨_,rfl⟩;rw[SG]at jT q2 q3 ⊢;refine OJ (λz1=>?_) (λz1=>?_)
    ·refine Y ?_;refine Zi jj rfl rfl O O (Y ?_);first | refine Zh (Loud.fD _) rfl (AT.cI c f O rfl) ?_ | refine Zn (Loud.fD _) rfl (AT.cA c f O rfl) (g9.len c _) ?_
     refine Y ?_;refine Zi a rfl rfl O O (Y ?_);first | refine Zh (Loud.fD _) rfl (AT.cI c f O rfl) ?_ | refine Zn (Loud.fD _) rfl (AT.cA c f O rfl) (g9.len c _) ?_
     refine Y ?_;first | refine Zg (Vv _ _) ?_ | refine ZP rfl rfl (hC _ (AT.keep f) _ _ (ZL u O Z O) (ZL u O Z O)) ?_
     intro vW KW hW;obtain⟨eA,eB⟩:=hW;subst eA eB;refine OJ (λF=>?_) (λF=>?_);all_goals try rw[Vj]at F
     all_goals rw[R]at F
     ·refine Y ?_;refine⟨⟨t+1,O⟩,gI O,⟨rfl,R,jT.lo,λk k1 X=>?_,jT.ai,?_,?_⟩,⟨rfl,rfl,rfl,rfl,?_,trivial⟩,trivial,rfl⟩
      ·have k1:G-(t+1)<k:=k1;by_cases e:k=jj
       ·subst e;omega
       exact jT.hi k O X
      ·show z<=G-(t+1)+1;omega
      ·show G-(t+1)+1<=b;omega
      show some (vi ((jj:Int)-1))=some (vi ((G-(t+1):Nat):Int));congr 2;omega
     exact S3
    exact LR
   rintro C _ ⟨rfl,Q,sj6,sk6,gj6⟩;have x1:=Q.ai;have x2:=Q.ij;have x3:=Q.jb;refine OB ?_;refine VL ?_;refine OJ (λg2=>?_) (λg2=>?_)
   ·refine Y ?_;refine Zi a rfl rfl O O (Y ?_);first | refine Zh (Loud.fD _) rfl (AT.cI c f O rfl) ?_ | refine Zn (Loud.fD _) rfl (AT.cA c f O rfl) (g9.len c _) ?_
    refine Y ?_;refine Zi C rfl rfl O O (Y ?_);first | refine Zh (Loud.fD _) rfl (AT.cI c f O rfl) ?_ | refine Zn (Loud.fD _) rfl (AT.cA c f O rfl) (g9.len c _) ?_
    refine Y ?_;refine Zi C rfl rfl O O (Y ?_);first | refine Zr (m8.row c) (fT t3) f O rfl rfl rfl (c _).symm rfl λW g=>?_ | refine Zr c (fT Z0) f O rfl rfl rfl rfl (g9.len c _) λW g=>?_
    refine Zz Loud.fD (Y ?_);refine Zi a rfl rfl O O (Y ?_);first | refine Zr (m8.row c) (fT t3) g (by rw[qAe];omega) rfl rfl rfl (c _).symm rfl λH9 L=>?_ | refine Zr c (fT Z0) g (by rw[qAe];omega) rfl rfl rfl rfl (g9.len c _) λH9 L=>?_
    refine Y ?_;exact⟨jK T C a,C,false,L,.step _ _ u O O O O,Q.fin O O,rfl⟩
   have M:z<=C:=O;have KQ:z≠C:=λe=>by have h1:=sk6 M;rw[e]at h1;rcases sj6 with h | h<;>omega
   have Qo:=Q.swap M (sk6 M) (by rcases sj6 with h | h<;>omega) O;have Qj:Rg a b l (jK T z C):=.step _ _ u O O O O;refine Y ?_;refine Zi C rfl rfl O O (Y ?_);first | refine Zh (Loud.fD _) rfl (AT.cI c f O rfl) ?_ | refine Zn (Loud.fD _) rfl (AT.cA c f O rfl) (g9.len c _) ?_
   refine Y ?_;refine Zi z rfl rfl O O (Y ?_);first | refine Zh (Loud.fD _) rfl (AT.cI c f O rfl) ?_ | refine Zn (Loud.fD _) rfl (AT.cA c f O rfl) (g9.len c _) ?_
   refine Y ?_;refine Zi z rfl rfl O O (Y ?_);first | refine Zr (m8.row c) (fT t3) f O rfl rfl rfl (c _).symm rfl λW g=>?_ | refine Zr c (fT Z0) f O rfl rfl rfl rfl (g9.len c _) λW g=>?_
   refine Zz Loud.fD (Y ?_);refine Zi C rfl rfl O O (Y ?_);first | refine Zr (m8.row c) (fT t3) g (by rw[qAe];omega) rfl rfl rfl (c _).symm rfl λH9 L=>?_ | refine Zr c (fT Z0) g (by rw[qAe];omega) rfl rfl rfl rfl (g9.len c _) λH9 L=>?_
   refine Y ?_;refine⟨(⟨w-1+1-(o+1)-(C-1+1-(z+1)),O⟩,(jK T z C,z+1,C-1)),?_,⟨L,Qj,Qo,?_⟩,⟨rfl,rfl,rfl,rfl,?_,trivial⟩,trivial,rfl⟩
   ·show w-1+1-(o+1)-(w-1+1-(o+1)-(C-1+1-(z+1)))<w-1+1-(o+1)-t0;omega
   ·show C-1+1-(z+1)+(w-1+1-(o+1)-(C-1+1-(z+1)))=w-1+1-(o+1);omega
   show some (vi ((C:Int)-1))=some (vi ((C-1:Nat):Int));congr 2;omega
def ZsW(hK:SK P H r S E mm)(X:∀k,k<l.length->S (el l k))(hA:H r=some (.cells (kH E l++rest).toArray (pX E) (0,0),true))(hn:l.length=n)(Wn:a<=p)(hpb:p<b)(hb:b<=n)(hl:n<=1000000) :
  LL.Zb P (fz mm 231 343) (.slice (some ⟨r,0,none⟩) n cap :: vi a :: vi b :: vi p :: mm).toArray H λv A=>∃l' q,AT E H A r l' rest/\Rg a b l l'/\PeQ a b l' q (el l p)/\v=vi (q:Nat):=by
 have N3:=hK;rcases hK with⟨c⟩ | ⟨cv,c,hC⟩
 rotate_left;refine aU.m (fO Zxw) rfl ?_;unfold ZjE;let mm:=[cv]
 let C:Nat->Nat:=λn=>n+2
 let L:Nat×Value:=(4,cv)
 rotate_left;refine aU.m (fO ZwY) rfl ?_;unfold Zi6;let mm:List Value:=[]
 let C:Nat->Nat:=λn=>n
 let L:Nat×Value:=(0,.slice (some ⟨r,0,none⟩) n cap)
 have hC:=True.intro;all_goals
  have w:=AT.of hA
  refine Y ?_
  refine Zi p rfl rfl O O ?_
  refine Y ?_
  first | refine Zh (Loud.fD _) rfl (AT.cI c w O rfl) ?_ | refine Zn (Loud.fD _) rfl (AT.cA c w O rfl) (g9.len c _) ?_
  refine Y ?_
  refine Zi a rfl rfl O O ?_
  refine Y ?_
  first | refine Zh (Loud.fD _) rfl (AT.cI c w O rfl) ?_ | refine Zn (Loud.fD _) rfl (AT.cA c w O rfl) (g9.len c _) ?_
  refine Y ?_
  refine Zi a rfl rfl O O ?_
  refine Y ?_
  first | refine Zr (m8.row c) (fT t3) w O rfl rfl rfl (c _).symm rfl λHW u=>?_ | refine Zr c (fT Z0) w O rfl rfl rfl rfl (g9.len c _) λHW u=>?_
  refine Zz Loud.fD ?_
  refine Y ?_
  refine Zi p rfl rfl O O ?_
  refine Y ?_
  first | refine Zr (m8.row c) (fT t3) u (by rw[qAe];omega) rfl rfl rfl (c _).symm rfl λH1 J=>?_ | refine Zr c (fT Z0) u (by rw[qAe];omega) rfl rfl rfl rfl (g9.len c _) λH1 J=>?_
  refine OB ?_
  have xZ:(l.set a (el l p)).set p (el l a)=jK l a p:=rfl
  rw[xZ]at J
  have R:Rg a b l (jK l a p):=.step _ _ (.refl l) O O O O
  have ev:el (jK l a p) a=el l p:=by
   rw[Vt _ O O];by_cases e:a=p
   ·rw[qAa e,e]
   rw[iF e,qAa rfl]
  have N:BP a b (a+1) (b-1) (el l p) (jK l a p):=⟨ev,λk h1 h2=>O,λk h1 h2=>O,O,O,O⟩
  generalize jK l a p=c1 at *
  have Xj:((b:Int)-1)=((b-1:Nat):Int):=O
  rw[Xj]
  generalize el l p=v at *
  have hc1:=R.len
  refine VL ?_
  refine OB ?_
  refine Yp (α:=List Int×Nat×Nat) (b-1+1-(a+1)) (λt s A=>AT E H A r s.1 rest/\Rg a b l s.1/\BP a b s.2.1 s.2.2 v s.1/\s.2.2+1-s.2.1+t=b-1+1-(a+1)) (λt s=>[(0,.slice (some ⟨r,0,none⟩) n cap),(1,vi a),L,(C 9,vi ((s.2.1:Nat):Int)),(C 10,vi ((s.2.2:Nat):Int))]) (λ_ _=>[]) (c1,a+1,b-1) ⟨J,R,N,by show b-1+1-(a+1)+0=_;omega⟩ V trivial ?_
  rintro t0 ⟨G,i4,o⟩ W NW ⟨d,g,D,hm⟩
  clear N
  simp only at d g D hm
  have hc4:=g.len
  have y1:=D.ai
  have y2:=D.ij
  have y3:=D.jb
  refine OB ?_
  refine VD (λ(i:Nat) A=>W=A/\BP a b i o v G/\(o<i\/v<el G i)/\i4<=i) (λi=>[(0,.slice (some ⟨r,0,none⟩) n cap),(1,vi a),L,(C 9,vi ((i:Nat):Int)),(C 10,vi ((o:Nat):Int))]) (λ_=>[]) ?_ ?_
  ·refine Y ?_;refine ZC (o+1-i4) (λt A=>W=A/\BP a b (i4+t) o v G) (λt=>[(0,.slice (some ⟨r,0,none⟩) n cap),(1,vi a),L,(C 9,vi ((i4+t:Nat):Int)),(C 10,vi ((o:Nat):Int))]) (λ_=>[]) ⟨rfl,D⟩ V trivial ?_;rintro t _ ht ⟨rfl,jT⟩;have q1:=jT.ai;have q2:=jT.ij;have q3:=jT.jb;have Q:=jT.eq;refine OJ (λz1=>?_) (λz1=>?_)
   ·refine Y ?_;refine Zi a rfl rfl O O (Y ?_);first | refine Zh (Loud.fD _) rfl (AT.cI c d O rfl) ?_ | refine Zn (Loud.fD _) rfl (AT.cA c d O rfl) (g9.len c _) ?_
    refine Y ?_;refine Zi (i4+t) rfl rfl O O (Y ?_);first | refine Zh (Loud.fD _) rfl (AT.cI c d O rfl) ?_ | refine Zn (Loud.fD _) rfl (AT.cA c d O rfl) (g9.len c _) ?_
    refine Y ?_;first | refine Zg (Vv _ _) ?_ | refine ZP rfl rfl (hC _ (AT.keep d) _ _ (ZL g O X O) (ZL g O X O)) ?_
    intro vW KW hW;obtain⟨eA,eB⟩:=hW;subst eA eB;refine OJ (λI=>?_) (λI=>?_);all_goals try rw[Vj]at I
    all_goals rw[Q]at I
    ·refine Y ?_;refine⟨⟨t+1,O⟩,gI O,⟨rfl,Q,λk k1 Z=>?_,jT.hi,?_,?_,jT.jb⟩,V,trivial,rfl⟩
     ·have Z:k<i4+(t+1):=Z;by_cases e:k=i4+t
      ·subst e;omega
      exact jT.lo k k1 O
     ·show a+1<=i4+(t+1);omega
     show i4+(t+1)<=o+1;omega
    exact GU
   exact GO
  rintro f _ ⟨rfl,K,Ir,gi5⟩
  refine OB ?_
  refine VD (λ(j:Nat) A=>W=A/\BP a b f j v G/\(j<f\/el G j<=v)/\(f<=j->v<el G f)/\j<=o) (λj=>[(0,.slice (some ⟨r,0,none⟩) n cap),(1,vi a),L,(C 9,vi ((f:Nat):Int)),(C 10,vi ((j:Nat):Int))]) (λ_=>[]) ?_ ?_
  ·refine Y ?_;refine ZC (o+1-f) (λt A=>W=A/\BP a b f (o-t) v G) (λt=>[(0,.slice (some ⟨r,0,none⟩) n cap),(1,vi a),L,(C 9,vi ((f:Nat):Int)),(C 10,vi ((o-t:Nat):Int))]) (λ_=>[]) ⟨rfl,K⟩ V trivial ?_;rintro t _ ht ⟨rfl,jT⟩;have q1:=jT.ai;have q2:=jT.ij;have q3:=jT.jb;have Q:=jT.eq;have q5:=K.ij;have q6:=K.jb;obtain⟨jj,SG⟩:∃jj,o-t=jj:=⟨_,rfl⟩;rw[SG]at jT q2 q3 ⊢;refine OJ (λz1=>?_) (λz1=>?_)
   ·refine Y ?_;refine Zi a rfl rfl O O (Y ?_);first | refine Zh (Loud.fD _) rfl (AT.cI c d O rfl) ?_ | refine Zn (Loud.fD _) rfl (AT.cA c d O rfl) (g9.len c _) ?_
    refine Y ?_;refine Zi jj rfl rfl O O (Y ?_);first | refine Zh (Loud.fD _) rfl (AT.cI c d O rfl) ?_ | refine Zn (Loud.fD _) rfl (AT.cA c d O rfl) (g9.len c _) ?_
    refine Y ?_;first | refine Zg (Vv _ _) ?_ | refine ZP rfl rfl (hC _ (AT.keep d) _ _ (ZL g O X O) (ZL g O X O)) ?_
    intro vW KW hW;obtain⟨eA,eB⟩:=hW;subst eA eB;refine OJ (λI=>?_) (λI=>?_);all_goals try rw[Vj]at I
    all_goals rw[Q]at I
    ·refine Y ?_;refine⟨⟨t+1,O⟩,gI O,⟨rfl,Q,jT.lo,λk k1 Z=>?_,jT.ai,?_,?_⟩,⟨rfl,rfl,rfl,rfl,?_,trivial⟩,trivial,rfl⟩
     ·have k1:o-(t+1)<k:=k1;by_cases e:k=jj
      ·subst e;exact I
      exact jT.hi k O Z
     ·show f<=o-(t+1)+1;omega
     ·show o-(t+1)+1<=b;omega
     show some (vi ((jj:Int)-1))=some (vi ((o-(t+1):Nat):Int));congr 2;omega
    exact S3
   exact LR
  rintro z _ ⟨rfl,F,T,U,gj6⟩
  have x1:=F.ai
  have x2:=F.ij
  have x3:=F.jb
  refine OB ?_
  refine VL ?_
  refine Y ?_
  refine OI (λg2=>?_) (λg2=>?_)
  ·refine Y ?_;exact⟨G,f,d,g,F.fin O,rfl⟩
  ·have B:f<=z:=O;have KQ:f≠z:=λe=>by have h1:=U B;rw[e]at h1;rcases T with h | h<;>omega
   have Qo:=F.swap B (U B) (by rcases T with h | h<;>omega) O;have Qj:Rg a b l (jK G f z):=.step _ _ g O O O O;refine Y ?_;refine Zi z rfl rfl O O (Y ?_);first | refine Zh (Loud.fD _) rfl (AT.cI c d O rfl) ?_ | refine Zn (Loud.fD _) rfl (AT.cA c d O rfl) (g9.len c _) ?_
   refine Y ?_;refine Zi f rfl rfl O O (Y ?_);first | refine Zh (Loud.fD _) rfl (AT.cI c d O rfl) ?_ | refine Zn (Loud.fD _) rfl (AT.cA c d O rfl) (g9.len c _) ?_
   refine Y ?_;refine Zi f rfl rfl O O (Y ?_);first | refine Zr (m8.row c) (fT t3) d O rfl rfl rfl (c _).symm rfl λHW u=>?_ | refine Zr c (fT Z0) d O rfl rfl rfl rfl (g9.len c _) λHW u=>?_
   refine Zz Loud.fD (Y ?_);refine Zi z rfl rfl O O (Y ?_);first | refine Zr (m8.row c) (fT t3) u (by rw[qAe];omega) rfl rfl rfl (c _).symm rfl λH9 M=>?_ | refine Zr c (fT Z0) u (by rw[qAe];omega) rfl rfl rfl rfl (g9.len c _) λH9 M=>?_
   refine Y ?_;refine⟨(⟨b-1+1-(a+1)-(z-1+1-(f+1)),O⟩,(jK G f z,f+1,z-1)),?_,⟨M,Qj,Qo,?_⟩,⟨rfl,rfl,rfl,rfl,?_,trivial⟩,trivial,rfl⟩
   ·show b-1+1-(a+1)-(b-1+1-(a+1)-(z-1+1-(f+1)))<b-1+1-(a+1)-t0;omega
   ·show z-1+1-(f+1)+(b-1+1-(a+1)-(z-1+1-(f+1)))=b-1+1-(a+1);omega
   show some (vi ((z:Int)-1))=some (vi ((z-1:Nat):Int));congr 2;omega
end
def uN.arrT{H c:Hp}(h:uN H c r2 s)(d:H r=some (.cells (kH E l++rest).toArray (pX E) (0,0),true))(e:r≠r2):c r=some (.cells (kH E l++rest).toArray (pX E) (0,0),true):=h.keep _ _ e d
section
variable{P:fP}[Tz P][Loud P]{H:Hp}
def Ze2(q:SK P H r S E mm)(t:∀k,k<l.length->S (el l k))(C:H r=some (.cells (kH E l++rest).toArray (pX E) (0,0),true))(L:l.length=n)(N:x<n)(Q:y<n)(M:r≠r2)(e:H r2=some (.cells #[vi s] 3 (0,0),true))(G:s<=1000) :
  LL.Zb P (fz mm 349 371) (.slice (some ⟨r,0,none⟩) n cap :: vi x :: vi y :: pt r2 :: mm).toArray H λv w=>∃u g h:Nat,uN H w r2 u/\u<=s+1/\v=.tuple #[vi g,vi h]/\((g=x/\h=y)\/(g=y/\h=x)):=by
 have D:=q;rcases q with⟨d⟩ | ⟨i,d,o⟩
 rotate_left;refine aU.m (fO Zxq) rfl ?_;unfold Zjy;let mm:=[i]
 let I:Nat->Nat:=λn=>n+2
 let J:Nat×Value:=(4,i)
 rotate_left;refine aU.m (fO ZwL) rfl ?_;unfold ZiT;let mm:List Value:=[]
 let I:Nat->Nat:=λn=>n
 let J:Nat×Value:=(0,.slice (some ⟨r,0,none⟩) n cap)
 have o:=True.intro;all_goals
  have c:=AT.of C
  refine Y ?_
  refine Zi y rfl rfl O O ?_
  refine Y ?_
  first | refine Zh (Loud.fD _) rfl (AT.cI d c O rfl) ?_ | refine Zn (Loud.fD _) rfl (AT.cA d c O rfl) (g9.len d _) ?_
  refine Y ?_
  refine Zi x rfl rfl O O ?_
  refine Y ?_
  first | refine Zh (Loud.fD _) rfl (AT.cI d c O rfl) ?_ | refine Zn (Loud.fD _) rfl (AT.cA d c O rfl) (g9.len d _) ?_
  refine Y ?_
  first | refine Zg (Vv _ _) ?_ | refine ZP rfl rfl (o _ (AT.keep c) _ _ (t _ O) (t _ O)) ?_
  intro R K F
  obtain⟨A,B⟩:=F
  subst A B
  refine Y ?_
  refine OI (λj=>?_) (λj=>?_)
  all_goals try rw[Vj]at j
  ·refine Y ?_;refine Uf rfl (Y ?_);refine Zh (OL _) rfl (ZM (cs:=[vi s]) e) (Y ?_);refine Uf rfl (Y ?_);refine VV (fT t3) rfl rfl e rfl rfl (OL _) (Y ?_);exact⟨s+1,y,x,⟨λb z hb f=>by rw[Hp.aR _ _ hb];exact f,Hp.aQ _ _ _⟩,DO _,rfl,.inr ⟨rfl,rfl⟩⟩
  ·refine Y ?_;exact⟨s,x,y,⟨λb z hb f=>f,e⟩,O,rfl,.inl ⟨rfl,rfl⟩⟩
def Zln{z:Nat}(w:SK P H0 r S E mm)(A:∀b x,b≠r->H0 b=some x->H b=some x)(i:H0 r2=none)(o:∀k,k<l.length->S (el l k))(j:H r=some (.cells (kH E l++rest).toArray (pX E) (0,0),true))(t:l.length=n)(I:x<n)(J:y<n)(K:z<n)(d:r≠r2)(C:H r2=some (.cells #[vi s] 3 (0,0),true))(G:s<=900) :
  LL.Zb P (fz mm 304 366) (.slice (some ⟨r,0,none⟩) n cap :: vi x :: vi y :: vi z :: pt r2 :: mm).toArray H λv f=>∃B q:Nat,uN H f r2 B/\B<=s+3/\v=vi q/\(q=x\/q=y\/q=z):=by
 have e:∀{f:Hp} {s:Nat},uN H f r2 s->∀b x,b≠r->H0 b=some x->f b=some x:=λk b x hb h=>k.keep b x (by rintro rfl;rw[i]at h;simp at h) (A b x hb h);have c:=w;rcases w with⟨F⟩ | ⟨u,F,D⟩
 rotate_left;refine aU.m (fO Zxr) rfl ?_;unfold Zjz;let mm:=[u]
 let M:Nat->Nat:=λn=>n+2
 let N:Nat×Value:=(5,u)
 rotate_left;refine aU.m (fO ZwN) rfl ?_;unfold ZiV;let mm:List Value:=[]
 let M:Nat->Nat:=λn=>n
 let N:Nat×Value:=(0,.slice (some ⟨r,0,none⟩) n cap)
 have D:=True.intro;all_goals
  refine Y ?_
  refine Zg (vs:=.slice (some ⟨r,0,none⟩) n cap :: vi x :: vi y :: pt r2 :: mm) (Ze2 (c.of A) o j t I J d C O) ?_
  rintro v W ⟨s1,R,T,k1,g1,rfl,p1⟩
  refine Y ?_
  refine Zg (vs:=.slice (some ⟨r,0,none⟩) n cap :: vi T :: vi z :: pt r2 :: mm) (Ze2 (c.of (e k1)) o (k1.arrT j d) t O K d k1.at_ O) ?_
  rintro v X ⟨s2,U,z2,g,g2,rfl,p2⟩
  refine Y ?_
  refine Zg (vs:=.slice (some ⟨r,0,none⟩) n cap :: vi R :: vi U :: pt r2 :: mm) (Ze2 (c.of (e (k1.trans g))) o (g.arrT (k1.arrT j d) d) t O O d g.at_ O) ?_
  rintro v Z ⟨Q,x3,V,L,g3,rfl,p3⟩
  refine Y ?_
  exact⟨Q,V,(k1.trans g).trans L,O,rfl,O⟩
def Zf7(i:SK P H0 r S E mm)(j:∀b x,b≠r->H0 b=some x->H b=some x)(c:H0 r2=none)(D:∀k,k<l.length->S (el l k))(A:H r=some (.cells (kH E l++rest).toArray (pX E) (0,0),true))(G:l.length=n)(Q:1<=x)(J:x+1<n)(R:n<=1000000)(I:r≠r2)(z:H r2=some (.cells #[vi s] 3 (0,0),true))(f:s<=900) :
  LL.Zb P (fz mm 303 365) (.slice (some ⟨r,0,none⟩) n cap :: vi x :: pt r2 :: mm).toArray H λv d=>∃o q:Nat,uN H d r2 o/\o<=s+3/\v=vi q/\(q+1=x\/q=x\/q=x+1):=by
 have F:∀{d:Hp} {s:Nat},uN H d r2 s->∀b x,b≠r->H0 b=some x->d b=some x:=λk b x hb h=>k.keep b x (by rintro rfl;rw[c]at h;simp at h) (j b x hb h);have e:=i;rcases i with⟨C⟩ | ⟨g,C,B⟩
 rotate_left;refine aU.m (fO Zxs) rfl ?_;unfold ZjA;let mm:=[g]
 let K:Nat->Nat:=λn=>n+2
 let L:Nat×Value:=(3,g)
 rotate_left;refine aU.m (fO ZwO) rfl ?_;unfold ZiW;let mm:List Value:=[]
 let K:Nat->Nat:=λn=>n
 let L:Nat×Value:=(0,.slice (some ⟨r,0,none⟩) n cap)
 have B:=True.intro;all_goals
  have t:((x:Int)-1)=((x-1:Nat):Int):=O
  have u:((x:Int)+1)=((x+1:Nat):Int):=O
  refine Y ?_
  rw[t,u]
  refine Zg (vs:=.slice (some ⟨r,0,none⟩) n cap :: vi (x-1:Nat) :: vi x :: vi (x+1:Nat) :: pt r2 :: mm) (Zln e j c D A G O O J I z f) ?_
  rintro v N ⟨M,q,k1,w,rfl,T⟩
  refine Y ?_
  exact⟨M,q,k1,w,rfl,O⟩
def Zwt(hK:SK P H r S E mm)(J:∀k,k<l.length->S (el l k))(hA:H r=some (.cells (kH E l++rest).toArray (pX E) (0,0),true))(K:l.length=n)(Wp:a+12<b)(hb:b<=n)(R:n<=1000000) :
  LL.Zb P (fz mm 227 340) (.slice (some ⟨r,0,none⟩) n cap :: vi a :: vi b :: mm).toArray H λv f=>∃q h:Nat,fI H f/\v=.tuple #[vi q,vi h]/\a<=q/\q<b:=by
 have j:=hK;rcases hK with⟨hE⟩ | ⟨cv,hE,hC⟩
 rotate_left;refine aU.m (fO Zxz) rfl ?_;unfold ZjH;let mm:=[cv]
 let u:Nat->Nat:=λn=>n+2
 let qq:Nat×Value:=(3,cv)
 rotate_left;refine aU.m (fO Zw2) rfl ?_;unfold Zja;let mm:List Value:=[]
 let u:Nat->Nat:=λn=>n
 let qq:Nat×Value:=(0,.slice (some ⟨r,0,none⟩) n cap)
 have hC:=True.intro;all_goals
  obtain⟨d,rfl⟩:∃d,b=a+d:=⟨b-a,O⟩
  have ed:(((a+d:Nat):Int)-(a:Int))=(d:Int):=O
  have B:((d:Int)).tdiv 4=((d / 4:Nat):Int):=by rw[qBA O];omega
  refine Y ?_
  rw[ed]
  refine VY (fT t3) (OL _) λr2 g=>?_
  have e:H r2=none:=g
  have t:r≠r2:=by rintro rfl;rw[hA]at g;simp at g
  have i:(H.ins r2 (.cells (vi 0).cells 3)) r=some (.cells (kH E l++rest).toArray (pX E) (0,0),true):=by rw[Hp.aR _ _ t];exact hA
  have k0:uN H (H.ins r2 (.cells (vi 0).cells 3)) r2 0:=⟨λb z hb L=>by rw[Hp.aR _ _ hb];exact L,Hp.aQ _ _ _⟩
  generalize H.ins r2 (.cells (vi 0).cells 3)=I at *
  have c:∀f s,uN I f r2 s->fI H f:=λf s k b z L=>by
   have hb:b≠r2:=by rintro rfl;rw[L]at g;simp at g
   exact k.keep b z hb (k0.keep b z hb L)
  have o:∀{f:Hp} {s:Nat},uN I f r2 s->∀b x,b≠r->H b=some x->f b=some x:=λk b x _ h=>c _ _ k b x h
  refine Y ?_
  refine yC rfl rfl (by decide) (by rw[B];exact⟨O,O⟩) ?_
  rw[B]
  generalize hm:d / 4=m at *
  refine Y ?_
  refine u7 rfl rfl ⟨O,O⟩ ?_
  refine Y ?_
  refine yC rfl rfl (by decide) (by rw[B];exact⟨O,O⟩) ?_
  rw[B]
  refine Y ?_
  refine u7 rfl rfl ⟨O,O⟩ ?_
  refine Y ?_
  refine yC rfl rfl (by decide) (by rw[B];exact⟨O,O⟩) ?_
  rw[B]
  refine Y ?_
  refine u7 rfl rfl ⟨O,O⟩ ?_
  refine OB ?_
  refine VD (λ(x:Nat×Nat) f=>uN I f r2 x.1/\a<=x.2/\x.2<a+d) (λx=>[(u 9,pt r2),(u 11,vi (x.2:Nat))]) (λ_=>[]) ?_ ?_
  ·refine OB ?_;refine OI (λg1=>?_) (λg1=>?_)
   ·refine OB ?_;refine VD (λ(x:Nat×Nat×Nat×Nat) f=>uN I f r2 x.1/\x.1<=9/\x.2.1<a+d/\a<=x.2.1/\x.2.2.1<a+d/\a<=x.2.2.1/\x.2.2.2<a+d/\a<=x.2.2.2) (λx=>[(0,.slice (some ⟨r,0,none⟩) n cap),qq,(u 9,pt r2),(u 10,vi (x.2.1:Nat)),(u 11,vi (x.2.2.1:Nat)),(u 12,vi (x.2.2.2:Nat))]) (λ_=>[]) ?_ ?_
    ·have h1:((a:Int)+(m:Int) * 1)=((a+m:Nat):Int):=O;have h2:((a:Int)+(m:Int) * 2)=((a+m * 2:Nat):Int):=O;have h3:((a:Int)+(m:Int) * 3)=((a+m * 3:Nat):Int):=O;rw[h1,h2,h3];refine OJ (λg2=>?_) (λg2=>?_)
     ·refine Y ?_;refine Zg (vs:=.slice (some ⟨r,0,none⟩) n cap :: vi (a+m:Nat) :: pt r2 :: mm) (Zf7 (s:=0) j (o ⟨λ_ _ _ h=>h,k0.at_⟩) e J i K O O R t k0.at_ O) ?_;rintro v H2 ⟨s2,T,C,w2,rfl,p2⟩;refine Y ?_;refine Zg (vs:=.slice (some ⟨r,0,none⟩) n cap :: vi (a+m * 2:Nat) :: pt r2 :: mm) (Zf7 j (o C) e J (C.arrT i t) K O O R t C.at_ O) ?_;rintro v H3 ⟨s3,U,M,w3,rfl,p3⟩;refine Y ?_;refine Zg (vs:=.slice (some ⟨r,0,none⟩) n cap :: vi (a+m * 3:Nat) :: pt r2 :: mm) (Zf7 j (o (C.trans M)) e J (M.arrT (C.arrT i t) t) K O O R t M.at_ O) ?_;rintro v H4 ⟨s4,W,k4,w4,rfl,p4⟩;refine Y ?_;exact⟨(s4,T,U,W),⟨(C.trans M).trans k4,by show s4<=9;omega,by show T<a+d;omega,by show a<=T;omega,by show U<a+d;omega,by show a<=U;omega,by show W<a+d;omega,by show a<=W;omega⟩,V,trivial,rfl⟩
     refine Y ?_;exact⟨(0,a+m,a+m * 2,a+m * 3),⟨⟨λ_ _ _ h=>h,k0.at_⟩,by show 0<=9;omega,by show a+m<a+d;omega,by show a<=a+m;omega,by show a+m * 2<a+d;omega,by show a<=a+m * 2;omega,by show a+m * 3<a+d;omega,by show a<=a+m * 3;omega⟩,V,trivial,rfl⟩
    rintro⟨s5,i5,j5,k5⟩ H5 ⟨D,b5,b6,w,A,b9,N,Q⟩;simp only at D b5 b6 w A b9 N Q;refine Y ?_;refine Zg (vs:=.slice (some ⟨r,0,none⟩) n cap :: vi i5 :: vi j5 :: vi k5 :: pt r2 :: mm) (Zln j (o D) e J (D.arrT i t) K O O O t D.at_ O) ?_;rintro v H6 ⟨s6,X,k6,w6,rfl,p6⟩;refine Y ?_;exact⟨(s6,X),⟨D.trans k6,by show a<=X;omega,by show X<a+d;omega⟩,V,trivial,rfl⟩
   exact absurd g1 O
  ·rintro⟨s7,Z⟩ H7 ⟨F,w,A⟩;simp only at F w A;refine Y ?_;refine Zh (OL _) rfl (ZM (cs:=[vi s7]) F.at_) ?_;refine OJ (λg3=>?_) (λg3=>?_)
   ·refine Y ?_;exact⟨Z,1,c _ _ F,rfl,w,A⟩
   refine OJ (λg4=>?_) (λg4=>?_)
   ·refine Y ?_;exact⟨Z,2,c _ _ F,rfl,w,A⟩
   refine Y ?_;exact⟨Z,0,c _ _ F,rfl,w,A⟩
end
