import Derived.Test.YtlhomfgcibjccaaGreatDoorP21
set_option linter.all false
set_option maxHeartbeats 1000000
open Go Go.LL
namespace Go.Proofs
variable{G:Prop}{f lo hi p r cap n a b i j r2 s x y:Nat}{l c:List Int}{rest:List Value}{v:Int}{Qe:Ex->aM->Hp->Prop}{σ:aM}{H':Hp}
def My(h:G:=by
  have ND:m<hi:=O;refine Y ?_;refine Zd (f+p) rfl rfl O O (Y ?_);refine Zh (OL _) rfl (ar.cA O rfl) (Y ?_);refine Zd (f+m) rfl rfl O O (Y ?_);refine Zh (OL _) rfl (ar.cA O rfl) (Y ?_);refine Za [vi (el c (f+p)),vi (el c (f+m))] (VM _ _) ?_;rintro v _ ⟨rfl,rfl⟩;refine OJ (λg4=>?_) (λg4=>?_)
  ·refine Y ?_;refine⟨c,ar,rg,hp.fin λm' h1 h2=>?_⟩;have:=sD m' h1 h2;omega
  refine Y ?_;refine Zd (f+m) rfl rfl O O (Y ?_);refine Zh (Loud.aV _) rfl (AR.cA ar O rfl) (Y ?_);refine Zd (f+p) rfl rfl O O (Y ?_);refine Zh (Loud.aV _) rfl (AR.cA ar O rfl) (Y ?_);refine Zd (f+p) rfl rfl O O (Y ?_);refine ZS ar O (ZK _ _) rfl rfl λHW PK=>?_;refine Zp Loud.aV (Y ?_);refine Zd (f+m) rfl rfl O O (Y ?_);refine ZS PK (by rw[qAg];omega) (ZK _ _) rfl rfl λH4 wY=>Y ?_;have pB:(c.set (f+p) (el c (f+m))).set (f+m) (el c (f+p))=dS c (f+p) (f+m):=rfl;rw[pB]at wY;have Er:p<m:=O;refine⟨(⟨m-lo,O⟩,dS c (f+p) (f+m)),?_,⟨wY,.step _ _ rg O O O O,?_⟩,⟨rfl,rfl,rfl,rfl,?_,trivial⟩,trivial,rfl⟩
  ·show hi-lo-(m-lo)<hi-lo-j;omega
  ·show CI f lo hi _ (lo+(m-lo));rw[show lo+(m-lo)=m by omega];exact hp.step HA ND sD g4 O O
  show some (vi _)=some (vi ((lo+(m-lo):Nat):Int));congr 2;omega):G:=h
def mX(k m:Nat):Prop:=m=2 * k+1\/m=2 * k+2
def qQ(f lo hi:Nat)(l:List Int):Prop:=∀k m,lo<=k->mX k m->m<hi->el l (f+m)<=el l (f+k)
structure CI(f lo hi:Nat)(l:List Int)(p:Nat):Prop where
 h1:∀k m,lo<=k->k≠p->mX k m->m<hi->el l (f+m)<=el l (f+k)
 h2:∀k m,lo<=k->mX k p->mX p m->m<hi->el l (f+m)<=el l (f+k)
def CI.of(h:qQ f (lo+1) hi l):CI f lo hi l lo:=
 ⟨λk m e d g o=>h k m O g o,λk m e d=>by rcases d with d | d<;>omega⟩
def CI.fin(h:CI f lo hi l p)(q:∀m,mX p m->m<hi->el l (f+m)<=el l (f+p)):qQ f lo hi l:=by
 intro k m d g o;by_cases e:k=p
 ·subst e;exact q m g o
 exact h.h1 k m d e g o
def CI.step{m:Nat}(h:CI f lo hi c p)(t:mX p m)(D:m<hi)(u:∀d,mX p d->d<hi->el c (f+d)<=el c (f+m))(K:el c (f+p)<el c (f+m))(F:f+hi<=c.length)(M:lo<=p) :
  CI f lo hi (dS c (f+p) (f+m)) m:=by
 have L:p<m:=by rcases t with h | h<;>omega
 have es:∀x,el (dS c (f+p) (f+m)) x=if x=f+m then el c (f+p)else if x=f+p then el c (f+m)else el c x:=λx=>Yh x O O
 have I:el (dS c (f+p) (f+m)) (f+m)=el c (f+p):=by rw[es,iF rfl]
 have A:el (dS c (f+p) (f+m)) (f+p)=el c (f+m):=by rw[es,aT O,iF rfl]
 have w:∀x,x≠m->x≠p->el (dS c (f+p) (f+m)) (f+x)=el c (f+x):=λx E J=>by rw[es,aT O,aT O]
 refine⟨λk d B C e z=>?_,λk d B C e z=>?_⟩
 ·by_cases g:k=p
  ·subst g;rw[A];by_cases o:d=m
   ·subst o;rw[I];omega
   rw[w d o (by rcases e with h | h<;>omega)];exact u d e z
  rw[w k C g];by_cases o:d=m
  ·exfalso;subst o;unfold mX at t e;omega
  by_cases q:d=p
  ·subst q;rw[A];exact h.h2 k m B e t D
  rw[w d o q];exact h.h1 k d B g e z
 have g:k=p:=by unfold mX at t C;omega
 subst g;have:d≠m/\d≠k:=by unfold mX at t e;omega
 rw[A,w d this.1 this.2];exact h.h1 m d O O e z
section
variable{P:aX}[Tz P][Loud P]{H:Hp}
def ZoI(u:H r=some (.cells (Zb l++rest).toArray 3 (0,0),true))(hb:f+hi<=l.length)(z:lo<=l.length)(F:l.length<=1000000)(C:qQ f (lo+1) hi l) :
  LL.Zc P 219 #[.slice (some ⟨r,0,none⟩) l.length cap,vi lo,vi hi,vi f] H λv e=>∃g,AR H e r g rest/\Rg f (f+hi) l g/\qQ f lo hi g:=by
 refine aJ.m (bG ZvS) (args:=[.slice (some ⟨r,0,none⟩) l.length cap,vi lo,vi hi,vi f]) rfl ?_;unfold Zjf;refine Y ?_;refine ZO (α:=List Int) (hi-lo) (λj c e=>AR H e r c rest/\Rg f (f+hi) l c/\CI f lo hi c (lo+j)) (λj c=>[(0,.slice (some ⟨r,0,none⟩) l.length cap),(1,vi lo),(2,vi hi),(3,vi f),(8,vi ((lo+j:Nat):Int))]) (λj c=>[]) l ⟨AR.of u,.refl l,.of C⟩ V trivial ?_;rintro j c D E ⟨ar,rg,hp⟩;have w:=rg.len;have q:lo<=lo+j:=O;have B:lo+j<=l.length:=O;generalize A:lo+j=p at *;refine Y ?_;refine V8 rfl rfl ⟨O,O⟩ ?_;refine OJ (λk=>?_) (λk=>?_)
 ·refine Y ?_;refine⟨c,ar,rg,hp.fin λm d ND=>?_⟩;rcases d with h | h<;>omega
 have k:2 * p+1<hi:=O;refine OJ (λo=>?_) (λo=>?_)
 ·have o:2 * p+1+1<hi:=O;refine Y ?_;refine Zd (f+(2 * p+1)) rfl rfl O O (Y ?_);refine Zh (OL _) rfl (ar.cA O rfl) (Y ?_);refine Zd (f+(2 * p+2)) rfl rfl O O (Y ?_);refine Zh (OL _) rfl (ar.cA O rfl) (Y ?_);refine Za [vi (el c (f+(2 * p+1))),vi (el c (f+(2 * p+2)))] (VM _ _) ?_;rintro v _ ⟨rfl,rfl⟩;refine OJ (λt=>?_) (λt=>?_)
  ·obtain⟨m,d⟩:∃m,m=2 * p+2:=⟨_,rfl⟩;have sD:∀m',mX p m'->m'<hi->el c (f+m')<=el c (f+m):=λm' h1 h2=>by
    rcases h1 with h | h
    ·subst h d;omega
    subst h d;exact qAx _
   have HA:mX p m:=.inr d;exact My
  obtain⟨m,d⟩:∃m,m=2 * p+1:=⟨_,rfl⟩;have sD:∀m',mX p m'->m'<hi->el c (f+m')<=el c (f+m):=λm' h1 h2=>by
   rcases h1 with h | h
   ·subst h d;exact qAx _
   subst h d;omega
  have HA:mX p m:=.inl d;exact My
 obtain⟨m,d⟩:∃m,m=2 * p+1:=⟨_,rfl⟩;have sD:∀m',mX p m'->m'<hi->el c (f+m')<=el c (f+m):=λm' h1 h2=>by
  rcases h1 with h | h
  ·subst h d;exact qAx _
  omega
 have HA:mX p m:=.inl d;exact My
end
def ZlZ{q:Nat}(h:qQ f 0 q c):∀k,k<q->el c (f+k)<=el c f:=by
 intro k;induction k using Nat.strongRecOn with
 | _ k ih=>
  intro d;by_cases e:k=0
  ·subst e;exact qAx _
  have g:mX ((k-1) / 2) k:=by unfold mX;omega
  exact qCz (h _ k (qAI _) g d) (ih _ O O)
def XM(hi:Nat):((hi:Int)-1).tdiv 2=(((hi-1) / 2:Nat):Int):=by
 by_cases h:hi=0
 ·subst h;rfl
 rw[qBX O];omega
section
variable{P:aX}[Tz P][Loud P]{H:Hp}
def Zhe(h:H r=some (.cells (Zb l++rest).toArray 3 (0,0),true))(m:l.length=n)(hb:f+hi<=n)(d:lo<=n)(k:n<=1000000)(o:qQ f (lo+1) hi l) :
  LL.Zc P 219 #[.slice (some ⟨r,0,none⟩) n cap,vi lo,vi hi,vi f] H λv g=>∃e,AR H g r e rest/\Rg f (f+hi) l e/\qQ f lo hi e:=by
 subst m;exact ZoI h hb d k o
def Zuz(hA:H r=some (.cells (Zb l++rest).toArray 3 (0,0),true))(hb:a+hi<=l.length)(hl:l.length<=1000000) :
  Wd P 172 H r cap l rest a (a+hi) [] λ_ l'=>So a (a+hi) l':=by
 have Z:(((a+hi:Nat):Int)-(a:Int))=(hi:Int):=O;refine aJ.m (bG Zv5) (args:=[.slice (some ⟨r,0,none⟩) l.length cap,vi a,vi (a+hi:Nat)]) rfl ?_;unfold Zjs;refine Y ?_;rw[Z];refine Y ?_;refine VD rfl rfl (by decide) (by rw[XM];exact⟨O,O⟩) ?_;rw[XM];refine Y ?_;refine ZO (α:=List Int) ((hi-1) / 2+1) (λj c U=>AR H U r c rest/\Rg a (a+hi) l c/\qQ a ((hi-1) / 2+1-j) hi c)
  (λj c=>[(0,.slice (some ⟨r,0,none⟩) l.length cap),(6,vi a),(7,vi 0),(8,vi hi),(9,vi (((hi-1) / 2+1-j:Nat)-1:Int))]) (λj c=>[]) l ⟨AR.of hA,.refl l,λk m t g h3=>by unfold mX at g;omega⟩ ⟨rfl,rfl,rfl,rfl,?_,trivial⟩ trivial ?_
 ·show some (vi _)=some (vi _);congr 2;omega
 rintro j c H1 hj ⟨W,rg,R⟩;have jQ:=rg.len;refine OJ (λN=>?_) (λN=>?_)
 ·obtain⟨i,I⟩:∃i,(hi-1) / 2+1-j=i+1:=⟨(hi-1) / 2+1-j-1,O⟩;have ei:((((hi-1) / 2+1-j:Nat)-1:Int))=(i:Int):=O;rw[I]at R;rw[ei];refine Y ?_;refine Za [.slice (some ⟨r,0,none⟩) l.length cap,vi i,vi hi,vi a] (Zhe W.at_ jQ hb O hl R) ?_;rintro v H2 ⟨c2,D,u,K⟩;refine Y ?_;refine⟨(⟨j+1,O⟩,c2),bN O,⟨W.trans D,rg.trans u,?_⟩,⟨rfl,rfl,rfl,rfl,?_,trivial⟩,trivial,rfl⟩
  ·show qQ a ((hi-1) / 2+1-(j+1)) hi c2;rw[show(hi-1) / 2+1-(j+1)=i by omega];exact K
  show some (vi _)=some (vi _);congr 2;show(i:Int)-1=(((hi-1) / 2+1-(j+1):Nat):Int)-1;omega
 have HE:(hi-1) / 2+1-j=0:=O;rw[HE]at R;refine Y ?_;refine ZO (α:=List Int) hi (λj c U=>AR H U r c rest/\Rg a (a+hi) l c/\qQ a 0 (hi-j) c/\So (a+(hi-j)) (a+hi) c/\∀x y,a<=x->x<a+(hi-j)->a+(hi-j)<=y->y<a+hi->el c x<=el c y)
  (λj c=>[(0,.slice (some ⟨r,0,none⟩) l.length cap),(6,vi a),(7,vi 0),(10,vi ((hi-j:Nat)-1:Int))]) (λj c=>[]) c ⟨W,rg,R,Un c O,λx y t g h3 h4=>O⟩ V trivial ?_
 rintro q d H2 g9 ⟨w,M,J,z,L⟩;have T:=M.len;refine OJ (λQ=>?_) (λQ=>?_)
 ·obtain⟨i,I⟩:∃i,hi-q=i+1:=⟨hi-q-1,O⟩;have ei:(((hi-q:Nat)-1:Int))=(i:Int):=O;rw[I]at J z L;rw[ei];have Ey:=ZlZ J;refine Y ?_;refine Zd (a+i) rfl rfl O O (Y ?_);refine Zh (Loud.aV _) rfl (AR.cA w O rfl) (Y ?_);refine Zd a rfl rfl O O (Y ?_);refine Zh (Loud.aV _) rfl (AR.cA w O rfl) (Y ?_);refine Zd a rfl rfl O O (Y ?_);refine ZS w O (ZK _ _) rfl rfl λHW X=>?_;refine Zp Loud.aV (Y ?_);refine Zd (a+i) rfl rfl O O (Y ?_);refine ZS X (by rw[qAg];omega) (ZK _ _) rfl rfl λH4 E=>Y ?_;have pB:(d.set a (el d (a+i))).set (a+i) (el d a)=dS d a (a+i):=rfl;rw[pB]at E;have es:∀x,el (dS d a (a+i)) x=if x=a+i then el d a else if x=a then el d (a+i)else el d x:=λx=>Yh x O O
  have tD:∀x,a<=x->x<a+i->∃h,a<=h/\h<a+(i+1)/\el (dS d a (a+i)) x=el d h:=λx t g=>by
   rw[es,aT O];by_cases e:x=a
   ·rw[iF e];exact⟨a+i,O,O,rfl⟩
   rw[aT e];exact⟨x,O,O,rfl⟩
  have Ep:qQ a 1 i (dS d a (a+i)):=λk m t g h3=>by
   have:m≠0/\k<i:=by unfold mX at g;omega
   rw[es,es,aT O,aT O,aT O,aT O];exact J k m (qAI _) g O
  refine Za [.slice (some ⟨r,0,none⟩) l.length cap,vi (0:Nat),vi i,vi a] (Zhe E.at_ (by rw[Q7,T]) O O hl Ep) ?_;rintro v H5 ⟨c2,D,u,K⟩;have S:a+i<=(dS d a (a+i)).length:=by rw[Q7];omega
  have B:∀k,a+i<=k->el c2 k=el (dS d a (a+i)) k:=λk hk=>u.out S (.inr hk);have o:∀k,a+i<k->el c2 k=el d k:=λk hk=>by rw[B k O,es,aT O,aT O]
  have C:el c2 (a+i)=el d a:=by rw[B _ (dO _),es,iF rfl]
  have A:∀(p:Int->Prop),(∀h,a<=h->h<a+(i+1)->p (el d h))->∀k,a<=k->k<a+i->p (el c2 k):=λp R k t g=>
   u.all S (p:=p) (λk t g=>by obtain⟨h,N,Q,g3⟩:=tD k t g;rw[g3];exact R h N Q) k t g
  have F:hi-(q+1)=i:=O;refine Y ?_;refine⟨(⟨q+1,O⟩,c2),qDW O (qEh q),⟨E.trans D,(Rg.step _ _ M O O O O).trans (u.mono (dO _) O),?_,?_,?_⟩,⟨rfl,rfl,rfl,?_,trivial⟩,trivial,rfl⟩
  ·show qQ a 0 (hi-(q+1)) c2;rw[F];exact K
  ·show So (a+(hi-(q+1))) (a+hi) c2;rw[F];refine V5 λx t g=>?_;by_cases e:x=a+i
   ·subst e;rw[C,o _ O];exact L a _ (dO _) O O g
   rw[o _ O,o _ O];exact z x (x+1) O O g
  ·show ∀x y,a<=x->x<a+(hi-(q+1))->a+(hi-(q+1))<=y->y<a+hi->el c2 x<=el c2 y;rw[F];intro x y t g h3 h4;by_cases e:y=a+i
   ·subst e;rw[C];refine A (·<=el d a) (λh N Q=>?_) x t g;have:=Ey (h-a) O;rwa [show a+(h-a)=h by omega]at this
   rw[o y O];exact A (·<=el d y) (λh N Q=>L h y N Q O h4) x t g
  show some (vi _)=some (vi _);congr 2;show(i:Int)-1=((hi-(q+1):Nat):Int)-1;omega
 have:hi-q=0:=O;rw[this]at z;refine Y ?_;exact⟨d,w,M,z⟩
end
structure oD(a b i j:Nat)(v:Int)(c:List Int):Prop where
 eq:el c a=v
 lo:∀k,a+1<=k->k<i->el c k<v
 hi:∀k,j<k->k<b->v<=el c k
 ai:a+1<=i
 ij:i<=j+1
 jb:j+1<=b
def oD.swap(h:oD a b i j v c)(o:i<=j)(g:v<=el c i)(m:el c j<v)(w:b<=c.length):oD a b (i+1) (j-1) v (dS c i j):=by
 have t:=h.ai;have u:=h.jb;have q:i≠j:=λe=>by subst e;omega
 have es:∀x,el (dS c i j) x=if x=j then el c i else if x=i then el c j else el c x:=λx=>Yh x O O
 refine⟨by rw[es,aT O,aT O];exact h.eq,λk k1 d=>?_,λk k1 d=>?_,O,O,O⟩
 ·rw[es,aT O];by_cases e:k=i
  ·rw[iF e];exact m
  rw[aT e];exact h.lo k k1 O
 rw[es];by_cases e:k=j
 ·rw[iF e];exact g
 rw[aT e,aT O];exact h.hi k O d
def Nl(a b:Nat)(d:List Int)(p:Nat):Prop:=a<=p/\p<b/\(∀k,a<=k->k<p->el d k<=el d p)/\∀k,p<k->k<b->el d p<=el d k
def oD.fin(h:oD a b i j v c)(m:j<i)(u:b<=c.length):Nl a b (dS c j a) j:=by
 have o:=h.ai;have q:=h.ij;have t:=h.jb;have es:∀x,el (dS c j a) x=if x=a then el c j else if x=j then el c a else el c x:=λx=>Yh x O O
 have d:el (dS c j a) j=v:=by
  rw[es];by_cases e:j=a
  ·rw[iF e,e];exact h.eq
  rw[aT e,iF rfl];exact h.eq
 refine⟨O,O,λk k1 g=>?_,λk k1 g=>?_⟩
 ·rw[d,es];by_cases e:k=a
  ·rw[iF e];exact Int.le_of_lt (h.lo j O O)
  rw[aT e,aT O];exact Int.le_of_lt (h.lo k O O)
 rw[d,es,aT O,aT O];exact h.hi k k1 g
def Ztq{P:aX}{l:List NI}{b:Ze}{H:Hp}(h:(Ze.aI l).m P (iD.then (b.m P Qe) Qe) σ H):(Ze.seq (.aI l) b).m P Qe σ H:=Z9 h
def Ztr{P:aX}{l:List (NI×Option Bool)}{b:Ze}{H:Hp}(h:(Ze.drawn l).m P (iD.then (b.m P Qe) Qe) σ H):(Ze.seq (.drawn l) b).m P Qe σ H:=Z9 h
def OB{d:Prop}(x:d) (h:Wr d->G:=by
  intro oH;repeat (first | (with_reducible refine Ztq ?_) | (with_reducible refine Ztr ?_) | ((fail_if_success (with_reducible refine Z9 ?_));refine Zgz ?_))
  exact oH.out):G:=h ⟨x⟩
section
variable{P:aX}[Tz P][Loud P]{H:Hp}
def Zsz(hA:H r=some (.cells (Zb l++rest).toArray 3 (0,0),true))(hn:l.length=n)(FN:a<=p)(Et:p<b)(hb:b<=n)(hl:n<=1000000) :
  LL.Zc P 179 #[.slice (some ⟨r,0,none⟩) n cap,vi a,vi b,vi p] H λv B=>∃l' q t,AR H B r l' rest/\Rg a b l l'/\Nl a b l' q/\v=.tuple #[vi (q:Nat),vb t]:=by
 refine aJ.m (bG ZvY) (args:=[.slice (some ⟨r,0,none⟩) n cap,vi a,vi b,vi p]) rfl ?_;unfold Zjl;have X:=AR.of hA;refine Y ?_;refine Zd p rfl rfl O O (Y ?_);refine Zh (Loud.aV _) rfl (AR.cA X O rfl) (Y ?_);refine Zd a rfl rfl O O (Y ?_);refine Zh (Loud.aV _) rfl (AR.cA X O rfl) (Y ?_);refine Zd a rfl rfl O O (Y ?_);refine ZS X O (ZK _ _) rfl rfl λHW C=>?_;refine Zp Loud.aV (Y ?_);refine Zd p rfl rfl O O (Y ?_);refine ZS C (by rw[qAg];omega) (ZK _ _) rfl rfl λH1 u=>?_;refine OB ?_;have pB:(l.set a (el l p)).set p (el l a)=dS l a p:=rfl;rw[pB]at u;have Cv:Rg a b l (dS l a p):=.step _ _ (.refl l) O O O O;have ev:el (dS l a p) a=el l p:=by
  rw[Yh _ O O];by_cases e:a=p
  ·rw[iF e,e]
  rw[aT e,iF rfl]
 have Da:oD a b (a+1) (b-1) (el l p) (dS l a p):=⟨ev,λk h1 h2=>O,λk h1 h2=>O,O,O,O⟩;generalize dS l a p=c1 at *;have HS:((b:Int)-1)=((b-1:Nat):Int):=O;rw[HS];generalize el l p=v at *;have NX:=Cv.len;refine OB ?_;refine Z2 (λ(i:Nat) B=>H1=B/\oD a b i (b-1) v c1/\((b-1)<i\/v<=el c1 i)/\(a+1)<=i) (λi=>[(0,.slice (some ⟨r,0,none⟩) n cap),(1,vi a),(10,vi ((i:Nat):Int)),(11,vi (((b-1):Nat):Int))]) (λ_=>[]) ?_ ?_
 ·refine Y ?_;refine Zv ((b-1)+1-(a+1)) (λt B=>H1=B/\oD a b ((a+1)+t) (b-1) v c1) (λt=>[(0,.slice (some ⟨r,0,none⟩) n cap),(1,vi a),(10,vi (((a+1)+t:Nat):Int)),(11,vi (((b-1):Nat):Int))]) (λ_=>[]) ⟨rfl,Da⟩ V trivial ?_;rintro t _ ht ⟨rfl,d⟩;have q1:=d.ai;have q2:=d.ij;have q3:=d.jb;have R:=d.eq;refine OJ (λz1=>?_) (λz1=>?_)
  ·refine Y ?_;refine Zd ((a+1)+t) rfl rfl rfl O (Y ?_);refine Zh (OL _) rfl (u.cA O rfl) (Y ?_);refine Zd a rfl rfl rfl O (Y ?_);refine Zh (OL _) rfl (u.cA O rfl) ?_;rw[R];refine Y ?_;refine Za [vi (el c1 ((a+1)+t)),vi v] (VM _ _) ?_;rintro w _ ⟨rfl,rfl⟩;refine OJ (λU=>?_) (λU=>?_)
   ·refine Y ?_;refine⟨⟨t+1,O⟩,bN O,⟨rfl,R,λk k1 T=>?_,d.hi,?_,?_,d.jb⟩,V,trivial,rfl⟩
    ·have T:k<(a+1)+(t+1):=T;by_cases e:k=(a+1)+t
     ·subst e;exact U
     exact d.lo k k1 O
    ·show a+1<=(a+1)+(t+1);omega
    show(a+1)+(t+1)<=(b-1)+1;omega
   refine Y ?_;exact⟨(a+1)+t,⟨rfl,d,.inr O,O⟩,V,trivial,rfl⟩
  refine Y ?_;exact⟨(a+1)+t,⟨rfl,d,.inl O,O⟩,V,trivial,rfl⟩
 rintro g _ ⟨rfl,GK,J2,gi2⟩;refine OB ?_;refine Z2 (λ(j:Nat) B=>H1=B/\oD a b g j v c1/\(j<g\/el c1 j<v)/\(g<=j->v<=el c1 g)/\j<=(b-1)) (λj=>[(0,.slice (some ⟨r,0,none⟩) n cap),(1,vi a),(10,vi ((g:Nat):Int)),(11,vi ((j:Nat):Int))]) (λ_=>[]) ?_ ?_
 ·refine Y ?_;refine Zv ((b-1)+1-g) (λt B=>H1=B/\oD a b g ((b-1)-t) v c1) (λt=>[(0,.slice (some ⟨r,0,none⟩) n cap),(1,vi a),(10,vi ((g:Nat):Int)),(11,vi (((b-1)-t:Nat):Int))]) (λ_=>[]) ⟨rfl,GK⟩ V trivial ?_;rintro t _ ht ⟨rfl,d⟩;have q1:=d.ai;have q2:=d.ij;have q3:=d.jb;have R:=d.eq;have q5:=GK.ij;have q6:=GK.jb;obtain⟨E,BN⟩:∃E,(b-1)-t=E:=⟨_,rfl⟩;rw[BN]at d q2 q3 ⊢;refine OJ (λz1=>?_) (λz1=>?_)
  ·refine Y ?_;refine Zd E rfl rfl rfl O (Y ?_);refine Zh (OL _) rfl (u.cA O rfl) (Y ?_);refine Zd a rfl rfl rfl O (Y ?_);refine Zh (OL _) rfl (u.cA O rfl) ?_;rw[R];refine Y ?_;refine Za [vi (el c1 E),vi v] (VM _ _) ?_;rintro w _ ⟨rfl,rfl⟩;refine OJ (λU=>?_) (λU=>?_)
   ·refine Y ?_;refine⟨⟨t+1,O⟩,bN O,⟨rfl,R,d.lo,λk k1 T=>?_,d.ai,?_,?_⟩,⟨rfl,rfl,rfl,?_,trivial⟩,trivial,rfl⟩
    ·have k1:(b-1)-(t+1)<k:=k1;by_cases e:k=E
     ·subst e;omega
     exact d.hi k O T
    ·show g<=(b-1)-(t+1)+1;omega
    ·show(b-1)-(t+1)+1<=b;omega
    show some (vi ((E:Int)-1))=some (vi (((b-1)-(t+1):Nat):Int));congr 2;omega
   refine Y ?_;exact⟨E,⟨rfl,d,.inr O,λh=>by have:=J2;omega,O⟩,V,trivial,rfl⟩
  refine Y ?_;exact⟨E,⟨rfl,d,.inl O,λh=>O,O⟩,V,trivial,rfl⟩
 rintro o _ ⟨rfl,N,MH,MF,gj3⟩;have w1:=N.ai;have w2:=N.ij;have w3:=N.jb;refine OB ?_;refine Z9 ?_;refine OJ (λg1=>?_) (λg1=>?_)
 ·refine Y ?_;refine Zd a rfl rfl O O (Y ?_);refine Zh (Loud.aV _) rfl (AR.cA u O rfl) (Y ?_);refine Zd o rfl rfl O O (Y ?_);refine Zh (Loud.aV _) rfl (AR.cA u O rfl) (Y ?_);refine Zd o rfl rfl O O (Y ?_);refine ZS u O (ZK _ _) rfl rfl λHW C=>?_;refine Zp Loud.aV (Y ?_);refine Zd a rfl rfl O O (Y ?_);refine ZS C (by rw[qAg];omega) (ZK _ _) rfl rfl λH5 S=>Y ?_;exact⟨dS c1 o a,o,true,S,.step _ _ Cv O O O O,N.fin O O,rfl⟩
 have D7:g<=o:=O;have pK:g≠o:=λe=>by have h1:=MF D7;rw[e]at h1;rcases MH with h | h<;>omega
 have F:=N.swap D7 (MF D7) (by rcases MH with h | h<;>omega) O;have Cu:Rg a b l (dS c1 g o):=.step _ _ Cv O O O O;refine OB ?_;refine Zd o rfl rfl O O (Y ?_);refine Zh (Loud.aV _) rfl (AR.cA u O rfl) (Y ?_);refine Zd g rfl rfl O O (Y ?_);refine Zh (Loud.aV _) rfl (AR.cA u O rfl) (Y ?_);refine Zd g rfl rfl O O (Y ?_);refine ZS u O (ZK _ _) rfl rfl λHW C=>?_;refine Zp Loud.aV (Y ?_);refine Zd o rfl rfl O O (Y ?_);refine ZS C (by rw[qAg];omega) (ZK _ _) rfl rfl λH5 S=>?_;have pB:(c1.set g (el c1 o)).set o (el c1 g)=dS c1 g o:=rfl;rw[pB]at S;generalize dS c1 g o=c3 at *;have Gz:((o:Int)-1)=((o-1:Nat):Int):=O;refine OB ?_;rw[Gz];refine Z9 ?_;refine OB ?_;refine ZO (α:=List Int×Nat×Nat) (o-1+1-(g+1)) (λt s B=>AR H B r s.1 rest/\Rg a b l s.1/\oD a b s.2.1 s.2.2 v s.1/\s.2.2+1-s.2.1+t=o-1+1-(g+1)) (λt s=>[(0,.slice (some ⟨r,0,none⟩) n cap),(1,vi a),(10,vi ((s.2.1:Nat):Int)),(11,vi ((s.2.2:Nat):Int))]) (λ_ _=>[]) (c3,g+1,o-1) ⟨S,Cu,F,by show o-1+1-(g+1)+0=_;omega⟩ V trivial ?_;rintro t0 ⟨K,L,I⟩ H7 D4 ⟨z,J,W,hm⟩;clear F;have F:=W;clear W;simp only at z J F hm;have Gh:=J.len;have y1:=F.ai;have y2:=F.ij;have y3:=F.jb;refine OB ?_;refine Z2 (λ(i:Nat) B=>H7=B/\oD a b i I v K/\(I<i\/v<=el K i)/\L<=i) (λi=>[(0,.slice (some ⟨r,0,none⟩) n cap),(1,vi a),(10,vi ((i:Nat):Int)),(11,vi ((I:Nat):Int))]) (λ_=>[]) ?_ ?_
 ·refine Y ?_;refine Zv (I+1-L) (λt B=>H7=B/\oD a b (L+t) I v K) (λt=>[(0,.slice (some ⟨r,0,none⟩) n cap),(1,vi a),(10,vi ((L+t:Nat):Int)),(11,vi ((I:Nat):Int))]) (λ_=>[]) ⟨rfl,F⟩ V trivial ?_;rintro t _ ht ⟨rfl,d⟩;have q1:=d.ai;have q2:=d.ij;have q3:=d.jb;have R:=d.eq;refine OJ (λz1=>?_) (λz1=>?_)
  ·refine Y ?_;refine Zd (L+t) rfl rfl rfl O (Y ?_);refine Zh (OL _) rfl (z.cA O rfl) (Y ?_);refine Zd a rfl rfl rfl O (Y ?_);refine Zh (OL _) rfl (z.cA O rfl) ?_;rw[R];refine Y ?_;refine Za [vi (el K (L+t)),vi v] (VM _ _) ?_;rintro w _ ⟨rfl,rfl⟩;refine OJ (λU=>?_) (λU=>?_)
   ·refine Y ?_;refine⟨⟨t+1,O⟩,bN O,⟨rfl,R,λk k1 T=>?_,d.hi,?_,?_,d.jb⟩,V,trivial,rfl⟩
    ·have T:k<L+(t+1):=T;by_cases e:k=L+t
     ·subst e;exact U
     exact d.lo k k1 O
    ·show a+1<=L+(t+1);omega
    show L+(t+1)<=I+1;omega
   refine Y ?_;exact⟨L+t,⟨rfl,d,.inr O,O⟩,V,trivial,rfl⟩
  refine Y ?_;exact⟨L+t,⟨rfl,d,.inl O,O⟩,V,trivial,rfl⟩
 rintro A _ ⟨rfl,GJ,DQ,Gv⟩;refine OB ?_;refine Z2 (λ(j:Nat) B=>H7=B/\oD a b A j v K/\(j<A\/el K j<v)/\(A<=j->v<=el K A)/\j<=I) (λj=>[(0,.slice (some ⟨r,0,none⟩) n cap),(1,vi a),(10,vi ((A:Nat):Int)),(11,vi ((j:Nat):Int))]) (λ_=>[]) ?_ ?_
 ·refine Y ?_;refine Zv (I+1-A) (λt B=>H7=B/\oD a b A (I-t) v K) (λt=>[(0,.slice (some ⟨r,0,none⟩) n cap),(1,vi a),(10,vi ((A:Nat):Int)),(11,vi ((I-t:Nat):Int))]) (λ_=>[]) ⟨rfl,GJ⟩ V trivial ?_;rintro t _ ht ⟨rfl,d⟩;have q1:=d.ai;have q2:=d.ij;have q3:=d.jb;have R:=d.eq;have q5:=GJ.ij;have q6:=GJ.jb;obtain⟨E,BN⟩:∃E,I-t=E:=⟨_,rfl⟩;rw[BN]at d q2 q3 ⊢;refine OJ (λz1=>?_) (λz1=>?_)
  ·refine Y ?_;refine Zd E rfl rfl rfl O (Y ?_);refine Zh (OL _) rfl (z.cA O rfl) (Y ?_);refine Zd a rfl rfl rfl O (Y ?_);refine Zh (OL _) rfl (z.cA O rfl) ?_;rw[R];refine Y ?_;refine Za [vi (el K E),vi v] (VM _ _) ?_;rintro w _ ⟨rfl,rfl⟩;refine OJ (λU=>?_) (λU=>?_)
   ·refine Y ?_;refine⟨⟨t+1,O⟩,bN O,⟨rfl,R,d.lo,λk k1 T=>?_,d.ai,?_,?_⟩,⟨rfl,rfl,rfl,?_,trivial⟩,trivial,rfl⟩
    ·have k1:I-(t+1)<k:=k1;by_cases e:k=E
     ·subst e;omega
     exact d.hi k O T
    ·show A<=I-(t+1)+1;omega
    ·show I-(t+1)+1<=b;omega
    show some (vi ((E:Int)-1))=some (vi ((I-(t+1):Nat):Int));congr 2;omega
   refine Y ?_;exact⟨E,⟨rfl,d,.inr O,λh=>by have:=DQ;omega,O⟩,V,trivial,rfl⟩
  refine Y ?_;exact⟨E,⟨rfl,d,.inl O,λh=>O,O⟩,V,trivial,rfl⟩
 rintro D _ ⟨rfl,Q,MG,ME,Gt⟩;have x1:=Q.ai;have x2:=Q.ij;have x3:=Q.jb;refine OB ?_;refine Z9 ?_;refine OJ (λg2=>?_) (λg2=>?_)
 ·refine Y ?_;refine Zd a rfl rfl O O (Y ?_);refine Zh (Loud.aV _) rfl (AR.cA z O rfl) (Y ?_);refine Zd D rfl rfl O O (Y ?_);refine Zh (Loud.aV _) rfl (AR.cA z O rfl) (Y ?_);refine Zd D rfl rfl O O (Y ?_);refine ZS z O (ZK _ _) rfl rfl λHW C=>?_;refine Zp Loud.aV (Y ?_);refine Zd a rfl rfl O O (Y ?_);refine ZS C (by rw[qAg];omega) (ZK _ _) rfl rfl λH9 Z=>Y ?_;exact⟨dS K D a,D,false,Z,.step _ _ J O O O O,Q.fin O O,rfl⟩
 have M:A<=D:=O;have BL:A≠D:=λe=>by have h1:=ME M;rw[e]at h1;rcases MG with h | h<;>omega
 have GI:=Q.swap M (ME M) (by rcases MG with h | h<;>omega) O;have GD:Rg a b l (dS K A D):=.step _ _ J O O O O;refine Y ?_;refine Zd D rfl rfl O O (Y ?_);refine Zh (Loud.aV _) rfl (AR.cA z O rfl) (Y ?_);refine Zd A rfl rfl O O (Y ?_);refine Zh (Loud.aV _) rfl (AR.cA z O rfl) (Y ?_);refine Zd A rfl rfl O O (Y ?_);refine ZS z O (ZK _ _) rfl rfl λHW C=>?_;refine Zp Loud.aV (Y ?_);refine Zd D rfl rfl O O (Y ?_);refine ZS C (by rw[qAg];omega) (ZK _ _) rfl rfl λH9 Z=>Y ?_;refine⟨(⟨o-1+1-(g+1)-(D-1+1-(A+1)),O⟩,(dS K A D,A+1,D-1)),?_,⟨Z,GD,GI,?_⟩,⟨rfl,rfl,rfl,?_,trivial⟩,trivial,rfl⟩
 ·show o-1+1-(g+1)-(o-1+1-(g+1)-(D-1+1-(A+1)))<o-1+1-(g+1)-t0;omega
 ·show D-1+1-(A+1)+(o-1+1-(g+1)-(D-1+1-(A+1)))=o-1+1-(g+1);omega
 show some (vi ((D:Int)-1))=some (vi ((D-1:Nat):Int));congr 2;omega
end
structure uM(a b i j:Nat)(v:Int)(c:List Int):Prop where
 eq:el c a=v
 lo:∀k,a+1<=k->k<i->el c k<=v
 hi:∀k,j<k->k<b->v<el c k
 ai:a+1<=i
 ij:i<=j+1
 jb:j+1<=b
def uM.swap(h:uM a b i j v c)(o:i<=j)(g:v<el c i)(m:el c j<=v)(w:b<=c.length):uM a b (i+1) (j-1) v (dS c i j):=by
 have t:=h.ai;have u:=h.jb;have q:i≠j:=λe=>by subst e;omega
 have es:∀x,el (dS c i j) x=if x=j then el c i else if x=i then el c j else el c x:=λx=>Yh x O O
 refine⟨by rw[es,aT O,aT O];exact h.eq,λk k1 d=>?_,λk k1 d=>?_,O,O,O⟩
 ·rw[es,aT O];by_cases e:k=i
  ·rw[iF e];exact m
  rw[aT e];exact h.lo k k1 O
 rw[es];by_cases e:k=j
 ·rw[iF e];exact g
 rw[aT e,aT O];exact h.hi k O d
def Nm(a b:Nat)(d:List Int)(i:Nat)(v:Int):Prop:=a<i/\i<=b/\(∀k,a<=k->k<i->el d k<=v)/\∀k,i<=k->k<b->v<el d k
def uM.fin(h:uM a b i j v c)(g:j<i):Nm a b c i v:=by
 have m:=h.ai;have o:=h.ij;have q:=h.jb;refine⟨O,O,λk k1 d=>?_,λk k1 d=>h.hi k O d⟩;by_cases e:k=a
 ·rw[e,h.eq];exact qAx _
 exact h.lo k O d
section
variable{P:aX}[Tz P][Loud P]{H:Hp}
def ZsD(hA:H r=some (.cells (Zb l++rest).toArray 3 (0,0),true))(hn:l.length=n)(FN:a<=p)(Et:p<b)(hb:b<=n)(hl:n<=1000000) :
  LL.Zc P 178 #[.slice (some ⟨r,0,none⟩) n cap,vi a,vi b,vi p] H λv C=>∃l' q,AR H C r l' rest/\Rg a b l l'/\Nm a b l' q (el l p)/\v=vi (q:Nat):=by
 refine aJ.m (bG ZvZ) (args:=[.slice (some ⟨r,0,none⟩) n cap,vi a,vi b,vi p]) rfl ?_;unfold Zjm;have K:=AR.of hA;refine Y ?_;refine Zd p rfl rfl O O (Y ?_);refine Zh (Loud.aV _) rfl (AR.cA K O rfl) (Y ?_);refine Zd a rfl rfl O O (Y ?_);refine Zh (Loud.aV _) rfl (AR.cA K O rfl) (Y ?_);refine Zd a rfl rfl O O (Y ?_);refine ZS K O (ZK _ _) rfl rfl λHW L=>?_;refine Zp Loud.aV (Y ?_);refine Zd p rfl rfl O O (Y ?_);refine ZS L (by rw[qAg];omega) (ZK _ _) rfl rfl λH1 N=>?_;refine OB ?_;have pB:(l.set a (el l p)).set p (el l a)=dS l a p:=rfl;rw[pB]at N;have S:Rg a b l (dS l a p):=.step _ _ (.refl l) O O O O;have ev:el (dS l a p) a=el l p:=by
  rw[Yh _ O O];by_cases e:a=p
  ·rw[iF e,e]
  rw[aT e,iF rfl]
 have Q:uM a b (a+1) (b-1) (el l p) (dS l a p):=⟨ev,λk h1 h2=>O,λk h1 h2=>O,O,O,O⟩;generalize dS l a p=c1 at *;have HS:((b:Int)-1)=((b-1:Nat):Int):=O;rw[HS];generalize el l p=v at *;have NX:=S.len;refine Z9 ?_;refine OB ?_;refine ZO (α:=List Int×Nat×Nat) (b-1+1-(a+1)) (λt s C=>AR H C r s.1 rest/\Rg a b l s.1/\uM a b s.2.1 s.2.2 v s.1/\s.2.2+1-s.2.1+t=b-1+1-(a+1)) (λt s=>[(0,.slice (some ⟨r,0,none⟩) n cap),(1,vi a),(9,vi ((s.2.1:Nat):Int)),(10,vi ((s.2.2:Nat):Int))]) (λ_ _=>[]) (c1,a+1,b-1) ⟨N,S,Q,by show b-1+1-(a+1)+0=_;omega⟩ V trivial ?_;rintro t0 ⟨A,B,u⟩ W D4 ⟨o,I,E,hm⟩;clear Q;simp only at o I E hm;have Gh:=I.len;have y1:=E.ai;have y2:=E.ij;have y3:=E.jb;refine OB ?_;refine Z2 (λ(i:Nat) C=>W=C/\uM a b i u v A/\(u<i\/v<el A i)/\B<=i) (λi=>[(0,.slice (some ⟨r,0,none⟩) n cap),(1,vi a),(9,vi ((i:Nat):Int)),(10,vi ((u:Nat):Int))]) (λ_=>[]) ?_ ?_
 ·refine Y ?_;refine Zv (u+1-B) (λt C=>W=C/\uM a b (B+t) u v A) (λt=>[(0,.slice (some ⟨r,0,none⟩) n cap),(1,vi a),(9,vi ((B+t:Nat):Int)),(10,vi ((u:Nat):Int))]) (λ_=>[]) ⟨rfl,E⟩ V trivial ?_;rintro t _ ht ⟨rfl,d⟩;have q1:=d.ai;have q2:=d.ij;have q3:=d.jb;have R:=d.eq;refine OJ (λz1=>?_) (λz1=>?_)
  ·refine Y ?_;refine Zd a rfl rfl rfl O (Y ?_);refine Zh (OL _) rfl (o.cA O rfl) ?_;rw[R];refine Y ?_;refine Zd (B+t) rfl rfl rfl O (Y ?_);refine Zh (OL _) rfl (o.cA O rfl) (Y ?_);refine Za [vi v,vi (el A (B+t))] (VM _ _) ?_;rintro w _ ⟨rfl,rfl⟩;refine OJ (λZ=>?_) (λZ=>?_)
   ·refine Y ?_;refine⟨⟨t+1,O⟩,bN O,⟨rfl,R,λk k1 X=>?_,d.hi,?_,?_,d.jb⟩,V,trivial,rfl⟩
    ·have X:k<B+(t+1):=X;by_cases e:k=B+t
     ·subst e;omega
     exact d.lo k k1 O
    ·show a+1<=B+(t+1);omega
    show B+(t+1)<=u+1;omega
   refine Y ?_;exact⟨B+t,⟨rfl,d,.inr O,O⟩,V,trivial,rfl⟩
  refine Y ?_;exact⟨B+t,⟨rfl,d,.inl O,O⟩,V,trivial,rfl⟩
 rintro g _ ⟨rfl,M,DQ,Gv⟩;refine OB ?_;refine Z2 (λ(j:Nat) C=>W=C/\uM a b g j v A/\(j<g\/el A j<=v)/\(g<=j->v<el A g)/\j<=u) (λj=>[(0,.slice (some ⟨r,0,none⟩) n cap),(1,vi a),(9,vi ((g:Nat):Int)),(10,vi ((j:Nat):Int))]) (λ_=>[]) ?_ ?_
 ·refine Y ?_;refine Zv (u+1-g) (λt C=>W=C/\uM a b g (u-t) v A) (λt=>[(0,.slice (some ⟨r,0,none⟩) n cap),(1,vi a),(9,vi ((g:Nat):Int)),(10,vi ((u-t:Nat):Int))]) (λ_=>[]) ⟨rfl,M⟩ V trivial ?_;rintro t _ ht ⟨rfl,d⟩;have q1:=d.ai;have q2:=d.ij;have q3:=d.jb;have R:=d.eq;have q5:=M.ij;have q6:=M.jb;obtain⟨J,BN⟩:∃J,u-t=J:=⟨_,rfl⟩;rw[BN]at d q2 q3 ⊢;refine OJ (λz1=>?_) (λz1=>?_)
  ·refine Y ?_;refine Zd a rfl rfl rfl O (Y ?_);refine Zh (OL _) rfl (o.cA O rfl) ?_;rw[R];refine Y ?_;refine Zd J rfl rfl rfl O (Y ?_);refine Zh (OL _) rfl (o.cA O rfl) (Y ?_);refine Za [vi v,vi (el A J)] (VM _ _) ?_;rintro w _ ⟨rfl,rfl⟩;refine OJ (λZ=>?_) (λZ=>?_)
   ·refine Y ?_;refine⟨⟨t+1,O⟩,bN O,⟨rfl,R,d.lo,λk k1 X=>?_,d.ai,?_,?_⟩,⟨rfl,rfl,rfl,?_,trivial⟩,trivial,rfl⟩
    ·have k1:u-(t+1)<k:=k1;by_cases e:k=J
     ·subst e;exact Z
     exact d.hi k O X
    ·show g<=u-(t+1)+1;omega
    ·show u-(t+1)+1<=b;omega
    show some (vi ((J:Int)-1))=some (vi ((u-(t+1):Nat):Int));congr 2;omega
   refine Y ?_;exact⟨J,⟨rfl,d,.inr O,λh=>by have:=DQ;omega,O⟩,V,trivial,rfl⟩
  refine Y ?_;exact⟨J,⟨rfl,d,.inl O,λh=>O,O⟩,V,trivial,rfl⟩
 rintro z _ ⟨rfl,F,T,U,Gt⟩;have x1:=F.ai;have x2:=F.ij;have x3:=F.jb;refine OB ?_;refine Z9 ?_;refine OJ (λg2=>?_) (λg2=>?_)
 ·refine Y ?_;exact⟨A,g,o,I,F.fin O,rfl⟩
 have D:g<=z:=O;have BL:g≠z:=λe=>by have h1:=U D;rw[e]at h1;rcases T with h | h<;>omega
 have GI:=F.swap D (U D) (by rcases T with h | h<;>omega) O;have GD:Rg a b l (dS A g z):=.step _ _ I O O O O;refine Y ?_;refine Zd z rfl rfl O O (Y ?_);refine Zh (Loud.aV _) rfl (AR.cA o O rfl) (Y ?_);refine Zd g rfl rfl O O (Y ?_);refine Zh (Loud.aV _) rfl (AR.cA o O rfl) (Y ?_);refine Zd g rfl rfl O O (Y ?_);refine ZS o O (ZK _ _) rfl rfl λHW L=>?_;refine Zp Loud.aV (Y ?_);refine Zd z rfl rfl O O (Y ?_);refine ZS L (by rw[qAg];omega) (ZK _ _) rfl rfl λH9 IA=>Y ?_;refine⟨(⟨b-1+1-(a+1)-(z-1+1-(g+1)),O⟩,(dS A g z,g+1,z-1)),?_,⟨IA,GD,GI,?_⟩,⟨rfl,rfl,rfl,?_,trivial⟩,trivial,rfl⟩
 ·show b-1+1-(a+1)-(b-1+1-(a+1)-(z-1+1-(g+1)))<b-1+1-(a+1)-t0;omega
 ·show z-1+1-(g+1)+(b-1+1-(a+1)-(z-1+1-(g+1)))=b-1+1-(a+1);omega
 show some (vi ((z:Int)-1))=some (vi ((z-1:Nat):Int));congr 2;omega
end
structure oF(H H':Hp)(r2:Nat)(s:Nat):Prop where
 keep:∀b x,b≠r2->H b=some x->H' b=some x
 at_:H' r2=some (.cells #[vi s] 3 (0,0),true)
def oF.trans{H d:Hp}{g:Nat}(h:oF H H' r2 s)(e:oF H' d r2 g):oF H d r2 g:=⟨λb x hb k=>e.keep b x hb (h.keep b x hb k),e.at_⟩
def oF.arr{H:Hp}(h:oF H H' r2 s)(d:H r=some (.cells (Zb l++rest).toArray 3 (0,0),true))(e:r≠r2):H' r=some (.cells (Zb l++rest).toArray 3 (0,0),true):=h.keep _ _ e d
section
variable{P:aX}[Tz P][Loud P]{H:Hp}
def Jr(u:H r=some (.cells (Zb l++rest).toArray 3 (0,0),true))(A:l.length=n)(C:x<n)(D:y<n)(B:r≠r2)(e:H r2=some (.cells #[vi s] 3 (0,0),true))(w:s<=1000) :
  LL.Zc P 246 #[.slice (some ⟨r,0,none⟩) n cap,vi x,vi y,pt r2] H λv q=>∃o h k:Nat,oF H q r2 o/\o<=s+1/\v=.tuple #[vi h,vi k]/\((h=x/\k=y)\/(h=y/\k=x)):=by
 refine aJ.m (bG ZvM) (args:=[.slice (some ⟨r,0,none⟩) n cap,vi x,vi y,pt r2]) rfl ?_;unfold Zi9;have d:=AR.of u;refine Y ?_;refine Zd y rfl rfl rfl O (Y ?_);refine Zh (OL _) rfl (d.cA O rfl) (Y ?_);refine Zd x rfl rfl rfl O (Y ?_);refine Zh (OL _) rfl (d.cA O rfl) (Y ?_);refine Za [vi (el l y),vi (el l x)] (VM _ _) ?_;rintro v _ ⟨rfl,rfl⟩;refine OJ (λt=>?_) (λt=>?_)
 ·refine Y ?_;refine VE rfl (Y ?_);refine Zh (OL _) rfl (ZA (cs:=[vi s]) e) (Y ?_);refine VE rfl (Y ?_);refine Vq (cD t3) rfl rfl e rfl rfl (OL _) (Y ?_);exact⟨s+1,y,x,⟨λb z hb g=>by rw[Hp.aH _ _ hb];exact g,Hp.aG _ _ _⟩,dO _,rfl,.inr ⟨rfl,rfl⟩⟩
 refine Y ?_;exact⟨s,x,y,⟨λb z hb g=>g,e⟩,O,rfl,.inl ⟨rfl,rfl⟩⟩
def Zlv{z:Nat}(e:H r=some (.cells (Zb l++rest).toArray 3 (0,0),true))(g:l.length=n)(w:x<n)(A:y<n)(B:z<n)(d:r≠r2)(t:H r2=some (.cells #[vi s] 3 (0,0),true))(u:s<=900) :
  LL.Zc P 223 #[.slice (some ⟨r,0,none⟩) n cap,vi x,vi y,vi z,pt r2] H λv o=>∃k q:Nat,oF H o r2 k/\k<=s+3/\v=vi q/\(q=x\/q=y\/q=z):=by
 refine aJ.m (bG ZvO) (args:=[.slice (some ⟨r,0,none⟩) n cap,vi x,vi y,vi z,pt r2]) rfl ?_;unfold Zjb;refine Y ?_;refine Za [.slice (some ⟨r,0,none⟩) n cap,vi x,vi y,pt r2] (Jr e g w A d t O) ?_;rintro v K ⟨s1,E,F,k1,N,rfl,S⟩;refine Y ?_;refine Za [.slice (some ⟨r,0,none⟩) n cap,vi F,vi z,pt r2] (Jr (k1.arr e d) g O B d k1.at_ O) ?_;rintro v L ⟨s2,I,W,h,Q,rfl,T⟩;refine Y ?_;refine Za [.slice (some ⟨r,0,none⟩) n cap,vi E,vi I,pt r2] (Jr (h.arr (k1.arr e d) d) g O O d h.at_ O) ?_;rintro v M ⟨D,V,J,C,R,rfl,U⟩;refine Y ?_;exact⟨D,J,(k1.trans h).trans C,O,rfl,O⟩
def Iv(u:H r=some (.cells (Zb l++rest).toArray 3 (0,0),true))(w:l.length=n)(C:1<=x)(A:x+1<n)(D:n<=1000000)(z:r≠r2)(t:H r2=some (.cells #[vi s] 3 (0,0),true))(d:s<=900) :
  LL.Zc P 222 #[.slice (some ⟨r,0,none⟩) n cap,vi x,pt r2] H λv g=>∃e q:Nat,oF H g r2 e/\e<=s+3/\v=vi q/\(q+1=x\/q=x\/q=x+1):=by
 refine aJ.m (bG ZvP) (args:=[.slice (some ⟨r,0,none⟩) n cap,vi x,pt r2]) rfl ?_;unfold Zjc;have h:((x:Int)-1)=((x-1:Nat):Int):=O;have k:((x:Int)+1)=((x+1:Nat):Int):=O;refine Y ?_;rw[h,k];refine Za [.slice (some ⟨r,0,none⟩) n cap,vi (x-1:Nat),vi x,vi (x+1:Nat),pt r2] (Zlv u w O O A z t d) ?_;rintro v B ⟨s1,q,k1,o,rfl,E⟩;refine Y ?_;exact⟨s1,q,k1,o,rfl,O⟩
def Zvw(Z:H r=some (.cells (Zb l++rest).toArray 3 (0,0),true))(F:l.length=n)(CP:a+12<b)(hb:b<=n)(N:n<=1000000) :
  LL.Zc P 174 #[.slice (some ⟨r,0,none⟩) n cap,vi a,vi b] H λv g=>∃q h:Nat,aL H g/\v=.tuple #[vi q,vi h]/\a<=q/\q<b:=by
 refine aJ.m (bG Zv3) (args:=[.slice (some ⟨r,0,none⟩) n cap,vi a,vi b]) rfl ?_;unfold Zjq;obtain⟨d,rfl⟩:∃d,b=a+d:=⟨b-a,O⟩;have ed:(((a+d:Nat):Int)-(a:Int))=(d:Int):=O;have B:((d:Int)).tdiv 4=((d / 4:Nat):Int):=by rw[qBX O];omega
 refine Y ?_;rw[ed];refine Vt (cD t3) (OL _) λr2 u=>?_;have t:r≠r2:=by rintro rfl;rw[Z]at u;simp at u
 have o:(H.ins r2 (.cells (vi 0).cells 3)) r=some (.cells (Zb l++rest).toArray 3 (0,0),true):=by rw[Hp.aH _ _ t];exact Z
 have k0:oF H (H.ins r2 (.cells (vi 0).cells 3)) r2 0:=⟨λb z hb I=>by rw[Hp.aH _ _ hb];exact I,Hp.aG _ _ _⟩;generalize H.ins r2 (.cells (vi 0).cells 3)=K at *;have e:∀g s,oF K g r2 s->aL H g:=λg s k b z I=>by
  have hb:b≠r2:=by rintro rfl;rw[I]at u;simp at u
  exact k.keep b z hb (k0.keep b z hb I)
 refine Y ?_;refine VD rfl rfl (by decide) (by rw[B];exact⟨O,O⟩) ?_;rw[B];generalize hm:d / 4=m at *;refine Y ?_;refine V8 rfl rfl ⟨O,O⟩ (Y ?_);refine VD rfl rfl (by decide) (by rw[B];exact⟨O,O⟩) ?_;rw[B];refine Y ?_;refine V8 rfl rfl ⟨O,O⟩ (Y ?_);refine VD rfl rfl (by decide) (by rw[B];exact⟨O,O⟩) ?_;rw[B];refine Y ?_;refine V8 rfl rfl ⟨O,O⟩ ?_;refine OB ?_;refine Z2 (λ(x:Nat×Nat) g=>oF K g r2 x.1/\a<=x.2/\x.2<a+d) (λx=>[(9,pt r2),(11,vi (x.2:Nat))]) (λ_=>[]) ?_ ?_
 ·refine OB ?_;refine OI (λX=>?_) (λX=>?_)
  ·refine OB ?_;refine Z2 (λ(x:Nat×Nat×Nat×Nat) g=>oF K g r2 x.1/\x.1<=9/\x.2.1<a+d/\a<=x.2.1/\x.2.2.1<a+d/\a<=x.2.2.1/\x.2.2.2<a+d/\a<=x.2.2.2) (λx=>[(0,.slice (some ⟨r,0,none⟩) n cap),(9,pt r2),(10,vi (x.2.1:Nat)),(11,vi (x.2.2.1:Nat)),(12,vi (x.2.2.2:Nat))]) (λ_=>[]) ?_ ?_
   ·have h1:((a:Int)+(m:Int) * 1)=((a+m:Nat):Int):=O;have h2:((a:Int)+(m:Int) * 2)=((a+m * 2:Nat):Int):=O;have h3:((a:Int)+(m:Int) * 3)=((a+m * 3:Nat):Int):=O;rw[h1,h2,h3];refine OJ (λg2=>?_) (λg2=>?_)
    ·refine Y ?_;refine Za [.slice (some ⟨r,0,none⟩) n cap,vi (a+m:Nat),pt r2] (Iv (s:=0) o F O O N t k0.at_ O) ?_;rintro v H2 ⟨s2,R,J,w2,rfl,p2⟩;refine Y ?_;refine Za [.slice (some ⟨r,0,none⟩) n cap,vi (a+m * 2:Nat),pt r2] (Iv (J.arr o t) F O O N t J.at_ O) ?_;rintro v H3 ⟨s3,S,Q,w3,rfl,p3⟩;refine Y ?_;refine Za [.slice (some ⟨r,0,none⟩) n cap,vi (a+m * 3:Nat),pt r2] (Iv (Q.arr (J.arr o t) t) F O O N t Q.at_ O) ?_;rintro v H4 ⟨s4,T,k4,w4,rfl,p4⟩;refine Y ?_;exact⟨(s4,R,S,T),⟨(J.trans Q).trans k4,by show s4<=9;omega,by show R<a+d;omega,by show a<=R;omega,by show S<a+d;omega,by show a<=S;omega,by show T<a+d;omega,by show a<=T;omega⟩,V,trivial,rfl⟩
    refine Y ?_;exact⟨(0,a+m,a+m * 2,a+m * 3),⟨⟨λ_ _ _ h=>h,k0.at_⟩,by show 0<=9;omega,by show a+m<a+d;omega,by show a<=a+m;omega,by show a+m * 2<a+d;omega,by show a<=a+m * 2;omega,by show a+m * 3<a+d;omega,by show a<=a+m * 3;omega⟩,V,trivial,rfl⟩
   rintro⟨s5,i5,j5,k5⟩ H5 ⟨E,b5,b6,w,A,b9,L,M⟩;simp only at E b5 b6 w A b9 L M;refine Y ?_;refine Za [.slice (some ⟨r,0,none⟩) n cap,vi i5,vi j5,vi k5,pt r2] (Zlv (E.arr o t) F O O O t E.at_ O) ?_;rintro v H6 ⟨s6,U,k6,w6,rfl,p6⟩;refine Y ?_;exact⟨(s6,U),⟨E.trans k6,by show a<=U;omega,by show U<a+d;omega⟩,V,trivial,rfl⟩
  exact absurd X O
 rintro⟨s7,W⟩ H7 ⟨C,w,A⟩;simp only at C w A;refine Y ?_;refine Zh (OL _) rfl (ZA (cs:=[vi s7]) C.at_) ?_;refine OJ (λg3=>?_) (λg3=>?_)
 ·refine Y ?_;exact⟨W,1,e _ _ C,rfl,w,A⟩
 refine OJ (λg4=>?_) (λg4=>?_)
 ·refine Y ?_;exact⟨W,2,e _ _ C,rfl,w,A⟩
 refine Y ?_;exact⟨W,0,e _ _ C,rfl,w,A⟩
end
