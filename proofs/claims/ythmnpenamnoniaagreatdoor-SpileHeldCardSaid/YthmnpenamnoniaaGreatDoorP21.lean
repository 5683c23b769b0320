import Derived.Test.YthmnpenamnoniaaGreatDoorP20
set_option linter.all false
set_option maxHeartbeats 1000000
open Go Go.LL
namespace Go.Proofs
variable{b i j a p r cap f lo hi n:Nat}{l l' c:List Int}{rest:List Value}{G:Prop}{v:Int}{Qe:Ex->aL->Hp->Prop}{σ:aL}
def Vp(b:Bk):List Int:=U5 ((w9 b).map (·.bf))
section
variable{P:aY}[Tz P][Loud P]{H:Hp}
def TO{K:Value}{b:Bk}(hb:bK H K b)(hg:ZY H)(hl:b.aF.length<=1000000)(E:b.bJ.length<=1000000) :
  LL.Za P 34 #[K] H λv h=>bA H h/\∃w B,v=.tuple #[w,vi (Zy b true)]/\cS H h 3 w (if Zy b true=0 then Vp b else[]) B:=by
 have C:=hb;obtain⟨pv,cv,rfl,hp,hc⟩:=hb;refine aI.m (bG c23) rfl ?_;unfold RR;refine Y ?_;refine Zf (vs:=[.agg #[vi b.op,vi b.sl,pv,cv]]) (WX C hg hl E) ?_;rintro v d ⟨e,N⟩;obtain⟨w,L,rfl,Q,Z,M⟩:∃(w:Value) (L:List ZQ),v=.tuple #[w,vi (Zy b true)]/\Zj d w L/\L.length<=1000/\U5 (L.map (·.bf))=(if Zy b true=0 then Vp b else[]):=by
  rcases N with⟨y,rfl⟩ | ⟨y,w,B,rfl,J⟩
  ·exact⟨_,([]:List ZQ),rfl,.nil _,by simp,by rw[bY y];rfl⟩
  refine⟨w,w9 b,by rw[y],J.sl,?_,by rw[BY y];rfl⟩;have:=NA (Y3 (OV y).1);exact qAE (qBc _ _) O
 rw[<-M];clear M N;have I:=Q;obtain⟨R,W,rfl,_⟩:=Q;refine Y ?_;refine Z4 (α:=Value×Option Nat) L.length (λj s h=>bA H h/\bA d h/\cS d h 3 s.1 ((L.take j).map (·.bf)) s.2) (λj s=>[(5,vi (Zy b true)),(6,s.1),(14,.slice R L.length W),(15,vi L.length),(16,vi j)]) (λj s=>[]) (.slice none 0 0,none) ⟨e,.refl d,.nil d d 3⟩ V trivial ?_;rintro j ⟨v6,U⟩ S hj ⟨F,u,z⟩;simp only at z;refine OJ (λX=>?_) (λX=>?_)
 ·have q:j<L.length:=O;refine Y ?_;refine Zo j (I.inc u) q λa ha=>Y ?_;refine ZL (cs:=[vi L[j].bf,vi L[j].bP]) ha (Y ?_);refine Z0 (cs:=[vi L[j].bf]) (OL _) rfl λr1 t=>Y ?_;refine YN (l':=[L[j].bf]) (bL eW) (bL eW) (bH t3) rfl (by decide) (u.trans (Zk t)) (z.ins t) vK rfl (by simp;omega) O rfl rfl (OL _) λA T o x g c2=>Y ?_;refine⟨(⟨j+1,O⟩,(A,o)),cZ O,⟨e.trans x,x,?_⟩,V,trivial,rfl⟩;show cS d T 3 A ((L.take (j+1)).map (·.bf)) o;rw[iO q,qBi];exact g
 have:j=L.length:=O;subst this;rw[qAh]at z;have g:cS H S 3 v6 (L.map (·.bf)) U:=⟨z.own,λr hr=>Z7 e (z.fresh r hr)⟩;refine Y ?_;refine Zf (vs:=[v6]) (WM F g (by simp;omega)) ?_;rintro v H3 ⟨D,B,J⟩;refine Y ?_;exact⟨D,v,B,rfl,J⟩
end
def dK(l:List Int)(i j:Nat):List Int:=(l.set i (el l j)).set j (el l i)
def NH(l:List Int)(i j:Nat):(dK l i j).length=l.length:=by simp[dK]
def VE(k:Nat)(hi:i<l.length)(d:j<l.length):el (dK l i j) k=if k=j then el l i else if k=i then el l j else el l k:=by unfold dK;rw[DV _ _ (by simpa using d),DV _ _ hi]
inductive Rg (a b:Nat):List Int->List Int->Prop
 | refl (l:List Int):Rg a b l l
 | step {l l':List Int} (i j:Nat):Rg a b l l'->a<=i->i<b->a<=j->j<b->Rg a b l (dK l' i j)
def Rg.len(h:Rg a b l l'):l'.length=l.length:=by
 induction h with
 | refl=>rfl
 | step i j _ _ _ _ _ ih=>rw[NH,ih]
def Rg.trans{d:List Int}(h:Rg a b l l')(e:Rg a b l' d):Rg a b l d:=by
 induction e with
 | refl=>exact h
 | step i j _ g k m o ih=>exact .step i j ih g k m o
def Rg.mono{d e:Nat}(h:Rg a b l l')(q:d<=a)(hb:b<=e):Rg d e l l':=by
 induction h with
 | refl=>exact .refl _
 | step i j _ g k m o ih=>exact .step i j ih O O O O
def Rg.out(h:Rg a b l l')(hb:b<=l.length){k:Nat}(q:k<a\/b<=k):el l' k=el l k:=by
 induction h with
 | refl=>rfl
 | step i j d e g m o ih=>
  have:=d.len;rw[VE _ O O,bY O,bY O,ih]
def Rg.all(h:Rg a b l l')(hb:b<=l.length){p:Int->Prop}(t:∀k,a<=k->k<b->p (el l k)):∀k,a<=k->k<b->p (el l' k):=by
 induction h with
 | refl=>exact t
 | step i j g m o q s ih=>
  intro k d e;have:=g.len;rw[VE _ O O];split
  ·exact ih i m o
  split
  ·exact ih j q s
  exact ih k d e
def Zpv(hi:i<l.length)(d:j<l.length):(dK l i j).Perm l:=by unfold dK;rw[sS hi,sS d];exact List.set_set_perm hi d
def Rg.perm(h:Rg a b l l')(hb:b<=l.length):l'.Perm l:=by
 induction h with
 | refl=>exact .refl _
 | step i j d e g k m ih=>
  have:=d.len;exact(Zpv O O).trans ih
def So(a b:Nat)(l:List Int):Prop:=∀i j,a<=i->i<=j->j<b->el l i<=el l j
def xB(l:List Int)(h:b<=a+1):So a b l:=λi j d e g=>by have:i=j:=O;subst this;exact qAA _
def BA(h:∀i,a<=i->i+1<b->el l i<=el l (i+1)):So a b l:=by
 intro i j hi e g;obtain⟨d,rfl⟩:=Nat.exists_eq_add_of_le e;clear e;induction d with
 | zero=>exact qAA _
 | succ d ih=>exact qCK (ih O) (h (i+d) O O)
section
variable{P:aY}[Tz P][Loud P]{H:Hp}
def KY(n:Int):LL.Za P 230 #[vi n] H λv d=>H=d/\v=vb false:=by refine aI.m (bG Zxc) rfl ?_;unfold Hj;refine Y ?_;exact⟨rfl,by simp[Yn]⟩
def VZ(m n:Int):LL.Za P 200 #[vi m,vi n] H λv d=>H=d/\v=vb (decide (m<n)):=by refine aI.m (bG Zxq) rfl ?_;unfold Gr;refine Y ?_;refine Zv (vs:=[vi m]) rfl (KY _) ?_;rintro v _ ⟨rfl,rfl⟩;refine Y ?_;exact⟨rfl,rfl⟩
def WY(P:aY)(f:Nat)(H:Hp)(r cap:Nat)(l:List Int)(rest:List Value)(a b:Nat)(d:List Value)(Q:Value->List Int->Prop):Prop:=
 LL.Za P f (.slice (some ⟨r,0,none⟩) l.length cap :: vi a :: vi b :: d).toArray H λv e=>∃l',AR H e r l' rest/\Rg a b l l'/\Q v l'
def Zu4(X:H r=some (.cells (Zh l++rest).toArray 3 (0,0),true))(Z:a<=b)(hb:b<=l.length)(hl:l.length<=1000000) :
  WY P 194 H r cap l rest a b [] λ_ l'=>So a b l':=by
 refine aI.m (bG Zxw) rfl ?_;unfold Gj;refine Y ?_;refine Z4 (α:=List Int) (b-(a+1)) (λj c J=>AR H J r c rest/\Rg a b l c/\So a (a+1+j) c) (λj c=>[(0,.slice (some ⟨r,0,none⟩) l.length cap),(1,vi a),(2,vi b),(6,vi ((a+1+j:Nat):Int))]) (λj c=>[]) l ⟨AR.of X,.refl l,xB l O⟩ V trivial ?_;rintro i c H1 hi ⟨R,Q,W⟩;have lU:=Q.len;refine OJ (λT=>?_) (λT=>?_)
 ·have T:a+1+i<b:=O;refine Y ?_;refine Z4 (α:=List Int) (i+1) (λk d J=>AR H J r d rest/\Rg a b l d/\(∀x y,a<=x->x<=y->y<=a+1+i->x≠a+1+i-k->y≠a+1+i-k->el d x<=el d y)/\(∀y,a+1+i-k<y->y<=a+1+i->el d (a+1+i-k)<=el d y))
   (λk d=>[(0,.slice (some ⟨r,0,none⟩) l.length cap),(1,vi a),(2,vi b),(6,vi ((a+1+i:Nat):Int)),(7,vi ((a+1+i-k:Nat):Int))]) (λk d=>[]) c ⟨R,Q,λx y g o F M N=>W x y g o O,λy g o=>O⟩ V trivial ?_
  rintro k d H2 hk ⟨e,u,h,t⟩;have U:=u.len;have hjb:a+1+i-k<l.length:=O;obtain⟨j,hj⟩:∃j,a+1+i-k=j:=⟨_,rfl⟩;rw[hj]at h t ⊢;refine OJ (λI=>?_) (λI=>?_)
  ·have I:a<j:=O;refine Y ?_;refine Zn j rfl rfl rfl O (Y ?_);refine Zg (OL _) rfl (e.cA O rfl) (Y ?_);refine Zn (j-1) rfl rfl O O (Y ?_);refine Zg (OL _) rfl (e.cA O rfl) (Y ?_);refine Zl (vs:=[vi (el d j),vi (el d (j-1))]) (VZ _ _) ?_;refine OJ (λE=>?_) (λE=>?_)
   ·refine Y ?_;refine Zn (j-1) rfl rfl O O (Y ?_);refine Zg (Loud.bB _) rfl (AR.cA e O rfl) (Y ?_);refine Zn j rfl rfl O O (Y ?_);refine Zg (Loud.bB _) rfl (AR.cA e O rfl) (Y ?_);refine Zn j rfl rfl O O (Y ?_);refine Z6 e O (ZX _ _) rfl rfl λHW K=>?_;refine Zr Loud.bB (Y ?_);refine Zn (j-1) rfl rfl O O (Y ?_);refine Z6 K (by rw[qAR];omega) (ZX _ _) rfl rfl λH4 z=>Y ?_;have L:(d.set j (el d (j-1))).set (j-1) (el d j)=dK d j (j-1):=rfl;rw[L]at z;have B:∀x,el (dK d j (j-1)) x=if x=j-1 then el d j else if x=j then el d (j-1)else el d x:=λx=>VE x O O
    have q:∀x,x≠j-1->el (dK d j (j-1)) x=if x=j then el d (j-1)else el d x:=λx w=>by rw[B,bY w]
    have C:el (dK d j (j-1)) (j-1)=el d j:=by rw[B,BY rfl]
    have D:a+1+i-(k+1)=j-1:=O;refine⟨(⟨k+1,O⟩,dK d j (j-1)),cZ O,⟨z,.step _ _ u O O O O,?_,?_⟩,⟨rfl,rfl,rfl,rfl,?_,trivial⟩,trivial,rfl⟩
    ·show ∀x y,a<=x->x<=y->y<=a+1+i->x≠a+1+i-(k+1)->y≠a+1+i-(k+1)->_;intro x y g o F M N;rw[D]at M N;rw[q x M,q y N];by_cases w:x=j
     ·rw[BY w];by_cases s:y=j
      ·rw[BY s];exact qAA _
      rw[bY s];exact h _ _ O O F O s
     rw[bY w];by_cases s:y=j
     ·rw[BY s];exact h _ _ g O O w O
     rw[bY s];exact h _ _ g o F w s
    ·show ∀y,a+1+i-(k+1)<y->y<=a+1+i->el (dK d j (j-1)) (a+1+i-(k+1))<=_;intro y g o;rw[D]at g ⊢;rw[C,q y O];by_cases s:y=j
     ·rw[BY s];omega
     rw[bY s];exact t _ O o
    show some (vi ((j:Int)-1))=some (vi ((a+1+i-(k+1):Nat):Int));rw[show(a+1+i-(k+1):Nat)=j-1 by omega,show((j-1:Nat):Int)=(j:Int)-1 by omega]
   refine Y ?_;refine⟨(⟨i+1,O⟩,d),cZ O,⟨e,u,?_⟩,V,trivial,rfl⟩;show So a (a+1+(i+1)) d;refine BA λx g o=>?_;by_cases A:x=j
   ·subst A;exact t _ O O
   by_cases S:x+1=j
   ·subst S;rw[qBX]at E;omega
   exact h _ _ g O O A S
  have I:j=a:=O;subst I;refine Y ?_;refine⟨(⟨i+1,O⟩,d),cZ O,⟨e,u,?_⟩,V,trivial,rfl⟩;refine BA λx g o=>?_;have o:x+1<j+1+(i+1):=o;by_cases A:x=j
  ·subst A;exact t _ O O
  exact h _ _ g O O A O
 refine Y ?_;refine⟨c,R,Q,?_⟩;intro x y g o F;exact W x y g o O
end
def PB(h:G:=by
  have SM:m<hi:=O;refine Y ?_;refine Zn (f+p) rfl rfl O O (Y ?_);refine Zg (OL _) rfl (ar.cA O rfl) (Y ?_);refine Zn (f+m) rfl rfl O O (Y ?_);refine Zg (OL _) rfl (ar.cA O rfl) (Y ?_);refine Zl (vs:=[vi (el c (f+p)),vi (el c (f+m))]) (VZ _ _) ?_;refine OJ (λg4=>?_) (λg4=>?_)
  ·refine Y ?_;refine⟨c,ar,rg,hp.fin λm' h1 h2=>?_⟩;have:=qU m' h1 h2;omega
  refine Y ?_;refine Zn (f+m) rfl rfl O O (Y ?_);refine Zg (Loud.bB _) rfl (AR.cA ar O rfl) (Y ?_);refine Zn (f+p) rfl rfl O O (Y ?_);refine Zg (Loud.bB _) rfl (AR.cA ar O rfl) (Y ?_);refine Zn (f+p) rfl rfl O O (Y ?_);refine Z6 ar O (ZX _ _) rfl rfl λHW arW=>?_;refine Zr Loud.bB (Y ?_);refine Zn (f+m) rfl rfl O O (Y ?_);refine Z6 arW (by rw[qAR];omega) (ZX _ _) rfl rfl λH4 wJ=>Y ?_;have AO:(c.set (f+p) (el c (f+m))).set (f+m) (el c (f+p))=dK c (f+p) (f+m):=rfl;rw[AO]at wJ;have SJ:p<m:=O;refine⟨(⟨m-lo,O⟩,dK c (f+p) (f+m)),?_,⟨wJ,.step _ _ rg O O O O,?_⟩,⟨rfl,rfl,rfl,rfl,?_,trivial⟩,trivial,rfl⟩
  ·show hi-lo-(m-lo)<hi-lo-j;omega
  ·show rG f lo hi _ (lo+(m-lo));rw[show lo+(m-lo)=m by omega];exact hp.step I7 SM qU g4 O O
  show some (vi _)=some (vi ((lo+(m-lo):Nat):Int));congr 2;omega):G:=h
def iZ(k m:Nat):Prop:=m=2 * k+1\/m=2 * k+2
def n4(f lo hi:Nat)(l:List Int):Prop:=∀k m,lo<=k->iZ k m->m<hi->el l (f+m)<=el l (f+k)
structure rG(f lo hi:Nat)(l:List Int)(p:Nat):Prop where
 h1:∀k m,lo<=k->k≠p->iZ k m->m<hi->el l (f+m)<=el l (f+k)
 h2:∀k m,lo<=k->iZ k p->iZ p m->m<hi->el l (f+m)<=el l (f+k)
def rG.of(h:n4 f (lo+1) hi l):rG f lo hi l lo:=
 ⟨λk m e d g o=>h k m O g o,λk m e d=>by rcases d with d | d<;>omega⟩
def rG.fin(h:rG f lo hi l p)(q:∀m,iZ p m->m<hi->el l (f+m)<=el l (f+p)):n4 f lo hi l:=by
 intro k m d g o;by_cases e:k=p
 ·subst e;exact q m g o
 exact h.h1 k m d e g o
def rG.step{m:Nat}(h:rG f lo hi c p)(s:iZ p m)(B:m<hi)(t:∀d,iZ p d->d<hi->el c (f+d)<=el c (f+m))(I:el c (f+p)<el c (f+m))(D:f+hi<=c.length)(K:lo<=p) :
  rG f lo hi (dK c (f+p) (f+m)) m:=by
 have J:p<m:=by rcases s with h | h<;>omega
 have es:∀x,el (dK c (f+p) (f+m)) x=if x=f+m then el c (f+p)else if x=f+p then el c (f+m)else el c x:=λx=>VE x O O
 have E:el (dK c (f+p) (f+m)) (f+m)=el c (f+p):=by rw[es,BY rfl]
 have y:el (dK c (f+p) (f+m)) (f+p)=el c (f+m):=by rw[es,bY O,BY rfl]
 have u:∀x,x≠m->x≠p->el (dK c (f+p) (f+m)) (f+x)=el c (f+x):=λx C F=>by rw[es,bY O,bY O]
 refine⟨λk d z A e w=>?_,λk d z A e w=>?_⟩
 ·by_cases g:k=p
  ·subst g;rw[y];by_cases o:d=m
   ·subst o;rw[E];omega
   rw[u d o (by rcases e with h | h<;>omega)];exact t d e w
  rw[u k A g];by_cases o:d=m
  ·exfalso;subst o;unfold iZ at s e;omega
  by_cases q:d=p
  ·subst q;rw[y];exact h.h2 k m z e s B
  rw[u d o q];exact h.h1 k d z g e w
 have g:k=p:=by unfold iZ at s A;omega
 subst g;have:d≠m/\d≠k:=by unfold iZ at s e;omega
 rw[y,u d this.1 this.2];exact h.h1 m d O O e w
section
variable{P:aY}[Tz P][Loud P]{H:Hp}
def ZpT(s:H r=some (.cells (Zh l++rest).toArray 3 (0,0),true))(hb:f+hi<=l.length)(u:lo<=l.length)(B:l.length<=1000000)(y:n4 f (lo+1) hi l) :
  LL.Za P 225 #[.slice (some ⟨r,0,none⟩) l.length cap,vi lo,vi hi,vi f] H λv e=>∃l',AR H e r l' rest/\Rg f (f+hi) l l'/\n4 f lo hi l':=by
 refine aI.m (bG Zxh) rfl ?_;unfold Hd;refine Y ?_;refine Z4 (α:=List Int) (hi-lo) (λj c e=>AR H e r c rest/\Rg f (f+hi) l c/\rG f lo hi c (lo+j)) (λj c=>[(0,.slice (some ⟨r,0,none⟩) l.length cap),(1,vi lo),(2,vi hi),(3,vi f),(8,vi ((lo+j:Nat):Int))]) (λj c=>[]) l ⟨AR.of s,.refl l,.of y⟩ V trivial ?_;rintro j c z A ⟨ar,rg,hp⟩;have t:=rg.len;have o:lo<=lo+j:=O;have x:lo+j<=l.length:=O;generalize w:lo+j=p at *;refine Y ?_;refine VA rfl rfl ⟨O,O⟩ ?_;refine OJ (λg=>?_) (λg=>?_)
 ·refine Y ?_;refine⟨c,ar,rg,hp.fin λm d SM=>?_⟩;rcases d with h | h<;>omega
 have g:2 * p+1<hi:=O;refine OJ (λk=>?_) (λk=>?_)
 ·have k:2 * p+1+1<hi:=O;refine Y ?_;refine Zn (f+(2 * p+1)) rfl rfl O O (Y ?_);refine Zg (OL _) rfl (ar.cA O rfl) (Y ?_);refine Zn (f+(2 * p+2)) rfl rfl O O (Y ?_);refine Zg (OL _) rfl (ar.cA O rfl) (Y ?_);refine Zl (vs:=[vi (el c (f+(2 * p+1))),vi (el c (f+(2 * p+2)))]) (VZ _ _) ?_;refine OJ (λq=>?_) (λq=>?_)
  ·obtain⟨m,d⟩:∃m,m=2 * p+2:=⟨_,rfl⟩;have qU:∀m',iZ p m'->m'<hi->el c (f+m')<=el c (f+m):=λm' h1 h2=>by
    rcases h1 with h | h
    ·subst h d;omega
    subst h d;exact qAA _
   have I7:iZ p m:=.inr d;exact PB
  obtain⟨m,d⟩:∃m,m=2 * p+1:=⟨_,rfl⟩;have qU:∀m',iZ p m'->m'<hi->el c (f+m')<=el c (f+m):=λm' h1 h2=>by
   rcases h1 with h | h
   ·subst h d;exact qAA _
   subst h d;omega
  have I7:iZ p m:=.inl d;exact PB
 obtain⟨m,d⟩:∃m,m=2 * p+1:=⟨_,rfl⟩;have qU:∀m',iZ p m'->m'<hi->el c (f+m')<=el c (f+m):=λm' h1 h2=>by
  rcases h1 with h | h
  ·subst h d;exact qAA _
  omega
 have I7:iZ p m:=.inl d;exact PB
end
def Zvb{q:Nat}(h:n4 f 0 q c):∀k,k<q->el c (f+k)<=el c f:=by
 intro k;induction k using Nat.strongRecOn with
 | _ k ih=>
  intro d;by_cases e:k=0
  ·subst e;exact qAA _
  have g:iZ ((k-1) / 2) k:=by unfold iZ;omega
  exact qCK (h _ k (qBg _) g d) (ih _ O O)
def Cg(hi:Nat):((hi:Int)-1).tdiv 2=(((hi-1) / 2:Nat):Int):=by
 by_cases h:hi=0
 ·subst h;rfl
 rw[qBt O];omega
section
variable{P:aY}[Tz P][Loud P]{H:Hp}
def Md(g:H r=some (.cells (Zh l++rest).toArray 3 (0,0),true))(k:l.length=n)(hb:f+hi<=n)(d:lo<=n)(h:n<=1000000)(m:n4 f (lo+1) hi l) :
  LL.Za P 225 #[.slice (some ⟨r,0,none⟩) n cap,vi lo,vi hi,vi f] H λv e=>∃l',AR H e r l' rest/\Rg f (f+hi) l l'/\n4 f lo hi l':=by
 subst k;exact ZpT g hb d h m
def Zvd(hA:H r=some (.cells (Zh l++rest).toArray 3 (0,0),true))(hb:a+hi<=l.length)(hl:l.length<=1000000) :
  WY P 195 H r cap l rest a (a+hi) [] λ_ l'=>So a (a+hi) l':=by
 have X:(((a+hi:Nat):Int)-(a:Int))=(hi:Int):=O;refine aI.m (bG Zxv) rfl ?_;unfold Gk;refine Y ?_;rw[X];refine Y ?_;refine Uy rfl rfl (by decide) (by rw[Cg];exact⟨O,O⟩) ?_;rw[Cg];refine Y ?_;refine Z4 (α:=List Int) ((hi-1) / 2+1) (λj c T=>AR H T r c rest/\Rg a (a+hi) l c/\n4 a ((hi-1) / 2+1-j) hi c)
  (λj c=>[(0,.slice (some ⟨r,0,none⟩) l.length cap),(6,vi a),(7,vi 0),(8,vi hi),(9,vi (((hi-1) / 2+1-j:Nat)-1:Int))]) (λj c=>[]) l ⟨AR.of hA,.refl l,λk m s g h3=>by unfold iZ at g;omega⟩ ⟨rfl,rfl,rfl,rfl,?_,trivial⟩ trivial ?_
 ·show some (vi _)=some (vi _);congr 2;omega
 rintro j c H1 hj ⟨U,rg,Q⟩;have lU:=rg.len;refine OJ (λM=>?_) (λM=>?_)
 ·obtain⟨i,F⟩:∃i,(hi-1) / 2+1-j=i+1:=⟨(hi-1) / 2+1-j-1,O⟩;have Z:((((hi-1) / 2+1-j:Nat)-1:Int))=(i:Int):=O;rw[F]at Q;rw[Z];refine Y ?_;refine Zf (vs:=[.slice (some ⟨r,0,none⟩) l.length cap,vi i,vi hi,vi a]) (Md U.at_ lU hb O hl Q) ?_;rintro v H2 ⟨c2,C,t,J⟩;refine Y ?_;refine⟨(⟨j+1,O⟩,c2),cZ O,⟨U.trans C,rg.trans t,?_⟩,⟨rfl,rfl,rfl,rfl,?_,trivial⟩,trivial,rfl⟩
  ·show n4 a ((hi-1) / 2+1-(j+1)) hi c2;rw[show(hi-1) / 2+1-(j+1)=i by omega];exact J
  show some (vi _)=some (vi _);congr 2;show(i:Int)-1=(((hi-1) / 2+1-(j+1):Nat):Int)-1;omega
 have JE:(hi-1) / 2+1-j=0:=O;rw[JE]at Q;refine Y ?_;refine Z4 (α:=List Int) hi (λj c T=>AR H T r c rest/\Rg a (a+hi) l c/\n4 a 0 (hi-j) c/\So (a+(hi-j)) (a+hi) c/\∀x y,a<=x->x<a+(hi-j)->a+(hi-j)<=y->y<a+hi->el c x<=el c y)
  (λj c=>[(0,.slice (some ⟨r,0,none⟩) l.length cap),(6,vi a),(7,vi 0),(10,vi ((hi-j:Nat)-1:Int))]) (λj c=>[]) c ⟨U,rg,Q,xB c O,λx y s g h3 h4=>O⟩ V trivial ?_
 rintro q d H2 kP ⟨u,L,I,w,K⟩;have S:=L.len;refine OJ (λN=>?_) (λN=>?_)
 ·obtain⟨i,F⟩:∃i,hi-q=i+1:=⟨hi-q-1,O⟩;have Z:(((hi-q:Nat)-1:Int))=(i:Int):=O;rw[F]at I w K;rw[Z];have hmx:=Zvb I;refine Y ?_;refine Zn (a+i) rfl rfl O O (Y ?_);refine Zg (Loud.bB _) rfl (AR.cA u O rfl) (Y ?_);refine Zn a rfl rfl O O (Y ?_);refine Zg (Loud.bB _) rfl (AR.cA u O rfl) (Y ?_);refine Zn a rfl rfl O O (Y ?_);refine Z6 u O (ZX _ _) rfl rfl λHW W=>?_;refine Zr Loud.bB (Y ?_);refine Zn (a+i) rfl rfl O O (Y ?_);refine Z6 W (by rw[qAR];omega) (ZX _ _) rfl rfl λH4 D=>Y ?_;have AO:(d.set a (el d (a+i))).set (a+i) (el d a)=dK d a (a+i):=rfl;rw[AO]at D;have es:∀x,el (dK d a (a+i)) x=if x=a+i then el d a else if x=a then el d (a+i)else el d x:=λx=>VE x O O
  have nV:∀x,a<=x->x<a+i->∃h,a<=h/\h<a+(i+1)/\el (dK d a (a+i)) x=el d h:=λx s g=>by
   rw[es,bY O];by_cases e:x=a
   ·rw[BY e];exact⟨a+i,O,O,rfl⟩
   rw[bY e];exact⟨x,O,O,rfl⟩
  have hpx:n4 a 1 i (dK d a (a+i)):=λk m s g h3=>by
   have:m≠0/\k<i:=by unfold iZ at g;omega
   rw[es,es,bY O,bY O,bY O,bY O];exact I k m (qBg _) g O
  refine Zf (vs:=[.slice (some ⟨r,0,none⟩) l.length cap,vi (0:Nat),vi i,vi a]) (Md D.at_ (by rw[NH,S]) O O hl hpx) ?_;rintro v H5 ⟨c2,C,t,J⟩;have R:a+i<=(dK d a (a+i)).length:=by rw[NH];omega
  have A:∀k,a+i<=k->el c2 k=el (dK d a (a+i)) k:=λk hk=>t.out R (.inr hk);have o:∀k,a+i<k->el c2 k=el d k:=λk hk=>by rw[A k O,es,bY O,bY O]
  have B:el c2 (a+i)=el d a:=by rw[A _ (AT _),es,BY rfl]
  have z:∀(p:Int->Prop),(∀h,a<=h->h<a+(i+1)->p (el d h))->∀k,a<=k->k<a+i->p (el c2 k):=λp Q k s g=>
   t.all R (p:=p) (λk s g=>by obtain⟨h,M,N,g3⟩:=nV k s g;rw[g3];exact Q h M N) k s g
  have E:hi-(q+1)=i:=O;refine Y ?_;refine⟨(⟨q+1,O⟩,c2),qCN O (qCC q),⟨D.trans C,(Rg.step _ _ L O O O O).trans (t.mono (AT _) O),?_,?_,?_⟩,⟨rfl,rfl,rfl,?_,trivial⟩,trivial,rfl⟩
  ·show n4 a 0 (hi-(q+1)) c2;rw[E];exact J
  ·show So (a+(hi-(q+1))) (a+hi) c2;rw[E];refine BA λx s g=>?_;by_cases e:x=a+i
   ·subst e;rw[B,o _ O];exact K a _ (AT _) O O g
   rw[o _ O,o _ O];exact w x (x+1) O O g
  ·show ∀x y,a<=x->x<a+(hi-(q+1))->a+(hi-(q+1))<=y->y<a+hi->el c2 x<=el c2 y;rw[E];intro x y s g h3 h4;by_cases e:y=a+i
   ·subst e;rw[B];refine z (·<=el d a) (λh M N=>?_) x s g;have:=hmx (h-a) O;rwa [show a+(h-a)=h by omega]at this
   rw[o y O];exact z (·<=el d y) (λh M N=>K h y M N O h4) x s g
  show some (vi _)=some (vi _);congr 2;show(i:Int)-1=((hi-(q+1):Nat):Int)-1;omega
 have:hi-q=0:=O;rw[this]at w;refine Y ?_;exact⟨d,u,L,w⟩
end
structure lG(a b i j:Nat)(v:Int)(c:List Int):Prop where
 eq:el c a=v
 lo:∀k,a+1<=k->k<i->el c k<v
 hi:∀k,j<k->k<b->v<=el c k
 ai:a+1<=i
 ij:i<=j+1
 jb:j+1<=b
def lG.swap(h:lG a b i j v c)(o:i<=j)(g:v<=el c i)(m:el c j<v)(u:b<=c.length):lG a b (i+1) (j-1) v (dK c i j):=by
 have s:=h.ai;have t:=h.jb;have q:i≠j:=λe=>by subst e;omega
 have es:∀x,el (dK c i j) x=if x=j then el c i else if x=i then el c j else el c x:=λx=>VE x O O
 refine⟨by rw[es,bY O,bY O];exact h.eq,λk k1 d=>?_,λk k1 d=>?_,O,O,O⟩
 ·rw[es,bY O];by_cases e:k=i
  ·rw[BY e];exact m
  rw[bY e];exact h.lo k k1 O
 rw[es];by_cases e:k=j
 ·rw[BY e];exact g
 rw[bY e,bY O];exact h.hi k O d
def Re(a b:Nat)(l':List Int)(p:Nat):Prop:=a<=p/\p<b/\(∀k,a<=k->k<p->el l' k<=el l' p)/\∀k,p<k->k<b->el l' p<=el l' k
def lG.fin(h:lG a b i j v c)(m:j<i)(t:b<=c.length):Re a b (dK c j a) j:=by
 have o:=h.ai;have q:=h.ij;have s:=h.jb;have es:∀x,el (dK c j a) x=if x=a then el c j else if x=j then el c a else el c x:=λx=>VE x O O
 have d:el (dK c j a) j=v:=by
  rw[es];by_cases e:j=a
  ·rw[BY e,e];exact h.eq
  rw[bY e,BY rfl];exact h.eq
 refine⟨O,O,λk k1 g=>?_,λk k1 g=>?_⟩
 ·rw[d,es];by_cases e:k=a
  ·rw[BY e];exact Int.le_of_lt (h.lo j O O)
  rw[bY e,bY O];exact Int.le_of_lt (h.lo k O O)
 rw[d,es,bY O,bY O];exact h.hi k k1 g
def ZtZ{P:aY}{l:List NI}{b:Zb}{H:Hp}(h:(Zb.aG l).m P (eJ.then (b.m P Qe) Qe) σ H):(Zb.seq (.aG l) b).m P Qe σ H:=YY h
def Zt0{P:aY}{l:List (NI×Option Bool)}{b:Zb}{H:Hp}(h:(Zb.drawn l).m P (eJ.then (b.m P Qe) Qe) σ H):(Zb.seq (.drawn l) b).m P Qe σ H:=YY h
def OB{d:Prop}(x:d) (h:Wr d->G:=by
  intro gW;repeat (first | (with_reducible refine ZtZ ?_) | (with_reducible refine Zt0 ?_) | ((fail_if_success (with_reducible refine YY ?_));refine Pn ?_))
  exact gW.out):G:=h ⟨x⟩
section
variable{P:aY}[Tz P][Loud P]{H:Hp}
def Ztf(hA:H r=some (.cells (Zh l++rest).toArray 3 (0,0),true))(hn:l.length=n)(JO:a<=p)(hpb:p<b)(hb:b<=n)(hl:n<=1000000) :
  LL.Za P 202 #[.slice (some ⟨r,0,none⟩) n cap,vi a,vi b,vi p] H λv z=>∃l' q t,AR H z r l' rest/\Rg a b l l'/\Re a b l' q/\v=.tuple #[vi (q:Nat),vb t]:=by
 refine aI.m (bG Zxo) rfl ?_;unfold Gt;have U:=AR.of hA;refine Y ?_;refine Zn p rfl rfl O O (Y ?_);refine Zg (Loud.bB _) rfl (AR.cA U O rfl) (Y ?_);refine Zn a rfl rfl O O (Y ?_);refine Zg (Loud.bB _) rfl (AR.cA U O rfl) (Y ?_);refine Zn a rfl rfl O O (Y ?_);refine Z6 U O (ZX _ _) rfl rfl λHW A=>?_;refine Zr Loud.bB (Y ?_);refine Zn p rfl rfl O O (Y ?_);refine Z6 A (by rw[qAR];omega) (ZX _ _) rfl rfl λH1 u=>?_;refine OB ?_;have X:(l.set a (el l p)).set p (el l a)=dK l a p:=rfl;rw[X]at u;have HR:Rg a b l (dK l a p):=.step _ _ (.refl l) O O O O;have ev:el (dK l a p) a=el l p:=by
  rw[VE _ O O];by_cases e:a=p
  ·rw[BY e,e]
  rw[bY e,BY rfl]
 have We:lG a b (a+1) (b-1) (el l p) (dK l a p):=⟨ev,λk h1 h2=>O,λk h1 h2=>O,O,O,O⟩;generalize dK l a p=c1 at *;have ej0:((b:Int)-1)=((b-1:Nat):Int):=O;rw[ej0];generalize el l p=v at *;have SY:=HR.len;refine OB ?_;refine Y9 (λ(i:Nat) z=>H1=z/\lG a b i (b-1) v c1/\((b-1)<i\/v<=el c1 i)/\(a+1)<=i) (λi=>[(0,.slice (some ⟨r,0,none⟩) n cap),(1,vi a),(10,vi ((i:Nat):Int)),(11,vi (((b-1):Nat):Int))]) (λ_=>[]) ?_ ?_
 ·refine Y ?_;refine ZF ((b-1)+1-(a+1)) (λt z=>H1=z/\lG a b ((a+1)+t) (b-1) v c1) (λt=>[(0,.slice (some ⟨r,0,none⟩) n cap),(1,vi a),(10,vi (((a+1)+t:Nat):Int)),(11,vi (((b-1):Nat):Int))]) (λ_=>[]) ⟨rfl,We⟩ V trivial ?_;rintro t _ ht ⟨rfl,d⟩;have q1:=d.ai;have q2:=d.ij;have q3:=d.jb;have N:=d.eq;refine OJ (λz1=>?_) (λz1=>?_)
  ·refine Y ?_;refine Zn ((a+1)+t) rfl rfl rfl O (Y ?_);refine Zg (OL _) rfl (u.cA O rfl) (Y ?_);refine Zn a rfl rfl rfl O (Y ?_);refine Zg (OL _) rfl (u.cA O rfl) ?_;rw[N];refine Y ?_;refine Zf (vs:=[vi (el c1 ((a+1)+t)),vi v]) (VZ _ _) ?_;rintro w _ ⟨rfl,rfl⟩;refine OJ (λS=>?_) (λS=>?_)
   ·refine Y ?_;refine⟨⟨t+1,O⟩,cZ O,⟨rfl,N,λk k1 R=>?_,d.hi,?_,?_,d.jb⟩,V,trivial,rfl⟩
    ·have R:k<(a+1)+(t+1):=R;by_cases e:k=(a+1)+t
     ·subst e;exact S
     exact d.lo k k1 O
    ·show a+1<=(a+1)+(t+1);omega
    show(a+1)+(t+1)<=(b-1)+1;omega
   refine Y ?_;exact⟨(a+1)+t,⟨rfl,d,.inr O,O⟩,V,trivial,rfl⟩
  refine Y ?_;exact⟨(a+1)+t,⟨rfl,d,.inl O,O⟩,V,trivial,rfl⟩
 rintro g _ ⟨rfl,HX,Rp,gi2⟩;refine OB ?_;refine Y9 (λ(j:Nat) z=>H1=z/\lG a b g j v c1/\(j<g\/el c1 j<v)/\(g<=j->v<=el c1 g)/\j<=(b-1)) (λj=>[(0,.slice (some ⟨r,0,none⟩) n cap),(1,vi a),(10,vi ((g:Nat):Int)),(11,vi ((j:Nat):Int))]) (λ_=>[]) ?_ ?_
 ·refine Y ?_;refine ZF ((b-1)+1-g) (λt z=>H1=z/\lG a b g ((b-1)-t) v c1) (λt=>[(0,.slice (some ⟨r,0,none⟩) n cap),(1,vi a),(10,vi ((g:Nat):Int)),(11,vi (((b-1)-t:Nat):Int))]) (λ_=>[]) ⟨rfl,HX⟩ V trivial ?_;rintro t _ ht ⟨rfl,d⟩;have q1:=d.ai;have q2:=d.ij;have q3:=d.jb;have N:=d.eq;have q5:=HX.ij;have q6:=HX.jb;obtain⟨C,z9⟩:∃C,(b-1)-t=C:=⟨_,rfl⟩;rw[z9]at d q2 q3 ⊢;refine OJ (λz1=>?_) (λz1=>?_)
  ·refine Y ?_;refine Zn C rfl rfl rfl O (Y ?_);refine Zg (OL _) rfl (u.cA O rfl) (Y ?_);refine Zn a rfl rfl rfl O (Y ?_);refine Zg (OL _) rfl (u.cA O rfl) ?_;rw[N];refine Y ?_;refine Zf (vs:=[vi (el c1 C),vi v]) (VZ _ _) ?_;rintro w _ ⟨rfl,rfl⟩;refine OJ (λS=>?_) (λS=>?_)
   ·refine Y ?_;refine⟨⟨t+1,O⟩,cZ O,⟨rfl,N,d.lo,λk k1 R=>?_,d.ai,?_,?_⟩,⟨rfl,rfl,rfl,?_,trivial⟩,trivial,rfl⟩
    ·have k1:(b-1)-(t+1)<k:=k1;by_cases e:k=C
     ·subst e;omega
     exact d.hi k O R
    ·show g<=(b-1)-(t+1)+1;omega
    ·show(b-1)-(t+1)+1<=b;omega
    show some (vi ((C:Int)-1))=some (vi (((b-1)-(t+1):Nat):Int));congr 2;omega
   refine Y ?_;exact⟨C,⟨rfl,d,.inr O,λh=>by have:=Rp;omega,O⟩,V,trivial,rfl⟩
  refine Y ?_;exact⟨C,⟨rfl,d,.inl O,λh=>O,O⟩,V,trivial,rfl⟩
 rintro o _ ⟨rfl,L,QO,QM,gj3⟩;have w1:=L.ai;have w2:=L.ij;have w3:=L.jb;refine OB ?_;refine YY ?_;refine OJ (λg1=>?_) (λg1=>?_)
 ·refine Y ?_;refine Zn a rfl rfl O O (Y ?_);refine Zg (Loud.bB _) rfl (AR.cA u O rfl) (Y ?_);refine Zn o rfl rfl O O (Y ?_);refine Zg (Loud.bB _) rfl (AR.cA u O rfl) (Y ?_);refine Zn o rfl rfl O O (Y ?_);refine Z6 u O (ZX _ _) rfl rfl λHW A=>?_;refine Zr Loud.bB (Y ?_);refine Zn a rfl rfl O O (Y ?_);refine Z6 A (by rw[qAR];omega) (ZX _ _) rfl rfl λH5 Q=>Y ?_;exact⟨dK c1 o a,o,true,Q,.step _ _ HR O O O O,L.fin O O,rfl⟩
 have Z:g<=o:=O;have k9:g≠o:=λe=>by have h1:=QM Z;rw[e]at h1;rcases QO with h | h<;>omega
 have D:=L.swap Z (QM Z) (by rcases QO with h | h<;>omega) O;have Sf:Rg a b l (dK c1 g o):=.step _ _ HR O O O O;refine OB ?_;refine Zn o rfl rfl O O (Y ?_);refine Zg (Loud.bB _) rfl (AR.cA u O rfl) (Y ?_);refine Zn g rfl rfl O O (Y ?_);refine Zg (Loud.bB _) rfl (AR.cA u O rfl) (Y ?_);refine Zn g rfl rfl O O (Y ?_);refine Z6 u O (ZX _ _) rfl rfl λHW A=>?_;refine Zr Loud.bB (Y ?_);refine Zn o rfl rfl O O (Y ?_);refine Z6 A (by rw[qAR];omega) (ZX _ _) rfl rfl λH5 Q=>?_;have X:(c1.set g (el c1 o)).set o (el c1 g)=dK c1 g o:=rfl;rw[X]at Q;generalize dK c1 g o=c3 at *;have ej3:((o:Int)-1)=((o-1:Nat):Int):=O;refine OB ?_;rw[ej3];refine YY ?_;refine OB ?_;refine Z4 (α:=List Int×Nat×Nat) (o-1+1-(g+1)) (λt s z=>AR H z r s.1 rest/\Rg a b l s.1/\lG a b s.2.1 s.2.2 v s.1/\s.2.2+1-s.2.1+t=o-1+1-(g+1)) (λt s=>[(0,.slice (some ⟨r,0,none⟩) n cap),(1,vi a),(10,vi ((s.2.1:Nat):Int)),(11,vi ((s.2.2:Nat):Int))]) (λ_ _=>[]) (c3,g+1,o-1) ⟨Q,Sf,D,by show o-1+1-(g+1)+0=_;omega⟩ V trivial ?_;rintro t0 ⟨I,J,E⟩ H7 SB ⟨x,F,T,hm⟩;clear D;have D:=T;clear T;simp only at x F D hm;have hc4:=F.len;have y1:=D.ai;have y2:=D.ij;have y3:=D.jb;refine OB ?_;refine Y9 (λ(i:Nat) z=>H7=z/\lG a b i E v I/\(E<i\/v<=el I i)/\J<=i) (λi=>[(0,.slice (some ⟨r,0,none⟩) n cap),(1,vi a),(10,vi ((i:Nat):Int)),(11,vi ((E:Nat):Int))]) (λ_=>[]) ?_ ?_
 ·refine Y ?_;refine ZF (E+1-J) (λt z=>H7=z/\lG a b (J+t) E v I) (λt=>[(0,.slice (some ⟨r,0,none⟩) n cap),(1,vi a),(10,vi ((J+t:Nat):Int)),(11,vi ((E:Nat):Int))]) (λ_=>[]) ⟨rfl,D⟩ V trivial ?_;rintro t _ ht ⟨rfl,d⟩;have q1:=d.ai;have q2:=d.ij;have q3:=d.jb;have N:=d.eq;refine OJ (λz1=>?_) (λz1=>?_)
  ·refine Y ?_;refine Zn (J+t) rfl rfl rfl O (Y ?_);refine Zg (OL _) rfl (x.cA O rfl) (Y ?_);refine Zn a rfl rfl rfl O (Y ?_);refine Zg (OL _) rfl (x.cA O rfl) ?_;rw[N];refine Y ?_;refine Zf (vs:=[vi (el I (J+t)),vi v]) (VZ _ _) ?_;rintro w _ ⟨rfl,rfl⟩;refine OJ (λS=>?_) (λS=>?_)
   ·refine Y ?_;refine⟨⟨t+1,O⟩,cZ O,⟨rfl,N,λk k1 R=>?_,d.hi,?_,?_,d.jb⟩,V,trivial,rfl⟩
    ·have R:k<J+(t+1):=R;by_cases e:k=J+t
     ·subst e;exact S
     exact d.lo k k1 O
    ·show a+1<=J+(t+1);omega
    show J+(t+1)<=E+1;omega
   refine Y ?_;exact⟨J+t,⟨rfl,d,.inr O,O⟩,V,trivial,rfl⟩
  refine Y ?_;exact⟨J+t,⟨rfl,d,.inl O,O⟩,V,trivial,rfl⟩
 rintro y _ ⟨rfl,HV,HH,gi5⟩;refine OB ?_;refine Y9 (λ(j:Nat) z=>H7=z/\lG a b y j v I/\(j<y\/el I j<v)/\(y<=j->v<=el I y)/\j<=E) (λj=>[(0,.slice (some ⟨r,0,none⟩) n cap),(1,vi a),(10,vi ((y:Nat):Int)),(11,vi ((j:Nat):Int))]) (λ_=>[]) ?_ ?_
 ·refine Y ?_;refine ZF (E+1-y) (λt z=>H7=z/\lG a b y (E-t) v I) (λt=>[(0,.slice (some ⟨r,0,none⟩) n cap),(1,vi a),(10,vi ((y:Nat):Int)),(11,vi ((E-t:Nat):Int))]) (λ_=>[]) ⟨rfl,HV⟩ V trivial ?_;rintro t _ ht ⟨rfl,d⟩;have q1:=d.ai;have q2:=d.ij;have q3:=d.jb;have N:=d.eq;have q5:=HV.ij;have q6:=HV.jb;obtain⟨C,z9⟩:∃C,E-t=C:=⟨_,rfl⟩;rw[z9]at d q2 q3 ⊢;refine OJ (λz1=>?_) (λz1=>?_)
  ·refine Y ?_;refine Zn C rfl rfl rfl O (Y ?_);refine Zg (OL _) rfl (x.cA O rfl) (Y ?_);refine Zn a rfl rfl rfl O (Y ?_);refine Zg (OL _) rfl (x.cA O rfl) ?_;rw[N];refine Y ?_;refine Zf (vs:=[vi (el I C),vi v]) (VZ _ _) ?_;rintro w _ ⟨rfl,rfl⟩;refine OJ (λS=>?_) (λS=>?_)
   ·refine Y ?_;refine⟨⟨t+1,O⟩,cZ O,⟨rfl,N,d.lo,λk k1 R=>?_,d.ai,?_,?_⟩,⟨rfl,rfl,rfl,?_,trivial⟩,trivial,rfl⟩
    ·have k1:E-(t+1)<k:=k1;by_cases e:k=C
     ·subst e;omega
     exact d.hi k O R
    ·show y<=E-(t+1)+1;omega
    ·show E-(t+1)+1<=b;omega
    show some (vi ((C:Int)-1))=some (vi ((E-(t+1):Nat):Int));congr 2;omega
   refine Y ?_;exact⟨C,⟨rfl,d,.inr O,λh=>by have:=HH;omega,O⟩,V,trivial,rfl⟩
  refine Y ?_;exact⟨C,⟨rfl,d,.inl O,λh=>O,O⟩,V,trivial,rfl⟩
 rintro B _ ⟨rfl,M,QN,QL,gj6⟩;have x1:=M.ai;have x2:=M.ij;have x3:=M.jb;refine OB ?_;refine YY ?_;refine OJ (λg2=>?_) (λg2=>?_)
 ·refine Y ?_;refine Zn a rfl rfl O O (Y ?_);refine Zg (Loud.bB _) rfl (AR.cA x O rfl) (Y ?_);refine Zn B rfl rfl O O (Y ?_);refine Zg (Loud.bB _) rfl (AR.cA x O rfl) (Y ?_);refine Zn B rfl rfl O O (Y ?_);refine Z6 x O (ZX _ _) rfl rfl λHW A=>?_;refine Zr Loud.bB (Y ?_);refine Zn a rfl rfl O O (Y ?_);refine Z6 A (by rw[qAR];omega) (ZX _ _) rfl rfl λH9 W=>Y ?_;exact⟨dK I B a,B,false,W,.step _ _ F O O O O,M.fin O O,rfl⟩
 have K:y<=B:=O;have I6:y≠B:=λe=>by have h1:=QL K;rw[e]at h1;rcases QN with h | h<;>omega
 have HU:=M.swap K (QL K) (by rcases QN with h | h<;>omega) O;have HP:Rg a b l (dK I y B):=.step _ _ F O O O O;refine Y ?_;refine Zn B rfl rfl O O (Y ?_);refine Zg (Loud.bB _) rfl (AR.cA x O rfl) (Y ?_);refine Zn y rfl rfl O O (Y ?_);refine Zg (Loud.bB _) rfl (AR.cA x O rfl) (Y ?_);refine Zn y rfl rfl O O (Y ?_);refine Z6 x O (ZX _ _) rfl rfl λHW A=>?_;refine Zr Loud.bB (Y ?_);refine Zn B rfl rfl O O (Y ?_);refine Z6 A (by rw[qAR];omega) (ZX _ _) rfl rfl λH9 W=>Y ?_;refine⟨(⟨o-1+1-(g+1)-(B-1+1-(y+1)),O⟩,(dK I y B,y+1,B-1)),?_,⟨W,HP,HU,?_⟩,⟨rfl,rfl,rfl,?_,trivial⟩,trivial,rfl⟩
 ·show o-1+1-(g+1)-(o-1+1-(g+1)-(B-1+1-(y+1)))<o-1+1-(g+1)-t0;omega
 ·show B-1+1-(y+1)+(o-1+1-(g+1)-(B-1+1-(y+1)))=o-1+1-(g+1);omega
 show some (vi ((B:Int)-1))=some (vi ((B-1:Nat):Int));congr 2;omega
end
structure pJ(a b i j:Nat)(v:Int)(c:List Int):Prop where
 eq:el c a=v
 lo:∀k,a+1<=k->k<i->el c k<=v
 hi:∀k,j<k->k<b->v<el c k
 ai:a+1<=i
 ij:i<=j+1
 jb:j+1<=b
def pJ.swap(h:pJ a b i j v c)(o:i<=j)(g:v<el c i)(m:el c j<=v)(u:b<=c.length):pJ a b (i+1) (j-1) v (dK c i j):=by
 have s:=h.ai;have t:=h.jb;have q:i≠j:=λe=>by subst e;omega
 have es:∀x,el (dK c i j) x=if x=j then el c i else if x=i then el c j else el c x:=λx=>VE x O O
 refine⟨by rw[es,bY O,bY O];exact h.eq,λk k1 d=>?_,λk k1 d=>?_,O,O,O⟩
 ·rw[es,bY O];by_cases e:k=i
  ·rw[BY e];exact m
  rw[bY e];exact h.lo k k1 O
 rw[es];by_cases e:k=j
 ·rw[BY e];exact g
 rw[bY e,bY O];exact h.hi k O d
def Rf(a b:Nat)(l':List Int)(i:Nat)(v:Int):Prop:=a<i/\i<=b/\(∀k,a<=k->k<i->el l' k<=v)/\∀k,i<=k->k<b->v<el l' k
def pJ.fin(h:pJ a b i j v c)(g:j<i):Rf a b c i v:=by
 have m:=h.ai;have o:=h.ij;have q:=h.jb;refine⟨O,O,λk k1 d=>?_,λk k1 d=>h.hi k O d⟩;by_cases e:k=a
 ·rw[e,h.eq];exact qAA _
 exact h.lo k O d
section
variable{P:aY}[Tz P][Loud P]{H:Hp}
def Zth(hA:H r=some (.cells (Zh l++rest).toArray 3 (0,0),true))(hn:l.length=n)(JO:a<=p)(hpb:p<b)(hb:b<=n)(hl:n<=1000000) :
  LL.Za P 201 #[.slice (some ⟨r,0,none⟩) n cap,vi a,vi b,vi p] H λv A=>∃l' q,AR H A r l' rest/\Rg a b l l'/\Rf a b l' q (el l p)/\v=vi (q:Nat):=by
 refine aI.m (bG Zxp) rfl ?_;unfold Gs;have I:=AR.of hA;refine Y ?_;refine Zn p rfl rfl O O (Y ?_);refine Zg (Loud.bB _) rfl (AR.cA I O rfl) (Y ?_);refine Zn a rfl rfl O O (Y ?_);refine Zg (Loud.bB _) rfl (AR.cA I O rfl) (Y ?_);refine Zn a rfl rfl O O (Y ?_);refine Z6 I O (ZX _ _) rfl rfl λHW J=>?_;refine Zr Loud.bB (Y ?_);refine Zn p rfl rfl O O (Y ?_);refine Z6 J (by rw[qAR];omega) (ZX _ _) rfl rfl λH1 L=>?_;refine OB ?_;have AO:(l.set a (el l p)).set p (el l a)=dK l a p:=rfl;rw[AO]at L;have Q:Rg a b l (dK l a p):=.step _ _ (.refl l) O O O O;have ev:el (dK l a p) a=el l p:=by
  rw[VE _ O O];by_cases e:a=p
  ·rw[BY e,e]
  rw[bY e,BY rfl]
 have M:pJ a b (a+1) (b-1) (el l p) (dK l a p):=⟨ev,λk h1 h2=>O,λk h1 h2=>O,O,O,O⟩;generalize dK l a p=c1 at *;have Z:((b:Int)-1)=((b-1:Nat):Int):=O;rw[Z];generalize el l p=v at *;have SY:=Q.len;refine YY ?_;refine OB ?_;refine Z4 (α:=List Int×Nat×Nat) (b-1+1-(a+1)) (λt s A=>AR H A r s.1 rest/\Rg a b l s.1/\pJ a b s.2.1 s.2.2 v s.1/\s.2.2+1-s.2.1+t=b-1+1-(a+1)) (λt s=>[(0,.slice (some ⟨r,0,none⟩) n cap),(1,vi a),(9,vi ((s.2.1:Nat):Int)),(10,vi ((s.2.2:Nat):Int))]) (λ_ _=>[]) (c1,a+1,b-1) ⟨L,Q,M,by show b-1+1-(a+1)+0=_;omega⟩ V trivial ?_;rintro t0 ⟨y,z,u⟩ T SB ⟨o,E,C,hm⟩;clear M;simp only at o E C hm;have hc4:=E.len;have y1:=C.ai;have y2:=C.ij;have y3:=C.jb;refine OB ?_;refine Y9 (λ(i:Nat) A=>T=A/\pJ a b i u v y/\(u<i\/v<el y i)/\z<=i) (λi=>[(0,.slice (some ⟨r,0,none⟩) n cap),(1,vi a),(9,vi ((i:Nat):Int)),(10,vi ((u:Nat):Int))]) (λ_=>[]) ?_ ?_
 ·refine Y ?_;refine ZF (u+1-z) (λt A=>T=A/\pJ a b (z+t) u v y) (λt=>[(0,.slice (some ⟨r,0,none⟩) n cap),(1,vi a),(9,vi ((z+t:Nat):Int)),(10,vi ((u:Nat):Int))]) (λ_=>[]) ⟨rfl,C⟩ V trivial ?_;rintro t _ ht ⟨rfl,d⟩;have q1:=d.ai;have q2:=d.ij;have q3:=d.jb;have N:=d.eq;refine OJ (λz1=>?_) (λz1=>?_)
  ·refine Y ?_;refine Zn a rfl rfl rfl O (Y ?_);refine Zg (OL _) rfl (o.cA O rfl) ?_;rw[N];refine Y ?_;refine Zn (z+t) rfl rfl rfl O (Y ?_);refine Zg (OL _) rfl (o.cA O rfl) (Y ?_);refine Zf (vs:=[vi v,vi (el y (z+t))]) (VZ _ _) ?_;rintro w _ ⟨rfl,rfl⟩;refine OJ (λW=>?_) (λW=>?_)
   ·refine Y ?_;refine⟨⟨t+1,O⟩,cZ O,⟨rfl,N,λk k1 U=>?_,d.hi,?_,?_,d.jb⟩,V,trivial,rfl⟩
    ·have U:k<z+(t+1):=U;by_cases e:k=z+t
     ·subst e;omega
     exact d.lo k k1 O
    ·show a+1<=z+(t+1);omega
    show z+(t+1)<=u+1;omega
   refine Y ?_;exact⟨z+t,⟨rfl,d,.inr O,O⟩,V,trivial,rfl⟩
  refine Y ?_;exact⟨z+t,⟨rfl,d,.inl O,O⟩,V,trivial,rfl⟩
 rintro g _ ⟨rfl,K,HH,gi5⟩;refine OB ?_;refine Y9 (λ(j:Nat) A=>T=A/\pJ a b g j v y/\(j<g\/el y j<=v)/\(g<=j->v<el y g)/\j<=u) (λj=>[(0,.slice (some ⟨r,0,none⟩) n cap),(1,vi a),(9,vi ((g:Nat):Int)),(10,vi ((j:Nat):Int))]) (λ_=>[]) ?_ ?_
 ·refine Y ?_;refine ZF (u+1-g) (λt A=>T=A/\pJ a b g (u-t) v y) (λt=>[(0,.slice (some ⟨r,0,none⟩) n cap),(1,vi a),(9,vi ((g:Nat):Int)),(10,vi ((u-t:Nat):Int))]) (λ_=>[]) ⟨rfl,K⟩ V trivial ?_;rintro t _ ht ⟨rfl,d⟩;have q1:=d.ai;have q2:=d.ij;have q3:=d.jb;have N:=d.eq;have q5:=K.ij;have q6:=K.jb;obtain⟨F,z9⟩:∃F,u-t=F:=⟨_,rfl⟩;rw[z9]at d q2 q3 ⊢;refine OJ (λz1=>?_) (λz1=>?_)
  ·refine Y ?_;refine Zn a rfl rfl rfl O (Y ?_);refine Zg (OL _) rfl (o.cA O rfl) ?_;rw[N];refine Y ?_;refine Zn F rfl rfl rfl O (Y ?_);refine Zg (OL _) rfl (o.cA O rfl) (Y ?_);refine Zf (vs:=[vi v,vi (el y F)]) (VZ _ _) ?_;rintro w _ ⟨rfl,rfl⟩;refine OJ (λW=>?_) (λW=>?_)
   ·refine Y ?_;refine⟨⟨t+1,O⟩,cZ O,⟨rfl,N,d.lo,λk k1 U=>?_,d.ai,?_,?_⟩,⟨rfl,rfl,rfl,?_,trivial⟩,trivial,rfl⟩
    ·have k1:u-(t+1)<k:=k1;by_cases e:k=F
     ·subst e;exact W
     exact d.hi k O U
    ·show g<=u-(t+1)+1;omega
    ·show u-(t+1)+1<=b;omega
    show some (vi ((F:Int)-1))=some (vi ((u-(t+1):Nat):Int));congr 2;omega
   refine Y ?_;exact⟨F,⟨rfl,d,.inr O,λh=>by have:=HH;omega,O⟩,V,trivial,rfl⟩
  refine Y ?_;exact⟨F,⟨rfl,d,.inl O,λh=>O,O⟩,V,trivial,rfl⟩
 rintro x _ ⟨rfl,D,R,S,gj6⟩;have x1:=D.ai;have x2:=D.ij;have x3:=D.jb;refine OB ?_;refine YY ?_;refine OJ (λg2=>?_) (λg2=>?_)
 ·refine Y ?_;exact⟨y,g,o,E,D.fin O,rfl⟩
 have B:g<=x:=O;have I6:g≠x:=λe=>by have h1:=S B;rw[e]at h1;rcases R with h | h<;>omega
 have HU:=D.swap B (S B) (by rcases R with h | h<;>omega) O;have HP:Rg a b l (dK y g x):=.step _ _ E O O O O;refine Y ?_;refine Zn x rfl rfl O O (Y ?_);refine Zg (Loud.bB _) rfl (AR.cA o O rfl) (Y ?_);refine Zn g rfl rfl O O (Y ?_);refine Zg (Loud.bB _) rfl (AR.cA o O rfl) (Y ?_);refine Zn g rfl rfl O O (Y ?_);refine Z6 o O (ZX _ _) rfl rfl λHW J=>?_;refine Zr Loud.bB (Y ?_);refine Zn x rfl rfl O O (Y ?_);refine Z6 J (by rw[qAR];omega) (ZX _ _) rfl rfl λH9 X=>Y ?_;refine⟨(⟨b-1+1-(a+1)-(x-1+1-(g+1)),O⟩,(dK y g x,g+1,x-1)),?_,⟨X,HP,HU,?_⟩,⟨rfl,rfl,rfl,?_,trivial⟩,trivial,rfl⟩
 ·show b-1+1-(a+1)-(b-1+1-(a+1)-(x-1+1-(g+1)))<b-1+1-(a+1)-t0;omega
 ·show x-1+1-(g+1)+(b-1+1-(a+1)-(x-1+1-(g+1)))=b-1+1-(a+1);omega
 show some (vi ((x:Int)-1))=some (vi ((x-1:Nat):Int));congr 2;omega
end
