import Derived.Test.YtlhomfgcibjccaaGreatDoorP20
set_option linter.all false
set_option maxHeartbeats 1000000
open Go Go.LL
namespace Go.Proofs
variable{G:Prop}{f lo hi p r cap n a b i j r2 s x y:Nat}{l c:List Int}{rest:List Value}{v:Int}{Qe:Ex->aN->Hp->Prop}{σ:aN}{H':Hp}
theorem Mq(h:G:=by
  have ID:m<hi:=O;refine Y ?_;refine Zd (f+p) rfl rfl O O (Y ?_);refine Zg (OL _) rfl (ar.cA O rfl) (Y ?_);refine Zd (f+m) rfl rfl O O (Y ?_);refine Zg (OL _) rfl (ar.cA O rfl) (Y ?_);refine Za (vs:=[vi (el c (f+p)),vi (el c (f+m))]) rfl (VL _ _) ?_;rintro v _ ⟨rfl,rfl⟩;refine Y ?_;refine OI (λg4=>?_) (λg4=>?_)
  ·refine Y ?_;refine⟨c,ar,rg,hp.gL λm' h1 h2=>?_⟩;have:=oW m' h1 h2;omega
  refine Y ?_;refine Zd (f+m) rfl rfl O O (Y ?_);refine Zg (Loud.aL _) rfl (AR.cA ar O rfl) (Y ?_);refine Zd (f+p) rfl rfl O O (Y ?_);refine Zg (Loud.aL _) rfl (AR.cA ar O rfl) (Y ?_);refine Zd (f+p) rfl rfl O O (Y ?_);refine ZU ar O (ZL _ _) rfl rfl λHW fQ=>?_;refine Zq Loud.aL (Y ?_);refine Zd (f+m) rfl rfl O O (Y ?_);refine ZU fQ (by rw[IF];omega) (ZL _ _) rfl rfl λH4 dV=>Y ?_;have lA:(c.set (f+p) (el c (f+m))).set (f+m) (el c (f+p))=cY c (f+p) (f+m):=rfl;rw[lA]at dV;have iG:p<m:=O;refine⟨(⟨m-lo,O⟩,cY c (f+p) (f+m)),?_,⟨dV,.step _ _ rg O O O O,?_⟩,⟨rfl,rfl,rfl,rfl,?_,trivial⟩,trivial,rfl⟩
  ·show hi-lo-(m-lo)<hi-lo-j;omega
  ·show CN f lo hi _ (lo+(m-lo));rw[show lo+(m-lo)=m by omega];exact hp.step IC ID oW g4 O O
  show some (vi _)=some (vi ((lo+(m-lo):Nat):Int));congr 2;omega):G:=h
def mI(k m:Nat):Prop:=m=2 * k+1\/m=2 * k+2
def p7(f lo hi:Nat)(l:List Int):Prop:=∀k m,lo<=k->mI k m->m<hi->el l (f+m)<=el l (f+k)
structure CN(f lo hi:Nat)(l:List Int)(p:Nat):Prop where
 h1:∀k m,lo<=k->k≠p->mI k m->m<hi->el l (f+m)<=el l (f+k)
 h2:∀k m,lo<=k->mI k p->mI p m->m<hi->el l (f+m)<=el l (f+k)
theorem CN.of(h:p7 f (lo+1) hi l):CN f lo hi l lo:=
 ⟨λk m h1 h2 h3 h4=>h k m O h3 h4,λk m h1 h2=>by rcases h2 with h2 | h2<;>omega⟩
theorem CN.gL(h:CN f lo hi l p)(hp:∀m,mI p m->m<hi->el l (f+m)<=el l (f+p)):p7 f lo hi l:=by
 intro k m h1 h2 h3;by_cases e:k=p
 ·subst e;exact hp m h2 h3
 exact h.h1 k m h1 e h2 h3
theorem CN.step{m:Nat}(h:CN f lo hi c p)(hm:mI p m)(ID:m<hi)(oW:∀m',mI p m'->m'<hi->el c (f+m')<=el c (f+m))(bV:el c (f+p)<el c (f+m))(dJ:f+hi<=c.length)(hp:lo<=p) :
  CN f lo hi (cY c (f+p) (f+m)) m:=by
 have iG:p<m:=by rcases hm with h | h<;>omega
 have es:∀x,el (cY c (f+p) (f+m)) x=if x=f+m then el c (f+p)else if x=f+p then el c (f+m)else el c x:=λx=>Yi x O O
 have e1:el (cY c (f+p) (f+m)) (f+m)=el c (f+p):=by rw[es,iO rfl]
 have e2:el (cY c (f+p) (f+m)) (f+p)=el c (f+m):=by rw[es,bY O,iO rfl]
 have e3:∀x,x≠m->x≠p->el (cY c (f+p) (f+m)) (f+x)=el c (f+x):=λx h1 h2=>by rw[es,bY O,bY O]
 refine⟨λk m' g1 g2 g3 g4=>?_,λk m' g1 g2 g3 g4=>?_⟩
 ·by_cases ek:k=p
  ·subst ek;rw[e2];by_cases em:m'=m
   ·subst em;rw[e1];omega
   rw[e3 m' em (by rcases g3 with h | h<;>omega)];exact oW m' g3 g4
  rw[e3 k g2 ek];by_cases em:m'=m
  ·exfalso;subst em;unfold mI at hm g3;omega
  by_cases Xb:m'=p
  ·subst Xb;rw[e2];exact h.h2 k m g1 g3 hm ID
  rw[e3 m' em Xb];exact h.h1 k m' g1 ek g3 g4
 have ek:k=p:=by unfold mI at hm g2;omega
 subst ek;have:m'≠m/\m'≠k:=by unfold mI at hm g3;omega
 rw[e2,e3 m' this.1 this.2];exact h.h1 m m' O O g3 g4
section
variable{P:bF}[Tz P][Loud P]{H:Hp}
theorem ZoX(hA:H r=some (.cells (Zb l++rest).toArray 3 (0,0),true))(hb:f+hi<=l.length)(IG:lo<=l.length)(hl:l.length<=1000000)(hx:p7 f (lo+1) hi l) :
  LL.Zc P 219 #[.slice (some ⟨r,0,none⟩) l.length cap,vi lo,vi hi,vi f] H λv H'=>∃l',AR H H' r l' rest/\Rg f (f+hi) l l'/\p7 f lo hi l':=by
 refine aO.m (cF Zv8) (args:=[.slice (some ⟨r,0,none⟩) l.length cap,vi lo,vi hi,vi f]) rfl ?_;unfold Zjr;refine Y ?_;refine ZQ (α:=List Int) (hi-lo) (λj c H'=>AR H H' r c rest/\Rg f (f+hi) l c/\CN f lo hi c (lo+j)) (λj c=>[(0,.slice (some ⟨r,0,none⟩) l.length cap),(1,vi lo),(2,vi hi),(3,vi f),(8,vi ((lo+j:Nat):Int))]) (λj c=>[]) l ⟨AR.of hA,.refl l,.of hx⟩ V trivial ?_;rintro j c H1 hj ⟨ar,rg,hp⟩;have bU:=rg.len;have Gt:lo<=lo+j:=O;have l8:lo+j<=l.length:=O;generalize hpe:lo+j=p at *;refine Y ?_;refine V8 rfl rfl ⟨O,O⟩ (Y ?_);refine OI (λg1=>?_) (λg1=>?_)
 ·refine Y ?_;refine⟨c,ar,rg,hp.gL λm hm ID=>?_⟩;rcases hm with h | h<;>omega
 have g1:2 * p+1<hi:=O;refine Y ?_;refine OI (λg2=>?_) (λg2=>?_)
 ·have g2:2 * p+1+1<hi:=O;refine Y ?_;refine Zd (f+(2 * p+1)) rfl rfl O O (Y ?_);refine Zg (OL _) rfl (ar.cA O rfl) (Y ?_);refine Zd (f+(2 * p+2)) rfl rfl O O (Y ?_);refine Zg (OL _) rfl (ar.cA O rfl) (Y ?_);refine Za (vs:=[vi (el c (f+(2 * p+1))),vi (el c (f+(2 * p+2)))]) rfl (VL _ _) ?_;rintro v _ ⟨rfl,rfl⟩;refine Y ?_;refine OI (λg3=>?_) (λg3=>?_)
  ·obtain⟨m,hm⟩:∃m,m=2 * p+2:=⟨_,rfl⟩;have oW:∀m',mI p m'->m'<hi->el c (f+m')<=el c (f+m):=λm' h1 h2=>by
    rcases h1 with h | h
    ·subst h hm;omega
    subst h hm;exact qAy _
   have IC:mI p m:=.inr hm;exact Mq
  obtain⟨m,hm⟩:∃m,m=2 * p+1:=⟨_,rfl⟩;have oW:∀m',mI p m'->m'<hi->el c (f+m')<=el c (f+m):=λm' h1 h2=>by
   rcases h1 with h | h
   ·subst h hm;exact qAy _
   subst h hm;omega
  have IC:mI p m:=.inl hm;exact Mq
 obtain⟨m,hm⟩:∃m,m=2 * p+1:=⟨_,rfl⟩;have oW:∀m',mI p m'->m'<hi->el c (f+m')<=el c (f+m):=λm' h1 h2=>by
  rcases h1 with h | h
  ·subst h hm;exact qAy _
  omega
 have IC:mI p m:=.inl hm;exact Mq
end
theorem Zmc{q:Nat}(h:p7 f 0 q c):∀k,k<q->el c (f+k)<=el c f:=by
 intro k;induction k using Nat.strongRecOn with
 | _ k ih=>
  intro hk;by_cases e:k=0
  ·subst e;exact qAy _
  have hp:mI ((k-1) / 2) k:=by unfold mI;omega
  exact qBz (h _ k (qAR _) hp hk) (ih _ O O)
theorem Aa(hi:Nat):((hi:Int)-1).tdiv 2=(((hi-1) / 2:Nat):Int):=by
 by_cases h:hi=0
 ·subst h;rfl
 rw[qAV O];omega
section
variable{P:bF}[Tz P][Loud P]{H:Hp}
theorem Zhj(hA:H r=some (.cells (Zb l++rest).toArray 3 (0,0),true))(hn:l.length=n)(hb:f+hi<=n)(IG:lo<=n)(hl:n<=1000000)(hx:p7 f (lo+1) hi l) :
  LL.Zc P 219 #[.slice (some ⟨r,0,none⟩) n cap,vi lo,vi hi,vi f] H λv H'=>∃l',AR H H' r l' rest/\Rg f (f+hi) l l'/\p7 f lo hi l':=by
 subst hn;exact ZoX hA hb IG hl hx
theorem ZuP(hA:H r=some (.cells (Zb l++rest).toArray 3 (0,0),true))(hb:a+hi<=l.length)(hl:l.length<=1000000) :
  Xw P 172 H r cap l rest a (a+hi) [] λ_ l'=>So a (a+hi) l':=by
 have Jx:(((a+hi:Nat):Int)-(a:Int))=(hi:Int):=O;refine aO.m (cF Zwl) (args:=[.slice (some ⟨r,0,none⟩) l.length cap,vi a,vi (a+hi:Nat)]) rfl ?_;unfold ZjE;refine Y ?_;rw[Jx];refine Y ?_;refine VC rfl rfl (by decide) (by rw[Aa];exact⟨O,O⟩) ?_;rw[Aa];refine Y ?_;refine ZQ (α:=List Int) ((hi-1) / 2+1) (λj c H'=>AR H H' r c rest/\Rg a (a+hi) l c/\p7 a ((hi-1) / 2+1-j) hi c)
  (λj c=>[(0,.slice (some ⟨r,0,none⟩) l.length cap),(6,vi a),(7,vi 0),(8,vi hi),(9,vi (((hi-1) / 2+1-j:Nat)-1:Int))]) (λj c=>[]) l ⟨AR.of hA,.refl l,λk m h1 h2 h3=>by unfold mI at h2;omega⟩ ⟨rfl,rfl,rfl,rfl,?_,trivial⟩ trivial ?_
 ·show some (vi _)=some (vi _);congr 2;omega
 rintro j c H1 hj ⟨ar,rg,hp⟩;have bU:=rg.len;refine Y ?_;refine OI (λg1=>?_) (λg1=>?_)
 ·obtain⟨i,gJ⟩:∃i,(hi-1) / 2+1-j=i+1:=⟨(hi-1) / 2+1-j-1,O⟩;have ei:((((hi-1) / 2+1-j:Nat)-1:Int))=(i:Int):=O;rw[gJ]at hp;rw[ei];refine Y ?_;refine Za (vs:=[.slice (some ⟨r,0,none⟩) l.length cap,vi i,vi hi,vi a]) rfl (Zhj ar.at_ bU hb O hl hp) ?_;rintro v H2 ⟨c2,kV,nR,BF⟩;refine Y ?_;refine⟨(⟨j+1,O⟩,c2),dX O,⟨ar.trans kV,rg.trans nR,?_⟩,⟨rfl,rfl,rfl,rfl,?_,trivial⟩,trivial,rfl⟩
  ·show p7 a ((hi-1) / 2+1-(j+1)) hi c2;rw[show(hi-1) / 2+1-(j+1)=i by omega];exact BF
  show some (vi _)=some (vi _);congr 2;show(i:Int)-1=(((hi-1) / 2+1-(j+1):Nat):Int)-1;omega
 have qE:(hi-1) / 2+1-j=0:=O;rw[qE]at hp;refine Y ?_;refine ZQ (α:=List Int) hi (λj c H'=>AR H H' r c rest/\Rg a (a+hi) l c/\p7 a 0 (hi-j) c/\So (a+(hi-j)) (a+hi) c/\∀x y,a<=x->x<a+(hi-j)->a+(hi-j)<=y->y<a+hi->el c x<=el c y)
  (λj c=>[(0,.slice (some ⟨r,0,none⟩) l.length cap),(6,vi a),(7,vi 0),(10,vi ((hi-j:Nat)-1:Int))]) (λj c=>[]) c ⟨ar,rg,hp,Um c O,λx y h1 h2 h3 h4=>O⟩ V trivial ?_
 rintro j' c' H2 cH ⟨kG,mW,rS,lM,pK⟩;have mB:=mW.len;refine Y ?_;refine OI (λg2=>?_) (λg2=>?_)
 ·obtain⟨i,gJ⟩:∃i,hi-j'=i+1:=⟨hi-j'-1,O⟩;have ei:(((hi-j':Nat)-1:Int))=(i:Int):=O;rw[gJ]at rS lM pK;rw[ei];have Hg:=Zmc rS;refine Y ?_;refine Zd (a+i) rfl rfl O O (Y ?_);refine Zg (Loud.aL _) rfl (AR.cA kG O rfl) (Y ?_);refine Zd a rfl rfl O O (Y ?_);refine Zg (Loud.aL _) rfl (AR.cA kG O rfl) (Y ?_);refine Zd a rfl rfl O O (Y ?_);refine ZU kG O (ZL _ _) rfl rfl λHW fQ=>?_;refine Zq Loud.aL (Y ?_);refine Zd (a+i) rfl rfl O O (Y ?_);refine ZU fQ (by rw[IF];omega) (ZL _ _) rfl rfl λH4 dV=>Y ?_;have lA:(c'.set a (el c' (a+i))).set (a+i) (el c' a)=cY c' a (a+i):=rfl;rw[lA]at dV;have es:∀x,el (cY c' a (a+i)) x=if x=a+i then el c' a else if x=a then el c' (a+i)else el c' x:=λx=>Yi x O O
  have kK:∀x,a<=x->x<a+i->∃x',a<=x'/\x'<a+(i+1)/\el (cY c' a (a+i)) x=el c' x':=λx h1 h2=>by
   rw[es,bY O];by_cases e:x=a
   ·rw[iO e];exact⟨a+i,O,O,rfl⟩
   rw[bY e];exact⟨x,O,O,rfl⟩
  have Gr:p7 a 1 i (cY c' a (a+i)):=λk m h1 h2 h3=>by
   have:m≠0/\k<i:=by unfold mI at h2;omega
   rw[es,es,bY O,bY O,bY O,bY O];exact rS k m (qAR _) h2 O
  refine Za (vs:=[.slice (some ⟨r,0,none⟩) l.length cap,vi (0:Nat),vi i,vi a]) rfl (Zhj dV.at_ (by rw[SS,mB]) O O hl Gr) ?_;rintro v H5 ⟨c2,kV,nR,BF⟩;have tT:a+i<=(cY c' a (a+i)).length:=by rw[SS];omega
  have z9:∀k,a+i<=k->el c2 k=el (cY c' a (a+i)) k:=λk hk=>nR.out tT (.inr hk);have qX:∀k,a+i<k->el c2 k=el c' k:=λk hk=>by rw[z9 k O,es,bY O,bY O]
  have z8:el c2 (a+i)=el c' a:=by rw[z9 _ (aC _),es,iO rfl]
  have dY:∀(p:Int->Prop),(∀x',a<=x'->x'<a+(i+1)->p (el c' x'))->∀k,a<=k->k<a+i->p (el c2 k):=λp hp k h1 h2=>
   nR.all tT (p:=p) (λk h1 h2=>by obtain⟨x',g1,g2,g3⟩:=kK k h1 h2;rw[g3];exact hp x' g1 g2) k h1 h2
  have JL:hi-(j'+1)=i:=O;refine Y ?_;refine⟨(⟨j'+1,O⟩,c2),qCN O (qCD j'),⟨dV.trans kV,(Rg.step _ _ mW O O O O).trans (nR.mono (aC _) O),?_,?_,?_⟩,⟨rfl,rfl,rfl,?_,trivial⟩,trivial,rfl⟩
  ·show p7 a 0 (hi-(j'+1)) c2;rw[JL];exact BF
  ·show So (a+(hi-(j'+1))) (a+hi) c2;rw[JL];refine V5 λx h1 h2=>?_;by_cases e:x=a+i
   ·subst e;rw[z8,qX _ O];exact pK a _ (aC _) O O h2
   rw[qX _ O,qX _ O];exact lM x (x+1) O O h2
  ·show ∀x y,a<=x->x<a+(hi-(j'+1))->a+(hi-(j'+1))<=y->y<a+hi->el c2 x<=el c2 y;rw[JL];intro x y h1 h2 h3 h4;by_cases e:y=a+i
   ·subst e;rw[z8];refine dY (·<=el c' a) (λx' g1 g2=>?_) x h1 h2;have:=Hg (x'-a) O;rwa [show a+(x'-a)=x' by omega]at this
   rw[qX y O];exact dY (·<=el c' y) (λx' g1 g2=>pK x' y g1 g2 O h4) x h1 h2
  show some (vi _)=some (vi _);congr 2;show(i:Int)-1=((hi-(j'+1):Nat):Int)-1;omega
 have:hi-j'=0:=O;rw[this]at lM;refine Y ?_;exact⟨c',kG,mW,lM⟩
end
structure nW(a b i j:Nat)(v:Int)(c:List Int):Prop where
 eq:el c a=v
 lo:∀k,a+1<=k->k<i->el c k<v
 hi:∀k,j<k->k<b->v<=el c k
 ai:a+1<=i
 ij:i<=j+1
 jb:j+1<=b
theorem nW.swap(h:nW a b i j v c)(nU:i<=j)(h1:v<=el c i)(h2:el c j<v)(hl:b<=c.length):nW a b (i+1) (j-1) v (cY c i j):=by
 have g1:=h.ai;have g3:=h.jb;have dG:i≠j:=λe=>by subst e;omega
 have es:∀x,el (cY c i j) x=if x=j then el c i else if x=i then el c j else el c x:=λx=>Yi x O O
 refine⟨by rw[es,bY O,bY O];exact h.eq,λk k1 k2=>?_,λk k1 k2=>?_,O,O,O⟩
 ·rw[es,bY O];by_cases e:k=i
  ·rw[iO e];exact h2
  rw[bY e];exact h.lo k k1 O
 rw[es];by_cases e:k=j
 ·rw[iO e];exact h1
 rw[bY e,bY O];exact h.hi k O k2
def Re(a b:Nat)(l':List Int)(p:Nat):Prop:=a<=p/\p<b/\(∀k,a<=k->k<p->el l' k<=el l' p)/\∀k,p<k->k<b->el l' p<=el l' k
theorem nW.gL(h:nW a b i j v c)(nU:j<i)(hl:b<=c.length):Re a b (cY c j a) j:=by
 have g1:=h.ai;have g2:=h.ij;have g3:=h.jb;have es:∀x,el (cY c j a) x=if x=a then el c j else if x=j then el c a else el c x:=λx=>Yi x O O
 have ej:el (cY c j a) j=v:=by
  rw[es];by_cases e:j=a
  ·rw[iO e,e];exact h.eq
  rw[bY e,iO rfl];exact h.eq
 refine⟨O,O,λk k1 k2=>?_,λk k1 k2=>?_⟩
 ·rw[ej,es];by_cases e:k=a
  ·rw[iO e];exact Int.le_of_lt (h.lo j O O)
  rw[bY e,bY O];exact Int.le_of_lt (h.lo k O O)
 rw[ej,es,bY O,bY O];exact h.hi k k1 k2
theorem ZtG{P:bF}{l:List NI}{b:Ze}{H:Hp}(h:(Ze.aI l).m P (iB.then (b.m P Qe) Qe) σ H):(Ze.seq (.aI l) b).m P Qe σ H:=Yb h
theorem ZtH{P:bF}{l:List (NI×Option Bool)}{b:Ze}{H:Hp}(h:(Ze.drawn l).m P (iB.then (b.m P Qe) Qe) σ H):(Ze.seq (.drawn l) b).m P Qe σ H:=Yb h
theorem OB{G':Prop}(x:G') (h:Wr G'->G:=by
  intro pH;repeat (first | (with_reducible refine ZtG ?_) | (with_reducible refine ZtH ?_) | ((fail_if_success (with_reducible refine Yb ?_));refine ZgF ?_))
  exact pH.out):G:=h ⟨x⟩
section
variable{P:bF}[Tz P][Loud P]{H:Hp}
theorem ZsQ(hA:H r=some (.cells (Zb l++rest).toArray 3 (0,0),true))(hn:l.length=n)(BT:a<=p)(PK:p<b)(hb:b<=n)(hl:n<=1000000) :
  LL.Zc P 179 #[.slice (some ⟨r,0,none⟩) n cap,vi a,vi b,vi p] H λv H'=>∃l' q t,AR H H' r l' rest/\Rg a b l l'/\Re a b l' q/\v=.tuple #[vi (q:Nat),vb t]:=by
 refine aO.m (cF Zwe) (args:=[.slice (some ⟨r,0,none⟩) n cap,vi a,vi b,vi p]) rfl ?_;unfold Zjx;have nL:=AR.of hA;refine Y ?_;refine Zd p rfl rfl O O (Y ?_);refine Zg (Loud.aL _) rfl (AR.cA nL O rfl) (Y ?_);refine Zd a rfl rfl O O (Y ?_);refine Zg (Loud.aL _) rfl (AR.cA nL O rfl) (Y ?_);refine Zd a rfl rfl O O (Y ?_);refine ZU nL O (ZL _ _) rfl rfl λHW fQ=>?_;refine Zq Loud.aL (Y ?_);refine Zd p rfl rfl O O (Y ?_);refine ZU fQ (by rw[IF];omega) (ZL _ _) rfl rfl λH1 kF=>?_;refine OB ?_;have lA:(l.set a (el l p)).set p (el l a)=cY l a p:=rfl;rw[lA]at kF;have sA:Rg a b l (cY l a p):=.step _ _ (.refl l) O O O O;have ev:el (cY l a p) a=el l p:=by
  rw[Yi _ O O];by_cases e:a=p
  ·rw[iO e,e]
  rw[bY e,iO rfl]
 have D4:nW a b (a+1) (b-1) (el l p) (cY l a p):=⟨ev,λk h1 h2=>O,λk h1 h2=>O,O,O,O⟩;generalize cY l a p=c1 at *;have JM:((b:Int)-1)=((b-1:Nat):Int):=O;rw[JM];generalize el l p=v at *;have EN:=sA.len;refine OB ?_;refine Z4 (λ(i:Nat) H'=>H1=H'/\nW a b i (b-1) v c1/\((b-1)<i\/v<=el c1 i)/\(a+1)<=i) (λi=>[(0,.slice (some ⟨r,0,none⟩) n cap),(1,vi a),(10,vi ((i:Nat):Int)),(11,vi (((b-1):Nat):Int))]) (λ_=>[]) ?_ ?_
 ·refine Y ?_;refine Zw ((b-1)+1-(a+1)) (λt H'=>H1=H'/\nW a b ((a+1)+t) (b-1) v c1) (λt=>[(0,.slice (some ⟨r,0,none⟩) n cap),(1,vi a),(10,vi (((a+1)+t:Nat):Int)),(11,vi (((b-1):Nat):Int))]) (λ_=>[]) ⟨rfl,D4⟩ V trivial ?_;rintro t _ ht ⟨rfl,cO⟩;have q1:=cO.ai;have q2:=cO.ij;have q3:=cO.jb;have q4:=cO.eq;refine Y ?_;refine OI (λz1=>?_) (λz1=>?_)
  ·refine Y ?_;refine Zd ((a+1)+t) rfl rfl rfl O (Y ?_);refine Zg (OL _) rfl (kF.cA O rfl) (Y ?_);refine Zd a rfl rfl rfl O (Y ?_);refine Zg (OL _) rfl (kF.cA O rfl) ?_;rw[q4];refine Y ?_;refine Za (vs:=[vi (el c1 ((a+1)+t)),vi v]) rfl (VL _ _) ?_;rintro w _ ⟨rfl,rfl⟩;refine Y ?_;refine OI (λz2=>?_) (λz2=>?_)
   ·refine Y ?_;refine⟨⟨t+1,O⟩,dX O,⟨rfl,q4,λk k1 k2=>?_,cO.hi,?_,?_,cO.jb⟩,V,trivial,rfl⟩
    ·have k2:k<(a+1)+(t+1):=k2;by_cases e:k=(a+1)+t
     ·subst e;exact z2
     exact cO.lo k k1 O
    ·show a+1<=(a+1)+(t+1);omega
    show(a+1)+(t+1)<=(b-1)+1;omega
   refine Y ?_;exact⟨(a+1)+t,⟨rfl,cO,.inr O,O⟩,V,trivial,rfl⟩
  refine Y ?_;exact⟨(a+1)+t,⟨rfl,cO,.inl O,O⟩,V,trivial,rfl⟩
 rintro i2 _ ⟨rfl,G5,KK,gi2⟩;refine OB ?_;refine Z4 (λ(j:Nat) H'=>H1=H'/\nW a b i2 j v c1/\(j<i2\/el c1 j<v)/\(i2<=j->v<=el c1 i2)/\j<=(b-1)) (λj=>[(0,.slice (some ⟨r,0,none⟩) n cap),(1,vi a),(10,vi ((i2:Nat):Int)),(11,vi ((j:Nat):Int))]) (λ_=>[]) ?_ ?_
 ·refine Y ?_;refine Zw ((b-1)+1-i2) (λt H'=>H1=H'/\nW a b i2 ((b-1)-t) v c1) (λt=>[(0,.slice (some ⟨r,0,none⟩) n cap),(1,vi a),(10,vi ((i2:Nat):Int)),(11,vi (((b-1)-t:Nat):Int))]) (λ_=>[]) ⟨rfl,G5⟩ V trivial ?_;rintro t _ ht ⟨rfl,cO⟩;have q1:=cO.ai;have q2:=cO.ij;have q3:=cO.jb;have q4:=cO.eq;have q5:=G5.ij;have q6:=G5.jb;obtain⟨jj,sZ⟩:∃jj,(b-1)-t=jj:=⟨_,rfl⟩;rw[sZ]at cO q2 q3 ⊢;refine Y ?_;refine OI (λz1=>?_) (λz1=>?_)
  ·refine Y ?_;refine Zd jj rfl rfl rfl O (Y ?_);refine Zg (OL _) rfl (kF.cA O rfl) (Y ?_);refine Zd a rfl rfl rfl O (Y ?_);refine Zg (OL _) rfl (kF.cA O rfl) ?_;rw[q4];refine Y ?_;refine Za (vs:=[vi (el c1 jj),vi v]) rfl (VL _ _) ?_;rintro w _ ⟨rfl,rfl⟩;refine Y ?_;refine OI (λz2=>?_) (λz2=>?_)
   ·refine Y ?_;refine⟨⟨t+1,O⟩,dX O,⟨rfl,q4,cO.lo,λk k1 k2=>?_,cO.ai,?_,?_⟩,⟨rfl,rfl,rfl,?_,trivial⟩,trivial,rfl⟩
    ·have k1:(b-1)-(t+1)<k:=k1;by_cases e:k=jj
     ·subst e;omega
     exact cO.hi k O k2
    ·show i2<=(b-1)-(t+1)+1;omega
    ·show(b-1)-(t+1)+1<=b;omega
    show some (vi ((jj:Int)-1))=some (vi (((b-1)-(t+1):Nat):Int));congr 2;omega
   refine Y ?_;exact⟨jj,⟨rfl,cO,.inr O,λh=>by have:=KK;omega,O⟩,V,trivial,rfl⟩
  refine Y ?_;exact⟨jj,⟨rfl,cO,.inl O,λh=>O,O⟩,V,trivial,rfl⟩
 rintro j3 _ ⟨rfl,z4,M5,M4,gj3⟩;have w1:=z4.ai;have w2:=z4.ij;have w3:=z4.jb;refine OB ?_;refine Yb (Y ?_);refine OI (λg1=>?_) (λg1=>?_)
 ·refine Y ?_;refine Zd a rfl rfl O O (Y ?_);refine Zg (Loud.aL _) rfl (AR.cA kF O rfl) (Y ?_);refine Zd j3 rfl rfl O O (Y ?_);refine Zg (Loud.aL _) rfl (AR.cA kF O rfl) (Y ?_);refine Zd j3 rfl rfl O O (Y ?_);refine ZU kF O (ZL _ _) rfl rfl λHW fQ=>?_;refine Zq Loud.aL (Y ?_);refine Zd a rfl rfl O O (Y ?_);refine ZU fQ (by rw[IF];omega) (ZL _ _) rfl rfl λH5 jT=>Y ?_;exact⟨cY c1 j3 a,j3,true,jT,.step _ _ sA O O O O,z4.gL O O,rfl⟩
 have nU:i2<=j3:=O;have dG:i2≠j3:=λe=>by have h1:=M4 nU;rw[e]at h1;rcases M5 with h | h<;>omega
 have lR:=z4.swap nU (M4 nU) (by rcases M5 with h | h<;>omega) O;have nQ:Rg a b l (cY c1 i2 j3):=.step _ _ sA O O O O;refine OB ?_;refine Zd j3 rfl rfl O O (Y ?_);refine Zg (Loud.aL _) rfl (AR.cA kF O rfl) (Y ?_);refine Zd i2 rfl rfl O O (Y ?_);refine Zg (Loud.aL _) rfl (AR.cA kF O rfl) (Y ?_);refine Zd i2 rfl rfl O O (Y ?_);refine ZU kF O (ZL _ _) rfl rfl λHW fQ=>?_;refine Zq Loud.aL (Y ?_);refine Zd j3 rfl rfl O O (Y ?_);refine ZU fQ (by rw[IF];omega) (ZL _ _) rfl rfl λH5 jT=>?_;have lA:(c1.set i2 (el c1 j3)).set j3 (el c1 i2)=cY c1 i2 j3:=rfl;rw[lA]at jT;generalize cY c1 i2 j3=c3 at *;have Jw:((j3:Int)-1)=((j3-1:Nat):Int):=O;refine OB ?_;rw[Jw];refine Yb ?_;refine OB ?_;refine ZQ (α:=List Int×Nat×Nat) (j3-1+1-(i2+1)) (λt s H'=>AR H H' r s.1 rest/\Rg a b l s.1/\nW a b s.2.1 s.2.2 v s.1/\s.2.2+1-s.2.1+t=j3-1+1-(i2+1)) (λt s=>[(0,.slice (some ⟨r,0,none⟩) n cap),(1,vi a),(10,vi ((s.2.1:Nat):Int)),(11,vi ((s.2.2:Nat):Int))]) (λ_ _=>[]) (c3,i2+1,j3-1) ⟨jT,nQ,lR,by show j3-1+1-(i2+1)+0=_;omega⟩ V trivial ?_;rintro t0 ⟨c4,i4,j4⟩ H7 AS ⟨dV,mV,z5,hm⟩;clear lR;have lR:=z5;clear z5;simp only at dV mV lR hm;have I6:=mV.len;have y1:=lR.ai;have y2:=lR.ij;have y3:=lR.jb;refine OB ?_;refine Z4 (λ(i:Nat) H'=>H7=H'/\nW a b i j4 v c4/\(j4<i\/v<=el c4 i)/\i4<=i) (λi=>[(0,.slice (some ⟨r,0,none⟩) n cap),(1,vi a),(10,vi ((i:Nat):Int)),(11,vi ((j4:Nat):Int))]) (λ_=>[]) ?_ ?_
 ·refine Y ?_;refine Zw (j4+1-i4) (λt H'=>H7=H'/\nW a b (i4+t) j4 v c4) (λt=>[(0,.slice (some ⟨r,0,none⟩) n cap),(1,vi a),(10,vi ((i4+t:Nat):Int)),(11,vi ((j4:Nat):Int))]) (λ_=>[]) ⟨rfl,lR⟩ V trivial ?_;rintro t _ ht ⟨rfl,cO⟩;have q1:=cO.ai;have q2:=cO.ij;have q3:=cO.jb;have q4:=cO.eq;refine Y ?_;refine OI (λz1=>?_) (λz1=>?_)
  ·refine Y ?_;refine Zd (i4+t) rfl rfl rfl O (Y ?_);refine Zg (OL _) rfl (dV.cA O rfl) (Y ?_);refine Zd a rfl rfl rfl O (Y ?_);refine Zg (OL _) rfl (dV.cA O rfl) ?_;rw[q4];refine Y ?_;refine Za (vs:=[vi (el c4 (i4+t)),vi v]) rfl (VL _ _) ?_;rintro w _ ⟨rfl,rfl⟩;refine Y ?_;refine OI (λz2=>?_) (λz2=>?_)
   ·refine Y ?_;refine⟨⟨t+1,O⟩,dX O,⟨rfl,q4,λk k1 k2=>?_,cO.hi,?_,?_,cO.jb⟩,V,trivial,rfl⟩
    ·have k2:k<i4+(t+1):=k2;by_cases e:k=i4+t
     ·subst e;exact z2
     exact cO.lo k k1 O
    ·show a+1<=i4+(t+1);omega
    show i4+(t+1)<=j4+1;omega
   refine Y ?_;exact⟨i4+t,⟨rfl,cO,.inr O,O⟩,V,trivial,rfl⟩
  refine Y ?_;exact⟨i4+t,⟨rfl,cO,.inl O,O⟩,V,trivial,rfl⟩
 rintro i5 _ ⟨rfl,uB,DX,Jp⟩;refine OB ?_;refine Z4 (λ(j:Nat) H'=>H7=H'/\nW a b i5 j v c4/\(j<i5\/el c4 j<v)/\(i5<=j->v<=el c4 i5)/\j<=j4) (λj=>[(0,.slice (some ⟨r,0,none⟩) n cap),(1,vi a),(10,vi ((i5:Nat):Int)),(11,vi ((j:Nat):Int))]) (λ_=>[]) ?_ ?_
 ·refine Y ?_;refine Zw (j4+1-i5) (λt H'=>H7=H'/\nW a b i5 (j4-t) v c4) (λt=>[(0,.slice (some ⟨r,0,none⟩) n cap),(1,vi a),(10,vi ((i5:Nat):Int)),(11,vi ((j4-t:Nat):Int))]) (λ_=>[]) ⟨rfl,uB⟩ V trivial ?_;rintro t _ ht ⟨rfl,cO⟩;have q1:=cO.ai;have q2:=cO.ij;have q3:=cO.jb;have q4:=cO.eq;have q5:=uB.ij;have q6:=uB.jb;obtain⟨jj,sZ⟩:∃jj,j4-t=jj:=⟨_,rfl⟩;rw[sZ]at cO q2 q3 ⊢;refine Y ?_;refine OI (λz1=>?_) (λz1=>?_)
  ·refine Y ?_;refine Zd jj rfl rfl rfl O (Y ?_);refine Zg (OL _) rfl (dV.cA O rfl) (Y ?_);refine Zd a rfl rfl rfl O (Y ?_);refine Zg (OL _) rfl (dV.cA O rfl) ?_;rw[q4];refine Y ?_;refine Za (vs:=[vi (el c4 jj),vi v]) rfl (VL _ _) ?_;rintro w _ ⟨rfl,rfl⟩;refine Y ?_;refine OI (λz2=>?_) (λz2=>?_)
   ·refine Y ?_;refine⟨⟨t+1,O⟩,dX O,⟨rfl,q4,cO.lo,λk k1 k2=>?_,cO.ai,?_,?_⟩,⟨rfl,rfl,rfl,?_,trivial⟩,trivial,rfl⟩
    ·have k1:j4-(t+1)<k:=k1;by_cases e:k=jj
     ·subst e;omega
     exact cO.hi k O k2
    ·show i5<=j4-(t+1)+1;omega
    ·show j4-(t+1)+1<=b;omega
    show some (vi ((jj:Int)-1))=some (vi ((j4-(t+1):Nat):Int));congr 2;omega
   refine Y ?_;exact⟨jj,⟨rfl,cO,.inr O,λh=>by have:=DX;omega,O⟩,V,trivial,rfl⟩
  refine Y ?_;exact⟨jj,⟨rfl,cO,.inl O,λh=>O,O⟩,V,trivial,rfl⟩
 rintro j6 _ ⟨rfl,oT,zQ,zP,Jn⟩;have x1:=oT.ai;have x2:=oT.ij;have x3:=oT.jb;refine OB ?_;refine Yb (Y ?_);refine OI (λg2=>?_) (λg2=>?_)
 ·refine Y ?_;refine Zd a rfl rfl O O (Y ?_);refine Zg (Loud.aL _) rfl (AR.cA dV O rfl) (Y ?_);refine Zd j6 rfl rfl O O (Y ?_);refine Zg (Loud.aL _) rfl (AR.cA dV O rfl) (Y ?_);refine Zd j6 rfl rfl O O (Y ?_);refine ZU dV O (ZL _ _) rfl rfl λHW fQ=>?_;refine Zq Loud.aL (Y ?_);refine Zd a rfl rfl O O (Y ?_);refine ZU fQ (by rw[IF];omega) (ZL _ _) rfl rfl λH9 m8=>Y ?_;exact⟨cY c4 j6 a,j6,false,m8,.step _ _ mV O O O O,oT.gL O O,rfl⟩
 have lF:i5<=j6:=O;have BK:i5≠j6:=λe=>by have h1:=zP lF;rw[e]at h1;rcases zQ with h | h<;>omega
 have G4:=oT.swap lF (zP lF) (by rcases zQ with h | h<;>omega) O;have pQ:Rg a b l (cY c4 i5 j6):=.step _ _ mV O O O O;refine Y ?_;refine Zd j6 rfl rfl O O (Y ?_);refine Zg (Loud.aL _) rfl (AR.cA dV O rfl) (Y ?_);refine Zd i5 rfl rfl O O (Y ?_);refine Zg (Loud.aL _) rfl (AR.cA dV O rfl) (Y ?_);refine Zd i5 rfl rfl O O (Y ?_);refine ZU dV O (ZL _ _) rfl rfl λHW fQ=>?_;refine Zq Loud.aL (Y ?_);refine Zd j6 rfl rfl O O (Y ?_);refine ZU fQ (by rw[IF];omega) (ZL _ _) rfl rfl λH9 m8=>Y ?_;refine⟨(⟨j3-1+1-(i2+1)-(j6-1+1-(i5+1)),O⟩,(cY c4 i5 j6,i5+1,j6-1)),?_,⟨m8,pQ,G4,?_⟩,⟨rfl,rfl,rfl,?_,trivial⟩,trivial,rfl⟩
 ·show j3-1+1-(i2+1)-(j3-1+1-(i2+1)-(j6-1+1-(i5+1)))<j3-1+1-(i2+1)-t0;omega
 ·show j6-1+1-(i5+1)+(j3-1+1-(i2+1)-(j6-1+1-(i5+1)))=j3-1+1-(i2+1);omega
 show some (vi ((j6:Int)-1))=some (vi ((j6-1:Nat):Int));congr 2;omega
end
structure tH(a b i j:Nat)(v:Int)(c:List Int):Prop where
 eq:el c a=v
 lo:∀k,a+1<=k->k<i->el c k<=v
 hi:∀k,j<k->k<b->v<el c k
 ai:a+1<=i
 ij:i<=j+1
 jb:j+1<=b
theorem tH.swap(h:tH a b i j v c)(nU:i<=j)(h1:v<el c i)(h2:el c j<=v)(hl:b<=c.length):tH a b (i+1) (j-1) v (cY c i j):=by
 have g1:=h.ai;have g3:=h.jb;have dG:i≠j:=λe=>by subst e;omega
 have es:∀x,el (cY c i j) x=if x=j then el c i else if x=i then el c j else el c x:=λx=>Yi x O O
 refine⟨by rw[es,bY O,bY O];exact h.eq,λk k1 k2=>?_,λk k1 k2=>?_,O,O,O⟩
 ·rw[es,bY O];by_cases e:k=i
  ·rw[iO e];exact h2
  rw[bY e];exact h.lo k k1 O
 rw[es];by_cases e:k=j
 ·rw[iO e];exact h1
 rw[bY e,bY O];exact h.hi k O k2
def Rf(a b:Nat)(l':List Int)(i:Nat)(v:Int):Prop:=a<i/\i<=b/\(∀k,a<=k->k<i->el l' k<=v)/\∀k,i<=k->k<b->v<el l' k
theorem tH.gL(h:tH a b i j v c)(nU:j<i):Rf a b c i v:=by
 have g1:=h.ai;have g2:=h.ij;have g3:=h.jb;refine⟨O,O,λk k1 k2=>?_,λk k1 k2=>h.hi k O k2⟩;by_cases e:k=a
 ·rw[e,h.eq];exact qAy _
 exact h.lo k O k2
section
variable{P:bF}[Tz P][Loud P]{H:Hp}
theorem ZsU(hA:H r=some (.cells (Zb l++rest).toArray 3 (0,0),true))(hn:l.length=n)(BT:a<=p)(PK:p<b)(hb:b<=n)(hl:n<=1000000) :
  LL.Zc P 178 #[.slice (some ⟨r,0,none⟩) n cap,vi a,vi b,vi p] H λv H'=>∃l' q,AR H H' r l' rest/\Rg a b l l'/\Rf a b l' q (el l p)/\v=vi (q:Nat):=by
 refine aO.m (cF Zwf) (args:=[.slice (some ⟨r,0,none⟩) n cap,vi a,vi b,vi p]) rfl ?_;unfold Zjy;have nL:=AR.of hA;refine Y ?_;refine Zd p rfl rfl O O (Y ?_);refine Zg (Loud.aL _) rfl (AR.cA nL O rfl) (Y ?_);refine Zd a rfl rfl O O (Y ?_);refine Zg (Loud.aL _) rfl (AR.cA nL O rfl) (Y ?_);refine Zd a rfl rfl O O (Y ?_);refine ZU nL O (ZL _ _) rfl rfl λHW fQ=>?_;refine Zq Loud.aL (Y ?_);refine Zd p rfl rfl O O (Y ?_);refine ZU fQ (by rw[IF];omega) (ZL _ _) rfl rfl λH1 kF=>?_;refine OB ?_;have lA:(l.set a (el l p)).set p (el l a)=cY l a p:=rfl;rw[lA]at kF;have sA:Rg a b l (cY l a p):=.step _ _ (.refl l) O O O O;have ev:el (cY l a p) a=el l p:=by
  rw[Yi _ O O];by_cases e:a=p
  ·rw[iO e,e]
  rw[bY e,iO rfl]
 have D4:tH a b (a+1) (b-1) (el l p) (cY l a p):=⟨ev,λk h1 h2=>O,λk h1 h2=>O,O,O,O⟩;generalize cY l a p=c1 at *;have JM:((b:Int)-1)=((b-1:Nat):Int):=O;rw[JM];generalize el l p=v at *;have EN:=sA.len;refine Yb ?_;refine OB ?_;refine ZQ (α:=List Int×Nat×Nat) (b-1+1-(a+1)) (λt s H'=>AR H H' r s.1 rest/\Rg a b l s.1/\tH a b s.2.1 s.2.2 v s.1/\s.2.2+1-s.2.1+t=b-1+1-(a+1)) (λt s=>[(0,.slice (some ⟨r,0,none⟩) n cap),(1,vi a),(9,vi ((s.2.1:Nat):Int)),(10,vi ((s.2.2:Nat):Int))]) (λ_ _=>[]) (c1,a+1,b-1) ⟨kF,sA,D4,by show b-1+1-(a+1)+0=_;omega⟩ V trivial ?_;rintro t0 ⟨c4,i4,j4⟩ H7 AS ⟨dV,nQ,lR,hm⟩;clear D4;simp only at dV nQ lR hm;have I6:=nQ.len;have y1:=lR.ai;have y2:=lR.ij;have y3:=lR.jb;refine OB ?_;refine Z4 (λ(i:Nat) H'=>H7=H'/\tH a b i j4 v c4/\(j4<i\/v<el c4 i)/\i4<=i) (λi=>[(0,.slice (some ⟨r,0,none⟩) n cap),(1,vi a),(9,vi ((i:Nat):Int)),(10,vi ((j4:Nat):Int))]) (λ_=>[]) ?_ ?_
 ·refine Y ?_;refine Zw (j4+1-i4) (λt H'=>H7=H'/\tH a b (i4+t) j4 v c4) (λt=>[(0,.slice (some ⟨r,0,none⟩) n cap),(1,vi a),(9,vi ((i4+t:Nat):Int)),(10,vi ((j4:Nat):Int))]) (λ_=>[]) ⟨rfl,lR⟩ V trivial ?_;rintro t _ ht ⟨rfl,cO⟩;have q1:=cO.ai;have q2:=cO.ij;have q3:=cO.jb;have q4:=cO.eq;refine Y ?_;refine OI (λz1=>?_) (λz1=>?_)
  ·refine Y ?_;refine Zd a rfl rfl rfl O (Y ?_);refine Zg (OL _) rfl (dV.cA O rfl) ?_;rw[q4];refine Y ?_;refine Zd (i4+t) rfl rfl rfl O (Y ?_);refine Zg (OL _) rfl (dV.cA O rfl) (Y ?_);refine Za (vs:=[vi v,vi (el c4 (i4+t))]) rfl (VL _ _) ?_;rintro w _ ⟨rfl,rfl⟩;refine Y ?_;refine OI (λz2=>?_) (λz2=>?_)
   ·refine Y ?_;refine⟨⟨t+1,O⟩,dX O,⟨rfl,q4,λk k1 k2=>?_,cO.hi,?_,?_,cO.jb⟩,V,trivial,rfl⟩
    ·have k2:k<i4+(t+1):=k2;by_cases e:k=i4+t
     ·subst e;omega
     exact cO.lo k k1 O
    ·show a+1<=i4+(t+1);omega
    show i4+(t+1)<=j4+1;omega
   refine Y ?_;exact⟨i4+t,⟨rfl,cO,.inr O,O⟩,V,trivial,rfl⟩
  refine Y ?_;exact⟨i4+t,⟨rfl,cO,.inl O,O⟩,V,trivial,rfl⟩
 rintro i5 _ ⟨rfl,uB,DX,Jp⟩;refine OB ?_;refine Z4 (λ(j:Nat) H'=>H7=H'/\tH a b i5 j v c4/\(j<i5\/el c4 j<=v)/\(i5<=j->v<el c4 i5)/\j<=j4) (λj=>[(0,.slice (some ⟨r,0,none⟩) n cap),(1,vi a),(9,vi ((i5:Nat):Int)),(10,vi ((j:Nat):Int))]) (λ_=>[]) ?_ ?_
 ·refine Y ?_;refine Zw (j4+1-i5) (λt H'=>H7=H'/\tH a b i5 (j4-t) v c4) (λt=>[(0,.slice (some ⟨r,0,none⟩) n cap),(1,vi a),(9,vi ((i5:Nat):Int)),(10,vi ((j4-t:Nat):Int))]) (λ_=>[]) ⟨rfl,uB⟩ V trivial ?_;rintro t _ ht ⟨rfl,cO⟩;have q1:=cO.ai;have q2:=cO.ij;have q3:=cO.jb;have q4:=cO.eq;have q5:=uB.ij;have q6:=uB.jb;obtain⟨jj,sZ⟩:∃jj,j4-t=jj:=⟨_,rfl⟩;rw[sZ]at cO q2 q3 ⊢;refine Y ?_;refine OI (λz1=>?_) (λz1=>?_)
  ·refine Y ?_;refine Zd a rfl rfl rfl O (Y ?_);refine Zg (OL _) rfl (dV.cA O rfl) ?_;rw[q4];refine Y ?_;refine Zd jj rfl rfl rfl O (Y ?_);refine Zg (OL _) rfl (dV.cA O rfl) (Y ?_);refine Za (vs:=[vi v,vi (el c4 jj)]) rfl (VL _ _) ?_;rintro w _ ⟨rfl,rfl⟩;refine Y ?_;refine OI (λz2=>?_) (λz2=>?_)
   ·refine Y ?_;refine⟨⟨t+1,O⟩,dX O,⟨rfl,q4,cO.lo,λk k1 k2=>?_,cO.ai,?_,?_⟩,⟨rfl,rfl,rfl,?_,trivial⟩,trivial,rfl⟩
    ·have k1:j4-(t+1)<k:=k1;by_cases e:k=jj
     ·subst e;exact z2
     exact cO.hi k O k2
    ·show i5<=j4-(t+1)+1;omega
    ·show j4-(t+1)+1<=b;omega
    show some (vi ((jj:Int)-1))=some (vi ((j4-(t+1):Nat):Int));congr 2;omega
   refine Y ?_;exact⟨jj,⟨rfl,cO,.inr O,λh=>by have:=DX;omega,O⟩,V,trivial,rfl⟩
  refine Y ?_;exact⟨jj,⟨rfl,cO,.inl O,λh=>O,O⟩,V,trivial,rfl⟩
 rintro j6 _ ⟨rfl,oT,zQ,zP,Jn⟩;have x1:=oT.ai;have x2:=oT.ij;have x3:=oT.jb;refine OB ?_;refine Yb (Y ?_);refine OI (λg2=>?_) (λg2=>?_)
 ·refine Y ?_;exact⟨c4,i5,dV,nQ,oT.gL O,rfl⟩
 have lF:i5<=j6:=O;have BK:i5≠j6:=λe=>by have h1:=zP lF;rw[e]at h1;rcases zQ with h | h<;>omega
 have G4:=oT.swap lF (zP lF) (by rcases zQ with h | h<;>omega) O;have pQ:Rg a b l (cY c4 i5 j6):=.step _ _ nQ O O O O;refine Y ?_;refine Zd j6 rfl rfl O O (Y ?_);refine Zg (Loud.aL _) rfl (AR.cA dV O rfl) (Y ?_);refine Zd i5 rfl rfl O O (Y ?_);refine Zg (Loud.aL _) rfl (AR.cA dV O rfl) (Y ?_);refine Zd i5 rfl rfl O O (Y ?_);refine ZU dV O (ZL _ _) rfl rfl λHW fQ=>?_;refine Zq Loud.aL (Y ?_);refine Zd j6 rfl rfl O O (Y ?_);refine ZU fQ (by rw[IF];omega) (ZL _ _) rfl rfl λH9 m8=>Y ?_;refine⟨(⟨b-1+1-(a+1)-(j6-1+1-(i5+1)),O⟩,(cY c4 i5 j6,i5+1,j6-1)),?_,⟨m8,pQ,G4,?_⟩,⟨rfl,rfl,rfl,?_,trivial⟩,trivial,rfl⟩
 ·show b-1+1-(a+1)-(b-1+1-(a+1)-(j6-1+1-(i5+1)))<b-1+1-(a+1)-t0;omega
 ·show j6-1+1-(i5+1)+(b-1+1-(a+1)-(j6-1+1-(i5+1)))=b-1+1-(a+1);omega
 show some (vi ((j6:Int)-1))=some (vi ((j6-1:Nat):Int));congr 2;omega
end
structure nY(H H':Hp)(r2:Nat)(s:Nat):Prop where
 keep:∀b x,b≠r2->H b=some x->H' b=some x
 at_:H' r2=some (.cells #[vi s] 3 (0,0),true)
theorem nY.trans{H nA:Hp}{s':Nat}(h:nY H H' r2 s)(h':nY H' nA r2 s'):nY H nA r2 s':=⟨λb x hb hx=>h'.keep b x hb (h.keep b x hb hx),h'.at_⟩
theorem nY.JQ{H:Hp}(h:nY H H' r2 s)(hA:H r=some (.cells (Zb l++rest).toArray 3 (0,0),true))(hr:r≠r2):H' r=some (.cells (Zb l++rest).toArray 3 (0,0),true):=h.keep _ _ hr hA
section
variable{P:bF}[Tz P][Loud P]{H:Hp}
theorem Lz(hA:H r=some (.cells (Zb l++rest).toArray 3 (0,0),true))(hn:l.length=n)(hx:x<n)(hy:y<n)(hr:r≠r2)(h2:H r2=some (.cells #[vi s] 3 (0,0),true))(HO:s<=1000) :
  LL.Zc P 246 #[.slice (some ⟨r,0,none⟩) n cap,vi x,vi y,pt r2] H λv H'=>∃s' x' y':Nat,nY H H' r2 s'/\s'<=s+1/\v=.tuple #[vi x',vi y']/\((x'=x/\y'=y)\/(x'=y/\y'=x)):=by
 refine aO.m (cF Zv2) (args:=[.slice (some ⟨r,0,none⟩) n cap,vi x,vi y,pt r2]) rfl ?_;unfold Zjl;have nL:=AR.of hA;refine Y ?_;refine Zd y rfl rfl rfl O (Y ?_);refine Zg (OL _) rfl (nL.cA O rfl) (Y ?_);refine Zd x rfl rfl rfl O (Y ?_);refine Zg (OL _) rfl (nL.cA O rfl) (Y ?_);refine Za (vs:=[vi (el l y),vi (el l x)]) rfl (VL _ _) ?_;rintro v _ ⟨rfl,rfl⟩;refine Y ?_;refine OI (λh1=>?_) (λh1=>?_)
 ·refine Y ?_;refine VD rfl (Y ?_);refine Zg (OL _) rfl (ZC (cs:=[vi s]) h2) (Y ?_);refine VD rfl (Y ?_);refine Vp (eI t3) rfl rfl h2 rfl rfl (OL _) (Y ?_);exact⟨s+1,y,x,⟨λb z hb hz=>by rw[Hp.aE _ _ hb];exact hz,Hp.aF _ _ _⟩,aC _,rfl,.inr ⟨rfl,rfl⟩⟩
 refine Y ?_;exact⟨s,x,y,⟨λb z hb hz=>hz,h2⟩,O,rfl,.inl ⟨rfl,rfl⟩⟩
theorem ZlI{z:Nat}(hA:H r=some (.cells (Zb l++rest).toArray 3 (0,0),true))(hn:l.length=n)(hx:x<n)(hy:y<n)(hz:z<n)(hr:r≠r2)(h2:H r2=some (.cells #[vi s] 3 (0,0),true))(HO:s<=900) :
  LL.Zc P 223 #[.slice (some ⟨r,0,none⟩) n cap,vi x,vi y,vi z,pt r2] H λv H'=>∃s' q:Nat,nY H H' r2 s'/\s'<=s+3/\v=vi q/\(q=x\/q=y\/q=z):=by
 refine aO.m (cF Zv4) (args:=[.slice (some ⟨r,0,none⟩) n cap,vi x,vi y,vi z,pt r2]) rfl ?_;unfold Zjn;refine Y ?_;refine Za (vs:=[.slice (some ⟨r,0,none⟩) n cap,vi x,vi y,pt r2]) rfl (Lz hA hn hx hy hr h2 O) ?_;rintro v H1 ⟨s1,x1,y1,k1,g1,rfl,p1⟩;refine Y ?_;refine Za (vs:=[.slice (some ⟨r,0,none⟩) n cap,vi y1,vi z,pt r2]) rfl (Lz (k1.JQ hA hr) hn O hz hr k1.at_ O) ?_;rintro v H2 ⟨s2,y2,z2,k2,g2,rfl,p2⟩;refine Y ?_;refine Za (vs:=[.slice (some ⟨r,0,none⟩) n cap,vi x1,vi y2,pt r2]) rfl (Lz (k2.JQ (k1.JQ hA hr) hr) hn O O hr k2.at_ O) ?_;rintro v H3 ⟨s3,x3,y3,k3,g3,rfl,p3⟩;refine Y ?_;exact⟨s3,y3,(k1.trans k2).trans k3,O,rfl,O⟩
theorem Kx(hA:H r=some (.cells (Zb l++rest).toArray 3 (0,0),true))(hn:l.length=n)(h0:1<=x)(hx:x+1<n)(hl:n<=1000000)(hr:r≠r2)(h2:H r2=some (.cells #[vi s] 3 (0,0),true))(HO:s<=900) :
  LL.Zc P 222 #[.slice (some ⟨r,0,none⟩) n cap,vi x,pt r2] H λv H'=>∃s' q:Nat,nY H H' r2 s'/\s'<=s+3/\v=vi q/\(q+1=x\/q=x\/q=x+1):=by
 refine aO.m (cF Zv5) (args:=[.slice (some ⟨r,0,none⟩) n cap,vi x,pt r2]) rfl ?_;unfold Zjo;have e1:((x:Int)-1)=((x-1:Nat):Int):=O;have e2:((x:Int)+1)=((x+1:Nat):Int):=O;refine Y ?_;rw[e1,e2];refine Za (vs:=[.slice (some ⟨r,0,none⟩) n cap,vi (x-1:Nat),vi x,vi (x+1:Nat),pt r2]) rfl (ZlI hA hn O O hx hr h2 HO) ?_;rintro v H1 ⟨s1,q,k1,g1,rfl,p1⟩;refine Y ?_;exact⟨s1,q,k1,g1,rfl,O⟩
theorem ZvM(hA:H r=some (.cells (Zb l++rest).toArray 3 (0,0),true))(hn:l.length=n)(rW:a+12<b)(hb:b<=n)(hl:n<=1000000) :
  LL.Zc P 174 #[.slice (some ⟨r,0,none⟩) n cap,vi a,vi b] H λv H'=>∃q h:Nat,bO H H'/\v=.tuple #[vi q,vi h]/\a<=q/\q<b:=by
 refine aO.m (cF Zwj) (args:=[.slice (some ⟨r,0,none⟩) n cap,vi a,vi b]) rfl ?_;unfold ZjC;obtain⟨d,rfl⟩:∃d,b=a+d:=⟨b-a,O⟩;have ed:(((a+d:Nat):Int)-(a:Int))=(d:Int):=O;have e4:((d:Int)).tdiv 4=((d / 4:Nat):Int):=by rw[qAV O];omega
 refine Y ?_;rw[ed];refine Vs (eI t3) (OL _) λr2 j0=>?_;have hr:r≠r2:=by rintro rfl;rw[hA]at j0;simp at j0
 have ET:(H.ins r2 (.cells (vi 0).cells 3)) r=some (.cells (Zb l++rest).toArray 3 (0,0),true):=by rw[Hp.aE _ _ hr];exact hA
 have k0:nY H (H.ins r2 (.cells (vi 0).cells 3)) r2 0:=⟨λb z hb hz=>by rw[Hp.aE _ _ hb];exact hz,Hp.aF _ _ _⟩;generalize H.ins r2 (.cells (vi 0).cells 3)=H1 at *;have s9:∀H' s,nY H1 H' r2 s->bO H H':=λH' s k b z hz=>by
  have hb:b≠r2:=by rintro rfl;rw[hz]at j0;simp at j0
  exact k.keep b z hb (k0.keep b z hb hz)
 refine Y ?_;refine VC rfl rfl (by decide) (by rw[e4];exact⟨O,O⟩) ?_;rw[e4];generalize hm:d / 4=m at *;refine Y ?_;refine V8 rfl rfl ⟨O,O⟩ (Y ?_);refine VC rfl rfl (by decide) (by rw[e4];exact⟨O,O⟩) ?_;rw[e4];refine Y ?_;refine V8 rfl rfl ⟨O,O⟩ (Y ?_);refine VC rfl rfl (by decide) (by rw[e4];exact⟨O,O⟩) ?_;rw[e4];refine Y ?_;refine V8 rfl rfl ⟨O,O⟩ ?_;refine OB ?_;refine Z4 (λ(x:Nat×Nat) H'=>nY H1 H' r2 x.1/\a<=x.2/\x.2<a+d) (λx=>[(9,pt r2),(11,vi (x.2:Nat))]) (λ_=>[]) ?_ ?_
 ·refine OB ?_;refine OI (λg1=>?_) (λg1=>?_)
  ·refine OB ?_;refine Z4 (λ(x:Nat×Nat×Nat×Nat) H'=>nY H1 H' r2 x.1/\x.1<=9/\x.2.1<a+d/\a<=x.2.1/\x.2.2.1<a+d/\a<=x.2.2.1/\x.2.2.2<a+d/\a<=x.2.2.2) (λx=>[(0,.slice (some ⟨r,0,none⟩) n cap),(9,pt r2),(10,vi (x.2.1:Nat)),(11,vi (x.2.2.1:Nat)),(12,vi (x.2.2.2:Nat))]) (λ_=>[]) ?_ ?_
   ·have h1:((a:Int)+(m:Int) * 1)=((a+m:Nat):Int):=O;have h2:((a:Int)+(m:Int) * 2)=((a+m * 2:Nat):Int):=O;have h3:((a:Int)+(m:Int) * 3)=((a+m * 3:Nat):Int):=O;rw[h1,h2,h3];refine Y ?_;refine OI (λg2=>?_) (λg2=>?_)
    ·refine Y ?_;refine Za (vs:=[.slice (some ⟨r,0,none⟩) n cap,vi (a+m:Nat),pt r2]) rfl (Kx (s:=0) ET hn O O hl hr k0.at_ O) ?_;rintro v H2 ⟨s2,q2,k2,w2,rfl,p2⟩;refine Y ?_;refine Za (vs:=[.slice (some ⟨r,0,none⟩) n cap,vi (a+m * 2:Nat),pt r2]) rfl (Kx (k2.JQ ET hr) hn O O hl hr k2.at_ O) ?_;rintro v H3 ⟨s3,q3,k3,w3,rfl,p3⟩;refine Y ?_;refine Za (vs:=[.slice (some ⟨r,0,none⟩) n cap,vi (a+m * 3:Nat),pt r2]) rfl (Kx (k3.JQ (k2.JQ ET hr) hr) hn O O hl hr k3.at_ O) ?_;rintro v H4 ⟨s4,q4,k4,w4,rfl,p4⟩;refine Y ?_;exact⟨(s4,q2,q3,q4),⟨(k2.trans k3).trans k4,by show s4<=9;omega,by show q2<a+d;omega,by show a<=q2;omega,by show q3<a+d;omega,by show a<=q3;omega,by show q4<a+d;omega,by show a<=q4;omega⟩,V,trivial,rfl⟩
    refine Y ?_;exact⟨(0,a+m,a+m * 2,a+m * 3),⟨⟨λ_ _ _ h=>h,k0.at_⟩,by show 0<=9;omega,by show a+m<a+d;omega,by show a<=a+m;omega,by show a+m * 2<a+d;omega,by show a<=a+m * 2;omega,by show a+m * 3<a+d;omega,by show a<=a+m * 3;omega⟩,V,trivial,rfl⟩
   rintro⟨s5,i5,j5,k5⟩ H5 ⟨c5,b5,b6,b7,b8,b9,Kf,Ke⟩;simp only at c5 b5 b6 b7 b8 b9 Kf Ke;refine Y ?_;refine Za (vs:=[.slice (some ⟨r,0,none⟩) n cap,vi i5,vi j5,vi k5,pt r2]) rfl (ZlI (c5.JQ ET hr) hn O O O hr c5.at_ O) ?_;rintro v H6 ⟨s6,q6,k6,w6,rfl,p6⟩;refine Y ?_;exact⟨(s6,q6),⟨c5.trans k6,by show a<=q6;omega,by show q6<a+d;omega⟩,V,trivial,rfl⟩
  exact absurd g1 O
 rintro⟨s7,q7⟩ H7 ⟨c7,b7,b8⟩;simp only at c7 b7 b8;refine Y ?_;refine Zg (OL _) rfl (ZC (cs:=[vi s7]) c7.at_) (Y ?_);refine OI (λg3=>?_) (λg3=>?_)
 ·refine Y ?_;exact⟨q7,1,s9 _ _ c7,rfl,b7,b8⟩
 refine Y ?_;refine OI (λg4=>?_) (λg4=>?_)
 ·refine Y ?_;exact⟨q7,2,s9 _ _ c7,rfl,b7,b8⟩
 refine Y ?_;exact⟨q7,0,s9 _ _ c7,rfl,b7,b8⟩
end
