import Derived.Test.YthmnpenamnoniaaGreatDoorP21
set_option linter.all false
set_option maxHeartbeats 1000000
set_option maxRecDepth 100000
open Go Go.LL
namespace Go.Proofs
variable{H':Hp}{r2 s r cap n a b i m q a0 b0:Nat}{l c c':List Int}{rest:List Value}
structure nN(H H':Hp)(r2:Nat)(s:Nat):Prop where
 keep:∀b x,b≠r2->H b=some x->H' b=some x
 at_:H' r2=some (.cells #[vi s] 3 (0,0),true)
def nN.trans{H e:Hp}{g:Nat}(h:nN H H' r2 s)(f:nN H' e r2 g):nN H e r2 g:=⟨λb x hb j=>f.keep b x hb (h.keep b x hb j),f.at_⟩
def nN.arr{H:Hp}(h:nN H H' r2 s)(e:H r=some (.cells (Zh l++rest).toArray 3 (0,0),true))(f:r≠r2):H' r=some (.cells (Zh l++rest).toArray 3 (0,0),true):=h.keep _ _ f e
section
variable{P:aY}[Tz P][Loud P]{H:Hp}
def NS{x y:Nat}(t:H r=some (.cells (Zh l++rest).toArray 3 (0,0),true))(w:l.length=n)(B:x<n)(C:y<n)(A:r≠r2)(f:H r2=some (.cells #[vi s] 3 (0,0),true))(u:s<=1000) :
  LL.Za P 240 #[.slice (some ⟨r,0,none⟩) n cap,vi x,vi y,pt r2] H λv o=>∃k h j:Nat,nN H o r2 k/\k<=s+1/\v=.tuple #[vi h,vi j]/\((h=x/\j=y)\/(h=y/\j=x)):=by
 refine aI.m (bG Zxb) rfl ?_;unfold Ld;have e:=AR.of t;refine Y ?_;refine Zn y rfl rfl rfl O (Y ?_);refine Zg (OL _) rfl (e.cA O rfl) (Y ?_);refine Zn x rfl rfl rfl O (Y ?_);refine Zg (OL _) rfl (e.cA O rfl) (Y ?_);refine Zl (vs:=[vi (el l y),vi (el l x)]) (VZ _ _) ?_;refine OJ (λp=>?_) (λp=>?_)
 ·refine Y ?_;refine Uj rfl (Y ?_);refine Zg (OL _) rfl (ZE (cs:=[vi s]) f) (Y ?_);refine Uj rfl (Y ?_);refine Yo (bH t3) rfl rfl f rfl rfl (OL _) (Y ?_);exact⟨s+1,y,x,⟨λb z hb g=>by rw[Hp.aE _ _ hb];exact g,Hp.aD _ _ _⟩,AT _,rfl,.inr ⟨rfl,rfl⟩⟩
 refine Y ?_;exact⟨s,x,y,⟨λb z hb g=>g,f⟩,O,rfl,.inl ⟨rfl,rfl⟩⟩
def Bm{x y z:Nat}(f:H r=some (.cells (Zh l++rest).toArray 3 (0,0),true))(g:l.length=n)(t:x<n)(u:y<n)(w:z<n)(e:r≠r2)(o:H r2=some (.cells #[vi s] 3 (0,0),true))(p:s<=900) :
  LL.Za P 229 #[.slice (some ⟨r,0,none⟩) n cap,vi x,vi y,vi z,pt r2] H λv k=>∃j q:Nat,nN H k r2 j/\j<=s+3/\v=vi q/\(q=x\/q=y\/q=z):=by
 refine aI.m (bG Zxd) rfl ?_;unfold Hi;refine Y ?_;refine Zf (vs:=[.slice (some ⟨r,0,none⟩) n cap,vi x,vi y,pt r2]) (NS f g t u e o O) ?_;rintro v G ⟨S,C,D,k1,K,rfl,N⟩;refine Y ?_;refine Zf (vs:=[.slice (some ⟨r,0,none⟩) n cap,vi D,vi z,pt r2]) (NS (k1.arr f e) g O w e k1.at_ O) ?_;rintro v I ⟨T,E,V,h,L,rfl,Q⟩;refine Y ?_;refine Zf (vs:=[.slice (some ⟨r,0,none⟩) n cap,vi C,vi E,pt r2]) (NS (h.arr (k1.arr f e) e) g O O e h.at_ O) ?_;rintro v J ⟨B,U,F,A,M,rfl,R⟩;refine Y ?_;exact⟨B,F,(k1.trans h).trans A,O,rfl,O⟩
def KP{x:Nat}(p:H r=some (.cells (Zh l++rest).toArray 3 (0,0),true))(t:l.length=n)(B:1<=x)(w:x+1<n)(C:n<=1000000)(u:r≠r2)(o:H r2=some (.cells #[vi s] 3 (0,0),true))(e:s<=900) :
  LL.Za P 228 #[.slice (some ⟨r,0,none⟩) n cap,vi x,pt r2] H λv g=>∃f q:Nat,nN H g r2 f/\f<=s+3/\v=vi q/\(q+1=x\/q=x\/q=x+1):=by
 refine aI.m (bG Zxe) rfl ?_;unfold Hh;have h:((x:Int)-1)=((x-1:Nat):Int):=O;have j:((x:Int)+1)=((x+1:Nat):Int):=O;refine Y ?_;rw[h,j];refine Zf (vs:=[.slice (some ⟨r,0,none⟩) n cap,vi (x-1:Nat),vi x,vi (x+1:Nat),pt r2]) (Bm p t O O w u o e) ?_;rintro v A ⟨z,q,k1,k,rfl,D⟩;refine Y ?_;exact⟨z,q,k1,k,rfl,O⟩
def ZwQ(T:H r=some (.cells (Zh l++rest).toArray 3 (0,0),true))(C:l.length=n)(JR:a+12<b)(hb:b<=n)(J:n<=1000000) :
  LL.Za P 197 #[.slice (some ⟨r,0,none⟩) n cap,vi a,vi b] H λv f=>∃q h:Nat,bA H f/\v=.tuple #[vi q,vi h]/\a<=q/\q<b:=by
 refine aI.m (bG Zxt) rfl ?_;unfold Gn;obtain⟨d,rfl⟩:∃d,b=a+d:=⟨b-a,O⟩;have ed:(((a+d:Nat):Int)-(a:Int))=(d:Int):=O;have u:((d:Int)).tdiv 4=((d / 4:Nat):Int):=by rw[qBt O];omega
 refine Y ?_;rw[ed];refine ZV (bH t3) (OL _) λr2 o=>?_;have j:r≠r2:=by rintro rfl;rw[T]at o;simp at o
 have g:(H.ins r2 (.cells (vi 0).cells 3)) r=some (.cells (Zh l++rest).toArray 3 (0,0),true):=by rw[Hp.aE _ _ j];exact T
 have k0:nN H (H.ins r2 (.cells (vi 0).cells 3)) r2 0:=⟨λb z hb D=>by rw[Hp.aE _ _ hb];exact D,Hp.aD _ _ _⟩;generalize H.ins r2 (.cells (vi 0).cells 3)=F at *;have e:∀f s,nN F f r2 s->bA H f:=λf s k b z D=>by
  have hb:b≠r2:=by rintro rfl;rw[D]at o;simp at o
  exact k.keep b z hb (k0.keep b z hb D)
 refine Y ?_;refine Uy rfl rfl (by decide) (by rw[u];exact⟨O,O⟩) ?_;rw[u];generalize hm:d / 4=m at *;refine Y ?_;refine VA rfl rfl ⟨O,O⟩ (Y ?_);refine Uy rfl rfl (by decide) (by rw[u];exact⟨O,O⟩) ?_;rw[u];refine Y ?_;refine VA rfl rfl ⟨O,O⟩ (Y ?_);refine Uy rfl rfl (by decide) (by rw[u];exact⟨O,O⟩) ?_;rw[u];refine Y ?_;refine VA rfl rfl ⟨O,O⟩ ?_;refine OB ?_;refine Y9 (λ(x:Nat×Nat) f=>nN F f r2 x.1/\a<=x.2/\x.2<a+d) (λx=>[(9,pt r2),(11,vi (x.2:Nat))]) (λ_=>[]) ?_ ?_
 ·refine OB ?_;refine OI (λS=>?_) (λS=>?_)
  ·refine OB ?_;refine Y9 (λ(x:Nat×Nat×Nat×Nat) f=>nN F f r2 x.1/\x.1<=9/\x.2.1<a+d/\a<=x.2.1/\x.2.2.1<a+d/\a<=x.2.2.1/\x.2.2.2<a+d/\a<=x.2.2.2) (λx=>[(0,.slice (some ⟨r,0,none⟩) n cap),(9,pt r2),(10,vi (x.2.1:Nat)),(11,vi (x.2.2.1:Nat)),(12,vi (x.2.2.2:Nat))]) (λ_=>[]) ?_ ?_
   ·have h1:((a:Int)+(m:Int) * 1)=((a+m:Nat):Int):=O;have h2:((a:Int)+(m:Int) * 2)=((a+m * 2:Nat):Int):=O;have h3:((a:Int)+(m:Int) * 3)=((a+m * 3:Nat):Int):=O;rw[h1,h2,h3];refine OJ (λg2=>?_) (λg2=>?_)
    ·refine Y ?_;refine Zf (vs:=[.slice (some ⟨r,0,none⟩) n cap,vi (a+m:Nat),pt r2]) (KP (s:=0) g C O O J j k0.at_ O) ?_;rintro v H2 ⟨s2,L,E,w2,rfl,p2⟩;refine Y ?_;refine Zf (vs:=[.slice (some ⟨r,0,none⟩) n cap,vi (a+m * 2:Nat),pt r2]) (KP (E.arr g j) C O O J j E.at_ O) ?_;rintro v H3 ⟨s3,M,K,w3,rfl,p3⟩;refine Y ?_;refine Zf (vs:=[.slice (some ⟨r,0,none⟩) n cap,vi (a+m * 3:Nat),pt r2]) (KP (K.arr (E.arr g j) j) C O O J j K.at_ O) ?_;rintro v H4 ⟨U,N,k4,w4,rfl,p4⟩;refine Y ?_;exact⟨(U,L,M,N),⟨(E.trans K).trans k4,by show U<=9;omega,by show L<a+d;omega,by show a<=L;omega,by show M<a+d;omega,by show a<=M;omega,by show N<a+d;omega,by show a<=N;omega⟩,V,trivial,rfl⟩
    refine Y ?_;exact⟨(0,a+m,a+m * 2,a+m * 3),⟨⟨λ_ _ _ h=>h,k0.at_⟩,by show 0<=9;omega,by show a+m<a+d;omega,by show a<=a+m;omega,by show a+m * 2<a+d;omega,by show a<=a+m * 2;omega,by show a+m * 3<a+d;omega,by show a<=a+m * 3;omega⟩,V,trivial,rfl⟩
   rintro⟨s5,i5,j5,k5⟩ H5 ⟨B,W,X,p,t,Z,G,I⟩;simp only at B W X p t Z G I;refine Y ?_;refine Zf (vs:=[.slice (some ⟨r,0,none⟩) n cap,vi i5,vi j5,vi k5,pt r2]) (Bm (B.arr g j) C O O O j B.at_ O) ?_;rintro v H6 ⟨s6,Q,k6,w6,rfl,p6⟩;refine Y ?_;exact⟨(s6,Q),⟨B.trans k6,by show a<=Q;omega,by show Q<a+d;omega⟩,V,trivial,rfl⟩
  exact absurd S O
 rintro⟨s7,R⟩ H7 ⟨w,p,t⟩;simp only at w p t;refine Y ?_;refine Zg (OL _) rfl (ZE (cs:=[vi s7]) w.at_) ?_;refine OJ (λg3=>?_) (λg3=>?_)
 ·refine Y ?_;exact⟨R,1,e _ _ w,rfl,p,t⟩
 refine OJ (λg4=>?_) (λg4=>?_)
 ·refine Y ?_;exact⟨R,2,e _ _ w,rfl,p,t⟩
 refine Y ?_;exact⟨R,0,e _ _ w,rfl,p,t⟩
end
def Pd{G:Prop} (h:G:=by refine Y ?_;exact⟨(⟨t0+1,O⟩,(c3,i)),cZ O,⟨lX,HQ,by show a+1<=i;omega,by show i<=b;omega,QK⟩,V,trivial,rfl⟩):G:=h
section
variable{P:aY}[Tz P][Loud P]{H:Hp}
def ZqD(w:H r=some (.cells (Zh l++rest).toArray 3 (0,0),true))(I:l.length=n)(z:a<b)(hb:b<=n)(G:n<=1000000) :
  LL.Za P 198 #[.slice (some ⟨r,0,none⟩) n cap,vi a,vi b] H λv f=>∃p,AR H f r p rest/\Rg a b l p:=by
 refine aI.m (bG Zxs) rfl ?_;unfold Gp;refine Y ?_;refine Z4 (α:=List Int) b (λt c f=>AR H f r c rest/\Rg a b l c) (λt c=>[(0,.slice (some ⟨r,0,none⟩) n cap),(6,vi ((a+t:Nat):Int)),(7,vi ((b:Int)-1-(t:Nat)))]) (λ_ _=>[]) l ⟨AR.of w,.refl l⟩ ⟨rfl,rfl,?_,trivial⟩ trivial ?_
 ·show some (vi _)=some (vi _);congr 2;omega
 rintro t c D J ⟨e,o⟩;have A:=o.len;refine OJ (λu=>?_) (λu=>?_)
 ·obtain⟨j,C⟩:∃j:Nat,(b:Int)-1-(t:Nat)=(j:Int):=⟨b-1-t,O⟩;rw[C];have B:a+t<j:=O;have k:j<b:=O;refine Y ?_;refine Zn j rfl rfl O O (Y ?_);refine Zg (Loud.bB _) rfl (AR.cA e O rfl) (Y ?_);refine Zn (a+t) rfl rfl O O (Y ?_);refine Zg (Loud.bB _) rfl (AR.cA e O rfl) (Y ?_);refine Zn (a+t) rfl rfl O O (Y ?_);refine Z6 e O (ZX _ _) rfl rfl λF h=>?_;refine Zr Loud.bB (Y ?_);refine Zn j rfl rfl O O (Y ?_);refine Z6 h (by rw[qAR];omega) (ZX _ _) rfl rfl λE g=>Y ?_;refine⟨(⟨t+1,O⟩,dK c (a+t) j),cZ O,⟨g,.step _ _ o O O O k⟩,⟨rfl,rfl,?_,trivial⟩,trivial,rfl⟩;show some (vi ((j:Int)-1))=some (vi ((b:Int)-1-((t+1:Nat):Int)));congr 2;omega
 refine Y ?_;exact⟨c,e,o⟩
def tD(a b:Nat)(c:List Int):Prop:=a=0\/∀k,a<=k->k<b->el c (a-1)<=el c k
def tD.rg(h:tD a b c)(rg:Rg a b c c')(hb:b<=c.length):tD a b c':=by
 rcases h with h | h
 ·exact .inl h
 by_cases e:a=0
 ·exact .inl e
 right;rw[rg.out hb (.inl O)];exact rg.all hb (p:=λv=>el c (a-1)<=v) h
def Ztg(hA:H r=some (.cells (Zh l++rest).toArray 3 (0,0),true))(hn:l.length=n)(JR:a<b)(hb:b<=n)(hl:n<=1000000)(lw:tD a b l) :
  LL.Za P 199 #[.slice (some ⟨r,0,none⟩) n cap,vi a,vi b] H λv o=>∃(l':List Int) (t:Bool),AR H o r l' rest/\Rg a b l l'/\v=vb t/\(t=true->So a b l'):=by
 refine aI.m (bG Zxr) rfl ?_;unfold Gq;refine Y ?_;refine Z4 (α:=List Int×Nat) 5 (λt s o=>AR H o r s.1 rest/\Rg a b l s.1/\a+1<=s.2/\s.2<=b/\So a s.2 s.1) (λt s=>[(0,.slice (some ⟨r,0,none⟩) n cap),(1,vi a),(2,vi b),(7,vi (s.2:Nat)),(8,vi (t:Nat))]) (λ_ _=>[]) (l,a+1) ⟨AR.of hA,.refl l,AT _,by show a+1<=b;omega,xB l (AT _)⟩ V trivial ?_;rintro t0 ⟨c,p⟩ H1 SB ⟨B,F,nW,oW,so⟩;simp only at B F nW oW so;have lU:=F.len;refine OJ (λg1=>?_) (λg1=>?_)
 ·refine OB ?_;refine YY ?_;refine OB ?_;refine Y9 (λ(i:Nat) o=>H1=o/\p<=i/\i<=b/\So a i c/\(i=b\/el c i<el c (i-1))) (λi=>[(0,.slice (some ⟨r,0,none⟩) n cap),(1,vi a),(2,vi b),(7,vi (i:Nat)),(8,vi (t0:Nat))]) (λ_=>[]) ?_ ?_
  ·refine Y ?_;refine ZF (b-p) (λt o=>H1=o/\So a (p+t) c) (λt=>[(0,.slice (some ⟨r,0,none⟩) n cap),(1,vi a),(2,vi b),(7,vi (p+t:Nat)),(8,vi (t0:Nat))]) (λ_=>[]) ⟨rfl,so⟩ V trivial ?_;rintro t _ ht ⟨rfl,I⟩;refine OJ (λT=>?_) (λT=>?_)
   ·refine Y ?_;refine Zn (p+t) rfl rfl rfl O (Y ?_);refine Zg (OL _) rfl (B.cA O rfl) (Y ?_);refine Zn (p+t-1) rfl rfl O O (Y ?_);refine Zg (OL _) rfl (B.cA O rfl) (Y ?_);refine Zf (vs:=[vi (el c (p+t)),vi (el c (p+t-1))]) (VZ _ _) ?_;rintro w _ ⟨rfl,rfl⟩;refine OJ (λU=>?_) (λU=>?_)
    ·refine Y ?_;refine⟨⟨t+1,O⟩,cZ O,⟨rfl,?_⟩,V,trivial,rfl⟩;refine BA λx J K=>?_;have K:x+1<p+(t+1):=K;by_cases e:x+1=p+t
     ·rw[e,show x=p+t-1 by omega];omega
     exact I x (x+1) J O O
    refine Y ?_;exact⟨p+t,⟨rfl,O,O,I,.inr O⟩,V,trivial,rfl⟩
   refine Y ?_;exact⟨p+t,⟨rfl,O,O,I,.inl O⟩,V,trivial,rfl⟩
  rintro i _ ⟨rfl,qW,pO,S,st⟩;refine OB ?_;refine YY ?_;refine OB ?_;refine OI (λg2=>?_) (λg2=>?_)
  ·have:i=b:=O;subst this;refine Y ?_;exact⟨c,true,B,F,rfl,λ_=>S⟩
  have hib:i<b:=O;refine OB ?_;refine YY ?_;refine OB ?_;refine OI (λg3=>?_) (λg3=>?_)
  ·refine Y ?_;exact⟨c,false,B,F,rfl,λh=>by simp at h⟩
  refine OB ?_;refine Zn (i-1) rfl rfl O O (Y ?_);refine Zg (Loud.bB _) rfl (AR.cA B O rfl) (Y ?_);refine Zn i rfl rfl O O (Y ?_);refine Zg (Loud.bB _) rfl (AR.cA B O rfl) (Y ?_);refine Zn i rfl rfl O O (Y ?_);refine Z6 B O (ZX _ _) rfl rfl λHW u=>?_;refine Zr Loud.bB (Y ?_);refine Zn (i-1) rfl rfl O O (Y ?_);refine Z6 u (by rw[qAR];omega) (ZX _ _) rfl rfl λH4 C=>?_;have Z:(c.set i (el c (i-1))).set (i-1) (el c i)=dK c i (i-1):=rfl;rw[Z]at C;have G:Rg a b l (dK c i (i-1)):=.step _ _ F O O O O;have L:∀x,x<i-1->el (dK c i (i-1)) x=el c x:=λx D=>by rw[VE _ O O,bY O,bY O]
  generalize dK c i (i-1)=c1 at *;have SY:=G.len;refine OB ?_;refine Y9 (λ(c2:List Int) o=>AR H o r c2 rest/\Rg a b l c2/\So a i c2) (λ_=>[(0,.slice (some ⟨r,0,none⟩) n cap),(1,vi a),(2,vi b),(7,vi (i:Nat)),(8,vi (t0:Nat))]) (λ_=>[]) ?_ ?_
  ·refine OB ?_;refine OI (λg4=>?_) (λg4=>?_)
   ·have g4:a+2<=i:=O;refine Y ?_;refine Z4 (α:=List Int) (i-1) (λt c2 o=>AR H o r c2 rest/\Rg a b l c2/\a<=i-1-t/\(∀x y,a<=x->x<=y->y<i->x≠i-1-t->y≠i-1-t->el c2 x<=el c2 y)/\(∀y,i-1-t<y->y<i->el c2 (i-1-t)<=el c2 y)) (λt _=>[(0,.slice (some ⟨r,0,none⟩) n cap),(1,vi a),(2,vi b),(7,vi (i:Nat)),(8,vi (t0:Nat)),(9,vi (i-1-t:Nat))]) (λ_ _=>[]) c1 ⟨C,G,O,?_,λy y1 y2=>O⟩ ⟨rfl,rfl,rfl,rfl,rfl,?_,trivial⟩ trivial ?_
    ·intro x y J K x3 x4 x5;rw[L x O,L y O];exact S x y J K O
    ·show some (vi ((i:Int)-1))=some (vi ((i-1-0:Nat):Int));congr 2;omega
    rintro t c2 H5 ht ⟨f,g,hja,k,E⟩;have JM:=g.len;have Xa:=lw.rg g O;obtain⟨j,hj⟩:∃j,i-1-t=j:=⟨_,rfl⟩;rw[hj]at hja k E ⊢;have M:(a<j->el c2 (j-1)<=el c2 j)->So a i c2:=λhh=>BA λx J K=>by
     by_cases e1:x=j
     ·subst e1;exact E _ O O
     by_cases e2:x+1=j
     ·subst e2;exact hh O
     exact k _ _ J O O e1 e2
    refine OJ (λT=>?_) (λT=>?_)
    ·refine Y ?_;refine Zn j rfl rfl rfl O (Y ?_);refine Zg (OL _) rfl (f.cA O rfl) (Y ?_);refine Zn (j-1) rfl rfl O O (Y ?_);refine Zg (OL _) rfl (f.cA O rfl) (Y ?_);refine Zf (vs:=[vi (el c2 j),vi (el c2 (j-1))]) (VZ _ _) ?_;rintro w _ ⟨rfl,rfl⟩;refine OJ (λU=>?_) (λU=>?_)
     ·refine Y ?_;exact⟨c2,⟨f,g,M λ_=>O⟩,V,trivial,rfl⟩
     have haj:a<j:=by
      refine IF λhh=>?_;have Q:j=a:=O;rcases Xa with h | h
      ·omega
      have:=h j O O;rw[<-Q]at this;omega
     refine Y ?_;refine Zn (j-1) rfl rfl O O (Y ?_);refine Zg (Loud.bB _) rfl (AR.cA f O rfl) (Y ?_);refine Zn j rfl rfl O O (Y ?_);refine Zg (Loud.bB _) rfl (AR.cA f O rfl) (Y ?_);refine Zn j rfl rfl O O (Y ?_);refine Z6 f O (ZX _ _) rfl rfl λHW u=>?_;refine Zr Loud.bB (Y ?_);refine Zn (j-1) rfl rfl O O (Y ?_);refine Z6 u (by rw[qAR];omega) (ZX _ _) rfl rfl λH6 lX=>Y ?_;have z:∀x,x≠j-1->el (dK c2 j (j-1)) x=if x=j then el c2 (j-1)else el c2 x:=λx D=>by rw[VE _ O O,bY D]
     have N:el (dK c2 j (j-1)) (j-1)=el c2 j:=by rw[VE _ O O,BY rfl]
     have R:i-1-(t+1)=j-1:=O;refine⟨(⟨t+1,O⟩,dK c2 j (j-1)),(by show i-1-(t+1)<j;omega),⟨lX,.step _ _ g O O O O,?_,?_,?_⟩,⟨rfl,rfl,rfl,rfl,rfl,?_,trivial⟩,trivial,rfl⟩
     ·show a<=i-1-(t+1);omega
     ·show ∀x y,a<=x->x<=y->y<i->x≠i-1-(t+1)->y≠i-1-(t+1)->_;intro x y W h2 h3 h4 h5;rw[R]at h4 h5;rw[z x h4,z y h5];by_cases D:x=j
      ·rw[BY D];by_cases A:y=j
       ·rw[BY A];exact qAA _
       rw[bY A];exact k _ _ O O h3 O A
      rw[bY D];by_cases A:y=j
      ·rw[BY A];exact k _ _ W O O D O
      rw[bY A];exact k _ _ W h2 h3 D A
     ·show ∀y,i-1-(t+1)<y->y<i->el (dK c2 j (j-1)) (i-1-(t+1))<=_;intro y W h2;rw[R]at W ⊢;rw[N,z y O];by_cases A:y=j
      ·rw[BY A];omega
      rw[bY A];exact E _ O h2
     show some (vi ((j:Int)-1))=some (vi ((i-1-(t+1):Nat):Int));congr 2;omega
    refine Y ?_;exact⟨c2,⟨f,g,M λh=>O⟩,V,trivial,rfl⟩
   refine Y ?_;exact⟨c1,⟨C,G,xB _ O⟩,V,trivial,rfl⟩
  rintro c2 H5 ⟨f,g,k⟩;have JM:=g.len;refine OB ?_;refine OI (λg5=>?_) (λg5=>?_)
  ·refine Y ?_;refine Z4 (α:=List Int) b (λt c3 o=>AR H o r c3 rest/\Rg a b l c3/\So a i c3) (λt _=>[(0,.slice (some ⟨r,0,none⟩) n cap),(1,vi a),(2,vi b),(7,vi (i:Nat)),(8,vi (t0:Nat)),(10,vi (i+1+t:Nat))]) (λ_ _=>[]) c2 ⟨f,g,k⟩ V trivial ?_;rintro t c3 H6 ht ⟨lX,HQ,QK⟩;have hc6:=HQ.len;refine OJ (λT=>?_) (λT=>?_)
   ·refine Y ?_;refine Zn (i+1+t) rfl rfl rfl O (Y ?_);refine Zg (OL _) rfl (lX.cA O rfl) (Y ?_);refine Zn (i+t) rfl rfl O O (Y ?_);refine Zg (OL _) rfl (lX.cA O rfl) (Y ?_);refine Zf (vs:=[vi (el c3 (i+1+t)),vi (el c3 (i+t))]) (VZ _ _) ?_;rintro w _ ⟨rfl,rfl⟩;refine OJ (λU=>?_) (λU=>?_)
    ·exact Pd
    refine Y ?_;refine Zn (i+t) rfl rfl O O (Y ?_);refine Zg (Loud.bB _) rfl (AR.cA lX O rfl) (Y ?_);refine Zn (i+1+t) rfl rfl O O (Y ?_);refine Zg (Loud.bB _) rfl (AR.cA lX O rfl) (Y ?_);refine Zn (i+1+t) rfl rfl O O (Y ?_);refine Z6 lX O (ZX _ _) rfl rfl λHW u=>?_;refine Zr Loud.bB (Y ?_);refine Zn (i+t) rfl rfl O O (Y ?_);refine Z6 u (by rw[qAR];omega) (ZX _ _) rfl rfl λH8 X=>Y ?_;refine⟨(⟨t+1,O⟩,dK c3 (i+1+t) (i+t)),cZ O,⟨X,.step _ _ HQ O O O O,?_⟩,V,trivial,rfl⟩;intro x y J K x3;rw[VE _ O O,VE _ O O,bY O,bY O,bY O,bY O];exact QK x y J K x3
   exact Pd
  refine Y ?_;exact⟨(⟨t0+1,O⟩,(c2,i)),cZ O,⟨f,g,by show a+1<=i;omega,by show i<=b;omega,k⟩,V,trivial,rfl⟩
 refine Y ?_;exact⟨c,false,B,F,rfl,λh=>by simp at h⟩
end
def jM:ByteArray:=.mk #[0,1,2,2,3,3,3,3,4,4,4,4,4,4,4,4,5,5,5,5,5,5,5,5,5,5,5,5,5,5,5,5,6,6,6,6,6,6,6,6,6,6,6,6,6,6,6,6,6,6,6,6,6,6,6,6,6,6,6,6,6,6,6,6,7,7,7,7,7,7,7,7,7,7,7,7,7,7,7,7,7,7,7,7,7,7,7,7,7,7,7,7,7,7,7,7,7,7,7,7,7,7,7,7,7,7,7,7,7,7,7,7,7,7,7,7,7,7,7,7,7,7,7,7,7,7,7,7,8,8,8,8,8,8,8,8,8,8,8,8,8,8,8,8,8,8,8,8,8,8,8,8,8,8,8,8,8,8,8,8,8,8,8,8,8,8,8,8,8,8,8,8,8,8,8,8,8,8,8,8,8,8,8,8,8,8,8,8,8,8,8,8,8,8,8,8,8,8,8,8,8,8,8,8,8,8,8,8,8,8,8,8,8,8,8,8,8,8,8,8,8,8,8,8,8,8,8,8,8,8,8,8,8,8,8,8,8,8,8,8,8,8,8,8,8,8,8,8,8,8,8,8,8,8,8,8]
def Oy(m:Nat):Nat:=if m=0 then 0 else Nat.log2 m+1
def ZuL:(List.range 256).all (λi=>match jM[i]? with | some b=>b.toNat == Oy i | none=>false)=true:=U
def Cz(h:i<256):∃b,jM[i]? = some b/\b.toNat=Oy i:=by
 have:=qAp.1 ZuL i (qAU.2 h);split at this
 ·exact⟨_,‹_›,by simpa using this⟩
 simp at this
def u9:Tryz.prog.underlying 9=some .string:=U
def Ql:Tryz.prog.underlying 189=some (.int .u64):=U
def P5:Tryz.prog.underlying 240=some (.int .u64):=U
def u5:Tryz.prog.underlying 5=some (.int .u8):=U
section
variable{P:aY}[Tz P]{H:Hp}{d:Option Nat}{next:aL->Hp->Prop}{σ:aL}{x y:Operand}
def Ku{t:TypeId}{o:TypeId}{k:IntKind}{s:ByteArray}{b:UInt8}(j:P.toProgram.underlying t=some .string)(e:σ.get x=some (.string s))(f:σ.get y=some (.int k (i:Int)))(hb:s[i]? = some b)
  (h:next (σ.set d (.int .u8 b.toNat)) H):(aR.raw (.index t x y) o).m P d next σ H:=by
 refine YX (by simp[Op.operands,e,f]) (s:=Instr.index t (.string s) (.int k (i:Int))) (by simp[execOp,aN,e,f]) ?_;have g:(0:Int)<=(i:Int):=O;simp only[Instr.index,Ze,asIntOf,Zi,ZA j,BY g,qBd,hb];exact h
end
section
variable{P:aY}[Tz P]{H:Hp}
def Pq(h:m<256):IntKind.u8.wrap (m:Int)=(m:Int):=by simp only[IntKind.wrap,IntKind.bits,IntKind.signed,qBO,dO,qAf];omega
def yT(h:m<18446744073709551616):IntKind.u64.wrap (m:Int)=(m:Int):=by simp only[IntKind.wrap,IntKind.bits,IntKind.signed,qBO,dO,qAf];omega
def ZAe(t:m<65536):LL.Za P 204 #[.int .u64 m] H λv o=>H=o/\v=vi (if m<256 then Oy m else 8+Oy (m / 256):Nat):=by
 refine aI.m (bG Zxn) rfl ?_;unfold Gu;refine OJ (λj=>?_) (λj=>?_)
 ·exact absurd j O
 refine OJ (λk=>?_) (λk=>?_)
 ·exact absurd k O
 refine OJ (λp=>?_) (λp=>?_)
 ·have f:m / 256<256:=O;obtain⟨b,hb,e⟩:=Cz f;have h:ZI .shr .u64 (m:Int) 8=.int .u64 ((m / 256:Nat):Int):=by show Value.int .u64 ((m:Int).fdiv 256)=_;rw[qBL _ O];rfl
  have g:b.toNat<=255:=by have:=b.toNat_lt;omega
  refine Y ?_;refine vC rfl rfl (.inl rfl) O h (Y ?_);refine Uz (bL Ql) (bL u5) rfl ?_;rw[Pq f];refine Y ?_;refine Ku (s:=jM) (bL u9) rfl rfl hb (Y ?_);refine Uz (bL u5) (bL nQ) rfl ?_;rw[Ud ⟨O,O⟩];refine Y ?_;refine⟨rfl,?_⟩;rw[bY O,<-e];show vi _=vi _;congr 1
 have f:m<256:=O;obtain⟨b,hb,e⟩:=Cz f;have g:b.toNat<=255:=by have:=b.toNat_lt;omega
 refine Y ?_;refine Uz (bL Ql) (bL u5) rfl ?_;rw[Pq f];refine Y ?_;refine Ku (s:=jM) (bL u9) rfl rfl hb (Y ?_);refine Uz (bL u5) (bL nQ) rfl ?_;rw[Ud ⟨O,O⟩];refine Y ?_;refine⟨rfl,?_⟩;rw[BY f,<-e];show vi _=vi _;congr 1;omega
def dX(m:Nat):Nat:=if m<256 then Oy m else 8+Oy (m / 256)
def WU(f:m<65536):LL.Za P 152 #[.int .u64 m] H λv e=>H=e/\v=vi (dX m:Nat):=by refine aI.m (bG ZxK) rfl ?_;unfold Ii;refine Y ?_;refine Zv (vs:=[.int .u64 m]) rfl (ZAe f) ?_;rintro v _ ⟨rfl,rfl⟩;refine Y ?_;exact⟨rfl,rfl⟩
def Cy(g:m<65536):dX m<=16:=by
 unfold dX Oy;have f:∀x,x<256->Nat.log2 x<=7:=λx h=>by
  by_cases e:x=0
  ·subst e;decide
  have:=(Nat.log2_lt e (k:=8)).2 O;omega
 split
 ·split
  ·omega
  have:=f m ‹_›;omega
 split
 ·omega
 have:=f (m / 256) O;omega
end
def BJ(n:Int):∃y:Nat,y<18446744073709551616/\IntKind.u64.wrap n=(y:Int):=by simp only[IntKind.wrap,IntKind.bits,IntKind.signed,qBO,dO,qAf];exact⟨(n % 2 ^ 64).toNat,O,O⟩
def Zpf:Tryz.prog.underlying 309=some (.int .u64):=U
def BE:ZU Tryz.prog 309=some (1,some (.int .u64 0),8):=U
def T3(h:1<=m):2 ^ Oy m<=2 * m:=by unfold Oy;rw[bY O,qDb];have:=Nat.log2_self_le (n:=m) O;omega
def ZuM(h:1<=m):2 ^ dX m<=2 * m:=by
 unfold dX;split
 ·exact T3 h
 have:=T3 (m:=m / 256) O;rw[Nat.pow_add];omega
section
variable{P:aY}[Tz P][Loud P]{H:Hp}
def Zs8(f:m<65536):LL.Za P 226 #[vi m] H λv g=>H=g/\v=.int .u64 ((2 ^ dX m:Nat):Int):=by
 have h:=Cy f;have j:2 ^ dX m<=2 ^ 16:=qAZ (by decide) h;have e:ZI .shl .u64 1 (dX m:Nat)=.int .u64 ((2 ^ dX m:Nat):Int):=by show Value.int .u64 (IntKind.u64.wrap (1 * 2 ^ min ((dX m:Nat):Int).toNat 64))=_;rw[qBd,Nat.min_eq_left O,Int.one_mul,show(2:Int) ^ dX m=((2 ^ dX m:Nat):Int)by simp,yT O]
 refine aI.m (bG Zxg) rfl ?_;unfold He;refine Y ?_;refine Uz (bL nQ) (bL P5) rfl ?_;rw[yT O];refine Y ?_;refine Zv (vs:=[.int .u64 m]) rfl (WU f) ?_;rintro v _ ⟨rfl,rfl⟩;refine Y ?_;refine vC rfl rfl (.inr rfl) O e (Y ?_);exact⟨rfl,rfl⟩
def ZtU{y:Nat}(S:H r2=some (.cells #[.int .u64 y] 309 (0,0),true)):LL.Za P 227 #[pt r2] H λv J=>∃z:Nat,z<18446744073709551616/\v=.int .u64 z/\J r2=some (.cells #[.int .u64 z] 309 (0,0),true)/\∀b x,b≠r2->H b=some x->J b=some x:=by refine aI.m (bG Zxf) rfl ?_;unfold Hg;have g:=S;obtain⟨K,N,B⟩:=BJ ((y:Int) * 2 ^ 13);have k:ZI .shl .u64 (y:Int) 13=.int .u64 (K:Int):=qAQ (Value.int .u64) B;obtain⟨e,T,E⟩:=BJ (((BitVec.ofInt IntKind.u64.bits (y:Int) ^^^ BitVec.ofInt IntKind.u64.bits (K:Int)).toNat:Nat):Int);refine Y ?_;refine Uj rfl (Y ?_);refine Zg (OL _) rfl (ZE (cs:=[.int .u64 y]) g) (Y ?_);refine Uj rfl (Y ?_);refine Zg (OL _) rfl (ZE (cs:=[.int .u64 y]) g) (Y ?_);refine vC rfl rfl (.inr rfl) O k (Y ?_);refine CE (v:=.int .u64 (e:Int)) rfl rfl (.inr (.inr (.inl rfl))) (qAQ (Value.int .u64) E) (Y ?_);refine Uj rfl (Y ?_);refine Yo (bH BE) rfl rfl g rfl rfl (OL _) ?_;have h:(H.ins r2 (.cells #[.int .u64 (e:Int)] 309)) r2=some (.cells #[.int .u64 (e:Int)] 309 (0,0),true):=Hp.aD _ _ _;obtain⟨L,C⟩:∃w:Int,(e:Int).fdiv (2 ^ 7)=w:=⟨_,rfl⟩;have o:ZI .shr .u64 (e:Int) 7=.int .u64 L:=qAQ (Value.int .u64) C;obtain⟨f,U,F⟩:=BJ (((BitVec.ofInt IntKind.u64.bits (e:Int) ^^^ BitVec.ofInt IntKind.u64.bits (L:Int)).toNat:Nat):Int);refine Y ?_;refine Uj rfl (Y ?_);refine Zg (OL _) rfl (ZE (cs:=[.int .u64 e]) h) (Y ?_);refine Uj rfl (Y ?_);refine Zg (OL _) rfl (ZE (cs:=[.int .u64 e]) h) (Y ?_);refine vC rfl rfl (.inl rfl) O o (Y ?_);refine CE (v:=.int .u64 (f:Int)) rfl rfl (.inr (.inr (.inl rfl))) (qAQ (Value.int .u64) F) (Y ?_);refine Uj rfl (Y ?_);refine Yo (bH BE) rfl rfl h rfl rfl (OL _) ?_;rw[YD];have j:(H.ins r2 (.cells #[.int .u64 (f:Int)] 309)) r2=some (.cells #[.int .u64 (f:Int)] 309 (0,0),true):=Hp.aD _ _ _;obtain⟨M,Q,D⟩:=BJ ((f:Int) * 2 ^ 17);have p:ZI .shl .u64 (f:Int) 17=.int .u64 (M:Int):=qAQ (Value.int .u64) D;obtain⟨A,I,G⟩:=BJ (((BitVec.ofInt IntKind.u64.bits (f:Int) ^^^ BitVec.ofInt IntKind.u64.bits (M:Int)).toNat:Nat):Int);refine Y ?_;refine Uj rfl (Y ?_);refine Zg (OL _) rfl (ZE (cs:=[.int .u64 f]) j) (Y ?_);refine Uj rfl (Y ?_);refine Zg (OL _) rfl (ZE (cs:=[.int .u64 f]) j) (Y ?_);refine vC rfl rfl (.inr rfl) O p (Y ?_);refine CE (v:=.int .u64 (A:Int)) rfl rfl (.inr (.inr (.inl rfl))) (qAQ (Value.int .u64) G) (Y ?_);refine Uj rfl (Y ?_);refine Yo (bH BE) rfl rfl j rfl rfl (OL _) ?_;rw[YD];have t:(H.ins r2 (.cells #[.int .u64 (A:Int)] 309)) r2=some (.cells #[.int .u64 (A:Int)] 309 (0,0),true):=Hp.aD _ _ _;refine Y ?_;refine Uj rfl (Y ?_);refine Zg (OL _) rfl (ZE (cs:=[.int .u64 (A:Int)]) t) (Y ?_);exact⟨A,I,rfl,t,λb x hb R=>by rw[Hp.aE _ _ hb];exact R⟩
end
def ZzE(z M:Nat)(e:M<18446744073709551616):((BitVec.ofInt IntKind.u64.bits (z:Int) &&& BitVec.ofInt IntKind.u64.bits (M:Int)).toNat)<=M:=by rw[qCh];refine qAE Nat.and_le_right ?_;rw[qCp];simp only[IntKind.bits];omega
section
variable{P:aY}[Tz P][Loud P]{H:Hp}
def Ztx{d:Option Nat}{next:aL->Hp->Prop}{σ:aL}{x y:Operand}{m n q:Int}(e:σ.get x=some (.int .u64 m))(f:σ.get y=some (.int .u64 n))(g:IntKind.u64.wrap (m-n)=q)(h:next (σ.set d (.int .u64 q)) H):(aR.bC .sub x y).m P d next σ H:=by subst g;exact Yk e f rfl h
def Zzg{k:Nat}(Q:H r=some (.cells (Zh l++rest).toArray 3 (0,0),true))(hn:l.length=n)(hk:12<k)(hb:a+k<=n)(hl:n<=60000) :
  LL.Za P 196 #[.slice (some ⟨r,0,none⟩) n cap,vi a,vi (a+k:Nat)] H λv j=>∃T,AR H j r T rest/\Rg a (a+k) l T:=by
 refine aI.m (bG Zxu) rfl ?_;unfold Gm;have X:(((a+k:Nat):Int)-(a:Int))=(k:Int):=O;have A:((k:Int)).tdiv 4=((k / 4:Nat):Int):=by rw[qBt O];omega
 have hpw:=ZuM (m:=k) O;refine Y ?_;rw[X];refine OI (λN=>?_) (λN=>?_)
 ·refine Y ?_;refine Uz (bL nQ) (bL Zpf) rfl ?_;rw[yT O];refine Y ?_;refine ZV (bH BE) (OL _) λr2 g=>?_;have R:r2≠r:=by rintro rfl;rw[Q]at g;simp at g
  refine Y ?_;refine Yo (bH BE) rfl rfl (Hp.aD _ _ _) rfl rfl (OL _) ?_;rw[YD];have C:=(AR.of Q).new (o:=.cells #[.int .u64 (k:Int)] 309) g;have F:(H.ins r2 (.cells #[.int .u64 (k:Int)] 309)) r2=some (.cells #[.int .u64 (k:Int)] 309 (0,0),true):=Hp.aD _ _ _;generalize H.ins r2 (.cells #[.int .u64 (k:Int)] 309)=H1 at *;refine Y ?_;refine Zl (vs:=[vi k]) (Zs8 O) ?_;generalize hM:2 ^ dX k=M at *;have S3:1<=M:=by rw[<-hM];exact Nat.one_le_two_pow
  refine Y ?_;refine Uy rfl rfl (by decide) (by rw[A];exact⟨O,O⟩) ?_;rw[A];refine Y ?_;refine VA rfl rfl ⟨O,O⟩ (Y ?_);have W:((a:Int)+((k / 4:Nat):Int) * 2-1)=((a+k / 4 * 2-1:Nat):Int):=O;rw[W];refine Z4 (α:=List Int×Nat) 3 (λt s j=>AR H j r s.1 rest/\Rg a (a+k) l s.1/\j r2=some (.cells #[.int .u64 (s.2:Int)] 309 (0,0),true)) (λt _=>[(0,.slice (some ⟨r,0,none⟩) n cap),(1,vi a),(6,vi k),(7,pt r2),(8,.int .u64 (M:Int)),(9,vi (a+k / 4 * 2-1+t:Nat))]) (λ_ _=>[]) (l,k) ⟨C,.refl l,F⟩ V trivial ?_;rintro t ⟨c,y⟩ H2 ht ⟨w,B,S⟩;simp only at w B S;have lU:=B.len;refine Y ?_;refine Uy rfl rfl (by decide) (by rw[A];exact⟨O,O⟩) ?_;rw[A];refine Y ?_;refine VA rfl rfl ⟨O,O⟩ ?_;refine OJ (λZ=>?_) (λZ=>?_)
  ·refine Y ?_;refine Zf (vs:=[pt r2]) (ZtU S) ?_;rintro v L ⟨z,hz,rfl,J,u⟩;have p:AR H L r c rest:=⟨λb x hb G=>by
    by_cases e:b=r2
    ·subst e;rw[g]at G;simp at G
    exact u b x e (w.keep b x hb G),u r _ (qAm R) w.at_⟩
   have nV:=ZzE z (M-1) O;generalize ho:(BitVec.ofInt IntKind.u64.bits (z:Int) &&& BitVec.ofInt IntKind.u64.bits ((M-1:Nat):Int)).toNat=o at *;refine Y ?_;refine Ztx (q:=((M-1:Nat):Int)) rfl rfl (by rw[show(M:Int)-1=((M-1:Nat):Int)by omega,yT O]) (Y ?_);refine CE (v:=.int .u64 (o:Int)) rfl rfl (.inl rfl) (by show Value.int .u64 (IntKind.u64.wrap _)=_;rw[ho,yT O]) (Y ?_);refine Uz (bL P5) (bL nQ) rfl ?_;rw[Ud ⟨O,O⟩];refine OB ?_;refine Y9 (λ(q:Nat) j=>L=j/\q<k) (λq=>[(0,.slice (some ⟨r,0,none⟩) n cap),(1,vi a),(6,vi k),(7,pt r2),(8,.int .u64 (M:Int)),(9,vi (a+k / 4 * 2-1+t:Nat)),(10,vi q)]) (λ_=>[]) ?_ ?_
   ·refine OB ?_;refine OI (λg3=>?_) (λg3=>?_)
    ·refine Y ?_;exact⟨o-k,⟨rfl,O⟩,⟨rfl,rfl,rfl,rfl,rfl,rfl,by show some (vi ((o:Int)-(k:Int)))=some (vi ((o-k:Nat):Int));congr 2;omega,trivial⟩,trivial,rfl⟩
    refine Y ?_;exact⟨o,⟨rfl,O⟩,V,trivial,rfl⟩
   rintro q _ ⟨rfl,hq⟩;refine Y ?_;have f:=AR.of p.at_;refine Zn (a+q) rfl rfl O O (Y ?_);refine Zg (Loud.bB _) rfl (AR.cA f O rfl) (Y ?_);refine Zn (a+k / 4 * 2-1+t) rfl rfl O O (Y ?_);refine Zg (Loud.bB _) rfl (AR.cA f O rfl) (Y ?_);refine Zn (a+k / 4 * 2-1+t) rfl rfl O O (Y ?_);refine Z6 f O (ZX _ _) rfl rfl λHW E=>?_;refine Zr Loud.bB (Y ?_);refine Zn (a+q) rfl rfl O O (Y ?_);refine Z6 E (by rw[qAR];omega) (ZX _ _) rfl rfl λU h=>Y ?_;have D:=p.trans h;have I:U r2=some (.cells #[.int .u64 (z:Int)] 309 (0,0),true):=h.keep r2 _ R J;refine⟨(⟨t+1,O⟩,(dK c (a+k / 4 * 2-1+t) (a+q),z)),cZ O,⟨D,.step _ _ B O O O O,I⟩,V,trivial,rfl⟩
  refine Y ?_;exact⟨c,w,B⟩
 exact absurd N O
end
structure jP(a0 b0 a b:Nat)(l c:List Int):Prop where
 rg:Rg a0 b0 l c
 h1:a0<=a
 h2:a<=b
 h3:b<=b0
 s1:So a0 a c
 s2:So b b0 c
 s3:∀x y,a0<=x->x<a->a<=y->y<b0->el c x<=el c y
 s4:∀x y,a0<=x->x<b->b<=y->y<b0->el c x<=el c y
 lw:tD a0 b0 c
def jP.start(e:a0<=b0)(h:tD a0 b0 l):jP a0 b0 a0 b0 l l:=
 ⟨.refl l,AT _,e,AT _,xB l O,xB l O,λx y f g=>O,λx y f g j k=>O,h⟩
def jP.step(h:jP a0 b0 a b l c)(r:Rg a b c c')(hb:b0<=c.length):jP a0 b0 a b l c':=by
 have t:=h.h1;have A:=h.h2;have u:=h.h3;have out:∀k,(k<a\/b<=k)->el c' k=el c k:=λk B=>r.out O B;have z:Rg a0 b0 c c':=r.mono t u;refine⟨h.rg.trans z,t,A,u,λx y j g f=>?_,λx y j g f=>?_,λx y j g f o=>?_,λx y j g f o=>?_,h.lw.rg z hb⟩
 ·rw[out x (.inl O),out y (.inl f)];exact h.s1 x y j g f
 ·rw[out x (.inr j),out y (.inr O)];exact h.s2 x y j g f
 ·rw[out x (.inl g)];by_cases e:y<b
  ·exact r.all O (p:=λv=>el c x<=v) (λk k1 w=>h.s3 x k j g k1 O) y f e
  rw[out y (.inr O)];exact h.s3 x y j g f o
 rw[out y (.inr f)];by_cases e:a<=x
 ·exact r.all O (p:=λv=>v<=el c y) (λk k1 w=>h.s4 k y O w f o) x e g
 rw[out x (.inl O)];exact h.s4 x y j g f o
def jP.fin(h:jP a0 b0 a b l c)(s:So a b c):So a0 b0 c:=by
 have p:=h.h1;have t:=h.h2;have u:=h.h3;intro x y f g j;by_cases k:x<a
 ·by_cases e:y<a
  ·exact h.s1 x y f g e
  exact h.s3 x y f k O j
 by_cases e:y<b
 ·exact s x y O g e
 by_cases o:x<b
 ·exact h.s4 x y f o O j
 exact h.s2 x y O g j
theorem jP.low(h:jP a0 b0 a b l c):tD a b c:=by
 have j:=h.h1;have o:=h.h3;by_cases e:a=a0
 ·subst e;exact h.lw.imp id λf k k1 g=>f k k1 O
 exact .inr λk k1 g=>h.s3 _ k O O k1 O
def jP.left(h:jP a0 b0 a b l c)(t:a<=q)(u:q<=b)(s:So a q c)(v:∀x y,a<=x->x<q->q<=y->y<b->el c x<=el c y):jP a0 b0 q b l c:=by
 have w:=h.h1;have p:=h.h3;refine⟨h.rg,O,u,p,λx y e f k=>?_,h.s2,λx y e f k o=>?_,h.s4,h.lw⟩
 ·by_cases g:x<a
  ·by_cases j:y<a
   ·exact h.s1 x y e f j
   exact h.s3 x y e g O O
  exact s x y O f k
 by_cases g:x<a
 ·exact h.s3 x y e g O o
 by_cases j:y<b
 ·exact v x y O f k j
 exact h.s4 x y e O O o
def jP.right(h:jP a0 b0 a b l c)(o:a<=q)(w:q<=b)(s:So q b c)(u:∀x y,a<=x->x<q->q<=y->y<b->el c x<=el c y):jP a0 b0 a q l c:=by
 have t:=h.h1;have v:=h.h3;refine⟨h.rg,t,o,O,h.s1,λx y e f g=>?_,h.s3,λx y e f g p=>?_,h.lw⟩
 ·by_cases j:y<b
  ·exact s x y e f j
  by_cases k:x<b
  ·exact h.s4 x y O k O g
  exact h.s2 x y O f g
 by_cases j:x<a
 ·exact h.s3 x y e j O p
 by_cases k:y<b
 ·exact u x y O f g k
 exact h.s4 x y e O O p
