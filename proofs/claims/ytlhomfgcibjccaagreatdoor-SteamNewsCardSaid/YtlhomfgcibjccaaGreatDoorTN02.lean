import Derived.Test.YtlhomfgcibjccaaGreatDoorTN01
set_option linter.all false
set_option maxHeartbeats 8000000
set_option maxRecDepth 20000
open Go Go.LL
namespace Go.Proofs
variable{hi own:Int}{j:Nat}{α:Type}{r d:Sb}
def dP:Sb:=⟨0,0,0,[],[],none,0,none,0⟩
def gB(H:Hp):Zr H dP:=⟨.nil H,.nil H,λx a=>by simp[dP]at a,dO _,dO _⟩
def dG.refl(b:Sb):dG b b:=⟨rfl,rfl,rfl,rfl,rfl,λ_ _ _=>⟨rfl,rfl,rfl⟩⟩
def gH(b:Sb)(i:Nat)(lo hi:Int)(A:Option Addr)(c:Nat):Sb:={ b with pk:=b.pk.set i { aD b i with lo:=lo,hi:=hi },A1:=A,c1:=c }
section
variable{P:aX}[Tz P][Loud P]{H:Hp}
def lJ{a b:Sb}(h:dG a b)(ha:Zr H a)(hb:Zr H b)(sz:a.Sz):LL.Zc P 41 #[b.v,a.v] H λv K=>H=K/\v=vb true:=by
 obtain⟨Tg,Tj,Tf,Ti,e,z,C,B,D⟩:=a;obtain⟨s,o,t,f,i,E,G,F,I⟩:=b;obtain⟨e1,e2,e3,e4,X,e6⟩:=h;simp only at e1 e2 e3 e4 X e6;subst e1 e2 e3 e4;obtain⟨a1,W,a3,_,_⟩:=ha;obtain⟨b1,T,b3,_,_⟩:=hb;obtain⟨z1,z2,z3,_⟩:=sz;simp only at a1 W a3 b1 T b3 z1 z2 z3;rw[X]at T;refine aJ.m (bG R4) (args:=[.agg #[vi s,vi o,vi t,.slice E f.length G,.slice F i.length I],.agg #[vi s,vi o,vi t,.slice z f.length C,.slice B e.length D]]) rfl ?_;unfold nJ;rw[X];refine OJ (λh0=>?_) (λh0=>?_)
 ·exact absurd rfl h0
 refine OJ (λL=>?_) (λL=>?_)
 ·exact absurd rfl L
 refine OJ (λM=>?_) (λM=>?_)
 ·exact absurd rfl M
 refine OJ (λN=>?_) (λN=>?_)
 ·exact absurd rfl N
 refine OJ (λR=>?_) (λR=>?_)
 ·exact absurd rfl R
 refine Y ?_;refine Zv f.length (λj K=>H=K) (λj=>[(2,vi 0),(3,vi 0),(4,vb false),(5,vi j)]) (λ_=>[(2,[vi s,vi o,vi t,.slice E f.length G,.slice F e.length I]),(3,[vi s,vi o,vi t,.slice z f.length C,.slice B e.length D])]) rfl V V ?_;rintro j _ hj rfl;refine OJ (λh1=>?_) (λh1=>?_)
 ·have S:j<f.length:=O;refine Y ?_;refine Zz j b1 S λp J=>Y ?_;refine YA (cs:=[.string f[j].nm,vi f[j].lo,vi f[j].hi,vi f[j].bF,vi f[j].bJ]) J (Y ?_);refine Zz j a1 S λq w=>Y ?_;refine YA (cs:=[.string f[j].nm,vi f[j].lo,vi f[j].hi,vi f[j].bF,vi f[j].bJ]) w (Y ?_);refine CA (b:=true) (xs:=#[.string f[j].nm,vi f[j].lo,vi f[j].hi,vi f[j].bF,vi f[j].bJ]) (ys:=#[.string f[j].nm,vi f[j].lo,vi f[j].hi,vi f[j].bF,vi f[j].bJ]) N5 (λQ g H w=>JH Q g H w) rfl rfl (Y ?_);exact⟨⟨j+1,O⟩,bN O,rfl,V,V,rfl⟩
 refine Y ?_;refine Zv e.length (λj K=>H=K) (λj=>[(2,vi 0),(3,vi 0),(4,vb false),(6,vi j)]) (λ_=>[(2,[vi s,vi o,vi t,.slice E f.length G,.slice F e.length I]),(3,[vi s,vi o,vi t,.slice z f.length C,.slice B e.length D])]) rfl V V ?_;rintro k _ hk rfl;refine OJ (λh2=>?_) (λh2=>?_)
 ·have u:k<e.length:=O;have x:k<i.length:=O;obtain⟨f1,f2,f3⟩:=e6 k u x;have p1:=a3 _ (bY u);have p2:=b3 _ (bY x);have p3:=z3 _ (bY u);have U:Enc.enc i[k]=[.slice i[k].A i[k].ps.length i[k].c,vi i[k].lo,vi i[k].hi]:=rfl;have ra:Enc.enc e[k]=[.slice e[k].A e[k].ps.length e[k].c,vi e[k].lo,vi e[k].hi]:=rfl;rw[f1]at U p2;rw[f2,f3]at U;refine Y ?_;refine Zz k T x λp J=>?_;rw[U]at J;refine Y ?_;refine Zn (cs:=[vi e[k].lo,vi e[k].hi]) (OL _) rfl (eY (n:=1) J rfl) rfl (Y ?_);refine Zz k W u λq w=>?_;rw[ra]at w;refine Y ?_;refine Zn (cs:=[vi e[k].lo,vi e[k].hi]) (OL _) rfl (eY (n:=1) w rfl) rfl (Y ?_);refine CA (b:=decide (e[k].lo=e[k].lo/\e[k].hi=e[k].hi)) (xs:=#[vi e[k].lo,vi e[k].hi]) (ys:=#[vi e[k].lo,vi e[k].hi]) EC (λQ g H w=>zY (.inr zJ) Q w) rfl rfl ?_;rw[decide_eq_true (show e[k].lo=e[k].lo/\e[k].hi=e[k].hi from⟨rfl,rfl⟩)];refine Y ?_;refine Zz k T x λp J=>?_;rw[U]at J;refine Y ?_;refine Zh (v:=.slice i[k].A e[k].ps.length i[k].c) (OL _) rfl (by rw[add_zero];exact YN (cs:=[.slice i[k].A e[k].ps.length i[k].c]) (ds:=[vi e[k].lo,vi e[k].hi]) J) (Y ?_);refine Zz k W u λq w=>?_;rw[ra]at w;refine Y ?_;refine Zh (v:=.slice e[k].A e[k].ps.length e[k].c) (OL _) rfl (by rw[add_zero];exact YN (cs:=[.slice e[k].A e[k].ps.length e[k].c]) (ds:=[vi e[k].lo,vi e[k].hi]) w) (Y ?_);refine Za [.slice i[k].A e[k].ps.length i[k].c,.slice e[k].A e[k].ps.length e[k].c] (EI p2 p1 p3 p3) ?_;rintro v _ ⟨rfl,rfl⟩;rw[decide_eq_true (show e[k].ps=e[k].ps from rfl)];refine Y ?_;exact⟨⟨k+1,O⟩,bN O,rfl,V,V,rfl⟩
 refine Y ?_;exact⟨rfl,rfl⟩
theorem sP{b:Sb}{i:Nat}{lo:Int}(hb:Zr H b)(e:i<b.pk.length)(C:b.pk.length<=1000000) :
  LL.Zc P 42 #[b.v,vi i,.agg #[vi lo,vi hi]] H λv n=>aL H n/\∃A c,v=(gH b i lo hi A c).v/\Zr n (gH b i lo hi A c):=by
 refine aJ.m (bG R5) (args:=[b.v,vi i,.agg #[vi lo,vi hi]]) rfl ?_;unfold nW Sb.v;refine Y ?_;refine qZ (bI wE) (cD zB) (OL _) λD f=>Y ?_;refine kO (l:=b.pk) (bI wE) (cD zB) rfl (by decide) f rfl (hb.pk.inc (Zs f)) (sG (λ_=>rfl) b.pk) O O rfl rfl (OL _) λE p B y q=>?_;have h:aL H p:=(Zs (o:=.cells #[] 50) f).trans y;obtain⟨_,⟨_,t,_⟩ | ⟨r,cap,rest,rfl,rfl,f3,f4,f5⟩⟩:=id q.own
 ·exact absurd t O
 have u:=q.fresh r rfl;refine Y ?_;refine OD rfl rfl e (Y ?_);have g:((⟨r,0,none⟩:Addr).add (i * 5)).add 1=⟨r,i * 5+1,none⟩:=by rw[Vx,Vx,qAE]
 rw[g];refine wF (v:=.agg #[vi lo,vi hi]) (cs:=Zb b.pk++rest) (cD SB) rfl rfl f3 rfl (by rw[BY,VH];show i * 5+1+2<=b.pk.length * 5+_;omega) rfl (OL _) ?_;have s:ZG (Zb b.pk++rest) (i * 5+1) (Value.cells (.agg #[vi lo,vi hi])).toList=Zb (b.pk.set i { aD b i with lo:=lo,hi:=hi })++rest:=by show ZG _ _ [vi _,vi _]=_;rw[P2 lo hi b.pk i e rest,aD,ZD e]
 rw[s];have k:aL H (p.ins r (.cells (Zb (b.pk.set i { aD b i with lo:=lo,hi:=hi })++rest).toArray 50)):=FT h u;refine Y ?_;refine⟨k,some ⟨r,0,none⟩,cap,?_,⟨_,cap,rfl,λ_=>⟨_,rfl,YN (ds:=rest) (ZA (Hp.aG _ _ _))⟩⟩,hb.nt.inc k,λx w=>(hb.ps x w).inc k,?_,hb.q2⟩
 ·show Value.agg _=Value.agg #[vi b.pl,vi b.hd,vi b.td,.slice (some ⟨r,0,none⟩) (b.pk.set i _).length cap,.slice b.A2 b.nt.length b.c2];rw[qAg];rfl
 show(b.pk.set i _).length<=cap;rw[qAg];exact f5
end
def pP{b:Sb}(ok:bA b){i:Nat}{a:Int}(A:Option Addr)(c:Nat)(h:i<b.pk.length)(e:(aD b i).lo<=a)(f:a<=hi)(g:hi<=(aD b i).hi):bA (gH b i a hi A c):=EV (pQ ok h e f g) A b.A2 c b.c2
theorem kF{b:Sb}{i:Nat}(h:i<b.pk.length):Enc.enc b.pk[i]=[.string (aD b i).nm,vi (aD b i).lo,vi (aD b i).hi,vi (aD b i).bF,vi (aD b i).bJ]:=by rw[show b.pk[i]=aD b i from(ZD h _).symm];rfl
theorem kE{b:Sb}(ok:bA b){l:List Int}(c:l.length=b.pk.length):eE b l=true↔(∀j,j<b.pk.length->(aD b j).lo<=l.getD j 0/\l.getD j 0<=(aD b j).hi)/\cB b (Ys l)=true:=by
 have e:=ok.n;rw[kT ok c,iY e.2];refine qDl ⟨λh j a=>?_,λh=>⟨λj a=>?_,λj a f=>?_⟩⟩ qCH
 ·have:=h.1 j a;rwa [fJ O]at this
 ·rw[fJ O];exact h j a
 rw[fJ a,qAa,qAn O];rfl
section
variable{P:aX}[Tz P][Loud P]{H:Hp}
theorem Wdz{b:Sb}{v:Value}{l:List Int}(ok:bA b)(hb:Zr H b)(G:aF H v l)(C:l.length=b.pk.length)(L:Yp (Ys l)) :
  LL.Zc P 134 #[b.v,v] H λw s=>H=s/\w=vb (eE b l):=by
 have S:=ok.n;have T:=ok.nn;obtain⟨A,c,rfl,_⟩:=id G;refine aJ.m (bG I5) (args:=[b.v,.slice A l.length c]) rfl ?_;unfold mV Sb.v;refine Y ?_;refine Zv l.length (λj s=>H=s/\∀k,k<j->(aD b k).lo<=l.getD k 0/\l.getD k 0<=(aD b k).hi) (λj=>[(1,.slice A l.length c),(2,vi 0),(5,vi j)]) (λj=>[(2,b.cs)]) ⟨rfl,λk u=>absurd u (qBm _)⟩ V V ?_;rintro j _ R ⟨rfl,u⟩;refine OJ (λQ=>?_) (λQ=>?_)
 ·have g:j<l.length:=O;have p:j<b.pk.length:=O;have M:l.getD j 0=l[j]:=ZD g _;have row:=kF p;refine Y ?_;refine Zz j G g λa o=>Y ?_;refine Ya o (Y ?_);refine Zz j hb.pk p λa i=>?_;rw[row]at i;refine Y ?_;refine Zh (v:=vi (aD b j).lo) (OL _) rfl (by rw[add_zero];exact YN (cs:=[vi (aD b j).lo]) (ds:=[vi (aD b j).hi,vi (aD b j).bF,vi (aD b j).bJ]) (eY (n:=1) i rfl)) (Y ?_);refine Zz j hb.pk p λa i=>?_;rw[row]at i;refine Y ?_;refine Zh (v:=vi (aD b j).hi) (OL _) rfl (YN (cs:=[vi (aD b j).hi]) (ds:=[vi (aD b j).bF,vi (aD b j).bJ]) (eY (n:=1) (eY (n:=1) i rfl) rfl)) (Y ?_);refine Za [vi l[j],vi (aD b j).lo,vi (aD b j).hi] (pF _ _ _) ?_;rintro v _ ⟨rfl,rfl⟩;refine OJ (λt=>?_) (λt=>?_)
  ·refine Y ?_;have e:eE b l=false:=qBR.2 λh=>t (by rw[<-M];exact((kE ok C).1 h).1 j p);exact⟨rfl,by rw[e];rfl⟩
  refine Y ?_;exact⟨⟨j+1,O⟩,bN O,⟨rfl,λk y=>by
   have y:k<j+1:=y;by_cases e:k=j
   ·subst e;rw[M];exact t
   exact u k O⟩,V,V,rfl⟩
 have:j=l.length:=O;subst this;rw[C]at u;refine Y ?_;refine Zv b.nt.length (λj s=>H=s/\∀x∈b.nt.take j,vU (Ys l) x=true) (λj=>[(1,.slice A l.length c),(2,vi 0),(6,vi j)]) (λj=>[(2,b.cs)]) ⟨rfl,by simp⟩ V V ?_;rintro j _ R ⟨rfl,I⟩;refine OJ (λt=>?_) (λt=>?_)
 ·have g:j<b.nt.length:=O;obtain⟨W,E,X⟩:=ok.nt _ (bY g);have Z:=uD E;have g5:=RZ S.2 E L;have K:Enc.enc b.nt[j]=[.slice b.nt[j].A b.nt[j].ps.length b.nt[j].c,vi b.nt[j].lo,vi b.nt[j].hi]:=rfl;refine Y ?_;refine Zz j hb.nt g λa o=>?_;rw[K]at o;refine Y ?_;refine Zh (v:=.slice b.nt[j].A b.nt[j].ps.length b.nt[j].c) (OL _) rfl (by rw[add_zero];exact YN (cs:=[.slice b.nt[j].A b.nt[j].ps.length b.nt[j].c]) (ds:=[vi b.nt[j].lo,vi b.nt[j].hi]) o) (Y ?_);refine Zz j hb.nt g λa o=>?_;rw[K]at o;refine Y ?_;refine Zh (v:=vi b.nt[j].lo) (OL _) rfl (by rw[add_zero];exact YN (cs:=[vi b.nt[j].lo]) (ds:=[vi b.nt[j].hi]) (eY (n:=1) o rfl)) (Y ?_);refine Zz j hb.nt g λa o=>?_;rw[K]at o;refine Y ?_;refine Zh (v:=vi b.nt[j].hi) (OL _) rfl (eY (n:=1) (eY (n:=1) o rfl) rfl) (Y ?_);refine Za [.slice A l.length c,.slice b.nt[j].A b.nt[j].ps.length b.nt[j].c] (RO G (hb.ps _ (bY g)) O (λz U=>by have:=E.2 z U;omega) L O) ?_;rintro v _ ⟨rfl,rfl⟩;refine FS (Y ?_);refine Za [vi (UG (Ys l) b.nt[j].ps),vi b.nt[j].lo,vi b.nt[j].hi] (pF _ _ _) ?_;rintro v _ ⟨rfl,rfl⟩;refine OJ (λF=>?_) (λF=>?_)
  ·refine Y ?_;have e:eE b l=false:=qBR.2 λh=>F (of_decide_eq_true (IN.1 ((kE ok C).1 h).2 _ (bY g)));exact⟨rfl,by rw[e];rfl⟩
  refine Y ?_;exact⟨⟨j+1,O⟩,bN O,⟨rfl,λx D=>by
   rw[iN g,qAi,oR]at D;rcases D with D | rfl
   ·exact I x D
   exact decide_eq_true F⟩,V,V,rfl⟩
 have:j=b.nt.length:=O;subst this;rw[IF]at I;refine Y ?_;exact⟨rfl,by rw[(kE ok C).2 ⟨u,IN.2 I⟩];rfl⟩
end
def bT(b:Sb)(i:Nat):List Int:=(List.range ((aD b i).hi-(aD b i).lo+1).toNat).map λ(k:Nat)=>(aD b i).lo+k
def eS(b:Sb):Nat->List (List Int)
 | 0=>[[]]
 | i+1=>(eS b i).flatMap λl=>(bT b i).map λv=>l++[v]
def kX{b:Sb}{i:Nat}{z:Int}:z∈bT b i↔(aD b i).lo<=z/\z<=(aD b i).hi:=by
 rw[bT,qAB];constructor
 ·rintro⟨k,a,rfl⟩;have:=qAl.1 a;omega
 rintro⟨c,e⟩;exact⟨(z-(aD b i).lo).toNat,qAl.2 O,O⟩
def sU(b:Sb)(i:Nat):(bT b i).Pairwise (·<·):=by rw[bT,qBK];exact List.pairwise_lt_range.imp λh=>by omega
def eV{b:Sb}:∀{i:Nat} {l:List Int},l∈eS b i↔l.length=i/\∀j,j<i->(aD b j).lo<=l.getD j 0/\l.getD j 0<=(aD b j).hi
 | 0,l=>by
  rw[eS,oR];constructor
  ·rintro rfl;exact⟨rfl,λj h=>O⟩
  rintro⟨h,_⟩;exact qAt.1 h
 | i+1,l=>by
  rw[eS,qDr];constructor
  ·rintro⟨m,k,g⟩;obtain⟨n,o,rfl⟩:=qAB.1 g;obtain⟨c,a⟩:=eV.1 k;refine⟨by simp[c],λj f=>?_⟩;rw[gD];by_cases e:j<i
   ·rw[iF O];exact a j e
   rw[aT O,iF O];obtain rfl:j=i:=O;exact kX.1 o
  rintro⟨c,a⟩;refine⟨l.take i,eV.2 ⟨by rw[qAj];omega,λj f=>?_⟩,qAB.2 ⟨l.getD i 0,kX.2 (a i O),?_⟩⟩
  ·rw[nU f];exact a j O
  have hi:i<l.length:=O;rw[ZD hi,<-iN hi,<-c,IF]
def pU{b:Sb}:∀{i:Nat},i<=4->(eS b i).Pairwise λx y=>fT (Ys x) (Ys y)
 | 0,_=>qAS _ _
 | i+1,hi=>by
  rw[eS,qDP];refine⟨λl g=>?_,(pU O).imp_of_mem λ{l B} g m h x t y z=>?_⟩
  ·have c:=(eV.1 g).1;rw[qBK];refine(sU b i).imp λ{v w} o=>⟨i,O,?_,λj p=>?_⟩
   ·have e:∀u:Int,(l++[u]).getD i 0=u:=λu=>by rw[gD,aT O,iF O]
    rw[fJ O,fJ O,e,e];exact o
   have e:∀u:Int,(l++[u]).getD j 0=l.getD j 0:=λu=>by rw[gD,iF O]
   rw[fJ O,fJ O,e,e]
  have c:=(eV.1 g).1;have n:=(eV.1 m).1;obtain⟨v,_,rfl⟩:=qAB.1 t;obtain⟨w,_,rfl⟩:=qAB.1 z;obtain⟨k,a,f,q⟩:=h;have s:k<i:=qAd λA=>by rw[fJ a,fJ a,qAa,qAa,qAn O,qAn O]at f;exact absurd f (qCR _)
  refine⟨k,a,?_,λj p=>?_⟩
  ·rw[fJ a,fJ a]at f ⊢;rw[gD,gD,iF O,iF O];exact f
  have:=q j p;rw[fJ O,fJ O]at this ⊢;rw[gD,gD,iF O,iF O];exact this
def tL(n:Nat)(t:N4):List Int:=t.A0.take n
def gW{n:Nat}(a:n<=4)(t:N4):(tL n t).length=n:=by rw[tL,qAj];show min n 4=n;omega
theorem iZ{n:Nat}(a:j<n)(b:n<=4)(t:N4):(tL n t).getD j 0=t.get j:=by
 rw[tL,nU a];match j,(show j<4 by omega)with
 | 0,_=>rfl
 | 1,_=>rfl
 | 2,_=>rfl
 | 3,_=>rfl
def qJ{n:Nat}(a:n<=4){l:List Int}(h:l.length=n):tL n (Ys l)=l:=by refine qBl (by rw[gW a,h]) λj b c=>?_;rw[<-ZD b 0,<-ZD c 0,iZ O a,fJ O]
theorem mF{n:Nat}(b:n<=4){t:N4}(h:∀j,j<4->n<=j->t.get j=0):Ys (tL n t)=t:=N4.ext' λj a=>by
 rw[fJ a];by_cases e:j<n
 ·rw[iZ e b]
 rw[qAa,qAn (by rw[gW b];omega),h j a O];rfl
def iC(b:Sb):List (List Int):=(eS b b.pk.length).filter (eE b)
def iX{b:Sb}(ok:bA b):iC b=(Zi b).map (tL b.pk.length):=by
 have a:=ok.n;have e:(iC b).map Ys=Zi b:=by
  refine ET ?_ (uL a.2) λx=>?_
  ·rw[qBK];exact(pU a.2).filter _
  rw[qAB];constructor
  ·rintro⟨l,g,rfl⟩;obtain⟨c,f⟩:=qAC.1 g;exact(kT ok (eV.1 c).1).1 f
  intro k;obtain⟨⟨c,f⟩,o⟩:=(iY a.2).1 k;have e:=mF a.2 f;refine⟨tL b.pk.length x,qAC.2 ⟨eV.2 ⟨gW a.2 x,λj i=>by rw[iZ i a.2];exact c j i⟩,(kT ok (gW a.2 x)).2 (by rw[e];exact k)⟩,e⟩
 rw[<-e,qCP];have h:∀l∈iC b,(tL b.pk.length ∘ Ys) l=l:=λl g=>qJ a.2 (eV.1 (qAC.1 g).1).1;rw[qCG h,List.map_id']
def kY{b:Sb}(ok:bA b){i:Nat}(h:i<b.pk.length):(bT b i).length<=3:=by obtain⟨_,_,_,_⟩:=iA ok h;rw[bT,qAh,qBF];omega
def kM{α β:Type}(f:α->List β)(n:Nat):∀(L:List α),(∀l∈L,(f l).length<=n)->(L.flatMap f).length<=L.length * n
 | [],_=>by simp
 | l :: L,h=>by have b:=h l (by simp);have c:=kM f n L λx a=>h x (by simp[a]);rw[qAM,BY,qAs,qBY];omega
def pV{b:Sb}(ok:bA b):∀{i:Nat},i<=b.pk.length->(eS b i).length<=3 ^ i
 | 0,_=>by simp[eS]
 | i+1,h=>by
  have a:=pV ok (i:=i) O;have c:=kM (λl=>(bT b i).map λv=>l++[v]) 3 (eS b i) λl _=>by rw[qAh];exact kY ok O
  rw[eS,qDA];exact qAz c (qCT 3 a)
def I9{b:Sb}(ok:bA b){i:Nat}(h:i<=b.pk.length):(eS b i).length<=81:=by have a:=ok.n;exact qAz (pV ok h) (qBz (show 0<3 by decide) (show i<=4 by omega))
def JA{b:Sb}(ok:bA b){l:List Int}(h:l∈eS b b.pk.length):l.length=b.pk.length/\Yp (Ys l):=by
 have i:=ok.n;obtain⟨c,f⟩:=eV.1 h;refine⟨c,λj g=>?_⟩;rw[fJ g];by_cases e:j<b.pk.length
 ·have:=f j e;have:=(iA ok e).1;omega
 rw[qAa,qAn O];decide
def dU(b:Sb)(i:Nat)(l:List Int)(j:Nat):List (List Int):=((bT b i).take j).map λv=>l++[v]
theorem JI{b:Sb}{i:Nat}{l:List Int}(a:j<(bT b i).length):dU b i l (j+1)=dU b i l j++[l++[(aD b i).lo+j]]:=by
 have e:(bT b i)[j]=(aD b i).lo+j:=by simp[bT]
 rw[dU,iN a,qBL,e];rfl
def oB(b:Sb)(i:Nat)(l:List Int)(j:Nat):(dU b i l j).length<=(bT b i).length:=by rw[dU,qAh,qAj];omega
def JM(p:α->Bool){L:List α}(a:j<L.length):(L.take (j+1)).filter p=(L.take j).filter p++if p L[j]=true then[L[j]]else[]:=by
 rw[iN a,qBS];congr 1;by_cases h:p L[j]=true
 ·rw[iF h];simp[h]
 rw[aT h];simp[h]
section
variable{P:aX}[Tz P][Loud P]{H:Hp}
def jG{b:Sb}(hb:Zr H b)(ok:bA b) :
  LL.Zc P 84 #[b.v] H λv p=>aL H p/\∃A c e,v=.slice A e.length c/\aF p v e/\cX p e (iC b):=by
 have hn:=ok.n;refine aJ.m (bG JV) (args:=[b.v]) rfl ?_;unfold mS Sb.v;refine Y ?_;refine ZY (cs:=Zb [((none,0,0):bW)]) (OL _) rfl λr8 qE=>?_;have s8:aF (H.ins r8 (.cells (Zb [((none,0,0):bW)]).toArray 26)) (.slice (some ⟨r8,0,none⟩) 1 1) [((none,0,0):bW)]:=Z0 (l:=[((none,0,0):bW)]);have i8:aL H (H.ins r8 (.cells (Zb [((none,0,0):bW)]).toArray 26)):=Zs qE;generalize H.ins r8 (.cells (Zb [((none,0,0):bW)]).toArray 26)=H1 at *;refine Y ?_;refine ZO (α:=(Option Addr×Nat)×List bW) b.pk.length (λi s p=>aL H p/\aF p (.slice s.1.1 s.2.length s.1.2) s.2/\cX p s.2 (eS b i))
  (λi s=>[(1,vi 0),(3,.slice s.1.1 s.2.length s.1.2),(4,vi i)]) (λ_ _=>[(1,b.cs)]) ((some ⟨r8,0,none⟩,1),[(none,0,0)])
  ⟨i8,s8,rfl,λi h h'=>by(obtain rfl:i=0:=by simpa using h);exact⟨.nil _,dO _⟩⟩ V V ?_
 rintro i ⟨⟨A3,c3⟩,e⟩ J hi ⟨i2,s3,l3⟩;simp only at s3 l3;have U:=l3.len;have lG:=I9 ok (show i<=b.pk.length by omega);refine OJ (λh1=>?_) (λh1=>?_)
 ·have z:i<b.pk.length:=O;have M3:=kY ok z;have uR:=(iA ok z).1;have zP:(bT b i).length=((aD b i).hi-(aD b i).lo+1).toNat:=by rw[bT,qAh,qBF]
  have row:=kF z;have N9:eS b (i+1)=(eS b i).flatMap λl=>dU b i l (bT b i).length:=by rw[eS];congr 1;funext l;rw[dU,IF]
  refine Y ?_;refine ZO (α:=Hp×Value×List bW×Option Nat) e.length (λk s p=>aL J s.1/\aL s.1 p/\dD s.1 p 26 s.2.1 s.2.2.1 s.2.2.2/\cX s.1 s.2.2.1 (((eS b i).take k).flatMap λl=>dU b i l (bT b i).length))
   (λk s=>[(1,vi 0),(3,.slice A3 e.length c3),(4,vi i),(5,s.2.1),(6,vi k)]) (λ_ _=>[(1,b.cs)]) (J,.slice none 0 0,[],none) ⟨.refl _,.refl _,.nil _ _ _,.nil _⟩ V V ?_
  rintro k ⟨G,v5,M,b5⟩ H3 hk ⟨g1,t,E,D⟩;simp only at g1 t E D;refine OJ (λh2=>?_) (λh2=>?_)
  ·have y:k<e.length:=O;have u:k<(eS b i).length:=O;obtain⟨sk,ck⟩:=l3.at_ k y u;have x:=JN (λl=>dU b i l (bT b i).length) u;have W:=kM (λl=>dU b i l (bT b i).length) 3 ((eS b i).take k) λl _=>qAz (oB _ _ _ _) M3;rw[qAj]at W;have W:(((eS b i).take k).flatMap λl=>dU b i l (bT b i).length).length<=243:=O;have CM:=(eV.1 (bY u)).1;generalize((eS b i).take k).flatMap (λl=>dU b i l (bT b i).length)=L at *;generalize(eS b i)[k]=l at *;generalize qG:e[k]=q at *;have BG:=rH sk;obtain⟨qA,qn,qc⟩:=q;simp only at BG ck;subst BG;refine Y ?_;refine Zz i (hb.pk.inc ((i2.trans g1).trans t)) z λa T=>?_;rw[row]at T;refine Y ?_;refine Zh (v:=vi (aD b i).lo) (OL _) rfl (by rw[add_zero];exact YN (cs:=[vi (aD b i).lo]) (ds:=[vi (aD b i).hi,vi (aD b i).bF,vi (aD b i).bJ]) (eY (n:=1) T rfl)) (Y ?_);refine ZO (α:=Hp×Value×List bW×Option Nat) (bT b i).length (λj s p=>aL J s.1/\aL s.1 p/\dD s.1 p 26 s.2.1 s.2.2.1 s.2.2.2/\cX s.1 s.2.2.1 (L++dU b i l j))
    (λj s=>[(1,vi 0),(3,.slice A3 e.length c3),(4,vi i),(5,s.2.1),(6,vi k),(7,vi ((aD b i).lo+(j:Int)))]) (λ_ _=>[(1,b.cs)]) (G,v5,M,b5) ⟨g1,t,E,by rw[dU,qCa,qDo,qAf];exact D⟩ ⟨rfl,rfl,rfl,rfl,rfl,by rw[qEj,qBO];rfl,trivial⟩ V ?_
   rintro j ⟨G2,w5,DV,S⟩ H4 hj ⟨g3,g4,o6,l6⟩;simp only at g3 g4 o6 l6;have mO:=l6.len;rw[BY]at mO;have vI:=oB b i l j;have Q:=g3.trans g4;refine Y ?_;refine Zz i (hb.pk.inc (i2.trans Q)) z λa T=>?_;rw[row]at T;refine Y ?_;refine Zh (v:=vi (aD b i).hi) (OL _) rfl (YN (cs:=[vi (aD b i).hi]) (ds:=[vi (aD b i).bF,vi (aD b i).bJ]) (eY (n:=1) (eY (n:=1) T rfl) rfl)) ?_;refine OJ (λh3=>?_) (λh3=>?_)
   ·have g9:j<(bT b i).length:=O;have GY:=JI (l:=l) g9;have w:Enc.enc e[k]=[.slice qA l.length qc]:=by rw[qG];rfl
    refine Y ?_;refine qZ (bI dW) (cD t3) (OL _) λr7 F=>Y ?_;refine Zz k ((s3.inc Q).inc (Zs F)) y λa2 f=>?_;rw[w]at f;refine Y ?_;refine Ya f (Y ?_);refine kO (l:=l) (bI dW) (cD t3) rfl (by decide) F rfl ((sk.inc Q).inc (Zs F)) (sG (λ_=>rfl) l) O O rfl rfl (OL _) λv8 H5 b8 i5 o8=>?_;have qD:aL H4 H5:=(Zs (o:=.cells #[] 3) F).trans i5;refine Y ?_;refine ZY (cs:=[vi ((aD b i).lo+(j:Int))]) (OL _) rfl λr9 FE=>Y ?_;refine U7 (l':=[(aD b i).lo+(j:Int)]) (bI dW) (bI dW) (cD t3) rfl (by decide) (qD.trans (Zs FE)) (o8.ins FE) qY rfl (by simp;omega) O rfl rfl (OL _) λv9 H6 b9 k1 k2 k3=>?_;obtain⟨A9,c9,rfl,q9⟩:=jF k2;obtain⟨G',m1,m2,m3,m4⟩:=yR g4 o6 k1 k2;refine Y ?_;refine ZY (cs:=[.slice A9 (l++[(aD b i).lo+(j:Int)]).length c9]) (OL _) rfl λwL g=>Y ?_;refine U7 (l':=[((A9,(l++[(aD b i).lo+(j:Int)]).length,c9):bW)]) (bI kU) (bI kU) (cD rO) rfl (by decide) (m2.trans (Zs g)) (m3.ins g) (Z0 (l:=[((A9,(l++[(aD b i).lo+(j:Int)]).length,c9):bW)])) rfl (by simp;omega) O rfl rfl (OL _) λR H7 N n1 n2 n3=>Y ?_;exact⟨(⟨j+1,O⟩,(G',R,DV++[(A9,(l++[(aD b i).lo+(j:Int)]).length,c9)],N)),bN O,⟨g3.trans m1,n1,n2,by rw[GY,<-qAW];exact(l6.inc m1).snoc m4 q9⟩,⟨rfl,rfl,rfl,rfl,rfl,by rw[qEk,<-Int.add_assoc];rfl,trivial⟩,V,rfl⟩
   have:j=(bT b i).length:=O;subst this;refine Y ?_;exact⟨(⟨k+1,O⟩,(G2,w5,DV,S)),bN O,⟨g3,g4,o6,by rw[x];exact l6⟩,V,V,rfl⟩
  have:k=e.length:=O;subst this;rw[U,IF,<-N9]at D;obtain⟨A5,S,rfl,q5⟩:=jF E;refine Y ?_;exact⟨(⟨i+1,O⟩,((A5,S),M)),bN O,⟨(i2.trans g1).trans t,E.sl,D.inc t⟩,V,V,rfl⟩
 have:i=b.pk.length:=O;subst this;have X:=λ(k:Nat) (hk:k<(eS b b.pk.length).length)=>JA ok (bY hk);rw[show iC b=(eS b b.pk.length).filter (eE b)from rfl];generalize eS b b.pk.length=C at *;refine Y ?_;refine ZO (α:=Value×List bW×Option Nat) e.length (λk s p=>aL J p/\dD J p 26 s.1 s.2.1 s.2.2/\cX J s.2.1 ((C.take k).filter (eE b)))
  (λk s=>[(1,vi 0),(3,.slice A3 e.length c3),(8,s.1),(9,vi k)]) (λ_ _=>[(1,b.cs)]) (.slice none 0 0,[],none) ⟨.refl _,.nil _ _ _,.nil _⟩ V V ?_
 rintro k ⟨v8,M,b8⟩ H3 hk ⟨t,E,D⟩;simp only at t E D;have vK:=D.len;have Z:=qBd (eE b) (C.take k);rw[qAj]at Z;refine OJ (λh2=>?_) (λh2=>?_)
 ·have y:k<e.length:=O;have u:k<C.length:=O;obtain⟨sk,ck⟩:=l3.at_ k y u;obtain⟨e1,e2⟩:=X k u;have x:=JM (eE b) u;have w:Enc.enc e[k]=[dN e[k]]:=rfl;refine Y ?_;refine Zz k (s3.inc t) y λa2 f=>?_;rw[w]at f;refine Y ?_;refine Ya (v:=dN e[k]) f (Y ?_);refine Za [b.v,dN e[k]] (Wdz ok (hb.inc (i2.trans t)) (sk.inc t) e1 e2) ?_;rintro v _ ⟨rfl,rfl⟩;cases CO:eE b C[k]with
  | false=>
   rw[CO,aT (by decide),qAf]at x;refine Y ?_;exact⟨(⟨k+1,O⟩,(v8,M,b8)),bN O,⟨t,E,by show cX J M ((C.take (k+1)).filter (eE b));rw[x];exact D⟩,V,V,rfl⟩
  | true=>
   rw[CO,iF rfl]at x;refine Y ?_;refine Zz k (s3.inc t) y λa2 f=>?_;rw[w]at f;refine Y ?_;refine Ya (v:=dN e[k]) f (Y ?_);refine ZY (cs:=[dN e[k]]) (OL _) rfl λwL g=>Y ?_;refine U7 (l':=[e[k]]) (bI kU) (bI kU) (cD rO) rfl (by decide) (t.trans (Zs g)) (E.ins g) (Z0 (l:=[e[k]])) rfl (by simp;omega) O rfl rfl (OL _) λR H7 N n1 n2 n3=>Y ?_;exact⟨(⟨k+1,O⟩,(R,M++[e[k]],N)),bN O,⟨n1,n2,by show cX J (M++[e[k]]) ((C.take (k+1)).filter (eE b));rw[x];exact D.snoc sk ck⟩,V,V,rfl⟩
 have:k=e.length:=O;subst this;rw[U,IF]at D;obtain⟨A5,S,rfl,q5⟩:=jF E;refine Y ?_;exact⟨i2.trans t,A5,S,M,rfl,E.sl,D.inc t⟩
end
def qT(b:Sb)(own:Int):List N4:=if Zl b own=0 then Zi b else[]
def yZ{b:Sb}(ok:bA b)(h:own≠0):Zl b own=own:=by rw[Zl,jO ok,aT (by decide),iF h]
def y0{b:Sb}(h:Zl b own=0):bA b/\own=0/\Zi b≠[]:=by
 unfold Zl at h;by_cases a:ZF b=0
 ·rw[a,aT (by decide)]at h;by_cases c:own=0
  ·rw[aT O]at h;refine⟨Ow a,c,λe=>?_⟩;rw[e]at h;exact absurd h (by decide)
  rw[iF c]at h;exact absurd h c
 rw[iF a]at h;exact absurd h a
def mH{b:Sb}(h:Zl b own=0):qT b own=Zi b:=iF h
def R2{H:Hp}{g:List bW}{b:Sb}{c:List N4}(ok:bA b)(h:cX H g (c.map (tL b.pk.length)))(f:∀t∈c,t∈Zi b){i:Nat}(hi:i<g.length) :
  ∃a:i<c.length,aF H (dN g[i]) (tL b.pk.length c[i])/\(tL b.pk.length c[i]).length=b.pk.length/\Ys (tL b.pk.length c[i])=c[i]/\Yp c[i]:=by
 have e:=ok.n;have p:=h.len;rw[qAh]at p;have a:i<c.length:=O;obtain⟨k,_⟩:=h.at_ i hi (by rw[qAh];exact a);rw[qAZ]at k;have l:=f _ (bY a);refine⟨a,k,gW e.2 _,mF e.2 λj o m=>?_,vV ok _ l⟩;exact((iY e.2).1 l).1.2 j o m
def JD(p:α->Bool)(L:List α)(j:Nat):((L.take j).filter p).length<=L.length:=qAz (qBd _ _) (by rw[qAj];omega)
section
variable{P:aX}[Tz P][Loud P]{H:Hp}
def yY{b:Sb}(hb:Zr H b)(ok:bA b) :
  LL.Zc P 90 #[b.v,vi own] H λv g=>aL H g/\∃A c f,v=.tuple #[.slice A f.length c,vi (Zl b own)]/\aF g (.slice A f.length c) f/\cX g f ((qT b own).map (tL b.pk.length)):=by
 refine aJ.m (bG JX) (args:=[b.v,vi own]) rfl ?_;unfold mU Sb.v;refine OJ (λa=>?_) (λa=>?_)
 ·refine Y ?_;have e:=yZ ok a;exact⟨.refl _,none,0,[],by rw[e];rfl,.nil _,by rw[qT,e,aT a];exact .nil _⟩
 have a:own=0:=by simpa using a
 subst a;refine Y ?_;refine Za [b.v] (jG hb ok) ?_;rintro v o ⟨n,A,c,f,rfl,s1,i⟩;rw[iX ok]at i;have l:=i.len;rw[qAh]at l;refine OJ (λk=>?_) (λk=>?_)
 ·have h:Zi b=[]:=qAt.1 O;have e:Zl b 0=9:=by rw[lV ok,bS,iF h]
  refine Y ?_;exact⟨n,none,0,[],by rw[e];rfl,.nil _,by rw[qT,e,aT (by decide)];exact .nil _⟩
 have h:Zi b≠[]:=λe=>k (by rw[l,e];rfl);have e:Zl b 0=0:=by rw[lV ok,pT h]
 refine Y ?_;exact⟨n,A,c,f,by rw[e];rfl,s1,by rw[mH e];exact i⟩
end
def hZ(b:Sb)(l:List Int)(A:Option Addr)(c:Nat):Sb:={ b with nt:=l.map λz=>rA b z.toNat,A2:=A,c2:=c }
theorem yW{b:Sb}{l:List Int}{A:Option Addr}{c:Nat}:Zi (hZ b l A c)=yP b l:=T0 rfl rfl
def yX{b:Sb}(ok:bA b){l:List Int}(h:oV b.nt.length l)(A:Option Addr)(c:Nat):bA (hZ b l A c):=by
 have e:=Hx (lo:=0) (k:=b.nt.length) h.1 λz a=>by have:=h.2 z a;omega
 refine⟨ok.pl,ok.hd,ok.td,ok.n,ok.pk,ok.nm,?_,λx f=>?_⟩
 ·show(l.map _).length<=3;rw[qAh];exact qAz e ok.nn
 obtain⟨z,a,rfl⟩:=qAB.1 f;have:=h.2 z a;rw[rA,ZD (show z.toNat<b.nt.length by omega)];exact ok.nt _ (bY _)
theorem sS{b:Sb}{l:List Int}(a:j<l.length):(l.take (j+1)).map (λz=>rA b z.toNat)=(l.take j).map (λz=>rA b z.toNat)++[rA b l[j].toNat]:=by rw[iN a,qBL];rfl
section
variable{P:aX}[Tz P][Loud P]{H:Hp}
theorem sO{b:Sb}{l:List Int}{lv:Value}(hb:Zr H b)(I:aF H lv l)(h:oV b.nt.length l)(hn:b.nt.length<=60) :
  LL.Zc P 56 #[b.v,lv] H λv n=>aL H n/\∃A c,v=(hZ b l A c).v/\Zr n (hZ b l A c):=by
 have J:=Hx (lo:=0) (k:=b.nt.length) h.1 λz y=>by have:=h.2 z y;omega
 obtain⟨F,c0,rfl,_⟩:=id I;refine aJ.m (bG R6) (args:=[b.v,.slice F l.length c0]) rfl ?_;unfold nK Sb.v;refine Y ?_;refine ZO (α:=(Option Addr×Nat)×Option Nat) l.length (λj s n=>aL H n/\dD H n 85 (.slice s.1.1 ((l.take j).map λz=>rA b z.toNat).length s.1.2) ((l.take j).map λz=>rA b z.toNat) s.2)
  (λj s=>[(1,.slice F l.length c0),(2,vi 0),(4,vi 0),(5,vi 0),(6,vi j)])
  (λj s=>[(2,b.cs),(4,[vi 0,vi 0,vi 0,.slice none 0 0,.slice none 0 0]),(5,[vi b.pl,vi b.hd,vi b.td,.slice b.A1 b.pk.length b.c1,.slice s.1.1 ((l.take j).map λz=>rA b z.toNat).length s.1.2])])
  ((none,0),none) ⟨.refl H,.nil H H 85⟩ V V ?_
 rintro j ⟨⟨K,L⟩,X⟩ U Z ⟨g,u⟩;simp only at u;refine OJ (λM=>?_) (λM=>?_)
 ·have f:j<l.length:=O;have y:=h.2 _ (bY f);have q:=sS (b:=b) f;obtain⟨i,hi⟩:∃i:Nat,l[j]=i:=⟨l[j].toNat,O⟩;have o:i<b.nt.length:=O;have N:((l.take j).map λz=>rA b z.toNat).length<=j:=by rw[qAh,qAj];omega
  rw[hi,qAD,rA,ZD o]at q;refine Y ?_;refine Zz j (I.inc g) f λa w=>?_;rw[hi]at w;refine Y ?_;refine Ya (v:=vi (i:Int)) w (Y ?_);refine Zz i (hb.nt.inc g) o λa w=>Y ?_;refine YA w (Y ?_);refine ZY (cs:=[.slice b.nt[i].A b.nt[i].ps.length b.nt[i].c,vi b.nt[i].lo,vi b.nt[i].hi]) (OL _) rfl λr2 p=>?_;refine Zp OL (Y ?_);refine U7 (l':=[b.nt[i]]) (bI qO) (bI qO) (cD C4) rfl (by decide) (g.trans (Zs p)) (u.ins p) Tp rfl (by simp only[qAA];omega) O rfl rfl (OL _) λT W C R E k6=>?_;rw[<-q]at E;obtain⟨B,D,rfl,_⟩:=id E.sl;refine Y ?_;exact⟨(⟨j+1,O⟩,((B,D),C)),bN O,⟨R,E⟩,V,V,rfl⟩
 have:j=l.length:=O;subst this;rw[IF]at u ⊢;obtain⟨_,_,G,S⟩:=jF u;simp only[Value.slice.injEq]at G;obtain⟨_,_,rfl⟩:=G;refine Y ?_;refine⟨g,K,L,rfl,hb.pk.inc g,u.sl,λx Q=>?_,hb.q1,S⟩;obtain⟨z,y,rfl⟩:=qAB.1 Q;have:=h.2 z y;have t:z.toNat<b.nt.length:=O;rw[rA,ZD t];exact(hb.ps _ (bY t)).inc g
end
def EZ(b:Sb)(r l:List Int):List Int:=if cZ l r=true/\yP b l=[]then l else r
def qW(b:Sb)(L:List (List Int))(f:List Int):List Int:=L.foldl (EZ b) f
theorem EQ{b:Sb}{L:List (List Int)}{f:List Int}(a:j<L.length):qW b (L.take (j+1)) f=EZ b (qW b (L.take j) f) L[j]:=by rw[qW,Oe _ _ a];rfl
def iI(b:Sb){n:Nat}:∀(L:List (List Int)) (f:List Int),(∀l∈L,oV n l)->oV n f->yP b f=[]->(oV n (qW b L f)/\yP b (qW b L f)=[])/\(¬ cZ f (qW b L f)=true)/\∀l∈L,yP b l=[]->¬ cZ l (qW b L f)=true
 | [],f,_,k,m=>⟨⟨k,m⟩,JK f,by simp⟩
 | x :: L,f,p,k,m=>by
  have e:qW b (x :: L) f=qW b L (EZ b f x):=rfl;rw[e];have c:∀l∈L,oV n l:=λl a=>p l (qAP _ a);by_cases g:cZ x f=true/\yP b x=[]
  ·rw[EZ,iF g];obtain⟨q1,q2,o⟩:=iI b L x c (p x (by simp)) g.2;refine⟨q1,λh=>?_,λl a i=>?_⟩
   ·rcases oC x h with h | h
    ·exact JJ g.1 h
    exact q2 h
   rcases qAq.1 a with rfl | a
   ·exact q2
   exact o l a i
  rw[EZ,aT g];obtain⟨q1,q2,o⟩:=iI b L f c k m;refine⟨q1,q2,λl a i=>?_⟩;rcases qAq.1 a with rfl | a
  ·intro h;rcases oC f h with h | h
   ·exact g ⟨h,i⟩
   exact q2 h
  exact o l a i
def pG(b:Sb):yP b (cH b.nt.length)=Zi b:=by rw[yP];refine T0 rfl (qBl (by simp[cH]) λi a c=>?_);simp only[cH,qCP,qAZ,qCl,Function.comp,qAD];rw[rA,ZD]
def JO{b:Sb}(ok:bA b)(h:Zi b=[]):qW b (fD b.nt.length) (cH b.nt.length)=CU b:=by obtain⟨⟨q1,q2⟩,_,c⟩:=iI b (n:=b.nt.length) (fD b.nt.length) (cH b.nt.length) (λl a=>fU.1 a) (mM _) (by rw[pG];exact h);exact JL (by rw[JB ok h q1 q2];decide) (c _ (fU.2 (pH ok h)) (JC ok h))
def dG.C8{c:Sb}(h:dG r c)(g:dG r d):dG d c:=⟨h.pl.trans g.pl.symm,h.hd.trans g.hd.symm,h.td.trans g.td.symm,h.pk.trans g.pk.symm,h.nl.trans g.nl.symm,λi a o=>by
 have b:i<r.nt.length:=by rw[<-g.nl];exact a
 obtain⟨f,k,a3⟩:=h.nt i b o;obtain⟨l,m,n⟩:=g.nt i b a;exact⟨f.trans l.symm,k.trans m.symm,a3.trans n.symm⟩⟩
def dG.sz(g:dG r d)(h:r.Sz):d.Sz:=⟨by rw[g.pk];exact h.pk,by rw[g.nl];exact h.nt,λx c=>by
 obtain⟨i,hi,rfl⟩:=qAk.1 c;have a:i<r.nt.length:=by rw[<-g.nl];exact hi
 rw[(g.nt i a hi).1];exact h.ps _ (bY a),by rw[g.pk];exact h.nm⟩
def fH(b:Sb)(x:Nt):Sb:=if eI b x=0 then eK b x else dP
def eR(b:Sb)(n a hi:Int):Sb:=if Vk b n a hi=0 then Vz b n.toNat (max (aD b n.toNat).lo a) (min (aD b n.toNat).hi hi)else dP
def k9:dP.Sz:=⟨qAI _,qAI _,λx a=>by simp[dP]at a,λx a=>by simp[dP]at a⟩
def pS{b:Sb}(h:Vh b=0):bA b:=Ow (qAd λe=>e (by rw[Vh,iF e]at h;exact h))
def yU{b:Sb}{x:Nt}:(fH b x).Sz:=by
 unfold fH;split
 ·rename_i h;unfold eI at h;split at h
  ·rename_i e;exact absurd h e
  exact(pS h).sz'
 exact k9
def qL{b:Sb}{n a:Int}:(eR b n a hi).Sz:=by
 unfold eR;split
 ·rename_i h;unfold Vk at h;split at h
  ·rename_i e;exact absurd h e
  split at h
  ·rename_i e;exact absurd h e
  split at h
  ·exact absurd h (by decide)
  split at h
  ·exact absurd h (by decide)
  exact(pS h).sz'
 exact k9
