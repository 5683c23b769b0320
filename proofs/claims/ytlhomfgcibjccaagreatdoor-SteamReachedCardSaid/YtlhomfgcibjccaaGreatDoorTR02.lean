import Derived.Test.YtlhomfgcibjccaaGreatDoorTR01
set_option linter.all false
set_option maxHeartbeats 8000000
set_option maxRecDepth 20000
open Go Go.LL
namespace Go.Proofs
variable{i:Nat}{lo hi low lH:Int}{lY:Bool}
def cZ:Sb:=⟨0,0,0,[],[],none,0,none,0⟩
def iJ(H:Hp):Zr H cZ:=⟨.nil H,.nil H,λx a=>by simp[cZ]at a,dO _,dO _⟩
def dG.refl(b:Sb):dG b b:=⟨rfl,rfl,rfl,rfl,rfl,λ_ _ _=>⟨rfl,rfl,rfl⟩⟩
def dP(b:Sb)(i:Nat)(lo hi:Int)(A:Option Addr)(c:Nat):Sb:={ b with pk:=b.pk.set i { aD b i with lo:=lo,hi:=hi },A1:=A,c1:=c }
section
variable{P:aX}[Tz P][Loud P]{H:Hp}
def kT{a b:Sb}(h:dG a b)(ha:Zr H a)(hb:Zr H b)(sz:a.Sz):LL.Zc P 41 #[b.v,a.v] H λv I=>H=I/\v=vb true:=by
 obtain⟨Tg,Tj,Tf,Ti,d,x,z,y,B⟩:=a;obtain⟨o,l,r,e,f,C,E,D,F⟩:=b;obtain⟨e1,e2,e3,e4,U,e6⟩:=h;simp only at e1 e2 e3 e4 U e6;subst e1 e2 e3 e4;obtain⟨X,T,a3,_,_⟩:=ha;obtain⟨Z,R,b3,_,_⟩:=hb;obtain⟨z1,z2,z3,_⟩:=sz;simp only at X T a3 Z R b3 z1 z2 z3;rw[U]at R;refine aJ.m (bG y7) (args:=[.agg #[vi o,vi l,vi r,.slice C e.length E,.slice D f.length F],.agg #[vi o,vi l,vi r,.slice x e.length z,.slice y d.length B]]) rfl ?_;unfold mF;rw[U];refine OJ (λh0=>?_) (λh0=>?_)
 ·exact absurd rfl h0
 refine OJ (λJ=>?_) (λJ=>?_)
 ·exact absurd rfl J
 refine OJ (λK=>?_) (λK=>?_)
 ·exact absurd rfl K
 refine OJ (λL=>?_) (λL=>?_)
 ·exact absurd rfl L
 refine OJ (λM=>?_) (λM=>?_)
 ·exact absurd rfl M
 refine Y ?_;refine Zv e.length (λj I=>H=I) (λj=>[(2,vi 0),(3,vi 0),(4,vb false),(5,vi j)]) (λ_=>[(2,[vi o,vi l,vi r,.slice C e.length E,.slice D d.length F]),(3,[vi o,vi l,vi r,.slice x e.length z,.slice y d.length B])]) rfl V V ?_;rintro j _ hj rfl;refine OJ (λh1=>?_) (λh1=>?_)
 ·have N:j<e.length:=O;refine Y ?_;refine Zz j Z N λp G=>Y ?_;refine YA (cs:=[.string e[j].nm,vi e[j].lo,vi e[j].hi,vi e[j].bF,vi e[j].bJ]) G (Y ?_);refine Zz j X N λq t=>Y ?_;refine YA (cs:=[.string e[j].nm,vi e[j].lo,vi e[j].hi,vi e[j].bF,vi e[j].bJ]) t (Y ?_);refine CA (b:=true) (xs:=#[.string e[j].nm,vi e[j].lo,vi e[j].hi,vi e[j].bF,vi e[j].bJ]) (ys:=#[.string e[j].nm,vi e[j].lo,vi e[j].hi,vi e[j].bF,vi e[j].bJ]) N5 (λQ g H t=>wA Q g H t) rfl rfl (Y ?_);exact⟨⟨j+1,O⟩,bN O,rfl,V,V,rfl⟩
 refine Y ?_;refine Zv d.length (λj I=>H=I) (λj=>[(2,vi 0),(3,vi 0),(4,vb false),(6,vi j)]) (λ_=>[(2,[vi o,vi l,vi r,.slice C e.length E,.slice D d.length F]),(3,[vi o,vi l,vi r,.slice x e.length z,.slice y d.length B])]) rfl V V ?_;rintro k _ hk rfl;refine OJ (λh2=>?_) (λh2=>?_)
 ·have s:k<d.length:=O;have u:k<f.length:=O;obtain⟨f1,f2,f3⟩:=e6 k s u;have p1:=a3 _ (bY s);have p2:=b3 _ (bY u);have p3:=z3 _ (bY s);have S:Enc.enc f[k]=[.slice f[k].A f[k].ps.length f[k].c,vi f[k].lo,vi f[k].hi]:=rfl;have ra:Enc.enc d[k]=[.slice d[k].A d[k].ps.length d[k].c,vi d[k].lo,vi d[k].hi]:=rfl;rw[f1]at S p2;rw[f2,f3]at S;refine Y ?_;refine Zz k R u λp G=>?_;rw[S]at G;refine Y ?_;refine Zn (cs:=[vi d[k].lo,vi d[k].hi]) (OL _) rfl (eY (n:=1) G rfl) rfl (Y ?_);refine Zz k T s λq t=>?_;rw[ra]at t;refine Y ?_;refine Zn (cs:=[vi d[k].lo,vi d[k].hi]) (OL _) rfl (eY (n:=1) t rfl) rfl (Y ?_);refine CA (b:=decide (d[k].lo=d[k].lo/\d[k].hi=d[k].hi)) (xs:=#[vi d[k].lo,vi d[k].hi]) (ys:=#[vi d[k].lo,vi d[k].hi]) EC (λQ g H t=>zY (.inr zJ) Q t) rfl rfl ?_;rw[decide_eq_true (show d[k].lo=d[k].lo/\d[k].hi=d[k].hi from⟨rfl,rfl⟩)];refine Y ?_;refine Zz k R u λp G=>?_;rw[S]at G;refine Y ?_;refine Zh (v:=.slice f[k].A d[k].ps.length f[k].c) (OL _) rfl (by rw[add_zero];exact YN (cs:=[.slice f[k].A d[k].ps.length f[k].c]) (ds:=[vi d[k].lo,vi d[k].hi]) G) (Y ?_);refine Zz k T s λq t=>?_;rw[ra]at t;refine Y ?_;refine Zh (v:=.slice d[k].A d[k].ps.length d[k].c) (OL _) rfl (by rw[add_zero];exact YN (cs:=[.slice d[k].A d[k].ps.length d[k].c]) (ds:=[vi d[k].lo,vi d[k].hi]) t) (Y ?_);refine Za [.slice f[k].A d[k].ps.length f[k].c,.slice d[k].A d[k].ps.length d[k].c] (EI p2 p1 p3 p3) ?_;rintro v _ ⟨rfl,rfl⟩;rw[decide_eq_true (show d[k].ps=d[k].ps from rfl)];refine Y ?_;exact⟨⟨k+1,O⟩,bN O,rfl,V,V,rfl⟩
 refine Y ?_;exact⟨rfl,rfl⟩
theorem qL{b:Sb}(hb:Zr H b)(d:i<b.pk.length)(z:b.pk.length<=1000000) :
  LL.Zc P 42 #[b.v,vi i,.agg #[vi lo,vi hi]] H λv j=>aL H j/\∃A c,v=(dP b i lo hi A c).v/\Zr j (dP b i lo hi A c):=by
 refine aJ.m (bG y8) (args:=[b.v,vi i,.agg #[vi lo,vi hi]]) rfl ?_;unfold mG Sb.v;refine Y ?_;refine qZ (bI wE) (cD zB) (OL _) λB e=>Y ?_;refine lV (l:=b.pk) (bI wE) (cD zB) rfl (by decide) e rfl (hb.pk.inc (Zs e)) (sG (λ_=>rfl) b.pk) O O rfl rfl (OL _) λC k y u n=>?_;have g:aL H k:=(Zs (o:=.cells #[] 50) e).trans u;obtain⟨_,⟨_,q,_⟩ | ⟨r,cap,rest,rfl,rfl,f3,f4,f5⟩⟩:=id n.own
 ·exact absurd q O
 have s:=n.fresh r rfl;refine Y ?_;refine OD rfl rfl d (Y ?_);have f:((⟨r,0,none⟩:Addr).add (i * 5)).add 1=⟨r,i * 5+1,none⟩:=by rw[Vx,Vx,qAE]
 rw[f];refine wF (v:=.agg #[vi lo,vi hi]) (cs:=Zb b.pk++rest) (cD SB) rfl rfl f3 rfl (by rw[BY,VH];show i * 5+1+2<=b.pk.length * 5+_;omega) rfl (OL _) ?_;have p:ZG (Zb b.pk++rest) (i * 5+1) (Value.cells (.agg #[vi lo,vi hi])).toList=Zb (b.pk.set i { aD b i with lo:=lo,hi:=hi })++rest:=by show ZG _ _ [vi _,vi _]=_;rw[P2 lo hi b.pk i d rest,aD,ZD d]
 rw[p];have h:aL H (k.ins r (.cells (Zb (b.pk.set i { aD b i with lo:=lo,hi:=hi })++rest).toArray 50)):=FT g s;refine Y ?_;refine⟨h,some ⟨r,0,none⟩,cap,?_,⟨_,cap,rfl,λ_=>⟨_,rfl,YN (ds:=rest) (ZA (Hp.aG _ _ _))⟩⟩,hb.nt.inc h,λx t=>(hb.ps x t).inc h,?_,hb.q2⟩
 ·show Value.agg _=Value.agg #[vi b.pl,vi b.hd,vi b.td,.slice (some ⟨r,0,none⟩) (b.pk.set i _).length cap,.slice b.A2 b.nt.length b.c2];rw[qAg];rfl
 show(b.pk.set i _).length<=cap;rw[qAg];exact f5
end
theorem kE{l:List Pk}(lo hi:Int)(h:i<l.length)(j:Nat)(a:j<(l.set i { l[i]with lo:=lo,hi:=hi }).length):(l.set i { l[i]with lo:=lo,hi:=hi })[j].nm=(l[j]'(by simpa using a)).nm:=by
 rw[qCg];split
 ·rename_i e;subst e;rfl
 rfl
def jG{b:Sb}(ok:bA b){i:Nat}{lo hi:Int}(h:i<b.pk.length)(r:(aD b i).lo<=lo)(s:lo<=hi)(t:hi<=(aD b i).hi):bA (Vz b i lo hi):=by
 have e:aD b i=b.pk[i]:=ZD h _;have v:=ok.pk i h;rw[e]at r t;have o:(Vz b i lo hi).pk=b.pk.set i { b.pk[i]with lo:=lo,hi:=hi }:=by show b.pk.set i _=_;rw[e]
 have a:(Vz b i lo hi).pk.length=b.pk.length:=eE b i lo hi;refine⟨ok.pl,ok.hd,ok.td,by rw[a];exact ok.n,λj f=>?_,λj f=>?_,ok.nn,by rw[a];exact ok.nt⟩
 ·have d:j<b.pk.length:=by rw[<-a];exact f
  have l:=ok.pk j d;simp only[o,qCg];split
  ·rename_i p;subst p;show(1<=lo/\lo<=hi/\hi<=20)/\hi-lo<3/\_;exact⟨⟨O,s,O⟩,O,v.2.2⟩
  exact l
 have d:j<b.pk.length:=by rw[<-a];exact f
 obtain⟨q,m⟩:=ok.nm j d;simp only[o];rw[kE lo hi h j (by rw[qAg];exact d)];refine⟨q,?_⟩;rw[qDj]at m ⊢;intro x w;obtain⟨k,u,rfl⟩:=qAk.1 w;rw[qAj,qAg]at u;rw[qBC,kE lo hi h k (by rw[qAg];omega)];have g:k<(b.pk.take j).length:=by rw[qAj];omega
 have:=m _ (bY g);rw[qBC]at this;exact this
def uL{b:Sb}(ok:bA b)(A1 A2:Option Addr)(c1 c2:Nat):bA { b with A1:=A1,c1:=c1,A2:=A2,c2:=c2 }:=⟨ok.pl,ok.hd,ok.td,ok.n,ok.pk,ok.nm,ok.nn,ok.nt⟩
def vY{b:Sb}{t:N4}{l:List Int}(ok:bA b)(j:Yp t)(c:bK b.pk.length l){p:Nat}(v:(p:Int)∈l):0<=(bM (VN b t l) p).d/\(bM (VN b t l) p).d<=200:=by
 have z:=ok.n;have g:=cH (t:=t) c;obtain⟨k,q,e⟩:=qAk.1 (show(p:Int)∈Ul b t l from(tI _ _).mem_iff.2 v);have a:k<b.pk.length:=by rw[<-g.len];exact q
 have r:el (Ul b t l) k=p:=by rw[el,ZD q];exact e
 have h:=(wD ok j c a).2.1;have y:=c.len;have f:=z7 ok j c.rg l.length (dO _);rw[IF]at f;have s:=EN ok f.l1 f.o O (l:=Ul b t l) g.rg k O;have u:0<=el (s2 b t l k).2 (Zo (s2 b t l k).2)/\el (s2 b t l k).2 (Zo (s2 b t l k).2)<=20 * l.length+20 * k:=s.fr _;rw[gO ok j c O]at u;have w:0<=rT b t l k/\rT b t l k<=20 * l.length:=f.o _;have x:0<=dT b t l k/\dT b t l k<=20:=by have A:=g.at_ a;have:=(ok.pk (el (Ul b t l) k).toNat O).2.2.1;rw[dT,aD,ZD (show(el (Ul b t l) k).toNat<b.pk.length by omega)];omega
 rw[r,qS]at h;have h:(bM (VN b t l) p).d=_:=h;rw[h];omega
def kZ{b:Sb}{w:List Wk}:∀j,(∀p,p<j->0<=(bM w p).d/\(bM w p).d<=200)->0<=(U2 b w j).2/\(U2 b w j).2<=200
 | 0,_=>by show(0:Int)<=0/\(0:Int)<=200;omega
 | j+1,h=>by have a:=kZ (b:=b) j λp e=>h p O;have c:=h j O;show 0<=max _ _/\max _ _<=(200:Int);omega
def rE{b:Sb}{t:N4}{l:List Int}(ok:bA b)(d:Yp t)(c:l∈ZB b.pk.length):0<=(Yg b t l).2/\(Yg b t l).2<=200:=by have a:=lK ok.n c;rw[Yg];exact kZ _ λp h=>vY ok d a (sV ok.n c (by rw[(tH ok d a.len a.rg).1]at h;exact h))
theorem yY{b:Sb}(ok:bA b):Vh b=bS b:=by
 rw[Vh,jO ok,aT (by decide),bS,Vl];cases h:Zi b with
 | nil=>rfl
 | cons x l=>rfl
def p8(b:Sb)(i:Nat)(lo:Int):Int:=max (aD b i).lo lo
def p9(b:Sb)(i:Nat)(hi:Int):Int:=min (aD b i).hi hi
def wJ(b:Sb)(i:Nat)(lo hi:Int):Int:=if p9 b i hi<p8 b i lo then 9 else bS (Vz b i (p8 b i lo) (p9 b i hi))
def nU{b:Sb}(ok:bA b)(h:i<b.pk.length)(a:1<=lo/\lo<=hi/\hi<=20):Vk b i lo hi=wJ b i lo hi:=by
 rw[Vk,jO ok,aT (by decide),lL h,aT (by decide),aT (λe=>e a),qAD,wJ];show(if p9 b i hi<p8 b i lo then 9 else Vh (Vz b i (p8 b i lo) (p9 b i hi)))=_;by_cases g:p9 b i hi<p8 b i lo
 ·rw[iF g,iF g]
 have:(aD b i).lo<=p8 b i lo:=qDd _ _;have:p9 b i hi<=(aD b i).hi:=qDR _ _;rw[aT g,aT g];exact yY (jG ok h O O O)
def mJ{b:Sb}{z:Int}(h:(aD b i).lo<=z/\z<=(aD b i).hi):p8 b i z=z/\p9 b i z=z:=by unfold p8 p9;omega
def iY{b:Sb}{z:Int}:z∈iM b i↔∃t∈Zi b,t.get i=z:=by rw[iM,Oh,(mS (KR _) _ (dO _)).2.1,IF,(CC _).mem_iff,nH]
def iB{b:Sb}{z:Int}(c:b.pk.length<=4)(a:i<b.pk.length)(h:(aD b i).lo<=z/\z<=(aD b i).hi){t:N4}:t∈Zi (Vz b i z z)↔t∈Zi b/\t.get i=z:=by rw[mQ c a h.1 h.2,qAC];refine and_congr_right λ_=>?_;simp;omega
def y0{b:Sb}{z:Int}(d:b.pk.length<=4)(a:i<b.pk.length)(h:(aD b i).lo<=z/\z<=(aD b i).hi):bS (Vz b i z z)=0↔z∈iM b i:=by rw[fU,iY];exact⟨λe=>(qCB _ e).imp λt c=>(iB d a h).1 c,λ⟨t,c⟩=>List.ne_nil_of_mem ((iB d a h).2 c)⟩
def lM{b:Sb}{i:Nat}{lo hi:Int}(h:i<b.pk.length)(j:Nat):(aD (Vz b i lo hi) j).bF=(aD b j).bF/\(aD (Vz b i lo hi) j).bJ=(aD b j).bJ:=by
 rw[fH b lo hi h];split
 ·rename_i e;subst e;exact⟨rfl,rfl⟩
 exact⟨rfl,rfl⟩
def rG{b:Sb}(h:i<b.pk.length):Yg (Vz b i lo hi)=Yg b:=
 kY (eE b i lo hi) rfl rfl (λj=>(lM h j).1) λj=>(lM h j).2
section
variable{P:aX}[Tz P][Loud P]{H:Hp}{b:Sb}
def yW(ok:bA b)(hi:i<b.pk.length){a:Int}(o:1<=lo/\lo<=a/\a<=20)(hb:Zr H b)(p:Yk H) :
  LL.Zc P 38 #[b.v,vi i,.agg #[vi lo,vi a]] H λv f=>aL H f/\((wJ b i lo a=9/\v=.tuple #[cZ.v,vi 9])\/(wJ b i lo a=0/\p8 b i lo<=p9 b i a/\∃d,dG (Vz b i (p8 b i lo) (p9 b i a)) d/\bA d/\Zr f d/\v=.tuple #[d.v,vi 0])):=
 LL.Zc.mono (TR hb ok.sz' p) λv f h=>by
  rw[nU ok hi o,qAD]at h;obtain⟨l,⟨c,rfl⟩ | ⟨c,_,_,q,d,rfl,k,m,j,rfl⟩⟩:=h
  ·have e:wJ b i lo a=9:=by
    unfold wJ bS at c ⊢;split
    ·rfl
    rename_i g;rw[aT g]at c;split
    ·rfl
    rename_i n;rw[aT n]at c;exact absurd rfl c
   rw[e];exact⟨l,.inl ⟨rfl,rfl⟩⟩
  refine⟨l,.inr ⟨c,?_,d,m,m.ok k,j,rfl⟩⟩;unfold wJ at c;split at c
  ·exact absurd c (by decide)
  omega
end
structure RI(b:Sb)(l:List Int)(i:Nat)(z low lH:Int)(lY:Bool):Prop where
 all:∀t∈Zi b,t.get i<z->low<=(Yg b t l).2/\(Yg b t l).2<=lH/\(lY=true->gd b l t=true)
 lo:low=200\/∃t∈Zi b,low=(Yg b t l).2
 hi:lH=0\/∃t∈Zi b,lH=(Yg b t l).2
 no:lY=false->∃t∈Zi b,gd b l t=false
def RI.zero{b:Sb}{l:List Int}(a:b.pk.length<=4)(hi:i<b.pk.length):RI b l i (aD b i).lo 200 0 true:=
 ⟨λt c h=>absurd (((eI a).1 c).1.1 i hi).1 O,.inl rfl,.inl rfl,λh=>by simp at h⟩
def RI.skip{b:Sb}{l:List Int}{z:Int}(h:RI b l i z low lH lY)(g:z ∉ iM b i):RI b l i (z+1) low lH lY:=
 ⟨λt a c=>h.all t a (by have:t.get i≠z:=λe=>g (iY.2 ⟨t,a,e⟩);omega),h.lo,h.hi,h.no⟩
def RI.step{b:Sb}{l:List Int}{z:Int}(h:RI b l i z low lH lY){ts:List N4}(f:∀t,t∈ts↔t∈Zi b/\t.get i=z)(a:ts≠[]) :
  RI b l i (z+1) (min low (cG b ts l).lo) (max lH (cG b ts l).hi) (lY && decide (fN (cG b ts l).good ts.length=1)):=by
 obtain⟨w,o,j,r⟩:=jU (b:=b) (l:=l) a;obtain⟨y,q,k,s⟩:=jT (b:=b) (l:=l) a;rw[kF];have n:=kO (p:=gd b l) a;refine⟨λt m C=>?_,?_,?_,λd=>?_⟩
 ·rw[qAc,qAy,n];by_cases e:t.get i=z
  ·have c:=(f t).2 ⟨m,e⟩;have:=w t c;have:=y t c;exact⟨O,O,λg=>g.2 t c⟩
  obtain⟨A,B,a3⟩:=h.all t m O;exact⟨O,O,λg=>a3 g.1⟩
 ·by_cases g:low<=(cG b ts l).lo
  ·rw[Int.min_eq_left g];exact h.lo
  rw[Int.min_eq_right O,r];exact .inr ⟨o,((f o).1 j).1,rfl⟩
 ·by_cases g:(cG b ts l).hi<=lH
  ·rw[Int.max_eq_left g];exact h.hi
  rw[qCI O,s];exact .inr ⟨q,((f q).1 k).1,rfl⟩
 cases lY with
 | false=>exact h.no rfl
 | true=>
  have d:¬ ∀x∈ts,gd b l x=true:=λe=>by rw[decide_eq_true (n.2 e)]at d;simp at d
  apply qAd;intro u;refine d λx v=>?_;cases hg:gd b l x with
  | true=>rfl
  | false=>exact absurd ⟨x,((f x).1 v).1,hg⟩ u
def RI.fin{b:Sb}{l:List Int}{z:Int}(ok:bA b)(o:l∈ZB b.pk.length)(h:RI b l i z low lH lY)(g:∀t∈Zi b,t.get i<z)(a:Zi b≠[]) :
  low=jR b l/\lH=jL b l/\lY=decide (jW b l=1):=by
 obtain⟨q,j,d,v⟩:=jU (b:=b) (l:=l) a;obtain⟨r,k,f,w⟩:=jT (b:=b) (l:=l) a;have rg:∀t∈Zi b,0<=(Yg b t l).2/\(Yg b t l).2<=200:=λt c=>rE ok (vV ok t c) o;rw[jR,aT a,jL,aT a,jW,aT a,kF];obtain⟨s,_,a3⟩:=h.all j d (g j d);obtain⟨_,u,_⟩:=h.all k f (g k f);refine⟨?_,?_,?_⟩
 ·rcases h.lo with e | ⟨t,c,e⟩
  ·have:=rg j d;omega
  have:=q t c;omega
 ·rcases h.hi with e | ⟨t,c,e⟩
  ·have:=rg k f;omega
  have:=r t c;omega
 have n:=kO (p:=gd b l) a;cases lY with
 | true=>exact(decide_eq_true (n.2 λt c=>(h.all t c (g t c)).2.2 rfl)).symm
 | false=>
  refine(qAo λe=>?_).symm;obtain⟨t,c,m⟩:=h.no rfl;rw[n.1 e t c]at m;simp at m
def sQ{b a:Sb}{z:Int}(hi:i<b.pk.length)(h:dG (Vz b i z z) a)(l:List Int):Yg a=Yg b/\a.td=b.td/\a.pk.length=b.pk.length/\Zi a=Zi (Vz b i z z)/\cG a (Zi a) l=cG b (Zi (Vz b i z z)) l:=by have d:Yg a=Yg b:=h.res.trans (rG hi);have e:a.td=b.td:=h.td;exact⟨d,e,by rw[h.pk];exact eE b i z z,h.boats,by rw[h.boats,oB d e]⟩
def oC{b:Sb}(ok:bA b)(A:Option Addr)(c:Nat)(h:i<b.pk.length)(a:(aD b i).lo<=lo)(d:lo<=hi)(e:hi<=(aD b i).hi):bA (dP b i lo hi A c):=uL (jG ok h a d e) A b.A2 c b.c2
theorem qI{b:Sb}(h:i<b.pk.length):Enc.enc b.pk[i]=[.string (aD b i).nm,vi (aD b i).lo,vi (aD b i).hi,vi (aD b i).bF,vi (aD b i).bJ]:=by rw[show b.pk[i]=aD b i from(ZD h _).symm];rfl
def gB(i:Nat)(lo:Int)(k:Nat):∀a:List N4,0<=jI (iH i a) lo k/\jI (iH i a) lo k<=a.length
 | []=>by rw[gD];exact⟨qAx _,qAx _⟩
 | t :: a=>by have:=gB i lo k a;rw[gH,qAs];split<;>omega
def nV{b:Sb}{z:Int}(d:b.pk.length<=4)(hi:i<b.pk.length)(h:(aD b i).lo<=z/\z<=(aD b i).hi):wJ b i z z=bS (Vz b i z z):=by obtain⟨a,c⟩:=mJ h;rw[wJ,a,c,aT O]
def iX{b:Sb}(ok:bA b)(i:Nat):(iM b i).length<=1000000:=by
 have a:=mR (lD (Vj b i)) (lD (Vj b i)).length;have c:(lD (Vj b i)).length=(Zi b).length:=by rw[(CC _).length_eq,Vj,qAh]
 have d:=UI ok;show(Z8 (lD (Vj b i)) (lD (Vj b i)).length).length<=1000000;omega
def nW:cZ.Sz:=⟨qAI _,qAI _,λx a=>by simp[cZ]at a,λx a=>by simp[cZ]at a⟩
def qM{b a:Sb}{i:Nat}{lo hi:Int}{A:Option Addr}{c:Nat}(h:dG (Vz b i lo hi) a):dG (dP b i lo hi A c) a:=⟨h.pl,h.hd,h.td,h.pk,h.nl,h.nt⟩
section
variable{P:aX}[Tz P][Loud P]{H:Hp}
theorem pT(hO:P=PP){b:Sb}{k m:Int}(hb:Zr H b)(hk:0<=k/\k<256)(hm:0<=m/\m<256)(U:Yk H)(y:aC H ⟨1,0,none⟩ [vf 284]) :
  lT.m P (tJ P kX λv _=>v=vb true) (Vv [b.v,.int .u8 k,.int .u8 m]) H:=by
 unfold lT Sb.v;refine Y ?_;refine Za [b.v] (qK hb) ?_;rintro v _ ⟨rfl,g,rfl,yI⟩;cases g with
 | false=>
  refine Y ?_;refine Za [] (bB hO U y) ?_;rintro v H1 ⟨_,rfl⟩;refine Y ?_;rfl
 | true=>
 have ok:=yI rfl;have F:=ok.n;refine Y ?_;refine Vs (bI Tryz.underlying5) (bI Tryz.underlying3) rfl ?_;rw[Uk (show pZ k from⟨O,O⟩)];refine Y ?_;refine lW rfl rfl O ?_;obtain⟨i,hi,ei⟩:=iZ (n:=b.pk.length) hk.1 O;rw[ei];refine Y ?_;refine Za [b.v,.int .u8 m] (yU F hm) ?_;rintro v H1 ⟨i1,A,c,p,BH,rfl,hc,hl⟩;have hp:=lK F BH;refine Zp OL (Y ?_);refine Za [b.v,vi i] (yX ok hi (hb.inc i1) (aC.inc U i1)) ?_;rintro v H2 ⟨j2,W,c2,rfl,Qu⟩;have i2:=i1.trans j2;refine Y ?_;refine Za [b.v] (nK ok (hb.inc i2) (aC.inc U i2)) ?_;rintro v H3 ⟨j3,rfl⟩;have i3:=i2.trans j3;refine Y ?_;refine Za [b.v,.slice A p.length c] (nL ok hp (hl.inc (j2.trans j3)) hc (hb.inc i3) (aC.inc U i3) (aC.inc y i3)) ?_;rintro v H4 ⟨j4,rfl⟩;have i4:=i3.trans j4;refine Y ?_;refine Za [b.v,.slice A p.length c] (nM ok hp (hl.inc ((j2.trans j3).trans j4)) hc (hb.inc i4) (aC.inc U i4) (aC.inc y i4)) ?_;rintro v H5 ⟨j5,rfl⟩;have i5:=i4.trans j5;have Rt:=hl.inc (((j2.trans j3).trans j4).trans j5);have ht5:=Qu.inc ((j3.trans j4).trans j5);have EA:=hb.inc i5;have HH:Yk H5:=aC.inc U i5;have vM:=aC.inc y i5;have h81:=UI ok;refine OB ?_;refine Z2 (ι:=Unit) (λ_ H'=>H5=H') (λ_=>[(3,vi 0),(7,vi i),(8,.slice A p.length c),(9,.slice W (iM b i).length c2),(11,vi (Zi b).length),(13,vi 0),(15,vi (jW b p))]) (λ_=>[(3,b.cs),(13,[vi (jR b p),vi (jL b p)])]) ?_ ?_
 ·by_cases q:Zi b=[]
  ·have e:iM b i=[]:=by rw[iM,Vj,q];rfl
   rw[show bS b=9 from iF q,e,q];refine Y ?_;refine fG rfl rfl (Y ?_);exact⟨(),rfl,V,V,rfl⟩
  have w:=qAX.2 q;rw[fT q];refine Y ?_;refine fG rfl rfl ?_;rw[decide_eq_true (show(0:Int)<((Zi b).length:Int)by omega)];refine Y ?_;exact⟨(),rfl,V,V,rfl⟩
 rintro _ _ rfl;have row:=qI hi;have uR:=sU ok hi;refine Y ?_;refine Zz i EA.pk hi λa Z=>?_;rw[row]at Z;refine Y ?_;refine Zh (v:=vi (aD b i).lo) (OL _) rfl (YN (ds:=[vi (aD b i).hi,vi (aD b i).bF,vi (aD b i).bJ]) (eY (n:=0) (eY (n:=1) Z rfl) rfl)) (Y ?_);refine ZO (α:=Int×Int×Bool) ((aD b i).hi-(aD b i).lo+1).toNat (λj s H'=>aL H5 H'/\RI b p i ((aD b i).lo+j) s.1 s.2.1 s.2.2)
  (λj s=>[(3,vi 0),(7,vi i),(8,.slice A p.length c),(9,.slice W (iM b i).length c2),(11,vi (Zi b).length),(13,vi 0),(15,vi (jW b p)),(17,vi (jI (iH i (Zi b)) (aD b i).lo j)),(18,vi s.1),(19,vi s.2.1),(20,vb s.2.2),(21,vi ((aD b i).lo+j))])
  (λ_ _=>[(3,b.cs),(13,[vi (jR b p),vi (jL b p)])]) (200,0,true) ⟨.refl _,by rw[Int.ofNat_zero,qBO];exact RI.zero F.2 hi⟩ ⟨rfl,rfl,rfl,rfl,rfl,rfl,rfl,rfl,rfl,rfl,rfl,by rw[Int.ofNat_zero,qBO];rfl,trivial⟩ V ?_
 rintro j ⟨low,lH,lY⟩ H6 hj ⟨I,ri⟩;simp only at ri;have J:=EA.inc I;have B:Yk H6:=aC.inc HH I;have r:=aC.inc vM I;have mO:=Rt.inc I;have Qt:=ht5.inc I;have hsr:=gB i (aD b i).lo j (Zi b);refine Y ?_;refine Zz i J.pk hi λa Z=>?_;rw[row]at Z;refine Y ?_;refine Zh (v:=vi (aD b i).hi) (OL _) rfl (YN (ds:=[vi (aD b i).bF,vi (aD b i).bJ]) (eY (n:=1) (eY (n:=1) Z rfl) rfl)) ?_;refine OJ (λh1=>?_) (λh1=>?_)
 ·obtain⟨z,q⟩:∃z,z=(aD b i).lo+j:=⟨_,rfl⟩;rw[<-q]at h1 ri ⊢;have h:(aD b i).lo<=z/\z<=(aD b i).hi:=⟨O,h1⟩;have o:(aD b i).lo+((j+1:Nat):Int)=z+1:=O;have e1:=nV F.2 hi h;have e2:=y0 F.2 hi h;have e3:=sP (z:=z) F.2 hi h;have N:jI (iH i (Zi b)) (aD b i).lo (j+1)=jI (iH i (Zi b)) (aD b i).lo j+iH i (Zi b) z:=by rw[jI,q]
  obtain⟨q1,q2⟩:=mJ h;have Eb:=gB i (aD b i).lo (j+1) (Zi b);refine Y ?_;refine Za [vi z] (IL z) ?_;rintro v _ ⟨rfl,rfl⟩;refine Zp OL (Y ?_);refine Za [b.v,vi i,.agg #[vi z,vi z]] (yW ok hi O J B) ?_;rintro v H7 ⟨D,⟨g1,rfl⟩ | ⟨g1,_,d,sm,T,x,rfl⟩⟩
  ·refine Zp OL ?_;have L:z ∉ iM b i:=λe=>by rw[<-e2,<-e1,g1]at e;exact absurd e (by decide)
   have c0:iH i (Zi b) z=0:=by rw[<-e3];have:Zi (Vz b i z z)=[]:=qAd λe=>L (e2.1 (fT e));rw[this];rfl
   rw[show cZ.v=.agg #[vi 0,vi 0,vi 0,.slice none 0 0,.slice none 0 0]from rfl];refine Y ?_;refine Za [.slice W (iM b i).length c2,vi z] (hZ (Qt.inc D) (iX ok i)) ?_;rintro v _ ⟨rfl,rfl⟩;rw[qAo L];refine Y ?_;refine fG rfl rfl (Y ?_);refine Za [cZ.v,cZ.v] (kT (dG.refl cZ) (iJ _) (iJ _) nW) ?_;rintro v _ ⟨rfl,rfl⟩;refine Y ?_;exact⟨(⟨j+1,O⟩,(low,lH,lY)),bN O,⟨I.trans D,by show RI b p i ((aD b i).lo+((j+1:Nat):Int)) _ _ _;rw[o];exact ri.skip L⟩,⟨rfl,rfl,rfl,rfl,rfl,rfl,rfl,by show some _=some (vi (jI (iH i (Zi b)) (aD b i).lo (j+1)));rw[N,c0,qBO],rfl,rfl,rfl,by show some (vi (z+1))=some (vi ((aD b i).lo+((j+1:Nat):Int)));rw[o],trivial⟩,V,rfl⟩
  refine Zp OL ?_;rw[q1,q2]at sm;have G:z∈iM b i:=e2.1 (by rw[<-e1,g1]);obtain⟨o1,o2,o3,S,o5⟩:=sQ hi sm p;have pK:Zi (Vz b i z z)≠[]:=fU.1 (e2.2 G);have u:((Zi d).length:Int)=iH i (Zi b) z:=by rw[S,e3]
  have w:0<(Zi d).length:=by rw[S];exact qAX.2 pK
  have f:Zi d≠[]:=by rw[S];exact pK
  have M:=ri.step (ts:=Zi d) (by rw[S];exact λt=>iB F.2 hi h) f;have p1:jR d p=(cG b (Zi d) p).lo:=by rw[jR,aT f,o5,S]
  have p2:jL d p=(cG b (Zi d) p).hi:=by rw[jL,aT f,o5,S]
  have p3:jW d p=fN (cG b (Zi d) p).good (Zi d).length:=by rw[jW,aT f,o5,S]
  rw[<-p1,<-p2,<-p3]at M;have SW:bK d.pk.length p:=by rw[o3];exact hp
  have NH:=mO.inc D;have K:Yk _:=aC.inc B D;have E:=aC.inc r D;have bb':=fT f;rw[show d.v=.agg #[vi d.pl,vi d.hd,vi d.td,.slice d.A1 d.pk.length d.c1,.slice d.A2 d.nt.length d.c2]from rfl];refine Y ?_;refine Za [.slice W (iM b i).length c2,vi z] (hZ (Qt.inc D) (iX ok i)) ?_;rintro v _ ⟨rfl,rfl⟩;rw[decide_eq_true G];refine Y ?_;refine fG rfl rfl (Y ?_);refine Za [d.v] (nK T x K) ?_;rintro v H8 ⟨i8,rfl⟩;refine Y ?_;refine Za [d.v,.slice A p.length c] (nL T SW (NH.inc i8) hc (x.inc i8) (aC.inc K i8) (aC.inc E i8)) ?_;rintro v H9 ⟨j9,rfl⟩;have i9:=i8.trans j9;refine Y ?_;refine Za [d.v,.slice A p.length c] (nM T SW (NH.inc i9) hc (x.inc i9) (aC.inc K i9) (aC.inc E i9)) ?_;rintro v J0 ⟨J5,rfl⟩;have C:=i9.trans J5;rw[bb'];obtain⟨n,SY⟩:∃n,n=(Zi d).length:=⟨_,rfl⟩;rw[<-SY]at u w ⊢;refine OJ (λX=>?_) (λX=>?_)
  ·exact absurd X O
  refine Y ?_;refine Za [vi z] (IL z) ?_;rintro v _ ⟨rfl,rfl⟩;refine Zp OL (Y ?_);refine Za [b.v,vi i,.agg #[vi z,vi z]] (qL (J.inc (D.trans C)) hi O) ?_;rintro v L7 ⟨R,A4,c4,rfl,Gk⟩;refine Zp OL (Y ?_);refine Za [d.v,(dP b i z z A4 c4).v] (kT (qM sm) Gk (x.inc (C.trans R)) (oC ok A4 c4 hi h.1 (qAx _) h.2).sz') ?_;rintro v _ ⟨rfl,rfl⟩;generalize jR d p=eL at *;generalize jL d p=eH at *;generalize jW d p=gI at *;refine Y ?_;refine z5 rfl rfl (Y ?_);refine q8 rfl rfl ?_;cases lY with
  | false=>
   refine Y ?_;exact⟨(⟨j+1,O⟩,(min low eL,max lH eH,false)),bN O,⟨((I.trans D).trans C).trans R,by show RI b p i ((aD b i).lo+((j+1:Nat):Int)) _ _ _;rw[o];exact M⟩,⟨rfl,rfl,rfl,rfl,rfl,rfl,rfl,by show some _=some (vi (jI (iH i (Zi b)) (aD b i).lo (j+1)));rw[N,<-u],rfl,rfl,rfl,by show some (vi (z+1))=some (vi ((aD b i).lo+((j+1:Nat):Int)));rw[o],trivial⟩,V,rfl⟩
  | true=>
   refine Y ?_;exact⟨(⟨j+1,O⟩,(min low eL,max lH eH,decide (gI=1))),bN O,⟨((I.trans D).trans C).trans R,by show RI b p i ((aD b i).lo+((j+1:Nat):Int)) _ _ _;rw[o];exact M⟩,⟨rfl,rfl,rfl,rfl,rfl,rfl,rfl,by show some _=some (vi (jI (iH i (Zi b)) (aD b i).lo (j+1)));rw[N,<-u],rfl,rfl,rfl,by show some (vi (z+1))=some (vi ((aD b i).lo+((j+1:Nat):Int)));rw[o],trivial⟩,V,rfl⟩
 have:j=((aD b i).hi-(aD b i).lo+1).toNat:=O;have l:∀t∈Zi b,(aD b i).lo<=t.get i/\t.get i<(aD b i).lo+(((aD b i).hi-(aD b i).lo+1).toNat:Nat):=λt ht=>by have:=((eI F.2).1 ht).1.1 i hi;omega
 subst this;rw[kN i _ _ _ l];refine OJ (λX=>?_) (λX=>?_)
 ·exact absurd rfl X
 by_cases q:Zi b=[]
 ·rw[q];refine Y ?_;refine Za [] (bB hO B r) ?_;rintro v H7 ⟨_,rfl⟩;refine Y ?_;rfl
 obtain⟨f1,f2,f3⟩:=ri.fin ok BH (λt ht=>(l t ht).2) q;have w:=qAX.2 q;subst f1 f2 f3;refine OJ (λh3=>?_) (λh3=>?_)
 ·exact absurd h3 O
 refine Y ?_;refine Za [vi (jR b p),vi (jL b p)] (IM _ _) ?_;rintro v _ ⟨rfl,rfl⟩;refine Zp OL (Y ?_);refine KQ (b:=decide (jR b p=jR b p/\jL b p=jL b p)) (xs:=#[vi (jR b p),vi (jL b p)]) (ys:=#[vi (jR b p),vi (jL b p)]) EC (λQ g H hq=>zY (.inr zJ) Q hq) rfl rfl ?_;rw[decide_eq_true (show jR b p=jR b p/\jL b p=jL b p from⟨rfl,rfl⟩)];refine Y ?_;refine sO rfl rfl ?_;rw[qCn];refine Y ?_;refine Za [] (bB hO B r) ?_;rintro v H7 ⟨_,rfl⟩;refine Y ?_;rfl
end
