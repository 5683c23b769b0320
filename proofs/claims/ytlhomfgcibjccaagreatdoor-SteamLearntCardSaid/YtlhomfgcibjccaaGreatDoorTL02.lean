import Derived.Test.YtlhomfgcibjccaaGreatDoorTL01
set_option linter.all false
set_option maxHeartbeats 8000000
set_option maxRecDepth 20000
open Go Go.LL
namespace Go.Proofs
variable{A:Option Addr}{c:Nat}{lo hi m k:Int}{x:Nt}{b':Sb}
def iM(b:Sb)(i:Nat):List Int:=Oh (lD (Vj b i))
def jR(b:Sb)(l:List Int):Int:=if Zi b=[]then 0 else(cG b (Zi b) l).lo
def jL(b:Sb)(l:List Int):Int:=if Zi b=[]then 0 else(cG b (Zi b) l).hi
def jW(b:Sb)(l:List Int):Int:=if Zi b=[]then 0 else fN (cG b (Zi b) l).good (Zi b).length
def D2(b:Sb)(l:List Int)(i:Nat):Int:=if Zi b=[]then 0 else fN ((cG b (Zi b) l).cold.get i) (Zi b).length
def fF(b:Sb):Nat:=if Zi b=[]then 0 else(dE b (Zi b)).length
def gO{b:Sb}{α:Type}(x y:α):(if bS b=0 then x else y)=if Zi b=[]then y else x:=by
 by_cases h:Zi b=[]
 ·rw[aT (λe=>gG.1 e h),iF h]
 rw[iF (gG.2 h),aT h]
def iC{b:Sb}(ok:bA b){l:List Int}(a:eE b.pk.length l):Zl b (Yq b l)=bS b:=by rw[mM a,gH ok]
section
variable{P:aX}[Tz P][Loud P]{H:Hp}{b:Sb}
def oS(ok:bA b)(hb:Zr H b)(d:Yk H):LL.Zc P 19 #[b.v] H λv a=>aL H a/\v=.tuple #[vi (Zi b).length,vi 0]:=
 LL.Zc.mono (IC hb ok.sz' d) λv a h=>by rw[iF (jO ok),jO ok]at h;exact h
theorem nI(ok:bA b){i:Nat}(hi:i<b.pk.length)(hb:Zr H b)(l:Yk H):LL.Zc P 21 #[b.v,vi i] H λv a=>aL H a/\∃A c,v=.tuple #[.slice A (iM b i).length c,vi (bS b)]/\aF a (.slice A (iM b i).length c) (iM b i):=
 LL.Zc.mono (PR hb ok.sz' l) λv a h=>by
  rw[fH hi,gH ok,qAD]at h;obtain⟨d,w,rfl,⟨g,rfl⟩ | ⟨_,n,f⟩⟩:=h
  ·have j:Zi b=[]:=qAd λe=>g (jU e);have e:iM b i=[]:=by rw[iM,Vj,j];rfl
   rw[e];exact⟨d,none,0,rfl,.nil _⟩
  obtain⟨A,c,rfl,_⟩:=id f.sl;exact⟨d,A,c,rfl,f.sl⟩
def oB(ok:bA b){l:List Int}(d:eE b.pk.length l)(j:aF H (.slice A l.length c) l)(g:l.length<=c)(hb:Zr H b)(i:Yk H)(a:aC H ⟨1,0,none⟩ [vf 284]) :
  LL.Zc P 24 #[b.v,.slice A l.length c] H λv f=>aL H f/\v=.tuple #[.agg #[vi (jR b l),vi (jL b l)],vi (bS b)]:=
 LL.Zc.mono (KH hb ok.sz' i a j g (by have:=d.len;have:=ok.n;omega)) λv f h=>by
  have e:ON b l=(jR b l,jL b l):=by rw[ON,iC ok d,gO,jR,jL];split<;>rfl
  rw[e,iC ok d]at h;exact h
def oC(ok:bA b){l:List Int}(e:eE b.pk.length l)(i:aF H (.slice A l.length c) l)(f:l.length<=c)(hb:Zr H b)(g:Yk H)(a:aC H ⟨1,0,none⟩ [vf 284]) :
  LL.Zc P 28 #[b.v,.slice A l.length c] H λv d=>aL H d/\v=.tuple #[vi (jW b l),vi (bS b)]:=
 LL.Zc.mono (FR hb ok.sz' g a i f (by have:=e.len;have:=ok.n;omega)) λv d h=>by rw[xB,iC ok e,gO]at h;exact h
def nH(ok:bA b){l:List Int}{i:Nat}(hi:i<b.pk.length)(f:eE b.pk.length l)(o:aF H (.slice A l.length c) l)(g:l.length<=c)(hb:Zr H b)(j:Yk H)(a:aC H ⟨1,0,none⟩ [vf 284]) :
  LL.Zc P 26 #[b.v,.slice A l.length c,vi i] H λv d=>aL H d/\v=.tuple #[vi (D2 b l i),vi (bS b)]:=
 LL.Zc.mono (TQ hb ok.sz' j a o g (by have:=f.len;have:=ok.n;omega)) λv d h=>by
  have e:Oc b l i=0:=by rw[Oc,mM f,aT (by decide),fH hi]
  rw[CX,e,gH ok,gO,qAD]at h;exact h
def nV(a:P=PP)(ok:bA b)(hb:Zr H b)(g:Yk H)(d:aC H ⟨1,0,none⟩ [vf 284]) :
  LL.Zc P 30 #[b.v] H λv f=>aL H f/\v=.tuple #[vi (fF b:Nat),vi (bS b)]:=
 LL.Zc.mono (KI a hb ok.sz' g d) λv f h=>by
  rw[gH ok,gO]at h;have e:((fF b:Nat):Int)=if Zi b=[]then 0 else((dE b (Zi b)).length:Int):=by unfold fF;split<;>rfl
  rw[e];exact h
end
def cH:Sb:=⟨0,0,0,[],[],none,0,none,0⟩
def fG(H:Hp):Zr H cH:=⟨.nil H,.nil H,λx a=>by simp[cH]at a,dO _,dO _⟩
def dG.refl(b:Sb):dG b b:=⟨rfl,rfl,rfl,rfl,rfl,λ_ _ _=>⟨rfl,rfl,rfl⟩⟩
def eR(b:Sb)(i:Nat)(lo hi:Int)(A:Option Addr)(c:Nat):Sb:={ b with pk:=b.pk.set i { aD b i with lo:=lo,hi:=hi },A1:=A,c1:=c }
section
variable{P:aX}[Tz P][Loud P]{H:Hp}
def fT{a b:Sb}(h:dG a b)(ha:Zr H a)(hb:Zr H b)(sz:a.Sz):LL.Zc P 41 #[b.v,a.v] H λv I=>H=I/\v=vb true:=by
 obtain⟨Tg,Tj,Tf,Ti,d,w,z,y,B⟩:=a;obtain⟨l,i,o,e,f,C,E,D,F⟩:=b;obtain⟨e1,e2,e3,e4,U,e6⟩:=h;simp only at e1 e2 e3 e4 U e6;subst e1 e2 e3 e4;obtain⟨X,T,a3,_,_⟩:=ha;obtain⟨Z,R,b3,_,_⟩:=hb;obtain⟨z1,z2,z3,_⟩:=sz;simp only at X T a3 Z R b3 z1 z2 z3;rw[U]at R;refine aJ.m (bG yY) (args:=[.agg #[vi l,vi i,vi o,.slice C e.length E,.slice D f.length F],.agg #[vi l,vi i,vi o,.slice w e.length z,.slice y d.length B]]) rfl ?_;unfold lT;rw[U];refine OJ (λh0=>?_) (λh0=>?_)
 ·exact absurd rfl h0
 refine OJ (λJ=>?_) (λJ=>?_)
 ·exact absurd rfl J
 refine OJ (λK=>?_) (λK=>?_)
 ·exact absurd rfl K
 refine OJ (λL=>?_) (λL=>?_)
 ·exact absurd rfl L
 refine OJ (λM=>?_) (λM=>?_)
 ·exact absurd rfl M
 refine Y ?_;refine Zv e.length (λj I=>H=I) (λj=>[(2,vi 0),(3,vi 0),(4,vb false),(5,vi j)]) (λ_=>[(2,[vi l,vi i,vi o,.slice C e.length E,.slice D d.length F]),(3,[vi l,vi i,vi o,.slice w e.length z,.slice y d.length B])]) rfl V V ?_;rintro j _ hj rfl;refine OJ (λh1=>?_) (λh1=>?_)
 ·have N:j<e.length:=O;refine Y ?_;refine Zz j Z N λp G=>Y ?_;refine YA (cs:=[.string e[j].nm,vi e[j].lo,vi e[j].hi,vi e[j].bF,vi e[j].bJ]) G (Y ?_);refine Zz j X N λq s=>Y ?_;refine YA (cs:=[.string e[j].nm,vi e[j].lo,vi e[j].hi,vi e[j].bF,vi e[j].bJ]) s (Y ?_);refine CA (b:=true) (xs:=#[.string e[j].nm,vi e[j].lo,vi e[j].hi,vi e[j].bF,vi e[j].bJ]) (ys:=#[.string e[j].nm,vi e[j].lo,vi e[j].hi,vi e[j].bF,vi e[j].bJ]) N5 (λQ g H s=>y8 Q g H s) rfl rfl (Y ?_);exact⟨⟨j+1,O⟩,bN O,rfl,V,V,rfl⟩
 refine Y ?_;refine Zv d.length (λj I=>H=I) (λj=>[(2,vi 0),(3,vi 0),(4,vb false),(6,vi j)]) (λ_=>[(2,[vi l,vi i,vi o,.slice C e.length E,.slice D d.length F]),(3,[vi l,vi i,vi o,.slice w e.length z,.slice y d.length B])]) rfl V V ?_;rintro k _ hk rfl;refine OJ (λh2=>?_) (λh2=>?_)
 ·have r:k<d.length:=O;have t:k<f.length:=O;obtain⟨f1,f2,f3⟩:=e6 k r t;have p1:=a3 _ (bY r);have p2:=b3 _ (bY t);have p3:=z3 _ (bY r);have S:Enc.enc f[k]=[.slice f[k].A f[k].ps.length f[k].c,vi f[k].lo,vi f[k].hi]:=rfl;have ra:Enc.enc d[k]=[.slice d[k].A d[k].ps.length d[k].c,vi d[k].lo,vi d[k].hi]:=rfl;rw[f1]at S p2;rw[f2,f3]at S;refine Y ?_;refine Zz k R t λp G=>?_;rw[S]at G;refine Y ?_;refine Zn (cs:=[vi d[k].lo,vi d[k].hi]) (OL _) rfl (eY (n:=1) G rfl) rfl (Y ?_);refine Zz k T r λq s=>?_;rw[ra]at s;refine Y ?_;refine Zn (cs:=[vi d[k].lo,vi d[k].hi]) (OL _) rfl (eY (n:=1) s rfl) rfl (Y ?_);refine CA (b:=decide (d[k].lo=d[k].lo/\d[k].hi=d[k].hi)) (xs:=#[vi d[k].lo,vi d[k].hi]) (ys:=#[vi d[k].lo,vi d[k].hi]) EC (λQ g H s=>zY (.inr zJ) Q s) rfl rfl ?_;rw[decide_eq_true (show d[k].lo=d[k].lo/\d[k].hi=d[k].hi from⟨rfl,rfl⟩)];refine Y ?_;refine Zz k R t λp G=>?_;rw[S]at G;refine Y ?_;refine Zh (v:=.slice f[k].A d[k].ps.length f[k].c) (OL _) rfl (by rw[add_zero];exact YN (cs:=[.slice f[k].A d[k].ps.length f[k].c]) (ds:=[vi d[k].lo,vi d[k].hi]) G) (Y ?_);refine Zz k T r λq s=>?_;rw[ra]at s;refine Y ?_;refine Zh (v:=.slice d[k].A d[k].ps.length d[k].c) (OL _) rfl (by rw[add_zero];exact YN (cs:=[.slice d[k].A d[k].ps.length d[k].c]) (ds:=[vi d[k].lo,vi d[k].hi]) s) (Y ?_);refine Za [.slice f[k].A d[k].ps.length f[k].c,.slice d[k].A d[k].ps.length d[k].c] (EI p2 p1 p3 p3) ?_;rintro v _ ⟨rfl,rfl⟩;rw[decide_eq_true (show d[k].ps=d[k].ps from rfl)];refine Y ?_;exact⟨⟨k+1,O⟩,bN O,rfl,V,V,rfl⟩
 refine Y ?_;exact⟨rfl,rfl⟩
theorem rG{b:Sb}{i:Nat}(hb:Zr H b)(d:i<b.pk.length)(B:b.pk.length<=1000000) :
  LL.Zc P 42 #[b.v,vi i,.agg #[vi lo,vi hi]] H λv j=>aL H j/\∃A c,v=(eR b i lo hi A c).v/\Zr j (eR b i lo hi A c):=by
 refine aJ.m (bG yZ) (args:=[b.v,vi i,.agg #[vi lo,vi hi]]) rfl ?_;unfold mE Sb.v;refine Y ?_;refine qZ (bI wE) (cD zB) (OL _) λC e=>Y ?_;refine lV (l:=b.pk) (bI wE) (cD zB) rfl (by decide) e rfl (hb.pk.inc (Zs e)) (sG (λ_=>rfl) b.pk) O O rfl rfl (OL _) λD n z w p=>?_;have g:aL H n:=(Zs (o:=.cells #[] 50) e).trans w;obtain⟨_,⟨_,s,_⟩ | ⟨r,cap,rest,rfl,rfl,f3,f4,f5⟩⟩:=id p.own
 ·exact absurd s O
 have t:=p.fresh r rfl;refine Y ?_;refine OD rfl rfl d (Y ?_);have f:((⟨r,0,none⟩:Addr).add (i * 5)).add 1=⟨r,i * 5+1,none⟩:=by rw[Vx,Vx,qAE]
 rw[f];refine wF (v:=.agg #[vi lo,vi hi]) (cs:=Zb b.pk++rest) (cD SB) rfl rfl f3 rfl (by rw[BY,VH];show i * 5+1+2<=b.pk.length * 5+_;omega) rfl (OL _) ?_;have q:ZG (Zb b.pk++rest) (i * 5+1) (Value.cells (.agg #[vi lo,vi hi])).toList=Zb (b.pk.set i { aD b i with lo:=lo,hi:=hi })++rest:=by show ZG _ _ [vi _,vi _]=_;rw[P2 lo hi b.pk i d rest,aD,ZD d]
 rw[q];have h:aL H (n.ins r (.cells (Zb (b.pk.set i { aD b i with lo:=lo,hi:=hi })++rest).toArray 50)):=FT g t;refine Y ?_;refine⟨h,some ⟨r,0,none⟩,cap,?_,⟨_,cap,rfl,λ_=>⟨_,rfl,YN (ds:=rest) (ZA (Hp.aG _ _ _))⟩⟩,hb.nt.inc h,λx u=>(hb.ps x u).inc h,?_,hb.q2⟩
 ·show Value.agg _=Value.agg #[vi b.pl,vi b.hd,vi b.td,.slice (some ⟨r,0,none⟩) (b.pk.set i _).length cap,.slice b.A2 b.nt.length b.c2];rw[qAg];rfl
 show(b.pk.set i _).length<=cap;rw[qAg];exact f5
end
theorem kY{l:List Pk}{i:Nat}(lo hi:Int)(h:i<l.length)(j:Nat)(a:j<(l.set i { l[i]with lo:=lo,hi:=hi }).length):(l.set i { l[i]with lo:=lo,hi:=hi })[j].nm=(l[j]'(by simpa using a)).nm:=by
 rw[qCg];split
 ·rename_i e;subst e;rfl
 rfl
def kM{b:Sb}(ok:bA b){i:Nat}(h:i<b.pk.length)(t:(aD b i).lo<=lo)(u:lo<=hi)(v:hi<=(aD b i).hi):bA (Vz b i lo hi):=by
 have e:aD b i=b.pk[i]:=ZD h _;have y:=ok.pk i h;rw[e]at t v;have q:(Vz b i lo hi).pk=b.pk.set i { b.pk[i]with lo:=lo,hi:=hi }:=by show b.pk.set i _=_;rw[e]
 have a:(Vz b i lo hi).pk.length=b.pk.length:=fU b i lo hi;refine⟨ok.pl,ok.hd,ok.td,by rw[a];exact ok.n,λj g=>?_,λj g=>?_,ok.nn,by rw[a];exact ok.nt⟩
 ·have f:j<b.pk.length:=by rw[<-a];exact g
  have o:=ok.pk j f;simp only[q,qCg];split
  ·rename_i r;subst r;show(1<=lo/\lo<=hi/\hi<=20)/\hi-lo<3/\_;exact⟨⟨O,u,O⟩,O,y.2.2⟩
  exact o
 have f:j<b.pk.length:=by rw[<-a];exact g
 obtain⟨s,p⟩:=ok.nm j f;simp only[q];rw[kY lo hi h j (by rw[qAg];exact f)];refine⟨s,?_⟩;rw[qDj]at p ⊢;intro x z;obtain⟨k,w,rfl⟩:=qAk.1 z;rw[qAj,qAg]at w;rw[qBC,kY lo hi h k (by rw[qAg];omega)];have l:k<(b.pk.take j).length:=by rw[qAj];omega
 have:=p _ (bY l);rw[qBC]at this;exact this
def mU{b:Sb}(ok:bA b)(A1 A2:Option Addr)(c1 c2:Nat):bA { b with A1:=A1,c1:=c1,A2:=A2,c2:=c2 }:=⟨ok.pl,ok.hd,ok.td,ok.n,ok.pk,ok.nm,ok.nn,ok.nt⟩
def pW{b:Sb}(ok:bA b){i:Nat}(A:Option Addr)(c:Nat)(h:i<b.pk.length)(a:(aD b i).lo<=lo)(d:lo<=hi)(e:hi<=(aD b i).hi):bA (eR b i lo hi A c):=mU (kM ok h a d e) A b.A2 c b.c2
theorem sN{b:Sb}{i:Nat}(h:i<b.pk.length):Enc.enc b.pk[i]=[.string (aD b i).nm,vi (aD b i).lo,vi (aD b i).hi,vi (aD b i).bF,vi (aD b i).bJ]:=by rw[show b.pk[i]=aD b i from(ZD h _).symm];rfl
section
variable{P:aX}[Tz P][Loud P]{H:Hp}
def wA{u w:Value}{l m:List Int}(g:aF H u l)(p:aF H w m)(h:∀z∈l,z∈m)(o:l.length<=1000000)(f:m.length<=1000000):LL.Zc P 53 #[u,w] H λv e=>H=e/\v=vb true:=by
 refine aJ.m (bG y4) (args:=[u,w]) rfl ?_;unfold mF;refine Y ?_;refine Zv l.length (λj e=>H=e) (λj=>[(0,u),(1,w),(5,vi j)]) (λ_=>[]) rfl V trivial ?_;rintro j _ q rfl;refine Y ?_;refine YE g rfl ?_;refine OJ (λi=>?_) (λi=>?_)
 ·have d:j<l.length:=O;refine Y ?_;refine Zz j g d λa n=>Y ?_;refine Ya n (Y ?_);refine Za [w,vi l[j]] (nU p f) ?_;rintro v _ ⟨rfl,rfl⟩;rw[decide_eq_true (h _ (bY d))];refine Y ?_;exact dM (I:=λj e=>H=e) (env:=λj=>[(0,u),(1,w),(5,vi j)]) (box:=λ_=>[]) d rfl V trivial rfl
 refine Y ?_;exact⟨rfl,rfl⟩
end
theorem nJ{b:Sb}(ok:bA b):Vh b=bS b:=by
 rw[Vh,jO ok,aT (by decide),bS,Vl];cases h:Zi b with
 | nil=>rfl
 | cons x l=>rfl
def bK(b:Sb)(i:Nat)(lo:Int):Int:=max (aD b i).lo lo
def bT(b:Sb)(i:Nat)(hi:Int):Int:=min (aD b i).hi hi
def wJ(b:Sb)(i:Nat)(lo hi:Int):Int:=if bT b i hi<bK b i lo then 9 else bS (Vz b i (bK b i lo) (bT b i hi))
def kN{b:Sb}(ok:bA b){i:Nat}(h:i<b.pk.length)(a:1<=lo/\lo<=hi/\hi<=20):Vk b i lo hi=wJ b i lo hi:=by
 rw[Vk,jO ok,aT (by decide),fH h,aT (by decide),aT (λe=>e a),qAD,wJ];show(if bT b i hi<bK b i lo then 9 else Vh (Vz b i (bK b i lo) (bT b i hi)))=_;by_cases g:bT b i hi<bK b i lo
 ·rw[iF g,iF g]
 have:(aD b i).lo<=bK b i lo:=qDd _ _;have:bT b i hi<=(aD b i).hi:=qDR _ _;rw[aT g,aT g];exact nJ (kM ok h O O O)
def kP{b:Sb}{i:Nat}{z:Int}:z∈iM b i↔∃t∈Zi b,t.get i=z:=by rw[iM,Oh,(nL (KR _) _ (dO _)).2.1,IF,(CC _).mem_iff,pX]
def mJ{b:Sb}{i:Nat}(h:i<b.pk.length)(j:Nat):(aD (Vz b i lo hi) j).bF=(aD b j).bF/\(aD (Vz b i lo hi) j).bJ=(aD b j).bJ:=by
 rw[gD b lo hi h];split
 ·rename_i e;subst e;exact⟨rfl,rfl⟩
 exact⟨rfl,rfl⟩
def sL{b:Sb}{i:Nat}(h:i<b.pk.length):Yg (Vz b i lo hi)=Yg b:=
 iJ (fU b i lo hi) rfl rfl (λj=>(mJ h j).1) λj=>(mJ h j).2
def lM{G:Prop} (h:G:=by
  refine OJ (λk5=>?_) (λk5=>?_)
  ·refine Y ?_;exact⟨BA,by rw[decide_eq_true (show((m1:Nat):Int)<=m2 by omega)];rfl⟩
  refine OJ (λk6=>?_) (λk6=>?_)
  ·refine Y ?_;exact⟨BA,by rw[decide_eq_true (show((m1:Nat):Int)<=m2 by omega)];rfl⟩
  exact absurd (e5.resolve_left k5) k6):G:=h
def kO{b:Sb}(ok:bA b)(i:Nat):(iM b i).length<=1000000:=by
 have a:=nK (lD (Vj b i)) (lD (Vj b i)).length;have d:(lD (Vj b i)).length=(Zi b).length:=by rw[(CC _).length_eq,Vj,qAh]
 have e:=UI ok;show(Z8 (lD (Vj b i)) (lD (Vj b i)).length).length<=1000000;omega
section
variable{P:aX}[Tz P][Loud P]{H:Hp}
def nW(I:P=PP){b o:Sb}(ok:bA b)(f:bA o)(L:wG b o)(a:Zi o≠[])(hb:Zr H b)(G:Zr H o)(hk:0<=k/\k<256)(hm:0<=m/\m<256)(l:Yk H)(d:aC H ⟨1,0,none⟩ [vf 284]) :
  LL.Zc P 68 #[b.v,o.v,.int .u8 m,.int .u8 k] H λv H'=>aL H H'/\v=vb true:=by
 have X:=ok.n;have j:=L.pos a;refine aJ.m (bG y6) (args:=[b.v,o.v,.int .u8 m,.int .u8 k]) rfl ?_;unfold mH Sb.v;refine Y ?_;refine Vs (bI Tryz.underlying5) (bI Tryz.underlying3) rfl ?_;rw[Uk (show pZ k from⟨O,O⟩)];refine Y ?_;refine iZ rfl rfl O ?_;obtain⟨i,hi,ei⟩:=gW (n:=b.pk.length) hk.1 O;rw[ei];have J:i<o.pk.length:=by rw[L.n];exact hi
 refine Y ?_;refine Za [b.v,.int .u8 m] (ES X hm) ?_;rintro v H1 ⟨i1,A,c,p,Z,rfl,F,hl⟩;have Q:=sR X Z;have B:eE o.pk.length p:=by rw[L.n];exact Q
 refine Zp OL (Y ?_);refine Za [b.v] (oS ok (hb.inc i1) (aC.inc l i1)) ?_;rintro v H2 ⟨j2,rfl⟩;have i2:=i1.trans j2;refine Y ?_;refine Za [o.v] (oS f (G.inc i2) (aC.inc l i2)) ?_;rintro v H3 ⟨j3,rfl⟩;have i3:=i2.trans j3;refine Y ?_;refine Za [b.v,vi i] (nI ok hi (hb.inc i3) (aC.inc l i3)) ?_;rintro v H4 ⟨j4,A2,c2,rfl,t2⟩;have i4:=i3.trans j4;refine Y ?_;refine Za [o.v,vi i] (nI f J (G.inc i4) (aC.inc l i4)) ?_;rintro v H5 ⟨j5,A3,c3,rfl,t3⟩;have R:=i4.trans j5;have w:=hl.inc (((j2.trans j3).trans j4).trans j5);refine Y ?_;refine Za [b.v,.slice A p.length c] (oB ok Q w F (hb.inc R) (aC.inc l R) (aC.inc d R)) ?_;rintro v H6 ⟨M,rfl⟩;have S:=R.trans M;refine Y ?_;refine Za [o.v,.slice A p.length c] (oB f B (w.inc M) F (G.inc S) (aC.inc l S) (aC.inc d S)) ?_;rintro v H7 ⟨V,rfl⟩;have T:=S.trans V;have y:=w.inc (M.trans V);refine Y ?_;refine Za [b.v,.slice A p.length c] (oC ok Q y F (hb.inc T) (aC.inc l T) (aC.inc d T)) ?_;rintro v H8 ⟨N,rfl⟩;have i8:=T.trans N;refine Y ?_;refine Za [o.v,.slice A p.length c] (oC f B (y.inc N) F (G.inc i8) (aC.inc l i8) (aC.inc d i8)) ?_;rintro v H9 ⟨W,rfl⟩;have U:=i8.trans W;have K:=y.inc (N.trans W);refine Y ?_;refine Za [b.v,.slice A p.length c,vi i] (nH ok hi Q K F (hb.inc U) (aC.inc l U) (aC.inc d U)) ?_;rintro v J0 ⟨u,rfl⟩;have q:=U.trans u;refine Y ?_;refine Za [o.v,.slice A p.length c,vi i] (nH f J B (K.inc u) F (G.inc q) (aC.inc l q) (aC.inc d q)) ?_;rintro v L7 ⟨C,rfl⟩;have r:=q.trans C;refine Y ?_;refine Za [b.v] (nV I ok (hb.inc r) (aC.inc l r) (aC.inc d r)) ?_;rintro v L6 ⟨D,rfl⟩;have s:=r.trans D;refine Y ?_;refine Za [o.v] (nV I f (G.inc s) (aC.inc l s) (aC.inc d s)) ?_;rintro v Nr ⟨E,rfl⟩;have BA:=s.trans E;have t2:=t2.inc ((((((((j5.trans M).trans V).trans N).trans W).trans u).trans C).trans D).trans E);have t3:=t3.inc (((((((M.trans V).trans N).trans W).trans u).trans C).trans D).trans E);rw[jU j,jU a];have e1:=L.len X.2;have e2:=qAX.2 a;have e3:=L.ends a p;have e4:=L.good a p;have e5:=L.cold a p (i:=i) O;have e6:=L.plans a;have ti:∀z∈iM o i,z∈iM b i:=λz hz=>by obtain⟨t,ht,e⟩:=kP.1 hz;exact kP.2 ⟨t,L.sub t ht,e⟩
 rw[show jR b p=(cG b (Zi b) p).lo from aT j,show jL b p=(cG b (Zi b) p).hi from aT j,show jR o p=(cG o (Zi o) p).lo from aT a,show jL o p=(cG o (Zi o) p).hi from aT a,
  show jW b p=fN (cG b (Zi b) p).good (Zi b).length from aT j,show jW o p=fN (cG o (Zi o) p).good (Zi o).length from aT a,
  show D2 b p i=fN ((cG b (Zi b) p).cold.get i) (Zi b).length from aT j,show D2 o p i=fN ((cG o (Zi o) p).cold.get i) (Zi o).length from aT a,
  show fF b=(dE b (Zi b)).length from aT j,show fF o=(dE o (Zi o)).length from aT a]
 generalize fN (cG b (Zi b) p).good (Zi b).length=g1 at *;generalize fN (cG o (Zi o) p).good (Zi o).length=g2 at *;generalize fN ((cG b (Zi b) p).cold.get i) (Zi b).length=h1 at *;generalize fN ((cG o (Zi o) p).cold.get i) (Zi o).length=h2 at *;generalize(dE b (Zi b)).length=m1 at *;generalize(dE o (Zi o)).length=m2 at *;generalize(cG b (Zi b) p).lo=a1 at *;generalize(cG b (Zi b) p).hi=a2 at *;generalize(cG o (Zi o) p).lo=a3 at *;generalize(cG o (Zi o) p).hi=a4 at *;refine Y ?_;refine Za [vi (Zi o).length,vi 1,vi (Zi b).length] (pF _ _ _) ?_;rintro v _ ⟨rfl,rfl⟩;rw[decide_eq_true (show(1:Int)<=(Zi o).length/\((Zi o).length:Int)<=(Zi b).length by omega)];refine Y ?_;refine Za [.slice A3 (iM o i).length c3,.slice A2 (iM b i).length c2] (wA t3 t2 ti (kO f i) (kO ok i)) ?_;rintro v _ ⟨rfl,rfl⟩;refine OJ (λk1=>?_) (λk1=>?_)
 ·refine OJ (λk2=>?_) (λk2=>?_)
  ·refine OJ (λk3=>?_) (λk3=>?_)
   ·exact lM
   refine OJ (λk4=>?_) (λk4=>?_)
   ·exact lM
   exact absurd (e4.resolve_left k3) k4
  exact absurd e3.2 k2
 exact absurd e3.1 k1
end
def uL{b:Sb}(ok:bA (eK b x))(a:bA b)(h:dP b x=0):Zi (eK b x)≠[]:=by rw[dP,jO a,aT (by decide),nJ ok]at h;exact gG.1 h
def wB{b:Sb}(a:bA b)(h:dG (eK b x) b'):wG b b' where
 n:=by rw[h.pk];rfl
 res:=h.res.trans (iJ rfl rfl rfl (λ_=>rfl) λ_=>rfl)
 td:=h.td
 sub:=λt d=>by rw[h.boats,CH a.n.2]at d;exact(qAC.1 d).1
def wC{b:Sb}{i:Nat}(d:bA b)(a:i<b.pk.length)(h:dG (Vz b i (bK b i lo) (bT b i hi)) b'):wG b b' where
 n:=by rw[h.pk];exact fU b i _ _
 res:=h.res.trans (sL a)
 td:=h.td
 sub:=λt e=>by have f:(aD b i).lo<=bK b i lo:=qDd _ _;have g:bT b i hi<=(aD b i).hi:=qDR _ _;rw[h.boats,yU d.n.2 a f g]at e;exact(qAC.1 e).1
def lJ{G:Prop} (h:G:=by refine Y ?_;refine Za [cH.v,cH.v] (fT (dG.refl cH) (fG _) (fG _) ⟨qAI _,qAI _,λx hx=>by simp[cH]at hx,λx hx=>by simp[cH]at hx⟩) ?_;rintro v _ ⟨rfl,rfl⟩;refine Y ?_;refine Za [] (bB hO HH vM) ?_;rintro v H6 ⟨_,rfl⟩;refine Y ?_;rfl):G:=h
theorem pH{b:Sb}(ok:bA b){i:Nat}(h:i<b.pk.length)(lo hi:Int):Vk b i lo hi=0\/Vk b i lo hi=1\/Vk b i lo hi=9:=by
 by_cases g:1<=lo/\lo<=hi/\hi<=20
 ·rw[kN ok h g,wJ];unfold bS;split
  ·exact .inr (.inr rfl)
  split
  ·exact .inr (.inr rfl)
  exact .inl rfl
 rw[Vk,jO ok,aT (by decide),fH h,aT (by decide),iF g];exact .inr (.inl rfl)
section
variable{P:aX}[Tz P][Loud P]{H:Hp}
theorem pP(hO:P=PP){b:Sb}{q f:Int}(hb:Zr H b)(hx:aF H (.slice x.A x.ps.length x.c) x.ps)(hq:0<=q/\q<256)(hm:0<=m/\m<256)(hk:0<=k/\k<256)(N:Yk H)(o:aC H ⟨1,0,none⟩ [vf 284]) :
  lS.m P (tJ P lK λv _=>v=vb true) (Vv [b.v,vR x,.int .u8 q, .agg #[vi lo,vi f],.int .u8 m,.int .u8 k]) H:=by
 unfold lS Sb.v;refine Y ?_;refine Za [b.v] (rE hb) ?_;rintro v _ ⟨rfl,g,rfl,yI⟩;cases g with
 | false=>
  refine Y ?_;refine Za [] (bB hO N o) ?_;rintro v G ⟨_,rfl⟩;refine Y ?_;rfl
 | true=>
 have ok:=yI rfl;have hn:=ok.n;refine OJ (λh0=>?_) (λh0=>?_)
 ·refine Y ?_;refine Za [] (bB hO N o) ?_;rintro v G ⟨_,rfl⟩;refine Y ?_;rfl
 have vI:x.ps.length<=20:=O;refine Y ?_;refine Za [b.v,vR x] (ER hb ok.sz' N hx O) ?_;rintro v G ⟨Q,hv⟩;have y:=hb.inc Q;have J:Yk G:=aC.inc N Q;have u:=aC.inc o Q;obtain⟨c,e,rfl,hw⟩:∃(c:Sb) (e:Int),v=.tuple #[.agg #[vi c.pl,vi c.hd,vi c.td,.slice c.A1 c.pk.length c.c1,.slice c.A2 c.nt.length c.c2],vi e]/\((e≠0/\c=cH)\/(e=0/\dP b x=0/\bA (eK b x)/\dG (eK b x) c/\Zr G c)):=by
  rcases hv with⟨h,rfl⟩ | ⟨h,p,b',j,l,rfl⟩
  ·exact⟨cH,_,rfl,.inl ⟨h,rfl⟩⟩
  exact⟨b',0,rfl,.inr ⟨rfl,h,p,j,l⟩⟩
 refine OB ?_;refine Z2 (ι:=Unit) (λ_ H'=>aL G H') (λ_=>[(2,.int .u8 q),(4,.int .u8 m),(5,.int .u8 k),(6,vi 0),(9,vi 0),(13,vi 0)]) (λ_=>[(6,b.cs),(9,[vi lo,vi f]),(13,[vi c.pl,vi c.hd,vi c.td,.slice c.A1 c.pk.length c.c1,.slice c.A2 c.nt.length c.c2])]) ?_ ?_
 ·rcases hw with⟨h,rfl⟩ | ⟨rfl,h,p,j,l⟩
  ·refine OJ (λk1=>?_) (λk1=>?_)
   ·exact absurd k1 h
   refine OJ (λR=>?_) (λR=>?_)
   ·refine Y ?_;refine Za [cH.v,cH.v] (fT (dG.refl cH) (fG _) (fG _) ⟨qAI _,qAI _,λx hx=>by simp[cH]at hx,λx hx=>by simp[cH]at hx⟩) ?_;rintro v _ ⟨rfl,rfl⟩;refine Y ?_;exact⟨(),.refl _,V,V,rfl⟩
   exact absurd h (by simpa using R)
  have z:Zi c≠[]:=by rw[j.boats];exact uL p ok h
  have C:=j.ok p;have L:=wB ok j;refine Y ?_;refine Za [b.v,vR x] (T1 y (by have:=ok.nn;omega) (hx.inc Q)) ?_;rintro _ H2 ⟨B,E,c2,rfl,TG⟩;refine Zp OL (Y ?_);refine Za [c.v,(C3 b x E c2).v] (fT (a:=C3 b x E c2) ⟨j.pl,j.hd,j.td,j.pk,j.nl,j.nt⟩ TG (l.inc B) (mU p b.A1 E b.c1 c2).sz') ?_;rintro v _ ⟨rfl,rfl⟩;refine Y ?_;refine Za [c.v] (cF (l.inc B) C.sz') ?_;rintro v _ ⟨rfl,rfl⟩;rw[jO C];refine Y ?_;refine Za [b.v,c.v,.int .u8 m,.int .u8 k] (nW hO ok C L z (y.inc B) (l.inc B) hk hm (aC.inc J B) (aC.inc u B)) ?_;rintro v H3 ⟨i3,rfl⟩;refine Y ?_;exact⟨(),B.trans i3,V,V,rfl⟩
 rintro _ H4 i4;have r:=y.inc i4;have K:Yk H4:=aC.inc J i4;have BP:=aC.inc u i4;refine Y ?_;refine Vs (bI Tryz.underlying5) (bI Tryz.underlying3) rfl ?_;rw[Uk (show pZ q from⟨O,O⟩)];refine Y ?_;refine iZ rfl rfl O ?_;obtain⟨i,hi,ei⟩:=gW (n:=b.pk.length) hq.1 O;rw[ei];refine Y ?_;refine Za [b.v,vi i,.agg #[vi lo,vi f]] (TR r ok.sz' K) ?_;rintro v H5 ⟨M,ht⟩;have HH:Yk H5:=aC.inc K M;have vM:=aC.inc BP M;rcases ht with⟨h,rfl⟩ | ⟨h,_,_,b1,d,s,DW,j,t,rfl⟩
 ·rw[show(OO:Value)=.agg #[vi 0,vi 0,vi 0,.slice none 0 0,.slice none 0 0]from rfl];have hc:=pH ok hi lo f;generalize Vk b i lo f=e at *;refine OJ (λk1=>?_) (λk1=>?_)
  ·refine OJ (λR=>?_) (λR=>?_)
   ·exact lJ
   refine OJ (λk3=>?_) (λk3=>?_)
   ·exact lJ
   exact absurd k3 O
  exact absurd h (by simpa using k1)
 have o:1<=lo/\lo<=f/\f<=20:=qAd λg=>by rw[Vk,jO ok,aT (by decide),fH hi,aT (by decide),iF g]at h;exact absurd h (by decide)
 have I:=h;rw[kN ok hi o,wJ]at I;rw[qAD]at s;subst s;have j:dG (Vz b i (bK b i lo) (bT b i f)) d:=j;have tD:¬ bT b i f<bK b i lo:=λg=>by rw[iF g]at I;exact absurd I (by decide)
 rw[aT tD]at I;have z:Zi d≠[]:=by rw[j.boats];exact gG.1 I
 have D:=j.ok DW;have L:=wC ok hi j;have row:=sN hi;have q1:(aD b i).lo<=bK b i lo:=qDd _ _;have q2:bT b i f<=(aD b i).hi:=qDR _ _;rw[show d.v=.agg #[vi d.pl,vi d.hd,vi d.td,.slice d.A1 d.pk.length d.c1,.slice d.A2 d.nt.length d.c2]from rfl];refine Y ?_;refine Zz i (r.inc M).pk hi λa ha=>?_;rw[row]at ha;refine Y ?_;refine Zn (cs:=[vi (aD b i).lo,vi (aD b i).hi]) (OL _) rfl (YN (ds:=[vi (aD b i).bF,vi (aD b i).bJ]) (eY (n:=1) ha rfl)) rfl (Y ?_);refine Za [.agg #[vi (aD b i).lo,vi (aD b i).hi],.agg #[vi lo,vi f]] (EQ _ _ _ _) ?_;rintro v _ ⟨rfl,rfl⟩;refine Zp OL (Y ?_);refine Za [b.v,vi i,.agg #[vi (bK b i lo),vi (bT b i f)]] (rG (r.inc M) hi O) ?_;rintro v H6 ⟨w,X,Z,rfl,hb6⟩;refine Zp OL (Y ?_);refine Za [d.v,(eR b i (bK b i lo) (bT b i f) X Z).v] (fT (a:=eR b i (bK b i lo) (bT b i f) X Z) ⟨j.pl,j.hd,j.td,j.pk,j.nl,j.nt⟩ hb6 (t.inc w) (pW ok X Z hi q1 O q2).sz') ?_;rintro v _ ⟨rfl,rfl⟩;refine Y ?_;refine Za [d.v] (cF (t.inc w) D.sz') ?_;rintro v _ ⟨rfl,rfl⟩;rw[jO D];refine Y ?_;refine Za [b.v,d.v,.int .u8 m,.int .u8 k] (nW hO ok D L z (r.inc (M.trans w)) (t.inc w) hk hm (aC.inc HH w) (aC.inc vM w)) ?_;rintro v H7 ⟨i7,rfl⟩;refine Y ?_;refine Za [] (bB hO (aC.inc HH (w.trans i7)) (aC.inc vM (w.trans i7))) ?_;rintro v H8 ⟨_,rfl⟩;refine Y ?_;rfl
end
