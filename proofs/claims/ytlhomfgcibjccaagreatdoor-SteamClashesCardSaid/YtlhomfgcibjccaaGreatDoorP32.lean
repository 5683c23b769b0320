import Derived.Test.YtlhomfgcibjccaaGreatDoorP22
import Derived.Test.YtlhomfgcibjccaaGreatDoorP23
import Derived.Test.YtlhomfgcibjccaaGreatDoorP25
import Derived.Test.YtlhomfgcibjccaaGreatDoorP26
import Derived.Test.YtlhomfgcibjccaaGreatDoorP27
import Derived.Test.YtlhomfgcibjccaaGreatDoorP28
import Derived.Test.YtlhomfgcibjccaaGreatDoorP29
import Derived.Test.YtlhomfgcibjccaaGreatDoorP30
import Derived.Test.YtlhomfgcibjccaaGreatDoorP31
set_option linter.all false
set_option maxHeartbeats 8000000
set_option maxRecDepth 20000
open Go Go.LL
namespace Go.Proofs
section
variable{G:Hp}{n i j a b r cap:Nat}{u w cv:Value}{E:Int->List Value}{l l':List Int}{rest:List Value}{S:Int->Prop}
theorem ZhZ{G:Prop} (h:G:=by refine Y ?_;refine Zth (α:=N4) (m:=Zz s.1 k (ZE s.1 k)) (a:=k) (kv:=Zv) (w:=ZE s.1 k+1) rfl (by rw[(Pc s.1 k _).1];rfl) rfl (Hp.aF _ _ _) (by rw[(Pc s.1 k _).1];exact(Pc s.1 k _).2) (OL _) ?_;rw[Us,qT];refine Y ?_;refine Ns (α:=N4) (m:=Zz s.1 k (ZE s.1 k+1)) (a:=k) (kv:=Zv) (dC R5) R2 (eI t3) rfl rfl (Hp.aF _ _ _) (OL _) (Y ?_);refine LN rfl rfl (Y ?_);exact⟨⟨j+1,O⟩,dX O,⟨RG i5 Gh,by rw[GC,PT];exact Hp.aF _ _ _⟩,⟨rfl,rfl,rfl,rfl,rfl,rfl,by rw[GC,PT];rfl,rfl,rfl,rfl,rfl,rfl,trivial⟩,V,rfl⟩):G:=h
theorem R5:Tryz.prog.underlying 157=some (.map 105 3):=U
def Vo(i:Nat)(t:N4):N4:=(⟨0,0,0,0⟩:N4).dD i (t.get i)
def UR(i:Nat)(s:List (N4×Int)×Int)(t:N4):List (N4×Int)×Int:=
 (Zz s.1 (Vo i t) (ZE s.1 (Vo i t)+1),max s.2 (ZE (Zz s.1 (Vo i t) (ZE s.1 (Vo i t)+1)) (Vo i t)))
def rP(i:Nat)(ts:List N4):Int:=(ts.foldl (UR i) ([],0)).2
def Y7(ts:List N4):Nat->Int×Int
 | 0=>(-1,ts.length)
 | i+1=>if rP i ts<(Y7 ts i).2 then((i:Int),rP i ts)else Y7 ts i
theorem ZlQ{i:Nat}{ts:List N4}:∀j,j<=ts.length->(∀p∈((ts.take j).foldl (UR i) ([],0)).1,0<=p.2)/\V3 (λ_=>true) ((ts.take j).foldl (UR i) ([],0)).1<=j
 | 0,_=>⟨λp hp=>by simp at hp,by show(0:Int)<=0;omega⟩
 | j+1,hj=>by
  have cH:j<ts.length:=hj;obtain⟨h1,h2⟩:=ZlQ (i:=i) (ts:=ts) j O;rw[Og _ _ cH];generalize(ts.take j).foldl (UR i) ([],0)=s at *;have hn:=X8 (a:=Vo i ts[j]) h1;refine⟨λp hp=>?_,?_⟩
  ·rcases ZlG hp with⟨_,h⟩ | h | ⟨_,h⟩
   ·rw[h];omega
   ·exact h1 p h
   rw[h];omega
  show V3 _ (Zz s.1 _ _)<=_;rw[Zg5,iO rfl];omega
section
variable{P:bF}[Tz P][Loud P]{H:Hp}
theorem Xq{b:Sb}(hb:Zs H b)(sz:b.Sz)(hg:Yl H) :
  LL.Zc P 59 #[b.v] H λv H'=>bO H H'/\v=.tuple #[vi (if Zn b 0=0 then(Y7 (Zi b) b.pk.length).1 else 0),vi (if Zn b 0=0 then(Y7 (Zi b) b.pk.length).2 else 0),vi (Zn b 0)]:=by
 refine aO.m (cF ZxX) (args:=[b.v]) rfl ?_;unfold Zlg Sb.v;refine Y ?_;refine Za (vs:=[b.v,vf 101]) rfl (Ox hb sz hg Cg) ?_;rintro v H2 ⟨i2,hv⟩;rcases hv with⟨h0,rfl⟩ | ⟨h0,ok,eU,w,bb,rfl,ow⟩
 ·unfold U3;rw[bY h0,bY h0];refine Y ?_;refine OI (λh1=>?_) (λh1=>?_)
  ·refine Y ?_;exact⟨i2,rfl⟩
  exact absurd h1 h0
 rw[iO h0,iO h0,h0];have jR:=ow.sl;obtain⟨Aw,cw,rfl,_⟩:=id jR;have dJ:=UI ok;have tQ:=ok.n;generalize Zi b=ts at *;unfold ZW;refine Y ?_;refine Zw b.pk.length (λi H'=>bO H2 H') (λi=>[(1,vi 0),(2,vi (Y7 ts i).1),(3,vi (Y7 ts i).2),(5,vi 0),(25,vi b.pk.length),(26,vi i)]) (λi=>[(1,b.cs),(5,[vi b.pl,vi b.hd,vi b.td,.slice b.A1 b.pk.length b.c1,.slice b.A2 b.nt.length b.c2,.slice Aw ts.length cw])]) (.refl _) V V ?_;rintro i H3 hi i3;refine Y ?_;refine OI (λh1=>?_) (λh1=>?_)
 ·have tR:i<4:=O;refine Y ?_;refine Ztb (α:=N4) (kv:=Zv) (OL _) λrm Tx=>?_;have i4:=i3.trans (Zt (o:=YE Zv ([]:List (N4×Int))) Tx);have m4:(H3.ins rm (YE Zv ([]:List (N4×Int)))) rm=some (YE Zv ([]:List (N4×Int)),true):=Hp.aF _ _ _;have Gh:H2 rm=none:=YK i3 Tx;generalize H3.ins rm (YE Zv ([]:List (N4×Int)))=H4 at *;refine Y ?_;refine Zw ts.length (λj H'=>bO H2 H'/\H' rm=some (YE Zv ((ts.take j).foldl (UR i) ([],0)).1,true))
   (λj=>[(1,vi 0),(2,vi (Y7 ts i).1),(3,vi (Y7 ts i).2),(5,vi 0),(6,vi i),(7,.map (some rm)),(8,vi ((ts.take j).foldl (UR i) ([],0)).2),(25,vi b.pk.length),(26,vi i),(31,.slice Aw ts.length cw),(32,vi ts.length),(33,vi j)]) (λj=>[(1,b.cs),(5,[vi b.pl,vi b.hd,vi b.td,.slice b.A1 b.pk.length b.c1,.slice b.A2 b.nt.length b.c2,.slice Aw ts.length cw])]) ⟨i4,m4⟩ V V ?_
  rintro j H5 hj ⟨i5,m5⟩;refine Y ?_;refine OI (λh2=>?_) (λh2=>?_)
  ·have cH:j<ts.length:=O;have GC:=Og (UR i) ([],0) cH;obtain⟨b1,b2⟩:=ZlQ (i:=i) (ts:=ts) j O;generalize(ts.take j).foldl (UR i) ([],0)=s at *;refine Y ?_;refine Zx (jR.bA i5) rfl rfl rfl (i:=j) cH λa ha=>?_;generalize ts[j]=t at *;have hq1:=X8 (a:=Vo i t) b1;have T2:=Zmh (a:=Vo i t) b1;refine Y ?_;refine Zl (cs:=t.cells) (OL _) rfl ha rfl (Y ?_);refine KB (j:=i) rfl rfl tR (Y ?_);refine LP (v:=vi (t.get i)) (OL _) rfl rfl (by
    match i,tR with
    | 0,_=>rfl
    | 1,_=>rfl
    | 2,_=>rfl
    | 3,_=>rfl) ?_
   refine Y ?_;refine KB (j:=i) rfl rfl tR (Y ?_);refine LQ (OL _) rfl rfl rfl rfl (by show 0+i * 1+1<=4;omega) rfl ?_;have JK:ZH [vi 0,vi 0,vi 0,vi 0] (0+i * 1) (Value.cells (vi (t.get i))).toList=(Vo i t).cells:=Zhd ⟨0,0,0,0⟩ _ tR;have PT:UR i s t=(Zz s.1 (Vo i t) (ZE s.1 (Vo i t)+1),max s.2 (ZE (Zz s.1 (Vo i t) (ZE s.1 (Vo i t)+1)) (Vo i t))):=rfl;rw[JK];generalize Vo i t=k at *;have hgp:ZE (Zz s.1 k (ZE s.1 k+1)) k=ZE s.1 k+1:=by rw[WS,iO rfl]
   refine Y ?_;refine ZtF (OL _) ?_ ?_
   ·refine Y ?_;refine Ns (α:=N4) (m:=s.1) (a:=k) (kv:=Zv) (dC R5) R2 (eI t3) rfl rfl m5 (OL _) (Y ?_);refine ZiI (α:=N4) (m:=s.1) (a:=k) (kv:=Zv) (dC R5) R2 (eI t3) rfl rfl m5 (OL _) ?_;refine Zq OL ?_;exact ZhZ
   refine Y ?_;refine ZiI (α:=N4) (m:=s.1) (a:=k) (kv:=Zv) (dC R5) R2 (eI t3) rfl rfl m5 (OL _) (Y ?_);refine Ns (α:=N4) (m:=Zz s.1 k (ZE s.1 k)) (a:=k) (kv:=Zv) (dC R5) R2 (eI t3) rfl rfl (Hp.aF _ _ _) (OL _) ?_;refine Zq OL ?_;rw[WS,iO rfl];exact ZhZ
  have:j=ts.length:=O;subst this;rw[qAw]at m5 ⊢;have ew:(ts.foldl (UR i) ([],0)).2=rP i ts:=rfl;rw[ew];refine Y ?_;refine OI (λh3=>?_) (λh3=>?_)
  ·have e:Y7 ts (i+1)=((i:Int),rP i ts):=by rw[Y7,iO h3]
   refine Y ?_;exact⟨⟨i+1,O⟩,dX O,i5,⟨rfl,by rw[e];rfl,by rw[e];rfl,rfl,rfl,rfl,trivial⟩,V,rfl⟩
  have e:Y7 ts (i+1)=Y7 ts i:=by rw[Y7,bY h3]
  refine Y ?_;exact⟨⟨i+1,O⟩,dX O,i5,⟨rfl,by rw[e];rfl,by rw[e];rfl,rfl,rfl,rfl,trivial⟩,V,rfl⟩
 have:i=b.pk.length:=O;subst this;refine Y ?_;exact⟨i2.trans i3,rfl⟩
theorem ZoC{p q:List Int}{x y:Te}(h1:aV H (.slice x.A x.n x.c) p)(h2:aV H (.slice y.A y.n y.c) q)(e1:x.n=p.length)(e2:y.n=q.length)(hn:p.length<=1000000)(PR:q.length<=1000000) :
  LL.Zc P 155 #[zC x.td (.slice x.A x.n x.c),zC y.td (.slice y.A y.n y.c)] H λv H'=>H=H'/\v=vi (VI p q):=by
 refine aO.m (cF Zxa) (args:=[zC x.td (.slice x.A x.n x.c),zC y.td (.slice y.A y.n y.c)]) rfl ?_;unfold Zkt;refine Y ?_;refine Za (vs:=[.slice x.A x.n x.c,.slice y.A y.n y.c]) rfl (ZnI h1 h2 hn PR (OL _)) ?_;rintro v _ ⟨rfl,rfl⟩;refine Y ?_;exact⟨rfl,rfl⟩
end
theorem ZvD:((List.range 24).all λi=>(List.range 24).all λj=>VI ((ZD 4).getD i []) ((ZD 4).getD j []) == YL i j)=true:=by decide +kernel
theorem ZvE:((List.range 6).all λi=>(List.range 6).all λj=>VI ((ZD 3).getD i []) ((ZD 3).getD j []) == YL i j)=true:=by decide +kernel
theorem ZvF:((List.range 2).all λi=>(List.range 2).all λj=>VI ((ZD 2).getD i []) ((ZD 2).getD j []) == YL i j)=true:=by decide +kernel
theorem ZsA:(ZD 1).length=1/\(ZD 2).length=2/\(ZD 3).length=6/\(ZD 4).length=24:=by decide +kernel
theorem ZvG(hn:1<=n/\n<=4)(hi:1<=i/\i<=(ZD n).length)(hj:1<=j/\j<=(ZD n).length):VI (ZZ n i) (ZZ n j)=YL i j:=by
 obtain⟨l1,l2,l3,l4⟩:=ZsA;have key:∀N:Nat,(ZD n).length=N->((List.range N).all λi=>(List.range N).all λj=>VI ((ZD n).getD i []) ((ZD n).getD j []) == YL i j)=true->VI (ZZ n i) (ZZ n j)=YL i j:=by intro N h1 h2;rw[h1]at hi hj;have h3:=qAg.1 (qAg.1 h2 (i-1) (qAq.2 O)) (j-1) (qAq.2 O);have h4:=eq_of_beq h3;unfold ZZ;rw[h4];unfold YL;simp only[show(((i-1:Nat):Int)<((j-1:Nat):Int))↔((i:Int)<j)from by omega,show(((j-1:Nat):Int)<((i-1:Nat):Int))↔((j:Int)<i)from by omega,gt_iff_lt]
 have:n=1\/n=2\/n=3\/n=4:=O;rcases this with rfl | rfl | rfl | rfl
 ·exact key 1 l1 (by decide +kernel)
 ·exact key 2 l2 ZvF
 ·exact key 6 l3 ZvE
 exact key 24 l4 ZvD
structure Sb.Sm(b:Sb):Prop where
 pk:b.pk.length<=20
 nt:b.nt.length<=20
 nm:∀p∈b.pk,p.nm.size<=100
 ps:∀x∈b.nt,x.ps.length<=20
theorem Sb.Sm.sz{b:Sb}(h:b.Sm):b.Sz:=⟨by have:=h.pk;omega,by have:=h.nt;omega,λx hx=>by have:=h.ps x hx;omega,λp hp=>by have:=h.nm p hp;omega⟩
theorem ZgX{α:Type}{l:List α}{p:α->Prop}(hj:j<l.length)(h:∀x∈l.take j,p x)(h1:p l[j]):∀x∈l.take (j+1),p x:=λx hx=>by
 rw[qAd hj]at hx;rcases qAS.1 hx with hx | hx
 ·exact h x hx
 rw[DO.1 hx];exact h1
section
variable{P:bF}[Tz P][Loud P]{H:Hp}
theorem ZpA{b:Sb}(hb:Zs H b):LL.Zc P 17 #[b.v] H λv H'=>H=H'/\∃g,v=vb g/\(g=false->b.Sm):=by
 refine aO.m (cF Zyf) (args:=[b.v]) rfl ?_;unfold Zly Sb.v;refine Y ?_;refine OI (λh1=>?_) (λh1=>?_)
 ·refine Y ?_;exact⟨rfl,true,rfl,λh=>by simp at h⟩
 refine Y ?_;refine OI (λh2=>?_) (λh2=>?_)
 ·refine Y ?_;exact⟨rfl,true,rfl,λh=>by simp at h⟩
 refine Y ?_;refine Zw b.pk.length (λj H'=>H=H'/\∀p∈b.pk.take j,p.nm.size<=100) (λj=>[(1,vi 0),(2,vb false),(3,vi j)]) (λ_=>[(1,b.cs)]) ⟨rfl,λp hp=>by simp at hp⟩ V V ?_;rintro j _ hj ⟨rfl,dY⟩;refine Y ?_;refine OI (λh3=>?_) (λh3=>?_)
 ·have cH:j<b.pk.length:=O;refine Y ?_;refine Zx hb.pk rfl rfl rfl (i:=j) cH λa ha=>?_;have dG:=ZgX (p:=λp:Pk=>p.nm.size<=100) cH dY;generalize b.pk[j]=x at *;refine Y ?_;refine Zg (v:=.string x.nm) (OL _) rfl (by rw[add_zero];exact YM (cs:=[.string x.nm]) (ds:=[vi x.lo,vi x.hi,vi x.fK,vi x.fW]) ha) (Y ?_);refine SA rfl (Y ?_);refine OI (λh4=>?_) (λh4=>?_)
  ·refine Y ?_;exact⟨rfl,true,rfl,λh=>by simp at h⟩
  refine Y ?_;exact⟨⟨j+1,O⟩,dX O,⟨rfl,dG O⟩,V,V,rfl⟩
 have:j=b.pk.length:=O;subst this;rw[qAw]at dY;refine Y ?_;refine Zw b.nt.length (λj H'=>H=H'/\∀p∈b.nt.take j,p.ps.length<=20) (λj=>[(1,vi 0),(2,vb false),(4,vi j)]) (λ_=>[(1,b.cs)]) ⟨rfl,λp hp=>by simp at hp⟩ V V ?_;rintro k _ hk ⟨rfl,BV⟩;refine Y ?_;refine OI (λh4=>?_) (λh4=>?_)
 ·have gG:k<b.nt.length:=O;refine Y ?_;refine Zx hb.nt rfl rfl rfl (i:=k) gG λa ha=>?_;have dG:=ZgX (p:=λp:Nt=>p.ps.length<=20) gG BV;generalize b.nt[k]=x at *;refine Y ?_;refine Zg (v:=.slice x.A x.ps.length x.c) (OL _) rfl (by rw[add_zero];exact YM (cs:=[.slice x.A x.ps.length x.c]) (ds:=[vi x.lo,vi x.hi]) ha) (Y ?_);refine OI (λh5=>?_) (λh5=>?_)
  ·refine Y ?_;exact⟨rfl,true,rfl,λh=>by simp at h⟩
  refine Y ?_;exact⟨⟨k+1,O⟩,dX O,⟨rfl,dG O⟩,V,V,rfl⟩
 have:k=b.nt.length:=O;subst this;rw[qAw]at BV;refine Y ?_;exact⟨rfl,false,rfl,λ_=>⟨O,O,dY,BV⟩⟩
theorem vG{b:Sb}(hb:Zs H b):LL.Zc P 36 #[b.v] H λv H'=>H=H'/\∃g,v=vb g/\(g=true->fN b):=by
 refine aO.m (cF Zx5) (args:=[b.v]) rfl ?_;unfold Zlo Sb.v;refine Y ?_;refine Za (vs:=[b.v]) rfl (ZpA hb) ?_;rintro v _ ⟨rfl,g,rfl,hg⟩;cases g with
 | true=>
  refine Y ?_;exact⟨rfl,false,rfl,λh=>by simp at h⟩
 | false=>
  refine Y ?_;refine Za (vs:=[b.v]) rfl (Zzo hb (hg rfl).sz) ?_;rintro v _ ⟨rfl,rfl⟩;refine Y ?_;exact⟨rfl,decide (ZF b=0),by simp[YR],λh=>U2 (of_decide_eq_true h)⟩
theorem SK(a b:Int):LL.Zc P 43 #[vi a,vi b] H λv H'=>H=H'/\v=.agg #[vi a,vi b]:=by refine aO.m (cF Zx2) (args:=[vi a,vi b]) rfl ?_;unfold Zll;refine Y ?_;exact⟨rfl,rfl⟩
theorem LO(a:Int):LL.Zc P 39 #[vi a] H λv H'=>H=H'/\v=.agg #[vi a,vi a]:=by refine aO.m (cF Zx3) (args:=[vi a]) rfl ?_;unfold Zlm;refine Y ?_;refine Za (vs:=[vi a,vi a]) rfl (SK a a) ?_;rintro v _ ⟨rfl,rfl⟩;refine Y ?_;exact⟨rfl,rfl⟩
theorem Zpz{a b:List Int}(ha:aV H u a)(hb:aV H w b)(hl:a.length<=1000000)(C1:b.length<=1000000):LL.Zc P 81 #[u,w] H λv H'=>H=H'/\v=vb (decide (a=b)):=by refine aO.m (cF ZxR) (args:=[u,w]) rfl ?_;unfold Zla;refine Y ?_;refine Za (vs:=[u,w]) rfl (Zzd ha hb hl C1) ?_;rintro v _ ⟨rfl,rfl⟩;refine Y ?_;exact⟨rfl,rfl⟩
def S7(b:Sb)(x:Nt)(A:Option Addr)(c:Nat):Sb:={ b with nt:=b.nt++[x],A2:=A,c2:=c }
theorem Ztz(l:List Nt):((Zb l).all Value.dZ)=true:=RH (λ_=>rfl) l
theorem Zht{b:Sb}{x:Nt}(hb:Zs H b)(hl:b.nt.length<=1000000)(hx:aV H (.slice x.A x.ps.length x.c) x.ps) :
  LL.Zc P 66 #[b.v,Zi5 x] H λv H'=>bO H H'/\∃A c,v=(S7 b x A c).v/\Zs H' (S7 b x A c):=by
 refine aO.m (cF ZxW) (args:=[b.v,Zi5 x]) rfl ?_;unfold Zlf Sb.v;refine Y ?_;refine RF (dC yI) (eI MU) (OL _) λr1 pL=>?_;refine Zq OL (Y ?_);refine XP (l:=([]:List Nt)) (l':=b.nt) (dC yI) (dC yI) (eI MU) rfl (by decide) (Yg pL) (H0:=H) (b:=some r1) ⟨X2,λq e=>by obtain rfl:=dO e;exact pL⟩ (hb.nt.bA (Zt pL)) (Ztz _) (by simp;omega) O rfl rfl (OL _) λv2 H2 b2 s2 o2 c2=>?_;rw[qAx]at o2;refine Zq OL (Y ?_);refine Z0 (cs:=[.slice x.A x.ps.length x.c,vi x.lo,vi x.hi]) (OL _) rfl λr5 yW=>?_;refine Zq OL (Y ?_);refine Oa (l':=[x]) (dC yI) (dC yI) (eI MU) rfl (by decide) (s2.bA.trans (Zt yW)) (o2.ins yW) (Z2 (l:=[x])) rfl (by simp;omega) O rfl rfl (OL _) λv4 H4 b4 k1 k2 k3=>?_;obtain⟨A4,c4,rfl,q4⟩:=L5 k2;refine Y ?_;refine⟨k1,A4,c4,rfl,hb.pk.bA k1,k2.sl,λy hy=>?_,hb.q1,q4⟩;rcases qAS.1 hy with hy | hy
 ·exact(hb.ps y hy).bA k1
 rw[DO.1 hy];exact hx.bA k1
end
theorem ZoP{p:Program}{t:TypeId}{n1 n2 n3 n4:String}{t1 t2 t3 t4 o1 o2 o3 o4:Nat}{b:Bool}(h:DZ p t=some ([(n1,t1,o1),(n2,t2,o2),(n3,t3,o3),(n4,t4,o4)],b)):∃f1 f2 f3 f4:Field,p.underlying t=some (.struct #[f1,f2,f3,f4])/\(f1.name=n1/\f1.type=t1/\f1.offset=o1)/\(f2.name=n2/\f2.type=t2/\f2.offset=o2)/\(f3.name=n3/\f3.type=t3/\f3.offset=o3)/\(f4.name=n4/\f4.type=t4/\f4.offset=o4)/\p.stoodInHeld t=b:=by
 unfold DZ at h;split at h
 ·rename_i fs hu;obtain⟨fs⟩:=fs;simp only[iF,qAG]at h;obtain⟨h,h2⟩:=h;match fs,h with
  | [f1,f2,f3,f4],h=>
   simp only[qBo,qDb,qBp,qAG]at h;exact⟨f1,f2,f3,f4,hu,h.1,h.2.1,h.2.2.1,h.2.2.2.1,h2⟩
 simp at h
theorem s65:DZ Tryz.prog 65=some ([("In",3,0),("Out",3,1),("Begun",3,2),("Done",3,3)],false):=U
theorem g65:RQ Tryz.prog 65=false:=U
section
variable{P:bF}[Tz P]{H:Hp}{g:Bool}{d:Nat}
theorem Zvi{a:Wk}(Q:Bool->Bool->Hp->Prop)(g:Bool)(H:Hp)(hq:Q true g H):cD P.toPQ (Op.equalIn (d+1+1) 65 (.agg #[vi a.i,vi a.o,vi a.g,vi a.d]) (.agg #[vi a.i,vi a.o,vi a.g,vi a.d])) Q g H:=by have p1:∀(x y z u:Int) (Q:Value->Bool->Hp->Prop) g H,cD P.toPQ (part 3 #[vi x,vi y,vi z,vi u] 0) Q g H↔Q (vi x) g H:=λx y z u Q g H=>Vn rfl Q;have p2:∀(x y z u:Int) (Q:Value->Bool->Hp->Prop) g H,cD P.toPQ (part 3 #[vi x,vi y,vi z,vi u] 1) Q g H↔Q (vi y) g H:=λx y z u Q g H=>Vn rfl Q;have p3:∀(x y z u:Int) (Q:Value->Bool->Hp->Prop) g H,cD P.toPQ (part 3 #[vi x,vi y,vi z,vi u] 2) Q g H↔Q (vi z) g H:=λx y z u Q g H=>Vn rfl Q;have p4:∀(x y z u:Int) (Q:Value->Bool->Hp->Prop) g H,cD P.toPQ (part 3 #[vi x,vi y,vi z,vi u] 3) Q g H↔Q (vi u) g H:=λx y z u Q g H=>Vn rfl Q;obtain⟨f1,f2,f3,f4,hu,⟨n1,t1,o1⟩,⟨n2,t2,o2⟩,⟨n3,t3,o3⟩,⟨n4,t4,o4⟩,hs⟩:=ZoP (p:=P.toProgram) (by rw[Tz.prog (P:=P)];exact s65);rw[Op.equalIn];simp only[Zh,Zy hu,VZ,hs,iN,qAk,Zj];simp only[n1,n2,n3,n4,t1,t2,t3,t4,o1,o2,o3,o4,Zh,qCS,qBT,List.forIn_nil];simp[p1,p2,p3,p4,WO,Zh,Zj];exact hq
end
section
variable{P:bF}[Tz P][Loud P]{H:Hp}
theorem Xv{a:List Wk}(ha:aV H u a)(hb:aV H w a)(hl:a.length<=1000000):LL.Zc P 52 #[u,w] H λv H'=>H=H'/\v=vb true:=by
 refine aO.m (cF ZxZ) (args:=[u,w]) rfl ?_;unfold Zli;refine Y ?_;refine YD ha rfl (Y ?_);refine YD hb rfl (Y ?_);refine OI (λh0=>?_) (λh0=>?_)
 ·exact absurd rfl h0
 refine Y ?_;refine Zw a.length (λj H'=>H=H') (λj=>[(0,u),(1,w),(4,vb false),(5,vi j)]) (λ_=>[]) rfl V trivial ?_;rintro j _ hj rfl;refine Y ?_;refine YD ha rfl (Y ?_);refine OI (λh1=>?_) (λh1=>?_)
 ·have cH:j<a.length:=O;refine Y ?_;refine Zx ha rfl rfl rfl (i:=j) cH λp hp=>Y ?_;refine Zl (cs:=a[j].cells) (OL _) rfl hp rfl (Y ?_);refine Zx hb rfl rfl rfl (i:=j) cH λq hq=>Y ?_;refine Zl (cs:=a[j].cells) (OL _) rfl hq rfl (Y ?_);refine ZiG (b:=true) (xs:=#[vi a[j].i,vi a[j].o,vi a[j].g,vi a[j].d]) (ys:=#[vi a[j].i,vi a[j].o,vi a[j].g,vi a[j].d]) g65 (λQ g H hq=>Zvi Q g H hq) rfl rfl (Y ?_);exact⟨⟨j+1,O⟩,dX O,rfl,V,trivial,rfl⟩
 refine Y ?_;exact⟨rfl,rfl⟩
end
structure Yx(E:Int->List Value):Prop where
 len:∀z,(E z).length=8
 one:∀z,((E z).all Value.dZ)=true
def iQ(E:Int->List Value)(l:List Int):List Value:=l.flatMap E
abbrev rv(E:Int->List Value)(z:Int):Value:=.agg (E z).toArray
theorem LY{E:Int->List Value}(h:Yx E):∀l:List Int,(iQ E l).length=l.length * 8
 | []=>rfl
 | x :: l=>by rw[iQ,qAL,qAc,h.len];have:=LY h l;unfold iQ at this;rw[this,qAO];omega
theorem Zhz{E:Int->List Value}(h:Yx E)(z:Int):∀(l:List Int) (rest:List Value) (j:Nat) (_:j<l.length),ZH (iQ E l++rest) (j * 8) (E z)=iQ E (l.set j z)++rest
 | [],_,j,hj=>by simp at hj
 | x :: l,rest,0,_=>by simp only[iQ,qAL,List.set_cons_zero,ZH,qCm,qCM,qAx,qAu,h.len,qBy];rw[qDf,qCE (by rw[h.len];exact aC _),h.len];simp
 | x :: l,rest,j+1,hj=>by
  have ih:=Zhz h z l rest j (by simpa using hj);have e:iQ E (x :: l)++rest=E x++(iQ E l++rest):=by simp[iQ]
  rw[e,show(j+1) * 8=8+j * 8 by omega,SO (n:=8) (h.len x),ih];simp[iQ]
theorem ZhA{E:Int->List Value}(h:Yx E):∀(l:List Int) (j k:Nat),j<l.length->k<8->(iQ E l)[j * 8+k]? = (E (el l j))[k]?
 | [],j,_,hj,_=>by simp at hj
 | x :: l,0,k,_,hk=>by rw[iQ,qAL,qAN (by rw[h.len];omega)];show(E x)[0 * 8+k]? = (E x)[k]?;rw[qCm,qAu]
 | x :: l,j+1,k,hj,hk=>by have ih:=ZhA h l j k (by simpa using hj) hk;rw[iQ,qAL,qBH (by rw[h.len];omega),h.len,show(j+1) * 8+k-8=j * 8+k by omega];exact ih
structure AT(E:Int->List Value)(G H:Hp)(r:Nat)(l:List Int)(rest:List Value):Prop where
 keep:∀b x,b≠r->G b=some x->H b=some x
 at_:H r=some (.cells (iQ E l++rest).toArray 122 (0,0),true)
theorem AT.of{H:Hp}(h:H r=some (.cells (iQ E l++rest).toArray 122 (0,0),true)):AT E H H r l rest:=⟨λ_ _ _ h=>h,h⟩
theorem AT.trans{H H':Hp}{eZ:List Value}(h:AT E G H r l rest)(h':AT E H H' r l' eZ):AT E G H' r l' eZ:=⟨λb x hb hx=>h'.keep b x hb (h.keep b x hb hx),h'.at_⟩
theorem AT.set{H:Hp}(h:AT E G H r l rest)(l':List Int)(eZ:List Value):AT E G (H.ins r (.cells (iQ E l'++eZ).toArray 122)) r l' eZ:=
 ⟨λb x hb hx=>by rw[Hp.aE _ _ hb];exact h.keep b x hb hx,Hp.aF _ _ _⟩
theorem AT.new{H:Hp}{r':Nat}{o:Obj}(h:AT E G H r l rest)(hr:H r'=none):AT E G (H.ins r' o) r l rest:=
 ⟨λb x hb hx=>(Yg hr).mem _ _ (h.keep b x hb hx),(Yg hr).mem _ _ h.at_⟩
theorem AT.cA{H:Hp}(hE:Yx E)(h:AT E G H r l rest)(hj:i<l.length)(e:i=j:=by omega):aD H ((⟨r,0,none⟩:Addr).add (i * 8)) (E (el l j)):=by
 subst e;rw[Vw,qAu];refine⟨rfl,_,_,h.at_,λk hk=>?_⟩;have hk8:k<8:=by rw[hE.len]at hk;exact hk
 have e:=ZhA hE l i k hj hk8;have bV:i * 8+k<(iQ E l).length:=by rw[LY hE];omega
 have:(iQ E l++rest)[i * 8+k]? = (E (el l i))[k]?:=by rw[qAN bV,e]
 simpa[Obj.mH]using this
def YN(P:bF)(E:Int->List Value)(H:Hp)(r:Nat)(cv:Value)(S:Int->Prop):Prop:=
 ∀H',(∀b x,b≠r->H b=some x->H' b=some x)->∀p q,S p->S q->ZX P cv #[rv E p,rv E q] H' λv H2=>H'=H2/\v=vi (YL p q)
theorem Vv{a b:Int}:(YL a b<0)↔a<b:=by
 unfold YL;split
 ·simp;assumption
 split<;>simp<;>omega
theorem ZI(h:Rg a b l l')(hb:b<=l.length)(hS:∀k,k<l.length->S (el l k)){k:Nat}(hk:k<l'.length):S (el l' k):=by
 have hl:=h.len;by_cases h1:a<=k/\k<b
 ·exact h.all (p:=S) hb (λk h1 h2=>hS k O) k h1.1 h1.2
 rw[h.out hb O];exact hS k O
section
variable{P:bF}[Tz P][Loud P]{H:Hp}{d:Option Nat}{next:aN->Hp->Prop}{σ:aN}{x y:Operand}
theorem Z3{a:Addr}{ty:Nat}{n:Int}(hE:Yx E)(h:AT E G H r l rest)(hj:j<l.length)(e:a=(⟨r,0,none⟩:Addr).add (j * 8))(e1:σ.get x=some (.pointer (some a)))(e2:σ.get y=some (rv E n))
  (hn:∀H',AT E G H' r (l.set j n) rest->next (σ.set d undef) H'):(bC.raw (.store 122 x y) ty).m P d next σ H:=by
 subst e;rw[Vw,qAu]at e1;refine OD (eI Zg2) e1 e2 h.at_ (by show(E n).toArray.size=8;rw[List.size_toArray,hE.len]) (by rw[qAc,LY hE];omega) (hE.one n) (Loud.aL _) ?_;rw[show(rv E n).cells.toList=E n from rfl,Zhz hE n l rest j hj];exact hn _ (h.set _ _)
end
def Xx(P:bF)(f:Nat)(E:Int->List Value)(H:Hp)(r cap:Nat)(l:List Int)(rest:List Value)(a b:Nat)(more:List Value)(Q:Value->List Int->Prop):Prop:=
 LL.Zc P f (.slice (some ⟨r,0,none⟩) l.length cap :: vi a :: vi b :: more).toArray H λv H'=>∃l',AT E H H' r l' rest/\Rg a b l l'/\Q v l'
section
variable{P:bF}[Tz P][Loud P]{H:Hp}
theorem ZuF(hE:Yx E)(hA:H r=some (.cells (iQ E l++rest).toArray 122 (0,0),true))(rW:a<=b)(hb:b<=l.length)(hl:l.length<=1000000)(hC:YN P E H r cv S)(hS:∀k,k<l.length->S (el l k)) :
  Xx P 233 E H r cap l rest a b [cv] λ_ l'=>So a b l':=by
 refine aO.m (cF Znc) (args:=[.slice (some ⟨r,0,none⟩) l.length cap,vi a,vi b,cv]) rfl ?_;unfold Nl;refine Y ?_;refine ZQ (α:=List Int) (b-(a+1)) (λj c H'=>AT E H H' r c rest/\Rg a b l c/\So a (a+1+j) c) (λj c=>[(0,.slice (some ⟨r,0,none⟩) l.length cap),(1,vi a),(2,vi b),(3,cv),(8,vi ((a+1+j:Nat):Int))]) (λj c=>[]) l ⟨AT.of hA,.refl l,Um l O⟩ V trivial ?_;rintro i c H1 hi ⟨ar,rg,so⟩;have bU:=rg.len;refine Y ?_;refine OI (λg1=>?_) (λg1=>?_)
 ·have g1:a+1+i<b:=O;refine Y ?_;refine ZQ (α:=List Int) (i+1) (λk c' H'=>AT E H H' r c' rest/\Rg a b l c'/\(∀x y,a<=x->x<=y->y<=a+1+i->x≠a+1+i-k->y≠a+1+i-k->el c' x<=el c' y)/\(∀y,a+1+i-k<y->y<=a+1+i->el c' (a+1+i-k)<=el c' y))
   (λk c'=>[(0,.slice (some ⟨r,0,none⟩) l.length cap),(1,vi a),(2,vi b),(3,cv),(8,vi ((a+1+i:Nat):Int)),(9,vi ((a+1+i-k:Nat):Int))]) (λk c'=>[]) c ⟨ar,rg,λx y h1 h2 h3 h4 h5=>so x y h1 h2 O,λy h1 h2=>O⟩ V trivial ?_
  rintro k c' H2 hk ⟨kG,mW,lM,pK⟩;have mB:=mW.len;have IP:a+1+i-k<l.length:=O;obtain⟨j,hj⟩:∃j,a+1+i-k=j:=⟨_,rfl⟩;rw[hj]at lM pK ⊢;refine Y ?_;refine OI (λha=>?_) (λha=>?_)
  ·have ha:a<j:=O;refine Y ?_;refine Zd j rfl rfl O O (Y ?_);refine Zl (Loud.aL _) rfl (AT.cA hE kG O rfl) (Yx.len hE _) (Y ?_);refine Zd (j-1) rfl rfl O O (Y ?_);refine Zl (Loud.aL _) rfl (AT.cA hE kG O rfl) (Yx.len hE _) (Y ?_);refine ZN rfl rfl (hC _ (AT.keep kG) _ _ (ZI mW hb hS O) (ZI mW hb hS O)) ?_;intro vW KW hW;obtain⟨eA,eB⟩:=hW;subst eA eB;refine Y ?_;refine OI (λsV=>?_) (λsV=>?_);all_goals rw[Vv]at sV
   ·refine Y ?_;refine Zd (j-1) rfl rfl O O (Y ?_);refine Zl (Loud.aL _) rfl (AT.cA hE kG O rfl) (Yx.len hE _) (Y ?_);refine Zd j rfl rfl O O (Y ?_);refine Zl (Loud.aL _) rfl (AT.cA hE kG O rfl) (Yx.len hE _) (Y ?_);refine Zd j rfl rfl O O (Y ?_);refine Z3 hE kG O rfl rfl rfl λHW fQ=>?_;refine Zq Loud.aL (Y ?_);refine Zd (j-1) rfl rfl O O (Y ?_);refine Z3 hE fQ (by rw[IF];omega) rfl rfl rfl λH4 dV=>Y ?_;have lA:(c'.set j (el c' (j-1))).set (j-1) (el c' j)=cY c' j (j-1):=rfl;rw[lA]at dV;have pV:∀x,el (cY c' j (j-1)) x=if x=j-1 then el c' j else if x=j then el c' (j-1)else el c' x:=λx=>Yi x O O
    have jD:∀x,x≠j-1->el (cY c' j (j-1)) x=if x=j then el c' (j-1)else el c' x:=λx hx=>by rw[pV,bY hx]
    have rJ:el (cY c' j (j-1)) (j-1)=el c' j:=by rw[pV,iO rfl]
    have rU:a+1+i-(k+1)=j-1:=O;refine⟨(⟨k+1,O⟩,cY c' j (j-1)),dX O,⟨dV,.step _ _ mW O O O O,?_,?_⟩,⟨rfl,rfl,rfl,rfl,rfl,?_,trivial⟩,trivial,rfl⟩
    ·show ∀x y,a<=x->x<=y->y<=a+1+i->x≠a+1+i-(k+1)->y≠a+1+i-(k+1)->_;intro x y h1 h2 h3 h4 h5;rw[rU]at h4 h5;rw[jD x h4,jD y h5];by_cases hx:x=j
     ·rw[iO hx];by_cases hy:y=j
      ·rw[iO hy];exact qAy _
      rw[bY hy];exact lM _ _ O O h3 O hy
     rw[bY hx];by_cases hy:y=j
     ·rw[iO hy];exact lM _ _ h1 O O hx O
     rw[bY hy];exact lM _ _ h1 h2 h3 hx hy
    ·show ∀y,a+1+i-(k+1)<y->y<=a+1+i->el (cY c' j (j-1)) (a+1+i-(k+1))<=_;intro y h1 h2;rw[rU]at h1 ⊢;rw[rJ,jD y O];by_cases hy:y=j
     ·rw[iO hy];omega
     rw[bY hy];exact pK _ O h2
    show some (vi ((j:Int)-1))=some (vi ((a+1+i-(k+1):Nat):Int));rw[show(a+1+i-(k+1):Nat)=j-1 by omega,show((j-1:Nat):Int)=(j:Int)-1 by omega]
   refine Y ?_;refine⟨(⟨i+1,O⟩,c'),dX O,⟨kG,mW,?_⟩,V,trivial,rfl⟩;show So a (a+1+(i+1)) c';refine V5 λx h1 h2=>?_;by_cases e1:x=j
   ·subst e1;exact pK _ O O
   by_cases e2:x+1=j
   ·subst e2;rw[qBb]at sV;omega
   exact lM _ _ h1 O O e1 e2
  have ha:j=a:=O;subst ha;refine Y ?_;refine⟨(⟨i+1,O⟩,c'),dX O,⟨kG,mW,?_⟩,V,trivial,rfl⟩;refine V5 λx h1 h2=>?_;have h2:x+1<j+1+(i+1):=h2;by_cases e1:x=j
  ·subst e1;exact pK _ O O
  exact lM _ _ h1 O O e1 O
 refine Y ?_;refine⟨c,ar,rg,?_⟩;intro x y h1 h2 h3;exact so x y h1 h2 O
end
abbrev lO:=Option Addr×Nat×Nat
abbrev nC(q:lO):Value:=.slice q.1 q.2.1 q.2.2
def pI(E:Int->lO)(l:List Int):List Value:=l.map λz=>nC (E z)
theorem ZgJ{E:Int->lO}(l:List Int):(pI E l).length=l.length:=by simp[pI]
theorem Zn2{E:Int->lO}(z:Int)(l:List Int)(rest:List Value)(j:Nat)(hj:j<l.length):ZH (pI E l++rest) j [nC (E z)]=pI E (l.set j z)++rest:=by
 induction l generalizing j with
 | nil=>simp at hj
 | cons x l ih=>
  cases j with
  | zero=>simp[pI,ZH]
  | succ j=>
   have e:pI E (x :: l)++rest=[nC (E x)]++(pI E l++rest):=by simp[pI]
   rw[e,show j+1=1+j by omega,SO (n:=1) rfl,ih j (by simpa using hj)];simp[pI,Nat.add_comm 1 j]
theorem Zn3{E:Int->lO}(l:List Int)(j:Nat)(hj:j<l.length):(pI E l)[j]? = some (nC (E (el l j))):=by
 induction l generalizing j with
 | nil=>simp at hj
 | cons x l ih=>
  cases j with
  | zero=>rfl
  | succ j=>exact ih j (by simpa using hj)
structure AU(E:Int->lO)(G H:Hp)(r:Nat)(l:List Int)(rest:List Value):Prop where
 keep:∀b x,b≠r->G b=some x->H b=some x
 at_:H r=some (.cells (pI E l++rest).toArray 26 (0,0),true)
theorem AU.of{E:Int->lO}{H:Hp}(h:H r=some (.cells (pI E l++rest).toArray 26 (0,0),true)):AU E H H r l rest:=⟨λ_ _ _ h=>h,h⟩
theorem AU.set{E:Int->lO}{H:Hp}(h:AU E G H r l rest)(l':List Int)(eZ:List Value):AU E G (H.ins r (.cells (pI E l'++eZ).toArray 26)) r l' eZ:=
 ⟨λb x hb hx=>by rw[Hp.aE _ _ hb];exact h.keep b x hb hx,Hp.aF _ _ _⟩
theorem AU.cA{E:Int->lO}{H:Hp}(h:AU E G H r l rest)(hj:i<l.length)(e:i=j:=by omega):aD H ((⟨r,0,none⟩:Addr).add (i * 1)) [nC (E (el l j))]:=by
 subst e;rw[Vw,qAu,Nat.mul_one];refine⟨rfl,_,_,h.at_,λk hk=>?_⟩;have IM:k=0:=by simpa using hk
 subst IM;have e:=Zn3 (E:=E) l i hj;have bV:i<(pI E l).length:=by rw[ZgJ];omega
 have:(pI E l++rest)[i]? = some (nC (E (el l i))):=by rw[qAN bV,e]
 simpa[Obj.mH]using this
def RJ(P:bF)(E:Int->lO)(H:Hp)(r:Nat)(cv:Value)(S:Int->Prop):Prop:=
 ∀H',(∀b x,b≠r->H b=some x->H' b=some x)->∀p q,S p->S q->ZX P cv #[nC (E p),nC (E q)] H' λv H2=>H'=H2/\v=vi (YL p q)
section
variable{P:bF}[Tz P][Loud P]{H:Hp}{d:Option Nat}{next:aN->Hp->Prop}{σ:aN}{x y:Operand}
theorem ZiC{E:Int->lO}{a:Addr}{n:Int}(h:AU E G H r l rest)(hj:j<l.length)(e:a=(⟨r,0,none⟩:Addr).add (j * 1))(e1:σ.get x=some (.pointer (some a)))(e2:σ.get y=some (nC (E n)))
  (hn:∀H',AU E G H' r (l.set j n) rest->next (σ.set d undef) H'):(bC.raw (.store 26 x y) 0).m P d next σ H:=by
 subst e;rw[Vw,qAu,Nat.mul_one]at e1;refine OD (eI TK) e1 e2 h.at_ rfl (by rw[qAc,ZgJ];omega) rfl (Loud.aL _) ?_;rw[show(nC (E n)).cells.toList=[nC (E n)]from rfl,Zn2 n l rest j hj];exact hn _ (h.set _ _)
end
def ZyU(P:bF)(f:Nat)(E:Int->lO)(H:Hp)(r cap:Nat)(l:List Int)(rest:List Value)(a b:Nat)(more:List Value)(Q:Value->List Int->Prop):Prop:=
 LL.Zc P f (.slice (some ⟨r,0,none⟩) l.length cap :: vi a :: vi b :: more).toArray H λv H'=>∃l',AU E H H' r l' rest/\Rg a b l l'/\Q v l'
section
variable{P:bF}[Tz P][Loud P]{H:Hp}
theorem ZuD{E:Int->lO}(hA:H r=some (.cells (pI E l++rest).toArray 26 (0,0),true))(rW:a<=b)(hb:b<=l.length)(hl:l.length<=1000000)(hC:RJ P E H r cv S)(hS:∀k,k<l.length->S (el l k)) :
  ZyU P 207 E H r cap l rest a b [cv] λ_ l'=>So a b l':=by
 refine aO.m (cF ZwV) (args:=[.slice (some ⟨r,0,none⟩) l.length cap,vi a,vi b,cv]) rfl ?_;unfold Zke;refine Y ?_;refine ZQ (α:=List Int) (b-(a+1)) (λj c H'=>AU E H H' r c rest/\Rg a b l c/\So a (a+1+j) c) (λj c=>[(0,.slice (some ⟨r,0,none⟩) l.length cap),(1,vi a),(2,vi b),(3,cv),(8,vi ((a+1+j:Nat):Int))]) (λj c=>[]) l ⟨AU.of hA,.refl l,Um l O⟩ V trivial ?_;rintro i c H1 hi ⟨ar,rg,so⟩;have bU:=rg.len;refine Y ?_;refine OI (λg1=>?_) (λg1=>?_)
 ·have g1:a+1+i<b:=O;refine Y ?_;refine ZQ (α:=List Int) (i+1) (λk c' H'=>AU E H H' r c' rest/\Rg a b l c'/\(∀x y,a<=x->x<=y->y<=a+1+i->x≠a+1+i-k->y≠a+1+i-k->el c' x<=el c' y)/\(∀y,a+1+i-k<y->y<=a+1+i->el c' (a+1+i-k)<=el c' y))
   (λk c'=>[(0,.slice (some ⟨r,0,none⟩) l.length cap),(1,vi a),(2,vi b),(3,cv),(8,vi ((a+1+i:Nat):Int)),(9,vi ((a+1+i-k:Nat):Int))]) (λk c'=>[]) c ⟨ar,rg,λx y h1 h2 h3 h4 h5=>so x y h1 h2 O,λy h1 h2=>O⟩ V trivial ?_
  rintro k c' H2 hk ⟨kG,mW,lM,pK⟩;have mB:=mW.len;have IP:a+1+i-k<l.length:=O;obtain⟨j,hj⟩:∃j,a+1+i-k=j:=⟨_,rfl⟩;rw[hj]at lM pK ⊢;refine Y ?_;refine OI (λha=>?_) (λha=>?_)
  ·have ha:a<j:=O;refine Y ?_;refine Zd j rfl rfl O O (Y ?_);refine Zg (Loud.aL _) rfl (AU.cA kG O rfl) (Y ?_);refine Zd (j-1) rfl rfl O O (Y ?_);refine Zg (Loud.aL _) rfl (AU.cA kG O rfl) (Y ?_);refine ZN rfl rfl (hC _ (AU.keep kG) _ _ (ZI mW hb hS O) (ZI mW hb hS O)) ?_;intro vW KW hW;obtain⟨eA,eB⟩:=hW;subst eA eB;refine Y ?_;refine OI (λsV=>?_) (λsV=>?_);all_goals rw[Vv]at sV
   ·refine Y ?_;refine Zd (j-1) rfl rfl O O (Y ?_);refine Zg (Loud.aL _) rfl (AU.cA kG O rfl) (Y ?_);refine Zd j rfl rfl O O (Y ?_);refine Zg (Loud.aL _) rfl (AU.cA kG O rfl) (Y ?_);refine Zd j rfl rfl O O (Y ?_);refine ZiC kG O rfl rfl rfl λHW fQ=>?_;refine Zq Loud.aL (Y ?_);refine Zd (j-1) rfl rfl O O (Y ?_);refine ZiC fQ (by rw[IF];omega) rfl rfl rfl λH4 dV=>Y ?_;have lA:(c'.set j (el c' (j-1))).set (j-1) (el c' j)=cY c' j (j-1):=rfl;rw[lA]at dV;have pV:∀x,el (cY c' j (j-1)) x=if x=j-1 then el c' j else if x=j then el c' (j-1)else el c' x:=λx=>Yi x O O
    have jD:∀x,x≠j-1->el (cY c' j (j-1)) x=if x=j then el c' (j-1)else el c' x:=λx hx=>by rw[pV,bY hx]
    have rJ:el (cY c' j (j-1)) (j-1)=el c' j:=by rw[pV,iO rfl]
    have rU:a+1+i-(k+1)=j-1:=O;refine⟨(⟨k+1,O⟩,cY c' j (j-1)),dX O,⟨dV,.step _ _ mW O O O O,?_,?_⟩,⟨rfl,rfl,rfl,rfl,rfl,?_,trivial⟩,trivial,rfl⟩
    ·show ∀x y,a<=x->x<=y->y<=a+1+i->x≠a+1+i-(k+1)->y≠a+1+i-(k+1)->_;intro x y h1 h2 h3 h4 h5;rw[rU]at h4 h5;rw[jD x h4,jD y h5];by_cases hx:x=j
     ·rw[iO hx];by_cases hy:y=j
      ·rw[iO hy];exact qAy _
      rw[bY hy];exact lM _ _ O O h3 O hy
     rw[bY hx];by_cases hy:y=j
     ·rw[iO hy];exact lM _ _ h1 O O hx O
     rw[bY hy];exact lM _ _ h1 h2 h3 hx hy
    ·show ∀y,a+1+i-(k+1)<y->y<=a+1+i->el (cY c' j (j-1)) (a+1+i-(k+1))<=_;intro y h1 h2;rw[rU]at h1 ⊢;rw[rJ,jD y O];by_cases hy:y=j
     ·rw[iO hy];omega
     rw[bY hy];exact pK _ O h2
    show some (vi ((j:Int)-1))=some (vi ((a+1+i-(k+1):Nat):Int));rw[show(a+1+i-(k+1):Nat)=j-1 by omega,show((j-1:Nat):Int)=(j:Int)-1 by omega]
   refine Y ?_;refine⟨(⟨i+1,O⟩,c'),dX O,⟨kG,mW,?_⟩,V,trivial,rfl⟩;show So a (a+1+(i+1)) c';refine V5 λx h1 h2=>?_;by_cases e1:x=j
   ·subst e1;exact pK _ O O
   by_cases e2:x+1=j
   ·subst e2;rw[qBb]at sV;omega
   exact lM _ _ h1 O O e1 e2
  have ha:j=a:=O;subst ha;refine Y ?_;refine⟨(⟨i+1,O⟩,c'),dX O,⟨kG,mW,?_⟩,V,trivial,rfl⟩;refine V5 λx h1 h2=>?_;have h2:x+1<j+1+(i+1):=h2;by_cases e1:x=j
  ·subst e1;exact pK _ O O
  exact lM _ _ h1 O O e1 O
 refine Y ?_;refine⟨c,ar,rg,?_⟩;intro x y h1 h2 h3;exact so x y h1 h2 O
theorem ZuG{E:Int->lO}(hC:RJ P E H r cv S)(hS:∀k,k<l.length->S (el l k))(hA:H r=some (.cells (pI E l++rest).toArray 26 (0,0),true))(hn:l.length=n)(hl:n<=12) :
  LL.Zc P 207 #[.slice (some ⟨r,0,none⟩) n cap,vi 0,vi n,cv] H λ_ H'=>∃l',AU E H H' r l' rest/\Rg 0 n l l'/\So 0 n l':=by
 subst hn;exact ZuD (a:=0) (b:=l.length) hA (qAR _) (aC _) O hC hS
theorem ZsN{lE:Nat}{E:Int->lO}(hC:RJ P E H r cv S)(hS:∀k,k<l.length->S (el l k))(hA:H r=some (.cells (pI E l++rest).toArray 26 (0,0),true))(hn:l.length=n)(hl:n<=12) :
  LL.Zc P 161 #[.slice (some ⟨r,0,none⟩) n cap,vi 0,vi n,vi lE,cv] H λ_ H'=>∃l',AU E H H' r l' rest/\Rg 0 n l l'/\So 0 n l':=by
 refine aO.m (cF Zw5) (args:=[.slice (some ⟨r,0,none⟩) n cap,vi 0,vi n,vi lE,cv]) rfl ?_;unfold Zko;refine OB ?_;refine Zw 0 (λ_ H'=>H=H') (λ_=>[(0,.slice (some ⟨r,0,none⟩) n cap),(1,vi 0),(2,vi n),(4,cv)]) (λ_=>[]) rfl V trivial ?_;rintro _ _ _ rfl;refine Y ?_;refine OI (λc1=>?_) (λc1=>?_)
 ·refine Y ?_;refine Za (vs:=[.slice (some ⟨r,0,none⟩) n cap,vi 0,vi n,cv]) rfl (ZuG hC hS hA hn hl) ?_;rintro v H2 ⟨c2,kV,nR,D0⟩;refine Y ?_;exact⟨c2,kV,nR,D0⟩
 exfalso;omega
theorem ZoS{E:Int->lO}(hC:RJ P E H r cv S)(hS:∀k,k<l.length->S (el l k))(hA:H r=some (.cells (pI E l++rest).toArray 26 (0,0),true))(hn:l.length=n)(hl:n<=12) :
  LL.Zc P 116 #[.slice (some ⟨r,0,none⟩) n cap,cv] H λ_ H'=>∃l',AU E H H' r l' rest/\Rg 0 n l l'/\So 0 n l':=by
 refine aO.m (cF Zxu) (args:=[.slice (some ⟨r,0,none⟩) n cap,cv]) rfl ?_;unfold ZkN;refine Y ?_;refine Vr (dC tX) (dC O3) rfl ?_;rw[VY (m:=n) O];refine Y ?_;refine Za (vs:=[.int .u64 n]) rfl (RK O) ?_;rintro w _ ⟨rfl,rfl⟩;refine Y ?_;refine Za (vs:=[.slice (some ⟨r,0,none⟩) n cap,vi 0,vi n,vi (fS n:Nat),cv]) rfl (ZsN hC hS hA hn hl) ?_;rintro v H2 h;refine Y ?_;exact h
end
instance:Enc lO:=⟨1,λq=>[nC q],λ_=>rfl⟩
def US(q:lO):Int:=(q.2.1:Int)
section
variable{P:bF}[Tz P][Loud P]{H:Hp}
theorem ZlV(q:lO):LL.Zc P 119 #[nC q] H λv H'=>H=H'/\v=vi (US q):=by refine aO.m (cF Zxs) (args:=[nC q]) rfl ?_;unfold ZkL;refine Y ?_;exact⟨rfl,rfl⟩
theorem Zuj{v:Value}{l:List lO}(hl:aV H v l)(hn:l.length<=1000000):LL.Zc P 163 #[.agg #[vf 119],v] H λw H'=>H=H'/\w=vi (Zp (l.map US)):=by
 refine aO.m (cF Zw4) (args:=[.agg #[vf 119],v]) rfl ?_;unfold Zkn;obtain⟨K,hK⟩:∃K,K=l.map US:=⟨_,rfl⟩;rw[<-hK];have Jd:K.length=l.length:=by rw[hK,qAs]
 have pV:∀j (hj:j<l.length),el K j=US l[j]:=λj hj=>by rw[Uu O];simp[hK]
 refine Y ?_;refine YD hl rfl (Y ?_);refine Zw l.length (λj H'=>H=H') (λj=>[(1,v),(2,vi 0),(5,vi (eF K j)),(8,vi l.length),(9,vi j)]) (λj=>[(2,[vf 119])]) rfl V V ?_;rintro j _ hj rfl;refine Y ?_;refine OI (λh1=>?_) (λh1=>?_)
 ·have cH:j<l.length:=O;have hk:eF K j<l.length:=by
   by_cases h0:j=0
   ·rw[h0,eF];omega
   have:=RV (l:=K) j O;omega
  have e1:=pV j cH;have e2:=pV _ hk;refine Y ?_;refine Zx hl rfl rfl rfl (i:=j) cH λa ha=>?_;generalize l[j]=x at *;refine Y ?_;refine Zg (OL _) rfl ha (Y ?_);refine Zx hl rfl rfl rfl (i:=eF K j) hk λa hb=>?_;generalize l[eF K j]=y at *;refine Y ?_;refine Zg (OL _) rfl hb (Y ?_);refine ZN (vs:=[nC x]) rfl rfl (Yk U (ZlV x)) ?_;rintro w _ ⟨rfl,rfl⟩;refine Y ?_;refine ZN (vs:=[nC y]) rfl rfl (Yk U (ZlV y)) ?_;rintro w _ ⟨rfl,rfl⟩;refine Y ?_;rw[<-e1,<-e2];refine OI (λh2=>?_) (λh2=>?_)
  ·have e:eF K (j+1)=j:=by rw[eF,iO h2]
   refine Y ?_;exact⟨⟨j+1,O⟩,dX O,rfl,⟨rfl,rfl,by rw[e];rfl,rfl,rfl,trivial⟩,V,rfl⟩
  have e:eF K (j+1)=eF K j:=by rw[eF,bY h2]
  refine Y ?_;exact⟨⟨j+1,O⟩,dX O,rfl,⟨rfl,rfl,by rw[e];rfl,rfl,rfl,trivial⟩,V,rfl⟩
 have:j=l.length:=O;subst this;refine Y ?_;refine⟨rfl,?_⟩;show vi (eF K l.length)=vi (Zp K);rw[Zp,Jd]
theorem ZsH{A:Option Addr}{c:Nat}{l:List lO}(hl:aV H (.slice A l.length c) l)(dG:l≠[])(hn:l.length<=1000000):LL.Zc P 118 #[.agg #[vf 119],.slice A l.length c] H λw H'=>H=H'/\∃h:Zp (l.map US)<l.length,w=nC l[Zp (l.map US)]:=by
 refine aO.m (cF Zxt) (args:=[.agg #[vf 119],.slice A l.length c]) rfl ?_;unfold ZkM;have hk:Zp (l.map US)<l.length:=by have:=RU (l:=l.map US) (by simpa using dG);rwa [qAs]at this
 refine Y ?_;refine Za (vs:=[.agg #[vf 119],.slice A l.length c]) rfl (Zuj hl hn) ?_;rintro w _ ⟨rfl,rfl⟩;refine Y ?_;refine Zx hl rfl rfl rfl (i:=Zp (l.map US)) hk λa ha=>Y ?_;refine Zg (OL _) rfl ha (Y ?_);exact⟨rfl,hk,rfl⟩
end
end
theorem Zhx{b o:Sb}(h:o.pk.length=b.pk.length)(hp:∀j,(aZ o j).lo=(aZ b j).lo/\(aZ o j).hi=(aZ b j).hi)(hr:∀t,fE o t=fE b t):∀(r:Nat) (m:N4),dS o r m=dS b r m
 | 0,m=>by rw[dS,dS,hr]
 | r+1,m=>by rw[dS,dS,h,(hp _).1,(hp _).2];congr 1;funext v;exact Zhx h hp hr r _
theorem Xu{b o:Sb}(h:o.pk.length=b.pk.length)(hp:∀j,(aZ o j).lo=(aZ b j).lo/\(aZ o j).hi=(aZ b j).hi)(hr:∀t,fE o t=fE b t):Zi o=Zi b:=by rw[Zi,Zi,h,Zhx h hp hr]
def Bef(l:List Int)(y x:Int):Prop:=∃a c,l=a++y :: c/\x∈c
def busy(z:Int)(l:List Int):Nat:=(l.filter λf=>decide (z<f)).length
section
variable{b:Sb}{t:N4}{l:List Int}
def s1(b:Sb)(t:N4)(l:List Int)(j:Nat):List Wk×List Int:=(l.take j).foldl (oP t) (CS b)
def s2(b:Sb)(t:N4)(l:List Int)(j:Nat):List Wk×List Int:=((V1 b t l).take j).foldl (nM b) ((tL b t l).1,List.replicate b.hd.toNat 0)
end
theorem Bef.pos{l:List Int}(hd:l.Nodup){i k:Nat}(hi:i<l.length)(hk:k<l.length)(h:Bef l (el l i) (el l k)):i<k:=by
 obtain⟨a,c,e,hc⟩:=h;obtain⟨q,hq,e2⟩:=qAJ.1 hc;have e3:el l i=el l a.length:=by
  conv=>rhs;rw[e]
  simp[el]
 have e4:el l k=el l (a.length+1+q):=by
  conv=>rhs;rw[e]
  rw[el,el,ZA (l:=a++el l i :: c) (by simp;omega),qCs O];have:a.length+1+q-a.length=q+1:=O;simp only[this,List.getElem_cons_succ];exact e2.symm
 have dJ:l.length=a.length+1+c.length:=by
  conv=>lhs;rw[e]
  simp;omega
 have inj:∀{x y:Nat},x<l.length->y<l.length->el l x=el l y->x=y:=λhx hy e=>by rw[el,el,ZA hx,ZA hy]at e;exact(qDc hd).1 e
 have:=inj hi O e3;have:=inj hk O e4;omega
theorem Ziw{b:Sb}(ok:fN b):∀j,j<=b.pk.length->pR b.pk j=0
 | 0,_=>rfl
 | j+1,hj=>by have cH:j<b.pk.length:=hj;obtain⟨h1,h2⟩:=ok.nm j cH;obtain⟨g1,g2,g3,g4⟩:=ok.pk j cH;rw[pR,bY (by rw[Ziw ok j O];decide),ZA cH,VB,bY (by rw[h1];decide),bY (by rw[h2];decide),bY];rw[qU,decide_eq_true g1,decide_eq_true g2,decide_eq_true g3,decide_eq_true g4];decide
theorem Zi7{n:Nat}:∀{l:List Nt},(∀x∈l,x.ps≠[]/\TH n x.ps/\(0<=x.lo/\x.lo<=x.hi/\x.hi<=80))->uE n l=0
 | [],_=>rfl
 | x :: l,h=>by
  obtain⟨h1,h2,h3⟩:=h x (by simp);have e:Ve n x=0:=by rw[Ve,bY (by rwa [List.length_eq_zero_iff]),bY (by rw[Znn h2 _ (aC _)];decide),bY O]
  rw[uE,bY (by rw[e];decide),Zi7 λy hy=>h y (by simp[hy])]
theorem RE{b:Sb}(ok:fN b):ZF b=0:=by
 have h1:YP b=0:=iO ⟨ok.pl,ok.hd,ok.td⟩;have h2:Yr b=0:=by have:=ok.n;rw[Yr,bY O,Ziw ok _ (aC _)]
 have h3:YU b=0:=by have:=ok.nn;rw[YU,bY O,Zi7 ok.nt]
 rw[ZF,bY O,bY O,h3]
theorem fN.pJ{b:Sb}(ok:fN b):b.Sz:=ok.sz λp hp=>by obtain⟨i,hi,rfl⟩:=qAJ.1 hp;have h:=(ok.nm i hi).1;rw[tN,BY,decide_eq_true_iff]at h;omega
def bS(b:Sb):Int:=if Zi b=[]then 9 else 0
theorem lT{b:Sb}(ok:fN b):Zn b 0=bS b:=by
 rw[Zn,RE ok,bY (by decide),bY (by decide),bS];by_cases h:Zi b=[]
 ·rw[iO h,iO (by rw[h];rfl)]
 rw[bY h,bY (by rw[List.length_eq_zero_iff];exact h)]
theorem CG{b:Sb}(h:Zi b≠[]):bS b=0:=bY h
theorem Km{b:Sb}:bS b=0↔Zi b≠[]:=by
 unfold bS;split
 ·rename_i h;exact⟨λe=>by simp at e,λe=>absurd h e⟩
 rename_i h;exact⟨λ_=>h,λ_=>rfl⟩
