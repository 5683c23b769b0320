import Derived.Test.YtlhomfgcibjccaaGreatDoorP23
import Derived.Test.YtlhomfgcibjccaaGreatDoorP24
import Derived.Test.YtlhomfgcibjccaaGreatDoorP26
import Derived.Test.YtlhomfgcibjccaaGreatDoorP28
import Derived.Test.YtlhomfgcibjccaaGreatDoorP29
import Derived.Test.YtlhomfgcibjccaaGreatDoorP30
import Derived.Test.YtlhomfgcibjccaaGreatDoorP31
import Derived.Test.YtlhomfgcibjccaaGreatDoorP32
import Derived.Test.YtlhomfgcibjccaaGreatDoorP33
set_option linter.all false
set_option maxHeartbeats 8000000
set_option maxRecDepth 20000
open Go Go.LL
namespace Go.Proofs
section
variable{G:Hp}{n i j a b r cap:Nat}{u w cv:Value}{E:Int->List Value}{l l':List Int}{rest:List Value}{S:Int->Prop}
def ZhU{G:Prop} (h:G:=by refine Y ?_;refine Zs0 (α:=N4) (m:=Zx s.1 k (ZC s.1 k)) (a:=k) (kv:=Zu) (w:=ZC s.1 k+1) rfl (by rw[(Kg s.1 k _).1];rfl) rfl (Hp.aG _ _ _) (by rw[(Kg s.1 k _).1];exact(Kg s.1 k _).2) (OL _) ?_;rw[Us,rX];refine Y ?_;refine Ji (α:=N4) (m:=Zx s.1 k (ZC s.1 k+1)) (a:=k) (kv:=Zu) (bI QL) QJ (cD t3) rfl rfl (Hp.aG _ _ _) (OL _) (Y ?_);refine q8 rfl rfl (Y ?_);exact⟨⟨j+1,O⟩,bN O,⟨FT i5 Ee,by rw[tF,NB];exact Hp.aG _ _ _⟩,⟨rfl,rfl,rfl,rfl,rfl,rfl,by rw[tF,NB];rfl,rfl,rfl,rfl,rfl,rfl,trivial⟩,V,rfl⟩):G:=h
def QL:Tryz.prog.underlying 157=some (.map 105 3):=U
def Vp(i:Nat)(t:N4):N4:=(⟨0,0,0,0⟩:N4).put i (t.get i)
def UQ(i:Nat)(s:List (N4×Int)×Int)(t:N4):List (N4×Int)×Int:=
 (Zx s.1 (Vp i t) (ZC s.1 (Vp i t)+1),max s.2 (ZC (Zx s.1 (Vp i t) (ZC s.1 (Vp i t)+1)) (Vp i t)))
def xA(i:Nat)(c:List N4):Int:=(c.foldl (UQ i) ([],0)).2
def Y7(c:List N4):Nat->Int×Int
 | 0=>(-1,c.length)
 | i+1=>if xA i c<(Y7 c i).2 then((i:Int),xA i c)else Y7 c i
def ZlD{i:Nat}{ts:List N4}:∀j,j<=ts.length->(∀p∈((ts.take j).foldl (UQ i) ([],0)).1,0<=p.2)/\V3 (λ_=>true) ((ts.take j).foldl (UQ i) ([],0)).1<=j
 | 0,_=>⟨λp e=>by simp at e,by show(0:Int)<=0;omega⟩
 | j+1,k=>by
  have c:j<ts.length:=k;obtain⟨f,m⟩:=ZlD (i:=i) (ts:=ts) j O;rw[Oe _ _ c];generalize(ts.take j).foldl (UQ i) ([],0)=s at *;have o:=XK (a:=Vp i ts[j]) f;refine⟨λp e=>?_,?_⟩
  ·rcases Zlt e with⟨_,h⟩ | h | ⟨_,h⟩
   ·rw[h];omega
   ·exact f p h
   rw[h];omega
  show V3 _ (Zx s.1 _ _)<=_;rw[ZgZ,iF rfl];omega
section
variable{P:aX}[Tz P][Loud P]{H:Hp}
theorem Tk{b:Sb}(hb:Zr H b)(sz:b.Sz)(hg:Yk H) :
  LL.Zc P 59 #[b.v] H λv p=>aL H p/\v=.tuple #[vi (if Zl b 0=0 then(Y7 (Zi b) b.pk.length).1 else 0),vi (if Zl b 0=0 then(Y7 (Zi b) b.pk.length).2 else 0),vi (Zl b 0)]:=by
 refine aJ.m (bG ZxH) (args:=[b.v]) rfl ?_;unfold Zk4 Sb.v;refine Y ?_;refine Za [b.v,vf 101] (Ov hb sz hg X9) ?_;rintro v I ⟨W,hv⟩;rcases hv with⟨f,rfl⟩ | ⟨f,ok,U,w,bb,rfl,ow⟩
 ·unfold U1;rw[aT f,aT f];refine OJ (λC=>?_) (λC=>?_)
  ·refine Y ?_;exact⟨W,rfl⟩
  exact absurd C f
 rw[iF f,iF f,f];have B:=ow.sl;obtain⟨F,J,rfl,_⟩:=id B;have T:=UI ok;have SZ:=ok.n;generalize Zi b=ts at *;unfold ZU;refine Y ?_;refine Zv b.pk.length (λi p=>aL I p) (λi=>[(1,vi 0),(2,vi (Y7 ts i).1),(3,vi (Y7 ts i).2),(5,vi 0),(25,vi b.pk.length),(26,vi i)]) (λi=>[(1,b.cs),(5,[vi b.pl,vi b.hd,vi b.td,.slice b.A1 b.pk.length b.c1,.slice b.A2 b.nt.length b.c2,.slice F ts.length J])]) (.refl _) V V ?_;rintro i Q hi M;refine OJ (λC=>?_) (λC=>?_)
 ·have c:i<4:=O;refine Y ?_;refine ZsU (α:=N4) (kv:=Zu) (OL _) λq A=>?_;have i4:=M.trans (Zs (o:=YF Zu ([]:List (N4×Int))) A);have m4:(Q.ins q (YF Zu ([]:List (N4×Int)))) q=some (YF Zu ([]:List (N4×Int)),true):=Hp.aG _ _ _;have Ee:I q=none:=YL M A;generalize Q.ins q (YF Zu ([]:List (N4×Int)))=H4 at *;refine Y ?_;refine Zv ts.length (λj p=>aL I p/\p q=some (YF Zu ((ts.take j).foldl (UQ i) ([],0)).1,true))
   (λj=>[(1,vi 0),(2,vi (Y7 ts i).1),(3,vi (Y7 ts i).2),(5,vi 0),(6,vi i),(7,.map (some q)),(8,vi ((ts.take j).foldl (UQ i) ([],0)).2),(25,vi b.pk.length),(26,vi i),(31,.slice F ts.length J),(32,vi ts.length),(33,vi j)]) (λj=>[(1,b.cs),(5,[vi b.pl,vi b.hd,vi b.td,.slice b.A1 b.pk.length b.c1,.slice b.A2 b.nt.length b.c2,.slice F ts.length J])]) ⟨i4,m4⟩ V V ?_
  rintro j H5 hj ⟨i5,D⟩;refine OJ (λZ=>?_) (λZ=>?_)
  ·have z:j<ts.length:=O;have tF:=Oe (UQ i) ([],0) z;obtain⟨R,b2⟩:=ZlD (i:=i) (ts:=ts) j O;generalize(ts.take j).foldl (UQ i) ([],0)=s at *;refine Y ?_;refine Zz j (B.inc i5) z λa ha=>?_;generalize ts[j]=t at *;have Rf:=XK (a:=Vp i t) R;have Re:=Zl4 (a:=Vp i t) R;refine Y ?_;refine YA (cs:=t.cells) ha (Y ?_);refine CF (j:=i) rfl rfl c (Y ?_);refine FW (v:=vi (t.get i)) (OL _) rfl rfl (by
    match i,c with
    | 0,_=>rfl
    | 1,_=>rfl
    | 2,_=>rfl
    | 3,_=>rfl) ?_
   refine Y ?_;refine CF (j:=i) rfl rfl c (Y ?_);refine FX (OL _) rfl rfl rfl rfl (by show 0+i * 1+1<=4;omega) rfl ?_;have K:ZG [vi 0,vi 0,vi 0,vi 0] (0+i * 1) (Value.cells (vi (t.get i))).toList=(Vp i t).cells:=T4 ⟨0,0,0,0⟩ _ c;have NB:UQ i s t=(Zx s.1 (Vp i t) (ZC s.1 (Vp i t)+1),max s.2 (ZC (Zx s.1 (Vp i t) (ZC s.1 (Vp i t)+1)) (Vp i t))):=rfl;rw[K];generalize Vp i t=k at *;have hgp:ZC (Zx s.1 k (ZC s.1 k+1)) k=ZC s.1 k+1:=by rw[T5,iF rfl]
   refine Y ?_;refine Ztp (OL _) ?_ ?_
   ·refine Y ?_;refine Ji (α:=N4) (m:=s.1) (a:=k) (kv:=Zu) (bI QL) QJ (cD t3) rfl rfl D (OL _) (Y ?_);refine Ziw (α:=N4) (m:=s.1) (a:=k) (kv:=Zu) (bI QL) QJ (cD t3) rfl rfl D (OL _) ?_;refine Zp OL ?_;exact ZhU
   refine Y ?_;refine Ziw (α:=N4) (m:=s.1) (a:=k) (kv:=Zu) (bI QL) QJ (cD t3) rfl rfl D (OL _) (Y ?_);refine Ji (α:=N4) (m:=Zx s.1 k (ZC s.1 k)) (a:=k) (kv:=Zu) (bI QL) QJ (cD t3) rfl rfl (Hp.aG _ _ _) (OL _) ?_;refine Zp OL ?_;rw[T5,iF rfl];exact ZhU
  have:j=ts.length:=O;subst this;rw[IF]at D ⊢;have X:(ts.foldl (UQ i) ([],0)).2=xA i ts:=rfl;rw[X];refine OJ (λL=>?_) (λL=>?_)
  ·have e:Y7 ts (i+1)=((i:Int),xA i ts):=by rw[Y7,iF L]
   refine Y ?_;exact⟨⟨i+1,O⟩,bN O,i5,⟨rfl,by rw[e];rfl,by rw[e];rfl,rfl,rfl,rfl,trivial⟩,V,rfl⟩
  have e:Y7 ts (i+1)=Y7 ts i:=by rw[Y7,aT L]
  refine Y ?_;exact⟨⟨i+1,O⟩,bN O,i5,⟨rfl,by rw[e];rfl,by rw[e];rfl,rfl,rfl,rfl,trivial⟩,V,rfl⟩
 have:i=b.pk.length:=O;subst this;refine Y ?_;exact⟨W.trans M,rfl⟩
def Zon{p q:List Int}{x y:Te}(h:aF H (.slice x.A x.n x.c) p)(k:aF H (.slice y.A y.n y.c) q)(s:x.n=p.length)(t:y.n=q.length)(o:p.length<=1000000)(e:q.length<=1000000) :
  LL.Zc P 155 #[AF x.td (.slice x.A x.n x.c),AF y.td (.slice y.A y.n y.c)] H λv f=>H=f/\v=vi (VJ p q):=by
 refine aJ.m (bG ZwU) (args:=[AF x.td (.slice x.A x.n x.c),AF y.td (.slice y.A y.n y.c)]) rfl ?_;unfold Zkh;refine Y ?_;refine Za [.slice x.A x.n x.c,.slice y.A y.n y.c] (Tv h k o e (OL _)) ?_;rintro v _ ⟨rfl,rfl⟩;refine Y ?_;exact⟨rfl,rfl⟩
end
def Zvn:((List.range 24).all λi=>(List.range 24).all λj=>VJ ((ZB 4).getD i []) ((ZB 4).getD j []) == YM i j)=true:=by decide +kernel
def Zvo:((List.range 6).all λi=>(List.range 6).all λj=>VJ ((ZB 3).getD i []) ((ZB 3).getD j []) == YM i j)=true:=by decide +kernel
def Zvp:((List.range 2).all λi=>(List.range 2).all λj=>VJ ((ZB 2).getD i []) ((ZB 2).getD j []) == YM i j)=true:=by decide +kernel
def IB:(ZB 1).length=1/\(ZB 2).length=2/\(ZB 3).length=6/\(ZB 4).length=24:=by decide +kernel
def Zvq(t:1<=n/\n<=4)(k:1<=i/\i<=(ZB n).length)(m:1<=j/\j<=(ZB n).length):VJ (ZX n i) (ZX n j)=YM i j:=by
 obtain⟨o,p,q,s⟩:=IB;have key:∀N:Nat,(ZB n).length=N->((List.range N).all λi=>(List.range N).all λj=>VJ ((ZB n).getD i []) ((ZB n).getD j []) == YM i j)=true->VJ (ZX n i) (ZX n j)=YM i j:=by intro N c e;rw[c]at k m;have f:=IN.1 (IN.1 e (i-1) (qAl.2 O)) (j-1) (qAl.2 O);have h:=eq_of_beq f;unfold ZX;rw[h];unfold YM;simp only[show(((i-1:Nat):Int)<((j-1:Nat):Int))↔((i:Int)<j)from by omega,show(((j-1:Nat):Int)<((i-1:Nat):Int))↔((j:Int)<i)from by omega,gt_iff_lt]
 have:n=1\/n=2\/n=3\/n=4:=O;rcases this with rfl | rfl | rfl | rfl
 ·exact key 1 o (by decide +kernel)
 ·exact key 2 p Zvp
 ·exact key 6 q Zvo
 exact key 24 s Zvn
structure Sb.Sm(b:Sb):Prop where
 pk:b.pk.length<=20
 nt:b.nt.length<=20
 nm:∀p∈b.pk,p.nm.size<=100
 ps:∀x∈b.nt,x.ps.length<=20
def Sb.Sm.sz{b:Sb}(h:b.Sm):b.Sz:=⟨by have:=h.pk;omega,by have:=h.nt;omega,λx e=>by have:=h.ps x e;omega,λp c=>by have:=h.nm p c;omega⟩
def ZgR{α:Type}{l:List α}{p:α->Prop}(f:j<l.length)(h:∀x∈l.take j,p x)(e:p l[j]):∀x∈l.take (j+1),p x:=λx c=>by
 rw[iN f]at c;rcases qAi.1 c with c | c
 ·exact h x c
 rw[oR.1 c];exact e
section
variable{P:aX}[Tz P][Loud P]{H:Hp}
def eO{b:Sb}(hb:Zr H b):LL.Zc P 17 #[b.v] H λv q=>H=q/\∃g,v=vb g/\(g=false->b.Sm):=by
 refine aJ.m (bG ZxY) (args:=[b.v]) rfl ?_;unfold Zll Sb.v;refine OJ (λI=>?_) (λI=>?_)
 ·refine Y ?_;exact⟨rfl,true,rfl,λh=>by simp at h⟩
 refine OJ (λJ=>?_) (λJ=>?_)
 ·refine Y ?_;exact⟨rfl,true,rfl,λh=>by simp at h⟩
 refine Y ?_;refine Zv b.pk.length (λj q=>H=q/\∀p∈b.pk.take j,p.nm.size<=100) (λj=>[(1,vi 0),(2,vb false),(3,vi j)]) (λ_=>[(1,b.cs)]) ⟨rfl,λp F=>by simp at F⟩ V V ?_;rintro j _ M ⟨rfl,f⟩;refine OJ (λK=>?_) (λK=>?_)
 ·have s:j<b.pk.length:=O;refine Y ?_;refine Zz j hb.pk s λa D=>?_;have o:=ZgR (p:=λp:Pk=>p.nm.size<=100) s f;generalize b.pk[j]=x at *;refine Y ?_;refine Zh (v:=.string x.nm) (OL _) rfl (by rw[add_zero];exact YN (cs:=[.string x.nm]) (ds:=[vi x.lo,vi x.hi,vi x.bF,vi x.bJ]) D) (Y ?_);refine QS rfl ?_;refine OJ (λC=>?_) (λC=>?_)
  ·refine Y ?_;exact⟨rfl,true,rfl,λh=>by simp at h⟩
  refine Y ?_;exact⟨⟨j+1,O⟩,bN O,⟨rfl,o O⟩,V,V,rfl⟩
 have:j=b.pk.length:=O;subst this;rw[IF]at f;refine Y ?_;refine Zv b.nt.length (λj q=>H=q/\∀p∈b.nt.take j,p.ps.length<=20) (λj=>[(1,vi 0),(2,vb false),(4,vi j)]) (λ_=>[(1,b.cs)]) ⟨rfl,λp F=>by simp at F⟩ V V ?_;rintro k _ N ⟨rfl,e⟩;refine OJ (λC=>?_) (λC=>?_)
 ·have t:k<b.nt.length:=O;refine Y ?_;refine Zz k hb.nt t λa D=>?_;have o:=ZgR (p:=λp:Nt=>p.ps.length<=20) t e;generalize b.nt[k]=x at *;refine Y ?_;refine Zh (v:=.slice x.A x.ps.length x.c) (OL _) rfl (by rw[add_zero];exact YN (cs:=[.slice x.A x.ps.length x.c]) (ds:=[vi x.lo,vi x.hi]) D) ?_;refine OJ (λL=>?_) (λL=>?_)
  ·refine Y ?_;exact⟨rfl,true,rfl,λh=>by simp at h⟩
  refine Y ?_;exact⟨⟨k+1,O⟩,bN O,⟨rfl,o O⟩,V,V,rfl⟩
 have:k=b.nt.length:=O;subst this;rw[IF]at e;refine Y ?_;exact⟨rfl,false,rfl,λ_=>⟨O,O,f,e⟩⟩
def IM(a b:Int):LL.Zc P 43 #[vi a,vi b] H λv c=>H=c/\v=.agg #[vi a,vi b]:=by refine aJ.m (bG ZxM) (args:=[vi a,vi b]) rfl ?_;unfold Zk9;refine Y ?_;exact⟨rfl,rfl⟩
def IL(a:Int):LL.Zc P 39 #[vi a] H λv c=>H=c/\v=.agg #[vi a,vi a]:=by refine aJ.m (bG ZxN) (args:=[vi a]) rfl ?_;unfold Zla;refine Y ?_;refine Za [vi a,vi a] (IM a a) ?_;rintro v _ ⟨rfl,rfl⟩;refine Y ?_;exact⟨rfl,rfl⟩
def Zpk{a b:List Int}(f:aF H u a)(hb:aF H w b)(h:a.length<=1000000)(c:b.length<=1000000):LL.Zc P 81 #[u,w] H λv e=>H=e/\v=vb (decide (a=b)):=by refine aJ.m (bG ZxB) (args:=[u,w]) rfl ?_;unfold ZkY;refine Y ?_;refine ZW (vs:=[u,w]) rfl (EI f hb h c) ?_;rintro v _ ⟨rfl,rfl⟩;refine Y ?_;exact⟨rfl,rfl⟩
def C3(b:Sb)(x:Nt)(A:Option Addr)(c:Nat):Sb:={ b with nt:=b.nt++[x],A2:=A,c2:=c }
def Zti(l:List Nt):((Zb l).all Value.cJ)=true:=sG (λ_=>rfl) l
def T1{b:Sb}{x:Nt}(hb:Zr H b)(L:b.nt.length<=1000000)(B:aF H (.slice x.A x.ps.length x.c) x.ps) :
  LL.Zc P 66 #[b.v,vR x] H λv o=>aL H o/\∃A c,v=(C3 b x A c).v/\Zr o (C3 b x A c):=by
 refine aJ.m (bG ZxG) (args:=[b.v,vR x]) rfl ?_;unfold Zk3 Sb.v;refine Y ?_;refine qZ (bI qO) (cD C4) (OL _) λD f=>?_;refine Zp OL (Y ?_);refine WZ (l:=([]:List Nt)) (l':=b.nt) (bI qO) (bI qO) (cD C4) rfl (by decide) (Yf f) (H0:=H) (b:=some D) ⟨Bi,λq e=>by obtain rfl:=iO e;exact f⟩ (hb.nt.inc (Zs f)) (Zti _) (by simp;omega) O rfl rfl (OL _) λQ F J s2 s c2=>?_;rw[qBt]at s;refine Zp OL (Y ?_);refine ZY (cs:=[.slice x.A x.ps.length x.c,vi x.lo,vi x.hi]) (OL _) rfl λN h=>?_;refine Zp OL (Y ?_);refine U7 (l':=[x]) (bI qO) (bI qO) (cD C4) rfl (by decide) (s2.inc.trans (Zs h)) (s.ins h) (Z0 (l:=[x])) rfl (by simp;omega) O rfl rfl (OL _) λR I K k1 p M=>?_;obtain⟨t,z,rfl,C⟩:=jF p;refine Y ?_;refine⟨k1,t,z,rfl,hb.pk.inc k1,p.sl,λy k=>?_,hb.q1,C⟩;rcases qAi.1 k with k | k
 ·exact(hb.ps y k).inc k1
 rw[oR.1 k];exact B.inc k1
end
def TX{p:Program}{t:TypeId}{k m o q:String}{B C t3 t4 s v z A:Nat}{b:Bool}(h:sZ p t=some ([(k,B,s),(m,C,v),(o,t3,z),(q,t4,A)],b)):∃c e f3 f4:Field,p.underlying t=some (.struct #[c,e,f3,f4])/\(c.name=k/\c.type=B/\c.offset=s)/\(e.name=m/\e.type=C/\e.offset=v)/\(f3.name=o/\f3.type=t3/\f3.offset=z)/\(f4.name=q/\f4.type=t4/\f4.offset=A)/\p.stoodInHeld t=b:=by
 unfold sZ at h;split at h
 ·rename_i f F;obtain⟨f⟩:=f;simp only[qAe,qBD]at h;obtain⟨h,D⟩:=h;match f,h with
  | [c,e,f3,f4],h=>
   simp only[qCq,qDo,qBM,qBD]at h;exact⟨c,e,f3,f4,F,h.1,h.2.1,h.2.2.1,h.2.2.2.1,D⟩
 simp at h
def s65:sZ Tryz.prog 65=some ([("In",3,0),("Out",3,1),("Begun",3,2),("Done",3,3)],false):=U
def Sq:CY Tryz.prog 65=false:=U
section
variable{P:aX}[Tz P]{H:Hp}{g:Bool}{d:Nat}
def Tm{a:Wk}(Q:Bool->Bool->Hp->Prop)(g:Bool)(H:Hp)(e:Q true g H):bL P.toPQ (Op.equalIn (d+1+1) 65 (.agg #[vi a.i,vi a.o,vi a.g,vi a.d]) (.agg #[vi a.i,vi a.o,vi a.g,vi a.d])) Q g H:=by have C:∀(x y z u:Int) (Q:Value->Bool->Hp->Prop) g H,bL P.toPQ (part 3 #[vi x,vi y,vi z,vi u] 0) Q g H↔Q (vi x) g H:=λx y z u Q g H=>Vo rfl Q;have D:∀(x y z u:Int) (Q:Value->Bool->Hp->Prop) g H,bL P.toPQ (part 3 #[vi x,vi y,vi z,vi u] 1) Q g H↔Q (vi y) g H:=λx y z u Q g H=>Vo rfl Q;have F:∀(x y z u:Int) (Q:Value->Bool->Hp->Prop) g H,bL P.toPQ (part 3 #[vi x,vi y,vi z,vi u] 2) Q g H↔Q (vi z) g H:=λx y z u Q g H=>Vo rfl Q;have I:∀(x y z u:Int) (Q:Value->Bool->Hp->Prop) g H,bL P.toPQ (part 3 #[vi x,vi y,vi z,vi u] 3) Q g H↔Q (vi u) g H:=λx y z u Q g H=>Vo rfl Q;obtain⟨L,M,f3,f4,h,⟨k,J,t⟩,⟨m,K,v⟩,⟨q,t3,A⟩,⟨s,t4,B⟩,f⟩:=TX (p:=P.toProgram) (by rw[Tz.prog (P:=P)];exact s65);rw[Op.equalIn];simp only[Zg,Zw h,V0,f,DO,qAw,Zj];simp only[k,m,q,s,J,K,t3,t4,t,v,A,B,Zg,qCd,qCb,List.forIn_nil];simp[C,D,F,I,CR,Zg,Zj];exact e
end
section
variable{P:aX}[Tz P][Loud P]{H:Hp}
def TY{a:List Wk}(f:aF H u a)(hb:aF H w a)(A:a.length<=1000000):LL.Zc P 52 #[u,w] H λv e=>H=e/\v=vb true:=by
 refine aJ.m (bG ZxJ) (args:=[u,w]) rfl ?_;unfold Zk6;refine Y ?_;refine YE f rfl (Y ?_);refine YE hb rfl ?_;refine OJ (λk=>?_) (λk=>?_)
 ·exact absurd rfl k
 refine Y ?_;refine Zv a.length (λj e=>H=e) (λj=>[(0,u),(1,w),(4,vb false),(5,vi j)]) (λ_=>[]) rfl V trivial ?_;rintro j _ z rfl;refine Y ?_;refine YE f rfl ?_;refine OJ (λs=>?_) (λs=>?_)
 ·have c:j<a.length:=O;refine Y ?_;refine Zz j f c λp t=>Y ?_;refine YA (cs:=a[j].cells) t (Y ?_);refine Zz j hb c λq h=>Y ?_;refine YA (cs:=a[j].cells) h (Y ?_);refine CA (b:=true) (xs:=#[vi a[j].i,vi a[j].o,vi a[j].g,vi a[j].d]) (ys:=#[vi a[j].i,vi a[j].o,vi a[j].g,vi a[j].d]) Sq (λQ g H h=>Tm Q g H h) rfl rfl (Y ?_);exact⟨⟨j+1,O⟩,bN O,rfl,V,trivial,rfl⟩
 refine Y ?_;exact⟨rfl,rfl⟩
end
structure Yx(E:Int->List Value):Prop where
 len:∀z,(E z).length=8
 one:∀z,((E z).all Value.cJ)=true
def iS(E:Int->List Value)(l:List Int):List Value:=l.flatMap E
abbrev rv(E:Int->List Value)(z:Int):Value:=.agg (E z).toArray
def LK{E:Int->List Value}(h:Yx E):∀l:List Int,(iS E l).length=l.length * 8
 | []=>rfl
 | x :: l=>by rw[iS,qAM,BY,h.len];have:=LK h l;unfold iS at this;rw[this,qAs];omega
def Zhu{E:Int->List Value}(h:Yx E)(z:Int):∀(l:List Int) (rest:List Value) (j:Nat) (_:j<l.length),ZG (iS E l++rest) (j * 8) (E z)=iS E (l.set j z)++rest
 | [],_,j,c=>by simp at c
 | x :: l,rest,0,_=>by simp only[iS,qAM,List.set_cons_zero,ZG,qDm,qCa,qBt,qAE,h.len,qAW];rw[qEi,qDN (by rw[h.len];exact dO _),h.len];simp
 | x :: l,rest,j+1,c=>by
  have ih:=Zhu h z l rest j (by simpa using c);have e:iS E (x :: l)++rest=E x++(iS E l++rest):=by simp[iS]
  rw[e,show(j+1) * 8=8+j * 8 by omega,LB (n:=8) (h.len x),ih];simp[iS]
def Zhv{E:Int->List Value}(h:Yx E):∀(l:List Int) (j k:Nat),j<l.length->k<8->(iS E l)[j * 8+k]? = (E (el l j))[k]?
 | [],j,_,c,_=>by simp at c
 | x :: l,0,k,_,e=>by rw[iS,qAM,qBf (by rw[h.len];omega)];show(E x)[0 * 8+k]? = (E x)[k]?;rw[qDm,qAE]
 | x :: l,j+1,k,c,e=>by have ih:=Zhv h l j k (by simpa using c) e;rw[iS,qAM,qBP (by rw[h.len];omega),h.len,show(j+1) * 8+k-8=j * 8+k by omega];exact ih
structure AT(E:Int->List Value)(G H:Hp)(r:Nat)(l:List Int)(rest:List Value):Prop where
 keep:∀b x,b≠r->G b=some x->H b=some x
 at_:H r=some (.cells (iS E l++rest).toArray 122 (0,0),true)
def AT.of{H:Hp}(h:H r=some (.cells (iS E l++rest).toArray 122 (0,0),true)):AT E H H r l rest:=⟨λ_ _ _ h=>h,h⟩
def AT.trans{H e:Hp}{c:List Value}(h:AT E G H r l rest)(f:AT E H e r l' c):AT E G e r l' c:=⟨λb x hb k=>f.keep b x hb (h.keep b x hb k),f.at_⟩
def AT.set{H:Hp}(h:AT E G H r l rest)(l':List Int)(c:List Value):AT E G (H.ins r (.cells (iS E l'++c).toArray 122)) r l' c:=
 ⟨λb x hb e=>by rw[Hp.aH _ _ hb];exact h.keep b x hb e,Hp.aG _ _ _⟩
def AT.new{H:Hp}{e:Nat}{o:Obj}(h:AT E G H r l rest)(c:H e=none):AT E G (H.ins e o) r l rest:=
 ⟨λb x hb f=>(Yf c).mem _ _ (h.keep b x hb f),(Yf c).mem _ _ h.at_⟩
def AT.cA{H:Hp}(c:Yx E)(h:AT E G H r l rest)(p:i<l.length)(e:i=j:=by omega):aC H ((⟨r,0,none⟩:Addr).add (i * 8)) (E (el l j)):=by
 subst e;rw[Vx,qAE];refine⟨rfl,_,_,h.at_,λk o=>?_⟩;have f:k<8:=by rw[c.len]at o;exact o
 have e:=Zhv c l i k p f;have m:i * 8+k<(iS E l).length:=by rw[LK c];omega
 have:(iS E l++rest)[i * 8+k]? = (E (el l i))[k]?:=by rw[qBf m,e]
 simpa[Obj.mB]using this
def YO(P:aX)(E:Int->List Value)(H:Hp)(r:Nat)(cv:Value)(S:Int->Prop):Prop:=
 ∀c,(∀b x,b≠r->H b=some x->c b=some x)->∀p q,S p->S q->ZV P cv #[rv E p,rv E q] c λv e=>c=e/\v=vi (YM p q)
def Vw{a b:Int}:(YM a b<0)↔a<b:=by
 unfold YM;split
 ·simp;assumption
 split<;>simp<;>omega
def ZH(h:Rg a b l l')(hb:b<=l.length)(e:∀k,k<l.length->S (el l k)){k:Nat}(m:k<l'.length):S (el l' k):=by
 have o:=h.len;by_cases c:a<=k/\k<b
 ·exact h.all (p:=S) hb (λk c f=>e k O) k c.1 c.2
 rw[h.out hb O];exact e k O
section
variable{P:aX}[Tz P][Loud P]{H:Hp}{d:Option Nat}{next:aM->Hp->Prop}{σ:aM}{x y:Operand}
def Z1{a:Addr}{s:Nat}{n:Int}(c:Yx E)(h:AT E G H r l rest)(p:j<l.length)(e:a=(⟨r,0,none⟩:Addr).add (j * 8))(k:σ.get x=some (.pointer (some a)))(o:σ.get y=some (rv E n))
  (q:∀f,AT E G f r (l.set j n) rest->next (σ.set d undef) f):(bE.raw (.store 122 x y) s).m P d next σ H:=by
 subst e;rw[Vx,qAE]at k;refine wF (cD ZgW) k o h.at_ (by show(E n).toArray.size=8;rw[List.size_toArray,c.len]) (by rw[BY,LK c];omega) (c.one n) (Loud.aV _) ?_;rw[show(rv E n).cells.toList=E n from rfl,Zhu c n l rest j p];exact q _ (h.set _ _)
end
def We(P:aX)(f:Nat)(E:Int->List Value)(H:Hp)(r cap:Nat)(l:List Int)(rest:List Value)(a b:Nat)(c:List Value)(Q:Value->List Int->Prop):Prop:=
 LL.Zc P f (.slice (some ⟨r,0,none⟩) l.length cap :: vi a :: vi b :: c).toArray H λv e=>∃l',AT E H e r l' rest/\Rg a b l l'/\Q v l'
section
variable{P:aX}[Tz P][Loud P]{H:Hp}
def Zup(t:Yx E)(hA:H r=some (.cells (iS E l++rest).toArray 122 (0,0),true))(CP:a<=b)(hb:b<=l.length)(hl:l.length<=1000000)(hC:YO P E H r cv S)(hS:∀k,k<l.length->S (el l k)) :
  We P 233 E H r cap l rest a b [cv] λ_ l'=>So a b l':=by
 refine aJ.m (bG Xp) (args:=[.slice (some ⟨r,0,none⟩) l.length cap,vi a,vi b,cv]) rfl ?_;unfold Kz;refine Y ?_;refine ZO (α:=List Int) (b-(a+1)) (λj c M=>AT E H M r c rest/\Rg a b l c/\So a (a+1+j) c) (λj c=>[(0,.slice (some ⟨r,0,none⟩) l.length cap),(1,vi a),(2,vi b),(3,cv),(8,vi ((a+1+j:Nat):Int))]) (λj c=>[]) l ⟨AT.of hA,.refl l,Un l O⟩ V trivial ?_;rintro i c H1 hi ⟨W,U,so⟩;have jQ:=U.len;refine OJ (λZ=>?_) (λZ=>?_)
 ·have Z:a+1+i<b:=O;refine Y ?_;refine ZO (α:=List Int) (i+1) (λk e M=>AT E H M r e rest/\Rg a b l e/\(∀x y,a<=x->x<=y->y<=a+1+i->x≠a+1+i-k->y≠a+1+i-k->el e x<=el e y)/\(∀y,a+1+i-k<y->y<=a+1+i->el e (a+1+i-k)<=el e y))
   (λk e=>[(0,.slice (some ⟨r,0,none⟩) l.length cap),(1,vi a),(2,vi b),(3,cv),(8,vi ((a+1+i:Nat):Int)),(9,vi ((a+1+i-k:Nat):Int))]) (λk e=>[]) c ⟨W,U,λx y h q K R T=>so x y h q O,λy h q=>O⟩ V trivial ?_
  rintro k e H2 hk ⟨f,o,p,z⟩;have D9:=o.len;have Rz:a+1+i-k<l.length:=O;obtain⟨j,hj⟩:∃j,a+1+i-k=j:=⟨_,rfl⟩;rw[hj]at p z ⊢;refine OJ (λL=>?_) (λL=>?_)
  ·have L:a<j:=O;refine Y ?_;refine Zd j rfl rfl O O (Y ?_);refine Zn (Loud.aV _) rfl (AT.cA t f O rfl) (Yx.len t _) (Y ?_);refine Zd (j-1) rfl rfl O O (Y ?_);refine Zn (Loud.aV _) rfl (AT.cA t f O rfl) (Yx.len t _) (Y ?_);refine ZM rfl rfl (hC _ (AT.keep f) _ _ (ZH o hb hS O) (ZH o hb hS O)) ?_;intro vW KW hW;obtain⟨eA,eB⟩:=hW;subst eA eB;refine OJ (λA=>?_) (λA=>?_);all_goals rw[Vw]at A
   ·refine Y ?_;refine Zd (j-1) rfl rfl O O (Y ?_);refine Zn (Loud.aV _) rfl (AT.cA t f O rfl) (Yx.len t _) (Y ?_);refine Zd j rfl rfl O O (Y ?_);refine Zn (Loud.aV _) rfl (AT.cA t f O rfl) (Yx.len t _) (Y ?_);refine Zd j rfl rfl O O (Y ?_);refine Z1 t f O rfl rfl rfl λHW N=>?_;refine Zp Loud.aV (Y ?_);refine Zd (j-1) rfl rfl O O (Y ?_);refine Z1 t N (by rw[qAg];omega) rfl rfl rfl λH4 C=>Y ?_;have Q:(e.set j (el e (j-1))).set (j-1) (el e j)=dS e j (j-1):=rfl;rw[Q]at C;have F:∀x,el (dS e j (j-1)) x=if x=j-1 then el e j else if x=j then el e (j-1)else el e x:=λx=>Yh x O O
    have s:∀x,x≠j-1->el (dS e j (j-1)) x=if x=j then el e (j-1)else el e x:=λx B=>by rw[F,aT B]
    have I:el (dS e j (j-1)) (j-1)=el e j:=by rw[F,iF rfl]
    have J:a+1+i-(k+1)=j-1:=O;refine⟨(⟨k+1,O⟩,dS e j (j-1)),bN O,⟨C,.step _ _ o O O O O,?_,?_⟩,⟨rfl,rfl,rfl,rfl,rfl,?_,trivial⟩,trivial,rfl⟩
    ·show ∀x y,a<=x->x<=y->y<=a+1+i->x≠a+1+i-(k+1)->y≠a+1+i-(k+1)->_;intro x y h q K R T;rw[J]at R T;rw[s x R,s y T];by_cases B:x=j
     ·rw[iF B];by_cases v:y=j
      ·rw[iF v];exact qAx _
      rw[aT v];exact p _ _ O O K O v
     rw[aT B];by_cases v:y=j
     ·rw[iF v];exact p _ _ h O O B O
     rw[aT v];exact p _ _ h q K B v
    ·show ∀y,a+1+i-(k+1)<y->y<=a+1+i->el (dS e j (j-1)) (a+1+i-(k+1))<=_;intro y h q;rw[J]at h ⊢;rw[I,s y O];by_cases v:y=j
     ·rw[iF v];omega
     rw[aT v];exact z _ O q
    show some (vi ((j:Int)-1))=some (vi ((a+1+i-(k+1):Nat):Int));rw[show(a+1+i-(k+1):Nat)=j-1 by omega,show((j-1:Nat):Int)=(j:Int)-1 by omega]
   refine Y ?_;refine⟨(⟨i+1,O⟩,e),bN O,⟨f,o,?_⟩,V,trivial,rfl⟩;show So a (a+1+(i+1)) e;refine V5 λx h q=>?_;by_cases D:x=j
   ·subst D;exact z _ O O
   by_cases X:x+1=j
   ·subst X;rw[qAU]at A;omega
   exact p _ _ h O O D X
  have L:j=a:=O;subst L;refine Y ?_;refine⟨(⟨i+1,O⟩,e),bN O,⟨f,o,?_⟩,V,trivial,rfl⟩;refine V5 λx h q=>?_;have q:x+1<j+1+(i+1):=q;by_cases D:x=j
  ·subst D;exact z _ O O
  exact p _ _ h O O D O
 refine Y ?_;refine⟨c,W,U,?_⟩;intro x y h q K;exact so x y h q O
end
abbrev bW:=Option Addr×Nat×Nat
abbrev dN(q:bW):Value:=.slice q.1 q.2.1 q.2.2
def pJ(E:Int->bW)(l:List Int):List Value:=l.map λz=>dN (E z)
def ZgD{E:Int->bW}(l:List Int):(pJ E l).length=l.length:=by simp[pJ]
def ZnO{E:Int->bW}(z:Int)(l:List Int)(rest:List Value)(j:Nat)(c:j<l.length):ZG (pJ E l++rest) j [dN (E z)]=pJ E (l.set j z)++rest:=by
 induction l generalizing j with
 | nil=>simp at c
 | cons x l ih=>
  cases j with
  | zero=>simp[pJ,ZG]
  | succ j=>
   have e:pJ E (x :: l)++rest=[dN (E x)]++(pJ E l++rest):=by simp[pJ]
   rw[e,show j+1=1+j by omega,LB (n:=1) rfl,ih j (by simpa using c)];simp[pJ,Nat.add_comm 1 j]
def ZnP{E:Int->bW}(l:List Int)(j:Nat)(c:j<l.length):(pJ E l)[j]? = some (dN (E (el l j))):=by
 induction l generalizing j with
 | nil=>simp at c
 | cons x l ih=>
  cases j with
  | zero=>rfl
  | succ j=>exact ih j (by simpa using c)
structure AU(E:Int->bW)(G H:Hp)(r:Nat)(l:List Int)(rest:List Value):Prop where
 keep:∀b x,b≠r->G b=some x->H b=some x
 at_:H r=some (.cells (pJ E l++rest).toArray 26 (0,0),true)
def AU.of{E:Int->bW}{H:Hp}(h:H r=some (.cells (pJ E l++rest).toArray 26 (0,0),true)):AU E H H r l rest:=⟨λ_ _ _ h=>h,h⟩
def AU.set{E:Int->bW}{H:Hp}(h:AU E G H r l rest)(l':List Int)(c:List Value):AU E G (H.ins r (.cells (pJ E l'++c).toArray 26)) r l' c:=
 ⟨λb x hb e=>by rw[Hp.aH _ _ hb];exact h.keep b x hb e,Hp.aG _ _ _⟩
def AU.cA{E:Int->bW}{H:Hp}(h:AU E G H r l rest)(m:i<l.length)(e:i=j:=by omega):aC H ((⟨r,0,none⟩:Addr).add (i * 1)) [dN (E (el l j))]:=by
 subst e;rw[Vx,qAE,Nat.mul_one];refine⟨rfl,_,_,h.at_,λk o=>?_⟩;have c:k=0:=by simpa using o
 subst c;have e:=ZnP (E:=E) l i m;have f:i<(pJ E l).length:=by rw[ZgD];omega
 have:(pJ E l++rest)[i]? = some (dN (E (el l i))):=by rw[qBf f,e]
 simpa[Obj.mB]using this
def P6(P:aX)(E:Int->bW)(H:Hp)(r:Nat)(cv:Value)(S:Int->Prop):Prop:=
 ∀c,(∀b x,b≠r->H b=some x->c b=some x)->∀p q,S p->S q->ZV P cv #[dN (E p),dN (E q)] c λv e=>c=e/\v=vi (YM p q)
section
variable{P:aX}[Tz P][Loud P]{H:Hp}{d:Option Nat}{next:aM->Hp->Prop}{σ:aM}{x y:Operand}
def Ziq{E:Int->bW}{a:Addr}{n:Int}(h:AU E G H r l rest)(o:j<l.length)(e:a=(⟨r,0,none⟩:Addr).add (j * 1))(f:σ.get x=some (.pointer (some a)))(k:σ.get y=some (dN (E n)))
  (p:∀c,AU E G c r (l.set j n) rest->next (σ.set d undef) c):(bE.raw (.store 26 x y) 0).m P d next σ H:=by
 subst e;rw[Vx,qAE,Nat.mul_one]at f;refine wF (cD rO) f k h.at_ rfl (by rw[BY,ZgD];omega) rfl (Loud.aV _) ?_;rw[show(dN (E n)).cells.toList=[dN (E n)]from rfl,ZnO n l rest j o];exact p _ (h.set _ _)
end
def ZyD(P:aX)(f:Nat)(E:Int->bW)(H:Hp)(r cap:Nat)(l:List Int)(rest:List Value)(a b:Nat)(c:List Value)(Q:Value->List Int->Prop):Prop:=
 LL.Zc P f (.slice (some ⟨r,0,none⟩) l.length cap :: vi a :: vi b :: c).toArray H λv e=>∃l',AU E H e r l' rest/\Rg a b l l'/\Q v l'
section
variable{P:aX}[Tz P][Loud P]{H:Hp}
def Zun{E:Int->bW}(hA:H r=some (.cells (pJ E l++rest).toArray 26 (0,0),true))(CP:a<=b)(hb:b<=l.length)(hl:l.length<=1000000)(hC:P6 P E H r cv S)(Z:∀k,k<l.length->S (el l k)) :
  ZyD P 207 E H r cap l rest a b [cv] λ_ l'=>So a b l':=by
 refine aJ.m (bG ZwF) (args:=[.slice (some ⟨r,0,none⟩) l.length cap,vi a,vi b,cv]) rfl ?_;unfold Zj2;refine Y ?_;refine ZO (α:=List Int) (b-(a+1)) (λj c L=>AU E H L r c rest/\Rg a b l c/\So a (a+1+j) c) (λj c=>[(0,.slice (some ⟨r,0,none⟩) l.length cap),(1,vi a),(2,vi b),(3,cv),(8,vi ((a+1+j:Nat):Int))]) (λj c=>[]) l ⟨AU.of hA,.refl l,Un l O⟩ V trivial ?_;rintro i c H1 hi ⟨U,T,so⟩;have jQ:=T.len;refine OJ (λX=>?_) (λX=>?_)
 ·have X:a+1+i<b:=O;refine Y ?_;refine ZO (α:=List Int) (i+1) (λk e L=>AU E H L r e rest/\Rg a b l e/\(∀x y,a<=x->x<=y->y<=a+1+i->x≠a+1+i-k->y≠a+1+i-k->el e x<=el e y)/\(∀y,a+1+i-k<y->y<=a+1+i->el e (a+1+i-k)<=el e y))
   (λk e=>[(0,.slice (some ⟨r,0,none⟩) l.length cap),(1,vi a),(2,vi b),(3,cv),(8,vi ((a+1+i:Nat):Int)),(9,vi ((a+1+i-k:Nat):Int))]) (λk e=>[]) c ⟨U,T,λx y h q J Q R=>so x y h q O,λy h q=>O⟩ V trivial ?_
  rintro k e H2 hk ⟨f,o,p,v⟩;have D9:=o.len;have Rz:a+1+i-k<l.length:=O;obtain⟨j,hj⟩:∃j,a+1+i-k=j:=⟨_,rfl⟩;rw[hj]at p v ⊢;refine OJ (λK=>?_) (λK=>?_)
  ·have K:a<j:=O;refine Y ?_;refine Zd j rfl rfl O O (Y ?_);refine Zh (Loud.aV _) rfl (AU.cA f O rfl) (Y ?_);refine Zd (j-1) rfl rfl O O (Y ?_);refine Zh (Loud.aV _) rfl (AU.cA f O rfl) (Y ?_);refine ZM rfl rfl (hC _ (AU.keep f) _ _ (ZH o hb Z O) (ZH o hb Z O)) ?_;intro vW KW hW;obtain⟨eA,eB⟩:=hW;subst eA eB;refine OJ (λz=>?_) (λz=>?_);all_goals rw[Vw]at z
   ·refine Y ?_;refine Zd (j-1) rfl rfl O O (Y ?_);refine Zh (Loud.aV _) rfl (AU.cA f O rfl) (Y ?_);refine Zd j rfl rfl O O (Y ?_);refine Zh (Loud.aV _) rfl (AU.cA f O rfl) (Y ?_);refine Zd j rfl rfl O O (Y ?_);refine Ziq f O rfl rfl rfl λHW M=>?_;refine Zp Loud.aV (Y ?_);refine Zd (j-1) rfl rfl O O (Y ?_);refine Ziq M (by rw[qAg];omega) rfl rfl rfl λH4 B=>Y ?_;have N:(e.set j (el e (j-1))).set (j-1) (el e j)=dS e j (j-1):=rfl;rw[N]at B;have D:∀x,el (dS e j (j-1)) x=if x=j-1 then el e j else if x=j then el e (j-1)else el e x:=λx=>Yh x O O
    have s:∀x,x≠j-1->el (dS e j (j-1)) x=if x=j then el e (j-1)else el e x:=λx A=>by rw[D,aT A]
    have F:el (dS e j (j-1)) (j-1)=el e j:=by rw[D,iF rfl]
    have I:a+1+i-(k+1)=j-1:=O;refine⟨(⟨k+1,O⟩,dS e j (j-1)),bN O,⟨B,.step _ _ o O O O O,?_,?_⟩,⟨rfl,rfl,rfl,rfl,rfl,?_,trivial⟩,trivial,rfl⟩
    ·show ∀x y,a<=x->x<=y->y<=a+1+i->x≠a+1+i-(k+1)->y≠a+1+i-(k+1)->_;intro x y h q J Q R;rw[I]at Q R;rw[s x Q,s y R];by_cases A:x=j
     ·rw[iF A];by_cases t:y=j
      ·rw[iF t];exact qAx _
      rw[aT t];exact p _ _ O O J O t
     rw[aT A];by_cases t:y=j
     ·rw[iF t];exact p _ _ h O O A O
     rw[aT t];exact p _ _ h q J A t
    ·show ∀y,a+1+i-(k+1)<y->y<=a+1+i->el (dS e j (j-1)) (a+1+i-(k+1))<=_;intro y h q;rw[I]at h ⊢;rw[F,s y O];by_cases t:y=j
     ·rw[iF t];omega
     rw[aT t];exact v _ O q
    show some (vi ((j:Int)-1))=some (vi ((a+1+i-(k+1):Nat):Int));rw[show(a+1+i-(k+1):Nat)=j-1 by omega,show((j-1:Nat):Int)=(j:Int)-1 by omega]
   refine Y ?_;refine⟨(⟨i+1,O⟩,e),bN O,⟨f,o,?_⟩,V,trivial,rfl⟩;show So a (a+1+(i+1)) e;refine V5 λx h q=>?_;by_cases C:x=j
   ·subst C;exact v _ O O
   by_cases W:x+1=j
   ·subst W;rw[qAU]at z;omega
   exact p _ _ h O O C W
  have K:j=a:=O;subst K;refine Y ?_;refine⟨(⟨i+1,O⟩,e),bN O,⟨f,o,?_⟩,V,trivial,rfl⟩;refine V5 λx h q=>?_;have q:x+1<j+1+(i+1):=q;by_cases C:x=j
  ·subst C;exact v _ O O
  exact p _ _ h O O C O
 refine Y ?_;refine⟨c,U,T,?_⟩;intro x y h q J;exact so x y h q O
def Zuq{E:Int->bW}(f:P6 P E H r cv S)(h:∀k,k<l.length->S (el l k))(e:H r=some (.cells (pJ E l++rest).toArray 26 (0,0),true))(m:l.length=n)(o:n<=12) :
  LL.Zc P 207 #[.slice (some ⟨r,0,none⟩) n cap,vi 0,vi n,cv] H λ_ c=>∃l',AU E H c r l' rest/\Rg 0 n l l'/\So 0 n l':=by
 subst m;exact Zun (a:=0) (b:=l.length) e (qAI _) (dO _) O f h
def Zsw{c:Nat}{E:Int->bW}(q:P6 P E H r cv S)(s:∀k,k<l.length->S (el l k))(p:H r=some (.cells (pJ E l++rest).toArray 26 (0,0),true))(z:l.length=n)(t:n<=12) :
  LL.Zc P 161 #[.slice (some ⟨r,0,none⟩) n cap,vi 0,vi n,vi c,cv] H λ_ e=>∃l',AU E H e r l' rest/\Rg 0 n l l'/\So 0 n l':=by
 refine aJ.m (bG ZwP) (args:=[.slice (some ⟨r,0,none⟩) n cap,vi 0,vi n,vi c,cv]) rfl ?_;unfold Zkc;refine OB ?_;refine Zv 0 (λ_ e=>H=e) (λ_=>[(0,.slice (some ⟨r,0,none⟩) n cap),(1,vi 0),(2,vi n),(4,cv)]) (λ_=>[]) rfl V trivial ?_;rintro _ _ _ rfl;refine OJ (λc1=>?_) (λc1=>?_)
 ·refine Y ?_;refine Za [.slice (some ⟨r,0,none⟩) n cap,vi 0,vi n,cv] (Zuq q s p z t) ?_;rintro v A ⟨c2,f,h,o⟩;refine Y ?_;exact⟨c2,f,h,o⟩
 exfalso;omega
def ZoD{E:Int->bW}(f:P6 P E H r cv S)(o:∀k,k<l.length->S (el l k))(e:H r=some (.cells (pJ E l++rest).toArray 26 (0,0),true))(q:l.length=n)(p:n<=12) :
  LL.Zc P 116 #[.slice (some ⟨r,0,none⟩) n cap,cv] H λ_ c=>∃l',AU E H c r l' rest/\Rg 0 n l l'/\So 0 n l':=by
 refine aJ.m (bG Zxe) (args:=[.slice (some ⟨r,0,none⟩) n cap,cv]) rfl ?_;unfold ZkB;refine Y ?_;refine Vs (bI uZ) (bI O2) rfl ?_;rw[VZ (m:=n) O];refine Y ?_;refine Za [.int .u64 n] (P7 O) ?_;rintro w _ ⟨rfl,rfl⟩;refine Y ?_;refine Za [.slice (some ⟨r,0,none⟩) n cap,vi 0,vi n,vi (fR n:Nat),cv] (Zsw f o e q p) ?_;rintro v s h;refine Y ?_;exact h
end
instance:Enc bW:=⟨1,λq=>[dN q],λ_=>rfl⟩
def UR(q:bW):Int:=(q.2.1:Int)
section
variable{P:aX}[Tz P][Loud P]{H:Hp}
def ZlI(q:bW):LL.Zc P 119 #[dN q] H λv c=>H=c/\v=vi (UR q):=by refine aJ.m (bG Zxc) (args:=[dN q]) rfl ?_;unfold Zkz;refine Y ?_;exact⟨rfl,rfl⟩
def Zt3{v:Value}{l:List bW}(q:aF H v l)(F:l.length<=1000000):LL.Zc P 163 #[.agg #[vf 119],v] H λw h=>H=h/\w=vi (Zo (l.map UR)):=by
 refine aJ.m (bG ZwO) (args:=[.agg #[vf 119],v]) rfl ?_;unfold Zkb;obtain⟨K,o⟩:∃K,K=l.map UR:=⟨_,rfl⟩;rw[<-o];have p:K.length=l.length:=by rw[o,qAh]
 have c:∀j (s:j<l.length),el K j=UR l[j]:=λj s=>by rw[Uu O];simp[o]
 refine Y ?_;refine YE q rfl (Y ?_);refine Zv l.length (λj h=>H=h) (λj=>[(1,v),(2,vi 0),(5,vi (cO K j)),(8,vi l.length),(9,vi j)]) (λj=>[(2,[vf 119])]) rfl V V ?_;rintro j _ s rfl;refine OJ (λC=>?_) (λC=>?_)
 ·have f:j<l.length:=O;have t:cO K j<l.length:=by
   by_cases B:j=0
   ·rw[B,cO];omega
   have:=EM (l:=K) j O;omega
  have z:=c j f;have A:=c _ t;refine Y ?_;refine Zz j q f λa D=>?_;generalize l[j]=x at *;refine Y ?_;refine Ya D (Y ?_);refine Zz (cO K j) q t λa hb=>?_;generalize l[cO K j]=y at *;refine Y ?_;refine Ya hb (Y ?_);refine ZM (vs:=[dN x]) rfl rfl (Yj U (ZlI x)) ?_;rintro w _ ⟨rfl,rfl⟩;refine Y ?_;refine ZM (vs:=[dN y]) rfl rfl (Yj U (ZlI y)) ?_;rintro w _ ⟨rfl,rfl⟩;refine Y ?_;rw[<-z,<-A];refine OI (λk=>?_) (λk=>?_)
  ·have e:cO K (j+1)=j:=by rw[cO,iF k]
   refine Y ?_;exact⟨⟨j+1,O⟩,bN O,rfl,⟨rfl,rfl,by rw[e];rfl,rfl,rfl,trivial⟩,V,rfl⟩
  have e:cO K (j+1)=cO K j:=by rw[cO,aT k]
  refine Y ?_;exact⟨⟨j+1,O⟩,bN O,rfl,⟨rfl,rfl,by rw[e];rfl,rfl,rfl,trivial⟩,V,rfl⟩
 have:j=l.length:=O;subst this;refine Y ?_;refine⟨rfl,?_⟩;show vi (cO K l.length)=vi (Zo K);rw[Zo,p]
def Zsq{A:Option Addr}{c:Nat}{l:List bW}(k:aF H (.slice A l.length c) l)(e:l≠[])(q:l.length<=1000000):LL.Zc P 118 #[.agg #[vf 119],.slice A l.length c] H λw o=>H=o/\∃h:Zo (l.map UR)<l.length,w=dN l[Zo (l.map UR)]:=by
 refine aJ.m (bG Zxd) (args:=[.agg #[vf 119],.slice A l.length c]) rfl ?_;unfold ZkA;have f:Zo (l.map UR)<l.length:=by have:=uF (l:=l.map UR) (by simpa using e);rwa [qAh]at this
 refine Y ?_;refine Za [.agg #[vf 119],.slice A l.length c] (Zt3 k q) ?_;rintro w _ ⟨rfl,rfl⟩;refine Y ?_;refine Zz (Zo (l.map UR)) k f λa p=>Y ?_;refine Ya p (Y ?_);exact⟨rfl,f,rfl⟩
end
end
def Zhs{b o:Sb}(h:o.pk.length=b.pk.length)(c:∀j,(aD o j).lo=(aD b j).lo/\(aD o j).hi=(aD b j).hi)(e:∀t,cB o t=cB b t):∀(r:Nat) (m:N4),bX o r m=bX b r m
 | 0,m=>by rw[bX,bX,e]
 | r+1,m=>by rw[bX,bX,h,(c _).1,(c _).2];congr 1;funext v;exact Zhs h c e r _
def Ia{b o:Sb}(h:o.pk.length=b.pk.length)(c:∀j,(aD o j).lo=(aD b j).lo/\(aD o j).hi=(aD b j).hi)(e:∀t,cB o t=cB b t):Zi o=Zi b:=by rw[Zi,Zi,h,Zhs h c e]
def Zik{b:Sb}(ok:bA b):∀j,j<=b.pk.length->qB b.pk j=0
 | 0,_=>rfl
 | j+1,q=>by have c:j<b.pk.length:=q;obtain⟨o,p⟩:=ok.nm j c;obtain⟨f,h,k,m⟩:=ok.pk j c;rw[qB,aT (by rw[Zik ok j O];decide),ZD c,VC,aT (by rw[o];decide),aT (by rw[p];decide),aT];rw[rY,decide_eq_true f,decide_eq_true h,decide_eq_true k,decide_eq_true m];decide
def ZiV{n:Nat}:∀{l:List Nt},(∀x∈l,x.ps≠[]/\oV n x.ps/\(0<=x.lo/\x.lo<=x.hi/\x.hi<=80))->vC n l=0
 | [],_=>rfl
 | x :: l,h=>by
  obtain⟨k,c,m⟩:=h x (by simp);have e:Vf n x=0:=by rw[Vf,aT (by rwa [qAt]),aT (by rw[Zm9 c _ (dO _)];decide),aT O]
  rw[vC,aT (by rw[e];decide),ZiV λy f=>h y (by simp[f])]
def jO{b:Sb}(ok:bA b):ZF b=0:=by
 have e:YQ b=0:=iF ⟨ok.pl,ok.hd,ok.td⟩;have f:Yr b=0:=by have:=ok.n;rw[Yr,aT O,Zik ok _ (dO _)]
 have c:YU b=0:=by have:=ok.nn;rw[YU,aT O,ZiV ok.nt]
 rw[ZF,aT O,aT O,c]
def bA.sz'{b:Sb}(ok:bA b):b.Sz:=ok.sz λp e=>by obtain⟨i,c,rfl⟩:=qAk.1 e;have h:=(ok.nm i c).1;rw[uO,qAc,qAy]at h;omega
