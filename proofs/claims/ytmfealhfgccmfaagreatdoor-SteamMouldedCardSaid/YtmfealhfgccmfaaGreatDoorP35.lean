import Derived.Test.YtmfealhfgccmfaaGreatDoorP21
import Derived.Test.YtmfealhfgccmfaaGreatDoorP25
import Derived.Test.YtmfealhfgccmfaaGreatDoorP27
import Derived.Test.YtmfealhfgccmfaaGreatDoorP29
import Derived.Test.YtmfealhfgccmfaaGreatDoorP30
import Derived.Test.YtmfealhfgccmfaaGreatDoorP31
import Derived.Test.YtmfealhfgccmfaaGreatDoorP32
import Derived.Test.YtmfealhfgccmfaaGreatDoorP33
import Derived.Test.YtmfealhfgccmfaaGreatDoorP34
set_option linter.all false
set_option maxHeartbeats 8000000
set_option maxRecDepth 20000
def WP{G:Prop}(h:G:=by refine Y ?_;refine Ziq (α:=N4) (m:=ZD s.1 k (ZF s.1 k)) (a:=k) (kv:=ZI) (w:=ZF s.1 k+1) rfl (by rw[(Zbg s.1 k _).1];rfl) rfl (Hp.aQ _ _ _) (by rw[(Zbg s.1 k _).1];exact(Zbg s.1 k _).2) (OL _) ?_;rw[Uy,n8];refine Y ?_;refine Zdq (α:=N4) (m:=ZD s.1 k (ZF s.1 k+1)) (a:=k) (kv:=ZI) (fU Bd) X6 (fT t3) rfl rfl (Hp.aQ _ _ _) (OL _) (Y ?_);refine yG rfl rfl (Y ?_);exact⟨⟨j+1,O⟩,gI O,⟨qC i5 Sc,by rw[N2,SC];exact Hp.aQ _ _ _⟩,⟨rfl,rfl,rfl,rfl,rfl,rfl,by rw[N2,SC];rfl,rfl,rfl,rfl,rfl,rfl,trivial⟩,V,rfl⟩):G:=h
def WH{G:Prop}(h:G:=by
  refine⟨by simp[h.len],λi a b=>?_⟩;have:=h.len;by_cases hi:i<qs.length
  ·rw[qBw hi,qBw O];exact h.at_ i hi O
  simp only[IN,qAW]at a;have e:i=qs.length:=O;subst e;rw[qBL (DO _),qBL O];simp[this];exact⟨hv,hc⟩):G:=h
def DW{G:Prop}(h:G:=by refine Y ?_;exact⟨rfl,true,rfl,λh=>by simp at h⟩):G:=h
def S5{G:Prop}(h:G:=by refine Y ?_;exact⟨⟨i+1,O⟩,gI O,i5,⟨rfl,by rw[e];rfl,by rw[e];rfl,rfl,rfl,rfl,trivial⟩,V,rfl⟩):G:=h
def HA{G:Prop}(h:G:=by refine Y ?_;exact⟨⟨j+1,O⟩,gI O,⟨rfl,pK O⟩,V,V,rfl⟩):G:=h
def G8{G:Prop}(h:G:=by refine Y ?_;exact⟨⟨k+1,O⟩,gI O,⟨rfl,pK O⟩,V,V,rfl⟩):G:=h
def GY{G:Prop}(h:G:=by
  by_cases e2:i<j/\w.get i=true
  ·rw[qAa e2,qAa ⟨O,e2.2⟩]
  rw[iF e2,iF (λh'=>e2 ⟨O,h'.2⟩)]):G:=h
open Go Go.LL
namespace Go.Proofs
section
variable{n i j r cap:Nat}{α:Type}{u w cv:Value}{l:List Int}{rest:List Value}{G:Hp}{S:Int->Prop}{ls:List (List Int)}{ts:List N4}
def Bd:Tryz.prog.underlying 268=some (.map 239 3):=U
def VB(i:Nat)(t:N4):N4:=(⟨0,0,0,0⟩:N4).put i (t.get i)
def UX(i:Nat)(s:List (N4×Int)×Int)(t:N4):List (N4×Int)×Int:=
 (ZD s.1 (VB i t) (ZF s.1 (VB i t)+1),max s.2 (ZF (ZD s.1 (VB i t) (ZF s.1 (VB i t)+1)) (VB i t)))
def Nh(i:Nat)(ts:List N4):Int:=(ts.foldl (UX i) ([],0)).2
def Vk(ts:List N4):Nat->Int×Int
 | 0=>(-1,ts.length)
 | i+1=>if Nh i ts<(Vk ts i).2 then((i:Int),Nh i ts)else Vk ts i
def Zlu{i:Nat}{ts:List N4}:∀j,j<=ts.length->(∀p∈((ts.take j).foldl (UX i) ([],0)).1,0<=p.2)/\Ub (λ_=>true) ((ts.take j).foldl (UX i) ([],0)).1<=j
 | 0,_=>⟨λp c=>by simp at c,by show(0:Int)<=0;omega⟩
 | j+1,f=>by
  have b:j<ts.length:=f;obtain⟨e,k⟩:=Zlu (i:=i) (ts:=ts) j O;rw[Om _ _ b];generalize(ts.take j).foldl (UX i) ([],0)=s at *;have m:=Lx (a:=VB i ts[j]) e;refine⟨λp c=>?_,?_⟩
  ·rcases Zll c with⟨_,h⟩ | h | ⟨_,h⟩
   ·rw[h];omega
   ·exact e p h
   rw[h];omega
  show Ub _ (ZD s.1 _ _)<=_;rw[ZgW,qAa rfl];omega
section
variable{P:fP}[Tz P][Loud P]{H:Hp}
theorem ZAc{b:Sb}(hb:Zq H b)(sz:b.Sz)(hg:Yb H) :
  LL.Zb P 60 #[b.v] H λv p=>fI H p/\v=.tuple #[vi (if Zp b 0=0 then(Vk (Za b) b.pk.length).1 else 0),vi (if Zp b 0=0 then(Vk (Za b) b.pk.length).2 else 0),vi (Zp b 0)]:=by
 refine aU.m (fO ZyH) rfl ?_;unfold ZkP Sb.v;refine Y ?_;refine Zg (OC hb sz hg Ng) ?_;rintro v F ⟨U,hv⟩;rcases hv with⟨f,rfl⟩ | ⟨f,ok,T,w,bb,rfl,ow⟩
 ·unfold Oc;rw[iF f,iF f];refine OJ (λC=>?_) (λC=>?_)
  ·refine Y ?_;exact⟨U,rfl⟩
  exact absurd C f
 rw[qAa f,qAa f,f];have B:=ow.sl;obtain⟨E,I,rfl,_⟩:=id B;have R:=Uw ok;have Ji:=ok.n;generalize Za b=ts at *;unfold YC;refine Y ?_;refine ZC b.pk.length (λi p=>fI F p) (λi=>[(1,vi 0),(2,vi (Vk ts i).1),(3,vi (Vk ts i).2),(5,vi 0),(25,vi b.pk.length),(26,vi i)]) (λi=>[(1,b.cs),(5,[vi b.pl,vi b.hd,vi b.td,.slice b.A1 b.pk.length b.c1,.slice b.A2 b.nt.length b.c2,.slice E ts.length I])]) (.refl _) V V ?_;rintro i N hi L;refine OJ (λC=>?_) (λC=>?_)
 ·have c:i<4:=O;refine Y ?_;refine Ztg (α:=N4) (kv:=ZI) (OL _) λq A=>?_;have i4:=L.trans (Zt (o:=YR ZI ([]:List (N4×Int))) A);have m4:(N.ins q (YR ZI ([]:List (N4×Int)))) q=some (YR ZI ([]:List (N4×Int)),true):=Hp.aQ _ _ _;have Sc:F q=none:=YP L A;generalize N.ins q (YR ZI ([]:List (N4×Int)))=H4 at *;refine Y ?_;refine ZC ts.length (λj p=>fI F p/\p q=some (YR ZI ((ts.take j).foldl (UX i) ([],0)).1,true))
   (λj=>[(1,vi 0),(2,vi (Vk ts i).1),(3,vi (Vk ts i).2),(5,vi 0),(6,vi i),(7,.map (some q)),(8,vi ((ts.take j).foldl (UX i) ([],0)).2),(25,vi b.pk.length),(26,vi i),(31,.slice E ts.length I),(32,vi ts.length),(33,vi j)]) (λj=>[(1,b.cs),(5,[vi b.pl,vi b.hd,vi b.td,.slice b.A1 b.pk.length b.c1,.slice b.A2 b.nt.length b.c2,.slice E ts.length I])]) ⟨i4,m4⟩ V V ?_
  rintro j H5 hj ⟨i5,D⟩;refine OJ (λX=>?_) (λX=>?_)
  ·have z:j<ts.length:=O;have N2:=Om (UX i) ([],0) z;obtain⟨Q,b2⟩:=Zlu (i:=i) (ts:=ts) j O;generalize(ts.take j).foldl (UX i) ([],0)=s at *;refine Y ?_;refine ZB j (B.inc i5) z λa Z=>?_;generalize ts[j]=t at *;have hq1:=Lx (a:=VB i t) Q;have hq2:=ZlQ (a:=VB i t) Q;refine Y ?_;refine YL (cs:=t.cells) Z (Y ?_);refine sV (j:=i) rfl rfl c (Y ?_);refine wB (v:=vi (t.get i)) (OL _) rfl rfl (by
    match i,c with
    | 0,_=>rfl
    | 1,_=>rfl
    | 2,_=>rfl
    | 3,_=>rfl) ?_
   refine Y ?_;refine sV (j:=i) rfl rfl c (Y ?_);refine EL (OL _) rfl rfl rfl rfl (by show 0+i * 1+1<=4;omega) rfl ?_;have J:ZR [vi 0,vi 0,vi 0,vi 0] (0+i * 1) (Value.cells (vi (t.get i))).toList=(VB i t).cells:=HI ⟨0,0,0,0⟩ _ c;have SC:UX i s t=(ZD s.1 (VB i t) (ZF s.1 (VB i t)+1),max s.2 (ZF (ZD s.1 (VB i t) (ZF s.1 (VB i t)+1)) (VB i t))):=rfl;rw[J];generalize VB i t=k at *;have hgp:ZF (ZD s.1 k (ZF s.1 k+1)) k=ZF s.1 k+1:=by rw[Km,qAa rfl]
   refine Y ?_;refine Zt2 (OL _) ?_ ?_
   ·refine Y ?_;refine Zdq (α:=N4) (m:=s.1) (a:=k) (kv:=ZI) (fU Bd) X6 (fT t3) rfl rfl D (OL _) (Y ?_);refine Zii (α:=N4) (m:=s.1) (a:=k) (kv:=ZI) (fU Bd) X6 (fT t3) rfl rfl D (OL _) ?_;refine Zz OL ?_;exact WP
   refine Y ?_;refine Zii (α:=N4) (m:=s.1) (a:=k) (kv:=ZI) (fU Bd) X6 (fT t3) rfl rfl D (OL _) (Y ?_);refine Zdq (α:=N4) (m:=ZD s.1 k (ZF s.1 k)) (a:=k) (kv:=ZI) (fU Bd) X6 (fT t3) rfl rfl (Hp.aQ _ _ _) (OL _) ?_;refine Zz OL ?_;rw[Km,qAa rfl];exact WP
  have:j=ts.length:=O;subst this;rw[qAh]at D ⊢;have W:(ts.foldl (UX i) ([],0)).2=Nh i ts:=rfl;rw[W];refine OJ (λK=>?_) (λK=>?_)
  ·have e:Vk ts (i+1)=((i:Int),Nh i ts):=by rw[Vk,qAa K]
   exact S5
  have e:Vk ts (i+1)=Vk ts i:=by rw[Vk,iF K]
  exact S5
 have:i=b.pk.length:=O;subst this;refine Y ?_;exact⟨U.trans L,rfl⟩
def ZoA{p q:List Int}{x y:Te}(e:dF H (.slice x.A x.n x.c) p)(f:dF H (.slice y.A y.n y.c) q)(k:x.n=p.length)(o:y.n=q.length)(h:p.length<=1000000)(a:q.length<=1000000) :
  LL.Zb P 215 #[FM x.td (.slice x.A x.n x.c),FM y.td (.slice y.A y.n y.c)] H λv b=>H=b/\v=vi (VQ p q):=by
 refine aU.m (fO ZxT) rfl ?_;unfold Zj1;refine Y ?_;refine Zo (ZnA e f h a (OL _)) (Y ?_);exact⟨rfl,rfl⟩
end
def Zwl:((List.range 24).all λi=>(List.range 24).all λj=>VQ ((Zu 4).getD i []) ((Zu 4).getD j []) == YY i j)=true:=by decide +kernel
def Zwm:((List.range 6).all λi=>(List.range 6).all λj=>VQ ((Zu 3).getD i []) ((Zu 3).getD j []) == YY i j)=true:=by decide +kernel
def Zwn:((List.range 2).all λi=>(List.range 2).all λj=>VQ ((Zu 2).getD i []) ((Zu 2).getD j []) == YY i j)=true:=by decide +kernel
def ZhU:(Zu 1).length=1/\(Zu 2).length=2/\(Zu 3).length=6/\(Zu 4).length=24:=by decide +kernel
def Zwo(q:1<=n/\n<=4)(f:1<=i/\i<=(Zu n).length)(h:1<=j/\j<=(Zu n).length):VQ (Z1 n i) (Z1 n j)=YY i j:=by
 obtain⟨k,m,o,p⟩:=ZhU;have key:∀N:Nat,(Zu n).length=N->((List.range N).all λi=>(List.range N).all λj=>VQ ((Zu n).getD i []) ((Zu n).getD j []) == YY i j)=true->VQ (Z1 n i) (Z1 n j)=YY i j:=by intro N a b;rw[a]at f h;have c:=qAf.1 (qAf.1 b (i-1) (qAA.2 O)) (j-1) (qAA.2 O);have e:=eq_of_beq c;unfold Z1;rw[e];unfold YY;simp only[show(((i-1:Nat):Int)<((j-1:Nat):Int))↔((i:Int)<j)from by omega,show(((j-1:Nat):Int)<((i-1:Nat):Int))↔((j:Int)<i)from by omega,gt_iff_lt]
 have:n=1\/n=2\/n=3\/n=4:=O;rcases this with rfl | rfl | rfl | rfl
 ·exact key 1 k (by decide +kernel)
 ·exact key 2 m Zwn
 ·exact key 6 o Zwm
 exact key 24 p Zwl
structure Sb.Sm(b:Sb):Prop where
 pk:b.pk.length<=20
 nt:b.nt.length<=20
 nm:∀p∈b.pk,p.nm.size<=100
 ps:∀x∈b.nt,x.ps.length<=20
def Sb.Sm.sz{b:Sb}(h:b.Sm):b.Sz:=⟨by have:=h.pk;omega,by have:=h.nt;omega,λx c=>by have:=h.ps x c;omega,λp a=>by have:=h.nm p a;omega⟩
def Mv{l:List α}{p:α->Prop}(c:j<l.length)(h:∀x∈l.take j,p x)(b:p l[j]):∀x∈l.take (j+1),p x:=λx a=>by
 rw[BY c]at a;rcases qAj.1 a with a | a
 ·exact h x a
 rw[iO.1 a];exact b
section
variable{P:fP}[Tz P][Loud P]{H:Hp}
def Zpv{b:Sb}(hb:Zq H b):LL.Zb P 84 #[b.v] H λv h=>H=h/\∃g,v=vb g/\(g=false->b.Sm):=by
 refine aU.m (fO Zm2) rfl ?_;unfold Zfo Sb.v;refine OJ (λD=>?_) (λD=>?_)
 ·exact DW
 refine OJ (λE=>?_) (λE=>?_)
 ·exact DW
 refine Y ?_;refine ZC b.pk.length (λj h=>H=h/\∀p∈b.pk.take j,p.nm.size<=100) (λj=>[(1,vi 0),(2,vb false),(3,vi j)]) (λ_=>[(1,b.cs)]) ⟨rfl,λp C=>by simp at C⟩ V V ?_;rintro j _ J ⟨rfl,f⟩;refine OJ (λF=>?_) (λF=>?_)
 ·have o:j<b.pk.length:=O;refine Y ?_;refine ZB j hb.pk o λa B=>?_;have pK:=Mv (p:=λp:Pk=>p.nm.size<=100) o f;generalize b.pk[j]=x at *;refine Y ?_;refine Zh (v:=.string x.nm) (OL _) rfl (by rw[add_zero];exact YN (cs:=[.string x.nm]) (ds:=[vi x.lo,vi x.hi,vi x.jG,vi x.jN]) B) (Y ?_);refine yY rfl ?_;refine OJ (λz=>?_) (λz=>?_)
  ·exact DW
  exact HA
 have:j=b.pk.length:=O;subst this;rw[qAh]at f;refine Y ?_;refine ZC b.nt.length (λj h=>H=h/\∀p∈b.nt.take j,p.ps.length<=20) (λj=>[(1,vi 0),(2,vb false),(4,vi j)]) (λ_=>[(1,b.cs)]) ⟨rfl,λp C=>by simp at C⟩ V V ?_;rintro k _ K ⟨rfl,e⟩;refine OJ (λz=>?_) (λz=>?_)
 ·have q:k<b.nt.length:=O;refine Y ?_;refine ZB k hb.nt q λa B=>?_;have pK:=Mv (p:=λp:Nt=>p.ps.length<=20) q e;generalize b.nt[k]=x at *;refine Y ?_;refine Zh (v:=.slice x.A x.ps.length x.c) (OL _) rfl (by rw[add_zero];exact YN (cs:=[.slice x.A x.ps.length x.c]) (ds:=[vi x.lo,vi x.hi]) B) ?_;refine OJ (λI=>?_) (λI=>?_)
  ·exact DW
  exact G8
 have:k=b.nt.length:=O;subst this;rw[qAh]at e;refine Y ?_;exact⟨rfl,false,rfl,λ_=>⟨O,O,f,e⟩⟩
def sG{b:Sb}(hb:Zq H b):LL.Zb P 18 #[b.v] H λv a=>H=a/\∃g,v=vb g/\(g=true->gY b):=by
 refine aU.m (fO Zm1) rfl ?_;unfold Zfn Sb.v;refine Y ?_;refine Zg (Zpv hb) ?_;rintro v _ ⟨rfl,g,rfl,c⟩;cases g with
 | true=>
  refine Y ?_;exact⟨rfl,false,rfl,λh=>by simp at h⟩
 | false=>
  refine Y ?_;refine Zo (ZnG hb (c rfl).sz) (Y ?_);exact⟨rfl,decide (ZN b=0),by simp[Y3],λh=>Ob (of_decide_eq_true h)⟩
def MW(a b:Int):LL.Zb P 67 #[vi a,vi b] H λv c=>H=c/\v=.agg #[vi a,vi b]:=by refine aU.m (fO ZyO) rfl ?_;unfold ZkW;refine Y ?_;exact⟨rfl,rfl⟩
def P1(a:Int):LL.Zb P 62 #[vi a] H λv b=>H=b/\v=.agg #[vi a,vi a]:=by refine aU.m (fO ZyP) rfl ?_;unfold ZkX;refine Y ?_;refine Zo (MW a a) (Y ?_);exact⟨rfl,rfl⟩
def Zpu{a b:List Int}(f:dF H u a)(hb:dF H w b)(h:a.length<=1000000)(c:b.length<=1000000):LL.Zb P 66 #[u,w] H λv e=>H=e/\v=vb (decide (a=b)):=by refine aU.m (fO ZyA) rfl ?_;unfold ZkI;refine Y ?_;refine Z7 (vs:=[u,w]) rfl (Zz1 f hb h c) ?_;exact DU
def Ks(b:Sb)(x:Nt)(A:Option Addr)(c:Nat):Sb:={ b with nt:=b.nt++[x],A2:=A,c2:=c }
def ZtT(l:List Nt):((Zd l).all Value.gM)=true:=sU (λ_=>rfl) l
def Zhk{b:Sb}{x:Nt}(hb:Zq H b)(K:b.nt.length<=1000000)(z:dF H (.slice x.A x.ps.length x.c) x.ps) :
  LL.Zb P 64 #[b.v,W8 x] H λv k=>fI H k/\∃A c,v=(Ks b x A c).v/\Zq k (Ks b x A c):=by
 refine aU.m (fO ZyG) rfl ?_;unfold ZkO Sb.v;refine Y ?_;refine rT (fU uB) (fT JY) (OL _) λC a=>?_;refine Zz OL (Y ?_);refine uG (l:=([]:List Nt)) (l':=b.nt) (fU uB) (fU uB) (fT JY) rfl (by decide) (YB a) (H0:=H) (b:=some C) ⟨wA,λq e=>by obtain rfl:=aT e;exact a⟩ (hb.nt.inc (Zt a)) (ZtT _) (by simp;omega) O rfl rfl (OL _) λN E I D p c2=>?_;rw[qAt]at p;refine Zz OL (Y ?_);refine Z4 (cs:=[.slice x.A x.ps.length x.c,vi x.lo,vi x.hi]) (OL _) rfl λM f=>?_;refine Zz OL (Y ?_);refine VX (l':=[x]) (fU uB) (fU uB) (fT JY) rfl (by decide) (D.inc.trans (Zt f)) (p.ins f) (Z3 (l:=[x])) rfl (by simp;omega) O rfl rfl (OL _) λQ F J k1 o L=>?_;obtain⟨s,t,rfl,B⟩:=OA o;refine Y ?_;refine⟨k1,s,t,rfl,hb.pk.inc k1,o.sl,λy h=>?_,hb.q1,B⟩;rcases qAj.1 h with h | h
 ·exact(hb.ps y h).inc k1
 rw[iO.1 h];exact z.inc k1
end
def ZoO{p:Program}{t:TypeId}{f k m o:String}{A B t3 t4 q s v z:Nat}{b:Bool}(h:rP p t=some ([(f,A,q),(k,B,s),(m,t3,v),(o,t4,z)],b)):∃a c f3 f4:Field,p.underlying t=some (.struct #[a,c,f3,f4])/\(a.name=f/\a.type=A/\a.offset=q)/\(c.name=k/\c.type=B/\c.offset=s)/\(f3.name=m/\f3.type=t3/\f3.offset=v)/\(f4.name=o/\f4.type=t4/\f4.offset=z)/\p.stoodInHeld t=b:=by
 unfold rP at h;split at h
 ·rename_i e D;obtain⟨e⟩:=e;simp only[IF,qAX]at h;obtain⟨h,C⟩:=h;match e,h with
  | [a,c,f3,f4],h=>
   simp only[qBm,qBM,qBg,qAX]at h;exact⟨a,c,f3,f4,D,h.1,h.2.1,h.2.2.1,h.2.2.2.1,C⟩
 simp at h
def s65:rP Tryz.prog 140=some ([("In",3,0),("Out",3,1),("Begun",3,2),("Done",3,3)],false):=U
def g65:BM Tryz.prog 140=false:=U
section
variable{P:fP}[Tz P]{H:Hp}{g:Bool}{d:Nat}
def Zv0{a:Wk}(Q:Bool->Bool->Hp->Prop)(g:Bool)(H:Hp)(c:Q true g H):fZ P.toPQ (Op.equalIn (d+1+1) 140 (.agg #[vi a.i,vi a.o,vi a.g,vi a.d]) (.agg #[vi a.i,vi a.o,vi a.g,vi a.d])) Q g H:=by have B:∀(x y z u:Int) (Q:Value->Bool->Hp->Prop) g H,fZ P.toPQ (part 3 #[vi x,vi y,vi z,vi u] 0) Q g H↔Q (vi x) g H:=λx y z u Q g H=>Vg rfl Q;have C:∀(x y z u:Int) (Q:Value->Bool->Hp->Prop) g H,fZ P.toPQ (part 3 #[vi x,vi y,vi z,vi u] 1) Q g H↔Q (vi y) g H:=λx y z u Q g H=>Vg rfl Q;have D:∀(x y z u:Int) (Q:Value->Bool->Hp->Prop) g H,fZ P.toPQ (part 3 #[vi x,vi y,vi z,vi u] 2) Q g H↔Q (vi z) g H:=λx y z u Q g H=>Vg rfl Q;have E:∀(x y z u:Int) (Q:Value->Bool->Hp->Prop) g H,fZ P.toPQ (part 3 #[vi x,vi y,vi z,vi u] 3) Q g H↔Q (vi u) g H:=λx y z u Q g H=>Vg rfl Q;obtain⟨J,K,f3,f4,f,⟨h,F,s⟩,⟨k,I,t⟩,⟨m,t3,v⟩,⟨q,t4,A⟩,e⟩:=ZoO (p:=P.toProgram) (by rw[Tz.prog (P:=P)];exact s65);rw[Op.equalIn];simp only[Zf,ZA f,Vw,e,oR,qAq,Zj];simp only[h,k,m,q,F,I,t3,t4,s,t,v,A,Zf,qBr,qBp,List.forIn_nil];simp[B,C,D,E,yT,Zf,Zj];exact c
end
section
variable{P:fP}[Tz P][Loud P]{H:Hp}
def Znk{a:List Wk}(f:dF H u a)(hb:dF H w a)(A:a.length<=1000000):LL.Zb P 65 #[u,w] H λv e=>H=e/\v=vb true:=by
 refine aU.m (fO ZyK) rfl ?_;unfold ZkS;refine Y ?_;refine YH f rfl (Y ?_);refine YH hb rfl ?_;refine OJ (λk=>?_) (λk=>?_)
 ·exact absurd rfl k
 refine Y ?_;refine ZC a.length (λj e=>H=e) (λj=>[(0,u),(1,w),(4,vb false),(5,vi j)]) (λ_=>[]) rfl V trivial ?_;rintro j _ z rfl;refine Y ?_;refine YH f rfl ?_;refine OJ (λs=>?_) (λs=>?_)
 ·have c:j<a.length:=O;refine Y ?_;refine ZB j f c λp t=>Y ?_;refine YL (cs:=a[j].cells) t (Y ?_);refine ZB j hb c λq h=>Y ?_;refine YL (cs:=a[j].cells) h (Y ?_);refine CB (b:=true) (xs:=#[vi a[j].i,vi a[j].o,vi a[j].g,vi a[j].d]) (ys:=#[vi a[j].i,vi a[j].o,vi a[j].g,vi a[j].d]) g65 (λQ g H h=>Zv0 Q g H h) rfl rfl (Y ?_);exact⟨⟨j+1,O⟩,gI O,rfl,V,trivial,rfl⟩
 refine Y ?_;exact⟨rfl,rfl⟩
end
abbrev kO:=Option Addr×Nat×Nat
abbrev mD(q:kO):Value:=.slice q.1 q.2.1 q.2.2
def qT(E:Int->kO)(l:List Int):List Value:=l.map λz=>mD (E z)
def Zgt{E:Int->kO}(l:List Int):(qT E l).length=l.length:=by simp[qT]
def ZnX{E:Int->kO}(z:Int)(l:List Int)(rest:List Value)(j:Nat)(a:j<l.length):ZR (qT E l++rest) j [mD (E z)]=qT E (l.set j z)++rest:=by
 induction l generalizing j with
 | nil=>simp at a
 | cons x l ih=>
  cases j with
  | zero=>simp[qT,ZR]
  | succ j=>
   have e:qT E (x :: l)++rest=[mD (E x)]++(qT E l++rest):=by simp[qT]
   rw[e,show j+1=1+j by omega,Ag (n:=1) rfl,ih j (by simpa using a)];simp[qT,qDU 1 j]
def ZnY{E:Int->kO}(l:List Int)(j:Nat)(a:j<l.length):(qT E l)[j]? = some (mD (E (el l j))):=by
 induction l generalizing j with
 | nil=>simp at a
 | cons x l ih=>
  cases j with
  | zero=>rfl
  | succ j=>exact ih j (by simpa using a)
structure AU(E:Int->kO)(G H:Hp)(r:Nat)(l:List Int)(rest:List Value):Prop where
 keep:∀b x,b≠r->G b=some x->H b=some x
 at_:H r=some (.cells (qT E l++rest).toArray 45 (0,0),true)
def AU.of{E:Int->kO}{H:Hp}(h:H r=some (.cells (qT E l++rest).toArray 45 (0,0),true)):AU E H H r l rest:=⟨λ_ _ _ h=>h,h⟩
def AU.set{E:Int->kO}{H:Hp}(h:AU E G H r l rest)(c:List Int)(a:List Value):AU E G (H.ins r (.cells (qT E c++a).toArray 45)) r c a:=
 ⟨λb x hb e=>by rw[Hp.aR _ _ hb];exact h.keep b x hb e,Hp.aQ _ _ _⟩
def AU.cA{E:Int->kO}{H:Hp}(h:AU E G H r l rest)(c:i<l.length)(e:i=j:=by omega):aM H ((⟨r,0,none⟩:Addr).add (i * 1)) [mD (E (el l j))]:=by
 subst e;rw[VF,qAJ,qCo];refine⟨rfl,_,_,h.at_,λk f=>?_⟩;have a:k=0:=by simpa using f
 subst a;have e:=ZnY (E:=E) l i c;have b:i<(qT E l).length:=by rw[Zgt];omega
 have:(qT E l++rest)[i]? = some (mD (E (el l i))):=by rw[qAQ b,e]
 simpa[Obj.nC]using this
def X0(P:fP)(E:Int->kO)(H:Hp)(r:Nat)(cv:Value)(S:Int->Prop):Prop:=
 ∀a,(∀b x,b≠r->H b=some x->a b=some x)->∀p q,S p->S q->Z5 P cv #[mD (E p),mD (E q)] a λv c=>a=c/\v=vi (YY p q)
section
variable{P:fP}[Tz P][Loud P]{H:Hp}{d:Option Nat}{next:fG->Hp->Prop}{σ:fG}{x y:Operand}
def Zh9{E:Int->kO}{a:Addr}{n:Int}(h:AU E G H r l rest)(k:j<l.length)(e:a=(⟨r,0,none⟩:Addr).add (j * 1))(c:σ.get x=some (.pointer (some a)))(f:σ.get y=some (mD (E n)))
  (o:∀b,AU E G b r (l.set j n) rest->next (σ.set d undef) b):(fR.raw (.store 45 x y) 0).m P d next σ H:=by
 subst e;rw[VF,qAJ,qCo]at c;refine OH (fT Q0) c f h.at_ rfl (by rw[IN,Zgt];omega) rfl (Loud.fD _) ?_;rw[show(mD (E n)).cells.toList=[mD (E n)]from rfl,ZnX n l rest j k];exact o _ (h.set _ _)
end
def ZzI(P:fP)(f:Nat)(E:Int->kO)(H:Hp)(r cap:Nat)(l:List Int)(rest:List Value)(a b:Nat)(c:List Value)(Q:Value->List Int->Prop):Prop:=
 LL.Zb P f (.slice (some ⟨r,0,none⟩) l.length cap :: vi a :: vi b :: c).toArray H λv h=>∃e,AU E H h r e rest/\Rg a b l e/\Q v e
section
variable{P:fP}[Tz P][Loud P]{H:Hp}
def Zvd{E:Int->kO}{a b:Nat}(A:H r=some (.cells (qT E l++rest).toArray 45 (0,0),true))(D:a<=b)(hb:b<=l.length)(W:l.length<=1000000)(B:X0 P E H r cv S)(q:∀k,k<l.length->S (el l k)) :
  ZzI P 289 E H r cap l rest a b [cv] λ_ K=>So a b K:=by
 refine aU.m (fO ZxE) rfl ?_;unfold ZjM;refine Y ?_;refine Yp (α:=List Int) (b-(a+1)) (λj c e=>AU E H e r c rest/\Rg a b l c/\So a (a+1+j) c) (λj c=>[(0,.slice (some ⟨r,0,none⟩) l.length cap),(1,vi a),(2,vi b),(3,cv),(8,vi ((a+1+j:Nat):Int))]) (λj c=>[]) l ⟨AU.of A,.refl l,O7 l O⟩ V trivial ?_;rintro i c L T ⟨o,h,t⟩;have F:=h.len;refine OJ (λp=>?_) (λp=>?_)
 ·have p:a+1+i<b:=O;refine Y ?_;refine Yp (α:=List Int) (i+1) (λk c' e=>AU E H e r c' rest/\Rg a b l c'/\(∀x y,a<=x->x<=y->y<=a+1+i->x≠a+1+i-k->y≠a+1+i-k->el c' x<=el c' y)/\(∀y,a+1+i-k<y->y<=a+1+i->el c' (a+1+i-k)<=el c' y))
   (λk c'=>[(0,.slice (some ⟨r,0,none⟩) l.length cap),(1,vi a),(2,vi b),(3,cv),(8,vi ((a+1+i:Nat):Int)),(9,vi ((a+1+i-k:Nat):Int))]) (λk c'=>[]) c ⟨o,h,λx y h1 h2 h3 h4 h5=>t x y h1 h2 O,λy h1 h2=>O⟩ V trivial ?_
  rintro k c' M U ⟨rS,BT,FP,NT⟩;have s:=BT.len;have J:a+1+i-k<l.length:=O;obtain⟨j,I⟩:∃j,a+1+i-k=j:=⟨_,rfl⟩;rw[I]at FP NT ⊢;refine OJ (λha=>?_) (λha=>?_)
  ·have ha:a<j:=O;refine Y ?_;refine Zi j rfl rfl O O (Y ?_);refine Zh (Loud.fD _) rfl (AU.cA rS O rfl) (Y ?_);refine Zi (j-1) rfl rfl O O (Y ?_);refine Zh (Loud.fD _) rfl (AU.cA rS O rfl) (Y ?_);refine ZP rfl rfl (B _ (AU.keep rS) _ _ (ZL BT hb q O) (ZL BT hb q O)) ?_;intro X R C;obtain⟨v,z⟩:=C;subst v z;refine OJ (λDQ=>?_) (λDQ=>?_);all_goals rw[Vj]at DQ
   ·refine Y ?_;refine Zi (j-1) rfl rfl O O (Y ?_);refine Zh (Loud.fD _) rfl (AU.cA rS O rfl) (Y ?_);refine Zi j rfl rfl O O (Y ?_);refine Zh (Loud.fD _) rfl (AU.cA rS O rfl) (Y ?_);refine Zi j rfl rfl O O (Y ?_);refine Zh9 rS O rfl rfl rfl λQ f=>?_;refine Zz Loud.fD (Y ?_);refine Zi (j-1) rfl rfl O O (Y ?_);refine Zh9 f (by rw[qAe];omega) rfl rfl rfl λN x8=>?_;exact gq5
   exact WG
  exact T9
 refine Y ?_;refine⟨c,o,h,?_⟩;intro x y h1 h2 h3;exact t x y h1 h2 O
def Zve{E:Int->kO}(h:X0 P E H r cv S)(m:∀k,k<l.length->S (el l k))(f:H r=some (.cells (qT E l++rest).toArray 45 (0,0),true))(o:l.length=n)(p:n<=12) :
  LL.Zb P 289 #[.slice (some ⟨r,0,none⟩) n cap,vi 0,vi n,cv] H λ_ e=>∃c,AU E H e r c rest/\Rg 0 n l c/\So 0 n c:=by
 subst o;exact Zvd (a:=0) (b:=l.length) f (qBf _) (DO _) O h m
def ZsS{e:Nat}{E:Int->kO}(p:X0 P E H r cv S)(q:∀k,k<l.length->S (el l k))(o:H r=some (.cells (qT E l++rest).toArray 45 (0,0),true))(t:l.length=n)(s:n<=12) :
  LL.Zb P 217 #[.slice (some ⟨r,0,none⟩) n cap,vi 0,vi n,vi e,cv] H λ_ a=>∃c,AU E H a r c rest/\Rg 0 n l c/\So 0 n c:=by
 refine aU.m (fO ZxO) rfl ?_;unfold ZjW;refine OB ?_;refine ZC 0 (λ_ a=>H=a) (λ_=>[(0,.slice (some ⟨r,0,none⟩) n cap),(1,vi 0),(2,vi n),(4,cv)]) (λ_=>[]) rfl V trivial ?_;rintro _ _ _ rfl;refine OJ (λc1=>?_) (λc1=>?_)
 ·refine Y ?_;refine Zg (vs:=[.slice (some ⟨r,0,none⟩) n cap,vi 0,vi n,cv]) (Zve p q o t s) ?_;rintro v z ⟨c2,b,f,h⟩;refine Y ?_;exact⟨c2,b,f,h⟩
 exfalso;omega
def ZoR{E:Int->kO}(e:X0 P E H r cv S)(f:∀k,k<l.length->S (el l k))(c:H r=some (.cells (qT E l++rest).toArray 45 (0,0),true))(p:l.length=n)(o:n<=12) :
  LL.Zb P 148 #[.slice (some ⟨r,0,none⟩) n cap,cv] H λ_ b=>∃a,AU E H b r a rest/\Rg 0 n l a/\So 0 n a:=by
 refine aU.m (fO Zyd) rfl ?_;unfold Zkl;refine Y ?_;refine VC (fU vD) (fU QE) rfl ?_;rw[U7 (m:=n) O];refine Y ?_;refine Zg (vs:=[.int .u64 n]) (X1 O) ?_;rintro w _ ⟨rfl,rfl⟩;refine Y ?_;refine Zg (vs:=[.slice (some ⟨r,0,none⟩) n cap,vi 0,vi n,vi (jQ n:Nat),cv]) (ZsS e f c p o) ?_;rintro v q h;refine Y ?_;exact h
end
instance:Enc kO:=⟨1,λq=>[mD q],λ_=>rfl⟩
def UY(q:kO):Int:=(q.2.1:Int)
section
variable{P:fP}[Tz P][Loud P]{H:Hp}
def Zlz(q:kO):LL.Zb P 151 #[mD q] H λv a=>H=a/\v=vi (UY q):=by refine aU.m (fO Zyb) rfl ?_;unfold Zkj;refine Y ?_;exact⟨rfl,rfl⟩
def ZuP{v:Value}{l:List kO}(h:dF H v l)(t:l.length<=1000000):LL.Zb P 219 #[.agg #[vf 151],v] H λw e=>H=e/\w=vi (Zs (l.map UY)):=by
 refine aU.m (fO ZxN) rfl ?_;unfold ZjV;obtain⟨K,f⟩:∃K,K=l.map UY:=⟨_,rfl⟩;rw[<-f];have hKl:K.length=l.length:=by rw[f,qAd]
 have b:∀j (k:j<l.length),el K j=UY l[j]:=λj k=>by rw[V1 O];simp[f]
 refine Y ?_;refine YH h rfl (Y ?_);refine ZC l.length (λj e=>H=e) (λj=>[(1,v),(2,vi 0),(5,vi (iR K j)),(8,vi l.length),(9,vi j)]) (λj=>[(2,[vf 151])]) rfl V V ?_;rintro j _ k rfl;refine OJ (λq=>?_) (λq=>?_)
 ·have c:j<l.length:=O;have o:iR K j<l.length:=by
   by_cases p:j=0
   ·rw[p,iR];omega
   have:=XK (l:=K) j O;omega
  have e1:=b j c;have e2:=b _ o;refine Y ?_;refine ZB j h c λa s=>?_;generalize l[j]=x at *;refine Y ?_;refine Z8 s (Y ?_);refine ZB (iR K j) h o λa hb=>?_;generalize l[iR K j]=y at *;refine Y ?_;refine Z8 hb (Y ?_);refine ZP (vs:=[mD x]) rfl rfl (Yv U (Zlz x)) ?_;rintro w _ ⟨rfl,rfl⟩;refine Y ?_;refine ZP (vs:=[mD y]) rfl rfl (Yv U (Zlz y)) ?_;exact TS
 exact GR
def ZsM{A:Option Addr}{c:Nat}{l:List kO}(f:dF H (.slice A l.length c) l)(b:l≠[])(p:l.length<=1000000):LL.Zb P 150 #[.agg #[vf 151],.slice A l.length c] H λw k=>H=k/\∃h:Zs (l.map UY)<l.length,w=mD l[Zs (l.map UY)]:=by
 refine aU.m (fO Zyc) rfl ?_;unfold Zkk;have e:Zs (l.map UY)<l.length:=by have:=XJ (l:=l.map UY) (by simpa using b);rwa [qAd]at this
 refine Y ?_;refine Zg (vs:=[.agg #[vf 151],.slice A l.length c]) (ZuP f p) ?_;rintro w _ ⟨rfl,rfl⟩;refine Y ?_;refine ZB (Zs (l.map UY)) f e λa o=>Y ?_;refine Z8 o (Y ?_);exact⟨rfl,e,rfl⟩
end
def pT(l:List Int)(j:Nat):List (List Int):=(List.range j).flatMap λ(i:Nat)=>if(i:Int)∈l then[]else[l++[(i:Int)]]
def tR(n:Nat):Nat->List (List Int)
 | 0=>[[]]
 | i+1=>(tR n i).flatMap λl=>pT l n
theorem Zmh(l:List Int)(j:Nat):pT l (j+1)=pT l j++if(j:Int)∈l then[]else[l++[(j:Int)]]:=by rw[pT,qCZ,qDb,List.flatMap_singleton];rfl
def ZvK{β:Type}(f:α->List β){l:List α}{k:Nat}(h:k<l.length):(l.take (k+1)).flatMap f=(l.take k).flatMap f++f l[k]:=by rw[BY h,qDb,List.flatMap_singleton]
def ZuD:tR 1 1=Zu 1/\tR 2 2=Zu 2/\tR 3 3=Zu 3/\tR 4 4=Zu 4:=by decide +kernel
def ZuA(f:1<=n/\n<=4):tR n n=Zu n:=by
 obtain⟨a,b,c,e⟩:=ZuD;have:n=1\/n=2\/n=3\/n=4:=O;rcases this with rfl | rfl | rfl | rfl
 ·exact a
 ·exact b
 ·exact c
 exact e
def ZuB:((List.range 5).all λn=>(List.range (n+1)).all λi=>decide ((tR n i).length<=24) && (tR n i).all λl=>decide (l.length<=4))=true:=by decide +kernel
def ZuC(c:n<=4)(b:i<=n):(tR n i).length<=24/\∀l∈tR n i,l.length<=4:=by have h:=qAf.1 (qAf.1 ZuB n (qAA.2 O)) i (qAA.2 O);rw[qAc,qAN,qAf]at h;exact⟨h.1,λl a=>of_decide_eq_true (h.2 l a)⟩
def ZfJ(l:List Int):∀j,(pT l j).length<=j
 | 0=>DO _
 | j+1=>by rw[Zmh,IN];have:=ZfJ l j;split<;>simp<;>omega
def Zmg{n:Nat}:∀(L:List (List Int)),(L.flatMap λl=>pT l n).length<=L.length * n
 | []=>by simp
 | l :: L=>by rw[qAI,IN,qAF,qBx];have:=Zmg (n:=n) L;have:=ZfJ l n;omega
structure zF(H:Hp)(qs:List kO)(ls:List (List Int)):Prop where
 len:qs.length=ls.length
 at_:∀i (h:i<qs.length) (h':i<ls.length),dF H (mD qs[i]) ls[i]/\qs[i].2.1<=qs[i].2.2
def zF.nil(H:Hp):zF H [] []:=⟨rfl,λi h=>by simp at h⟩
def zF.inc{H H':Hp}{c:List kO}(h:zF H c ls)(e:fI H H'):zF H' c ls:=⟨h.len,λi a b=>⟨((h.at_ i a b).1).inc e,(h.at_ i a b).2⟩⟩
def zF.pP{H:Hp}{qs:List kO}{q:kO}(h:zF H qs ls)(hv:dF H (mD q) l)(hc:q.2.1<=q.2.2):zF H (qs++[q]) (ls++[l]):=by exact WH
def Zg9{H:Hp}{q:kO}(h:dF H (mD q) l):q.2.1=l.length:=by obtain⟨_,_,e,_⟩:=h;simp only[Value.slice.injEq]at e;exact e.2.1
def HM(x y:N4):Prop:=∃i,i<4/\x.get i<y.get i/\∀j,j<i->x.get j=y.get j
def HM.tZ{x y:N4}(h:HM x y)(a:HM y x):False:=by
 obtain⟨i,m,f,b⟩:=h;obtain⟨j,o,k,c⟩:=a;rcases Nat.lt_trichotomy i j with e | e | e
 ·have:=c i e;omega
 ·subst e;omega
 have:=b j e;omega
def Kh{l c:List N4}(f:l.Pairwise HM)(k:c.Pairwise HM)(h:∀x,x∈l↔x∈c):l=c:=by have p:l.Perm c:=(List.perm_ext_iff_of_nodup (f.imp λh e=>by subst e;exact h.tZ h) (k.imp λh e=>by subst e;exact h.tZ h)).2 h;exact p.eq_of_pairwise (le:=HM) (λa b _ _ x y=>(x.tZ y).elim) f k
def ZeH{α:Type}{f:Int->List α}{a:Int}{x:α}:∀{c:Nat},x∈oJ f a c↔∃v,a-c<v/\v<=a/\x∈f v
 | 0=>by
  rw[oJ];constructor
  ·intro h;simp at h
  rintro⟨v,m,b,_⟩;omega
 | c+1=>by
  rw[oJ,qAj,ZeH];constructor
  ·rintro(h | ⟨v,m,b,k⟩)
   ·exact⟨a-c,O,O,h⟩
   exact⟨v,O,b,k⟩
  rintro⟨v,m,b,k⟩;by_cases e:v=a-c
  ·subst e;exact .inl k
  exact .inr ⟨v,O,b,k⟩
def Zg5{α:Type}{R:α->α->Prop}{f:Int->List α}{e:Int}(a:∀v,(f v).Pairwise R)(b:∀v w,v<w->∀x∈f v,∀y∈f w,R x y):∀c,(oJ f e c).Pairwise R
 | 0=>by rw[oJ];exact .nil
 | c+1=>by rw[oJ,qCS];refine⟨a _,Zg5 a b c,λx h y k=>?_⟩;obtain⟨w,o,p,m⟩:=ZeH.1 k;exact b _ w O x h y m
def Ab{b:Sb}:∀{r:Nat} {m x:N4},r<=b.pk.length->b.pk.length<=4->(x∈hU b r m↔(∀j,j<4->(j<b.pk.length-r\/b.pk.length<=j)->x.get j=m.get j)/\(∀j,b.pk.length-r<=j->j<b.pk.length->(gA b j).lo<=x.get j/\x.get j<=(gA b j).hi)/\hV b x=true)
 | 0,m,x,_,_=>by
  rw[hU];constructor
  ·intro h;split at h
   ·obtain rfl:=iO.1 h;exact⟨λ_ _ _=>rfl,λj o q=>O,by assumption⟩
   simp at h
  rintro⟨o,_,s⟩;have:x=m:=N4.ext' λj a=>o j a O;subst this;rw[qAa s];simp
 | r+1,m,x,D,A=>by
  rw[hU,ZeH];obtain⟨i,z⟩:∃i,b.pk.length-(r+1)=i:=⟨_,rfl⟩;rw[z];constructor
  ·rintro⟨v,o,q,s⟩;obtain⟨f,k,p⟩:=(Ab O A).1 s;refine⟨λj a B=>?_,λj C t=>?_,p⟩
   ·rw[f j a O,N4.iC _ _ a,iF O]
   by_cases e:j=i
   ·subst e;have:=f j O O;rw[N4.iC _ _ O,qAa rfl]at this;omega
   exact k j O t
  rintro⟨f,k,p⟩;have:=k i O O;refine⟨x.get i,O,O,(Ab O A).2 ⟨λj a B=>?_,λj o q=>k j O q,p⟩⟩;rw[N4.iC _ _ a];split
  ·rename_i e;rw[e]
  exact f j a O
def Zhl{b:Sb}:∀{r:Nat} {m:N4},r<=b.pk.length->b.pk.length<=4->(hU b r m).Pairwise HM
 | 0,m,_,_=>by rw[hU];split<;>simp
 | r+1,m,q,a=>by
  rw[hU];obtain⟨i,h⟩:∃i,b.pk.length-(r+1)=i:=⟨_,rfl⟩;rw[h];refine Zg5 (λv=>Zhl O a) (λv w c x k y o=>?_) _;have g:=((Ab O a).1 k).1;have e:=((Ab O a).1 o).1;refine⟨i,O,?_,λj p=>?_⟩
  ·rw[g i O O,e i O O,N4.iC _ _ O,N4.iC _ _ O,qAa rfl,qAa rfl];exact c
  rw[g j O O,e j O O,N4.iC _ _ O,N4.iC _ _ O,iF O,iF O]
theorem Zgk(j:Nat)(a:j<4):(⟨0,0,0,0⟩:N4).get j=0:=by
 match j,a with
 | 0,_=>rfl
 | 1,_=>rfl
 | 2,_=>rfl
 | 3,_=>rfl
def Xz(b:Sb)(x:N4):Prop:=(∀j,j<b.pk.length->(gA b j).lo<=x.get j/\x.get j<=(gA b j).hi)/\∀j,j<4->b.pk.length<=j->x.get j=0
def jW{b:Sb}(k:b.pk.length<=4){x:N4}:x∈Za b↔Xz b x/\hV b x=true:=by
 rw[Za,Ab (DO _) k,qCf];constructor
 ·rintro⟨c,e,f⟩;exact⟨⟨λj a=>e j (qBf _) a,λj a h=>by rw[c j a (.inr h),Zgk j a]⟩,f⟩
 rintro⟨⟨c,e⟩,f⟩;exact⟨λj a h=>by rw[e j a O,Zgk j a],λj _ a=>c j a,f⟩
def CE{b:Sb}(a:b.pk.length<=4):(Za b).Pairwise HM:=Zhl (DO _) a
def gd(b:Sb)(l:List Int)(t:N4):Bool:=UA b (Zw b t l)
def Zl0{b:Sb}{l:List Int}:∀(ts:List N4) (s:Td),(ts.foldl (Z2 b l) s).good=s.good+((ts.filter (gd b l)).length:Nat)
 | [],s=>by simp
 | t :: ts,s=>by
  rw[qBG,Zl0 ts];show(if gd b l t=true then s.good+1 else s.good)+_=_;rw[qCy];by_cases h:gd b l t=true
  ·rw[qAa h,qAa h,qAF];omega
  rw[iF h,iF h]
def Zeq(b:Sb)(ts:List N4)(l:List Int):(jA b ts l).good=((ts.filter (gd b l)).length:Nat):=by rw[jA,Zl0];show(0:Int)+_=_;omega
def Zf1{c:N4}{w:B4}:∀{j:Nat},j<=4->∀{i:Nat},i<4->(Yq c w j).get i=if i<j/\w.get i=true then c.get i+1 else c.get i
 | 0,_,i,_=>by rw[Yq,iF O]
 | j+1,f,i,b=>by
  rw[Yq];have ih:=@Zf1 c w j O i b;have a:=@Zf1 c w j O j O;rw[iF O]at a;split
  ·rename_i h;rw[N4.iC _ _ b];by_cases e:i=j
   ·subst e;rw[qAa rfl,a,qAa ⟨O,h⟩]
   rw[iF e,ih];exact GY
  rename_i h;rw[ih];by_cases e:i=j
  ·subst e;rw[iF O,iF (λh'=>h h'.2)]
  exact GY
def Zl1{b:Sb}{l:List Int}{i:Nat}(c:i<4):∀(ts:List N4) (s:Td),(ts.foldl (Z2 b l) s).cold.get i=s.cold.get i+((ts.filter λt=>(Zw b t l).1.get i).length:Nat)
 | [],s=>by simp
 | t :: ts,s=>by
  rw[qBG,Zl1 c ts];have e:(Z2 b l s t).cold.get i=if(Zw b t l).1.get i=true then s.cold.get i+1 else s.cold.get i:=by
   show(Yq s.cold (Zw b t l).1 4).get i=_;rw[Zf1 (DO _) c];by_cases h:(Zw b t l).1.get i=true
   ·rw[qAa ⟨c,h⟩,qAa h]
   rw[iF (λf=>h f.2),iF h]
  rw[e,qCy];by_cases h:(Zw b t l).1.get i=true
  ·rw[qAa h,qAa h,qAF];omega
  rw[iF h,iF h]
def ZgL(b:Sb)(ts:List N4)(l:List Int)(c:i<4):(jA b ts l).cold.get i=((ts.filter λt=>(Zw b t l).1.get i).length:Nat):=by
 rw[jA,Zl1 c];have:(vF b ts l).cold.get i=0:=by
  match i,c with
  | 0,_=>rfl
  | 1,_=>rfl
  | 2,_=>rfl
  | 3,_=>rfl
 omega
def ZlY{b:Sb}{l:List Int}:∀(ts:List N4) (s:Td),(ts.foldl (Z2 b l) s).lo<=s.lo/\(∀t∈ts,(ts.foldl (Z2 b l) s).lo<=(Zw b t l).2)/\((ts.foldl (Z2 b l) s).lo=s.lo\/∃t∈ts,(ts.foldl (Z2 b l) s).lo=(Zw b t l).2)
 | [],s=>⟨qAO _,λt h=>by simp at h,.inl rfl⟩
 | t :: ts,s=>by
  obtain⟨m,o,c⟩:=ZlY ts (Z2 b l s t);rw[qBG];generalize ts.foldl (Z2 b l) (Z2 b l s t)=f at *;have e:(Z2 b l s t).lo=min s.lo (Zw b t l).2:=rfl;rw[e]at m c;refine⟨O,λu k=>?_,?_⟩
  ·rcases qAi.1 k with rfl | k
   ·omega
   exact o u k
  rcases c with c | ⟨u,k,c⟩
  ·by_cases p:s.lo<=(Zw b t l).2
   ·exact .inl O
   exact .inr ⟨t,by simp,O⟩
  exact .inr ⟨u,by simp[k],c⟩
def ZlZ{b:Sb}{l:List Int}:∀(ts:List N4) (s:Td),s.hi<=(ts.foldl (Z2 b l) s).hi/\(∀t∈ts,(Zw b t l).2<=(ts.foldl (Z2 b l) s).hi)/\((ts.foldl (Z2 b l) s).hi=s.hi\/∃t∈ts,(ts.foldl (Z2 b l) s).hi=(Zw b t l).2)
 | [],s=>⟨qAO _,λt h=>by simp at h,.inl rfl⟩
 | t :: ts,s=>by
  obtain⟨m,o,c⟩:=ZlZ ts (Z2 b l s t);rw[qBG];generalize ts.foldl (Z2 b l) (Z2 b l s t)=f at *;have e:(Z2 b l s t).hi=max s.hi (Zw b t l).2:=rfl;rw[e]at m c;refine⟨O,λu k=>?_,?_⟩
  ·rcases qAi.1 k with rfl | k
   ·omega
   exact o u k
  rcases c with c | ⟨u,k,c⟩
  ·by_cases p:(Zw b t l).2<=s.hi
   ·exact .inl O
   exact .inr ⟨t,by simp,O⟩
  exact .inr ⟨u,by simp[k],c⟩
def ZgM(h:ts≠[]):ts.getD 0 ⟨0,0,0,0⟩∈ts:=by
 cases ts with
 | nil=>exact absurd rfl h
 | cons t ts=>exact qAB
def ZgJ{b:Sb}(h:ts≠[]):(∀t∈ts,(jA b ts l).lo<=(Zw b t l).2)/\∃t∈ts,(jA b ts l).lo=(Zw b t l).2:=by
 obtain⟨_,c,a⟩:=ZlY ts (vF b ts l);refine⟨c,?_⟩;rcases a with a | a
 ·exact⟨_,ZgM h,a⟩
 exact a
def ZgK{b:Sb}(h:ts≠[]):(∀t∈ts,(Zw b t l).2<=(jA b ts l).hi)/\∃t∈ts,(jA b ts l).hi=(Zw b t l).2:=by
 obtain⟨_,c,a⟩:=ZlZ ts (vF b ts l);refine⟨c,?_⟩;rcases a with a | a
 ·exact⟨_,ZgM h,a⟩
 exact a
def ZvQ{p:α->Bool}{l:List α}:(l.filter p).length=l.length↔∀x∈l,p x=true:=by rw[List.length_filter_eq_length_iff]
def ZvO{p:α->Bool}{l:List α}:(l.filter p).length=0↔∀x∈l,p x=false:=by rw[qBj,List.filter_eq_nil_iff];simp
def Zey{p:α->Bool}{l:List α}(h:l≠[]):Z6 ((l.filter p).length:Nat) (l.length:Nat)=1↔∀x∈l,p x=true:=by
 rw[<-ZvQ];have:=qBY.2 h;unfold Z6;split
 ·omega
 split
 ·omega
 omega
def ZgV{p:α->Bool}{l:List α}:Z6 ((l.filter p).length:Nat) (l.length:Nat)=2↔∀x∈l,p x=false:=by
 rw[<-ZvO];unfold Z6;split
 ·omega
 split
 ·omega
 omega
theorem ZoC(m n:Int):Z6 m n=0\/Z6 m n=1\/Z6 m n=2:=by
 unfold Z6;split
 ·exact .inr (.inr rfl)
 split
 ·exact .inr (.inl rfl)
 exact .inl rfl
def OV(b:Sb)(ts:List N4)(p:List Int):Bool:=ts.all (gd b p)
def Zt0{b:Sb}{m:Nat}(h:ts≠[])(a:1<=m):Ui b ts m=OV b ts (Z1 b.pk.length m):=by rw[qBQ,Ui,qAc,qAN,qAN,Zeq,Zey h,OV,qAf];exact⟨λh=>h.2,λh=>⟨a,h⟩⟩
def Zud{b:Sb}(h:ts≠[]):(lE b ts).map (Z1 b.pk.length)=(Zu b.pk.length).filter (OV b ts):=by
 have c:Zu b.pk.length=((List.range (Zu b.pk.length).length).map (·+1)).map (Z1 b.pk.length):=by refine qCz (by simp) λi e o=>?_;simp only[qBn,qDL,Z1,qBE];exact(ZG e _).symm
 conv=>rhs;rw[c]
 rw[List.filter_map,lE];congr 1;refine qDS λm f=>?_;obtain⟨k,_,rfl⟩:=qAy.1 f;exact Zt0 h O
def Zhp{b o:Sb}(h:o.pk.length=b.pk.length)(a:∀j,(gA o j).lo=(gA b j).lo/\(gA o j).hi=(gA b j).hi)(c:∀t,hV o t=hV b t):∀(r:Nat) (m:N4),hU o r m=hU b r m
 | 0,m=>by rw[hU,hU,c]
 | r+1,m=>by rw[hU,hU,h,(a _).1,(a _).2];congr 1;funext v;exact Zhp h a c r _
def Zpz{b o:Sb}(h:o.pk.length=b.pk.length)(a:∀j,(gA o j).lo=(gA b j).lo/\(gA o j).hi=(gA b j).hi)(c:∀t,hV o t=hV b t):Za o=Za b:=by rw[Za,Za,h,Zhp h a c]
def ZnO{b o:Sb}(a:o.pk.length=b.pk.length)(c:o.pl=b.pl)(f:o.hd=b.hd)(h:∀j,(gA o j).jG=(gA b j).jG):Vn o=Vn b:=by
 have e:nV o=nV b:=by funext s p;unfold nV;rw[h]
 funext t l;unfold Vn RD Ua uE BU;rw[e,a,c,f]
def ZhH{b o:Sb}(h:∀j,(gA o j).jN=(gA b j).jN)(w:List Wk):∀j,oY o w j=oY b w j
 | 0=>rfl
 | j+1=>by rw[oY,oY,ZhH h w j,h]
def Ki{b o:Sb}(a:o.pk.length=b.pk.length)(c:o.pl=b.pl)(e:o.hd=b.hd)(f:∀j,(gA o j).jG=(gA b j).jG)(h:∀j,(gA o j).jN=(gA b j).jN):Zw o=Zw b:=by funext t l;rw[Zw,Zw,ZnO a c e f,ZhH h]
def Zvv{b o:Sb}(h:Zw o=Zw b)(a:o.td=b.td)(l:List Int):gd o l=gd b l:=by funext t;rw[gd,gd,h,UA,UA,a]
def Zer{b o:Sb}(h:Zw o=Zw b)(a:o.td=b.td)(ts:List N4)(l:List Int):jA o ts l=jA b ts l:=by
 have e:Z2 o l=Z2 b l:=by funext s t;unfold Z2 UA;rw[h,a]
 rw[jA,jA,e,vF,vF,h]
def Zzm{b o:Sb}(h:Zw o=Zw b)(a:o.td=b.td)(ts:List N4)(p:List Int):OV o ts p=OV b ts p:=by rw[OV,OV,Zvv h a]
end
structure O1(n:Nat)(l:List Int):Prop where
 len:l.length=n
 nd:l.Nodup
 rg:∀z∈l,0<=z/\z<n
def ZsE:(∀p∈Zu 1,p.Nodup)/\(∀p∈Zu 2,p.Nodup)/\(∀p∈Zu 3,p.Nodup)/\(∀p∈Zu 4,p.Nodup):=by decide +kernel
def ZsI{n:Nat}(m:1<=n/\n<=4){p:List Int}(a:p∈Zu n):O1 n p:=by
 obtain⟨h,k⟩:=ZeV a;refine⟨h,?_,k⟩;obtain⟨b,c,e,f⟩:=ZsE;have:n=1\/n=2\/n=3\/n=4:=O;rcases this with rfl | rfl | rfl | rfl
 ·exact b p a
 ·exact c p a
 ·exact e p a
 exact f p a
