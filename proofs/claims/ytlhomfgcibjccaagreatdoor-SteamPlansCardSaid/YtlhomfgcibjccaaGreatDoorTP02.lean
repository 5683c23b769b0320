import Derived.Test.YtlhomfgcibjccaaGreatDoorTP01
set_option linter.all false
set_option maxHeartbeats 8000000
set_option maxRecDepth 20000
open Go Go.LL
namespace Go.Proofs
variable{T:List Int}{w:Value}{A:Option Addr}
theorem kS{b:Sb}(ok:bA b){l:List Int}(c:l.length=b.pk.length):eR b l=true↔(∀j,j<b.pk.length->(aD b j).lo<=l.getD j 0/\l.getD j 0<=(aD b j).hi)/\cB b (Ys l)=true:=by
 have d:=ok.n;rw[kZ ok c,hZ d.2];refine qDl ⟨λh j a=>?_,λh=>⟨λj a=>?_,λj a e=>?_⟩⟩ qCH
 ·have:=h.1 j a;rwa [fJ O]at this
 ·rw[fJ O];exact h j a
 rw[fJ a,qAa,qAn O];rfl
section
variable{P:aX}[Tz P][Loud P]{H:Hp}
theorem pU{v:Value}{l:List Int}(g:aF H v l)(p:l.length<=1000000)(q:1<=l.length):LL.Zc P 165 #[v] H λw d=>H=d/\w=vi (Zo l):=by
 obtain⟨A,c,rfl,_⟩:=id g;refine aJ.m (bG JB) (args:=[.slice A l.length c]) rfl ?_;unfold mU;refine Y ?_;refine Zv (l.length-1) (λj d=>H=d) (λj=>[(0,.slice A l.length c),(3,vi (cO l (j+1))),(4,vi ((j:Int)+1))]) (λj=>[]) rfl ⟨rfl,by rw[cO,cO,aT (qCR _)];rfl,rfl,trivial⟩ trivial ?_;rintro j _ o rfl;refine OJ (λk=>?_) (λk=>?_)
 ·have b:j+1<l.length:=O;have h:cO l (j+1)<l.length:=by have:=EM (l:=l) (j+1) O;omega
  refine Y ?_;refine pN g rfl (by show some (vi ((j:Int)+1))=some (vi ((j+1:Nat):Int));rfl) rfl (i:=j+1) b λa n=>Y ?_;refine Ya n (Y ?_);refine Zz (cO l (j+1)) g h λa hb=>Y ?_;refine Ya hb ?_;rw[<-Uu b,<-Uu h];refine OJ (λf=>?_) (λf=>?_)
  ·have e:cO l (j+1+1)=j+1:=by rw[cO,iF f]
   refine Y ?_;exact⟨⟨j+1,O⟩,bN O,rfl,⟨rfl,by rw[e];rfl,rfl,trivial⟩,trivial,rfl⟩
  have e:cO l (j+1+1)=cO l (j+1):=by rw[cO,aT f]
  refine Y ?_;exact⟨⟨j+1,O⟩,bN O,rfl,⟨rfl,by rw[e];rfl,rfl,trivial⟩,trivial,rfl⟩
 have:j+1=l.length:=O;rw[this];refine Y ?_;exact⟨rfl,rfl⟩
theorem Nh{b:Sb}{v:Value}{l:List Int}(ok:bA b)(hb:Zr H b)(D:aF H v l)(u:l.length=b.pk.length)(G:Yp (Ys l)) :
  LL.Zc P 134 #[b.v,v] H λw H'=>H=H'/\w=vb (eR b l):=by
 have M:=ok.n;have N:=ok.nn;obtain⟨A,c,rfl,_⟩:=id D;refine aJ.m (bG I8) (args:=[b.v,.slice A l.length c]) rfl ?_;unfold mR Sb.v;refine Y ?_;refine Zv l.length (λj H'=>H=H'/\∀k,k<j->(aD b k).lo<=l.getD k 0/\l.getD k 0<=(aD b k).hi) (λj=>[(1,.slice A l.length c),(2,vi 0),(5,vi j)]) (λj=>[(2,b.cs)]) ⟨rfl,λk r=>absurd r (qBm _)⟩ V V ?_;rintro j _ L ⟨rfl,r⟩;refine OJ (λK=>?_) (λK=>?_)
 ·have g9:j<l.length:=O;have o:j<b.pk.length:=O;have I:l.getD j 0=l[j]:=ZD g9 _;have row:=iC o;refine Y ?_;refine Zz j D g9 λa g=>Y ?_;refine Ya g (Y ?_);refine Zz j hb.pk o λa f=>?_;rw[row]at f;refine Y ?_;refine Zh (v:=vi (aD b j).lo) (OL _) rfl (by rw[add_zero];exact YN (cs:=[vi (aD b j).lo]) (ds:=[vi (aD b j).hi,vi (aD b j).bF,vi (aD b j).bJ]) (eY (n:=1) f rfl)) (Y ?_);refine Zz j hb.pk o λa f=>?_;rw[row]at f;refine Y ?_;refine Zh (v:=vi (aD b j).hi) (OL _) rfl (YN (cs:=[vi (aD b j).hi]) (ds:=[vi (aD b j).bF,vi (aD b j).bJ]) (eY (n:=1) (eY (n:=1) f rfl) rfl)) (Y ?_);refine Za [vi l[j],vi (aD b j).lo,vi (aD b j).hi] (pF _ _ _) ?_;rintro v _ ⟨rfl,rfl⟩;refine OJ (λq=>?_) (λq=>?_)
  ·refine Y ?_;have e:eR b l=false:=qBR.2 λh=>q (by rw[<-I];exact((kS ok u).1 h).1 j o);exact⟨rfl,by rw[e];rfl⟩
  refine Y ?_;exact⟨⟨j+1,O⟩,bN O,⟨rfl,λk s=>by
   have s:k<j+1:=s;by_cases e:k=j
   ·subst e;rw[I];exact q
   exact r k O⟩,V,V,rfl⟩
 have:j=l.length:=O;subst this;rw[u]at r;refine Y ?_;refine Zv b.nt.length (λj H'=>H=H'/\∀x∈b.nt.take j,vU (Ys l) x=true) (λj=>[(1,.slice A l.length c),(2,vi 0),(6,vi j)]) (λj=>[(2,b.cs)]) ⟨rfl,by simp⟩ V V ?_;rintro j _ L ⟨rfl,E⟩;refine OJ (λq=>?_) (λq=>?_)
 ·have g9:j<b.nt.length:=O;obtain⟨R,B,S⟩:=ok.nt _ (bY g9);have U:=uD B;have W:=R2 M.2 B G;have F:Enc.enc b.nt[j]=[.slice b.nt[j].A b.nt[j].ps.length b.nt[j].c,vi b.nt[j].lo,vi b.nt[j].hi]:=rfl;refine Y ?_;refine Zz j hb.nt g9 λa g=>?_;rw[F]at g;refine Y ?_;refine Zh (v:=.slice b.nt[j].A b.nt[j].ps.length b.nt[j].c) (OL _) rfl (by rw[add_zero];exact YN (cs:=[.slice b.nt[j].A b.nt[j].ps.length b.nt[j].c]) (ds:=[vi b.nt[j].lo,vi b.nt[j].hi]) g) (Y ?_);refine Zz j hb.nt g9 λa g=>?_;rw[F]at g;refine Y ?_;refine Zh (v:=vi b.nt[j].lo) (OL _) rfl (by rw[add_zero];exact YN (cs:=[vi b.nt[j].lo]) (ds:=[vi b.nt[j].hi]) (eY (n:=1) g rfl)) (Y ?_);refine Zz j hb.nt g9 λa g=>?_;rw[F]at g;refine Y ?_;refine Zh (v:=vi b.nt[j].hi) (OL _) rfl (eY (n:=1) (eY (n:=1) g rfl) rfl) (Y ?_);refine Za [.slice A l.length c,.slice b.nt[j].A b.nt[j].ps.length b.nt[j].c] (RV D (hb.ps _ (bY g9)) O (λz Q=>by have:=B.2 z Q;omega) G O) ?_;rintro v _ ⟨rfl,rfl⟩;refine FS (Y ?_);refine Za [vi (UG (Ys l) b.nt[j].ps),vi b.nt[j].lo,vi b.nt[j].hi] (pF _ _ _) ?_;rintro v _ ⟨rfl,rfl⟩;refine OJ (λC=>?_) (λC=>?_)
  ·refine Y ?_;have e:eR b l=false:=qBR.2 λh=>C (of_decide_eq_true (IN.1 ((kS ok u).1 h).2 _ (bY g9)));exact⟨rfl,by rw[e];rfl⟩
  refine Y ?_;exact⟨⟨j+1,O⟩,bN O,⟨rfl,λx y=>by
   rw[iN g9,qAi,oR]at y;rcases y with y | rfl
   ·exact E x y
   exact decide_eq_true C⟩,V,V,rfl⟩
 have:j=b.nt.length:=O;subst this;rw[IF]at E;refine Y ?_;exact⟨rfl,by rw[(kS ok u).2 ⟨r,IN.2 E⟩];rfl⟩
end
def iZ{G:Prop} (h:G:=by refine Y ?_;exact⟨⟨j+1,O⟩,bN O,rfl,⟨rfl,rfl,rfl,rfl,rfl,rfl,by rw[ej];rfl,rfl,trivial⟩,V,rfl⟩):G:=h
def RZ:Tryz.prog.underlying 208=some (.slice 4):=U
def gA(T:List Int)(n k:Nat):List Bool:=(List.range n).map λ(p:Nat)=>decide ((p:Int)∈T.take k)
def gG(T:List Int)(n k:Nat):(gA T n k).length=n:=by simp[gA]
def JI(T:List Int)(n:Nat):gA T n 0=List.replicate n false:=by rw[gA,qCa];refine qBl (by simp) λi a b=>by simp
def k9{n k i:Nat}(h:i<(gA T n k).length):(gA T n k)[i]=decide ((i:Int)∈T.take k):=by simp[gA]
def JH{n k i:Nat}(c:k<T.length)(e:T[k]=(i:Int)):(gA T n k).set i true=gA T n (k+1):=by
 refine qBl (by simp[gG]) λj d a=>?_;rw[qCg];have b:j<(gA T n k).length:=by rw[gG]at *;exact a
 rw[k9 a,k9 b,iN c,e];by_cases g:i=j
 ·subst g;simp
 rw[aT g];refine qBk.2 ?_;rw[qAi,oR];exact⟨.inl,λh=>h.resolve_right λh=>g O⟩
def rH(l:List Bool){j:Nat}(b:j<l.length)(z:Bool):ZG (Zb l) j [vb z]=Zb (l.set j z):=by
 have e:∀l:List Bool,Zb l=l.map λz=>vb z:=λl=>by
  induction l with
  | nil=>rfl
  | cons a l ih=>show vb a :: Zb l=_;rw[ih];rfl
 rw[e,e,ZG,qEf,qCx,iF (by simpa using b)];simp
def WK.hU{G H:Hp}{g f a:Nat}{out:List Wk}{d:List Int}{o:Obj}(h:WK G H g f out d)(i:a≠g)(j:a≠f):WK (G.ins a o) (H.ins a o) g f out d:=by
 refine⟨λb x hb k c=>?_,by rw[Hp.aH _ _ (qAF i)];exact h.out,by rw[Hp.aH _ _ (qAF j)];exact h.fr,h.ne⟩;by_cases e:b=a
 ·subst e;rw[Hp.aG]at c ⊢;exact c
 rw[Hp.aH _ _ e]at c ⊢;exact h.keep b x hb k c
def mF{key:Int->Int}{nd:Int->Bool}{l:List Int}:∀{j:Nat},j<=l.length->cH key nd l j=-1\/cH key nd l j∈l
 | 0,_=>.inl rfl
 | j+1,a=>by
  rw[cH];split
  ·rw[el,ZD O];exact .inr (bY _)
  exact mF O
def uI{b:Sb}{t:N4}{l:List Int}(ok:bA b)(d:Yp t)(a:cZ b.pk.length l){j:Nat}(c:j<=b.pk.length):WB b.pk.length b.hd.toNat (20 * b.pk.length+20 * j) (s2 b t l j):=by have h:=iI ok d a (dO b.pk.length);rw[iJ a.len]at h;exact EN ok h.l1 h.o O (fT a).rg j (by rw[(fT a).len];exact c)
def wO(b:Sb)(t:N4)(l:List Int)(k:Nat)(z:Int):Bool:=!decide (z∈(Ul b t l).take k)
def kV(b:Sb)(t:N4)(l:List Int)(k j:Nat):Int:=cH (kD (fA b t l).1) (wO b t l k) l j
abbrev FQ(b:Sb):List Value:=[vi (b.pl.toNat:Int),vi (b.hd.toNat:Int),vi b.td,.slice b.A1 b.pk.length b.c1,.slice b.A2 b.nt.length b.c2]
section
variable{P:aX}[Tz P][Loud P]{H:Hp}
def qI{b:Sb}{c:Nat}{l:List Int}(hb:Zr H b)(ok:bA b)(hT:aF H w T)(Sk:T.length=b.pk.length)(ht:Yp (Ys T))(hl:aF H (.slice A l.length c) l)(Z:cZ b.pk.length l) :
  LL.Zc P 128 #[b.v,w,.slice A l.length c] H λv W=>aL H W/\∃bb,dD H W 65 v (VN b (Ys T) l) bb:=by
 have hn:=ok.n;have vK:=ok.pl;have uT:=ok.hd;have R:=Z.len;have wR:=Z.rg;refine aJ.m (bG I6) (args:=[b.v,w,.slice A l.length c]) rfl ?_;unfold nN Sb.v;refine Y ?_;refine vS (n:=l.length) (bI Bo) (cD Bq) O O O rfl (OL _) λF K=>?_;rw[show(4:Nat)=Enc.sz Wk from rfl,vT (⟨0,0,0,0⟩:Wk) rfl (by decide) l.length];have i1:=Zs (o:=.cells (Zb (List.replicate l.length (⟨0,0,0,0⟩:Wk))).toArray 65) K;have a1:(H.ins F (.cells (Zb (List.replicate l.length (⟨0,0,0,0⟩:Wk))).toArray 65)) F=some (.cells (Zb (List.replicate l.length (⟨0,0,0,0⟩:Wk))).toArray 65,true):=Hp.aG _ _ _;generalize H.ins F (.cells (Zb (List.replicate l.length (⟨0,0,0,0⟩:Wk))).toArray 65)=H2 at *;have HR:vi b.pl=vi (b.pl.toNat:Int):=by congr 1;omega
 rw[HR];refine Y ?_;refine vS (n:=b.pl.toNat) (bI dW) (cD t3) O O O rfl (OL _) λrp wQ=>?_;rw[show b.pl.toNat * 1=b.pl.toNat * Enc.sz Int from rfl,vT (0:Int) rfl (by decide) b.pl.toNat];have GP:F≠rp:=by rintro rfl;rw[wQ]at a1;simp at a1
 have M:H rp=none:=YL i1 wQ;have w0:WK H2 (H2.ins rp (.cells (Zb (List.replicate b.pl.toNat (0:Int))).toArray 3)) F rp (s1 b (Ys T) l 0).1 (s1 b (Ys T) l 0).2:=
  ⟨λb x h1 h2 h=>Zs wQ _ _ h,by rw[Zs wQ _ _ a1,R];rfl,by rw[qAf];exact Hp.aG _ _ _,GP⟩
 generalize H2.ins rp (.cells (Zb (List.replicate b.pl.toNat (0:Int))).toArray 3)=H3 at *;refine Y ?_;refine Zv l.length (λj W=>WK H2 W F rp (s1 b (Ys T) l j).1 (s1 b (Ys T) l j).2)
  (λj=>[(1,w),(2,.slice A l.length c),(3,vi 0),(7,.slice (some ⟨F,0,none⟩) l.length l.length),(8,.slice (some ⟨rp,0,none⟩) b.pl.toNat b.pl.toNat),(9,vi j)]) (λ_=>[(3,[vi (b.pl.toNat:Int),vi b.hd,vi b.td,.slice b.A1 b.pk.length b.c1,.slice b.A2 b.nt.length b.c2])]) w0 V V ?_
 rintro j H4 hj w4;refine OJ (λh1=>?_) (λh1=>?_)
 ·have B:j<l.length:=O;have wb:=iI ok ht Z (j:=j) O;have tF:=uG (b:=b) (t:=Ys T) B;generalize s1 b (Ys T) l j=s at *;have uS:=w4.inc i1 K M;have hz:=wR _ (bY B);rw[Uu B]at tF;obtain⟨z,L⟩:∃z:Nat,l[j]=z:=⟨l[j].toNat,O⟩;rw[L]at hz tF;have vH:z<s.1.length:=by rw[wb.l1];omega
  have FD:z<T.length:=O;have PA:(Ys T).get z=T[z]:=mD FD O;have hf:=wb.fl O;have I:Zo s.2<b.pl.toNat:=by rw[<-wb.l2];exact hf
  have b1:=wb.fr (Zo s.2);have Hj:=ht z O;refine Y ?_;refine Za [.slice (some ⟨rp,0,none⟩) b.pl.toNat b.pl.toNat] (pU (by rw[<-wb.l2];exact w4.sl) (by rw[wb.l2];omega) (by rw[wb.l2];omega)) ?_;rintro v _ ⟨rfl,rfl⟩;refine Y ?_;refine Zz j (hl.inc uS) B λa C=>?_;rw[L]at C;refine Y ?_;refine Ya (v:=vi (z:Int)) C (Y ?_);refine Zd (Zo s.2) rfl rfl rfl I (Y ?_);refine Zh (OL _) rfl (w4.ar.cA hf rfl) (Y ?_);refine Zd z rfl rfl rfl O (Y ?_);refine uU w4 vH (f:=0) (by decide) rfl rfl rfl λH5 w5=>?_;have FJ:=w5.inc i1 K M;refine Y ?_;refine Zd (Zo s.2) rfl rfl rfl I (Y ?_);refine Zh (OL _) rfl (w5.ar.cA hf rfl) (Y ?_);refine Zz j (hl.inc FJ) B λa C=>?_;rw[L]at C;refine Y ?_;refine Ya (v:=vi (z:Int)) C (Y ?_);refine Zz z (hT.inc FJ) FD λa C=>?_;rw[<-PA]at C;refine Y ?_;refine Ya (v:=vi ((Ys T).get z)) C (Y ?_);refine Zd (Zo s.2) rfl rfl rfl I (Y ?_);refine ZS w5.ar hf (ZK _ _) rfl rfl λH6 jS=>?_;have w6:=w5.eC jS;have CN:=w6.inc i1 K M;refine Y ?_;refine Zz j (hl.inc CN) B λa C=>?_;rw[L]at C;refine Y ?_;refine Ya (v:=vi (z:Int)) C (Y ?_);refine Zd (Zo s.2) rfl rfl rfl I (Y ?_);refine Zh (OL _) rfl (w6.ar.cA (by rw[qAg];exact hf) rfl) (Y ?_);refine Zd z rfl rfl rfl O (Y ?_);refine uU w6 (by rw[qAg];exact vH) (f:=1) (by decide) rfl rfl rfl λH7 w7=>?_;rw[qCX,mC _ _ vH,iF rfl,CE _ _ hf,iF rfl,TV]at w7;refine Y ?_;exact⟨⟨j+1,O⟩,bN O,by rw[tF];exact w7,V,V,rfl⟩
 have BO:j=b.pk.length:=O;subst BO;rw[iJ R]at w4;have wb:=iI ok ht Z (dO b.pk.length);rw[iJ R]at wb;have uS:=w4.inc i1 K M;have o4:=w4.out;clear w0;have HT:vi b.hd=vi (b.hd.toNat:Int):=by congr 1;omega
 rw[HT];refine Y ?_;refine vS (n:=b.hd.toNat) (bI dW) (cD t3) O O O rfl (OL _) λU uQ=>?_;rw[show b.hd.toNat * 1=b.hd.toNat * Enc.sz Int from rfl,vT (0:Int) rfl (by decide) b.hd.toNat];have GQ:F≠U:=by rintro rfl;rw[uQ]at o4;simp at o4
 have BE:H U=none:=YL uS uQ;have i5:=uS.trans (Zs (o:=.cells (Zb (List.replicate b.hd.toNat (0:Int))).toArray 3) uQ);have o5:=Zs (o:=.cells (Zb (List.replicate b.hd.toNat (0:Int))).toArray 3) uQ _ _ o4;have f5:(H4.ins U (.cells (Zb (List.replicate b.hd.toNat (0:Int))).toArray 3)) U=some (.cells (Zb (List.replicate b.hd.toNat (0:Int))).toArray 3,true):=Hp.aG _ _ _;generalize H4.ins U (.cells (Zb (List.replicate b.hd.toNat (0:Int))).toArray 3)=H5 at *;refine Y ?_;refine vS (n:=l.length) (bI RZ) (cD t4) O O O rfl (OL _) λD S=>?_;rw[show l.length * 1=l.length * Enc.sz Bool from rfl,vT (false:Bool) rfl (by decide) l.length];have AX:D≠F:=by rintro rfl;rw[S]at o5;simp at o5
 have AY:D≠U:=by rintro rfl;rw[S]at f5;simp at f5
 have BF:H D=none:=YL i5 S;have i6:=i5.trans (Zs (o:=.cells (Zb (List.replicate l.length (false:Bool))).toArray 4) S);have o6:=Zs (o:=.cells (Zb (List.replicate l.length (false:Bool))).toArray 4) S _ _ o5;have f6:=Zs (o:=.cells (Zb (List.replicate l.length (false:Bool))).toArray 4) S _ _ f5;have d6:(H5.ins D (.cells (Zb (List.replicate l.length (false:Bool))).toArray 4)) D=some (.cells (Zb (List.replicate l.length (false:Bool))).toArray 4,true):=Hp.aG _ _ _;generalize H5.ins D (.cells (Zb (List.replicate l.length (false:Bool))).toArray 4)=H6 at *;rw[<-JI (Ul b (Ys T) l)]at d6;have D3:=fT (t:=Ys T) Z;have SR:=D3.len;have w6:WK H6 H6 F U (s2 b (Ys T) l 0).1 (s2 b (Ys T) l 0).2:=⟨λ_ _ _ _ h=>h,o6,by rw[qAf];exact f6,GQ⟩;refine Y ?_;refine ZO (α:=Hp) l.length (λk G W=>WK G W F U (s2 b (Ys T) l k).1 (s2 b (Ys T) l k).2/\(∀q x,q≠D->H6 q=some x->G q=some x)/\G D=some (.cells (Zb (gA (Ul b (Ys T) l) l.length k)).toArray 4,true))
  (λk _=>[(2,.slice A l.length c),(3,vi 0),(7,.slice (some ⟨F,0,none⟩) l.length l.length),(11,.slice (some ⟨U,0,none⟩) b.hd.toNat b.hd.toNat),(12,.slice (some ⟨D,0,none⟩) l.length l.length),(13,vi k)])
  (λ_ _=>[(3,FQ b)]) H6 ⟨w6,λ_ _ _ h=>h,d6⟩ V V ?_
 rintro k G H7 hk ⟨w7,gk,gd⟩;have tY:∀{G' W:Hp} {o:List Wk} {f:List Int},WK G' W F U o f->(∀q x,q≠D->H6 q=some x->G' q=some x)->aL H W:=λw g q x hq=>
  w.keep q x (by rintro rfl;rw[K]at hq;simp at hq) (by rintro rfl;rw[BE]at hq;simp at hq) (g q x (by rintro rfl;rw[BF]at hq;simp at hq) (i6 q x hq))
 have FI:=tY w7 gk;refine OJ (λh2=>?_) (λh2=>?_)
 ·have zQ:k<b.pk.length:=O;have FG:k<(Ul b (Ys T) l).length:=O;have Q:=λp=>kP ok ht Z p (j:=k) O;have BB:=mI (b:=b) (t:=Ys T) Z zQ;have zV:=uI ok ht Z (j:=k) O;have pn:kV b (Ys T) l k l.length=el (Ul b (Ys T) l) k:=yW (nd:=wO b (Ys T) l k) (n:=k) Z.nd (λz hz=>(wR z hz).1) O (λz _=>by rw[wO,qBe,qBH];rfl);have pm:=λ{j:Nat} (h:j<=l.length)=>mF (key:=kD (fA b (Ys T) l).1) (nd:=wO b (Ys T) l k) h;have NT:aF H7 (.slice (some ⟨D,0,none⟩) l.length l.length) (gA (Ul b (Ys T) l) l.length k):=⟨_,l.length,by rw[gG],λ_=>⟨_,rfl,ZA (w7.keep D _ AX AY gd)⟩⟩;refine Y ?_;refine Zv l.length (λj W=>H7=W) (λj=>[(2,.slice A l.length c),(3,vi 0),(7,.slice (some ⟨F,0,none⟩) l.length l.length),(11,.slice (some ⟨U,0,none⟩) b.hd.toNat b.hd.toNat),(12,.slice (some ⟨D,0,none⟩) l.length l.length),(13,vi k),(14,vi (kV b (Ys T) l k j)),(15,vi j)])
   (λ_=>[(3,FQ b)]) rfl V V ?_
  rintro j _ hj rfl;have pj:=pm (j:=j) O;replace pj:kV b (Ys T) l k j=-1\/kV b (Ys T) l k j∈l:=pj;have ej:∀h:j<l.length,kV b (Ys T) l k (j+1)=if(!decide (l[j]∈(Ul b (Ys T) l).take k))=true/\(kV b (Ys T) l k j<0\/kD (fA b (Ys T) l).1 l[j]<kD (fA b (Ys T) l).1 (kV b (Ys T) l k j))then l[j]else kV b (Ys T) l k j:=λh=>by rw[kV,cH,Uu h];rfl
  refine OJ (λh3=>?_) (λh3=>?_)
  ·have B:j<l.length:=O;have hz:=wR _ (bY B);have ej:=ej B;obtain⟨z,L⟩:∃z:Nat,l[j]=z:=⟨l[j].toNat,O⟩;rw[L]at hz ej;have FC:z<(gA (Ul b (Ys T) l) l.length k).length:=by rw[gG];omega
   refine Y ?_;refine Zz j (hl.inc FI) B λa C=>?_;rw[L]at C;refine Y ?_;refine Ya (v:=vi (z:Int)) C (Y ?_);refine Zz z NT FC λa C=>?_;rw[k9 FC]at C;refine Y ?_;refine Ya (v:=vb (decide ((z:Int)∈(Ul b (Ys T) l).take k))) C ?_;cases vL:decide ((z:Int)∈(Ul b (Ys T) l).take k)with
   | true=>
    rw[vL,aT (by simp)]at ej;exact iZ
   | false=>
    rw[vL]at ej;generalize kV b (Ys T) l k j=q at *;refine OJ (λh4=>?_) (λh4=>?_)
    ·rw[iF ⟨rfl,.inl h4⟩]at ej;exact iZ
    have hq:=wR q (pj.resolve_left O);obtain⟨y,rfl⟩:=qBr hq.1;have hy:y<b.pk.length:=O;have ez:(bM (s2 b (Ys T) l k).1 z).o=kD (fA b (Ys T) l).1 (z:Int):=(Q z).2.2.2;have ey:(bM (s2 b (Ys T) l k).1 y).o=kD (fA b (Ys T) l).1 (y:Int):=(Q y).2.2.2;refine Y ?_;refine Zd z rfl rfl rfl O (Y ?_);refine Zh (OL _) rfl (w7.cW 1 (by decide) (by rw[(Q z).1];omega)) (Y ?_);refine Zd y rfl rfl rfl O (Y ?_);refine Zh (OL _) rfl (w7.cW 1 (by decide) (by rw[(Q y).1];omega)) ?_;rw[show(bM (s2 b (Ys T) l k).1 z).get 1=kD (fA b (Ys T) l).1 (z:Int)from ez,show(bM (s2 b (Ys T) l k).1 y).get 1=kD (fA b (Ys T) l).1 (y:Int)from ey];refine OJ (λh5=>?_) (λh5=>?_)
    ·rw[iF ⟨rfl,.inr h5⟩]at ej;exact iZ
    rw[aT (λh=>h.2.elim h4 h5)]at ej;exact iZ
  have BO:j=l.length:=O;subst BO;rw[pn];clear ej pj pm pn;have hz:=D3.at_ zQ;obtain⟨i,FH⟩:∃i:Nat,el (Ul b (Ys T) l) k=i:=⟨(el (Ul b (Ys T) l) k).toNat,O⟩;rw[FH]at hz BB ⊢;have hi:i<b.pk.length:=O;have NS:=JH (n:=l.length) FG (by rw[<-Uu FG];exact FH);generalize s2 b (Ys T) l k=s at *;have J:i<s.1.length:=by rw[(Q i).1];exact hi
  have hf:=uF (l:=s.2) (by intro e;have:=(Q 0).2.1;rw[e]at this;simp at this;omega);have I:Zo s.2<b.hd.toNat:=by rw[<-(Q 0).2.1];exact hf
  have q1:=zV.fr (Zo s.2);have q2:=zV.o i;have row:=iC hi;have q3:=(gD ok hi).2.2.1;refine Y ?_;refine Za [.slice (some ⟨U,0,none⟩) b.hd.toNat b.hd.toNat] (pU (by rw[<-(Q 0).2.1];exact w7.sl) (by rw[(Q 0).2.1];omega) (by rw[(Q 0).2.1];omega)) ?_;rintro v _ ⟨rfl,rfl⟩;refine Y ?_;refine Zd i rfl rfl rfl O (Y ?_);rw[ZK];refine wF (v:=vb true) (cD t4) rfl rfl (w7.keep D _ AX AY gd) rfl (by rw[VH,gG];show i+1<=l.length * 1;omega) rfl (OL _) ?_;rw[show(vb true).cells.toList=[vb true]from rfl,rH _ (by rw[gG];omega),NS];have w8:=w7.hU (o:=.cells (Zb (gA (Ul b (Ys T) l) l.length (k+1))).toArray 4) AX AY;have FP:∀q x,q≠D->H6 q=some x->(G.ins D (.cells (Zb (gA (Ul b (Ys T) l) l.length (k+1))).toArray 4)) q=some x:=λq x h h'=>by rw[Hp.aH _ _ h];exact gk q x h h'
  have N3:(G.ins D (.cells (Zb (gA (Ul b (Ys T) l) l.length (k+1))).toArray 4)) D=some (.cells (Zb (gA (Ul b (Ys T) l) l.length (k+1))).toArray 4,true):=Hp.aG _ _ _;generalize G.ins D (.cells (Zb (gA (Ul b (Ys T) l) l.length (k+1))).toArray 4)=G8 at *;generalize H7.ins D (.cells (Zb (gA (Ul b (Ys T) l) l.length (k+1))).toArray 4)=H8 at *;refine Y ?_;refine Zd i rfl rfl rfl O (Y ?_);refine Zh (OL _) rfl (w8.cW 1 (by decide) J) (Y ?_);refine Zd (Zo s.2) rfl rfl rfl I (Y ?_);refine Zh (OL _) rfl (w8.ar.cA hf rfl) (Y ?_);refine q8 rfl rfl (Y ?_);refine Zd i rfl rfl rfl O (Y ?_);refine uU w8 J (f:=2) (by decide) rfl rfl rfl λH9 w9=>?_;have oY:i<(s.1.set i ((bM s.1 i).put 2 (max (bM s.1 i).o (el s.2 (Zo s.2))))).length:=by rw[qAg];exact J
  have eg:(bM (s.1.set i ((bM s.1 i).put 2 (max (bM s.1 i).o (el s.2 (Zo s.2))))) i).get 2=max (bM s.1 i).o (el s.2 (Zo s.2)):=by rw[mC _ _ J,iF rfl];rfl
  have w9:WK G8 H9 F U (s.1.set i ((bM s.1 i).put 2 (max (bM s.1 i).o (el s.2 (Zo s.2))))) s.2:=w9;refine Y ?_;refine Zd i rfl rfl rfl O (Y ?_);refine Zh (OL _) rfl (w9.cW 2 (by decide) oY) ?_;rw[eg];refine Y ?_;refine Zz i (hb.pk.inc (tY w9 FP)) hi λa C=>?_;rw[row]at C;refine Y ?_;refine Zh (v:=vi (aD b i).bF) (OL _) rfl (YN (cs:=[vi (aD b i).bF]) (ds:=[vi (aD b i).bJ]) (eY (n:=3) C rfl)) (Y ?_);refine Zd i rfl rfl rfl O (Y ?_);refine uU w9 oY (f:=3) (by decide) rfl rfl rfl λHa wa=>?_;rw[qCX,mC _ _ J,iF rfl,TU]at wa;have HU:(bM (s.1.set i { bM s.1 i with g:=max (bM s.1 i).o (el s.2 (Zo s.2)),d:=max (bM s.1 i).o (el s.2 (Zo s.2))+(aD b i).bF }) i).get 3=max (bM s.1 i).o (el s.2 (Zo s.2))+(aD b i).bF:=by rw[mC _ _ J,iF rfl];rfl
  refine Y ?_;refine Zd i rfl rfl rfl O (Y ?_);refine Zh (OL _) rfl (wa.cW 3 (by decide) (by rw[qAg];exact J)) ?_;rw[HU];refine Y ?_;refine Zd (Zo s.2) rfl rfl rfl I (Y ?_);refine ZS wa.ar hf (ZK _ _) rfl rfl λHb HZ=>?_;have F5:=wa.eC HZ;refine Y ?_;exact⟨(⟨k+1,O⟩,G8),bN O,⟨by rw[BB];exact F5,FP,N3⟩,V,V,rfl⟩
 have:k=b.pk.length:=O;subst this;rw[<-uH Z];have Q:=kP ok ht Z 0 (dO b.pk.length);refine Y ?_;refine⟨FI,some F,⟨?_,.inr ⟨F,l.length,[],rfl,by rw[Q.1,R];rfl,by rw[qAf];exact w7.out,?_,by rw[Q.1,R];exact dO _⟩⟩,λr h=>by obtain rfl:=iO h;exact K⟩
 ·rw[VH]
 rw[qAf,VH,Q.1,R]
end
def qL{c:B4}{n:Nat}(h:∀i,n<=i->i<4->c.get i=false):∀{k:Nat},n+k<=4->cS c (n+k)=cS c n
 | 0,_=>rfl
 | k+1,a=>by rw[show n+(k+1)=(n+k)+1 from rfl,cS,h (n+k) O O,aT (by decide),qL h O]
section
variable{P:aX}[Tz P][Loud P]{H:Hp}
theorem RK{b:Sb}{c:Nat}{l:List Int}(hb:Zr H b)(ok:bA b)(hT:aF H w T)(F:T.length=b.pk.length)(Q:Yp (Ys T))(hl:aF H (.slice A l.length c) l)(G:cZ b.pk.length l) :
  LL.Zc P 98 #[b.v,w,.slice A l.length c] H λv r=>aL H r/\aF r v (gM b (Ys T) l):=by
 have hn:=ok.n;obtain⟨wl,wb⟩:=tH ok Q G.len G.rg;refine aJ.m (bG JY) (args:=[b.v,w,.slice A l.length c]) rfl ?_;unfold nK Sb.v;refine Y ?_;refine Za [b.v,w,.slice A l.length c] (qI hb ok hT F Q hl G) ?_;rintro v B ⟨i1,bb,ow⟩;have I:=ow.sl;obtain⟨X,cw,rfl,_⟩:=id I;have M:∀{i:Nat},i<4->((Yg b (Ys T) l).1.get i=true↔i<(VN b (Ys T) l).length/\(bM (VN b (Ys T) l) i).o+(aD b i).bJ<(bM (VN b (Ys T) l) i).d):=λhi=>lV O hi;have ee:gM b (Ys T) l=cS (Yg b (Ys T) l).1 (VN b (Ys T) l).length:=by
  have:=qL (c:=(Yg b (Ys T) l).1) (n:=(VN b (Ys T) l).length) (λi N t=>by
   cases e:(Yg b (Ys T) l).1.get i with
   | false=>rfl
   | true=>have:=((M t).1 e).1;omega) (k:=4-(VN b (Ys T) l).length) O
  rw[show(VN b (Ys T) l).length+(4-(VN b (Ys T) l).length)=4 by omega]at this;exact this
 rw[ee];generalize(Yg b (Ys T) l).1=C at *;generalize VN b (Ys T) l=W at *;refine Y ?_;refine ZO (α:=Value×Option Nat) W.length (λj s r=>aL B r/\dD B r 3 s.1 (cS C j) s.2) (λj s=>[(3,vi 0),(7,.slice X W.length cw),(8,s.1),(9,vi j)]) (λ_ _=>[(3,b.cs)]) (.slice none 0 0,none) ⟨.refl _,.nil _ _ _⟩ V V ?_;rintro j ⟨U,L⟩ Z hj ⟨x,D⟩;have R:=i1.trans x;simp only at D;have jQ:=B9 C j;refine OJ (λN=>?_) (λN=>?_)
 ·have f:j<W.length:=O;have q:j<b.pk.length:=O;have row:=iC q;have y:Enc.enc W[j]=[vi W[j].i,vi W[j].o,vi W[j].g,vi W[j].d]:=rfl;have E:=M (i:=j) O;have eW:bM W j=W[j]:=EJ f;have bo:=wb j;rw[eW]at E bo;have Qw:=(gD ok q).2.2.2;refine Y ?_;refine Zz j (I.inc x) f λa p=>?_;rw[y]at p;refine Y ?_;refine Zh (v:=vi W[j].d) (OL _) rfl (eY (n:=3) p rfl) (Y ?_);refine Zz j (I.inc x) f λa p=>?_;rw[y]at p;refine Y ?_;refine Zh (v:=vi W[j].o) (OL _) rfl (YN (cs:=[vi W[j].o]) (ds:=[vi W[j].g,vi W[j].d]) (eY (n:=1) p rfl)) (Y ?_);refine Zz j (hb.pk.inc R) q λa p=>?_;rw[row]at p;refine Y ?_;refine Zh (v:=vi (aD b j).bJ) (OL _) rfl (eY (n:=4) p rfl) ?_;refine OJ (λt=>?_) (λt=>?_)
  ·have e:C.get j=true:=E.2 ⟨f,t⟩;refine Y ?_;refine ZY (cs:=[vi (j:Int)]) (OL _) rfl λr5 u=>Y ?_;refine U7 (l':=[(j:Int)]) (bI dW) (bI dW) (cD t3) rfl (by decide) (x.trans (Zs u)) (D.ins u) qY rfl (by simp only[qAA];omega) O rfl rfl (OL _) λS H4 K k1 k2 k3=>Y ?_;exact⟨(⟨j+1,O⟩,(S,K)),bN O,⟨k1,by show dD B H4 3 S (cS C (j+1)) K;rw[cS,iF e];exact k2⟩,V,V,rfl⟩
  have e:¬ C.get j=true:=λh=>t (E.1 h).2;refine Y ?_;exact⟨(⟨j+1,O⟩,(U,L)),bN O,⟨x,by show dD B Z 3 U (cS C (j+1)) L;rw[cS,aT e];exact D⟩,V,V,rfl⟩
 have:j=W.length:=O;subst this;refine Y ?_;exact⟨R,D.sl⟩
theorem kX{b:Sb}{c:Nat}{l:List Int}(hb:Zr H b)(ok:bA b)(D:aF H w T)(k:T.length=b.pk.length)(s:Yp (Ys T))(E:aF H (.slice A l.length c) l)(p:cZ b.pk.length l) :
  LL.Zc P 129 #[b.v,w,.slice A l.length c] H λv h=>aL H h/\v=vi (Yg b (Ys T) l).2:=by
 refine aJ.m (bG I7) (args:=[b.v,w,.slice A l.length c]) rfl ?_;unfold mQ Sb.v;refine Y ?_;refine Za [b.v,w,.slice A l.length c] (qI hb ok D k s E p) ?_;rintro v x ⟨F,I,G⟩;have t:=G.sl;obtain⟨u,y,rfl,_⟩:=id t;have L:=(tH ok s p.len p.rg).1;have K:=ok.n;rw[show Yg b (Ys T) l=U2 b (VN b (Ys T) l) (VN b (Ys T) l).length from rfl];generalize VN b (Ys T) l=W at *;refine Y ?_;refine Zv W.length (λj h=>x=h) (λj=>[(3,vi 0),(7,.slice u W.length y),(8,vi (U2 b W j).2),(9,vi j)]) (λ_=>[(3,b.cs)]) rfl V V ?_;rintro j _ J rfl;refine OJ (λC=>?_) (λC=>?_)
 ·have f:j<W.length:=O;have q:Enc.enc W[j]=[vi W[j].i,vi W[j].o,vi W[j].g,vi W[j].d]:=rfl;have z:bM W j=W[j]:=EJ f;have e:(U2 b W (j+1)).2=max (U2 b W j).2 W[j].d:=by rw[<-z];rfl
  refine Y ?_;refine Zz j t f λa r=>?_;rw[q]at r;refine Y ?_;refine Zh (v:=vi W[j].d) (OL _) rfl (eY (n:=3) r rfl) (Y ?_);refine q8 rfl rfl (Y ?_);exact⟨⟨j+1,O⟩,bN O,rfl,⟨rfl,rfl,by rw[e];rfl,rfl,trivial⟩,V,rfl⟩
 have:j=W.length:=O;subst this;refine Y ?_;exact⟨F,rfl⟩
end
def bK(b:Sb)(i:Nat):List Int:=(List.range ((aD b i).hi-(aD b i).lo+1).toNat).map λ(k:Nat)=>(aD b i).lo+k
def eS(b:Sb):Nat->List (List Int)
 | 0=>[[]]
 | i+1=>(eS b i).flatMap λl=>(bK b i).map λv=>l++[v]
def mL{b:Sb}{i:Nat}{z:Int}:z∈bK b i↔(aD b i).lo<=z/\z<=(aD b i).hi:=by
 rw[bK,qAB];constructor
 ·rintro⟨k,a,rfl⟩;have:=qAl.1 a;omega
 rintro⟨c,d⟩;exact⟨(z-(aD b i).lo).toNat,qAl.2 O,O⟩
def sQ(b:Sb)(i:Nat):(bK b i).Pairwise (·<·):=by rw[bK,qBK];exact List.pairwise_lt_range.imp λh=>by omega
def fH{b:Sb}:∀{i:Nat} {l:List Int},l∈eS b i↔l.length=i/\∀j,j<i->(aD b j).lo<=l.getD j 0/\l.getD j 0<=(aD b j).hi
 | 0,l=>by
  rw[eS,oR];constructor
  ·rintro rfl;exact⟨rfl,λj h=>O⟩
  rintro⟨h,_⟩;exact qAt.1 h
 | i+1,l=>by
  rw[eS,qDr];constructor
  ·rintro⟨m,g,f⟩;obtain⟨n,k,rfl⟩:=qAB.1 f;obtain⟨c,a⟩:=fH.1 g;refine⟨by simp[c],λj d=>?_⟩;rw[fU];by_cases e:j<i
   ·rw[iF O];exact a j e
   rw[aT O,iF O];obtain rfl:j=i:=O;exact mL.1 k
  rintro⟨c,a⟩;refine⟨l.take i,fH.2 ⟨by rw[qAj];omega,λj d=>?_⟩,qAB.2 ⟨l.getD i 0,mL.2 (a i O),?_⟩⟩
  ·rw[pH d];exact a j O
  have hi:i<l.length:=O;rw[ZD hi,<-iN hi,<-c,IF]
def qJ{b:Sb}:∀{i:Nat},i<=4->(eS b i).Pairwise λx y=>fG (Ys x) (Ys y)
 | 0,_=>qAS _ _
 | i+1,t=>by
  rw[eS,qDP];refine⟨λl f=>?_,(qJ O).imp_of_mem λ{l B} f g h x r y s=>?_⟩
  ·have c:=(fH.1 f).1;rw[qBK];refine(sQ b i).imp λ{v w} n=>⟨i,O,?_,λj o=>?_⟩
   ·have e:∀u:Int,(l++[u]).getD i 0=u:=λu=>by rw[fU,aT O,iF O]
    rw[fJ O,fJ O,e,e];exact n
   have e:∀u:Int,(l++[u]).getD j 0=l.getD j 0:=λu=>by rw[fU,iF O]
   rw[fJ O,fJ O,e,e]
  have c:=(fH.1 f).1;have m:=(fH.1 g).1;obtain⟨v,_,rfl⟩:=qAB.1 r;obtain⟨w,_,rfl⟩:=qAB.1 s;obtain⟨k,a,d,p⟩:=h;have q:k<i:=qAd λz=>by rw[fJ a,fJ a,qAa,qAa,qAn O,qAn O]at d;exact absurd d (qCR _)
  refine⟨k,a,?_,λj o=>?_⟩
  ·rw[fJ a,fJ a]at d ⊢;rw[fU,fU,iF O,iF O];exact d
  have:=p j o;rw[fJ O,fJ O]at this ⊢;rw[fU,fU,iF O,iF O];exact this
def tL(n:Nat)(t:N4):List Int:=t.A0.take n
def gO{n:Nat}(a:n<=4)(t:N4):(tL n t).length=n:=by rw[tL,qAj];show min n 4=n;omega
theorem jT{n j:Nat}(a:j<n)(b:n<=4)(t:N4):(tL n t).getD j 0=t.get j:=by
 rw[tL,pH a];match j,(show j<4 by omega)with
 | 0,_=>rfl
 | 1,_=>rfl
 | 2,_=>rfl
 | 3,_=>rfl
def rE{n:Nat}(a:n<=4){l:List Int}(h:l.length=n):tL n (Ys l)=l:=by refine qBl (by rw[gO a,h]) λj b c=>?_;rw[<-ZD b 0,<-ZD c 0,jT O a,fJ O]
theorem mV{n:Nat}(b:n<=4){t:N4}(h:∀j,j<4->n<=j->t.get j=0):Ys (tL n t)=t:=N4.ext' λj a=>by
 rw[fJ a];by_cases e:j<n
 ·rw[jT e b]
 rw[qAa,qAn (by rw[gO b];omega),h j a O];rfl
def gW(b:Sb):List (List Int):=(eS b b.pk.length).filter (eR b)
def R5{b:Sb}(ok:bA b):gW b=(Zi b).map (tL b.pk.length):=by
 have a:=ok.n;have e:(gW b).map Ys=Zi b:=by
  refine EQ ?_ (uJ a.2) λx=>?_
  ·rw[qBK];exact(qJ a.2).filter _
  rw[qAB];constructor
  ·rintro⟨l,f,rfl⟩;obtain⟨c,d⟩:=qAC.1 f;exact(kZ ok (fH.1 c).1).1 d
  intro i;obtain⟨⟨c,d⟩,m⟩:=(hZ a.2).1 i;have e:=mV a.2 d;refine⟨tL b.pk.length x,qAC.2 ⟨fH.2 ⟨gO a.2 x,λj g=>by rw[jT g a.2];exact c j g⟩,(kZ ok (gO a.2 x)).2 (by rw[e];exact i)⟩,e⟩
 rw[<-e,qCP];have h:∀l∈gW b,(tL b.pk.length ∘ Ys) l=l:=λl f=>rE a.2 (fH.1 (qAC.1 f).1).1;rw[qCG h,List.map_id']
def mM{b:Sb}(ok:bA b){i:Nat}(h:i<b.pk.length):(bK b i).length<=3:=by obtain⟨_,_,_,_⟩:=gD ok h;rw[bK,qAh,qBF];omega
def kL{α β:Type}(f:α->List β)(n:Nat):∀(L:List α),(∀l∈L,(f l).length<=n)->(L.flatMap f).length<=L.length * n
 | [],_=>by simp
 | l :: L,h=>by have b:=h l (by simp);have c:=kL f n L λx a=>h x (by simp[a]);rw[qAM,BY,qAs,qBY];omega
def pP{b:Sb}(ok:bA b):∀{i:Nat},i<=b.pk.length->(eS b i).length<=3 ^ i
 | 0,_=>by simp[eS]
 | i+1,h=>by
  have a:=pP ok (i:=i) O;have c:=kL (λl=>(bK b i).map λv=>l++[v]) 3 (eS b i) λl _=>by rw[qAh];exact mM ok O
  rw[eS,qDA];exact qAz c (qCT 3 a)
def JC{b:Sb}(ok:bA b){i:Nat}(h:i<=b.pk.length):(eS b i).length<=81:=by have a:=ok.n;exact qAz (pP ok h) (qBz (show 0<3 by decide) (show i<=4 by omega))
def JD{b:Sb}(ok:bA b){l:List Int}(h:l∈eS b b.pk.length):l.length=b.pk.length/\Yp (Ys l):=by
 have g:=ok.n;obtain⟨c,d⟩:=fH.1 h;refine⟨c,λj f=>?_⟩;rw[fJ f];by_cases e:j<b.pk.length
 ·have:=d j e;have:=(gD ok e).1;omega
 rw[qAa,qAn O];decide
def eI(b:Sb)(i:Nat)(l:List Int)(j:Nat):List (List Int):=((bK b i).take j).map λv=>l++[v]
theorem JL{b:Sb}{i:Nat}{l:List Int}{j:Nat}(a:j<(bK b i).length):eI b i l (j+1)=eI b i l j++[l++[(aD b i).lo+j]]:=by
 have e:(bK b i)[j]=(aD b i).lo+j:=by simp[bK]
 rw[eI,iN a,qBL,e];rfl
def pT(b:Sb)(i:Nat)(l:List Int)(j:Nat):(eI b i l j).length<=(bK b i).length:=by rw[eI,qAh,qAj];omega
def kE{α:Type}(p:α->Bool){L:List α}{j:Nat}(a:j<L.length):(L.take (j+1)).filter p=(L.take j).filter p++if p L[j]=true then[L[j]]else[]:=by
 rw[iN a,qBS];congr 1;by_cases h:p L[j]=true
 ·rw[iF h];simp[h]
 rw[aT h];simp[h]
section
variable{P:aX}[Tz P][Loud P]{H:Hp}
def Ni{b:Sb}(hb:Zr H b)(ok:bA b) :
  LL.Zc P 84 #[b.v] H λv g=>aL H g/\∃A c d,v=.slice A d.length c/\aF g v d/\cX g d (gW b):=by
 have hn:=ok.n;refine aJ.m (bG JV) (args:=[b.v]) rfl ?_;unfold nI Sb.v;refine Y ?_;refine ZY (cs:=Zb [((none,0,0):bW)]) (OL _) rfl λr8 qE=>?_;have s8:aF (H.ins r8 (.cells (Zb [((none,0,0):bW)]).toArray 26)) (.slice (some ⟨r8,0,none⟩) 1 1) [((none,0,0):bW)]:=Z0 (l:=[((none,0,0):bW)]);have i8:aL H (H.ins r8 (.cells (Zb [((none,0,0):bW)]).toArray 26)):=Zs qE;generalize H.ins r8 (.cells (Zb [((none,0,0):bW)]).toArray 26)=H1 at *;refine Y ?_;refine ZO (α:=(Option Addr×Nat)×List bW) b.pk.length (λi s g=>aL H g/\aF g (.slice s.1.1 s.2.length s.1.2) s.2/\cX g s.2 (eS b i))
  (λi s=>[(1,vi 0),(3,.slice s.1.1 s.2.length s.1.2),(4,vi i)]) (λ_ _=>[(1,b.cs)]) ((some ⟨r8,0,none⟩,1),[(none,0,0)])
  ⟨i8,s8,rfl,λi h h'=>by(obtain rfl:i=0:=by simpa using h);exact⟨.nil _,dO _⟩⟩ V V ?_
 rintro i ⟨⟨A3,c3⟩,d⟩ I hi ⟨i2,s3,l3⟩;simp only at s3 l3;have U:=l3.len;have lG:=JC ok (show i<=b.pk.length by omega);refine OJ (λh1=>?_) (λh1=>?_)
 ·have y:i<b.pk.length:=O;have M3:=mM ok y;have uR:=(gD ok y).1;have zP:(bK b i).length=((aD b i).hi-(aD b i).lo+1).toNat:=by rw[bK,qAh,qBF]
  have row:=iC y;have N9:eS b (i+1)=(eS b i).flatMap λl=>eI b i l (bK b i).length:=by rw[eS];congr 1;funext l;rw[eI,IF]
  refine Y ?_;refine ZO (α:=Hp×Value×List bW×Option Nat) d.length (λk s g=>aL I s.1/\aL s.1 g/\dD s.1 g 26 s.2.1 s.2.2.1 s.2.2.2/\cX s.1 s.2.2.1 (((eS b i).take k).flatMap λl=>eI b i l (bK b i).length))
   (λk s=>[(1,vi 0),(3,.slice A3 d.length c3),(4,vi i),(5,s.2.1),(6,vi k)]) (λ_ _=>[(1,b.cs)]) (I,.slice none 0 0,[],none) ⟨.refl _,.refl _,.nil _ _ _,.nil _⟩ V V ?_
  rintro k ⟨G,v5,K,b5⟩ H3 hk ⟨g1,p,D,B⟩;simp only at g1 p D B;refine OJ (λh2=>?_) (λh2=>?_)
  ·have x:k<d.length:=O;have r:k<(eS b i).length:=O;obtain⟨sk,ck⟩:=l3.at_ k x r;have u:=pV (λl=>eI b i l (bK b i).length) r;have W:=kL (λl=>eI b i l (bK b i).length) 3 ((eS b i).take k) λl _=>qAz (pT _ _ _ _) M3;rw[qAj]at W;have W:(((eS b i).take k).flatMap λl=>eI b i l (bK b i).length).length<=243:=O;have CM:=(fH.1 (bY r)).1;generalize((eS b i).take k).flatMap (λl=>eI b i l (bK b i).length)=L at *;generalize(eS b i)[k]=l at *;generalize qG:d[k]=q at *;have BG:=iA sk;obtain⟨qA,qn,qc⟩:=q;simp only at BG ck;subst BG;refine Y ?_;refine Zz i (hb.pk.inc ((i2.trans g1).trans p)) y λa S=>?_;rw[row]at S;refine Y ?_;refine Zh (v:=vi (aD b i).lo) (OL _) rfl (by rw[add_zero];exact YN (cs:=[vi (aD b i).lo]) (ds:=[vi (aD b i).hi,vi (aD b i).bF,vi (aD b i).bJ]) (eY (n:=1) S rfl)) (Y ?_);refine ZO (α:=Hp×Value×List bW×Option Nat) (bK b i).length (λj s g=>aL I s.1/\aL s.1 g/\dD s.1 g 26 s.2.1 s.2.2.1 s.2.2.2/\cX s.1 s.2.2.1 (L++eI b i l j))
    (λj s=>[(1,vi 0),(3,.slice A3 d.length c3),(4,vi i),(5,s.2.1),(6,vi k),(7,vi ((aD b i).lo+(j:Int)))]) (λ_ _=>[(1,b.cs)]) (G,v5,K,b5) ⟨g1,p,D,by rw[eI,qCa,qDo,qAf];exact B⟩ ⟨rfl,rfl,rfl,rfl,rfl,by rw[qEj,qBO];rfl,trivial⟩ V ?_
   rintro j ⟨G2,w5,DV,R⟩ H4 hj ⟨g3,g4,o6,l6⟩;simp only at g3 g4 o6 l6;have mO:=l6.len;rw[BY]at mO;have vI:=pT b i l j;have N:=g3.trans g4;refine Y ?_;refine Zz i (hb.pk.inc (i2.trans N)) y λa S=>?_;rw[row]at S;refine Y ?_;refine Zh (v:=vi (aD b i).hi) (OL _) rfl (YN (cs:=[vi (aD b i).hi]) (ds:=[vi (aD b i).bF,vi (aD b i).bJ]) (eY (n:=1) (eY (n:=1) S rfl) rfl)) ?_;refine OJ (λh3=>?_) (λh3=>?_)
   ·have g9:j<(bK b i).length:=O;have GY:=JL (l:=l) g9;have t:Enc.enc d[k]=[.slice qA l.length qc]:=by rw[qG];rfl
    refine Y ?_;refine qZ (bI dW) (cD t3) (OL _) λr7 E=>Y ?_;refine Zz k ((s3.inc N).inc (Zs E)) x λa2 e=>?_;rw[t]at e;refine Y ?_;refine Ya e (Y ?_);refine mW (l:=l) (bI dW) (cD t3) rfl (by decide) E rfl ((sk.inc N).inc (Zs E)) (sG (λ_=>rfl) l) O O rfl rfl (OL _) λv8 H5 b8 i5 o8=>?_;have qD:aL H4 H5:=(Zs (o:=.cells #[] 3) E).trans i5;refine Y ?_;refine ZY (cs:=[vi ((aD b i).lo+(j:Int))]) (OL _) rfl λr9 FE=>Y ?_;refine U7 (l':=[(aD b i).lo+(j:Int)]) (bI dW) (bI dW) (cD t3) rfl (by decide) (qD.trans (Zs FE)) (o8.ins FE) qY rfl (by simp;omega) O rfl rfl (OL _) λv9 H6 b9 k1 k2 k3=>?_;obtain⟨A9,c9,rfl,q9⟩:=jF k2;obtain⟨G',m1,m2,m3,m4⟩:=yR g4 o6 k1 k2;refine Y ?_;refine ZY (cs:=[.slice A9 (l++[(aD b i).lo+(j:Int)]).length c9]) (OL _) rfl λwL f=>Y ?_;refine U7 (l':=[((A9,(l++[(aD b i).lo+(j:Int)]).length,c9):bW)]) (bI kU) (bI kU) (cD rO) rfl (by decide) (m2.trans (Zs f)) (m3.ins f) (Z0 (l:=[((A9,(l++[(aD b i).lo+(j:Int)]).length,c9):bW)])) rfl (by simp;omega) O rfl rfl (OL _) λQ H7 M n1 n2 n3=>Y ?_;exact⟨(⟨j+1,O⟩,(G',Q,DV++[(A9,(l++[(aD b i).lo+(j:Int)]).length,c9)],M)),bN O,⟨g3.trans m1,n1,n2,by rw[GY,<-qAW];exact(l6.inc m1).snoc m4 q9⟩,⟨rfl,rfl,rfl,rfl,rfl,by rw[qEk,<-Int.add_assoc];rfl,trivial⟩,V,rfl⟩
   have:j=(bK b i).length:=O;subst this;refine Y ?_;exact⟨(⟨k+1,O⟩,(G2,w5,DV,R)),bN O,⟨g3,g4,o6,by rw[u];exact l6⟩,V,V,rfl⟩
  have:k=d.length:=O;subst this;rw[U,IF,<-N9]at B;obtain⟨A5,R,rfl,q5⟩:=jF D;refine Y ?_;exact⟨(⟨i+1,O⟩,((A5,R),K)),bN O,⟨(i2.trans g1).trans p,D.sl,B.inc p⟩,V,V,rfl⟩
 have:i=b.pk.length:=O;subst this;have X:=λ(k:Nat) (hk:k<(eS b b.pk.length).length)=>JD ok (bY hk);rw[show gW b=(eS b b.pk.length).filter (eR b)from rfl];generalize eS b b.pk.length=C at *;refine Y ?_;refine ZO (α:=Value×List bW×Option Nat) d.length (λk s g=>aL I g/\dD I g 26 s.1 s.2.1 s.2.2/\cX I s.2.1 ((C.take k).filter (eR b)))
  (λk s=>[(1,vi 0),(3,.slice A3 d.length c3),(8,s.1),(9,vi k)]) (λ_ _=>[(1,b.cs)]) (.slice none 0 0,[],none) ⟨.refl _,.nil _ _ _,.nil _⟩ V V ?_
 rintro k ⟨v8,K,b8⟩ H3 hk ⟨p,D,B⟩;simp only at p D B;have vK:=B.len;have Z:=qBd (eR b) (C.take k);rw[qAj]at Z;refine OJ (λh2=>?_) (λh2=>?_)
 ·have x:k<d.length:=O;have r:k<C.length:=O;obtain⟨sk,ck⟩:=l3.at_ k x r;obtain⟨e1,e2⟩:=X k r;have u:=kE (eR b) r;have t:Enc.enc d[k]=[dN d[k]]:=rfl;refine Y ?_;refine Zz k (s3.inc p) x λa2 e=>?_;rw[t]at e;refine Y ?_;refine Ya (v:=dN d[k]) e (Y ?_);refine Za [b.v,dN d[k]] (Nh ok (hb.inc (i2.trans p)) (sk.inc p) e1 e2) ?_;rintro v _ ⟨rfl,rfl⟩;cases CO:eR b C[k]with
  | false=>
   rw[CO,aT (by decide),qAf]at u;refine Y ?_;exact⟨(⟨k+1,O⟩,(v8,K,b8)),bN O,⟨p,D,by show cX I K ((C.take (k+1)).filter (eR b));rw[u];exact B⟩,V,V,rfl⟩
  | true=>
   rw[CO,iF rfl]at u;refine Y ?_;refine Zz k (s3.inc p) x λa2 e=>?_;rw[t]at e;refine Y ?_;refine Ya (v:=dN d[k]) e (Y ?_);refine ZY (cs:=[dN d[k]]) (OL _) rfl λwL f=>Y ?_;refine U7 (l':=[d[k]]) (bI kU) (bI kU) (cD rO) rfl (by decide) (p.trans (Zs f)) (D.ins f) (Z0 (l:=[d[k]])) rfl (by simp;omega) O rfl rfl (OL _) λQ H7 M n1 n2 n3=>Y ?_;exact⟨(⟨k+1,O⟩,(Q,K++[d[k]],M)),bN O,⟨n1,n2,by show cX I (K++[d[k]]) ((C.take (k+1)).filter (eR b));rw[u];exact B.snoc sk ck⟩,V,V,rfl⟩
 have:k=d.length:=O;subst this;rw[U,IF]at B;obtain⟨A5,R,rfl,q5⟩:=jF D;refine Y ?_;exact⟨i2.trans p,A5,R,K,rfl,D.sl,B.inc p⟩
end
