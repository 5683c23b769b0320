import Derived.Test.YtlhomfgcibjccaaGreatDoorTB01
set_option linter.all false
set_option maxHeartbeats 8000000
set_option maxRecDepth 20000
open Go Go.LL
namespace Go.Proofs
variable{T:List Int}{w:Value}{A:Option Addr}
def hZ{G:Prop} (h:G:=by refine Y ?_;exact⟨⟨j+1,O⟩,bN O,rfl,⟨rfl,rfl,rfl,rfl,rfl,rfl,by rw[ej];rfl,rfl,trivial⟩,V,rfl⟩):G:=h
def RZ:Tryz.prog.underlying 208=some (.slice 4):=U
def gA(T:List Int)(n k:Nat):List Bool:=(List.range n).map λ(p:Nat)=>decide ((p:Int)∈T.take k)
def fT(T:List Int)(n k:Nat):(gA T n k).length=n:=by simp[gA]
def JI(T:List Int)(n:Nat):gA T n 0=List.replicate n false:=by rw[gA,qCa];refine qBl (by simp) λi a b=>by simp
def kF{n k i:Nat}(h:i<(gA T n k).length):(gA T n k)[i]=decide ((i:Int)∈T.take k):=by simp[gA]
def JH{n k i:Nat}(c:k<T.length)(e:T[k]=(i:Int)):(gA T n k).set i true=gA T n (k+1):=by
 refine qBl (by simp[fT]) λj d a=>?_;rw[qCg];have b:j<(gA T n k).length:=by rw[fT]at *;exact a
 rw[kF a,kF b,iN c,e];by_cases g:i=j
 ·subst g;simp
 rw[aT g];refine qBk.2 ?_;rw[qAi,oR];exact⟨.inl,λh=>h.resolve_right λh=>g O⟩
def uL(l:List Bool){j:Nat}(b:j<l.length)(z:Bool):ZG (Zb l) j [vb z]=Zb (l.set j z):=by
 have e:∀l:List Bool,Zb l=l.map λz=>vb z:=λl=>by
  induction l with
  | nil=>rfl
  | cons a l ih=>show vb a :: Zb l=_;rw[ih];rfl
 rw[e,e,ZG,qEf,qCx,iF (by simpa using b)];simp
def WK.hU{G H:Hp}{g f a:Nat}{out:List Wk}{d:List Int}{o:Obj}(h:WK G H g f out d)(i:a≠g)(j:a≠f):WK (G.ins a o) (H.ins a o) g f out d:=by
 refine⟨λb x hb k c=>?_,by rw[Hp.aH _ _ (qAF i)];exact h.out,by rw[Hp.aH _ _ (qAF j)];exact h.fr,h.ne⟩;by_cases e:b=a
 ·subst e;rw[Hp.aG]at c ⊢;exact c
 rw[Hp.aH _ _ e]at c ⊢;exact h.keep b x hb k c
def mJ{key:Int->Int}{nd:Int->Bool}{l:List Int}:∀{j:Nat},j<=l.length->cH key nd l j=-1\/cH key nd l j∈l
 | 0,_=>.inl rfl
 | j+1,a=>by
  rw[cH];split
  ·rw[el,ZD O];exact .inr (bY _)
  exact mJ O
def uG{b:Sb}{t:N4}{l:List Int}(ok:bA b)(d:Yp t)(a:cZ b.pk.length l){j:Nat}(c:j<=b.pk.length):WB b.pk.length b.hd.toNat (20 * b.pk.length+20 * j) (s2 b t l j):=by have h:=gW ok d a (dO b.pk.length);rw[iB a.len]at h;exact EN ok h.l1 h.o O (eV a).rg j (by rw[(eV a).len];exact c)
def wO(b:Sb)(t:N4)(l:List Int)(k:Nat)(z:Int):Bool:=!decide (z∈(Ul b t l).take k)
def kV(b:Sb)(t:N4)(l:List Int)(k j:Nat):Int:=cH (kD (fA b t l).1) (wO b t l k) l j
abbrev FQ(b:Sb):List Value:=[vi (b.pl.toNat:Int),vi (b.hd.toNat:Int),vi b.td,.slice b.A1 b.pk.length b.c1,.slice b.A2 b.nt.length b.c2]
section
variable{P:aX}[Tz P][Loud P]{H:Hp}
def pP{b:Sb}{c:Nat}{l:List Int}(hb:Zr H b)(ok:bA b)(hT:aF H w T)(Sk:T.length=b.pk.length)(ht:Yp (Ys T))(hl:aF H (.slice A l.length c) l)(Z:cZ b.pk.length l) :
  LL.Zc P 128 #[b.v,w,.slice A l.length c] H λv W=>aL H W/\∃bb,dD H W 65 v (VN b (Ys T) l) bb:=by
 have hn:=ok.n;have vK:=ok.pl;have uT:=ok.hd;have R:=Z.len;have wR:=Z.rg;refine aJ.m (bG I7) (args:=[b.v,w,.slice A l.length c]) rfl ?_;unfold mU Sb.v;refine Y ?_;refine vS (n:=l.length) (bI Bo) (cD Bq) O O O rfl (OL _) λF K=>?_;rw[show(4:Nat)=Enc.sz Wk from rfl,vT (⟨0,0,0,0⟩:Wk) rfl (by decide) l.length];have i1:=Zs (o:=.cells (Zb (List.replicate l.length (⟨0,0,0,0⟩:Wk))).toArray 65) K;have a1:(H.ins F (.cells (Zb (List.replicate l.length (⟨0,0,0,0⟩:Wk))).toArray 65)) F=some (.cells (Zb (List.replicate l.length (⟨0,0,0,0⟩:Wk))).toArray 65,true):=Hp.aG _ _ _;generalize H.ins F (.cells (Zb (List.replicate l.length (⟨0,0,0,0⟩:Wk))).toArray 65)=H2 at *;have HR:vi b.pl=vi (b.pl.toNat:Int):=by congr 1;omega
 rw[HR];refine Y ?_;refine vS (n:=b.pl.toNat) (bI dW) (cD t3) O O O rfl (OL _) λrp wQ=>?_;rw[show b.pl.toNat * 1=b.pl.toNat * Enc.sz Int from rfl,vT (0:Int) rfl (by decide) b.pl.toNat];have GP:F≠rp:=by rintro rfl;rw[wQ]at a1;simp at a1
 have M:H rp=none:=YL i1 wQ;have w0:WK H2 (H2.ins rp (.cells (Zb (List.replicate b.pl.toNat (0:Int))).toArray 3)) F rp (s1 b (Ys T) l 0).1 (s1 b (Ys T) l 0).2:=
  ⟨λb x h1 h2 h=>Zs wQ _ _ h,by rw[Zs wQ _ _ a1,R];rfl,by rw[qAf];exact Hp.aG _ _ _,GP⟩
 generalize H2.ins rp (.cells (Zb (List.replicate b.pl.toNat (0:Int))).toArray 3)=H3 at *;refine Y ?_;refine Zv l.length (λj W=>WK H2 W F rp (s1 b (Ys T) l j).1 (s1 b (Ys T) l j).2)
  (λj=>[(1,w),(2,.slice A l.length c),(3,vi 0),(7,.slice (some ⟨F,0,none⟩) l.length l.length),(8,.slice (some ⟨rp,0,none⟩) b.pl.toNat b.pl.toNat),(9,vi j)]) (λ_=>[(3,[vi (b.pl.toNat:Int),vi b.hd,vi b.td,.slice b.A1 b.pk.length b.c1,.slice b.A2 b.nt.length b.c2])]) w0 V V ?_
 rintro j H4 hj w4;refine OJ (λh1=>?_) (λh1=>?_)
 ·have B:j<l.length:=O;have wb:=gW ok ht Z (j:=j) O;have tF:=wC (b:=b) (t:=Ys T) B;generalize s1 b (Ys T) l j=s at *;have uS:=w4.inc i1 K M;have hz:=wR _ (bY B);rw[Uu B]at tF;obtain⟨z,L⟩:∃z:Nat,l[j]=z:=⟨l[j].toNat,O⟩;rw[L]at hz tF;have vH:z<s.1.length:=by rw[wb.l1];omega
  have FD:z<T.length:=O;have PA:(Ys T).get z=T[z]:=mE FD O;have hf:=wb.fl O;have I:Zo s.2<b.pl.toNat:=by rw[<-wb.l2];exact hf
  have b1:=wb.fr (Zo s.2);have Hj:=ht z O;refine Y ?_;refine Za [.slice (some ⟨rp,0,none⟩) b.pl.toNat b.pl.toNat] (pH (by rw[<-wb.l2];exact w4.sl) (by rw[wb.l2];omega) (by rw[wb.l2];omega)) ?_;rintro v _ ⟨rfl,rfl⟩;refine Y ?_;refine Zz j (hl.inc uS) B λa C=>?_;rw[L]at C;refine Y ?_;refine Ya (v:=vi (z:Int)) C (Y ?_);refine Zd (Zo s.2) rfl rfl rfl I (Y ?_);refine Zh (OL _) rfl (w4.ar.cA hf rfl) (Y ?_);refine Zd z rfl rfl rfl O (Y ?_);refine uU w4 vH (f:=0) (by decide) rfl rfl rfl λH5 w5=>?_;have FJ:=w5.inc i1 K M;refine Y ?_;refine Zd (Zo s.2) rfl rfl rfl I (Y ?_);refine Zh (OL _) rfl (w5.ar.cA hf rfl) (Y ?_);refine Zz j (hl.inc FJ) B λa C=>?_;rw[L]at C;refine Y ?_;refine Ya (v:=vi (z:Int)) C (Y ?_);refine Zz z (hT.inc FJ) FD λa C=>?_;rw[<-PA]at C;refine Y ?_;refine Ya (v:=vi ((Ys T).get z)) C (Y ?_);refine Zd (Zo s.2) rfl rfl rfl I (Y ?_);refine ZS w5.ar hf (ZK _ _) rfl rfl λH6 jS=>?_;have w6:=w5.eC jS;have CN:=w6.inc i1 K M;refine Y ?_;refine Zz j (hl.inc CN) B λa C=>?_;rw[L]at C;refine Y ?_;refine Ya (v:=vi (z:Int)) C (Y ?_);refine Zd (Zo s.2) rfl rfl rfl I (Y ?_);refine Zh (OL _) rfl (w6.ar.cA (by rw[qAg];exact hf) rfl) (Y ?_);refine Zd z rfl rfl rfl O (Y ?_);refine uU w6 (by rw[qAg];exact vH) (f:=1) (by decide) rfl rfl rfl λH7 w7=>?_;rw[qCX,mC _ _ vH,iF rfl,CE _ _ hf,iF rfl,TV]at w7;refine Y ?_;exact⟨⟨j+1,O⟩,bN O,by rw[tF];exact w7,V,V,rfl⟩
 have BO:j=b.pk.length:=O;subst BO;rw[iB R]at w4;have wb:=gW ok ht Z (dO b.pk.length);rw[iB R]at wb;have uS:=w4.inc i1 K M;have o4:=w4.out;clear w0;have HT:vi b.hd=vi (b.hd.toNat:Int):=by congr 1;omega
 rw[HT];refine Y ?_;refine vS (n:=b.hd.toNat) (bI dW) (cD t3) O O O rfl (OL _) λU uQ=>?_;rw[show b.hd.toNat * 1=b.hd.toNat * Enc.sz Int from rfl,vT (0:Int) rfl (by decide) b.hd.toNat];have GQ:F≠U:=by rintro rfl;rw[uQ]at o4;simp at o4
 have BE:H U=none:=YL uS uQ;have i5:=uS.trans (Zs (o:=.cells (Zb (List.replicate b.hd.toNat (0:Int))).toArray 3) uQ);have o5:=Zs (o:=.cells (Zb (List.replicate b.hd.toNat (0:Int))).toArray 3) uQ _ _ o4;have f5:(H4.ins U (.cells (Zb (List.replicate b.hd.toNat (0:Int))).toArray 3)) U=some (.cells (Zb (List.replicate b.hd.toNat (0:Int))).toArray 3,true):=Hp.aG _ _ _;generalize H4.ins U (.cells (Zb (List.replicate b.hd.toNat (0:Int))).toArray 3)=H5 at *;refine Y ?_;refine vS (n:=l.length) (bI RZ) (cD t4) O O O rfl (OL _) λD S=>?_;rw[show l.length * 1=l.length * Enc.sz Bool from rfl,vT (false:Bool) rfl (by decide) l.length];have AX:D≠F:=by rintro rfl;rw[S]at o5;simp at o5
 have AY:D≠U:=by rintro rfl;rw[S]at f5;simp at f5
 have BF:H D=none:=YL i5 S;have i6:=i5.trans (Zs (o:=.cells (Zb (List.replicate l.length (false:Bool))).toArray 4) S);have o6:=Zs (o:=.cells (Zb (List.replicate l.length (false:Bool))).toArray 4) S _ _ o5;have f6:=Zs (o:=.cells (Zb (List.replicate l.length (false:Bool))).toArray 4) S _ _ f5;have d6:(H5.ins D (.cells (Zb (List.replicate l.length (false:Bool))).toArray 4)) D=some (.cells (Zb (List.replicate l.length (false:Bool))).toArray 4,true):=Hp.aG _ _ _;generalize H5.ins D (.cells (Zb (List.replicate l.length (false:Bool))).toArray 4)=H6 at *;rw[<-JI (Ul b (Ys T) l)]at d6;have D3:=eV (t:=Ys T) Z;have SR:=D3.len;have w6:WK H6 H6 F U (s2 b (Ys T) l 0).1 (s2 b (Ys T) l 0).2:=⟨λ_ _ _ _ h=>h,o6,by rw[qAf];exact f6,GQ⟩;refine Y ?_;refine ZO (α:=Hp) l.length (λk G W=>WK G W F U (s2 b (Ys T) l k).1 (s2 b (Ys T) l k).2/\(∀q x,q≠D->H6 q=some x->G q=some x)/\G D=some (.cells (Zb (gA (Ul b (Ys T) l) l.length k)).toArray 4,true))
  (λk _=>[(2,.slice A l.length c),(3,vi 0),(7,.slice (some ⟨F,0,none⟩) l.length l.length),(11,.slice (some ⟨U,0,none⟩) b.hd.toNat b.hd.toNat),(12,.slice (some ⟨D,0,none⟩) l.length l.length),(13,vi k)])
  (λ_ _=>[(3,FQ b)]) H6 ⟨w6,λ_ _ _ h=>h,d6⟩ V V ?_
 rintro k G H7 hk ⟨w7,gk,gd⟩;have tY:∀{G' W:Hp} {o:List Wk} {f:List Int},WK G' W F U o f->(∀q x,q≠D->H6 q=some x->G' q=some x)->aL H W:=λw g q x hq=>
  w.keep q x (by rintro rfl;rw[K]at hq;simp at hq) (by rintro rfl;rw[BE]at hq;simp at hq) (g q x (by rintro rfl;rw[BF]at hq;simp at hq) (i6 q x hq))
 have FI:=tY w7 gk;refine OJ (λh2=>?_) (λh2=>?_)
 ·have zQ:k<b.pk.length:=O;have FG:k<(Ul b (Ys T) l).length:=O;have Q:=λp=>iY ok ht Z p (j:=k) O;have BB:=lJ (b:=b) (t:=Ys T) Z zQ;have zV:=uG ok ht Z (j:=k) O;have pn:kV b (Ys T) l k l.length=el (Ul b (Ys T) l) k:=yU (nd:=wO b (Ys T) l k) (n:=k) Z.nd (λz hz=>(wR z hz).1) O (λz _=>by rw[wO,qBe,qBH];rfl);have pm:=λ{j:Nat} (h:j<=l.length)=>mJ (key:=kD (fA b (Ys T) l).1) (nd:=wO b (Ys T) l k) h;have NT:aF H7 (.slice (some ⟨D,0,none⟩) l.length l.length) (gA (Ul b (Ys T) l) l.length k):=⟨_,l.length,by rw[fT],λ_=>⟨_,rfl,ZA (w7.keep D _ AX AY gd)⟩⟩;refine Y ?_;refine Zv l.length (λj W=>H7=W) (λj=>[(2,.slice A l.length c),(3,vi 0),(7,.slice (some ⟨F,0,none⟩) l.length l.length),(11,.slice (some ⟨U,0,none⟩) b.hd.toNat b.hd.toNat),(12,.slice (some ⟨D,0,none⟩) l.length l.length),(13,vi k),(14,vi (kV b (Ys T) l k j)),(15,vi j)])
   (λ_=>[(3,FQ b)]) rfl V V ?_
  rintro j _ hj rfl;have pj:=pm (j:=j) O;replace pj:kV b (Ys T) l k j=-1\/kV b (Ys T) l k j∈l:=pj;have ej:∀h:j<l.length,kV b (Ys T) l k (j+1)=if(!decide (l[j]∈(Ul b (Ys T) l).take k))=true/\(kV b (Ys T) l k j<0\/kD (fA b (Ys T) l).1 l[j]<kD (fA b (Ys T) l).1 (kV b (Ys T) l k j))then l[j]else kV b (Ys T) l k j:=λh=>by rw[kV,cH,Uu h];rfl
  refine OJ (λh3=>?_) (λh3=>?_)
  ·have B:j<l.length:=O;have hz:=wR _ (bY B);have ej:=ej B;obtain⟨z,L⟩:∃z:Nat,l[j]=z:=⟨l[j].toNat,O⟩;rw[L]at hz ej;have FC:z<(gA (Ul b (Ys T) l) l.length k).length:=by rw[fT];omega
   refine Y ?_;refine Zz j (hl.inc FI) B λa C=>?_;rw[L]at C;refine Y ?_;refine Ya (v:=vi (z:Int)) C (Y ?_);refine Zz z NT FC λa C=>?_;rw[kF FC]at C;refine Y ?_;refine Ya (v:=vb (decide ((z:Int)∈(Ul b (Ys T) l).take k))) C ?_;cases vL:decide ((z:Int)∈(Ul b (Ys T) l).take k)with
   | true=>
    rw[vL,aT (by simp)]at ej;exact hZ
   | false=>
    rw[vL]at ej;generalize kV b (Ys T) l k j=q at *;refine OJ (λh4=>?_) (λh4=>?_)
    ·rw[iF ⟨rfl,.inl h4⟩]at ej;exact hZ
    have hq:=wR q (pj.resolve_left O);obtain⟨y,rfl⟩:=qBr hq.1;have hy:y<b.pk.length:=O;have ez:(bM (s2 b (Ys T) l k).1 z).o=kD (fA b (Ys T) l).1 (z:Int):=(Q z).2.2.2;have ey:(bM (s2 b (Ys T) l k).1 y).o=kD (fA b (Ys T) l).1 (y:Int):=(Q y).2.2.2;refine Y ?_;refine Zd z rfl rfl rfl O (Y ?_);refine Zh (OL _) rfl (w7.cW 1 (by decide) (by rw[(Q z).1];omega)) (Y ?_);refine Zd y rfl rfl rfl O (Y ?_);refine Zh (OL _) rfl (w7.cW 1 (by decide) (by rw[(Q y).1];omega)) ?_;rw[show(bM (s2 b (Ys T) l k).1 z).get 1=kD (fA b (Ys T) l).1 (z:Int)from ez,show(bM (s2 b (Ys T) l k).1 y).get 1=kD (fA b (Ys T) l).1 (y:Int)from ey];refine OJ (λh5=>?_) (λh5=>?_)
    ·rw[iF ⟨rfl,.inr h5⟩]at ej;exact hZ
    rw[aT (λh=>h.2.elim h4 h5)]at ej;exact hZ
  have BO:j=l.length:=O;subst BO;rw[pn];clear ej pj pm pn;have hz:=D3.at_ zQ;obtain⟨i,FH⟩:∃i:Nat,el (Ul b (Ys T) l) k=i:=⟨(el (Ul b (Ys T) l) k).toNat,O⟩;rw[FH]at hz BB ⊢;have hi:i<b.pk.length:=O;have NS:=JH (n:=l.length) FG (by rw[<-Uu FG];exact FH);generalize s2 b (Ys T) l k=s at *;have J:i<s.1.length:=by rw[(Q i).1];exact hi
  have hf:=uF (l:=s.2) (by intro e;have:=(Q 0).2.1;rw[e]at this;simp at this;omega);have I:Zo s.2<b.hd.toNat:=by rw[<-(Q 0).2.1];exact hf
  have q1:=zV.fr (Zo s.2);have q2:=zV.o i;have row:=iA hi;have q3:=(fG ok hi).2.2.1;refine Y ?_;refine Za [.slice (some ⟨U,0,none⟩) b.hd.toNat b.hd.toNat] (pH (by rw[<-(Q 0).2.1];exact w7.sl) (by rw[(Q 0).2.1];omega) (by rw[(Q 0).2.1];omega)) ?_;rintro v _ ⟨rfl,rfl⟩;refine Y ?_;refine Zd i rfl rfl rfl O (Y ?_);rw[ZK];refine wF (v:=vb true) (cD t4) rfl rfl (w7.keep D _ AX AY gd) rfl (by rw[VH,fT];show i+1<=l.length * 1;omega) rfl (OL _) ?_;rw[show(vb true).cells.toList=[vb true]from rfl,uL _ (by rw[fT];omega),NS];have w8:=w7.hU (o:=.cells (Zb (gA (Ul b (Ys T) l) l.length (k+1))).toArray 4) AX AY;have FP:∀q x,q≠D->H6 q=some x->(G.ins D (.cells (Zb (gA (Ul b (Ys T) l) l.length (k+1))).toArray 4)) q=some x:=λq x h h'=>by rw[Hp.aH _ _ h];exact gk q x h h'
  have N3:(G.ins D (.cells (Zb (gA (Ul b (Ys T) l) l.length (k+1))).toArray 4)) D=some (.cells (Zb (gA (Ul b (Ys T) l) l.length (k+1))).toArray 4,true):=Hp.aG _ _ _;generalize G.ins D (.cells (Zb (gA (Ul b (Ys T) l) l.length (k+1))).toArray 4)=G8 at *;generalize H7.ins D (.cells (Zb (gA (Ul b (Ys T) l) l.length (k+1))).toArray 4)=H8 at *;refine Y ?_;refine Zd i rfl rfl rfl O (Y ?_);refine Zh (OL _) rfl (w8.cW 1 (by decide) J) (Y ?_);refine Zd (Zo s.2) rfl rfl rfl I (Y ?_);refine Zh (OL _) rfl (w8.ar.cA hf rfl) (Y ?_);refine q8 rfl rfl (Y ?_);refine Zd i rfl rfl rfl O (Y ?_);refine uU w8 J (f:=2) (by decide) rfl rfl rfl λH9 w9=>?_;have oY:i<(s.1.set i ((bM s.1 i).put 2 (max (bM s.1 i).o (el s.2 (Zo s.2))))).length:=by rw[qAg];exact J
  have eg:(bM (s.1.set i ((bM s.1 i).put 2 (max (bM s.1 i).o (el s.2 (Zo s.2))))) i).get 2=max (bM s.1 i).o (el s.2 (Zo s.2)):=by rw[mC _ _ J,iF rfl];rfl
  have w9:WK G8 H9 F U (s.1.set i ((bM s.1 i).put 2 (max (bM s.1 i).o (el s.2 (Zo s.2))))) s.2:=w9;refine Y ?_;refine Zd i rfl rfl rfl O (Y ?_);refine Zh (OL _) rfl (w9.cW 2 (by decide) oY) ?_;rw[eg];refine Y ?_;refine Zz i (hb.pk.inc (tY w9 FP)) hi λa C=>?_;rw[row]at C;refine Y ?_;refine Zh (v:=vi (aD b i).bF) (OL _) rfl (YN (cs:=[vi (aD b i).bF]) (ds:=[vi (aD b i).bJ]) (eY (n:=3) C rfl)) (Y ?_);refine Zd i rfl rfl rfl O (Y ?_);refine uU w9 oY (f:=3) (by decide) rfl rfl rfl λHa wa=>?_;rw[qCX,mC _ _ J,iF rfl,TU]at wa;have HU:(bM (s.1.set i { bM s.1 i with g:=max (bM s.1 i).o (el s.2 (Zo s.2)),d:=max (bM s.1 i).o (el s.2 (Zo s.2))+(aD b i).bF }) i).get 3=max (bM s.1 i).o (el s.2 (Zo s.2))+(aD b i).bF:=by rw[mC _ _ J,iF rfl];rfl
  refine Y ?_;refine Zd i rfl rfl rfl O (Y ?_);refine Zh (OL _) rfl (wa.cW 3 (by decide) (by rw[qAg];exact J)) ?_;rw[HU];refine Y ?_;refine Zd (Zo s.2) rfl rfl rfl I (Y ?_);refine ZS wa.ar hf (ZK _ _) rfl rfl λHb HZ=>?_;have F5:=wa.eC HZ;refine Y ?_;exact⟨(⟨k+1,O⟩,G8),bN O,⟨by rw[BB];exact F5,FP,N3⟩,V,V,rfl⟩
 have:k=b.pk.length:=O;subst this;rw[<-wD Z];have Q:=iY ok ht Z 0 (dO b.pk.length);refine Y ?_;refine⟨FI,some F,⟨?_,.inr ⟨F,l.length,[],rfl,by rw[Q.1,R];rfl,by rw[qAf];exact w7.out,?_,by rw[Q.1,R];exact dO _⟩⟩,λr h=>by obtain rfl:=iO h;exact K⟩
 ·rw[VH]
 rw[qAf,VH,Q.1,R]
end
def pG{c:B4}{n:Nat}(h:∀i,n<=i->i<4->c.get i=false):∀{k:Nat},n+k<=4->cS c (n+k)=cS c n
 | 0,_=>rfl
 | k+1,a=>by rw[show n+(k+1)=(n+k)+1 from rfl,cS,h (n+k) O O,aT (by decide),pG h O]
section
variable{P:aX}[Tz P][Loud P]{H:Hp}
theorem rG{b:Sb}{c:Nat}{l:List Int}(hb:Zr H b)(ok:bA b)(hT:aF H w T)(F:T.length=b.pk.length)(Q:Yp (Ys T))(hl:aF H (.slice A l.length c) l)(G:cZ b.pk.length l) :
  LL.Zc P 98 #[b.v,w,.slice A l.length c] H λv r=>aL H r/\aF r v (gM b (Ys T) l):=by
 have hn:=ok.n;obtain⟨wl,wb⟩:=tH ok Q G.len G.rg;refine aJ.m (bG I5) (args:=[b.v,w,.slice A l.length c]) rfl ?_;unfold mS Sb.v;refine Y ?_;refine Za [b.v,w,.slice A l.length c] (pP hb ok hT F Q hl G) ?_;rintro v B ⟨i1,bb,ow⟩;have I:=ow.sl;obtain⟨X,cw,rfl,_⟩:=id I;have M:∀{i:Nat},i<4->((Yg b (Ys T) l).1.get i=true↔i<(VN b (Ys T) l).length/\(bM (VN b (Ys T) l) i).o+(aD b i).bJ<(bM (VN b (Ys T) l) i).d):=λhi=>lM O hi;have ee:gM b (Ys T) l=cS (Yg b (Ys T) l).1 (VN b (Ys T) l).length:=by
  have:=pG (c:=(Yg b (Ys T) l).1) (n:=(VN b (Ys T) l).length) (λi N t=>by
   cases e:(Yg b (Ys T) l).1.get i with
   | false=>rfl
   | true=>have:=((M t).1 e).1;omega) (k:=4-(VN b (Ys T) l).length) O
  rw[show(VN b (Ys T) l).length+(4-(VN b (Ys T) l).length)=4 by omega]at this;exact this
 rw[ee];generalize(Yg b (Ys T) l).1=C at *;generalize VN b (Ys T) l=W at *;refine Y ?_;refine ZO (α:=Value×Option Nat) W.length (λj s r=>aL B r/\dD B r 3 s.1 (cS C j) s.2) (λj s=>[(3,vi 0),(7,.slice X W.length cw),(8,s.1),(9,vi j)]) (λ_ _=>[(3,b.cs)]) (.slice none 0 0,none) ⟨.refl _,.nil _ _ _⟩ V V ?_;rintro j ⟨U,L⟩ Z hj ⟨x,D⟩;have R:=i1.trans x;simp only at D;have jQ:=B9 C j;refine OJ (λN=>?_) (λN=>?_)
 ·have f:j<W.length:=O;have q:j<b.pk.length:=O;have row:=iA q;have y:Enc.enc W[j]=[vi W[j].i,vi W[j].o,vi W[j].g,vi W[j].d]:=rfl;have E:=M (i:=j) O;have eW:bM W j=W[j]:=EJ f;have bo:=wb j;rw[eW]at E bo;have Qw:=(fG ok q).2.2.2;refine Y ?_;refine Zz j (I.inc x) f λa p=>?_;rw[y]at p;refine Y ?_;refine Zh (v:=vi W[j].d) (OL _) rfl (eY (n:=3) p rfl) (Y ?_);refine Zz j (I.inc x) f λa p=>?_;rw[y]at p;refine Y ?_;refine Zh (v:=vi W[j].o) (OL _) rfl (YN (cs:=[vi W[j].o]) (ds:=[vi W[j].g,vi W[j].d]) (eY (n:=1) p rfl)) (Y ?_);refine Zz j (hb.pk.inc R) q λa p=>?_;rw[row]at p;refine Y ?_;refine Zh (v:=vi (aD b j).bJ) (OL _) rfl (eY (n:=4) p rfl) ?_;refine OJ (λt=>?_) (λt=>?_)
  ·have e:C.get j=true:=E.2 ⟨f,t⟩;refine Y ?_;refine ZY (cs:=[vi (j:Int)]) (OL _) rfl λr5 u=>Y ?_;refine U7 (l':=[(j:Int)]) (bI dW) (bI dW) (cD t3) rfl (by decide) (x.trans (Zs u)) (D.ins u) qY rfl (by simp only[qAA];omega) O rfl rfl (OL _) λS H4 K k1 k2 k3=>Y ?_;exact⟨(⟨j+1,O⟩,(S,K)),bN O,⟨k1,by show dD B H4 3 S (cS C (j+1)) K;rw[cS,iF e];exact k2⟩,V,V,rfl⟩
  have e:¬ C.get j=true:=λh=>t (E.1 h).2;refine Y ?_;exact⟨(⟨j+1,O⟩,(U,L)),bN O,⟨x,by show dD B Z 3 U (cS C (j+1)) L;rw[cS,aT e];exact D⟩,V,V,rfl⟩
 have:j=W.length:=O;subst this;refine Y ?_;exact⟨R,D.sl⟩
theorem kL{b:Sb}{c:Nat}{l:List Int}(hb:Zr H b)(ok:bA b)(D:aF H w T)(k:T.length=b.pk.length)(s:Yp (Ys T))(E:aF H (.slice A l.length c) l)(p:cZ b.pk.length l) :
  LL.Zc P 129 #[b.v,w,.slice A l.length c] H λv h=>aL H h/\v=vi (Yg b (Ys T) l).2:=by
 refine aJ.m (bG I8) (args:=[b.v,w,.slice A l.length c]) rfl ?_;unfold mD Sb.v;refine Y ?_;refine Za [b.v,w,.slice A l.length c] (pP hb ok D k s E p) ?_;rintro v x ⟨F,I,G⟩;have t:=G.sl;obtain⟨u,y,rfl,_⟩:=id t;have L:=(tH ok s p.len p.rg).1;have K:=ok.n;rw[show Yg b (Ys T) l=U2 b (VN b (Ys T) l) (VN b (Ys T) l).length from rfl];generalize VN b (Ys T) l=W at *;refine Y ?_;refine Zv W.length (λj h=>x=h) (λj=>[(3,vi 0),(7,.slice u W.length y),(8,vi (U2 b W j).2),(9,vi j)]) (λ_=>[(3,b.cs)]) rfl V V ?_;rintro j _ J rfl;refine OJ (λC=>?_) (λC=>?_)
 ·have f:j<W.length:=O;have q:Enc.enc W[j]=[vi W[j].i,vi W[j].o,vi W[j].g,vi W[j].d]:=rfl;have z:bM W j=W[j]:=EJ f;have e:(U2 b W (j+1)).2=max (U2 b W j).2 W[j].d:=by rw[<-z];rfl
  refine Y ?_;refine Zz j t f λa r=>?_;rw[q]at r;refine Y ?_;refine Zh (v:=vi W[j].d) (OL _) rfl (eY (n:=3) r rfl) (Y ?_);refine q8 rfl rfl (Y ?_);exact⟨⟨j+1,O⟩,bN O,rfl,⟨rfl,rfl,by rw[e];rfl,rfl,trivial⟩,V,rfl⟩
 have:j=W.length:=O;subst this;refine Y ?_;exact⟨F,rfl⟩
end
def bK(b:Sb)(i:Nat):List Int:=(List.range ((aD b i).hi-(aD b i).lo+1).toNat).map λ(k:Nat)=>(aD b i).lo+k
def eS(b:Sb):Nat->List (List Int)
 | 0=>[[]]
 | i+1=>(eS b i).flatMap λl=>(bK b i).map λv=>l++[v]
def kY{b:Sb}{i:Nat}{z:Int}:z∈bK b i↔(aD b i).lo<=z/\z<=(aD b i).hi:=by
 rw[bK,qAB];constructor
 ·rintro⟨k,a,rfl⟩;have:=qAl.1 a;omega
 rintro⟨c,d⟩;exact⟨(z-(aD b i).lo).toNat,qAl.2 O,O⟩
def uK(b:Sb)(i:Nat):(bK b i).Pairwise (·<·):=by rw[bK,qBK];exact List.pairwise_lt_range.imp λh=>by omega
def eE{b:Sb}:∀{i:Nat} {l:List Int},l∈eS b i↔l.length=i/\∀j,j<i->(aD b j).lo<=l.getD j 0/\l.getD j 0<=(aD b j).hi
 | 0,l=>by
  rw[eS,oR];constructor
  ·rintro rfl;exact⟨rfl,λj h=>O⟩
  rintro⟨h,_⟩;exact qAt.1 h
 | i+1,l=>by
  rw[eS,qDr];constructor
  ·rintro⟨m,k,g⟩;obtain⟨n,o,rfl⟩:=qAB.1 g;obtain⟨c,a⟩:=eE.1 k;refine⟨by simp[c],λj f=>?_⟩;rw[eR];by_cases e:j<i
   ·rw[iF O];exact a j e
   rw[aT O,iF O];obtain rfl:j=i:=O;exact kY.1 o
  rintro⟨c,a⟩;refine⟨l.take i,eE.2 ⟨by rw[qAj];omega,λj f=>?_⟩,qAB.2 ⟨l.getD i 0,kY.2 (a i O),?_⟩⟩
  ·rw[pO f];exact a j O
  have d:i<l.length:=O;rw[ZD d,<-iN d,<-c,IF]
def qK{b:Sb}:∀{i:Nat},i<=4->(eS b i).Pairwise λx y=>eI (Ys x) (Ys y)
 | 0,_=>qAS _ _
 | i+1,t=>by
  rw[eS,qDP];refine⟨λl f=>?_,(qK O).imp_of_mem λ{l B} f g h x r y s=>?_⟩
  ·have c:=(eE.1 f).1;rw[qBK];refine(uK b i).imp λ{v w} n=>⟨i,O,?_,λj o=>?_⟩
   ·have e:∀u:Int,(l++[u]).getD i 0=u:=λu=>by rw[eR,aT O,iF O]
    rw[fJ O,fJ O,e,e];exact n
   have e:∀u:Int,(l++[u]).getD j 0=l.getD j 0:=λu=>by rw[eR,iF O]
   rw[fJ O,fJ O,e,e]
  have c:=(eE.1 f).1;have m:=(eE.1 g).1;obtain⟨v,_,rfl⟩:=qAB.1 r;obtain⟨w,_,rfl⟩:=qAB.1 s;obtain⟨k,a,d,p⟩:=h;have q:k<i:=qAd λz=>by rw[fJ a,fJ a,qAa,qAa,qAn O,qAn O]at d;exact absurd d (qCR _)
  refine⟨k,a,?_,λj o=>?_⟩
  ·rw[fJ a,fJ a]at d ⊢;rw[eR,eR,iF O,iF O];exact d
  have:=p j o;rw[fJ O,fJ O]at this ⊢;rw[eR,eR,iF O,iF O];exact this
def tL(n:Nat)(t:N4):List Int:=t.A0.take n
def gB{n:Nat}(a:n<=4)(t:N4):(tL n t).length=n:=by rw[tL,qAj];show min n 4=n;omega
theorem gO{n j:Nat}(a:j<n)(b:n<=4)(t:N4):(tL n t).getD j 0=t.get j:=by
 rw[tL,pO a];match j,(show j<4 by omega)with
 | 0,_=>rfl
 | 1,_=>rfl
 | 2,_=>rfl
 | 3,_=>rfl
def sI{n:Nat}(a:n<=4){l:List Int}(h:l.length=n):tL n (Ys l)=l:=by refine qBl (by rw[gB a,h]) λj b c=>?_;rw[<-ZD b 0,<-ZD c 0,gO O a,fJ O]
theorem lU{n:Nat}(b:n<=4){t:N4}(h:∀j,j<4->n<=j->t.get j=0):Ys (tL n t)=t:=N4.ext' λj a=>by
 rw[fJ a];by_cases e:j<n
 ·rw[gO e b]
 rw[qAa,qAn (by rw[gB b];omega),h j a O];rfl
def gG(b:Sb):List (List Int):=(eS b b.pk.length).filter (dU b)
def pQ{b:Sb}(ok:bA b):gG b=(Zi b).map (tL b.pk.length):=by
 have a:=ok.n;have e:(gG b).map Ys=Zi b:=by
  refine JO ?_ (uH a.2) λx=>?_
  ·rw[qBK];exact(qK a.2).filter _
  rw[qAB];constructor
  ·rintro⟨l,f,rfl⟩;obtain⟨c,d⟩:=qAC.1 f;exact(kM ok (eE.1 c).1).1 d
  intro i;obtain⟨⟨c,d⟩,m⟩:=(gR a.2).1 i;have e:=lU a.2 d;refine⟨tL b.pk.length x,qAC.2 ⟨eE.2 ⟨gB a.2 x,λj g=>by rw[gO g a.2];exact c j g⟩,(kM ok (gB a.2 x)).2 (by rw[e];exact i)⟩,e⟩
 rw[<-e,qCP];have h:∀l∈gG b,(tL b.pk.length ∘ Ys) l=l:=λl f=>sI a.2 (eE.1 (qAC.1 f).1).1;rw[qCG h,List.map_id']
def kR{b:Sb}(ok:bA b){i:Nat}(h:i<b.pk.length):(bK b i).length<=3:=by obtain⟨_,_,_,_⟩:=fG ok h;rw[bK,qAh,qBF];omega
def jT{α β:Type}(f:α->List β)(n:Nat):∀(L:List α),(∀l∈L,(f l).length<=n)->(L.flatMap f).length<=L.length * n
 | [],_=>by simp
 | l :: L,h=>by have b:=h l (by simp);have c:=jT f n L λx a=>h x (by simp[a]);rw[qAM,BY,qAs,qBY];omega
def qL{b:Sb}(ok:bA b):∀{i:Nat},i<=b.pk.length->(eS b i).length<=3 ^ i
 | 0,_=>by simp[eS]
 | i+1,h=>by
  have a:=qL ok (i:=i) O;have c:=jT (λl=>(bK b i).map λv=>l++[v]) 3 (eS b i) λl _=>by rw[qAh];exact kR ok O
  rw[eS,qDA];exact qAz c (qCT 3 a)
def JD{b:Sb}(ok:bA b){i:Nat}(h:i<=b.pk.length):(eS b i).length<=81:=by have a:=ok.n;exact qAz (qL ok h) (qBz (show 0<3 by decide) (show i<=4 by omega))
def JE{b:Sb}(ok:bA b){l:List Int}(h:l∈eS b b.pk.length):l.length=b.pk.length/\Yp (Ys l):=by
 have g:=ok.n;obtain⟨c,d⟩:=eE.1 h;refine⟨c,λj f=>?_⟩;rw[fJ f];by_cases e:j<b.pk.length
 ·have:=d j e;have:=(fG ok e).1;omega
 rw[qAa,qAn O];decide
def dP(b:Sb)(i:Nat)(l:List Int)(j:Nat):List (List Int):=((bK b i).take j).map λv=>l++[v]
theorem JJ{b:Sb}{i:Nat}{l:List Int}{j:Nat}(a:j<(bK b i).length):dP b i l (j+1)=dP b i l j++[l++[(aD b i).lo+j]]:=by
 have e:(bK b i)[j]=(aD b i).lo+j:=by simp[bK]
 rw[dP,iN a,qBL,e];rfl
def pV(b:Sb)(i:Nat)(l:List Int)(j:Nat):(dP b i l j).length<=(bK b i).length:=by rw[dP,qAh,qAj];omega
def pW{α:Type}(p:α->Bool){L:List α}{j:Nat}(a:j<L.length):(L.take (j+1)).filter p=(L.take j).filter p++if p L[j]=true then[L[j]]else[]:=by
 rw[iN a,qBS];congr 1;by_cases h:p L[j]=true
 ·rw[iF h];simp[h]
 rw[aT h];simp[h]
section
variable{P:aX}[Tz P][Loud P]{H:Hp}
def rE{b:Sb}(hb:Zr H b)(ok:bA b) :
  LL.Zc P 84 #[b.v] H λv g=>aL H g/\∃A c d,v=.slice A d.length c/\aF g v d/\cX g d (gG b):=by
 have hn:=ok.n;refine aJ.m (bG JW) (args:=[b.v]) rfl ?_;unfold nM Sb.v;refine Y ?_;refine ZY (cs:=Zb [((none,0,0):bW)]) (OL _) rfl λr8 qE=>?_;have s8:aF (H.ins r8 (.cells (Zb [((none,0,0):bW)]).toArray 26)) (.slice (some ⟨r8,0,none⟩) 1 1) [((none,0,0):bW)]:=Z0 (l:=[((none,0,0):bW)]);have i8:aL H (H.ins r8 (.cells (Zb [((none,0,0):bW)]).toArray 26)):=Zs qE;generalize H.ins r8 (.cells (Zb [((none,0,0):bW)]).toArray 26)=H1 at *;refine Y ?_;refine ZO (α:=(Option Addr×Nat)×List bW) b.pk.length (λi s g=>aL H g/\aF g (.slice s.1.1 s.2.length s.1.2) s.2/\cX g s.2 (eS b i))
  (λi s=>[(1,vi 0),(3,.slice s.1.1 s.2.length s.1.2),(4,vi i)]) (λ_ _=>[(1,b.cs)]) ((some ⟨r8,0,none⟩,1),[(none,0,0)])
  ⟨i8,s8,rfl,λi h h'=>by(obtain rfl:i=0:=by simpa using h);exact⟨.nil _,dO _⟩⟩ V V ?_
 rintro i ⟨⟨A3,c3⟩,d⟩ I hi ⟨i2,s3,l3⟩;simp only at s3 l3;have U:=l3.len;have lG:=JD ok (show i<=b.pk.length by omega);refine OJ (λh1=>?_) (λh1=>?_)
 ·have y:i<b.pk.length:=O;have M3:=kR ok y;have uR:=(fG ok y).1;have zP:(bK b i).length=((aD b i).hi-(aD b i).lo+1).toNat:=by rw[bK,qAh,qBF]
  have row:=iA y;have N9:eS b (i+1)=(eS b i).flatMap λl=>dP b i l (bK b i).length:=by rw[eS];congr 1;funext l;rw[dP,IF]
  refine Y ?_;refine ZO (α:=Hp×Value×List bW×Option Nat) d.length (λk s g=>aL I s.1/\aL s.1 g/\dD s.1 g 26 s.2.1 s.2.2.1 s.2.2.2/\cX s.1 s.2.2.1 (((eS b i).take k).flatMap λl=>dP b i l (bK b i).length))
   (λk s=>[(1,vi 0),(3,.slice A3 d.length c3),(4,vi i),(5,s.2.1),(6,vi k)]) (λ_ _=>[(1,b.cs)]) (I,.slice none 0 0,[],none) ⟨.refl _,.refl _,.nil _ _ _,.nil _⟩ V V ?_
  rintro k ⟨G,v5,K,b5⟩ H3 hk ⟨g1,p,D,B⟩;simp only at g1 p D B;refine OJ (λh2=>?_) (λh2=>?_)
  ·have x:k<d.length:=O;have r:k<(eS b i).length:=O;obtain⟨sk,ck⟩:=l3.at_ k x r;have u:=JK (λl=>dP b i l (bK b i).length) r;have W:=jT (λl=>dP b i l (bK b i).length) 3 ((eS b i).take k) λl _=>qAz (pV _ _ _ _) M3;rw[qAj]at W;have W:(((eS b i).take k).flatMap λl=>dP b i l (bK b i).length).length<=243:=O;have CM:=(eE.1 (bY r)).1;generalize((eS b i).take k).flatMap (λl=>dP b i l (bK b i).length)=L at *;generalize(eS b i)[k]=l at *;generalize qG:d[k]=q at *;have BG:=uI sk;obtain⟨qA,qn,qc⟩:=q;simp only at BG ck;subst BG;refine Y ?_;refine Zz i (hb.pk.inc ((i2.trans g1).trans p)) y λa S=>?_;rw[row]at S;refine Y ?_;refine Zh (v:=vi (aD b i).lo) (OL _) rfl (by rw[add_zero];exact YN (cs:=[vi (aD b i).lo]) (ds:=[vi (aD b i).hi,vi (aD b i).bF,vi (aD b i).bJ]) (eY (n:=1) S rfl)) (Y ?_);refine ZO (α:=Hp×Value×List bW×Option Nat) (bK b i).length (λj s g=>aL I s.1/\aL s.1 g/\dD s.1 g 26 s.2.1 s.2.2.1 s.2.2.2/\cX s.1 s.2.2.1 (L++dP b i l j))
    (λj s=>[(1,vi 0),(3,.slice A3 d.length c3),(4,vi i),(5,s.2.1),(6,vi k),(7,vi ((aD b i).lo+(j:Int)))]) (λ_ _=>[(1,b.cs)]) (G,v5,K,b5) ⟨g1,p,D,by rw[dP,qCa,qDo,qAf];exact B⟩ ⟨rfl,rfl,rfl,rfl,rfl,by rw[qEj,qBO];rfl,trivial⟩ V ?_
   rintro j ⟨G2,w5,DV,R⟩ H4 hj ⟨g3,g4,o6,l6⟩;simp only at g3 g4 o6 l6;have mO:=l6.len;rw[BY]at mO;have vI:=pV b i l j;have N:=g3.trans g4;refine Y ?_;refine Zz i (hb.pk.inc (i2.trans N)) y λa S=>?_;rw[row]at S;refine Y ?_;refine Zh (v:=vi (aD b i).hi) (OL _) rfl (YN (cs:=[vi (aD b i).hi]) (ds:=[vi (aD b i).bF,vi (aD b i).bJ]) (eY (n:=1) (eY (n:=1) S rfl) rfl)) ?_;refine OJ (λh3=>?_) (λh3=>?_)
   ·have g9:j<(bK b i).length:=O;have GY:=JJ (l:=l) g9;have t:Enc.enc d[k]=[.slice qA l.length qc]:=by rw[qG];rfl
    refine Y ?_;refine qZ (bI dW) (cD t3) (OL _) λr7 E=>Y ?_;refine Zz k ((s3.inc N).inc (Zs E)) x λa2 e=>?_;rw[t]at e;refine Y ?_;refine Ya e (Y ?_);refine EQ (l:=l) (bI dW) (cD t3) rfl (by decide) E rfl ((sk.inc N).inc (Zs E)) (sG (λ_=>rfl) l) O O rfl rfl (OL _) λv8 H5 b8 i5 o8=>?_;have qD:aL H4 H5:=(Zs (o:=.cells #[] 3) E).trans i5;refine Y ?_;refine ZY (cs:=[vi ((aD b i).lo+(j:Int))]) (OL _) rfl λr9 FE=>Y ?_;refine U7 (l':=[(aD b i).lo+(j:Int)]) (bI dW) (bI dW) (cD t3) rfl (by decide) (qD.trans (Zs FE)) (o8.ins FE) qY rfl (by simp;omega) O rfl rfl (OL _) λv9 H6 b9 k1 k2 k3=>?_;obtain⟨A9,c9,rfl,q9⟩:=jF k2;obtain⟨G',m1,m2,m3,m4⟩:=yR g4 o6 k1 k2;refine Y ?_;refine ZY (cs:=[.slice A9 (l++[(aD b i).lo+(j:Int)]).length c9]) (OL _) rfl λwL f=>Y ?_;refine U7 (l':=[((A9,(l++[(aD b i).lo+(j:Int)]).length,c9):bW)]) (bI kU) (bI kU) (cD rO) rfl (by decide) (m2.trans (Zs f)) (m3.ins f) (Z0 (l:=[((A9,(l++[(aD b i).lo+(j:Int)]).length,c9):bW)])) rfl (by simp;omega) O rfl rfl (OL _) λQ H7 M n1 n2 n3=>Y ?_;exact⟨(⟨j+1,O⟩,(G',Q,DV++[(A9,(l++[(aD b i).lo+(j:Int)]).length,c9)],M)),bN O,⟨g3.trans m1,n1,n2,by rw[GY,<-qAW];exact(l6.inc m1).snoc m4 q9⟩,⟨rfl,rfl,rfl,rfl,rfl,by rw[qEk,<-Int.add_assoc];rfl,trivial⟩,V,rfl⟩
   have:j=(bK b i).length:=O;subst this;refine Y ?_;exact⟨(⟨k+1,O⟩,(G2,w5,DV,R)),bN O,⟨g3,g4,o6,by rw[u];exact l6⟩,V,V,rfl⟩
  have:k=d.length:=O;subst this;rw[U,IF,<-N9]at B;obtain⟨A5,R,rfl,q5⟩:=jF D;refine Y ?_;exact⟨(⟨i+1,O⟩,((A5,R),K)),bN O,⟨(i2.trans g1).trans p,D.sl,B.inc p⟩,V,V,rfl⟩
 have:i=b.pk.length:=O;subst this;have X:=λ(k:Nat) (hk:k<(eS b b.pk.length).length)=>JE ok (bY hk);rw[show gG b=(eS b b.pk.length).filter (dU b)from rfl];generalize eS b b.pk.length=C at *;refine Y ?_;refine ZO (α:=Value×List bW×Option Nat) d.length (λk s g=>aL I g/\dD I g 26 s.1 s.2.1 s.2.2/\cX I s.2.1 ((C.take k).filter (dU b)))
  (λk s=>[(1,vi 0),(3,.slice A3 d.length c3),(8,s.1),(9,vi k)]) (λ_ _=>[(1,b.cs)]) (.slice none 0 0,[],none) ⟨.refl _,.nil _ _ _,.nil _⟩ V V ?_
 rintro k ⟨v8,K,b8⟩ H3 hk ⟨p,D,B⟩;simp only at p D B;have vK:=B.len;have Z:=qBd (dU b) (C.take k);rw[qAj]at Z;refine OJ (λh2=>?_) (λh2=>?_)
 ·have x:k<d.length:=O;have r:k<C.length:=O;obtain⟨sk,ck⟩:=l3.at_ k x r;obtain⟨e1,e2⟩:=X k r;have u:=pW (dU b) r;have t:Enc.enc d[k]=[dN d[k]]:=rfl;refine Y ?_;refine Zz k (s3.inc p) x λa2 e=>?_;rw[t]at e;refine Y ?_;refine Ya (v:=dN d[k]) e (Y ?_);refine Za [b.v,dN d[k]] (RK ok (hb.inc (i2.trans p)) (sk.inc p) e1 e2) ?_;rintro v _ ⟨rfl,rfl⟩;cases CO:dU b C[k]with
  | false=>
   rw[CO,aT (by decide),qAf]at u;refine Y ?_;exact⟨(⟨k+1,O⟩,(v8,K,b8)),bN O,⟨p,D,by show cX I K ((C.take (k+1)).filter (dU b));rw[u];exact B⟩,V,V,rfl⟩
  | true=>
   rw[CO,iF rfl]at u;refine Y ?_;refine Zz k (s3.inc p) x λa2 e=>?_;rw[t]at e;refine Y ?_;refine Ya (v:=dN d[k]) e (Y ?_);refine ZY (cs:=[dN d[k]]) (OL _) rfl λwL f=>Y ?_;refine U7 (l':=[d[k]]) (bI kU) (bI kU) (cD rO) rfl (by decide) (p.trans (Zs f)) (D.ins f) (Z0 (l:=[d[k]])) rfl (by simp;omega) O rfl rfl (OL _) λQ H7 M n1 n2 n3=>Y ?_;exact⟨(⟨k+1,O⟩,(Q,K++[d[k]],M)),bN O,⟨n1,n2,by show cX I (K++[d[k]]) ((C.take (k+1)).filter (dU b));rw[u];exact B.snoc sk ck⟩,V,V,rfl⟩
 have:k=d.length:=O;subst this;rw[U,IF]at B;obtain⟨A5,R,rfl,q5⟩:=jF D;refine Y ?_;exact⟨i2.trans p,A5,R,K,rfl,D.sl,B.inc p⟩
end
