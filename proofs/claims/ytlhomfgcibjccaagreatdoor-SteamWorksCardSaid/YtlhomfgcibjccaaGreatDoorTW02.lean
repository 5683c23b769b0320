import Derived.Test.YtlhomfgcibjccaaGreatDoorTW01
set_option linter.all false
set_option maxHeartbeats 8000000
set_option maxRecDepth 20000
open Go Go.LL
namespace Go.Proofs
variable{T lt lp:List Int}{w:Value}{A Ap:Option Addr}{cp:Nat}
def fH{G:Prop} (h:G:=by refine Y ?_;exact⟨⟨j+1,O⟩,bN O,rfl,⟨rfl,rfl,rfl,rfl,rfl,rfl,by rw[ej];rfl,rfl,trivial⟩,V,rfl⟩):G:=h
def sS:Tryz.prog.underlying 208=some (.slice 4):=U
def gA(T:List Int)(n k:Nat):List Bool:=(List.range n).map λ(p:Nat)=>decide ((p:Int)∈T.take k)
def eI(T:List Int)(n k:Nat):(gA T n k).length=n:=by simp[gA]
def pG(T:List Int)(n:Nat):gA T n 0=List.replicate n false:=by rw[gA,qCa];refine qBl (by simp) λi a b=>by simp
def gO{n k i:Nat}(h:i<(gA T n k).length):(gA T n k)[i]=decide ((i:Int)∈T.take k):=by simp[gA]
def pT{n k i:Nat}(c:k<T.length)(e:T[k]=(i:Int)):(gA T n k).set i true=gA T n (k+1):=by
 refine qBl (by simp[eI]) λj d a=>?_;rw[qCg];have b:j<(gA T n k).length:=by rw[eI]at *;exact a
 rw[gO a,gO b,iN c,e];by_cases g:i=j
 ·subst g;simp
 rw[aT g];refine qBk.2 ?_;rw[qAi,oR];exact⟨.inl,λh=>h.resolve_right λh=>g O⟩
def mV(l:List Bool){j:Nat}(b:j<l.length)(z:Bool):ZG (Zb l) j [vb z]=Zb (l.set j z):=by
 have e:∀l:List Bool,Zb l=l.map λz=>vb z:=λl=>by
  induction l with
  | nil=>rfl
  | cons a l ih=>show vb a :: Zb l=_;rw[ih];rfl
 rw[e,e,ZG,qEf,qCx,iF (by simpa using b)];simp
def WK.hU{G H:Hp}{g f a:Nat}{out:List Wk}{d:List Int}{o:Obj}(h:WK G H g f out d)(i:a≠g)(j:a≠f):WK (G.ins a o) (H.ins a o) g f out d:=by
 refine⟨λb x hb k c=>?_,by rw[Hp.aH _ _ (qAF i)];exact h.out,by rw[Hp.aH _ _ (qAF j)];exact h.fr,h.ne⟩;by_cases e:b=a
 ·subst e;rw[Hp.aG]at c ⊢;exact c
 rw[Hp.aH _ _ e]at c ⊢;exact h.keep b x hb k c
def iY{key:Int->Int}{nd:Int->Bool}{l:List Int}:∀{j:Nat},j<=l.length->bK key nd l j=-1\/bK key nd l j∈l
 | 0,_=>.inl rfl
 | j+1,a=>by
  rw[bK];split
  ·rw[el,ZD O];exact .inr (bY _)
  exact iY O
def lS{b:Sb}{t:N4}{l:List Int}(ok:bA b)(d:Yp t)(a:cH b.pk.length l){j:Nat}(c:j<=b.pk.length):WB b.pk.length b.hd.toNat (20 * b.pk.length+20 * j) (s2 b t l j):=by have h:=eR ok d a (dO b.pk.length);rw[eV a.len]at h;exact EN ok h.l1 h.o O (eE a).rg j (by rw[(eE a).len];exact c)
def wO(b:Sb)(t:N4)(l:List Int)(k:Nat)(z:Int):Bool:=!decide (z∈(Ul b t l).take k)
def kV(b:Sb)(t:N4)(l:List Int)(k j:Nat):Int:=bK (kD (fA b t l).1) (wO b t l k) l j
abbrev FQ(b:Sb):List Value:=[vi (b.pl.toNat:Int),vi (b.hd.toNat:Int),vi b.td,.slice b.A1 b.pk.length b.c1,.slice b.A2 b.nt.length b.c2]
section
variable{P:aX}[Tz P][Loud P]{H:Hp}
def gW{b:Sb}{c:Nat}{l:List Int}(hb:Zr H b)(ok:bA b)(hT:aF H w T)(Sk:T.length=b.pk.length)(ht:Yp (Ys T))(hl:aF H (.slice A l.length c) l)(Z:cH b.pk.length l) :
  LL.Zc P 128 #[b.v,w,.slice A l.length c] H λv W=>aL H W/\∃bb,dD H W 65 v (VN b (Ys T) l) bb:=by
 have hn:=ok.n;have vK:=ok.pl;have uT:=ok.hd;have R:=Z.len;have wR:=Z.rg;refine aJ.m (bG pQ) (args:=[b.v,w,.slice A l.length c]) rfl ?_;unfold kO Sb.v;refine Y ?_;refine vS (n:=l.length) (bI Bo) (cD Bq) O O O rfl (OL _) λF K=>?_;rw[show(4:Nat)=Enc.sz Wk from rfl,vT (⟨0,0,0,0⟩:Wk) rfl (by decide) l.length];have i1:=Zs (o:=.cells (Zb (List.replicate l.length (⟨0,0,0,0⟩:Wk))).toArray 65) K;have a1:(H.ins F (.cells (Zb (List.replicate l.length (⟨0,0,0,0⟩:Wk))).toArray 65)) F=some (.cells (Zb (List.replicate l.length (⟨0,0,0,0⟩:Wk))).toArray 65,true):=Hp.aG _ _ _;generalize H.ins F (.cells (Zb (List.replicate l.length (⟨0,0,0,0⟩:Wk))).toArray 65)=H2 at *;have HR:vi b.pl=vi (b.pl.toNat:Int):=by congr 1;omega
 rw[HR];refine Y ?_;refine vS (n:=b.pl.toNat) (bI dW) (cD t3) O O O rfl (OL _) λrp wQ=>?_;rw[show b.pl.toNat * 1=b.pl.toNat * Enc.sz Int from rfl,vT (0:Int) rfl (by decide) b.pl.toNat];have GP:F≠rp:=by rintro rfl;rw[wQ]at a1;simp at a1
 have M:H rp=none:=YL i1 wQ;have w0:WK H2 (H2.ins rp (.cells (Zb (List.replicate b.pl.toNat (0:Int))).toArray 3)) F rp (s1 b (Ys T) l 0).1 (s1 b (Ys T) l 0).2:=
  ⟨λb x h1 h2 h=>Zs wQ _ _ h,by rw[Zs wQ _ _ a1,R];rfl,by rw[qAf];exact Hp.aG _ _ _,GP⟩
 generalize H2.ins rp (.cells (Zb (List.replicate b.pl.toNat (0:Int))).toArray 3)=H3 at *;refine Y ?_;refine Zv l.length (λj W=>WK H2 W F rp (s1 b (Ys T) l j).1 (s1 b (Ys T) l j).2)
  (λj=>[(1,w),(2,.slice A l.length c),(3,vi 0),(7,.slice (some ⟨F,0,none⟩) l.length l.length),(8,.slice (some ⟨rp,0,none⟩) b.pl.toNat b.pl.toNat),(9,vi j)]) (λ_=>[(3,[vi (b.pl.toNat:Int),vi b.hd,vi b.td,.slice b.A1 b.pk.length b.c1,.slice b.A2 b.nt.length b.c2])]) w0 V V ?_
 rintro j H4 hj w4;refine OJ (λh1=>?_) (λh1=>?_)
 ·have B:j<l.length:=O;have wb:=eR ok ht Z (j:=j) O;have tF:=mU (b:=b) (t:=Ys T) B;generalize s1 b (Ys T) l j=s at *;have uS:=w4.inc i1 K M;have hz:=wR _ (bY B);rw[Uu B]at tF;obtain⟨z,L⟩:∃z:Nat,l[j]=z:=⟨l[j].toNat,O⟩;rw[L]at hz tF;have vH:z<s.1.length:=by rw[wb.l1];omega
  have FD:z<T.length:=O;have PA:(Ys T).get z=T[z]:=iX FD O;have hf:=wb.fl O;have I:Zo s.2<b.pl.toNat:=by rw[<-wb.l2];exact hf
  have b1:=wb.fr (Zo s.2);have Hj:=ht z O;refine Y ?_;refine Za [.slice (some ⟨rp,0,none⟩) b.pl.toNat b.pl.toNat] (lL (by rw[<-wb.l2];exact w4.sl) (by rw[wb.l2];omega) (by rw[wb.l2];omega)) ?_;rintro v _ ⟨rfl,rfl⟩;refine Y ?_;refine Zz j (hl.inc uS) B λa C=>?_;rw[L]at C;refine Y ?_;refine Ya (v:=vi (z:Int)) C (Y ?_);refine Zd (Zo s.2) rfl rfl rfl I (Y ?_);refine Zh (OL _) rfl (w4.ar.cA hf rfl) (Y ?_);refine Zd z rfl rfl rfl O (Y ?_);refine uU w4 vH (f:=0) (by decide) rfl rfl rfl λH5 w5=>?_;have FJ:=w5.inc i1 K M;refine Y ?_;refine Zd (Zo s.2) rfl rfl rfl I (Y ?_);refine Zh (OL _) rfl (w5.ar.cA hf rfl) (Y ?_);refine Zz j (hl.inc FJ) B λa C=>?_;rw[L]at C;refine Y ?_;refine Ya (v:=vi (z:Int)) C (Y ?_);refine Zz z (hT.inc FJ) FD λa C=>?_;rw[<-PA]at C;refine Y ?_;refine Ya (v:=vi ((Ys T).get z)) C (Y ?_);refine Zd (Zo s.2) rfl rfl rfl I (Y ?_);refine ZS w5.ar hf (ZK _ _) rfl rfl λH6 jS=>?_;have w6:=w5.eC jS;have CN:=w6.inc i1 K M;refine Y ?_;refine Zz j (hl.inc CN) B λa C=>?_;rw[L]at C;refine Y ?_;refine Ya (v:=vi (z:Int)) C (Y ?_);refine Zd (Zo s.2) rfl rfl rfl I (Y ?_);refine Zh (OL _) rfl (w6.ar.cA (by rw[qAg];exact hf) rfl) (Y ?_);refine Zd z rfl rfl rfl O (Y ?_);refine uU w6 (by rw[qAg];exact vH) (f:=1) (by decide) rfl rfl rfl λH7 w7=>?_;rw[qCX,mC _ _ vH,iF rfl,CE _ _ hf,iF rfl,TV]at w7;refine Y ?_;exact⟨⟨j+1,O⟩,bN O,by rw[tF];exact w7,V,V,rfl⟩
 have BO:j=b.pk.length:=O;subst BO;rw[eV R]at w4;have wb:=eR ok ht Z (dO b.pk.length);rw[eV R]at wb;have uS:=w4.inc i1 K M;have o4:=w4.out;clear w0;have HT:vi b.hd=vi (b.hd.toNat:Int):=by congr 1;omega
 rw[HT];refine Y ?_;refine vS (n:=b.hd.toNat) (bI dW) (cD t3) O O O rfl (OL _) λU uQ=>?_;rw[show b.hd.toNat * 1=b.hd.toNat * Enc.sz Int from rfl,vT (0:Int) rfl (by decide) b.hd.toNat];have GQ:F≠U:=by rintro rfl;rw[uQ]at o4;simp at o4
 have BE:H U=none:=YL uS uQ;have i5:=uS.trans (Zs (o:=.cells (Zb (List.replicate b.hd.toNat (0:Int))).toArray 3) uQ);have o5:=Zs (o:=.cells (Zb (List.replicate b.hd.toNat (0:Int))).toArray 3) uQ _ _ o4;have f5:(H4.ins U (.cells (Zb (List.replicate b.hd.toNat (0:Int))).toArray 3)) U=some (.cells (Zb (List.replicate b.hd.toNat (0:Int))).toArray 3,true):=Hp.aG _ _ _;generalize H4.ins U (.cells (Zb (List.replicate b.hd.toNat (0:Int))).toArray 3)=H5 at *;refine Y ?_;refine vS (n:=l.length) (bI sS) (cD t4) O O O rfl (OL _) λD S=>?_;rw[show l.length * 1=l.length * Enc.sz Bool from rfl,vT (false:Bool) rfl (by decide) l.length];have AX:D≠F:=by rintro rfl;rw[S]at o5;simp at o5
 have AY:D≠U:=by rintro rfl;rw[S]at f5;simp at f5
 have BF:H D=none:=YL i5 S;have i6:=i5.trans (Zs (o:=.cells (Zb (List.replicate l.length (false:Bool))).toArray 4) S);have o6:=Zs (o:=.cells (Zb (List.replicate l.length (false:Bool))).toArray 4) S _ _ o5;have f6:=Zs (o:=.cells (Zb (List.replicate l.length (false:Bool))).toArray 4) S _ _ f5;have d6:(H5.ins D (.cells (Zb (List.replicate l.length (false:Bool))).toArray 4)) D=some (.cells (Zb (List.replicate l.length (false:Bool))).toArray 4,true):=Hp.aG _ _ _;generalize H5.ins D (.cells (Zb (List.replicate l.length (false:Bool))).toArray 4)=H6 at *;rw[<-pG (Ul b (Ys T) l)]at d6;have D3:=eE (t:=Ys T) Z;have SR:=D3.len;have w6:WK H6 H6 F U (s2 b (Ys T) l 0).1 (s2 b (Ys T) l 0).2:=⟨λ_ _ _ _ h=>h,o6,by rw[qAf];exact f6,GQ⟩;refine Y ?_;refine ZO (α:=Hp) l.length (λk G W=>WK G W F U (s2 b (Ys T) l k).1 (s2 b (Ys T) l k).2/\(∀q x,q≠D->H6 q=some x->G q=some x)/\G D=some (.cells (Zb (gA (Ul b (Ys T) l) l.length k)).toArray 4,true))
  (λk _=>[(2,.slice A l.length c),(3,vi 0),(7,.slice (some ⟨F,0,none⟩) l.length l.length),(11,.slice (some ⟨U,0,none⟩) b.hd.toNat b.hd.toNat),(12,.slice (some ⟨D,0,none⟩) l.length l.length),(13,vi k)])
  (λ_ _=>[(3,FQ b)]) H6 ⟨w6,λ_ _ _ h=>h,d6⟩ V V ?_
 rintro k G H7 hk ⟨w7,gk,gd⟩;have tY:∀{G' W:Hp} {o:List Wk} {f:List Int},WK G' W F U o f->(∀q x,q≠D->H6 q=some x->G' q=some x)->aL H W:=λw g q x hq=>
  w.keep q x (by rintro rfl;rw[K]at hq;simp at hq) (by rintro rfl;rw[BE]at hq;simp at hq) (g q x (by rintro rfl;rw[BF]at hq;simp at hq) (i6 q x hq))
 have FI:=tY w7 gk;refine OJ (λh2=>?_) (λh2=>?_)
 ·have zQ:k<b.pk.length:=O;have FG:k<(Ul b (Ys T) l).length:=O;have Q:=λp=>fT ok ht Z p (j:=k) O;have BB:=iJ (b:=b) (t:=Ys T) Z zQ;have zV:=lS ok ht Z (j:=k) O;have pn:kV b (Ys T) l k l.length=el (Ul b (Ys T) l) k:=oB (nd:=wO b (Ys T) l k) (n:=k) Z.nd (λz hz=>(wR z hz).1) O (λz _=>by rw[wO,qBe,qBH];rfl);have pm:=λ{j:Nat} (h:j<=l.length)=>iY (key:=kD (fA b (Ys T) l).1) (nd:=wO b (Ys T) l k) h;have NT:aF H7 (.slice (some ⟨D,0,none⟩) l.length l.length) (gA (Ul b (Ys T) l) l.length k):=⟨_,l.length,by rw[eI],λ_=>⟨_,rfl,ZA (w7.keep D _ AX AY gd)⟩⟩;refine Y ?_;refine Zv l.length (λj W=>H7=W) (λj=>[(2,.slice A l.length c),(3,vi 0),(7,.slice (some ⟨F,0,none⟩) l.length l.length),(11,.slice (some ⟨U,0,none⟩) b.hd.toNat b.hd.toNat),(12,.slice (some ⟨D,0,none⟩) l.length l.length),(13,vi k),(14,vi (kV b (Ys T) l k j)),(15,vi j)])
   (λ_=>[(3,FQ b)]) rfl V V ?_
  rintro j _ hj rfl;have pj:=pm (j:=j) O;replace pj:kV b (Ys T) l k j=-1\/kV b (Ys T) l k j∈l:=pj;have ej:∀h:j<l.length,kV b (Ys T) l k (j+1)=if(!decide (l[j]∈(Ul b (Ys T) l).take k))=true/\(kV b (Ys T) l k j<0\/kD (fA b (Ys T) l).1 l[j]<kD (fA b (Ys T) l).1 (kV b (Ys T) l k j))then l[j]else kV b (Ys T) l k j:=λh=>by rw[kV,bK,Uu h];rfl
  refine OJ (λh3=>?_) (λh3=>?_)
  ·have B:j<l.length:=O;have hz:=wR _ (bY B);have ej:=ej B;obtain⟨z,L⟩:∃z:Nat,l[j]=z:=⟨l[j].toNat,O⟩;rw[L]at hz ej;have FC:z<(gA (Ul b (Ys T) l) l.length k).length:=by rw[eI];omega
   refine Y ?_;refine Zz j (hl.inc FI) B λa C=>?_;rw[L]at C;refine Y ?_;refine Ya (v:=vi (z:Int)) C (Y ?_);refine Zz z NT FC λa C=>?_;rw[gO FC]at C;refine Y ?_;refine Ya (v:=vb (decide ((z:Int)∈(Ul b (Ys T) l).take k))) C ?_;cases vL:decide ((z:Int)∈(Ul b (Ys T) l).take k)with
   | true=>
    rw[vL,aT (by simp)]at ej;exact fH
   | false=>
    rw[vL]at ej;generalize kV b (Ys T) l k j=q at *;refine OJ (λh4=>?_) (λh4=>?_)
    ·rw[iF ⟨rfl,.inl h4⟩]at ej;exact fH
    have hq:=wR q (pj.resolve_left O);obtain⟨y,rfl⟩:=qBr hq.1;have hy:y<b.pk.length:=O;have ez:(bM (s2 b (Ys T) l k).1 z).o=kD (fA b (Ys T) l).1 (z:Int):=(Q z).2.2.2;have ey:(bM (s2 b (Ys T) l k).1 y).o=kD (fA b (Ys T) l).1 (y:Int):=(Q y).2.2.2;refine Y ?_;refine Zd z rfl rfl rfl O (Y ?_);refine Zh (OL _) rfl (w7.cW 1 (by decide) (by rw[(Q z).1];omega)) (Y ?_);refine Zd y rfl rfl rfl O (Y ?_);refine Zh (OL _) rfl (w7.cW 1 (by decide) (by rw[(Q y).1];omega)) ?_;rw[show(bM (s2 b (Ys T) l k).1 z).get 1=kD (fA b (Ys T) l).1 (z:Int)from ez,show(bM (s2 b (Ys T) l k).1 y).get 1=kD (fA b (Ys T) l).1 (y:Int)from ey];refine OJ (λh5=>?_) (λh5=>?_)
    ·rw[iF ⟨rfl,.inr h5⟩]at ej;exact fH
    rw[aT (λh=>h.2.elim h4 h5)]at ej;exact fH
  have BO:j=l.length:=O;subst BO;rw[pn];clear ej pj pm pn;have hz:=D3.at_ zQ;obtain⟨i,FH⟩:∃i:Nat,el (Ul b (Ys T) l) k=i:=⟨(el (Ul b (Ys T) l) k).toNat,O⟩;rw[FH]at hz BB ⊢;have hi:i<b.pk.length:=O;have NS:=pT (n:=l.length) FG (by rw[<-Uu FG];exact FH);generalize s2 b (Ys T) l k=s at *;have J:i<s.1.length:=by rw[(Q i).1];exact hi
  have hf:=uF (l:=s.2) (by intro e;have:=(Q 0).2.1;rw[e]at this;simp at this;omega);have I:Zo s.2<b.hd.toNat:=by rw[<-(Q 0).2.1];exact hf
  have q1:=zV.fr (Zo s.2);have q2:=zV.o i;have row:=gB hi;have q3:=(gD ok hi).2.2.1;refine Y ?_;refine Za [.slice (some ⟨U,0,none⟩) b.hd.toNat b.hd.toNat] (lL (by rw[<-(Q 0).2.1];exact w7.sl) (by rw[(Q 0).2.1];omega) (by rw[(Q 0).2.1];omega)) ?_;rintro v _ ⟨rfl,rfl⟩;refine Y ?_;refine Zd i rfl rfl rfl O (Y ?_);rw[ZK];refine wF (v:=vb true) (cD t4) rfl rfl (w7.keep D _ AX AY gd) rfl (by rw[VH,eI];show i+1<=l.length * 1;omega) rfl (OL _) ?_;rw[show(vb true).cells.toList=[vb true]from rfl,mV _ (by rw[eI];omega),NS];have w8:=w7.hU (o:=.cells (Zb (gA (Ul b (Ys T) l) l.length (k+1))).toArray 4) AX AY;have FP:∀q x,q≠D->H6 q=some x->(G.ins D (.cells (Zb (gA (Ul b (Ys T) l) l.length (k+1))).toArray 4)) q=some x:=λq x h h'=>by rw[Hp.aH _ _ h];exact gk q x h h'
  have N3:(G.ins D (.cells (Zb (gA (Ul b (Ys T) l) l.length (k+1))).toArray 4)) D=some (.cells (Zb (gA (Ul b (Ys T) l) l.length (k+1))).toArray 4,true):=Hp.aG _ _ _;generalize G.ins D (.cells (Zb (gA (Ul b (Ys T) l) l.length (k+1))).toArray 4)=G8 at *;generalize H7.ins D (.cells (Zb (gA (Ul b (Ys T) l) l.length (k+1))).toArray 4)=H8 at *;refine Y ?_;refine Zd i rfl rfl rfl O (Y ?_);refine Zh (OL _) rfl (w8.cW 1 (by decide) J) (Y ?_);refine Zd (Zo s.2) rfl rfl rfl I (Y ?_);refine Zh (OL _) rfl (w8.ar.cA hf rfl) (Y ?_);refine q8 rfl rfl (Y ?_);refine Zd i rfl rfl rfl O (Y ?_);refine uU w8 J (f:=2) (by decide) rfl rfl rfl λH9 w9=>?_;have oY:i<(s.1.set i ((bM s.1 i).put 2 (max (bM s.1 i).o (el s.2 (Zo s.2))))).length:=by rw[qAg];exact J
  have eg:(bM (s.1.set i ((bM s.1 i).put 2 (max (bM s.1 i).o (el s.2 (Zo s.2))))) i).get 2=max (bM s.1 i).o (el s.2 (Zo s.2)):=by rw[mC _ _ J,iF rfl];rfl
  have w9:WK G8 H9 F U (s.1.set i ((bM s.1 i).put 2 (max (bM s.1 i).o (el s.2 (Zo s.2))))) s.2:=w9;refine Y ?_;refine Zd i rfl rfl rfl O (Y ?_);refine Zh (OL _) rfl (w9.cW 2 (by decide) oY) ?_;rw[eg];refine Y ?_;refine Zz i (hb.pk.inc (tY w9 FP)) hi λa C=>?_;rw[row]at C;refine Y ?_;refine Zh (v:=vi (aD b i).bF) (OL _) rfl (YN (cs:=[vi (aD b i).bF]) (ds:=[vi (aD b i).bJ]) (eY (n:=3) C rfl)) (Y ?_);refine Zd i rfl rfl rfl O (Y ?_);refine uU w9 oY (f:=3) (by decide) rfl rfl rfl λHa wa=>?_;rw[qCX,mC _ _ J,iF rfl,TU]at wa;have HU:(bM (s.1.set i { bM s.1 i with g:=max (bM s.1 i).o (el s.2 (Zo s.2)),d:=max (bM s.1 i).o (el s.2 (Zo s.2))+(aD b i).bF }) i).get 3=max (bM s.1 i).o (el s.2 (Zo s.2))+(aD b i).bF:=by rw[mC _ _ J,iF rfl];rfl
  refine Y ?_;refine Zd i rfl rfl rfl O (Y ?_);refine Zh (OL _) rfl (wa.cW 3 (by decide) (by rw[qAg];exact J)) ?_;rw[HU];refine Y ?_;refine Zd (Zo s.2) rfl rfl rfl I (Y ?_);refine ZS wa.ar hf (ZK _ _) rfl rfl λHb HZ=>?_;have F5:=wa.eC HZ;refine Y ?_;exact⟨(⟨k+1,O⟩,G8),bN O,⟨by rw[BB];exact F5,FP,N3⟩,V,V,rfl⟩
 have:k=b.pk.length:=O;subst this;rw[<-mD Z];have Q:=fT ok ht Z 0 (dO b.pk.length);refine Y ?_;refine⟨FI,some F,⟨?_,.inr ⟨F,l.length,[],rfl,by rw[Q.1,R];rfl,by rw[qAf];exact w7.out,?_,by rw[Q.1,R];exact dO _⟩⟩,λr h=>by obtain rfl:=iO h;exact K⟩
 ·rw[VH]
 rw[qAf,VH,Q.1,R]
end
def F3(b:Sb)(lt lp:List Int):List Wk:=if Z7 b lt lp=0 then VN b (Ys lt) lp else[]
def dU(b:Sb)(lt lp:List Int):List Int:=if Z7 b lt lp=0 then gM b (Ys lt) lp else[]
def TN(b:Sb)(lt lp:List Int):Int:=if Z7 b lt lp=0 then(Yg b (Ys lt) lp).2 else 0
def fG{b:Sb}(h:Z7 b lt lp=0):bA b/\lt.length=b.pk.length/\(∀z∈lt,1<=z/\z<=20)/\cH b.pk.length lp:=by
 unfold Z7 at h;by_cases c:ZF b=0
 ·rw[c,aT (by decide)]at h;by_cases a:Um b lt=0
  ·rw[a,aT (by decide)]at h;obtain⟨d,e,f⟩:=U5 h;exact⟨Ow c,(CD a).1,(CD a).2,d,f,e⟩
  rw[iF a]at h;exact absurd h a
 rw[iF c]at h;exact absurd h c
def lK{c:B4}{n:Nat}(h:∀i,n<=i->i<4->c.get i=false):∀{k:Nat},n+k<=4->cS c (n+k)=cS c n
 | 0,_=>rfl
 | k+1,a=>by rw[show n+(k+1)=(n+k)+1 from rfl,cS,h (n+k) O O,aT (by decide),lK h O]
section
variable{P:aX}[Tz P][Loud P]{H:Hp}
theorem uI{b:Sb}{c:Nat}{l:List Int}(hb:Zr H b)(ok:bA b)(hT:aF H w T)(F:T.length=b.pk.length)(Q:Yp (Ys T))(hl:aF H (.slice A l.length c) l)(G:cH b.pk.length l) :
  LL.Zc P 98 #[b.v,w,.slice A l.length c] H λv r=>aL H r/\aF r v (gM b (Ys T) l):=by
 have hn:=ok.n;obtain⟨wl,wb⟩:=tH ok Q G.len G.rg;refine aJ.m (bG qJ) (args:=[b.v,w,.slice A l.length c]) rfl ?_;unfold kM Sb.v;refine Y ?_;refine Za [b.v,w,.slice A l.length c] (gW hb ok hT F Q hl G) ?_;rintro v B ⟨i1,bb,ow⟩;have I:=ow.sl;obtain⟨X,cw,rfl,_⟩:=id I;have M:∀{i:Nat},i<4->((Yg b (Ys T) l).1.get i=true↔i<(VN b (Ys T) l).length/\(bM (VN b (Ys T) l) i).o+(aD b i).bJ<(bM (VN b (Ys T) l) i).d):=λhi=>iC O hi;have ee:gM b (Ys T) l=cS (Yg b (Ys T) l).1 (VN b (Ys T) l).length:=by
  have:=lK (c:=(Yg b (Ys T) l).1) (n:=(VN b (Ys T) l).length) (λi N t=>by
   cases e:(Yg b (Ys T) l).1.get i with
   | false=>rfl
   | true=>have:=((M t).1 e).1;omega) (k:=4-(VN b (Ys T) l).length) O
  rw[show(VN b (Ys T) l).length+(4-(VN b (Ys T) l).length)=4 by omega]at this;exact this
 rw[ee];generalize(Yg b (Ys T) l).1=C at *;generalize VN b (Ys T) l=W at *;refine Y ?_;refine ZO (α:=Value×Option Nat) W.length (λj s r=>aL B r/\dD B r 3 s.1 (cS C j) s.2) (λj s=>[(3,vi 0),(7,.slice X W.length cw),(8,s.1),(9,vi j)]) (λ_ _=>[(3,b.cs)]) (.slice none 0 0,none) ⟨.refl _,.nil _ _ _⟩ V V ?_;rintro j ⟨U,L⟩ Z hj ⟨x,D⟩;have R:=i1.trans x;simp only at D;have jQ:=B9 C j;refine OJ (λN=>?_) (λN=>?_)
 ·have f:j<W.length:=O;have q:j<b.pk.length:=O;have row:=gB q;have y:Enc.enc W[j]=[vi W[j].i,vi W[j].o,vi W[j].g,vi W[j].d]:=rfl;have E:=M (i:=j) O;have eW:bM W j=W[j]:=EJ f;have bo:=wb j;rw[eW]at E bo;have Qw:=(gD ok q).2.2.2;refine Y ?_;refine Zz j (I.inc x) f λa p=>?_;rw[y]at p;refine Y ?_;refine Zh (v:=vi W[j].d) (OL _) rfl (eY (n:=3) p rfl) (Y ?_);refine Zz j (I.inc x) f λa p=>?_;rw[y]at p;refine Y ?_;refine Zh (v:=vi W[j].o) (OL _) rfl (YN (cs:=[vi W[j].o]) (ds:=[vi W[j].g,vi W[j].d]) (eY (n:=1) p rfl)) (Y ?_);refine Zz j (hb.pk.inc R) q λa p=>?_;rw[row]at p;refine Y ?_;refine Zh (v:=vi (aD b j).bJ) (OL _) rfl (eY (n:=4) p rfl) ?_;refine OJ (λt=>?_) (λt=>?_)
  ·have e:C.get j=true:=E.2 ⟨f,t⟩;refine Y ?_;refine ZY (cs:=[vi (j:Int)]) (OL _) rfl λr5 u=>Y ?_;refine U7 (l':=[(j:Int)]) (bI dW) (bI dW) (cD t3) rfl (by decide) (x.trans (Zs u)) (D.ins u) qY rfl (by simp only[qAA];omega) O rfl rfl (OL _) λS H4 K k1 k2 k3=>Y ?_;exact⟨(⟨j+1,O⟩,(S,K)),bN O,⟨k1,by show dD B H4 3 S (cS C (j+1)) K;rw[cS,iF e];exact k2⟩,V,V,rfl⟩
  have e:¬ C.get j=true:=λh=>t (E.1 h).2;refine Y ?_;exact⟨(⟨j+1,O⟩,(U,L)),bN O,⟨x,by show dD B Z 3 U (cS C (j+1)) L;rw[cS,aT e];exact D⟩,V,V,rfl⟩
 have:j=W.length:=O;subst this;refine Y ?_;exact⟨R,D.sl⟩
theorem uK{b:Sb}{c:Nat}{l:List Int}(hb:Zr H b)(ok:bA b)(D:aF H w T)(k:T.length=b.pk.length)(s:Yp (Ys T))(E:aF H (.slice A l.length c) l)(p:cH b.pk.length l) :
  LL.Zc P 129 #[b.v,w,.slice A l.length c] H λv h=>aL H h/\v=vi (Yg b (Ys T) l).2:=by
 refine aJ.m (bG qK) (args:=[b.v,w,.slice A l.length c]) rfl ?_;unfold kP Sb.v;refine Y ?_;refine Za [b.v,w,.slice A l.length c] (gW hb ok D k s E p) ?_;rintro v x ⟨F,I,G⟩;have t:=G.sl;obtain⟨u,y,rfl,_⟩:=id t;have L:=(tH ok s p.len p.rg).1;have K:=ok.n;rw[show Yg b (Ys T) l=U2 b (VN b (Ys T) l) (VN b (Ys T) l).length from rfl];generalize VN b (Ys T) l=W at *;refine Y ?_;refine Zv W.length (λj h=>x=h) (λj=>[(3,vi 0),(7,.slice u W.length y),(8,vi (U2 b W j).2),(9,vi j)]) (λ_=>[(3,b.cs)]) rfl V V ?_;rintro j _ J rfl;refine OJ (λC=>?_) (λC=>?_)
 ·have f:j<W.length:=O;have q:Enc.enc W[j]=[vi W[j].i,vi W[j].o,vi W[j].g,vi W[j].d]:=rfl;have z:bM W j=W[j]:=EJ f;have e:(U2 b W (j+1)).2=max (U2 b W j).2 W[j].d:=by rw[<-z];rfl
  refine Y ?_;refine Zz j t f λa r=>?_;rw[q]at r;refine Y ?_;refine Zh (v:=vi W[j].d) (OL _) rfl (eY (n:=3) r rfl) (Y ?_);refine q8 rfl rfl (Y ?_);exact⟨⟨j+1,O⟩,bN O,rfl,⟨rfl,rfl,by rw[e];rfl,rfl,trivial⟩,V,rfl⟩
 have:j=W.length:=O;subst this;refine Y ?_;exact⟨F,rfl⟩
def sU{b:Sb}(hb:Zr H b)(o:b.Sz)(e:aF H w lt)(d:aF H (.slice Ap lp.length cp) lp)(i:lp.length<=cp)(k:lt.length<=1000000)(j:lp.length<=1000000) :
  LL.Zc P 70 #[b.v,w,.slice Ap lp.length cp] H λv c=>aL H c/\∃u,v=.tuple #[u,vi (Z7 b lt lp)]/\aF c u (F3 b lt lp):=by
 refine aJ.m (bG sJ) (args:=[b.v,w,.slice Ap lp.length cp]) rfl ?_;unfold kZ Sb.v;refine Y ?_;refine Za [b.v,w,.slice Ap lp.length cp] (gG hb o e d i k j) ?_;rintro v _ ⟨rfl,rfl⟩;refine OJ (λa=>?_) (λa=>?_)
 ·refine Y ?_;exact⟨.refl _,_,rfl,by rw[F3,aT a];exact .nil _⟩
 have a:Z7 b lt lp=0:=by simpa using a
 obtain⟨ok,f,g,h⟩:=fG a;refine Y ?_;refine Za [b.v,w,.slice Ap lp.length cp] (gW hb ok e f (uE g) d h) ?_;rintro v p ⟨l,q,n⟩;refine Y ?_;exact⟨l,_,by rw[a];rfl,by rw[F3,iF a];exact n.sl⟩
def uJ{b:Sb}(hb:Zr H b)(n:b.Sz)(d:aF H w lt)(c:aF H (.slice Ap lp.length cp) lp)(h:lp.length<=cp)(j:lt.length<=1000000)(i:lp.length<=1000000) :
  LL.Zc P 72 #[b.v,w,.slice Ap lp.length cp] H λv H'=>aL H H'/\∃u,v=.tuple #[u,vi (Z7 b lt lp)]/\aF H' u (dU b lt lp):=by
 refine aJ.m (bG sK) (args:=[b.v,w,.slice Ap lp.length cp]) rfl ?_;unfold kS Sb.v;refine Y ?_;refine Za [b.v,w,.slice Ap lp.length cp] (gG hb n d c h j i) ?_;rintro v _ ⟨rfl,rfl⟩;refine OJ (λa=>?_) (λa=>?_)
 ·refine Y ?_;exact⟨.refl _,_,rfl,by rw[dU,aT a];exact .nil _⟩
 have a:Z7 b lt lp=0:=by simpa using a
 obtain⟨ok,e,f,g⟩:=fG a;refine Y ?_;refine Za [b.v,w,.slice Ap lp.length cp] (uI hb ok d e (uE f) c g) ?_;rintro v o ⟨k,l⟩;refine Y ?_;exact⟨k,_,by rw[a];rfl,by rw[dU,iF a];exact l⟩
def uL{b:Sb}(hb:Zr H b)(n:b.Sz)(d:aF H w lt)(c:aF H (.slice Ap lp.length cp) lp)(i:lp.length<=cp)(k:lt.length<=1000000)(j:lp.length<=1000000) :
  LL.Zc P 74 #[b.v,w,.slice Ap lp.length cp] H λv e=>aL H e/\v=.tuple #[vi (TN b lt lp),vi (Z7 b lt lp)]:=by
 refine aJ.m (bG sL) (args:=[b.v,w,.slice Ap lp.length cp]) rfl ?_;unfold k8 Sb.v;refine Y ?_;refine Za [b.v,w,.slice Ap lp.length cp] (gG hb n d c i k j) ?_;rintro v _ ⟨rfl,rfl⟩;refine OJ (λa=>?_) (λa=>?_)
 ·refine Y ?_;exact⟨.refl _,by rw[TN,aT a];rfl⟩
 have a:Z7 b lt lp=0:=by simpa using a
 obtain⟨ok,f,g,h⟩:=fG a;refine Y ?_;refine Za [b.v,w,.slice Ap lp.length cp] (uK hb ok d f (uE g) c h) ?_;rintro v o ⟨l,rfl⟩;refine Y ?_;exact⟨l,by rw[TN,iF a,a];rfl⟩
end
def mM{b:Sb}:(F3 b lt lp).length<=1000000:=by
 unfold F3;split
 ·rename_i h;obtain⟨ok,d,c,a⟩:=fG h;rw[(tH ok (uE c) a.len a.rg).1];have:=ok.n;omega
 exact qAI _
def lJ{b:Sb}:(dU b lt lp).length<=1000000:=by
 unfold dU;split
 ·exact qAz (B9 _ _) (by decide)
 exact qAI _
section
variable{P:aX}[Tz P][Loud P]{H:Hp}
theorem mE(hO:P=PP){b:Sb}{f:Option Addr}{d:Nat}(hb:Zr H b)(k:aF H (.slice f lt.length d) lt)(W:lt.length<=d)(n:aF H (.slice Ap lp.length cp) lp)(c:lp.length<=cp)(i:Yk H)(a:aC H ⟨1,0,none⟩ [vf 284]) :
  kR.m P (tJ P iZ λv _=>v=vb true) (Vv [b.v,.slice f lt.length d,.slice Ap lp.length cp]) H:=by
 unfold kR Sb.v;refine Y ?_;refine Za [b.v] (eO hb) ?_;rintro v _ ⟨rfl,g,rfl,y⟩;cases g with
 | true=>
  refine Y ?_;refine Za [] (bB hO i a) ?_;rintro v q ⟨_,rfl⟩;refine Y ?_;rfl
 | false=>
 have e:=(y rfl).sz;refine OJ (λE=>?_) (λE=>?_)
 ·refine Y ?_;refine Za [] (bB hO i a) ?_;rintro v q ⟨_,rfl⟩;refine Y ?_;rfl
 refine OJ (λF=>?_) (λF=>?_)
 ·refine Y ?_;refine Za [] (bB hO i a) ?_;rintro v q ⟨_,rfl⟩;refine Y ?_;rfl
 have j:lt.length<=1000000:=O;have o:lp.length<=1000000:=O;clear E F;refine Y ?_;refine Za [b.v,.slice f lt.length d,.slice Ap lp.length cp] (KM hb e i a k n c j o) ?_;rintro v q ⟨r,w,rfl,Z⟩;have B:aF q w (F3 b lt lp):=by
  unfold F3;rcases Z with⟨h,rfl⟩ | ⟨h,bb,ow⟩
  ·rw[aT h];exact .nil _
  rw[iF h];exact ow.sl
 refine Y ?_;refine Za [b.v,.slice f lt.length d,.slice Ap lp.length cp] (sU (hb.inc r) e (k.inc r) (n.inc r) c j o) ?_;rintro v H2 ⟨N,u,rfl,X⟩;have C:=r.trans N;refine Y ?_;refine Za [w,u] (TY (B.inc N) X mM) ?_;rintro v _ ⟨rfl,rfl⟩;refine OJ (λG=>?_) (λG=>?_)
 ·exact absurd G (by simp)
 refine Y ?_;refine Za [b.v] (CG (hb.inc C) e (aC.inc i C)) ?_;rintro v S ⟨j3,rfl⟩;have l:=C.trans j3;refine Zp OL (Y ?_);refine Za [b.v] (cF (hb.inc l) e) ?_;rintro v _ ⟨rfl,rfl⟩;refine OJ (λI=>?_) (λI=>?_)
 ·exact absurd I (by simp)
 refine Y ?_;refine Za [b.v,.slice f lt.length d,.slice Ap lp.length cp] (KL (hb.inc l) e (aC.inc i l) (aC.inc a l) (k.inc l) (n.inc l) c j o) ?_;rintro v U ⟨j4,R,V,rfl,D⟩;have s:=l.trans j4;have D:dD S U 3 R (dU b lt lp) V:=D;refine Y ?_;refine Za [b.v,.slice f lt.length d,.slice Ap lp.length cp] (uJ (hb.inc s) e (k.inc s) (n.inc s) c j o) ?_;rintro v H5 ⟨Q,u5,rfl,z⟩;have p:=s.trans Q;refine Y ?_;refine Za [R,u5] (EI (D.sl.inc Q) z lJ lJ) ?_;rintro v _ ⟨rfl,rfl⟩;rw[decide_eq_true (show dU b lt lp=dU b lt lp from rfl)];refine OJ (λJ=>?_) (λJ=>?_)
 ·exact absurd J (by simp)
 refine Y ?_;refine Za [b.v,.slice f lt.length d,.slice Ap lp.length cp] (Hu (hb.inc p) e (aC.inc i p) (aC.inc a p) (k.inc p) (n.inc p) c j o) ?_;rintro v H6 ⟨j6,rfl⟩;have t:=p.trans j6;rw[show(if Z7 b lt lp=0 then(Yg b (Ys lt) lp).2 else 0)=TN b lt lp from rfl];refine Y ?_;refine Za [b.v,.slice f lt.length d,.slice Ap lp.length cp] (uL (hb.inc t) e (k.inc t) (n.inc t) c j o) ?_;rintro v H7 ⟨j7,rfl⟩;have x:=t.trans j7;refine OJ (λK=>?_) (λK=>?_)
 ·exact absurd K (by simp)
 refine OJ (λL=>?_) (λL=>?_)
 ·exact absurd L (by simp)
 refine Y ?_;refine Za [b.v,.slice f lt.length d] (rH (hb.inc x) e (aC.inc i x) (k.inc x) j) ?_;rintro v H8 ⟨j8,rfl⟩;have i8:=x.trans j8;refine Y ?_;refine Za [b.v,.slice f lt.length d] (sQ (hb.inc i8) e (k.inc i8) j) ?_;rintro v _ ⟨rfl,rfl⟩;refine Y ?_;refine pY rfl rfl ?_;rw[qCn];refine OJ (λM=>?_) (λM=>?_);rotate_left
 ·exact absurd M (by simp)
 refine Y ?_;refine Za [] (bB hO (aC.inc i i8) (aC.inc a i8)) ?_;rintro v H9 ⟨_,rfl⟩;refine Y ?_;rfl
end
