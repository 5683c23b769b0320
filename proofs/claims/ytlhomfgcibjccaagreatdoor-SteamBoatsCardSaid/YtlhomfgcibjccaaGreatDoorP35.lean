import Derived.Test.YtlhomfgcibjccaaGreatDoorP22
import Derived.Test.YtlhomfgcibjccaaGreatDoorP24
import Derived.Test.YtlhomfgcibjccaaGreatDoorP33
import Derived.Test.YtlhomfgcibjccaaGreatDoorP34
set_option linter.all false
set_option maxHeartbeats 8000000
set_option maxRecDepth 20000
open Go Go.LL
namespace Go.Proofs
variable{n m k j f r cap lo hi:Nat}{p q z:Int}{l K:List Int}{b b':Sb}{qs:List bW}{ms:List Nat}{rest:List Value}{E:Int->List Value}{cv:Value}{S:Int->Prop}
def rA(b:Sb)(i:Nat):Nt:=b.nt.getD i ⟨none,[],0,0,0⟩
def Y8(b:Sb)(m n:Nat):List Nt:=(UP m n).map (rA b)
def UL(b:Sb)(m:Nat):Bool:=(Zi { b with nt:=Y8 b m b.nt.length }).isEmpty
def Ua(b:Sb)(j:Nat):List Nat:=(List.range j).filter (UL b)
def Ztf(b:Sb)(j:Nat):Ua b (j+1)=Ua b j++if UL b j then[j]else[]:=by rw[Ua,qBs,qBS,Ua];congr 1;cases h:UL b j<;>simp[h]
def Ztg(b:Sb)(j:Nat):(Ua b j).length<=j:=by have:=qBd (UL b) (List.range j);rwa [qBF]at this
def n7(m:Nat):Int:=([0,1,5,2,7,4,6,3]:List Int).getD m 0
def n8(z:Int):List Int:=([[],[0],[0,1],[0,1,2],[0,2],[1],[1,2],[2]]:List (List Int)).getD z.toNat []
def qR(z:Int):Int:=(n8 z).length * 8+z
def ZpH:((List.range 4).all λn=>(List.range (2 ^ n)).all λm=>n8 (n7 m) == YK m n)=true:=by decide +kernel
def KJ(c:n<=3)(a:m<2 ^ n):n8 (n7 m)=YK m n:=by have h:=IN.1 (IN.1 ZpH n (qAl.2 O)) m (qAl.2 a);exact eq_of_beq h
def Ie(m:Nat):0<=n7 m/\n7 m<8:=by
 by_cases h:m<8
 ·match m,h with
  | 0,_=>decide
  | 1,_=>decide
  | 2,_=>decide
  | 3,_=>decide
  | 4,_=>decide
  | 5,_=>decide
  | 6,_=>decide
  | 7,_=>decide
 have:n7 m=0:=by rw[n7,qAa,qAn (by simp;omega)];rfl
 omega
def ZpD:((List.range 8).all λm=>(List.range 8).all λk=>n7 m != n7 k || m == k)=true:=by decide +kernel
def ZpE(d:m<8)(c:k<8)(h:n7 m=n7 k):m=k:=by have a:=IN.1 (IN.1 ZpD m (qAl.2 d)) k (qAl.2 c);simpa[h]using a
def ZpF:((List.range 8).all λi=>(List.range 8).all λj=>VJ (n8 i) (n8 j) == YM i j)=true:=by decide +kernel
def To(e:0<=p/\p<8)(g:0<=q/\q<8):VJ (n8 p) (n8 q)=YM p q:=by have a:=IN.1 (IN.1 ZpF p.toNat (qAl.2 O)) q.toNat (qAl.2 O);have c:(p.toNat:Int)=p:=O;have d:(q.toNat:Int)=q:=O;rw[c,d]at a;exact eq_of_beq a
def ZoX:((List.range 8).all λ(i:Nat)=>(List.range 8).all λ(j:Nat)=>qR i != qR j || i == j)=true:=by decide +kernel
def ZoY(e:0<=p/\p<8)(g:0<=q/\q<8)(h:qR p=qR q):p=q:=by
 have a:=IN.1 (IN.1 ZoX p.toNat (qAl.2 O)) q.toNat (qAl.2 O);have c:(p.toNat:Int)=p:=O;have d:(q.toNat:Int)=q:=O;rw[c,d]at a;have:p.toNat=q.toNat:=by simpa[h]using a
 omega
def Zl5{l:List Int}:∀n,cO l n<=n
 | 0=>dO _
 | n+1=>by rw[cO];split;omega;have:=Zl5 (l:=l) n;omega
def Zl6{l:List Int}:∀{n j:Nat},j<n->el l j=el l (cO l n)->cO l n<=j
 | 0,j,h,_=>absurd h (qBm _)
 | n+1,j,h,e=>by
  rw[cO]at e ⊢;split at e
  ·rename_i a;rw[iF a];by_cases c:j=n
   ·omega
   have:=XI (l:=l) (n:=n) j O;omega
  rename_i a;rw[aT a];by_cases c:j=n
  ·have:=Zl5 (l:=l) n;omega
  exact Zl6 O e
def PU(h:j<l.length)(e:el l j=el l (Zo l)):Zo l<=j:=Zl6 h e
def ZZ(b:Sb):List Int:=(Ua b (2 ^ b.nt.length)).map n7
def IH(b:Sb):Int:=el (ZZ b) (Zo ((ZZ b).map qR))
def CU(b:Sb):List Int:=n8 (IH b)
def FU{f:Int->Int}(h:j<l.length):el (l.map f) j=f (el l j):=by rw[el,el,ZD (by simpa using h),ZD h,qAZ]
def RA(h:z∈ZZ b):0<=z/\z<8:=by obtain⟨m,_,rfl⟩:=qAB.1 h;exact Ie m
def Zx5(s:∀x∈K,0<=x/\x<8)(c:z∈K)(h:∀x∈K,qR z<=qR x):el K (Zo (K.map qR))=z:=by
 have g:K.map qR≠[]:=by intro e;simp at e;rw[e]at c;simp at c
 have a:=uF g;rw[qAh]at a;have o:el K (Zo (K.map qR))∈K:=by rw[el,ZD a];exact bY a
 obtain⟨j,d,e⟩:=qAk.1 c;have i:=CV (l:=K.map qR) (j:=j) (by simpa using d);rw[FU a,FU d]at i;have t:el K j=z:=by rw[el,ZD d];exact e
 rw[t]at i;have u:=h _ o;exact ZoY (s _ o) (s _ c) O
def Zvv{a:List Int}(o:a.Perm (ZZ b))(B:∀x y,x<=y->y<a.length->el a x<=el a y)(i:a≠[]) :
  el a (Zo (a.map λz=>((n8 z).length:Int)))=IH b:=by
 have c:=uF (l:=a.map λz=>((n8 z).length:Int)) (by simpa using i);rw[qAh]at c;generalize h:Zo (a.map λz=>((n8 z).length:Int))=k at *;have s:el a k∈a:=by rw[el,ZD c];exact bY c
 refine(Zx5 (λx g=>RA g) (o.mem_iff.1 s) λx g=>?_).symm;obtain⟨j,d,e⟩:=qAk.1 (o.mem_iff.2 g);have t:el a j=x:=by rw[el,ZD d];exact e
 have u:=CV (l:=a.map λz=>((n8 z).length:Int)) (j:=j) (by simpa using d);rw[h,FU (f:=λz=>((n8 z).length:Int)) c,FU (f:=λz=>((n8 z).length:Int)) d]at u;subst t;have C:=RA (o.mem_iff.1 s);have D:=RA g;unfold qR;by_cases w:(n8 (el a k)).length=(n8 (el a j)).length
 ·have v:k<=j:=by have:=PU (l:=a.map λz=>((n8 z).length:Int)) (j:=j) (by simpa using d) (by rw[h,FU (f:=λz=>((n8 z).length:Int)) c,FU (f:=λz=>((n8 z).length:Int)) d,w]);rwa [h]at this
  have:=B k j v d;omega
 omega
def Zyg(b:Sb):Y8 b (2 ^ b.nt.length-1) b.nt.length=b.nt:=by
 have d:UP (2 ^ b.nt.length-1) b.nt.length=List.range b.nt.length:=by rw[UP,List.filter_eq_self];intro i hi;rw[Nat.testBit_two_pow_sub_one];simpa using hi
 rw[Y8,d];refine qBl (by simp) λi e c=>?_;simp only[qAZ,qCl,rA];exact ZD c _
theorem Zte(h:Zi b=[]):UL b (2 ^ b.nt.length-1)=true:=by rw[UL,Zyg];show(Zi b).isEmpty=true;rw[h];rfl
def Tn(h:Zi b=[]):ZZ b≠[]:=by have c:2 ^ b.nt.length-1∈Ua b (2 ^ b.nt.length):=qAC.2 ⟨qAl.2 (by have:=Nat.two_pow_pos b.nt.length;omega),Zte h⟩;intro e;have:n7 (2 ^ b.nt.length-1)∈ZZ b:=qAB.2 ⟨_,c,rfl⟩;rw[e]at this;simp at this
def Zt8(g:b.nt.length<=3):(ZZ b).Nodup:=by have i:2 ^ b.nt.length<=2 ^ 3:=qBz (by decide) g;rw[ZZ,List.Nodup,qBK];refine List.Pairwise.imp_of_mem (λ{x y} a c h e=>h ?_) ((List.nodup_range (n:=2 ^ b.nt.length)).filter (UL b));have a:=qAl.1 (qAC.1 a).1;have c:=qAl.1 (qAC.1 c).1;exact ZpE O O e
def Zyf(ok:bA b)(m:Nat):bA { b with nt:=Y8 b m b.nt.length } where
 pl:=ok.pl
 hd:=ok.hd
 td:=ok.td
 n:=ok.n
 pk:=ok.pk
 nm:=ok.nm
 nn:=by have c:=Kq m b.nt.length;have d:=ok.nn;show((UP m b.nt.length).map (rA b)).length<=3;rw[qAh];omega
 nt:=λx a=>by
  obtain⟨i,hi,rfl⟩:=qAB.1 a;have:i<b.nt.length:=by simpa using(qAC.1 hi).1
  rw[rA,ZD this];exact ok.nt _ (bY this)
def K8(b:Sb)(m:Nat)(A:Option Addr)(c:Nat):Sb:={ b with nt:=Y8 b m b.nt.length,A2:=A,c2:=c }
def Tp{H:Hp}{x:Nt}:aF (H.ins r (.cells #[.slice x.A x.ps.length x.c,vi x.lo,vi x.hi] 85)) (.slice (some ⟨r,0,none⟩) 1 1) [x]:=Z0 (l:=[x])
section
variable{P:aX}[Tz P][Loud P]{H:Hp}
theorem Zo0(hb:Zr H b)(hl2:b.nt.length<=60)(hm:m<9223372036854775808) :
  LL.Zc P 115 #[b.v,vi m] H λv u=>aL H u/\∃A c lv bb,v=.tuple #[(K8 b m A c).v,lv]/\Zr u (K8 b m A c)/\dD H u 3 lv (YK m b.nt.length) bb:=by
 refine aJ.m (bG Zxf) (args:=[b.v,vi m]) rfl ?_;unfold ZkC Sb.v;refine Y ?_;refine ZO (α:=(Option Addr×Nat)×(Option Addr×Nat)×Option Nat×Option Nat) b.nt.length (λj s u=>aL H u/\dD H u 3 (.slice s.1.1 (YK m j).length s.1.2) (YK m j) s.2.2.1/\dD H u 85 (.slice s.2.1.1 (Y8 b m j).length s.2.1.2) (Y8 b m j) s.2.2.2/\jE s.2.2.1 s.2.2.2)
  (λj s=>[(1,vi m),(2,vi 0),(4,vi 0),(5,.slice none 0 0),(6,.slice s.1.1 (YK m j).length s.1.2),(7,vi 0),(15,.slice b.A2 b.nt.length b.c2),(16,vi b.nt.length),(17,vi j)])
  (λj s=>[(2,b.cs),(4,[vi 0,vi 0,vi 0,.slice none 0 0,.slice none 0 0]),(7,[vi b.pl,vi b.hd,vi b.td,.slice b.A1 b.pk.length b.c1,.slice s.2.1.1 (Y8 b m j).length s.2.1.2])])
  ((none,0),(none,0),none,none) ⟨.refl H,.nil H H 3,.nil H H 85,.none _⟩ V V ?_
 rintro j ⟨⟨A6,c6⟩,⟨X,Z⟩,b6,b7⟩ H1 hj ⟨g,B,C,w⟩;simp only at B C w;refine OJ (λh1=>?_) (λh1=>?_)
 ·have F:j<b.nt.length:=O;have d:=ZtG m j;refine Y ?_;refine Zz j (hb.nt.inc g) F λa ha=>Y ?_;refine YA ha (Y ?_);refine I4 rfl rfl (.inl rfl) O (ZoK O) (Y ?_);refine LD (v:=vi ((m / 2 ^ j % 2:Nat):Int)) rfl rfl (.inl rfl) (Zyd (qCk (Nat.div_le_self _ _) hm)) ?_;refine OJ (λh2=>?_) (λh2=>?_)
  ·have U:m.testBit j=true:=(Zm6 m j).1 O;rw[U,iF rfl]at d;have J:YK m (j+1)=YK m j++[(j:Int)]:=by rw[YK,d,qBL];rfl
   have I:Y8 b m (j+1)=Y8 b m j++[b.nt[j]]:=by rw[Y8,d,qBL,List.map_singleton,rA,ZD F];rfl
   have lN:(YK m j).length<=j:=by rw[YK,qAh];exact Kq m j
   have lC:(Y8 b m j).length<=j:=by rw[Y8,qAh];exact Kq m j
   refine Y ?_;refine ZY (cs:=[vi (j:Int)]) (OL _) rfl λr1 o=>?_;refine Zp OL (Y ?_);refine U7 (l':=[(j:Int)]) (bI dW) (bI dW) (cD t3) rfl (by decide) (g.trans (Zs o)) (B.ins o) qY rfl (by simp;omega) O rfl rfl (OL _) λNs H2 N k1 k2 k3=>?_;obtain⟨G,D⟩:=(B.ins o).hU (C.ins o) w k3;refine Zp OL (Y ?_);refine ZY (cs:=[.slice b.nt[j].A b.nt[j].ps.length b.nt[j].c,vi b.nt[j].lo,vi b.nt[j].hi]) (OL _) rfl λr2 t=>?_;refine Zp OL (Y ?_);refine U7 (l':=[b.nt[j]]) (bI qO) (bI qO) (cD C4) rfl (by decide) (k1.trans (Zs t)) (G.ins t) Tp rfl (by simp;omega) O rfl rfl (OL _) λv7' H3 Q k4 W k6=>?_;obtain⟨h,y⟩:=(G.ins t).hU (k2.ins t) D.symm k6;rw[<-J]at h;rw[<-I]at W;obtain⟨L,R,rfl,_⟩:=id h.sl;obtain⟨M,T,rfl,_⟩:=id W.sl;refine Y ?_;exact⟨(⟨j+1,O⟩,((L,R),(M,T),N,Q)),bN O,⟨k4,h,W,y.symm⟩,V,V,rfl⟩
  have U:m.testBit j=false:=by
   cases hh:m.testBit j with
   | false=>rfl
   | true=>have:=(Zm6 m j).2 hh;omega
  rw[U]at d;simp only[DO,qAw,qAf]at d;have J:YK m (j+1)=YK m j:=by rw[YK,d];rfl
  have I:Y8 b m (j+1)=Y8 b m j:=by rw[Y8,d];rfl
  rw[<-J]at B;rw[<-I]at C;refine Y ?_;exact⟨(⟨j+1,O⟩,((A6,c6),(X,Z),b6,b7)),bN O,⟨g,B,C,w⟩,⟨rfl,rfl,rfl,rfl,by rw[J];rfl,rfl,rfl,rfl,rfl,trivial⟩,⟨rfl,rfl,by rw[I];rfl,trivial⟩,rfl⟩
 have:j=b.nt.length:=O;subst this;obtain⟨_,_,e7,q7⟩:=jF C;simp only[Value.slice.injEq]at e7;obtain⟨_,_,rfl⟩:=e7;refine Y ?_;refine⟨g,X,Z,_,_,rfl,⟨hb.pk.inc g,C.sl,λx hx=>?_,hb.q1,q7⟩,B⟩;obtain⟨i,hi,rfl⟩:=qAB.1 hx;have:i<b.nt.length:=by simpa using(qAC.1 hi).1
 rw[rA,ZD this];exact(hb.ps _ (bY this)).inc g
end
def kU:Tryz.prog.underlying 68=some (.slice 26):=U
structure EW(H:Hp)(n:Nat)(qs:List bW)(ms:List Nat):Prop where
 len:qs.length=ms.length
 at_:∀i (h:i<qs.length) (h':i<ms.length),aF H (dN qs[i]) (YK ms[i] n)/\qs[i].2.1<=qs[i].2.2
def EW.nil(H:Hp)(n:Nat):EW H n [] []:=⟨rfl,λi h=>by simp at h⟩
def EW.inc{H H':Hp}(h:EW H n qs ms)(hi:aL H H'):EW H' n qs ms:=⟨h.len,λi a b=>⟨((h.at_ i a b).1).inc hi,(h.at_ i a b).2⟩⟩
def EW.snoc{H:Hp}{q:bW}(h:EW H n qs ms)(d:aF H (dN q) (YK m n))(c:q.2.1<=q.2.2):EW H n (qs++[q]) (ms++[m]):=by
 refine⟨by simp[h.len],λi a b=>?_⟩;have:=h.len;by_cases hi:i<qs.length
 ·rw[qAp hi,qAp O];exact h.at_ i hi O
 simp only[BY,qAA]at a;have e:i=qs.length:=O;subst e;rw[qAr (dO _),qAr O];simp[this];exact⟨d,c⟩
def s9(K:List Int)(qs:List bW)(z:Int):bW:=qs.getD (K.idxOf z) (none,0,0)
def ZhS(g:qs.length=K.length)(a:K.Nodup)(e:k<K.length):s9 K qs K[k]=qs[k]'O:=by have c:K.idxOf K[k]<K.length:=List.idxOf_lt_length_iff.2 (bY e);have d:K.idxOf K[k]=k:=(qBQ a).1 (List.getElem_idxOf c);rw[s9,d,ZD O]
def Li(E:Int->bW):∀l:List Int,Zb (l.map E)=pJ E l
 | []=>rfl
 | z :: l=>by have ih:=Li E l;show dN (E z) :: Zb (l.map E)=dN (E z) :: pJ E l;rw[ih]
def Zsd(c:qs.length=K.length)(a:K.Nodup):pJ (s9 K qs) K=Zb qs:=by
 have:K.map (s9 K qs)=qs:=qBl (by simp[c]) λi d e=>by rw[qAZ,ZhS c a]
 rw[<-Li,this]
def VU(b:Sb):List Int:=if ZF b=0/\Zi b=[]then CU b else[]
def Zyi(ok:bA b)(m:Nat)(A:Option Addr)(c:Nat):bA (K8 b m A c):=by have h:=Zyf ok m;exact⟨h.pl,h.hd,h.td,h.n,h.pk,h.nm,h.nn,h.nt⟩
def Zyh{A:Option Addr}{c:Nat}:Vl (K8 b m A c)=!UL b m:=by rw[Vl,UL,T0 (b:=K8 b m A c) (b':={ b with nt:=Y8 b m b.nt.length }) rfl rfl]
section
variable{P:aX}[Tz P][Loud P]{H:Hp}
theorem Ib(hb:Zr H b)(sz:b.Sz)(hg:Yk H) :
  LL.Zc P 54 #[b.v] H λv g=>aL H g/\∃A c,v=.tuple #[.slice A (VU b).length c,vi (ZF b)]/\(VU b).length<=c/\aF g (.slice A (VU b).length c) (VU b):=by
 refine aJ.m (bG ZxI) (args:=[b.v]) rfl ?_;unfold Zk5 Sb.v;refine Y ?_;refine Za [b.v] (CG hb sz hg) ?_;rintro v H1 ⟨i1,rfl⟩;refine OJ (λM=>?_) (λM=>?_)
 ·have e:VU b=[]:=aT λh=>M h.1;rw[e];refine Y ?_;exact⟨i1,none,0,rfl,dO _,.nil _⟩
 have ok:=Ow (b:=b) M;refine Y ?_;refine Za [b.v] (Md (hb.inc i1) ok) ?_;rintro v H2 ⟨i2,rfl⟩;have oQ:=i1.trans i2;cases BC:Vl b with
 | true=>
  have e:VU b=[]:=aT λh=>by rw[Vl,h.2]at BC;simp at BC
  rw[e,M];refine Y ?_;exact⟨oQ,none,0,rfl,dO _,.nil _⟩
 | false=>
 have pK:Zi b=[]:=by simpa[Vl]using BC
 have e:VU b=CU b:=iF ⟨M,pK⟩;rw[e,M];have D:=ok.nn;have SV:2 ^ b.nt.length<=2 ^ 3:=qBz (by decide) D;refine Y ?_;refine I4 rfl rfl (.inr rfl) O (ZoO D) (Y ?_);refine ZO (α:=Hp×Value×List bW×Option Nat) (2 ^ b.nt.length) (λj s g=>aL H s.1/\aL s.1 g/\dD s.1 g 26 s.2.1 s.2.2.1 s.2.2.2/\EW s.1 b.nt.length s.2.2.1 (Ua b j))
  (λj s=>[(2,.slice none 0 0),(3,vi 0),(5,vi 0),(6,s.2.1),(22,vi (2 ^ b.nt.length:Nat)),(23,vi j)])
  (λj s=>[(1,b.cs),(5,b.cs)])
  (H2,.slice none 0 0,[],none) ⟨oQ,.refl H2,.nil _ _ _,.nil _ _⟩ V V ?_
 rintro j ⟨G,v6,qs,b6⟩ H3 hj ⟨N,i,o6,o⟩;simp only at N i o6 o;have NF:=o.len;have hol:=Ztg b j;refine OJ (λh3=>?_) (λh3=>?_)
 ·have g9:j<2 ^ b.nt.length:=O;have t:=Ztf b j;refine Y ?_;refine Za [b.v,vi j] (Zo0 (m:=j) (hb.inc (N.trans i)) O O) ?_;rintro v L ⟨i4,A8,c8,lv,bb,rfl,hb8,ow⟩;obtain⟨A9,c9,rfl,q9⟩:=jF ow;refine Y ?_;refine Za [(K8 b j A8 c8).v] (Md hb8 (Zyi ok j A8 c8)) ?_;rintro v H5 ⟨i5,rfl⟩;rw[Zyh];cases ho:UL b j with
  | true=>
   obtain⟨G',g1,g2,g3,g4⟩:=yR i o6 (i4.trans i5) ⟨(ow.inc i5).own,ow.fresh⟩;rw[ho,iF rfl]at t;refine Y ?_;refine ZY (cs:=[.slice A9 (YK j b.nt.length).length c9]) (OL _) rfl λr5 Qy=>Y ?_;refine U7 (l':=[((A9,(YK j b.nt.length).length,c9):bW)]) (bI kU) (bI kU) (cD rO) rfl (by decide) (g2.trans (Zs Qy)) (g3.ins Qy) (Z0 (l:=[((A9,(YK j b.nt.length).length,c9):bW)])) rfl (by simp;omega) O rfl rfl (OL _) λNs H6 b6' k1 k2 k3=>Y ?_;exact⟨(⟨j+1,O⟩,(G',Ns,qs++[(A9,(YK j b.nt.length).length,c9)],b6')),bN O,⟨N.trans g1,k1,k2,by rw[t];exact(o.inc g1).snoc g4 q9⟩,V,V,rfl⟩
  | false=>
   rw[ho]at t;simp only[DO,qAw,qAf]at t;refine Y ?_;exact⟨(⟨j+1,O⟩,(G,v6,qs,b6)),bN O,⟨N,(i.trans i4).trans i5,(o6.inc i4).inc i5,by rw[t];exact o⟩,V,V,rfl⟩
 have:j=2 ^ b.nt.length:=O;subst this;have hK:(ZZ b).length=(Ua b (2 ^ b.nt.length)).length:=by rw[ZZ,qAh]
 have hKn:=Tn pK;have vJ:=qAX.2 hKn;have Z:=Zt8 (b:=b) D;have F:qs.length=(ZZ b).length:=by rw[hK];exact NF
 have G7:qs.length<=12:=O;obtain⟨h0,⟨_,h2,_⟩ | ⟨r,cap,rest,rfl,rfl,f3,f4,f5⟩⟩:=id o6.own
 ·exact absurd h2 O
 have R:=o6.fresh r rfl;have e1:=Zsd F Z;rw[<-e1]at f3 f4;have C:∀(g:Hp),(∀b x,b≠r->H3 b=some x->g b=some x)->∀z∈ZZ b,aF g (dN (s9 (ZZ b) qs z)) (n8 z)/\(s9 (ZZ b) qs z).2.1<=(s9 (ZZ b) qs z).2.2:=by
  intro g B z hz;obtain⟨k,Rx,rfl⟩:=qAk.1 hz;rw[ZhS F Z Rx];have T:k<(Ua b (2 ^ b.nt.length)).length:=O;obtain⟨a1,a2⟩:=o.at_ k O T;have hm:(Ua b (2 ^ b.nt.length))[k]<2 ^ b.nt.length:=qAl.1 (qAC.1 (bY T)).1;have e:(ZZ b)[k]=n7 (Ua b (2 ^ b.nt.length))[k]:=by simp[ZZ]
  rw[e,KJ D hm];refine⟨a1.inc λx y J=>B x y ?_ (i x y J),a2⟩;rintro rfl;rw[R]at J;simp at J
 have SS:∀z,(n8 z).length<=1000000:=λz=>by
  unfold n8;rw[qAa];generalize z.toNat=k;match k with
  | 0=>decide
  | 1=>decide
  | 2=>decide
  | 3=>decide
  | 4=>decide
  | 5=>decide
  | 6=>decide
  | 7=>decide
  | k+8=>simp
 have hC:P6 P (s9 (ZZ b) qs) H3 r (vf 117) (λz=>z∈ZZ b):=by intro g B p q Q hq;have h:=Tv (P:=P) (H:=g) (C g B p Q).1 (C g B q hq).1 (SS p) (SS q) (OL _);rw[To (RA Q) (RA hq)]at h;exact Yj U h
 refine Y ?_;refine Za [.slice (some ⟨r,0,none⟩) qs.length cap,vf 117] (ZoD (rest:=rest) hC (λk B=>by rw[el,ZD B];exact bY B) f3 F.symm G7) ?_;rintro v L ⟨l',ar,rg,so⟩;have Q:l'.Perm (ZZ b):=rg.perm O;have Ff:l'.length=qs.length:=by rw[rg.len];exact F.symm
 have a:∀b x,b≠r->H3 b=some x->L b=some x:=ar.keep;have i4:aL H L:=λx y J=>a x y (by rintro rfl;rw[YL N R]at J;simp at J) (i x y (N x y J));have zP:aF L (.slice (some ⟨r,0,none⟩) (l'.map (s9 (ZZ b) qs)).length cap) (l'.map (s9 (ZZ b) qs)):=by have h4:=ar.at_;rw[<-Li]at h4;exact⟨_,cap,rfl,λ_=>⟨_,rfl,YN (ds:=rest) (ZA h4)⟩⟩
 have HC:qs.length=(l'.map (s9 (ZZ b) qs)).length:=by rw[qAh,Ff]
 have BL:l'.map (s9 (ZZ b) qs)≠[]:=List.ne_nil_of_length_pos O;have W:(l'.map (s9 (ZZ b) qs)).map UR=l'.map λz=>((n8 z).length:Int):=by rw[qCP];refine qCG λz hz=>?_;obtain⟨_,_,e,_⟩:=(C L a z (Q.mem_iff.1 hz)).1;simp only[Value.slice.injEq]at e;show((s9 (ZZ b) qs z).2.1:Int)=_;rw[e.2.1]
 have u:=Zvv Q (λx y hxy hy=>so x y (qAI _) hxy O) (List.ne_nil_of_length_pos O);have uR:=Zsq (P:=P) zP BL O;rw[W]at uR;rw[HC];refine Y ?_;refine Za [.agg #[vf 119],.slice (some ⟨r,0,none⟩) (l'.map (s9 (ZZ b) qs)).length cap] uR ?_;rintro w _ ⟨rfl,B,rfl⟩;have I:Zo (l'.map λz=>((n8 z).length:Int))<l'.length:=by rw[qAh]at B;exact B
 have hz:(l'.map (s9 (ZZ b) qs))[Zo (l'.map λz=>((n8 z).length:Int))]=s9 (ZZ b) qs (IH b):=by rw[qAZ,<-u,el,ZD I]
 rw[hz];have X:IH b∈ZZ b:=by rw[<-u,el,ZD I];exact Q.mem_iff.1 (bY I)
 obtain⟨s1,s2⟩:=C L a _ X;obtain⟨A,c,e,hh⟩:=id s1;generalize s9 (ZZ b) qs (IH b)=q at *;obtain⟨qA,qn,qc⟩:=q;simp only[Value.slice.injEq]at e;obtain⟨rfl,rfl,rfl⟩:=e;refine Y ?_;exact⟨i4,qA,qc,rfl,s2,s1⟩
end
def dG.ok(h:dG b b')(ok:bA b):bA b':=by
 have a:=h.pk;refine⟨by rw[h.pl];exact ok.pl,by rw[h.hd];exact ok.hd,by rw[h.td];exact ok.td,by rw[a];exact ok.n,by rw[a];exact ok.pk,by rw[a];exact ok.nm,by rw[h.nl];exact ok.nn,λx s=>?_⟩;obtain⟨i,hi,rfl⟩:=qAk.1 s;have c:i<b.nt.length:=by rw[<-h.nl];exact hi
 obtain⟨e,g,o⟩:=h.nt i c hi;rw[e,g,o,a];exact ok.nt _ (bY c)
def dG.right(h:dG b b')(t:N4):cB b' t=cB b t:=by
 have key:∀i (d:i<b.nt.length) (e:i<b'.nt.length),vU t b'.nt[i]=vU t b.nt[i]:=λi d e=>by obtain⟨o,s,u⟩:=h.nt i d e;rw[vU,vU,o,s,u]
 rw[qBT,cB,cB,IN,IN];have v:=h.nl;constructor
 ·intro g x c;obtain⟨i,hi,rfl⟩:=qAk.1 c;rw[<-key i hi O];exact g _ (bY _)
 intro g x c;obtain⟨i,hi,rfl⟩:=qAk.1 c;rw[key i O hi];exact g _ (bY _)
def dG.at_(h:dG b b')(j:Nat):aD b' j=aD b j:=by rw[aD,aD,h.pk]
def dG.boats(h:dG b b'):Zi b'=Zi b:=Ia (by rw[h.pk]) (λj=>by rw[h.at_];exact⟨rfl,rfl⟩) h.right
def HP:List Pk:=[⟨⟨#[107,101,101,108]⟩,4,4,2,3⟩,⟨⟨#[114,105,98]⟩,2,3,2,2⟩,⟨⟨#[97,114,109]⟩,3,3,1,4⟩]
def HQ(A:Option Addr):List Nt:=[⟨A,[0,1],2,6,7⟩]
def fZ(A A1 A2:Option Addr):Sb:=⟨2,1,12,HP,HQ A,A1,3,A2,1⟩
section
variable(A A1 A2:Option Addr)
def Y4:bA (fZ A A1 A2):=by have h:ZF (fZ A A1 A2)=0:=U;exact Ow h
def Zob:Zi (fZ A A1 A2)=[⟨4,2,3,0⟩,⟨4,3,3,0⟩]:=U
def Bz:Z7 (fZ A A1 A2) [4,2,3] [0,1,2]=0:=U
def Nv:Z7 (fZ A A1 A2) [4,3,3] [2,1,0]=0:=U
def sx3:VN (fZ A A1 A2) (Ys [4,2,3]) [0,1,2]=[⟨0,4,4,6⟩,⟨0,2,2,4⟩,⟨2,5,6,7⟩]:=U
def sx4:VN (fZ A A1 A2) (Ys [4,3,3]) [2,1,0]=[⟨3,7,7,9⟩,⟨0,3,4,6⟩,⟨0,3,3,4⟩]:=U
def sx5:gM (fZ A A1 A2) (Ys [4,2,3]) [0,1,2]=[]:=U
def sx6:gM (fZ A A1 A2) (Ys [4,3,3]) [2,1,0]=[1]:=U
def sx7:(Yg (fZ A A1 A2) (Ys [4,2,3]) [0,1,2]).2=7:=U
def sx8:Oh (lD (Vj (fZ A A1 A2) 1))=[2,3]:=U
def SC:Zl (fZ A A1 A2) 0=0:=U
def Zoi:ON (fZ A A1 A2) [0,1,2]=(7,8):=U
theorem Mk:xB (fZ A A1 A2) [0,1,2]=1/\xB (fZ A A1 A2) [2,1,0]=0/\CX (fZ A A1 A2) [2,1,0] 1=0:=by refine⟨?_,?_,?_⟩<;>kernel_rfl
theorem Q8:Zl (fZ A A1 A2) (Yq (fZ A A1 A2) [0,1,2])=0/\Zl (fZ A A1 A2) (Yq (fZ A A1 A2) [2,1,0])=0/\Zl (fZ A A1 A2) (Oc (fZ A A1 A2) [2,1,0] 1)=0/\Zl (fZ A A1 A2) (Yz (fZ A A1 A2) 1)=0:=by refine⟨?_,?_,?_,?_⟩<;>kernel_rfl
def ZgY:(dE (fZ A A1 A2) (Zi (fZ A A1 A2))).length=3:=U
def Zoh:Yu (fZ A A1 A2) (Zi (fZ A A1 A2))=[0,1,2]:=U
theorem Zog:(cG (fZ A A1 A2) (Zi (fZ A A1 A2)) [0,1,2]).lo=7/\(cG (fZ A A1 A2) (Zi (fZ A A1 A2)) [0,1,2]).hi=8:=by constructor<;>kernel_rfl
def Zof:V7 (fZ A A1 A2) (Zi (fZ A A1 A2))=1:=U
def Zoe:Y7 (Zi (fZ A A1 A2)) 3=(1,1):=U
def Zod:Vk (fZ A A1 A2) 1 3 3=0:=U
def Zoc:(Zi (Vz (fZ A A1 A2) 1 3 3)).length=1:=U
end
def Nb{G:Prop} (h:G:=by
  have ND:m<hi:=O;refine Y ?_;refine Zd (f+p) rfl rfl O O (Y ?_);refine Zn (Loud.aV _) rfl (AT.cA hE ar O rfl) (Yx.len hE _) (Y ?_);refine Zd (f+m) rfl rfl O O (Y ?_);refine Zn (Loud.aV _) rfl (AT.cA hE ar O rfl) (Yx.len hE _) (Y ?_);refine ZM rfl rfl (hC _ (AT.keep ar) _ _ (ZH rg hb hS O) (ZH rg hb hS O)) ?_;intro vW KW hW;obtain⟨eA,eB⟩:=hW;subst eA eB;refine OJ (λg4=>?_) (λg4=>?_);all_goals rw[Vw]at g4
  ·refine Y ?_;refine⟨c,ar,rg,hp.fin λm' h1 h2=>?_⟩;have:=sD m' h1 h2;omega
  refine Y ?_;refine Zd (f+m) rfl rfl O O (Y ?_);refine Zn (Loud.aV _) rfl (AT.cA hE ar O rfl) (Yx.len hE _) (Y ?_);refine Zd (f+p) rfl rfl O O (Y ?_);refine Zn (Loud.aV _) rfl (AT.cA hE ar O rfl) (Yx.len hE _) (Y ?_);refine Zd (f+p) rfl rfl O O (Y ?_);refine Z1 hE ar O rfl rfl rfl λHW PK=>?_;refine Zp Loud.aV (Y ?_);refine Zd (f+m) rfl rfl O O (Y ?_);refine Z1 hE PK (by rw[qAg];omega) rfl rfl rfl λH4 wY=>Y ?_;have pB:(c.set (f+p) (el c (f+m))).set (f+m) (el c (f+p))=dS c (f+p) (f+m):=rfl;rw[pB]at wY;have Er:p<m:=O;refine⟨(⟨m-lo,O⟩,dS c (f+p) (f+m)),?_,⟨wY,.step _ _ rg O O O O,?_⟩,⟨rfl,rfl,rfl,rfl,rfl,?_,trivial⟩,trivial,rfl⟩
  ·show hi-lo-(m-lo)<hi-lo-j;omega
  ·show CI f lo hi _ (lo+(m-lo));rw[show lo+(m-lo)=m by omega];exact hp.step HA ND sD g4 O O
  show some (vi _)=some (vi ((lo+(m-lo):Nat):Int));congr 2;omega):G:=h
section
variable{P:aX}[Tz P][Loud P]{H:Hp}
def ZoJ(hE:Yx E)(hC:YO P E H r cv S)(hS:∀k,k<l.length->S (el l k))(t:H r=some (.cells (iS E l++rest).toArray 122 (0,0),true))(hb:f+hi<=l.length)(w:lo<=l.length)(F:l.length<=1000000)(B:qQ f (lo+1) hi l) :
  LL.Zc P 254 #[.slice (some ⟨r,0,none⟩) l.length cap,vi lo,vi hi,vi f,cv] H λv d=>∃e,AT E H d r e rest/\Rg f (f+hi) l e/\qQ f lo hi e:=by
 refine aJ.m (bG Zwu) (args:=[.slice (some ⟨r,0,none⟩) l.length cap,vi lo,vi hi,vi f,cv]) rfl ?_;unfold ZjR;refine Y ?_;refine ZO (α:=List Int) (hi-lo) (λj c d=>AT E H d r c rest/\Rg f (f+hi) l c/\CI f lo hi c (lo+j)) (λj c=>[(0,.slice (some ⟨r,0,none⟩) l.length cap),(1,vi lo),(2,vi hi),(3,vi f),(4,cv),(10,vi ((lo+j:Nat):Int))]) (λj c=>[]) l ⟨AT.of t,.refl l,.of B⟩ V trivial ?_;rintro j c C D ⟨ar,rg,hp⟩;have u:=rg.len;have s:lo<=lo+j:=O;have y:lo+j<=l.length:=O;generalize x:lo+j=p at *;refine Y ?_;refine V8 rfl rfl ⟨O,O⟩ ?_;refine OJ (λg=>?_) (λg=>?_)
 ·refine Y ?_;refine⟨c,ar,rg,hp.fin λm a ND=>?_⟩;rcases a with h | h<;>omega
 have g:2 * p+1<hi:=O;refine OJ (λi=>?_) (λi=>?_)
 ·have i:2 * p+1+1<hi:=O;refine Y ?_;refine Zd (f+(2 * p+1)) rfl rfl O O (Y ?_);refine Zn (Loud.aV _) rfl (AT.cA hE ar O rfl) (Yx.len hE _) (Y ?_);refine Zd (f+(2 * p+2)) rfl rfl O O (Y ?_);refine Zn (Loud.aV _) rfl (AT.cA hE ar O rfl) (Yx.len hE _) (Y ?_);refine ZM rfl rfl (hC _ (AT.keep ar) _ _ (ZH rg hb hS O) (ZH rg hb hS O)) ?_;intro vW KW hW;obtain⟨eA,eB⟩:=hW;subst eA eB;refine OJ (λo=>?_) (λo=>?_);all_goals rw[Vw]at o
  ·obtain⟨m,a⟩:∃m,m=2 * p+2:=⟨_,rfl⟩;have sD:∀m',mX p m'->m'<hi->el c (f+m')<=el c (f+m):=λm' h1 h2=>by
    rcases h1 with h | h
    ·subst h a;omega
    subst h a;exact qAx _
   have HA:mX p m:=.inr a;exact Nb
  obtain⟨m,a⟩:∃m,m=2 * p+1:=⟨_,rfl⟩;have sD:∀m',mX p m'->m'<hi->el c (f+m')<=el c (f+m):=λm' h1 h2=>by
   rcases h1 with h | h
   ·subst h a;exact qAx _
   subst h a;omega
  have HA:mX p m:=.inl a;exact Nb
 obtain⟨m,a⟩:∃m,m=2 * p+1:=⟨_,rfl⟩;have sD:∀m',mX p m'->m'<hi->el c (f+m')<=el c (f+m):=λm' h1 h2=>by
  rcases h1 with h | h
  ·subst h a;exact qAx _
  omega
 have HA:mX p m:=.inl a;exact Nb
end
def YO.of{P:aX}{H c:Hp}(h:YO P E H r cv S)(e:∀b x,b≠r->H b=some x->c b=some x):YO P E c r cv S:=λd a=>h d λb x hb g=>a b x hb (e b x hb g)
section
variable{P:aX}[Tz P][Loud P]{H:Hp}
def Zhf(h:Yx E)(g:YO P E H r cv S)(i:∀k,k<l.length->S (el l k))(e:H r=some (.cells (iS E l++rest).toArray 122 (0,0),true))(s:l.length=n)(hb:f+hi<=n)(a:lo<=n)(o:n<=1000000)(t:qQ f (lo+1) hi l) :
  LL.Zc P 254 #[.slice (some ⟨r,0,none⟩) n cap,vi lo,vi hi,vi f,cv] H λv d=>∃c,AT E H d r c rest/\Rg f (f+hi) l c/\qQ f lo hi c:=by
 subst s;exact ZoJ h g i e hb a o t
def ZuB{a:Nat}(F:Yx E)(hC:YO P E H r cv S)(hS:∀k,k<l.length->S (el l k))(hA:H r=some (.cells (iS E l++rest).toArray 122 (0,0),true))(hb:a+hi<=l.length)(hl:l.length<=1000000) :
  We P 234 E H r cap l rest a (a+hi) [cv] λ_ l'=>So a (a+hi) l':=by
 have ehi:(((a+hi:Nat):Int)-(a:Int))=(hi:Int):=O;refine aJ.m (bG ZwC) (args:=[.slice (some ⟨r,0,none⟩) l.length cap,vi a,vi (a+hi:Nat),cv]) rfl ?_;unfold ZjZ;refine Y ?_;rw[ehi];refine Y ?_;refine VD rfl rfl (by decide) (by rw[XM];exact⟨O,O⟩) ?_;rw[XM];refine Y ?_;refine ZO (α:=List Int) ((hi-1) / 2+1) (λj c H'=>AT E H H' r c rest/\Rg a (a+hi) l c/\qQ a ((hi-1) / 2+1-j) hi c)
  (λj c=>[(0,.slice (some ⟨r,0,none⟩) l.length cap),(3,cv),(8,vi a),(9,vi 0),(10,vi hi),(11,vi (((hi-1) / 2+1-j:Nat)-1:Int))]) (λj c=>[]) l ⟨AT.of hA,.refl l,λk m t g h3=>by unfold mX at g;omega⟩ ⟨rfl,rfl,rfl,rfl,rfl,?_,trivial⟩ trivial ?_
 ·show some (vi _)=some (vi _);congr 2;omega
 rintro j c H1 hj ⟨ar,rg,Z⟩;have jQ:=rg.len;refine OJ (λU=>?_) (λU=>?_)
 ·obtain⟨i,N⟩:∃i,(hi-1) / 2+1-j=i+1:=⟨(hi-1) / 2+1-j-1,O⟩;have ei:((((hi-1) / 2+1-j:Nat)-1:Int))=(i:Int):=O;rw[N]at Z;rw[ei];refine Y ?_;refine Za [.slice (some ⟨r,0,none⟩) l.length cap,vi i,vi hi,vi a,cv] (Zhf F (hC.of ar.keep) (λk X=>ZH rg hb hS X) ar.at_ jQ hb O hl Z) ?_;rintro v H2 ⟨c2,L,u,R⟩;refine Y ?_;refine⟨(⟨j+1,O⟩,c2),bN O,⟨ar.trans L,rg.trans u,?_⟩,⟨rfl,rfl,rfl,rfl,rfl,?_,trivial⟩,trivial,rfl⟩
  ·show qQ a ((hi-1) / 2+1-(j+1)) hi c2;rw[show(hi-1) / 2+1-(j+1)=i by omega];exact R
  show some (vi _)=some (vi _);congr 2;show(i:Int)-1=(((hi-1) / 2+1-(j+1):Nat):Int)-1;omega
 have HE:(hi-1) / 2+1-j=0:=O;rw[HE]at Z;refine Y ?_;refine ZO (α:=List Int) hi (λj c H'=>AT E H H' r c rest/\Rg a (a+hi) l c/\qQ a 0 (hi-j) c/\So (a+(hi-j)) (a+hi) c/\∀x y,a<=x->x<a+(hi-j)->a+(hi-j)<=y->y<a+hi->el c x<=el c y)
  (λj c=>[(0,.slice (some ⟨r,0,none⟩) l.length cap),(3,cv),(8,vi a),(9,vi 0),(12,vi ((hi-j:Nat)-1:Int))]) (λj c=>[]) c ⟨ar,rg,Z,Un c O,λx y t g h3 h4=>O⟩ V trivial ?_
 rintro s d H2 g9 ⟨w,C,Q,D,T⟩;have D9:=C.len;refine OJ (λW=>?_) (λW=>?_)
 ·obtain⟨i,N⟩:∃i,hi-s=i+1:=⟨hi-s-1,O⟩;have ei:(((hi-s:Nat)-1:Int))=(i:Int):=O;rw[N]at Q D T;rw[ei];have Ey:=ZlZ Q;refine Y ?_;refine Zd (a+i) rfl rfl O O (Y ?_);refine Zn (Loud.aV _) rfl (AT.cA F w O rfl) (Yx.len F _) (Y ?_);refine Zd a rfl rfl O O (Y ?_);refine Zn (Loud.aV _) rfl (AT.cA F w O rfl) (Yx.len F _) (Y ?_);refine Zd a rfl rfl O O (Y ?_);refine Z1 F w O rfl rfl rfl λHW PK=>?_;refine Zp Loud.aV (Y ?_);refine Zd (a+i) rfl rfl O O (Y ?_);refine Z1 F PK (by rw[qAg];omega) rfl rfl rfl λH4 B=>Y ?_;have pB:(d.set a (el d (a+i))).set (a+i) (el d a)=dS d a (a+i):=rfl;rw[pB]at B;have es:∀x,el (dS d a (a+i)) x=if x=a+i then el d a else if x=a then el d (a+i)else el d x:=λx=>Yh x O O
  have tD:∀x,a<=x->x<a+i->∃h,a<=h/\h<a+(i+1)/\el (dS d a (a+i)) x=el d h:=λx t g=>by
   rw[es,aT O];by_cases e:x=a
   ·rw[iF e];exact⟨a+i,O,O,rfl⟩
   rw[aT e];exact⟨x,O,O,rfl⟩
  have Ep:qQ a 1 i (dS d a (a+i)):=λk m t g h3=>by
   have:m≠0/\k<i:=by unfold mX at g;omega
   rw[es,es,aT O,aT O,aT O,aT O];exact Q k m (qAI _) g O
  refine Za [.slice (some ⟨r,0,none⟩) l.length cap,vi (0:Nat),vi i,vi a,cv] (Zhf F (hC.of B.keep) (λk X=>ZH (Rg.step a (a+i) C O O O O) hb hS X) B.at_ (by rw[Q7,D9]) O O hl Ep) ?_;rintro v H5 ⟨c2,L,u,R⟩;have BQ:a+i<=(dS d a (a+i)).length:=by rw[Q7];omega
  have I:∀k,a+i<=k->el c2 k=el (dS d a (a+i)) k:=λk X=>u.out BQ (.inr X);have o:∀k,a+i<k->el c2 k=el d k:=λk X=>by rw[I k O,es,aT O,aT O]
  have J:el c2 (a+i)=el d a:=by rw[I _ (dO _),es,iF rfl]
  have G:∀(p:Int->Prop),(∀h,a<=h->h<a+(i+1)->p (el d h))->∀k,a<=k->k<a+i->p (el c2 k):=λp Z k t g=>
   u.all BQ (p:=p) (λk t g=>by obtain⟨h,U,W,g3⟩:=tD k t g;rw[g3];exact Z h U W) k t g
  have M:hi-(s+1)=i:=O;refine Y ?_;refine⟨(⟨s+1,O⟩,c2),qDW O (qEh s),⟨B.trans L,(Rg.step _ _ C O O O O).trans (u.mono (dO _) O),?_,?_,?_⟩,⟨rfl,rfl,rfl,rfl,?_,trivial⟩,trivial,rfl⟩
  ·show qQ a 0 (hi-(s+1)) c2;rw[M];exact R
  ·show So (a+(hi-(s+1))) (a+hi) c2;rw[M];refine V5 λx t g=>?_;by_cases e:x=a+i
   ·subst e;rw[J,o _ O];exact T a _ (dO _) O O g
   rw[o _ O,o _ O];exact D x (x+1) O O g
  ·show ∀x y,a<=x->x<a+(hi-(s+1))->a+(hi-(s+1))<=y->y<a+hi->el c2 x<=el c2 y;rw[M];intro x y t g h3 h4;by_cases e:y=a+i
   ·subst e;rw[J];refine G (·<=el d a) (λh U W=>?_) x t g;have:=Ey (h-a) O;rwa [show a+(h-a)=h by omega]at this
   rw[o y O];exact G (·<=el d y) (λh U W=>T h y U W O h4) x t g
  show some (vi _)=some (vi _);congr 2;show(i:Int)-1=((hi-(s+1):Nat):Int)-1;omega
 have:hi-s=0:=O;rw[this]at D;refine Y ?_;exact⟨d,w,C,D⟩
end
