import Derived.Test.YtlhomfgcibjccaaGreatDoorP21
import Derived.Test.YtlhomfgcibjccaaGreatDoorP23
import Derived.Test.YtlhomfgcibjccaaGreatDoorP31
import Derived.Test.YtlhomfgcibjccaaGreatDoorP32
set_option linter.all false
set_option maxHeartbeats 8000000
set_option maxRecDepth 20000
open Go Go.LL
namespace Go.Proofs
variable{n m k j f r cap lo hi:Nat}{p q z:Int}{l K:List Int}{b b':Sb}{qs:List lO}{ms:List Nat}{rest:List Value}{E:Int->List Value}{cv:Value}{S:Int->Prop}
def MN(b:Sb)(i:Nat):Nt:=b.nt.getD i ⟨none,[],0,0,0⟩
def Y8(b:Sb)(m n:Nat):List Nt:=(UQ m n).map (MN b)
def UM(b:Sb)(m:Nat):Bool:=(Zi { b with nt:=Y8 b m b.nt.length }).isEmpty
def Ua(b:Sb)(j:Nat):List Nat:=(List.range j).filter (UM b)
theorem Ztw(b:Sb)(j:Nat):Ua b (j+1)=Ua b j++if UM b j then[j]else[]:=by rw[Ua,qCH,qCT,Ua];congr 1;cases h:UM b j<;>simp[h]
theorem Ztx(b:Sb)(j:Nat):(Ua b j).length<=j:=by have:=qBZ (UM b) (List.range j);rwa [qBx]at this
def xK(m:Nat):Int:=([0,1,5,2,7,4,6,3]:List Int).getD m 0
def nO(z:Int):List Int:=([[],[0],[0,1],[0,1,2],[0,2],[1],[1,2],[2]]:List (List Int)).getD z.toNat []
def yP(z:Int):Int:=(nO z).length * 8+z
theorem ZpX:((List.range 4).all λn=>(List.range (2 ^ n)).all λm=>nO (xK m) == YJ m n)=true:=by decide +kernel
theorem ZpS(hn:n<=3)(hm:m<2 ^ n):nO (xK m)=YJ m n:=by have h:=qAg.1 (qAg.1 ZpX n (qAq.2 O)) m (qAq.2 hm);exact eq_of_beq h
theorem ZpR(m:Nat):0<=xK m/\xK m<8:=by
 by_cases h:m<8
 ·match m,h with
  | 0,_=>decide
  | 1,_=>decide
  | 2,_=>decide
  | 3,_=>decide
  | 4,_=>decide
  | 5,_=>decide
  | 6,_=>decide
  | 7,_=>decide
 have:xK m=0:=by rw[xK,qAo,qAY (by simp;omega)];rfl
 omega
theorem ZpT:((List.range 8).all λm=>(List.range 8).all λk=>xK m != xK k || m == k)=true:=by decide +kernel
theorem ZpU(hm:m<8)(hk:k<8)(h:xK m=xK k):m=k:=by have h1:=qAg.1 (qAg.1 ZpT m (qAq.2 hm)) k (qAq.2 hk);simpa[h]using h1
theorem ZpV:((List.range 8).all λi=>(List.range 8).all λj=>VI (nO i) (nO j) == YL i j)=true:=by decide +kernel
theorem ZpW(hp:0<=p/\p<8)(hq:0<=q/\q<8):VI (nO p) (nO q)=YL p q:=by have h1:=qAg.1 (qAg.1 ZpV p.toNat (qAq.2 O)) q.toNat (qAq.2 O);have e1:(p.toNat:Int)=p:=O;have e2:(q.toNat:Int)=q:=O;rw[e1,e2]at h1;exact eq_of_beq h1
theorem Zpc:((List.range 8).all λ(i:Nat)=>(List.range 8).all λ(j:Nat)=>yP i != yP j || i == j)=true:=by decide +kernel
theorem Zpd(hp:0<=p/\p<8)(hq:0<=q/\q<8)(h:yP p=yP q):p=q:=by
 have h1:=qAg.1 (qAg.1 Zpc p.toNat (qAq.2 O)) q.toNat (qAq.2 O);have e1:(p.toNat:Int)=p:=O;have e2:(q.toNat:Int)=q:=O;rw[e1,e2]at h1;have:p.toNat=q.toNat:=by simpa[h]using h1
 omega
theorem Zmi{l:List Int}:∀n,eF l n<=n
 | 0=>aC _
 | n+1=>by rw[eF];split;omega;have:=Zmi (l:=l) n;omega
theorem Zmj{l:List Int}:∀{n j:Nat},j<n->el l j=el l (eF l n)->eF l n<=j
 | 0,j,h,_=>absurd h (qBh _)
 | n+1,j,h,e=>by
  rw[eF]at e ⊢;split at e
  ·rename_i h1;rw[iO h1];by_cases hj:j=n
   ·omega
   have:=X6 (l:=l) (n:=n) j O;omega
  rename_i h1;rw[bY h1];by_cases hj:j=n
  ·have:=Zmi (l:=l) n;omega
  exact Zmj O e
theorem ZuY(h:j<l.length)(e:el l j=el l (Zp l)):Zp l<=j:=Zmj h e
def Z1(b:Sb):List Int:=(Ua b (2 ^ b.nt.length)).map xK
def RN(b:Sb):Int:=el (Z1 b) (Zp ((Z1 b).map yP))
def Zm5(b:Sb):List Int:=nO (RN b)
theorem LI{f:Int->Int}(h:j<l.length):el (l.map f) j=f (el l j):=by rw[el,el,ZA (by simpa using h),ZA h,qBs]
theorem R4(h:z∈Z1 b):0<=z/\z<8:=by obtain⟨m,_,rfl⟩:=qAX.1 h;exact ZpR m
theorem Zym(hr:∀x∈K,0<=x/\x<8)(hz:z∈K)(h:∀x∈K,yP z<=yP x):el K (Zp (K.map yP))=z:=by
 have dG:K.map yP≠[]:=by intro e;simp at e;rw[e]at hz;simp at hz
 have bV:=RU dG;rw[qAs]at bV;have hm:el K (Zp (K.map yP))∈K:=by rw[el,ZA bV];exact IN bV
 obtain⟨j,hj,e⟩:=qAJ.1 hz;have h1:=Zmk (l:=K.map yP) (j:=j) (by simpa using hj);rw[LI bV,LI hj]at h1;have e':el K j=z:=by rw[el,ZA hj];exact e
 rw[e']at h1;have h2:=h _ hm;exact Zpd (hr _ hm) (hr _ hz) O
theorem ZvL{l':List Int}(hp:l'.Perm (Z1 b))(hs:∀x y,x<=y->y<l'.length->el l' x<=el l' y)(dG:l'≠[]) :
  el l' (Zp (l'.map λz=>((nO z).length:Int)))=RN b:=by
 have bV:=RU (l:=l'.map λz=>((nO z).length:Int)) (by simpa using dG);rw[qAs]at bV;generalize hk:Zp (l'.map λz=>((nO z).length:Int))=k at *;have hm:el l' k∈l':=by rw[el,ZA bV];exact IN bV
 refine(Zym (λx hx=>R4 hx) (hp.mem_iff.1 hm) λx hx=>?_).symm;obtain⟨j,hj,e⟩:=qAJ.1 (hp.mem_iff.2 hx);have e':el l' j=x:=by rw[el,ZA hj];exact e
 have h1:=Zmk (l:=l'.map λz=>((nO z).length:Int)) (j:=j) (by simpa using hj);rw[hk,LI (f:=λz=>((nO z).length:Int)) bV,LI (f:=λz=>((nO z).length:Int)) hj]at h1;subst e';have g1:=R4 (hp.mem_iff.1 hm);have g2:=R4 hx;unfold yP;by_cases hl:(nO (el l' k)).length=(nO (el l' j)).length
 ·have h2:k<=j:=by have:=ZuY (l:=l'.map λz=>((nO z).length:Int)) (j:=j) (by simpa using hj) (by rw[hk,LI (f:=λz=>((nO z).length:Int)) bV,LI (f:=λz=>((nO z).length:Int)) hj,hl]);rwa [hk]at this
  have:=hs k j h2 hj;omega
 omega
theorem Zyx(b:Sb):Y8 b (2 ^ b.nt.length-1) b.nt.length=b.nt:=by
 have hm:UQ (2 ^ b.nt.length-1) b.nt.length=List.range b.nt.length:=by rw[UQ,List.filter_eq_self];intro i hi;rw[Nat.testBit_two_pow_sub_one];simpa using hi
 rw[Y8,hm];refine qCc (by simp) λi h1 h2=>?_;simp only[qBs,List.getElem_range,MN];exact ZA h2 _
theorem Ztv(h:Zi b=[]):UM b (2 ^ b.nt.length-1)=true:=by rw[UM,Zyx];show(Zi b).isEmpty=true;rw[h];rfl
theorem Zun(h:Zi b=[]):Z1 b≠[]:=by have h1:2 ^ b.nt.length-1∈Ua b (2 ^ b.nt.length):=qAF.2 ⟨qAq.2 (by have:=Nat.two_pow_pos b.nt.length;omega),Ztv h⟩;intro e;have:xK (2 ^ b.nt.length-1)∈Z1 b:=qAX.2 ⟨_,h1,rfl⟩;rw[e]at this;simp at this
theorem Zuo(hn:b.nt.length<=3):(Z1 b).Nodup:=by have hp:2 ^ b.nt.length<=2 ^ 3:=qBe (by decide) hn;rw[Z1,List.Nodup,qCX];refine List.Pairwise.imp_of_mem (λ{x y} hx hy h e=>h ?_) ((List.nodup_range (n:=2 ^ b.nt.length)).filter (UM b));have hx:=qAq.1 (qAF.1 hx).1;have hy:=qAq.1 (qAF.1 hy).1;exact ZpU O O e
theorem Zyw(ok:fN b)(m:Nat):fN { b with nt:=Y8 b m b.nt.length } where
 pl:=ok.pl
 hd:=ok.hd
 td:=ok.td
 n:=ok.n
 pk:=ok.pk
 nm:=ok.nm
 nn:=by have h1:=Na m b.nt.length;have h2:=ok.nn;show((UQ m b.nt.length).map (MN b)).length<=3;rw[qAs];omega
 nt:=λx hx=>by
  obtain⟨i,hi,rfl⟩:=qAX.1 hx;have:i<b.nt.length:=by simpa using(qAF.1 hi).1
  rw[MN,ZA this];exact ok.nt _ (IN this)
def LF(b:Sb)(m:Nat)(A:Option Addr)(c:Nat):Sb:={ b with nt:=Y8 b m b.nt.length,A2:=A,c2:=c }
theorem ZoW{H:Hp}{x:Nt}:aV (H.ins r (.cells #[.slice x.A x.ps.length x.c,vi x.lo,vi x.hi] 85)) (.slice (some ⟨r,0,none⟩) 1 1) [x]:=Z2 (l:=[x])
section
variable{P:bF}[Tz P][Loud P]{H:Hp}
theorem Zpf(hb:Zs H b)(C1:b.nt.length<=60)(hm:m<9223372036854775808) :
  LL.Zc P 115 #[b.v,vi m] H λv H'=>bO H H'/\∃A c lv bb,v=.tuple #[(LF b m A c).v,lv]/\Zs H' (LF b m A c)/\fZ H H' 3 lv (YJ m b.nt.length) bb:=by
 refine aO.m (cF Zxv) (args:=[b.v,vi m]) rfl ?_;unfold ZkO Sb.v;refine Y ?_;refine ZQ (α:=(Option Addr×Nat)×(Option Addr×Nat)×Option Nat×Option Nat) b.nt.length (λj s H'=>bO H H'/\fZ H H' 3 (.slice s.1.1 (YJ m j).length s.1.2) (YJ m j) s.2.2.1/\fZ H H' 85 (.slice s.2.1.1 (Y8 b m j).length s.2.1.2) (Y8 b m j) s.2.2.2/\iZ s.2.2.1 s.2.2.2)
  (λj s=>[(1,vi m),(2,vi 0),(4,vi 0),(5,.slice none 0 0),(6,.slice s.1.1 (YJ m j).length s.1.2),(7,vi 0),(15,.slice b.A2 b.nt.length b.c2),(16,vi b.nt.length),(17,vi j)])
  (λj s=>[(2,b.cs),(4,[vi 0,vi 0,vi 0,.slice none 0 0,.slice none 0 0]),(7,[vi b.pl,vi b.hd,vi b.td,.slice b.A1 b.pk.length b.c1,.slice s.2.1.1 (Y8 b m j).length s.2.1.2])])
  ((none,0),(none,0),none,none) ⟨.refl H,.nil H H 3,.nil H H 85,.none _⟩ V V ?_
 rintro j ⟨⟨A6,c6⟩,⟨A7,c7⟩,b6,b7⟩ H1 hj ⟨oH,o6,o7,BT⟩;simp only at o6 o7 BT;refine Y ?_;refine OI (λh1=>?_) (λh1=>?_)
 ·have cH:j<b.nt.length:=O;have xZ:=ZtW m j;refine Y ?_;refine Zx (hb.nt.bA oH) rfl rfl rfl (i:=j) cH λa ha=>Y ?_;refine Zl (OL _) rfl ha rfl (Y ?_);refine KC rfl rfl (.inl rfl) O (ZoZ O) (Y ?_);refine LR (v:=vi ((m / 2 ^ j % 2:Nat):Int)) rfl rfl (.inl rfl) (Zyu (qBj (Nat.div_le_self _ _) hm)) (Y ?_);refine OI (λh2=>?_) (λh2=>?_)
  ·have ht:m.testBit j=true:=(Znj m j).1 O;rw[ht,iO rfl]at xZ;have eN:YJ m (j+1)=YJ m j++[(j:Int)]:=by rw[YJ,xZ,List.map_append];rfl
   have eC:Y8 b m (j+1)=Y8 b m j++[b.nt[j]]:=by rw[Y8,xZ,List.map_append,List.map_singleton,MN,ZA cH];rfl
   have lN:(YJ m j).length<=j:=by rw[YJ,qAs];exact Na m j
   have lC:(Y8 b m j).length<=j:=by rw[Y8,qAs];exact Na m j
   refine Y ?_;refine Z0 (cs:=[vi (j:Int)]) (OL _) rfl λr1 pL=>?_;refine Zq OL (Y ?_);refine Oa (l':=[(j:Int)]) (dC oO) (dC oO) (eI t3) rfl (by decide) (oH.trans (Zt pL)) (o6.ins pL) ZoV rfl (by simp;omega) O rfl rfl (OL _) λRj H2 Kd k1 k2 k3=>?_;obtain⟨Rt,Jb⟩:=(o6.ins pL).nD (o7.ins pL) BT k3;refine Zq OL (Y ?_);refine Z0 (cs:=[.slice b.nt[j].A b.nt[j].ps.length b.nt[j].c,vi b.nt[j].lo,vi b.nt[j].hi]) (OL _) rfl λr2 j0=>?_;refine Zq OL (Y ?_);refine Oa (l':=[b.nt[j]]) (dC yI) (dC yI) (eI MU) rfl (by decide) (k1.trans (Zt j0)) (Rt.ins j0) ZoW rfl (by simp;omega) O rfl rfl (OL _) λv7' H3 b7' k4 k5 k6=>?_;obtain⟨G8,QM⟩:=(Rt.ins j0).nD (k2.ins j0) Jb.symm k6;rw[<-eN]at G8;rw[<-eC]at k5;obtain⟨A6',c6',rfl,_⟩:=id G8.sl;obtain⟨A7',JO,rfl,_⟩:=id k5.sl;refine Y ?_;exact⟨(⟨j+1,O⟩,((A6',c6'),(A7',JO),Kd,b7')),dX O,⟨k4,G8,k5,QM.symm⟩,V,V,rfl⟩
  have ht:m.testBit j=false:=by
   cases hh:m.testBit j with
   | false=>rfl
   | true=>have:=(Znj m j).2 hh;omega
  rw[ht]at xZ;simp only[iN,qAk,qAj]at xZ;have eN:YJ m (j+1)=YJ m j:=by rw[YJ,xZ];rfl
  have eC:Y8 b m (j+1)=Y8 b m j:=by rw[Y8,xZ];rfl
  rw[<-eN]at o6;rw[<-eC]at o7;refine Y ?_;exact⟨(⟨j+1,O⟩,((A6,c6),(A7,c7),b6,b7)),dX O,⟨oH,o6,o7,BT⟩,⟨rfl,rfl,rfl,rfl,by rw[eN];rfl,rfl,rfl,rfl,rfl,trivial⟩,⟨rfl,rfl,by rw[eC];rfl,trivial⟩,rfl⟩
 have:j=b.nt.length:=O;subst this;obtain⟨_,_,e7,q7⟩:=L5 o7;simp only[Value.slice.injEq]at e7;obtain⟨_,_,rfl⟩:=e7;refine Y ?_;refine⟨oH,A7,c7,_,_,rfl,⟨hb.pk.bA oH,o7.sl,λx hx=>?_,hb.q1,q7⟩,o6⟩;obtain⟨i,hi,rfl⟩:=qAX.1 hx;have:i<b.nt.length:=by simpa using(qAF.1 hi).1
 rw[MN,ZA this];exact(hb.ps _ (IN this)).bA oH
end
theorem Rm:Tryz.prog.underlying 68=some (.slice 26):=U
structure FD(H:Hp)(n:Nat)(qs:List lO)(ms:List Nat):Prop where
 len:qs.length=ms.length
 at_:∀i (h:i<qs.length) (h':i<ms.length),aV H (nC qs[i]) (YJ ms[i] n)/\qs[i].2.1<=qs[i].2.2
theorem FD.nil(H:Hp)(n:Nat):FD H n [] []:=⟨rfl,λi h=>by simp at h⟩
theorem FD.bA{H H':Hp}(h:FD H n qs ms)(hi:bO H H'):FD H' n qs ms:=⟨h.len,λi a b=>⟨((h.at_ i a b).1).bA hi,(h.at_ i a b).2⟩⟩
theorem FD.Ee{H:Hp}{q:lO}(h:FD H n qs ms)(hv:aV H (nC q) (YJ m n))(hc:q.2.1<=q.2.2):FD H n (qs++[q]) (ms++[m]):=by
 refine⟨by simp[h.len],λi a b=>?_⟩;have:=h.len;by_cases hi:i<qs.length
 ·rw[qBP hi,qBP O];exact h.at_ i hi O
 simp only[qAc,List.length_singleton]at a;have e:i=qs.length:=O;subst e;rw[qCs (aC _),qCs O];simp[this];exact⟨hv,hc⟩
def rQ(K:List Int)(qs:List lO)(z:Int):lO:=qs.getD (K.idxOf z) (none,0,0)
theorem ZhX(hl:qs.length=K.length)(xX:K.Nodup)(hk:k<K.length):rQ K qs K[k]=qs[k]'O:=by have h1:K.idxOf K[k]<K.length:=List.idxOf_lt_length_iff.2 (IN hk);have h2:K.idxOf K[k]=k:=(qDc xX).1 (List.getElem_idxOf h1);rw[rQ,h2,ZA O]
theorem Lp(E:Int->lO):∀l:List Int,Zb (l.map E)=pI E l
 | []=>rfl
 | z :: l=>by have ih:=Lp E l;show nC (E z) :: Zb (l.map E)=nC (E z) :: pI E l;rw[ih]
theorem Zsu(hl:qs.length=K.length)(xX:K.Nodup):pI (rQ K qs) K=Zb qs:=by
 have:K.map (rQ K qs)=qs:=qCc (by simp[hl]) λi h1 h2=>by rw[qBs,ZhX hl xX]
 rw[<-Lp,this]
def VT(b:Sb):List Int:=if ZF b=0/\Zi b=[]then Zm5 b else[]
theorem Zyz(ok:fN b)(m:Nat)(A:Option Addr)(c:Nat):fN (LF b m A c):=by have h:=Zyw ok m;exact⟨h.pl,h.hd,h.td,h.n,h.pk,h.nm,h.nn,h.nt⟩
theorem Zyy{A:Option Addr}{c:Nat}:Vk (LF b m A c)=!UM b m:=by rw[Vk,UM,Ko (b:=LF b m A c) (b':={ b with nt:=Y8 b m b.nt.length }) rfl rfl]
section
variable{P:bF}[Tz P][Loud P]{H:Hp}
theorem ZpC(hb:Zs H b)(sz:b.Sz)(hg:Yl H) :
  LL.Zc P 54 #[b.v] H λv H'=>bO H H'/\∃A c,v=.tuple #[.slice A (VT b).length c,vi (ZF b)]/\(VT b).length<=c/\aV H' (.slice A (VT b).length c) (VT b):=by
 refine aO.m (cF ZxY) (args:=[b.v]) rfl ?_;unfold Zlh Sb.v;refine Y ?_;refine Za (vs:=[b.v]) rfl (L3 hb sz hg) ?_;rintro v H1 ⟨i1,rfl⟩;refine Y ?_;refine OI (λh1=>?_) (λh1=>?_)
 ·have e:VT b=[]:=bY λh=>h1 h.1;rw[e];refine Y ?_;exact⟨i1,none,0,rfl,aC _,.nil _⟩
 have ok:=U2 (b:=b) h1;refine Y ?_;refine Za (vs:=[b.v]) rfl (Pt (hb.bA i1) ok) ?_;rintro v H2 ⟨i2,rfl⟩;have jI:=i1.trans i2;cases sR:Vk b with
 | true=>
  have e:VT b=[]:=bY λh=>by rw[Vk,h.2]at sR;simp at sR
  rw[e,h1];refine Y ?_;exact⟨jI,none,0,rfl,aC _,.nil _⟩
 | false=>
 have dG:Zi b=[]:=by simpa[Vk]using sR
 have e:VT b=Zm5 b:=iO ⟨h1,dG⟩;rw[e,h1];have BJ:=ok.nn;have T3:2 ^ b.nt.length<=2 ^ 3:=qBe (by decide) BJ;refine Y ?_;refine KC rfl rfl (.inr rfl) O (Zo3 BJ) (Y ?_);refine ZQ (α:=Hp×Value×List lO×Option Nat) (2 ^ b.nt.length) (λj s H'=>bO H s.1/\bO s.1 H'/\fZ s.1 H' 26 s.2.1 s.2.2.1 s.2.2.2/\FD s.1 b.nt.length s.2.2.1 (Ua b j))
  (λj s=>[(2,.slice none 0 0),(3,vi 0),(5,vi 0),(6,s.2.1),(22,vi (2 ^ b.nt.length:Nat)),(23,vi j)])
  (λj s=>[(1,b.cs),(5,b.cs)])
  (H2,.slice none 0 0,[],none) ⟨jI,.refl H2,.nil _ _ _,.nil _ _⟩ V V ?_
 rintro j ⟨G,v6,qs,b6⟩ H3 hj ⟨hG,KT,o6,rH⟩;simp only at hG KT o6 rH;have oG:=rH.len;have hol:=Ztx b j;refine Y ?_;refine OI (λh3=>?_) (λh3=>?_)
 ·have cH:j<2 ^ b.nt.length:=O;have HY:=Ztw b j;refine Y ?_;refine Za (vs:=[b.v,vi j]) rfl (Zpf (m:=j) (hb.bA (hG.trans KT)) O O) ?_;rintro v H4 ⟨i4,A8,c8,lv,bb,rfl,hb8,ow⟩;obtain⟨A9,c9,rfl,q9⟩:=L5 ow;refine Y ?_;refine Za (vs:=[(LF b j A8 c8).v]) rfl (Pt hb8 (Zyz ok j A8 c8)) ?_;rintro v H5 ⟨i5,rfl⟩;rw[Zyy];cases ho:UM b j with
  | true=>
   obtain⟨G',g1,g2,g3,g4⟩:=ZsZ KT o6 (i4.trans i5) ⟨(ow.bA i5).own,ow.fresh⟩;rw[ho,iO rfl]at HY;refine Y ?_;refine Z0 (cs:=[.slice A9 (YJ j b.nt.length).length c9]) (OL _) rfl λr5 yW=>Y ?_;refine Oa (l':=[((A9,(YJ j b.nt.length).length,c9):lO)]) (dC Rm) (dC Rm) (eI TK) rfl (by decide) (g2.trans (Zt yW)) (g3.ins yW) (Z2 (l:=[((A9,(YJ j b.nt.length).length,c9):lO)])) rfl (by simp;omega) O rfl rfl (OL _) λRj H6 Kd k1 k2 k3=>Y ?_;exact⟨(⟨j+1,O⟩,(G',Rj,qs++[(A9,(YJ j b.nt.length).length,c9)],Kd)),dX O,⟨hG.trans g1,k1,k2,by rw[HY];exact(rH.bA g1).Ee g4 q9⟩,V,V,rfl⟩
  | false=>
   rw[ho]at HY;simp only[iN,qAk,qAj]at HY;refine Y ?_;exact⟨(⟨j+1,O⟩,(G,v6,qs,b6)),dX O,⟨hG,(KT.trans i4).trans i5,(o6.bA i4).bA i5,by rw[HY];exact rH⟩,V,V,rfl⟩
 have:j=2 ^ b.nt.length:=O;subst this;have hK:(Z1 b).length=(Ua b (2 ^ b.nt.length)).length:=by rw[Z1,qAs]
 have KS:=Zun dG;have eU:=qBM.2 KS;have xX:=Zuo (b:=b) BJ;have T1:qs.length=(Z1 b).length:=by rw[hK];exact oG
 have HV:qs.length<=12:=O;obtain⟨h0,⟨_,h2,_⟩ | ⟨r,cap,rest,rfl,rfl,f3,f4,f5⟩⟩:=id o6.own
 ·exact absurd h2 O
 have Ws:=o6.fresh r rfl;have e1:=Zsu T1 xX;rw[<-e1]at f3 f4;have rN:∀(H':Hp),(∀b x,b≠r->H3 b=some x->H' b=some x)->∀z∈Z1 b,aV H' (nC (rQ (Z1 b) qs z)) (nO z)/\(rQ (Z1 b) qs z).2.1<=(rQ (Z1 b) qs z).2.2:=by
  intro H' hk z hz;obtain⟨k,sY,rfl⟩:=qAJ.1 hz;rw[ZhX T1 xX sY];have yY:k<(Ua b (2 ^ b.nt.length)).length:=O;obtain⟨a1,a2⟩:=rH.at_ k O yY;have hm:(Ua b (2 ^ b.nt.length))[k]<2 ^ b.nt.length:=qAq.1 (qAF.1 (IN yY)).1;have e:(Z1 b)[k]=xK (Ua b (2 ^ b.nt.length))[k]:=by simp[Z1]
  rw[e,ZpS BJ hm];refine⟨a1.bA λx y hx=>hk x y ?_ (KT x y hx),a2⟩;rintro rfl;rw[Ws]at hx;simp at hx
 have T0:∀z,(nO z).length<=1000000:=λz=>by
  unfold nO;rw[qAo];generalize z.toNat=k;match k with
  | 0=>decide
  | 1=>decide
  | 2=>decide
  | 3=>decide
  | 4=>decide
  | 5=>decide
  | 6=>decide
  | 7=>decide
  | k+8=>simp
 have hC:RJ P (rQ (Z1 b) qs) H3 r (vf 117) (λz=>z∈Z1 b):=by intro H' hk p q hp hq;have h:=ZnI (P:=P) (H:=H') (rN H' hk p hp).1 (rN H' hk q hq).1 (T0 p) (T0 q) (OL _);rw[ZpW (R4 hp) (R4 hq)]at h;exact Yk U h
 refine Y ?_;refine Za (vs:=[.slice (some ⟨r,0,none⟩) qs.length cap,vf 117]) rfl (ZoS (rest:=rest) hC (λk hk=>by rw[el,ZA hk];exact IN hk) f3 T1.symm HV) ?_;rintro v H4 ⟨l',ar,rg,so⟩;have hp:l'.Perm (Z1 b):=rg.perm O;have sX:l'.length=qs.length:=by rw[rg.len];exact T1.symm
 have nG:∀b x,b≠r->H3 b=some x->H4 b=some x:=ar.keep;have i4:bO H H4:=λx y hx=>nG x y (by rintro rfl;rw[YK hG Ws]at hx;simp at hx) (KT x y (hG x y hx));have jR:aV H4 (.slice (some ⟨r,0,none⟩) (l'.map (rQ (Z1 b) qs)).length cap) (l'.map (rQ (Z1 b) qs)):=by have h4:=ar.at_;rw[<-Lp]at h4;exact⟨_,cap,rfl,λ_=>⟨_,rfl,YM (ds:=rest) (ZC h4)⟩⟩
 have IH:qs.length=(l'.map (rQ (Z1 b) qs)).length:=by rw[qAs,sX]
 have BK:l'.map (rQ (Z1 b) qs)≠[]:=List.ne_nil_of_length_pos O;have Ho:(l'.map (rQ (Z1 b) qs)).map US=l'.map λz=>((nO z).length:Int):=by rw[List.map_map];refine qCP λz hz=>?_;obtain⟨_,_,e,_⟩:=(rN H4 nG z (hp.mem_iff.1 hz)).1;simp only[Value.slice.injEq]at e;show((rQ (Z1 b) qs z).2.1:Int)=_;rw[e.2.1]
 have F2:=ZvL hp (λx y NS hy=>so x y (qAR _) NS O) (List.ne_nil_of_length_pos O);have oV:=ZsH (P:=P) jR BK O;rw[Ho]at oV;rw[IH];refine Y ?_;refine Za (vs:=[.agg #[vf 119],.slice (some ⟨r,0,none⟩) (l'.map (rQ (Z1 b) qs)).length cap]) rfl oV ?_;rintro w _ ⟨rfl,hk,rfl⟩;have IK:Zp (l'.map λz=>((nO z).length:Int))<l'.length:=by rw[qAs]at hk;exact hk
 have hz:(l'.map (rQ (Z1 b) qs))[Zp (l'.map λz=>((nO z).length:Int))]=rQ (Z1 b) qs (RN b):=by rw[qBs,<-F2,el,ZA IK]
 rw[hz];have jN:RN b∈Z1 b:=by rw[<-F2,el,ZA IK];exact hp.mem_iff.1 (IN IK)
 obtain⟨s1,s2⟩:=rN H4 nG _ jN;obtain⟨A,c,e,hh⟩:=id s1;generalize rQ (Z1 b) qs (RN b)=q at *;obtain⟨qA,qn,qc⟩:=q;simp only[Value.slice.injEq]at e;obtain⟨rfl,rfl,rfl⟩:=e;refine Y ?_;exact⟨i4,qA,qc,rfl,s2,s1⟩
end
theorem kH.ok(h:kH b b')(ok:fN b):fN b':=by
 have oV:=h.pk;refine⟨by rw[h.pl];exact ok.pl,by rw[h.hd];exact ok.hd,by rw[h.td];exact ok.td,by rw[oV];exact ok.n,by rw[oV];exact ok.pk,by rw[oV];exact ok.nm,by rw[h.nl];exact ok.nn,λx hx=>?_⟩;obtain⟨i,hi,rfl⟩:=qAJ.1 hx;have gJ:i<b.nt.length:=by rw[<-h.nl];exact hi
 obtain⟨e1,e2,e3⟩:=h.nt i gJ hi;rw[e1,e2,e3,oV];exact ok.nt _ (IN gJ)
theorem kH.right(h:kH b b')(t:N4):fE b' t=fE b t:=by
 have key:∀i (h1:i<b.nt.length) (h2:i<b'.nt.length),KA t b'.nt[i]=KA t b.nt[i]:=λi h1 h2=>by obtain⟨e1,e2,e3⟩:=h.nt i h1 h2;rw[KA,KA,e1,e2,e3]
 rw[qCk,fE,fE,qAg,qAg];have hl:=h.nl;constructor
 ·intro g x hx;obtain⟨i,hi,rfl⟩:=qAJ.1 hx;rw[<-key i hi O];exact g _ (IN _)
 intro g x hx;obtain⟨i,hi,rfl⟩:=qAJ.1 hx;rw[key i O hi];exact g _ (IN _)
theorem kH.at_(h:kH b b')(j:Nat):aZ b' j=aZ b j:=by rw[aZ,aZ,h.pk]
theorem kH.RB(h:kH b b'):Zi b'=Zi b:=Xu (by rw[h.pk]) (λj=>by rw[h.at_];exact⟨rfl,rfl⟩) h.right
def JI:List Pk:=[⟨⟨#[107,101,101,108]⟩,4,4,2,3⟩,⟨⟨#[114,105,98]⟩,2,3,2,2⟩,⟨⟨#[97,114,109]⟩,3,3,1,4⟩]
def JJ(A:Option Addr):List Nt:=[⟨A,[0,1],2,6,7⟩]
def gE(A A1 A2:Option Addr):Sb:=⟨2,1,12,JI,JJ A,A1,3,A2,1⟩
section
variable(A A1 A2:Option Addr)
theorem Y4:fN (gE A A1 A2):=by have h:ZF (gE A A1 A2)=0:=U;exact U2 h
theorem Zoq:Zi (gE A A1 A2)=[⟨4,2,3,0⟩,⟨4,3,3,0⟩]:=U
theorem Du:Z9 (gE A A1 A2) [4,2,3] [0,1,2]=0:=U
theorem Ro:Z9 (gE A A1 A2) [4,3,3] [2,1,0]=0:=U
theorem sx3:VM (gE A A1 A2) (Ys [4,2,3]) [0,1,2]=[⟨0,4,4,6⟩,⟨0,2,2,4⟩,⟨2,5,6,7⟩]:=U
theorem sx4:VM (gE A A1 A2) (Ys [4,3,3]) [2,1,0]=[⟨3,7,7,9⟩,⟨0,3,4,6⟩,⟨0,3,3,4⟩]:=U
theorem sx5:LH (gE A A1 A2) (Ys [4,2,3]) [0,1,2]=[]:=U
theorem sx6:LH (gE A A1 A2) (Ys [4,3,3]) [2,1,0]=[1]:=U
theorem sx7:(Yh (gE A A1 A2) (Ys [4,2,3]) [0,1,2]).2=7:=U
theorem sx8:Oj (yO (Vi (gE A A1 A2) 1))=[2,3]:=U
theorem TL:Zn (gE A A1 A2) 0=0:=U
theorem Zox:OO (gE A A1 A2) [0,1,2]=(7,8):=U
theorem Qa:RX (gE A A1 A2) [0,1,2]=1/\RX (gE A A1 A2) [2,1,0]=0/\Ab (gE A A1 A2) [2,1,0] 1=0:=by refine⟨?_,?_,?_⟩<;>kernel_rfl
theorem ST:Zn (gE A A1 A2) (Yq (gE A A1 A2) [0,1,2])=0/\Zn (gE A A1 A2) (Yq (gE A A1 A2) [2,1,0])=0/\Zn (gE A A1 A2) (Oe (gE A A1 A2) [2,1,0] 1)=0/\Zn (gE A A1 A2) (Yz (gE A A1 A2) 1)=0:=by refine⟨?_,?_,?_,?_⟩<;>kernel_rfl
theorem Zg4:(iJ (gE A A1 A2) (Zi (gE A A1 A2))).length=3:=U
theorem Zow:Yu (gE A A1 A2) (Zi (gE A A1 A2))=[0,1,2]:=U
theorem Zov:(kX (gE A A1 A2) (Zi (gE A A1 A2)) [0,1,2]).lo=7/\(kX (gE A A1 A2) (Zi (gE A A1 A2)) [0,1,2]).hi=8:=by constructor<;>kernel_rfl
theorem Zou:V7 (gE A A1 A2) (Zi (gE A A1 A2))=1:=U
theorem Zot:Y7 (Zi (gE A A1 A2)) 3=(1,1):=U
theorem Zos:Vj (gE A A1 A2) 1 3 3=0:=U
theorem Zor:(Zi (Vy (gE A A1 A2) 1 3 3)).length=1:=U
end
theorem Qq{G:Prop} (h:G:=by
  have ID:m<hi:=O;refine Y ?_;refine Zd (f+p) rfl rfl O O (Y ?_);refine Zl (Loud.aL _) rfl (AT.cA hE ar O rfl) (Yx.len hE _) (Y ?_);refine Zd (f+m) rfl rfl O O (Y ?_);refine Zl (Loud.aL _) rfl (AT.cA hE ar O rfl) (Yx.len hE _) (Y ?_);refine ZN rfl rfl (hC _ (AT.keep ar) _ _ (ZI rg hb hS O) (ZI rg hb hS O)) ?_;intro vW KW hW;obtain⟨eA,eB⟩:=hW;subst eA eB;refine Y ?_;refine OI (λg4=>?_) (λg4=>?_);all_goals rw[Vv]at g4
  ·refine Y ?_;refine⟨c,ar,rg,hp.gL λm' h1 h2=>?_⟩;have:=oW m' h1 h2;omega
  refine Y ?_;refine Zd (f+m) rfl rfl O O (Y ?_);refine Zl (Loud.aL _) rfl (AT.cA hE ar O rfl) (Yx.len hE _) (Y ?_);refine Zd (f+p) rfl rfl O O (Y ?_);refine Zl (Loud.aL _) rfl (AT.cA hE ar O rfl) (Yx.len hE _) (Y ?_);refine Zd (f+p) rfl rfl O O (Y ?_);refine Z3 hE ar O rfl rfl rfl λHW fQ=>?_;refine Zq Loud.aL (Y ?_);refine Zd (f+m) rfl rfl O O (Y ?_);refine Z3 hE fQ (by rw[IF];omega) rfl rfl rfl λH4 dV=>Y ?_;have lA:(c.set (f+p) (el c (f+m))).set (f+m) (el c (f+p))=cY c (f+p) (f+m):=rfl;rw[lA]at dV;have iG:p<m:=O;refine⟨(⟨m-lo,O⟩,cY c (f+p) (f+m)),?_,⟨dV,.step _ _ rg O O O O,?_⟩,⟨rfl,rfl,rfl,rfl,rfl,?_,trivial⟩,trivial,rfl⟩
  ·show hi-lo-(m-lo)<hi-lo-j;omega
  ·show CN f lo hi _ (lo+(m-lo));rw[show lo+(m-lo)=m by omega];exact hp.step IC ID oW g4 O O
  show some (vi _)=some (vi ((lo+(m-lo):Nat):Int));congr 2;omega):G:=h
section
variable{P:bF}[Tz P][Loud P]{H:Hp}
theorem ZoY(hE:Yx E)(hC:YN P E H r cv S)(hS:∀k,k<l.length->S (el l k))(hA:H r=some (.cells (iQ E l++rest).toArray 122 (0,0),true))(hb:f+hi<=l.length)(IG:lo<=l.length)(hl:l.length<=1000000)(hx:p7 f (lo+1) hi l) :
  LL.Zc P 254 #[.slice (some ⟨r,0,none⟩) l.length cap,vi lo,vi hi,vi f,cv] H λv H'=>∃l',AT E H H' r l' rest/\Rg f (f+hi) l l'/\p7 f lo hi l':=by
 refine aO.m (cF ZwK) (args:=[.slice (some ⟨r,0,none⟩) l.length cap,vi lo,vi hi,vi f,cv]) rfl ?_;unfold Zj3;refine Y ?_;refine ZQ (α:=List Int) (hi-lo) (λj c H'=>AT E H H' r c rest/\Rg f (f+hi) l c/\CN f lo hi c (lo+j)) (λj c=>[(0,.slice (some ⟨r,0,none⟩) l.length cap),(1,vi lo),(2,vi hi),(3,vi f),(4,cv),(10,vi ((lo+j:Nat):Int))]) (λj c=>[]) l ⟨AT.of hA,.refl l,.of hx⟩ V trivial ?_;rintro j c H1 hj ⟨ar,rg,hp⟩;have bU:=rg.len;have Gt:lo<=lo+j:=O;have l8:lo+j<=l.length:=O;generalize hpe:lo+j=p at *;refine Y ?_;refine V8 rfl rfl ⟨O,O⟩ (Y ?_);refine OI (λg1=>?_) (λg1=>?_)
 ·refine Y ?_;refine⟨c,ar,rg,hp.gL λm hm ID=>?_⟩;rcases hm with h | h<;>omega
 have g1:2 * p+1<hi:=O;refine Y ?_;refine OI (λg2=>?_) (λg2=>?_)
 ·have g2:2 * p+1+1<hi:=O;refine Y ?_;refine Zd (f+(2 * p+1)) rfl rfl O O (Y ?_);refine Zl (Loud.aL _) rfl (AT.cA hE ar O rfl) (Yx.len hE _) (Y ?_);refine Zd (f+(2 * p+2)) rfl rfl O O (Y ?_);refine Zl (Loud.aL _) rfl (AT.cA hE ar O rfl) (Yx.len hE _) (Y ?_);refine ZN rfl rfl (hC _ (AT.keep ar) _ _ (ZI rg hb hS O) (ZI rg hb hS O)) ?_;intro vW KW hW;obtain⟨eA,eB⟩:=hW;subst eA eB;refine Y ?_;refine OI (λg3=>?_) (λg3=>?_);all_goals rw[Vv]at g3
  ·obtain⟨m,hm⟩:∃m,m=2 * p+2:=⟨_,rfl⟩;have oW:∀m',mI p m'->m'<hi->el c (f+m')<=el c (f+m):=λm' h1 h2=>by
    rcases h1 with h | h
    ·subst h hm;omega
    subst h hm;exact qAy _
   have IC:mI p m:=.inr hm;exact Qq
  obtain⟨m,hm⟩:∃m,m=2 * p+1:=⟨_,rfl⟩;have oW:∀m',mI p m'->m'<hi->el c (f+m')<=el c (f+m):=λm' h1 h2=>by
   rcases h1 with h | h
   ·subst h hm;exact qAy _
   subst h hm;omega
  have IC:mI p m:=.inl hm;exact Qq
 obtain⟨m,hm⟩:∃m,m=2 * p+1:=⟨_,rfl⟩;have oW:∀m',mI p m'->m'<hi->el c (f+m')<=el c (f+m):=λm' h1 h2=>by
  rcases h1 with h | h
  ·subst h hm;exact qAy _
  omega
 have IC:mI p m:=.inl hm;exact Qq
end
theorem YN.of{P:bF}{H H2:Hp}(h:YN P E H r cv S)(hk:∀b x,b≠r->H b=some x->H2 b=some x):YN P E H2 r cv S:=λH' gG=>h H' λb x hb hx=>gG b x hb (hk b x hb hx)
section
variable{P:bF}[Tz P][Loud P]{H:Hp}
theorem Zhk(hE:Yx E)(hC:YN P E H r cv S)(hS:∀k,k<l.length->S (el l k))(hA:H r=some (.cells (iQ E l++rest).toArray 122 (0,0),true))(hn:l.length=n)(hb:f+hi<=n)(IG:lo<=n)(hl:n<=1000000)(hx:p7 f (lo+1) hi l) :
  LL.Zc P 254 #[.slice (some ⟨r,0,none⟩) n cap,vi lo,vi hi,vi f,cv] H λv H'=>∃l',AT E H H' r l' rest/\Rg f (f+hi) l l'/\p7 f lo hi l':=by
 subst hn;exact ZoY hE hC hS hA hb IG hl hx
theorem ZuR{a:Nat}(hE:Yx E)(hC:YN P E H r cv S)(hS:∀k,k<l.length->S (el l k))(hA:H r=some (.cells (iQ E l++rest).toArray 122 (0,0),true))(hb:a+hi<=l.length)(hl:l.length<=1000000) :
  Xx P 234 E H r cap l rest a (a+hi) [cv] λ_ l'=>So a (a+hi) l':=by
 have Jx:(((a+hi:Nat):Int)-(a:Int))=(hi:Int):=O;refine aO.m (cF ZwS) (args:=[.slice (some ⟨r,0,none⟩) l.length cap,vi a,vi (a+hi:Nat),cv]) rfl ?_;unfold Zkb;refine Y ?_;rw[Jx];refine Y ?_;refine VC rfl rfl (by decide) (by rw[Aa];exact⟨O,O⟩) ?_;rw[Aa];refine Y ?_;refine ZQ (α:=List Int) ((hi-1) / 2+1) (λj c H'=>AT E H H' r c rest/\Rg a (a+hi) l c/\p7 a ((hi-1) / 2+1-j) hi c)
  (λj c=>[(0,.slice (some ⟨r,0,none⟩) l.length cap),(3,cv),(8,vi a),(9,vi 0),(10,vi hi),(11,vi (((hi-1) / 2+1-j:Nat)-1:Int))]) (λj c=>[]) l ⟨AT.of hA,.refl l,λk m h1 h2 h3=>by unfold mI at h2;omega⟩ ⟨rfl,rfl,rfl,rfl,rfl,?_,trivial⟩ trivial ?_
 ·show some (vi _)=some (vi _);congr 2;omega
 rintro j c H1 hj ⟨ar,rg,hp⟩;have bU:=rg.len;refine Y ?_;refine OI (λg1=>?_) (λg1=>?_)
 ·obtain⟨i,gJ⟩:∃i,(hi-1) / 2+1-j=i+1:=⟨(hi-1) / 2+1-j-1,O⟩;have ei:((((hi-1) / 2+1-j:Nat)-1:Int))=(i:Int):=O;rw[gJ]at hp;rw[ei];refine Y ?_;refine Za (vs:=[.slice (some ⟨r,0,none⟩) l.length cap,vi i,vi hi,vi a,cv]) rfl (Zhk hE (hC.of ar.keep) (λk hk=>ZI rg hb hS hk) ar.at_ bU hb O hl hp) ?_;rintro v H2 ⟨c2,kV,nR,BF⟩;refine Y ?_;refine⟨(⟨j+1,O⟩,c2),dX O,⟨ar.trans kV,rg.trans nR,?_⟩,⟨rfl,rfl,rfl,rfl,rfl,?_,trivial⟩,trivial,rfl⟩
  ·show p7 a ((hi-1) / 2+1-(j+1)) hi c2;rw[show(hi-1) / 2+1-(j+1)=i by omega];exact BF
  show some (vi _)=some (vi _);congr 2;show(i:Int)-1=(((hi-1) / 2+1-(j+1):Nat):Int)-1;omega
 have qE:(hi-1) / 2+1-j=0:=O;rw[qE]at hp;refine Y ?_;refine ZQ (α:=List Int) hi (λj c H'=>AT E H H' r c rest/\Rg a (a+hi) l c/\p7 a 0 (hi-j) c/\So (a+(hi-j)) (a+hi) c/\∀x y,a<=x->x<a+(hi-j)->a+(hi-j)<=y->y<a+hi->el c x<=el c y)
  (λj c=>[(0,.slice (some ⟨r,0,none⟩) l.length cap),(3,cv),(8,vi a),(9,vi 0),(12,vi ((hi-j:Nat)-1:Int))]) (λj c=>[]) c ⟨ar,rg,hp,Um c O,λx y h1 h2 h3 h4=>O⟩ V trivial ?_
 rintro j' c' H2 cH ⟨kG,mW,rS,lM,pK⟩;have mB:=mW.len;refine Y ?_;refine OI (λg2=>?_) (λg2=>?_)
 ·obtain⟨i,gJ⟩:∃i,hi-j'=i+1:=⟨hi-j'-1,O⟩;have ei:(((hi-j':Nat)-1:Int))=(i:Int):=O;rw[gJ]at rS lM pK;rw[ei];have Hg:=Zmc rS;refine Y ?_;refine Zd (a+i) rfl rfl O O (Y ?_);refine Zl (Loud.aL _) rfl (AT.cA hE kG O rfl) (Yx.len hE _) (Y ?_);refine Zd a rfl rfl O O (Y ?_);refine Zl (Loud.aL _) rfl (AT.cA hE kG O rfl) (Yx.len hE _) (Y ?_);refine Zd a rfl rfl O O (Y ?_);refine Z3 hE kG O rfl rfl rfl λHW fQ=>?_;refine Zq Loud.aL (Y ?_);refine Zd (a+i) rfl rfl O O (Y ?_);refine Z3 hE fQ (by rw[IF];omega) rfl rfl rfl λH4 dV=>Y ?_;have lA:(c'.set a (el c' (a+i))).set (a+i) (el c' a)=cY c' a (a+i):=rfl;rw[lA]at dV;have es:∀x,el (cY c' a (a+i)) x=if x=a+i then el c' a else if x=a then el c' (a+i)else el c' x:=λx=>Yi x O O
  have kK:∀x,a<=x->x<a+i->∃x',a<=x'/\x'<a+(i+1)/\el (cY c' a (a+i)) x=el c' x':=λx h1 h2=>by
   rw[es,bY O];by_cases e:x=a
   ·rw[iO e];exact⟨a+i,O,O,rfl⟩
   rw[bY e];exact⟨x,O,O,rfl⟩
  have Gr:p7 a 1 i (cY c' a (a+i)):=λk m h1 h2 h3=>by
   have:m≠0/\k<i:=by unfold mI at h2;omega
   rw[es,es,bY O,bY O,bY O,bY O];exact rS k m (qAR _) h2 O
  refine Za (vs:=[.slice (some ⟨r,0,none⟩) l.length cap,vi (0:Nat),vi i,vi a,cv]) rfl (Zhk hE (hC.of dV.keep) (λk hk=>ZI (Rg.step a (a+i) mW O O O O) hb hS hk) dV.at_ (by rw[SS,mB]) O O hl Gr) ?_;rintro v H5 ⟨c2,kV,nR,BF⟩;have tT:a+i<=(cY c' a (a+i)).length:=by rw[SS];omega
  have z9:∀k,a+i<=k->el c2 k=el (cY c' a (a+i)) k:=λk hk=>nR.out tT (.inr hk);have qX:∀k,a+i<k->el c2 k=el c' k:=λk hk=>by rw[z9 k O,es,bY O,bY O]
  have z8:el c2 (a+i)=el c' a:=by rw[z9 _ (aC _),es,iO rfl]
  have dY:∀(p:Int->Prop),(∀x',a<=x'->x'<a+(i+1)->p (el c' x'))->∀k,a<=k->k<a+i->p (el c2 k):=λp hp k h1 h2=>
   nR.all tT (p:=p) (λk h1 h2=>by obtain⟨x',g1,g2,g3⟩:=kK k h1 h2;rw[g3];exact hp x' g1 g2) k h1 h2
  have JL:hi-(j'+1)=i:=O;refine Y ?_;refine⟨(⟨j'+1,O⟩,c2),qCN O (qCD j'),⟨dV.trans kV,(Rg.step _ _ mW O O O O).trans (nR.mono (aC _) O),?_,?_,?_⟩,⟨rfl,rfl,rfl,rfl,?_,trivial⟩,trivial,rfl⟩
  ·show p7 a 0 (hi-(j'+1)) c2;rw[JL];exact BF
  ·show So (a+(hi-(j'+1))) (a+hi) c2;rw[JL];refine V5 λx h1 h2=>?_;by_cases e:x=a+i
   ·subst e;rw[z8,qX _ O];exact pK a _ (aC _) O O h2
   rw[qX _ O,qX _ O];exact lM x (x+1) O O h2
  ·show ∀x y,a<=x->x<a+(hi-(j'+1))->a+(hi-(j'+1))<=y->y<a+hi->el c2 x<=el c2 y;rw[JL];intro x y h1 h2 h3 h4;by_cases e:y=a+i
   ·subst e;rw[z8];refine dY (·<=el c' a) (λx' g1 g2=>?_) x h1 h2;have:=Hg (x'-a) O;rwa [show a+(x'-a)=x' by omega]at this
   rw[qX y O];exact dY (·<=el c' y) (λx' g1 g2=>pK x' y g1 g2 O h4) x h1 h2
  show some (vi _)=some (vi _);congr 2;show(i:Int)-1=((hi-(j'+1):Nat):Int)-1;omega
 have:hi-j'=0:=O;rw[this]at lM;refine Y ?_;exact⟨c',kG,mW,lM⟩
end
