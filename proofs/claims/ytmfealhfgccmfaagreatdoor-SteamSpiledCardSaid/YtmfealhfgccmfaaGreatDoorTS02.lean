import Derived.Test.YtmfealhfgccmfaaGreatDoorTS01
set_option linter.all false
set_option maxHeartbeats 4000000
set_option maxRecDepth 20000
def rQ{G:Prop}(h:G:=by refine Y ?_;exact⟨rfl,by rw[stop (by simp;omega)];rfl⟩):G:=h
def vQ{G:Prop}(h:G:=by show some (vi (-b.sl+k+1))=some (vi (-b.sl+(k+1:Nat)));congr 2;omega):G:=h
def GG{G:Prop}(h:G:=by refine Y ?_;have:j=b.iE.length:=O;subst this;rw[qCQ]at lZ;exact⟨rfl,by rw[nE,iF O,lZ];rfl⟩):G:=h
def GC{G:Prop}(h:G:=by refine Y ?_;refine⟨.refl H,.inl ⟨?_,rfl⟩⟩;refine qAb λhn=>?_;obtain⟨a,rfl,_⟩:=hh hn;simp at h1):G:=h
section
open Go Go.LL Go.Conc Go.ConcM
namespace Go.Proofs.YtmfealhfgccmfaaGreatDoor
def QP:Tryz.pinned.checked.prog.funcNamed Rows.steamSpiledRow.func=some 3:=U
def Gx:(Rows.steamSpiledRow.inPlace == Tryz.pinned.checked.prog.inPlace 3)=true:=U
def Gy:(Rows.steamSpiledRow.unfollowed == Tryz.pinned.checked.prog.unfollowed 3)=true:=U
def Gz:(Rows.steamSpiledRow.recurses == Tryz.pinned.checked.prog.recurses 3)=true:=U
def Hd:(Rows.steamSpiledRow.named == Tryz.pinned.checked.prog.varsNamed 3)=true:=U
def Gw:joinedFacts Tryz.pinned.checked.prog 3 Tryz.f3 Rows.steamSpiledSpec Rows.steamSpiledRow=true:=by unfold joinedFacts;exact fQ (fQ (fQ (fQ (fQ (fQ (fQ (fQ (fQ (fQ (fQ (fQ (fQ (fQ (fQ (fQ (fQ (fQ (fQ (fQ (fQ (fQ (fQ (fQ (fQ (fQ (fQ (fQ (fQ (fQ (fQ U Kj) uZ) U) U) U) U) U) U) Gx) Gy) Gz) Hd) U) U) U) U) U) U) U) U) U) U) U) sP) sQ) U) U) U) U) U) U
def He:Tryz.f3.isInstance Tryz.pinned.checked.prog Rows.steamSpiledRow.origin Rows.steamSpiledRow.targs:=of_decide_eq_true U
def Hg:Tryz.f3.isWrapper Tryz.pinned.checked.prog Rows.steamSpiledRow.wrapper Rows.steamSpiledRow.mainSum:=by unfold Func.isWrapper;first | (rw[qAa (by decide +kernel)];kernel_rfl) | (rw[iF (by decide +kernel)];exact⟨rfl,rfl⟩)
end Go.Proofs.YtmfealhfgccmfaaGreatDoor
end
open Go Go.LL
namespace Go.Proofs
variable{α:Type}{c:nT}{z:Int}{o:Bk}{bv cv fv y:Value}{x:gJ}{E1 E2 E3:TypeId}
def sX(b:Bk):Bool:=decide (b.fM.length<=20) && decide (b.iE.length<=20) && decide (jY b=0)
def uI(b:Bk):List gJ:=(mR b b.fM.length).flatMap λl=>(iA b).map λk=>(⟨YQ l,k.bf,k.gQ⟩:gJ)
def Gm{β:Type}(l:List α)(f:α->List β)(p:β->Bool):(l.flatMap f).filter p=l.flatMap λa=>(f a).filter p:=by
 induction l with
 | nil=>rfl
 | cons a l ih=>simp[qAI,ih]
theorem M3{b:Bk}(v:jB b):gT b=(uI b).filter (mJ b):=by rw[M4 v,uI,Gm];rfl
def NA{n:Nat}:∀{l:List nT},(∀c∈l,(0<=c.p/\c.p<n)/\(-199<=c.gl/\c.gl<=c.gh/\c.gh<=199))->x6 n l=0
 | [],_=>rfl
 | c :: l,h=>by have b:=h c (qAB ..);rw[x6,iF O,iF O];exact NA λd a=>h d (qAm _ a)
def JJ{b:Bk}(v:jB b):jY b=0:=by
 have j:lT b=0:=by rw[lT,qAa ⟨v.op,v.sl⟩]
 have k:lF b=0:=by rw[lF,iF (by have:=v.n;omega),qAa];rw[qAf];intro p q;obtain⟨i,m,rfl⟩:=qAz.1 q;obtain⟨f,h,a3,a4⟩:=v.fM i m;simp only[vI,qAc,qAK];exact⟨⟨⟨f,h⟩,a3⟩,a4⟩
 have l:x6 b.fM.length b.iE=0:=NA v.iE;rw[jY,iF (by simp[j]),iF (by simp[k]),nE,iF (by have:=v.L3;omega),l]
def Hx{b:Bk}:qE b=true↔0<(gT b).length:=by rw[qE];cases gT b<;>simp
def Fy{b:Bk}(v:jB b):kD b true=if 0<(gT b).length then 0 else 9:=by
 rw[kD,iF (by simp[JJ v]),iF (by simp)];by_cases h:0<(gT b).length
 ·rw[iF O,qAa h]
 rw[qAa O,iF h]
def Hj{b:Bk}{i:Nat}(h:i<b.fM.length):decide (0<=(i:Int)/\(i:Int)<b.fM.length)=true:=decide_eq_true ⟨O,O⟩
def IH{b a:Bk}(h:b.fM=a.fM):∀i,mR b i=mR a i
 | 0=>rfl
 | i+1=>by
  have:jM b i=jM a i:=by rw[jM,jM,iH,iH,h]
  rw[mR,mR,IH h i,this]
def Ce{b b':Bk}(h:b.fM=b'.fM)(a:b.sl=b'.sl):uI b=uI b':=by
 have:iA b=iA b':=by rw[iA,iA,h,a]
 rw[uI,uI,IH h,h,this]
def HZ{b a:Bk}(h:b.op=a.op)(e:b.fM.length=a.fM.length)(x:gJ):iZ b x=iZ a x:=by simp only[iZ,sY,h,e]
def Hn(b:Bk)(c:nT)(x:gJ):mJ (kR b c) x=(mJ b x && rH (iZ b x) c):=by have e:iZ (kR b c) x=iZ b x:=HZ rfl rfl x;rw[mJ,e];show(b.iE++[c]).all _=_;rw[qBO,mJ];simp
def Dc{b:Bk}(v:jB b)(a:jB (kR b c)):gT (kR b c)=(gT b).filter λx=>rH (iZ b x) c:=by rw[M3 a,M3 v,List.filter_filter,Ce (b:=kR b c) (b':=b) rfl rfl];refine qDS λx _=>?_;rw[Hn,Bool.and_comm]
def y5{b:Bk}{p:Nat}:z∈gapL b p↔∃x∈gT b,(iZ b x).get p=z:=by rw[HX rfl,(JC _).2,qAy]
structure wD(b o:Bk):Prop where
 op:o.op=b.op
 n:o.fM.length=b.fM.length
 bd:∀i,i<b.fM.length->(iH o i).bl=(iH b i).bl/\(iH o i).bh=(iH b i).bh/\(iH o i).w=(iH b i).w
 sub:∀x∈gT o,x∈gT b
def wD.Xg{b:Bk}(h:wD b o)(x:gJ):iZ o x=iZ b x:=HZ h.op h.n x
def wD.gapL{b:Bk}(h:wD b o){i:Nat}(f:z∈gapL o i):z∈gapL b i:=by obtain⟨x,a,e⟩:=y5.1 f;rw[h.Xg]at e;exact y5.2 ⟨x,h.sub x a,e⟩
def wD.pos{b:Bk}(h:wD b o)(a:0<(gT o).length):0<(gT b).length:=by obtain⟨x,e⟩:=qDY a;exact List.length_pos_of_mem (h.sub x e)
def Fi{b:Bk}(v:jB b)(e:jB (kR b c)):wD b (kR b c) where
 op:=rfl
 n:=rfl
 bd:=λ_ _=>⟨rfl,rfl,rfl⟩
 sub:=λx a=>by rw[Dc v e]at a;exact(qAu.1 a).1
section
variable{P:fP}[Tz P][Loud P]{H:Hp}
def Gd{p q:zD}:yE p q=true↔p=q:=by cases p;cases q;simp[yE]
def Ck{p q:nT}:yD p q=true↔p=q:=by cases p;cases q;simp[yD]
def IT{l m:List α}{j:Nat}(a:j<l.length)(b:j<m.length)(h:l.take j=m.take j)(e:l[j]=m[j]):l.take (j+1)=m.take (j+1):=by rw[BY a,BY b,h,e]
end
def nB(b:Bk):Nat:=(gT b).length
def oS(b:Bk):Int:=if 0<nB b then 0 else 9
def Fv{b:Bk}(v:jB b):kD b true=oS b:=Fy v
def E6{b:Bk}(h:0<nB b):oS b=0:=qAa h
def Fq{b:Bk}(h:¬ 0<nB b):gT b=[]:=qBj.1 (by unfold nB at h;omega)
def Fc{b:Bk}(h:¬ 0<nB b)(i:Nat):gapL b i=[]:=List.eq_nil_iff_forall_not_mem.2 λz e=>by obtain⟨x,a,_⟩:=y5.1 e;rw[Fq h]at a;simp at a
def HV{b:Bk}(v:jB b)(i:Nat):(gapL b i).length<=1782:=by rw[HX rfl];have a:=Ga ((gT b).map λx=>(iZ b x).get i);rw[qAd]at a;have e:=BN v;omega
def Gn{b:Bk}(h:sX b=true):jB b:=by simp only[sX,qAc,qAK]at h;exact tB h.2
theorem Cw{H:Hp}{v:Value}{s:Int}{b:Bk}(h:Pd H v s b):∃e p i a c f x y,v=.tuple #[.agg #[vi x,vi y,.slice e p i,.slice a c f],vi s]/\iM H (.agg #[vi x,vi y,.slice e p i,.slice a c f]) (if s=0 then b else Xp):=by obtain⟨w,rfl,h⟩:=h;obtain⟨l,cv,rfl,k,j⟩:=id h;obtain⟨e,i,rfl,_⟩:=id k;obtain⟨a,f,rfl,_⟩:=id j;exact⟨_,_,_,_,_,_,_,_,rfl,h⟩
def Cr{b:Bk}(h:rG b=0):jB b/\0<nB b:=by
 unfold rG at h;split at h
 ·rename_i a;exact absurd h a
 rename_i a;have v:=tB (b:=b) (qAb a);split at h
 ·simp at h
 rename_i e;exact⟨v,Hx.1 (by simpa using e)⟩
def Cl{b:Bk}(h:uJ b c=0):jB (kR b c)/\0<nB (kR b c):=by
 unfold uJ at h;split at h
 ·rename_i a;exact absurd h a
 exact Cr h
section
variable{P:fP}[Tz P]{H:Hp}
def uK(n e b:Int):LL.Zb P 156 #[vi n,vi e,vi b] H λv f=>H=f/\v=vb (decide (e<=n/\n<=b)):=by refine aU.m (fO Dj) rfl ?_;unfold JP;refine OJ (λa=>?_) (λa=>?_)<;>refine Y ?_<;>exact⟨rfl,by simp[Y3,a]⟩
def E9(a b i h:Int)(k:P.still H.gh=false):LL.Zb P 394 #[.agg #[vi a,vi b],vi i,vi h] H λv j=>H=j/\v=vb (decide (i<=a/\a<=b/\b<=h)):=by refine aU.m (fO Dn) rfl ?_;unfold JU;refine OJ (λe=>?_) (λe=>?_)<;>refine Y ?_;refine OI (λf=>?_) (λf=>?_)<;>refine Y ?_<;>exact⟨rfl,by simp[Y3,e,f]⟩;exact⟨rfl,by simp[Y3,e]⟩
def ID{b:Bk}(hb:iM H bv b)(n:Int)(i:b.fM.length<=1000000)(f:P.still H.gh=false):LL.Zb P 76 #[bv,vi n] H λv a=>H=a/\v=vb (decide (0<=n/\n<b.fM.length)):=by obtain⟨j,cv,rfl,e,h⟩:=hb;refine aU.m (fO c99) rfl ?_;unfold n99;refine Y ?_;refine YH e rfl (Y ?_);refine Z7 (vs:=[vi n,vi 0,vi (b.fM.length-1)]) rfl (uK _ _ _) ?_;rintro v _ ⟨rfl,rfl⟩;refine Y ?_;exact⟨rfl,qAx vb (qCO.2 O)⟩
def Gh{b:Bk}(hb:iM H bv b)(h:P.still H.gh=false):LL.Zb P 391 #[bv] H λv a=>H=a/\v=vi (lT b):=by
 obtain⟨k,cv,rfl,j,i⟩:=hb;refine aU.m (fO Bu) rfl ?_;unfold I4;refine Y ?_;refine Z7 (vs:=[vi b.op,vi 0,vi 99]) rfl (uK _ _ _) ?_;rintro v _ ⟨rfl,rfl⟩;refine OJ (λe=>?_) (λe=>?_)
 ·refine Y ?_;exact⟨rfl,by simp[Y3,lT];omega⟩
 refine Y ?_;refine Z7 (vs:=[vi b.sl,vi 0,vi 3]) rfl (uK _ _ _) ?_;rintro v _ ⟨rfl,rfl⟩;refine OJ (λf=>?_) (λf=>?_)
 ·refine Y ?_;exact⟨rfl,by simp[Y3,lT];omega⟩
 refine Y ?_;exact⟨rfl,by simp[Y3,lT];omega⟩
def Gc{b:Bk}(hb:iM H bv b)(E:b.fM.length<=1000000)(k:P.still H.gh=false):LL.Zb P 392 #[bv] H λv l=>H=l/\v=vi (lF b):=by
 obtain⟨B,cv,rfl,n,C⟩:=hb;refine aU.m (fO Bv) rfl ?_;unfold I5;refine Y ?_;refine YH n rfl (Y ?_);refine Z7 (vs:=[vi b.fM.length,vi 2,vi 4]) rfl (uK _ _ _) ?_;rintro v _ ⟨rfl,rfl⟩;refine OJ (λq=>?_) (λq=>?_)
 ·refine Y ?_;exact⟨rfl,by simp[Y3,lF];omega⟩
 refine Y ?_;refine YH n rfl (Y ?_);refine ZC b.fM.length (λj l=>H=l/\(b.fM.take j).all vI=true) (λj=>[(13,B),(14,vi b.fM.length),(15,vi j)]) (λ_=>[]) ⟨rfl,by simp⟩ V trivial ?_;rintro j _ D ⟨rfl,f⟩;refine OJ (λr=>?_) (λr=>?_)
 ·refine Y ?_;refine yZ n rfl rfl rfl (i:=j) O λa A=>Y ?_;refine Zn k rfl A rfl (Y ?_);refine Z7 (vs:=[.agg #[vi b.fM[j].ml,vi b.fM[j].mh],vi 0,vi 99]) rfl (E9 _ _ _ _ k) ?_;rintro v _ ⟨rfl,rfl⟩;refine Y ?_;have next:vI b.fM[j]=true->(b.fM.take (j+1)).all vI=true:=λh=>by rw[ER O,f,h];rfl
  have stop:vI b.fM[j]=false->lF b=1:=λh=>by rw[lF,iF O,EQ O h];rfl
  unfold vI at next stop
  refine OI (λp=>?_) (λp=>?_)
  ·refine Y ?_;exact⟨rfl,by rw[stop (by simp[p])];rfl⟩
  refine OJ (λs=>?_) (λs=>?_)
  ·exact rQ
  refine Y ?_;refine Z7 (vs:=[.agg #[vi b.fM[j].bl,vi b.fM[j].bh],vi 0,vi 199]) rfl (E9 _ _ _ _ k) ?_;rintro v _ ⟨rfl,rfl⟩;refine OJ (λt=>?_) (λt=>?_)
  ·exact rQ
  refine Y ?_;refine Z7 (vs:=[vi b.fM[j].w,vi 0,vi 199]) rfl (uK _ _ _) ?_;rintro v _ ⟨rfl,rfl⟩;refine OJ (λu=>?_) (λu=>?_)
  ·exact rQ
  refine Y ?_;exact⟨⟨j+1,O⟩,gI O,⟨rfl,next (by simp;omega)⟩,V,trivial,rfl⟩
 refine Y ?_;have:j=b.fM.length:=O;subst this;exact⟨rfl,by rw[lF,iF O,qAa (by simpa using f)];rfl⟩
end
def FB:Tryz.prog.underlying 280=some (.array 3 279):=U
def FA:Yw Tryz.prog 279=some (1,some .nilFunc,8):=U
def EP:Ym Tryz.prog 279=some none:=U
def qS(H:Hp):Prop:=aM H ⟨0,0,none⟩ [vf 391,vf 392,vf 393]
section
variable{P:fP}[Tz P]{H:Hp}
def Cj{b:Bk}(hb:iM H bv b)(w:b.fM.length<=1000000)(A:b.iE.length<=1000000)(e:P.still H.gh=false):LL.Zb P 393 #[bv] H λv h=>H=h/\v=vi (nE b):=by
 have k:=hb;obtain⟨r,cv,rfl,C,l⟩:=hb;refine aU.m (fO Bw) rfl ?_;unfold I6;refine Y ?_;refine YH l rfl ?_;refine OJ (λs=>?_) (λs=>?_)
 ·refine Y ?_;exact⟨rfl,by rw[nE,qAa O];rfl⟩
 refine Y ?_;refine YH l rfl (Y ?_);refine ZC b.iE.length (λj h=>H=h/\x6 b.fM.length b.iE=x6 b.fM.length (b.iE.drop j)) (λj=>[(1,vi 0),(12,cv),(13,vi b.iE.length),(14,vi j)]) (λ_=>[(1,[vi b.op,vi b.sl,r,cv])]) ⟨rfl,rfl⟩ V V ?_;rintro j _ B ⟨rfl,lZ⟩;refine OJ (λt=>?_) (λt=>?_)
 ·have f:j<b.iE.length:=O;rw[CI f,x6]at lZ;refine Y ?_;refine yZ l rfl rfl rfl (i:=j) f λa u=>Y ?_;refine Zn e rfl u rfl (Y ?_);refine Z7 (vs:=[.agg #[vi b.op,vi b.sl,r,cv],vi b.iE[j].p]) rfl (ID k _ w e) ?_;rintro v _ ⟨rfl,rfl⟩;refine OJ (λn=>?_) (λn=>?_)
  ·refine Y ?_;exact⟨rfl,by rw[nE,iF O,lZ,qAa n];rfl⟩
  refine Y ?_;refine Z7 (vs:=[.agg #[vi b.iE[j].gl,vi b.iE[j].gh],vi (-199),vi 199]) rfl (E9 _ _ _ _ e) ?_;rintro v _ ⟨rfl,rfl⟩;refine OJ (λq=>?_) (λq=>?_)
  ·refine Y ?_;exact⟨rfl,by rw[nE,iF O,lZ,iF O,qAa q];rfl⟩
  refine Y ?_;rw[iF O,iF O]at lZ;exact⟨⟨j+1,O⟩,gI O,⟨rfl,lZ⟩,V,V,rfl⟩
 exact GG
def EO{b:Bk}(hb:iM H bv b)(u:qS H)(r:b.fM.length<=1000000)(q:b.iE.length<=1000000)(e:P.still H.gh=false):LL.Zb P 68 #[bv] H λv l=>H=l/\v=vi (jY b):=by
 have f:=hb;obtain⟨w,cv,rfl,C,A⟩:=hb;refine aU.m (fO c78) rfl ?_;unfold n78;refine Y ?_;refine Zn e rfl u rfl (Y ?_);refine ZC 3 (λj l=>H=l/\(1<=j->lT b=0)/\(2<=j->lF b=0)/\(3<=j->nE b=0)) (λj=>[(1,vi 0),(6,.agg #[vf 391,vf 392,vf 393]),(7,vi j)]) (λ_=>[(1,[vi b.op,vi b.sl,w,cv])]) ⟨rfl,O,O,O⟩ V V ?_;rintro j _ B ⟨rfl,k,n,s⟩;refine OJ (λt=>?_) (λt=>?_)
 ·have p:j=0\/j=1\/j=2:=O;refine Y ?_;rcases p with rfl | rfl | rfl
  ·refine uH (fU FB) (fT FA) (rD EP) rfl rfl (i:=0) O rfl (Y ?_);refine ZP rfl rfl (Yv U (Gh f e)) ?_;rintro v _ ⟨rfl,rfl⟩;refine OJ (λa=>?_) (λa=>?_)
   ·refine Y ?_;exact⟨rfl,by rw[jY,qAa (by exact a)];rfl⟩
   refine Y ?_;exact⟨⟨1,O⟩,(by show 3-1<3-0;omega),⟨rfl,λ_=>a,λh=>absurd (show 2<=1 from h) O,λh=>absurd (show 3<=1 from h) O⟩,V,V,rfl⟩
  ·refine uH (fU FB) (fT FA) (rD EP) rfl rfl (i:=1) O rfl (Y ?_);refine ZP rfl rfl (Yv U (Gc f r e)) ?_;rintro v _ ⟨rfl,rfl⟩;refine OJ (λa=>?_) (λa=>?_)
   ·refine Y ?_;exact⟨rfl,by rw[jY,iF (by rw[k O];simp),qAa a];rfl⟩
   refine Y ?_;exact⟨⟨2,O⟩,(by show 3-2<3-1;omega),⟨rfl,λ_=>k O,λ_=>a,λh=>absurd (show 3<=2 from h) O⟩,V,V,rfl⟩
  refine uH (fU FB) (fT FA) (rD EP) rfl rfl (i:=2) O rfl (Y ?_);refine ZP rfl rfl (Yv U (Cj f r q e)) ?_;rintro v _ ⟨rfl,rfl⟩;refine OJ (λa=>?_) (λa=>?_)
  ·refine Y ?_;exact⟨rfl,by rw[jY,iF (by rw[k O];simp),iF (by rw[n O];simp)];rfl⟩
  refine Y ?_;exact⟨⟨3,O⟩,(by show 3-3<3-2;omega),⟨rfl,λ_=>k O,λ_=>n O,λ_=>a⟩,V,V,rfl⟩
 have:j=3:=O;subst this;refine Y ?_;exact⟨rfl,by rw[jY,iF (by rw[k O];simp),iF (by rw[n O];simp),s O];rfl⟩
end
instance:Enc gJ:=⟨6,λx=>x.cells,λ_=>rfl⟩
section
variable{P:fP}[Tz P]{H:Hp}
def HY{b:Bk}(hb:iM H bv b)(ok:EN b)(f:CK x)(e:P.still H.gh=false):LL.Zb P 77 #[bv,l8 x] H λv i=>H=i/\v=ZI (iZ b x):=by
 obtain⟨A,cv,rfl,t,B⟩:=hb;have n:=ok.le;obtain⟨r,s⟩:=ok.op;obtain⟨u,w⟩:=f.gQ;refine aU.m (fO Dg) rfl ?_;unfold II;refine Y ?_;refine YH t rfl (Y ?_);refine ZC b.fM.length (λj i=>H=i) (λj=>[(2,vi 0),(3,vi 0),(4,vi 0),(5,vi 0),(10,vi b.fM.length),(11,vi j)]) (λj=>[(2,[vi b.op,vi b.sl,A,cv]),(3,x.cells),(4,[vi 0,vi 0,vi 0,vi 0]),(5,(pH b x j).cells)]) rfl V V ?_;rintro j _ C rfl;refine OJ (λl=>?_) (λl=>?_)
 ·have a:j<4:=O;obtain⟨p,q⟩:=f.m j a;refine Y ?_;refine sV rfl rfl a (Y ?_);refine wB e rfl rfl (Da x a) (Y ?_);refine sV rfl rfl a (Y ?_);refine EL e rfl rfl rfl rfl (by show 0+j * 1+1<=4;omega) rfl ?_;refine OJ (λk=>?_) (λk=>?_)
  ·refine Y ?_;refine sV rfl rfl a (Y ?_);refine wB (v:=vi (b.op-x.m.get j)) e rfl rfl (by show(ZR (pH b x j).cells (0+j * 1) [vi (b.op-x.m.get j)])[0+j * 1]? = _;rw[HI _ _ a,Kg _ a,N4.iC _ _ a,qAa rfl]) (Y ?_);refine sV rfl rfl a (Y ?_);refine EL e rfl rfl rfl rfl (by show 0+j * 1+1<=(ZR (pH b x j).cells (0+j * 1) [vi (b.op-x.m.get j)]).length;rw[HI _ _ a];show _<=4;omega) rfl (Y ?_);refine⟨⟨j+1,O⟩,gI O,rfl,V,⟨rfl,rfl,rfl,?_,trivial⟩,rfl⟩;show some (ZR (ZR (pH b x j).cells (0+j * 1) [vi (b.op-x.m.get j)]) (0+j * 1) [vi (b.op-x.m.get j+x.gQ)])=some (pH b x (j+1)).cells;rw[HI _ _ a,HI _ _ a,N4.n8,<-IX a,sY,qAa k]
  refine Y ?_;refine⟨⟨j+1,O⟩,gI O,rfl,V,⟨rfl,rfl,rfl,?_,trivial⟩,rfl⟩;show some (ZR (pH b x j).cells (0+j * 1) [vi (b.op-x.m.get j)])=some (pH b x (j+1)).cells;rw[HI _ _ a,<-IX a,sY,iF k,Int.add_zero]
 have:j=b.fM.length:=O;subst this;refine Y ?_;exact⟨rfl,rfl⟩
end
instance:Enc jL:=⟨2,λk=>[vi k.bf,vi k.gQ],λ_=>rfl⟩
section
variable{P:fP}[Tz P][Loud P]
def uP{b:Bk}{A:Option Addr}{c:Nat}(X:0<=b.sl)(Z:b.sl<=1000)(h2:b.fM.length<=1000) :
  yW P (.func (.func 222) #[.agg #[vi b.op,vi b.sl,.slice A b.fM.length c,cv]] #[]) (λ_=>True) ((iA b).map qW):=by
 intro y I S H _ hI hS _ E l;obtain⟨sl,R⟩:∃sl:Nat,b.sl=sl:=⟨b.sl.toNat,O⟩;have i:b.sl.toNat=sl:=O;obtain⟨r,h⟩:∃r,r=(iA b).map qW:=⟨_,rfl⟩;have D:r=qW ⟨0,0⟩ :: (hY b.fM.length sl (b.fM.length-1)).map qW:=by rw[h,iA,i,qBm]
 rw[<-h];have n:=kB.J9 l D;rw[<-h]at E;refine Yv U ?_;refine aU.m (fO c95) rfl ?_;unfold n95;refine Y ?_;have:=OL (P:=P) H.gh;refine Y ?_;refine ZP rfl rfl (kB.call (S:=S) E n) ?_;rintro v T (⟨rfl,p⟩ | ⟨rfl,B⟩);rotate_left
 ·refine Y ?_;exact .inr B
 refine Y ?_;refine ZC (b.fM.length-1) (λj s=>kB r I ((hY b.fM.length sl (b.fM.length-1-j)).map qW) s) (λj=>[(1,y),(2,vi 0),(4,vi (j+1:Nat))]) (λ_=>[(2,[vi b.op,vi b.sl,.slice A b.fM.length c,cv])]) p V V ?_;intro j J hj f;have F:=OL (P:=P) J.gh;refine OJ (λN=>?_) (λN=>?_)
 ·refine Y ?_;refine JB rfl ⟨O,O⟩ (Y ?_);have t:b.fM.length-1-j=(b.fM.length-1-(j+1))+1:=O;rw[t,hY,qBt]at f;have L:((b.fM.length:Int)-((b.fM.length-1-(j+1))+1:Nat))=(j+1:Nat):=O;rw[L]at f;refine ZC (2 * sl+1) (λk s=>kB r I ((iX (j+1:Nat) sl (2 * sl+1-k)).map qW++(hY b.fM.length sl (b.fM.length-1-(j+1))).map qW) s) (λk=>[(1,y),(2,vi 0),(4,vi (j+1:Nat)),(5,vi (-b.sl+k))]) (λ_=>[(2,[vi b.op,vi b.sl,.slice A b.fM.length c,cv])]) f ⟨rfl,rfl,rfl,by simp[fG.set],trivial⟩ V ?_;intro k K hk e;have G:=OL (P:=P) K.gh;refine OJ (λQ=>?_) (λQ=>?_)
  ·have u:2 * sl+1-k=(2 * sl+1-(k+1))+1:=O;have M:(sl:Int)-(2 * sl+1-(k+1):Nat)=-b.sl+k:=O;rw[u,iX,M]at e;refine OJ (λw=>?_) (λw=>?_)
   ·rw[qAa w]at e;refine Y ?_;refine⟨⟨k+1,O⟩,gI O,e,⟨rfl,rfl,rfl,?_,trivial⟩,V,rfl⟩;exact vQ
   rw[iF w,qBm,qBa]at e;refine Y ?_;refine ZP rfl rfl (kB.call (S:=S) E e) ?_;rintro v W (⟨rfl,q⟩ | ⟨rfl,C⟩)
   ·refine Y ?_;refine⟨⟨k+1,O⟩,gI O,q,⟨rfl,rfl,rfl,?_,trivial⟩,V,rfl⟩;exact vQ
   refine Y ?_;exact .inr C
  have u:2 * sl+1-k=0:=O;rw[u,iX,qBM,qAt]at e;refine Y ?_;refine⟨⟨j+1,O⟩,gI O,e,⟨rfl,rfl,?_,trivial⟩,V,rfl⟩;show some (vi ((j+1:Nat)+1))=some (vi (j+1+1:Nat));congr 2
 have t:b.fM.length-1-j=0:=O;rw[t,hY,qBM]at f;refine Y ?_;exact .inl f.stop
end
def zO:Tryz.prog.underlying 27=some (.slice 33):=U
def Il:Tryz.prog.underlying 26=some (.slice 146):=U
def NN:Yw Tryz.prog 33=some (3,some (.agg #[vi 0,vi 0,vi 0]),24):=U
def t59:Yw Tryz.prog 146=some (5,some (.agg #[vi 0,vi 0,vi 0,vi 0,vi 0]),40):=U
section
variable{P:fP}[Tz P]{H:Hp}
def Dx{f:nT->Bool}{v:Value}{l:List nT}(u:∀c∈l,Z5 P fv #[.agg #[vi c.p,vi c.gl,vi c.gh]] H λv h=>H=h/\v=vb (f c))(q:dF H v l)(B:l.length<=1000000)(n:P.still H.gh=false) :
  LL.Zb P 348 #[v,fv] H λv h=>H=h/\∃r:Int,v=vi r/\(0<=r↔l.any f=true):=by
 refine aU.m (fO Bt) rfl ?_;unfold I3;refine Y ?_;refine YH q rfl (Y ?_);refine ZC l.length (λj h=>H=h/\(l.take j).any f=false) (λj=>[(0,v),(1,fv),(7,vi l.length),(8,vi j)]) (λj=>[]) ⟨rfl,rfl⟩ V trivial ?_;rintro j _ A ⟨rfl,b⟩;refine OJ (λs=>?_) (λs=>?_)
 ·have e:j<l.length:=O;refine Y ?_;refine yZ q rfl rfl rfl (i:=j) e λa t=>Y ?_;refine Zn n rfl t rfl (Y ?_);refine ZP rfl rfl (u l[j] (iN e)) ?_;rintro w _ ⟨rfl,rfl⟩;refine OJ (λk=>?_) (λk=>?_)
  ·refine Y ?_;exact⟨rfl,j,rfl,by simp only[qDj,true_iff];rw[qCj];exact⟨l[j],iN e,k⟩⟩
  refine Y ?_;refine⟨⟨j+1,O⟩,gI O,⟨rfl,?_⟩,V,trivial,rfl⟩;show(l.take (j+1)).any f=false;rw[BY e,qDc,b];simp[k]
 have:j=l.length:=O;subst this;rw[qAh]at b;refine Y ?_;exact⟨rfl,-1,rfl,by simp[b]⟩
def Dr{f:nT->Bool}{v:Value}{l:List nT}(e:∀c∈l,Z5 P fv #[.agg #[vi c.p,vi c.gl,vi c.gh]] H λv a=>H=a/\v=vb (f c))(j:dF H v l)(h:l.length<=1000000)(b:P.still H.gh=false) :
  LL.Zb P 298 #[v,fv] H λv a=>H=a/\v=vb (l.any f):=by
 refine aU.m (fO Bq) rfl ?_;unfold I0;refine Y ?_;refine Z7 (vs:=[v,fv]) rfl (Dx e j h b) ?_;rintro w _ ⟨rfl,r,rfl,i⟩;refine Y ?_;refine⟨rfl,?_⟩;show vb (decide (0<=r))=vb _;congr 1;rw[qBQ,qAK];exact i
def ND{v:Value}{l:List nT}(B:dF H v l)(E:l.length<=1000000)(f:P.still H.gh=false) :
  LL.Zb P 69 #[v] H λk i=>H.Sub i/\((l=[]/\k=.slice none 0 0)\/∃b,gL H i 33 k l b):=by
 obtain⟨A,c,rfl,hh⟩:=B;refine aU.m (fO Dl) rfl ?_;unfold JR;refine Y ?_;refine yV (fU zO) rfl ?_;refine OJ (λh1=>?_) (λh1=>?_)
 ·exact GC
 refine Y ?_;refine rT (fU zO) (fT NN) f λr j=>Y ?_;have h:P.still (H.ins r (.cells #[] 33)).gh=false:=f;refine uG (l:=([]:List nT)) (l':=l) (fU zO) (fU zO) (fT NN) rfl (by decide) (YB j) (H0:=H) (b:=some r) ⟨wA,λq e=>by obtain rfl:=aT e;exact j⟩ ⟨A,c,rfl,λhn=>by obtain⟨a,s,t⟩:=hh hn;exact⟨a,s,t.sub (YB j)⟩⟩ (HS l) (by simp;omega) O rfl rfl h λk i p u n D=>Y ?_;exact⟨u,.inr ⟨p,by rw[qAt]at n;exact n⟩⟩
def Dp{v:Value}{l:List zD}(B:dF H v l)(E:l.length<=1000000)(f:P.still H.gh=false) :
  LL.Zb P 153 #[v] H λk i=>H.Sub i/\((l=[]/\k=.slice none 0 0)\/∃b,gL H i 146 k l b):=by
 obtain⟨A,c,rfl,hh⟩:=B;refine aU.m (fO Bj) rfl ?_;unfold JV;refine Y ?_;refine yV (fU Il) rfl ?_;refine OJ (λh1=>?_) (λh1=>?_)
 ·exact GC
 refine Y ?_;refine rT (fU Il) (fT t59) f λr j=>Y ?_;have h:P.still (H.ins r (.cells #[] 146)).gh=false:=f;refine uG (l:=([]:List zD)) (l':=l) (fU Il) (fU Il) (fT t59) rfl (by decide) (YB j) (H0:=H) (b:=some r) ⟨wA,λq e=>by obtain rfl:=aT e;exact j⟩ ⟨A,c,rfl,λhn=>by obtain⟨a,s,t⟩:=hh hn;exact⟨a,s,t.sub (YB j)⟩⟩ (Gf l) (by simp;omega) O rfl rfl h λk i p u n D=>Y ?_;exact⟨u,.inr ⟨p,by rw[qAt]at n;exact n⟩⟩
def Ez{g:N4}{r:Nat}(q:aM H ⟨r,0,none⟩ g.cells)(u:0<=c.p/\c.p<4)(b:P.still H.gh=false):LL.Zb P 299 #[.agg #[vi c.p,vi c.gl,vi c.gh],.pointer (some ⟨r,0,none⟩)] H λv h=>H=h/\v=vb (!rH g c):=by
 obtain⟨n,f⟩:∃n:Nat,c.p=n:=⟨c.p.toNat,O⟩;have a:n<4:=O;refine aU.m (fO Br) rfl ?_;unfold I1;rw[f];refine Y ?_;refine W7 (fU HL) (fT t3) rfl rfl a (Y ?_);have l:aM H ((⟨r,0,none⟩:Addr).add (n * 1)) [vi (g.get n)]:=by
  obtain⟨t,o,p,i,k⟩:=q;refine⟨XD rfl _,o,p,by rw[MB];exact i,λj s=>?_⟩;have:j=0:=by simpa using s
  subst this;rw[MC];have e:=k (0+n * 1) (by show 0+n * 1<4;omega);rw[Kg _ a]at e;simpa using e
 refine Zh b rfl l (Y ?_);refine Z7 (vs:=[vi (g.get n),vi c.gl,vi c.gh]) rfl (uK _ _ _) ?_;rintro v _ ⟨rfl,rfl⟩;refine Y ?_;exact⟨rfl,by rw[rH,f];rfl⟩
def Hq{b:Bk}(hb:iM H bv b)(ok:EN b)(q:CK x)(p:NC b)(B:b.iE.length<=1000000)(h:P.still H.gh=false):LL.Zb P 223 #[bv,l8 x] H λv t=>H.Sub t/\v=vb (mJ b x):=by
 have k:=hb;obtain⟨C,cv,rfl,E,A⟩:=hb;refine aU.m (fO Bl) rfl ?_;unfold JW;refine Y ?_;refine Z7 (vs:=[.agg #[vi b.op,vi b.sl,C,cv],l8 x]) rfl (HY k ok q h) ?_;rintro v _ ⟨rfl,rfl⟩;refine Y ?_;refine VY (fT Zom) h λr s=>?_;have a:∀o,P.still (H.ins r o).gh=false:=λo=>h;refine Y ?_;refine yU (fT Zom) (cs:=[vi 0,vi 0,vi 0,vi 0]) rfl rfl (Hp.aQ _ _ _) rfl rfl rfl (a _) ?_;have u:(H.ins r (.cells (Value.agg #[vi 0,vi 0,vi 0,vi 0]).cells 160)).ins r (.cells (ZI (iZ b x)).cells 160)=H.ins r (.cells (iZ b x).cells.toArray 160):=by
  refine Hp.ext' (λc=>?_) rfl;by_cases e:c=r
  ·subst e;rw[Hp.aQ,Hp.aQ];rfl
  rw[Hp.aR _ _ e,Hp.aR _ _ e,Hp.aR _ _ e]
 rw[u];refine Y ?_;refine VW rfl rfl (Y ?_);refine Z7 (vs:=[cv,.func (.func 299) #[] #[.pointer (some ⟨r,0,none⟩)]]) rfl (Dr (f:=λc=>!rH (iZ b x) c) (l:=b.iE) (λc n=>?_) (A.sub (YB s)) B (a _)) ?_
 ·exact Yv U (Ez ⟨rfl,_,_,Hp.aQ _ _ _,λj D=>by simp[Obj.nC]⟩ (p c n) (a _))
 rintro v _ ⟨rfl,rfl⟩;refine Y ?_;refine⟨YB s,?_⟩;show vb _=vb _;congr 1;rw[mJ,List.all_eq_not_any_not]
end
def s51:rP Tryz.prog 33=some ([("Point",3,0),("Gap",31,1)],false):=U
def s59:rP Tryz.prog 146=some ([("Mark",31,0),("Board",31,2),("Width",3,4)],false):=U
section
variable{P:fP}[Tz P]{H:Hp}{g:Bool}{d:Nat}
def Gj{a b:nT}(Q:Bool->Bool->Hp->Prop)(i:Q (yD a b) g H):fZ P.toPQ (Op.equalIn (d+1+1+1) 33 (.agg #[vi a.p,vi a.gl,vi a.gh]) (.agg #[vi b.p,vi b.gl,vi b.gh])) Q g H:=by have u:∀(x y z:Int) (Q:Value->Bool->Hp->Prop) g H,fZ P.toPQ (part 3 #[vi x,vi y,vi z] 0) Q g H↔Q (vi x) g H:=λx y z Q g H=>Vg rfl Q;have v:∀(x y z:Int) (Q:Value->Bool->Hp->Prop) g H,fZ P.toPQ (part 31 #[vi x,vi y,vi z] 1) Q g H↔Q (.agg #[vi y,vi z]) g H:=λx y z Q g H=>L7 N7 Q;obtain⟨B,C,n,⟨q,w,s⟩,⟨r,A,t⟩,m⟩:=HJ (p:=P.toProgram) (by rw[Tz.prog (P:=P)];exact s51);rw[Op.equalIn];simp only[Zf,ZA n,Vw,m,oR,qAq,Zj];simp only[q,r,w,A,s,t,Zf,qBr,qBp,List.forIn_nil];unfold yD at i;by_cases j:a.p=b.p<;>by_cases k:a.gl=b.gl<;>by_cases l:a.gh=b.gh<;>simp[u,v,yT,oC (.inr C7),Zf,Zj,j,k,l]at i ⊢<;>exact i
def Gk{a b:zD}(Q:Bool->Bool->Hp->Prop)(l:Q (yE a b) g H):fZ P.toPQ (Op.equalIn (d+1+1+1) 146 (.agg #[vi a.ml,vi a.mh,vi a.bl,vi a.bh,vi a.w]) (.agg #[vi b.ml,vi b.mh,vi b.bl,vi b.bh,vi b.w])) Q g H:=by
 have G:∀(x y z u v:Int) (Q:Value->Bool->Hp->Prop) g H,fZ P.toPQ (part 31 #[vi x,vi y,vi z,vi u,vi v] 0) Q g H↔Q (.agg #[vi x,vi y]) g H:=λx y z u v Q g H=>L7 N7 Q;have I:∀(x y z u v:Int) (Q:Value->Bool->Hp->Prop) g H,fZ P.toPQ (part 31 #[vi x,vi y,vi z,vi u,vi v] 2) Q g H↔Q (.agg #[vi z,vi u]) g H:=λx y z u v Q g H=>L7 N7 Q;have J:∀(x y z u v:Int) (Q:Value->Bool->Hp->Prop) g H,fZ P.toPQ (part 3 #[vi x,vi y,vi z,vi u,vi v] 4) Q g H↔Q (vi v) g H:=λx y z u v Q g H=>Vg rfl Q;obtain⟨M,N,f3,t,⟨A,K,D⟩,⟨B,L,E⟩,⟨C,t3,F⟩,s⟩:=C5 (p:=P.toProgram) (by rw[Tz.prog (P:=P)];exact s59);rw[Op.equalIn];simp only[Zf,ZA t,Vw,s,oR,qAq,Zj];simp only[A,B,C,K,L,t3,D,E,F,Zf,qBr,qBp,List.forIn_nil];unfold yE at l;have r:(a.ml=b.ml/\a.mh=b.mh/\a.bl=b.bl/\a.bh=b.bh/\a.w=b.w)↔((a.ml=b.ml/\a.mh=b.mh)/\(a.bl=b.bl/\a.bh=b.bh)/\a.w=b.w):=by constructor<;>(intro h;simp_all)
 simp only[r]at l;by_cases m:(a.ml=b.ml/\a.mh=b.mh)<;>by_cases n:(a.bl=b.bl/\a.bh=b.bh)<;>by_cases q:a.w=b.w<;>simp only[m,n,q,and_self,qCw,qEa,and_false,false_and,decide_true,decide_false]at l<;>simp[G,I,J,yT,oC (.inr C7),Zf,Zj,m,n,q]<;>exact l
end
def Ip:Yw Tryz.prog 105=some (2,some (.agg #[vi 0,vi 0]),16):=U
def vA:Yw Tryz.prog 162=some (6,some (.agg #[vi 0,vi 0,vi 0,vi 0,vi 0,vi 0]),48):=U
def y7(a b e:Nat):Value:=.func (.func 221) #[] #[pt a,pt b,pt e]
structure Ig(G:Hp)(bc:List Value)(rb rn ry:Nat)(y:Value)(E1 E2 E3:TypeId):Prop where
 b:G rb=some (.cells bc.toArray E1,true)
 n:G rn=some (.cells #[y7 rb rn ry] E2,true)
 y:G ry=some (.cells #[y] E3,true)
def Ig.inc{G e:Hp}{f:List Value}{rb i j:Nat}(h:Ig G f rb i j y E1 E2 E3)(a:fI G e):Ig e f rb i j y E1 E2 E3:=⟨a _ _ h.b,a _ _ h.n,a _ _ h.y⟩
section
variable{P:fP}[Tz P][Loud P]
def Fo{b:Bk}{pv:Value}{xs:List (List Value)}{I:Nat->Hp->Prop}{S:Hp->Prop}(gd:BO b)(hI:∀n,Up (I n))(hS:Up S)(hN:∀n H,I n H->iM H (.agg #[vi b.op,vi b.sl,pv,cv]) b)
  (hy:∀n (hn:n<xs.length) H,I n H->Z5 P y (xs[n]).toArray H (λv t=>(v=.bool true/\I (n+1) t)\/(v=.bool false/\S t))) (rb rn ry:Nat) :
  ∀(r:Nat) (m:N4) (rest:List (List Value)) (H G:Hp),r<=b.fM.length->m.Sm->Ig G [vi b.op,vi b.sl,pv,cv] rb rn ry y E1 E2 E3->JG G (kB xs I ((gN b r m).map oE++rest)) H ->
   LL.Zb P 221 #[ZI m,vi (b.fM.length-r:Nat),pt rb,pt rn,pt ry] H λv t=>(v=vb true/\JG G (kB xs I rest) t)\/(v=vb false/\JG G S t):=by
 have AL:∀rest H,kB xs I rest H->iM H (.agg #[vi b.op,vi b.sl,pv,cv]) b:=λrest H ⟨p,_,_,h⟩=>hN p H h
 have B8:=gd.bk.le
 intro r
 induction r with
 | zero=>
  intro m rest H G hr hm hf T;rw[gN]at T;refine aU.m (fO M6) rfl ?_;unfold EZ;refine Y ?_;refine Ug rfl (OL _) λD Z=>?_;have W:=T.new (.cells (ZI m).cells 160) Z;have g5:=YP T.inc Z;refine Y ?_;refine VY (fT t4) (OL _) λN C=>?_;have w:=W.new (.cells (vb false).cells 4) C;have g7:G N=none:=YP ((Zt g5).trans W.inc) C;have pK:D≠N:=by rintro rfl;rw[Hp.aQ]at C;simp at C
  obtain⟨E,M,a5,a7,w⟩:∃E:Hp,fI G E/\E D=some (.cells m.cells.toArray 160,true)/\E N=some (.cells #[vb false] 4,true)/\JG E (kB xs I ((((iA b).map λk=>(⟨m,k.bf,k.gQ⟩:gJ)).filter (mJ b)).map oE++rest)) ((H.ins D (.cells (ZI m).cells 160)).ins N (.cells (vb false).cells 4)):=
   ⟨_,qC (Zt g5) g7,by rw[Hp.aR _ _ pK];exact Hp.aQ _ _ _,Hp.aQ _ _ _,w⟩
  generalize(H.ins D (.cells (ZI m).cells 160)).ins N (.cells (vb false).cells 4)=H2 at *;have R:∀{u t},JG E (kB xs I u) t->aM t (⟨rb,0,none⟩:Addr) [vi b.op,vi b.sl,pv,cv]/\dF t pv b.fM:=by intro u t V;obtain⟨pv',cv',e,hp,hc⟩:=AL _ _ (V.up (BL hI));simp only[Value.agg.injEq,qDn,qBg,qCw]at e;obtain⟨_,_,rfl,rfl⟩:=e;exact⟨ZM ((hf.inc (M.trans V.inc)).b),hp⟩
  have SO:=hf.inc M;obtain⟨c1,p1⟩:=R w;refine Y ?_;refine Zh (OL _) rfl (UG (j:=2) c1 rfl) (Y ?_);refine YH p1 rfl ?_;refine OJ (λh1=>?_) (λh1=>?_)
  ·exact absurd h1 O
  refine Y ?_;refine YL c1 (Y ?_);refine VW rfl rfl (Y ?_);obtain⟨A,cp,hA,_⟩:=p1;subst hA;refine L9 OL rfl (uP gd.Qg (by have:=gd.mD;omega) O) (λx hx=>by obtain⟨k,_,rfl⟩:=qAy.1 hx;rfl)
   (λn t=>JG E (kB xs I (((((iA b).drop n).map λk=>(⟨m,k.bf,k.gQ⟩:gJ)).filter (mJ b)).map oE++rest)) t)
   (λe t=>e=.ret/\JG G S t/\aM t ⟨N,0,none⟩ [vb false]) w (λn=>JG.closed) (λe t J hc ⟨h1,h2,h3⟩=>⟨h1,JG.closed _ _ hc h2,h3.inc (Um _ _)⟩) (λ_ _ _=>trivial) ?_ ?_ ?_
  ·intro n hn H3 l;have Jj:n<(iA b).length:=by simpa using hn
   obtain⟨k,hk⟩:∃k,k=(iA b)[n]:=⟨_,rfl⟩;have hxn:((iA b).map qW)[n]=[uL k]:=by rw[qBn,hk];rfl
   rw[hxn];rw[CI Jj,<-hk,qBm]at l;obtain⟨x,hx⟩:∃x:gJ,x=⟨m,k.bf,k.gQ⟩:=⟨_,rfl⟩;rw[<-hx]at l;have RE:CK x:=by subst hx;refine⟨hm,?_⟩;have:=Hw gd.Qg (by have:=gd.mD;omega) k (by rw[hk];exact iN Jj);exact this
   refine Y ?_;refine VY (fT Ip) (OL _) λr9 hr9=>Y ?_;refine yU (v:=uL k) (fT Ip) (cs:=[vi 0,vi 0]) rfl rfl (Hp.aQ _ _ _) rfl rfl rfl (OL _) ?_;rw[Uy];have K:=(l.new (.cells (uL k).cells 105) hr9).of (λ_ h=>h) (G':=E) (Zt (YP l.inc hr9));refine Y ?_;refine Zn (cs:=m.cells) (OL _) rfl (ZM (K.inc _ _ a5)) rfl (Y ?_);refine YL (cs:=[vi k.bf,vi k.gQ]) VR (Y ?_);refine VY (fT vA) (OL _) λIv R7=>Y ?_;refine yU (v:=l8 x) (fT vA) (cs:=[vi 0,vi 0,vi 0,vi 0,vi 0,vi 0]) rfl (by rw[hx];rfl) (Hp.aQ _ _ _) rfl rfl rfl (OL _) ?_;rw[Uy];have L:=(K.new (.cells (l8 x).cells 162) R7).of (λ_ h=>h) (G':=E) (Zt (YP K.inc R7));have Xo:aM ((H3.ins r9 (.cells (uL k).cells 105)).ins Iv (.cells (l8 x).cells 162)) ⟨Iv,0,none⟩ x.cells:=VR;generalize(H3.ins r9 (.cells (uL k).cells 105)).ins Iv (.cells (l8 x).cells 162)=H5 at *;refine Y ?_;refine Zn (OL _) rfl (R L).1 rfl (Y ?_);refine YL Xo (Y ?_);refine Zg (vs:=[.agg #[vi b.op,vi b.sl,.slice A b.fM.length cp,cv],l8 x]) (Hq (AL _ _ (L.up (BL hI))) gd.bk RE gd.iE gd.ckl (OL _)) ?_;rintro v H6 ⟨hs6,rfl⟩;have X:=L.sub hs6;have Xn:=Xo.sub hs6;refine OJ (λh2=>?_) (λh2=>?_)
   ·rw[qCy,qAa h2,qBm,qBa]at X;refine Y ?_;refine Zh (OL _) rfl (ZM (X.inc _ _ SO.y)) (Y ?_);refine YL Xn (Y ?_);refine ZP (vs:=[l8 x]) rfl rfl (JG.call (λH h=>kB.call (S:=S) hy h) X) ?_;rintro v H7 ⟨Hc,F,rfl,q1,q2,(⟨rfl,q3⟩ | ⟨rfl,q3⟩)⟩
    ·refine Y ?_;exact⟨Hc,F,rfl,q1,q2,q3⟩
    have hj7:JG E S (Hc.join F):=⟨Hc,F,rfl,q1,q2,q3⟩;refine Y ?_;refine VV (fT t4) rfl rfl (hj7.inc _ _ a7) rfl rfl (OL _) (Y ?_);exact⟨rfl,(hj7.put _ a7).of (λ_ h=>h) (qC M g7),VR⟩
   rw[qCy,iF (by simp[h2])]at X;refine Y ?_;exact X
  ·intro H3 l;rw[qAd,qCQ,qBM,List.filter_nil,qBM,qAt]at l;refine Y ?_;refine VV (fT t4) rfl rfl (l.inc _ _ a7) rfl rfl (OL _) (Y ?_);refine HG (vs:=[vb true]) rfl (OL _) ⟨⟨_,rfl,VR⟩,trivial⟩ ?_;exact .inl ⟨rfl,(l.put _ a7).of (λ_ h=>h) (qC M g7)⟩
  rintro e H3 he ⟨rfl,l,hc3⟩;refine Y ?_;refine HG (vs:=[vb false]) rfl (OL _) ⟨⟨_,rfl,hc3⟩,trivial⟩ ?_;exact .inr ⟨rfl,l⟩
 | succ r ih=>
  intro m rest H G hr hm hf T;rw[gN]at T;have hi:b.fM.length-(r+1)<b.fM.length:=O;have KY:((b.fM.length-(r+1):Nat):Int)+1=(b.fM.length-r:Nat):=O;generalize b.fM.length-(r+1)=i at *;have Tw:i<4:=O;have FZ:iH b i=b.fM[i]:=ZG hi _;rw[FZ]at T;obtain⟨q1,q2⟩:=gd.ml i hi;obtain⟨q3,q4⟩:=gd.mh i hi;refine aU.m (fO M6) rfl ?_;unfold EZ;refine Y ?_;refine Ug rfl (OL _) λD Z=>?_;have W:=T.new (.cells (ZI m).cells 160) Z;have g5:=YP T.inc Z;refine Y ?_;refine VY (fT t4) (OL _) λN C=>?_;have w:=W.new (.cells (vb false).cells 4) C;have g7:G N=none:=YP ((Zt g5).trans W.inc) C;have pK:D≠N:=by rintro rfl;rw[Hp.aQ]at C;simp at C
  obtain⟨E,M,a5,a7,w⟩:∃E:Hp,fI G E/\E D=some (.cells m.cells.toArray 160,true)/\E N=some (.cells #[vb false] 4,true)/\JG E (kB xs I ((kU (λv=>gN b r (m.put i v)) b.fM[i].mh (b.fM[i].mh-b.fM[i].ml+1).toNat).map oE++rest)) ((H.ins D (.cells (ZI m).cells 160)).ins N (.cells (vb false).cells 4)):=
   ⟨_,qC (Zt g5) g7,by rw[Hp.aR _ _ pK];exact Hp.aQ _ _ _,Hp.aQ _ _ _,w⟩
  generalize(H.ins D (.cells (ZI m).cells 160)).ins N (.cells (vb false).cells 4)=H2 at *;have R:∀{G' t u},fI G G'->JG G' (kB xs I u) t->aM t ((⟨rb,0,none⟩:Addr).add 2) [pv]/\dF t pv b.fM:=by intro G' t u hG' V;obtain⟨pv',cv',e,hp,hc⟩:=AL _ _ (V.up (BL hI));simp only[Value.agg.injEq,qDn,qBg,qCw]at e;obtain⟨_,_,rfl,rfl⟩:=e;exact⟨UG (ZM ((hf.inc (hG'.trans V.inc)).b)) rfl,hp⟩
  obtain⟨c1,p1⟩:=R M w;refine Y ?_;refine Z8 c1 (Y ?_);refine YH p1 rfl ?_;refine OJ (λh1=>?_) (λh1=>?_);rotate_left
  ·exact absurd O h1
  refine Y ?_;refine Z8 c1 (Y ?_);refine ZB i p1 hi λa ha=>Y ?_;refine Zh (OL _) rfl (UG (j:=0) ha rfl) (Y ?_);generalize rA:(b.fM[i].mh-b.fM[i].ml+1).toNat=Q at w;refine Yp (α:=N4×Hp) Q (λk s t=>fI G s.2/\s.2 D=some (.cells s.1.cells.toArray 160,true)/\s.2 N=some (.cells #[vb false] 4,true)/\(∀v,s.1.put i v=m.put i v) /\
    JG s.2 (kB xs I ((kU (λv=>gN b r (m.put i v)) b.fM[i].mh (Q-k)).map oE++rest)) t)
   (λk s=>[(1,vi i),(2,pt rb),(3,pt rn),(4,pt ry),(5,pt D),(7,pt N),(8,vi (b.fM[i].ml+k))]) (λ_ _=>[]) (m,E) ⟨M,a5,a7,λ_=>rfl,w⟩ ⟨rfl,rfl,rfl,rfl,rfl,rfl,by simp[fG.set],trivial⟩ trivial ?_
  rintro k ⟨m',G3⟩ H3 hk ⟨Jz,W5,Kf,R8,l⟩;simp only at Jz W5 Kf R8 l;obtain⟨c3,p3⟩:=R Jz l;refine Y ?_;refine Z8 c3 (Y ?_);refine ZB i p3 hi λa ha=>Y ?_;refine Zh (OL _) rfl (UG (j:=1) ha rfl) ?_;refine OJ (λh2=>?_) (λh2=>?_)
  ·refine Y ?_;refine W7 (fU HL) (fT t3) rfl rfl Tw (Y ?_);have Rz:ZR m'.cells (0+i * 1) [vi (b.fM[i].ml+k)]=(m.put i (b.fM[i].ml+k)).cells:=by rw[HI _ _ Tw,R8]
   have LA:(⟨D,0,none⟩:Addr).add (i * 1)=⟨D,i * 1,none⟩:=by rw[PE rfl,qAJ]
   rw[LA];have K:=l.put (.cells (m.put i (b.fM[i].ml+k)).cells.toArray 160) W5;have Ws:fI G (G3.ins D (.cells (m.put i (b.fM[i].ml+k)).cells.toArray 160)):=qC Jz g5;have N0:(m.put i (b.fM[i].ml+k)).Sm:=by
    intro j T;rw[N4.iC _ _ T];split
    ·exact⟨O,O⟩
    exact hm j T
   refine OH (cs:=m'.cells) (fT t3) rfl rfl (l.inc _ _ W5) rfl (by show i * 1+1<=4;omega) rfl (OL _) ?_;have e5:ZR m'.cells (i * 1) (Value.cells (vi (b.fM[i].ml+k))).toList=(m.put i (b.fM[i].ml+k)).cells:=by rw[<-Rz,qAJ];rfl
   rw[e5];have a54:(G3.ins D (.cells (m.put i (b.fM[i].ml+k)).cells.toArray 160)) D=some (.cells (m.put i (b.fM[i].ml+k)).cells.toArray 160,true):=Hp.aQ _ _ _;have Xw:(G3.ins D (.cells (m.put i (b.fM[i].ml+k)).cells.toArray 160)) N=some (.cells #[vb false] 4,true):=by rw[Hp.aR _ _ (qAo pK)];exact Kf
   generalize G3.ins D (.cells (m.put i (b.fM[i].ml+k)).cells.toArray 160)=G4 at *;generalize H3.ins D (.cells (m.put i (b.fM[i].ml+k)).cells.toArray 160)=H4 at *;have hf4:=hf.inc Ws;have e6:Q-k=(Q-(k+1))+1:=O;have e7:b.fM[i].mh-((Q-(k+1):Nat):Int)=b.fM[i].ml+k:=O;rw[e6,kU,qBt,qAE,e7]at K;refine Y ?_;refine Zh (OL _) rfl (ZM (K.inc _ _ hf4.n)) (Y ?_);refine Zn (OL _) rfl (ZM (K.inc _ _ a54)) rfl (Y ?_);rw[KY];refine ZP rfl rfl (Yv U (ih (m.put i (b.fM[i].ml+k)) _ H4 G4 O N0 hf4 K)) ?_;rintro v H5 (⟨rfl,L⟩ | ⟨rfl,L⟩)
   ·refine Y ?_;refine⟨(⟨k+1,O⟩,(m.put i (b.fM[i].ml+k),G4)),gI O,⟨Ws,a54,Xw,λv=>N4.n8 _ _ _,L⟩,⟨rfl,rfl,rfl,rfl,rfl,rfl,?_,trivial⟩,trivial,rfl⟩;show some (vi (b.fM[i].ml+k+1))=some (vi (b.fM[i].ml+(k+1:Nat)));congr 2;omega
   refine Y ?_;refine VV (fT t4) rfl rfl (L.inc _ _ Xw) rfl rfl (OL _) (Y ?_);refine HG (vs:=[vb false]) rfl (OL _) ⟨⟨_,rfl,VR⟩,trivial⟩ ?_;exact .inr ⟨rfl,(L.put _ Xw).of (λ_ h=>h) (qC Ws g7)⟩
  have e6:Q-k=0:=O;rw[e6,kU,qBM,qAt]at l;refine Y ?_;refine VV (fT t4) rfl rfl (l.inc _ _ Kf) rfl rfl (OL _) (Y ?_);refine HG (vs:=[vb true]) rfl (OL _) ⟨⟨_,rfl,VR⟩,trivial⟩ ?_;exact .inl ⟨rfl,(l.put _ Kf).of (λ_ h=>h) (qC Jz g7)⟩
end
