import Derived.Test.YtmfealhfgccmfaaGreatDoorP24
import Derived.Test.YtmfealhfgccmfaaGreatDoorP25
import Derived.Test.YtmfealhfgccmfaaGreatDoorP32
import Derived.Test.YtmfealhfgccmfaaGreatDoorP34
import Derived.Test.YtmfealhfgccmfaaGreatDoorP35
set_option linter.all false
set_option maxHeartbeats 8000000
set_option maxRecDepth 20000
open Go Go.LL
namespace Go.Proofs
variable{b o b':Sb}{l K:List Int}{i n m k j:Nat}{ts:List N4}{p z q:Int}{qs:List kO}{ms:List Nat}{es:List Te}{cv:Value}
def Zh2{b:Sb}(ok:gY b):∀j,j<=b.pk.length->sK b.pk j=0
 | 0,_=>rfl
 | j+1,s=>by have a:j<b.pk.length:=s;obtain⟨h,r⟩:=ok.nm j a;obtain⟨d,e,f,g⟩:=ok.pk j a;rw[sK,iF (by rw[Zh2 ok j O];decide),ZG a,VJ,iF (by rw[h];decide),iF (by rw[r];decide),iF];rw[xM,decide_eq_true d,decide_eq_true e,decide_eq_true f,decide_eq_true g];decide
def Ziw{n:Nat}:∀{l:List Nt},(∀x∈l,x.ps≠[]/\FI n x.ps/\(0<=x.lo/\x.lo<=x.hi/\x.hi<=80))->uV n l=0
 | [],_=>rfl
 | x :: l,h=>by
  obtain⟨d,a,f⟩:=h x (by simp);have e:Vr n x=0:=by rw[Vr,iF (by rwa [qBj]),iF (by rw[Zm8 a _ (DO _)];decide),iF O]
  rw[uV,iF (by rw[e];decide),Ziw λy c=>h y (by simp[c])]
def O9(ok:gY b):ZN b=0:=by
 have c:Y1 b=0:=qAa ⟨ok.pl,ok.hd,ok.td⟩;have d:YD b=0:=by have:=ok.n;rw[YD,iF O,Zh2 ok _ (DO _)]
 have a:Y4 b=0:=by have:=ok.nn;rw[Y4,iF O,Ziw ok.nt]
 rw[ZN,iF O,iF O,a]
def gY.oI(ok:gY b):b.Sz:=ok.sz λp c=>by obtain⟨i,a,rfl⟩:=qAz.1 c;have h:=(ok.nm i a).1;rw[tJ,qAc,qAN]at h;omega
def bS(b:Sb):Int:=if Za b=[]then 9 else 0
def Kx(ok:gY b):Zp b 0=bS b:=by
 rw[Zp,O9 ok,iF (by decide),iF (by decide),bS];by_cases h:Za b=[]
 ·rw[qAa h,qAa (by rw[h];rfl)]
 rw[iF h,iF (by rw[qBj];exact h)]
def Zf4(h:Za b≠[]):bS b=0:=iF h
def EG:bS b=0↔Za b≠[]:=by
 unfold bS;split
 ·rename_i h;exact⟨λe=>by simp at e,λe=>absurd h e⟩
 rename_i h;exact⟨λ_=>h,λ_=>rfl⟩
def Zh0{n:Nat}{l:List Int}(c:O1 n l):∀j,j<=l.length->Vq n l j=0
 | 0,_=>rfl
 | j+1,g=>by
  have a:j<l.length:=g;rw[Vq,iF (by rw[Zh0 c j O];decide),ZG a,iF (by have:=c.rg _ (iN a);omega),iF];intro h;obtain⟨z,r,e⟩:=qCj.1 h;have e:l[j]=z:=by simpa using e
  obtain⟨i,f,d⟩:=qAz.1 r;rw[qDp]at d;rw[qAs]at f;have:=(qDW (h₀:=show i<l.length by omega) (h₁:=a) c.nd).1 (by rw[d,e]);omega
def ZhV(a:O1 b.pk.length l):Yo b l=0:=by rw[Yo,iF (by rw[a.len];exact λh=>h rfl)];exact Zh0 a _ (DO _)
def ZhW(h:i<b.pk.length):YG b i=0:=qAa ⟨O,O⟩
structure uC(b o:Sb):Prop where
 n:o.pk.length=b.pk.length
 res:Zw o=Zw b
 td:o.td=b.td
 sub:∀t∈Za o,t∈Za b
def uC.len(L:uC b o)(a:b.pk.length<=4):(Za o).length<=(Za b).length:=by
 have d:(Za o).Nodup:=(CE (by rw[L.n];exact a)).imp λh e=>by subst e;exact h.tZ h
 have c:(Za b).Nodup:=(CE a).imp λh e=>by subst e;exact h.tZ h
 have e:Za o=(Za b).filter λt=>decide (t∈Za o):=by refine Kh (CE (by rw[L.n];exact a)) ((CE a).filter _) λx=>?_;rw[qAu,qAN];exact⟨λh=>⟨L.sub x h,h⟩,λh=>h.2⟩
 rw[e];exact qBN _ _
def uC.pos(L:uC b o)(h:Za o≠[]):Za b≠[]:=by obtain⟨t,a⟩:=qBu _ h;intro e;have:=L.sub t a;rw[e]at this;simp at this
def ZgU{a:List N4}{p:N4->Bool}(f:a≠[])(c:∀t∈a,t∈ts):Z6 ((ts.filter p).length:Nat) (ts.length:Nat)=0\/Z6 ((ts.filter p).length:Nat) (ts.length:Nat)=Z6 ((a.filter p).length:Nat) (a.length:Nat):=by
 have g:ts≠[]:=by obtain⟨t,r⟩:=qBu _ f;intro e;have:=c t r;rw[e]at this;simp at this
 rcases ZoC ((ts.filter p).length:Nat) (ts.length:Nat)with h | h | h
 ·exact .inl h
 ·exact .inr (by rw[h];exact((Zey f).2 λx d=>(Zey g).1 h x (c x d)).symm)
 exact .inr (by rw[h];exact(ZgV.2 λx d=>ZgV.1 h x (c x d)).symm)
def uC.good(L:uC b o)(h:Za o≠[])(p:List Int):Z6 (jA b (Za b) p).good (Za b).length=0\/Z6 (jA b (Za b) p).good (Za b).length=Z6 (jA o (Za o) p).good (Za o).length:=by rw[Zer L.res L.td,Zeq,Zeq];exact ZgU h L.sub
def uC.cold(L:uC b o)(h:Za o≠[])(p:List Int)(a:i<4):Z6 ((jA b (Za b) p).cold.get i) (Za b).length=0\/Z6 ((jA b (Za b) p).cold.get i) (Za b).length=Z6 ((jA o (Za o) p).cold.get i) (Za o).length:=by rw[Zer L.res L.td,ZgL _ _ _ a,ZgL _ _ _ a];exact ZgU h L.sub
def uC.ends(L:uC b o)(h:Za o≠[])(p:List Int):(jA b (Za b) p).lo<=(jA o (Za o) p).lo/\(jA o (Za o) p).hi<=(jA b (Za b) p).hi:=by rw[Zer L.res L.td];obtain⟨_,t,a,e⟩:=ZgJ (b:=b) (l:=p) h;obtain⟨_,u,c,d⟩:=ZgK (b:=b) (l:=p) h;have f:=(ZgJ (b:=b) (l:=p) (L.pos h)).1 t (L.sub t a);have g:=(ZgK (b:=b) (l:=p) (L.pos h)).1 u (L.sub u c);omega
def ZvP{α:Type}{p q:α->Bool}{l:List α}(h:∀x∈l,p x=true->q x=true):(l.filter p).length<=(l.filter q).length:=by rw[<-qEb,<-qEb];exact List.countP_mono_left h
def Zld(h:ts≠[]):(lE b ts).length=((Zu b.pk.length).filter (OV b ts)).length:=by rw[<-Zud h,qAd]
def uC.plans(L:uC b o)(h:Za o≠[]):(lE b (Za b)).length<=(lE o (Za o)).length:=by rw[Zld (L.pos h),Zld h,L.n];refine ZvP λp _ a=>?_;rw[Zzm L.res L.td];exact qAf.2 λt c=>qAf.1 a t (L.sub t c)
def Zod:z∈Yu b i↔∃t∈Za b,t.get i=z:=by rw[Yu,qAy]
def QJ(b:Sb)(i:Nat):Nt:=b.nt.getD i ⟨none,[],0,0,0⟩
def Vl(b:Sb)(m n:Nat):List Nt:=(UW m n).map (QJ b)
def US(b:Sb)(m:Nat):Bool:=(Za { b with nt:=Vl b m b.nt.length }).isEmpty
def Uh(b:Sb)(j:Nat):List Nat:=(List.range j).filter (US b)
def ZtQ(b:Sb)(j:Nat):Uh b (j+1)=Uh b j++if US b j then[j]else[]:=by rw[Uh,qCZ,qDM,Uh];congr 1;cases h:US b j<;>simp[h]
def ZtR(b:Sb)(j:Nat):(Uh b j).length<=j:=by have:=qBN (US b) (List.range j);rwa [qBo]at this
def xL(m:Nat):Int:=([0,1,5,2,7,4,6,3]:List Int).getD m 0
def pQ(z:Int):List Int:=([[],[0],[0,1],[0,1,2],[0,2],[1],[1,2],[2]]:List (List Int)).getD z.toNat []
def yK(z:Int):Int:=(pQ z).length * 8+z
def ZpT:((List.range 4).all λn=>(List.range (2 ^ n)).all λm=>pQ (xL m) == YW m n)=true:=by decide +kernel
def ZpO(c:n<=3)(a:m<2 ^ n):pQ (xL m)=YW m n:=by have h:=qAf.1 (qAf.1 ZpT n (qAA.2 O)) m (qAA.2 a);exact eq_of_beq h
def ZpN(m:Nat):0<=xL m/\xL m<8:=by
 by_cases h:m<8
 ·match m,h with
  | 0,_=>decide
  | 1,_=>decide
  | 2,_=>decide
  | 3,_=>decide
  | 4,_=>decide
  | 5,_=>decide
  | 6,_=>decide
  | 7,_=>decide
 have:xL m=0:=by rw[xL,qAp,qAT (by simp;omega)];rfl
 omega
def ZpP:((List.range 8).all λm=>(List.range 8).all λk=>xL m != xL k || m == k)=true:=by decide +kernel
def ZpQ(d:m<8)(c:k<8)(h:xL m=xL k):m=k:=by have a:=qAf.1 (qAf.1 ZpP m (qAA.2 d)) k (qAA.2 c);simpa[h]using a
def ZpR:((List.range 8).all λi=>(List.range 8).all λj=>VQ (pQ i) (pQ j) == YY i j)=true:=by decide +kernel
def ZpS(e:0<=p/\p<8)(f:0<=q/\q<8):VQ (pQ p) (pQ q)=YY p q:=by have a:=qAf.1 (qAf.1 ZpR p.toNat (qAA.2 O)) q.toNat (qAA.2 O);have c:(p.toNat:Int)=p:=O;have d:(q.toNat:Int)=q:=O;rw[c,d]at a;exact eq_of_beq a
def Zo6:((List.range 8).all λ(i:Nat)=>(List.range 8).all λ(j:Nat)=>yK i != yK j || i == j)=true:=by decide +kernel
def Zo7(e:0<=p/\p<8)(f:0<=q/\q<8)(h:yK p=yK q):p=q:=by
 have a:=qAf.1 (qAf.1 Zo6 p.toNat (qAA.2 O)) q.toNat (qAA.2 O);have c:(p.toNat:Int)=p:=O;have d:(q.toNat:Int)=q:=O;rw[c,d]at a;have:p.toNat=q.toNat:=by simpa[h]using a
 omega
def ZlR{l:List Int}:∀n,iR l n<=n
 | 0=>DO _
 | n+1=>by rw[iR];split;omega;have:=ZlR (l:=l) n;omega
def ZlS{l:List Int}:∀{n j:Nat},j<n->el l j=el l (iR l n)->iR l n<=j
 | 0,j,h,_=>absurd h (qBW _)
 | n+1,j,h,e=>by
  rw[iR]at e ⊢;split at e
  ·rename_i a;rw[qAa a];by_cases c:j=n
   ·omega
   have:=Lv (l:=l) (n:=n) j O;omega
  rename_i a;rw[iF a];by_cases c:j=n
  ·have:=ZlR (l:=l) n;omega
  exact ZlS O e
def Zvx(h:j<l.length)(e:el l j=el l (Zs l)):Zs l<=j:=ZlS h e
def Ye(b:Sb):List Int:=(Uh b (2 ^ b.nt.length)).map xL
def X5(b:Sb):Int:=el (Ye b) (Zs ((Ye b).map yK))
def ZmO(b:Sb):List Int:=pQ (X5 b)
def PS{f:Int->Int}(h:j<l.length):el (l.map f) j=f (el l j):=by rw[el,el,ZG (by simpa using h),ZG h,qBn]
def XR(h:z∈Ye b):0<=z/\z<8:=by obtain⟨m,_,rfl⟩:=qAy.1 h;exact ZpN m
def Zy7(s:∀x∈K,0<=x/\x<8)(c:z∈K)(h:∀x∈K,yK z<=yK x):el K (Zs (K.map yK))=z:=by
 have f:K.map yK≠[]:=by intro e;simp at e;rw[e]at c;simp at c
 have a:=XJ f;rw[qAd]at a;have r:el K (Zs (K.map yK))∈K:=by rw[el,ZG a];exact iN a
 obtain⟨j,d,e⟩:=qAz.1 c;have g:=ZlT (l:=K.map yK) (j:=j) (by simpa using d);rw[PS a,PS d]at g;have t:el K j=z:=by rw[el,ZG d];exact e
 rw[t]at g;have u:=h _ r;exact Zo7 (s _ r) (s _ c) O
def Zws{a:List Int}(s:a.Perm (Ye b))(C:∀x y,x<=y->y<a.length->el a x<=el a y)(r:a≠[]) :
  el a (Zs (a.map λz=>((pQ z).length:Int)))=X5 b:=by
 have c:=XJ (l:=a.map λz=>((pQ z).length:Int)) (by simpa using r);rw[qAd]at c;generalize h:Zs (a.map λz=>((pQ z).length:Int))=k at *;have t:el a k∈a:=by rw[el,ZG c];exact iN c
 refine(Zy7 (λx g=>XR g) (s.mem_iff.1 t) λx g=>?_).symm;obtain⟨j,d,e⟩:=qAz.1 (s.mem_iff.2 g);have u:el a j=x:=by rw[el,ZG d];exact e
 have v:=ZlT (l:=a.map λz=>((pQ z).length:Int)) (j:=j) (by simpa using d);rw[h,PS (f:=λz=>((pQ z).length:Int)) c,PS (f:=λz=>((pQ z).length:Int)) d]at v;subst u;have D:=XR (s.mem_iff.1 t);have E:=XR g;unfold yK;by_cases B:(pQ (el a k)).length=(pQ (el a j)).length
 ·have w:k<=j:=by have:=Zvx (l:=a.map λz=>((pQ z).length:Int)) (j:=j) (by simpa using d) (by rw[h,PS (f:=λz=>((pQ z).length:Int)) c,PS (f:=λz=>((pQ z).length:Int)) d,B]);rwa [h]at this
  have:=C k j w d;omega
 omega
def Zzj(b:Sb):Vl b (2 ^ b.nt.length-1) b.nt.length=b.nt:=by
 have e:UW (2 ^ b.nt.length-1) b.nt.length=List.range b.nt.length:=by rw[UW,List.filter_eq_self];intro i d;rw[Nat.testBit_two_pow_sub_one];simpa using d
 rw[Vl,e];refine qCz (by simp) λi f c=>?_;simp only[qBn,qDL,QJ];exact ZG c _
theorem ZtP(h:Za b=[]):US b (2 ^ b.nt.length-1)=true:=by rw[US,Zzj];show(Za b).isEmpty=true;rw[h];rfl
def ZuW(h:Za b=[]):Ye b≠[]:=by have c:2 ^ b.nt.length-1∈Uh b (2 ^ b.nt.length):=qAu.2 ⟨qAA.2 (by have:=Nat.two_pow_pos b.nt.length;omega),ZtP h⟩;intro e;have:xL (2 ^ b.nt.length-1)∈Ye b:=qAy.2 ⟨_,c,rfl⟩;rw[e]at this;simp at this
def ZuX(f:b.nt.length<=3):(Ye b).Nodup:=by have g:2 ^ b.nt.length<=2 ^ 3:=qAR (by decide) f;rw[Ye,List.Nodup,qDQ];refine List.Pairwise.imp_of_mem (λ{x y} a c h e=>h ?_) ((List.nodup_range (n:=2 ^ b.nt.length)).filter (US b));have a:=qAA.1 (qAu.1 a).1;have c:=qAA.1 (qAu.1 c).1;exact ZpQ O O e
def Zzi(ok:gY b)(m:Nat):gY { b with nt:=Vl b m b.nt.length } where
 pl:=ok.pl
 hd:=ok.hd
 td:=ok.td
 n:=ok.n
 pk:=ok.pk
 nm:=ok.nm
 nn:=by have d:=Zft m b.nt.length;have e:=ok.nn;show((UW m b.nt.length).map (QJ b)).length<=3;rw[qAd];omega
 nt:=λx c=>by
  obtain⟨i,a,rfl⟩:=qAy.1 c;have:i<b.nt.length:=by simpa using(qAu.1 a).1
  rw[QJ,ZG this];exact ok.nt _ (iN this)
def X3(b:Sb)(m:Nat)(A:Option Addr)(c:Nat):Sb:={ b with nt:=Vl b m b.nt.length,A2:=A,c2:=c }
def ZoU{H:Hp}{r:Nat}{x:Nt}:dF (H.ins r (.cells #[.slice x.A x.ps.length x.c,vi x.lo,vi x.hi] 137)) (.slice (some ⟨r,0,none⟩) 1 1) [x]:=Z3 (l:=[x])
section
variable{P:fP}[Tz P][Loud P]{H:Hp}
theorem Zo9(hb:Zq H b)(hl2:b.nt.length<=60)(hm:m<9223372036854775808) :
  LL.Zb P 147 #[b.v,vi m] H λv t=>fI H t/\∃A c lv bb,v=.tuple #[(X3 b m A c).v,lv]/\Zq t (X3 b m A c)/\gL H t 3 lv (YW m b.nt.length) bb:=by
 refine aU.m (fO Zye) rfl ?_;unfold Zkm Sb.v;refine Y ?_;refine Yp (α:=(Option Addr×Nat)×(Option Addr×Nat)×Option Nat×Option Nat) b.nt.length (λj s t=>fI H t/\gL H t 3 (.slice s.1.1 (YW m j).length s.1.2) (YW m j) s.2.2.1/\gL H t 137 (.slice s.2.1.1 (Vl b m j).length s.2.1.2) (Vl b m j) s.2.2.2/\k8 s.2.2.1 s.2.2.2)
  (λj s=>[(1,vi m),(2,vi 0),(4,vi 0),(5,.slice none 0 0),(6,.slice s.1.1 (YW m j).length s.1.2),(7,vi 0),(15,.slice b.A2 b.nt.length b.c2),(16,vi b.nt.length),(17,vi j)])
  (λj s=>[(2,b.cs),(4,[vi 0,vi 0,vi 0,.slice none 0 0,.slice none 0 0]),(7,[vi b.pl,vi b.hd,vi b.td,.slice b.A1 b.pk.length b.c1,.slice s.2.1.1 (Vl b m j).length s.2.1.2])])
  ((none,0),(none,0),none,none) ⟨.refl H,.nil H H 3,.nil H H 137,.none _⟩ V V ?_
 rintro j ⟨⟨Z,c6⟩,⟨T,U⟩,b6,b7⟩ H1 hj ⟨f,y,B,u⟩;simp only at y B u;refine OJ (λh1=>?_) (λh1=>?_)
 ·have D:j<b.nt.length:=O;have d:=Zum m j;refine Y ?_;refine ZB j (hb.nt.inc f) D λa ha=>Y ?_;refine YL ha (Y ?_);refine EJ rfl rfl (.inl rfl) O (ZoW O) (Y ?_);refine ME (v:=vi ((m / 2 ^ j % 2:Nat):Int)) rfl rfl (.inl rfl) (Zzg (qBB (qDx _ _) hm)) ?_;refine OJ (λh2=>?_) (λh2=>?_)
  ·have R:m.testBit j=true:=(Zm4 m j).1 O;rw[R,qAa rfl]at d;have G:YW m (j+1)=YW m j++[(j:Int)]:=by rw[YW,d,qBt];rfl
   have F:Vl b m (j+1)=Vl b m j++[b.nt[j]]:=by rw[Vl,d,qBt,qDK,QJ,ZG D];rfl
   have lN:(YW m j).length<=j:=by rw[YW,qAd];exact Zft m j
   have lC:(Vl b m j).length<=j:=by rw[Vl,qAd];exact Zft m j
   refine Y ?_;refine Z4 (cs:=[vi (j:Int)]) (OL _) rfl λr1 h=>?_;refine Zz OL (Y ?_);refine VX (l':=[(j:Int)]) (fU jR) (fU jR) (fT t3) rfl (by decide) (f.trans (Zt h)) (y.ins h) XA rfl (by simp;omega) O rfl rfl (OL _) λv6' H2 L k1 k2 k3=>?_;obtain⟨E,C⟩:=(y.ins h).pI (B.ins h) u k3;refine Zz OL (Y ?_);refine Z4 (cs:=[.slice b.nt[j].A b.nt[j].ps.length b.nt[j].c,vi b.nt[j].lo,vi b.nt[j].hi]) (OL _) rfl λr2 r=>?_;refine Zz OL (Y ?_);refine VX (l':=[b.nt[j]]) (fU uB) (fU uB) (fT JY) rfl (by decide) (k1.trans (Zt r)) (E.ins r) ZoU rfl (by simp;omega) O rfl rfl (OL _) λv7' H3 M k4 S k6=>?_;obtain⟨g,w⟩:=(E.ins r).pI (k2.ins r) C.symm k6;rw[<-G]at g;rw[<-F]at S;obtain⟨I,N,rfl,_⟩:=id g.sl;obtain⟨J,Q,rfl,_⟩:=id S.sl;refine Y ?_;exact⟨(⟨j+1,O⟩,((I,N),(J,Q),L,M)),gI O,⟨k4,g,S,w.symm⟩,V,V,rfl⟩
  have R:m.testBit j=false:=by
   cases hh:m.testBit j with
   | false=>rfl
   | true=>have:=(Zm4 m j).2 hh;omega
  rw[R]at d;simp only[oR,qAq,qAl]at d;have G:YW m (j+1)=YW m j:=by rw[YW,d];rfl
  have F:Vl b m (j+1)=Vl b m j:=by rw[Vl,d];rfl
  rw[<-G]at y;rw[<-F]at B;refine Y ?_;exact⟨(⟨j+1,O⟩,((Z,c6),(T,U),b6,b7)),gI O,⟨f,y,B,u⟩,⟨rfl,rfl,rfl,rfl,by rw[G];rfl,rfl,rfl,rfl,rfl,trivial⟩,⟨rfl,rfl,by rw[F];rfl,trivial⟩,rfl⟩
 have:j=b.nt.length:=O;subst this;obtain⟨_,_,W,q7⟩:=OA B;simp only[Value.slice.injEq]at W;obtain⟨_,_,rfl⟩:=W;refine Y ?_;refine⟨f,T,U,_,_,rfl,⟨hb.pk.inc f,B.sl,λx hx=>?_,hb.q1,q7⟩,y⟩;obtain⟨i,X,rfl⟩:=qAy.1 hx;have:i<b.nt.length:=by simpa using(qAu.1 X).1
 rw[QJ,ZG this];exact(hb.ps _ (iN this)).inc f
end
def Ii:Tryz.prog.underlying 57=some (.slice 45):=U
structure FC(H:Hp)(n:Nat)(qs:List kO)(ms:List Nat):Prop where
 len:qs.length=ms.length
 at_:∀i (h:i<qs.length) (h':i<ms.length),dF H (mD qs[i]) (YW ms[i] n)/\qs[i].2.1<=qs[i].2.2
def FC.nil(H:Hp)(n:Nat):FC H n [] []:=⟨rfl,λi h=>by simp at h⟩
def FC.inc{H H':Hp}(h:FC H n qs ms)(c:fI H H'):FC H' n qs ms:=⟨h.len,λi a b=>⟨((h.at_ i a b).1).inc c,(h.at_ i a b).2⟩⟩
def FC.pP{H:Hp}{q:kO}(h:FC H n qs ms)(hv:dF H (mD q) (YW m n))(hc:q.2.1<=q.2.2):FC H n (qs++[q]) (ms++[m]):=by exact WH
def tG(K:List Int)(qs:List kO)(z:Int):kO:=qs.getD (K.idxOf z) (none,0,0)
def ZhS(f:qs.length=K.length)(a:K.Nodup)(e:k<K.length):tG K qs K[k]=qs[k]'O:=by have c:K.idxOf K[k]<K.length:=List.idxOf_lt_length_iff.2 (iN e);have d:K.idxOf K[k]=k:=(qDW a).1 (List.getElem_idxOf c);rw[tG,d,ZG O]
def ZfN(E:Int->kO):∀l:List Int,Zd (l.map E)=qT E l
 | []=>rfl
 | z :: l=>by have ih:=ZfN E l;show mD (E z) :: Zd (l.map E)=mD (E z) :: qT E l;rw[ih]
def Zsx(c:qs.length=K.length)(a:K.Nodup):qT (tG K qs) K=Zd qs:=by
 have:K.map (tG K qs)=qs:=qCz (by simp[c]) λi d e=>by rw[qBn,ZhS c a]
 rw[<-ZfN,this]
def V3(b:Sb):List Int:=if ZN b=0/\Za b=[]then ZmO b else[]
def Zzl(ok:gY b)(m:Nat)(A:Option Addr)(c:Nat):gY (X3 b m A c):=by have h:=Zzi ok m;exact⟨h.pl,h.hd,h.td,h.n,h.pk,h.nm,h.nn,h.nt⟩
def Zzk{A:Option Addr}{c:Nat}:Vp (X3 b m A c)=!US b m:=by rw[Vp,US,Zhr (b:=X3 b m A c) (b':={ b with nt:=Vl b m b.nt.length }) rfl rfl]
section
variable{P:fP}[Tz P][Loud P]{H:Hp}
theorem Zpy(hb:Zq H b)(sz:b.Sz)(hg:Yb H) :
  LL.Zb P 63 #[b.v] H λv f=>fI H f/\∃A c,v=.tuple #[.slice A (V3 b).length c,vi (ZN b)]/\(V3 b).length<=c/\dF f (.slice A (V3 b).length c) (V3 b):=by
 refine aU.m (fO ZyI) rfl ?_;unfold ZkQ Sb.v;refine Y ?_;refine Zg (HN hb sz hg) ?_;rintro v H1 ⟨i1,rfl⟩;refine OJ (λM=>?_) (λM=>?_)
 ·have e:V3 b=[]:=iF λh=>M h.1;rw[e];refine Y ?_;exact⟨i1,none,0,rfl,DO _,.nil _⟩
 have ok:=Ob (b:=b) M;refine Y ?_;refine Zg (ZeD (hb.inc i1) ok) ?_;rintro v H2 ⟨i2,rfl⟩;have p9:=i1.trans i2;cases AF:Vp b with
 | true=>
  have e:V3 b=[]:=iF λh=>by rw[Vp,h.2]at AF;simp at AF
  rw[e,M];refine Y ?_;exact⟨p9,none,0,rfl,DO _,.nil _⟩
 | false=>
 have Z:Za b=[]:=by simpa[Vp]using AF
 have e:V3 b=ZmO b:=qAa ⟨M,Z⟩;rw[e,M];have E:=ok.nn;have Sq:2 ^ b.nt.length<=2 ^ 3:=qAR (by decide) E;refine Y ?_;refine EJ rfl rfl (.inr rfl) O (Zo0 E) (Y ?_);refine Yp (α:=Hp×Value×List kO×Option Nat) (2 ^ b.nt.length) (λj s f=>fI H s.1/\fI s.1 f/\gL s.1 f 45 s.2.1 s.2.2.1 s.2.2.2/\FC s.1 b.nt.length s.2.2.1 (Uh b j))
  (λj s=>[(2,.slice none 0 0),(3,vi 0),(5,vi 0),(6,s.2.1),(22,vi (2 ^ b.nt.length:Nat)),(23,vi j)])
  (λj s=>[(1,b.cs),(5,b.cs)])
  (H2,.slice none 0 0,[],none) ⟨p9,.refl H2,.nil _ _ _,.nil _ _⟩ V V ?_
 rintro j ⟨G,v6,qs,b6⟩ H3 hj ⟨N,g,o6,t⟩;simp only at N g o6 t;have SE:=t.len;have hol:=ZtR b j;refine OJ (λh3=>?_) (λh3=>?_)
 ·have mF:j<2 ^ b.nt.length:=O;have u:=ZtQ b j;refine Y ?_;refine Zg (Zo9 (m:=j) (hb.inc (N.trans g)) O O) ?_;rintro v L ⟨i4,A8,c8,lv,bb,rfl,hb8,ow⟩;obtain⟨A9,c9,rfl,q9⟩:=OA ow;refine Y ?_;refine Zg (ZeD hb8 (Zzl ok j A8 c8)) ?_;rintro v H5 ⟨i5,rfl⟩;rw[Zzk];cases ho:US b j with
  | true=>
   obtain⟨G',g1,g2,g3,g4⟩:=PA g o6 (i4.trans i5) ⟨(ow.inc i5).own,ow.fresh⟩;rw[ho,qAa rfl]at u;refine Y ?_;refine Z4 (cs:=[.slice A9 (YW j b.nt.length).length c9]) (OL _) rfl λr5 hr5=>Y ?_;refine VX (l':=[((A9,(YW j b.nt.length).length,c9):kO)]) (fU Ii) (fU Ii) (fT Q0) rfl (by decide) (g2.trans (Zt hr5)) (g3.ins hr5) (Z3 (l:=[((A9,(YW j b.nt.length).length,c9):kO)])) rfl (by simp;omega) O rfl rfl (OL _) λv6' H6 b6' k1 k2 k3=>Y ?_;exact⟨(⟨j+1,O⟩,(G',v6',qs++[(A9,(YW j b.nt.length).length,c9)],b6')),gI O,⟨N.trans g1,k1,k2,by rw[u];exact(t.inc g1).pP g4 q9⟩,V,V,rfl⟩
  | false=>
   rw[ho]at u;simp only[oR,qAq,qAl]at u;refine Y ?_;exact⟨(⟨j+1,O⟩,(G,v6,qs,b6)),gI O,⟨N,(g.trans i4).trans i5,(o6.inc i4).inc i5,by rw[u];exact t⟩,V,V,rfl⟩
 have:j=2 ^ b.nt.length:=O;subst this;have hK:(Ye b).length=(Uh b (2 ^ b.nt.length)).length:=by rw[Ye,qAd]
 have hKn:=ZuW Z;have AH:=qBY.2 hKn;have X:=ZuX (b:=b) E;have F:qs.length=(Ye b).length:=by rw[hK];exact SE
 have KO:qs.length<=12:=O;obtain⟨h0,⟨_,h2,_⟩ | ⟨r,cap,rest,rfl,rfl,f3,f4,f5⟩⟩:=id o6.own
 ·exact absurd h2 O
 have R:=o6.fresh r rfl;have e1:=Zsx F X;rw[<-e1]at f3 f4;have D:∀(f:Hp),(∀b x,b≠r->H3 b=some x->f b=some x)->∀z∈Ye b,dF f (mD (tG (Ye b) qs z)) (pQ z)/\(tG (Ye b) qs z).2.1<=(tG (Ye b) qs z).2.2:=by
  intro f C z hz;obtain⟨k,hk1,rfl⟩:=qAz.1 hz;rw[ZhS F X hk1];have S:k<(Uh b (2 ^ b.nt.length)).length:=O;obtain⟨a1,a2⟩:=t.at_ k O S;have hm:(Uh b (2 ^ b.nt.length))[k]<2 ^ b.nt.length:=qAA.1 (qAu.1 (iN S)).1;have e:(Ye b)[k]=xL (Uh b (2 ^ b.nt.length))[k]:=by simp[Ye]
  rw[e,ZpO E hm];refine⟨a1.inc λx y J=>C x y ?_ (g x y J),a2⟩;rintro rfl;rw[R]at J;simp at J
 have R3:∀z,(pQ z).length<=1000000:=λz=>by
  unfold pQ;rw[qAp];generalize z.toNat=k;match k with
  | 0=>decide
  | 1=>decide
  | 2=>decide
  | 3=>decide
  | 4=>decide
  | 5=>decide
  | 6=>decide
  | 7=>decide
  | k+8=>simp
 have hC:X0 P (tG (Ye b) qs) H3 r (vf 149) (λz=>z∈Ye b):=by intro f C p q Q hq;have h:=ZnA (P:=P) (H:=f) (D f C p Q).1 (D f C q hq).1 (R3 p) (R3 q) (OL _);rw[ZpS (XR Q) (XR hq)]at h;exact Yv U h
 refine Y ?_;refine Zg (ZoR (rest:=rest) hC (λk C=>by rw[el,ZG C];exact iN C) f3 F.symm KO) ?_;rintro v L ⟨l',ar,rg,so⟩;have Q:l'.Perm (Ye b):=rg.perm O;have Tj:l'.length=qs.length:=by rw[rg.len];exact F.symm
 have a:∀b x,b≠r->H3 b=some x->L b=some x:=ar.keep;have i4:fI H L:=λx y J=>a x y (by rintro rfl;rw[YP N R]at J;simp at J) (g x y (N x y J));have FY:dF L (.slice (some ⟨r,0,none⟩) (l'.map (tG (Ye b) qs)).length cap) (l'.map (tG (Ye b) qs)):=by have h4:=ar.at_;rw[<-ZfN]at h4;exact⟨_,cap,rfl,λ_=>⟨_,rfl,YN (ds:=rest) (ZM h4)⟩⟩
 have Jm:qs.length=(l'.map (tG (Ye b) qs)).length:=by rw[qAd,Tj]
 have KQ:l'.map (tG (Ye b) qs)≠[]:=List.ne_nil_of_length_pos O;have T:(l'.map (tG (Ye b) qs)).map UY=l'.map λz=>((pQ z).length:Int):=by rw[qDV];refine qDa λz hz=>?_;obtain⟨_,_,e,_⟩:=(D L a z (Q.mem_iff.1 hz)).1;simp only[Value.slice.injEq]at e;show((tG (Ye b) qs z).2.1:Int)=_;rw[e.2.1]
 have B:=Zws Q (λx y hxy hy=>so x y (qBf _) hxy O) (List.ne_nil_of_length_pos O);have B6:=ZsM (P:=P) FY KQ O;rw[T]at B6;rw[Jm];refine Y ?_;refine Zg B6 ?_;rintro w _ ⟨rfl,C,rfl⟩;have I:Zs (l'.map λz=>((pQ z).length:Int))<l'.length:=by rw[qAd]at C;exact C
 have hz:(l'.map (tG (Ye b) qs))[Zs (l'.map λz=>((pQ z).length:Int))]=tG (Ye b) qs (X5 b):=by rw[qBn,<-B,el,ZG I]
 rw[hz];have W:X5 b∈Ye b:=by rw[<-B,el,ZG I];exact Q.mem_iff.1 (iN I)
 obtain⟨s1,s2⟩:=D L a _ W;obtain⟨A,c,e,hh⟩:=id s1;generalize tG (Ye b) qs (X5 b)=q at *;obtain⟨qA,qn,qc⟩:=q;simp only[Value.slice.injEq]at e;obtain⟨rfl,rfl,rfl⟩:=e;refine Y ?_;exact⟨i4,qA,qc,rfl,s2,s1⟩
def ZzO(hn:1<=b.pk.length/\b.pk.length<=4) :
  LL.Zb P 305 #[b.v] H λv e=>fI H e/\∃A c qs,v=.slice A qs.length c/\dF e v qs/\zF e qs (Zu b.pk.length):=by
 refine aU.m (fO ZyL) rfl ?_;unfold ZkT Sb.v;refine Y ?_;refine Z4 (cs:=Zd [((none,0,0):kO)]) (OL _) rfl λQ hr8=>?_;have s8:dF (H.ins Q (.cells (Zd [((none,0,0):kO)]).toArray 45)) (.slice (some ⟨Q,0,none⟩) 1 1) [((none,0,0):kO)]:=Z3 (l:=[((none,0,0):kO)]);have i8:fI H (H.ins Q (.cells (Zd [((none,0,0):kO)]).toArray 45)):=Zt hr8;generalize H.ins Q (.cells (Zd [((none,0,0):kO)]).toArray 45)=H1 at *;refine Y ?_;refine Yp (α:=(Option Addr×Nat)×List kO) b.pk.length (λi s e=>fI H e/\dF e (.slice s.1.1 s.2.length s.1.2) s.2/\zF e s.2 (tR b.pk.length i))
  (λi s=>[(1,vi 0),(2,.slice none 0 0),(3,.slice s.1.1 s.2.length s.1.2),(4,vi i)]) (λ_ _=>[(1,b.cs)]) ((some ⟨Q,0,none⟩,1),[(none,0,0)])
  ⟨i8,s8,rfl,λi h h'=>by(obtain rfl:i=0:=by simpa using h);exact⟨.nil _,DO _⟩⟩ V V ?_
 rintro i ⟨⟨A3,c3⟩,qs⟩ H2 hi ⟨i2,s3,M⟩;simp only at s3 M;have Jn:=M.len;have hlv:=ZuC hn.2 (show i<=b.pk.length by omega);refine OJ (λh1=>?_) (λh1=>?_)
 ·have SL:i<b.pk.length:=O;refine Y ?_;refine Yp (α:=Hp×Value×List kO×Option Nat) qs.length (λk s e=>fI H2 s.1/\fI s.1 e/\gL s.1 e 45 s.2.1 s.2.2.1 s.2.2.2/\zF s.1 s.2.2.1 (((tR b.pk.length i).take k).flatMap λl=>pT l b.pk.length))
   (λk s=>[(1,vi 0),(2,.slice none 0 0),(3,.slice A3 qs.length c3),(4,vi i),(5,s.2.1),(6,vi k)]) (λ_ _=>[(1,b.cs)]) (H2,.slice none 0 0,[],none) ⟨.refl _,.refl _,.nil _ _ _,.nil _⟩ V V ?_
  rintro k ⟨G,v5,ps,b5⟩ H3 hk ⟨g1,U,X,W⟩;simp only at g1 U X W;refine OJ (λh2=>?_) (λh2=>?_)
  ·have x:k<qs.length:=O;have y:k<(tR b.pk.length i).length:=O;obtain⟨sk,ck⟩:=M.at_ k x y;have K0:=ZvK (λl=>pT l b.pk.length) y;have B:=Zmg (n:=b.pk.length) ((tR b.pk.length i).take k);rw[qAs]at B;have B:(((tR b.pk.length i).take k).flatMap λl=>pT l b.pk.length).length<=96:=by refine qAP B (qAP (qBK (show min k _<=24 by omega) hn.2) (by decide))
   have hlk:=hlv.2 _ (iN y);generalize((tR b.pk.length i).take k).flatMap (λl=>pT l b.pk.length)=L at *;generalize(tR b.pk.length i)[k]=l at *;generalize hqk:qs[k]=q at *;have I:=Zg9 sk;obtain⟨qA,qn,qc⟩:=q;simp only at I ck;subst I;refine Y ?_;refine Yp (α:=Hp×Value×List kO×Option Nat) b.pk.length (λj s e=>fI H2 s.1/\fI s.1 e/\gL s.1 e 45 s.2.1 s.2.2.1 s.2.2.2/\zF s.1 s.2.2.1 (L++pT l j))
    (λj s=>[(1,vi 0),(2,.slice none 0 0),(3,.slice A3 qs.length c3),(4,vi i),(5,s.2.1),(6,vi k),(7,vi j)]) (λ_ _=>[(1,b.cs)]) (G,v5,ps,b5) ⟨g1,U,X,by rw[pT,List.range_zero,List.flatMap_nil,qAl];exact W⟩ V V ?_
   rintro j ⟨G2,w5,C,S⟩ H4 hj ⟨D,E,Z,N⟩;simp only at D E Z N;have KT:=N.len;rw[IN]at KT;have hxl:=ZfJ l j;refine OJ (λh3=>?_) (λh3=>?_)
   ·have mF:j<b.pk.length:=O;have r:=Zmh l j;have t:=D.trans E;have row:Enc.enc qs[k]=[.slice qA l.length qc]:=by rw[hqk];rfl
    refine Y ?_;refine ZB k (s3.inc t) x λa ha=>?_;rw[row]at ha;refine Y ?_;refine Z8 ha (Y ?_);refine Zo (Znt (sk.inc t) O) ?_;by_cases f:(j:Int)∈l
    ·rw[decide_eq_true f];rw[qAa f,qAl]at r;refine Y ?_;exact⟨(⟨j+1,O⟩,(G2,w5,C,S)),gI O,⟨D,E,Z,by rw[r];exact N⟩,V,V,rfl⟩
    rw[qAU f];rw[iF f]at r;refine Y ?_;refine rT (fU jR) (fT t3) (OL _) λr7 g=>Y ?_;refine ZB k ((s3.inc t).inc (Zt g)) x λa2 F=>?_;rw[row]at F;refine Y ?_;refine Z8 F (Y ?_);refine ZtE (l:=l) (fU jR) (fT t3) rfl (by decide) g rfl ((sk.inc t).inc (Zt g)) (sU (λ_=>rfl) l) O O rfl rfl (OL _) λv8 H5 b8 i5 o8=>?_;have i45:fI H4 H5:=(Zt (o:=.cells #[] 3) g).trans i5;refine Y ?_;refine Z4 (cs:=[vi (j:Int)]) (OL _) rfl λr9 J=>Y ?_;refine VX (l':=[(j:Int)]) (fU jR) (fU jR) (fT t3) rfl (by decide) (i45.trans (Zt J)) (o8.ins J) XA rfl (by simp;omega) O rfl rfl (OL _) λv9 H6 b9 k1 k2 k3=>?_;obtain⟨R,T,rfl,q9⟩:=OA k2;obtain⟨G',m1,m2,m3,m4⟩:=PA E Z k1 k2;refine Y ?_;refine Z4 (cs:=[.slice R (l++[(j:Int)]).length T]) (OL _) rfl λIv w=>Y ?_;refine VX (l':=[((R,(l++[(j:Int)]).length,T):kO)]) (fU Ii) (fU Ii) (fT Q0) rfl (by decide) (m2.trans (Zt w)) (m3.ins w) (Z3 (l:=[((R,(l++[(j:Int)]).length,T):kO)])) rfl (by simp;omega) O rfl rfl (OL _) λv11 H7 b11 n1 n2 n3=>Y ?_;exact⟨(⟨j+1,O⟩,(G',v11,C++[(R,(l++[(j:Int)]).length,T)],b11)),gI O,⟨D.trans m1,n1,n2,by rw[r,<-qAE];exact(N.inc m1).pP m4 q9⟩,V,V,rfl⟩
   have:j=b.pk.length:=O;subst this;refine Y ?_;exact⟨(⟨k+1,O⟩,(G2,w5,C,S)),gI O,⟨D,E,Z,by rw[K0];exact N⟩,V,V,rfl⟩
  have:k=qs.length:=O;subst this;rw[Jn,qAh]at W;obtain⟨A5,S,rfl,q5⟩:=OA X;refine Y ?_;exact⟨(⟨i+1,O⟩,((A5,S),ps)),gI O,⟨(i2.trans g1).trans U,X.sl,W.inc U⟩,V,V,rfl⟩
 have:i=b.pk.length:=O;subst this;rw[ZuA hn]at M;refine Y ?_;exact⟨i2,A3,c3,qs,rfl,s3,M⟩
def ZzQ{n:Int}(w:1<=b.pk.length/\b.pk.length<=4)(E:0<=n/\n<256) :
  LL.Zb P 235 #[b.v,.int .u8 n] H λv s=>fI H s/\∃A c p,p∈Zu b.pk.length/\v=.slice A p.length c/\p.length<=c/\dF s (.slice A p.length c) p:=by
 refine aU.m (fO ZyR) rfl ?_;unfold ZkZ Sb.v;refine Y ?_;refine Zg (ZzO w) ?_;rintro v M ⟨I,A,c,qs,rfl,sq,x⟩;have F:=x.len;have G:=Az w;have h:0<qs.length:=by obtain⟨N,Q,R,S⟩:=ZhU;have:b.pk.length=1\/b.pk.length=2\/b.pk.length=3\/b.pk.length=4:=O;rcases this with e | e | e | e<;>rw[e]at F<;>omega
 refine Y ?_;refine VC (fU Tryz.underlying5) (fU Tryz.underlying3) rfl ?_;rw[V8 (show rY n from⟨O,O⟩)];refine Y ?_;refine HH rfl rfl O ?_;obtain⟨i,u,C⟩:=PB (n:=qs.length) E.1 h;rw[C];have f:i<(Zu b.pk.length).length:=O;obtain⟨y,B⟩:=x.at_ i u f;have r:=Zg9 y;have g:=iN f;have row:Enc.enc qs[i]=[mD qs[i]]:=rfl;refine Y ?_;refine ZB i sq u λa t=>?_;rw[row]at t;generalize qs[i]=q at *;generalize(Zu b.pk.length)[i]=p at *;obtain⟨J,T,L⟩:=q;simp only at r B;subst r;refine Y ?_;refine Z8 t (Y ?_);exact⟨I,J,L,p,g,rfl,B,y⟩
end
def iP.ok(h:iP b b')(ok:gY b):gY b':=by
 have a:=h.pk;refine⟨by rw[h.pl];exact ok.pl,by rw[h.hd];exact ok.hd,by rw[h.td];exact ok.td,by rw[a];exact ok.n,by rw[a];exact ok.pk,by rw[a];exact ok.nm,by rw[h.nl];exact ok.nn,λx s=>?_⟩;obtain⟨i,d,rfl⟩:=qAz.1 s;have c:i<b.nt.length:=by rw[<-h.nl];exact d
 obtain⟨f,g,r⟩:=h.nt i c d;rw[f,g,r,a];exact ok.nt _ (iN c)
def iP.right(h:iP b b')(t:N4):hV b' t=hV b t:=by
 have key:∀i (e:i<b.nt.length) (f:i<b'.nt.length),rE t b'.nt[i]=rE t b.nt[i]:=λi e f=>by obtain⟨r,s,u⟩:=h.nt i e f;rw[rE,rE,r,s,u]
 rw[qBQ,hV,hV,qAf,qAf];have v:=h.nl;constructor
 ·intro g x d;obtain⟨i,c,rfl⟩:=qAz.1 d;rw[<-key i c O];exact g _ (iN _)
 intro g x d;obtain⟨i,c,rfl⟩:=qAz.1 d;rw[key i O c];exact g _ (iN _)
def iP.at_(h:iP b b')(j:Nat):gA b' j=gA b j:=by rw[gA,gA,h.pk]
def iP.boats(h:iP b b'):Za b'=Za b:=Zpz (by rw[h.pk]) (λj=>by rw[h.at_];exact⟨rfl,rfl⟩) h.right
def iP.res(h:iP b b'):Zw b'=Zw b:=Ki (by rw[h.pk]) h.pl h.hd (λj=>by rw[h.at_]) λj=>by rw[h.at_]
def LZ:List Pk:=[⟨⟨#[107,101,101,108]⟩,4,4,2,3⟩,⟨⟨#[114,105,98]⟩,2,3,2,2⟩,⟨⟨#[97,114,109]⟩,3,3,1,4⟩]
def L0(A:Option Addr):List Nt:=[⟨A,[0,1],2,6,7⟩]
def jS(A A1 A2:Option Addr):Sb:=⟨2,1,12,LZ,L0 A,A1,3,A2,1⟩
section
variable(A A1 A2:Option Addr)
def Vf:gY (jS A A1 A2):=by have h:ZN (jS A A1 A2)=0:=U;exact Ob h
def Zoo:Za (jS A A1 A2)=[⟨4,2,3,0⟩,⟨4,3,3,0⟩]:=U
def Pq:Yk (jS A A1 A2) [4,2,3] [0,1,2]=0:=U
def sx2:Yk (jS A A1 A2) [4,3,3] [2,1,0]=0:=U
def sx3:Vn (jS A A1 A2) (YQ [4,2,3]) [0,1,2]=[⟨0,4,4,6⟩,⟨0,2,2,4⟩,⟨2,5,6,7⟩]:=U
def sx4:Vn (jS A A1 A2) (YQ [4,3,3]) [2,1,0]=[⟨3,7,7,9⟩,⟨0,3,4,6⟩,⟨0,3,3,4⟩]:=U
def sx5:PR (jS A A1 A2) (YQ [4,2,3]) [0,1,2]=[]:=U
def sx6:PR (jS A A1 A2) (YQ [4,3,3]) [2,1,0]=[1]:=U
def sx7:(Zw (jS A A1 A2) (YQ [4,2,3]) [0,1,2]).2=7:=U
def sx8:UE (sB (Yu (jS A A1 A2) 1))=[2,3]:=U
def Iq:Zp (jS A A1 A2) 0=0:=U
def Zov:UZ (jS A A1 A2) [0,1,2]=(7,8):=U
theorem Zeu:PW (jS A A1 A2) [0,1,2]=1/\PW (jS A A1 A2) [2,1,0]=0/\XN (jS A A1 A2) [2,1,0] 1=0:=by refine⟨?_,?_,?_⟩<;>kernel_rfl
theorem Aj:Zp (jS A A1 A2) (Yo (jS A A1 A2) [0,1,2])=0/\Zp (jS A A1 A2) (Yo (jS A A1 A2) [2,1,0])=0/\Zp (jS A A1 A2) (Uz (jS A A1 A2) [2,1,0] 1)=0/\Zp (jS A A1 A2) (YG (jS A A1 A2) 1)=0:=by refine⟨?_,?_,?_,?_⟩<;>kernel_rfl
def ZgT:(lE (jS A A1 A2) (Za (jS A A1 A2))).length=3:=U
def Zou:YF (jS A A1 A2) (Za (jS A A1 A2))=[0,1,2]:=U
theorem Zot:(jA (jS A A1 A2) (Za (jS A A1 A2)) [0,1,2]).lo=7/\(jA (jS A A1 A2) (Za (jS A A1 A2)) [0,1,2]).hi=8:=by constructor<;>kernel_rfl
def Zos:Ud (jS A A1 A2) (Za (jS A A1 A2))=1:=U
def Zor:Vk (Za (jS A A1 A2)) 3=(1,1):=U
def Zoq:Vy (jS A A1 A2) 1 3 3=0:=U
def Zop:(Za (VH (jS A A1 A2) 1 3 3)).length=1:=U
end
def te0:Te:=⟨⟨0,0,0,⟨0,0,0,0⟩⟩,none,0,0⟩
def Vz(es:List Te)(ms:List Nat)(z:Int):Te:=es.getD (ms.idxOf z.toNat) te0
def X8(es:List Te)(ms:List Nat)(z:Int):List Value:=Enc.enc (Vz es ms z)
def ZpI(es:List Te)(ms:List Nat):Zgd (X8 es ms):=⟨λz=>Enc.len _,λz=>rfl⟩
def Uk(ms:List Nat):List Int:=ms.map λ(m:Nat)=>(m:Int)
def Nm(f:es.length=ms.length)(c:m∈ms):∃(k:Nat) (d:k<ms.length) (e:k<es.length),ms[k]=m/\Vz es ms m=es[k]:=by have a:ms.idxOf m<ms.length:=List.idxOf_lt_length_iff.2 c;refine⟨ms.idxOf m,a,O,List.getElem_idxOf a,?_⟩;unfold Vz;rw[qAL];exact ZG O _
theorem ZpH(a:es.length=ms.length)(c:ms.Nodup):es=ms.map λ(m:Nat)=>Vz es ms (m:Int):=by refine qCz (by rw[qAd,a]) λk g h=>?_;rw[qBn];obtain⟨d,e,f,a3,a4⟩:=Nm a (iN (show k<ms.length by omega));rw[a4];have:d=k:=(qDW c).1 a3;subst this;rfl
theorem ZfM{es:List Te}{ms:List Nat}:∀l:List Nat,Zd (l.map λ(m:Nat)=>Vz es ms (m:Int))=kH (X8 es ms) (Uk l)
 | []=>rfl
 | x :: l=>by have ih:=ZfM (es:=es) (ms:=ms) l;simp only[qBm,Uk,kH,qAI]at ih ⊢;rw[show Zd (Vz es ms (x:Int) :: l.map λ(m:Nat)=>Vz es ms (m:Int))=Enc.enc (Vz es ms (x:Int))++Zd (l.map λ(m:Nat)=>Vz es ms (m:Int))by simp[Zd],ih];rfl
section
variable{P:fP}[Tz P][Loud P]{H:Hp}
theorem Zvg:LL.Zb P 337 #[.slice none 0 0,vi 0,vi 0,cv] H λ_ a=>H=a:=by refine aU.m (fO ZmV) rfl ?_;unfold Zfh;refine Y ?_;refine ZC 0 (λ_ a=>H=a) (λ_=>[(2,vi 0),(8,vi 1)]) (λ_=>[]) rfl V trivial ?_;rintro _ _ _ rfl;refine Y ?_;rfl
theorem ZsT{c:Nat}:LL.Zb P 288 #[.slice none 0 0,vi 0,vi 0,vi c,cv] H λ_ a=>H=a:=by refine aU.m (fO ZmW) rfl ?_;unfold Zfi;refine OB ?_;refine ZC 0 (λ_ a=>H=a) (λ_=>[(0,.slice none 0 0),(1,vi 0),(2,vi 0),(4,cv)]) (λ_=>[]) rfl V trivial ?_;rintro _ _ _ rfl;refine Y ?_;refine Zg (vs:=[.slice none 0 0,vi 0,vi 0,cv]) Zvg ?_;rintro v _ rfl;refine Y ?_;rfl
theorem ZoP(ok:gY b):MZ b ts:=by
 intro H v bb es ms ho V I D B;have hs:∀g,PL.still g=false:=Loud.fD;have hN:=Az ok.n;have Sy:ms.length<=24:=qAP (Kq _ ms I D) hN;obtain⟨h0,⟨rfl,h2,h3⟩ | ⟨r,cap,rest,rfl,rfl,h3,h4,h5⟩⟩:=id ho
 ·have yR:es=[]:=qAr h2;have SD:ms=[]:=qAr O;subst yR SD;refine aU.m (fO ZmY) rfl ?_;unfold Zfk;refine Y ?_;refine VC (fU vD) (fU QE) rfl ?_;rw[U7 (m:=0) (by decide)];refine Y ?_;refine Zg (vs:=[.int .u64 ((0:Nat):Int)]) (X1 (m:=0) (by decide)) ?_;rintro w _ ⟨rfl,rfl⟩;refine Y ?_;refine Zg (vs:=[.slice none 0 0,vi 0,vi 0,vi (jQ 0:Nat),vf 215]) ZsT ?_;rintro w _ rfl;refine Y ?_;exact⟨λx y _ h=>h,[],[],.refl _,.nil,rfl,ho,λk h=>absurd h (qBW _)⟩
 have Q:=ZpI es ms;have e1:Zd es=kH (X8 es ms) (Uk ms):=by
  conv=>lhs;rw[ZpH V I]
  exact ZfM ms
 rw[e1]at h3 h4;have C:(Uk ms).length=es.length:=by rw[Uk,qAd,V]
 have K6:∀k (h:k<ms.length),el (Uk ms) k=(ms[k]:Int):=λk h=>by rw[V1 (by rw[C];omega)];simp[Uk]
 have L:∀(x:Te) p,UK b ts p x H->∃re f,x.A=some ⟨re,0,none⟩/\re≠r/\H re=some (.cells (Zd p++f).toArray 3 (0,0),true):=λx p hf=>by obtain⟨re,f,q1,q2⟩:=hf.bk;exact⟨re,f,q1,by rintro rfl;rw[h3]at q2;simp at q2,q2⟩
 have hC:ZnD PL (X8 es ms) H r (vf 215) (λz=>∃m∈ms,z=((m:Nat):Int)):=by
  rintro H' hk p q ⟨m,R,rfl⟩ ⟨m',F,rfl⟩;obtain⟨k,k1,k2,k3,k4⟩:=Nm V R;obtain⟨j,j1,j2,j3,j4⟩:=Nm V F;have u:=B k k1 k2;have N:=B j j1 j2;rw[k3,<-k4]at u;rw[j3,<-j4]at N;obtain⟨ra,s,a1,a2,a3⟩:=L _ _ u;obtain⟨rb,M,b1,b2,b3⟩:=L _ _ N;have g1:UK b ts (Z1 b.pk.length m) (Vz es ms (m:Int)) H':=⟨u.td,u.n,u.c,ra,s,a1,hk _ _ a2 a3⟩;have g2:UK b ts (Z1 b.pk.length m') (Vz es ms (m':Int)) H':=⟨N.td,N.n,N.c,rb,M,b1,hk _ _ b2 b3⟩;have X:∀q,1<=q/\q<=(Zu b.pk.length).length->(Z1 b.pk.length q).length<=1000000:=λq hq=>by
   have:Z1 b.pk.length q∈Zu b.pk.length:=by unfold Z1;rw[ZG O];exact iN _
   have:=(ZeV this).1;have:=ok.n;omega
  have hcm:=Zwo ok.n (D m R) (D m' F);have:=ZoA (P:=PL) (H:=H') g1.sl g2.sl u.n N.n (X m (D m R)) (X m' (D m' F));rw[hcm]at this;exact Yv U this
 have Tg:es.length<=24:=O;have hll:=Zfy (m:=es.length) O;refine aU.m (fO ZmY) rfl ?_;unfold Zfk;refine Y ?_;refine VC (fU vD) (fU QE) rfl ?_;rw[U7 (m:=es.length) O];refine Y ?_;refine Zg (vs:=[.int .u64 es.length]) (X1 O) ?_;rintro w _ ⟨rfl,rfl⟩;refine Y ?_;refine Zg (vs:=[.slice (some ⟨r,0,none⟩) es.length cap,vi (0:Nat),vi es.length,vi (jQ es.length:Nat),vf 215]) (Zh3 (rest:=rest) (n:=es.length) O es.length 0 es.length (jQ es.length) (Uk ms) H O (by rw[ZgB Q];exact h3) (.t _ Q hC) (λk hk=>by rw[K6 k O];exact⟨_,iN _,rfl⟩) C (qBf _) (DO _) O (.inl rfl)) ?_;rintro w H1 ⟨d,ar,rg,so⟩;have S:=ar.at_;rw[ZgB Q]at S;refine Y ?_;have hp:d.Perm (Uk ms):=rg.perm (by rw[C];exact DO _);have E:d.length=es.length:=by rw[rg.len,C]
 have Z:∀z∈d,((z.toNat:Nat):Int)=z:=λz hz=>by have:=hp.mem_iff.1 hz;obtain⟨m,_,rfl⟩:=qAy.1 this;rw[qAL]
 have T:Uk (d.map Int.toNat)=d:=by unfold Uk;rw[qDV];exact(qDa (λz hz=>Z z hz)).trans (List.map_id _)
 have J:(d.map Int.toNat).Perm ms:=by refine(hp.map Int.toNat).trans ?_;unfold Uk;rw[qDV];rw[show(ms.map (Int.toNat ∘ λ(m:Nat)=>(m:Int)))=ms from(qDa (λm _=>qAL m)).trans (List.map_id _)]
 have W:(d.map Int.toNat).Nodup:=J.nodup_iff.2 I;have Sq:(d.map Int.toNat).Pairwise (·<·):=by
  have h1:d.Pairwise (·<=·):=Zg8 (by rw[E];exact so);have h2:(d.map Int.toNat).Pairwise (·<=·):=by rw[qDQ];exact h1.imp λh=>by omega
  exact(h2.and W).imp λ⟨a,b⟩=>by omega
 refine⟨λx y hx h=>ar.keep x y (λe=>hx (by rw[e])) h,(d.map Int.toNat).map (λ(m:Nat)=>Vz es ms (m:Int)),d.map Int.toNat,J,Sq,by simp,?_,λk k1 k2=>?_⟩
 ·have e2:Zd ((d.map Int.toNat).map (λ(m:Nat)=>Vz es ms (m:Int)))=kH (X8 es ms) d:=by rw[ZfM,T]
  rw[e2];refine⟨by rw[P8 Q];simp,.inr ⟨r,cap,rest,rfl,by simp[E],S,?_,by simp[E];exact h5⟩⟩;rw[IN,P8 Q,E];rw[IN,P8 Q,C]at h4;exact h4
 have R:(d.map Int.toNat)[k]∈ms:=J.mem_iff.1 (iN _);obtain⟨m,G⟩:∃m,m=(d.map Int.toNat)[k]:=⟨_,rfl⟩;have e3:((d.map Int.toNat).map (λ(m:Nat)=>Vz es ms (m:Int)))[k]=Vz es ms (m:Int):=by rw[qBn,G]
 rw[e3,<-G];rw[<-G]at R;obtain⟨j,j1,j2,j3,j4⟩:=Nm V R;have u:=B j j1 j2;rw[j3,<-j4]at u;obtain⟨ra,s,a1,a2,a3⟩:=L _ _ u;exact⟨u.td,u.n,u.c,ra,s,a1,ar.keep _ _ a2 a3⟩
end
def ZeJ:∀b ts,gY b->MZ b ts:=λ_ _ ok=>ZoP ok
section
variable{P:fP}[Tz P][Loud P]{H:Hp}
def Zno(a:P=PP)(hb:Zq H b)(f:b.Sz)(e:Yb H)(c:aM H ⟨3,0,none⟩ [vf 407]) :
  LL.Zb P 57 #[b.v] H λv d=>fI H d/\v=.tuple #[vi (if Zp b 0=0 then(lE b (Za b)).length else 0),vi (Zp b 0)]:=ZzN a ZeJ hb f e c
def ZzK(a:P=PP)(hb:Zq H b)(g:b.Sz)(f:Yb H)(d:aM H ⟨3,0,none⟩ [vf 407]) :
  LL.Zb P 58 #[b.v] H λv e=>fI H e/\((¬ (Zp b 0=0/\lE b (Za b)≠[])/\v=.tuple #[.slice none 0 0,.agg #[vi 0,vi 0],vb false,vi (Zp b 0)]) \/
   (Zp b 0=0/\lE b (Za b)≠[]/\∃A c,dF e (.slice A (YF b (Za b)).length c) (YF b (Za b))/\(YF b (Za b)).length<=c/\v=.tuple #[.slice A (YF b (Za b)).length c,.agg #[vi (jA b (Za b) (YF b (Za b))).lo,vi (jA b (Za b) (YF b (Za b))).hi],vb true,vi 0])):=ZzL a ZeJ hb g f d
def ZzZ(a:P=PP)(hb:Zq H b)(f:b.Sz)(e:Yb H)(c:aM H ⟨3,0,none⟩ [vf 407]) :
  LL.Zb P 59 #[b.v] H λv d=>fI H d/\v=.tuple #[vi (if Zp b 0=0 then Ud b (Za b)else 0:Nat),vb (decide (Zp b 0=0/\Ud b (Za b)≠0)),vi (Zp b 0)]:=Zz0 a ZeJ hb f e c
end
