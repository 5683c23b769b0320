import Derived.Test.YthmnpenamnoniaaGreatDoorP13
import Derived.Test.YthmnpenamnoniaaGreatDoorP14
import Derived.Test.YthmnpenamnoniaaGreatDoorP23
set_option linter.all false
set_option maxHeartbeats 2000000
section
open Go Go.LL
namespace Go.Proofs
section
variable{b:Bk}{m j i r:Nat}{bv:Value}{pm:Bool}{seen:Array Nat}{e:MapEntry}
def Jq{α β:Type}[Enc α][Enc β]{G h a:Hp}{E C:TypeId}{v w:Value}{l:List α}{p:List β}{D Q:Option Nat}(J:bA G h)(o:cS G h E v l D)(t:bA h a)(I:cS h a C w p Q):∃g,bA G g/\bA g a/\cS g a E v l D/\Zj g w p:=by
 have f:bA G a:=J.trans t;obtain⟨R,⟨A,B,N⟩ | ⟨r,cap,rest,A,B,N,U,V⟩⟩:=I.own
 ·have:p=[]:=qAo B;subst this;exact⟨G,.refl G,f,o.inc t,by rw[A];exact .nil G⟩
 have M:=I.fresh r A;have s:G r=none:=Z7 J M;refine⟨G.ins r (.cells (Zh p++rest).toArray C),Zk s,λb x hb=>?_,⟨(o.inc t).own,λO e=>?_⟩,_,cap,B,λ_=>⟨_,rfl,Z2 ZW⟩⟩
 ·by_cases e:b=r
  ·subst e;rw[Hp.aD]at hb;obtain rfl:=iN hb;exact N
  rw[Hp.aE _ _ e]at hb;exact f b x hb
 have u:O≠r:=by
  rintro rfl;obtain⟨_,⟨_,_,q⟩ | ⟨X,_,_,q,_,F,_⟩⟩:=o.own
  ·rw[q]at e;simp at e
  rw[q]at e;obtain rfl:=iN e;rw[M]at F;simp at F
 rw[Hp.aE _ _ u];exact o.fresh O e
def UZ(m n:Nat):List Nat:=(List.range n).filter λi=>m.testBit i
def Zuk(m n:Nat):UZ m (n+1)=UZ m n++if m.testBit n then[n]else[]:=by rw[UZ,List.range_succ,qCa,UZ];congr 1;cases h:m.testBit n<;>simp[h]
def BN(b:Bk)(i:Nat):gA:=b.bJ.getD i ⟨0,0,0⟩
def VW(b:Bk)(m n:Nat):List gA:=(UZ m n).map (BN b)
def V7(m n:Nat):List Int:=(UZ m n).map λ(i:Nat)=>(i:Int)
def sK(b:Bk)(m:Nat):Bk:={ b with bJ:=VW b m b.bJ.length }
def rF(b:Bk)(m:Nat):List Int:=V7 m b.bJ.length
def GO(m n:Nat):(UZ m n).length<=n:=by have:=qBc (λi=>m.testBit i) (List.range n);rwa [qBK]at this
def Zw.alone(v:Zw b)(m:Nat):Zw (sK b m) where
 op:=v.op
 sl:=v.sl
 n:=v.n
 aF:=v.aF
 lA:=by have:=GO m b.bJ.length;have:=v.lA;show((UZ m b.bJ.length).map (BN b)).length<=3;rw[qAe];omega
 bJ:=λc a=>by
  obtain⟨i,hi,rfl⟩:=qAj.1 a;have:i<b.bJ.length:=by have:=(qAq.1 hi).1;simpa using this
  rw[BN,Z8 this];exact v.bJ _ (qAa this)
def ZpU(a:j<=64):ZI .shr .i64 (m:Int) (j:Int)=vi ((m / 2 ^ j:Nat):Int):=by show Value.int .i64 (Int.fdiv (m:Int) (2 ^ min (j:Int).toNat 64))=_;have e:min (j:Int).toNat 64=j:=O;rw[e];congr 1;rw[qBL _ (by exact Int.le_of_lt (Int.pow_pos (by decide)))];simp
def ZzH{x:Nat}(h:x<9223372036854775808):ZI .and .i64 (x:Int) 1=vi ((x % 2:Nat):Int):=by
 have a:(BitVec.ofInt 64 (x:Nat)).toNat=x:=by simp[qCp];omega
 have f:(BitVec.ofInt 64 (1:Int)).toNat=1:=rfl;have g:(BitVec.ofInt 64 (x:Nat) &&& BitVec.ofInt 64 1).toNat=x % 2:=by rw[qCh,a,f,Nat.and_one_is_mod]
 show Value.int .i64 (IntKind.i64.wrap ((BitVec.ofInt 64 (x:Nat) &&& BitVec.ofInt 64 1).toNat:Nat))=_;rw[g,Ud ⟨O,O⟩]
def T4(m j:Nat):(m / 2 ^ j % 2=1)↔m.testBit j=true:=by rw[Nat.testBit_eq_decide_div_mod_eq];simp
section
variable{P:aY}[Tz P][Loud P]{H:Hp}
theorem ZzJ(hb:bK H bv b)(rV:b.bJ.length<=60)(hm:m<9223372036854775808) :
  LL.Za P 116 #[bv,vi m] H λv t=>bA H t/\∃w lv bb,v=.tuple #[w,lv]/\bK t w (sK b m)/\cS H t 3 lv (rF b m) bb:=by
 have nX:=hb;obtain⟨pv,cv,rfl,hp,hc⟩:=hb;refine aI.m (bG Zyf) rfl ?_;unfold Ej;obtain⟨Ap,cp,rfl,uB⟩:=id hp;obtain⟨Ac,cc,rfl,pP⟩:=id hc;refine Y ?_;refine Z4 (α:=(Option Addr×Nat)×(Option Addr×Nat)×Option Nat×Option Nat) b.bJ.length (λj s t=>bA H t/\cS H t 3 (.slice s.1.1 (V7 m j).length s.1.2) (V7 m j) s.2.2.1/\cS H t 101 (.slice s.2.1.1 (VW b m j).length s.2.1.2) (VW b m j) s.2.2.2/\eA s.2.2.1 s.2.2.2)
  (λj s=>[(1,vi m),(2,vi 0),(4,vi 0),(5,.slice none 0 0),(6,.slice s.1.1 (V7 m j).length s.1.2),(7,vi 0),(15,.slice Ac b.bJ.length cc),(16,vi b.bJ.length),(17,vi j)])
  (λj s=>[(2,[vi b.op,vi b.sl,.slice Ap b.aF.length cp,.slice Ac b.bJ.length cc]),(4,[vi 0,vi 0,.slice none 0 0,.slice none 0 0]),(7,[vi b.op,vi b.sl,.slice Ap b.aF.length cp,.slice s.2.1.1 (VW b m j).length s.2.1.2])])
  ((none,0),(none,0),none,none) ⟨.refl H,.nil H H 3,.nil H H 101,.none _⟩ V V ?_
 rintro j ⟨⟨A6,c6⟩,⟨A7,c7⟩,b6,b7⟩ H1 hj ⟨h,B,F,u⟩;simp only at B F u;refine OJ (λh1=>?_) (λh1=>?_)
 ·have D:j<b.bJ.length:=O;have g:=Zuk m j;refine Y ?_;refine Zo j (hc.inc h) D λa ha=>Y ?_;refine ZL ha (Y ?_);refine vC rfl rfl (.inl rfl) O (ZpU O) (Y ?_);refine CE (v:=vi ((m / 2 ^ j % 2:Nat):Int)) rfl rfl (.inl rfl) (ZzH (qBn (Nat.div_le_self _ _) hm)) ?_;refine OJ (λh2=>?_) (λh2=>?_)
  ·have ht:m.testBit j=true:=(T4 m j).1 O;rw[ht,BY rfl]at g;have M:V7 m (j+1)=V7 m j++[(j:Int)]:=by rw[V7,g,qBi];rfl
   have J:VW b m (j+1)=VW b m j++[b.bJ[j]]:=by rw[VW,g,qBi,List.map_singleton,BN,Z8 D];rfl
   have lN:(V7 m j).length<=j:=by rw[V7,qAe];exact GO m j
   have lC:(VW b m j).length<=j:=by rw[VW,qAe];exact GO m j
   refine Y ?_;refine Z0 (cs:=[vi (j:Int)]) (OL _) rfl λr1 o=>?_;refine Zr OL (Y ?_);refine YN (l':=[(j:Int)]) (bL eW) (bL eW) (bH t3) rfl (by decide) (h.trans (Zk o)) (B.ins o) vK rfl (by simp;omega) O rfl rfl (OL _) λQD H2 R k1 k2 k3=>?_;obtain⟨I,C⟩:=(B.ins o).eT (F.ins o) u k3;refine Zr OL (Y ?_);refine Z0 (cs:=[vi b.bJ[j].p,vi b.bJ[j].gl,vi b.bJ[j].gh]) (OL _) rfl λr2 q=>?_;refine Zr OL (Y ?_);refine YN (l':=[b.bJ[j]]) (bL l4) (bL l4) (bH tI) rfl (by decide) (k1.trans (Zk q)) (I.ins q) M8 rfl (by simp;omega) O rfl rfl (OL _) λv7' H3 U k4 k5 k6=>?_;obtain⟨l,A⟩:=(I.ins q).eT (k2.ins q) C.symm k6;rw[<-M]at l;rw[<-J]at k5;obtain⟨N,X,rfl,_⟩:=id l.sl;obtain⟨Q,Z,rfl,_⟩:=id k5.sl;refine Y ?_;exact⟨(⟨j+1,O⟩,((N,X),(Q,Z),R,U)),cZ O,⟨k4,l,k5,A.symm⟩,V,V,rfl⟩
  have ht:m.testBit j=false:=by
   cases hh:m.testBit j with
   | false=>rfl
   | true=>have:=(T4 m j).2 hh;omega
  rw[ht]at g;simp only[dO,qAf,qAw]at g;have M:V7 m (j+1)=V7 m j:=by rw[V7,g];rfl
  have J:VW b m (j+1)=VW b m j:=by rw[VW,g];rfl
  rw[<-M]at B;rw[<-J]at F;refine Y ?_;exact⟨(⟨j+1,O⟩,((A6,c6),(A7,c7),b6,b7)),cZ O,⟨h,B,F,u⟩,⟨rfl,rfl,rfl,rfl,by rw[M];rfl,rfl,rfl,rfl,rfl,trivial⟩,⟨rfl,rfl,by rw[J];rfl,trivial⟩,rfl⟩
 have:j=b.bJ.length:=O;subst this;refine Y ?_;exact⟨h,_,_,_,rfl,⟨_,_,rfl,hp.inc h,F.sl⟩,B⟩
end
def UA(b:Bk)(j:Nat):List (List Int):=((List.range j).filter λm=>!(YR (sK b m))).map (rF b)
def Kk(b:Bk)(j:Nat):UA b (j+1)=UA b j++if YR (sK b j)then[]else[rF b j]:=by rw[UA,List.range_succ,qCa,qBi,UA];congr 1;cases h:YR (sK b j)<;>simp[h]
def Ki(b:Bk)(j:Nat):(UA b j).length<=j:=by rw[UA,qAe];have:=qBc (λm=>!(YR (sK b m))) (List.range j);rwa [qBK]at this
def Zul(n:Nat):UZ (2 ^ n-1) n=List.range n:=by rw[UZ,qBS];intro i a;rw[Nat.testBit_two_pow_sub_one];simpa using a
def ZzK(b:Bk):sK b (2 ^ b.bJ.length-1)=b:=by
 have:VW b (2 ^ b.bJ.length-1) b.bJ.length=b.bJ:=by rw[VW,Zul];refine qDe (by simp) λi g f=>?_;simp only[qBQ,List.getElem_range,BN];exact Z8 f _
 rw[sK,this]
def ZtS(h:YR b=false):1<=(UA b (2 ^ b.bJ.length)).length:=by
 have f:2 ^ b.bJ.length=(2 ^ b.bJ.length-1)+1:=by have:=Nat.two_pow_pos b.bJ.length;omega
 rw[f,Kk,ZzK,h];simp
def MT(b:Bk):List Int:=ZG Ot ((UA b (2 ^ b.bJ.length)).getD 0 []) ((UA b (2 ^ b.bJ.length)).drop 1)
theorem ZpW{n:Nat}(h:n<=3):ZI .shl .i64 1 (n:Int)=vi ((2 ^ n:Nat):Int):=by
 match n,h with
 | 0,_=>rfl
 | 1,_=>rfl
 | 2,_=>rfl
 | 3,_=>rfl
def P2:Tryz.prog.underlying 73=some (.slice 29):=U
def QI:ZU Tryz.prog 29=some (1,some (.slice none 0 0),24):=U
def ZzL(b:Bk)(m:Nat):(rF b m).length<=b.bJ.length:=by rw[rF,V7,qAe];exact GO _ _
def Kj{l:List Int}(h:l∈UA b j):l.length<=b.bJ.length:=by obtain⟨m,_,rfl⟩:=qAj.1 h;exact ZzL b m
section
variable{P:aY}[Tz P][Loud P]{H:Hp}
theorem ZAB(hb:bK H bv b)(hg:ZY H)(X:b.aF.length<=1000000)(Z:b.bJ.length<=1000000) :
  LL.Za P 45 #[bv] H λv C=>bA H C/\∃w,v=.tuple #[w,vi (ZC b)]/\Zj C w (if ZC b=0/\YR b=false then MT b else[]):=by
 have t:=hb;obtain⟨pv,cv,rfl,hp,hc⟩:=hb;refine aI.m (bG c37) rfl ?_;unfold RI;obtain⟨Ap,cp,rfl,uB⟩:=id hp;obtain⟨Ac,cc,rfl,pP⟩:=id hc;refine Y ?_;refine Zl (vs:=[.agg #[vi b.op,vi b.sl,.slice Ap b.aF.length cp,.slice Ac b.bJ.length cc]]) (U9 t hg X Z (OL _)) ?_;refine OJ (λA=>?_) (λA=>?_)
 ·refine Y ?_;exact⟨.refl _,_,rfl,by rw[bY (by rintro⟨h,_⟩;exact A h)];exact .nil _⟩
 have val:=Y3 A;have F:=val.lA;refine Y ?_;refine Zf (vs:=[.agg #[vi b.op,vi b.sl,.slice Ap b.aF.length cp,.slice Ac b.bJ.length cc]]) (NB t val.eI) ?_;rintro v H1 ⟨I,rfl⟩;refine OJ (λB=>?_) (λB=>?_)
 ·refine Y ?_;exact⟨I,_,by rw[A];rfl,by rw[bY (by simp[YR,B])];exact .nil _⟩
 have B:YR b=false:=by rw[YR,B];rfl
 refine Y ?_;refine vC rfl rfl (.inr rfl) O (ZpW F) (Y ?_);have hpw:2 ^ b.bJ.length<=2 ^ 3:=qAZ (by decide) F;refine Z4 (α:=Hp×Value×List Value×Option Nat) (2 ^ b.bJ.length) (λj s C=>bA H s.1/\bA s.1 C/\cS s.1 C 29 s.2.1 s.2.2.1 s.2.2.2/\V9 s.1 s.2.2.1 (UA b j))
  (λj s=>[(1,vi 0),(2,.slice none 0 0),(3,vi 0),(5,vi 0),(6,s.2.1),(22,vi (2 ^ b.bJ.length:Nat)),(23,vi j)])
  (λj s=>[(1,[vi b.op,vi b.sl,.slice Ap b.aF.length cp,.slice Ac b.bJ.length cc]),(5,[vi b.op,vi b.sl,.slice Ap b.aF.length cp,.slice Ac b.bJ.length cc])])
  (H1,.slice none 0 0,[],none) ⟨I,.refl H1,.nil _ _ _,.nil _⟩ V V ?_
 rintro j ⟨G,v6,vs,b6⟩ H2 hj ⟨D,g,M,o⟩;simp only at D g M o;have hln:=o.len;have hol:=Ki b j;refine OJ (λh3=>?_) (λh3=>?_)
 ·have kP:j<2 ^ b.bJ.length:=O;have q:=Kk b j;refine Y ?_;refine Zf (vs:=[.agg #[vi b.op,vi b.sl,.slice Ap b.aF.length cp,.slice Ac b.bJ.length cc],vi j]) (ZzJ (m:=j) (t.inc (D.trans g)) O O) ?_;rintro v H3 ⟨u,w,lv,bb,rfl,hw,ow⟩;obtain⟨_,_,rfl,⟨_,_,rfl,_⟩,⟨_,_,rfl,_⟩⟩:=id hw;refine Y ?_;refine Zf (vs:=[_]) (NB hw (val.alone j).eI) ?_;rintro v H4 ⟨p,rfl⟩;refine OJ (λU=>?_) (λU=>?_)
  ·obtain⟨G',g1,g2,g3,g4⟩:=Jq g M (u.trans p) ⟨(ow.inc p).own,ow.fresh⟩;rw[U,bY (by decide)]at q;obtain⟨N,Q,rfl,_⟩:=id g4;refine Y ?_;refine Z0 (cs:=[.slice N (rF b j).length Q]) (OL _) rfl λr5 J=>Y ?_;refine YN (l':=[Value.slice N (rF b j).length Q]) (bL P2) (bL P2) (bH QI) rfl (by decide) (g2.trans (Zk J)) (g3.ins J) (YJ (l:=[Value.slice N (rF b j).length Q])) rfl (by simp;omega) O rfl rfl (OL _) λQD H5 R k1 k2 k3=>Y ?_;exact⟨(⟨j+1,O⟩,(G',QD,vs++[.slice N (rF b j).length Q],R)),cZ O,⟨D.trans g1,k1,k2,by rw[q];exact(o.inc g1).tN g4⟩,V,V,rfl⟩
  rw[U,BY rfl,qAw]at q;refine Y ?_;exact⟨(⟨j+1,O⟩,(G,v6,vs,b6)),cZ O,⟨D,(g.trans u).trans p,(M.inc u).inc p,by rw[q];exact o⟩,V,V,rfl⟩
 have:j=2 ^ b.bJ.length:=O;subst this;have qS:=ZtS (b:=b) B;have aAH:=Ki b (2 ^ b.bJ.length);obtain⟨A6,c6,f1,f2⟩:=xI M.own O;have s6:=M.sl;subst f1;have hd:=o.at_ 0 O O;refine Y ?_;refine Zo 0 s6 O λa ha=>Y ?_;refine Z9 ha (Y ?_);refine Oh (lo:=1) (bL P2) (bH QI) rfl rfl O (Y ?_);refine Zf (vs:=[vf 118,vs[0],_]) (Zzw (hd.inc g) f2 ((o.inc g).drop 1) (by simp;omega) (by have:=Kj (b:=b) (j:=2 ^ b.bJ.length) (qAa (show 0<_ by omega));omega) (λl X=>by have:=Kj (List.mem_of_mem_drop X);omega) (OL _)) ?_;rintro v _ ⟨rfl,hv⟩;refine Y ?_;refine⟨D.trans g,v,by rw[A];rfl,?_⟩;rw[BY ⟨A,B⟩,MT,Z8 O];exact hv
end
def Pe{G:Prop} (h:G:=by refine Y ?_;exact⟨⟨j+1,O⟩,cZ O,oW.trans qW,⟨rfl,by rw[C7];rfl,by rw[C7];rfl,rfl,rfl,rfl,rfl,trivial⟩,V,rfl⟩):G:=h
def ED{α:Type}[DecidableEq α]:∀(m:List (α×Int)) (a:α) (w:Int) (c:α),ZH (bV m a w) c=if c=a then w else ZH m c
 | [],a,w,c=>by simp[bV,ZH]
 | (k,v) :: r,a,w,c=>by
  rw[bV];by_cases h:a=k
  ·subst h;rw[BY rfl,ZH,ZH];by_cases f:c=a
   ·rw[BY f,BY f]
   rw[bY f,bY f,bY f]
  rw[bY h,ZH,ZH,ED r a w c];by_cases f:c=k
  ·subst f;rw[BY rfl,BY rfl,bY (qAm h)]
  rw[bY f,bY f]
def KS(s:List (Int×Int)×Int)(g:Int):List (Int×Int)×Int:=(bV s.1 g (ZH s.1 g+1),max s.2 (ZH (bV s.1 g (ZH s.1 g+1)) g))
def Vh(L:List Int):List (Int×Int)×Int:=L.foldl KS ([],0)
theorem TX(L:List Int)(g:Int):Vh (L++[g])=KS (Vh L) g:=by rw[Vh,qBA];rfl
theorem Zzy(L:List Int):(∀c,0<=ZH (Vh L).1 c/\ZH (Vh L).1 c<=L.length)/\0<=(Vh L).2/\(Vh L).2<=L.length:=by
 have:∀(n:Nat) (L:List Int),L.length=n->(∀c,0<=ZH (Vh L).1 c/\ZH (Vh L).1 c<=L.length)/\0<=(Vh L).2/\(Vh L).2<=L.length:=by
  intro n;induction n with
  | zero=>
   intro L a;have:L=[]:=qAo a;subst this;exact⟨λc=>⟨qAA _,qAA _⟩,qAA _,qAA _⟩
  | succ n ih=>
   intro L a;obtain⟨f,g,rfl⟩:∃f g,L=f++[g]:=⟨L.dropLast,L.getLast (by rintro rfl;simp at a),(qDh _).symm⟩;rw[IN,qAX]at a;obtain⟨h,l,o⟩:=ih f O;rw[TX,KS,IN,qAX];simp only[ED];have p:=h g;refine⟨λc=>?_,?_,?_⟩
   ·split
    ·omega
    have:=h c;omega
   ·simp only[qAH];omega
   simp only[qAH];omega
 exact this _ L rfl
def YK(b:Bk)(i:Nat):List Int:=(Zd b).map λx=>(Zm b x).get i
def Oz(b:Bk)(n:Nat):Int×Int:=(List.range n).foldl (λs i=>if(Vh (YK b i)).2<s.2 then((i:Int),(Vh (YK b i)).2)else s) (-1,((Zd b).length:Int))
theorem Zzz(b:Bk)(n:Nat):Oz b (n+1)=if(Vh (YK b n)).2<(Oz b n).2 then((n:Int),(Vh (YK b n)).2)else Oz b n:=by rw[Oz,List.range_succ,qBA];rfl
def CJ(b:Bk):Int×Int:=Oz b b.aF.length
def P3:Tryz.prog.underlying 201=some (.map 3 3):=U
section
variable{P:aY}[Tz P][Loud P]{H:Hp}
theorem ZAE(hb:bK H bv b)(hg:ZY H)(hl:b.aF.length<=1000000)(Q:b.bJ.length<=1000000) :
  LL.Za P 40 #[bv] H λv q=>bA H q/\v=.tuple #[vi (if Zy b true=0 then(CJ b).1 else 0),vi (if Zy b true=0 then(CJ b).2 else 0),vi (Zy b true)]:=by
 have s:=hb;obtain⟨pv,cv,rfl,hp,hc⟩:=hb;refine aI.m (bG c39) rfl ?_;unfold RH;refine Y ?_;refine Zf (vs:=[.agg #[vi b.op,vi b.sl,pv,cv],vf 65]) (vD (fB:=true) s hg hl Q xN) ?_;rintro v X ⟨h,⟨g,rfl⟩ | ⟨g,vW,wI,w,bb,e,rfl,ow⟩⟩
 ·refine OJ (λD=>?_) (λD=>?_)
  ·refine Y ?_;exact⟨h,by rw[bY g,bY g];rfl⟩
  exact absurd D g
 simp only[Value.agg.injEq,qBe,qAD,qBP]at e;obtain⟨_,_,rfl,rfl⟩:=e;have val:=Y3 (OV g).1;have Z:=V6 val;obtain⟨A,C,rfl,uB⟩:=id hp;obtain⟨u,B,rfl,pP⟩:=id hc;have hw:=ow.sl;obtain⟨F,I,rfl,_⟩:=id hw;refine Y ?_;refine ZF b.aF.length (λj q=>bA X q)
  (λj=>[(1,vi 0),(2,vi (Oz b j).1),(3,vi (Oz b j).2),(4,vi 0),(5,vi 0),(25,vi b.aF.length),(26,vi j)])
  (λj=>[(1,[vi b.op,vi b.sl,.slice A b.aF.length C,.slice u b.bJ.length B]),(5,[vi b.op,vi b.sl,.slice A b.aF.length C,.slice u b.bJ.length B,.slice F (Zd b).length I])])
  (.refl X) V V ?_
 intro j H2 hj oW;refine OJ (λD=>?_) (λD=>?_)
 ·have kP:j<b.aF.length:=O;have t:j<4:=by have:=val.n;omega
  refine Y ?_;refine PL (α:=Int) (kv:=vi) (OL _) λr hr=>Y ?_;refine Z4 (α:=Unit) (Zd b).length (λk _ q=>bA H2 q/\q r=some (Zu vi (Vh ((YK b j).take k)).1,true))
   (λk _=>[(1,vi 0),(2,vi (Oz b j).1),(3,vi (Oz b j).2),(4,vi 0),(5,vi 0),(6,vi j),(7,.map (some r)),(8,vi (Vh ((YK b j).take k)).2),(25,vi b.aF.length),(26,vi j),(31,.slice F (Zd b).length I),(32,vi (Zd b).length),(33,vi k)])
   (λ_ _=>[(1,[vi b.op,vi b.sl,.slice A b.aF.length C,.slice u b.bJ.length B]),(5,[vi b.op,vi b.sl,.slice A b.aF.length C,.slice u b.bJ.length B,.slice F (Zd b).length I])])
   () ⟨Zk hr,Hp.aD _ _ _⟩ V V ?_
  rintro k _ H3 hk ⟨qW,o⟩;refine OJ (λh2=>?_) (λh2=>?_)
  ·have l:k<(Zd b).length:=O;have hx:=vS val _ (qAa l);have N:k<(YK b j).length:=by rw[YK,qAe];exact l
   have M:(YK b j)[k]=(Zm b (Zd b)[k]).get j:=by simp[YK]
   have R:(YK b j).take (k+1)=(YK b j).take k++[(Zm b (Zd b)[k]).get j]:=by rw[iO N,M]
   have p:=TX ((YK b j).take k) ((Zm b (Zd b)[k]).get j);rw[<-R]at p;obtain⟨q1,q2,q3⟩:=Zzy ((YK b j).take k);have q4:((YK b j).take k).length<=1782:=by
    rw[qBu];have:(YK b j).length=(Zd b).length:=by rw[YK,qAe]
    omega
   refine Y ?_;refine Zo k ((hw.inc oW).inc qW) l λa ha=>Y ?_;refine ZL ha (Y ?_);refine Zl (vs:=[.agg #[vi b.op,vi b.sl,.slice A b.aF.length C,.slice u b.bJ.length B],ZP (Zd b)[k]]) (O9 (((s.inc h).inc oW).inc qW) val.eI.bk (sL hx) (OL _)) ?_;generalize(Zd b)[k]=x at *;refine Y ?_;refine OY (bL Od) (bH t3) (pF a3) rfl rfl (i:=j) t (v:=vi ((Zm b x).get j)) (by have:=xT (Zm b x) t;rw[qAP]at this;simpa[N4.cells]using this) ?_;generalize(Zm b x).get j=gv at *;have qg:=q1 gv;generalize SL:(Vh ((YK b j).take k))=st at *;obtain⟨m,wo⟩:=st;simp only at qg q2 q3 o;refine Y ?_;refine GH (α:=Int) (m:=m) (kv:=vi) (bL P3) (K0 (bL nQ)) (bH t3) rfl rfl o (OL _) (Y ?_);refine Je (α:=Int) (kv:=vi) (bL P3) (K0 (bL nQ)) rfl rfl rfl o (OL _) (Y ?_);refine GH (α:=Int) (kv:=vi) (bL P3) (K0 (bL nQ)) (bH t3) rfl rfl (Hp.aD _ _ _) (OL _) (Y ?_);refine CD rfl rfl (Y ?_);refine⟨(⟨k+1,O⟩,()),cZ O,⟨Yr qW hr,by rw[p];exact Hp.aD _ _ _⟩,⟨rfl,rfl,rfl,rfl,rfl,rfl,rfl,?_,rfl,rfl,rfl,rfl,rfl,trivial⟩,V,rfl⟩;rw[p];rfl
  have:k=(Zd b).length:=O;subst this;have U:(YK b j).take (Zd b).length=YK b j:=qAz (by rw[YK,qAe];exact AT _);rw[U];have C7:=Zzz b j;refine OJ (λJ=>?_) (λJ=>?_)
  ·rw[BY J]at C7;exact Pe
  rw[bY J]at C7;exact Pe
 have:j=b.aF.length:=O;subst this;refine Y ?_;exact⟨h.trans oW,by rw[BY g,BY g,g];rfl⟩
end
def FX(a b:N4):u6 a b=true↔a=b:=by obtain⟨f,g,a3,h⟩:=a;obtain⟨l,o,p,q⟩:=b;simp[u6]
instance:DecidableEq N4:=λa b=>if h:u6 a b=true then .isTrue ((FX a b).1 h)else .isFalse λe=>h ((FX a b).2 e)
theorem ZvU{len:Nat}{E:TypeId}{k:N4}:∀(m:List (N4×Int)) (b i:Nat),Instr.findNow (.array len E) (ZD k) (aM ZD b m) i=(if m=[]then some none else none)
 | [],b,i=>rfl
 | (a,v) :: r,b,i=>rfl
section
variable{P:aY}[Tz P]
def W8{k:N4}{Q:Option (Nat×Value)->Bool->Hp->Prop}{g:Bool}{H:Hp}:∀(m:List (N4×Int)) (b i:Nat),Q (bQ m k i) g H->bD P.toPQ (Instr.findAsking 115 (ZD k) (aM ZD b m) i) Q g H
 | [],b,i,h=>by simpa[aM,Instr.findAsking,bQ,Zi]using h
 | (a,v) :: r,b,i,h=>by
  simp only[aM,Instr.findAsking,Ze];show bD P.toPQ (Op.equalIn (9998+1+1) 115 (ZD k) (ZD a)) _ g H;refine Zwx _ ?_;rw[bQ]at h;by_cases e:k=a
  ·rw[BY e]at h;rw[(FX k a).2 e];simpa[Zi]using h
  rw[bY e]at h;have:u6 k a=false:=by
   cases f:u6 k a with
   | false=>rfl
   | true=>exact absurd ((FX k a).1 f) e
  rw[this];simp only[dO,qAf];exact W8 r (b+1) (i+1) h
def EF:sB (α:=N4) P.toPQ 115 ZD where
 uM:=λb a Q g H h=>by
  have s:∀(x y z u:Int) (Q:Value->Bool->Hp->Prop) g H,bD P.toPQ (part 3 #[vi x,vi y,vi z,vi u] 0) Q g H↔Q (vi x) g H:=λx y z u Q g H=>YL rfl Q;have t:∀(x y z u:Int) (Q:Value->Bool->Hp->Prop) g H,bD P.toPQ (part 3 #[vi x,vi y,vi z,vi u] 1) Q g H↔Q (vi y) g H:=λx y z u Q g H=>YL rfl Q;have w:∀(x y z u:Int) (Q:Value->Bool->Hp->Prop) g H,bD P.toPQ (part 3 #[vi x,vi y,vi z,vi u] 2) Q g H↔Q (vi z) g H:=λx y z u Q g H=>YL rfl Q;have A:∀(x y z u:Int) (Q:Value->Bool->Hp->Prop) g H,bD P.toPQ (part 3 #[vi x,vi y,vi z,vi u] 3) Q g H↔Q (vi u) g H:=λx y z u Q g H=>YL rfl Q;have C:∀(v:Int) (Q:Unit->Bool->Hp->Prop) g H,bD P.toPQ (Instr.checkKey b 9999 3 (vi v)) Q g H↔Q () g H:=λv Q g H=>by rw[show(9999:Nat)=9998+1 from rfl,Instr.checkKey];simp only[Ze,ZA (bL (P:=P) nQ),Zi]
  obtain⟨q,l,o,D,F⟩:=(bH (P:=P) t3).ex;have B:∀(Q:Nat->Bool->Hp->Prop) g H,bD P.toPQ (sizeOf 3) Q g H↔Q 1 g H:=λQ g H=>by rw[Yf l,o]
  rw[show(10000:Nat)=9999+1 from rfl,Instr.checkKey];simp only[ZD,Ze,ZA (bL (P:=P) Od)];have p:List.range' 0 4=[0,1,2,3]:=rfl;simp only[qCL,Std.Legacy.Range.size,qBV,qBX,Nat.div_one,p,qBs,List.forIn_nil,Ze,Yf l,o];simpa[B,s,t,w,A,C,Ze,Zi]using h
 uH:=λm a Q g H h=>by
  simp only[Instr.findKey,Ze,ZA (bL (P:=P) Od),ZvU];by_cases e:m=[]
  ·subst e;simpa[bQ,Zi]using h
  rw[bY e];exact W8 m 0 0 h
 oP:=λa=>by obtain⟨a,b,c,d⟩:=a;simp[Instr.sameBits,ZD]
end
section
variable{α:Type}[DecidableEq α]
def dP:List (α×Int)->α->Nat
 | [],_=>0
 | (k,_) :: r,a=>if a=k then 0 else dP r a+1
def hO(m:List (α×Int))(a:α)(u w:Int):bV (bV m a u) a w=bV m a w:=by
 induction m with
 | nil=>simp[bV]
 | cons p r ih=>
  obtain⟨k,v⟩:=p;rw[bV,bV];by_cases h:a=k
  ·subst h;rw[BY rfl,BY rfl,bV,BY rfl]
  rw[bY h,bY h,bV,bY h,ih]
def ZvR{m:List (α×Int)}{a:α}{v:Value}(h:bQ m a i=some (j,v)):j=i+dP m a/\dP m a<m.length/\bV m a (ZH m a)=m:=by
 induction m generalizing i with
 | nil=>simp[bQ]at h
 | cons p r ih=>
  obtain⟨k,u⟩:=p;rw[bQ]at h;rw[dP,bV,ZH];by_cases f:a=k
  ·rw[BY f]at h;simp only[aT,qAL]at h;rw[BY f,BY f,BY f];exact⟨O,by simp,rfl⟩
  rw[bY f]at h;obtain⟨l,o,g⟩:=ih h;rw[bY f,bY f,bY f,g];exact⟨O,by simp;omega,rfl⟩
def ZvQ{m:List (α×Int)}{a:α}(h:bQ m a i=none):dP m a=m.length:=by
 induction m generalizing i with
 | nil=>rfl
 | cons p r ih=>
  obtain⟨k,u⟩:=p;rw[bQ]at h;split at h
  ·simp at h
  rename_i f;rw[dP,bY f,ih h];simp
def MG(m:List (α×Int))(a:α)(w:Int):dP (bV m a w) a=dP m a/\dP m a<(bV m a w).length:=by
 induction m with
 | nil=>simp[bV,dP]
 | cons p r ih=>
  obtain⟨k,v⟩:=p;rw[bV,dP];by_cases h:a=k
  ·rw[BY h,BY h,dP,BY h];simp
  rw[bY h,bY h,dP,bY h];simp;exact ih
theorem ZpA{kv:α->Value}(m:List (α×Int))(a:α)(b:Nat)(w:Int)(h:dP m a<m.length):(aM kv b m).findIdx? (λe=>(e.born:Int) == ((b+dP m a:Nat):Int))=some (dP m a)/\(aM kv b m).modify (dP m a) (λe=>{ e with val:=vi w })=aM kv b (bV m a w)/\(bV m a w).length=m.length:=by
 induction m generalizing b with
 | nil=>simp at h
 | cons p r ih=>
  obtain⟨k,v⟩:=p;rw[dP]at h ⊢;rw[bV];by_cases f:a=k
  ·subst f;rw[BY rfl,BY rfl,aM,List.findIdx?_cons,qBB];refine⟨by simp,?_,by simp⟩;rw[aM];rfl
  rw[bY f]at h ⊢;rw[bY f];obtain⟨g,l,o⟩:=ih (b+1) (by simpa using h);rw[show b+1+dP r a=b+(dP r a+1)by omega]at g;refine⟨?_,?_,by simp[o]⟩
  ·rw[aM,List.findIdx?_cons,g];have:(((⟨kv k,vi v,b⟩:MapEntry).born:Int) == ((b+(dP r a+1):Nat):Int))=false:=by simp;omega
   simp only[this,dO,qAf,qBl]
  rw[aM,aM,<-l];rfl
end
section
variable{P:aY}{d:Option Nat}{next:aL->Hp->Prop}{σ:aL}{H:Hp}{x y z:Operand}{v:Value}{ty:TypeId}{α:Type}[DecidableEq α]{kv:α->Value}{T K E:TypeId}
def Jd{m:List (α×Int)}{a:α}{o:Nat}(O:P.toProgram.underlying T=some (.map K E))(q:sB P.toPQ K kv)(V:TI P.toProgram E 1 (vi 0) o)(A:σ.get x=some (.map (some r)))(B:σ.get y=some (kv a))(t:H r=some (Zu kv m,true))(g:P.still H.gh=false)
  (h:next (σ.set d (.tuple #[vi (ZH m a),vi (dP m a)])) (H.ins r (Zu kv (bV m a (ZH m a))))):(aR.raw (.mapEntry T x y) ty).m P d next σ H:=by
 obtain⟨U,Q,Z,R,i4⟩:=V.ex;refine YX (by simp[Op.operands,A,B]) (s:=Instr.mapEntry T (.map (some r)) (kv a)) (by simp[execOp,aN,A,B]) ?_;simp only[Instr.mapEntry,Ze,ZA O];refine⟨_,_,⟨g,t⟩,rfl,rfl,?_⟩;rw[Zu,bD];simp only[Ze,Zi];refine q.uM _ _ ?_;refine q.uH m a ?_;cases hf:bQ m a 0 with
 | none=>
  obtain⟨C,f⟩:=L6 m a 0 (ZH m a) hf;have l:=ZvQ hf;simp only[Ze,Uu Q R];refine⟨_,⟨g,t⟩,rfl,rfl,rfl,?_⟩;have:Obj.map ((aM kv 0 m).toArray.push { key:=kv a,val:=vi 0,born:=m.length }) (m.length+1)=Zu kv (bV m a (ZH m a)):=by rw[C,Zu,L3,qAP,f];simp
  rw[this,bD];simp only[Zi];rw[f,l]at h;rw[f];exact h
 | some p=>
  obtain⟨j,u⟩:=p;obtain⟨C,e,f,l,J,D,M,Y⟩:=L7 (kv:=kv) m a 0 0 j u (ZH m a) hf;obtain⟨F,X,I⟩:=ZvR hf;rw[qBV]at f D M;simp only[qAt,f,qBl,Option.getD_some,Instr.keyThatStays,Ze,l,q.oP,qAH,Zi];refine⟨_,⟨g,t⟩,rfl,rfl,rfl,?_⟩;have N:Obj.map ((aM kv 0 m).toArray.modify j λe=>{ e with key:=kv a }) m.length=Zu kv (bV m a (ZH m a)):=by
   have:(aM kv 0 m).modify j (λe=>{ e with key:=kv a })=aM kv 0 m:=by
    refine qCZ λi=>?_;rw[List.getElem?_modify];by_cases w:j=i
    ·subst w;rw[f];show some (if j=j then _ else _)=some e;rw[BY rfl,<-l]
    simp[w]
   rw[I,Zu];congr 1;rw[List.modify_toArray,this]
  rw[N,bD];rw[J,D];have:Value.int IntKind.i64 ((0+j:Nat):Int)=vi (dP m a):=by rw[F];simp
  show next (σ.set d (.tuple #[vi (ZH m a),goInt ((0+j:Nat):Int)])) _
  rw[show goInt ((0+j:Nat):Int)=vi (dP m a)from this];exact h
def ZtJ{m:List (α×Int)}{a:α}{w:Int}(l:σ.get x=some (.map (some r)))(o:σ.get y=some (vi (dP m a)))(p:σ.get z=some (vi w))(t:H r=some (Zu kv m,true))(B:dP m a<m.length)(f:P.still H.gh=false)
  (h:next (σ.set d undef) (H.ins r (Zu kv (bV m a w)))):(aR.raw (.entryStore T x y z) ty).m P d next σ H:=by
 refine PN (by simp[Op.operands,l,o,p]) (s:=Instr.entryStore T (.map (some r)) (vi (dP m a)) (vi w)) (by simp[execOp,aN,l,o,p]) ?_;obtain⟨q,u,A⟩:=ZpA (kv:=kv) m a 0 w B;rw[qAP]at q;simp only[Instr.entryStore,Ze];refine⟨_,_,⟨f,t⟩,rfl,rfl,?_⟩;rw[Zu,bD];simp only[Ze,asInt,asIntOf,Zi];have g:(aM kv 0 m).toArray.findIdx? (λe=>(e.born:Int) == (dP m a:Int))=some (dP m a):=by rw[List.findIdx?_toArray];exact q
 rw[g];simp only;refine⟨_,⟨f,t⟩,rfl,rfl,rfl,?_⟩;have:Obj.map ((aM kv 0 m).toArray.modify (dP m a) λe=>{ e with val:=vi w }) m.length=Zu kv (bV m a w):=by rw[Zu,A,<-u];simp
 rw[this];exact h
def nD(r n:Nat)(seen:Array Nat):Obj:=.mapIter (some r) n seen n
def Ztz{m:List (α×Int)}(o:P.toProgram.underlying T=some (.map K E))(f:σ.get x=some (.map (some r)))(l:H r=some (Zu kv m,pm))(a:P.still H.gh=false)
  (h:∀i,H i=none->next (σ.set d (.pointer (some ⟨i,0,none⟩))) (H.ins i (nD r m.length #[]))):(aR.raw (.range T x) ty).m P d next σ H:=by
 refine YX (by simp[Op.operands,f]) (s:=Instr.range T (.map (some r))) (by simp[execOp,aN,f]) ?_;simp only[Instr.range,Ze,ZA o];refine⟨_,_,⟨a,l⟩,rfl,rfl,?_⟩;rw[Zu,bD];simp only[Ze,newObj,Zi];exact⟨a,λi g=>h i g⟩
def Y0(es:List MapEntry)(seen:Array Nat):List MapEntry:=es.filter λe=>!seen.contains e.born
def EX{m:List (α×Int)}{b:Nat}:∀e∈aM kv b m,b<=e.born/\e.born<b+m.length:=by
 induction m generalizing b with
 | nil=>intro e a;simp[aM]at a
 | cons p r ih=>
  obtain⟨k,v⟩:=p;intro e a;rw[aM]at a;rcases DO.1 a with rfl | a
  ·exact⟨AT _,by simp⟩
  have:=ih e a;simp only[qAI];omega
def ZtA{m:List (α×Int)}(u:σ.get x=some (.pointer (some ⟨i,0,none⟩)))(w:H i=some (nD r m.length seen,true))(M:H r=some (Zu kv m,pm))(a:P.still H.gh=false)
  (F:Y0 (aM kv 0 m) seen=[]->next (σ.set d (.tuple #[.bool false])) H)
  (I:∀e∈Y0 (aM kv 0 m) seen,next (σ.set d (.tuple #[.bool true,e.key,e.val])) (H.ins i (nD r m.length (seen.push e.born)))):(aR.raw (.next x false) ty).m P d next σ H:=by
 refine YX (by simp[Op.operands,u]) (s:=Instr.next (.pointer (some ⟨i,0,none⟩)) false ty) (by simp[execOp,aN,u]) ?_;simp only[Instr.next,Ze];refine⟨_,_,⟨a,w⟩,rfl,rfl,?_⟩;rw[nD,bD];simp only[Ze];refine⟨_,_,⟨a,M⟩,rfl,rfl,?_⟩;rw[Zu,bD];have g:(aM kv 0 m).toArray.isEmpty=false->(aM kv 0 m).toArray.all (λe=>decide (e.born ≥ m.length))=false:=by
  intro f;cases hm:aM kv 0 m with
  | nil=>rw[hm]at f;simp at f
  | cons e l=>
   have:=(EX (kv:=kv) (m:=m) (b:=0) e (by rw[hm];simp)).2;simp;intro N;omega
 have J:(!seen.isEmpty && !(aM kv 0 m).toArray.isEmpty && (aM kv 0 m).toArray.all (λe=>decide (e.born ≥ m.length)))=false:=by
  cases f:(aM kv 0 m).toArray.isEmpty with
  | true=>simp
  | false=>rw[g f];simp
 simp only[J,dO,qAf];have h:((aM kv 0 m).toArray.filter λe=>!seen.contains e.born)=(Y0 (aM kv 0 m) seen).toArray:=by simp[Y0]
 have o:((Y0 (aM kv 0 m) seen).toArray.filter λe=>decide (e.born<m.length))=(Y0 (aM kv 0 m) seen).toArray:=by simp only[List.filter_toArray',qCX];congr 1;rw[qBS];intro e f;have:=(EX (kv:=kv) (m:=m) (b:=0) e (qAq.1 f).1).2;simp;omega
 have p:((Y0 (aM kv 0 m) seen).toArray.filter λe=>decide (e.born ≥ m.length))=#[]:=by simp only[List.filter_toArray',qCX];congr 1;rw[qCF];intro e f;have:=(EX (kv:=kv) (m:=m) (b:=0) e (qAq.1 f).1).2;simp;omega
 rw[h,o,p];generalize Y0 (aM kv 0 m) seen=L at *;simp only[Ze,choose];rw[bD];cases L with
 | nil=>
  have:Question.forced (Question.mapNext ((if([]:List MapEntry).toArray.isEmpty=true then #[none]else #[])++(([]:List MapEntry).toArray++#[]).map some:Array (Option MapEntry)).size)=true:=by simp[Question.forced]
  rw[BY this,bD];simp;exact F rfl
 | cons e l=>
  have q:((if(e :: l).toArray.isEmpty=true then #[none]else #[])++((e :: l).toArray++#[]).map some:Array (Option MapEntry))=((e :: l).map some).toArray:=by simp
  rw[q];have key:∀t,t<(e :: l).length->bD P.toPQ (match (((e :: l).map some).toArray)[t]? with
   | some (some e)=>do
    setObj i (.mapIter (some r) m.length (seen.push e.born) m.length)
    pure (.tuple #[.bool true,e.key,e.val])
   | some none=>(pure (.tuple #[.bool false]):Sem Value)
   | none=>stuck "Next: no such candidate") (λv _ C=>next (σ.set d v) C) false H:=by
   intro t A
   have D:(((e :: l).map some).toArray)[t]? = some (some (e :: l)[t]):=by simp only[qAt,qCw,qAx A,qBl]
   rw[D]
   simp only[Ze]
   refine⟨_,⟨a,w⟩,rfl,rfl,rfl,?_⟩
   rw[bD]
   simp only[Zi]
   exact I _ (qAa A)
  split
  ·rw[bD];exact key 0 (by simp)
  refine⟨a,λt=>?_⟩;rw[bD];refine key _ ?_;simp only[Question.cut,qCX,qAe];exact qCW _ (by simp)
def ZvS{m:List (α×Int)}{b:Nat}(a:e∈aM kv b m):(aM kv b m).find? (λf=>f.born == e.born)=some e:=by
 induction m generalizing b with
 | nil=>simp[aM]at a
 | cons p r ih=>
  obtain⟨k,v⟩:=p;rw[aM]at a ⊢;rcases DO.1 a with rfl | a
  ·simp
  have:=(EX e a).1;rw[List.find?_cons];have g:((⟨kv k,vi v,b⟩:MapEntry).born == e.born)=false:=by simp;omega
  rw[g];exact ih a
def ZtK{m:List (α×Int)}(g:σ.get x=some (.pointer (some ⟨i,0,none⟩)))(o:H i=some (nD r m.length (seen.push e.born),true))(p:H r=some (Zu kv m,pm))(l:e∈aM kv 0 m)(a:P.still H.gh=false)
  (h:next (σ.set d (.tuple #[e.key,e.val])) H):(aR.raw (.entry x) ty).m P d next σ H:=by
 refine YX (by simp[Op.operands,g]) (s:=Instr.entry (.pointer (some ⟨i,0,none⟩))) (by simp[execOp,aN,g]) ?_;simp only[Instr.entry,Ze];refine⟨_,_,⟨a,o⟩,rfl,rfl,?_⟩;rw[nD,bD];simp only[Array.back?_push,Ze];refine⟨_,_,⟨a,p⟩,rfl,rfl,?_⟩;rw[Zu,bD];simp only[bne_self_eq_false,dO,qAf];have:(aM kv 0 m).toArray.find? (λf=>f.born == e.born)=some e:=by rw[List.find?_toArray];exact ZvS l
 rw[this];exact h
end
end
end Go.Proofs
end
section
namespace Go.LL
section
variable{G:Prop}{x k:Nat}
def FC(h:G:=by rw[h.RY,h.TF]at this;refine this.trans ?_;congr 2;rcases nU h.L with e | e<;>rcases nU h.W with e2 | e2<;>rcases nU h.S with e3 | e3<;>rw[e,e2,e3]<;>(unfold bF;simp<;>omega)):G:=h
def wT(h:G:=by rw[h.RY]at this;refine this.trans ?_;rcases nU h.L with e | e<;>rcases nU h.W with e2 | e2<;>rcases nU h.S with e3 | e3<;>rw[e,e2,e3]<;>rfl):G:=h
def ZzD(x k:Nat)(a:k<8):x &&& k=(x % 8) &&& k:=by
 refine qCi λi=>?_;rw[qBW,qBW,show(8:Nat)=2 ^ 3 from rfl,qCy];by_cases h:i<3
 ·simp[h]
 have:k.testBit i=false:=qCd (qAG a (by rw[show(8:Nat)=2 ^ 3 from rfl];exact qAZ (by decide) O));simp[this]
def Zto(x k:Nat)(f:k<8):x ||| k=8 * (x / 8)+((x % 8) ||| k):=by
 have a:(x % 8) ||| k<2 ^ 3:=Nat.or_lt_two_pow (qCW _ (by decide)) f;refine qCi λi=>?_;rw[show 8 * (x / 8)=2 ^ 3 * (x / 8)from rfl,qBH _ a,qCM,qCM,show(8:Nat)=2 ^ 3 from rfl,qCy,Nat.testBit_div_two_pow];by_cases h:i<3
 ·simp[h]
 have:k.testBit i=false:=qCd (qAG f (by rw[show(8:Nat)=2 ^ 3 from rfl];exact qAZ (by decide) O));have e:i-3+3=i:=O;simp[h,this,e]
def ZzG(x k:Nat)(p:k<8)(o:x<4294967296):x &&& (4294967295-k)=8 * (x / 8)+((x % 8) &&& (7-k)):=by
 have f:(x % 8) &&& (7-k)<2 ^ 3:=Nat.and_lt_two_pow _ O;have g:4294967295-k=2 ^ 3 * 536870911+(7-k):=O;have a:7-k<2 ^ 3:=O;refine qCi λi=>?_;rw[show 8 * (x / 8)=2 ^ 3 * (x / 8)from rfl,qBH _ f,qBW,g,qBH _ a,qBW,show(8:Nat)=2 ^ 3 from rfl,qCy,Nat.testBit_div_two_pow];by_cases h:i<3
 ·simp[h]
 have e:i-3+3=i:=O;simp only[h,qAf,e];rw[show(536870911:Nat)=2 ^ 29-1 from rfl,Nat.testBit_two_pow_sub_one];by_cases l:i-3<29
 ·simp[l]
 have:x.testBit i=false:=qCd (qAG o (by rw[show(4294967296:Nat)=2 ^ 32 from rfl];exact qAZ (by decide) O));simp[this]
def uR{z:Int}(a:0<=z)(f:z<2147483648):IntKind.i32.wrap z=z:=by simp only[IntKind.wrap,IntKind.bits,IntKind.signed];simp;omega
def yH(x:Nat)(a:x<4294967296):(BitVec.ofInt 32 (x:Nat)).toNat=x:=by simp[qCp];omega
def xS(l:x<2147483648)(g:k<8):ZI .and .i32 (x:Nat) (k:Nat)=.int .i32 (((x % 8) &&& k:Nat):Int):=by have f:x<4294967296:=O;have a:k<4294967296:=O;have h:x &&& k<=x:=Nat.and_le_left;show Value.int .i32 (IntKind.i32.wrap ((BitVec.ofInt 32 (x:Nat) &&& BitVec.ofInt 32 (k:Nat)).toNat:Nat))=_;rw[qCh,yH x f,yH k a,uR O O,ZzD x k g]
def KV(l:x<2147483640)(g:k<8):ZI .or .i32 (x:Nat) (k:Nat)=.int .i32 ((8 * (x / 8)+((x % 8) ||| k):Nat):Int):=by have f:x<4294967296:=O;have a:k<4294967296:=O;have h:(x % 8) ||| k<2 ^ 3:=Nat.or_lt_two_pow (qCW _ (by decide)) g;have e:=Zto x k g;show Value.int .i32 (IntKind.i32.wrap ((BitVec.ofInt 32 (x:Nat) ||| BitVec.ofInt 32 (k:Nat)).toNat:Nat))=_;rw[BitVec.toNat_or,yH x f,yH k a,e,uR O O]
def Zzq(l:x<2147483640)(g:k<8):ZI .andNot .i32 (x:Nat) (k:Nat)=.int .i32 ((8 * (x / 8)+((x % 8) &&& (7-k)):Nat):Int):=by have a:x<4294967296:=O;have f:k<4294967296:=O;have h:(x % 8) &&& (7-k)<2 ^ 3:=Nat.and_lt_two_pow _ O;have e:=ZzG x k g a;show Value.int .i32 (IntKind.i32.wrap ((BitVec.ofInt 32 (x:Nat) &&& ~~~ BitVec.ofInt 32 (k:Nat)).toNat:Nat))=_;rw[qCh,BitVec.toNat_not,yH x a,yH k f,show 2 ^ 32-1-k=4294967295-k from rfl,e,uR O O]
def rA:ZI .shr .i32 (x:Nat) (3:Nat)=.int .i32 ((x / 8:Nat):Int):=by show Value.int .i32 (Int.fdiv (x:Nat) (2 ^ min (Int.toNat ((3:Nat):Int)) 32))=_;have:(2:Int) ^ min (Int.toNat ((3:Nat):Int)) 32=8:=rfl;rw[this,qBL _ O];simp
section
variable{L W S n:Nat}
structure Y2(L W S n:Nat):Prop where
 L:L<=1
 W:W<=1
 S:S<=1
 n:n<=260000000
def bU.w(h:bU L W S n):Y2 L W S n:=⟨h.L,h.W,h.S,by have:=h.n;omega⟩
def Y2.RY(h:Y2 L W S n):bF L W S n % 8=L+2 * W+4 * S:=by obtain⟨a,b,c,d⟩:=h;unfold bF;omega
def Y2.TF(h:Y2 L W S n):bF L W S n / 8=n:=by obtain⟨a,b,c,d⟩:=h;unfold bF;omega
def Y2.lt(h:Y2 L W S n):bF L W S n<2147483640:=by obtain⟨a,b,c,d⟩:=h;unfold bF;omega
def nU(h:x<=1):x=0\/x=1:=O
def Y2.iI(h:Y2 L W S n):ZI .and .i32 (bF L W S n:Nat) 5=.int .i32 ((L+4 * S:Nat):Int):=by have:=xS (x:=bF L W S n) (k:=5) (by have:=h.lt;omega) (by decide);exact wT
def Y2.and1(h:Y2 L W S n):ZI .and .i32 (bF L W S n:Nat) 1=.int .i32 ((L:Nat):Int):=by have:=xS (x:=bF L W S n) (k:=1) (by have:=h.lt;omega) (by decide);exact wT
def Y2.lE(h:Y2 L W S n):ZI .and .i32 (bF L W S n:Nat) 2=.int .i32 ((2 * W:Nat):Int):=by have:=xS (x:=bF L W S n) (k:=2) (by have:=h.lt;omega) (by decide);exact wT
def Y2.lD(h:Y2 L W S n):ZI .and .i32 (bF L W S n:Nat) 3=.int .i32 ((L+2 * W:Nat):Int):=by have:=xS (x:=bF L W S n) (k:=3) (by have:=h.lt;omega) (by decide);exact wT
def Y2.eR(h:Y2 L W S n):ZI .and .i32 (bF L W S n:Nat) 4=.int .i32 ((4 * S:Nat):Int):=by have:=xS (x:=bF L W S n) (k:=4) (by have:=h.lt;omega) (by decide);exact wT
def Y2.rC(h:Y2 L W S n):ZI .and .i32 (bF L W S n:Nat) 7=.int .i32 ((L+2 * W+4 * S:Nat):Int):=by have:=xS (x:=bF L W S n) (k:=7) (by have:=h.lt;omega) (by decide);exact wT
def Y2.vY(h:Y2 L W S n):ZI .or .i32 (bF L W S n:Nat) 1=.int .i32 ((bF 1 W S n:Nat):Int):=by have:=KV (x:=bF L W S n) (k:=1) h.lt (by decide);exact FC
def Y2.or2(h:Y2 L W S n):ZI .or .i32 (bF L W S n:Nat) 2=.int .i32 ((bF L 1 S n:Nat):Int):=by have:=KV (x:=bF L W S n) (k:=2) h.lt (by decide);exact FC
def Y2.Wl(h:Y2 L W S n):ZI .or .i32 (bF L W S n:Nat) 4=.int .i32 ((bF L W 1 n:Nat):Int):=by have:=KV (x:=bF L W S n) (k:=4) h.lt (by decide);exact FC
def Y2.m6(h:Y2 L W S n):ZI .andNot .i32 (bF L W S n:Nat) 2=.int .i32 ((bF L 0 S n:Nat):Int):=by have:=Zzq (x:=bF L W S n) (k:=2) h.lt (by decide);exact FC
def Y2.gT(h:Y2 L W S n):ZI .shr .i32 (bF L W S n:Nat) 3=.int .i32 ((n:Nat):Int):=by refine rA.trans ?_;rw[h.TF]
def Y2.pG(h:Y2 L W S n):IntKind.i32.wrap ((bF L W S n:Nat)+8)=((bF L W S (n+1):Nat):Int):=by
 have:=h.lt;have e:((bF L W S n:Nat):Int)+8=((bF L W S (n+1):Nat):Int):=by unfold bF;omega
 rw[<-e,uR O O]
def Y2.tJ(h:Y2 L W S (n+1)):ZI .sub .i32 (bF L W S (n+1):Nat) 8=.int .i32 ((bF L W S n:Nat):Int):=by
 have:=h.lt;show Value.int .i32 (IntKind.i32.wrap (((bF L W S (n+1):Nat):Int)-8))=_;have e:((bF L W S (n+1):Nat):Int)-8=((bF L W S n:Nat):Int):=by unfold bF;omega
 rw[e,uR O (by unfold bF at this ⊢;omega)]
def bU.lt(h:bU L W S n):bF L W S n<2147483640:=h.w.lt
def bU.iI(h:bU L W S n):ZI .and .i32 (bF L W S n:Nat) 5=.int .i32 ((L+4 * S:Nat):Int):=h.w.iI
def bU.and1(h:bU L W S n):ZI .and .i32 (bF L W S n:Nat) 1=.int .i32 ((L:Nat):Int):=h.w.and1
def bU.lE(h:bU L W S n):ZI .and .i32 (bF L W S n:Nat) 2=.int .i32 ((2 * W:Nat):Int):=h.w.lE
def bU.lD(h:bU L W S n):ZI .and .i32 (bF L W S n:Nat) 3=.int .i32 ((L+2 * W:Nat):Int):=h.w.lD
def bU.eR(h:bU L W S n):ZI .and .i32 (bF L W S n:Nat) 4=.int .i32 ((4 * S:Nat):Int):=h.w.eR
def bU.rC(h:bU L W S n):ZI .and .i32 (bF L W S n:Nat) 7=.int .i32 ((L+2 * W+4 * S:Nat):Int):=h.w.rC
def bU.vY(h:bU L W S n):ZI .or .i32 (bF L W S n:Nat) 1=.int .i32 ((bF 1 W S n:Nat):Int):=h.w.vY
def bU.or2(h:bU L W S n):ZI .or .i32 (bF L W S n:Nat) 2=.int .i32 ((bF L 1 S n:Nat):Int):=h.w.or2
def bU.m6(h:bU L W S n):ZI .andNot .i32 (bF L W S n:Nat) 2=.int .i32 ((bF L 0 S n:Nat):Int):=h.w.m6
def bU.gT(h:bU L W S n):ZI .shr .i32 (bF L W S n:Nat) 3=.int .i32 ((n:Nat):Int):=h.w.gT
def bU.pG(h:bU L W S n):IntKind.i32.wrap ((bF L W S n:Nat)+8)=((bF L W S (n+1):Nat):Int):=h.w.pG
def bU.tJ(h:bU L W S (n+1)):ZI .sub .i32 (bF L W S (n+1):Nat) 8=.int .i32 ((bF L W S n:Nat):Int):=h.w.tJ
end
section
variable{P:aY}{Qe:Ex->aL->Hp->Prop}{σ:aL}{H:Hp}{b:Zb}
def B7{ι:Type}(I:ι->Hp->Prop)(μ:ι->Nat)(env:ι->List (Nat×Value))(box:ι->List (Nat×List Value))(i:ι)(f:I i H)(g:iQ (env i) σ)(hb:iR (box i) σ)
  (h:∀i H,I i H->b.m P (eJ.then (λσ' a=>∃j,μ j<μ i/\I j a/\iQ (env j) σ'/\iR (box j) σ'/\σ'.bN=σ.bN) Qe) (UO σ.bN (env i) (box i)) H):(Zb.loop b).m P Qe σ H:=⟨ι,I,μ,env,box,i,f,⟨g,hb⟩,h⟩
end
end
end Go.LL
end
open Go Go.LL
namespace Go.Proofs
def kL:Yi Tryz.prog 21=some none:=U
def XY(p:Program)(src dst:TypeId):Bool:=
 match p.underlying src,p.underlying dst with
 | some (.pointer t),some .unsafePointer=>match p.info? t with
  | some i=>!(decide (i.size=0))
  | none=>false
 | _,_=>false
def MX{p:Program}{src dst:TypeId}(h:XY p src dst=true):wO p src dst:=by
 unfold XY at h;split at h
 ·split at h
  ·rename_i t a f _ i g;exact⟨⟨t,a,f,by rw[g];simpa using h⟩⟩
  simp at h
 simp at h
def Ov:wO Tryz.prog 292 244:=MX U
def MW:wO Tryz.prog 242 244:=MX U
def XX:wO Tryz.prog 249 244:=MX U
def F9:norace Tryz.prog 234=true:=U
section
variable{c:Cx}{i:Nat}{H0:Hp}
def HA(c:Cx)(i:Nat)(H0:Hp)(f:Hp):Prop:=∃(l:List Nat) (a:Hp),c.PI l a/\i ∉ l/\c.need i=true/\a.gh=[]/\(H0.tagged (12 :: l)).Comp a/\f=(H0.tagged (12 :: l)).join a
noncomputable abbrev pw(c:Cx)(i:Nat):aY:=(aZ Tryz.prog c).prgW i
abbrev ptr(b:Nat):Value:=.pointer (some (cC b))
def ZuE(ok:c.Ok)(a:c.need i=true)(f:∀H:Hp,H.gh=[3]->LL.Za (pw c i) 211 #[ptr c.M] H λ_ g=>HA c i H g){H:Hp}(u:H.gh=[1]):LL.Za (pw c i) 168 #[ptr c.M] H λ_ g=>HA c i H g:=by
 refine aI.m (P:=pw c i) ZxG rfl ?_;unfold Im;refine Z ?_;refine Zt U2 (vs:=[]) rfl (ZzW ok U2 (by rw[u];rfl) a) ?_;rintro v _ ⟨rfl,rfl⟩;refine Z ?_;refine Zt YT (vs:=[ptr c.M,.int .i32 0,.int .i32 1]) rfl (Zz0 ok YT (by rfl)) ?_;rintro v _ (⟨rfl,rfl⟩ | ⟨rfl,rfl⟩)
 ·refine Z ?_;refine Zt Yu (vs:=[]) rfl (sG ok Yu (by rfl)) ?_;rintro v _ ⟨rfl,rfl⟩;refine Z ?_;refine VO rfl (U4 ok Ov rfl (.inl rfl) (.inl (by simp[Hp.tagged,cd]))) ?_;rintro v _ ⟨rfl,rfl⟩;refine Z ?_;refine Zt YU (vs:=[ptr c.M]) rfl (sI ok YU (by rfl)) ?_;rintro v _ ⟨rfl,l,h,o,p,q,s,t,rfl⟩;refine Z ?_;exact⟨l,h,o,p,q,s,t,rfl⟩
 refine Z ?_;refine Zv (vs:=[ptr c.M]) rfl (f _ rfl) ?_;rintro v g ⟨l,h,o,p,q,s,t,rfl⟩;refine Z ?_;exact⟨l,h,o,p,q,s,t,rfl⟩
end
