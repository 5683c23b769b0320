import Derived.Test.YthmnpenamnoniaaGreatDoorP22
set_option linter.all false
set_option maxHeartbeats 2000000
open Go Go.LL
namespace Go.Proofs
variable{r cap a n:Nat}{b:Bk}{l:List Int}{rest vs:List Value}{bv u w:Value}{H':Hp}{c:gA}{ls:List (List Int)}
def PC{G:Prop} (h:G:=by refine Y ?_;exact⟨c6,⟨lX,zD⟩,V,trivial,rfl⟩):G:=h
section
variable{P:aY}[Tz P][Loud P]
def Zu3{b:Nat}{H:Hp}(h:H r=some (.cells (Zh l++rest).toArray 3 (0,0),true))(j:l.length=n)(e:a<=b)(hb:b<=n)(i:n<=1000000) :
  LL.Za P 194 #[.slice (some ⟨r,0,none⟩) n cap,vi a,vi b] H λv g=>∃f,AR H g r f rest/\Rg a b l f/\So a b f:=by
 subst j;exact Zu4 h e hb i
def Zvc{e:Nat}{H:Hp}(h:H r=some (.cells (Zh l++rest).toArray 3 (0,0),true))(j:l.length=n)(hb:a+e<=n)(i:n<=1000000) :
  LL.Za P 195 #[.slice (some ⟨r,0,none⟩) n cap,vi a,vi (a+e:Nat)] H λv g=>∃f,AR H g r f rest/\Rg a (a+e) l f/\So a (a+e) f:=by
 subst j;exact Zvd h hb i
abbrev rO(r n cap a b e:Nat)(f g:Bool):List (Nat×Value):=[(0,.slice (some ⟨r,0,none⟩) n cap),(1,vi a),(2,vi b),(3,vi e),(8,vb f),(9,vb g)]
theorem Zte(hl:n<=60000):∀(N o j C:Nat) (l:List Int) (H:Hp),j-o<=N->H r=some (.cells (Zh l++rest).toArray 3 (0,0),true)->l.length=n->o<=j->j<=n->C<=100->tD o j l ->
  LL.Za P 151 #[.slice (some ⟨r,0,none⟩) n cap,vi o,vi j,vi C] H λv M=>∃l',AR H M r l' rest/\Rg o j l l'/\So o j l':=by
 intro N;induction N using Nat.strongRecOn with
 | _ N ih=>
 intro o j zG l H hN hA hn JR hb JA lw;refine aI.m (bG ZxL) rfl ?_;unfold Ih;refine OB ?_;refine Z4 (α:=List Int×(Nat×Nat)×Nat×Bool×Bool) (j-o) (λt s M=>AR H M r s.1 rest/\jP o j s.2.1.1 s.2.1.2 l s.1/\s.2.2.1<=100/\s.2.1.2-s.2.1.1+t=j-o)
  (λt s=>rO r n cap s.2.1.1 s.2.1.2 s.2.2.1 s.2.2.2.1 s.2.2.2.2) (λ_ _=>[]) (l,(o,j),zG,true,true) ⟨AR.of hA,.start JR lw,JA,rfl⟩ V trivial ?_
 rintro t ⟨c,⟨a,b⟩,C,f,g⟩ H1 ht ⟨ar,pd,I9,hm⟩;simp only at ar pd I9 hm;have lU:=pd.rg.len;have g1:=pd.h1;have g2:=pd.h2;have g3:=pd.h3;obtain⟨d,rfl⟩:∃d,b=a+d:=⟨b-a,O⟩;have ed:(((a+d:Nat):Int)-(a:Int))=(d:Int):=O;have D:a+d<=n:=O;have es:UO ((VD [.slice (some ⟨r,0,none⟩) n cap,vi o,vi j,vi zG]).bN) (rO r n cap a (a+d) C f g) []=UO [] (rO r n cap a (a+d) C f g) []:=rfl;dsimp only[rO];have nX:j<=c.length:=O;refine OB ?_;rw[ed];refine OB ?_;refine YY ?_;refine OB ?_;refine OI (λc1=>?_) (λc1=>?_)
 ·refine Y ?_;refine Zf (vs:=[.slice (some ⟨r,0,none⟩) n cap,vi a,vi (a+d:Nat)]) (Zu3 ar.at_ O O D O) ?_;rintro v H2 ⟨c2,R,Z,HI⟩;refine Y ?_;have W:=pd.step Z nX;exact⟨c2,ar.trans R,W.rg,W.fin HI⟩
 have c1:12<d:=O;refine OB ?_;refine YY ?_;refine OB ?_;refine OI (λc2=>?_) (λc2=>?_)
 ·refine Y ?_;refine Zf (vs:=[.slice (some ⟨r,0,none⟩) n cap,vi a,vi (a+d:Nat)]) (Zvc ar.at_ O D O) ?_;rintro v H2 ⟨c2,R,Z,HI⟩;refine Y ?_;have W:=pd.step Z nX;exact⟨c2,ar.trans R,W.rg,W.fin HI⟩
 refine OB ?_;refine Y9 (λ(s:List Int×Nat) M=>AR H M r s.1 rest/\jP o j a (a+d) l s.1/\s.2<=100) (λs=>(10,vi d) :: rO r n cap a (a+d) s.2 f g) (λ_=>[]) ?_ ?_
 ·refine OB ?_;refine OI (λc3=>?_) (λc3=>?_)
  ·refine Y ?_;refine Zf (vs:=[.slice (some ⟨r,0,none⟩) n cap,vi a,vi (a+d:Nat)]) (Zzg ar.at_ O c1 D hl) ?_;rintro v H2 ⟨c2',R,Z⟩;refine Y ?_;exact⟨(c2',C-1),⟨ar.trans R,pd.step Z nX,by show C-1<=100;omega⟩,⟨rfl,rfl,rfl,rfl,by show some (vi ((C:Int)-1))=some (vi ((C-1:Nat):Int));congr 2;omega,rfl,rfl,trivial⟩,trivial,rfl⟩
  refine Y ?_;exact⟨(c,C),⟨ar,pd,I9⟩,V,trivial,rfl⟩
 rintro⟨c3,A⟩ H3 ⟨DK,CR,J⟩;simp only at DK CR J;have SX:=CR.rg.len;refine OB ?_;refine Zf (vs:=[.slice (some ⟨r,0,none⟩) n cap,vi a,vi (a+d:Nat)]) (ZwQ DK.at_ O O D O) ?_;rintro v H4 ⟨p4,h4,i4,rfl,Wi,Wh⟩;have wJ:AR H H4 r c3 rest:=⟨λb x hb hx=>i4 _ _ (DK.keep b x hb hx),i4 _ _ DK.at_⟩;refine OB ?_;refine Y9 (λ(s:List Int×Nat×Int) M=>AR H M r s.1 rest/\jP o j a (a+d) l s.1/\a<=s.2.1/\s.2.1<a+d) (λs=>(10,vi d) :: (11,vi s.2.1) :: (12,vi s.2.2) :: rO r n cap a (a+d) A f g) (λ_=>[]) ?_ ?_
 ·refine OB ?_;refine OI (λc5=>?_) (λc5=>?_)
  ·refine Y ?_;refine Zf (vs:=[.slice (some ⟨r,0,none⟩) n cap,vi a,vi (a+d:Nat)]) (ZqD wJ.at_ O O D O) ?_;rintro v H5 ⟨c5',ar5,Se⟩;refine Y ?_;exact⟨(c5',a+d-1-(p4-a),1),⟨wJ.trans ar5,CR.step Se O,by show a<=a+d-1-(p4-a);omega,by show a+d-1-(p4-a)<a+d;omega⟩,⟨rfl,by show some (vi _)=some (vi _);congr 2;show((a+d:Nat):Int)-1-((p4:Int)-(a:Int))=((a+d-1-(p4-a):Nat):Int);omega,rfl,rfl,rfl,rfl,rfl,rfl,rfl,trivial⟩,trivial,rfl⟩
  refine Y ?_;exact⟨(c3,p4,h4),⟨wJ,CR,Wi,Wh⟩,V,trivial,rfl⟩
 rintro⟨c6,p6,h6⟩ H6 ⟨lX,zD,HT,HS⟩;simp only at lX zD HT HS;have hc6:=zD.rg.len;refine OB ?_;refine Y9 (λ(s:List Int) M=>AR H M r s rest/\jP o j a (a+d) l s) (λ_=>(10,vi d) :: (11,vi p6) :: rO r n cap a (a+d) A f g) (λ_=>[]) ?_ ?_
 ·cases f
  ·exact PC
  cases g
  ·exact PC
  refine OJ (λc7=>?_) (λc7=>?_)
  ·refine Y ?_;refine Zf (vs:=[.slice (some ⟨r,0,none⟩) n cap,vi a,vi (a+d:Nat)]) (Ztg lX.at_ O O D O zD.low) ?_;rintro v H7 ⟨TH,t7,TK,Sd,rfl,Ry⟩;have HY:=zD.step Sd O;refine OJ (λc8=>?_) (λc8=>?_)
   ·refine Y ?_;exact⟨TH,lX.trans TK,HY.rg,HY.fin (Ry c8)⟩
   refine Y ?_;exact⟨TH,⟨lX.trans TK,HY⟩,V,trivial,rfl⟩
  exact PC
 rintro c8 H8 ⟨F,CQ⟩;have hc8:=CQ.rg.len;refine OB ?_;refine Y9 (λ(_:Unit) M=>H8=M) (λ_=>(10,vi d) :: (11,vi p6) :: rO r n cap a (a+d) A f g) (λ_=>[]) ?_ ?_
 ·refine OB ?_;refine OI (λk1=>?_) (λk1=>?_)
  ·have k1:0<a:=O;refine Y ?_;refine Zn (a-1) rfl rfl O O (Y ?_);refine Zg (OL _) rfl (F.cA O rfl) (Y ?_);refine Zn p6 rfl rfl rfl O (Y ?_);refine Zg (OL _) rfl (F.cA O rfl) (Y ?_);refine Zf (vs:=[vi (el c8 (a-1)),vi (el c8 p6)]) (VZ _ _) ?_;rintro w _ ⟨rfl,rfl⟩;refine OJ (λk2=>?_) (λk2=>?_)
   ·refine Y ?_;refine Zf (vs:=[.slice (some ⟨r,0,none⟩) n cap,vi a,vi (a+d:Nat),vi p6]) (Zth F.at_ O HT HS D O) ?_;rintro v H9 ⟨S,i,I,L,Wf,rfl⟩;have hc9:=L.len;have Xb:∀k,a<=k->k<a+d->el c8 p6<=el S k:=L.all O (p:=λv=>el c8 p6<=v) (λk Xe Xd=>by
     rcases CQ.low with h | h
     ·omega
     have:=h k Xe Xd;omega)
    obtain⟨e1,e2,e3,e4⟩:=Wf;have X:=(CQ.step L O).left (q:=i) O e2 (λx y x1 x2 x3=>by have:=e3 x x1 O;have:=Xb y O O;omega) (λx y x1 x2 x3 x4=>by have:=e3 x x1 x2;have:=e4 y x3 x4;omega);refine Y ?_;refine⟨(⟨j-o-(a+d-i),O⟩,(S,(i,a+d),A,f,g)),?_,⟨F.trans I,X,J,?_⟩,V,trivial,rfl⟩
    ·show j-o-(j-o-(a+d-i))<j-o-t;omega
    show a+d-i+(j-o-(a+d-i))=j-o;omega
   refine Y ?_;exact⟨(),rfl,V,trivial,rfl⟩
  refine Y ?_;exact⟨(),rfl,V,trivial,rfl⟩
 rintro _ _ rfl;refine OB ?_;refine Zf (vs:=[.slice (some ⟨r,0,none⟩) n cap,vi a,vi (a+d:Nat),vi p6]) (Ztf F.at_ O HT HS D O) ?_;rintro v H9 ⟨S,i,t9,I,L,⟨e1,e2,e3,e4⟩,rfl⟩;have hc9:=L.len;have X:=CQ.step L O;have e8:((d:Int)).tdiv 8=((d / 8:Nat):Int):=by rw[qBt O];omega
 refine Y ?_;refine Uy rfl rfl (by decide) (by rw[e8];exact⟨O,O⟩) ?_;refine OJ (λk3=>?_) (λk3=>?_)
 ·refine Y ?_;refine Zf (vs:=[.slice (some ⟨r,0,none⟩) n cap,vi a,vi i,vi A]) (ih (i-a) O a i A S H9 (AT _) I.at_ O e1 O J (X.low.imp id λh k k1 k2=>h k k1 O)) ?_;rintro v vU ⟨G,Q,B,tL⟩;have out:∀k,i<=k->el G k=el S k:=λk hk=>B.out O (.inr hk);have lo:∀k,a<=k->k<i->el G k<=el S i:=B.all O (p:=λv=>v<=el S i) e3;have U:=(X.step (B.mono (AT _) O) O).left (q:=i+1) O O (λx y x1 x2 x3=>by
   by_cases e:y<i
   ·exact tL x y x1 x2 e
   ·have ey:y=i:=O;subst ey;by_cases ex:x=y
    ·subst ex;exact qAA _
    rw[out y (AT _)];exact lo x x1 O) (λx y x1 x2 x3 x4=>by
   rw[out y O];have h4:=e4 y O x4;by_cases ex:x=i
   ·subst ex;rw[out x (AT _)];exact h4
   exact qCK (lo x x1 O) h4)
  refine Y ?_;refine⟨(⟨j-o-(a+d-(i+1)),O⟩,(G,(i+1,a+d),A,_,t9)),?_,⟨(F.trans I).trans Q,U,J,?_⟩,V,trivial,rfl⟩
  ·show j-o-(j-o-(a+d-(i+1)))<j-o-t;omega
  show a+d-(i+1)+(j-o-(a+d-(i+1)))=j-o;omega
 refine Y ?_;refine Zf (vs:=[.slice (some ⟨r,0,none⟩) n cap,vi (i+1:Nat),vi (a+d:Nat),vi A]) (ih (a+d-(i+1)) O (i+1) (a+d) A S H9 (AT _) I.at_ O O D J (.inr λk k1 k2=>e4 k O k2)) ?_;rintro v vU ⟨G,Q,B,tL⟩;have out:∀k,k<=i->el G k=el S k:=λk hk=>B.out O (.inl O);have lo:∀k,i+1<=k->k<a+d->el S i<=el G k:=B.all O (p:=λv=>el S i<=v) (λk k1 k2=>e4 k O k2);have U:=(X.step (B.mono O (AT _)) O).right (q:=i) e1 O (λx y x1 x2 x3=>by
  by_cases e:i<x
  ·exact tL x y O x2 x3
  ·have ex:x=i:=O;subst ex;by_cases ey:y=x
   ·subst ey;exact qAA _
   rw[out x (AT _)];exact lo y O x3) (λx y x1 x2 x3 x4=>by
  rw[out x O];have h3:=e3 x x1 x2;by_cases ey:y=i
  ·subst ey;rw[out y (AT _)];exact h3
  exact qCK h3 (lo y O x4))
 refine Y ?_;refine⟨(⟨j-o-(i-a),O⟩,(G,(a,i),A,_,t9)),?_,⟨(F.trans I).trans Q,U,J,?_⟩,V,trivial,rfl⟩
 ·show j-o-(j-o-(i-a))<j-o-t;omega
 show i-a+(j-o-(i-a))=j-o;omega
end
def k7(x:Int):List Int->List Int
 | []=>[x]
 | y :: r=>if x<=y then x :: y :: r else y :: k7 x r
def qG:List Int->List Int
 | []=>[]
 | x :: r=>k7 x (qG r)
def MM(x:Int):∀l,(k7 x l).Perm (x :: l)
 | []=>.refl _
 | y :: r=>by
  rw[k7];split
  ·exact .refl _
  exact((MM x r).cons y).trans (.swap x y r)
def BC:∀l,(qG l).Perm l
 | []=>.refl _
 | x :: r=>(MM x (qG r)).trans ((BC r).cons x)
def Cl(x:Int):∀{l:List Int},l.Pairwise (·<=·)->(k7 x l).Pairwise (·<=·)
 | [],_=>by simp[k7]
 | y :: r,h=>by
  rw[k7];split
  ·rename_i e;refine qBa.2 ⟨λz f=>?_,h⟩;rcases DO.1 f with rfl | f
   ·exact e
   exact qCK e ((qBa.1 h).1 z f)
  rename_i e;obtain⟨g,i⟩:=qBa.1 h;refine qBa.2 ⟨λz f=>?_,Cl x i⟩;rcases DO.1 ((MM x r).mem_iff.1 f)with rfl | f
  ·omega
  exact g z f
def NC:∀l,(qG l).Pairwise (·<=·)
 | []=>.nil
 | x :: r=>Cl x (NC r)
def ZpM{e:List Int}(h:l.Perm e)(f:l.Pairwise (·<=·))(g:e.Pairwise (·<=·)):l=e:=
 h.eq_of_pairwise (le:=(·<=·)) (λa b _ _ x y=>Int.le_antisymm x y) f g
def ZpN(h:So 0 l.length l):l.Pairwise (·<=·):=by rw[List.pairwise_iff_getElem];intro i j f e g;have:=h i j (qBg _) O e;rwa [sS f,sS e]at this
section
variable{P:aY}[Tz P][Loud P]{H:Hp}
def Zz2{g:Hp}{v:Value}{q:Option Nat}(F:bA g H)(A:cS g H 3 v l q)(i:l≠[])(G:l.length<=60000) :
  LL.Za P 98 #[v] H λ_ o=>bA g o/\cS g o 3 v (qG l) q:=by
 have f:=A.fresh;obtain⟨N,⟨Q,C,s⟩ | ⟨r,cap,rest,rfl,rfl,s,t,D⟩⟩:=A.own
 ·exact absurd (qAo C) i
 have j:=f r rfl;have I:=Cy (m:=l.length) O;refine aI.m (bG Zzb) rfl ?_;unfold Fu;refine Y ?_;refine Uz (bL nQ) (bL P5) rfl ?_;rw[yT (m:=l.length) O];refine Y ?_;refine Zf (vs:=[.int .u64 l.length]) (WU O) ?_;rintro w _ ⟨rfl,rfl⟩;refine Y ?_;refine Zf (vs:=[.slice (some ⟨r,0,none⟩) l.length cap,vi (0:Nat),vi l.length,vi (dX l.length:Nat)]) (Zte (rest:=rest) G l.length 0 l.length (dX l.length) l H O s rfl (qBg _) (AT _) O (.inl rfl)) ?_;rintro w M ⟨J,p,B,L⟩;have h:=B.len;have k:J=qG l:=ZpM ((B.perm (AT _)).trans (BC l).symm) (ZpN (by rw[h];exact L)) (NC l);have e:(qG l).length=l.length:=(BC l).length_eq;subst k;refine Y ?_;refine⟨p.inc F j,⟨by rw[V5];show _=(qG l).length * 1;omega,.inr ⟨r,cap,rest,rfl,by rw[e],p.at_,?_,by rw[e];exact D⟩⟩,f⟩;rw[IN,V5,e];rw[IN,V5]at t;exact t
def gapL(b:Bk)(p:Nat):List Int:=U5 (qG ((Zd b).map λx=>(Zm b x).get p))
def ZAm{n:Int}(hb:bK H bv b)(g:b.aF.length<=1000000)(h:aC H ⟨r,0,none⟩ [vi n]):LL.Za P 96 #[bv,pt r] H λv f=>H=f/\v=vb (decide (0<=n/\n<b.aF.length)):=by have e:=hb;obtain⟨o,i,rfl,k,j⟩:=hb;refine aI.m (bG c98) rfl ?_;unfold QQ;refine Y ?_;refine Z9 h (Y ?_);refine Zl (vs:=[.agg #[vi b.op,vi b.sl,o,i],vi n]) (KZ e n g (OL _)) (Y ?_);exact⟨rfl,rfl⟩
def KI{n:Int}(hb:bK H bv b)(hg:ZY H)(hl:b.aF.length<=1000000)(rV:b.bJ.length<=1000000) :
  LL.Za P 36 #[bv,vi n] H λv C=>bA H C/\∃w R,v=.tuple #[w,vi (Zy b (decide (0<=n/\n<b.aF.length)))]/\cS H C 3 w (if Zy b (decide (0<=n/\n<b.aF.length))=0 then gapL b n.toNat else[]) R:=by
 have t:=hb;obtain⟨pv,cv,rfl,hp,hc⟩:=hb;refine aI.m (bG c29) rfl ?_;unfold RN;refine Y ?_;refine YG rfl (OL _) λW rS=>?_;have f:=Zk (o:=.cells (vi n).cells 3) rS;have c1:aC (H.ins W (.cells (vi n).cells 3)) ⟨W,0,none⟩ [vi n]:=ZW;generalize H.ins W (.cells (vi n).cells 3)=H1 at *;refine Y ?_;refine Y8 rfl rfl (Y ?_);refine Zf (vs:=[.agg #[vi b.op,vi b.sl,pv,cv],.func (.func 96) #[] #[pt W]]) (vD (t.inc f) (aC.inc hg f) hl rV (Yg U (ZAm (n:=n) (t.inc f) hl c1))) ?_;generalize Xt:decide (0<=n/\n<b.aF.length)=th;rintro v D ⟨g,⟨h,rfl⟩ | ⟨h,vW,wI,w,R,e,rfl,ow⟩⟩
 ·refine OJ (λS=>?_) (λS=>?_)
  ·refine Y ?_;exact⟨f.trans g,_,none,rfl,by rw[bY h];exact .nil _ _ _⟩
  exact absurd S h
 have q:th=true:=by
  cases th
  ·rw[Zy]at h;split at h
   ·contradiction
   simp at h
  rfl
 have hnn:=of_decide_eq_true (Xt.trans q);subst q;obtain⟨p,rfl⟩:∃p:Nat,n=p:=⟨n.toNat,O⟩;simp only[Value.agg.injEq,qBe,qAD,qBP]at e;obtain⟨_,_,rfl,rfl⟩:=e;obtain⟨zK,G⟩:=OV h;have val:=Y3 zK;have jO:=V6 val;obtain⟨Ap,cp,rfl,uB⟩:=hp;obtain⟨Ac,cc,rfl,pP⟩:=hc;have hw:=ow.sl;obtain⟨Aw,cw,rfl,_⟩:=ow.sl;refine Y ?_;refine Z4 (α:=Value×Option Nat) (Zd b).length (λj s C=>bA H C/\bA D C/\cS D C 3 s.1 (((Zd b).take j).map λx=>(Zm b x).get p) s.2)
  (λj s=>[(3,pt W),(4,.slice none 0 0),(5,vi 0),(6,vi 0),(8,s.1),(21,.slice Aw (Zd b).length cw),(22,vi (Zd b).length),(23,vi j)]) (λj s=>[(6,[vi b.op,vi b.sl,.slice Ap b.aF.length cp,.slice Ac b.bJ.length cc,.slice Aw (Zd b).length cw])]) (.slice none 0 0,none) ⟨f.trans g,.refl D,.nil D D 3⟩ V V ?_
 rintro j ⟨v8,b8⟩ H3 hj ⟨L,B,N⟩;simp only at N;refine OJ (λS=>?_) (λS=>?_)
 ·have A:j<(Zd b).length:=O;have hx:=vS val _ (qAa A);refine Y ?_;refine Zo j (hw.inc B) A λa ha=>Y ?_;refine ZL ha (Y ?_);refine Zg (OL _) rfl (c1.inc (g.trans B)) (Y ?_);refine Zl (vs:=[.agg #[vi b.op,vi b.sl,.slice Ap b.aF.length cp,.slice Ac b.bJ.length cc],ZP (Zd b)[j]]) (O9 (t.inc L) val.eI.bk (sL hx) (OL _)) ?_;refine K8 ?_;have I:p<4:=by have:=val.n;omega
  have nE:(((Zd b).take (j+1)).map λx=>(Zm b x).get p)=(((Zd b).take j).map λx=>(Zm b x).get p)++[(Zm b (Zd b)[j]).get p]:=by rw[iO A,qBi];rfl
  generalize(Zd b)[j]=x at *;refine Y ?_;refine OY (bL Od) (bH t3) (pF a3) rfl rfl (i:=p) I (v:=vi ((Zm b x).get p)) (by have:=xT (Zm b x) I;rw[qAP]at this;simpa[N4.cells]using this) (Y ?_);refine Z0 (cs:=[vi ((Zm b x).get p)]) (OL _) rfl λr5 J=>?_;refine Zr OL (Y ?_);refine YN (l':=[(Zm b x).get p]) (bL eW) (bL eW) (bH t3) rfl (by decide) (B.trans (Zk J)) (N.ins J) vK rfl (by simp;omega) O rfl rfl (OL _) λQ H4 F k1 k2 k3=>Y ?_;refine⟨(⟨j+1,O⟩,(Q,F)),cZ O,⟨(f.trans g).trans k1,k1,?_⟩,V,V,rfl⟩;show cS D H4 3 Q (((Zd b).take (j+1)).map λx=>(Zm b x).get p) F;rw[nE];exact k2
 have:j=(Zd b).length:=O;subst this;rw[qAh]at N;have Wo:cS H H3 3 v8 ((Zd b).map λx=>(Zm b x).get p) b8:=⟨N.own,λr hr=>Z7 (f.trans g) (N.fresh r hr)⟩;refine Y ?_;refine Zf (vs:=[v8]) (Zz2 L Wo (λe=>by rw[List.map_eq_nil_iff]at e;rw[e]at G;simp at G) (by simp;omega)) ?_;rintro w H4 ⟨X,o9⟩;refine Y ?_;refine Zf (vs:=[v8]) (WM X o9 (by rw[(BC _).length_eq];simp;omega)) ?_;rintro v H5 ⟨Z,R,Wk⟩;refine Y ?_;refine⟨Z,v,R,by rw[h];rfl,?_⟩;rw[BY h];exact Wk
end
def J9:Bk:=⟨0,0,[],[]⟩
def Us(b:Bk):Int:=if ZC b≠0 then ZC b else if YR b=false then 9 else 0
abbrev WA:Value:=.agg #[vi 0,vi 0,.slice none 0 0,.slice none 0 0]
def Zzp(H:Hp):bK H WA J9:=⟨_,_,rfl,.nil H,.nil H⟩
def yY(H:Hp)(v:Value)(s:Int)(b:Bk):Prop:=∃w,v=.tuple #[w,vi s]/\bK H w (if s=0 then b else J9)
def OT{α:Type}[Enc α]{H:Hp}{E:TypeId}{e:Value}{l:List α}(h:(l=[]/\e=.slice none 0 0)\/∃b,cS H H' E e l b):∃b,cS H H' E e l b:=by
 rcases h with⟨rfl,rfl⟩ | h
 ·exact⟨none,.nil _ _ _⟩
 exact h
def Ox{H:Hp}{s:Int}(h:s≠0):yY H (.tuple #[WA,vi s]) s b:=⟨_,rfl,by rw[bY h];exact Zzp H⟩
section
variable{P:aY}[Tz P][Loud P]{H:Hp}
theorem KQ(hb:bK H bv b)(D:ZY H)(s:b.aF.length<=1000000)(k:b.bJ.length<=1000000) :
  LL.Za P 112 #[bv] H λv p=>bA H p/\yY p v (Us b) b:=by
 have g:=hb;obtain⟨W,V,rfl,t,q⟩:=hb;refine aI.m (bG Zx5) rfl ?_;unfold Iz;obtain⟨L,U,rfl,F⟩:=id t;obtain⟨J,S,rfl,C⟩:=id q;refine Y ?_;refine Zl (vs:=[.agg #[vi b.op,vi b.sl,.slice L b.aF.length U,.slice J b.bJ.length S]]) (U9 g D s k (OL _)) ?_;refine OJ (λf=>?_) (λf=>?_)
 ·refine Y ?_;exact⟨.refl _,by rw[Us,BY f];exact Ox f⟩
 have val:=Y3 f;refine Y ?_;refine Zf (vs:=[.agg #[vi b.op,vi b.sl,.slice L b.aF.length U,.slice J b.bJ.length S]]) (NB g val.eI) ?_;rintro v M ⟨e,rfl⟩;refine OJ (λo=>?_) (λo=>?_)
 ·refine Y ?_;exact⟨e,by rw[Us,bY (by simpa using f),BY o];exact Ox (by decide)⟩
 refine Y ?_;refine Zf (vs:=[.slice L b.aF.length U]) (WK (t.inc e) s (OL _)) ?_;rintro v N ⟨i,h⟩;obtain⟨Q,A⟩:=OT h;obtain⟨G,c2,rfl,_⟩:=id A.sl;refine Zr OL (Y ?_);refine Zf (vs:=[.slice J b.bJ.length S]) (WJ ((q.inc e).inc i.inc) k (OL _)) ?_;rintro v O ⟨j,h⟩;obtain⟨R,B⟩:=OT h;obtain⟨I,c3,rfl,_⟩:=id B.sl;refine Zr OL (Y ?_);refine⟨(e.trans i.inc).trans j.inc,?_⟩;rw[Us,bY (by simpa using f),bY (by simp[o])];exact⟨_,rfl,by rw[BY rfl];exact⟨_,_,rfl,A.sl.inc j.inc,B.sl⟩⟩
def ZM(b:Bk)(c:gA):Bk:={ b with bJ:=b.bJ++[c] }
def xU(b:Bk)(c:gA):Int:=if ZC b≠0 then ZC b else Us (ZM b c)
def M8{H:Hp}:Zj (H.ins r (.cells [vi c.p,vi c.gl,vi c.gh].toArray 101)) (.slice (some ⟨r,0,none⟩) 1 1) [c]:=YJ (l:=[c])
theorem WG(hb:bK H bv b)(s:ZY H)(t:b.aF.length<=1000000)(f:b.bJ.length<=1000000) :
  LL.Za P 41 #[bv,.agg #[vi c.p,vi c.gl,vi c.gh]] H λv o=>bA H o/\yY o v (xU b c) (ZM b c):=by
 have i:=hb;obtain⟨pv,cv,rfl,A,q⟩:=hb;refine aI.m (bG c41) rfl ?_;unfold RG;obtain⟨N,Z,rfl,G⟩:=id A;obtain⟨M,X,rfl,F⟩:=id q;refine Y ?_;refine Zl (vs:=[.agg #[vi b.op,vi b.sl,.slice N b.aF.length Z,.slice M b.bJ.length X]]) (U9 i s t f (OL _)) ?_;refine OJ (λe=>?_) (λe=>?_)
 ·refine Y ?_;exact⟨.refl _,by rw[xU,BY e];exact Ox e⟩
 have val:=Y3 e;have:=val.lA;refine Y ?_;refine Zf (vs:=[.slice M b.bJ.length X]) (WJ q f (OL _)) ?_;rintro v Q ⟨j,h⟩;obtain⟨U,J⟩:=OT h;refine Zr OL (Y ?_);refine Z0 (cs:=[vi c.p,vi c.gl,vi c.gh]) (OL _) rfl λr5 g=>?_;refine Zr OL (Y ?_);refine YN (l':=[c]) (bL l4) (bL l4) (bH tI) rfl (by decide) (j.inc.trans (Zk g)) (J.ins g) M8 rfl (by simp;omega) O rfl rfl (OL _) λv4 R V k1 I k3=>?_;have C:=I.sl;obtain⟨L,W,rfl,_⟩:=id C;refine Y ?_;refine Zf (vs:=[.agg #[vi b.op,vi b.sl,.slice N b.aF.length Z,.slice L (b.bJ++[c]).length W]]) (KQ (b:=ZM b c) ⟨_,_,rfl,A.inc k1,C⟩ (aC.inc s k1) t (by simp[ZM];omega)) ?_;rintro v S ⟨k,w,rfl,B⟩;obtain⟨_,_,rfl,⟨_,_,rfl,_⟩,⟨_,_,rfl,_⟩⟩:=id B;refine Y ?_;have D:xU b c=Us (ZM b c):=bY (by simpa using e);refine⟨k1.trans k,?_⟩;rw[D];exact⟨_,rfl,B⟩
def uX(b:Bk)(n:Int):Bk:={ b with sl:=n }
def x7(b:Bk)(n:Int):Int:=if ZC b≠0 then ZC b else if ¬ (0<=n/\n<=b.sl)then 1 else Us (uX b n)
theorem ZAn{n:Int}(hb:bK H bv b)(o:ZY H)(p:b.aF.length<=1000000)(f:b.bJ.length<=1000000) :
  LL.Za P 44 #[bv,vi n] H λv j=>bA H j/\yY j v (x7 b n) (uX b n):=by
 have h:=hb;obtain⟨L,J,rfl,q,k⟩:=hb;refine aI.m (bG c46) rfl ?_;unfold RE;obtain⟨D,I,rfl,B⟩:=id q;obtain⟨C,G,rfl,A⟩:=id k;refine Y ?_;refine Zl (vs:=[.agg #[vi b.op,vi b.sl,.slice D b.aF.length I,.slice C b.bJ.length G]]) (U9 h o p f (OL _)) ?_;refine OJ (λe=>?_) (λe=>?_)
 ·refine Y ?_;exact⟨.refl _,by rw[x7,BY e];exact Ox e⟩
 refine Y ?_;refine Zl (vs:=[vi n,vi 0,vi b.sl]) (On n 0 b.sl) ?_;refine OJ (λg=>?_) (λg=>?_)
 ·refine Y ?_;exact⟨.refl _,by rw[x7,bY (by simpa using e),BY g];exact Ox (by decide)⟩
 refine Y ?_;refine Zf (vs:=[.agg #[vi b.op,vi n,.slice D b.aF.length I,.slice C b.bJ.length G]]) (KQ (b:=uX b n) ⟨_,_,rfl,q,k⟩ o p f) ?_;rintro v F ⟨i,w,rfl,s⟩;obtain⟨_,_,rfl,⟨_,_,rfl,_⟩,⟨_,_,rfl,_⟩⟩:=id s;refine Y ?_;have t:x7 b n=Us (uX b n):=by rw[x7,bY (by simpa using e),bY (by simpa using g)]
 refine⟨i,?_⟩;rw[t];exact⟨_,rfl,s⟩
def Vl(b:Bk)(i:Nat)(f e:Int):Bk:={ b with aF:=b.aF.set i { Zx b i with ml:=f,mh:=e } }
def vE(b:Bk)(n f e:Int):Int:=
 if ZC b≠0 then ZC b else if ¬ (0<=n/\n<b.aF.length)then 6 else if ¬ (0<=f/\f<=e/\e<=99)then 1
 else if min (Zx b n.toNat).mh e<max (Zx b n.toNat).ml f then 9 else Us (Vl b n.toNat (max (Zx b n.toNat).ml f) (min (Zx b n.toNat).mh e))
def ZpC{a b:List Value}{off:Nat}(h:a.length=n):ZZ (a++b) (n+off) vs=a++ZZ b off vs:=by
 subst h;unfold ZZ;rw[List.take_append,qDf,qAz O,qBb O];simp only[qAS,qAn];congr 3
 ·congr 1;omega
 congr 1;omega
def Qx(j h:Int):∀(l:List pU) (i:Nat) (f:i<l.length) (rest:List Value),ZZ (Zh l++rest) (i * 5) [vi j,vi h]=Zh (l.set i { l.getD i ⟨0,0,0,0,0⟩with ml:=j,mh:=h })++rest
 | [],i,f,_=>by simp at f
 | p :: l,0,f,rest=>by simp[Zh,Enc.enc,ZZ]
 | p :: l,i+1,f,rest=>by
  have ih:=Qx j h l i (by simpa using f) rest;have e:Zh (p :: l)++rest=Enc.enc p++(Zh l++rest):=by simp[Zh]
  rw[e,show(i+1) * 5=5+i * 5 by omega,ZpC (n:=5) (Enc.len p),ih];simp[Zh]
def Z2{H:Hp}{a:Addr}{cs ds:List Value}(h:aC H a (cs++ds)):aC H a cs:=by obtain⟨e,o,p,f,g⟩:=h;refine⟨e,o,p,f,λj i=>?_⟩;rw[g j (by rw[IN];omega),qAB i]
def add_zero(a:Addr):a.add 0=a:=by unfold Addr.add;simp
def Ro:ZU Tryz.prog 56=some (2,some (.agg #[vi 0,vi 0]),16):=U
theorem Zz8{n xl xh:Int}(hb:bK H bv b)(hg:ZY H)(R:b.aF.length<=1000000)(B:b.bJ.length<=1000000) :
  LL.Za P 43 #[bv,vi n,.agg #[vi xl,vi xh]] H λv H'=>bA H H'/\yY H' v (vE b n xl xh) (Vl b n.toNat (max (Zx b n.toNat).ml xl) (min (Zx b n.toNat).mh xh)):=by
 have s:=hb;obtain⟨pv,cv,rfl,V,hc⟩:=hb;refine aI.m (bG J7) rfl ?_;unfold RF;obtain⟨Ap,cp,rfl,uB⟩:=id V;obtain⟨Ac,cc,rfl,pP⟩:=id hc;refine Y ?_;refine Zl (vs:=[.agg #[vi b.op,vi b.sl,.slice Ap b.aF.length cp,.slice Ac b.bJ.length cc]]) (U9 s hg R B (OL _)) ?_;refine OJ (λo=>?_) (λo=>?_)
 ·refine Y ?_;exact⟨.refl _,by rw[vE,BY o];exact Ox o⟩
 refine Y ?_;refine Zl (vs:=[.agg #[vi b.op,vi b.sl,.slice Ap b.aF.length cp,.slice Ac b.bJ.length cc],vi n]) (KZ s n R (OL _)) ?_;refine OJ (λI=>?_) (λI=>?_)
 ·refine Y ?_;exact⟨.refl _,by rw[vE,bY (by simpa using o),BY I];exact Ox (by decide)⟩
 refine Y ?_;refine Zl (vs:=[.agg #[vi xl,vi xh],vi 0,vi 99]) (FN _ _ _ _ (OL _)) ?_;refine OJ (λL=>?_) (λL=>?_)
 ·refine Y ?_;exact⟨.refl _,by rw[vE,bY (by simpa using o),bY (by simpa using I),BY L];exact Ox (by decide)⟩
 obtain⟨i,rfl⟩:∃i:Nat,n=i:=⟨n.toNat,O⟩;have A:i<b.aF.length:=O;have j:Zx b i=b.aF[i]:=Z8 A _;have e2:¬ ¬ (0<=(i:Int)/\(i:Int)<b.aF.length):=by simpa using I
 have e3:¬ ¬ (0<=xl/\xl<=xh/\xh<=99):=by simpa using L
 have e1:¬ ZC b≠0:=by simpa using o
 have X:vE b i xl xh=if min b.aF[i].mh xh<max b.aF[i].ml xl then 9 else Us (Vl b i (max b.aF[i].ml xl) (min b.aF[i].mh xh)):=by rw[vE,bY e1,bY e2,bY e3,qBd,j]
 rw[X,qBd,j];refine Y ?_;refine Zo i V A λa ha=>Y ?_;refine Z5 (cs:=[vi b.aF[i].ml,vi b.aF[i].mh]) (OL _) rfl (by rw[add_zero];exact Z2 (ds:=[vi b.aF[i].bl,vi b.aF[i].bh,vi b.aF[i].w]) ha) rfl (Y ?_);refine CD rfl rfl (Y ?_);refine PM rfl rfl ?_;refine OJ (λM=>?_) (λM=>?_)
 ·refine Y ?_;exact⟨.refl _,by rw[BY M];exact Ox (by decide)⟩
 refine Y ?_;refine Zf (vs:=[.slice Ap b.aF.length cp]) (WK V R (OL _)) ?_;rintro v J ⟨N,h⟩;obtain⟨b2,o2⟩:=OT h;obtain⟨q0,⟨q1,q2,q3⟩ | ⟨r,cap,rest,rfl,rfl,q3,q4,q5⟩⟩:=o2.own
 ·omega
 have W:=o2.fresh r rfl;refine Y ?_;refine vB rfl rfl A (Y ?_);have q:((⟨r,0,none⟩:Addr).add (i * 5)).add 0=⟨r,i * 5,none⟩:=by rw[add_zero,vP rfl,qAP]
 rw[q];have S:(Zh b.aF).length=b.aF.length * 5:=UC b.aF;refine AQ (v:=.agg #[vi (max b.aF[i].ml xl),vi (min b.aF[i].mh xh)]) (cs:=Zh b.aF++rest) (bH Ro) rfl rfl q3 rfl (by rw[IN,S];omega) rfl (OL _) ?_;have F:=Qx (max b.aF[i].ml xl) (min b.aF[i].mh xh) b.aF i A rest;rw[Z8 A]at F;have e5:ZZ (Zh b.aF++rest) (i * 5) (Value.cells (.agg #[vi (max b.aF[i].ml xl),vi (min b.aF[i].mh xh)])).toList=Zh (Vl b i (max b.aF[i].ml xl) (min b.aF[i].mh xh)).aF++rest:=by rw[Vl,j];exact F
 rw[e5];have C:(Vl b i (max b.aF[i].ml xl) (min b.aF[i].mh xh)).aF.length=b.aF.length:=by simp[Vl]
 have k:bA H (J.ins r (.cells (Zh (Vl b i (max b.aF[i].ml xl) (min b.aF[i].mh xh)).aF++rest).toArray 110)):=Yr N.inc W;have Z:Zj (J.ins r (.cells (Zh (Vl b i (max b.aF[i].ml xl) (min b.aF[i].mh xh)).aF++rest).toArray 110)) (.slice (some ⟨r,0,none⟩) b.aF.length cap) (Vl b i (max b.aF[i].ml xl) (min b.aF[i].mh xh)).aF:=
  ⟨_,cap,by rw[C],λ_=>⟨_,rfl,Z2 ZW⟩⟩
 have t:(Vl b i (max b.aF[i].ml xl) (min b.aF[i].mh xh)).bJ=b.bJ:=rfl;have U:(Vl b i (max b.aF[i].ml xl) (min b.aF[i].mh xh)).op=b.op:=rfl;have D:(Vl b i (max b.aF[i].ml xl) (min b.aF[i].mh xh)).sl=b.sl:=rfl;generalize Vl b i (max b.aF[i].ml xl) (min b.aF[i].mh xh)=b' at *;generalize J.ins r (.cells (Zh b'.aF++rest).toArray 110)=H3 at *;refine Y ?_;refine Zf (vs:=[.agg #[vi b.op,vi b.sl,.slice (some ⟨r,0,none⟩) b.aF.length cap,.slice Ac b.bJ.length cc]]) (KQ (b:=b') ⟨_,_,by rw[U,D],Z,by rw[t];exact hc.inc k⟩ (aC.inc hg k) O (by rw[t];exact B)) ?_;rintro v H5 ⟨Q,w,rfl,hw⟩;obtain⟨_,_,rfl,⟨_,_,rfl,_⟩,⟨_,_,rfl,_⟩⟩:=id hw;refine Y ?_;refine⟨k.trans Q,?_⟩;rw[bY M];exact⟨_,rfl,hw⟩
end
def xV(a b:Int):Int:=if a<b then -1 else if b<a then 1 else 0
def xW:List Int->List Int->Int
 | [],[]=>0
 | [],_ :: _=>-1
 | _ :: _,[]=>1
 | x :: a,y :: b=>if xV x y≠0 then xV x y else xW a b
def Ot(a b:List Int):Bool:=decide (a.length<b.length) || (decide (a.length=b.length) && decide (xW a b<0))
section
variable{P:aY}[Tz P][Loud P]{H:Hp}
def ZwL(m n:Int):LL.Za P 215 #[vi m,vi n] H λv g=>H=g/\v=vi (xV m n):=by
 refine aI.m (bG Zxk) rfl ?_;unfold Gx;refine Y ?_;refine Zv (vs:=[vi m]) rfl (KY m) ?_;rintro v _ ⟨rfl,rfl⟩;refine Y ?_;refine Zv (vs:=[vi n]) rfl (KY n) ?_;rintro v _ ⟨rfl,rfl⟩;refine OJ (λe=>?_) (λe=>?_)
 ·refine Y ?_;exact⟨rfl,by rw[xV,BY e];rfl⟩
 refine OJ (λf=>?_) (λf=>?_)
 ·refine Y ?_;exact⟨rfl,by rw[xV,bY e,BY f];rfl⟩
 refine Y ?_;exact⟨rfl,by rw[xV,bY e,bY f];rfl⟩
def ZAw{a b:List Int}(t:Zj H u a)(hb:Zj H w b)(I:a.length<=1000000)(C:b.length<=1000000)(h:P.still H.gh=false):LL.Za P 175 #[u,w] H λv k=>H=k/\v=vi (xW a b):=by
 refine aI.m (bG ZxD) rfl ?_;unfold Ir;refine Y ?_;refine ZK t rfl (Y ?_);refine ZF a.length (λj k=>H=k/\j<=b.length/\xW a b=xW (a.drop j) (b.drop j)) (λj=>[(0,u),(1,w),(9,u),(10,vi a.length),(11,vi j)]) (λ_=>[]) ⟨rfl,qBg _,rfl⟩ V trivial ?_;rintro j _ G ⟨rfl,B,e⟩;refine OJ (λA=>?_) (λA=>?_)
 ·have g:j<a.length:=O;rw[xY g]at e;refine Y ?_;refine V3 t rfl rfl rfl (i:=j) g λp D=>Y ?_;refine Zg h rfl D (Y ?_);refine ZK hb rfl ?_;refine OJ (λo=>?_) (λo=>?_)
  ·refine Y ?_;have:b.drop j=[]:=qBb O;rw[this]at e;exact⟨rfl,by rw[e];rfl⟩
  have f:j<b.length:=O;rw[xY f,xW]at e;refine Y ?_;refine V3 hb rfl rfl rfl (i:=j) f λq F=>Y ?_;refine Zg h rfl F (Y ?_);refine Zv (vs:=[vi a[j],vi b[j]]) rfl (ZwL _ _) ?_;rintro v _ ⟨rfl,rfl⟩;refine OJ (λs=>?_) (λs=>?_)
  ·refine Y ?_;rw[BY s]at e;exact⟨rfl,by rw[e];rfl⟩
  refine Y ?_;rw[bY (by simpa using s)]at e;exact⟨⟨j+1,O⟩,cZ O,⟨rfl,f,e⟩,V,trivial,rfl⟩
 have:j=a.length:=O;subst this;rw[qCE]at e;refine Y ?_;refine ZK t rfl (Y ?_);refine ZK hb rfl ?_;refine OJ (λo=>?_) (λo=>?_)
 ·refine Y ?_;rw[xY (l:=b) (j:=a.length) O]at e;exact⟨rfl,by rw[e];rfl⟩
 refine Y ?_;rw[qBb O]at e;exact⟨rfl,by rw[e];rfl⟩
def ZvY{a b:List Int}(f:Zj H u a)(hb:Zj H w b)(o:a.length<=1000000)(g:b.length<=1000000)(h:P.still H.gh=false):LL.Za P 118 #[u,w] H λv i=>H=i/\v=vb (Ot a b):=by
 refine aI.m (bG Zyd) rfl ?_;unfold El;refine Y ?_;refine ZK f rfl (Y ?_);refine ZK hb rfl ?_;refine OJ (λj=>?_) (λj=>?_)
 ·refine Y ?_;exact⟨rfl,by rw[Ot,decide_eq_true (show a.length<b.length by omega)];rfl⟩
 have e:¬ a.length<b.length:=O;refine Y ?_;refine ZK f rfl (Y ?_);refine ZK hb rfl ?_;refine OJ (λk=>?_) (λk=>?_)
 ·refine Y ?_;refine Zv (vs:=[u,w]) rfl (ZAw f hb o g h) ?_;rintro v _ ⟨rfl,rfl⟩;refine Y ?_;exact⟨rfl,by rw[Ot,qAy e,decide_eq_true (show a.length=b.length by omega)];rfl⟩
 refine Y ?_;exact⟨rfl,by rw[Ot,qAy e,qAy (show ¬ a.length=b.length by omega)];rfl⟩
structure V9(H:Hp)(vs:List Value)(ls:List (List Int)):Prop where
 len:vs.length=ls.length
 at_:∀i (h:i<vs.length) (h':i<ls.length),Zj H vs[i] ls[i]
def V9.nil(H:Hp):V9 H [] []:=⟨rfl,λi h=>by simp at h⟩
def V9.inc{H:Hp}(h:V9 H vs ls)(hi:bA H H'):V9 H' vs ls:=⟨h.len,λi a b=>(h.at_ i a b).inc hi⟩
def V9.tN{H:Hp}{v:Value}(h:V9 H vs ls)(f:Zj H v l):V9 H (vs++[v]) (ls++[l]):=by
 refine⟨by simp[h.len],λi a b=>?_⟩;have:=h.len;by_cases hi:i<vs.length
 ·rw[List.getElem_append_left hi,List.getElem_append_left O];exact h.at_ i hi O
 simp only[IN,qAX]at a;have e:i=vs.length:=O;subst e;rw[List.getElem_append_right (AT _),List.getElem_append_right O];simp[this];exact f
def V9.drop{H:Hp}(h:V9 H vs ls)(n:Nat):V9 H (vs.drop n) (ls.drop n):=by refine⟨by simp[h.len],λi a b=>?_⟩;rw[List.getElem_drop,List.getElem_drop];exact h.at_ _ _ _
def Zzw{f:Value}{v:Value}{k:List Int}(G:Zj H f k)(B:Zj H v vs)(h:V9 H vs ls)(J:vs.length<=1000000)(C:k.length<=1000000)(t:∀l∈ls,l.length<=1000000)(o:P.still H.gh=false) :
  LL.Za P 117 #[vf 118,f,v] H λv p=>H=p/\Zj H v (ZG Ot k ls):=by
 have I:=h.len;have s:∀j,j<=ls.length->(ZG Ot k (ls.take j)).length<=1000000:=by
  intro j;induction j with
  | zero=>intro _;exact C
  | succ j ih=>
   intro A;rw[ET _ _ A];split
   ·exact t _ (qAa _)
   exact ih O
 refine aI.m (bG Zye) rfl ?_;unfold Ek;refine Y ?_;refine ZK B rfl (Y ?_);refine Z4 (α:=Value) vs.length (λj w p=>H=p/\Zj H w (ZG Ot k (ls.take j))) (λj w=>[(0,vf 118),(1,w),(9,v),(10,vi vs.length),(11,vi j)]) (λ_ _=>[]) f ⟨rfl,G⟩ V trivial ?_;rintro j w _ A ⟨rfl,e⟩;refine OJ (λD=>?_) (λD=>?_)
 ·have g:j<vs.length:=O;have hb:=ET Ot k (l:=ls) (j:=j) O;refine Y ?_;refine V3 B rfl rfl rfl (i:=j) g λa F=>Y ?_;refine Zg o rfl F (Y ?_);refine Yp (vs:=[vs[j],w]) rfl rfl (Yg U (ZvY (h.at_ j g O) e (t _ (qAa _)) (s j O) o)) ?_;rintro v _ ⟨rfl,rfl⟩;refine OJ (λq=>?_) (λq=>?_)
  ·refine Y ?_;rw[BY q]at hb;exact⟨(⟨j+1,O⟩,vs[j]),cZ O,⟨rfl,by rw[hb];exact h.at_ j g O⟩,V,trivial,rfl⟩
  refine Y ?_;rw[bY (by simp[q])]at hb;exact⟨(⟨j+1,O⟩,w),cZ O,⟨rfl,by rw[hb];exact e⟩,V,trivial,rfl⟩
 have:j=vs.length:=O;subst this;refine Y ?_;rw[qAz O]at e;exact⟨rfl,e⟩
end
def aM{α:Type}(kv:α->Value):Nat->List (α×Int)->List MapEntry
 | _,[]=>[]
 | b,(k,v) :: r=>⟨kv k,vi v,b⟩ :: aM kv (b+1) r
def Zu{α:Type}(kv:α->Value)(m:List (α×Int)):Obj:=.map (aM kv 0 m).toArray m.length
def bQ{α:Type}[DecidableEq α]:List (α×Int)->α->Nat->Option (Nat×Value)
 | [],_,_=>none
 | (k,v) :: r,a,i=>if a=k then some (i,vi v)else bQ r a (i+1)
def ZH{α:Type}[DecidableEq α]:List (α×Int)->α->Int
 | [],_=>0
 | (k,v) :: r,a=>if a=k then v else ZH r a
def bV{α:Type}[DecidableEq α]:List (α×Int)->α->Int->List (α×Int)
 | [],a,w=>[(a,w)]
 | (k,v) :: r,a,w=>if a=k then(k,w) :: r else(k,v) :: bV r a w
section
variable{α:Type}[DecidableEq α]{kv:α->Value}
def L3:∀(b:Nat) (m:List (α×Int)) (a:α) (w:Int),aM kv b (m++[(a,w)])=aM kv b m++[⟨kv a,vi w,b+m.length⟩]
 | b,[],a,w=>by simp[aM]
 | b,(k,v) :: r,a,w=>by simp only[qBk,aM,L3 (b+1) r a w,qAI];congr 4;omega
def L5:∀(m:List (α×Int)) (a:α) (i:Nat),(match bQ m a i with | some (_,v)=>v | none=>vi 0)=vi (ZH m a)
 | [],a,i=>rfl
 | (k,v) :: r,a,i=>by
  simp only[bQ,ZH];by_cases h:a=k
  ·rw[BY h,BY h]
  rw[bY h,bY h];exact L5 r a (i+1)
theorem L7:∀(m:List (α×Int)) (a:α) (b i j:Nat) (v:Value) (w:Int),bQ m a i=some (j,v) ->
  i<=j/\∃e,(aM kv b m)[j-i]? = some e/\e.key=kv a/\v=vi (ZH m a)/\e.born=b+(j-i)/\(aM kv b m).modify (j-i) (λe=>{ e with key:=kv a,val:=vi w })=aM kv b (bV m a w)/\(bV m a w).length=m.length
 | [],a,b,i,j,v,w,h=>by simp[bQ]at h
 | (k,u) :: r,a,b,i,j,v,w,h=>by
  rw[bQ]at h;by_cases f:a=k
  ·subst f;rw[BY rfl]at h;simp only[aT,qAL]at h;obtain⟨rfl,rfl⟩:=h;refine⟨AT _,_,by rw[qDa,aM,qBr],rfl,by rw[ZH,BY rfl],by simp,?_,by rw[bV,BY rfl];rfl⟩;rw[qDa,bV,BY rfl,aM,aM];rfl
  rw[bY f]at h;obtain⟨A,e,o,p,q,B,s,t⟩:=L7 r a (b+1) (i+1) j v w h;have g:j-i=(j-(i+1))+1:=O;refine⟨O,e,?_,p,by rw[ZH,bY f];exact q,O,?_,by rw[bV,bY f,qAI,qAI,t]⟩
  ·rw[g,aM,qAW];exact o
  rw[g,bV,bY f,aM,aM,<-s];rfl
def L6:∀(m:List (α×Int)) (a:α) (i:Nat) (w:Int),bQ m a i=none->bV m a w=m++[(a,w)]/\ZH m a=0
 | [],a,i,w,h=>⟨rfl,rfl⟩
 | (k,u) :: r,a,i,w,h=>by
  rw[bQ]at h;split at h
  ·simp at h
  rename_i e;obtain⟨f,g⟩:=L6 r a (i+1) w h;exact⟨by rw[bV,bY e,f];rfl,by rw[ZH,bY e];exact g⟩
end
structure sB{α:Type}[DecidableEq α](P:PQ)(T:TypeId)(kv:α->Value):Prop where
 uM:∀(b:Bool) (a:α) {Q:Unit->Bool->Hp->Prop} {g:Bool} {H:Hp},Q () g H->bD P (Instr.checkKey b 10000 T (kv a)) Q g H
 uH:∀(m:List (α×Int)) (a:α) {Q:Option (Nat×Value)->Bool->Hp->Prop} {g:Bool} {H:Hp},Q (bQ m a 0) g H->bD P (Instr.findKey T (kv a) (aM kv 0 m)) Q g H
 oP:∀a:α,Instr.sameBits 10000 (kv a) (kv a)=true
section
variable{P:aY}{d:Option Nat}{next:aL->Hp->Prop}{σ:aL}{H:Hp}{x y z:Operand}{v:Value}{ty:TypeId}{α:Type}[DecidableEq α]{kv:α->Value}{T K E:TypeId}
def PL(e:P.still H.gh=false)(h:∀r,H r=none->next (σ.set d (.map (some r))) (H.ins r (Zu kv []))):(aR.raw (.makeMap T none) ty).m P d next σ H:=by refine YX (by simp[Op.operands]) (s:=Instr.makeMap T none) (by simp[execOp,aN]) ?_;simp only[Instr.makeMap,newObj,Ze,Zi];exact⟨e,λr f=>h r f⟩
def GH{m:List (α×Int)}{a:α}{pm:Bool}{e:Nat}(o:P.toProgram.underlying T=some (.map K E))(j:sB P.toPQ K kv)(B:TI P.toProgram E 1 (vi 0) e)(g:σ.get x=some (.map (some r)))(i:σ.get y=some (kv a))(k:H r=some (Zu kv m,pm))(f:P.still H.gh=false)
  (h:next (σ.set d (vi (ZH m a))) H):(aR.raw (.lookup T x y false) ty).m P d next σ H:=by
 obtain⟨A,q,C,t,D⟩:=B.ex;refine YX (by simp[Op.operands,g,i]) (s:=Instr.lookup T (.map (some r)) (kv a) false) (by simp[execOp,aN,g,i]) ?_;simp only[Instr.lookup,Ze,ZA o];refine⟨_,_,⟨f,k⟩,rfl,rfl,?_⟩;rw[Zu,bD];simp only[Ze,Zi];refine j.uM _ _ ?_;refine j.uH m a ?_;have:=L5 m a 0;cases hf:bQ m a 0 with
 | none=>
  rw[hf]at this;simp only at this ⊢;simp only[Ze,Uu q t,Zi,dO,qAf];rw[this];exact h
 | some p=>
  rw[hf]at this;simp only at this ⊢;simp only[Ze,Zi,dO,qAf];rw[this];exact h
def Zum{m:List (α×Int)}{a:α}{w:Int}(B:P.toProgram.underlying T=some (.map K E))(k:sB P.toPQ K kv)(o:H r=some (Zu kv m,true))(f:P.still H.gh=false){Q:Unit->Bool->Hp->Prop}{g:Bool}(h:Q () g (H.ins r (Zu kv (bV m a w)))) :
  bD P.toPQ (Instr.mapUpdate T (.map (some r)) (kv a) (vi w)) Q g H:=by
 simp only[Instr.mapUpdate,Ze,ZA B];refine⟨_,_,⟨f,o⟩,rfl,rfl,?_⟩;rw[Zu,bD];simp only[Ze,Zi];refine k.uM _ _ ?_;refine k.uH m a ?_;cases hf:bQ m a 0 with
 | none=>
  obtain⟨q,i⟩:=L6 m a 0 w hf;simp only;refine⟨_,⟨f,o⟩,rfl,rfl,rfl,?_⟩;have:Obj.map ((aM kv 0 m).toArray.push { key:=kv a,val:=vi w,born:=m.length }) (m.length+1)=Zu kv (bV m a w):=by rw[q,Zu,L3,qAP];simp
  rw[this];exact h
 | some p=>
  obtain⟨j,u⟩:=p;obtain⟨q,e,i,t,C,D,s,A⟩:=L7 (kv:=kv) m a 0 0 j u w hf;rw[qBV]at i s;simp only[qAt,i,qBl,Option.getD_some,Instr.keyThatStays,Ze,t,k.oP,qAH,Zi];refine⟨_,⟨f,o⟩,rfl,rfl,rfl,?_⟩;have:Obj.map ((aM kv 0 m).toArray.modify j λe=>{ e with key:=kv a,val:=vi w }) m.length=Zu kv (bV m a w):=by rw[Zu,A,<-s];simp
  rw[this];exact h
def Je{m:List (α×Int)}{a:α}{w:Int}(o:P.toProgram.underlying T=some (.map K E))(j:sB P.toPQ K kv)(f:σ.get x=some (.map (some r)))(g:σ.get y=some (kv a))(i:σ.get z=some (vi w))(k:H r=some (Zu kv m,true))(e:P.still H.gh=false)
  (h:next (σ.set d undef) (H.ins r (Zu kv (bV m a w)))):(aR.raw (.mapUpdate T x y z) ty).m P d next σ H:=by
 refine PN (by simp[Op.operands,f,g,i]) (s:=Instr.mapUpdate T (.map (some r)) (kv a) (vi w)) (by simp[execOp,aN,f,g,i]) ?_;exact Zum o j k e h
end
def XA{k:Int}:∀(m:List (Int×Int)) (b i:Nat),Instr.findNow (.int .i64) (vi k) (aM vi b m) i=some (bQ m k i)
 | [],b,i=>rfl
 | (e,v) :: r,b,i=>by
  simp only[aM,Instr.findNow,Instr.sameNow,qAH,bQ];by_cases h:k=e
  ·subst h;simp
  rw[bY h,show(k == e)=false by simpa using h];exact XA r (b+1) (i+1)
def K0{P:PQ}{T:TypeId}(e:P.toProgram.underlying T=some (.int .i64)):sB (α:=Int) P T vi where
 uM:=λb a Q g H h=>by rw[show(10000:Nat)=9999+1 from rfl,Instr.checkKey];simp only[Ze,ZA e,Zi];exact h
 uH:=λm a Q g H h=>by simp only[Instr.findKey,Ze,ZA e,XA,Zi];exact h
 oP:=λa=>by simp[Instr.sameBits]
