import Derived.Test.YtlhomfgcibjccaaGreatDoorP23
import Derived.Test.YtlhomfgcibjccaaGreatDoorP36
set_option linter.all false
set_option maxHeartbeats 8000000
set_option maxRecDepth 20000
open Go Go.LL
namespace Go.Proofs
variable{r cap a n:Nat}{l:List Int}{rest:List Value}{E:Int->List Value}{cv:Value}{S:Int->Prop}{b:Sb}{es:List Te}{ms:List Nat}
def Nc{G:Prop} (h:G:=by refine Y ?_;exact⟨c6,⟨jS,zK⟩,V,trivial,rfl⟩):G:=h
section
variable{P:aX}[Tz P][Loud P]{H:Hp}
def Zx1{k:Nat}(j:Yx E)(hC:YO P E H r cv S)(hS:∀k,k<l.length->S (el l k))(R:H r=some (.cells (iS E l++rest).toArray 122 (0,0),true))(hn:l.length=n)(hk:12<k)(hb:a+k<=n)(hl:n<=60000) :
  LL.Zc P 235 #[.slice (some ⟨r,0,none⟩) n cap,vi a,vi (a+k:Nat),cv] H λv i=>∃W,AT E H i r W rest/\Rg a (a+k) l W:=by
 refine aJ.m (bG ZwB) (args:=[.slice (some ⟨r,0,none⟩) n cap,vi a,vi (a+k:Nat),cv]) rfl ?_;unfold ZjY;have ek:(((a+k:Nat):Int)-(a:Int))=(k:Int):=O;have A:((k:Int)).tdiv 4=((k / 4:Nat):Int):=by rw[qBX O];omega
 have SV:=ZlK (m:=k) O;refine Y ?_;rw[ek];refine OI (λQ=>?_) (λQ=>?_)
 ·refine Y ?_;refine Vs (bI uZ) (bI ZgG) rfl ?_;rw[VZ O];refine Y ?_;refine Vt (cD O3) (OL _) λf g=>?_;have T:f≠r:=by rintro rfl;rw[R]at g;simp at g
  refine Y ?_;refine Vq (cD O3) rfl rfl (Hp.aG _ _ _) rfl rfl (OL _) ?_;rw[Us];have C:=(AT.of R).new (o:=.cells #[.int .u64 (k:Int)] 251) g;have G:(H.ins f (.cells #[.int .u64 (k:Int)] 251)) f=some (.cells #[.int .u64 (k:Int)] 251 (0,0),true):=Hp.aG _ _ _;generalize H.ins f (.cells #[.int .u64 (k:Int)] 251)=H1 at *;refine Y ?_;refine Za [vi k] (Zie O) ?_;rintro v _ ⟨rfl,rfl⟩;generalize hM:2 ^ fR k=M at *;have hM0:1<=M:=by rw[<-hM];exact Nat.one_le_two_pow
  refine Y ?_;refine VD rfl rfl (by decide) (by rw[A];exact⟨O,O⟩) ?_;rw[A];refine Y ?_;refine V8 rfl rfl ⟨O,O⟩ (Y ?_);have Z:((a:Int)+((k / 4:Nat):Int) * 2-1)=((a+k / 4 * 2-1:Nat):Int):=O;rw[Z];refine ZO (α:=List Int×Nat) 3 (λt s i=>AT E H i r s.1 rest/\Rg a (a+k) l s.1/\i f=some (.cells #[.int .u64 (s.2:Int)] 251 (0,0),true)) (λt _=>[(0,.slice (some ⟨r,0,none⟩) n cap),(1,vi a),(8,vi k),(9,pt f),(10,.int .u64 (M:Int)),(11,vi (a+k / 4 * 2-1+t:Nat))]) (λ_ _=>[]) (l,k) ⟨C,.refl l,G⟩ V trivial ?_;rintro t ⟨c,y⟩ H2 ht ⟨w,B,U⟩;simp only at w B U;have jQ:=B.len;refine Y ?_;refine VD rfl rfl (by decide) (by rw[A];exact⟨O,O⟩) ?_;rw[A];refine Y ?_;refine V8 rfl rfl ⟨O,O⟩ ?_;refine OJ (λg2=>?_) (λg2=>?_)
  ·refine Y ?_;refine Za [pt f] (Zi1 U) ?_;rintro v N ⟨z,hz,rfl,K,u⟩;have p:AT E H N r c rest:=⟨λb x hb I=>by
    by_cases e:b=f
    ·subst e;rw[g]at I;simp at I
    exact u b x e (w.keep b x hb I),u r _ (qAF T) w.at_⟩
   have tD:=Wm z (M-1) O;generalize ho:(BitVec.ofInt IntKind.u64.bits (z:Int) &&& BitVec.ofInt IntKind.u64.bits ((M-1:Nat):Int)).toNat=o at *;refine Y ?_;refine Zin (q:=((M-1:Nat):Int)) rfl rfl (by rw[show(M:Int)-1=((M-1:Nat):Int)by omega,VZ O]) (Y ?_);refine LD (v:=.int .u64 (o:Int)) rfl rfl (.inl rfl) (by show Value.int .u64 (IntKind.u64.wrap _)=_;rw[ho,VZ O]) (Y ?_);refine Vs (bI O2) (bI uZ) rfl ?_;rw[Uk ⟨O,O⟩];refine OB ?_;refine Z2 (λ(q:Nat) i=>N=i/\q<k) (λq=>[(0,.slice (some ⟨r,0,none⟩) n cap),(1,vi a),(8,vi k),(9,pt f),(10,.int .u64 (M:Int)),(11,vi (a+k / 4 * 2-1+t:Nat)),(12,vi q)]) (λ_=>[]) ?_ ?_
   ·refine OB ?_;refine OI (λg3=>?_) (λg3=>?_)
    ·refine Y ?_;exact⟨o-k,⟨rfl,O⟩,⟨rfl,rfl,rfl,rfl,rfl,rfl,by show some (vi ((o:Int)-(k:Int)))=some (vi ((o-k:Nat):Int));congr 2;omega,trivial⟩,trivial,rfl⟩
    refine Y ?_;exact⟨o,⟨rfl,O⟩,V,trivial,rfl⟩
   rintro q _ ⟨rfl,hq⟩;refine Y ?_;have d:=AT.of p.at_;refine Zd (a+q) rfl rfl O O (Y ?_);refine Zn (Loud.aV _) rfl (AT.cA j d O rfl) (Yx.len j _) (Y ?_);refine Zd (a+k / 4 * 2-1+t) rfl rfl O O (Y ?_);refine Zn (Loud.aV _) rfl (AT.cA j d O rfl) (Yx.len j _) (Y ?_);refine Zd (a+k / 4 * 2-1+t) rfl rfl O O (Y ?_);refine Z1 j d O rfl rfl rfl λHW F=>?_;refine Zp Loud.aV (Y ?_);refine Zd (a+q) rfl rfl O O (Y ?_);refine Z1 j F (by rw[qAg];omega) rfl rfl rfl λX h=>Y ?_;have D:=p.trans h;have J:X f=some (.cells #[.int .u64 (z:Int)] 251 (0,0),true):=h.keep f _ T K;refine⟨(⟨t+1,O⟩,(dS c (a+k / 4 * 2-1+t) (a+q),z)),bN O,⟨D,.step _ _ B O O O O,J⟩,V,trivial,rfl⟩
  refine Y ?_;exact⟨c,w,B⟩
 exact absurd Q O
end
section
variable{P:aX}[Tz P][Loud P]
def Zuo{b:Nat}{H:Hp}(h:Yx E)(g:YO P E H r cv S)(i:∀k,k<l.length->S (el l k))(f:H r=some (.cells (iS E l++rest).toArray 122 (0,0),true))(m:l.length=n)(c:a<=b)(hb:b<=n)(j:n<=1000000) :
  LL.Zc P 233 #[.slice (some ⟨r,0,none⟩) n cap,vi a,vi b,cv] H λv e=>∃d,AT E H e r d rest/\Rg a b l d/\So a b d:=by
 subst m;exact Zup h f c hb j g i
def ZuA{c:Nat}{H:Hp}(h:Yx E)(g:YO P E H r cv S)(i:∀k,k<l.length->S (el l k))(f:H r=some (.cells (iS E l++rest).toArray 122 (0,0),true))(m:l.length=n)(hb:a+c<=n)(j:n<=1000000) :
  LL.Zc P 234 #[.slice (some ⟨r,0,none⟩) n cap,vi a,vi (a+c:Nat),cv] H λv e=>∃d,AT E H e r d rest/\Rg a (a+c) l d/\So a (a+c) d:=by
 subst m;exact ZuB h g i f hb j
abbrev FA(cv:Value)(r n cap a b c:Nat)(f g:Bool):List (Nat×Value):=[(0,.slice (some ⟨r,0,none⟩) n cap),(1,vi a),(2,vi b),(3,vi c),(4,cv),(10,vb f),(11,vb g)]
theorem Zsx(M:Yx E)(hl:n<=60000):∀(N o j B:Nat) (l:List Int) (H:Hp),j-o<=N->H r=some (.cells (iS E l++rest).toArray 122 (0,0),true)->YO P E H r cv S->(∀k,k<l.length->S (el l k))->l.length=n->o<=j->j<=n->B<=100->C6 o j l ->
  LL.Zc P 205 #[.slice (some ⟨r,0,none⟩) n cap,vi o,vi j,vi B,cv] H λv T=>∃l',AT E H T r l' rest/\Rg o j l l'/\So o j l':=by
 intro N;induction N using Nat.strongRecOn with
 | _ N ih=>
 intro o j GV l H hN hA hC Q hn CP hb HD lw;refine aJ.m (bG Zm0) (args:=[.slice (some ⟨r,0,none⟩) n cap,vi o,vi j,vi GV,cv]) rfl ?_;unfold Ky;refine OB ?_;refine ZO (α:=List Int×(Nat×Nat)×Nat×Bool×Bool) (j-o) (λt s T=>AT E H T r s.1 rest/\pI o j s.2.1.1 s.2.1.2 l s.1/\s.2.2.1<=100/\s.2.1.2-s.2.1.1+t=j-o)
  (λt s=>FA cv r n cap s.2.1.1 s.2.1.2 s.2.2.1 s.2.2.2.1 s.2.2.2.2) (λ_ _=>[]) (l,(o,j),GV,true,true) ⟨AT.of hA,.start CP lw,HD,rfl⟩ V trivial ?_
 rintro t ⟨c,⟨a,b⟩,B,f,g⟩ H1 ht ⟨U,R,HC,hm⟩;simp only at U R HC hm;have jQ:=R.rg.len;have g1:=R.h1;have g2:=R.h2;have g3:=R.h3;obtain⟨d,rfl⟩:∃d,b=a+d:=⟨b-a,O⟩;have ed:(((a+d:Nat):Int)-(a:Int))=(d:Int):=O;have C:a+d<=n:=O;have es:V4 ((Vv [.slice (some ⟨r,0,none⟩) n cap,vi o,vi j,vi GV,cv]).dQ) (FA cv r n cap a (a+d) B f g) []=V4 [] (FA cv r n cap a (a+d) B f g) []:=rfl;dsimp only[FA];have BR:j<=c.length:=O;refine OB ?_;rw[ed];refine OB ?_;refine Z9 ?_;refine OB ?_;refine OI (λc1=>?_) (λc1=>?_)
 ·refine Y ?_;refine Za [.slice (some ⟨r,0,none⟩) n cap,vi a,vi (a+d:Nat),cv] (Zuo M (hC.of U.keep) (λk A=>ZH R.rg O Q A) U.at_ O O C O) ?_;rintro v H2 ⟨c2,X,MO,F9⟩;refine Y ?_;have MR:=R.step MO BR;exact⟨c2,U.trans X,MR.rg,MR.fin F9⟩
 have c1:12<d:=O;refine OB ?_;refine Z9 ?_;refine OB ?_;refine OI (λc2=>?_) (λc2=>?_)
 ·refine Y ?_;refine Za [.slice (some ⟨r,0,none⟩) n cap,vi a,vi (a+d:Nat),cv] (ZuA M (hC.of U.keep) (λk A=>ZH R.rg O Q A) U.at_ O C O) ?_;rintro v H2 ⟨c2,X,MO,F9⟩;refine Y ?_;have MR:=R.step MO BR;exact⟨c2,U.trans X,MR.rg,MR.fin F9⟩
 refine OB ?_;refine Z2 (λ(s:List Int×Nat) T=>AT E H T r s.1 rest/\pI o j a (a+d) l s.1/\s.2<=100) (λs=>(12,vi d) :: FA cv r n cap a (a+d) s.2 f g) (λ_=>[]) ?_ ?_
 ·refine OB ?_;refine OI (λc3=>?_) (λc3=>?_)
  ·refine Y ?_;refine Za [.slice (some ⟨r,0,none⟩) n cap,vi a,vi (a+d:Nat),cv] (Zx1 M (hC.of U.keep) (λk A=>ZH R.rg O Q A) U.at_ O c1 C hl) ?_;rintro v H2 ⟨Hh,X,MO⟩;refine Y ?_;exact⟨(Hh,B-1),⟨U.trans X,R.step MO BR,by show B-1<=100;omega⟩,⟨rfl,rfl,rfl,rfl,by show some (vi ((B:Int)-1))=some (vi ((B-1:Nat):Int));congr 2;omega,rfl,rfl,rfl,trivial⟩,trivial,rfl⟩
  refine Y ?_;exact⟨(c,B),⟨U,R,HC⟩,V,trivial,rfl⟩
 rintro⟨c3,u⟩ H3 ⟨Z,K,J⟩;simp only at Z K J;have hc3:=K.rg.len;refine OB ?_;refine Za [.slice (some ⟨r,0,none⟩) n cap,vi a,vi (a+d:Nat),cv] (Zvx M (hC.of Z.keep) (λk A=>ZH K.rg O Q A) Z.at_ O O C O) ?_;rintro v H4 ⟨p4,h4,i4,rfl,De,Dd⟩;have wY:AT E H H4 r c3 rest:=⟨λb x hb hx=>i4 _ _ (Z.keep b x hb hx),i4 _ _ Z.at_⟩;refine OB ?_;refine Z2 (λ(s:List Int×Nat×Int) T=>AT E H T r s.1 rest/\pI o j a (a+d) l s.1/\a<=s.2.1/\s.2.1<a+d) (λs=>(12,vi d) :: (13,vi s.2.1) :: (14,vi s.2.2) :: FA cv r n cap a (a+d) u f g) (λ_=>[]) ?_ ?_
 ·refine OB ?_;refine OI (λc5=>?_) (λc5=>?_)
  ·refine Y ?_;refine Za [.slice (some ⟨r,0,none⟩) n cap,vi a,vi (a+d:Nat),cv] (ZpL M (hC.of wY.keep) (λk A=>ZH K.rg O Q A) wY.at_ O O C O) ?_;rintro v H5 ⟨PD,Ho,Cs⟩;refine Y ?_;exact⟨(PD,a+d-1-(p4-a),1),⟨wY.trans Ho,K.step Cs O,by show a<=a+d-1-(p4-a);omega,by show a+d-1-(p4-a)<a+d;omega⟩,⟨rfl,by show some (vi _)=some (vi _);congr 2;show((a+d:Nat):Int)-1-((p4:Int)-(a:Int))=((a+d-1-(p4-a):Nat):Int);omega,rfl,rfl,rfl,rfl,rfl,rfl,rfl,rfl,trivial⟩,trivial,rfl⟩
  refine Y ?_;exact⟨(c3,p4,h4),⟨wY,K,De,Dd⟩,V,trivial,rfl⟩
 rintro⟨c6,p6,h6⟩ H6 ⟨jS,zK,GH,GG⟩;simp only at jS zK GH GG;have Gg:=zK.rg.len;refine OB ?_;refine Z2 (λ(s:List Int) T=>AT E H T r s rest/\pI o j a (a+d) l s) (λ_=>(12,vi d) :: (13,vi p6) :: FA cv r n cap a (a+d) u f g) (λ_=>[]) ?_ ?_
 ·cases f
  ·exact Nc
  cases g
  ·exact Nc
  refine OJ (λc7=>?_) (λc7=>?_)
  ·refine Y ?_;refine Za [.slice (some ⟨r,0,none⟩) n cap,vi a,vi (a+d:Nat),cv] (ZsC M (hC.of jS.keep) (λk A=>ZH zK.rg O Q A) jS.at_ O O C O zK.low) ?_;rintro v H7 ⟨PC,t7,PM,Cr,rfl,Cj⟩;have GM:=zK.step Cr O;refine OJ (λc8=>?_) (λc8=>?_)
   ·refine Y ?_;exact⟨PC,jS.trans PM,GM.rg,GM.fin (Cj c8)⟩
   refine Y ?_;exact⟨PC,⟨jS.trans PM,GM⟩,V,trivial,rfl⟩
  exact Nc
 rintro c8 H8 ⟨w,F⟩;have hc8:=F.rg.len;refine OB ?_;refine Z2 (λ(_:Unit) T=>H8=T) (λ_=>(12,vi d) :: (13,vi p6) :: FA cv r n cap a (a+d) u f g) (λ_=>[]) ?_ ?_
 ·refine OB ?_;refine OI (λk1=>?_) (λk1=>?_)
  ·have k1:0<a:=O;refine Y ?_;refine Zd (a-1) rfl rfl O O (Y ?_);refine Zn (Loud.aV _) rfl (AT.cA M w O rfl) (Yx.len M _) (Y ?_);refine Zd p6 rfl rfl O O (Y ?_);refine Zn (Loud.aV _) rfl (AT.cA M w O rfl) (Yx.len M _) (Y ?_);refine ZM rfl rfl (hC _ (AT.keep w) _ _ (ZH F.rg O Q O) (ZH F.rg O Q O)) ?_;intro vW KW hW;obtain⟨eA,eB⟩:=hW;subst eA eB;refine OJ (λk2=>?_) (λk2=>?_);all_goals rw[Vw]at k2
   ·refine Y ?_;refine Za [.slice (some ⟨r,0,none⟩) n cap,vi a,vi (a+d:Nat),vi p6,cv] (ZsE M (hC.of w.keep) (λk A=>ZH F.rg O Q A) w.at_ O GH GG C O) ?_;rintro v H9 ⟨c9,i,D,L,Db,rfl⟩;have Gf:=L.len;have Dk:∀k,a<=k->k<a+d->el c8 p6<=el c9 k:=L.all O (p:=λv=>el c8 p6<=v) (λk Dr Dq=>by
     rcases F.low with h | h
     ·omega
     have:=h k Dr Dq;omega)
    obtain⟨e1,e2,e3,e4⟩:=Db;have I:=(F.step L O).left (q:=i) O e2 (λx y x1 x2 x3=>by have:=e3 x x1 O;have:=Dk y O O;omega) (λx y x1 x2 x3 x4=>by have:=e3 x x1 x2;have:=e4 y x3 x4;omega);refine Y ?_;refine⟨(⟨j-o-(a+d-i),O⟩,(c9,(i,a+d),u,f,g)),?_,⟨w.trans D,I,J,?_⟩,V,trivial,rfl⟩
    ·show j-o-(j-o-(a+d-i))<j-o-t;omega
    show a+d-i+(j-o-(a+d-i))=j-o;omega
   refine Y ?_;exact⟨(),rfl,V,trivial,rfl⟩
  refine Y ?_;exact⟨(),rfl,V,trivial,rfl⟩
 rintro _ _ rfl;refine OB ?_;refine Za [.slice (some ⟨r,0,none⟩) n cap,vi a,vi (a+d:Nat),vi p6,cv] (ZsA M (hC.of w.keep) (λk A=>ZH F.rg O Q A) w.at_ O GH GG C O) ?_;rintro v H9 ⟨c9,i,t9,D,L,⟨e1,e2,e3,e4⟩,rfl⟩;have Gf:=L.len;have I:=F.step L O;have e8:((d:Int)).tdiv 8=((d / 8:Nat):Int):=by rw[qBX O];omega
 refine Y ?_;refine VD rfl rfl (by decide) (by rw[e8];exact⟨O,O⟩) ?_;refine OJ (λk3=>?_) (λk3=>?_)
 ·refine Y ?_;refine Za [.slice (some ⟨r,0,none⟩) n cap,vi a,vi i,vi u,cv] (ih (i-a) O a i u c9 H9 (dO _) D.at_ (hC.of (w.trans D).keep) (λk A=>ZH I.rg O Q A) O e1 O J (I.low.imp id λh k k1 k2=>h k k1 O)) ?_;rintro v J0 ⟨G,W,z,GA⟩;have out:∀k,i<=k->el G k=el c9 k:=λk A=>z.out O (.inr A);have lo:∀k,a<=k->k<i->el G k<=el c9 i:=z.all O (p:=λv=>v<=el c9 i) e3;have GN:=(I.step (z.mono (dO _) O) O).left (q:=i+1) O O (λx y x1 x2 x3=>by
   by_cases e:y<i
   ·exact GA x y x1 x2 e
   ·have ey:y=i:=O;subst ey;by_cases ex:x=y
    ·subst ex;exact qAx _
    rw[out y (dO _)];exact lo x x1 O) (λx y x1 x2 x3 x4=>by
   rw[out y O];have h4:=e4 y O x4;by_cases ex:x=i
   ·subst ex;rw[out x (dO _)];exact h4
   exact qCz (lo x x1 O) h4)
  refine Y ?_;refine⟨(⟨j-o-(a+d-(i+1)),O⟩,(G,(i+1,a+d),u,_,t9)),?_,⟨(w.trans D).trans W,GN,J,?_⟩,V,trivial,rfl⟩
  ·show j-o-(j-o-(a+d-(i+1)))<j-o-t;omega
  show a+d-(i+1)+(j-o-(a+d-(i+1)))=j-o;omega
 refine Y ?_;refine Za [.slice (some ⟨r,0,none⟩) n cap,vi (i+1:Nat),vi (a+d:Nat),vi u,cv] (ih (a+d-(i+1)) O (i+1) (a+d) u c9 H9 (dO _) D.at_ (hC.of (w.trans D).keep) (λk A=>ZH I.rg O Q A) O O C J (.inr λk k1 k2=>e4 k O k2)) ?_;rintro v J0 ⟨G,W,z,GA⟩;have out:∀k,k<=i->el G k=el c9 k:=λk A=>z.out O (.inl O);have lo:∀k,i+1<=k->k<a+d->el c9 i<=el G k:=z.all O (p:=λv=>el c9 i<=v) (λk k1 k2=>e4 k O k2);have GN:=(I.step (z.mono O (dO _)) O).right (q:=i) e1 O (λx y x1 x2 x3=>by
  by_cases e:i<x
  ·exact GA x y O x2 x3
  ·have ex:x=i:=O;subst ex;by_cases ey:y=x
   ·subst ey;exact qAx _
   rw[out x (dO _)];exact lo y O x3) (λx y x1 x2 x3 x4=>by
  rw[out x O];have h3:=e3 x x1 x2;by_cases ey:y=i
  ·subst ey;rw[out y (dO _)];exact h3
  exact qCz h3 (lo y O x4))
 refine Y ?_;refine⟨(⟨j-o-(i-a),O⟩,(G,(a,i),u,_,t9)),?_,⟨(w.trans D).trans W,GN,J,?_⟩,V,trivial,rfl⟩
 ·show j-o-(j-o-(i-a))<j-o-t;omega
 show i-a+(j-o-(i-a))=j-o;omega
end
def te0:Te:=⟨⟨0,0,0,⟨0,0,0,0⟩⟩,none,0,0⟩
def Vm(es:List Te)(ms:List Nat)(z:Int):Te:=es.getD (ms.idxOf z.toNat) te0
def QY(es:List Te)(ms:List Nat)(z:Int):List Value:=Enc.enc (Vm es ms z)
def Zpw(es:List Te)(ms:List Nat):Yx (QY es ms):=⟨λz=>Enc.len _,λz=>rfl⟩
def Uc(ms:List Nat):List Int:=ms.map λ(m:Nat)=>(m:Int)
def Ak(g:es.length=ms.length){m:Nat}(d:m∈ms):∃(k:Nat) (e:k<ms.length) (f:k<es.length),ms[k]=m/\Vm es ms m=es[k]:=by have c:ms.idxOf m<ms.length:=List.idxOf_lt_length_iff.2 d;refine⟨ms.idxOf m,c,O,List.getElem_idxOf c,?_⟩;unfold Vm;rw[qAD];exact ZD O _
theorem Zpv(c:es.length=ms.length)(d:ms.Nodup):es=ms.map λ(m:Nat)=>Vm es ms (m:Int):=by refine qBl (by rw[qAh,c]) λk h i=>?_;rw[qAZ];obtain⟨e,f,g,a3,a4⟩:=Ak c (bY (show k<ms.length by omega));rw[a4];have:e=k:=(qBQ d).1 a3;subst this;rfl
theorem Lj{es:List Te}{ms:List Nat}:∀l:List Nat,Zb (l.map λ(m:Nat)=>Vm es ms (m:Int))=iS (QY es ms) (Uc l)
 | []=>rfl
 | x :: l=>by have ih:=Lj (es:=es) (ms:=ms) l;simp only[qCq,Uc,iS,qAM]at ih ⊢;rw[show Zb (Vm es ms (x:Int) :: l.map λ(m:Nat)=>Vm es ms (m:Int))=Enc.enc (Vm es ms (x:Int))++Zb (l.map λ(m:Nat)=>Vm es ms (m:Int))by simp[Zb],ih];rfl
section
variable{P:aX}[Tz P][Loud P]{H:Hp}
theorem Zus:LL.Zc P 233 #[.slice none 0 0,vi 0,vi 0,cv] H λ_ c=>H=c:=by refine aJ.m (bG Xp) (args:=[.slice none 0 0,vi 0,vi 0,cv]) rfl ?_;unfold Kz;refine Y ?_;refine Zv 0 (λ_ c=>H=c) (λ_=>[(2,vi 0),(8,vi 1)]) (λ_=>[]) rfl V trivial ?_;rintro _ _ _ rfl;refine Y ?_;rfl
theorem Zsy{c:Nat}:LL.Zc P 205 #[.slice none 0 0,vi 0,vi 0,vi c,cv] H λ_ d=>H=d:=by refine aJ.m (bG Zm0) (args:=[.slice none 0 0,vi 0,vi 0,vi c,cv]) rfl ?_;unfold Ky;refine OB ?_;refine Zv 0 (λ_ d=>H=d) (λ_=>[(0,.slice none 0 0),(1,vi 0),(2,vi 0),(4,cv)]) (λ_=>[]) rfl V trivial ?_;rintro _ _ _ rfl;refine Y ?_;refine Za [.slice none 0 0,vi 0,vi 0,cv] Zus ?_;rintro v _ rfl;refine Y ?_;rfl
theorem ZoB{ts:List N4}(ok:bA b):IQ b ts:=by
 intro H v bb es ms ho N F u s;have hs:∀g,PL.still g=false:=Loud.aV;have hN:=CZ ok.n;have Rm:ms.length<=24:=qAz (WV _ ms F u) hN;obtain⟨h0,⟨rfl,h2,Z⟩ | ⟨r,cap,rest,rfl,rfl,Z,h4,h5⟩⟩:=id ho
 ·have yM:es=[]:=qAb h2;have NC:ms=[]:=qAb O;subst yM NC;refine aJ.m (bG Zm2) (args:=[.slice none 0 0,vf 155]) rfl ?_;unfold Kw;refine Y ?_;refine Vs (bI uZ) (bI O2) rfl ?_;rw[VZ (m:=0) (by decide)];refine Y ?_;refine Za [.int .u64 ((0:Nat):Int)] (P7 (m:=0) (by decide)) ?_;rintro w _ ⟨rfl,rfl⟩;refine Y ?_;refine Za [.slice none 0 0,vi 0,vi 0,vi (fR 0:Nat),vf 155] Zsy ?_;rintro w _ rfl;refine Y ?_;exact⟨λx y _ h=>h,[],[],.refl _,.nil,rfl,ho,λk h=>absurd h (qBm _)⟩
 have hE:=Zpw es ms;have e1:Zb es=iS (QY es ms) (Uc ms):=by
  conv=>lhs;rw[Zpv N F]
  exact Lj ms
 rw[e1]at Z h4;have t:(Uc ms).length=es.length:=by rw[Uc,qAh,N]
 have S8:∀k (h:k<ms.length),el (Uc ms) k=(ms[k]:Int):=λk h=>by rw[Uu (by rw[t];omega)];simp[Uc]
 have I:∀(x:Te) p,UB b ts p x H->∃X f,x.A=some ⟨X,0,none⟩/\X≠r/\H X=some (.cells (Zb p++f).toArray 3 (0,0),true):=λx p hf=>by obtain⟨X,f,q1,q2⟩:=hf.bk;exact⟨X,f,q1,by rintro rfl;rw[Z]at q2;simp at q2,q2⟩
 have hC:YO PL (QY es ms) H r (vf 155) (λz=>∃m∈ms,z=((m:Nat):Int)):=by
  rintro H' hk p q ⟨m,L,rfl⟩ ⟨V,C,rfl⟩;obtain⟨k,k1,k2,k3,k4⟩:=Ak N L;obtain⟨j,j1,j2,j3,j4⟩:=Ak N C;have o:=s k k1 k2;have K:=s j j1 j2;rw[k3,<-k4]at o;rw[j3,<-j4]at K;obtain⟨ra,i,a1,a2,a3⟩:=I _ _ o;obtain⟨rb,J,b1,b2,b3⟩:=I _ _ K;have g1:UB b ts (ZX b.pk.length m) (Vm es ms (m:Int)) H':=⟨o.td,o.n,o.c,ra,i,a1,hk _ _ a2 a3⟩;have g2:UB b ts (ZX b.pk.length V) (Vm es ms (V:Int)) H':=⟨K.td,K.n,K.c,rb,J,b1,hk _ _ b2 b3⟩;have R:∀q,1<=q/\q<=(ZB b.pk.length).length->(ZX b.pk.length q).length<=1000000:=λq hq=>by
   have:ZX b.pk.length q∈ZB b.pk.length:=by unfold ZX;rw[ZD O];exact bY _
   have:=(CW this).1;have:=ok.n;omega
  have hcm:=Zvq ok.n (u m L) (u V C);have:=Zon (P:=PL) (H:=H') g1.sl g2.sl o.n K.n (R m (u m L)) (R V (u V C));rw[hcm]at this;exact Yj U this
 have Fc:es.length<=24:=O;have Ro:=Kl (m:=es.length) O;refine aJ.m (bG Zm2) (args:=[.slice (some ⟨r,0,none⟩) es.length cap,vf 155]) rfl ?_;unfold Kw;refine Y ?_;refine Vs (bI uZ) (bI O2) rfl ?_;rw[VZ (m:=es.length) O];refine Y ?_;refine Za [.int .u64 es.length] (P7 O) ?_;rintro w _ ⟨rfl,rfl⟩;refine Y ?_;refine Za [.slice (some ⟨r,0,none⟩) es.length cap,vi (0:Nat),vi es.length,vi (fR es.length:Nat),vf 155] (Zsx (rest:=rest) hE (n:=es.length) O es.length 0 es.length (fR es.length) (Uc ms) H O Z hC (λk hk=>by rw[S8 k O];exact⟨_,bY _,rfl⟩) t (qAI _) (dO _) O (.inl rfl)) ?_;rintro w H1 ⟨d,ar,rg,so⟩;refine Y ?_;have hp:d.Perm (Uc ms):=rg.perm (by rw[t];exact dO _);have B:d.length=es.length:=by rw[rg.len,t]
 have T:∀z∈d,((z.toNat:Nat):Int)=z:=λz hz=>by have:=hp.mem_iff.1 hz;obtain⟨m,_,rfl⟩:=qAB.1 this;rw[qAD]
 have M:Uc (d.map Int.toNat)=d:=by unfold Uc;rw[qCP];exact(qCG (λz hz=>T z hz)).trans (List.map_id _)
 have G:(d.map Int.toNat).Perm ms:=by refine(hp.map Int.toNat).trans ?_;unfold Uc;rw[qCP];rw[show(ms.map (Int.toNat ∘ λ(m:Nat)=>(m:Int)))=ms from(qCG (λm _=>qAD m)).trans (List.map_id _)]
 have Q:(d.map Int.toNat).Nodup:=G.nodup_iff.2 F;have SV:(d.map Int.toNat).Pairwise (·<·):=by
  have h1:d.Pairwise (·<=·):=Zhc (by rw[B];exact so);have h2:(d.map Int.toNat).Pairwise (·<=·):=by rw[qBK];exact h1.imp λh=>by omega
  exact(h2.and Q).imp λ⟨a,b⟩=>by omega
 refine⟨λx y hx h=>ar.keep x y (λe=>hx (by rw[e])) h,(d.map Int.toNat).map (λ(m:Nat)=>Vm es ms (m:Int)),d.map Int.toNat,G,SV,by simp,?_,λk k1 k2=>?_⟩
 ·have e2:Zb ((d.map Int.toNat).map (λ(m:Nat)=>Vm es ms (m:Int)))=iS (QY es ms) d:=by rw[Lj,M]
  rw[e2];refine⟨by rw[LK hE];simp,.inr ⟨r,cap,rest,rfl,by simp[B],ar.at_,?_,by simp[B];exact h5⟩⟩;rw[BY,LK hE,B];rw[BY,LK hE,t]at h4;exact h4
 have L:(d.map Int.toNat)[k]∈ms:=G.mem_iff.1 (bY _);obtain⟨m,D⟩:∃m,m=(d.map Int.toNat)[k]:=⟨_,rfl⟩;have e3:((d.map Int.toNat).map (λ(m:Nat)=>Vm es ms (m:Int)))[k]=Vm es ms (m:Int):=by rw[qAZ,D]
 rw[e3,<-D];rw[<-D]at L;obtain⟨j,j1,j2,j3,j4⟩:=Ak N L;have o:=s j j1 j2;rw[j3,<-j4]at o;obtain⟨ra,i,a1,a2,a3⟩:=I _ _ o;exact⟨o.td,o.n,o.c,ra,i,a1,ar.keep _ _ a2 a3⟩
end
def Mb:∀b c,bA b->IQ b c:=λ_ _ ok=>ZoB ok
section
variable{P:aX}[Tz P][Loud P]{H:Hp}
def KI(c:P=PP)(hb:Zr H b)(g:b.Sz)(f:Yk H)(d:aC H ⟨1,0,none⟩ [vf 284]) :
  LL.Zc P 30 #[b.v] H λv e=>aL H e/\v=.tuple #[vi (if Zl b 0=0 then(dE b (Zi b)).length else 0),vi (Zl b 0)]:=ZyK c Mb hb g f d
def PS(d:P=PP)(hb:Zr H b)(h:b.Sz)(g:Yk H)(e:aC H ⟨1,0,none⟩ [vf 284]) :
  LL.Zc P 32 #[b.v] H λv f=>aL H f/\((¬ (Zl b 0=0/\dE b (Zi b)≠[])/\v=.tuple #[.slice none 0 0,.agg #[vi 0,vi 0],vb false,vi (Zl b 0)]) \/
   (Zl b 0=0/\dE b (Zi b)≠[]/\∃A c,aF f (.slice A (Yu b (Zi b)).length c) (Yu b (Zi b))/\(Yu b (Zi b)).length<=c/\v=.tuple #[.slice A (Yu b (Zi b)).length c,.agg #[vi (cG b (Zi b) (Yu b (Zi b))).lo,vi (cG b (Zi b) (Yu b (Zi b))).hi],vb true,vi 0])):=ZyG d Mb hb h g e
def TP(c:P=PP)(hb:Zr H b)(g:b.Sz)(f:Yk H)(d:aC H ⟨1,0,none⟩ [vf 284]) :
  LL.Zc P 34 #[b.v] H λv e=>aL H e/\v=.tuple #[vi (if Zl b 0=0 then V7 b (Zi b)else 0:Nat),vb (decide (Zl b 0=0/\V7 b (Zi b)≠0)),vi (Zl b 0)]:=ZyV c Mb hb g f d
end
