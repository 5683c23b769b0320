import Derived.Test.YtlhomfgcibjccaaGreatDoorP22
import Derived.Test.YtlhomfgcibjccaaGreatDoorP34
set_option linter.all false
set_option maxHeartbeats 8000000
set_option maxRecDepth 20000
open Go Go.LL
namespace Go.Proofs
variable{r cap a n:Nat}{l:List Int}{rest:List Value}{E:Int->List Value}{cv:Value}{S:Int->Prop}{b:Sb}{es:List Te}{ms:List Nat}
theorem Qr{G:Prop} (h:G:=by refine Y ?_;exact⟨c6,⟨iI,yQ⟩,V,trivial,rfl⟩):G:=h
section
variable{P:bF}[Tz P][Loud P]{H:Hp}
theorem Zyi{k:Nat}(hE:Yx E)(hC:YN P E H r cv S)(hS:∀k,k<l.length->S (el l k))(hA:H r=some (.cells (iQ E l++rest).toArray 122 (0,0),true))(hn:l.length=n)(hk:12<k)(hb:a+k<=n)(hl:n<=60000) :
  LL.Zc P 235 #[.slice (some ⟨r,0,none⟩) n cap,vi a,vi (a+k:Nat),cv] H λv H'=>∃l',AT E H H' r l' rest/\Rg a (a+k) l l':=by
 refine aO.m (cF ZwR) (args:=[.slice (some ⟨r,0,none⟩) n cap,vi a,vi (a+k:Nat),cv]) rfl ?_;unfold Zka;have ek:(((a+k:Nat):Int)-(a:Int))=(k:Int):=O;have e4:((k:Int)).tdiv 4=((k / 4:Nat):Int):=by rw[qAV O];omega
 have T3:=ZlX (m:=k) O;refine Y ?_;rw[ek];refine OI (λg1=>?_) (λg1=>?_)
 ·refine Y ?_;refine Vr (dC tX) (dC ZgM) rfl ?_;rw[VY O];refine Y ?_;refine Vs (eI O4) (OL _) λr2 j0=>?_;have hr:r2≠r:=by rintro rfl;rw[hA]at j0;simp at j0
  refine Y ?_;refine Vp (eI O4) rfl rfl (Hp.aF _ _ _) rfl rfl (OL _) ?_;rw[Us];have kF:=(AT.of hA).new (o:=.cells #[.int .u64 (k:Int)] 251) j0;have Jl:(H.ins r2 (.cells #[.int .u64 (k:Int)] 251)) r2=some (.cells #[.int .u64 (k:Int)] 251 (0,0),true):=Hp.aF _ _ _;generalize H.ins r2 (.cells #[.int .u64 (k:Int)] 251)=H1 at *;refine Y ?_;refine Za (vs:=[vi k]) rfl (Ziq O) ?_;rintro v _ ⟨rfl,rfl⟩;generalize hM:2 ^ fS k=M at *;have hM0:1<=M:=by rw[<-hM];exact Nat.one_le_two_pow
  refine Y ?_;refine VC rfl rfl (by decide) (by rw[e4];exact⟨O,O⟩) ?_;rw[e4];refine Y ?_;refine V8 rfl rfl ⟨O,O⟩ (Y ?_);have e9:((a:Int)+((k / 4:Nat):Int) * 2-1)=((a+k / 4 * 2-1:Nat):Int):=O;rw[e9];refine ZQ (α:=List Int×Nat) 3 (λt s H'=>AT E H H' r s.1 rest/\Rg a (a+k) l s.1/\H' r2=some (.cells #[.int .u64 (s.2:Int)] 251 (0,0),true)) (λt _=>[(0,.slice (some ⟨r,0,none⟩) n cap),(1,vi a),(8,vi k),(9,pt r2),(10,.int .u64 (M:Int)),(11,vi (a+k / 4 * 2-1+t:Nat))]) (λ_ _=>[]) (l,k) ⟨kF,.refl l,Jl⟩ V trivial ?_;rintro t ⟨c,y⟩ H2 ht ⟨ar,rg,hy⟩;simp only at ar rg hy;have bU:=rg.len;refine Y ?_;refine VC rfl rfl (by decide) (by rw[e4];exact⟨O,O⟩) ?_;rw[e4];refine Y ?_;refine V8 rfl rfl ⟨O,O⟩ (Y ?_);refine OI (λg2=>?_) (λg2=>?_)
  ·refine Y ?_;refine Za (vs:=[pt r2]) rfl (Zjd hy) ?_;rintro v H3 ⟨z,hz,rfl,EC,PY⟩;have pX:AT E H H3 r c rest:=⟨λb x hb hx=>by
    by_cases e:b=r2
    ·subst e;rw[j0]at hx;simp at hx
    exact PY b x e (ar.keep b x hb hx),PY r _ (qAi hr) ar.at_⟩
   have kK:=Znp z (M-1) O;generalize ho:(BitVec.ofInt IntKind.u64.bits (z:Int) &&& BitVec.ofInt IntKind.u64.bits ((M-1:Nat):Int)).toNat=o at *;refine Y ?_;refine Ziz (q:=((M-1:Nat):Int)) rfl rfl (by rw[show(M:Int)-1=((M-1:Nat):Int)by omega,VY O]) (Y ?_);refine LR (v:=.int .u64 (o:Int)) rfl rfl (.inl rfl) (by show Value.int .u64 (IntKind.u64.wrap _)=_;rw[ho,VY O]) (Y ?_);refine Vr (dC O3) (dC tX) rfl ?_;rw[Uk ⟨O,O⟩];refine OB ?_;refine Z4 (λ(q:Nat) H'=>H3=H'/\q<k) (λq=>[(0,.slice (some ⟨r,0,none⟩) n cap),(1,vi a),(8,vi k),(9,pt r2),(10,.int .u64 (M:Int)),(11,vi (a+k / 4 * 2-1+t:Nat)),(12,vi q)]) (λ_=>[]) ?_ ?_
   ·refine OB ?_;refine OI (λg3=>?_) (λg3=>?_)
    ·refine Y ?_;exact⟨o-k,⟨rfl,O⟩,⟨rfl,rfl,rfl,rfl,rfl,rfl,by show some (vi ((o:Int)-(k:Int)))=some (vi ((o-k:Nat):Int));congr 2;omega,trivial⟩,trivial,rfl⟩
    refine Y ?_;exact⟨o,⟨rfl,O⟩,V,trivial,rfl⟩
   rintro q _ ⟨rfl,hq⟩;refine Y ?_;have u4:=AT.of pX.at_;refine Zd (a+q) rfl rfl O O (Y ?_);refine Zl (Loud.aL _) rfl (AT.cA hE u4 O rfl) (Yx.len hE _) (Y ?_);refine Zd (a+k / 4 * 2-1+t) rfl rfl O O (Y ?_);refine Zl (Loud.aL _) rfl (AT.cA hE u4 O rfl) (Yx.len hE _) (Y ?_);refine Zd (a+k / 4 * 2-1+t) rfl rfl O O (Y ?_);refine Z3 hE u4 O rfl rfl rfl λHW fQ=>?_;refine Zq Loud.aL (Y ?_);refine Zd (a+q) rfl rfl O O (Y ?_);refine Z3 hE fQ (by rw[IF];omega) rfl rfl rfl λH6 CI=>Y ?_;have iI:=pX.trans CI;have Fp:H6 r2=some (.cells #[.int .u64 (z:Int)] 251 (0,0),true):=CI.keep r2 _ hr EC;refine⟨(⟨t+1,O⟩,(cY c (a+k / 4 * 2-1+t) (a+q),z)),dX O,⟨iI,.step _ _ rg O O O O,Fp⟩,V,trivial,rfl⟩
  refine Y ?_;exact⟨c,ar,rg⟩
 exact absurd g1 O
end
section
variable{P:bF}[Tz P][Loud P]
theorem ZuE{b:Nat}{H:Hp}(hE:Yx E)(hC:YN P E H r cv S)(hS:∀k,k<l.length->S (el l k))(hA:H r=some (.cells (iQ E l++rest).toArray 122 (0,0),true))(hn:l.length=n)(rW:a<=b)(hb:b<=n)(hl:n<=1000000) :
  LL.Zc P 233 #[.slice (some ⟨r,0,none⟩) n cap,vi a,vi b,cv] H λv H'=>∃l',AT E H H' r l' rest/\Rg a b l l'/\So a b l':=by
 subst hn;exact ZuF hE hA rW hb hl hC hS
theorem ZuQ{hi:Nat}{H:Hp}(hE:Yx E)(hC:YN P E H r cv S)(hS:∀k,k<l.length->S (el l k))(hA:H r=some (.cells (iQ E l++rest).toArray 122 (0,0),true))(hn:l.length=n)(hb:a+hi<=n)(hl:n<=1000000) :
  LL.Zc P 234 #[.slice (some ⟨r,0,none⟩) n cap,vi a,vi (a+hi:Nat),cv] H λv H'=>∃l',AT E H H' r l' rest/\Rg a (a+hi) l l'/\So a (a+hi) l':=by
 subst hn;exact ZuR hE hC hS hA hb hl
abbrev FP(cv:Value)(r n cap a b lE:Nat)(f g:Bool):List (Nat×Value):=[(0,.slice (some ⟨r,0,none⟩) n cap),(1,vi a),(2,vi b),(3,vi lE),(4,cv),(10,vb f),(11,vb g)]
theorem ZsO(hE:Yx E)(hl:n<=60000):∀(N a0 b0 lE:Nat) (l:List Int) (H:Hp),b0-a0<=N->H r=some (.cells (iQ E l++rest).toArray 122 (0,0),true)->YN P E H r cv S->(∀k,k<l.length->S (el l k))->l.length=n->a0<=b0->b0<=n->lE<=100->DD a0 b0 l ->
  LL.Zc P 205 #[.slice (some ⟨r,0,none⟩) n cap,vi a0,vi b0,vi lE,cv] H λv H'=>∃l',AT E H H' r l' rest/\Rg a0 b0 l l'/\So a0 b0 l':=by
 intro N;induction N using Nat.strongRecOn with
 | _ N ih=>
 intro a0 b0 uG l H hN hA hC hS hn rW hb II lw;refine aO.m (cF Znd) (args:=[.slice (some ⟨r,0,none⟩) n cap,vi a0,vi b0,vi uG,cv]) rfl ?_;unfold Nk;refine OB ?_;refine ZQ (α:=List Int×(Nat×Nat)×Nat×Bool×Bool) (b0-a0) (λt s H'=>AT E H H' r s.1 rest/\pG a0 b0 s.2.1.1 s.2.1.2 l s.1/\s.2.2.1<=100/\s.2.1.2-s.2.1.1+t=b0-a0)
  (λt s=>FP cv r n cap s.2.1.1 s.2.1.2 s.2.2.1 s.2.2.2.1 s.2.2.2.2) (λ_ _=>[]) (l,(a0,b0),uG,true,true) ⟨AT.of hA,.start rW lw,II,rfl⟩ V trivial ?_
 rintro t ⟨c,⟨a,b⟩,lE,f,g⟩ H1 ht ⟨ar,pd,IH,hm⟩;simp only at ar pd IH hm;have bU:=pd.rg.len;have g1:=pd.h1;have g2:=pd.h2;have g3:=pd.h3;obtain⟨d,rfl⟩:∃d,b=a+d:=⟨b-a,O⟩;have ed:(((a+d:Nat):Int)-(a:Int))=(d:Int):=O;have mC:a+d<=n:=O;have es:V4 ((Vu [.slice (some ⟨r,0,none⟩) n cap,vi a0,vi b0,vi uG,cv]).cX) (FP cv r n cap a (a+d) lE f g) []=V4 [] (FP cv r n cap a (a+d) lE f g) []:=rfl;dsimp only[FP];have gF:b0<=c.length:=O;refine OB ?_;rw[ed];refine OB ?_;refine Yb ?_;refine OB ?_;refine OI (λc1=>?_) (λc1=>?_)
 ·refine Y ?_;refine Za (vs:=[.slice (some ⟨r,0,none⟩) n cap,vi a,vi (a+d:Nat),cv]) rfl (ZuE hE (hC.of ar.keep) (λk hk=>ZI pd.rg O hS hk) ar.at_ O O mC O) ?_;rintro v H2 ⟨c2,kV,nR,D0⟩;refine Y ?_;have z7:=pd.step nR gF;exact⟨c2,ar.trans kV,z7.rg,z7.gL D0⟩
 have c1:12<d:=O;refine OB ?_;refine Yb ?_;refine OB ?_;refine OI (λc2=>?_) (λc2=>?_)
 ·refine Y ?_;refine Za (vs:=[.slice (some ⟨r,0,none⟩) n cap,vi a,vi (a+d:Nat),cv]) rfl (ZuQ hE (hC.of ar.keep) (λk hk=>ZI pd.rg O hS hk) ar.at_ O mC O) ?_;rintro v H2 ⟨c2,kV,nR,D0⟩;refine Y ?_;have z7:=pd.step nR gF;exact⟨c2,ar.trans kV,z7.rg,z7.gL D0⟩
 refine OB ?_;refine Z4 (λ(s:List Int×Nat) H'=>AT E H H' r s.1 rest/\pG a0 b0 a (a+d) l s.1/\s.2<=100) (λs=>(12,vi d) :: FP cv r n cap a (a+d) s.2 f g) (λ_=>[]) ?_ ?_
 ·refine OB ?_;refine OI (λc3=>?_) (λc3=>?_)
  ·refine Y ?_;refine Za (vs:=[.slice (some ⟨r,0,none⟩) n cap,vi a,vi (a+d:Nat),cv]) rfl (Zyi hE (hC.of ar.keep) (λk hk=>ZI pd.rg O hS hk) ar.at_ O c1 mC hl) ?_;rintro v H2 ⟨Q7,kV,nR⟩;refine Y ?_;exact⟨(Q7,lE-1),⟨ar.trans kV,pd.step nR gF,by show lE-1<=100;omega⟩,⟨rfl,rfl,rfl,rfl,by show some (vi ((lE:Int)-1))=some (vi ((lE-1:Nat):Int));congr 2;omega,rfl,rfl,rfl,trivial⟩,trivial,rfl⟩
  refine Y ?_;exact⟨(c,lE),⟨ar,pd,IH⟩,V,trivial,rfl⟩
 rintro⟨c3,iE⟩ H3 ⟨pX,z6,x6⟩;simp only at pX z6 x6;have EM:=z6.rg.len;refine OB ?_;refine Za (vs:=[.slice (some ⟨r,0,none⟩) n cap,vi a,vi (a+d:Nat),cv]) rfl (ZvN hE (hC.of pX.keep) (λk hk=>ZI z6.rg O hS hk) pX.at_ O O mC O) ?_;rintro v H4 ⟨p4,h4,i4,rfl,Et,Es⟩;have dV:AT E H H4 r c3 rest:=⟨λb x hb hx=>i4 _ _ (pX.keep b x hb hx),i4 _ _ pX.at_⟩;refine OB ?_;refine Z4 (λ(s:List Int×Nat×Int) H'=>AT E H H' r s.1 rest/\pG a0 b0 a (a+d) l s.1/\a<=s.2.1/\s.2.1<a+d) (λs=>(12,vi d) :: (13,vi s.2.1) :: (14,vi s.2.2) :: FP cv r n cap a (a+d) iE f g) (λ_=>[]) ?_ ?_
 ·refine OB ?_;refine OI (λc5=>?_) (λc5=>?_)
  ·refine Y ?_;refine Za (vs:=[.slice (some ⟨r,0,none⟩) n cap,vi a,vi (a+d:Nat),cv]) rfl (Zp1 hE (hC.of dV.keep) (λk hk=>ZI z6.rg O hS hk) dV.at_ O O mC O) ?_;rintro v H5 ⟨Q4,jT,nP⟩;refine Y ?_;exact⟨(Q4,a+d-1-(p4-a),1),⟨dV.trans jT,z6.step nP O,by show a<=a+d-1-(p4-a);omega,by show a+d-1-(p4-a)<a+d;omega⟩,⟨rfl,by show some (vi _)=some (vi _);congr 2;show((a+d:Nat):Int)-1-((p4:Int)-(a:Int))=((a+d-1-(p4-a):Nat):Int);omega,rfl,rfl,rfl,rfl,rfl,rfl,rfl,rfl,trivial⟩,trivial,rfl⟩
  refine Y ?_;exact⟨(c3,p4,h4),⟨dV,z6,Et,Es⟩,V,trivial,rfl⟩
 rintro⟨c6,p6,h6⟩ H6 ⟨iI,yQ,G3,G2⟩;simp only at iI yQ G3 G2;have Iy:=yQ.rg.len;refine OB ?_;refine Z4 (λ(s:List Int) H'=>AT E H H' r s rest/\pG a0 b0 a (a+d) l s) (λ_=>(12,vi d) :: (13,vi p6) :: FP cv r n cap a (a+d) iE f g) (λ_=>[]) ?_ ?_
 ·cases f
  ·exact Qr
  cases g
  ·exact Qr
  refine Y ?_;refine OI (λc7=>?_) (λc7=>?_)
  ·refine Y ?_;refine Za (vs:=[.slice (some ⟨r,0,none⟩) n cap,vi a,vi (a+d:Nat),cv]) rfl (ZsT hE (hC.of iI.keep) (λk hk=>ZI yQ.rg O hS hk) iI.at_ O O mC O yQ.low) ?_;rintro v H7 ⟨JO,t7,RC,Em,rfl,Ed⟩;have G6:=yQ.step Em O;refine Y ?_;refine OI (λc8=>?_) (λc8=>?_)
   ·refine Y ?_;exact⟨JO,iI.trans RC,G6.rg,G6.gL (Ed c8)⟩
   refine Y ?_;exact⟨JO,⟨iI.trans RC,G6⟩,V,trivial,rfl⟩
  exact Qr
 rintro c8 H8 ⟨oK,xM⟩;have hc8:=xM.rg.len;refine OB ?_;refine Z4 (λ(_:Unit) H'=>H8=H') (λ_=>(12,vi d) :: (13,vi p6) :: FP cv r n cap a (a+d) iE f g) (λ_=>[]) ?_ ?_
 ·refine OB ?_;refine OI (λk1=>?_) (λk1=>?_)
  ·have k1:0<a:=O;refine Y ?_;refine Zd (a-1) rfl rfl O O (Y ?_);refine Zl (Loud.aL _) rfl (AT.cA hE oK O rfl) (Yx.len hE _) (Y ?_);refine Zd p6 rfl rfl O O (Y ?_);refine Zl (Loud.aL _) rfl (AT.cA hE oK O rfl) (Yx.len hE _) (Y ?_);refine ZN rfl rfl (hC _ (AT.keep oK) _ _ (ZI xM.rg O hS O) (ZI xM.rg O hS O)) ?_;intro vW KW hW;obtain⟨eA,eB⟩:=hW;subst eA eB;refine Y ?_;refine OI (λk2=>?_) (λk2=>?_);all_goals rw[Vv]at k2
   ·refine Y ?_;refine Za (vs:=[.slice (some ⟨r,0,none⟩) n cap,vi a,vi (a+d:Nat),vi p6,cv]) rfl (ZsV hE (hC.of oK.keep) (λk hk=>ZI xM.rg O hS hk) oK.at_ O G3 G2 mC O) ?_;rintro v H9 ⟨c9,q9,m8,pQ,Ep,rfl⟩;have Ix:=pQ.len;have Ez:∀k,a<=k->k<a+d->el c8 p6<=el c9 k:=pQ.all O (p:=λv=>el c8 p6<=v) (λk Ff Fb=>by
     rcases xM.low with h | h
     ·omega
     have:=h k Ff Fb;omega)
    obtain⟨e1,e2,e3,e4⟩:=Ep;have xL:=(xM.step pQ O).left (q:=q9) O e2 (λx y x1 x2 x3=>by have:=e3 x x1 O;have:=Ez y O O;omega) (λx y x1 x2 x3 x4=>by have:=e3 x x1 x2;have:=e4 y x3 x4;omega);refine Y ?_;refine⟨(⟨b0-a0-(a+d-q9),O⟩,(c9,(q9,a+d),iE,f,g)),?_,⟨oK.trans m8,xL,x6,?_⟩,V,trivial,rfl⟩
    ·show b0-a0-(b0-a0-(a+d-q9))<b0-a0-t;omega
    show a+d-q9+(b0-a0-(a+d-q9))=b0-a0;omega
   refine Y ?_;exact⟨(),rfl,V,trivial,rfl⟩
  refine Y ?_;exact⟨(),rfl,V,trivial,rfl⟩
 rintro _ _ rfl;refine OB ?_;refine Za (vs:=[.slice (some ⟨r,0,none⟩) n cap,vi a,vi (a+d:Nat),vi p6,cv]) rfl (ZsR hE (hC.of oK.keep) (λk hk=>ZI xM.rg O hS hk) oK.at_ O G3 G2 mC O) ?_;rintro v H9 ⟨c9,q9,t9,m8,pQ,⟨e1,e2,e3,e4⟩,rfl⟩;have Ix:=pQ.len;have xL:=xM.step pQ O;have e8:((d:Int)).tdiv 8=((d / 8:Nat):Int):=by rw[qAV O];omega
 refine Y ?_;refine VC rfl rfl (by decide) (by rw[e8];exact⟨O,O⟩) (Y ?_);refine OI (λk3=>?_) (λk3=>?_)
 ·refine Y ?_;refine Za (vs:=[.slice (some ⟨r,0,none⟩) n cap,vi a,vi q9,vi iE,cv]) rfl (ih (q9-a) O a q9 iE c9 H9 (aC _) m8.at_ (hC.of (oK.trans m8).keep) (λk hk=>ZI xL.rg O hS hk) O e1 O x6 (xL.low.imp id λh k k1 k2=>h k k1 O)) ?_;rintro v GS ⟨tF,u6,lD,tZ⟩;have out:∀k,q9<=k->el tF k=el c9 k:=λk hk=>lD.out O (.inr hk);have lo:∀k,a<=k->k<q9->el tF k<=el c9 q9:=lD.all O (p:=λv=>v<=el c9 q9) e3;have uC:=(xL.step (lD.mono (aC _) O) O).left (q:=q9+1) O O (λx y x1 x2 x3=>by
   by_cases e:y<q9
   ·exact tZ x y x1 x2 e
   ·have ey:y=q9:=O;subst ey;by_cases ex:x=y
    ·subst ex;exact qAy _
    rw[out y (aC _)];exact lo x x1 O) (λx y x1 x2 x3 x4=>by
   rw[out y O];have h4:=e4 y O x4;by_cases ex:x=q9
   ·subst ex;rw[out x (aC _)];exact h4
   exact qBz (lo x x1 O) h4)
  refine Y ?_;refine⟨(⟨b0-a0-(a+d-(q9+1)),O⟩,(tF,(q9+1,a+d),iE,_,t9)),?_,⟨(oK.trans m8).trans u6,uC,x6,?_⟩,V,trivial,rfl⟩
  ·show b0-a0-(b0-a0-(a+d-(q9+1)))<b0-a0-t;omega
  show a+d-(q9+1)+(b0-a0-(a+d-(q9+1)))=b0-a0;omega
 refine Y ?_;refine Za (vs:=[.slice (some ⟨r,0,none⟩) n cap,vi (q9+1:Nat),vi (a+d:Nat),vi iE,cv]) rfl (ih (a+d-(q9+1)) O (q9+1) (a+d) iE c9 H9 (aC _) m8.at_ (hC.of (oK.trans m8).keep) (λk hk=>ZI xL.rg O hS hk) O O mC x6 (.inr λk k1 k2=>e4 k O k2)) ?_;rintro v GS ⟨tF,u6,lD,tZ⟩;have out:∀k,k<=q9->el tF k=el c9 k:=λk hk=>lD.out O (.inl O);have lo:∀k,q9+1<=k->k<a+d->el c9 q9<=el tF k:=lD.all O (p:=λv=>el c9 q9<=v) (λk k1 k2=>e4 k O k2);have uC:=(xL.step (lD.mono O (aC _)) O).right (q:=q9) e1 O (λx y x1 x2 x3=>by
  by_cases e:q9<x
  ·exact tZ x y O x2 x3
  ·have ex:x=q9:=O;subst ex;by_cases ey:y=x
   ·subst ey;exact qAy _
   rw[out x (aC _)];exact lo y O x3) (λx y x1 x2 x3 x4=>by
  rw[out x O];have h3:=e3 x x1 x2;by_cases ey:y=q9
  ·subst ey;rw[out y (aC _)];exact h3
  exact qBz h3 (lo y O x4))
 refine Y ?_;refine⟨(⟨b0-a0-(q9-a),O⟩,(tF,(a,q9),iE,_,t9)),?_,⟨(oK.trans m8).trans u6,uC,x6,?_⟩,V,trivial,rfl⟩
 ·show b0-a0-(b0-a0-(q9-a))<b0-a0-t;omega
 show q9-a+(b0-a0-(q9-a))=b0-a0;omega
end
def te0:Te:=⟨⟨0,0,0,⟨0,0,0,0⟩⟩,none,0,0⟩
def Vl(es:List Te)(ms:List Nat)(z:Int):Te:=es.getD (ms.idxOf z.toNat) te0
def SH(es:List Te)(ms:List Nat)(z:Int):List Value:=Enc.enc (Vl es ms z)
theorem ZpM(es:List Te)(ms:List Nat):Yx (SH es ms):=⟨λz=>Enc.len _,λz=>rfl⟩
def Uc(ms:List Nat):List Int:=ms.map λ(m:Nat)=>(m:Int)
theorem Bl(hl:es.length=ms.length){m:Nat}(hm:m∈ms):∃(k:Nat) (h1:k<ms.length) (h2:k<es.length),ms[k]=m/\Vl es ms m=es[k]:=by have hk:ms.idxOf m<ms.length:=List.idxOf_lt_length_iff.2 hm;refine⟨ms.idxOf m,hk,O,List.getElem_idxOf hk,?_⟩;unfold Vl;rw[qAA];exact ZA O _
theorem ZpL(hl:es.length=ms.length)(hn:ms.Nodup):es=ms.map λ(m:Nat)=>Vl es ms (m:Int):=by refine qCc (by rw[qAs,hl]) λk h1 h2=>?_;rw[qBs];obtain⟨k',a1,a2,a3,a4⟩:=Bl hl (IN (show k<ms.length by omega));rw[a4];have:k'=k:=(qDc hn).1 a3;subst this;rfl
theorem Lq{es:List Te}{ms:List Nat}:∀l:List Nat,Zb (l.map λ(m:Nat)=>Vl es ms (m:Int))=iQ (SH es ms) (Uc l)
 | []=>rfl
 | x :: l=>by have ih:=Lq (es:=es) (ms:=ms) l;simp only[qBo,Uc,iQ,qAL]at ih ⊢;rw[show Zb (Vl es ms (x:Int) :: l.map λ(m:Nat)=>Vl es ms (m:Int))=Enc.enc (Vl es ms (x:Int))++Zb (l.map λ(m:Nat)=>Vl es ms (m:Int))by simp[Zb],ih];rfl
section
variable{P:bF}[Tz P][Loud P]{H:Hp}
theorem ZuI:LL.Zc P 233 #[.slice none 0 0,vi 0,vi 0,cv] H λ_ H'=>H=H':=by refine aO.m (cF Znc) (args:=[.slice none 0 0,vi 0,vi 0,cv]) rfl ?_;unfold Nl;refine Y ?_;refine Zw 0 (λ_ H'=>H=H') (λ_=>[(2,vi 0),(8,vi 1)]) (λ_=>[]) rfl V trivial ?_;rintro _ _ _ rfl;refine Y ?_;rfl
theorem ZsP{lE:Nat}:LL.Zc P 205 #[.slice none 0 0,vi 0,vi 0,vi lE,cv] H λ_ H'=>H=H':=by refine aO.m (cF Znd) (args:=[.slice none 0 0,vi 0,vi 0,vi lE,cv]) rfl ?_;unfold Nk;refine OB ?_;refine Zw 0 (λ_ H'=>H=H') (λ_=>[(0,.slice none 0 0),(1,vi 0),(2,vi 0),(4,cv)]) (λ_=>[]) rfl V trivial ?_;rintro _ _ _ rfl;refine Y ?_;refine Za (vs:=[.slice none 0 0,vi 0,vi 0,cv]) rfl ZuI ?_;rintro v _ rfl;refine Y ?_;rfl
theorem ZoQ{ts:List N4}(ok:fN b):JR b ts:=by
 intro H v bb es ms ho hl xX F1 oY;have hs:∀g,PL.still g=false:=Loud.aL;have hN:=Cn ok.n;have hml:ms.length<=24:=qAT (XL _ ms xX F1) hN;obtain⟨h0,⟨rfl,h2,h3⟩ | ⟨r,cap,rest,rfl,rfl,h3,h4,h5⟩⟩:=id ho
 ·have oI:es=[]:=qAf h2;have xZ:ms=[]:=qAf O;subst oI xZ;refine aO.m (cF Znf) (args:=[.slice none 0 0,vf 155]) rfl ?_;unfold Ni;refine Y ?_;refine Vr (dC tX) (dC O3) rfl ?_;rw[VY (m:=0) (by decide)];refine Y ?_;refine Za (vs:=[.int .u64 ((0:Nat):Int)]) rfl (RK (m:=0) (by decide)) ?_;rintro w _ ⟨rfl,rfl⟩;refine Y ?_;refine Za (vs:=[.slice none 0 0,vi 0,vi 0,vi (fS 0:Nat),vf 155]) rfl ZsP ?_;rintro w _ rfl;refine Y ?_;exact⟨λx y _ h=>h,[],[],.refl _,.nil,rfl,ho,λk h=>absurd h (qBh _)⟩
 have hE:=ZpM es ms;have e1:Zb es=iQ (SH es ms) (Uc ms):=by
  conv=>lhs;rw[ZpL hl xX]
  exact Lq ms
 rw[e1]at h3 h4;have C2:(Uc ms).length=es.length:=by rw[Uc,qAs,hl]
 have pV:∀k (h:k<ms.length),el (Uc ms) k=(ms[k]:Int):=λk h=>by rw[Uu (by rw[C2];omega)];simp[Uc]
 have CY:∀(x:Te) p,UB b ts p x H->∃re eZ,x.A=some ⟨re,0,none⟩/\re≠r/\H re=some (.cells (Zb p++eZ).toArray 3 (0,0),true):=λx p hf=>by obtain⟨re,eZ,q1,q2⟩:=hf.bk;exact⟨re,eZ,q1,by rintro rfl;rw[h3]at q2;simp at q2,q2⟩
 have hC:YN PL (SH es ms) H r (vf 155) (λz=>∃m∈ms,z=((m:Nat):Int)):=by
  rintro H' hk p q ⟨m,hm,rfl⟩ ⟨m',IE,rfl⟩;obtain⟨k,k1,k2,k3,k4⟩:=Bl hl hm;obtain⟨j,j1,j2,j3,j4⟩:=Bl hl IE;have f1:=oY k k1 k2;have f2:=oY j j1 j2;rw[k3,<-k4]at f1;rw[j3,<-j4]at f2;obtain⟨ra,zY,a1,a2,a3⟩:=CY _ _ f1;obtain⟨rb,NC,b1,b2,b3⟩:=CY _ _ f2;have g1:UB b ts (ZZ b.pk.length m) (Vl es ms (m:Int)) H':=⟨f1.td,f1.n,f1.c,ra,zY,a1,hk _ _ a2 a3⟩;have g2:UB b ts (ZZ b.pk.length m') (Vl es ms (m':Int)) H':=⟨f2.td,f2.n,f2.c,rb,NC,b1,hk _ _ b2 b3⟩;have l8:∀q,1<=q/\q<=(ZD b.pk.length).length->(ZZ b.pk.length q).length<=1000000:=λq hq=>by
   have:ZZ b.pk.length q∈ZD b.pk.length:=by unfold ZZ;rw[ZA O];exact IN _
   have:=(Zir this).1;have:=ok.n;omega
  have QB:=ZvG ok.n (F1 m hm) (F1 m' IE);have:=ZoC (P:=PL) (H:=H') g1.sl g2.sl f1.n f2.n (l8 m (F1 m hm)) (l8 m' (F1 m' IE));rw[QB]at this;exact Yk U this
 have Hu:es.length<=24:=O;have T6:=Mv (m:=es.length) O;refine aO.m (cF Znf) (args:=[.slice (some ⟨r,0,none⟩) es.length cap,vf 155]) rfl ?_;unfold Ni;refine Y ?_;refine Vr (dC tX) (dC O3) rfl ?_;rw[VY (m:=es.length) O];refine Y ?_;refine Za (vs:=[.int .u64 es.length]) rfl (RK O) ?_;rintro w _ ⟨rfl,rfl⟩;refine Y ?_;refine Za (vs:=[.slice (some ⟨r,0,none⟩) es.length cap,vi (0:Nat),vi es.length,vi (fS es.length:Nat),vf 155]) rfl (ZsO (rest:=rest) hE (n:=es.length) O es.length 0 es.length (fS es.length) (Uc ms) H O h3 hC (λk hk=>by rw[pV k O];exact⟨_,IN _,rfl⟩) C2 (qAR _) (aC _) O (.inl rfl)) ?_;rintro w H1 ⟨l',ar,rg,so⟩;refine Y ?_;have hp:l'.Perm (Uc ms):=rg.perm (by rw[C2];exact aC _);have sX:l'.length=es.length:=by rw[rg.len,C2]
 have eU:∀z∈l',((z.toNat:Nat):Int)=z:=λz hz=>by have:=hp.mem_iff.1 hz;obtain⟨m,_,rfl⟩:=qAX.1 this;rw[qAA]
 have Ic:Uc (l'.map Int.toNat)=l':=by unfold Uc;rw[List.map_map];exact(qCP (λz hz=>eU z hz)).trans (List.map_id _)
 have iG:(l'.map Int.toNat).Perm ms:=by refine(hp.map Int.toNat).trans ?_;unfold Uc;rw[List.map_map];rw[show(ms.map (Int.toNat ∘ λ(m:Nat)=>(m:Int)))=ms from(qCP (λm _=>qAA m)).trans (List.map_id _)]
 have Gz:(l'.map Int.toNat).Nodup:=iG.nodup_iff.2 xX;have T3:(l'.map Int.toNat).Pairwise (·<·):=by
  have h1:l'.Pairwise (·<=·):=Zhi (by rw[sX];exact so);have h2:(l'.map Int.toNat).Pairwise (·<=·):=by rw[qCX];exact h1.imp λh=>by omega
  exact(h2.and Gz).imp λ⟨a,b⟩=>by omega
 refine⟨λx y hx h=>ar.keep x y (λe=>hx (by rw[e])) h,(l'.map Int.toNat).map (λ(m:Nat)=>Vl es ms (m:Int)),l'.map Int.toNat,iG,T3,by simp,?_,λk k1 k2=>?_⟩
 ·have e2:Zb ((l'.map Int.toNat).map (λ(m:Nat)=>Vl es ms (m:Int)))=iQ (SH es ms) l':=by rw[Lq,Ic]
  rw[e2];refine⟨by rw[LY hE];simp,.inr ⟨r,cap,rest,rfl,by simp[sX],ar.at_,?_,by simp[sX];exact h5⟩⟩;rw[qAc,LY hE,sX];rw[qAc,LY hE,C2]at h4;exact h4
 have hm:(l'.map Int.toNat)[k]∈ms:=iG.mem_iff.1 (IN _);obtain⟨m,EI⟩:∃m,m=(l'.map Int.toNat)[k]:=⟨_,rfl⟩;have e3:((l'.map Int.toNat).map (λ(m:Nat)=>Vl es ms (m:Int)))[k]=Vl es ms (m:Int):=by rw[qBs,EI]
 rw[e3,<-EI];rw[<-EI]at hm;obtain⟨j,j1,j2,j3,j4⟩:=Bl hl hm;have f1:=oY j j1 j2;rw[j3,<-j4]at f1;obtain⟨ra,zY,a1,a2,a3⟩:=CY _ _ f1;exact⟨f1.td,f1.n,f1.c,ra,zY,a1,ar.keep _ _ a2 a3⟩
end
theorem Pq:∀b ts,fN b->JR b ts:=λ_ _ ok=>ZoQ ok
section
variable{P:bF}[Tz P][Loud P]{H:Hp}
theorem Xs(jS:P=PP)(hb:Zs H b)(sz:b.Sz)(hg:Yl H)(fU:aD H ⟨1,0,none⟩ [vf 284]) :
  LL.Zc P 30 #[b.v] H λv H'=>bO H H'/\v=.tuple #[vi (if Zn b 0=0 then(iJ b (Zi b)).length else 0),vi (Zn b 0)]:=Zy1 jS Pq hb sz hg fU
theorem ZyW(jS:P=PP)(hb:Zs H b)(sz:b.Sz)(hg:Yl H)(fU:aD H ⟨1,0,none⟩ [vf 284]) :
  LL.Zc P 32 #[b.v] H λv H'=>bO H H'/\((¬ (Zn b 0=0/\iJ b (Zi b)≠[])/\v=.tuple #[.slice none 0 0,.agg #[vi 0,vi 0],vb false,vi (Zn b 0)]) \/
   (Zn b 0=0/\iJ b (Zi b)≠[]/\∃A c,aV H' (.slice A (Yu b (Zi b)).length c) (Yu b (Zi b))/\(Yu b (Zi b)).length<=c/\v=.tuple #[.slice A (Yu b (Zi b)).length c,.agg #[vi (kX b (Zi b) (Yu b (Zi b))).lo,vi (kX b (Zi b) (Yu b (Zi b))).hi],vb true,vi 0])):=ZyX jS Pq hb sz hg fU
theorem Xr(jS:P=PP)(hb:Zs H b)(sz:b.Sz)(hg:Yl H)(fU:aD H ⟨1,0,none⟩ [vf 284]) :
  LL.Zc P 34 #[b.v] H λv H'=>bO H H'/\v=.tuple #[vi (if Zn b 0=0 then V7 b (Zi b)else 0:Nat),vb (decide (Zn b 0=0/\V7 b (Zi b)≠0)),vi (Zn b 0)]:=Zzc jS Pq hb sz hg fU
end
