import Derived.Test.YtlhomfgcibjccaaGreatDoorP21
set_option linter.all false
set_option maxHeartbeats 2000000
set_option maxRecDepth 100000
open Go Go.LL
namespace Go.Proofs
variable{G:Prop}{r cap a b n i m q a0 b0:Nat}{l c c':List Int}{rest:List Value}
theorem Zh4(h:G:=by refine Y ?_;exact⟨(⟨t0+1,O⟩,(c3,i)),dX O,⟨iI,D2,by show a+1<=i;omega,by show i<=b;omega,M2⟩,V,trivial,rfl⟩):G:=h
section
variable{P:bF}[Tz P][Loud P]{H:Hp}
theorem Zp0(hA:H r=some (.cells (Zb l++rest).toArray 3 (0,0),true))(hn:l.length=n)(rW:a<b)(hb:b<=n)(hl:n<=1000000) :
  LL.Zc P 175 #[.slice (some ⟨r,0,none⟩) n cap,vi a,vi b] H λv H'=>∃l',AR H H' r l' rest/\Rg a b l l':=by
 refine aO.m (cF Zwi) (args:=[.slice (some ⟨r,0,none⟩) n cap,vi a,vi b]) rfl ?_;unfold ZjB;refine Y ?_;refine ZQ (α:=List Int) b (λt c H'=>AR H H' r c rest/\Rg a b l c) (λt c=>[(0,.slice (some ⟨r,0,none⟩) n cap),(6,vi ((a+t:Nat):Int)),(7,vi ((b:Int)-1-(t:Nat)))]) (λ_ _=>[]) l ⟨AR.of hA,.refl l⟩ ⟨rfl,rfl,?_,trivial⟩ trivial ?_
 ·show some (vi _)=some (vi _);congr 2;omega
 rintro t c H1 ht ⟨ar,rg⟩;have bU:=rg.len;refine Y ?_;refine OI (λg1=>?_) (λg1=>?_)
 ·obtain⟨j,hj⟩:∃j:Nat,(b:Int)-1-(t:Nat)=(j:Int):=⟨b-1-t,O⟩;rw[hj];have nU:a+t<j:=O;have IP:j<b:=O;refine Y ?_;refine Zd j rfl rfl O O (Y ?_);refine Zg (Loud.aL _) rfl (AR.cA ar O rfl) (Y ?_);refine Zd (a+t) rfl rfl O O (Y ?_);refine Zg (Loud.aL _) rfl (AR.cA ar O rfl) (Y ?_);refine Zd (a+t) rfl rfl O O (Y ?_);refine ZU ar O (ZL _ _) rfl rfl λHW fQ=>?_;refine Zq Loud.aL (Y ?_);refine Zd j rfl rfl O O (Y ?_);refine ZU fQ (by rw[IF];omega) (ZL _ _) rfl rfl λH4 dV=>Y ?_;refine⟨(⟨t+1,O⟩,cY c (a+t) j),dX O,⟨dV,.step _ _ rg O O O IP⟩,⟨rfl,rfl,?_,trivial⟩,trivial,rfl⟩;show some (vi ((j:Int)-1))=some (vi ((b:Int)-1-((t+1:Nat):Int)));congr 2;omega
 refine Y ?_;exact⟨c,ar,rg⟩
def DD(a b:Nat)(c:List Int):Prop:=a=0\/∀k,a<=k->k<b->el c (a-1)<=el c k
theorem DD.rg(h:DD a b c)(rg:Rg a b c c')(hb:b<=c.length):DD a b c':=by
 rcases h with h | h
 ·exact .inl h
 by_cases h0:a=0
 ·exact .inl h0
 right;rw[rg.out hb (.inl O)];exact rg.all hb (p:=λv=>el c (a-1)<=v) h
theorem ZsS(hA:H r=some (.cells (Zb l++rest).toArray 3 (0,0),true))(hn:l.length=n)(rW:a<b)(hb:b<=n)(hl:n<=1000000)(lw:DD a b l) :
  LL.Zc P 176 #[.slice (some ⟨r,0,none⟩) n cap,vi a,vi b] H λv H'=>∃(l':List Int) (t:Bool),AR H H' r l' rest/\Rg a b l l'/\v=vb t/\(t=true->So a b l'):=by
 refine aO.m (cF Zwh) (args:=[.slice (some ⟨r,0,none⟩) n cap,vi a,vi b]) rfl ?_;unfold ZjA;refine Y ?_;refine ZQ (α:=List Int×Nat) 5 (λt s H'=>AR H H' r s.1 rest/\Rg a b l s.1/\a+1<=s.2/\s.2<=b/\So a s.2 s.1) (λt s=>[(0,.slice (some ⟨r,0,none⟩) n cap),(1,vi a),(2,vi b),(7,vi (s.2:Nat)),(8,vi (t:Nat))]) (λ_ _=>[]) (l,a+1) ⟨AR.of hA,.refl l,aC _,by show a+1<=b;omega,Um l (aC _)⟩ V trivial ?_;rintro t0 ⟨c,i0⟩ H1 AS ⟨ar,rg,oH,pU,so⟩;simp only at ar rg oH pU so;have bU:=rg.len;refine Y ?_;refine OI (λg1=>?_) (λg1=>?_)
 ·refine OB ?_;refine Yb ?_;refine OB ?_;refine Z4 (λ(i:Nat) H'=>H1=H'/\i0<=i/\i<=b/\So a i c/\(i=b\/el c i<el c (i-1))) (λi=>[(0,.slice (some ⟨r,0,none⟩) n cap),(1,vi a),(2,vi b),(7,vi (i:Nat)),(8,vi (t0:Nat))]) (λ_=>[]) ?_ ?_
  ·refine Y ?_;refine Zw (b-i0) (λt H'=>H1=H'/\So a (i0+t) c) (λt=>[(0,.slice (some ⟨r,0,none⟩) n cap),(1,vi a),(2,vi b),(7,vi (i0+t:Nat)),(8,vi (t0:Nat))]) (λ_=>[]) ⟨rfl,so⟩ V trivial ?_;rintro t _ ht ⟨rfl,GY⟩;refine Y ?_;refine OI (λz1=>?_) (λz1=>?_)
   ·refine Y ?_;refine Zd (i0+t) rfl rfl rfl O (Y ?_);refine Zg (OL _) rfl (ar.cA O rfl) (Y ?_);refine Zd (i0+t-1) rfl rfl O O (Y ?_);refine Zg (OL _) rfl (ar.cA O rfl) (Y ?_);refine Za (vs:=[vi (el c (i0+t)),vi (el c (i0+t-1))]) rfl (VL _ _) ?_;rintro w _ ⟨rfl,rfl⟩;refine Y ?_;refine OI (λz2=>?_) (λz2=>?_)
    ·refine Y ?_;refine⟨⟨t+1,O⟩,dX O,⟨rfl,?_⟩,V,trivial,rfl⟩;refine V5 λx x1 x2=>?_;have x2:x+1<i0+(t+1):=x2;by_cases e:x+1=i0+t
     ·rw[e,show x=i0+t-1 by omega];omega
     exact GY x (x+1) x1 O O
    refine Y ?_;exact⟨i0+t,⟨rfl,O,O,GY,.inr O⟩,V,trivial,rfl⟩
   refine Y ?_;exact⟨i0+t,⟨rfl,O,O,GY,.inl O⟩,V,trivial,rfl⟩
  rintro i _ ⟨rfl,T9,tR,M1,st⟩;refine OB ?_;refine Yb ?_;refine OB ?_;refine OI (λg2=>?_) (λg2=>?_)
  ·have:i=b:=O;subst this;refine Y ?_;exact⟨c,true,ar,rg,rfl,λ_=>M1⟩
  have hib:i<b:=O;refine OB ?_;refine Yb ?_;refine OB ?_;refine OI (λg3=>?_) (λg3=>?_)
  ·refine Y ?_;exact⟨c,false,ar,rg,rfl,λh=>by simp at h⟩
  refine OB ?_;refine Zd (i-1) rfl rfl O O (Y ?_);refine Zg (Loud.aL _) rfl (AR.cA ar O rfl) (Y ?_);refine Zd i rfl rfl O O (Y ?_);refine Zg (Loud.aL _) rfl (AR.cA ar O rfl) (Y ?_);refine Zd i rfl rfl O O (Y ?_);refine ZU ar O (ZL _ _) rfl rfl λHW fQ=>?_;refine Zq Loud.aL (Y ?_);refine Zd (i-1) rfl rfl O O (Y ?_);refine ZU fQ (by rw[IF];omega) (ZL _ _) rfl rfl λH4 dV=>?_;have lA:(c.set i (el c (i-1))).set (i-1) (el c i)=cY c i (i-1):=rfl;rw[lA]at dV;have nQ:Rg a b l (cY c i (i-1)):=.step _ _ rg O O O O;have QY:∀x,x<i-1->el (cY c i (i-1)) x=el c x:=λx hx=>by rw[Yi _ O O,bY O,bY O]
  generalize cY c i (i-1)=c1 at *;have EN:=nQ.len;refine OB ?_;refine Z4 (λ(c2:List Int) H'=>AR H H' r c2 rest/\Rg a b l c2/\So a i c2) (λ_=>[(0,.slice (some ⟨r,0,none⟩) n cap),(1,vi a),(2,vi b),(7,vi (i:Nat)),(8,vi (t0:Nat))]) (λ_=>[]) ?_ ?_
  ·refine OB ?_;refine OI (λg4=>?_) (λg4=>?_)
   ·have g4:a+2<=i:=O;refine Y ?_;refine ZQ (α:=List Int) (i-1) (λt c2 H'=>AR H H' r c2 rest/\Rg a b l c2/\a<=i-1-t/\(∀x y,a<=x->x<=y->y<i->x≠i-1-t->y≠i-1-t->el c2 x<=el c2 y)/\(∀y,i-1-t<y->y<i->el c2 (i-1-t)<=el c2 y)) (λt _=>[(0,.slice (some ⟨r,0,none⟩) n cap),(1,vi a),(2,vi b),(7,vi (i:Nat)),(8,vi (t0:Nat)),(9,vi (i-1-t:Nat))]) (λ_ _=>[]) c1 ⟨dV,nQ,O,?_,λy y1 y2=>O⟩ ⟨rfl,rfl,rfl,rfl,rfl,?_,trivial⟩ trivial ?_
    ·intro x y x1 x2 x3 x4 x5;rw[QY x O,QY y O];exact M1 x y x1 x2 O
    ·show some (vi ((i:Int)-1))=some (vi ((i-1-0:Nat):Int));congr 2;omega
    rintro t c2 H5 ht ⟨jT,nP,Hw,r8,HB⟩;have QG:=nP.len;have Ey:=lw.rg nP O;obtain⟨j,hj⟩:∃j,i-1-t=j:=⟨_,rfl⟩;rw[hj]at Hw r8 HB ⊢;have gL:(a<j->el c2 (j-1)<=el c2 j)->So a i c2:=λhh=>V5 λx x1 x2=>by
     by_cases e1:x=j
     ·subst e1;exact HB _ O O
     by_cases e2:x+1=j
     ·subst e2;exact hh O
     exact r8 _ _ x1 O O e1 e2
    refine Y ?_;refine OI (λz1=>?_) (λz1=>?_)
    ·refine Y ?_;refine Zd j rfl rfl rfl O (Y ?_);refine Zg (OL _) rfl (jT.cA O rfl) (Y ?_);refine Zd (j-1) rfl rfl O O (Y ?_);refine Zg (OL _) rfl (jT.cA O rfl) (Y ?_);refine Za (vs:=[vi (el c2 j),vi (el c2 (j-1))]) rfl (VL _ _) ?_;rintro w _ ⟨rfl,rfl⟩;refine Y ?_;refine OI (λz2=>?_) (λz2=>?_)
     ·refine Y ?_;exact⟨c2,⟨jT,nP,gL λ_=>O⟩,V,trivial,rfl⟩
     have haj:a<j:=by
      refine oR λhh=>?_;have IQ:j=a:=O;rcases Ey with h | h
      ·omega
      have:=h j O O;rw[<-IQ]at this;omega
     refine Y ?_;refine Zd (j-1) rfl rfl O O (Y ?_);refine Zg (Loud.aL _) rfl (AR.cA jT O rfl) (Y ?_);refine Zd j rfl rfl O O (Y ?_);refine Zg (Loud.aL _) rfl (AR.cA jT O rfl) (Y ?_);refine Zd j rfl rfl O O (Y ?_);refine ZU jT O (ZL _ _) rfl rfl λHW fQ=>?_;refine Zq Loud.aL (Y ?_);refine Zd (j-1) rfl rfl O O (Y ?_);refine ZU fQ (by rw[IF];omega) (ZL _ _) rfl rfl λH6 iI=>Y ?_;have jD:∀x,x≠j-1->el (cY c2 j (j-1)) x=if x=j then el c2 (j-1)else el c2 x:=λx hx=>by rw[Yi _ O O,bY hx]
     have rJ:el (cY c2 j (j-1)) (j-1)=el c2 j:=by rw[Yi _ O O,iO rfl]
     have rU:i-1-(t+1)=j-1:=O;refine⟨(⟨t+1,O⟩,cY c2 j (j-1)),(by show i-1-(t+1)<j;omega),⟨iI,.step _ _ nP O O O O,?_,?_,?_⟩,⟨rfl,rfl,rfl,rfl,rfl,?_,trivial⟩,trivial,rfl⟩
     ·show a<=i-1-(t+1);omega
     ·show ∀x y,a<=x->x<=y->y<i->x≠i-1-(t+1)->y≠i-1-(t+1)->_;intro x y h1 h2 h3 h4 h5;rw[rU]at h4 h5;rw[jD x h4,jD y h5];by_cases hx:x=j
      ·rw[iO hx];by_cases hy:y=j
       ·rw[iO hy];exact qAy _
       rw[bY hy];exact r8 _ _ O O h3 O hy
      rw[bY hx];by_cases hy:y=j
      ·rw[iO hy];exact r8 _ _ h1 O O hx O
      rw[bY hy];exact r8 _ _ h1 h2 h3 hx hy
     ·show ∀y,i-1-(t+1)<y->y<i->el (cY c2 j (j-1)) (i-1-(t+1))<=_;intro y h1 h2;rw[rU]at h1 ⊢;rw[rJ,jD y O];by_cases hy:y=j
      ·rw[iO hy];omega
      rw[bY hy];exact HB _ O h2
     show some (vi ((j:Int)-1))=some (vi ((i-1-(t+1):Nat):Int));congr 2;omega
    refine Y ?_;exact⟨c2,⟨jT,nP,gL λh=>O⟩,V,trivial,rfl⟩
   refine Y ?_;exact⟨c1,⟨dV,nQ,Um _ O⟩,V,trivial,rfl⟩
  rintro c2 H5 ⟨jT,nP,r8⟩;have QG:=nP.len;refine OB ?_;refine OI (λg5=>?_) (λg5=>?_)
  ·refine Y ?_;refine ZQ (α:=List Int) b (λt c3 H'=>AR H H' r c3 rest/\Rg a b l c3/\So a i c3) (λt _=>[(0,.slice (some ⟨r,0,none⟩) n cap),(1,vi a),(2,vi b),(7,vi (i:Nat)),(8,vi (t0:Nat)),(10,vi (i+1+t:Nat))]) (λ_ _=>[]) c2 ⟨jT,nP,r8⟩ V trivial ?_;rintro t c3 H6 ht ⟨iI,D2,M2⟩;have Iy:=D2.len;refine Y ?_;refine OI (λz1=>?_) (λz1=>?_)
   ·refine Y ?_;refine Zd (i+1+t) rfl rfl rfl O (Y ?_);refine Zg (OL _) rfl (iI.cA O rfl) (Y ?_);refine Zd (i+t) rfl rfl O O (Y ?_);refine Zg (OL _) rfl (iI.cA O rfl) (Y ?_);refine Za (vs:=[vi (el c3 (i+1+t)),vi (el c3 (i+t))]) rfl (VL _ _) ?_;rintro w _ ⟨rfl,rfl⟩;refine Y ?_;refine OI (λz2=>?_) (λz2=>?_)
    ·exact Zh4
    refine Y ?_;refine Zd (i+t) rfl rfl O O (Y ?_);refine Zg (Loud.aL _) rfl (AR.cA iI O rfl) (Y ?_);refine Zd (i+1+t) rfl rfl O O (Y ?_);refine Zg (Loud.aL _) rfl (AR.cA iI O rfl) (Y ?_);refine Zd (i+1+t) rfl rfl O O (Y ?_);refine ZU iI O (ZL _ _) rfl rfl λHW fQ=>?_;refine Zq Loud.aL (Y ?_);refine Zd (i+t) rfl rfl O O (Y ?_);refine ZU fQ (by rw[IF];omega) (ZL _ _) rfl rfl λH8 oK=>Y ?_;refine⟨(⟨t+1,O⟩,cY c3 (i+1+t) (i+t)),dX O,⟨oK,.step _ _ D2 O O O O,?_⟩,V,trivial,rfl⟩;intro x y x1 x2 x3;rw[Yi _ O O,Yi _ O O,bY O,bY O,bY O,bY O];exact M2 x y x1 x2 x3
   exact Zh4
  refine Y ?_;exact⟨(⟨t0+1,O⟩,(c2,i)),dX O,⟨jT,nP,by show a+1<=i;omega,by show i<=b;omega,r8⟩,V,trivial,rfl⟩
 refine Y ?_;exact⟨c,false,ar,rg,rfl,λh=>by simp at h⟩
end
def qZ:ByteArray:=.mk #[0,1,2,2,3,3,3,3,4,4,4,4,4,4,4,4,5,5,5,5,5,5,5,5,5,5,5,5,5,5,5,5,6,6,6,6,6,6,6,6,6,6,6,6,6,6,6,6,6,6,6,6,6,6,6,6,6,6,6,6,6,6,6,6,7,7,7,7,7,7,7,7,7,7,7,7,7,7,7,7,7,7,7,7,7,7,7,7,7,7,7,7,7,7,7,7,7,7,7,7,7,7,7,7,7,7,7,7,7,7,7,7,7,7,7,7,7,7,7,7,7,7,7,7,7,7,7,7,8,8,8,8,8,8,8,8,8,8,8,8,8,8,8,8,8,8,8,8,8,8,8,8,8,8,8,8,8,8,8,8,8,8,8,8,8,8,8,8,8,8,8,8,8,8,8,8,8,8,8,8,8,8,8,8,8,8,8,8,8,8,8,8,8,8,8,8,8,8,8,8,8,8,8,8,8,8,8,8,8,8,8,8,8,8,8,8,8,8,8,8,8,8,8,8,8,8,8,8,8,8,8,8,8,8,8,8,8,8,8,8,8,8,8,8,8,8,8,8,8,8,8,8,8,8,8,8]
def Om(m:Nat):Nat:=if m=0 then 0 else Nat.log2 m+1
theorem Zuh:(List.range 256).all (λi=>match qZ[i]? with | some b=>b.toNat == Om i | none=>false)=true:=U
theorem ZlW(h:i<256):∃b,qZ[i]? = some b/\b.toNat=Om i:=by
 have:=qAg.1 Zuh i (qAq.2 h);split at this
 ·exact⟨_,‹_›,by simpa using this⟩
 simp at this
theorem u9:Tryz.prog.underlying 9=some .string:=U
theorem ZgP:Tryz.prog.underlying 189=some (.int .u64):=U
theorem O3:Tryz.prog.underlying 176=some (.int .u64):=U
theorem u5:Tryz.prog.underlying 5=some (.int .u8):=U
section
variable{P:bF}[Tz P]{H:Hp}{d:Option Nat}{next:aN->Hp->Prop}{σ:aN}{x y:Operand}
theorem ZiS{t:TypeId}{ty:TypeId}{k:IntKind}{s:ByteArray}{b:UInt8}(hu:P.toProgram.underlying t=some .string)(e1:σ.get x=some (.string s))(e2:σ.get y=some (.int k (i:Int)))(hb:s[i]? = some b)
  (h:next (σ.set d (.int .u8 b.toNat)) H):(bC.raw (.index t x y) ty).m P d next σ H:=by
 refine YS (by simp[Op.operands,e1,e2]) (s:=Instr.index t (.string s) (.int k (i:Int))) (by simp[execOp,aP,e1,e2]) ?_;have hc:(0:Int)<=(i:Int):=O;simp only[Instr.index,Zh,asIntOf,Zj,Zy hu,iO hc,qAA,hb];exact h
end
section
variable{P:bF}[Tz P]{H:Hp}
theorem ZgB(h:m<256):IntKind.u8.wrap (m:Int)=(m:Int):=by simp only[IntKind.wrap,IntKind.bits,IntKind.signed,qBX,iN,qAk];omega
theorem VY(h:m<18446744073709551616):IntKind.u64.wrap (m:Int)=(m:Int):=by simp only[IntKind.wrap,IntKind.bits,IntKind.signed,qBX,iN,qAk];omega
theorem Zy3(hm:m<65536):LL.Zc P 181 #[.int .u64 m] H λv H'=>H=H'/\v=vi (if m<256 then Om m else 8+Om (m / 256):Nat):=by
 refine aO.m (cF Zwd) (args:=[.int .u64 m]) rfl ?_;unfold Zjw;refine Y ?_;refine OI (λg1=>?_) (λg1=>?_)
 ·exact absurd g1 O
 refine Y ?_;refine OI (λg2=>?_) (λg2=>?_)
 ·exact absurd g2 O
 refine Y ?_;refine OI (λg3=>?_) (λg3=>?_)
 ·have hd:m / 256<256:=O;obtain⟨b,hb,mD⟩:=ZlW hd;have hsh:ZB .shr .u64 (m:Int) 8=.int .u64 ((m / 256:Nat):Int):=by show Value.int .u64 ((m:Int).fdiv 256)=_;rw[qBI _ O];rfl
  have hb9:b.toNat<=255:=by have:=b.toNat_lt;omega
  refine Y ?_;refine KC rfl rfl (.inl rfl) O hsh (Y ?_);refine Vr (dC ZgP) (dC u5) rfl ?_;rw[ZgB hd];refine Y ?_;refine ZiS (s:=qZ) (dC u9) rfl rfl hb (Y ?_);refine Vr (dC u5) (dC tX) rfl ?_;rw[Uk ⟨O,O⟩];refine Y ?_;refine⟨rfl,?_⟩;rw[bY O,<-mD];show vi _=vi _;congr 1
 have hd:m<256:=O;obtain⟨b,hb,mD⟩:=ZlW hd;have hb9:b.toNat<=255:=by have:=b.toNat_lt;omega
 refine Y ?_;refine Vr (dC ZgP) (dC u5) rfl ?_;rw[ZgB hd];refine Y ?_;refine ZiS (s:=qZ) (dC u9) rfl rfl hb (Y ?_);refine Vr (dC u5) (dC tX) rfl ?_;rw[Uk ⟨O,O⟩];refine Y ?_;refine⟨rfl,?_⟩;rw[iO hd,<-mD];show vi _=vi _;congr 1;omega
def fS(m:Nat):Nat:=if m<256 then Om m else 8+Om (m / 256)
theorem RK(hm:m<65536):LL.Zc P 141 #[.int .u64 m] H λv H'=>H=H'/\v=vi (fS m:Nat):=by refine aO.m (cF Zww) (args:=[.int .u64 m]) rfl ?_;unfold ZjP;refine Y ?_;refine Za (vs:=[.int .u64 m]) rfl (Zy3 hm) ?_;rintro v _ ⟨rfl,rfl⟩;refine Y ?_;exact⟨rfl,rfl⟩
theorem Mv(hm:m<65536):fS m<=16:=by
 unfold fS Om;have hl:∀x,x<256->Nat.log2 x<=7:=λx hx=>by
  by_cases e:x=0
  ·subst e;decide
  have:=(Nat.log2_lt e (k:=8)).2 O;omega
 split
 ·split
  ·omega
  have:=hl m ‹_›;omega
 split
 ·omega
 have:=hl (m / 256) O;omega
end
theorem R7(n:Int):∃y:Nat,y<18446744073709551616/\IntKind.u64.wrap n=(y:Int):=by simp only[IntKind.wrap,IntKind.bits,IntKind.signed,qBX,iN,qAk];exact⟨(n % 2 ^ 64).toNat,O,O⟩
theorem ZgM:Tryz.prog.underlying 251=some (.int .u64):=U
theorem O4:Ym Tryz.prog 251=some (1,some (.int .u64 0),8):=U
theorem Znk(h:1<=m):2 ^ Om m<=2 * m:=by unfold Om;rw[bY O,Nat.pow_succ];have:=Nat.log2_self_le (n:=m) O;omega
theorem ZlX(h:1<=m):2 ^ fS m<=2 * m:=by
 unfold fS;split
 ·exact Znk h
 have:=Znk (m:=m / 256) O;rw[Nat.pow_add];omega
section
variable{P:bF}[Tz P][Loud P]{H:Hp}
theorem Ziq(hm:m<65536):LL.Zc P 220 #[vi m] H λv H'=>H=H'/\v=.int .u64 ((2 ^ fS m:Nat):Int):=by
 have hl:=Mv hm;have hp:2 ^ fS m<=2 ^ 16:=qBe (by decide) hl;have hsh:ZB .shl .u64 1 (fS m:Nat)=.int .u64 ((2 ^ fS m:Nat):Int):=by show Value.int .u64 (IntKind.u64.wrap (1 * 2 ^ min ((fS m:Nat):Int).toNat 64))=_;rw[qAA,qCi O,Int.one_mul,show(2:Int) ^ fS m=((2 ^ fS m:Nat):Int)by simp,VY O]
 refine aO.m (cF Zv7) (args:=[vi m]) rfl ?_;unfold Zjq;refine Y ?_;refine Vr (dC tX) (dC O3) rfl ?_;rw[VY O];refine Y ?_;refine Za (vs:=[.int .u64 m]) rfl (RK hm) ?_;rintro v _ ⟨rfl,rfl⟩;refine Y ?_;refine KC rfl rfl (.inr rfl) O hsh (Y ?_);exact⟨rfl,rfl⟩
theorem Zjd{r2 y:Nat}(hy:H r2=some (.cells #[.int .u64 y] 251 (0,0),true)):LL.Zc P 221 #[pt r2] H λv H'=>∃z:Nat,z<18446744073709551616/\v=.int .u64 z/\H' r2=some (.cells #[.int .u64 z] 251 (0,0),true)/\∀b x,b≠r2->H b=some x->H' b=some x:=by refine aO.m (cF Zv6) (args:=[pt r2]) rfl ?_;unfold Zjp;have Ft:=hy;obtain⟨w1,TZ,ew1⟩:=R7 ((y:Int) * 2 ^ 13);have Gf:ZB .shl .u64 (y:Int) 13=.int .u64 (w1:Int):=qAC (Value.int .u64) ew1;obtain⟨z1,hz1,ez1⟩:=R7 (((BitVec.ofInt IntKind.u64.bits (y:Int) ^^^ BitVec.ofInt IntKind.u64.bits (w1:Int)).toNat:Nat):Int);refine Y ?_;refine VD rfl (Y ?_);refine Zg (OL _) rfl (ZC (cs:=[.int .u64 y]) Ft) (Y ?_);refine VD rfl (Y ?_);refine Zg (OL _) rfl (ZC (cs:=[.int .u64 y]) Ft) (Y ?_);refine KC rfl rfl (.inr rfl) O Gf (Y ?_);refine LR (v:=.int .u64 (z1:Int)) rfl rfl (.inr (.inr (.inl rfl))) (qAC (Value.int .u64) ez1) (Y ?_);refine VD rfl (Y ?_);refine Vp (eI O4) rfl rfl Ft rfl rfl (OL _) ?_;have Fs:(H.ins r2 (.cells #[.int .u64 (z1:Int)] 251)) r2=some (.cells #[.int .u64 (z1:Int)] 251 (0,0),true):=Hp.aF _ _ _;obtain⟨w2,ew2⟩:∃w:Int,(z1:Int).fdiv (2 ^ 7)=w:=⟨_,rfl⟩;have Ge:ZB .shr .u64 (z1:Int) 7=.int .u64 w2:=qAC (Value.int .u64) ew2;obtain⟨z2,EC,ez2⟩:=R7 (((BitVec.ofInt IntKind.u64.bits (z1:Int) ^^^ BitVec.ofInt IntKind.u64.bits (w2:Int)).toNat:Nat):Int);refine Y ?_;refine VD rfl (Y ?_);refine Zg (OL _) rfl (ZC (cs:=[.int .u64 z1]) Fs) (Y ?_);refine VD rfl (Y ?_);refine Zg (OL _) rfl (ZC (cs:=[.int .u64 z1]) Fs) (Y ?_);refine KC rfl rfl (.inl rfl) O Ge (Y ?_);refine LR (v:=.int .u64 (z2:Int)) rfl rfl (.inr (.inr (.inl rfl))) (qAC (Value.int .u64) ez2) (Y ?_);refine VD rfl (Y ?_);refine Vp (eI O4) rfl rfl Fs rfl rfl (OL _) ?_;rw[Us];have Fq:(H.ins r2 (.cells #[.int .u64 (z2:Int)] 251)) r2=some (.cells #[.int .u64 (z2:Int)] 251 (0,0),true):=Hp.aF _ _ _;obtain⟨w3,hw3,ew3⟩:=R7 ((z2:Int) * 2 ^ 17);have Gd:ZB .shl .u64 (z2:Int) 17=.int .u64 (w3:Int):=qAC (Value.int .u64) ew3;obtain⟨z3,hz3,ez3⟩:=R7 (((BitVec.ofInt IntKind.u64.bits (z2:Int) ^^^ BitVec.ofInt IntKind.u64.bits (w3:Int)).toNat:Nat):Int);refine Y ?_;refine VD rfl (Y ?_);refine Zg (OL _) rfl (ZC (cs:=[.int .u64 z2]) Fq) (Y ?_);refine VD rfl (Y ?_);refine Zg (OL _) rfl (ZC (cs:=[.int .u64 z2]) Fq) (Y ?_);refine KC rfl rfl (.inr rfl) O Gd (Y ?_);refine LR (v:=.int .u64 (z3:Int)) rfl rfl (.inr (.inr (.inl rfl))) (qAC (Value.int .u64) ez3) (Y ?_);refine VD rfl (Y ?_);refine Vp (eI O4) rfl rfl Fq rfl rfl (OL _) ?_;rw[Us];have Tp:(H.ins r2 (.cells #[.int .u64 (z3:Int)] 251)) r2=some (.cells #[.int .u64 (z3:Int)] 251 (0,0),true):=Hp.aF _ _ _;refine Y ?_;refine VD rfl (Y ?_);refine Zg (OL _) rfl (ZC (cs:=[.int .u64 (z3:Int)]) Tp) (Y ?_);exact⟨z3,hz3,rfl,Tp,λb x hb hx=>by rw[Hp.aE _ _ hb];exact hx⟩
end
theorem Znp(z M:Nat)(hM:M<18446744073709551616):((BitVec.ofInt IntKind.u64.bits (z:Int) &&& BitVec.ofInt IntKind.u64.bits (M:Int)).toNat)<=M:=by rw[qCd];refine qAT Nat.and_le_right ?_;rw[qCp];simp only[IntKind.bits];omega
section
variable{P:bF}[Tz P][Loud P]{H:Hp}
theorem Ziz{d:Option Nat}{next:aN->Hp->Prop}{σ:aN}{x y:Operand}{m n q:Int}(e1:σ.get x=some (.int .u64 m))(e2:σ.get y=some (.int .u64 n))(hr:IntKind.u64.wrap (m-n)=q)(h:next (σ.set d (.int .u64 q)) H):(bC.bQ .sub x y).m P d next σ H:=by subst hr;exact Yd e1 e2 rfl h
theorem Zyh{k:Nat}(hA:H r=some (.cells (Zb l++rest).toArray 3 (0,0),true))(hn:l.length=n)(hk:12<k)(hb:a+k<=n)(hl:n<=60000) :
  LL.Zc P 173 #[.slice (some ⟨r,0,none⟩) n cap,vi a,vi (a+k:Nat)] H λv H'=>∃l',AR H H' r l' rest/\Rg a (a+k) l l':=by
 refine aO.m (cF Zwk) (args:=[.slice (some ⟨r,0,none⟩) n cap,vi a,vi (a+k:Nat)]) rfl ?_;unfold ZjD;have ek:(((a+k:Nat):Int)-(a:Int))=(k:Int):=O;have e4:((k:Int)).tdiv 4=((k / 4:Nat):Int):=by rw[qAV O];omega
 have T3:=ZlX (m:=k) O;refine Y ?_;rw[ek];refine OI (λg1=>?_) (λg1=>?_)
 ·refine Y ?_;refine Vr (dC tX) (dC ZgM) rfl ?_;rw[VY O];refine Y ?_;refine Vs (eI O4) (OL _) λr2 j0=>?_;have hr:r2≠r:=by rintro rfl;rw[hA]at j0;simp at j0
  refine Y ?_;refine Vp (eI O4) rfl rfl (Hp.aF _ _ _) rfl rfl (OL _) ?_;rw[Us];have kF:=(AR.of hA).new (o:=.cells #[.int .u64 (k:Int)] 251) j0;have Jl:(H.ins r2 (.cells #[.int .u64 (k:Int)] 251)) r2=some (.cells #[.int .u64 (k:Int)] 251 (0,0),true):=Hp.aF _ _ _;generalize H.ins r2 (.cells #[.int .u64 (k:Int)] 251)=H1 at *;refine Y ?_;refine Za (vs:=[vi k]) rfl (Ziq O) ?_;rintro v _ ⟨rfl,rfl⟩;generalize hM:2 ^ fS k=M at *;have hM0:1<=M:=by rw[<-hM];exact Nat.one_le_two_pow
  refine Y ?_;refine VC rfl rfl (by decide) (by rw[e4];exact⟨O,O⟩) ?_;rw[e4];refine Y ?_;refine V8 rfl rfl ⟨O,O⟩ (Y ?_);have e9:((a:Int)+((k / 4:Nat):Int) * 2-1)=((a+k / 4 * 2-1:Nat):Int):=O;rw[e9];refine ZQ (α:=List Int×Nat) 3 (λt s H'=>AR H H' r s.1 rest/\Rg a (a+k) l s.1/\H' r2=some (.cells #[.int .u64 (s.2:Int)] 251 (0,0),true)) (λt _=>[(0,.slice (some ⟨r,0,none⟩) n cap),(1,vi a),(6,vi k),(7,pt r2),(8,.int .u64 (M:Int)),(9,vi (a+k / 4 * 2-1+t:Nat))]) (λ_ _=>[]) (l,k) ⟨kF,.refl l,Jl⟩ V trivial ?_;rintro t ⟨c,y⟩ H2 ht ⟨ar,rg,hy⟩;simp only at ar rg hy;have bU:=rg.len;refine Y ?_;refine VC rfl rfl (by decide) (by rw[e4];exact⟨O,O⟩) ?_;rw[e4];refine Y ?_;refine V8 rfl rfl ⟨O,O⟩ (Y ?_);refine OI (λg2=>?_) (λg2=>?_)
  ·refine Y ?_;refine Za (vs:=[pt r2]) rfl (Zjd hy) ?_;rintro v H3 ⟨z,hz,rfl,EC,PY⟩;have pX:AR H H3 r c rest:=⟨λb x hb hx=>by
    by_cases e:b=r2
    ·subst e;rw[j0]at hx;simp at hx
    exact PY b x e (ar.keep b x hb hx),PY r _ (qAi hr) ar.at_⟩
   have kK:=Znp z (M-1) O;generalize ho:(BitVec.ofInt IntKind.u64.bits (z:Int) &&& BitVec.ofInt IntKind.u64.bits ((M-1:Nat):Int)).toNat=o at *;refine Y ?_;refine Ziz (q:=((M-1:Nat):Int)) rfl rfl (by rw[show(M:Int)-1=((M-1:Nat):Int)by omega,VY O]) (Y ?_);refine LR (v:=.int .u64 (o:Int)) rfl rfl (.inl rfl) (by show Value.int .u64 (IntKind.u64.wrap _)=_;rw[ho,VY O]) (Y ?_);refine Vr (dC O3) (dC tX) rfl ?_;rw[Uk ⟨O,O⟩];refine OB ?_;refine Z4 (λ(q:Nat) H'=>H3=H'/\q<k) (λq=>[(0,.slice (some ⟨r,0,none⟩) n cap),(1,vi a),(6,vi k),(7,pt r2),(8,.int .u64 (M:Int)),(9,vi (a+k / 4 * 2-1+t:Nat)),(10,vi q)]) (λ_=>[]) ?_ ?_
   ·refine OB ?_;refine OI (λg3=>?_) (λg3=>?_)
    ·refine Y ?_;exact⟨o-k,⟨rfl,O⟩,⟨rfl,rfl,rfl,rfl,rfl,rfl,by show some (vi ((o:Int)-(k:Int)))=some (vi ((o-k:Nat):Int));congr 2;omega,trivial⟩,trivial,rfl⟩
    refine Y ?_;exact⟨o,⟨rfl,O⟩,V,trivial,rfl⟩
   rintro q _ ⟨rfl,hq⟩;refine Y ?_;have u4:=AR.of pX.at_;refine Zd (a+q) rfl rfl O O (Y ?_);refine Zg (Loud.aL _) rfl (AR.cA u4 O rfl) (Y ?_);refine Zd (a+k / 4 * 2-1+t) rfl rfl O O (Y ?_);refine Zg (Loud.aL _) rfl (AR.cA u4 O rfl) (Y ?_);refine Zd (a+k / 4 * 2-1+t) rfl rfl O O (Y ?_);refine ZU u4 O (ZL _ _) rfl rfl λHW fQ=>?_;refine Zq Loud.aL (Y ?_);refine Zd (a+q) rfl rfl O O (Y ?_);refine ZU fQ (by rw[IF];omega) (ZL _ _) rfl rfl λH6 CI=>Y ?_;have iI:=pX.trans CI;have Fp:H6 r2=some (.cells #[.int .u64 (z:Int)] 251 (0,0),true):=CI.keep r2 _ hr EC;refine⟨(⟨t+1,O⟩,(cY c (a+k / 4 * 2-1+t) (a+q),z)),dX O,⟨iI,.step _ _ rg O O O O,Fp⟩,V,trivial,rfl⟩
  refine Y ?_;exact⟨c,ar,rg⟩
 exact absurd g1 O
end
structure pG(a0 b0 a b:Nat)(l c:List Int):Prop where
 rg:Rg a0 b0 l c
 h1:a0<=a
 h2:a<=b
 h3:b<=b0
 s1:So a0 a c
 s2:So b b0 c
 s3:∀x y,a0<=x->x<a->a<=y->y<b0->el c x<=el c y
 s4:∀x y,a0<=x->x<b->b<=y->y<b0->el c x<=el c y
 lw:DD a0 b0 c
theorem pG.start(rW:a0<=b0)(lw:DD a0 b0 l):pG a0 b0 a0 b0 l l:=
 ⟨.refl l,aC _,rW,aC _,Um l O,Um l O,λx y h1 h2=>O,λx y h1 h2 h3 h4=>O,lw⟩
theorem pG.step(h:pG a0 b0 a b l c)(r:Rg a b c c')(hb:b0<=c.length):pG a0 b0 a b l c':=by
 have g1:=h.h1;have g2:=h.h2;have g3:=h.h3;have out:∀k,(k<a\/b<=k)->el c' k=el c k:=λk hk=>r.out O hk;have r':Rg a0 b0 c c':=r.mono g1 g3;refine⟨h.rg.trans r',g1,g2,g3,λx y x1 x2 x3=>?_,λx y x1 x2 x3=>?_,λx y x1 x2 x3 x4=>?_,λx y x1 x2 x3 x4=>?_,h.lw.rg r' hb⟩
 ·rw[out x (.inl O),out y (.inl x3)];exact h.s1 x y x1 x2 x3
 ·rw[out x (.inr x1),out y (.inr O)];exact h.s2 x y x1 x2 x3
 ·rw[out x (.inl x2)];by_cases e:y<b
  ·exact r.all O (p:=λv=>el c x<=v) (λk k1 k2=>h.s3 x k x1 x2 k1 O) y x3 e
  rw[out y (.inr O)];exact h.s3 x y x1 x2 x3 x4
 rw[out y (.inr x3)];by_cases e:a<=x
 ·exact r.all O (p:=λv=>v<=el c y) (λk k1 k2=>h.s4 k y O k2 x3 x4) x e x2
 rw[out x (.inl O)];exact h.s4 x y x1 x2 x3 x4
theorem pG.gL(h:pG a0 b0 a b l c)(s:So a b c):So a0 b0 c:=by
 have g1:=h.h1;have g2:=h.h2;have g3:=h.h3;intro x y x1 x2 x3;by_cases e1:x<a
 ·by_cases e2:y<a
  ·exact h.s1 x y x1 x2 e2
  exact h.s3 x y x1 e1 O x3
 by_cases e2:y<b
 ·exact s x y O x2 e2
 by_cases e3:x<b
 ·exact h.s4 x y x1 e3 O x3
 exact h.s2 x y O x2 x3
theorem pG.low(h:pG a0 b0 a b l c):DD a b c:=by
 have g1:=h.h1;have g3:=h.h3;by_cases e:a=a0
 ·subst e;exact h.lw.imp id λhh k k1 k2=>hh k k1 O
 exact .inr λk k1 k2=>h.s3 _ k O O k1 O
theorem pG.left(h:pG a0 b0 a b l c)(h1:a<=q)(h2:q<=b)(s:So a q c)(hx:∀x y,a<=x->x<q->q<=y->y<b->el c x<=el c y):pG a0 b0 q b l c:=by
 have g1:=h.h1;have g3:=h.h3;refine⟨h.rg,O,h2,g3,λx y x1 x2 x3=>?_,h.s2,λx y x1 x2 x3 x4=>?_,h.s4,h.lw⟩
 ·by_cases e1:x<a
  ·by_cases e2:y<a
   ·exact h.s1 x y x1 x2 e2
   exact h.s3 x y x1 e1 O O
  exact s x y O x2 x3
 by_cases e1:x<a
 ·exact h.s3 x y x1 e1 O x4
 by_cases e2:y<b
 ·exact hx x y O x2 x3 e2
 exact h.s4 x y x1 O O x4
theorem pG.right(h:pG a0 b0 a b l c)(h1:a<=q)(h2:q<=b)(s:So q b c)(hx:∀x y,a<=x->x<q->q<=y->y<b->el c x<=el c y):pG a0 b0 a q l c:=by
 have g1:=h.h1;have g3:=h.h3;refine⟨h.rg,g1,h1,O,h.s1,λx y x1 x2 x3=>?_,h.s3,λx y x1 x2 x3 x4=>?_,h.lw⟩
 ·by_cases e1:y<b
  ·exact s x y x1 x2 e1
  by_cases e2:x<b
  ·exact h.s4 x y O e2 O x3
  exact h.s2 x y O x2 x3
 by_cases e1:x<a
 ·exact h.s3 x y x1 e1 O x4
 by_cases e2:y<b
 ·exact hx x y O x2 x3 e2
 exact h.s4 x y x1 O O x4
theorem Mr(h:G:=by refine Y ?_;exact⟨c6,⟨iI,yQ⟩,V,trivial,rfl⟩):G:=h
section
variable{P:bF}[Tz P][Loud P]
theorem ZuB{H:Hp}(hA:H r=some (.cells (Zb l++rest).toArray 3 (0,0),true))(hn:l.length=n)(rW:a<=b)(hb:b<=n)(hl:n<=1000000) :
  LL.Zc P 171 #[.slice (some ⟨r,0,none⟩) n cap,vi a,vi b] H λv H'=>∃l',AR H H' r l' rest/\Rg a b l l'/\So a b l':=by
 subst hn;exact ZuC hA rW hb hl
theorem ZuO{hi:Nat}{H:Hp}(hA:H r=some (.cells (Zb l++rest).toArray 3 (0,0),true))(hn:l.length=n)(hb:a+hi<=n)(hl:n<=1000000) :
  LL.Zc P 172 #[.slice (some ⟨r,0,none⟩) n cap,vi a,vi (a+hi:Nat)] H λv H'=>∃l',AR H H' r l' rest/\Rg a (a+hi) l l'/\So a (a+hi) l':=by
 subst hn;exact ZuP hA hb hl
abbrev FQ(r n cap a b lE:Nat)(f g:Bool):List (Nat×Value):=[(0,.slice (some ⟨r,0,none⟩) n cap),(1,vi a),(2,vi b),(3,vi lE),(8,vb f),(9,vb g)]
theorem ZsM(hl:n<=60000):∀(N a0 b0 lE:Nat) (l:List Int) (H:Hp),b0-a0<=N->H r=some (.cells (Zb l++rest).toArray 3 (0,0),true)->l.length=n->a0<=b0->b0<=n->lE<=100->DD a0 b0 l ->
  LL.Zc P 140 #[.slice (some ⟨r,0,none⟩) n cap,vi a0,vi b0,vi lE] H λv H'=>∃l',AR H H' r l' rest/\Rg a0 b0 l l'/\So a0 b0 l':=by
 intro N;induction N using Nat.strongRecOn with
 | _ N ih=>
 intro a0 b0 uG l H hN hA hn rW hb II lw;refine aO.m (cF Zwx) (args:=[.slice (some ⟨r,0,none⟩) n cap,vi a0,vi b0,vi uG]) rfl ?_;unfold ZjQ;refine OB ?_;refine ZQ (α:=List Int×(Nat×Nat)×Nat×Bool×Bool) (b0-a0) (λt s H'=>AR H H' r s.1 rest/\pG a0 b0 s.2.1.1 s.2.1.2 l s.1/\s.2.2.1<=100/\s.2.1.2-s.2.1.1+t=b0-a0)
  (λt s=>FQ r n cap s.2.1.1 s.2.1.2 s.2.2.1 s.2.2.2.1 s.2.2.2.2) (λ_ _=>[]) (l,(a0,b0),uG,true,true) ⟨AR.of hA,.start rW lw,II,rfl⟩ V trivial ?_
 rintro t ⟨c,⟨a,b⟩,lE,f,g⟩ H1 ht ⟨ar,pd,IH,hm⟩;simp only at ar pd IH hm;have bU:=pd.rg.len;have g1:=pd.h1;have g2:=pd.h2;have g3:=pd.h3;obtain⟨d,rfl⟩:∃d,b=a+d:=⟨b-a,O⟩;have ed:(((a+d:Nat):Int)-(a:Int))=(d:Int):=O;have mC:a+d<=n:=O;have es:V4 ((Vu [.slice (some ⟨r,0,none⟩) n cap,vi a0,vi b0,vi uG]).cX) (FQ r n cap a (a+d) lE f g) []=V4 [] (FQ r n cap a (a+d) lE f g) []:=rfl;dsimp only[FQ];have gF:b0<=c.length:=O;refine OB ?_;rw[ed];refine OB ?_;refine Yb ?_;refine OB ?_;refine OI (λc1=>?_) (λc1=>?_)
 ·refine Y ?_;refine Za (vs:=[.slice (some ⟨r,0,none⟩) n cap,vi a,vi (a+d:Nat)]) rfl (ZuB ar.at_ O O mC O) ?_;rintro v H2 ⟨c2,kV,nR,D0⟩;refine Y ?_;have z7:=pd.step nR gF;exact⟨c2,ar.trans kV,z7.rg,z7.gL D0⟩
 have c1:12<d:=O;refine OB ?_;refine Yb ?_;refine OB ?_;refine OI (λc2=>?_) (λc2=>?_)
 ·refine Y ?_;refine Za (vs:=[.slice (some ⟨r,0,none⟩) n cap,vi a,vi (a+d:Nat)]) rfl (ZuO ar.at_ O mC O) ?_;rintro v H2 ⟨c2,kV,nR,D0⟩;refine Y ?_;have z7:=pd.step nR gF;exact⟨c2,ar.trans kV,z7.rg,z7.gL D0⟩
 refine OB ?_;refine Z4 (λ(s:List Int×Nat) H'=>AR H H' r s.1 rest/\pG a0 b0 a (a+d) l s.1/\s.2<=100) (λs=>(10,vi d) :: FQ r n cap a (a+d) s.2 f g) (λ_=>[]) ?_ ?_
 ·refine OB ?_;refine OI (λc3=>?_) (λc3=>?_)
  ·refine Y ?_;refine Za (vs:=[.slice (some ⟨r,0,none⟩) n cap,vi a,vi (a+d:Nat)]) rfl (Zyh ar.at_ O c1 mC hl) ?_;rintro v H2 ⟨Q7,kV,nR⟩;refine Y ?_;exact⟨(Q7,lE-1),⟨ar.trans kV,pd.step nR gF,by show lE-1<=100;omega⟩,⟨rfl,rfl,rfl,rfl,by show some (vi ((lE:Int)-1))=some (vi ((lE-1:Nat):Int));congr 2;omega,rfl,rfl,trivial⟩,trivial,rfl⟩
  refine Y ?_;exact⟨(c,lE),⟨ar,pd,IH⟩,V,trivial,rfl⟩
 rintro⟨c3,iE⟩ H3 ⟨pX,z6,x6⟩;simp only at pX z6 x6;have EM:=z6.rg.len;refine OB ?_;refine Za (vs:=[.slice (some ⟨r,0,none⟩) n cap,vi a,vi (a+d:Nat)]) rfl (ZvM pX.at_ O O mC O) ?_;rintro v H4 ⟨p4,h4,i4,rfl,Et,Es⟩;have dV:AR H H4 r c3 rest:=⟨λb x hb hx=>i4 _ _ (pX.keep b x hb hx),i4 _ _ pX.at_⟩;refine OB ?_;refine Z4 (λ(s:List Int×Nat×Int) H'=>AR H H' r s.1 rest/\pG a0 b0 a (a+d) l s.1/\a<=s.2.1/\s.2.1<a+d) (λs=>(10,vi d) :: (11,vi s.2.1) :: (12,vi s.2.2) :: FQ r n cap a (a+d) iE f g) (λ_=>[]) ?_ ?_
 ·refine OB ?_;refine OI (λc5=>?_) (λc5=>?_)
  ·refine Y ?_;refine Za (vs:=[.slice (some ⟨r,0,none⟩) n cap,vi a,vi (a+d:Nat)]) rfl (Zp0 dV.at_ O O mC O) ?_;rintro v H5 ⟨Q4,jT,nP⟩;refine Y ?_;exact⟨(Q4,a+d-1-(p4-a),1),⟨dV.trans jT,z6.step nP O,by show a<=a+d-1-(p4-a);omega,by show a+d-1-(p4-a)<a+d;omega⟩,⟨rfl,by show some (vi _)=some (vi _);congr 2;show((a+d:Nat):Int)-1-((p4:Int)-(a:Int))=((a+d-1-(p4-a):Nat):Int);omega,rfl,rfl,rfl,rfl,rfl,rfl,rfl,trivial⟩,trivial,rfl⟩
  refine Y ?_;exact⟨(c3,p4,h4),⟨dV,z6,Et,Es⟩,V,trivial,rfl⟩
 rintro⟨c6,p6,h6⟩ H6 ⟨iI,yQ,G3,G2⟩;simp only at iI yQ G3 G2;have Iy:=yQ.rg.len;refine OB ?_;refine Z4 (λ(s:List Int) H'=>AR H H' r s rest/\pG a0 b0 a (a+d) l s) (λ_=>(10,vi d) :: (11,vi p6) :: FQ r n cap a (a+d) iE f g) (λ_=>[]) ?_ ?_
 ·cases f
  ·exact Mr
  cases g
  ·exact Mr
  refine Y ?_;refine OI (λc7=>?_) (λc7=>?_)
  ·refine Y ?_;refine Za (vs:=[.slice (some ⟨r,0,none⟩) n cap,vi a,vi (a+d:Nat)]) rfl (ZsS iI.at_ O O mC O yQ.low) ?_;rintro v H7 ⟨JO,t7,RC,Em,rfl,Ed⟩;have G6:=yQ.step Em O;refine Y ?_;refine OI (λc8=>?_) (λc8=>?_)
   ·refine Y ?_;exact⟨JO,iI.trans RC,G6.rg,G6.gL (Ed c8)⟩
   refine Y ?_;exact⟨JO,⟨iI.trans RC,G6⟩,V,trivial,rfl⟩
  exact Mr
 rintro c8 H8 ⟨oK,xM⟩;have hc8:=xM.rg.len;refine OB ?_;refine Z4 (λ(_:Unit) H'=>H8=H') (λ_=>(10,vi d) :: (11,vi p6) :: FQ r n cap a (a+d) iE f g) (λ_=>[]) ?_ ?_
 ·refine OB ?_;refine OI (λk1=>?_) (λk1=>?_)
  ·have k1:0<a:=O;refine Y ?_;refine Zd (a-1) rfl rfl O O (Y ?_);refine Zg (OL _) rfl (oK.cA O rfl) (Y ?_);refine Zd p6 rfl rfl rfl O (Y ?_);refine Zg (OL _) rfl (oK.cA O rfl) (Y ?_);refine Za (vs:=[vi (el c8 (a-1)),vi (el c8 p6)]) rfl (VL _ _) ?_;rintro w _ ⟨rfl,rfl⟩;refine Y ?_;refine OI (λk2=>?_) (λk2=>?_)
   ·refine Y ?_;refine Za (vs:=[.slice (some ⟨r,0,none⟩) n cap,vi a,vi (a+d:Nat),vi p6]) rfl (ZsU oK.at_ O G3 G2 mC O) ?_;rintro v H9 ⟨c9,q9,m8,pQ,Ep,rfl⟩;have Ix:=pQ.len;have Ez:∀k,a<=k->k<a+d->el c8 p6<=el c9 k:=pQ.all O (p:=λv=>el c8 p6<=v) (λk Ff Fb=>by
     rcases xM.low with h | h
     ·omega
     have:=h k Ff Fb;omega)
    obtain⟨e1,e2,e3,e4⟩:=Ep;have xL:=(xM.step pQ O).left (q:=q9) O e2 (λx y x1 x2 x3=>by have:=e3 x x1 O;have:=Ez y O O;omega) (λx y x1 x2 x3 x4=>by have:=e3 x x1 x2;have:=e4 y x3 x4;omega);refine Y ?_;refine⟨(⟨b0-a0-(a+d-q9),O⟩,(c9,(q9,a+d),iE,f,g)),?_,⟨oK.trans m8,xL,x6,?_⟩,V,trivial,rfl⟩
    ·show b0-a0-(b0-a0-(a+d-q9))<b0-a0-t;omega
    show a+d-q9+(b0-a0-(a+d-q9))=b0-a0;omega
   refine Y ?_;exact⟨(),rfl,V,trivial,rfl⟩
  refine Y ?_;exact⟨(),rfl,V,trivial,rfl⟩
 rintro _ _ rfl;refine OB ?_;refine Za (vs:=[.slice (some ⟨r,0,none⟩) n cap,vi a,vi (a+d:Nat),vi p6]) rfl (ZsQ oK.at_ O G3 G2 mC O) ?_;rintro v H9 ⟨c9,q9,t9,m8,pQ,⟨e1,e2,e3,e4⟩,rfl⟩;have Ix:=pQ.len;have xL:=xM.step pQ O;have e8:((d:Int)).tdiv 8=((d / 8:Nat):Int):=by rw[qAV O];omega
 refine Y ?_;refine VC rfl rfl (by decide) (by rw[e8];exact⟨O,O⟩) (Y ?_);refine OI (λk3=>?_) (λk3=>?_)
 ·refine Y ?_;refine Za (vs:=[.slice (some ⟨r,0,none⟩) n cap,vi a,vi q9,vi iE]) rfl (ih (q9-a) O a q9 iE c9 H9 (aC _) m8.at_ O e1 O x6 (xL.low.imp id λh k k1 k2=>h k k1 O)) ?_;rintro v GS ⟨tF,u6,lD,tZ⟩;have out:∀k,q9<=k->el tF k=el c9 k:=λk hk=>lD.out O (.inr hk);have lo:∀k,a<=k->k<q9->el tF k<=el c9 q9:=lD.all O (p:=λv=>v<=el c9 q9) e3;have uC:=(xL.step (lD.mono (aC _) O) O).left (q:=q9+1) O O (λx y x1 x2 x3=>by
   by_cases e:y<q9
   ·exact tZ x y x1 x2 e
   ·have ey:y=q9:=O;subst ey;by_cases ex:x=y
    ·subst ex;exact qAy _
    rw[out y (aC _)];exact lo x x1 O) (λx y x1 x2 x3 x4=>by
   rw[out y O];have h4:=e4 y O x4;by_cases ex:x=q9
   ·subst ex;rw[out x (aC _)];exact h4
   exact qBz (lo x x1 O) h4)
  refine Y ?_;refine⟨(⟨b0-a0-(a+d-(q9+1)),O⟩,(tF,(q9+1,a+d),iE,_,t9)),?_,⟨(oK.trans m8).trans u6,uC,x6,?_⟩,V,trivial,rfl⟩
  ·show b0-a0-(b0-a0-(a+d-(q9+1)))<b0-a0-t;omega
  show a+d-(q9+1)+(b0-a0-(a+d-(q9+1)))=b0-a0;omega
 refine Y ?_;refine Za (vs:=[.slice (some ⟨r,0,none⟩) n cap,vi (q9+1:Nat),vi (a+d:Nat),vi iE]) rfl (ih (a+d-(q9+1)) O (q9+1) (a+d) iE c9 H9 (aC _) m8.at_ O O mC x6 (.inr λk k1 k2=>e4 k O k2)) ?_;rintro v GS ⟨tF,u6,lD,tZ⟩;have out:∀k,k<=q9->el tF k=el c9 k:=λk hk=>lD.out O (.inl O);have lo:∀k,q9+1<=k->k<a+d->el c9 q9<=el tF k:=lD.all O (p:=λv=>el c9 q9<=v) (λk k1 k2=>e4 k O k2);have uC:=(xL.step (lD.mono O (aC _)) O).right (q:=q9) e1 O (λx y x1 x2 x3=>by
  by_cases e:q9<x
  ·exact tZ x y O x2 x3
  ·have ex:x=q9:=O;subst ex;by_cases ey:y=x
   ·subst ey;exact qAy _
   rw[out x (aC _)];exact lo y O x3) (λx y x1 x2 x3 x4=>by
  rw[out x O];have h3:=e3 x x1 x2;by_cases ey:y=q9
  ·subst ey;rw[out y (aC _)];exact h3
  exact qBz h3 (lo y O x4))
 refine Y ?_;refine⟨(⟨b0-a0-(q9-a),O⟩,(tF,(a,q9),iE,_,t9)),?_,⟨(oK.trans m8).trans u6,uC,x6,?_⟩,V,trivial,rfl⟩
 ·show b0-a0-(b0-a0-(q9-a))<b0-a0-t;omega
 show q9-a+(b0-a0-(q9-a))=b0-a0;omega
end
def uK(x:Int):List Int->List Int
 | []=>[x]
 | y :: r=>if x<=y then x :: y :: r else y :: uK x r
def yO:List Int->List Int
 | []=>[]
 | x :: r=>uK x (yO r)
theorem Pe(x:Int):∀l,(uK x l).Perm (x :: l)
 | []=>.refl _
 | y :: r=>by
  rw[uK];split
  ·exact .refl _
  exact((Pe x r).cons y).trans (.swap x y r)
theorem Bt:∀l,(yO l).Perm l
 | []=>.refl _
 | x :: r=>(Pe x (yO r)).trans ((Bt r).cons x)
theorem Zl8(x:Int):∀{l:List Int},l.Pairwise (·<=·)->(uK x l).Pairwise (·<=·)
 | [],_=>by simp[uK]
 | y :: r,h=>by
  rw[uK];split
  ·rename_i NS;refine qCn.2 ⟨λz hz=>?_,h⟩;rcases qAp.1 hz with rfl | hz
   ·exact NS
   exact qBz NS ((qCn.1 h).1 z hz)
  rename_i NS;obtain⟨h1,h2⟩:=qCn.1 h;refine qCn.2 ⟨λz hz=>?_,Zl8 x h2⟩;rcases qAp.1 ((Pe x r).mem_iff.1 hz)with rfl | hz
  ·omega
  exact h1 z hz
theorem Zg9:∀l,(yO l).Pairwise (·<=·)
 | []=>.nil
 | x :: r=>Zl8 x (Zg9 r)
theorem ZoR{l':List Int}(h:l.Perm l')(h1:l.Pairwise (·<=·))(h2:l'.Pairwise (·<=·)):l=l':=
 h.eq_of_pairwise (le:=(·<=·)) (λa b _ _ x y=>Int.le_antisymm x y) h1 h2
theorem Zhi(h:So 0 l.length l):l.Pairwise (·<=·):=by rw[qBK];intro i j hi hj nU;have:=h i j (qAR _) O hj;rwa [Uu hi,Uu hj]at this
section
variable{P:bF}[Tz P][Loud P]{H:Hp}
theorem ZyT{H0:Hp}{v:Value}{bb:Option Nat}(hi:bO H0 H)(ho:fZ H0 H 3 v l bb)(dG:l≠[])(hl:l.length<=60000) :
  LL.Zc P 87 #[v] H λ_ H'=>bO H0 H'/\fZ H0 H' 3 v (yO l) bb:=by
 have BP:=ho.fresh;obtain⟨h0,⟨h1,h2,h3⟩ | ⟨r,cap,rest,rfl,rfl,h3,h4,h5⟩⟩:=ho.own
 ·exact absurd (qAf h2) dG
 have BB:=BP r rfl;have T6:=Mv (m:=l.length) O;refine aO.m (cF Zyg) (args:=[.slice (some ⟨r,0,none⟩) l.length cap]) rfl ?_;unfold Zlz;refine Y ?_;refine Vr (dC tX) (dC O3) rfl ?_;rw[VY (m:=l.length) O];refine Y ?_;refine Za (vs:=[.int .u64 l.length]) rfl (RK O) ?_;rintro w _ ⟨rfl,rfl⟩;refine Y ?_;refine Za (vs:=[.slice (some ⟨r,0,none⟩) l.length cap,vi (0:Nat),vi l.length,vi (fS l.length:Nat)]) rfl (ZsM (rest:=rest) hl l.length 0 l.length (fS l.length) l H O h3 rfl (qAR _) (aC _) O (.inl rfl)) ?_;rintro w H1 ⟨l',ar,rg,so⟩;have oG:=rg.len;have hsr:l'=yO l:=ZoR ((rg.perm (aC _)).trans (Bt l).symm) (Zhi (by rw[oG];exact so)) (Zg9 l);have e:(yO l).length=l.length:=(Bt l).length_eq;subst hsr;refine Y ?_;refine⟨ar.bA hi BB,⟨by rw[VR];show _=(yO l).length * 1;omega,.inr ⟨r,cap,rest,rfl,by rw[e],ar.at_,?_,by rw[e];exact h5⟩⟩,BP⟩;rw[qAc,VR,e];rw[qAc,VR]at h4;exact h4
theorem SO{a b:List Value}{off:Nat}{vs:List Value}(h:a.length=n):ZH (a++b) (n+off) vs=a++ZH b off vs:=by
 subst h;unfold ZH;rw[List.take_append,qDf,qBA O,qBr O];simp only[qBy,qAx];congr 3
 ·congr 1;omega
 congr 1;omega
theorem YM{H:Hp}{a:Addr}{cs ds:List Value}(h:aD H a (cs++ds)):aD H a cs:=by obtain⟨h1,o,p,h2,h3⟩:=h;refine⟨h1,o,p,h2,λj hj=>?_⟩;rw[h3 j (by rw[qAc];omega),qAN hj]
theorem add_zero(a:Addr):a.add 0=a:=by unfold Addr.add;simp
theorem Rn:Ym Tryz.prog 36=some (2,some (.agg #[vi 0,vi 0]),16):=U
end
def YL(a b:Int):Int:=if a<b then -1 else if b<a then 1 else 0
def VI:List Int->List Int->Int
 | [],[]=>0
 | [],_ :: _=>-1
 | _ :: _,[]=>1
 | x :: a,y :: b=>if YL x y≠0 then YL x y else VI a b
section
variable{P:bF}[Tz P][Loud P]{H:Hp}
theorem ZvI(m n:Int):LL.Zc P 162 #[vi m,vi n] H λv H'=>H=H'/\v=vi (YL m n):=by
 refine aO.m (cF Zwa) (args:=[vi m,vi n]) rfl ?_;unfold Zjt;refine Y ?_;refine Za (vs:=[vi m]) rfl (Pg m) ?_;rintro v _ ⟨rfl,rfl⟩;refine Y ?_;refine Za (vs:=[vi n]) rfl (Pg n) ?_;rintro v _ ⟨rfl,rfl⟩;refine Y ?_;refine OI (λh1=>?_) (λh1=>?_)
 ·refine Y ?_;exact⟨rfl,by rw[YL,iO h1];rfl⟩
 refine Y ?_;refine OI (λh2=>?_) (λh2=>?_)
 ·refine Y ?_;exact⟨rfl,by rw[YL,bY h1,iO h2];rfl⟩
 refine Y ?_;exact⟨rfl,by rw[YL,bY h1,bY h2];rfl⟩
theorem ZnI{u w:Value}{a b:List Int}(ha:aV H u a)(hb:aV H w b)(hl:a.length<=1000000)(C1:b.length<=1000000)(bB:P.still H.gh=false):LL.Zc P 117 #[u,w] H λv H'=>H=H'/\v=vi (VI a b):=by
 refine aO.m (cF Zwp) (args:=[u,w]) rfl ?_;unfold ZjI;refine Y ?_;refine YD ha rfl (Y ?_);refine Zw a.length (λj H'=>H=H'/\j<=b.length/\VI a b=VI (a.drop j) (b.drop j)) (λj=>[(0,u),(1,w),(9,u),(10,vi a.length),(11,vi j)]) (λ_=>[]) ⟨rfl,qAR _,rfl⟩ V trivial ?_;rintro j _ hj ⟨rfl,IP,dY⟩;refine Y ?_;refine OI (λh1=>?_) (λh1=>?_)
 ·have cH:j<a.length:=O;rw[JZ cH]at dY;refine Y ?_;refine Zx ha rfl rfl rfl (i:=j) cH λp hp=>Y ?_;refine Zg bB rfl hp (Y ?_);refine YD hb rfl (Y ?_);refine OI (λh2=>?_) (λh2=>?_)
  ·refine Y ?_;have:b.drop j=[]:=qBr O;rw[this]at dY;exact⟨rfl,by rw[dY];rfl⟩
  have oX:j<b.length:=O;rw[JZ oX,VI]at dY;refine Y ?_;refine Zx hb rfl rfl rfl (i:=j) oX λq hq=>Y ?_;refine Zg bB rfl hq (Y ?_);refine Za (vs:=[vi a[j],vi b[j]]) rfl (ZvI _ _) ?_;rintro v _ ⟨rfl,rfl⟩;refine Y ?_;refine OI (λh3=>?_) (λh3=>?_)
  ·refine Y ?_;rw[iO h3]at dY;exact⟨rfl,by rw[dY];rfl⟩
  refine Y ?_;rw[bY (by simpa using h3)]at dY;exact⟨⟨j+1,O⟩,dX O,⟨rfl,oX,dY⟩,V,trivial,rfl⟩
 have:j=a.length:=O;subst this;rw[qDe]at dY;refine Y ?_;refine YD ha rfl (Y ?_);refine YD hb rfl (Y ?_);refine OI (λh2=>?_) (λh2=>?_)
 ·refine Y ?_;rw[JZ (l:=b) (j:=a.length) O]at dY;exact⟨rfl,by rw[dY];rfl⟩
 refine Y ?_;rw[qBr O]at dY;exact⟨rfl,by rw[dY];rfl⟩
end
