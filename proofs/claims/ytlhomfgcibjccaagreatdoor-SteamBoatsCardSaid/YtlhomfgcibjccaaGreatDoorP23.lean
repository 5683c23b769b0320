import Derived.Test.YtlhomfgcibjccaaGreatDoorP22
set_option linter.all false
set_option maxHeartbeats 2000000
set_option maxRecDepth 100000
open Go Go.LL
namespace Go.Proofs
variable{G:Prop}{r cap a b n i m q a0 b0:Nat}{l c c':List Int}{rest:List Value}
def ZhZ(h:G:=by refine Y ?_;exact⟨(⟨t0+1,O⟩,(c3,i)),bN O,⟨jS,DT,by show a+1<=i;omega,by show i<=b;omega,MD⟩,V,trivial,rfl⟩):G:=h
section
variable{P:aX}[Tz P][Loud P]{H:Hp}
def ZpK(u:H r=some (.cells (Zb l++rest).toArray 3 (0,0),true))(I:l.length=n)(w:a<b)(hb:b<=n)(F:n<=1000000) :
  LL.Zc P 175 #[.slice (some ⟨r,0,none⟩) n cap,vi a,vi b] H λv f=>∃p,AR H f r p rest/\Rg a b l p:=by
 refine aJ.m (bG Zv2) (args:=[.slice (some ⟨r,0,none⟩) n cap,vi a,vi b]) rfl ?_;unfold Zjp;refine Y ?_;refine ZO (α:=List Int) b (λt c f=>AR H f r c rest/\Rg a b l c) (λt c=>[(0,.slice (some ⟨r,0,none⟩) n cap),(6,vi ((a+t:Nat):Int)),(7,vi ((b:Int)-1-(t:Nat)))]) (λ_ _=>[]) l ⟨AR.of u,.refl l⟩ ⟨rfl,rfl,?_,trivial⟩ trivial ?_
 ·show some (vi _)=some (vi _);congr 2;omega
 rintro t c C J ⟨e,o⟩;have z:=o.len;refine OJ (λs=>?_) (λs=>?_)
 ·obtain⟨j,B⟩:∃j:Nat,(b:Int)-1-(t:Nat)=(j:Int):=⟨b-1-t,O⟩;rw[B];have A:a+t<j:=O;have k:j<b:=O;refine Y ?_;refine Zd j rfl rfl O O (Y ?_);refine Zh (Loud.aV _) rfl (AR.cA e O rfl) (Y ?_);refine Zd (a+t) rfl rfl O O (Y ?_);refine Zh (Loud.aV _) rfl (AR.cA e O rfl) (Y ?_);refine Zd (a+t) rfl rfl O O (Y ?_);refine ZS e O (ZK _ _) rfl rfl λE h=>?_;refine Zp Loud.aV (Y ?_);refine Zd j rfl rfl O O (Y ?_);refine ZS h (by rw[qAg];omega) (ZK _ _) rfl rfl λD g=>Y ?_;refine⟨(⟨t+1,O⟩,dS c (a+t) j),bN O,⟨g,.step _ _ o O O O k⟩,⟨rfl,rfl,?_,trivial⟩,trivial,rfl⟩;show some (vi ((j:Int)-1))=some (vi ((b:Int)-1-((t+1:Nat):Int)));congr 2;omega
 refine Y ?_;exact⟨c,e,o⟩
def C6(a b:Nat)(c:List Int):Prop:=a=0\/∀k,a<=k->k<b->el c (a-1)<=el c k
def C6.rg(h:C6 a b c)(rg:Rg a b c c')(hb:b<=c.length):C6 a b c':=by
 rcases h with h | h
 ·exact .inl h
 by_cases e:a=0
 ·exact .inl e
 right;rw[rg.out hb (.inl O)];exact rg.all hb (p:=λv=>el c (a-1)<=v) h
def ZsB(hA:H r=some (.cells (Zb l++rest).toArray 3 (0,0),true))(hn:l.length=n)(CP:a<b)(hb:b<=n)(hl:n<=1000000)(lw:C6 a b l) :
  LL.Zc P 176 #[.slice (some ⟨r,0,none⟩) n cap,vi a,vi b] H λv o=>∃(l':List Int) (t:Bool),AR H o r l' rest/\Rg a b l l'/\v=vb t/\(t=true->So a b l'):=by
 refine aJ.m (bG Zv1) (args:=[.slice (some ⟨r,0,none⟩) n cap,vi a,vi b]) rfl ?_;unfold Zjo;refine Y ?_;refine ZO (α:=List Int×Nat) 5 (λt s o=>AR H o r s.1 rest/\Rg a b l s.1/\a+1<=s.2/\s.2<=b/\So a s.2 s.1) (λt s=>[(0,.slice (some ⟨r,0,none⟩) n cap),(1,vi a),(2,vi b),(7,vi (s.2:Nat)),(8,vi (t:Nat))]) (λ_ _=>[]) (l,a+1) ⟨AR.of hA,.refl l,dO _,by show a+1<=b;omega,Un l (dO _)⟩ V trivial ?_;rintro t0 ⟨c,p⟩ H1 D4 ⟨B,F,FK,S4,so⟩;simp only at B F FK S4 so;have jQ:=F.len;refine OJ (λg1=>?_) (λg1=>?_)
 ·refine OB ?_;refine Z9 ?_;refine OB ?_;refine Z2 (λ(i:Nat) o=>H1=o/\p<=i/\i<=b/\So a i c/\(i=b\/el c i<el c (i-1))) (λi=>[(0,.slice (some ⟨r,0,none⟩) n cap),(1,vi a),(2,vi b),(7,vi (i:Nat)),(8,vi (t0:Nat))]) (λ_=>[]) ?_ ?_
  ·refine Y ?_;refine Zv (b-p) (λt o=>H1=o/\So a (p+t) c) (λt=>[(0,.slice (some ⟨r,0,none⟩) n cap),(1,vi a),(2,vi b),(7,vi (p+t:Nat)),(8,vi (t0:Nat))]) (λ_=>[]) ⟨rfl,so⟩ V trivial ?_;rintro t _ ht ⟨rfl,J⟩;refine OJ (λU=>?_) (λU=>?_)
   ·refine Y ?_;refine Zd (p+t) rfl rfl rfl O (Y ?_);refine Zh (OL _) rfl (B.cA O rfl) (Y ?_);refine Zd (p+t-1) rfl rfl O O (Y ?_);refine Zh (OL _) rfl (B.cA O rfl) (Y ?_);refine Za [vi (el c (p+t)),vi (el c (p+t-1))] (VM _ _) ?_;rintro w _ ⟨rfl,rfl⟩;refine OJ (λW=>?_) (λW=>?_)
    ·refine Y ?_;refine⟨⟨t+1,O⟩,bN O,⟨rfl,?_⟩,V,trivial,rfl⟩;refine V5 λx K L=>?_;have L:x+1<p+(t+1):=L;by_cases e:x+1=p+t
     ·rw[e,show x=p+t-1 by omega];omega
     exact J x (x+1) K O O
    refine Y ?_;exact⟨p+t,⟨rfl,O,O,J,.inr O⟩,V,trivial,rfl⟩
   refine Y ?_;exact⟨p+t,⟨rfl,O,O,J,.inl O⟩,V,trivial,rfl⟩
  rintro i _ ⟨rfl,hi3,uS,T,st⟩;refine OB ?_;refine Z9 ?_;refine OB ?_;refine OI (λg2=>?_) (λg2=>?_)
  ·have:i=b:=O;subst this;refine Y ?_;exact⟨c,true,B,F,rfl,λ_=>T⟩
  have hib:i<b:=O;refine OB ?_;refine Z9 ?_;refine OB ?_;refine OI (λg3=>?_) (λg3=>?_)
  ·refine Y ?_;exact⟨c,false,B,F,rfl,λh=>by simp at h⟩
  refine OB ?_;refine Zd (i-1) rfl rfl O O (Y ?_);refine Zh (Loud.aV _) rfl (AR.cA B O rfl) (Y ?_);refine Zd i rfl rfl O O (Y ?_);refine Zh (Loud.aV _) rfl (AR.cA B O rfl) (Y ?_);refine Zd i rfl rfl O O (Y ?_);refine ZS B O (ZK _ _) rfl rfl λHW u=>?_;refine Zp Loud.aV (Y ?_);refine Zd (i-1) rfl rfl O O (Y ?_);refine ZS u (by rw[qAg];omega) (ZK _ _) rfl rfl λH4 C=>?_;have pB:(c.set i (el c (i-1))).set (i-1) (el c i)=dS c i (i-1):=rfl;rw[pB]at C;have I:Rg a b l (dS c i (i-1)):=.step _ _ F O O O O;have M:∀x,x<i-1->el (dS c i (i-1)) x=el c x:=λx D=>by rw[Yh _ O O,aT O,aT O]
  generalize dS c i (i-1)=c1 at *;have NX:=I.len;refine OB ?_;refine Z2 (λ(c2:List Int) o=>AR H o r c2 rest/\Rg a b l c2/\So a i c2) (λ_=>[(0,.slice (some ⟨r,0,none⟩) n cap),(1,vi a),(2,vi b),(7,vi (i:Nat)),(8,vi (t0:Nat))]) (λ_=>[]) ?_ ?_
  ·refine OB ?_;refine OI (λg4=>?_) (λg4=>?_)
   ·have g4:a+2<=i:=O;refine Y ?_;refine ZO (α:=List Int) (i-1) (λt c2 o=>AR H o r c2 rest/\Rg a b l c2/\a<=i-1-t/\(∀x y,a<=x->x<=y->y<i->x≠i-1-t->y≠i-1-t->el c2 x<=el c2 y)/\(∀y,i-1-t<y->y<i->el c2 (i-1-t)<=el c2 y)) (λt _=>[(0,.slice (some ⟨r,0,none⟩) n cap),(1,vi a),(2,vi b),(7,vi (i:Nat)),(8,vi (t0:Nat)),(9,vi (i-1-t:Nat))]) (λ_ _=>[]) c1 ⟨C,I,O,?_,λy y1 y2=>O⟩ ⟨rfl,rfl,rfl,rfl,rfl,?_,trivial⟩ trivial ?_
    ·intro x y K L x3 x4 x5;rw[M x O,M y O];exact T x y K L O
    ·show some (vi ((i:Int)-1))=some (vi ((i-1-0:Nat):Int));congr 2;omega
    rintro t c2 H5 ht ⟨f,g,Fg,k,E⟩;have NW:=g.len;have Dj:=lw.rg g O;obtain⟨j,hj⟩:∃j,i-1-t=j:=⟨_,rfl⟩;rw[hj]at Fg k E ⊢;have N:(a<j->el c2 (j-1)<=el c2 j)->So a i c2:=λhh=>V5 λx K L=>by
     by_cases e1:x=j
     ·subst e1;exact E _ O O
     by_cases e2:x+1=j
     ·subst e2;exact hh O
     exact k _ _ K O O e1 e2
    refine OJ (λU=>?_) (λU=>?_)
    ·refine Y ?_;refine Zd j rfl rfl rfl O (Y ?_);refine Zh (OL _) rfl (f.cA O rfl) (Y ?_);refine Zd (j-1) rfl rfl O O (Y ?_);refine Zh (OL _) rfl (f.cA O rfl) (Y ?_);refine Za [vi (el c2 j),vi (el c2 (j-1))] (VM _ _) ?_;rintro w _ ⟨rfl,rfl⟩;refine OJ (λW=>?_) (λW=>?_)
     ·refine Y ?_;exact⟨c2,⟨f,g,N λ_=>O⟩,V,trivial,rfl⟩
     have haj:a<j:=by
      refine qAd λhh=>?_;have R:j=a:=O;rcases Dj with h | h
      ·omega
      have:=h j O O;rw[<-R]at this;omega
     refine Y ?_;refine Zd (j-1) rfl rfl O O (Y ?_);refine Zh (Loud.aV _) rfl (AR.cA f O rfl) (Y ?_);refine Zd j rfl rfl O O (Y ?_);refine Zh (Loud.aV _) rfl (AR.cA f O rfl) (Y ?_);refine Zd j rfl rfl O O (Y ?_);refine ZS f O (ZK _ _) rfl rfl λHW u=>?_;refine Zp Loud.aV (Y ?_);refine Zd (j-1) rfl rfl O O (Y ?_);refine ZS u (by rw[qAg];omega) (ZK _ _) rfl rfl λH6 jS=>Y ?_;have z:∀x,x≠j-1->el (dS c2 j (j-1)) x=if x=j then el c2 (j-1)else el c2 x:=λx D=>by rw[Yh _ O O,aT D]
     have Q:el (dS c2 j (j-1)) (j-1)=el c2 j:=by rw[Yh _ O O,iF rfl]
     have S:i-1-(t+1)=j-1:=O;refine⟨(⟨t+1,O⟩,dS c2 j (j-1)),(by show i-1-(t+1)<j;omega),⟨jS,.step _ _ g O O O O,?_,?_,?_⟩,⟨rfl,rfl,rfl,rfl,rfl,?_,trivial⟩,trivial,rfl⟩
     ·show a<=i-1-(t+1);omega
     ·show ∀x y,a<=x->x<=y->y<i->x≠i-1-(t+1)->y≠i-1-(t+1)->_;intro x y X h2 h3 h4 h5;rw[S]at h4 h5;rw[z x h4,z y h5];by_cases D:x=j
      ·rw[iF D];by_cases A:y=j
       ·rw[iF A];exact qAx _
       rw[aT A];exact k _ _ O O h3 O A
      rw[aT D];by_cases A:y=j
      ·rw[iF A];exact k _ _ X O O D O
      rw[aT A];exact k _ _ X h2 h3 D A
     ·show ∀y,i-1-(t+1)<y->y<i->el (dS c2 j (j-1)) (i-1-(t+1))<=_;intro y X h2;rw[S]at X ⊢;rw[Q,z y O];by_cases A:y=j
      ·rw[iF A];omega
      rw[aT A];exact E _ O h2
     show some (vi ((j:Int)-1))=some (vi ((i-1-(t+1):Nat):Int));congr 2;omega
    refine Y ?_;exact⟨c2,⟨f,g,N λh=>O⟩,V,trivial,rfl⟩
   refine Y ?_;exact⟨c1,⟨C,I,Un _ O⟩,V,trivial,rfl⟩
  rintro c2 H5 ⟨f,g,k⟩;have NW:=g.len;refine OB ?_;refine OI (λg5=>?_) (λg5=>?_)
  ·refine Y ?_;refine ZO (α:=List Int) b (λt c3 o=>AR H o r c3 rest/\Rg a b l c3/\So a i c3) (λt _=>[(0,.slice (some ⟨r,0,none⟩) n cap),(1,vi a),(2,vi b),(7,vi (i:Nat)),(8,vi (t0:Nat)),(10,vi (i+1+t:Nat))]) (λ_ _=>[]) c2 ⟨f,g,k⟩ V trivial ?_;rintro t c3 H6 ht ⟨jS,DT,MD⟩;have Gg:=DT.len;refine OJ (λU=>?_) (λU=>?_)
   ·refine Y ?_;refine Zd (i+1+t) rfl rfl rfl O (Y ?_);refine Zh (OL _) rfl (jS.cA O rfl) (Y ?_);refine Zd (i+t) rfl rfl O O (Y ?_);refine Zh (OL _) rfl (jS.cA O rfl) (Y ?_);refine Za [vi (el c3 (i+1+t)),vi (el c3 (i+t))] (VM _ _) ?_;rintro w _ ⟨rfl,rfl⟩;refine OJ (λW=>?_) (λW=>?_)
    ·exact ZhZ
    refine Y ?_;refine Zd (i+t) rfl rfl O O (Y ?_);refine Zh (Loud.aV _) rfl (AR.cA jS O rfl) (Y ?_);refine Zd (i+1+t) rfl rfl O O (Y ?_);refine Zh (Loud.aV _) rfl (AR.cA jS O rfl) (Y ?_);refine Zd (i+1+t) rfl rfl O O (Y ?_);refine ZS jS O (ZK _ _) rfl rfl λHW u=>?_;refine Zp Loud.aV (Y ?_);refine Zd (i+t) rfl rfl O O (Y ?_);refine ZS u (by rw[qAg];omega) (ZK _ _) rfl rfl λH8 Z=>Y ?_;refine⟨(⟨t+1,O⟩,dS c3 (i+1+t) (i+t)),bN O,⟨Z,.step _ _ DT O O O O,?_⟩,V,trivial,rfl⟩;intro x y K L x3;rw[Yh _ O O,Yh _ O O,aT O,aT O,aT O,aT O];exact MD x y K L x3
   exact ZhZ
  refine Y ?_;exact⟨(⟨t0+1,O⟩,(c2,i)),bN O,⟨f,g,by show a+1<=i;omega,by show i<=b;omega,k⟩,V,trivial,rfl⟩
 refine Y ?_;exact⟨c,false,B,F,rfl,λh=>by simp at h⟩
end
def sB:ByteArray:=.mk #[0,1,2,2,3,3,3,3,4,4,4,4,4,4,4,4,5,5,5,5,5,5,5,5,5,5,5,5,5,5,5,5,6,6,6,6,6,6,6,6,6,6,6,6,6,6,6,6,6,6,6,6,6,6,6,6,6,6,6,6,6,6,6,6,7,7,7,7,7,7,7,7,7,7,7,7,7,7,7,7,7,7,7,7,7,7,7,7,7,7,7,7,7,7,7,7,7,7,7,7,7,7,7,7,7,7,7,7,7,7,7,7,7,7,7,7,7,7,7,7,7,7,7,7,7,7,7,7,8,8,8,8,8,8,8,8,8,8,8,8,8,8,8,8,8,8,8,8,8,8,8,8,8,8,8,8,8,8,8,8,8,8,8,8,8,8,8,8,8,8,8,8,8,8,8,8,8,8,8,8,8,8,8,8,8,8,8,8,8,8,8,8,8,8,8,8,8,8,8,8,8,8,8,8,8,8,8,8,8,8,8,8,8,8,8,8,8,8,8,8,8,8,8,8,8,8,8,8,8,8,8,8,8,8,8,8,8,8,8,8,8,8,8,8,8,8,8,8,8,8,8,8,8,8,8,8]
def Oj(m:Nat):Nat:=if m=0 then 0 else Nat.log2 m+1
def Zt1:(List.range 256).all (λi=>match sB[i]? with | some b=>b.toNat == Oj i | none=>false)=true:=U
def ZlJ(h:i<256):∃b,sB[i]? = some b/\b.toNat=Oj i:=by
 have:=IN.1 Zt1 i (qAl.2 h);split at this
 ·exact⟨_,‹_›,by simpa using this⟩
 simp at this
def u9:Tryz.prog.underlying 9=some .string:=U
def ZgJ:Tryz.prog.underlying 189=some (.int .u64):=U
def O2:Tryz.prog.underlying 176=some (.int .u64):=U
def u5:Tryz.prog.underlying 5=some (.int .u8):=U
section
variable{P:aX}[Tz P]{H:Hp}{d:Option Nat}{next:aM->Hp->Prop}{σ:aM}{x y:Operand}
def ZiG{t:TypeId}{o:TypeId}{k:IntKind}{s:ByteArray}{b:UInt8}(j:P.toProgram.underlying t=some .string)(e:σ.get x=some (.string s))(f:σ.get y=some (.int k (i:Int)))(hb:s[i]? = some b)
  (h:next (σ.set d (.int .u8 b.toNat)) H):(bE.raw (.index t x y) o).m P d next σ H:=by
 refine YS (by simp[Op.operands,e,f]) (s:=Instr.index t (.string s) (.int k (i:Int))) (by simp[execOp,aR,e,f]) ?_;have g:(0:Int)<=(i:Int):=O;simp only[Instr.index,Zg,asIntOf,Zj,Zw j,iF g,qAD,hb];exact h
end
section
variable{P:aX}[Tz P]{H:Hp}
def Zgv(h:m<256):IntKind.u8.wrap (m:Int)=(m:Int):=by simp only[IntKind.wrap,IntKind.bits,IntKind.signed,qDk,DO,qAw];omega
def VZ(h:m<18446744073709551616):IntKind.u64.wrap (m:Int)=(m:Int):=by simp only[IntKind.wrap,IntKind.bits,IntKind.signed,qDk,DO,qAw];omega
def ZyM(t:m<65536):LL.Zc P 181 #[.int .u64 m] H λv o=>H=o/\v=vi (if m<256 then Oj m else 8+Oj (m / 256):Nat):=by
 refine aJ.m (bG ZvX) (args:=[.int .u64 m]) rfl ?_;unfold Zjk;refine OJ (λj=>?_) (λj=>?_)
 ·exact absurd j O
 refine OJ (λk=>?_) (λk=>?_)
 ·exact absurd k O
 refine OJ (λp=>?_) (λp=>?_)
 ·have f:m / 256<256:=O;obtain⟨b,hb,e⟩:=ZlJ f;have h:Zy .shr .u64 (m:Int) 8=.int .u64 ((m / 256:Nat):Int):=by show Value.int .u64 ((m:Int).fdiv 256)=_;rw[qCS _ O];rfl
  have g:b.toNat<=255:=by have:=b.toNat_lt;omega
  refine Y ?_;refine I4 rfl rfl (.inl rfl) O h (Y ?_);refine Vs (bI ZgJ) (bI u5) rfl ?_;rw[Zgv f];refine Y ?_;refine ZiG (s:=sB) (bI u9) rfl rfl hb (Y ?_);refine Vs (bI u5) (bI uZ) rfl ?_;rw[Uk ⟨O,O⟩];refine Y ?_;refine⟨rfl,?_⟩;rw[aT O,<-e];show vi _=vi _;congr 1
 have f:m<256:=O;obtain⟨b,hb,e⟩:=ZlJ f;have g:b.toNat<=255:=by have:=b.toNat_lt;omega
 refine Y ?_;refine Vs (bI ZgJ) (bI u5) rfl ?_;rw[Zgv f];refine Y ?_;refine ZiG (s:=sB) (bI u9) rfl rfl hb (Y ?_);refine Vs (bI u5) (bI uZ) rfl ?_;rw[Uk ⟨O,O⟩];refine Y ?_;refine⟨rfl,?_⟩;rw[iF f,<-e];show vi _=vi _;congr 1;omega
def fR(m:Nat):Nat:=if m<256 then Oj m else 8+Oj (m / 256)
def P7(f:m<65536):LL.Zc P 141 #[.int .u64 m] H λv e=>H=e/\v=vi (fR m:Nat):=by refine aJ.m (bG Zwg) (args:=[.int .u64 m]) rfl ?_;unfold ZjD;refine Y ?_;refine ZW (vs:=[.int .u64 m]) rfl (ZyM f) ?_;rintro v _ ⟨rfl,rfl⟩;refine Y ?_;exact⟨rfl,rfl⟩
def Kl(g:m<65536):fR m<=16:=by
 unfold fR Oj;have f:∀x,x<256->Nat.log2 x<=7:=λx h=>by
  by_cases e:x=0
  ·subst e;decide
  have:=(Nat.log2_lt e (k:=8)).2 O;omega
 split
 ·split
  ·omega
  have:=f m ‹_›;omega
 split
 ·omega
 have:=f (m / 256) O;omega
end
def QN(n:Int):∃y:Nat,y<18446744073709551616/\IntKind.u64.wrap n=(y:Int):=by simp only[IntKind.wrap,IntKind.bits,IntKind.signed,qDk,DO,qAw];exact⟨(n % 2 ^ 64).toNat,O,O⟩
def ZgG:Tryz.prog.underlying 251=some (.int .u64):=U
def O3:Yl Tryz.prog 251=some (1,some (.int .u64 0),8):=U
def Zm7(h:1<=m):2 ^ Oj m<=2 * m:=by unfold Oj;rw[aT O,qDA];have:=Nat.log2_self_le (n:=m) O;omega
def ZlK(h:1<=m):2 ^ fR m<=2 * m:=by
 unfold fR;split
 ·exact Zm7 h
 have:=Zm7 (m:=m / 256) O;rw[Nat.pow_add];omega
section
variable{P:aX}[Tz P][Loud P]{H:Hp}
def Zie(f:m<65536):LL.Zc P 220 #[vi m] H λv g=>H=g/\v=.int .u64 ((2 ^ fR m:Nat):Int):=by
 have h:=Kl f;have j:2 ^ fR m<=2 ^ 16:=qBz (by decide) h;have e:Zy .shl .u64 1 (fR m:Nat)=.int .u64 ((2 ^ fR m:Nat):Int):=by show Value.int .u64 (IntKind.u64.wrap (1 * 2 ^ min ((fR m:Nat):Int).toNat 64))=_;rw[qAD,qCr O,Int.one_mul,show(2:Int) ^ fR m=((2 ^ fR m:Nat):Int)by simp,VZ O]
 refine aJ.m (bG ZvR) (args:=[vi m]) rfl ?_;unfold Zje;refine Y ?_;refine Vs (bI uZ) (bI O2) rfl ?_;rw[VZ O];refine Y ?_;refine ZW (vs:=[.int .u64 m]) rfl (P7 f) ?_;rintro v _ ⟨rfl,rfl⟩;refine Y ?_;refine I4 rfl rfl (.inr rfl) O e (Y ?_);exact⟨rfl,rfl⟩
def Zi1{e y:Nat}(T:H e=some (.cells #[.int .u64 y] 251 (0,0),true)):LL.Zc P 221 #[pt e] H λv K=>∃z:Nat,z<18446744073709551616/\v=.int .u64 z/\K e=some (.cells #[.int .u64 z] 251 (0,0),true)/\∀b x,b≠e->H b=some x->K b=some x:=by refine aJ.m (bG ZvQ) (args:=[pt e]) rfl ?_;unfold Zjd;have h:=T;obtain⟨L,Q,B⟩:=QN ((y:Int) * 2 ^ 13);have o:Zy .shl .u64 (y:Int) 13=.int .u64 (L:Int):=qBc (Value.int .u64) B;obtain⟨f,U,E⟩:=QN (((BitVec.ofInt IntKind.u64.bits (y:Int) ^^^ BitVec.ofInt IntKind.u64.bits (L:Int)).toNat:Nat):Int);refine Y ?_;refine VE rfl (Y ?_);refine Zh (OL _) rfl (ZA (cs:=[.int .u64 y]) h) (Y ?_);refine VE rfl (Y ?_);refine Zh (OL _) rfl (ZA (cs:=[.int .u64 y]) h) (Y ?_);refine I4 rfl rfl (.inr rfl) O o (Y ?_);refine LD (v:=.int .u64 (f:Int)) rfl rfl (.inr (.inr (.inl rfl))) (qBc (Value.int .u64) E) (Y ?_);refine VE rfl (Y ?_);refine Vq (cD O3) rfl rfl h rfl rfl (OL _) ?_;have j:(H.ins e (.cells #[.int .u64 (f:Int)] 251)) e=some (.cells #[.int .u64 (f:Int)] 251 (0,0),true):=Hp.aG _ _ _;obtain⟨M,C⟩:∃w:Int,(f:Int).fdiv (2 ^ 7)=w:=⟨_,rfl⟩;have p:Zy .shr .u64 (f:Int) 7=.int .u64 M:=qBc (Value.int .u64) C;obtain⟨g,V,F⟩:=QN (((BitVec.ofInt IntKind.u64.bits (f:Int) ^^^ BitVec.ofInt IntKind.u64.bits (M:Int)).toNat:Nat):Int);refine Y ?_;refine VE rfl (Y ?_);refine Zh (OL _) rfl (ZA (cs:=[.int .u64 f]) j) (Y ?_);refine VE rfl (Y ?_);refine Zh (OL _) rfl (ZA (cs:=[.int .u64 f]) j) (Y ?_);refine I4 rfl rfl (.inl rfl) O p (Y ?_);refine LD (v:=.int .u64 (g:Int)) rfl rfl (.inr (.inr (.inl rfl))) (qBc (Value.int .u64) F) (Y ?_);refine VE rfl (Y ?_);refine Vq (cD O3) rfl rfl j rfl rfl (OL _) ?_;rw[Us];have k:(H.ins e (.cells #[.int .u64 (g:Int)] 251)) e=some (.cells #[.int .u64 (g:Int)] 251 (0,0),true):=Hp.aG _ _ _;obtain⟨N,R,D⟩:=QN ((g:Int) * 2 ^ 17);have s:Zy .shl .u64 (g:Int) 17=.int .u64 (N:Int):=qBc (Value.int .u64) D;obtain⟨A,J,I⟩:=QN (((BitVec.ofInt IntKind.u64.bits (g:Int) ^^^ BitVec.ofInt IntKind.u64.bits (N:Int)).toNat:Nat):Int);refine Y ?_;refine VE rfl (Y ?_);refine Zh (OL _) rfl (ZA (cs:=[.int .u64 g]) k) (Y ?_);refine VE rfl (Y ?_);refine Zh (OL _) rfl (ZA (cs:=[.int .u64 g]) k) (Y ?_);refine I4 rfl rfl (.inr rfl) O s (Y ?_);refine LD (v:=.int .u64 (A:Int)) rfl rfl (.inr (.inr (.inl rfl))) (qBc (Value.int .u64) I) (Y ?_);refine VE rfl (Y ?_);refine Vq (cD O3) rfl rfl k rfl rfl (OL _) ?_;rw[Us];have t:(H.ins e (.cells #[.int .u64 (A:Int)] 251)) e=some (.cells #[.int .u64 (A:Int)] 251 (0,0),true):=Hp.aG _ _ _;refine Y ?_;refine VE rfl (Y ?_);refine Zh (OL _) rfl (ZA (cs:=[.int .u64 (A:Int)]) t) (Y ?_);exact⟨A,J,rfl,t,λb x hb S=>by rw[Hp.aH _ _ hb];exact S⟩
end
def Wm(z M:Nat)(e:M<18446744073709551616):((BitVec.ofInt IntKind.u64.bits (z:Int) &&& BitVec.ofInt IntKind.u64.bits (M:Int)).toNat)<=M:=by rw[qDt];refine qAz Nat.and_le_right ?_;rw[qDD];simp only[IntKind.bits];omega
section
variable{P:aX}[Tz P][Loud P]{H:Hp}
def Zin{d:Option Nat}{next:aM->Hp->Prop}{σ:aM}{x y:Operand}{m n q:Int}(e:σ.get x=some (.int .u64 m))(f:σ.get y=some (.int .u64 n))(g:IntKind.u64.wrap (m-n)=q)(h:next (σ.set d (.int .u64 q)) H):(bE.aY .sub x y).m P d next σ H:=by subst g;exact Yc e f rfl h
def Zx0{k:Nat}(S:H r=some (.cells (Zb l++rest).toArray 3 (0,0),true))(hn:l.length=n)(hk:12<k)(hb:a+k<=n)(hl:n<=60000) :
  LL.Zc P 173 #[.slice (some ⟨r,0,none⟩) n cap,vi a,vi (a+k:Nat)] H λv p=>∃W,AR H p r W rest/\Rg a (a+k) l W:=by
 refine aJ.m (bG Zv4) (args:=[.slice (some ⟨r,0,none⟩) n cap,vi a,vi (a+k:Nat)]) rfl ?_;unfold Zjr;have ek:(((a+k:Nat):Int)-(a:Int))=(k:Int):=O;have B:((k:Int)).tdiv 4=((k / 4:Nat):Int):=by rw[qBX O];omega
 have SV:=ZlK (m:=k) O;refine Y ?_;rw[ek];refine OI (λR=>?_) (λR=>?_)
 ·refine Y ?_;refine Vs (bI uZ) (bI ZgG) rfl ?_;rw[VZ O];refine Y ?_;refine Vt (cD O3) (OL _) λg h=>?_;have T:g≠r:=by rintro rfl;rw[S]at h;simp at h
  refine Y ?_;refine Vq (cD O3) rfl rfl (Hp.aG _ _ _) rfl rfl (OL _) ?_;rw[Us];have D:=(AR.of S).new (o:=.cells #[.int .u64 (k:Int)] 251) h;have I:(H.ins g (.cells #[.int .u64 (k:Int)] 251)) g=some (.cells #[.int .u64 (k:Int)] 251 (0,0),true):=Hp.aG _ _ _;generalize H.ins g (.cells #[.int .u64 (k:Int)] 251)=H1 at *;refine Y ?_;refine Za [vi k] (Zie O) ?_;rintro v _ ⟨rfl,rfl⟩;generalize hM:2 ^ fR k=M at *;have hM0:1<=M:=by rw[<-hM];exact Nat.one_le_two_pow
  refine Y ?_;refine VD rfl rfl (by decide) (by rw[B];exact⟨O,O⟩) ?_;rw[B];refine Y ?_;refine V8 rfl rfl ⟨O,O⟩ (Y ?_);have Z:((a:Int)+((k / 4:Nat):Int) * 2-1)=((a+k / 4 * 2-1:Nat):Int):=O;rw[Z];refine ZO (α:=List Int×Nat) 3 (λt s p=>AR H p r s.1 rest/\Rg a (a+k) l s.1/\p g=some (.cells #[.int .u64 (s.2:Int)] 251 (0,0),true)) (λt _=>[(0,.slice (some ⟨r,0,none⟩) n cap),(1,vi a),(6,vi k),(7,pt g),(8,.int .u64 (M:Int)),(9,vi (a+k / 4 * 2-1+t:Nat))]) (λ_ _=>[]) (l,k) ⟨D,.refl l,I⟩ V trivial ?_;rintro t ⟨c,y⟩ H2 ht ⟨A,C,U⟩;simp only at A C U;have jQ:=C.len;refine Y ?_;refine VD rfl rfl (by decide) (by rw[B];exact⟨O,O⟩) ?_;rw[B];refine Y ?_;refine V8 rfl rfl ⟨O,O⟩ ?_;refine OJ (λg2=>?_) (λg2=>?_)
  ·refine Y ?_;refine Za [pt g] (Zi1 U) ?_;rintro v Q ⟨z,hz,rfl,L,w⟩;have u:AR H Q r c rest:=⟨λb x hb J=>by
    by_cases e:b=g
    ·subst e;rw[h]at J;simp at J
    exact w b x e (A.keep b x hb J),w r _ (qAF T) A.at_⟩
   have tD:=Wm z (M-1) O;generalize ho:(BitVec.ofInt IntKind.u64.bits (z:Int) &&& BitVec.ofInt IntKind.u64.bits ((M-1:Nat):Int)).toNat=o at *;refine Y ?_;refine Zin (q:=((M-1:Nat):Int)) rfl rfl (by rw[show(M:Int)-1=((M-1:Nat):Int)by omega,VZ O]) (Y ?_);refine LD (v:=.int .u64 (o:Int)) rfl rfl (.inl rfl) (by show Value.int .u64 (IntKind.u64.wrap _)=_;rw[ho,VZ O]) (Y ?_);refine Vs (bI O2) (bI uZ) rfl ?_;rw[Uk ⟨O,O⟩];refine OB ?_;refine Z2 (λ(q:Nat) p=>Q=p/\q<k) (λq=>[(0,.slice (some ⟨r,0,none⟩) n cap),(1,vi a),(6,vi k),(7,pt g),(8,.int .u64 (M:Int)),(9,vi (a+k / 4 * 2-1+t:Nat)),(10,vi q)]) (λ_=>[]) ?_ ?_
   ·refine OB ?_;refine OI (λg3=>?_) (λg3=>?_)
    ·refine Y ?_;exact⟨o-k,⟨rfl,O⟩,⟨rfl,rfl,rfl,rfl,rfl,rfl,by show some (vi ((o:Int)-(k:Int)))=some (vi ((o-k:Nat):Int));congr 2;omega,trivial⟩,trivial,rfl⟩
    refine Y ?_;exact⟨o,⟨rfl,O⟩,V,trivial,rfl⟩
   rintro q _ ⟨rfl,hq⟩;refine Y ?_;have f:=AR.of u.at_;refine Zd (a+q) rfl rfl O O (Y ?_);refine Zh (Loud.aV _) rfl (AR.cA f O rfl) (Y ?_);refine Zd (a+k / 4 * 2-1+t) rfl rfl O O (Y ?_);refine Zh (Loud.aV _) rfl (AR.cA f O rfl) (Y ?_);refine Zd (a+k / 4 * 2-1+t) rfl rfl O O (Y ?_);refine ZS f O (ZK _ _) rfl rfl λHW F=>?_;refine Zp Loud.aV (Y ?_);refine Zd (a+q) rfl rfl O O (Y ?_);refine ZS F (by rw[qAg];omega) (ZK _ _) rfl rfl λX j=>Y ?_;have E:=u.trans j;have K:X g=some (.cells #[.int .u64 (z:Int)] 251 (0,0),true):=j.keep g _ T L;refine⟨(⟨t+1,O⟩,(dS c (a+k / 4 * 2-1+t) (a+q),z)),bN O,⟨E,.step _ _ C O O O O,K⟩,V,trivial,rfl⟩
  refine Y ?_;exact⟨c,A,C⟩
 exact absurd R O
end
structure pI(a0 b0 a b:Nat)(l c:List Int):Prop where
 rg:Rg a0 b0 l c
 h1:a0<=a
 h2:a<=b
 h3:b<=b0
 s1:So a0 a c
 s2:So b b0 c
 s3:∀x y,a0<=x->x<a->a<=y->y<b0->el c x<=el c y
 s4:∀x y,a0<=x->x<b->b<=y->y<b0->el c x<=el c y
 lw:C6 a0 b0 c
def pI.start(e:a0<=b0)(h:C6 a0 b0 l):pI a0 b0 a0 b0 l l:=
 ⟨.refl l,dO _,e,dO _,Un l O,Un l O,λx y f g=>O,λx y f g j k=>O,h⟩
def pI.step(h:pI a0 b0 a b l c)(r:Rg a b c c')(hb:b0<=c.length):pI a0 b0 a b l c':=by
 have s:=h.h1;have z:=h.h2;have t:=h.h3;have out:∀k,(k<a\/b<=k)->el c' k=el c k:=λk A=>r.out O A;have w:Rg a0 b0 c c':=r.mono s t;refine⟨h.rg.trans w,s,z,t,λx y j g f=>?_,λx y j g f=>?_,λx y j g f o=>?_,λx y j g f o=>?_,h.lw.rg w hb⟩
 ·rw[out x (.inl O),out y (.inl f)];exact h.s1 x y j g f
 ·rw[out x (.inr j),out y (.inr O)];exact h.s2 x y j g f
 ·rw[out x (.inl g)];by_cases e:y<b
  ·exact r.all O (p:=λv=>el c x<=v) (λk k1 u=>h.s3 x k j g k1 O) y f e
  rw[out y (.inr O)];exact h.s3 x y j g f o
 rw[out y (.inr f)];by_cases e:a<=x
 ·exact r.all O (p:=λv=>v<=el c y) (λk k1 u=>h.s4 k y O u f o) x e g
 rw[out x (.inl O)];exact h.s4 x y j g f o
def pI.fin(h:pI a0 b0 a b l c)(s:So a b c):So a0 b0 c:=by
 have p:=h.h1;have t:=h.h2;have u:=h.h3;intro x y f g j;by_cases k:x<a
 ·by_cases e:y<a
  ·exact h.s1 x y f g e
  exact h.s3 x y f k O j
 by_cases e:y<b
 ·exact s x y O g e
 by_cases o:x<b
 ·exact h.s4 x y f o O j
 exact h.s2 x y O g j
theorem pI.low(h:pI a0 b0 a b l c):C6 a b c:=by
 have j:=h.h1;have o:=h.h3;by_cases e:a=a0
 ·subst e;exact h.lw.imp id λf k k1 g=>f k k1 O
 exact .inr λk k1 g=>h.s3 _ k O O k1 O
def pI.left(h:pI a0 b0 a b l c)(t:a<=q)(u:q<=b)(s:So a q c)(v:∀x y,a<=x->x<q->q<=y->y<b->el c x<=el c y):pI a0 b0 q b l c:=by
 have w:=h.h1;have p:=h.h3;refine⟨h.rg,O,u,p,λx y e f k=>?_,h.s2,λx y e f k o=>?_,h.s4,h.lw⟩
 ·by_cases g:x<a
  ·by_cases j:y<a
   ·exact h.s1 x y e f j
   exact h.s3 x y e g O O
  exact s x y O f k
 by_cases g:x<a
 ·exact h.s3 x y e g O o
 by_cases j:y<b
 ·exact v x y O f k j
 exact h.s4 x y e O O o
def pI.right(h:pI a0 b0 a b l c)(o:a<=q)(w:q<=b)(s:So q b c)(u:∀x y,a<=x->x<q->q<=y->y<b->el c x<=el c y):pI a0 b0 a q l c:=by
 have t:=h.h1;have v:=h.h3;refine⟨h.rg,t,o,O,h.s1,λx y e f g=>?_,h.s3,λx y e f g p=>?_,h.lw⟩
 ·by_cases j:y<b
  ·exact s x y e f j
  by_cases k:x<b
  ·exact h.s4 x y O k O g
  exact h.s2 x y O f g
 by_cases j:x<a
 ·exact h.s3 x y e j O p
 by_cases k:y<b
 ·exact u x y O f g k
 exact h.s4 x y e O O p
def Mz(h:G:=by refine Y ?_;exact⟨c6,⟨jS,zK⟩,V,trivial,rfl⟩):G:=h
section
variable{P:aX}[Tz P][Loud P]
def Zul{H:Hp}(h:H r=some (.cells (Zb l++rest).toArray 3 (0,0),true))(k:l.length=n)(e:a<=b)(hb:b<=n)(j:n<=1000000) :
  LL.Zc P 171 #[.slice (some ⟨r,0,none⟩) n cap,vi a,vi b] H λv g=>∃f,AR H g r f rest/\Rg a b l f/\So a b f:=by
 subst k;exact Zum h e hb j
def Zuy{e:Nat}{H:Hp}(h:H r=some (.cells (Zb l++rest).toArray 3 (0,0),true))(k:l.length=n)(hb:a+e<=n)(j:n<=1000000) :
  LL.Zc P 172 #[.slice (some ⟨r,0,none⟩) n cap,vi a,vi (a+e:Nat)] H λv g=>∃f,AR H g r f rest/\Rg a (a+e) l f/\So a (a+e) f:=by
 subst k;exact Zuz h hb j
abbrev FB(r n cap a b e:Nat)(f g:Bool):List (Nat×Value):=[(0,.slice (some ⟨r,0,none⟩) n cap),(1,vi a),(2,vi b),(3,vi e),(8,vb f),(9,vb g)]
theorem Zsv(hl:n<=60000):∀(N a0 b0 z:Nat) (l:List Int) (H:Hp),b0-a0<=N->H r=some (.cells (Zb l++rest).toArray 3 (0,0),true)->l.length=n->a0<=b0->b0<=n->z<=100->C6 a0 b0 l ->
  LL.Zc P 140 #[.slice (some ⟨r,0,none⟩) n cap,vi a0,vi b0,vi z] H λv I=>∃l',AR H I r l' rest/\Rg a0 b0 l l'/\So a0 b0 l':=by
 intro N;induction N using Nat.strongRecOn with
 | _ N ih=>
 intro a0 b0 M l H hN hA hn CP hb HD lw;refine aJ.m (bG Zwh) (args:=[.slice (some ⟨r,0,none⟩) n cap,vi a0,vi b0,vi M]) rfl ?_;unfold ZjE;refine OB ?_;refine ZO (α:=List Int×(Nat×Nat)×Nat×Bool×Bool) (b0-a0) (λt s I=>AR H I r s.1 rest/\pI a0 b0 s.2.1.1 s.2.1.2 l s.1/\s.2.2.1<=100/\s.2.1.2-s.2.1.1+t=b0-a0)
  (λt s=>FB r n cap s.2.1.1 s.2.1.2 s.2.2.1 s.2.2.2.1 s.2.2.2.2) (λ_ _=>[]) (l,(a0,b0),M,true,true) ⟨AR.of hA,.start CP lw,HD,rfl⟩ V trivial ?_
 rintro t ⟨c,⟨a,b⟩,z,f,g⟩ H1 ht ⟨ar,Z,HC,hm⟩;simp only at ar Z HC hm;have jQ:=Z.rg.len;have g1:=Z.h1;have g2:=Z.h2;have g3:=Z.h3;obtain⟨d,rfl⟩:∃d,b=a+d:=⟨b-a,O⟩;have ed:(((a+d:Nat):Int)-(a:Int))=(d:Int):=O;have A:a+d<=n:=O;have es:V4 ((Vv [.slice (some ⟨r,0,none⟩) n cap,vi a0,vi b0,vi M]).dQ) (FB r n cap a (a+d) z f g) []=V4 [] (FB r n cap a (a+d) z f g) []:=rfl;dsimp only[FB];have BR:b0<=c.length:=O;refine OB ?_;rw[ed];refine OB ?_;refine Z9 ?_;refine OB ?_;refine OI (λc1=>?_) (λc1=>?_)
 ·refine Y ?_;refine Za [.slice (some ⟨r,0,none⟩) n cap,vi a,vi (a+d:Nat)] (Zul ar.at_ O O A O) ?_;rintro v H2 ⟨c2,K,T,F9⟩;refine Y ?_;have R:=Z.step T BR;exact⟨c2,ar.trans K,R.rg,R.fin F9⟩
 have c1:12<d:=O;refine OB ?_;refine Z9 ?_;refine OB ?_;refine OI (λc2=>?_) (λc2=>?_)
 ·refine Y ?_;refine Za [.slice (some ⟨r,0,none⟩) n cap,vi a,vi (a+d:Nat)] (Zuy ar.at_ O A O) ?_;rintro v H2 ⟨c2,K,T,F9⟩;refine Y ?_;have R:=Z.step T BR;exact⟨c2,ar.trans K,R.rg,R.fin F9⟩
 refine OB ?_;refine Z2 (λ(s:List Int×Nat) I=>AR H I r s.1 rest/\pI a0 b0 a (a+d) l s.1/\s.2<=100) (λs=>(10,vi d) :: FB r n cap a (a+d) s.2 f g) (λ_=>[]) ?_ ?_
 ·refine OB ?_;refine OI (λc3=>?_) (λc3=>?_)
  ·refine Y ?_;refine Za [.slice (some ⟨r,0,none⟩) n cap,vi a,vi (a+d:Nat)] (Zx0 ar.at_ O c1 A hl) ?_;rintro v H2 ⟨Hh,K,T⟩;refine Y ?_;exact⟨(Hh,z-1),⟨ar.trans K,Z.step T BR,by show z-1<=100;omega⟩,⟨rfl,rfl,rfl,rfl,by show some (vi ((z:Int)-1))=some (vi ((z-1:Nat):Int));congr 2;omega,rfl,rfl,trivial⟩,trivial,rfl⟩
  refine Y ?_;exact⟨(c,z),⟨ar,Z,HC⟩,V,trivial,rfl⟩
 rintro⟨c3,o⟩ H3 ⟨X,SG,E⟩;simp only at X SG E;have hc3:=SG.rg.len;refine OB ?_;refine Za [.slice (some ⟨r,0,none⟩) n cap,vi a,vi (a+d:Nat)] (Zvw X.at_ O O A O) ?_;rintro v H4 ⟨p4,h4,i4,rfl,De,Dd⟩;have wY:AR H H4 r c3 rest:=⟨λb x hb hx=>i4 _ _ (X.keep b x hb hx),i4 _ _ X.at_⟩;refine OB ?_;refine Z2 (λ(s:List Int×Nat×Int) I=>AR H I r s.1 rest/\pI a0 b0 a (a+d) l s.1/\a<=s.2.1/\s.2.1<a+d) (λs=>(10,vi d) :: (11,vi s.2.1) :: (12,vi s.2.2) :: FB r n cap a (a+d) o f g) (λ_=>[]) ?_ ?_
 ·refine OB ?_;refine OI (λc5=>?_) (λc5=>?_)
  ·refine Y ?_;refine Za [.slice (some ⟨r,0,none⟩) n cap,vi a,vi (a+d:Nat)] (ZpK wY.at_ O O A O) ?_;rintro v H5 ⟨PD,Ho,Cs⟩;refine Y ?_;exact⟨(PD,a+d-1-(p4-a),1),⟨wY.trans Ho,SG.step Cs O,by show a<=a+d-1-(p4-a);omega,by show a+d-1-(p4-a)<a+d;omega⟩,⟨rfl,by show some (vi _)=some (vi _);congr 2;show((a+d:Nat):Int)-1-((p4:Int)-(a:Int))=((a+d-1-(p4-a):Nat):Int);omega,rfl,rfl,rfl,rfl,rfl,rfl,rfl,trivial⟩,trivial,rfl⟩
  refine Y ?_;exact⟨(c3,p4,h4),⟨wY,SG,De,Dd⟩,V,trivial,rfl⟩
 rintro⟨c6,p6,h6⟩ H6 ⟨jS,zK,GH,GG⟩;simp only at jS zK GH GG;have Gg:=zK.rg.len;refine OB ?_;refine Z2 (λ(s:List Int) I=>AR H I r s rest/\pI a0 b0 a (a+d) l s) (λ_=>(10,vi d) :: (11,vi p6) :: FB r n cap a (a+d) o f g) (λ_=>[]) ?_ ?_
 ·cases f
  ·exact Mz
  cases g
  ·exact Mz
  refine OJ (λc7=>?_) (λc7=>?_)
  ·refine Y ?_;refine Za [.slice (some ⟨r,0,none⟩) n cap,vi a,vi (a+d:Nat)] (ZsB jS.at_ O O A O zK.low) ?_;rintro v H7 ⟨PC,t7,PM,Cr,rfl,Cj⟩;have GM:=zK.step Cr O;refine OJ (λc8=>?_) (λc8=>?_)
   ·refine Y ?_;exact⟨PC,jS.trans PM,GM.rg,GM.fin (Cj c8)⟩
   refine Y ?_;exact⟨PC,⟨jS.trans PM,GM⟩,V,trivial,rfl⟩
  exact Mz
 rintro c8 H8 ⟨B,SF⟩;have hc8:=SF.rg.len;refine OB ?_;refine Z2 (λ(_:Unit) I=>H8=I) (λ_=>(10,vi d) :: (11,vi p6) :: FB r n cap a (a+d) o f g) (λ_=>[]) ?_ ?_
 ·refine OB ?_;refine OI (λk1=>?_) (λk1=>?_)
  ·have k1:0<a:=O;refine Y ?_;refine Zd (a-1) rfl rfl O O (Y ?_);refine Zh (OL _) rfl (B.cA O rfl) (Y ?_);refine Zd p6 rfl rfl rfl O (Y ?_);refine Zh (OL _) rfl (B.cA O rfl) (Y ?_);refine Za [vi (el c8 (a-1)),vi (el c8 p6)] (VM _ _) ?_;rintro w _ ⟨rfl,rfl⟩;refine OJ (λk2=>?_) (λk2=>?_)
   ·refine Y ?_;refine Za [.slice (some ⟨r,0,none⟩) n cap,vi a,vi (a+d:Nat),vi p6] (ZsD B.at_ O GH GG A O) ?_;rintro v H9 ⟨L,j,D,F,Db,rfl⟩;have Gf:=F.len;have Dk:∀k,a<=k->k<a+d->el c8 p6<=el L k:=F.all O (p:=λv=>el c8 p6<=v) (λk Dr Dq=>by
     rcases SF.low with h | h
     ·omega
     have:=h k Dr Dq;omega)
    obtain⟨e1,e2,e3,e4⟩:=Db;have S:=(SF.step F O).left (q:=j) O e2 (λx y W x2 x3=>by have:=e3 x W O;have:=Dk y O O;omega) (λx y W x2 x3 x4=>by have:=e3 x W x2;have:=e4 y x3 x4;omega);refine Y ?_;refine⟨(⟨b0-a0-(a+d-j),O⟩,(L,(j,a+d),o,f,g)),?_,⟨B.trans D,S,E,?_⟩,V,trivial,rfl⟩
    ·show b0-a0-(b0-a0-(a+d-j))<b0-a0-t;omega
    show a+d-j+(b0-a0-(a+d-j))=b0-a0;omega
   refine Y ?_;exact⟨(),rfl,V,trivial,rfl⟩
  refine Y ?_;exact⟨(),rfl,V,trivial,rfl⟩
 rintro _ _ rfl;refine OB ?_;refine Za [.slice (some ⟨r,0,none⟩) n cap,vi a,vi (a+d:Nat),vi p6] (Zsz B.at_ O GH GG A O) ?_;rintro v H9 ⟨L,j,t9,D,F,⟨e1,e2,e3,e4⟩,rfl⟩;have Gf:=F.len;have S:=SF.step F O;have e8:((d:Int)).tdiv 8=((d / 8:Nat):Int):=by rw[qBX O];omega
 refine Y ?_;refine VD rfl rfl (by decide) (by rw[e8];exact⟨O,O⟩) ?_;refine OJ (λk3=>?_) (λk3=>?_)
 ·refine Y ?_;refine Za [.slice (some ⟨r,0,none⟩) n cap,vi a,vi j,vi o] (ih (j-a) O a j o L H9 (dO _) D.at_ O e1 O E (S.low.imp id λh k k1 k2=>h k k1 O)) ?_;rintro v J0 ⟨C,J,u,U⟩;have out:∀k,j<=k->el C k=el L k:=λk hk=>u.out O (.inr hk);have lo:∀k,a<=k->k<j->el C k<=el L j:=u.all O (p:=λv=>v<=el L j) e3;have Q:=(S.step (u.mono (dO _) O) O).left (q:=j+1) O O (λx y W x2 x3=>by
   by_cases e:y<j
   ·exact U x y W x2 e
   ·have ey:y=j:=O;subst ey;by_cases ex:x=y
    ·subst ex;exact qAx _
    rw[out y (dO _)];exact lo x W O) (λx y W x2 x3 x4=>by
   rw[out y O];have h4:=e4 y O x4;by_cases ex:x=j
   ·subst ex;rw[out x (dO _)];exact h4
   exact qCz (lo x W O) h4)
  refine Y ?_;refine⟨(⟨b0-a0-(a+d-(j+1)),O⟩,(C,(j+1,a+d),o,_,t9)),?_,⟨(B.trans D).trans J,Q,E,?_⟩,V,trivial,rfl⟩
  ·show b0-a0-(b0-a0-(a+d-(j+1)))<b0-a0-t;omega
  show a+d-(j+1)+(b0-a0-(a+d-(j+1)))=b0-a0;omega
 refine Y ?_;refine Za [.slice (some ⟨r,0,none⟩) n cap,vi (j+1:Nat),vi (a+d:Nat),vi o] (ih (a+d-(j+1)) O (j+1) (a+d) o L H9 (dO _) D.at_ O O A E (.inr λk k1 k2=>e4 k O k2)) ?_;rintro v J0 ⟨C,J,u,U⟩;have out:∀k,k<=j->el C k=el L k:=λk hk=>u.out O (.inl O);have lo:∀k,j+1<=k->k<a+d->el L j<=el C k:=u.all O (p:=λv=>el L j<=v) (λk k1 k2=>e4 k O k2);have Q:=(S.step (u.mono O (dO _)) O).right (q:=j) e1 O (λx y W x2 x3=>by
  by_cases e:j<x
  ·exact U x y O x2 x3
  ·have ex:x=j:=O;subst ex;by_cases ey:y=x
   ·subst ey;exact qAx _
   rw[out x (dO _)];exact lo y O x3) (λx y W x2 x3 x4=>by
  rw[out x O];have h3:=e3 x W x2;by_cases ey:y=j
  ·subst ey;rw[out y (dO _)];exact h3
  exact qCz h3 (lo y O x4))
 refine Y ?_;refine⟨(⟨b0-a0-(j-a),O⟩,(C,(a,j),o,_,t9)),?_,⟨(B.trans D).trans J,Q,E,?_⟩,V,trivial,rfl⟩
 ·show b0-a0-(b0-a0-(j-a))<b0-a0-t;omega
 show j-a+(b0-a0-(j-a))=b0-a0;omega
end
def vG(x:Int):List Int->List Int
 | []=>[x]
 | y :: r=>if x<=y then x :: y :: r else y :: vG x r
def lD:List Int->List Int
 | []=>[]
 | x :: r=>vG x (lD r)
def Kh(x:Int):∀l,(vG x l).Perm (x :: l)
 | []=>.refl _
 | y :: r=>by
  rw[vG];split
  ·exact .refl _
  exact((Kh x r).cons y).trans (.swap x y r)
def CC:∀l,(lD l).Perm l
 | []=>.refl _
 | x :: r=>(Kh x (lD r)).trans ((CC r).cons x)
def ZlV(x:Int):∀{l:List Int},l.Pairwise (·<=·)->(vG x l).Pairwise (·<=·)
 | [],_=>by simp[vG]
 | y :: r,h=>by
  rw[vG];split
  ·rename_i e;refine qAJ.2 ⟨λz f=>?_,h⟩;rcases qAq.1 f with rfl | f
   ·exact e
   exact qCz e ((qAJ.1 h).1 z f)
  rename_i e;obtain⟨g,j⟩:=qAJ.1 h;refine qAJ.2 ⟨λz f=>?_,ZlV x j⟩;rcases qAq.1 ((Kh x r).mem_iff.1 f)with rfl | f
  ·omega
  exact g z f
def KR:∀l,(lD l).Pairwise (·<=·)
 | []=>.nil
 | x :: r=>ZlV x (KR r)
def ZoC{e:List Int}(h:l.Perm e)(f:l.Pairwise (·<=·))(g:e.Pairwise (·<=·)):l=e:=
 h.eq_of_pairwise (le:=(·<=·)) (λa b _ _ x y=>Int.le_antisymm x y) f g
def Zhc(h:So 0 l.length l):l.Pairwise (·<=·):=by rw[qAY];intro i j f e g;have:=h i j (qAI _) O e;rwa [Uu f,Uu e]at this
section
variable{P:aX}[Tz P][Loud P]{H:Hp}
def ZyC{g:Hp}{v:Value}{t:Option Nat}(E:aL g H)(A:dD g H 3 v l t)(j:l≠[])(F:l.length<=60000) :
  LL.Zc P 87 #[v] H λ_ p=>aL g p/\dD g p 3 v (lD l) t:=by
 have f:=A.fresh;obtain⟨M,⟨N,C,u⟩ | ⟨r,cap,rest,rfl,rfl,u,z,D⟩⟩:=A.own
 ·exact absurd (qAb C) j
 have k:=f r rfl;have I:=Kl (m:=l.length) O;refine aJ.m (bG ZxZ) (args:=[.slice (some ⟨r,0,none⟩) l.length cap]) rfl ?_;unfold Zlm;refine Y ?_;refine Vs (bI uZ) (bI O2) rfl ?_;rw[VZ (m:=l.length) O];refine Y ?_;refine Za [.int .u64 l.length] (P7 O) ?_;rintro w _ ⟨rfl,rfl⟩;refine Y ?_;refine Za [.slice (some ⟨r,0,none⟩) l.length cap,vi (0:Nat),vi l.length,vi (fR l.length:Nat)] (Zsv (rest:=rest) F l.length 0 l.length (fR l.length) l H O u rfl (qAI _) (dO _) O (.inl rfl)) ?_;rintro w L ⟨J,s,B,K⟩;have h:=B.len;have o:J=lD l:=ZoC ((B.perm (dO _)).trans (CC l).symm) (Zhc (by rw[h];exact K)) (KR l);have e:(lD l).length=l.length:=(CC l).length_eq;subst o;refine Y ?_;refine⟨s.inc E k,⟨by rw[VS];show _=(lD l).length * 1;omega,.inr ⟨r,cap,rest,rfl,by rw[e],s.at_,?_,by rw[e];exact D⟩⟩,f⟩;rw[BY,VS,e];rw[BY,VS]at z;exact z
def LB{a b:List Value}{off:Nat}{e:List Value}(h:a.length=n):ZG (a++b) (n+off) e=a++ZG b off e:=by
 subst h;unfold ZG;rw[List.take_append,qEi,qCt O,qBw O];simp only[qAW,qBt];congr 3
 ·congr 1;omega
 congr 1;omega
def YN{H:Hp}{a:Addr}{cs ds:List Value}(h:aC H a (cs++ds)):aC H a cs:=by obtain⟨e,o,p,f,g⟩:=h;refine⟨e,o,p,f,λj k=>?_⟩;rw[g j (by rw[BY];omega),qBf k]
def add_zero(a:Addr):a.add 0=a:=by unfold Addr.add;simp
def SB:Yl Tryz.prog 36=some (2,some (.agg #[vi 0,vi 0]),16):=U
end
