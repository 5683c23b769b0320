import Derived.Test.YtmfealhfgccmfaaGreatDoorP25
set_option linter.all false
set_option maxHeartbeats 4000000
def Wz{G:Prop}(h:G:=by refine Z ?_;refine Zk Zv (vs:=[]) rfl (Ys ok Zv (by rfl)) ?_;rintro v _ ⟨rfl,rfl⟩;refine Z ?_;refine Z9 rfl (Yl ok Yn rfl (.inl rfl) (.inl (by simp[ZQ,cd]))) ?_;rintro v _ ⟨rfl,rfl⟩;refine Z ?_;refine Zk Zy (vs:=[ptr c.M]) rfl (Yr ok Zy rfl) ?_;rintro v _ ⟨rfl,l,Hl,h1,h2,h3,h4,h5,rfl⟩;refine Z ?_;exact⟨l,Hl,h1,h2,h3,h4,h5,rfl⟩):G:=h
def TX{G:Prop}(h:G:=by refine Z ?_;refine Zl rfl rfl (.inr (.inr (.inr rfl))) (v:=.int .i32 (-11)) rfl (Z ?_);refine Zk ZJ (vs:=[ptr c.M,.int .i32 (-11)]) rfl (YJ ok ZJ mA SA true (λe=>by simp at e) (by rfl)) ?_;rintro v _ ⟨⟨z,rfl⟩,rfl⟩;exact Wz):G:=h
def WO{G:Prop}(h:G:=by refine Z ?_;refine Zl rfl rfl (.inl rfl) mA.oD (Z ?_);refine Yi rfl rfl rfl (by simp) (Z ?_);refine Zl rfl rfl (.inl rfl) mA.EF (Z ?_);refine ZE rfl rfl rfl (by simp) (Z ?_);refine Yh rfl rfl (.inl rfl) (by decide) mA.uQ (Z ?_);refine ZK rfl rfl rfl O ?_;exact TX):G:=h
def gq2{G:Prop}(h:G:=by
  refine Z ?_;refine Zl rfl rfl (.inl rfl) mA.oD (Z ?_);refine Yi rfl rfl rfl (by simp) (Z ?_);refine Zl rfl rfl (.inl rfl) mA.EF (Z ?_);refine ZE rfl rfl rfl (by simp) (Z ?_);refine Yh rfl rfl (.inl rfl) (by decide) mA.uQ (Z ?_);refine ZK rfl rfl rfl O (Z ?_);refine Yh rfl rfl (.inl rfl) (by decide) mA.uQ (Z ?_);by_cases h1:n2=1
  ·refine Yd rfl rfl rfl O ?_;exact TX
  refine ZK rfl rfl rfl O (Z ?_);refine Zk ZJ (vs:=[ptr c.M,.int .i32 (-7)]) rfl (YJ ok ZJ mA SA false (λ_=>h1) (by rfl)) ?_;rintro v _ ⟨⟨z,rfl⟩,rfl⟩;exact Wz):G:=h
def WI{G:Prop}(h:G:=by
  refine Z ?_;refine Yj rfl (VS (M:=m) ok vG rfl (by rfl)) ?_;rintro v _ (⟨L2,n2,m2,mA,rfl,rfl,hm⟩ | ⟨n2,mA,SA,rfl,rfl⟩)
  ·refine Z ?_;refine Zl rfl rfl (.inl rfl) mA.oD (Z ?_);refine ZE rfl rfl rfl (by simp) (Z ?_);exact⟨⟨true,true,0,z1,L2,1,0,n2,m2⟩,by simp only;omega,⟨mA,by simp only;omega,λe=>by simp at e,λ_=>⟨rfl,rfl,rfl⟩⟩,V,trivial,rfl⟩
  exact gq2):G:=h
def WJ{G:Prop}(h:G:=by
  refine Z ?_;refine Yj rfl (VS (M:=m) ok vG rfl (by rfl)) ?_;rintro v _ (⟨L2,n2,m2,mA,rfl,rfl,hm⟩ | ⟨n2,mA,SA,rfl,rfl⟩)
  ·refine Z ?_;refine Zl rfl rfl (.inl rfl) mA.oD (Z ?_);refine ZE rfl rfl rfl (by simp) (Z ?_);exact⟨⟨true,true,0,BR,L2,1,0,n2,m2⟩,by simp only;omega,⟨mA,by simp only;omega,λe=>by simp at e,λ_=>⟨rfl,rfl,rfl⟩⟩,V,trivial,rfl⟩
  exact gq2):G:=h
def Xb{G:Prop}(h:G:=by
  refine Z ?_;refine Z ?_;refine Zl rfl rfl (.inl rfl) hB.qR (Z ?_);refine ZK rfl rfl rfl O (Z ?_);by_cases DI:BR=0
  ·refine ZE rfl rfl rfl DI (Z ?_);refine Yd rfl rfl rfl DI (Z ?_);refine Zk YT (vs:=[]) rfl (U3 ok YT UT (by simp[ZQ,cd])) ?_;rintro v _ ⟨⟨z1,rfl⟩,rfl⟩;refine Z ?_;refine Zk Vu (vs:=[.pointer (some ((gZ c.M).add 1)),_,.int .i64 2]) rfl (OX ok Vu rfl (by rfl)) ?_;rintro v _ ⟨rfl,rfl⟩;refine Z ?_;refine Zk YT (vs:=[]) rfl (U3 ok YT UT (by simp[ZQ,cd])) ?_;rintro v _ ⟨⟨z2,rfl⟩,rfl⟩;refine Z ?_;refine Zl rfl rfl (.inr (.inr (.inr rfl))) rfl (Z ?_);refine Ya rfl rfl rfl ?_;intro b3 _;refine Z ?_;cases b3
   ·refine Z ?_;refine Yj rfl (VS (M:=m) ok vG rfl (by rfl)) ?_;rintro v _ (⟨L2,n2,m2,mA,rfl,rfl,hm⟩ | ⟨n2,mA,SA,rfl,rfl⟩)
    ·refine Z ?_;refine Zl rfl rfl (.inl rfl) mA.oD (Z ?_);refine ZE rfl rfl rfl (by simp) (Z ?_);exact⟨⟨true,false,0,z1,L2,1,0,n2,m2⟩,by simp only;omega,⟨mA,by simp only;omega,λe=>by simp at e,λ_=>⟨rfl,rfl,rfl⟩⟩,V,trivial,rfl⟩
    exact WO
   exact WI
  refine Yi rfl rfl rfl DI (Z ?_);refine ZK rfl rfl rfl DI (Z ?_);refine Zk Vu (vs:=[.pointer (some ((gZ c.M).add 1)),_,.int .i64 2]) rfl (OX ok Vu rfl (by rfl)) ?_;rintro v _ ⟨rfl,rfl⟩;refine Z ?_;refine Zk YT (vs:=[]) rfl (U3 ok YT UT (by simp[ZQ,cd])) ?_;rintro v _ ⟨⟨z2,rfl⟩,rfl⟩;refine Z ?_;refine Zl rfl rfl (.inr (.inr (.inr rfl))) rfl (Z ?_);refine Ya rfl rfl rfl ?_;intro b3 _;refine Z ?_;cases b3
  ·refine Z ?_;refine Yj rfl (VS (M:=m) ok vG rfl (by rfl)) ?_;rintro v _ (⟨L2,n2,m2,mA,rfl,rfl,hm⟩ | ⟨n2,mA,SA,rfl,rfl⟩)
   ·refine Z ?_;refine Zl rfl rfl (.inl rfl) mA.oD (Z ?_);refine ZE rfl rfl rfl (by simp) (Z ?_);exact⟨⟨true,false,0,BR,L2,1,0,n2,m2⟩,by simp only;omega,⟨mA,by simp only;omega,λe=>by simp at e,λ_=>⟨rfl,rfl,rfl⟩⟩,V,trivial,rfl⟩
   exact WO
  exact WJ):G:=h
def LV{G:Prop}(h:G:=by refine Z ?_;refine Yj rfl (Nw (M:=m) ok vG rfl (.inr (.inl rfl))) ?_;rintro v _ ⟨L2,W2,S2,n2,m2,mA,rfl,rfl,hm,_⟩;have hm:=hm rfl;refine Z ?_;exact⟨⟨false,false,it,BR,L2,W2,S2,n2,m2⟩,by simp only;omega,⟨mA,by simp only;omega,λ_=>⟨rfl,rfl⟩,λe=>by simp at e⟩,V,trivial,rfl⟩):G:=h
def TR{G:Prop}(h:G:=by refine Z ?_;exact⟨⟨false,false,(it+1),BR,L2,W2,S2,n2,m2⟩,by simp only;omega,⟨mA,by simp only;omega,λ_=>⟨rfl,rfl⟩,λe=>by simp at e⟩,V,trivial,rfl⟩):G:=h
def WM{G:Prop}(h:G:=by refine Z ?_;refine Og Mo (vs:=[]) rfl ?_;refine(O5 ?_);refine Z ?_;refine Ya rfl rfl rfl ⟨by unfold rY;simp only;omega,?_⟩;refine Z ?_;refine Yj rfl (Nw (M:=m) ok vG rfl (.inr (.inr ⟨_,rfl⟩))) ?_;rintro v _ ⟨L2,W2,S2,n2,m2,mA,rfl,rfl,_,hm⟩;have hm:=hm ⟨_,rfl⟩;exact TR):G:=h
def WC{G:Prop}(h:G:=by refine Z ?_;refine Yj rfl (Nu (M:=m) ok vG rfl (.inl rfl)) ?_;rintro v _ ⟨L2,n2,m2,mA,rfl,rfl,hm,_⟩;have hm:=hm rfl;refine Z ?_;exact⟨⟨true,false,it,BR,L2,1,0,n2,m2⟩,by simp only;omega,⟨mA,by simp only;omega,λe=>by simp at e,λ_=>⟨rfl,rfl,rfl⟩⟩,V,trivial,rfl⟩):G:=h
def T7{G:Prop}(h:G:=by refine Z ?_;refine Yj rfl (Nu (M:=m) ok vG rfl (.inl rfl)) ?_;rintro v _ ⟨L2,n2,m2,mA,rfl,rfl,hm,_⟩;have hm:=hm rfl;refine Z ?_;exact⟨⟨true,true,it,BR,L2,1,0,n2,m2⟩,by simp only;omega,⟨mA,by simp only;omega,λe=>by simp at e,λ_=>⟨rfl,rfl,rfl⟩⟩,V,trivial,rfl⟩):G:=h
def LM{G:Prop}(h:G:=by refine Z ?_;refine Zl rfl rfl (.inl rfl) hB.qR (Z ?_);refine Yd rfl rfl rfl (by simp) ?_;exact Wz):G:=h
open Go Go.LL
namespace Go.Proofs
variable{g:Bool}
structure LkI where
 aw:Bool
 st:Bool
 it:Int
 ws:Int
 L:Nat
 W:Nat
 S:Nat
 n:Nat
 m:Nat
def O5{P:PQ}{α:Type}{a:α}{Q:α->Bool->Hp->Prop}{H:Hp}(h:Q a g H):fZ P (pure a) Q g H:=h
def Zgo{P:PQ}{it:Int}{Q:Value->Bool->Hp->Prop}{H:Hp}(e:P.still H.gh=false)(h:∀b:Bool,(b=true->it<4)->Q (.bool b) g H):fZ P (Extern.Sync.canSpin #[.int .i64 it]) Q g H:=by
 rw[Go.Conc.canSpin_eq];split
 ·exact h false (by simp)
 rename_i f;have a:it<4:=O;rw[Zf];have key:∀(t:Nat),fZ P (pure (.bool (decide (t=1)))) Q g H:=λt=>h _ λ_=>a;show fZ P (.choose _ _) _ g H;simp only[fZ];split
 ·exact key _
 exact⟨e,λt=>key _⟩
section
variable{P:fP}{d:Option Nat}{next:fG->Hp->Prop}{σ:fG}{H:Hp}{x y:Operand}
def Zfe{m n r:Int}(a:σ.get x=some (.int .i32 m))(b:σ.get y=some (.int .i32 n))(e:IntKind.i32.wrap (m+n)=r)(h:next (σ.set d (.int .i32 r)) H):(fR.fV .add x y).m P d next σ H:=
 Ya a b rfl (by subst e;exact h)
end
section
variable{c:Cx}{i:Nat}
def ZuH(ok:c.Ok)(H:Hp)(D:H.cg=[3]):LL.Zb (pw c i) 333 #[ptr c.M] H λ_ h=>Pb c i H h:=by
 refine aU.m (P:=pw c i) ZwV rfl ?_;unfold Zi3;refine Z ?_;refine Yj rfl (Nw (M:=0) ok vG rfl (.inl D)) ?_;rintro v _ ⟨A,C,B,E,m0,s,rfl,rfl,_,_⟩;refine Z ?_;refine XX (λ(j:LkI) h=>gW j.L j.W j.S j.n/\(0<=j.it/\j.it<=4)/\(j.aw=false->j.st=false/\h=H.tagc [4,gD j.L j.W j.S j.n,j.m])/\(j.aw=true->j.W=1/\j.S=0/\h=H.tagc [6,gD j.L j.W j.S j.n,j.m]))
  (λj=>j.m * 8+(5-j.it).toNat) (λj=>[(0,ptr c.M),(2,.int .i64 j.ws),(3,.bool j.st),(4,.bool j.aw),(5,.int .i64 j.it),(6,.int .i32 (gD j.L j.W j.S j.n:Nat))]) (λ_=>[]) ⟨false,false,0,0,A,C,B,E,m0⟩
  ⟨s,by simp,λ_=>⟨rfl,rfl⟩,λe=>by simp at e⟩ V trivial ?_
 rintro⟨q,st,it,BR,L,W,S,n,m⟩ h ⟨hB,w,l,o⟩;simp only at hB w l o;refine Z ?_;refine Zl rfl rfl (.inl rfl) hB.qR (Z ?_);have r:True:=trivial;cases q with
 | false=>
  obtain⟨rfl,rfl⟩:=l rfl;by_cases u:L=1/\S=0
  ·obtain⟨rfl,rfl⟩:=u;refine Yd rfl rfl rfl (by simp) (Z ?_);refine Og Zmy (vs:=[.int .i64 it]) rfl (Zgo rfl ?_);intro b hb;cases b
   ·refine Z ?_;refine Zl rfl rfl (.inl rfl) hB.oD (Z ?_);refine Yd rfl rfl rfl (by simp) (Z ?_);refine Zl rfl rfl (.inr (.inl rfl)) hB.NQ (Z ?_);refine Zl rfl rfl (.inl rfl) hB.qR (Z ?_);refine Yi rfl rfl rfl (by simp) (Z ?_);refine Zfe rfl rfl hB.BK (Z ?_);refine Zk YU (vs:=[ptr c.M,.int .i32 (gD 1 W 0 n:Nat),.int .i32 (gD 1 W 0 (n+1):Nat)]) rfl (Zne (M:=m) ok YU hB O (by rfl)) ?_;rintro v _ (⟨rfl,rfl⟩ | ⟨rfl,rfl⟩)
    ·exact Xb
    exact LV
   have p:=hb rfl;refine Z ?_;refine Zl rfl rfl (.inl rfl) hB.u2 (Z ?_);rcases yO hB.W with rfl | rfl
   ·refine Yd rfl rfl rfl (by simp) (Z ?_);refine Yh rfl rfl (.inl rfl) (by decide) hB.uQ (Z ?_);by_cases z:n=0
    ·refine ZE rfl rfl rfl (by simpa using z) ?_;exact WM
    refine Yi rfl rfl rfl (by simpa using z) (Z ?_);refine Zl rfl rfl (.inr (.inl rfl)) hB.or2 (Z ?_);refine Zk YU (vs:=[ptr c.M,.int .i32 (gD 1 0 0 n:Nat),.int .i32 (gD 1 1 0 n:Nat)]) rfl (ZzB (M:=m) ok YU hB (by rfl)) ?_;rintro v _ (⟨rfl,rfl⟩ | ⟨rfl,rfl⟩)
    ·refine Z ?_;refine Z ?_;refine Og Mo (vs:=[]) rfl ?_;refine(O5 ?_);refine Z ?_;refine Ya rfl rfl rfl ⟨by unfold rY;simp only;omega,?_⟩;refine Z ?_;refine Yj rfl (Nu (M:=m) ok vG rfl (.inl rfl)) ?_;rintro v _ ⟨L2,n2,m2,mA,rfl,rfl,hm,_⟩;have hm:=hm rfl;refine Z ?_;exact⟨⟨true,false,(it+1),BR,L2,1,0,n2,m2⟩,by simp only;omega,⟨mA,by simp only;omega,λe=>by simp at e,λ_=>⟨rfl,rfl,rfl⟩⟩,V,trivial,rfl⟩
    refine Z ?_;refine Z ?_;refine Og Mo (vs:=[]) rfl ?_;refine(O5 ?_);refine Z ?_;refine Ya rfl rfl rfl ⟨by unfold rY;simp only;omega,?_⟩;refine Z ?_;refine Yj rfl (Nw (M:=m) ok vG rfl (.inr (.inl rfl))) ?_;rintro v _ ⟨L2,W2,S2,n2,m2,mA,rfl,rfl,hm,_⟩;have hm:=hm rfl;exact TR
   refine ZK rfl rfl rfl (by simp) ?_;exact WM
  refine ZK rfl rfl rfl O (Z ?_);rcases yO hB.S with rfl | rfl
  ·have t:L=0:=by have:=hB.L;omega
   subst t;refine Zl rfl rfl (.inl rfl) hB.oD (Z ?_);refine Yd rfl rfl rfl (by simp) (Z ?_);refine Zl rfl rfl (.inr (.inl rfl)) hB.NQ (Z ?_);refine Zl rfl rfl (.inl rfl) hB.qR (Z ?_);refine ZE rfl rfl rfl (by simp) (Z ?_);refine Zk YU (vs:=[ptr c.M,.int .i32 (gD 0 W 0 n:Nat),.int .i32 (gD 1 W 0 n:Nat)]) rfl (ZzA (M:=m) ok YU hB (by rfl)) ?_;rintro v _ (⟨rfl,rfl⟩ | ⟨rfl,rfl⟩)
   ·exact LM
   exact LV
  refine Zl rfl rfl (.inl rfl) hB.oD (Z ?_);refine ZK rfl rfl rfl (by simp) (Z ?_);refine Zl rfl rfl (.inl rfl) hB.qR (Z ?_);refine Yi rfl rfl rfl O (Z ?_);refine Zfe rfl rfl hB.BK (Z ?_);refine Zk YU (vs:=[ptr c.M,.int .i32 (gD L W 1 n:Nat),.int .i32 (gD L W 1 (n+1):Nat)]) rfl (Zne (M:=m) ok YU hB O (by rfl)) ?_;rintro v _ (⟨rfl,rfl⟩ | ⟨rfl,rfl⟩)
  ·exact Xb
  exact LV
 | true=>
  obtain⟨rfl,rfl,rfl⟩:=o rfl;rcases yO hB.L with rfl | rfl
  ·refine ZK rfl rfl rfl (by simp) (Z ?_);refine Zl rfl rfl (.inl rfl) hB.oD (Z ?_);refine Yd rfl rfl rfl (by simp) (Z ?_);refine Zl rfl rfl (.inr (.inl rfl)) hB.NQ (Z ?_);refine Zl rfl rfl (.inl rfl) hB.qR (Z ?_);have a:gW 1 1 0 n:=⟨O,O,O,hB.n⟩;refine ZE rfl rfl rfl (by simp) ?_;cases st
   ·refine Z ?_;refine Zl rfl rfl (.inl rfl) a.u2 (Z ?_);refine ZK rfl rfl rfl (by simp) (Z ?_);refine Zl rfl rfl (.inr (.inr (.inl rfl))) a.xP (Z ?_);refine Zk YU (vs:=[ptr c.M,.int .i32 (gD 0 1 0 n:Nat),.int .i32 (gD 1 0 0 n:Nat)]) rfl (Znc (M:=m) ok YU hB (by rfl)) ?_;rintro v _ (⟨rfl,rfl⟩ | ⟨rfl,rfl⟩)
    ·exact LM
    exact WC
   refine Z ?_;refine Zl rfl rfl (.inl rfl) hB.and1 (Z ?_);refine ZE rfl rfl rfl (by simp) (Z ?_);refine Zl rfl rfl (.inl rfl) a.u2 (Z ?_);refine ZK rfl rfl rfl (by simp) (Z ?_);refine Zl rfl rfl (.inr (.inr (.inl rfl))) a.xP (Z ?_);refine Zk YU (vs:=[ptr c.M,.int .i32 (gD 0 1 0 n:Nat),.int .i32 (gD 1 0 0 n:Nat)]) rfl (Znc (M:=m) ok YU hB (by rfl)) ?_;rintro v _ (⟨rfl,rfl⟩ | ⟨rfl,rfl⟩)
   ·exact LM
   exact T7
  refine Yd rfl rfl rfl (by simp) (Z ?_);refine Og Zmy (vs:=[.int .i64 it]) rfl (Zgo rfl ?_);intro b hb;cases b
  ·refine Z ?_;refine Zl rfl rfl (.inl rfl) hB.oD (Z ?_);refine Yd rfl rfl rfl (by simp) (Z ?_);refine Zl rfl rfl (.inr (.inl rfl)) hB.NQ (Z ?_);refine Zl rfl rfl (.inl rfl) hB.qR (Z ?_);have a:gW 1 1 0 n:=⟨O,O,O,hB.n⟩;refine Yi rfl rfl rfl (by simp) (Z ?_);refine Zfe rfl rfl hB.BK ?_;have f:Y0 1 1 0 (n+1):=⟨O,O,O,by have:=hB.n;omega⟩;have k:Y0 1 1 1 (n+1):=⟨O,O,O,by have:=hB.n;omega⟩;cases st
   ·refine Z ?_;refine Zl rfl rfl (.inl rfl) f.u2 (Z ?_);refine ZK rfl rfl rfl (by simp) (Z ?_);refine Zl rfl rfl (.inr (.inr (.inl rfl))) f.xP (Z ?_);refine Zk YU (vs:=[ptr c.M,.int .i32 (gD 1 1 0 n:Nat),.int .i32 (gD 1 0 0 (n+1):Nat)]) rfl (Znd (M:=m) ok YU false hB (by rfl)) ?_;rintro v _ (⟨rfl,rfl⟩ | ⟨rfl,rfl⟩)
    ·exact Xb
    exact WC
   refine Z ?_;refine Zl rfl rfl (.inl rfl) hB.and1 (Z ?_);refine Yi rfl rfl rfl (by simp) (Z ?_);refine Zl rfl rfl (.inr (.inl rfl)) f.or4 (Z ?_);refine Zl rfl rfl (.inl rfl) k.u2 (Z ?_);refine ZK rfl rfl rfl (by simp) (Z ?_);refine Zl rfl rfl (.inr (.inr (.inl rfl))) k.xP (Z ?_);refine Zk YU (vs:=[ptr c.M,.int .i32 (gD 1 1 0 n:Nat),.int .i32 (gD 1 0 1 (n+1):Nat)]) rfl (Znd (M:=m) ok YU true hB (by rfl)) ?_;rintro v _ (⟨rfl,rfl⟩ | ⟨rfl,rfl⟩)
   ·refine Z ?_;refine Z ?_;refine Zl rfl rfl (.inl rfl) hB.qR (Z ?_);refine ZK rfl rfl rfl O (Z ?_);by_cases DI:BR=0
    ·refine ZE rfl rfl rfl DI (Z ?_);refine Yd rfl rfl rfl DI (Z ?_);refine Zk YT (vs:=[]) rfl (U3 ok YT UT (by simp[ZQ,cd])) ?_;rintro v _ ⟨⟨z1,rfl⟩,rfl⟩;refine Z ?_;refine Zk Vu (vs:=[.pointer (some ((gZ c.M).add 1)),_,.int .i64 2]) rfl (OX ok Vu rfl (by rfl)) ?_;rintro v _ ⟨rfl,rfl⟩;exact WI
    refine Yi rfl rfl rfl DI (Z ?_);refine ZK rfl rfl rfl DI (Z ?_);refine Zk Vu (vs:=[.pointer (some ((gZ c.M).add 1)),_,.int .i64 2]) rfl (OX ok Vu rfl (by rfl)) ?_;rintro v _ ⟨rfl,rfl⟩;exact WJ
   exact T7
  have p:=hb rfl;refine Z ?_;refine Z ?_;refine Og Mo (vs:=[]) rfl ?_;refine(O5 ?_);refine Z ?_;refine Ya rfl rfl rfl ⟨by unfold rY;simp only;omega,?_⟩;refine Z ?_;refine Yj rfl (Nu (M:=m) ok vG rfl (.inr ⟨_,rfl⟩)) ?_;rintro v _ ⟨L2,n2,m2,mA,rfl,rfl,_,hm⟩;have hm:=hm ⟨_,rfl⟩;refine Z ?_;exact⟨⟨true,st,(it+1),BR,L2,1,0,n2,m2⟩,by simp only;omega,⟨mA,by simp only;omega,λe=>by simp at e,λ_=>⟨rfl,rfl,rfl⟩⟩,V,trivial,rfl⟩
end
