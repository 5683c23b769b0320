import Derived.Test.YtlhomfgcibjccaaGreatDoorP10
import Derived.Test.YtlhomfgcibjccaaGreatDoorP11
set_option linter.all false
namespace Go.LL
section
variable{G:Prop}
theorem Mn(h:G:=by have g1:1<=Ct Zk tag k:=cl hi hc Zk;refine⟨⟨?_,?_,?_,?_,?_,?_⟩,?_⟩<;>(try unfold Mu.mu)<;>(try dsimp only)<;>omega):G:=h
theorem Zic(h:G:=by have e4:Ct cU (upd tag i l) k+0=Ct cU tag k+0:=ct hi hc hl cU;have e5:Ct cR (upd tag i l) k+0=Ct cR tag k+0:=ct hi hc hl cR;have e6:Ct dQ (upd tag i l) k+5=Ct dQ tag k+5:=ct hi hc hl dQ;have g4:1<=Ct cA tag k:=cl hi hc cA;refine⟨⟨?_,?_,?_,?_,?_,?_⟩,?_⟩<;>(try unfold Mu.mu)<;>(try dsimp only)<;>omega):G:=h
theorem Zid(h:G:=by obtain⟨f1,f2,f3,f4,f5,f6⟩:=F;have e0:Ct Zk (upd tag i l) k+0=Ct Zk tag k+0:=ct hi hc hl Zk;have e1:Ct cT (upd tag i l) k+0=Ct cT tag k+0:=ct hi hc hl cT;have e2:Ct cQ (upd tag i l) k+0=Ct cQ tag k+0:=ct hi hc hl cQ;have e3:Ct cA (upd tag i l) k+0=Ct cA tag k+0:=ct hi hc hl cA;have e4:Ct cU (upd tag i l) k+1=Ct cU tag k+1:=ct hi hc hl cU;have e5:Ct cR (upd tag i l) k+0=Ct cR tag k+0:=ct hi hc hl cR;have e6:Ct dQ (upd tag i l) k+2=Ct dQ tag k+2:=ct hi hc hl dQ;have g5:1<=Ct cU tag k:=cl hi hc cU;refine⟨⟨?_,?_,?_,?_,?_,?_⟩,?_⟩<;>(try unfold Mu.mu)<;>(try dsimp only)<;>omega):G:=h
theorem Zie(h:G:=by obtain⟨f1,f2,f3,f4,f5,f6⟩:=F;have e0:Ct Zk (upd tag i l) k+0=Ct Zk tag k+0:=ct hi hc hl Zk;have e1:Ct cT (upd tag i l) k+1=Ct cT tag k+1:=ct hi hc hl cT;have e2:Ct cQ (upd tag i l) k+0=Ct cQ tag k+0:=ct hi hc hl cQ;have e3:Ct cA (upd tag i l) k+0=Ct cA tag k+0:=ct hi hc hl cA;have e4:Ct cU (upd tag i l) k+0=Ct cU tag k+0:=ct hi hc hl cU;have e5:Ct cR (upd tag i l) k+0=Ct cR tag k+0:=ct hi hc hl cR;have e6:Ct dQ (upd tag i l) k+5=Ct dQ tag k+5:=ct hi hc hl dQ;have g2:1<=Ct cT tag k:=cl hi hc cT;refine⟨⟨?_,?_,?_,?_,?_,?_⟩,?_⟩<;>(try unfold Mu.mu)<;>(try dsimp only)<;>omega):G:=h
theorem Zif(h:G:=by obtain⟨f1,f2,f3,f4,f5,f6⟩:=F;have e0:Ct Zk (upd tag i l) k+0=Ct Zk tag k+1:=ct hi hc hl Zk;have e1:Ct cT (upd tag i l) k+0=Ct cT tag k+0:=ct hi hc hl cT;have e2:Ct cQ (upd tag i l) k+0=Ct cQ tag k+0:=ct hi hc hl cQ;have e3:Ct cA (upd tag i l) k+1=Ct cA tag k+0:=ct hi hc hl cA;have e4:Ct cU (upd tag i l) k+0=Ct cU tag k+0:=ct hi hc hl cU;have e5:Ct cR (upd tag i l) k+0=Ct cR tag k+0:=ct hi hc hl cR;have e6:Ct dQ (upd tag i l) k+5=Ct dQ tag k+3:=ct hi hc hl dQ;have g4:1<=Ct cA tag k:=cl hi hc cA;refine⟨⟨?_,?_,?_,?_,?_,?_⟩,?_⟩<;>(try unfold Mu.mu)<;>(try dsimp only)<;>omega):G:=h
theorem Zig(h:G:=by obtain⟨f1,f2,f3,f4,f5,f6⟩:=F;have e0:Ct Zk (upd tag i l) k+0=Ct Zk tag k+0:=ct hi hc hl Zk;have e1:Ct cT (upd tag i l) k+1=Ct cT tag k+0:=ct hi hc hl cT;have e2:Ct cQ (upd tag i l) k+0=Ct cQ tag k+1:=ct hi hc hl cQ;have e3:Ct cA (upd tag i l) k+0=Ct cA tag k+0:=ct hi hc hl cA;have e4:Ct cU (upd tag i l) k+0=Ct cU tag k+0:=ct hi hc hl cU;have e5:Ct cR (upd tag i l) k+0=Ct cR tag k+0:=ct hi hc hl cR;have e6:Ct dQ (upd tag i l) k+5=Ct dQ tag k+4:=ct hi hc hl dQ;have g2:1<=Ct cT tag k:=cl hi hc cT;refine⟨⟨?_,?_,?_,?_,?_,?_⟩,?_⟩<;>(try unfold Mu.mu)<;>(try dsimp only)<;>omega):G:=h
theorem Cq(h:G:=by obtain⟨f1,f2,f3,f4,f5,f6⟩:=F;have e0:Ct Zk (upd tag i l) k+0=Ct Zk tag k+0:=ct hi hc hl Zk;have e1:Ct cT (upd tag i l) k+0=Ct cT tag k+0:=ct hi hc hl cT;have e2:Ct cQ (upd tag i l) k+0=Ct cQ tag k+0:=ct hi hc hl cQ;have e3:Ct cA (upd tag i l) k+0=Ct cA tag k+0:=ct hi hc hl cA;have e4:Ct cU (upd tag i l) k+0=Ct cU tag k+0:=ct hi hc hl cU;have e5:Ct cR (upd tag i l) k+0=Ct cR tag k+0:=ct hi hc hl cR;have e6:Ct dQ (upd tag i l) k+6=Ct dQ tag k+6:=ct hi hc hl dQ;refine⟨⟨?_,?_,?_,?_,?_,?_⟩,?_⟩<;>(try unfold Mu.mu)<;>(try dsimp only)<;>omega):G:=h
theorem Cp(h:G:=by obtain⟨f1,f2,f3,f4,f5,f6⟩:=F;have e0:Ct Zk (upd tag i l) k+1=Ct Zk tag k+1:=ct hi hc hl Zk;have e1:Ct cT (upd tag i l) k+0=Ct cT tag k+0:=ct hi hc hl cT;have e2:Ct cQ (upd tag i l) k+0=Ct cQ tag k+0:=ct hi hc hl cQ;have e3:Ct cA (upd tag i l) k+0=Ct cA tag k+0:=ct hi hc hl cA;have e4:Ct cU (upd tag i l) k+0=Ct cU tag k+0:=ct hi hc hl cU;have e5:Ct cR (upd tag i l) k+0=Ct cR tag k+0:=ct hi hc hl cR;have e6:Ct dQ (upd tag i l) k+3=Ct dQ tag k+3:=ct hi hc hl dQ;have g1:1<=Ct Zk tag k:=cl hi hc Zk;refine⟨⟨?_,?_,?_,?_,?_,?_⟩,?_⟩<;>(try unfold Mu.mu)<;>(try dsimp only)<;>omega):G:=h
theorem Oz(h:G:=by obtain⟨f1,f2,f3,f4,f5,f6⟩:=F;have e0:Ct Zk (upd tag i l) k+0=Ct Zk tag k+0:=ct hi hc hl Zk;have e1:Ct cT (upd tag i l) k+0=Ct cT tag k+0:=ct hi hc hl cT;have e2:Ct cQ (upd tag i l) k+0=Ct cQ tag k+0:=ct hi hc hl cQ;have e3:Ct cA (upd tag i l) k+0=Ct cA tag k+0:=ct hi hc hl cA;have e4:Ct cU (upd tag i l) k+0=Ct cU tag k+0:=ct hi hc hl cU;have e5:Ct cR (upd tag i l) k+0=Ct cR tag k+0:=ct hi hc hl cR;have e6:Ct dQ (upd tag i l) k+0=Ct dQ tag k+0:=ct hi hc hl dQ;refine⟨⟨?_,?_,?_,?_,?_,?_⟩,?_⟩<;>(try unfold Mu.mu)<;>(try dsimp only)<;>omega):G:=h
open Go.ConcN (sumTo upd sumTo_upd upd_ne upd_same)
section
variable{x:Mu}{tag:Nat->List Nat}{k i more:Nat}{l:List Nat}
theorem Mu.JH(F:x.aJ tag k)(hi:i<k)(hc:cd (tag i)=2)(hl:cd l=10)(h:x.st=0):Mu.aJ { x with L:=1 } (upd tag i l) k/\Mu.mu { x with L:=1 } more (upd tag i l) k+6=x.mu more tag k+3:=by obtain⟨f1,f2,f3,f4,f5,f6⟩:=F;have e0:Ct Zk (upd tag i l) k+0=Ct Zk tag k+1:=ct hi hc hl Zk;have e1:Ct cT (upd tag i l) k+0=Ct cT tag k+0:=ct hi hc hl cT;have e2:Ct cQ (upd tag i l) k+0=Ct cQ tag k+0:=ct hi hc hl cQ;have e3:Ct cA (upd tag i l) k+0=Ct cA tag k+0:=ct hi hc hl cA;have e4:Ct cU (upd tag i l) k+0=Ct cU tag k+0:=ct hi hc hl cU;have e5:Ct cR (upd tag i l) k+0=Ct cR tag k+0:=ct hi hc hl cR;have e6:Ct dQ (upd tag i l) k+6=Ct dQ tag k+3:=ct hi hc hl dQ;unfold Mu.st at h;refine⟨⟨?_,?_,?_,?_,?_,?_⟩,?_⟩<;>(try unfold Mu.mu)<;>(try dsimp only)<;>omega
theorem Mu.DY(F:x.aJ tag k)(hi:i<k)(hc:cd (tag i)=4)(hl:cd l=5)(h:x.W=0)(h2:x.S=0):Mu.aJ { x with W:=1 } (upd tag i l) k/\Mu.mu { x with W:=1 } more (upd tag i l) k+6=x.mu more tag k+5:=by obtain⟨f1,f2,f3,f4,f5,f6⟩:=F;have e0:Ct Zk (upd tag i l) k+0=Ct Zk tag k+0:=ct hi hc hl Zk;have e1:Ct cT (upd tag i l) k+0=Ct cT tag k+1:=ct hi hc hl cT;have e2:Ct cQ (upd tag i l) k+0=Ct cQ tag k+0:=ct hi hc hl cQ;have e3:Ct cA (upd tag i l) k+0=Ct cA tag k+0:=ct hi hc hl cA;have e4:Ct cU (upd tag i l) k+0=Ct cU tag k+0:=ct hi hc hl cU;have e5:Ct cR (upd tag i l) k+0=Ct cR tag k+0:=ct hi hc hl cR;have e6:Ct dQ (upd tag i l) k+6=Ct dQ tag k+5:=ct hi hc hl dQ;refine⟨⟨?_,?_,?_,?_,?_,?_⟩,?_⟩<;>(try unfold Mu.mu)<;>(try dsimp only)<;>omega
theorem Mu.zF(F:x.aJ tag k)(hi:i<k)(hc:cd (tag i)=4)(hl:cd l=10)(h:x.L=0)(h2:x.S=0):Mu.aJ { x with L:=1 } (upd tag i l) k/\Mu.mu { x with L:=1 } more (upd tag i l) k+6=x.mu more tag k+3:=by obtain⟨f1,f2,f3,f4,f5,f6⟩:=F;have e0:Ct Zk (upd tag i l) k+0=Ct Zk tag k+1:=ct hi hc hl Zk;have e1:Ct cT (upd tag i l) k+0=Ct cT tag k+0:=ct hi hc hl cT;have e2:Ct cQ (upd tag i l) k+0=Ct cQ tag k+0:=ct hi hc hl cQ;have e3:Ct cA (upd tag i l) k+0=Ct cA tag k+0:=ct hi hc hl cA;have e4:Ct cU (upd tag i l) k+0=Ct cU tag k+0:=ct hi hc hl cU;have e5:Ct cR (upd tag i l) k+0=Ct cR tag k+0:=ct hi hc hl cR;have e6:Ct dQ (upd tag i l) k+6=Ct dQ tag k+3:=ct hi hc hl dQ;refine⟨⟨?_,?_,?_,?_,?_,?_⟩,?_⟩<;>(try unfold Mu.mu)<;>(try dsimp only)<;>omega
theorem Mu.zD(F:x.aJ tag k)(hi:i<k)(hc:cd (tag i)=6)(hl:cd l=10)(h:x.L=0)(h2:x.S=0):Mu.aJ { x with L:=1,W:=0 } (upd tag i l) k/\Mu.mu { x with L:=1,W:=0 } more (upd tag i l) k+5=x.mu more tag k+3:=by obtain⟨f1,f2,f3,f4,f5,f6⟩:=F;have e0:Ct Zk (upd tag i l) k+0=Ct Zk tag k+1:=ct hi hc hl Zk;have e1:Ct cT (upd tag i l) k+1=Ct cT tag k+0:=ct hi hc hl cT;have e2:Ct cQ (upd tag i l) k+0=Ct cQ tag k+0:=ct hi hc hl cQ;have e3:Ct cA (upd tag i l) k+0=Ct cA tag k+0:=ct hi hc hl cA;have e4:Ct cU (upd tag i l) k+0=Ct cU tag k+0:=ct hi hc hl cU;have e5:Ct cR (upd tag i l) k+0=Ct cR tag k+0:=ct hi hc hl cR;have e6:Ct dQ (upd tag i l) k+5=Ct dQ tag k+3:=ct hi hc hl dQ;have g2:1<=Ct cT tag k:=cl hi hc cT;refine⟨⟨?_,?_,?_,?_,?_,?_⟩,?_⟩<;>(try unfold Mu.mu)<;>(try dsimp only)<;>omega
theorem Mu.qS(F:x.aJ tag k)(hi:i<k)(hc:cd (tag i)=4)(hl:cd l=7)(h:x.L=1\/x.S=1):Mu.aJ { x with n:=x.n+1 } (upd tag i l) k/\Mu.mu { x with n:=x.n+1 } more (upd tag i l) k+6=x.mu more tag k+4:=by obtain⟨f1,f2,f3,f4,f5,f6⟩:=F;have e0:Ct Zk (upd tag i l) k+0=Ct Zk tag k+0:=ct hi hc hl Zk;have e1:Ct cT (upd tag i l) k+0=Ct cT tag k+0:=ct hi hc hl cT;have e2:Ct cQ (upd tag i l) k+0=Ct cQ tag k+1:=ct hi hc hl cQ;have e3:Ct cA (upd tag i l) k+0=Ct cA tag k+0:=ct hi hc hl cA;have e4:Ct cU (upd tag i l) k+0=Ct cU tag k+0:=ct hi hc hl cU;have e5:Ct cR (upd tag i l) k+0=Ct cR tag k+0:=ct hi hc hl cR;have e6:Ct dQ (upd tag i l) k+6=Ct dQ tag k+4:=ct hi hc hl dQ;refine⟨⟨?_,?_,?_,?_,?_,?_⟩,?_⟩<;>(try unfold Mu.mu)<;>(try dsimp only)<;>omega
theorem Mu.qR(F:x.aJ tag k)(hi:i<k)(hc:cd (tag i)=6)(hl:cd l=7)(h:x.L=1):Mu.aJ { x with n:=x.n+1,W:=0 } (upd tag i l) k/\Mu.mu { x with n:=x.n+1,W:=0 } more (upd tag i l) k+5=x.mu more tag k+4:=by exact Zig
theorem Mu.oC(F:x.aJ tag k)(hi:i<k)(hc:cd (tag i)=6)(hl:cd l=7)(h:x.L=1):Mu.aJ { x with n:=x.n+1,W:=0,S:=1 } (upd tag i l) k/\Mu.mu { x with n:=x.n+1,W:=0,S:=1 } more (upd tag i l) k+5=x.mu more tag k+4:=by exact Zig
theorem Mu.qN(F:x.aJ tag k)(hi:i<k)(hc:cd (tag i)=7)(hl:cd l=8)(h:0<x.sm):Mu.aJ { x with sm:=x.sm-1 } (upd tag i l) k/\Mu.mu { x with sm:=x.sm-1 } more (upd tag i l) k+5=x.mu more tag k+5:=by obtain⟨f1,f2,f3,f4,f5,f6⟩:=F;have e0:Ct Zk (upd tag i l) k+0=Ct Zk tag k+0:=ct hi hc hl Zk;have e1:Ct cT (upd tag i l) k+0=Ct cT tag k+0:=ct hi hc hl cT;have e2:Ct cQ (upd tag i l) k+1=Ct cQ tag k+0:=ct hi hc hl cQ;have e3:Ct cA (upd tag i l) k+0=Ct cA tag k+1:=ct hi hc hl cA;have e4:Ct cU (upd tag i l) k+0=Ct cU tag k+0:=ct hi hc hl cU;have e5:Ct cR (upd tag i l) k+0=Ct cR tag k+0:=ct hi hc hl cR;have e6:Ct dQ (upd tag i l) k+4=Ct dQ tag k+5:=ct hi hc hl dQ;have g3:1<=Ct cQ tag k:=cl hi hc cQ;refine⟨⟨?_,?_,?_,?_,?_,?_⟩,?_⟩<;>(try unfold Mu.mu)<;>(try dsimp only)<;>omega
theorem Mu.vC(F:x.aJ tag k)(hi:i<k)(hc:cd (tag i)=8)(hl:cd l=6)(h:x.S=0):Mu.aJ x (upd tag i l) k/\Mu.mu x more (upd tag i l) k+5=x.mu more tag k+5:=by obtain⟨f1,f2,f3,f4,f5,f6⟩:=F;have e0:Ct Zk (upd tag i l) k+0=Ct Zk tag k+0:=ct hi hc hl Zk;have e1:Ct cT (upd tag i l) k+0=Ct cT tag k+1:=ct hi hc hl cT;have e2:Ct cQ (upd tag i l) k+0=Ct cQ tag k+0:=ct hi hc hl cQ;have e3:Ct cA (upd tag i l) k+1=Ct cA tag k+0:=ct hi hc hl cA;exact Zic
theorem Mu.y7(F:x.aJ tag k)(hi:i<k)(hc:cd (tag i)=8)(hl:cd l=9)(h:x.S=1):Mu.aJ x (upd tag i l) k/\Mu.mu x more (upd tag i l) k+5=x.mu more tag k+5:=by obtain⟨f1,f2,f3,f4,f5,f6⟩:=F;have e0:Ct Zk (upd tag i l) k+0=Ct Zk tag k+0:=ct hi hc hl Zk;have e1:Ct cT (upd tag i l) k+0=Ct cT tag k+0:=ct hi hc hl cT;have e2:Ct cQ (upd tag i l) k+0=Ct cQ tag k+0:=ct hi hc hl cQ;have e3:Ct cA (upd tag i l) k+1=Ct cA tag k+1:=ct hi hc hl cA;exact Zic
theorem Mu.hand(F:x.aJ tag k)(hi:i<k)(hc:cd (tag i)=9)(hl:cd l=10)(h:x.S=1)(h2:2<=x.n):Mu.aJ { x with L:=1,n:=x.n-1 } (upd tag i l) k/\Mu.mu { x with L:=1,n:=x.n-1 } more (upd tag i l) k+5=x.mu more tag k+3:=by exact Zif
theorem Mu.BU(F:x.aJ tag k)(hi:i<k)(hc:cd (tag i)=9)(hl:cd l=10)(h:x.S=1):Mu.aJ { x with L:=1,n:=x.n-1,S:=0 } (upd tag i l) k/\Mu.mu { x with L:=1,n:=x.n-1,S:=0 } more (upd tag i l) k+5=x.mu more tag k+3:=by exact Zif
theorem Mu.qM(F:x.aJ tag k)(hi:i<k)(hc:cd (tag i)=14)(hl:cd l=18)(h:x.S=0)(h2:x.n=0\/x.W=1):Mu.aJ { x with L:=0 } (upd tag i l) k/\Mu.mu { x with L:=0 } more (upd tag i l) k+3=x.mu more tag k+0:=by obtain⟨f1,f2,f3,f4,f5,f6⟩:=F;have e0:Ct Zk (upd tag i l) k+1=Ct Zk tag k+0:=ct hi hc hl Zk;have e1:Ct cT (upd tag i l) k+0=Ct cT tag k+0:=ct hi hc hl cT;have e2:Ct cQ (upd tag i l) k+0=Ct cQ tag k+0:=ct hi hc hl cQ;have e3:Ct cA (upd tag i l) k+0=Ct cA tag k+0:=ct hi hc hl cA;have e4:Ct cU (upd tag i l) k+0=Ct cU tag k+0:=ct hi hc hl cU;have e5:Ct cR (upd tag i l) k+0=Ct cR tag k+0:=ct hi hc hl cR;have e6:Ct dQ (upd tag i l) k+3=Ct dQ tag k+0:=ct hi hc hl dQ;exact Mn
theorem Mu.n6(F:x.aJ tag k)(hi:i<k)(hc:cd (tag i)=14)(hl:cd l=15)(h:x.S=0):Mu.aJ { x with L:=0 } (upd tag i l) k/\Mu.mu { x with L:=0 } more (upd tag i l) k+3=x.mu more tag k+2:=by obtain⟨f1,f2,f3,f4,f5,f6⟩:=F;have e0:Ct Zk (upd tag i l) k+1=Ct Zk tag k+0:=ct hi hc hl Zk;have e1:Ct cT (upd tag i l) k+0=Ct cT tag k+0:=ct hi hc hl cT;have e2:Ct cQ (upd tag i l) k+0=Ct cQ tag k+0:=ct hi hc hl cQ;have e3:Ct cA (upd tag i l) k+0=Ct cA tag k+0:=ct hi hc hl cA;have e4:Ct cU (upd tag i l) k+0=Ct cU tag k+1:=ct hi hc hl cU;have e5:Ct cR (upd tag i l) k+0=Ct cR tag k+0:=ct hi hc hl cR;have e6:Ct dQ (upd tag i l) k+3=Ct dQ tag k+2:=ct hi hc hl dQ;exact Mn
theorem Mu.qL(F:x.aJ tag k)(hi:i<k)(hc:cd (tag i)=14)(hl:cd l=17)(h:x.S=1):Mu.aJ { x with L:=0 } (upd tag i l) k/\Mu.mu { x with L:=0 } more (upd tag i l) k+3=x.mu more tag k+1:=by obtain⟨f1,f2,f3,f4,f5,f6⟩:=F;have e0:Ct Zk (upd tag i l) k+1=Ct Zk tag k+0:=ct hi hc hl Zk;have e1:Ct cT (upd tag i l) k+0=Ct cT tag k+0:=ct hi hc hl cT;have e2:Ct cQ (upd tag i l) k+0=Ct cQ tag k+0:=ct hi hc hl cQ;have e3:Ct cA (upd tag i l) k+0=Ct cA tag k+0:=ct hi hc hl cA;have e4:Ct cU (upd tag i l) k+0=Ct cU tag k+0:=ct hi hc hl cU;have e5:Ct cR (upd tag i l) k+0=Ct cR tag k+1:=ct hi hc hl cR;have e6:Ct dQ (upd tag i l) k+3=Ct dQ tag k+1:=ct hi hc hl dQ;exact Mn
theorem Mu.B0(F:x.aJ tag k)(hi:i<k)(hc:cd (tag i)=15)(hl:cd l=17)(h:x.L=0)(h2:x.W=0)(h3:x.S=0)(h4:0<x.n):Mu.aJ { x with n:=x.n-1,W:=1 } (upd tag i l) k/\Mu.mu { x with n:=x.n-1,W:=1 } more (upd tag i l) k+2=x.mu more tag k+1:=by obtain⟨f1,f2,f3,f4,f5,f6⟩:=F;have e0:Ct Zk (upd tag i l) k+0=Ct Zk tag k+0:=ct hi hc hl Zk;have e1:Ct cT (upd tag i l) k+0=Ct cT tag k+0:=ct hi hc hl cT;have e2:Ct cQ (upd tag i l) k+0=Ct cQ tag k+0:=ct hi hc hl cQ;have e3:Ct cA (upd tag i l) k+0=Ct cA tag k+0:=ct hi hc hl cA;have e4:Ct cU (upd tag i l) k+1=Ct cU tag k+0:=ct hi hc hl cU;have e5:Ct cR (upd tag i l) k+0=Ct cR tag k+1:=ct hi hc hl cR;have e6:Ct dQ (upd tag i l) k+2=Ct dQ tag k+1:=ct hi hc hl dQ;have g5:1<=Ct cU tag k:=cl hi hc cU;refine⟨⟨?_,?_,?_,?_,?_,?_⟩,?_⟩<;>(try unfold Mu.mu)<;>(try dsimp only)<;>omega
theorem Mu.t5(F:x.aJ tag k)(hi:i<k)(hc:cd (tag i)=17)(hl:cd l=18) :Mu.aJ { x with sm:=x.sm+1 } (upd tag i l) k/\Mu.mu { x with sm:=x.sm+1 } more (upd tag i l) k+1=x.mu more tag k+1:=by obtain⟨f1,f2,f3,f4,f5,f6⟩:=F;have e0:Ct Zk (upd tag i l) k+0=Ct Zk tag k+0:=ct hi hc hl Zk;have e1:Ct cT (upd tag i l) k+0=Ct cT tag k+0:=ct hi hc hl cT;have e2:Ct cQ (upd tag i l) k+0=Ct cQ tag k+0:=ct hi hc hl cQ;have e3:Ct cA (upd tag i l) k+0=Ct cA tag k+0:=ct hi hc hl cA;have e4:Ct cU (upd tag i l) k+0=Ct cU tag k+0:=ct hi hc hl cU;have e5:Ct cR (upd tag i l) k+1=Ct cR tag k+0:=ct hi hc hl cR;have e6:Ct dQ (upd tag i l) k+1=Ct dQ tag k+0:=ct hi hc hl dQ;have g6:1<=Ct cR tag k:=cl hi hc cR;refine⟨⟨?_,?_,?_,?_,?_,?_⟩,?_⟩<;>(try unfold Mu.mu)<;>(try dsimp only)<;>omega
theorem Mu.uH(F:x.aJ tag k)(hi:i<k)(hc:cd (tag i)=16)(hl:cd l=18)(h:x.L=1\/x.W=1\/x.S=1\/x.n=0):Mu.aJ x (upd tag i l) k/\Mu.mu x more (upd tag i l) k+2=x.mu more tag k+0:=by obtain⟨f1,f2,f3,f4,f5,f6⟩:=F;have e0:Ct Zk (upd tag i l) k+0=Ct Zk tag k+0:=ct hi hc hl Zk;have e1:Ct cT (upd tag i l) k+0=Ct cT tag k+0:=ct hi hc hl cT;have e2:Ct cQ (upd tag i l) k+0=Ct cQ tag k+0:=ct hi hc hl cQ;have e3:Ct cA (upd tag i l) k+0=Ct cA tag k+0:=ct hi hc hl cA;have e4:Ct cU (upd tag i l) k+1=Ct cU tag k+0:=ct hi hc hl cU;have e5:Ct cR (upd tag i l) k+0=Ct cR tag k+0:=ct hi hc hl cR;have e6:Ct dQ (upd tag i l) k+2=Ct dQ tag k+0:=ct hi hc hl dQ;have g5:1<=Ct cU tag k:=cl hi hc cU;refine⟨⟨?_,?_,?_,?_,?_,?_⟩,?_⟩<;>(try unfold Mu.mu)<;>(try dsimp only)<;>omega
theorem Mu.qP(F:x.aJ tag k)(hi:i<k)(hc:cd (tag i)=1)(hl:cd l=2) :Mu.aJ x (upd tag i l) k/\Mu.mu x more (upd tag i l) k+6=x.mu more tag k+6:=by exact Cq
theorem Mu.qO(F:x.aJ tag k)(hi:i<k)(hc:cd (tag i)=2)(hl:cd l=3) :Mu.aJ x (upd tag i l) k/\Mu.mu x more (upd tag i l) k+6=x.mu more tag k+6:=by exact Cq
theorem Mu.oB(F:x.aJ tag k)(hi:i<k)(hc:cd (tag i)=3)(hl:cd l=4) :Mu.aJ x (upd tag i l) k/\Mu.mu x more (upd tag i l) k+6=x.mu more tag k+6:=by exact Cq
theorem Mu.oA(F:x.aJ tag k)(hi:i<k)(hc:cd (tag i)=4)(hl:cd l=3) :Mu.aJ x (upd tag i l) k/\Mu.mu x more (upd tag i l) k+6=x.mu more tag k+6:=by exact Cq
theorem Mu.n9(F:x.aJ tag k)(hi:i<k)(hc:cd (tag i)=5)(hl:cd l=6) :Mu.aJ x (upd tag i l) k/\Mu.mu x more (upd tag i l) k+5=x.mu more tag k+5:=by exact Zie
theorem Mu.n8(F:x.aJ tag k)(hi:i<k)(hc:cd (tag i)=6)(hl:cd l=5) :Mu.aJ x (upd tag i l) k/\Mu.mu x more (upd tag i l) k+5=x.mu more tag k+5:=by exact Zie
theorem Mu.mU(F:x.aJ tag k)(hi:i<k)(hc:cd (tag i)=10)(hl:cd l=11) :Mu.aJ x (upd tag i l) k/\Mu.mu x more (upd tag i l) k+3=x.mu more tag k+3:=by exact Cp
theorem Mu.xJ(F:x.aJ tag k)(hi:i<k)(hc:cd (tag i)=11)(hl:cd l=12) :Mu.aJ x (upd tag i l) k/\Mu.mu x more (upd tag i l) k+3=x.mu more tag k+3:=by exact Cp
theorem Mu.xI(F:x.aJ tag k)(hi:i<k)(hc:cd (tag i)=12)(hl:cd l=13) :Mu.aJ x (upd tag i l) k/\Mu.mu x more (upd tag i l) k+3=x.mu more tag k+3:=by exact Cp
theorem Mu.mT(F:x.aJ tag k)(hi:i<k)(hc:cd (tag i)=13)(hl:cd l=14) :Mu.aJ x (upd tag i l) k/\Mu.mu x more (upd tag i l) k+3=x.mu more tag k+3:=by exact Cp
theorem Mu.mS(F:x.aJ tag k)(hi:i<k)(hc:cd (tag i)=15)(hl:cd l=16) :Mu.aJ x (upd tag i l) k/\Mu.mu x more (upd tag i l) k+2=x.mu more tag k+2:=by exact Zid
theorem Mu.mR(F:x.aJ tag k)(hi:i<k)(hc:cd (tag i)=16)(hl:cd l=15) :Mu.aJ x (upd tag i l) k/\Mu.mu x more (upd tag i l) k+2=x.mu more tag k+2:=by exact Zid
theorem Mu.mQ(F:x.aJ tag k)(hi:i<k)(hc:cd (tag i)=18)(hl:cd l=19) :Mu.aJ x (upd tag i l) k/\Mu.mu x more (upd tag i l) k+0=x.mu more tag k+0:=by exact Oz
theorem Mu.mO(F:x.aJ tag k)(hi:i<k)(hc:cd (tag i)=19)(hl:cd l=20) :Mu.aJ x (upd tag i l) k/\Mu.mu x more (upd tag i l) k+0=x.mu more tag k+0:=by exact Oz
theorem Mu.mN(F:x.aJ tag k)(hi:i<k)(hc:cd (tag i)=20)(hl:cd l=21) :Mu.aJ x (upd tag i l) k/\Mu.mu x more (upd tag i l) k+0=x.mu more tag k+0:=by exact Oz
theorem Mu.xH(F:x.aJ tag k)(hi:i<k)(hc:cd (tag i)=21)(hl:cd l=22) :Mu.aJ x (upd tag i l) k/\Mu.mu x more (upd tag i l) k+0=x.mu more tag k+0:=by exact Oz
theorem Mu.mM(F:x.aJ tag k)(hi:i<k)(hc:cd (tag i)=22)(hl:cd l=23) :Mu.aJ x (upd tag i l) k/\Mu.mu x more (upd tag i l) k+0=x.mu more tag k+0:=by exact Oz
theorem Mu.xG(F:x.aJ tag k)(hi:i<k)(hc:cd (tag i)=23)(hl:cd l=24) :Mu.aJ x (upd tag i l) k/\Mu.mu x more (upd tag i l) k+0=x.mu more tag k+0:=by exact Oz
theorem Mu.zX(F:x.aJ tag k)(hi:i<k)(hc:cd (tag i)=21)(hl:cd l=0) :Mu.aJ x (upd tag i l) k/\Mu.mu x more (upd tag i l) k+0=x.mu more tag k+0:=by exact Oz
theorem Mu.zV(F:x.aJ tag k)(hi:i<k)(hc:cd (tag i)=24)(hl:cd l=0) :Mu.aJ x (upd tag i l) k/\Mu.mu x more (upd tag i l) k+0=x.mu more tag k+0:=by exact Oz
end
end
variable{n m:Prop}{a b d e k:Nat}{tag:Nat->List Nat}
open Go.Conc
open Go.ConcN (sumTo upd sumTo_upd upd_ne upd_same)
theorem Oo.low(h:Oo n m a)(a1:2<=a)(a2:a<=12)(b1:2<=b)(b2:b<=12):Oo n m b:=⟨λe=>O,λ_ _=>h.2.1 a1 a2,λe=>O⟩
theorem Oo.sF(h:Oo n m a)(a1:13<=a)(b1:b=0\/13<=b):Oo n m b:=⟨λe=>O,λe e'=>O,λ_=>h.2.2 (.inr a1)⟩
theorem Oo.start(h:Oo n m 1)(hn:n):Oo n m 2:=⟨λe=>O,λ_ _=>⟨hn,h.1 rfl⟩,λe=>O⟩
theorem ZO(h:a+d=b+e)(he:e<=d):a<=b:=O
theorem Uq(h:a+d=b+e)(he:e<d):a≠b:=O
section
variable{c:Cx}{s:Ts}{i:Nat}{l:List Nat}
theorem Mu.dI{x:Mu}{m:Nat}{l:List Nat}(h:30<=cd l):x.dM m l:=by unfold Mu.dM;split<;>first | (simp[cd]at h;done) | trivial
theorem Mu.aJ.main{x:Mu}{more:Nat}{l:List Nat}(F:x.aJ tag k)(hk:0<k)(hc:30<=cd (tag 0))(hl:30<=cd l):Mu.aJ x (upd tag 0 l) k/\Mu.mu x more (upd tag 0 l) k=x.mu more tag k:=by
 have z:∀n,30<=n->Zk n=0/\cT n=0/\cQ n=0/\cA n=0/\cU n=0/\cR n=0/\dQ n=0:=by
  intro n hn;refine⟨?_,?_,?_,?_,?_,?_,?_⟩
  ·simp[Zk,one];omega
  ·simp[cT,one];omega
  ·simp[cQ,one];omega
  ·simp[cA,one];omega
  ·simp[cU,one];omega
  ·simp[cR,one];omega
  simp only[dQ];have e1:(1<=n && n<=4)=false:=by simp;omega
  have e2:(n == 5 || n == 6 || n == 8 || n == 9)=false:=by simp;omega
  have e3:(n == 7)=false:=by simp;omega
  have e4:(10<=n && n<=14)=false:=by simp;omega
  have e5:(n == 15 || n == 16)=false:=by simp;omega
  have e6:(n == 17)=false:=by simp;omega
  simp[e1,e2,e3,e4,e5,e6]
 obtain⟨a1,a2,a3,a4,a5,a6,a7⟩:=z _ hc;obtain⟨b1,b2,b3,b4,b5,b6,b7⟩:=z _ hl;have q:∀f:Nat->Nat,f (cd (tag 0))=0->f (cd l)=0->Ct f (upd tag 0 l) k=Ct f tag k:=by intro f h1 h2;have:=counts (tag:=tag) (l:=l) hk f;omega
 refine⟨⟨?_,F.L2,F.W1,F.S1,?_,?_⟩,?_⟩
 ·rw[q _ a1 b1];exact F.L1
 ·rw[q _ a3 b3,q _ a6 b6,q _ a2 b2,q _ a4 b4,q _ a5 b5];exact F.norm
 ·rw[q _ a3 b3,q _ a6 b6,q _ a2 b2,q _ a4 b4];exact F.starv
 unfold Mu.mu;rw[q _ a7 b7]
theorem Mu.aJ.lX{x:Mu}{i j:Nat}(F:x.aJ tag k)(hi:i<k)(hj:j<k)(gO:j≠i)(h9:cd (tag j)=9)(hS:x.S=1) :
  x.L=0/\x.W=0/\x.sm=0/\Zk (cd (tag i))=0/\cR (cd (tag i))=0/\cA (cd (tag i))=0:=by
 have h:=F.starv hS;have hA:cA (cd (tag j))+cA (cd (tag i))<=Ct cA tag k:=by have e1:=counts (tag:=tag) (l:=[0]) hi cA;have e2:=Ct.le cA (upd tag i [0]) hj;rw[upd_ne _ _ gO]at e2;have:cA (cd [0])=0:=rfl;omega
 have hR:=Ct.le cR tag hi;have hH:=Ct.le Zk tag hi;have:cA (cd (tag j))=1:=by rw[h9];rfl
 have:=F.L1;omega
theorem bK.step(h:bK c s)(hi:i<s.next)(gZ:i=0\/c.base<=i){x':Mu}(y':Wg)(rT:Mu.aJ x' (upd s.tag i l) s.next)(Hi:Mu.mu x' s.pm (upd s.tag i l) s.next<=Mu.mu s.mu s.pm s.tag s.next)
  (bB:Mu.mu x' s.pm (upd s.tag i l) s.next=Mu.mu s.mu s.pm s.tag s.next->x'.st=s.mu.st) (h9:∀j,j<s.next->j≠i->cd (s.tag j)=9->s.mu.S=1->x'.S=1/\s.mu.n<=x'.n)
  (hwg:Wg.aJ y' (upd s.tag i l) s.next s.more) (N8:x'.dM (Mu.mu x' s.pm (upd s.tag i l) s.next) l) (sR:(i=0->∀v,(l=[35,v]->y'.v<=v)/\(l=[34,v]->y'.v<v))/\(i=0->∀k n,k<=33->l=[k,n]->s.next=c.base+n)/\(i≠0->y'.v<=s.wg.v))
  (JA:cd l=12->l=12 :: s.kP) (hw:i≠0->c.base<=i->cd l<=24/\(cd l=0->l=[0])) (BL:i≠0->Oo (c.need (s.hd i)=true) (s.hd i∈s.kP) (cd (s.tag i))->Oo (c.need (s.hd i)=true) (s.hd i∈s.kP) (cd l))
  (fJ:s.cls=false->i≠0->1<=cd l/\cd l<=19/\l≠[19,1]) (Hn:i=0->34<=cd l->s.cls=true) :
  bK c { s with mu:=x',wg:=y',tag:=upd s.tag i l }:=by
 refine⟨rT,hwg,λj hj=>?_,λv=>?_,λk n hk hl=>?_,λj hj hc=>?_,h.num,h.pos,h.nb,λj h1 h2=>?_,λj h1 h2=>?_,h.HC,h.qY,λj h1 h2=>?_,h.uX,h.FU,h.C5,h.uS,h.pC,λbU j h1 h2=>?_,λh1=>?_⟩
 ·by_cases e:j=i
  ·subst e;simp only[upd_same];exact N8
  simp only[upd_ne _ _ e];exact(h.oS j hj).keep Hi bB λhc hS=>h9 j hj e hc hS
 ·by_cases e:i=0
  ·subst e;simp only[upd_same];exact sR.1 rfl v
  simp only[upd_ne _ _ (qAi e)];exact⟨λhv=>qAT (sR.2.2 e) ((h.oQ v).1 hv),λhv=>qBj (sR.2.2 e) ((h.oQ v).2 hv)⟩
 ·by_cases e:i=0
  ·subst e;simp only[upd_same]at hl;exact sR.2.1 rfl k n hk hl
  simp only[upd_ne _ _ (qAi e)]at hl;exact h.nV k n hk hl
 ·by_cases e:j=i
  ·subst e;simp only[upd_same]at hc ⊢;exact JA hc
  simp only[upd_ne _ _ e]at hc ⊢;exact h.tk j hj hc
 ·have:j≠i:=by rintro rfl;omega
  simp only[upd_ne _ _ this];exact h.kO j h1 h2
 ·by_cases e:j=i
  ·subst e;simp only[upd_same];exact hw (by have:=h.pos;omega) h1
  simp only[upd_ne _ _ e];exact h.kW j h1 h2
 ·by_cases e:j=i
  ·subst e;simp only[upd_same];exact BL (by have:=h.pos;omega) (h.AH j h1 h2)
  simp only[upd_ne _ _ e];exact h.AH j h1 h2
 ·by_cases e:j=i
  ·subst e;simp only[upd_same];exact fJ bU (by have:=h.pos;omega)
  simp only[upd_ne _ _ e];exact h.run bU j h1 h2
 by_cases e:i=0
 ·subst e;simp only[upd_same]at h1;exact Hn rfl h1
 simp only[upd_ne _ _ (qAi e)]at h1;exact h.yT h1
end
