import Derived.Test.YtmfealhfgccmfaaGreatDoorP12
import Derived.Conc.AtomicLaws2
import Derived.Conc.MarkLaws
import Derived.Conc.ClockLaws
set_option linter.all false
def D3{G:Prop}(h:G:=by exact⟨by simp[MemAct.ofEvent],λa ha=>by simp[MemAct.ofEvent,MemAct.touch?]at ha⟩):G:=h
def TH{G:Prop}(h:G:=by refine⟨by simp[MemAct.ofEvent],λa ha _=>?_⟩;simp[MemAct.ofEvent,MemAct.touch?]at ha;subst ha;exact⟨⟨C.W,rfl,.inr rfl⟩,by simp,λ_=>h0,λh=>absurd h0 h⟩):G:=h
def vT{G:Prop}(h:G:=by exact λj hj Tl h9 hS=>⟨hS,DO _⟩):G:=h
namespace Go.LL
section
variable{n m:Prop}{a b d e k:Nat}{tag:Nat->List Nat}
open Go.Conc
open Go.ConcN (sumTo upd sumTo_upd upd_ne upd_same)
def Ov.low(h:Ov n m a)(g:2<=a)(j:a<=12)(o:2<=b)(q:b<=12):Ov n m b:=⟨λe=>O,λ_ _=>h.2.1 g j,λe=>O⟩
def Ov.RG(h:Ov n m a)(g:13<=a)(j:b=0\/13<=b):Ov n m b:=⟨λe=>O,λe o=>O,λ_=>h.2.2 (.inr g)⟩
def Ov.start(h:Ov n m 1)(g:n):Ov n m 2:=⟨λe=>O,λ_ _=>⟨g,h.1 rfl⟩,λe=>O⟩
def OM(h:a+d=b+e)(g:e<=d):a<=b:=O
def Zt1(h:a+d=b+e)(g:e<d):a≠b:=O
section
variable{c:Cx}{s:Ts}{i:Nat}{l:List Nat}
def Mu.m5{x:Mu}{m:Nat}{l:List Nat}(h:30<=cd l):x.lO m l:=by unfold Mu.lO;split<;>first | (simp[cd]at h;done) | trivial
def Mu.fF.main{x:Mu}{more:Nat}{l:List Nat}(F:x.fF tag k)(R:0<k)(Q:30<=cd (tag 0))(S:30<=cd l):Mu.fF x (upd tag 0 l) k/\Mu.mu x more (upd tag 0 l) k=x.mu more tag k:=by
 have z:∀n,30<=n->Yz n=0/\cT n=0/\cQ n=0/\cA n=0/\cU n=0/\cR n=0/\lD n=0:=by
  intro n V;refine⟨?_,?_,?_,?_,?_,?_,?_⟩
  ·simp[Yz,one];omega
  ·simp[cT,one];omega
  ·simp[cQ,one];omega
  ·simp[cA,one];omega
  ·simp[cU,one];omega
  ·simp[cR,one];omega
  simp only[lD];have J:(1<=n && n<=4)=false:=by simp;omega
  have K:(n == 5 || n == 6 || n == 8 || n == 9)=false:=by simp;omega
  have L:(n == 7)=false:=by simp;omega
  have M:(10<=n && n<=14)=false:=by simp;omega
  have N:(n == 15 || n == 16)=false:=by simp;omega
  have O:(n == 17)=false:=by simp;omega
  simp[J,K,L,M,N,O]
 obtain⟨y,g,a3,a4,A,h,B⟩:=z _ Q;obtain⟨D,j,o,r,E,u,I⟩:=z _ S;have q:∀f:Nat->Nat,f (cd (tag 0))=0->f (cd l)=0->Ct f (upd tag 0 l) k=Ct f tag k:=by intro f T U;have:=counts (tag:=tag) (l:=l) R f;omega
 refine⟨⟨?_,F.L2,F.W1,F.S1,?_,?_⟩,?_⟩
 ·rw[q _ y D];exact F.L1
 ·rw[q _ a3 o,q _ h u,q _ g j,q _ a4 r,q _ A E];exact F.norm
 ·rw[q _ a3 o,q _ h u,q _ g j,q _ a4 r];exact F.starv
 unfold Mu.mu;rw[q _ B I]
def Mu.fF.RK{x:Mu}{i j:Nat}(F:x.fF tag k)(g:i<k)(y:j<k)(o:j≠i)(r:cd (tag j)=9)(u:x.S=1) :
  x.L=0/\x.W=0/\x.sm=0/\Yz (cd (tag i))=0/\cR (cd (tag i))=0/\cA (cd (tag i))=0:=by
 have h:=F.starv u;have A:cA (cd (tag j))+cA (cd (tag i))<=Ct cA tag k:=by have z:=counts (tag:=tag) (l:=[0]) g cA;have q:=Ct.le cA (upd tag i [0]) y;rw[upd_ne _ _ o]at q;have:cA (cd [0])=0:=rfl;omega
 have D:=Ct.le cR tag g;have B:=Ct.le Yz tag g;have:cA (cd (tag j))=1:=by rw[r];rfl
 have:=F.L1;omega
def fY.step(h:fY c s)(V:i<s.next)(J:i=0\/c.base<=i){q:Mu}(D:Wg)(L:Mu.fF q (upd s.tag i l) s.next)(K:Mu.mu q s.pm (upd s.tag i l) s.next<=Mu.mu s.mu s.pm s.tag s.next)
  (M:Mu.mu q s.pm (upd s.tag i l) s.next=Mu.mu s.mu s.pm s.tag s.next->q.st=s.mu.st) (R:∀j,j<s.next->j≠i->cd (s.tag j)=9->s.mu.S=1->q.S=1/\s.mu.n<=q.n)
  (O:Wg.fF D (upd s.tag i l) s.next s.more) (u:q.lO (Mu.mu q s.pm (upd s.tag i l) s.next) l) (o:(i=0->∀v,(l=[35,v]->D.v<=v)/\(l=[34,v]->D.v<v))/\(i=0->∀k n,k<=33->l=[k,n]->s.next=c.base+n)/\(i≠0->D.v<=s.wg.v))
  (I:cd l=12->l=12 :: s.m9) (U:i≠0->c.base<=i->cd l<=24/\(cd l=0->l=[0])) (z:i≠0->Ov (c.need (s.hd i)=true) (s.hd i∈s.m9) (cd (s.tag i))->Ov (c.need (s.hd i)=true) (s.hd i∈s.m9) (cd l))
  (B:s.cls=false->i≠0->1<=cd l/\cd l<=19/\l≠[19,1]) (A:i=0->34<=cd l->s.cls=true) :
  fY c { s with mu:=q,wg:=D,tag:=upd s.tag i l }:=by
 refine⟨L,O,λj E=>?_,λv=>?_,λk n Q F=>?_,λj E x=>?_,h.num,h.pos,h.nb,λj g r=>?_,λj g r=>?_,h.lnd,h.lmem,λj g r=>?_,h.hd0,h.mle,h.hdw,h.hinj,h.compl,λy j g r=>?_,λg=>?_⟩
 ·by_cases e:j=i
  ·subst e;simp only[upd_same];exact u
  simp only[upd_ne _ _ e];exact(h.says j E).keep K M λx T=>R j E e x T
 ·by_cases e:i=0
  ·subst e;simp only[upd_same];exact o.1 rfl v
  simp only[upd_ne _ _ (qAo e)];exact⟨λN=>qAP (o.2.2 e) ((h.saysM v).1 N),λN=>qBB (o.2.2 e) ((h.saysM v).2 N)⟩
 ·by_cases e:i=0
  ·subst e;simp only[upd_same]at F;exact o.2.1 rfl k n Q F
  simp only[upd_ne _ _ (qAo e)]at F;exact h.cntN k n Q F
 ·by_cases e:j=i
  ·subst e;simp only[upd_same]at x ⊢;exact I x
  simp only[upd_ne _ _ e]at x ⊢;exact h.tk j E x
 ·have:j≠i:=by rintro rfl;omega
  simp only[upd_ne _ _ this];exact h.olds j g r
 ·by_cases e:j=i
  ·subst e;simp only[upd_same];exact U (by have:=h.pos;omega) g
  simp only[upd_ne _ _ e];exact h.works j g r
 ·by_cases e:j=i
  ·subst e;simp only[upd_same];exact z (by have:=h.pos;omega) (h.lwk j g r)
  simp only[upd_ne _ _ e];exact h.lwk j g r
 ·by_cases e:j=i
  ·subst e;simp only[upd_same];exact B y (by have:=h.pos;omega)
  simp only[upd_ne _ _ e];exact h.run y j g r
 by_cases e:i=0
 ·subst e;simp only[upd_same]at g;exact A rfl g
 simp only[upd_ne _ _ (qAo e)]at g;exact h.NS g
end
end
section
variable{G:Prop}
open Go.ConcN (sumTo upd sumTo_upd upd_ne upd_same)
abbrev CS(c:Cx)(s:Ts)(i:Nat)(l:List Nat)(x:Mu)(a b:Nat):Prop:=Mu.lO x (Mu.mu x s.pm (upd s.tag i l) s.next) l->fY c { s with mu:=x,tag:=upd s.tag i l }/\Mu.mu x s.pm (upd s.tag i l) s.next+a=Mu.mu s.mu s.pm s.tag s.next+b
def fY.tW(h:G:=by
  intro hy;have kL:i≠0:=by have:=h.pos;omega
  obtain⟨h1,h2⟩:=q;refine⟨h.step hi (.inr hb) s.wg h1 (OM h2 (by decide)) ?_ ?_ (w h.wg hi kL hc hl) hy ⟨λe=>absurd e kL,λe=>absurd e kL,λ_=>DO _⟩ (λe=>O) (λ_ _=>⟨O,λe=>O⟩) (λ_ B7=>?_) ?_ (λe=>absurd e kL),h2⟩
  ·first | exact λ_=>rfl | exact λe=>absurd e (Zt1 h2 (by decide))
  ·intro j hj Tl h9 hS;have:=h.mu.RK hi hj Tl h9 hS;rw[hc]at this;first
   | exact⟨by first | exact hS | rfl,by first | exact DO _ | exact Nat.le_succ _⟩
   | (exfalso;first | omega | (unfold Mu.st at kh;omega) | (simp[Yz,cT,cQ,cA,cU,cR,one]at this<;>omega))
  ·rw[hc]at B7;rw[hl];first | exact B7.start pJ | exact B7.low O O O O | exact B7.RG O O
  first
  | exact λ_ _=>⟨O,O,h19⟩
  | exact λe=>by have:=(h.run e i hb hi).2.1;omega
  | exact λe=>by rw[Wf]at e;simp at e
  | exact λ_ _=>⟨O,O,λe=>by rw[e]at hl;simp[cd]at hl⟩):G:=h
def fY.tM(h:G:=by
  obtain⟨h1,h2⟩:=h.mu.main (more:=s.pm) (l:=l) h.next0 O O;refine h.step h.next0 (.inl rfl) _ h1 (qDw h2) (λ_=>rfl) (λj hj Tl h9 hS=>⟨hS,DO _⟩) w (Mu.m5 O) ⟨λ_ v=>⟨λe=>?_,λe=>?_⟩,λ_ k n hk e=>?_,λe=>absurd rfl e⟩ (λe=>O) (λe=>absurd rfl e) (λe=>absurd rfl e) (λ_ e=>absurd rfl e) (λ_ e=>?_)
  ·first | exact hv v e | (rw[e]at hl;simp[cd]at hl)
  ·first | exact hv v e | (rw[e]at hl;simp[cd]at hl)
  ·first | exact hn k n e | (rw[e]at hl;simp[cd]at hl;omega)
  first | omega | exact qB | exact h.NS O):G:=h
section
variable{c:Cx}{s:Ts}{i:Nat}{l:List Nat}
def fY.LY(h:fY c s)(hi:i<s.next)(hb:c.base<=i)(hc:cd (s.tag i)=2)(hl:cd l=10)(kh:s.mu.st=0) :CS c s i l { s.mu with L:=1 } 6 3:=by have q:=Mu.LY (more:=s.pm) (l:=l) h.mu hi hc hl kh;have w:=@Wg.z5;exact fY.tW
def fY.C4(h:fY c s)(hi:i<s.next)(hb:c.base<=i)(hc:cd (s.tag i)=4)(hl:cd l=5)(kh:s.mu.W=0)(g:s.mu.S=0) :CS c s i l { s.mu with W:=1 } 6 5:=by have q:=Mu.C4 (more:=s.pm) (l:=l) h.mu hi hc hl kh g;have w:=@Wg.CW;exact fY.tW
def fY.zS(h:fY c s)(hi:i<s.next)(hb:c.base<=i)(hc:cd (s.tag i)=4)(hl:cd l=10)(kh:s.mu.L=0)(g:s.mu.S=0) :CS c s i l { s.mu with L:=1 } 6 3:=by have q:=Mu.zS (more:=s.pm) (l:=l) h.mu hi hc hl kh g;have w:=@Wg.z4;exact fY.tW
def fY.zQ(h:fY c s)(hi:i<s.next)(hb:c.base<=i)(hc:cd (s.tag i)=6)(hl:cd l=10)(kh:s.mu.L=0)(g:s.mu.S=0) :CS c s i l { s.mu with L:=1,W:=0 } 5 3:=by have q:=Mu.zQ (more:=s.pm) (l:=l) h.mu hi hc hl kh g;have w:=@Wg.z3;exact fY.tW
def fY.sJ(h:fY c s)(hi:i<s.next)(hb:c.base<=i)(hc:cd (s.tag i)=4)(hl:cd l=7)(kh:s.mu.L=1\/s.mu.S=1) :CS c s i l { s.mu with n:=s.mu.n+1 } 6 4:=by have q:=Mu.sJ (more:=s.pm) (l:=l) h.mu hi hc hl kh;have w:=@Wg.CV;exact fY.tW
def fY.sI(h:fY c s)(hi:i<s.next)(hb:c.base<=i)(hc:cd (s.tag i)=6)(hl:cd l=7)(kh:s.mu.L=1) :CS c s i l { s.mu with n:=s.mu.n+1,W:=0 } 5 4:=by have q:=Mu.sI (more:=s.pm) (l:=l) h.mu hi hc hl kh;have w:=@Wg.vH;exact fY.tW
def fY.p7(h:fY c s)(hi:i<s.next)(hb:c.base<=i)(hc:cd (s.tag i)=6)(hl:cd l=7)(kh:s.mu.L=1) :CS c s i l { s.mu with n:=s.mu.n+1,W:=0,S:=1 } 5 4:=by have q:=Mu.p7 (more:=s.pm) (l:=l) h.mu hi hc hl kh;have w:=@Wg.vH;exact fY.tW
def fY.sC(h:fY c s)(hi:i<s.next)(hb:c.base<=i)(hc:cd (s.tag i)=7)(hl:cd l=8)(kh:0<s.mu.sm) :CS c s i l { s.mu with sm:=s.mu.sm-1 } 5 5:=by have q:=Mu.sC (more:=s.pm) (l:=l) h.mu hi hc hl kh;have w:=@Wg.CQ;exact fY.tW
def fY.vC(h:fY c s)(hi:i<s.next)(hb:c.base<=i)(hc:cd (s.tag i)=8)(hl:cd l=6)(kh:s.mu.S=0) :CS c s i l s.mu 5 5:=by have q:=Mu.vC (more:=s.pm) (l:=l) h.mu hi hc hl kh;have w:=@Wg.CP;exact fY.tW
def fY.zK(h:fY c s)(hi:i<s.next)(hb:c.base<=i)(hc:cd (s.tag i)=8)(hl:cd l=9)(kh:s.mu.S=1) :CS c s i l s.mu 5 5:=by have q:=Mu.zK (more:=s.pm) (l:=l) h.mu hi hc hl kh;have w:=@Wg.CO;exact fY.tW
def fY.hand(h:fY c s)(hi:i<s.next)(hb:c.base<=i)(hc:cd (s.tag i)=9)(hl:cd l=10)(kh:s.mu.S=1)(g:2<=s.mu.n) :CS c s i l { s.mu with L:=1,n:=s.mu.n-1 } 5 3:=by have q:=Mu.hand (more:=s.pm) (l:=l) h.mu hi hc hl kh g;have w:=@Wg.tD;exact fY.tW
def fY.AM(h:fY c s)(hi:i<s.next)(hb:c.base<=i)(hc:cd (s.tag i)=9)(hl:cd l=10)(kh:s.mu.S=1) :CS c s i l { s.mu with L:=1,n:=s.mu.n-1,S:=0 } 5 3:=by have q:=Mu.AM (more:=s.pm) (l:=l) h.mu hi hc hl kh;have w:=@Wg.tD;exact fY.tW
def fY.sA(h:fY c s)(hi:i<s.next)(hb:c.base<=i)(hc:cd (s.tag i)=14)(hl:cd l=18)(kh:s.mu.S=0)(g:s.mu.n=0\/s.mu.W=1) :CS c s i l { s.mu with L:=0 } 3 0:=by have q:=Mu.sA (more:=s.pm) (l:=l) h.mu hi hc hl kh g;have w:=@Wg.wT;exact fY.tW
def fY.pW(h:fY c s)(hi:i<s.next)(hb:c.base<=i)(hc:cd (s.tag i)=14)(hl:cd l=15)(kh:s.mu.S=0) :CS c s i l { s.mu with L:=0 } 3 2:=by have q:=Mu.pW (more:=s.pm) (l:=l) h.mu hi hc hl kh;have w:=@Wg.wV;exact fY.tW
def fY.r8(h:fY c s)(hi:i<s.next)(hb:c.base<=i)(hc:cd (s.tag i)=14)(hl:cd l=17)(kh:s.mu.S=1) :CS c s i l { s.mu with L:=0 } 3 1:=by have q:=Mu.r8 (more:=s.pm) (l:=l) h.mu hi hc hl kh;have w:=@Wg.wU;exact fY.tW
def fY.A0(h:fY c s)(hi:i<s.next)(hb:c.base<=i)(hc:cd (s.tag i)=15)(hl:cd l=17)(kh:s.mu.L=0)(g:s.mu.W=0)(j:s.mu.S=0)(o:0<s.mu.n) :CS c s i l { s.mu with n:=s.mu.n-1,W:=1 } 2 1:=by have q:=Mu.A0 (more:=s.pm) (l:=l) h.mu hi hc hl kh g j o;have w:=@Wg.wR;exact fY.tW
def fY.uR(h:fY c s)(hi:i<s.next)(hb:c.base<=i)(hc:cd (s.tag i)=17)(hl:cd l=18) :CS c s i l { s.mu with sm:=s.mu.sm+1 } 1 1:=by have q:=Mu.uR (more:=s.pm) (l:=l) h.mu hi hc hl;have w:=@Wg.wO;exact fY.tW
def fY.uX(h:fY c s)(hi:i<s.next)(hb:c.base<=i)(hc:cd (s.tag i)=16)(hl:cd l=18)(kh:s.mu.L=1\/s.mu.W=1\/s.mu.S=1\/s.mu.n=0) :CS c s i l s.mu 2 0:=by have q:=Mu.uX (more:=s.pm) (l:=l) h.mu hi hc hl kh;have w:=@Wg.wP;exact fY.tW
def fY.sF(h:fY c s)(hi:i<s.next)(hb:c.base<=i)(hc:cd (s.tag i)=1)(hl:cd l=2)(pJ:c.need (s.hd i)=true):CS c s i l s.mu 6 6:=by have q:=Mu.sF (more:=s.pm) (l:=l) h.mu hi hc hl;have w:=@Wg.C0;exact fY.tW
def fY.sE(h:fY c s)(hi:i<s.next)(hb:c.base<=i)(hc:cd (s.tag i)=2)(hl:cd l=3) :CS c s i l s.mu 6 6:=by have q:=Mu.sE (more:=s.pm) (l:=l) h.mu hi hc hl;have w:=@Wg.CZ;exact fY.tW
def fY.same3_4(h:fY c s)(hi:i<s.next)(hb:c.base<=i)(hc:cd (s.tag i)=3)(hl:cd l=4) :CS c s i l s.mu 6 6:=by have q:=Mu.same3_4 (more:=s.pm) (l:=l) h.mu hi hc hl;have w:=@Wg.CY;exact fY.tW
def fY.pZ(h:fY c s)(hi:i<s.next)(hb:c.base<=i)(hc:cd (s.tag i)=4)(hl:cd l=3) :CS c s i l s.mu 6 6:=by have q:=Mu.pZ (more:=s.pm) (l:=l) h.mu hi hc hl;have w:=@Wg.CX;exact fY.tW
def fY.same5_6(h:fY c s)(hi:i<s.next)(hb:c.base<=i)(hc:cd (s.tag i)=5)(hl:cd l=6) :CS c s i l s.mu 5 5:=by have q:=Mu.same5_6 (more:=s.pm) (l:=l) h.mu hi hc hl;have w:=@Wg.CU;exact fY.tW
def fY.pY(h:fY c s)(hi:i<s.next)(hb:c.base<=i)(hc:cd (s.tag i)=6)(hl:cd l=5) :CS c s i l s.mu 5 5:=by have q:=Mu.pY (more:=s.pm) (l:=l) h.mu hi hc hl;have w:=@Wg.CR;exact fY.tW
def fY.oW(h:fY c s)(hi:i<s.next)(hb:c.base<=i)(hc:cd (s.tag i)=10)(hl:cd l=11) :CS c s i l s.mu 3 3:=by have q:=Mu.oW (more:=s.pm) (l:=l) h.mu hi hc hl;have w:=@Wg.w8;exact fY.tW
def fY.oV(h:fY c s)(hi:i<s.next)(hb:c.base<=i)(hc:cd (s.tag i)=13)(hl:cd l=14) :CS c s i l s.mu 3 3:=by have q:=Mu.oV (more:=s.pm) (l:=l) h.mu hi hc hl;have w:=@Wg.wX;exact fY.tW
def fY.oU(h:fY c s)(hi:i<s.next)(hb:c.base<=i)(hc:cd (s.tag i)=15)(hl:cd l=16) :CS c s i l s.mu 2 2:=by have q:=Mu.oU (more:=s.pm) (l:=l) h.mu hi hc hl;have w:=@Wg.wS;exact fY.tW
def fY.oT(h:fY c s)(hi:i<s.next)(hb:c.base<=i)(hc:cd (s.tag i)=16)(hl:cd l=15) :CS c s i l s.mu 2 2:=by have q:=Mu.oT (more:=s.pm) (l:=l) h.mu hi hc hl;have w:=@Wg.wQ;exact fY.tW
def fY.oQ(h:fY c s)(hi:i<s.next)(hb:c.base<=i)(hc:cd (s.tag i)=18)(hl:cd l=19)(h19:l≠[19,1]):CS c s i l s.mu 0 0:=by have q:=Mu.oQ (more:=s.pm) (l:=l) h.mu hi hc hl;have w:=@Wg.wN;exact fY.tW
def fY.oP(h:fY c s)(hi:i<s.next)(hb:c.base<=i)(hc:cd (s.tag i)=19)(hl:cd l=20)(Wf:s.cls=true):CS c s i l s.mu 0 0:=by have q:=Mu.oP (more:=s.pm) (l:=l) h.mu hi hc hl;have w:=@Wg.wL;exact fY.tW
def fY.oO(h:fY c s)(hi:i<s.next)(hb:c.base<=i)(hc:cd (s.tag i)=20)(hl:cd l=21) :CS c s i l s.mu 0 0:=by have q:=Mu.oO (more:=s.pm) (l:=l) h.mu hi hc hl;have w:=@Wg.wK;exact fY.tW
def fY.oN(h:fY c s)(hi:i<s.next)(hb:c.base<=i)(hc:cd (s.tag i)=22)(hl:cd l=23) :CS c s i l s.mu 0 0:=by have q:=Mu.oN (more:=s.pm) (l:=l) h.mu hi hc hl;have w:=@Wg.wJ;exact fY.tW
def fY.BG(h:fY c s)(o:i<s.next)(hb:c.base<=i)(q:cd (s.tag i)=21)(x:¬ (s.wg.v=1/\s.wg.wt=1))
   :fY c { s with wg:={ s.wg with v:=s.wg.v-1 },tag:=upd s.tag i [0] }:=by
 have g:i≠0:=by have:=h.pos;omega
 obtain⟨r,u⟩:=Mu.AA (more:=s.pm) (l:=[0]) h.mu o q rfl;refine h.step o (.inr hb) _ r (OM u (by decide)) (λ_=>rfl) ?_ (Wg.BG (l:=[0]) h.wg o g q rfl x) trivial ⟨λe=>absurd e g,λe=>absurd e g,λ_=>Nat.sub_le _ _⟩ (λe=>by simp[cd]at e) (λ_ _=>⟨by decide,λe=>rfl⟩) (λ_ j=>?_) (λe=>by have:=(h.run e i hb o).2.1;omega) (λe=>absurd e g)
 ·exact vT
 rw[q]at j;exact j.RG O (by decide)
def fY.BH(h:fY c s)(o:i<s.next)(hb:c.base<=i)(q:cd (s.tag i)=21)(r:cd l=22)(y:Mu.lO s.mu (Mu.mu s.mu s.pm (upd s.tag i l) s.next) l)(z:s.wg.v=1/\s.wg.wt=1)
   :fY c { s with wg:={ s.wg with v:=s.wg.v-1 },tag:=upd s.tag i l }:=by
 have g:i≠0:=by have:=h.pos;omega
 obtain⟨u,x⟩:=Mu.xI (more:=s.pm) (l:=l) h.mu o q r;refine h.step o (.inr hb) _ u (OM x (by decide)) (λ_=>rfl) ?_ (Wg.BH (l:=l) h.wg o g q r z) y ⟨λe=>absurd e g,λe=>absurd e g,λ_=>Nat.sub_le _ _⟩ (λe=>O) (λ_ _=>⟨O,λe=>O⟩) (λ_ j=>?_) (λe=>by have:=(h.run e i hb o).2.1;omega) (λe=>absurd e g)
 ·exact vT
 rw[q]at j;rw[r];exact j.RG O O
def fY.uO(h:fY c s)(o:i<s.next)(hb:c.base<=i)(q:cd (s.tag i)=23)(r:cd l=24)(y:Mu.lO s.mu (Mu.mu s.mu s.pm (upd s.tag i l) s.next) l)
   :fY c { s with wg:={ s.wg with wt:=0 },tag:=upd s.tag i l }:=by
 have g:i≠0:=by have:=h.pos;omega
 obtain⟨u,x⟩:=Mu.xH (more:=s.pm) (l:=l) h.mu o q r;refine h.step o (.inr hb) _ u (OM x (by decide)) (λ_=>rfl) ?_ (Wg.uO (l:=l) h.wg o g q r) y ⟨λe=>absurd e g,λe=>absurd e g,λ_=>DO _⟩ (λe=>O) (λ_ _=>⟨O,λe=>O⟩) (λ_ j=>?_) (λe=>by have:=(h.run e i hb o).2.1;omega) (λe=>absurd e g)
 ·exact vT
 rw[q]at j;rw[r];exact j.RG O O
def fY.zJ(h:fY c s)(o:i<s.next)(hb:c.base<=i)(q:cd (s.tag i)=24)
   :fY c { s with wg:={ s.wg with wm:=s.wg.wm+1 },tag:=upd s.tag i [0] }:=by
 have g:i≠0:=by have:=h.pos;omega
 obtain⟨r,u⟩:=Mu.z9 (more:=s.pm) (l:=[0]) h.mu o q rfl;refine h.step o (.inr hb) _ r (OM u (by decide)) (λ_=>rfl) ?_ (Wg.zJ (l:=[0]) h.wg o g q rfl) trivial ⟨λe=>absurd e g,λe=>absurd e g,λ_=>DO _⟩ (λe=>by simp[cd]at e) (λ_ _=>⟨by decide,λe=>rfl⟩) (λ_ j=>?_) (λe=>by have:=(h.run e i hb o).2.1;omega) (λe=>absurd e g)
 ·exact vT
 rw[q]at j;exact j.RG O (by decide)
def fY.RH(h:fY c s)(g:cd (s.tag 0)=31)(hl:cd l=32)(hn:∀k n,l=[k,n]->s.next=c.base+n):fY c { s with wg:={ s.wg with v:=s.wg.v+1 },tag:=upd s.tag 0 l }:=by have w:=Wg.add h.wg h.next0 g hl;exact fY.tM
def fY.DH(h:fY c s)(j:cd (s.tag 0)=34)(hl:cd l=38)(o:s.wg.v=0)(g:s.more=0) :fY c { s with wg:=s.wg,tag:=upd s.tag 0 l }:=by have w:=Wg.Q3 h.wg h.next0 j hl o g;exact fY.tM
def fY.DG(h:fY c s)(g:cd (s.tag 0)=34)(hl:cd l=35)(j:s.wg.v≠0)(hv:∀v,l=[35,v]->s.wg.v<=v):fY c { s with wg:=s.wg,tag:=upd s.tag 0 l }:=by have w:=Wg.Q2 h.wg h.next0 g hl j;exact fY.tM
def fY.KI(h:fY c s)(g:cd (s.tag 0)=35)(hl:cd l=34)(hv:∀v,l=[34,v]->s.wg.v<v):fY c { s with wg:=s.wg,tag:=upd s.tag 0 l }:=by have w:=Wg.Ra h.wg h.next0 g hl;exact fY.tM
def fY.KH(h:fY c s)(g:cd (s.tag 0)=35)(hl:cd l=36)(j:s.wg.v≠0) :fY c { s with wg:={ s.wg with wt:=1 },tag:=upd s.tag 0 l }:=by have w:=Wg.QW h.wg h.next0 g hl j;exact fY.tM
def fY.DF(h:fY c s)(g:cd (s.tag 0)=36)(hl:cd l=37)(j:s.wg.wm≠0) :fY c { s with wg:={ s.wg with wm:=s.wg.wm-1 },tag:=upd s.tag 0 l }:=by have w:=Wg.woken h.wg h.next0 g hl j;exact fY.tM
def fY.tQ(h:fY c s)(g:cd (s.tag 0)=30)(hl:cd l=31)(hn:∀k n,l=[k,n]->s.next=c.base+n):fY c { s with wg:=s.wg,tag:=upd s.tag 0 l }:=by have w:=Wg.xG h.wg h.next0 g hl;exact fY.tM
def fY.tO(h:fY c s)(g:cd (s.tag 0)=32)(hl:cd l=33)(hn:∀k n,l=[k,n]->s.next=c.base+n):fY c { s with wg:=s.wg,tag:=upd s.tag 0 l }:=by have w:=Wg.xE h.wg h.next0 g hl;exact fY.tM
def fY.tP(h:fY c s)(j:cd (s.tag 0)=30)(hl:cd l=34)(g:s.more=0)(qB:s.cls=true)(hv:∀v,l=[34,v]->s.wg.v<v):fY c { s with wg:=s.wg,tag:=upd s.tag 0 l }:=by have w:=Wg.xF h.wg h.next0 j hl g;exact fY.tM
def fY.tN(h:fY c s)(g:cd (s.tag 0)=37)(hl:cd l=38) :fY c { s with wg:=s.wg,tag:=upd s.tag 0 l }:=by have w:=Wg.xD h.wg h.next0 g hl;exact fY.tM
def fY.tL(h:fY c s)(g:cd (s.tag 0)=38)(hl:cd l=39) :fY c { s with wg:=s.wg,tag:=upd s.tag 0 l }:=by have w:=Wg.xC h.wg h.next0 g hl;exact fY.tM
end
end
section
variable{P:Program}{f:FuncId}{e:Array Value->Sem Value}{vs:Array Value}{w w':World}{v:Value}{evs:Array Event}{s:Ts}{i:Nat}{l:List Nat}{H:Hp}{sm:Sem Next}{wk nr:Bool}{Post:Value->Hp->Prop}
open Go.Conc
open Go.ConcN (sumTo upd sumTo_upd upd_ne upd_same)
structure iU(P:Program)(f:FuncId)(e:Array Value->Sem Value):Prop where
 ex:∃fn,P.funcs[f]? = some fn/\(fn.name == "runtime.NumGoroutine")=false/\fn.body.isNone=true/\Extern.findNext fn=none/\Extern.find fn=some e
def Yy(f:FuncId):Event:=⟨.mark (.extern f),false,true⟩
def iU.val(h:iU P f e)(x:(e vs).run P w=.ok v w')(u:(e vs).events P w #[Yy f]=#[Yy f]++evs) :
  (callFunc f vs).runT P w #[]=(.ok (.value v) w',#[Yy f]++evs):=by
 obtain⟨fn,g,j,o,q,r⟩:=h.ex;rw[Sem.runT_eq,run_callFunc_extern g j o q r,x,events_callFunc_extern g j o q r];simp only[Result.andThen];rw[show(#[]:Array Event).push ⟨.mark (.extern f),false,true⟩=#[Yy f]from rfl,u]
def iU.blocks(h:iU P f e)(u:(e vs).run P w=.halt .blocked w') :
  ∃es,(callFunc f vs).runT P w #[]=(.halt .blocked w',es):=by
 obtain⟨fn,g,j,o,q,r⟩:=h.ex;exact⟨_,by rw[Sem.runT_eq,run_callFunc_extern g j o q r,u];rfl⟩
def MS{fn:FuncId}(h:∀x∈evs,x.sync=true/\∀g,x.loc≠.mark (.extern g)):seen P fn (#[Yy f]++evs)=evs:=seen_entry fn f evs h
section
variable{p:Program}{c:Cx}
structure iB(p:Program)(c:Cx)(i:Nat)(s:Ts)(t:Trace)(w:World)(sm:Sem Next)(wk nr:Bool)(v:Value)(l:List Nat):Prop where
 ex:∃(w':World) (tY es:Array Event) (x':Mu) (y':Wg),sm.runT p w #[]=(.ok (.value v) w',tY)/\(∀fn,(nr=true->norace p fn=true)->seen p fn tY=es)/\fY c { s with mu:=x',wg:=y',tag:=upd s.tag i l } /\
  FG c.toTC i (Deaf t i) es/\(∀e∈es,∀B,c.M<B->c.W<B->(MemAct.ofEvent e).low B)/\deafBehind (Deaf t i) es=(if cd l=0 then 1 else df (cd l)) /\
  w'.heap[c.M]? = some (MN c x')/\w'.heap[c.W]? = some (U9 c y')/\(∀b,b≠c.M->b≠c.W->w'.heap[b]? = w.heap[b]?)/\w'.heap.size=w.heap.size/\wE w w' /\
  (wk=true\/((s.mu.sm=0->x'.sm=0)/\(s.wg.wm=0->y'.wm=0)))
 nb:¬ ZY s i\/l=s.tag i
 nt:cd (s.tag i)≠12/\cd (s.tag i)≠40
 nt':cd l≠12/\cd l≠40
 dn:20<=cd l\/cd l=0->Vi s i
 nz:cd (s.tag i)≠0
def Zy3{o:Mu}{q:Wg}(g:¬ ZY s i\/l=s.tag i)(r:s.mu.sm=0->o.sm=0)(u:s.wg.wm=0->q.wm=0)(j:Nat)(h:ZY s j):ZY { s with mu:=o,wg:=q,tag:=upd s.tag i l } j:=by
 have:upd s.tag i l j=s.tag j:=by
  by_cases e:j=i
  ·subst e;rcases g with g | g
   ·exact absurd h g
   rw[upd_same,g]
  exact upd_ne _ _ e
 unfold ZY at h ⊢;simp only[this];exact h.imp (λ⟨a,b⟩=>⟨a,r b⟩) λ⟨a,b⟩=>⟨a,u b⟩
def Zfg{g:List Nat}(h:YI g\/Yf g):g≠[0]:=by rintro rfl;simp[YI,Yf,cd]at h
def MG(h:YI l\/Yf l):cd l≠0:=by unfold YI Yf at h;omega
def VZ(h:YI H.cg\/Yf H.cg):H.gh≠[]:=by intro e;unfold Hp.cg at h;rw[e]at h;simp[YI,Yf,ZV,cd]at h
def iB.goes(ok:c.Ok){Hs:Hp}{t:Trace}(h:iB p c i s t w sm wk nr v l)(D:gX (fX p c) i H s Hs t w)(W:s.tag i≠[0])
  {q:Frame} {A:Value->Frame} {cs:List Frame} (y:P2 p q A sm wk nr) {K:Trace->Frame->List Frame->Hp->Prop} (U:∀E,(cd l=0->Deaf E i=1)->K E (A v) cs (H.tagged (qU l (s.hd i) :: l))):Ow (fX p c) i K q cs H s Hs t w:=by
 obtain⟨w',tY,es,F,I,M,N,O,Q,R,B,h7,S,T,u,x,g⟩:=h.ex;have o:=XU D W;obtain⟨r,V⟩:=Zwk ok D o O Q R (λe=>by rw[B,iF e]) h.nt h.nt' h.nz h.dn h7 S T u x;have z:=N q.fn y.nr;obtain⟨m1,X⟩:=V q.fn q.place;refine⟨A v,cs,w',H.tagged (qU l (s.hd i) :: l),{ s with mu:=F,wg:=I,tag:=upd s.tag i l },r,es,?_,m1,X _,λj=>XL (i:=i) (l:=l) (s:=s) (s':={ s with mu:=F,wg:=I,tag:=upd s.tag i l }) rfl rfl j,rfl,DO _,?_,.inl rfl,U _ λe=>?_⟩
 ·rw[Oz y M,z]
 ·rcases g with g | ⟨J,L⟩
  ·exact .inl (y.wake g cs)
  exact .inr (Zy3 h.nb J L)
 rw[Deaf_own,B,qAa e]
def MU(ok:c.Ok)(o:YI H.cg)
  (h:∀s Hs t w,gX (fX p c) i H s Hs t w->((∃es,sm.runT p w #[]=(.halt .blocked w,es))/\ZY s i)\/∃v l,iB p c i s t w sm wk nr v l/\YI l/\Post v (H.tagc l)):Zm ((fX p c).prgW i) sm wk nr H Post:=by
 intro G F J cs D y B;refine .iW ⟨VZ (.inl o),.inr (.inl ⟨o,λs Hs t w r=>?_⟩)⟩;obtain⟨g,u⟩:=YO r (MG (.inl o));rcases h s Hs t w r with⟨⟨es,E⟩,hb⟩ | ⟨v,l,z,x,A⟩
 ·exact .inr ⟨ZeB y E,hb⟩
 refine .inl (z.goes ok r (by rw[g];exact Zfg (.inl o)) y λK _=>.inl ?_);have e:H.tagged (qU l (s.hd i) :: l)=H.tagc l:=by rw[ML (MG (.inl x)),u];rfl
 rw[e];exact⟨B v _ A,x⟩
def Af(ok:c.Ok)(o:Yf H.cg)
  (h:∀s Hs t w,gX (fX p c) i (.fL H.gh) s Hs t w->((∃es,sm.runT p w #[]=(.halt .blocked w,es))/\ZY s i)\/∃v l,iB p c i s t w sm wk nr v l/\((Yf l/\Post v (H.tagc l))\/(l=[0]/\Post v (H.tagged (lv 1))))):Zm ((fX p c).prgW i) sm wk nr H Post:=by
 intro G F I cs A y x;refine .iW ⟨VZ (.inr o),.inr (.inr (.inl ⟨o,λs Hs t w r=>?_⟩))⟩;obtain⟨g,u⟩:=YO r (MG (.inr o));rcases h s Hs t w r with⟨⟨es,D⟩,hb⟩ | ⟨v,l,z,j⟩
 ·exact .inr ⟨ZeB y D,hb⟩
 refine .inl (z.goes ok r (by rw[g];exact Zfg (.inr o)) y λJ E=>⟨λb=>rfl,?_⟩);rcases j with⟨j,q⟩ | ⟨rfl,q⟩
 ·left;have e:qU l (s.hd i)=H.hd+1:=by rw[ML (MG (.inr j)),u];rfl
  rw[e];exact⟨j,x v _ q⟩
 exact .inr ⟨rfl,by rw[E rfl];exact x v _ q⟩
def MV(ok:c.Ok)(r:30<=cd H.cg)
  (h:∀s Hs t w,gX (fX p c) 0 H s Hs t w->((∃es,sm.runT p w #[]=(.halt .blocked w,es))/\ZY s 0)\/∃v l,iB p c 0 s t w sm wk nr v l/\30<=cd l/\Post v (H.tagc l)):Zm ((fX p c).prgM) sm wk nr H Post:=by
 intro G F J cs D y B;refine .iW ⟨VZ (.inl (.inr r)),λs Hs t w q=>?_⟩;obtain⟨g,u⟩:=YO q (MG (.inl (.inr r)));rcases h s Hs t w q with⟨⟨es,E⟩,hb⟩ | ⟨v,l,z,x,A⟩
 ·exact .inr (.inl ⟨ZeB y E,hb⟩)
 refine .inl (z.goes ok q (by rw[g];exact Zfg (.inl (.inr r))) y λK _=>?_);have e:H.tagged (qU l (s.hd 0) :: l)=H.tagc l:=by rw[ML (MG (.inl (.inr x))),u];rfl
 rw[e];exact⟨B v _ A,.inr x⟩
def ZoZ{d:Nat}(g:H.gh=lv d){tY es:Array Event}(u:∀w,sm.runT p w #[]=(.ok (.value v) w,tY))(x:∀fn,seen p fn tY=es)
  (q:∀e∈es,Event.mute e=true) (r:Post v (H.tagged (lv (deafBehind d es)))):Zm ((fX p c).prgW i) sm wk nr H Post:=by
 intro G z y cs o j h;refine .iW ⟨by rw[g];simp[lv],.inl ⟨d,g,.inl ⟨y v,cs,es,q,λmain w=>(Oz (P:=p) j (u w)).trans (by rw[x]),h v _ r⟩⟩⟩
end
end
variable{C:TC}{d b off:Nat}{es tY:Array Event}{m:Mark}{cs:Array Value}{ty:TypeId}{v:Value}{sm:Sem Next}{wk nr:Bool}{l:List Nat}{w':World}{f:FuncId}
open Go.Conc
open Go.ConcN (sumTo upd sumTo_upd upd_ne upd_same)
abbrev Zx:Value:=.tuple #[]
def rB(b off:Nat)(g:Bool):Event:=⟨.cell ⟨b,off,none⟩,g,true⟩
section
variable{p:Program}{c:Cx}{i:Nat}{H:Hp}{s:Ts}{Hs:Hp}{t:Trace}{w:World}
def UB(h:∀e∈es,∃b off o,e=rB b off o/\(b=C.M\/b=C.W))(x:d≠0) :
  FG C i d es/\(∀e∈es,∀B,C.M<B->C.W<B->(MemAct.ofEvent e).low B)/\deafBehind d es=d:=by
 have g:∀e∈es,e.loc≠.mark .disable/\e.loc≠.mark .enable:=by intro e q;obtain⟨b,off,o,rfl,_⟩:=h e q;exact⟨by simp[rB],by simp[rB]⟩
 refine⟨λk e y=>?_,λe q B A D=>?_,deafBehind_still g d⟩
 ·have z:e∈es:=by obtain⟨r,rfl⟩:=qAC.1 y;exact Array.getElem_mem r
  obtain⟨b,off,o,rfl,hb⟩:=h e z;refine⟨by cases o<;>simp[rB,MemAct.ofEvent],λa u _=>?_⟩;have:a=⟨.cell ⟨b,off,none⟩,o,.atomic⟩:=by cases o<;>simp[rB,MemAct.ofEvent,MemAct.touch?]at u<;>rw[<-u]
  subst this;refine⟨⟨b,rfl,hb⟩,by simp,by simp,λ_=>⟨rfl,?_⟩⟩;rw[deafBehind_still (λe q=>g e ?_) d]
  ·exact x
  obtain⟨j,E,rfl⟩:=qCN.1 q;simp only[Array.getElem_extract];exact Array.getElem_mem _
 obtain⟨b,off,o,rfl,hb⟩:=h e q;cases o<;>(simp only[rB,MemAct.ofEvent,MemAct.low,Loc.low];rcases hb with rfl | rfl<;>assumption)
def Lt(hb:b=C.M\/b=C.W) :
  FG C i d (semEvents ⟨b,off,none⟩)/\(∀e∈semEvents ⟨b,off,none⟩,∀B,C.M<B->C.W<B->(MemAct.ofEvent e).low B)/\deafBehind d (semEvents ⟨b,off,none⟩)=d:=by
 refine⟨λk e g=>?_,λe j B q r=>?_,by simp[semEvents,deafBehind]⟩
 ·have key:∀h,(∀a,(MemAct.ofEvent (rB b off h)).touch? = some a->a.loc.isMemory=true->C.Sh a.loc/\a.kind≠.plain/\(a.kind=.said->i=0)/\(i≠0->a.kind=.atomic/\d+1≠0)):=by
   intro h a ha _;have:a=⟨.cell ⟨b,off,none⟩,h,.atomic⟩:=by cases h<;>simp[rB,MemAct.ofEvent,MemAct.touch?]at ha<;>rw[<-ha]
   subst this;exact⟨⟨b,rfl,hb⟩,by simp,by simp,λ_=>⟨rfl,O⟩⟩
  match k,g with
  | 0,g=>
   simp[semEvents]at g;subst g;exact D3
  | 1,g=>
   simp[semEvents]at g;subst g;refine⟨by simp[MemAct.ofEvent],?_⟩;have:deafBehind d ((semEvents ⟨b,off,none⟩).extract 0 1)=d+1:=by simp[semEvents,deafBehind]
   rw[this];exact key false
  | 2,g=>
   simp[semEvents]at g;subst g;refine⟨by simp[MemAct.ofEvent],?_⟩;have:deafBehind d ((semEvents ⟨b,off,none⟩).extract 0 2)=d+1:=by simp[semEvents,deafBehind]
   rw[this];exact key true
  | 3,g=>
   simp[semEvents]at g;subst g;exact D3
  | k+4,g=>simp[semEvents]at g
 simp[semEvents]at j;rcases j with rfl | rfl | rfl | rfl<;>simp only[MemAct.ofEvent,MemAct.low,Loc.low]<;>(rcases hb with rfl | rfl<;>assumption)
def Ls(o:m=.disable\/m=.enable\/(i=0/\∃off,m=.read ⟨C.W,off,none⟩\/m=.write ⟨C.W,off,none⟩)) :
  FG C i d #[⟨.mark m,false,true⟩]/\∀e∈(#[⟨.mark m,false,true⟩]:Array Event),∀B,C.M<B->C.W<B->(MemAct.ofEvent e).low B:=by
 refine⟨λk e g=>?_,λe j B q h=>?_⟩
 ·match k,g with
  | 0,g=>
   simp at g;subst g;rcases o with rfl | rfl | ⟨h0,off,rfl | rfl⟩
   ·exact D3
   ·exact D3
   ·exact TH
   exact TH
  | k+1,g=>simp at g
 simp at j;subst j;rcases o with rfl | rfl | ⟨h0,off,rfl | rfl⟩
 ·trivial
 ·trivial
 ·exact h
 exact h
def wM(ok:c.Ok)(g:gX (fX p c) i H s Hs t w):w.heap[c.M]? = some (MN c s.mu):=g.leS _ _ _ ((show ZU c s Hs t from g.inv).atM ok)
def wW(g:gX (fX p c) i H s Hs t w):w.heap[c.W]? = some (U9 c s.wg):=g.leS _ _ _ ((show ZU c s Hs t from g.inv).atW)
def V4{w:World}(h:w.heap[b]? = some (.cells cs ty))(g:cs[off]? = some v):w.cell? ⟨b,off,none⟩=some v/\w.frozen? ⟨b,off,none⟩=false:=by
 constructor
 ·simp[World.cell?,h,g]
 simp[World.frozen?,h]
def Zhc{w:World}(h:w.heap[b]? = some (.cells cs ty)):(w.setCell ⟨b,off,none⟩ v).heap[b]? = some (.cells (cs.setIfInBounds off v) ty) /\
  (∀g,g≠b->(w.setCell ⟨b,off,none⟩ v).heap[g]? = w.heap[g]?)/\(w.setCell ⟨b,off,none⟩ v).heap.size=w.heap.size/\wE w (w.setCell ⟨b,off,none⟩ v):=by
 refine⟨?_,λg hb=>?_,by simp[World.setCell],⟨.refl _,rfl,rfl⟩⟩
 ·simp[World.setCell,qCc,h]
 simp[World.setCell,qCc,qAo hb]
theorem iB.BV(ok:c.Ok)(x:gX (fX p c) i H s Hs t w){x':Mu}(K:sm.runT p w #[]=(.ok (.value v) w',tY))(L:∀fn,(nr=true->norace p fn=true)->seen p fn tY=es)
  (O:(w'=w/\x'=s.mu)\/∃off u,w'=w.setCell ⟨c.M,off,none⟩ u/\(#[.int .i32 (s.mu.st:Nat),.int .u32 (s.mu.sm:Nat)]:Array Value).setIfInBounds off u=#[.int .i32 (x'.st:Nat),.int .u32 (x'.sm:Nat)])
  (j:fY c { s with mu:=x',tag:=upd s.tag i l }) (g:FG c.toTC i (Deaf t i) es/\(∀e∈es,∀B,c.M<B->c.W<B->(MemAct.ofEvent e).low B)/\deafBehind (Deaf t i) es=(if cd l=0 then 1 else df (cd l)))
  (hb:wk=true\/(s.mu.sm=0->x'.sm=0)) (Q:¬ ZY s i\/l=s.tag i) (o:cd (s.tag i)≠12/\cd (s.tag i)≠40/\cd (s.tag i)≠0) (q:cd l≠12/\cd l≠40) (D:20<=cd l\/cd l=0->Vi s i):iB p c i s t w sm wk nr v l:=by
 have y:=wM ok x;have z:=wW x;refine⟨⟨w',tY,es,x',s.wg,K,L,j,g.1,g.2.1,g.2.2,?_⟩,Q,⟨o.1,o.2.1⟩,q,D,o.2.2⟩;rcases O with⟨rfl,rfl⟩ | ⟨off,u,rfl,N⟩
 ·exact⟨y,z,λ_ _ _=>rfl,rfl,.refl _,hb.imp id λh=>⟨h,id⟩⟩
 obtain⟨E,r,F,I⟩:=Zhc (off:=off) (v:=u) y;refine⟨?_,?_,λb J _=>r b J,F,I,hb.imp id λh=>⟨h,id⟩⟩
 ·rw[E,N];rfl
 rw[r _ (qAo ok.ne)];exact z
theorem iB.yN(ok:c.Ok)(x:gX (fX p c) i H s Hs t w){y':Wg}(K:sm.runT p w #[]=(.ok (.value v) w',tY))(L:∀fn,(nr=true->norace p fn=true)->seen p fn tY=es)
  (O:(w'=w/\y'=s.wg)\/∃off u,w'=w.setCell ⟨c.W,off,none⟩ u/\(#[.int .u64 ((s.wg.v * 4294967296+s.wg.wt:Nat):Int),.int .u32 (s.wg.wm:Nat)]:Array Value).setIfInBounds off u=#[.int .u64 ((y'.v * 4294967296+y'.wt:Nat):Int),.int .u32 (y'.wm:Nat)])
  (j:fY c { s with wg:=y',tag:=upd s.tag i l }) (g:FG c.toTC i (Deaf t i) es/\(∀e∈es,∀B,c.M<B->c.W<B->(MemAct.ofEvent e).low B)/\deafBehind (Deaf t i) es=(if cd l=0 then 1 else df (cd l)))
  (hb:wk=true\/(s.wg.wm=0->y'.wm=0)) (Q:¬ ZY s i\/l=s.tag i) (o:cd (s.tag i)≠12/\cd (s.tag i)≠40/\cd (s.tag i)≠0) (q:cd l≠12/\cd l≠40) (D:20<=cd l\/cd l=0->Vi s i):iB p c i s t w sm wk nr v l:=by
 have y:=wM ok x;have z:=wW x;refine⟨⟨w',tY,es,s.mu,y',K,L,j,g.1,g.2.1,g.2.2,?_⟩,Q,⟨o.1,o.2.1⟩,q,D,o.2.2⟩;rcases O with⟨rfl,rfl⟩ | ⟨off,u,rfl,N⟩
 ·exact⟨y,z,λ_ _ _=>rfl,rfl,.refl _,hb.imp id λh=>⟨id,h⟩⟩
 obtain⟨E,r,F,I⟩:=Zhc (off:=off) (v:=u) z;refine⟨?_,?_,λb _ J=>r b J,F,I,hb.imp id λh=>⟨id,h⟩⟩
 ·rw[r _ ok.ne];exact y
 rw[E,N];rfl
def V2(h:gX (fX p c) i H s Hs t w)(g:cd (s.tag i)≠0):Deaf t i=df (cd (s.tag i)):=
 (show ZU c s Hs t from h.inv).deaf i (XU h (by rintro e;rw[e]at g;exact g rfl)) g
def UM(j:gX (fX p c) i H s Hs t w)(g:1<=cd (s.tag i))(q:cd (s.tag i)<=24):c.base<=i:=by
 have o:=XU j (by rintro e;rw[e]at g;simp[cd]at g);rcases o.2 with rfl | h
 ·have:=(show ZU c s Hs t from j.inv).cnt.wg.main;omega
 exact h
def Aa(j:∀g,m≠.extern g)(h:iU p f (λ_=>do mark m;pure Zx))(vs:Array Value)(w:World):(callFunc f vs).runT p w #[]=(.ok (.value Zx) w,#[Yy f]++#[⟨.mark m,false,true⟩]):=
 h.val (by simp[run_mark]) (by simp[events_mark])
def Ad(o:∀g,m≠.extern g)(fn:FuncId):seen p fn (#[Yy f]++#[⟨.mark m,false,true⟩])=#[⟨.mark m,false,true⟩]:=
 MS λx j=>by simp at j;subst j;exact⟨rfl,λg h=>o g (Loc.mark.inj h)⟩
def X9{mk:Addr->Mark}(g:iU p f (Extern.Race.marked mk))(a:Addr)(w:World):(callFunc f #[.pointer (some a)]).runT p w #[]=(.ok (.value Zx) w,#[Yy f]++#[⟨.mark (mk a),false,true⟩]):=
 g.val (by simp[Extern.Race.marked,Extern.Race.at_,run_mark,Extern.Race.none_]) (by simp[Extern.Race.marked,Extern.Race.at_,events_mark])
end
