import Derived.Test.YtlhomfgcibjccaaGreatDoorP12
import Derived.Conc.AtomicLaws2
import Derived.Conc.MarkLaws
import Derived.Conc.ClockLaws
set_option linter.all false
namespace Go.LL
section
variable{n m:Prop}{a b d e k:Nat}{tag:Nat->List Nat}
open Go.Conc
open Go.ConcN (sumTo upd sumTo_upd upd_ne upd_same)
def Om.low(h:Om n m a)(g:2<=a)(j:a<=12)(o:2<=b)(q:b<=12):Om n m b:=⟨λe=>O,λ_ _=>h.2.1 g j,λe=>O⟩
def Om.MV(h:Om n m a)(g:13<=a)(j:b=0\/13<=b):Om n m b:=⟨λe=>O,λe o=>O,λ_=>h.2.2 (.inr g)⟩
def Om.start(h:Om n m 1)(g:n):Om n m 2:=⟨λe=>O,λ_ _=>⟨g,h.1 rfl⟩,λe=>O⟩
def OG(h:a+d=b+e)(g:e<=d):a<=b:=O
def Zto(h:a+d=b+e)(g:e<d):a≠b:=O
section
variable{c:Cx}{s:Ts}{i:Nat}{l:List Nat}
def Mu.kJ{x:Mu}{m:Nat}{l:List Nat}(h:30<=cd l):x.jA m l:=by unfold Mu.jA;split<;>first | (simp[cd]at h;done) | trivial
def Mu.aS.main{x:Mu}{more:Nat}{l:List Nat}(F:x.aS tag k)(R:0<k)(Q:30<=cd (tag 0))(S:30<=cd l):Mu.aS x (upd tag 0 l) k/\Mu.mu x more (upd tag 0 l) k=x.mu more tag k:=by
 have z:∀n,30<=n->Yo n=0/\cT n=0/\cQ n=0/\cA n=0/\cU n=0/\cR n=0/\iP n=0:=by
  intro n V;refine⟨?_,?_,?_,?_,?_,?_,?_⟩
  ·simp[Yo,one];omega
  ·simp[cT,one];omega
  ·simp[cQ,one];omega
  ·simp[cA,one];omega
  ·simp[cU,one];omega
  ·simp[cR,one];omega
  simp only[iP];have J:(1<=n && n<=4)=false:=by simp;omega
  have K:(n == 5 || n == 6 || n == 8 || n == 9)=false:=by simp;omega
  have L:(n == 7)=false:=by simp;omega
  have M:(10<=n && n<=14)=false:=by simp;omega
  have N:(n == 15 || n == 16)=false:=by simp;omega
  have O:(n == 17)=false:=by simp;omega
  simp[J,K,L,M,N,O]
 obtain⟨y,g,a3,a4,A,h,B⟩:=z _ Q;obtain⟨D,j,o,r,E,u,I⟩:=z _ S;have q:∀f:Nat->Nat,f (cd (tag 0))=0->f (cd l)=0->Ct f (upd tag 0 l) k=Ct f tag k:=by intro f T U;have:=counts (tag:=tag) (l:=l) R f;omega
 refine⟨⟨?_,F.L2,F.W1,F.S1,?_,?_⟩,?_⟩
 ·rw[q _ y D];exact F.L1
 ·rw[q _ a3 o,q _ h u,q _ g j,q _ a4 r,q _ A E];exact F.norm
 ·rw[q _ a3 o,q _ h u,q _ g j,q _ a4 r];exact F.starv
 unfold Mu.mu;rw[q _ B I]
def Mu.aS.MX{x:Mu}{i j:Nat}(F:x.aS tag k)(g:i<k)(y:j<k)(o:j≠i)(r:cd (tag j)=9)(u:x.S=1) :
  x.L=0/\x.W=0/\x.sm=0/\Yo (cd (tag i))=0/\cR (cd (tag i))=0/\cA (cd (tag i))=0:=by
 have h:=F.starv u;have A:cA (cd (tag j))+cA (cd (tag i))<=Ct cA tag k:=by have z:=counts (tag:=tag) (l:=[0]) g cA;have q:=Ct.le cA (upd tag i [0]) y;rw[upd_ne _ _ o]at q;have:cA (cd [0])=0:=rfl;omega
 have D:=Ct.le cR tag g;have B:=Ct.le Yo tag g;have:cA (cd (tag j))=1:=by rw[r];rfl
 have:=F.L1;omega
def bP.step(h:bP c s)(V:i<s.next)(J:i=0\/c.base<=i){q:Mu}(D:Wg)(L:Mu.aS q (upd s.tag i l) s.next)(K:Mu.mu q s.pm (upd s.tag i l) s.next<=Mu.mu s.mu s.pm s.tag s.next)
  (M:Mu.mu q s.pm (upd s.tag i l) s.next=Mu.mu s.mu s.pm s.tag s.next->q.st=s.mu.st) (R:∀j,j<s.next->j≠i->cd (s.tag j)=9->s.mu.S=1->q.S=1/\s.mu.n<=q.n)
  (O:Wg.aS D (upd s.tag i l) s.next s.more) (u:q.jA (Mu.mu q s.pm (upd s.tag i l) s.next) l) (o:(i=0->∀v,(l=[35,v]->D.v<=v)/\(l=[34,v]->D.v<v))/\(i=0->∀k n,k<=33->l=[k,n]->s.next=c.base+n)/\(i≠0->D.v<=s.wg.v))
  (I:cd l=12->l=12 :: s.kQ) (U:i≠0->c.base<=i->cd l<=24/\(cd l=0->l=[0])) (z:i≠0->Om (c.need (s.hd i)=true) (s.hd i∈s.kQ) (cd (s.tag i))->Om (c.need (s.hd i)=true) (s.hd i∈s.kQ) (cd l))
  (B:s.cls=false->i≠0->1<=cd l/\cd l<=19/\l≠[19,1]) (A:i=0->34<=cd l->s.cls=true) :
  bP c { s with mu:=q,wg:=D,tag:=upd s.tag i l }:=by
 refine⟨L,O,λj E=>?_,λv=>?_,λk n Q F=>?_,λj E x=>?_,h.num,h.pos,h.nb,λj g r=>?_,λj g r=>?_,h.lnd,h.lmem,λj g r=>?_,h.hd0,h.mle,h.hdw,h.hinj,h.compl,λy j g r=>?_,λg=>?_⟩
 ·by_cases e:j=i
  ·subst e;simp only[upd_same];exact u
  simp only[upd_ne _ _ e];exact(h.says j E).keep K M λx T=>R j E e x T
 ·by_cases e:i=0
  ·subst e;simp only[upd_same];exact o.1 rfl v
  simp only[upd_ne _ _ (qAF e)];exact⟨λN=>qAz (o.2.2 e) ((h.saysM v).1 N),λN=>qCk (o.2.2 e) ((h.saysM v).2 N)⟩
 ·by_cases e:i=0
  ·subst e;simp only[upd_same]at F;exact o.2.1 rfl k n Q F
  simp only[upd_ne _ _ (qAF e)]at F;exact h.cntN k n Q F
 ·by_cases e:j=i
  ·subst e;simp only[upd_same]at x ⊢;exact I x
  simp only[upd_ne _ _ e]at x ⊢;exact h.tk j E x
 ·have:j≠i:=by rintro rfl;omega
  simp only[upd_ne _ _ this];exact h.olds j g r
 ·by_cases e:j=i
  ·subst e;simp only[upd_same];exact U (by have:=h.pos;omega) g
  simp only[upd_ne _ _ e];exact h.works j g r
 ·by_cases e:j=i
  ·subst e;simp only[upd_same];exact z (by have:=h.pos;omega) (h.lwk j g r)
  simp only[upd_ne _ _ e];exact h.lwk j g r
 ·by_cases e:j=i
  ·subst e;simp only[upd_same];exact B y (by have:=h.pos;omega)
  simp only[upd_ne _ _ e];exact h.run y j g r
 by_cases e:i=0
 ·subst e;simp only[upd_same]at g;exact A rfl g
 simp only[upd_ne _ _ (qAF e)]at g;exact h.mcl g
end
end
section
variable{G:Prop}
open Go.ConcN (sumTo upd sumTo_upd upd_ne upd_same)
abbrev CS(c:Cx)(s:Ts)(i:Nat)(l:List Nat)(x:Mu)(a b:Nat):Prop:=Mu.jA x (Mu.mu x s.pm (upd s.tag i l) s.next) l->bP c { s with mu:=x,tag:=upd s.tag i l }/\Mu.mu x s.pm (upd s.tag i l) s.next+a=Mu.mu s.mu s.pm s.tag s.next+b
def bP.tW(h:G:=by
  intro hy;have gQ:i≠0:=by have:=h.pos;omega
  obtain⟨h1,h2⟩:=q;refine⟨h.step hi (.inr hb) s.wg h1 (OG h2 (by decide)) ?_ ?_ (w h.wg hi gQ hc hl) hy ⟨λe=>absurd e gQ,λe=>absurd e gQ,λ_=>dO _⟩ (λe=>O) (λ_ _=>⟨O,λe=>O⟩) (λ_ yK=>?_) ?_ (λe=>absurd e gQ),h2⟩
  ·first | exact λ_=>rfl | exact λe=>absurd e (Zto h2 (by decide))
  ·intro j hj S3 h9 hS;have:=h.mu.MX hi hj S3 h9 hS;rw[hc]at this;first
   | exact⟨by first | exact hS | rfl,by first | exact dO _ | exact Nat.le_succ _⟩
   | (exfalso;first | omega | (unfold Mu.st at kh;omega) | (simp[Yo,cT,cQ,cA,cU,cR,one]at this<;>omega))
  ·rw[hc]at yK;rw[hl];first | exact yK.start nP | exact yK.low O O O O | exact yK.MV O O
  first
  | exact λ_ _=>⟨O,O,h19⟩
  | exact λe=>by have:=(h.run e i hb hi).2.1;omega
  | exact λe=>by rw[Gc]at e;simp at e
  | exact λ_ _=>⟨O,O,λe=>by rw[e]at hl;simp[cd]at hl⟩):G:=h
def bP.tM(h:G:=by
  obtain⟨h1,h2⟩:=h.mu.main (more:=s.pm) (l:=l) h.next0 O O;refine h.step h.next0 (.inl rfl) _ h1 (qDO h2) (λ_=>rfl) (λj hj S3 h9 hS=>⟨hS,dO _⟩) w (Mu.kJ O) ⟨λ_ v=>⟨λe=>?_,λe=>?_⟩,λ_ k n hk e=>?_,λe=>absurd rfl e⟩ (λe=>O) (λe=>absurd rfl e) (λe=>absurd rfl e) (λ_ e=>absurd rfl e) (λ_ e=>?_)
  ·first | exact hv v e | (rw[e]at hl;simp[cd]at hl)
  ·first | exact hv v e | (rw[e]at hl;simp[cd]at hl)
  ·first | exact hn k n e | (rw[e]at hl;simp[cd]at hl;omega)
  first | omega | exact jQ | exact h.mcl O):G:=h
section
variable{c:Cx}{s:Ts}{i:Nat}{l:List Nat}
def bP.HO(h:bP c s)(hi:i<s.next)(hb:c.base<=i)(hc:cd (s.tag i)=2)(hl:cd l=10)(kh:s.mu.st=0) :CS c s i l { s.mu with L:=1 } 6 3:=by have q:=Mu.HO (more:=s.pm) (l:=l) h.mu hi hc hl kh;have w:=@Wg.AM;exact bP.tW
def bP.DR(h:bP c s)(hi:i<s.next)(hb:c.base<=i)(hc:cd (s.tag i)=4)(hl:cd l=5)(kh:s.mu.W=0)(g:s.mu.S=0) :CS c s i l { s.mu with W:=1 } 6 5:=by have q:=Mu.DR (more:=s.pm) (l:=l) h.mu hi hc hl kh g;have w:=@Wg.DI;exact bP.tW
def bP.AH(h:bP c s)(hi:i<s.next)(hb:c.base<=i)(hc:cd (s.tag i)=4)(hl:cd l=10)(kh:s.mu.L=0)(g:s.mu.S=0) :CS c s i l { s.mu with L:=1 } 6 3:=by have q:=Mu.AH (more:=s.pm) (l:=l) h.mu hi hc hl kh g;have w:=@Wg.AL;exact bP.tW
def bP.AG(h:bP c s)(hi:i<s.next)(hb:c.base<=i)(hc:cd (s.tag i)=6)(hl:cd l=10)(kh:s.mu.L=0)(g:s.mu.S=0) :CS c s i l { s.mu with L:=1,W:=0 } 5 3:=by have q:=Mu.AG (more:=s.pm) (l:=l) h.mu hi hc hl kh g;have w:=@Wg.AK;exact bP.tW
def bP.rW(h:bP c s)(hi:i<s.next)(hb:c.base<=i)(hc:cd (s.tag i)=4)(hl:cd l=7)(kh:s.mu.L=1\/s.mu.S=1) :CS c s i l { s.mu with n:=s.mu.n+1 } 6 4:=by have q:=Mu.rW (more:=s.pm) (l:=l) h.mu hi hc hl kh;have w:=@Wg.DH;exact bP.tW
def bP.rV(h:bP c s)(hi:i<s.next)(hb:c.base<=i)(hc:cd (s.tag i)=6)(hl:cd l=7)(kh:s.mu.L=1) :CS c s i l { s.mu with n:=s.mu.n+1,W:=0 } 5 4:=by have q:=Mu.rV (more:=s.pm) (l:=l) h.mu hi hc hl kh;have w:=@Wg.wK;exact bP.tW
def bP.oO(h:bP c s)(hi:i<s.next)(hb:c.base<=i)(hc:cd (s.tag i)=6)(hl:cd l=7)(kh:s.mu.L=1) :CS c s i l { s.mu with n:=s.mu.n+1,W:=0,S:=1 } 5 4:=by have q:=Mu.oO (more:=s.pm) (l:=l) h.mu hi hc hl kh;have w:=@Wg.wK;exact bP.tW
def bP.rP(h:bP c s)(hi:i<s.next)(hb:c.base<=i)(hc:cd (s.tag i)=7)(hl:cd l=8)(kh:0<s.mu.sm) :CS c s i l { s.mu with sm:=s.mu.sm-1 } 5 5:=by have q:=Mu.rP (more:=s.pm) (l:=l) h.mu hi hc hl kh;have w:=@Wg.DD;exact bP.tW
def bP.wH(h:bP c s)(hi:i<s.next)(hb:c.base<=i)(hc:cd (s.tag i)=8)(hl:cd l=6)(kh:s.mu.S=0) :CS c s i l s.mu 5 5:=by have q:=Mu.wH (more:=s.pm) (l:=l) h.mu hi hc hl kh;have w:=@Wg.DC;exact bP.tW
def bP.AB(h:bP c s)(hi:i<s.next)(hb:c.base<=i)(hc:cd (s.tag i)=8)(hl:cd l=9)(kh:s.mu.S=1) :CS c s i l s.mu 5 5:=by have q:=Mu.AB (more:=s.pm) (l:=l) h.mu hi hc hl kh;have w:=@Wg.C9;exact bP.tW
def bP.hand(h:bP c s)(hi:i<s.next)(hb:c.base<=i)(hc:cd (s.tag i)=9)(hl:cd l=10)(kh:s.mu.S=1)(g:2<=s.mu.n) :CS c s i l { s.mu with L:=1,n:=s.mu.n-1 } 5 3:=by have q:=Mu.hand (more:=s.pm) (l:=l) h.mu hi hc hl kh g;have w:=@Wg.tK;exact bP.tW
def bP.BS(h:bP c s)(hi:i<s.next)(hb:c.base<=i)(hc:cd (s.tag i)=9)(hl:cd l=10)(kh:s.mu.S=1) :CS c s i l { s.mu with L:=1,n:=s.mu.n-1,S:=0 } 5 3:=by have q:=Mu.BS (more:=s.pm) (l:=l) h.mu hi hc hl kh;have w:=@Wg.tK;exact bP.tW
def bP.rN(h:bP c s)(hi:i<s.next)(hb:c.base<=i)(hc:cd (s.tag i)=14)(hl:cd l=18)(kh:s.mu.S=0)(g:s.mu.n=0\/s.mu.W=1) :CS c s i l { s.mu with L:=0 } 3 0:=by have q:=Mu.rN (more:=s.pm) (l:=l) h.mu hi hc hl kh g;have w:=@Wg.xQ;exact bP.tW
def bP.oJ(h:bP c s)(hi:i<s.next)(hb:c.base<=i)(hc:cd (s.tag i)=14)(hl:cd l=15)(kh:s.mu.S=0) :CS c s i l { s.mu with L:=0 } 3 2:=by have q:=Mu.oJ (more:=s.pm) (l:=l) h.mu hi hc hl kh;have w:=@Wg.xS;exact bP.tW
def bP.rL(h:bP c s)(hi:i<s.next)(hb:c.base<=i)(hc:cd (s.tag i)=14)(hl:cd l=17)(kh:s.mu.S=1) :CS c s i l { s.mu with L:=0 } 3 1:=by have q:=Mu.rL (more:=s.pm) (l:=l) h.mu hi hc hl kh;have w:=@Wg.xR;exact bP.tW
def bP.BT(h:bP c s)(hi:i<s.next)(hb:c.base<=i)(hc:cd (s.tag i)=15)(hl:cd l=17)(kh:s.mu.L=0)(g:s.mu.W=0)(j:s.mu.S=0)(o:0<s.mu.n) :CS c s i l { s.mu with n:=s.mu.n-1,W:=1 } 2 1:=by have q:=Mu.BT (more:=s.pm) (l:=l) h.mu hi hc hl kh g j o;have w:=@Wg.xO;exact bP.tW
def bP.u6(h:bP c s)(hi:i<s.next)(hb:c.base<=i)(hc:cd (s.tag i)=17)(hl:cd l=18) :CS c s i l { s.mu with sm:=s.mu.sm+1 } 1 1:=by have q:=Mu.u6 (more:=s.pm) (l:=l) h.mu hi hc hl;have w:=@Wg.xL;exact bP.tW
def bP.vE(h:bP c s)(hi:i<s.next)(hb:c.base<=i)(hc:cd (s.tag i)=16)(hl:cd l=18)(kh:s.mu.L=1\/s.mu.W=1\/s.mu.S=1\/s.mu.n=0) :CS c s i l s.mu 2 0:=by have q:=Mu.vE (more:=s.pm) (l:=l) h.mu hi hc hl kh;have w:=@Wg.xM;exact bP.tW
def bP.rR(h:bP c s)(hi:i<s.next)(hb:c.base<=i)(hc:cd (s.tag i)=1)(hl:cd l=2)(nP:c.need (s.hd i)=true):CS c s i l s.mu 6 6:=by have q:=Mu.rR (more:=s.pm) (l:=l) h.mu hi hc hl;have w:=@Wg.DN;exact bP.tW
def bP.rQ(h:bP c s)(hi:i<s.next)(hb:c.base<=i)(hc:cd (s.tag i)=2)(hl:cd l=3) :CS c s i l s.mu 6 6:=by have q:=Mu.rQ (more:=s.pm) (l:=l) h.mu hi hc hl;have w:=@Wg.DL;exact bP.tW
def bP.same3_4(h:bP c s)(hi:i<s.next)(hb:c.base<=i)(hc:cd (s.tag i)=3)(hl:cd l=4) :CS c s i l s.mu 6 6:=by have q:=Mu.same3_4 (more:=s.pm) (l:=l) h.mu hi hc hl;have w:=@Wg.DK;exact bP.tW
def bP.oN(h:bP c s)(hi:i<s.next)(hb:c.base<=i)(hc:cd (s.tag i)=4)(hl:cd l=3) :CS c s i l s.mu 6 6:=by have q:=Mu.oN (more:=s.pm) (l:=l) h.mu hi hc hl;have w:=@Wg.DJ;exact bP.tW
def bP.same5_6(h:bP c s)(hi:i<s.next)(hb:c.base<=i)(hc:cd (s.tag i)=5)(hl:cd l=6) :CS c s i l s.mu 5 5:=by have q:=Mu.same5_6 (more:=s.pm) (l:=l) h.mu hi hc hl;have w:=@Wg.DG;exact bP.tW
def bP.oM(h:bP c s)(hi:i<s.next)(hb:c.base<=i)(hc:cd (s.tag i)=6)(hl:cd l=5) :CS c s i l s.mu 5 5:=by have q:=Mu.oM (more:=s.pm) (l:=l) h.mu hi hc hl;have w:=@Wg.DF;exact bP.tW
def bP.nC(h:bP c s)(hi:i<s.next)(hb:c.base<=i)(hc:cd (s.tag i)=10)(hl:cd l=11) :CS c s i l s.mu 3 3:=by have q:=Mu.nC (more:=s.pm) (l:=l) h.mu hi hc hl;have w:=@Wg.xW;exact bP.tW
def bP.nB(h:bP c s)(hi:i<s.next)(hb:c.base<=i)(hc:cd (s.tag i)=13)(hl:cd l=14) :CS c s i l s.mu 3 3:=by have q:=Mu.nB (more:=s.pm) (l:=l) h.mu hi hc hl;have w:=@Wg.xT;exact bP.tW
def bP.nA(h:bP c s)(hi:i<s.next)(hb:c.base<=i)(hc:cd (s.tag i)=15)(hl:cd l=16) :CS c s i l s.mu 2 2:=by have q:=Mu.nA (more:=s.pm) (l:=l) h.mu hi hc hl;have w:=@Wg.xP;exact bP.tW
def bP.m9(h:bP c s)(hi:i<s.next)(hb:c.base<=i)(hc:cd (s.tag i)=16)(hl:cd l=15) :CS c s i l s.mu 2 2:=by have q:=Mu.m9 (more:=s.pm) (l:=l) h.mu hi hc hl;have w:=@Wg.xN;exact bP.tW
def bP.m8(h:bP c s)(hi:i<s.next)(hb:c.base<=i)(hc:cd (s.tag i)=18)(hl:cd l=19)(h19:l≠[19,1]):CS c s i l s.mu 0 0:=by have q:=Mu.m8 (more:=s.pm) (l:=l) h.mu hi hc hl;have w:=@Wg.xK;exact bP.tW
def bP.same19_20(h:bP c s)(hi:i<s.next)(hb:c.base<=i)(hc:cd (s.tag i)=19)(hl:cd l=20)(Gc:s.cls=true):CS c s i l s.mu 0 0:=by have q:=Mu.same19_20 (more:=s.pm) (l:=l) h.mu hi hc hl;have w:=@Wg.xJ;exact bP.tW
def bP.m7(h:bP c s)(hi:i<s.next)(hb:c.base<=i)(hc:cd (s.tag i)=20)(hl:cd l=21) :CS c s i l s.mu 0 0:=by have q:=Mu.m7 (more:=s.pm) (l:=l) h.mu hi hc hl;have w:=@Wg.xI;exact bP.tW
def bP.m6(h:bP c s)(hi:i<s.next)(hb:c.base<=i)(hc:cd (s.tag i)=22)(hl:cd l=23) :CS c s i l s.mu 0 0:=by have q:=Mu.m6 (more:=s.pm) (l:=l) h.mu hi hc hl;have w:=@Wg.xH;exact bP.tW
def bP.B0(h:bP c s)(q:i<s.next)(hb:c.base<=i)(r:cd (s.tag i)=21)(A:¬ (s.wg.v=1/\s.wg.wt=1))
   :bP c { s with wg:={ s.wg with v:=s.wg.v-1 },tag:=upd s.tag i [0] }:=by
 have g:i≠0:=by have:=h.pos;omega
 obtain⟨u,x⟩:=Mu.AQ (more:=s.pm) (l:=[0]) h.mu q r rfl;refine h.step q (.inr hb) _ u (OG x (by decide)) (λ_=>rfl) ?_ (Wg.B0 (l:=[0]) h.wg q g r rfl A) trivial ⟨λe=>absurd e g,λe=>absurd e g,λ_=>Nat.sub_le _ _⟩ (λe=>by simp[cd]at e) (λ_ _=>⟨by decide,λe=>rfl⟩) (λ_ o=>?_) (λe=>by have:=(h.run e i hb q).2.1;omega) (λe=>absurd e g)
 ·exact λj D z B y=>⟨y,dO _⟩
 rw[r]at o;exact o.MV O (by decide)
def bP.B3(h:bP c s)(q:i<s.next)(hb:c.base<=i)(r:cd (s.tag i)=21)(u:cd l=22)(B:Mu.jA s.mu (Mu.mu s.mu s.pm (upd s.tag i l) s.next) l)(D:s.wg.v=1/\s.wg.wt=1)
   :bP c { s with wg:={ s.wg with v:=s.wg.v-1 },tag:=upd s.tag i l }:=by
 have g:i≠0:=by have:=h.pos;omega
 obtain⟨x,y⟩:=Mu.x9 (more:=s.pm) (l:=l) h.mu q r u;refine h.step q (.inr hb) _ x (OG y (by decide)) (λ_=>rfl) ?_ (Wg.B3 (l:=l) h.wg q g r u D) B ⟨λe=>absurd e g,λe=>absurd e g,λ_=>Nat.sub_le _ _⟩ (λe=>O) (λ_ _=>⟨O,λe=>O⟩) (λ_ o=>?_) (λe=>by have:=(h.run e i hb q).2.1;omega) (λe=>absurd e g)
 ·exact λj F A E z=>⟨z,dO _⟩
 rw[r]at o;rw[u];exact o.MV O O
def bP.u4(h:bP c s)(q:i<s.next)(hb:c.base<=i)(r:cd (s.tag i)=23)(u:cd l=24)(B:Mu.jA s.mu (Mu.mu s.mu s.pm (upd s.tag i l) s.next) l)
   :bP c { s with wg:={ s.wg with wt:=0 },tag:=upd s.tag i l }:=by
 have g:i≠0:=by have:=h.pos;omega
 obtain⟨x,y⟩:=Mu.x8 (more:=s.pm) (l:=l) h.mu q r u;refine h.step q (.inr hb) _ x (OG y (by decide)) (λ_=>rfl) ?_ (Wg.u4 (l:=l) h.wg q g r u) B ⟨λe=>absurd e g,λe=>absurd e g,λ_=>dO _⟩ (λe=>O) (λ_ _=>⟨O,λe=>O⟩) (λ_ o=>?_) (λe=>by have:=(h.run e i hb q).2.1;omega) (λe=>absurd e g)
 ·exact λj E A D z=>⟨z,dO _⟩
 rw[r]at o;rw[u];exact o.MV O O
def bP.AA(h:bP c s)(q:i<s.next)(hb:c.base<=i)(r:cd (s.tag i)=24)
   :bP c { s with wg:={ s.wg with wm:=s.wg.wm+1 },tag:=upd s.tag i [0] }:=by
 have g:i≠0:=by have:=h.pos;omega
 obtain⟨u,x⟩:=Mu.AP (more:=s.pm) (l:=[0]) h.mu q r rfl;refine h.step q (.inr hb) _ u (OG x (by decide)) (λ_=>rfl) ?_ (Wg.AA (l:=[0]) h.wg q g r rfl) trivial ⟨λe=>absurd e g,λe=>absurd e g,λ_=>dO _⟩ (λe=>by simp[cd]at e) (λ_ _=>⟨by decide,λe=>rfl⟩) (λ_ o=>?_) (λe=>by have:=(h.run e i hb q).2.1;omega) (λe=>absurd e g)
 ·exact λj B z A y=>⟨y,dO _⟩
 rw[r]at o;exact o.MV O (by decide)
def bP.MW(h:bP c s)(g:cd (s.tag 0)=31)(hl:cd l=32)(hn:∀k n,l=[k,n]->s.next=c.base+n):bP c { s with wg:={ s.wg with v:=s.wg.v+1 },tag:=upd s.tag 0 l }:=by have w:=Wg.add h.wg h.next0 g hl;exact bP.tM
def bP.DZ(h:bP c s)(j:cd (s.tag 0)=34)(hl:cd l=38)(o:s.wg.v=0)(g:s.more=0) :bP c { s with wg:=s.wg,tag:=upd s.tag 0 l }:=by have w:=Wg.MK h.wg h.next0 j hl o g;exact bP.tM
def bP.DY(h:bP c s)(g:cd (s.tag 0)=34)(hl:cd l=35)(j:s.wg.v≠0)(hv:∀v,l=[35,v]->s.wg.v<=v):bP c { s with wg:=s.wg,tag:=upd s.tag 0 l }:=by have w:=Wg.MJ h.wg h.next0 g hl j;exact bP.tM
def bP.GU(h:bP c s)(g:cd (s.tag 0)=35)(hl:cd l=34)(hv:∀v,l=[34,v]->s.wg.v<v):bP c { s with wg:=s.wg,tag:=upd s.tag 0 l }:=by have w:=Wg.Dh h.wg h.next0 g hl;exact bP.tM
def bP.GR(h:bP c s)(g:cd (s.tag 0)=35)(hl:cd l=36)(j:s.wg.v≠0) :bP c { s with wg:={ s.wg with wt:=1 },tag:=upd s.tag 0 l }:=by have w:=Wg.MA h.wg h.next0 g hl j;exact bP.tM
def bP.m_woken(h:bP c s)(g:cd (s.tag 0)=36)(hl:cd l=37)(j:s.wg.wm≠0) :bP c { s with wg:={ s.wg with wm:=s.wg.wm-1 },tag:=upd s.tag 0 l }:=by have w:=Wg.woken h.wg h.next0 g hl j;exact bP.tM
def bP.tV(h:bP c s)(g:cd (s.tag 0)=30)(hl:cd l=31)(hn:∀k n,l=[k,n]->s.next=c.base+n):bP c { s with wg:=s.wg,tag:=upd s.tag 0 l }:=by have w:=Wg.x7 h.wg h.next0 g hl;exact bP.tM
def bP.tS(h:bP c s)(g:cd (s.tag 0)=32)(hl:cd l=33)(hn:∀k n,l=[k,n]->s.next=c.base+n):bP c { s with wg:=s.wg,tag:=upd s.tag 0 l }:=by have w:=Wg.x0 h.wg h.next0 g hl;exact bP.tM
def bP.tU(h:bP c s)(j:cd (s.tag 0)=30)(hl:cd l=34)(g:s.more=0)(jQ:s.cls=true)(hv:∀v,l=[34,v]->s.wg.v<v):bP c { s with wg:=s.wg,tag:=upd s.tag 0 l }:=by have w:=Wg.x6 h.wg h.next0 j hl g;exact bP.tM
def bP.tR(h:bP c s)(g:cd (s.tag 0)=37)(hl:cd l=38) :bP c { s with wg:=s.wg,tag:=upd s.tag 0 l }:=by have w:=Wg.xZ h.wg h.next0 g hl;exact bP.tM
def bP.tQ(h:bP c s)(g:cd (s.tag 0)=38)(hl:cd l=39) :bP c { s with wg:=s.wg,tag:=upd s.tag 0 l }:=by have w:=Wg.xY h.wg h.next0 g hl;exact bP.tM
end
end
section
variable{P:Program}{f:FuncId}{e:Array Value->Sem Value}{vs:Array Value}{w w':World}{v:Value}{evs:Array Event}{s:Ts}{i:Nat}{l:List Nat}{H:Hp}{sm:Sem Next}{wk nr:Bool}{Post:Value->Hp->Prop}
open Go.Conc
open Go.ConcN (sumTo upd sumTo_upd upd_ne upd_same)
structure eX(P:Program)(f:FuncId)(e:Array Value->Sem Value):Prop where
 ex:∃fn,P.funcs[f]? = some fn/\(fn.name == "runtime.NumGoroutine")=false/\fn.body.isNone=true/\Extern.findNext fn=none/\Extern.find fn=some e
def Yn(f:FuncId):Event:=⟨.mark (.extern f),false,true⟩
def eX.val(h:eX P f e)(x:(e vs).run P w=.ok v w')(u:(e vs).events P w #[Yn f]=#[Yn f]++evs) :
  (callFunc f vs).runT P w #[]=(.ok (.value v) w',#[Yn f]++evs):=by
 obtain⟨fn,g,j,o,q,r⟩:=h.ex;rw[Sem.runT_eq,run_callFunc_extern g j o q r,x,events_callFunc_extern g j o q r];simp only[Result.andThen];rw[show(#[]:Array Event).push ⟨.mark (.extern f),false,true⟩=#[Yn f]from rfl,u]
def eX.blocks(h:eX P f e)(u:(e vs).run P w=.halt .blocked w') :
  ∃es,(callFunc f vs).runT P w #[]=(.halt .blocked w',es):=by
 obtain⟨fn,g,j,o,q,r⟩:=h.ex;exact⟨_,by rw[Sem.runT_eq,run_callFunc_extern g j o q r,u];rfl⟩
def O8{fn:FuncId}(h:∀x∈evs,x.sync=true/\∀g,x.loc≠.mark (.extern g)):seen P fn (#[Yn f]++evs)=evs:=seen_entry fn f evs h
section
variable{p:Program}{c:Cx}
structure eJ(p:Program)(c:Cx)(i:Nat)(s:Ts)(t:Trace)(w:World)(sm:Sem Next)(wk nr:Bool)(v:Value)(l:List Nat):Prop where
 ex:∃(w':World) (uB es:Array Event) (x':Mu) (y':Wg),sm.runT p w #[]=(.ok (.value v) w',uB)/\(∀fn,(nr=true->norace p fn=true)->seen p fn uB=es)/\bP c { s with mu:=x',wg:=y',tag:=upd s.tag i l } /\
  EX c.toTC i (Deaf t i) es/\(∀e∈es,∀B,c.M<B->c.W<B->(MemAct.ofEvent e).low B)/\deafBehind (Deaf t i) es=(if cd l=0 then 1 else df (cd l)) /\
  w'.heap[c.M]? = some (IZ c x')/\w'.heap[c.W]? = some (U0 c y')/\(∀b,b≠c.M->b≠c.W->w'.heap[b]? = w.heap[b]?)/\w'.heap.size=w.heap.size/\xE w w' /\
  (wk=true\/((s.mu.sm=0->x'.sm=0)/\(s.wg.wm=0->y'.wm=0)))
 nb:¬ ZQ s i\/l=s.tag i
 nt:cd (s.tag i)≠12/\cd (s.tag i)≠40
 nt':cd l≠12/\cd l≠40
 dn:20<=cd l\/cd l=0->Y6 s i
 nz:cd (s.tag i)≠0
def Zx2{o:Mu}{q:Wg}(g:¬ ZQ s i\/l=s.tag i)(r:s.mu.sm=0->o.sm=0)(u:s.wg.wm=0->q.wm=0)(j:Nat)(h:ZQ s j):ZQ { s with mu:=o,wg:=q,tag:=upd s.tag i l } j:=by
 have:upd s.tag i l j=s.tag j:=by
  by_cases e:j=i
  ·subst e;rcases g with g | g
   ·exact absurd h g
   rw[upd_same,g]
  exact upd_ne _ _ e
 unfold ZQ at h ⊢;simp only[this];exact h.imp (λ⟨a,b⟩=>⟨a,r b⟩) λ⟨a,b⟩=>⟨a,u b⟩
def La{g:List Nat}(h:Yw g\/Z3 g):g≠[0]:=by rintro rfl;simp[Yw,Z3,cd]at h
def IU(h:Yw l\/Z3 l):cd l≠0:=by unfold Yw Z3 at h;omega
def VR(h:Yw H.cg\/Z3 H.cg):H.gh≠[]:=by intro e;unfold Hp.cg at h;rw[e]at h;simp[Yw,Z3,ZN,cd]at h
def eJ.goes(ok:c.Ok){Hs:Hp}{t:Trace}(h:eJ p c i s t w sm wk nr v l)(D:dY (bO p c) i H s Hs t w)(X:s.tag i≠[0])
  {q:Frame} {A:Value->Frame} {cs:List Frame} (y:KV p q A sm wk nr) {K:Trace->Frame->List Frame->Hp->Prop} (V:∀E,(cd l=0->Deaf E i=1)->K E (A v) cs (H.tagged (pL l (s.hd i) :: l))):On (bO p c) i K q cs H s Hs t w:=by
 obtain⟨w',uB,es,F,I,M,N,O,Q,R,B,S,T,U,u,x,g⟩:=h.ex;have o:=RE D X;obtain⟨r,W⟩:=Zvm ok D o O Q R (λe=>by rw[B,aT e]) h.nt h.nt' h.nz h.dn S T U u x;have z:=N q.fn y.nr;obtain⟨m1,Y⟩:=W q.fn q.place;refine⟨A v,cs,w',H.tagged (pL l (s.hd i) :: l),{ s with mu:=F,wg:=I,tag:=upd s.tag i l },r,es,?_,m1,Y _,λj=>QF (i:=i) (l:=l) (s:=s) (s':={ s with mu:=F,wg:=I,tag:=upd s.tag i l }) rfl rfl j,rfl,dO _,?_,.inl rfl,V _ λe=>?_⟩
 ·rw[Ot y M,z]
 ·rcases g with g | ⟨J,L⟩
  ·exact .inl (y.wake g cs)
  exact .inr (Zx2 h.nb J L)
 rw[Deaf_own,B,iF e]
def O6(ok:c.Ok)(o:Yw H.cg)
  (h:∀s Hs t w,dY (bO p c) i H s Hs t w->((∃es,sm.runT p w #[]=(.halt .blocked w,es))/\ZQ s i)\/∃v l,eJ p c i s t w sm wk nr v l/\Yw l/\Post v (H.tagc l)):Zk ((bO p c).prgW i) sm wk nr H Post:=by
 intro G F J cs D y B;refine .eZ ⟨VR (.inl o),.inr (.inl ⟨o,λs Hs t w r=>?_⟩)⟩;obtain⟨g,u⟩:=YD r (IU (.inl o));rcases h s Hs t w r with⟨⟨es,E⟩,hb⟩ | ⟨v,l,z,x,A⟩
 ·exact .inr ⟨Mf y E,hb⟩
 refine .inl (z.goes ok r (by rw[g];exact La (.inl o)) y λK _=>.inl ?_);have e:H.tagged (pL l (s.hd i) :: l)=H.tagc l:=by rw[IY (IU (.inl x)),u];rfl
 rw[e];exact⟨B v _ A,x⟩
def Q3(ok:c.Ok)(o:Z3 H.cg)
  (h:∀s Hs t w,dY (bO p c) i (.aR H.gh) s Hs t w->((∃es,sm.runT p w #[]=(.halt .blocked w,es))/\ZQ s i)\/∃v l,eJ p c i s t w sm wk nr v l/\((Z3 l/\Post v (H.tagc l))\/(l=[0]/\Post v (H.tagged (lv 1))))):Zk ((bO p c).prgW i) sm wk nr H Post:=by
 intro G F I cs A y x;refine .eZ ⟨VR (.inr o),.inr (.inr (.inl ⟨o,λs Hs t w r=>?_⟩))⟩;obtain⟨g,u⟩:=YD r (IU (.inr o));rcases h s Hs t w r with⟨⟨es,D⟩,hb⟩ | ⟨v,l,z,j⟩
 ·exact .inr ⟨Mf y D,hb⟩
 refine .inl (z.goes ok r (by rw[g];exact La (.inr o)) y λJ E=>⟨λb=>rfl,?_⟩);rcases j with⟨j,q⟩ | ⟨rfl,q⟩
 ·left;have e:pL l (s.hd i)=H.hd+1:=by rw[IY (IU (.inr j)),u];rfl
  rw[e];exact⟨j,x v _ q⟩
 exact .inr ⟨rfl,by rw[E rfl];exact x v _ q⟩
def O5(ok:c.Ok)(r:30<=cd H.cg)
  (h:∀s Hs t w,dY (bO p c) 0 H s Hs t w->((∃es,sm.runT p w #[]=(.halt .blocked w,es))/\ZQ s 0)\/∃v l,eJ p c 0 s t w sm wk nr v l/\30<=cd l/\Post v (H.tagc l)):Zk ((bO p c).prgM) sm wk nr H Post:=by
 intro G F J cs D y B;refine .eZ ⟨VR (.inl (.inr r)),λs Hs t w q=>?_⟩;obtain⟨g,u⟩:=YD q (IU (.inl (.inr r)));rcases h s Hs t w q with⟨⟨es,E⟩,hb⟩ | ⟨v,l,z,x,A⟩
 ·exact .inr (.inl ⟨Mf y E,hb⟩)
 refine .inl (z.goes ok q (by rw[g];exact La (.inl (.inr r))) y λK _=>?_);have e:H.tagged (pL l (s.hd 0) :: l)=H.tagc l:=by rw[IY (IU (.inl (.inr x))),u];rfl
 rw[e];exact⟨B v _ A,.inr x⟩
def ZoN{d:Nat}(g:H.gh=lv d){uB es:Array Event}(u:∀w,sm.runT p w #[]=(.ok (.value v) w,uB))(x:∀fn,seen p fn uB=es)
  (q:∀e∈es,Event.mute e=true) (r:Post v (H.tagged (lv (deafBehind d es)))):Zk ((bO p c).prgW i) sm wk nr H Post:=by
 intro G z y cs o j h;refine .eZ ⟨by rw[g];simp[lv],.inl ⟨d,g,.inl ⟨y v,cs,es,q,λmain w=>(Ot (P:=p) j (u w)).trans (by rw[x]),h v _ r⟩⟩⟩
end
end
variable{C:TC}{d b off:Nat}{es uB:Array Event}{m:Mark}{cs:Array Value}{ty:TypeId}{v:Value}{sm:Sem Next}{wk nr:Bool}{l:List Nat}{w':World}{f:FuncId}
open Go.Conc
open Go.ConcN (sumTo upd sumTo_upd upd_ne upd_same)
abbrev Zt:Value:=.tuple #[]
def qH(b off:Nat)(g:Bool):Event:=⟨.cell ⟨b,off,none⟩,g,true⟩
section
variable{p:Program}{c:Cx}{i:Nat}{H:Hp}{s:Ts}{Hs:Hp}{t:Trace}{w:World}
def Ut(h:∀e∈es,∃b off o,e=qH b off o/\(b=C.M\/b=C.W))(x:d≠0) :
  EX C i d es/\(∀e∈es,∀B,C.M<B->C.W<B->(MemAct.ofEvent e).low B)/\deafBehind d es=d:=by
 have g:∀e∈es,e.loc≠.mark .disable/\e.loc≠.mark .enable:=by intro e q;obtain⟨b,off,o,rfl,_⟩:=h e q;exact⟨by simp[qH],by simp[qH]⟩
 refine⟨λk e y=>?_,λe q B A D=>?_,deafBehind_still g d⟩
 ·have z:e∈es:=by obtain⟨r,rfl⟩:=qAK.1 y;exact Array.getElem_mem r
  obtain⟨b,off,o,rfl,hb⟩:=h e z;refine⟨by cases o<;>simp[qH,MemAct.ofEvent],λa u _=>?_⟩;have:a=⟨.cell ⟨b,off,none⟩,o,.atomic⟩:=by cases o<;>simp[qH,MemAct.ofEvent,MemAct.touch?]at u<;>rw[<-u]
  subst this;refine⟨⟨b,rfl,hb⟩,by simp,by simp,λ_=>⟨rfl,?_⟩⟩;rw[deafBehind_still (λe q=>g e ?_) d]
  ·exact x
  obtain⟨j,E,rfl⟩:=qDp.1 q;simp only[Array.getElem_extract];exact Array.getElem_mem _
 obtain⟨b,off,o,rfl,hb⟩:=h e q;cases o<;>(simp only[qH,MemAct.ofEvent,MemAct.low,Loc.low];rcases hb with rfl | rfl<;>assumption)
def X6(hb:b=C.M\/b=C.W) :
  EX C i d (semEvents ⟨b,off,none⟩)/\(∀e∈semEvents ⟨b,off,none⟩,∀B,C.M<B->C.W<B->(MemAct.ofEvent e).low B)/\deafBehind d (semEvents ⟨b,off,none⟩)=d:=by
 refine⟨λk e g=>?_,λe o B r u=>?_,by simp[semEvents,deafBehind]⟩
 ·have key:∀j,(∀a,(MemAct.ofEvent (qH b off j)).touch? = some a->a.loc.isMemory=true->C.Sh a.loc/\a.kind≠.plain/\(a.kind=.said->i=0)/\(i≠0->a.kind=.atomic/\d+1≠0)):=by
   intro j a h _;have:a=⟨.cell ⟨b,off,none⟩,j,.atomic⟩:=by cases j<;>simp[qH,MemAct.ofEvent,MemAct.touch?]at h<;>rw[<-h]
   subst this;exact⟨⟨b,rfl,hb⟩,by simp,by simp,λ_=>⟨rfl,O⟩⟩
  match k,g with
  | 0,g=>
   simp[semEvents]at g;subst g;exact⟨by simp[MemAct.ofEvent],λa h=>by simp[MemAct.ofEvent,MemAct.touch?]at h⟩
  | 1,g=>
   simp[semEvents]at g;subst g;refine⟨by simp[MemAct.ofEvent],?_⟩;have:deafBehind d ((semEvents ⟨b,off,none⟩).extract 0 1)=d+1:=by simp[semEvents,deafBehind]
   rw[this];exact key false
  | 2,g=>
   simp[semEvents]at g;subst g;refine⟨by simp[MemAct.ofEvent],?_⟩;have:deafBehind d ((semEvents ⟨b,off,none⟩).extract 0 2)=d+1:=by simp[semEvents,deafBehind]
   rw[this];exact key true
  | 3,g=>
   simp[semEvents]at g;subst g;exact⟨by simp[MemAct.ofEvent],λa h=>by simp[MemAct.ofEvent,MemAct.touch?]at h⟩
  | k+4,g=>simp[semEvents]at g
 simp[semEvents]at o;rcases o with rfl | rfl | rfl | rfl<;>simp only[MemAct.ofEvent,MemAct.low,Loc.low]<;>(rcases hb with rfl | rfl<;>assumption)
def X5(u:m=.disable\/m=.enable\/(i=0/\∃off,m=.read ⟨C.W,off,none⟩\/m=.write ⟨C.W,off,none⟩)) :
  EX C i d #[⟨.mark m,false,true⟩]/\∀e∈(#[⟨.mark m,false,true⟩]:Array Event),∀B,C.M<B->C.W<B->(MemAct.ofEvent e).low B:=by
 refine⟨λk e j=>?_,λe r B x q=>?_⟩
 ·match k,j with
  | 0,j=>
   simp at j;subst j;rcases u with rfl | rfl | ⟨o,off,rfl | rfl⟩
   ·exact⟨by simp[MemAct.ofEvent],λa g=>by simp[MemAct.ofEvent,MemAct.touch?]at g⟩
   ·exact⟨by simp[MemAct.ofEvent],λa g=>by simp[MemAct.ofEvent,MemAct.touch?]at g⟩
   ·refine⟨by simp[MemAct.ofEvent],λa g _=>?_⟩;simp[MemAct.ofEvent,MemAct.touch?]at g;subst g;exact⟨⟨C.W,rfl,.inr rfl⟩,by simp,λ_=>o,λh=>absurd o h⟩
   refine⟨by simp[MemAct.ofEvent],λa g _=>?_⟩;simp[MemAct.ofEvent,MemAct.touch?]at g;subst g;exact⟨⟨C.W,rfl,.inr rfl⟩,by simp,λ_=>o,λh=>absurd o h⟩
  | k+1,j=>simp at j
 simp at r;subst r;rcases u with rfl | rfl | ⟨o,off,rfl | rfl⟩
 ·trivial
 ·trivial
 ·exact q
 exact q
def wM(ok:c.Ok)(g:dY (bO p c) i H s Hs t w):w.heap[c.M]? = some (IZ c s.mu):=g.leS _ _ _ ((show ZL c s Hs t from g.inv).atM ok)
def wW(g:dY (bO p c) i H s Hs t w):w.heap[c.W]? = some (U0 c s.wg):=g.leS _ _ _ ((show ZL c s Hs t from g.inv).atW)
def VV{w:World}(h:w.heap[b]? = some (.cells cs ty))(g:cs[off]? = some v):w.cell? ⟨b,off,none⟩=some v/\w.frozen? ⟨b,off,none⟩=false:=by
 constructor
 ·simp[World.cell?,h,g]
 simp[World.frozen?,h]
def Zhg{w:World}(h:w.heap[b]? = some (.cells cs ty)):(w.setCell ⟨b,off,none⟩ v).heap[b]? = some (.cells (cs.setIfInBounds off v) ty) /\
  (∀g,g≠b->(w.setCell ⟨b,off,none⟩ v).heap[g]? = w.heap[g]?)/\(w.setCell ⟨b,off,none⟩ v).heap.size=w.heap.size/\xE w (w.setCell ⟨b,off,none⟩ v):=by
 refine⟨?_,λg hb=>?_,by simp[World.setCell],⟨.refl _,rfl,rfl⟩⟩
 ·simp[World.setCell,qCA,h]
 simp[World.setCell,qCA,qAF hb]
theorem eJ.CJ(ok:c.Ok)(x:dY (bO p c) i H s Hs t w){x':Mu}(K:sm.runT p w #[]=(.ok (.value v) w',uB))(L:∀fn,(nr=true->norace p fn=true)->seen p fn uB=es)
  (O:(w'=w/\x'=s.mu)\/∃off u,w'=w.setCell ⟨c.M,off,none⟩ u/\(#[.int .i32 (s.mu.st:Nat),.int .u32 (s.mu.sm:Nat)]:Array Value).setIfInBounds off u=#[.int .i32 (x'.st:Nat),.int .u32 (x'.sm:Nat)])
  (j:bP c { s with mu:=x',tag:=upd s.tag i l }) (g:EX c.toTC i (Deaf t i) es/\(∀e∈es,∀B,c.M<B->c.W<B->(MemAct.ofEvent e).low B)/\deafBehind (Deaf t i) es=(if cd l=0 then 1 else df (cd l)))
  (hb:wk=true\/(s.mu.sm=0->x'.sm=0)) (Q:¬ ZQ s i\/l=s.tag i) (o:cd (s.tag i)≠12/\cd (s.tag i)≠40/\cd (s.tag i)≠0) (q:cd l≠12/\cd l≠40) (D:20<=cd l\/cd l=0->Y6 s i):eJ p c i s t w sm wk nr v l:=by
 have y:=wM ok x;have z:=wW x;refine⟨⟨w',uB,es,x',s.wg,K,L,j,g.1,g.2.1,g.2.2,?_⟩,Q,⟨o.1,o.2.1⟩,q,D,o.2.2⟩;rcases O with⟨rfl,rfl⟩ | ⟨off,u,rfl,N⟩
 ·exact⟨y,z,λ_ _ _=>rfl,rfl,.refl _,hb.imp id λh=>⟨h,id⟩⟩
 obtain⟨E,r,F,I⟩:=Zhg (off:=off) (v:=u) y;refine⟨?_,?_,λb J _=>r b J,F,I,hb.imp id λh=>⟨h,id⟩⟩
 ·rw[E,N];rfl
 rw[r _ (qAF ok.ne)];exact z
theorem eJ.zN(ok:c.Ok)(x:dY (bO p c) i H s Hs t w){y':Wg}(K:sm.runT p w #[]=(.ok (.value v) w',uB))(L:∀fn,(nr=true->norace p fn=true)->seen p fn uB=es)
  (O:(w'=w/\y'=s.wg)\/∃off u,w'=w.setCell ⟨c.W,off,none⟩ u/\(#[.int .u64 ((s.wg.v * 4294967296+s.wg.wt:Nat):Int),.int .u32 (s.wg.wm:Nat)]:Array Value).setIfInBounds off u=#[.int .u64 ((y'.v * 4294967296+y'.wt:Nat):Int),.int .u32 (y'.wm:Nat)])
  (j:bP c { s with wg:=y',tag:=upd s.tag i l }) (g:EX c.toTC i (Deaf t i) es/\(∀e∈es,∀B,c.M<B->c.W<B->(MemAct.ofEvent e).low B)/\deafBehind (Deaf t i) es=(if cd l=0 then 1 else df (cd l)))
  (hb:wk=true\/(s.wg.wm=0->y'.wm=0)) (Q:¬ ZQ s i\/l=s.tag i) (o:cd (s.tag i)≠12/\cd (s.tag i)≠40/\cd (s.tag i)≠0) (q:cd l≠12/\cd l≠40) (D:20<=cd l\/cd l=0->Y6 s i):eJ p c i s t w sm wk nr v l:=by
 have y:=wM ok x;have z:=wW x;refine⟨⟨w',uB,es,s.mu,y',K,L,j,g.1,g.2.1,g.2.2,?_⟩,Q,⟨o.1,o.2.1⟩,q,D,o.2.2⟩;rcases O with⟨rfl,rfl⟩ | ⟨off,u,rfl,N⟩
 ·exact⟨y,z,λ_ _ _=>rfl,rfl,.refl _,hb.imp id λh=>⟨id,h⟩⟩
 obtain⟨E,r,F,I⟩:=Zhg (off:=off) (v:=u) z;refine⟨?_,?_,λb _ J=>r b J,F,I,hb.imp id λh=>⟨id,h⟩⟩
 ·rw[r _ ok.ne];exact y
 rw[E,N];rfl
def VT(h:dY (bO p c) i H s Hs t w)(g:cd (s.tag i)≠0):Deaf t i=df (cd (s.tag i)):=
 (show ZL c s Hs t from h.inv).deaf i (RE h (by rintro e;rw[e]at g;exact g rfl)) g
def UD(j:dY (bO p c) i H s Hs t w)(g:1<=cd (s.tag i))(q:cd (s.tag i)<=24):c.base<=i:=by
 have o:=RE j (by rintro e;rw[e]at g;simp[cd]at g);rcases o.2 with rfl | h
 ·have:=(show ZL c s Hs t from j.inv).cnt.wg.main;omega
 exact h
def Q0(j:∀g,m≠.extern g)(h:eX p f (λ_=>do mark m;pure Zt))(vs:Array Value)(w:World):(callFunc f vs).runT p w #[]=(.ok (.value Zt) w,#[Yn f]++#[⟨.mark m,false,true⟩]):=
 h.val (by simp[run_mark]) (by simp[events_mark])
def Q1(o:∀g,m≠.extern g)(fn:FuncId):seen p fn (#[Yn f]++#[⟨.mark m,false,true⟩])=#[⟨.mark m,false,true⟩]:=
 O8 λx j=>by simp at j;subst j;exact⟨rfl,λg h=>o g (Loc.mark.inj h)⟩
def QZ{mk:Addr->Mark}(g:eX p f (Extern.Race.marked mk))(a:Addr)(w:World):(callFunc f #[.pointer (some a)]).runT p w #[]=(.ok (.value Zt) w,#[Yn f]++#[⟨.mark (mk a),false,true⟩]):=
 g.val (by simp[Extern.Race.marked,Extern.Race.at_,run_mark,Extern.Race.none_]) (by simp[Extern.Race.marked,Extern.Race.at_,events_mark])
end
