import Derived.Test.YtlhomfgcibjccaaGreatDoorP12
import Derived.Conc.AtomicLaws2
import Derived.Conc.MarkLaws
import Derived.Conc.ClockLaws
set_option linter.all false
namespace Go.LL
section
variable{G:Prop}
theorem KD(h:G:=by intro j hj gO h9 hS;have:=h.mu.lX hi hj gO h9 hS;rw[hc]at this;exfalso;omega):G:=h
theorem Zh8(h:G:=by
  refine⟨h.step hi (.inr hb) s.wg h1 (ZO h2 (by decide)) ?_ ?_ (Wg.zJ h.wg hi bD hc hl) hy ⟨λe=>absurd e bD,λe=>absurd e bD,λ_=>aC _⟩ (λe=>O) (λ_ _=>⟨O,λe=>O⟩) (λ_ cZ=>?_) (λ_ _=>⟨O,O,λe=>by rw[e]at hl;simp[cd]at hl⟩) (λe=>absurd e bD),h2⟩
  ·exact λe=>absurd e (Uq h2 (by decide))
  ·intro j hj gO h9 hS;have:=h.mu.lX hi hj gO h9 hS;rw[hc]at this;exfalso;have k8:cA 9=1:=rfl;omega
  rw[hc]at cZ;rw[hl];exact cZ.low O O O O):G:=h
theorem Zh9(h:G:=by
  refine⟨h.step hi (.inr hb) s.wg h1 (ZO h2 (by decide)) ?_ ?_ (Wg.DN h.wg hi bD hc hl) hy ⟨λe=>absurd e bD,λe=>absurd e bD,λ_=>aC _⟩ (λe=>O) (λ_ _=>⟨O,λe=>O⟩) (λ_ cZ=>?_) (λ_ _=>⟨O,O,λe=>by rw[e]at hl;simp[cd]at hl⟩) (λe=>absurd e bD),h2⟩
  ·exact λe=>absurd e (Uq h2 (by decide))
  ·intro j hj gO h9 hS;have:=h.mu.lX hi hj gO h9 hS;rw[hc]at this;exfalso;have Sd:Zk 6=0:=rfl;have Fe:cR 6=0:=rfl;omega
  rw[hc]at cZ;rw[hl];exact cZ.low O O O O):G:=h
theorem Vc(h:G:=by intro j hj gO h9 hS;have:=h.mu.lX hi hj gO h9 hS;rw[hc]at this;exact⟨by first | exact hS | rfl,by first | exact aC _ | exact Nat.le_succ _⟩):G:=h
open Go.ConcN (sumTo upd sumTo_upd upd_ne upd_same)
section
variable{c:Cx}{s:Ts}{i:Nat}{l:List Nat}
theorem bK.JH(h:bK c s)(hi:i<s.next)(hb:c.base<=i)(hc:cd (s.tag i)=2)(hl:cd l=10)(kh:s.mu.st=0)
  (hy:Mu.dM { s.mu with L:=1 } (Mu.mu { s.mu with L:=1 } s.pm (upd s.tag i l) s.next) l):bK c { s with mu:={ s.mu with L:=1 },tag:=upd s.tag i l }/\Mu.mu { s.mu with L:=1 } s.pm (upd s.tag i l) s.next+6=Mu.mu s.mu s.pm s.tag s.next+3:=by
 have bD:i≠0:=by have:=h.pos;omega
 obtain⟨h1,h2⟩:=Mu.JH (more:=s.pm) (l:=l) h.mu hi hc hl kh;refine⟨h.step hi (.inr hb) s.wg h1 (ZO h2 (by decide)) ?_ ?_ (Wg.zN h.wg hi bD hc hl) hy ⟨λe=>absurd e bD,λe=>absurd e bD,λ_=>aC _⟩ (λe=>O) (λ_ _=>⟨O,λe=>O⟩) (λ_ cZ=>?_) (λ_ _=>⟨O,O,λe=>by rw[e]at hl;simp[cd]at hl⟩) (λe=>absurd e bD),h2⟩
 ·exact λe=>absurd e (Uq h2 (by decide))
 ·intro j hj gO h9 hS;have:=h.mu.lX hi hj gO h9 hS;rw[hc]at this;exfalso;unfold Mu.st at kh;omega
 rw[hc]at cZ;rw[hl];exact cZ.low O O O O
theorem bK.DY(h:bK c s)(hi:i<s.next)(hb:c.base<=i)(hc:cd (s.tag i)=4)(hl:cd l=5)(kh:s.mu.W=0)(AI:s.mu.S=0)
  (hy:Mu.dM { s.mu with W:=1 } (Mu.mu { s.mu with W:=1 } s.pm (upd s.tag i l) s.next) l):bK c { s with mu:={ s.mu with W:=1 },tag:=upd s.tag i l }/\Mu.mu { s.mu with W:=1 } s.pm (upd s.tag i l) s.next+6=Mu.mu s.mu s.pm s.tag s.next+5:=by
 have bD:i≠0:=by have:=h.pos;omega
 obtain⟨h1,h2⟩:=Mu.DY (more:=s.pm) (l:=l) h.mu hi hc hl kh AI;refine⟨h.step hi (.inr hb) s.wg h1 (ZO h2 (by decide)) ?_ ?_ (Wg.DS h.wg hi bD hc hl) hy ⟨λe=>absurd e bD,λe=>absurd e bD,λ_=>aC _⟩ (λe=>O) (λ_ _=>⟨O,λe=>O⟩) (λ_ cZ=>?_) (λ_ _=>⟨O,O,λe=>by rw[e]at hl;simp[cd]at hl⟩) (λe=>absurd e bD),h2⟩
 ·exact λe=>absurd e (Uq h2 (by decide))
 ·exact KD
 rw[hc]at cZ;rw[hl];exact cZ.low O O O O
theorem bK.zF(h:bK c s)(hi:i<s.next)(hb:c.base<=i)(hc:cd (s.tag i)=4)(hl:cd l=10)(kh:s.mu.L=0)(AI:s.mu.S=0)
  (hy:Mu.dM { s.mu with L:=1 } (Mu.mu { s.mu with L:=1 } s.pm (upd s.tag i l) s.next) l):bK c { s with mu:={ s.mu with L:=1 },tag:=upd s.tag i l }/\Mu.mu { s.mu with L:=1 } s.pm (upd s.tag i l) s.next+6=Mu.mu s.mu s.pm s.tag s.next+3:=by
 have bD:i≠0:=by have:=h.pos;omega
 obtain⟨h1,h2⟩:=Mu.zF (more:=s.pm) (l:=l) h.mu hi hc hl kh AI;refine⟨h.step hi (.inr hb) s.wg h1 (ZO h2 (by decide)) ?_ ?_ (Wg.zM h.wg hi bD hc hl) hy ⟨λe=>absurd e bD,λe=>absurd e bD,λ_=>aC _⟩ (λe=>O) (λ_ _=>⟨O,λe=>O⟩) (λ_ cZ=>?_) (λ_ _=>⟨O,O,λe=>by rw[e]at hl;simp[cd]at hl⟩) (λe=>absurd e bD),h2⟩
 ·exact λe=>absurd e (Uq h2 (by decide))
 ·exact KD
 rw[hc]at cZ;rw[hl];exact cZ.low O O O O
theorem bK.zD(h:bK c s)(hi:i<s.next)(hb:c.base<=i)(hc:cd (s.tag i)=6)(hl:cd l=10)(kh:s.mu.L=0)(AI:s.mu.S=0)
  (hy:Mu.dM { s.mu with L:=1,W:=0 } (Mu.mu { s.mu with L:=1,W:=0 } s.pm (upd s.tag i l) s.next) l):bK c { s with mu:={ s.mu with L:=1,W:=0 },tag:=upd s.tag i l }/\Mu.mu { s.mu with L:=1,W:=0 } s.pm (upd s.tag i l) s.next+5=Mu.mu s.mu s.pm s.tag s.next+3:=by
 have bD:i≠0:=by have:=h.pos;omega
 obtain⟨h1,h2⟩:=Mu.zD (more:=s.pm) (l:=l) h.mu hi hc hl kh AI;refine⟨h.step hi (.inr hb) s.wg h1 (ZO h2 (by decide)) ?_ ?_ (Wg.zK h.wg hi bD hc hl) hy ⟨λe=>absurd e bD,λe=>absurd e bD,λ_=>aC _⟩ (λe=>O) (λ_ _=>⟨O,λe=>O⟩) (λ_ cZ=>?_) (λ_ _=>⟨O,O,λe=>by rw[e]at hl;simp[cd]at hl⟩) (λe=>absurd e bD),h2⟩
 ·exact λe=>absurd e (Uq h2 (by decide))
 ·exact KD
 rw[hc]at cZ;rw[hl];exact cZ.low O O O O
theorem bK.qS(h:bK c s)(hi:i<s.next)(hb:c.base<=i)(hc:cd (s.tag i)=4)(hl:cd l=7)(kh:s.mu.L=1\/s.mu.S=1)
  (hy:Mu.dM { s.mu with n:=s.mu.n+1 } (Mu.mu { s.mu with n:=s.mu.n+1 } s.pm (upd s.tag i l) s.next) l):bK c { s with mu:={ s.mu with n:=s.mu.n+1 },tag:=upd s.tag i l }/\Mu.mu { s.mu with n:=s.mu.n+1 } s.pm (upd s.tag i l) s.next+6=Mu.mu s.mu s.pm s.tag s.next+4:=by
 have bD:i≠0:=by have:=h.pos;omega
 obtain⟨h1,h2⟩:=Mu.qS (more:=s.pm) (l:=l) h.mu hi hc hl kh;refine⟨h.step hi (.inr hb) s.wg h1 (ZO h2 (by decide)) ?_ ?_ (Wg.DR h.wg hi bD hc hl) hy ⟨λe=>absurd e bD,λe=>absurd e bD,λ_=>aC _⟩ (λe=>O) (λ_ _=>⟨O,λe=>O⟩) (λ_ cZ=>?_) (λ_ _=>⟨O,O,λe=>by rw[e]at hl;simp[cd]at hl⟩) (λe=>absurd e bD),h2⟩
 ·exact λe=>absurd e (Uq h2 (by decide))
 ·exact Vc
 rw[hc]at cZ;rw[hl];exact cZ.low O O O O
theorem bK.qR(h:bK c s)(hi:i<s.next)(hb:c.base<=i)(hc:cd (s.tag i)=6)(hl:cd l=7)(kh:s.mu.L=1)
  (hy:Mu.dM { s.mu with n:=s.mu.n+1,W:=0 } (Mu.mu { s.mu with n:=s.mu.n+1,W:=0 } s.pm (upd s.tag i l) s.next) l):bK c { s with mu:={ s.mu with n:=s.mu.n+1,W:=0 },tag:=upd s.tag i l }/\Mu.mu { s.mu with n:=s.mu.n+1,W:=0 } s.pm (upd s.tag i l) s.next+5=Mu.mu s.mu s.pm s.tag s.next+4:=by
 have bD:i≠0:=by have:=h.pos;omega
 obtain⟨h1,h2⟩:=Mu.qR (more:=s.pm) (l:=l) h.mu hi hc hl kh;exact Zh9
theorem bK.oC(h:bK c s)(hi:i<s.next)(hb:c.base<=i)(hc:cd (s.tag i)=6)(hl:cd l=7)(kh:s.mu.L=1)
  (hy:Mu.dM { s.mu with n:=s.mu.n+1,W:=0,S:=1 } (Mu.mu { s.mu with n:=s.mu.n+1,W:=0,S:=1 } s.pm (upd s.tag i l) s.next) l):bK c { s with mu:={ s.mu with n:=s.mu.n+1,W:=0,S:=1 },tag:=upd s.tag i l }/\Mu.mu { s.mu with n:=s.mu.n+1,W:=0,S:=1 } s.pm (upd s.tag i l) s.next+5=Mu.mu s.mu s.pm s.tag s.next+4:=by
 have bD:i≠0:=by have:=h.pos;omega
 obtain⟨h1,h2⟩:=Mu.oC (more:=s.pm) (l:=l) h.mu hi hc hl kh;exact Zh9
theorem bK.qN(h:bK c s)(hi:i<s.next)(hb:c.base<=i)(hc:cd (s.tag i)=7)(hl:cd l=8)(kh:0<s.mu.sm)
  (hy:Mu.dM { s.mu with sm:=s.mu.sm-1 } (Mu.mu { s.mu with sm:=s.mu.sm-1 } s.pm (upd s.tag i l) s.next) l):bK c { s with mu:={ s.mu with sm:=s.mu.sm-1 },tag:=upd s.tag i l }/\Mu.mu { s.mu with sm:=s.mu.sm-1 } s.pm (upd s.tag i l) s.next+5=Mu.mu s.mu s.pm s.tag s.next+5:=by
 have bD:i≠0:=by have:=h.pos;omega
 obtain⟨h1,h2⟩:=Mu.qN (more:=s.pm) (l:=l) h.mu hi hc hl kh;refine⟨h.step hi (.inr hb) s.wg h1 (ZO h2 (by decide)) ?_ ?_ (Wg.DM h.wg hi bD hc hl) hy ⟨λe=>absurd e bD,λe=>absurd e bD,λ_=>aC _⟩ (λe=>O) (λ_ _=>⟨O,λe=>O⟩) (λ_ cZ=>?_) (λ_ _=>⟨O,O,λe=>by rw[e]at hl;simp[cd]at hl⟩) (λe=>absurd e bD),h2⟩
 ·exact λ_=>rfl
 ·intro j hj gO h9 hS;have:=h.mu.lX hi hj gO h9 hS;rw[hc]at this;exfalso;have Sd:Zk 7=0:=rfl;have Fe:cR 7=0:=rfl;omega
 rw[hc]at cZ;rw[hl];exact cZ.low O O O O
theorem bK.vC(h:bK c s)(hi:i<s.next)(hb:c.base<=i)(hc:cd (s.tag i)=8)(hl:cd l=6)(kh:s.mu.S=0)
  (hy:Mu.dM s.mu (Mu.mu s.mu s.pm (upd s.tag i l) s.next) l):bK c { s with mu:=s.mu,tag:=upd s.tag i l }/\Mu.mu s.mu s.pm (upd s.tag i l) s.next+5=Mu.mu s.mu s.pm s.tag s.next+5:=by
 have bD:i≠0:=by have:=h.pos;omega
 obtain⟨h1,h2⟩:=Mu.vC (more:=s.pm) (l:=l) h.mu hi hc hl kh;refine⟨h.step hi (.inr hb) s.wg h1 (ZO h2 (by decide)) ?_ ?_ (Wg.DL h.wg hi bD hc hl) hy ⟨λe=>absurd e bD,λe=>absurd e bD,λ_=>aC _⟩ (λe=>O) (λ_ _=>⟨O,λe=>O⟩) (λ_ cZ=>?_) (λ_ _=>⟨O,O,λe=>by rw[e]at hl;simp[cd]at hl⟩) (λe=>absurd e bD),h2⟩
 ·exact λ_=>rfl
 ·exact KD
 rw[hc]at cZ;rw[hl];exact cZ.low O O O O
theorem bK.y7(h:bK c s)(hi:i<s.next)(hb:c.base<=i)(hc:cd (s.tag i)=8)(hl:cd l=9)(kh:s.mu.S=1)
  (hy:Mu.dM s.mu (Mu.mu s.mu s.pm (upd s.tag i l) s.next) l):bK c { s with mu:=s.mu,tag:=upd s.tag i l }/\Mu.mu s.mu s.pm (upd s.tag i l) s.next+5=Mu.mu s.mu s.pm s.tag s.next+5:=by
 have bD:i≠0:=by have:=h.pos;omega
 obtain⟨h1,h2⟩:=Mu.y7 (more:=s.pm) (l:=l) h.mu hi hc hl kh;refine⟨h.step hi (.inr hb) s.wg h1 (ZO h2 (by decide)) ?_ ?_ (Wg.DK h.wg hi bD hc hl) hy ⟨λe=>absurd e bD,λe=>absurd e bD,λ_=>aC _⟩ (λe=>O) (λ_ _=>⟨O,λe=>O⟩) (λ_ cZ=>?_) (λ_ _=>⟨O,O,λe=>by rw[e]at hl;simp[cd]at hl⟩) (λe=>absurd e bD),h2⟩
 ·exact λ_=>rfl
 ·intro j hj gO h9 hS;have:=h.mu.lX hi hj gO h9 hS;rw[hc]at this;exfalso;have k8:cA 8=1:=rfl;omega
 rw[hc]at cZ;rw[hl];exact cZ.low O O O O
theorem bK.hand(h:bK c s)(hi:i<s.next)(hb:c.base<=i)(hc:cd (s.tag i)=9)(hl:cd l=10)(kh:s.mu.S=1)(AI:2<=s.mu.n)
  (hy:Mu.dM { s.mu with L:=1,n:=s.mu.n-1 } (Mu.mu { s.mu with L:=1,n:=s.mu.n-1 } s.pm (upd s.tag i l) s.next) l):bK c { s with mu:={ s.mu with L:=1,n:=s.mu.n-1 },tag:=upd s.tag i l }/\Mu.mu { s.mu with L:=1,n:=s.mu.n-1 } s.pm (upd s.tag i l) s.next+5=Mu.mu s.mu s.pm s.tag s.next+3:=by
 have bD:i≠0:=by have:=h.pos;omega
 obtain⟨h1,h2⟩:=Mu.hand (more:=s.pm) (l:=l) h.mu hi hc hl kh AI;exact Zh8
theorem bK.BU(h:bK c s)(hi:i<s.next)(hb:c.base<=i)(hc:cd (s.tag i)=9)(hl:cd l=10)(kh:s.mu.S=1)
  (hy:Mu.dM { s.mu with L:=1,n:=s.mu.n-1,S:=0 } (Mu.mu { s.mu with L:=1,n:=s.mu.n-1,S:=0 } s.pm (upd s.tag i l) s.next) l):bK c { s with mu:={ s.mu with L:=1,n:=s.mu.n-1,S:=0 },tag:=upd s.tag i l }/\Mu.mu { s.mu with L:=1,n:=s.mu.n-1,S:=0 } s.pm (upd s.tag i l) s.next+5=Mu.mu s.mu s.pm s.tag s.next+3:=by
 have bD:i≠0:=by have:=h.pos;omega
 obtain⟨h1,h2⟩:=Mu.BU (more:=s.pm) (l:=l) h.mu hi hc hl kh;exact Zh8
theorem bK.qM(h:bK c s)(hi:i<s.next)(hb:c.base<=i)(hc:cd (s.tag i)=14)(hl:cd l=18)(kh:s.mu.S=0)(AI:s.mu.n=0\/s.mu.W=1)
  (hy:Mu.dM { s.mu with L:=0 } (Mu.mu { s.mu with L:=0 } s.pm (upd s.tag i l) s.next) l):bK c { s with mu:={ s.mu with L:=0 },tag:=upd s.tag i l }/\Mu.mu { s.mu with L:=0 } s.pm (upd s.tag i l) s.next+3=Mu.mu s.mu s.pm s.tag s.next+0:=by
 have bD:i≠0:=by have:=h.pos;omega
 obtain⟨h1,h2⟩:=Mu.qM (more:=s.pm) (l:=l) h.mu hi hc hl kh AI;refine⟨h.step hi (.inr hb) s.wg h1 (ZO h2 (by decide)) ?_ ?_ (Wg.wS h.wg hi bD hc hl) hy ⟨λe=>absurd e bD,λe=>absurd e bD,λ_=>aC _⟩ (λe=>O) (λ_ _=>⟨O,λe=>O⟩) (λ_ cZ=>?_) (λ_ _=>⟨O,O,λe=>by rw[e]at hl;simp[cd]at hl⟩) (λe=>absurd e bD),h2⟩
 ·exact λe=>absurd e (Uq h2 (by decide))
 ·exact KD
 rw[hc]at cZ;rw[hl];exact cZ.sF O O
theorem bK.n6(h:bK c s)(hi:i<s.next)(hb:c.base<=i)(hc:cd (s.tag i)=14)(hl:cd l=15)(kh:s.mu.S=0)
  (hy:Mu.dM { s.mu with L:=0 } (Mu.mu { s.mu with L:=0 } s.pm (upd s.tag i l) s.next) l):bK c { s with mu:={ s.mu with L:=0 },tag:=upd s.tag i l }/\Mu.mu { s.mu with L:=0 } s.pm (upd s.tag i l) s.next+3=Mu.mu s.mu s.pm s.tag s.next+2:=by
 have bD:i≠0:=by have:=h.pos;omega
 obtain⟨h1,h2⟩:=Mu.n6 (more:=s.pm) (l:=l) h.mu hi hc hl kh;refine⟨h.step hi (.inr hb) s.wg h1 (ZO h2 (by decide)) ?_ ?_ (Wg.wU h.wg hi bD hc hl) hy ⟨λe=>absurd e bD,λe=>absurd e bD,λ_=>aC _⟩ (λe=>O) (λ_ _=>⟨O,λe=>O⟩) (λ_ cZ=>?_) (λ_ _=>⟨O,O,λe=>by rw[e]at hl;simp[cd]at hl⟩) (λe=>absurd e bD),h2⟩
 ·exact λe=>absurd e (Uq h2 (by decide))
 ·exact KD
 rw[hc]at cZ;rw[hl];exact cZ.sF O O
theorem bK.qL(h:bK c s)(hi:i<s.next)(hb:c.base<=i)(hc:cd (s.tag i)=14)(hl:cd l=17)(kh:s.mu.S=1)
  (hy:Mu.dM { s.mu with L:=0 } (Mu.mu { s.mu with L:=0 } s.pm (upd s.tag i l) s.next) l):bK c { s with mu:={ s.mu with L:=0 },tag:=upd s.tag i l }/\Mu.mu { s.mu with L:=0 } s.pm (upd s.tag i l) s.next+3=Mu.mu s.mu s.pm s.tag s.next+1:=by
 have bD:i≠0:=by have:=h.pos;omega
 obtain⟨h1,h2⟩:=Mu.qL (more:=s.pm) (l:=l) h.mu hi hc hl kh;refine⟨h.step hi (.inr hb) s.wg h1 (ZO h2 (by decide)) ?_ ?_ (Wg.wT h.wg hi bD hc hl) hy ⟨λe=>absurd e bD,λe=>absurd e bD,λ_=>aC _⟩ (λe=>O) (λ_ _=>⟨O,λe=>O⟩) (λ_ cZ=>?_) (λ_ _=>⟨O,O,λe=>by rw[e]at hl;simp[cd]at hl⟩) (λe=>absurd e bD),h2⟩
 ·exact λe=>absurd e (Uq h2 (by decide))
 ·intro j hj gO h9 hS;have:=h.mu.lX hi hj gO h9 hS;rw[hc]at this;exfalso;have Sd:Zk 14=1:=rfl;have Fe:cR 14=0:=rfl;omega
 rw[hc]at cZ;rw[hl];exact cZ.sF O O
theorem bK.B0(h:bK c s)(hi:i<s.next)(hb:c.base<=i)(hc:cd (s.tag i)=15)(hl:cd l=17)(kh:s.mu.L=0)(AI:s.mu.W=0)(kh3:s.mu.S=0)(kh4:0<s.mu.n)
  (hy:Mu.dM { s.mu with n:=s.mu.n-1,W:=1 } (Mu.mu { s.mu with n:=s.mu.n-1,W:=1 } s.pm (upd s.tag i l) s.next) l):bK c { s with mu:={ s.mu with n:=s.mu.n-1,W:=1 },tag:=upd s.tag i l }/\Mu.mu { s.mu with n:=s.mu.n-1,W:=1 } s.pm (upd s.tag i l) s.next+2=Mu.mu s.mu s.pm s.tag s.next+1:=by
 have bD:i≠0:=by have:=h.pos;omega
 obtain⟨h1,h2⟩:=Mu.B0 (more:=s.pm) (l:=l) h.mu hi hc hl kh AI kh3 kh4;refine⟨h.step hi (.inr hb) s.wg h1 (ZO h2 (by decide)) ?_ ?_ (Wg.wQ h.wg hi bD hc hl) hy ⟨λe=>absurd e bD,λe=>absurd e bD,λ_=>aC _⟩ (λe=>O) (λ_ _=>⟨O,λe=>O⟩) (λ_ cZ=>?_) (λ_ _=>⟨O,O,λe=>by rw[e]at hl;simp[cd]at hl⟩) (λe=>absurd e bD),h2⟩
 ·exact λe=>absurd e (Uq h2 (by decide))
 ·exact KD
 rw[hc]at cZ;rw[hl];exact cZ.sF O O
theorem bK.t5(h:bK c s)(hi:i<s.next)(hb:c.base<=i)(hc:cd (s.tag i)=17)(hl:cd l=18)
  (hy:Mu.dM { s.mu with sm:=s.mu.sm+1 } (Mu.mu { s.mu with sm:=s.mu.sm+1 } s.pm (upd s.tag i l) s.next) l):bK c { s with mu:={ s.mu with sm:=s.mu.sm+1 },tag:=upd s.tag i l }/\Mu.mu { s.mu with sm:=s.mu.sm+1 } s.pm (upd s.tag i l) s.next+1=Mu.mu s.mu s.pm s.tag s.next+1:=by
 have bD:i≠0:=by have:=h.pos;omega
 obtain⟨h1,h2⟩:=Mu.t5 (more:=s.pm) (l:=l) h.mu hi hc hl;refine⟨h.step hi (.inr hb) s.wg h1 (ZO h2 (by decide)) ?_ ?_ (Wg.wN h.wg hi bD hc hl) hy ⟨λe=>absurd e bD,λe=>absurd e bD,λ_=>aC _⟩ (λe=>O) (λ_ _=>⟨O,λe=>O⟩) (λ_ cZ=>?_) (λ_ _=>⟨O,O,λe=>by rw[e]at hl;simp[cd]at hl⟩) (λe=>absurd e bD),h2⟩
 ·exact λ_=>rfl
 ·intro j hj gO h9 hS;have:=h.mu.lX hi hj gO h9 hS;rw[hc]at this;exfalso;have Fe:cR 17=1:=rfl;omega
 rw[hc]at cZ;rw[hl];exact cZ.sF O O
theorem bK.uH(h:bK c s)(hi:i<s.next)(hb:c.base<=i)(hc:cd (s.tag i)=16)(hl:cd l=18)(kh:s.mu.L=1\/s.mu.W=1\/s.mu.S=1\/s.mu.n=0)
  (hy:Mu.dM s.mu (Mu.mu s.mu s.pm (upd s.tag i l) s.next) l):bK c { s with mu:=s.mu,tag:=upd s.tag i l }/\Mu.mu s.mu s.pm (upd s.tag i l) s.next+2=Mu.mu s.mu s.pm s.tag s.next+0:=by
 have bD:i≠0:=by have:=h.pos;omega
 obtain⟨h1,h2⟩:=Mu.uH (more:=s.pm) (l:=l) h.mu hi hc hl kh;refine⟨h.step hi (.inr hb) s.wg h1 (ZO h2 (by decide)) ?_ ?_ (Wg.wO h.wg hi bD hc hl) hy ⟨λe=>absurd e bD,λe=>absurd e bD,λ_=>aC _⟩ (λe=>O) (λ_ _=>⟨O,λe=>O⟩) (λ_ cZ=>?_) (λ_ _=>⟨O,O,λe=>by rw[e]at hl;simp[cd]at hl⟩) (λe=>absurd e bD),h2⟩
 ·exact λ_=>rfl
 ·exact Vc
 rw[hc]at cZ;rw[hl];exact cZ.sF O O
theorem bK.qP(h:bK c s)(hi:i<s.next)(hb:c.base<=i)(hc:cd (s.tag i)=1)(hl:cd l=2)(iA:c.need (s.hd i)=true)
  (hy:Mu.dM s.mu (Mu.mu s.mu s.pm (upd s.tag i l) s.next) l):bK c { s with mu:=s.mu,tag:=upd s.tag i l }/\Mu.mu s.mu s.pm (upd s.tag i l) s.next+6=Mu.mu s.mu s.pm s.tag s.next+6:=by
 have bD:i≠0:=by have:=h.pos;omega
 obtain⟨h1,h2⟩:=Mu.qP (more:=s.pm) (l:=l) h.mu hi hc hl;refine⟨h.step hi (.inr hb) s.wg h1 (ZO h2 (by decide)) ?_ ?_ (Wg.DW h.wg hi bD hc hl) hy ⟨λe=>absurd e bD,λe=>absurd e bD,λ_=>aC _⟩ (λe=>O) (λ_ _=>⟨O,λe=>O⟩) (λ_ cZ=>?_) (λ_ _=>⟨O,O,λe=>by rw[e]at hl;simp[cd]at hl⟩) (λe=>absurd e bD),h2⟩
 ·exact λ_=>rfl
 ·exact Vc
 rw[hc]at cZ;rw[hl];exact cZ.start iA
theorem bK.qO(h:bK c s)(hi:i<s.next)(hb:c.base<=i)(hc:cd (s.tag i)=2)(hl:cd l=3)
  (hy:Mu.dM s.mu (Mu.mu s.mu s.pm (upd s.tag i l) s.next) l):bK c { s with mu:=s.mu,tag:=upd s.tag i l }/\Mu.mu s.mu s.pm (upd s.tag i l) s.next+6=Mu.mu s.mu s.pm s.tag s.next+6:=by
 have bD:i≠0:=by have:=h.pos;omega
 obtain⟨h1,h2⟩:=Mu.qO (more:=s.pm) (l:=l) h.mu hi hc hl;refine⟨h.step hi (.inr hb) s.wg h1 (ZO h2 (by decide)) ?_ ?_ (Wg.DV h.wg hi bD hc hl) hy ⟨λe=>absurd e bD,λe=>absurd e bD,λ_=>aC _⟩ (λe=>O) (λ_ _=>⟨O,λe=>O⟩) (λ_ cZ=>?_) (λ_ _=>⟨O,O,λe=>by rw[e]at hl;simp[cd]at hl⟩) (λe=>absurd e bD),h2⟩
 ·exact λ_=>rfl
 ·exact Vc
 rw[hc]at cZ;rw[hl];exact cZ.low O O O O
theorem bK.oB(h:bK c s)(hi:i<s.next)(hb:c.base<=i)(hc:cd (s.tag i)=3)(hl:cd l=4)
  (hy:Mu.dM s.mu (Mu.mu s.mu s.pm (upd s.tag i l) s.next) l):bK c { s with mu:=s.mu,tag:=upd s.tag i l }/\Mu.mu s.mu s.pm (upd s.tag i l) s.next+6=Mu.mu s.mu s.pm s.tag s.next+6:=by
 have bD:i≠0:=by have:=h.pos;omega
 obtain⟨h1,h2⟩:=Mu.oB (more:=s.pm) (l:=l) h.mu hi hc hl;refine⟨h.step hi (.inr hb) s.wg h1 (ZO h2 (by decide)) ?_ ?_ (Wg.DU h.wg hi bD hc hl) hy ⟨λe=>absurd e bD,λe=>absurd e bD,λ_=>aC _⟩ (λe=>O) (λ_ _=>⟨O,λe=>O⟩) (λ_ cZ=>?_) (λ_ _=>⟨O,O,λe=>by rw[e]at hl;simp[cd]at hl⟩) (λe=>absurd e bD),h2⟩
 ·exact λ_=>rfl
 ·exact Vc
 rw[hc]at cZ;rw[hl];exact cZ.low O O O O
theorem bK.oA(h:bK c s)(hi:i<s.next)(hb:c.base<=i)(hc:cd (s.tag i)=4)(hl:cd l=3)
  (hy:Mu.dM s.mu (Mu.mu s.mu s.pm (upd s.tag i l) s.next) l):bK c { s with mu:=s.mu,tag:=upd s.tag i l }/\Mu.mu s.mu s.pm (upd s.tag i l) s.next+6=Mu.mu s.mu s.pm s.tag s.next+6:=by
 have bD:i≠0:=by have:=h.pos;omega
 obtain⟨h1,h2⟩:=Mu.oA (more:=s.pm) (l:=l) h.mu hi hc hl;refine⟨h.step hi (.inr hb) s.wg h1 (ZO h2 (by decide)) ?_ ?_ (Wg.DT h.wg hi bD hc hl) hy ⟨λe=>absurd e bD,λe=>absurd e bD,λ_=>aC _⟩ (λe=>O) (λ_ _=>⟨O,λe=>O⟩) (λ_ cZ=>?_) (λ_ _=>⟨O,O,λe=>by rw[e]at hl;simp[cd]at hl⟩) (λe=>absurd e bD),h2⟩
 ·exact λ_=>rfl
 ·exact Vc
 rw[hc]at cZ;rw[hl];exact cZ.low O O O O
theorem bK.n9(h:bK c s)(hi:i<s.next)(hb:c.base<=i)(hc:cd (s.tag i)=5)(hl:cd l=6)
  (hy:Mu.dM s.mu (Mu.mu s.mu s.pm (upd s.tag i l) s.next) l):bK c { s with mu:=s.mu,tag:=upd s.tag i l }/\Mu.mu s.mu s.pm (upd s.tag i l) s.next+5=Mu.mu s.mu s.pm s.tag s.next+5:=by
 have bD:i≠0:=by have:=h.pos;omega
 obtain⟨h1,h2⟩:=Mu.n9 (more:=s.pm) (l:=l) h.mu hi hc hl;refine⟨h.step hi (.inr hb) s.wg h1 (ZO h2 (by decide)) ?_ ?_ (Wg.DQ h.wg hi bD hc hl) hy ⟨λe=>absurd e bD,λe=>absurd e bD,λ_=>aC _⟩ (λe=>O) (λ_ _=>⟨O,λe=>O⟩) (λ_ cZ=>?_) (λ_ _=>⟨O,O,λe=>by rw[e]at hl;simp[cd]at hl⟩) (λe=>absurd e bD),h2⟩
 ·exact λ_=>rfl
 ·exact Vc
 rw[hc]at cZ;rw[hl];exact cZ.low O O O O
theorem bK.n8(h:bK c s)(hi:i<s.next)(hb:c.base<=i)(hc:cd (s.tag i)=6)(hl:cd l=5)
  (hy:Mu.dM s.mu (Mu.mu s.mu s.pm (upd s.tag i l) s.next) l):bK c { s with mu:=s.mu,tag:=upd s.tag i l }/\Mu.mu s.mu s.pm (upd s.tag i l) s.next+5=Mu.mu s.mu s.pm s.tag s.next+5:=by
 have bD:i≠0:=by have:=h.pos;omega
 obtain⟨h1,h2⟩:=Mu.n8 (more:=s.pm) (l:=l) h.mu hi hc hl;refine⟨h.step hi (.inr hb) s.wg h1 (ZO h2 (by decide)) ?_ ?_ (Wg.DP h.wg hi bD hc hl) hy ⟨λe=>absurd e bD,λe=>absurd e bD,λ_=>aC _⟩ (λe=>O) (λ_ _=>⟨O,λe=>O⟩) (λ_ cZ=>?_) (λ_ _=>⟨O,O,λe=>by rw[e]at hl;simp[cd]at hl⟩) (λe=>absurd e bD),h2⟩
 ·exact λ_=>rfl
 ·exact Vc
 rw[hc]at cZ;rw[hl];exact cZ.low O O O O
theorem bK.mU(h:bK c s)(hi:i<s.next)(hb:c.base<=i)(hc:cd (s.tag i)=10)(hl:cd l=11)
  (hy:Mu.dM s.mu (Mu.mu s.mu s.pm (upd s.tag i l) s.next) l):bK c { s with mu:=s.mu,tag:=upd s.tag i l }/\Mu.mu s.mu s.pm (upd s.tag i l) s.next+3=Mu.mu s.mu s.pm s.tag s.next+3:=by
 have bD:i≠0:=by have:=h.pos;omega
 obtain⟨h1,h2⟩:=Mu.mU (more:=s.pm) (l:=l) h.mu hi hc hl;refine⟨h.step hi (.inr hb) s.wg h1 (ZO h2 (by decide)) ?_ ?_ (Wg.wZ h.wg hi bD hc hl) hy ⟨λe=>absurd e bD,λe=>absurd e bD,λ_=>aC _⟩ (λe=>O) (λ_ _=>⟨O,λe=>O⟩) (λ_ cZ=>?_) (λ_ _=>⟨O,O,λe=>by rw[e]at hl;simp[cd]at hl⟩) (λe=>absurd e bD),h2⟩
 ·exact λ_=>rfl
 ·exact Vc
 rw[hc]at cZ;rw[hl];exact cZ.low O O O O
theorem bK.mT(h:bK c s)(hi:i<s.next)(hb:c.base<=i)(hc:cd (s.tag i)=13)(hl:cd l=14)
  (hy:Mu.dM s.mu (Mu.mu s.mu s.pm (upd s.tag i l) s.next) l):bK c { s with mu:=s.mu,tag:=upd s.tag i l }/\Mu.mu s.mu s.pm (upd s.tag i l) s.next+3=Mu.mu s.mu s.pm s.tag s.next+3:=by
 have bD:i≠0:=by have:=h.pos;omega
 obtain⟨h1,h2⟩:=Mu.mT (more:=s.pm) (l:=l) h.mu hi hc hl;refine⟨h.step hi (.inr hb) s.wg h1 (ZO h2 (by decide)) ?_ ?_ (Wg.wV h.wg hi bD hc hl) hy ⟨λe=>absurd e bD,λe=>absurd e bD,λ_=>aC _⟩ (λe=>O) (λ_ _=>⟨O,λe=>O⟩) (λ_ cZ=>?_) (λ_ _=>⟨O,O,λe=>by rw[e]at hl;simp[cd]at hl⟩) (λe=>absurd e bD),h2⟩
 ·exact λ_=>rfl
 ·exact Vc
 rw[hc]at cZ;rw[hl];exact cZ.sF O O
theorem bK.mS(h:bK c s)(hi:i<s.next)(hb:c.base<=i)(hc:cd (s.tag i)=15)(hl:cd l=16)
  (hy:Mu.dM s.mu (Mu.mu s.mu s.pm (upd s.tag i l) s.next) l):bK c { s with mu:=s.mu,tag:=upd s.tag i l }/\Mu.mu s.mu s.pm (upd s.tag i l) s.next+2=Mu.mu s.mu s.pm s.tag s.next+2:=by
 have bD:i≠0:=by have:=h.pos;omega
 obtain⟨h1,h2⟩:=Mu.mS (more:=s.pm) (l:=l) h.mu hi hc hl;refine⟨h.step hi (.inr hb) s.wg h1 (ZO h2 (by decide)) ?_ ?_ (Wg.wR h.wg hi bD hc hl) hy ⟨λe=>absurd e bD,λe=>absurd e bD,λ_=>aC _⟩ (λe=>O) (λ_ _=>⟨O,λe=>O⟩) (λ_ cZ=>?_) (λ_ _=>⟨O,O,λe=>by rw[e]at hl;simp[cd]at hl⟩) (λe=>absurd e bD),h2⟩
 ·exact λ_=>rfl
 ·exact Vc
 rw[hc]at cZ;rw[hl];exact cZ.sF O O
theorem bK.mR(h:bK c s)(hi:i<s.next)(hb:c.base<=i)(hc:cd (s.tag i)=16)(hl:cd l=15)
  (hy:Mu.dM s.mu (Mu.mu s.mu s.pm (upd s.tag i l) s.next) l):bK c { s with mu:=s.mu,tag:=upd s.tag i l }/\Mu.mu s.mu s.pm (upd s.tag i l) s.next+2=Mu.mu s.mu s.pm s.tag s.next+2:=by
 have bD:i≠0:=by have:=h.pos;omega
 obtain⟨h1,h2⟩:=Mu.mR (more:=s.pm) (l:=l) h.mu hi hc hl;refine⟨h.step hi (.inr hb) s.wg h1 (ZO h2 (by decide)) ?_ ?_ (Wg.wP h.wg hi bD hc hl) hy ⟨λe=>absurd e bD,λe=>absurd e bD,λ_=>aC _⟩ (λe=>O) (λ_ _=>⟨O,λe=>O⟩) (λ_ cZ=>?_) (λ_ _=>⟨O,O,λe=>by rw[e]at hl;simp[cd]at hl⟩) (λe=>absurd e bD),h2⟩
 ·exact λ_=>rfl
 ·exact Vc
 rw[hc]at cZ;rw[hl];exact cZ.sF O O
theorem bK.mQ(h:bK c s)(hi:i<s.next)(hb:c.base<=i)(hc:cd (s.tag i)=18)(hl:cd l=19)(h19:l≠[19,1])
  (hy:Mu.dM s.mu (Mu.mu s.mu s.pm (upd s.tag i l) s.next) l):bK c { s with mu:=s.mu,tag:=upd s.tag i l }/\Mu.mu s.mu s.pm (upd s.tag i l) s.next+0=Mu.mu s.mu s.pm s.tag s.next+0:=by
 have bD:i≠0:=by have:=h.pos;omega
 obtain⟨h1,h2⟩:=Mu.mQ (more:=s.pm) (l:=l) h.mu hi hc hl;refine⟨h.step hi (.inr hb) s.wg h1 (ZO h2 (by decide)) ?_ ?_ (Wg.wK h.wg hi bD hc hl) hy ⟨λe=>absurd e bD,λe=>absurd e bD,λ_=>aC _⟩ (λe=>O) (λ_ _=>⟨O,λe=>O⟩) (λ_ cZ=>?_) (λ_ _=>⟨O,O,h19⟩) (λe=>absurd e bD),h2⟩
 ·exact λ_=>rfl
 ·exact Vc
 rw[hc]at cZ;rw[hl];exact cZ.sF O O
theorem bK.mO(h:bK c s)(hi:i<s.next)(hb:c.base<=i)(hc:cd (s.tag i)=19)(hl:cd l=20)(hU:s.cls=true)
  (hy:Mu.dM s.mu (Mu.mu s.mu s.pm (upd s.tag i l) s.next) l):bK c { s with mu:=s.mu,tag:=upd s.tag i l }/\Mu.mu s.mu s.pm (upd s.tag i l) s.next+0=Mu.mu s.mu s.pm s.tag s.next+0:=by
 have bD:i≠0:=by have:=h.pos;omega
 obtain⟨h1,h2⟩:=Mu.mO (more:=s.pm) (l:=l) h.mu hi hc hl;refine⟨h.step hi (.inr hb) s.wg h1 (ZO h2 (by decide)) ?_ ?_ (Wg.wJ h.wg hi bD hc hl) hy ⟨λe=>absurd e bD,λe=>absurd e bD,λ_=>aC _⟩ (λe=>O) (λ_ _=>⟨O,λe=>O⟩) (λ_ cZ=>?_) (λe=>by rw[hU]at e;simp at e) (λe=>absurd e bD),h2⟩
 ·exact λ_=>rfl
 ·exact Vc
 rw[hc]at cZ;rw[hl];exact cZ.sF O O
theorem bK.mN(h:bK c s)(hi:i<s.next)(hb:c.base<=i)(hc:cd (s.tag i)=20)(hl:cd l=21)
  (hy:Mu.dM s.mu (Mu.mu s.mu s.pm (upd s.tag i l) s.next) l):bK c { s with mu:=s.mu,tag:=upd s.tag i l }/\Mu.mu s.mu s.pm (upd s.tag i l) s.next+0=Mu.mu s.mu s.pm s.tag s.next+0:=by
 have bD:i≠0:=by have:=h.pos;omega
 obtain⟨h1,h2⟩:=Mu.mN (more:=s.pm) (l:=l) h.mu hi hc hl;refine⟨h.step hi (.inr hb) s.wg h1 (ZO h2 (by decide)) ?_ ?_ (Wg.wI h.wg hi bD hc hl) hy ⟨λe=>absurd e bD,λe=>absurd e bD,λ_=>aC _⟩ (λe=>O) (λ_ _=>⟨O,λe=>O⟩) (λ_ cZ=>?_) (λe=>by have:=(h.run e i hb hi).2.1;omega) (λe=>absurd e bD),h2⟩
 ·exact λ_=>rfl
 ·exact Vc
 rw[hc]at cZ;rw[hl];exact cZ.sF O O
theorem bK.mM(h:bK c s)(hi:i<s.next)(hb:c.base<=i)(hc:cd (s.tag i)=22)(hl:cd l=23)
  (hy:Mu.dM s.mu (Mu.mu s.mu s.pm (upd s.tag i l) s.next) l):bK c { s with mu:=s.mu,tag:=upd s.tag i l }/\Mu.mu s.mu s.pm (upd s.tag i l) s.next+0=Mu.mu s.mu s.pm s.tag s.next+0:=by
 have bD:i≠0:=by have:=h.pos;omega
 obtain⟨h1,h2⟩:=Mu.mM (more:=s.pm) (l:=l) h.mu hi hc hl;refine⟨h.step hi (.inr hb) s.wg h1 (ZO h2 (by decide)) ?_ ?_ (Wg.wH h.wg hi bD hc hl) hy ⟨λe=>absurd e bD,λe=>absurd e bD,λ_=>aC _⟩ (λe=>O) (λ_ _=>⟨O,λe=>O⟩) (λ_ cZ=>?_) (λe=>by have:=(h.run e i hb hi).2.1;omega) (λe=>absurd e bD),h2⟩
 ·exact λ_=>rfl
 ·exact Vc
 rw[hc]at cZ;rw[hl];exact cZ.sF O O
theorem bK.CA(h:bK c s)(hi:i<s.next)(hb:c.base<=i)(hc:cd (s.tag i)=21)(kh:¬ (s.wg.v=1/\s.wg.wt=1))
   :bK c { s with wg:={ s.wg with v:=s.wg.v-1 },tag:=upd s.tag i [0] }:=by
 have bD:i≠0:=by have:=h.pos;omega
 obtain⟨h1,h2⟩:=Mu.zX (more:=s.pm) (l:=[0]) h.mu hi hc rfl;refine h.step hi (.inr hb) _ h1 (ZO h2 (by decide)) (λ_=>rfl) ?_ (Wg.CA (l:=[0]) h.wg hi bD hc rfl kh) trivial ⟨λe=>absurd e bD,λe=>absurd e bD,λ_=>Nat.sub_le _ _⟩ (λe=>by simp[cd]at e) (λ_ _=>⟨by decide,λe=>rfl⟩) (λ_ cZ=>?_) (λe=>by have:=(h.run e i hb hi).2.1;omega) (λe=>absurd e bD)
 ·exact λj hj gO h9 hS=>⟨hS,aC _⟩
 rw[hc]at cZ;exact cZ.sF O (by decide)
theorem bK.CB(h:bK c s)(hi:i<s.next)(hb:c.base<=i)(hc:cd (s.tag i)=21)(hl:cd l=22)(hy:Mu.dM s.mu (Mu.mu s.mu s.pm (upd s.tag i l) s.next) l)(kh:s.wg.v=1/\s.wg.wt=1)
   :bK c { s with wg:={ s.wg with v:=s.wg.v-1 },tag:=upd s.tag i l }:=by
 have bD:i≠0:=by have:=h.pos;omega
 obtain⟨h1,h2⟩:=Mu.xH (more:=s.pm) (l:=l) h.mu hi hc hl;refine h.step hi (.inr hb) _ h1 (ZO h2 (by decide)) (λ_=>rfl) ?_ (Wg.CB (l:=l) h.wg hi bD hc hl kh) hy ⟨λe=>absurd e bD,λe=>absurd e bD,λ_=>Nat.sub_le _ _⟩ (λe=>O) (λ_ _=>⟨O,λe=>O⟩) (λ_ cZ=>?_) (λe=>by have:=(h.run e i hb hi).2.1;omega) (λe=>absurd e bD)
 ·exact λj hj gO h9 hS=>⟨hS,aC _⟩
 rw[hc]at cZ;rw[hl];exact cZ.sF O O
theorem bK.tY(h:bK c s)(hi:i<s.next)(hb:c.base<=i)(hc:cd (s.tag i)=23)(hl:cd l=24)(hy:Mu.dM s.mu (Mu.mu s.mu s.pm (upd s.tag i l) s.next) l)
   :bK c { s with wg:={ s.wg with wt:=0 },tag:=upd s.tag i l }:=by
 have bD:i≠0:=by have:=h.pos;omega
 obtain⟨h1,h2⟩:=Mu.xG (more:=s.pm) (l:=l) h.mu hi hc hl;refine h.step hi (.inr hb) _ h1 (ZO h2 (by decide)) (λ_=>rfl) ?_ (Wg.tY (l:=l) h.wg hi bD hc hl) hy ⟨λe=>absurd e bD,λe=>absurd e bD,λ_=>aC _⟩ (λe=>O) (λ_ _=>⟨O,λe=>O⟩) (λ_ cZ=>?_) (λe=>by have:=(h.run e i hb hi).2.1;omega) (λe=>absurd e bD)
 ·exact λj hj gO h9 hS=>⟨hS,aC _⟩
 rw[hc]at cZ;rw[hl];exact cZ.sF O O
theorem bK.y6(h:bK c s)(hi:i<s.next)(hb:c.base<=i)(hc:cd (s.tag i)=24)
   :bK c { s with wg:={ s.wg with wm:=s.wg.wm+1 },tag:=upd s.tag i [0] }:=by
 have bD:i≠0:=by have:=h.pos;omega
 obtain⟨h1,h2⟩:=Mu.zV (more:=s.pm) (l:=[0]) h.mu hi hc rfl;refine h.step hi (.inr hb) _ h1 (ZO h2 (by decide)) (λ_=>rfl) ?_ (Wg.y6 (l:=[0]) h.wg hi bD hc rfl) trivial ⟨λe=>absurd e bD,λe=>absurd e bD,λ_=>aC _⟩ (λe=>by simp[cd]at e) (λ_ _=>⟨by decide,λe=>rfl⟩) (λ_ cZ=>?_) (λe=>by have:=(h.run e i hb hi).2.1;omega) (λe=>absurd e bD)
 ·exact λj hj gO h9 hS=>⟨hS,aC _⟩
 rw[hc]at cZ;exact cZ.sF O (by decide)
theorem bK.NM(h:bK c s)(hc:cd (s.tag 0)=31)(hl:cd l=32)(hn:∀k n,l=[k,n]->s.next=c.base+n):bK c { s with wg:={ s.wg with v:=s.wg.v+1 },tag:=upd s.tag 0 l }:=by obtain⟨h1,h2⟩:=h.mu.main (more:=s.pm) (l:=l) h.cS O O;refine h.step h.cS (.inl rfl) _ h1 (qAW h2) (λ_=>rfl) (λj hj gO h9 hS=>⟨hS,aC _⟩) (Wg.add h.wg h.cS hc hl) (Mu.dI O) ⟨λ_ v=>⟨λe=>by rw[e]at hl;simp[cd]at hl,λe=>by rw[e]at hl;simp[cd]at hl⟩,λ_ k n hk e=>hn k n e,λe=>absurd rfl e⟩ (λe=>O) (λe=>absurd rfl e) (λe=>absurd rfl e) (λ_ e=>absurd rfl e) (λ_ e=>O)
theorem bK.EA(h:bK c s)(hc:cd (s.tag 0)=34)(hl:cd l=38)(kh:s.wg.v=0)(uJ:s.more=0) :bK c { s with wg:=s.wg,tag:=upd s.tag 0 l }:=by obtain⟨h1,h2⟩:=h.mu.main (more:=s.pm) (l:=l) h.cS O O;refine h.step h.cS (.inl rfl) _ h1 (qAW h2) (λ_=>rfl) (λj hj gO h9 hS=>⟨hS,aC _⟩) (Wg.M8 h.wg h.cS hc hl kh uJ) (Mu.dI O) ⟨λ_ v=>⟨λe=>by rw[e]at hl;simp[cd]at hl,λe=>by rw[e]at hl;simp[cd]at hl⟩,λ_ k n hk e=>by rw[e]at hl;simp[cd]at hl;omega,λe=>absurd rfl e⟩ (λe=>O) (λe=>absurd rfl e) (λe=>absurd rfl e) (λ_ e=>absurd rfl e) (λ_ e=>h.yT O)
theorem bK.D9(h:bK c s)(hc:cd (s.tag 0)=34)(hl:cd l=35)(kh:s.wg.v≠0)(hv:∀v,l=[35,v]->s.wg.v<=v):bK c { s with wg:=s.wg,tag:=upd s.tag 0 l }:=by obtain⟨h1,h2⟩:=h.mu.main (more:=s.pm) (l:=l) h.cS O O;refine h.step h.cS (.inl rfl) _ h1 (qAW h2) (λ_=>rfl) (λj hj gO h9 hS=>⟨hS,aC _⟩) (Wg.M7 h.wg h.cS hc hl kh) (Mu.dI O) ⟨λ_ v=>⟨λe=>hv v e,λe=>by rw[e]at hl;simp[cd]at hl⟩,λ_ k n hk e=>by rw[e]at hl;simp[cd]at hl;omega,λe=>absurd rfl e⟩ (λe=>O) (λe=>absurd rfl e) (λe=>absurd rfl e) (λ_ e=>absurd rfl e) (λ_ e=>h.yT O)
theorem bK.HA(h:bK c s)(hc:cd (s.tag 0)=35)(hl:cd l=34)(hv:∀v,l=[34,v]->s.wg.v<v):bK c { s with wg:=s.wg,tag:=upd s.tag 0 l }:=by obtain⟨h1,h2⟩:=h.mu.main (more:=s.pm) (l:=l) h.cS O O;refine h.step h.cS (.inl rfl) _ h1 (qAW h2) (λ_=>rfl) (λj hj gO h9 hS=>⟨hS,aC _⟩) (Wg.Ew h.wg h.cS hc hl) (Mu.dI O) ⟨λ_ v=>⟨λe=>by rw[e]at hl;simp[cd]at hl,λe=>hv v e⟩,λ_ k n hk e=>by rw[e]at hl;simp[cd]at hl;omega,λe=>absurd rfl e⟩ (λe=>O) (λe=>absurd rfl e) (λe=>absurd rfl e) (λ_ e=>absurd rfl e) (λ_ e=>h.yT O)
theorem bK.G9(h:bK c s)(hc:cd (s.tag 0)=35)(hl:cd l=36)(kh:s.wg.v≠0) :bK c { s with wg:={ s.wg with wt:=1 },tag:=upd s.tag 0 l }:=by obtain⟨h1,h2⟩:=h.mu.main (more:=s.pm) (l:=l) h.cS O O;refine h.step h.cS (.inl rfl) _ h1 (qAW h2) (λ_=>rfl) (λj hj gO h9 hS=>⟨hS,aC _⟩) (Wg.MX h.wg h.cS hc hl kh) (Mu.dI O) ⟨λ_ v=>⟨λe=>by rw[e]at hl;simp[cd]at hl,λe=>by rw[e]at hl;simp[cd]at hl⟩,λ_ k n hk e=>by rw[e]at hl;simp[cd]at hl;omega,λe=>absurd rfl e⟩ (λe=>O) (λe=>absurd rfl e) (λe=>absurd rfl e) (λ_ e=>absurd rfl e) (λ_ e=>h.yT O)
theorem bK.D8(h:bK c s)(hc:cd (s.tag 0)=36)(hl:cd l=37)(kh:s.wg.wm≠0) :bK c { s with wg:={ s.wg with wm:=s.wg.wm-1 },tag:=upd s.tag 0 l }:=by obtain⟨h1,h2⟩:=h.mu.main (more:=s.pm) (l:=l) h.cS O O;refine h.step h.cS (.inl rfl) _ h1 (qAW h2) (λ_=>rfl) (λj hj gO h9 hS=>⟨hS,aC _⟩) (Wg.woken h.wg h.cS hc hl kh) (Mu.dI O) ⟨λ_ v=>⟨λe=>by rw[e]at hl;simp[cd]at hl,λe=>by rw[e]at hl;simp[cd]at hl⟩,λ_ k n hk e=>by rw[e]at hl;simp[cd]at hl;omega,λe=>absurd rfl e⟩ (λe=>O) (λe=>absurd rfl e) (λe=>absurd rfl e) (λ_ e=>absurd rfl e) (λ_ e=>h.yT O)
theorem bK.sK(h:bK c s)(hc:cd (s.tag 0)=30)(hl:cd l=31)(hn:∀k n,l=[k,n]->s.next=c.base+n):bK c { s with wg:=s.wg,tag:=upd s.tag 0 l }:=by obtain⟨h1,h2⟩:=h.mu.main (more:=s.pm) (l:=l) h.cS O O;refine h.step h.cS (.inl rfl) _ h1 (qAW h2) (λ_=>rfl) (λj hj gO h9 hS=>⟨hS,aC _⟩) (Wg.xF h.wg h.cS hc hl) (Mu.dI O) ⟨λ_ v=>⟨λe=>by rw[e]at hl;simp[cd]at hl,λe=>by rw[e]at hl;simp[cd]at hl⟩,λ_ k n hk e=>hn k n e,λe=>absurd rfl e⟩ (λe=>O) (λe=>absurd rfl e) (λe=>absurd rfl e) (λ_ e=>absurd rfl e) (λ_ e=>O)
theorem bK.sI(h:bK c s)(hc:cd (s.tag 0)=32)(hl:cd l=33)(hn:∀k n,l=[k,n]->s.next=c.base+n):bK c { s with wg:=s.wg,tag:=upd s.tag 0 l }:=by obtain⟨h1,h2⟩:=h.mu.main (more:=s.pm) (l:=l) h.cS O O;refine h.step h.cS (.inl rfl) _ h1 (qAW h2) (λ_=>rfl) (λj hj gO h9 hS=>⟨hS,aC _⟩) (Wg.xD h.wg h.cS hc hl) (Mu.dI O) ⟨λ_ v=>⟨λe=>by rw[e]at hl;simp[cd]at hl,λe=>by rw[e]at hl;simp[cd]at hl⟩,λ_ k n hk e=>hn k n e,λe=>absurd rfl e⟩ (λe=>O) (λe=>absurd rfl e) (λe=>absurd rfl e) (λ_ e=>absurd rfl e) (λ_ e=>O)
theorem bK.sJ(h:bK c s)(hc:cd (s.tag 0)=30)(hl:cd l=34)(uJ:s.more=0)(bU:s.cls=true)(hv:∀v,l=[34,v]->s.wg.v<v):bK c { s with wg:=s.wg,tag:=upd s.tag 0 l }:=by obtain⟨h1,h2⟩:=h.mu.main (more:=s.pm) (l:=l) h.cS O O;refine h.step h.cS (.inl rfl) _ h1 (qAW h2) (λ_=>rfl) (λj hj gO h9 hS=>⟨hS,aC _⟩) (Wg.xE h.wg h.cS hc hl uJ) (Mu.dI O) ⟨λ_ v=>⟨λe=>by rw[e]at hl;simp[cd]at hl,λe=>hv v e⟩,λ_ k n hk e=>by rw[e]at hl;simp[cd]at hl;omega,λe=>absurd rfl e⟩ (λe=>O) (λe=>absurd rfl e) (λe=>absurd rfl e) (λ_ e=>absurd rfl e) (λ_ e=>bU)
theorem bK.sH(h:bK c s)(hc:cd (s.tag 0)=37)(hl:cd l=38) :bK c { s with wg:=s.wg,tag:=upd s.tag 0 l }:=by obtain⟨h1,h2⟩:=h.mu.main (more:=s.pm) (l:=l) h.cS O O;refine h.step h.cS (.inl rfl) _ h1 (qAW h2) (λ_=>rfl) (λj hj gO h9 hS=>⟨hS,aC _⟩) (Wg.xC h.wg h.cS hc hl) (Mu.dI O) ⟨λ_ v=>⟨λe=>by rw[e]at hl;simp[cd]at hl,λe=>by rw[e]at hl;simp[cd]at hl⟩,λ_ k n hk e=>by rw[e]at hl;simp[cd]at hl;omega,λe=>absurd rfl e⟩ (λe=>O) (λe=>absurd rfl e) (λe=>absurd rfl e) (λ_ e=>absurd rfl e) (λ_ e=>h.yT O)
theorem bK.sG(h:bK c s)(hc:cd (s.tag 0)=38)(hl:cd l=39) :bK c { s with wg:=s.wg,tag:=upd s.tag 0 l }:=by obtain⟨h1,h2⟩:=h.mu.main (more:=s.pm) (l:=l) h.cS O O;refine h.step h.cS (.inl rfl) _ h1 (qAW h2) (λ_=>rfl) (λj hj gO h9 hS=>⟨hS,aC _⟩) (Wg.xB h.wg h.cS hc hl) (Mu.dI O) ⟨λ_ v=>⟨λe=>by rw[e]at hl;simp[cd]at hl,λe=>by rw[e]at hl;simp[cd]at hl⟩,λ_ k n hk e=>by rw[e]at hl;simp[cd]at hl;omega,λe=>absurd rfl e⟩ (λe=>O) (λe=>absurd rfl e) (λe=>absurd rfl e) (λ_ e=>absurd rfl e) (λ_ e=>h.yT O)
end
end
variable{P:Program}{f:FuncId}{e:Array Value->Sem Value}{vs:Array Value}{w w':World}{v:Value}{tU:Array Event}{s:Ts}{i:Nat}{l:List Nat}{H:Hp}{sm:Sem Next}{wk nr:Bool}{Post:Value->Hp->Prop}
open Go.Conc
open Go.ConcN (sumTo upd sumTo_upd upd_ne upd_same)
structure eT(P:Program)(f:FuncId)(e:Array Value->Sem Value):Prop where
 ex:∃fn,P.funcs[f]? = some fn/\(fn.name == "runtime.NumGoroutine")=false/\fn.body.isNone=true/\Extern.findNext fn=none/\Extern.find fn=some e
def Yo(f:FuncId):Event:=⟨.mark (.extern f),false,true⟩
theorem eT.val(h:eT P f e)(hr:(e vs).run P w=.ok v w')(he:(e vs).events P w #[Yo f]=#[Yo f]++tU) :
  (callFunc f vs).runT P w #[]=(.ok (.value v) w',#[Yo f]++tU):=by
 obtain⟨fn,h1,h2,h3,h4,h5⟩:=h.ex;rw[Sem.runT_eq,run_callFunc_extern h1 h2 h3 h4 h5,hr,events_callFunc_extern h1 h2 h3 h4 h5];simp only[Result.andThen];rw[show(#[]:Array Event).push ⟨.mark (.extern f),false,true⟩=#[Yo f]from rfl,he]
theorem eT.blocks(h:eT P f e)(hr:(e vs).run P w=.halt .blocked w') :
  ∃es,(callFunc f vs).runT P w #[]=(.halt .blocked w',es):=by
 obtain⟨fn,h1,h2,h3,h4,h5⟩:=h.ex;exact⟨_,by rw[Sem.runT_eq,run_callFunc_extern h1 h2 h3 h4 h5,hr];rfl⟩
theorem O9{fn:FuncId}(h:∀x∈tU,x.sync=true/\∀g,x.loc≠.mark (.extern g)):seen P fn (#[Yo f]++tU)=tU:=seen_entry fn f tU h
section
variable{p:Program}{c:Cx}
structure dW(p:Program)(c:Cx)(i:Nat)(s:Ts)(t:Trace)(w:World)(sm:Sem Next)(wk nr:Bool)(v:Value)(l:List Nat):Prop where
 ex:∃(w':World) (lI es:Array Event) (x':Mu) (y':Wg),sm.runT p w #[]=(.ok (.value v) w',lI)/\(∀fn,(nr=true->norace p fn=true)->seen p fn lI=es)/\bK c { s with mu:=x',wg:=y',tag:=upd s.tag i l } /\
  FE c.toTC i (Deaf t i) es/\(∀e∈es,∀B,c.M<B->c.W<B->(MemAct.ofEvent e).low B)/\deafBehind (Deaf t i) es=(if cd l=0 then 1 else df (cd l)) /\
  w'.heap[c.M]? = some (J4 c x')/\w'.heap[c.W]? = some (U1 c y')/\(∀b,b≠c.M->b≠c.W->w'.heap[b]? = w.heap[b]?)/\w'.heap.size=w.heap.size/\wB w w' /\
  (wk=true\/((s.mu.sm=0->x'.sm=0)/\(s.wg.wm=0->y'.wm=0)))
 nb:¬ ZS s i\/l=s.tag i
 nt:cd (s.tag i)≠12/\cd (s.tag i)≠40
 NK:cd l≠12/\cd l≠40
 dn:20<=cd l\/cd l=0->Y6 s i
 nz:cd (s.tag i)≠0
theorem Zyj{x':Mu}{y':Wg}(nb:¬ ZS s i\/l=s.tag i)(h1:s.mu.sm=0->x'.sm=0)(h2:s.wg.wm=0->y'.wm=0)(j:Nat)(hj:ZS s j):ZS { s with mu:=x',wg:=y',tag:=upd s.tag i l } j:=by
 have:upd s.tag i l j=s.tag j:=by
  by_cases e:j=i
  ·subst e;rcases nb with nb | nb
   ·exact absurd hj nb
   rw[upd_same,nb]
  exact upd_ne _ _ e
 unfold ZS at hj ⊢;simp only[this];exact hj.imp (λ⟨a,b⟩=>⟨a,h1 b⟩) λ⟨a,b⟩=>⟨a,h2 b⟩
theorem Nm{g:List Nat}(h:Yw g\/Z5 g):g≠[0]:=by rintro rfl;simp[Yw,Z5,cd]at h
theorem JV(h:Yw l\/Z5 l):cd l≠0:=by unfold Yw Z5 at h;omega
theorem VQ(h:Yw H.cg\/Z5 H.cg):H.gh≠[]:=by intro e;unfold Hp.cg at h;rw[e]at h;simp[Yw,Z5,ZP,cd]at h
theorem dW.goes(ok:c.Ok){Hs:Hp}{t:Trace}(h:dW p c i s t w sm wk nr v l)(hA:dH (bG p c) i H s Hs t w)(hl:s.tag i≠[0])
  {fr:Frame} {nx:Value->Frame} {cs:List Frame} (ha:KZ p fr nx sm wk nr) {K:Trace->Frame->List Frame->Hp->Prop} (hK:∀t',(cd l=0->Deaf t' i=1)->K t' (nx v) cs (H.tagged (pP l (s.hd i) :: l))):Oq (bG p c) i K fr cs H s Hs t w:=by
 obtain⟨w',lI,es,x',y',h1,h2,h3,h4,h5,h6,h7,h8,h9,QR,JB,JA⟩:=h.ex;have gZ:=SZ hA hl;obtain⟨eG,hM⟩:=ZvC ok hA gZ h3 h4 h5 (λe=>by rw[h6,bY e]) h.nt h.NK h.nz h.dn h7 h8 h9 QR JB;have oI:=h2 fr.fn ha.nr;obtain⟨m1,m2⟩:=hM fr.fn fr.place;refine⟨nx v,cs,w',H.tagged (pP l (s.hd i) :: l),{ s with mu:=x',wg:=y',tag:=upd s.tag i l },eG,es,?_,m1,m2 _,λj=>RW (i:=i) (l:=l) (s:=s) (s':={ s with mu:=x',wg:=y',tag:=upd s.tag i l }) rfl rfl j,rfl,aC _,?_,.inl rfl,hK _ λe=>?_⟩
 ·rw[Ov ha h1,oI]
 ·rcases JA with JA | ⟨e1,e2⟩
  ·exact .inl (ha.wD JA cs)
  exact .inr (Zyj h.nb e1 e2)
 rw[Deaf_own,h6,iO e]
theorem O7(ok:c.Ok)(hg:Yw H.cg)
  (h:∀s Hs t w,dH (bG p c) i H s Hs t w->((∃es,sm.runT p w #[]=(.halt .blocked w,es))/\ZS s i)\/∃v l,dW p c i s t w sm wk nr v l/\Yw l/\Post v (H.tagc l)):Zm ((bG p c).prgW i) sm wk nr H Post:=by
 intro G fr nx cs bU ha hG;refine .eX ⟨VQ (.inl hg),.inr (.inl ⟨hg,λs Hs t w hA=>?_⟩)⟩;obtain⟨aG,l9⟩:=YC hA (JV (.inl hg));rcases h s Hs t w hA with⟨⟨es,hr⟩,hb⟩ | ⟨v,l,h1,h2,h3⟩
 ·exact .inr ⟨Pv ha hr,hb⟩
 refine .inl (h1.goes ok hA (by rw[aG];exact Nm (.inl hg)) ha λt' _=>.inl ?_);have e:H.tagged (pP l (s.hd i) :: l)=H.tagc l:=by rw[J2 (JV (.inl h2)),l9];rfl
 rw[e];exact⟨hG v _ h3,h2⟩
theorem SN(ok:c.Ok)(hg:Z5 H.cg)
  (h:∀s Hs t w,dH (bG p c) i (.aP H.gh) s Hs t w->((∃es,sm.runT p w #[]=(.halt .blocked w,es))/\ZS s i)\/∃v l,dW p c i s t w sm wk nr v l/\((Z5 l/\Post v (H.tagc l))\/(l=[0]/\Post v (H.tagged (lv 1))))):Zm ((bG p c).prgW i) sm wk nr H Post:=by
 intro G fr nx cs bU ha hG;refine .eX ⟨VQ (.inr hg),.inr (.inr (.inl ⟨hg,λs Hs t w hA=>?_⟩))⟩;obtain⟨aG,l9⟩:=YC hA (JV (.inr hg));rcases h s Hs t w hA with⟨⟨es,hr⟩,hb⟩ | ⟨v,l,h1,h2⟩
 ·exact .inr ⟨Pv ha hr,hb⟩
 refine .inl (h1.goes ok hA (by rw[aG];exact Nm (.inr hg)) ha λt' ht=>⟨λb=>rfl,?_⟩);rcases h2 with⟨h2,h3⟩ | ⟨rfl,h3⟩
 ·left;have e:pP l (s.hd i)=H.hd+1:=by rw[J2 (JV (.inr h2)),l9];rfl
  rw[e];exact⟨h2,hG v _ h3⟩
 exact .inr ⟨rfl,by rw[ht rfl];exact hG v _ h3⟩
theorem O6(ok:c.Ok)(hg:30<=cd H.cg)
  (h:∀s Hs t w,dH (bG p c) 0 H s Hs t w->((∃es,sm.runT p w #[]=(.halt .blocked w,es))/\ZS s 0)\/∃v l,dW p c 0 s t w sm wk nr v l/\30<=cd l/\Post v (H.tagc l)):Zm ((bG p c).prgM) sm wk nr H Post:=by
 intro G fr nx cs bU ha hG;refine .eX ⟨VQ (.inl (.inr hg)),λs Hs t w hA=>?_⟩;obtain⟨aG,l9⟩:=YC hA (JV (.inl (.inr hg)));rcases h s Hs t w hA with⟨⟨es,hr⟩,hb⟩ | ⟨v,l,h1,h2,h3⟩
 ·exact .inr (.inl ⟨Pv ha hr,hb⟩)
 refine .inl (h1.goes ok hA (by rw[aG];exact Nm (.inl (.inr hg))) ha λt' _=>?_);have e:H.tagged (pP l (s.hd 0) :: l)=H.tagc l:=by rw[J2 (JV (.inl (.inr h2))),l9];rfl
 rw[e];exact⟨hG v _ h3,.inr h2⟩
theorem Zo2{d:Nat}(hg:H.gh=lv d){lI es:Array Event}(hr:∀w,sm.runT p w #[]=(.ok (.value v) w,lI))(hs:∀fn,seen p fn lI=es)
  (hm:∀e∈es,Event.mute e=true) (hp:Post v (H.tagged (lv (deafBehind d es)))):Zm ((bG p c).prgW i) sm wk nr H Post:=by
 intro G fr nx cs bU ha hG;refine .eX ⟨by rw[hg];simp[lv],.inl ⟨d,hg,.inl ⟨nx v,cs,es,hm,λmain w=>(Ov (P:=p) ha (hr w)).trans (by rw[hs]),hG v _ hp⟩⟩⟩
end
