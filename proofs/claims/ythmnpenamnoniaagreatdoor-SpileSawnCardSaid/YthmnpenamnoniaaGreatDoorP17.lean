import Derived.Test.YthmnpenamnoniaaGreatDoorP16
set_option linter.all false
section
namespace Go.LL
theorem ZfQ {G:Prop} (h:G:=by
  intro j hj hji h9 hS
  have:=h.mu.keep9 hi hj hji h9 hS
  rw[hc]at this
  exfalso;omega):G:=h
theorem qLlMh2 {G:Prop} (h:G:=by
  refine⟨h.step hi (.inr hb) s.wg h1 (Zal h2 (by decide)) ?_ ?_ (Wg.stay9_10 h.wg hi hi0 hc hl) hy ⟨fun e=>absurd e hi0,fun e=>absurd e hi0,fun _=>Nat.le_refl _⟩ (fun e=>by omega) (fun _ _=>⟨by omega,fun e=>by omega⟩) fun _ hlg=>?_,h2⟩
  ·exact fun e=>absurd e (Zbf h2 (by decide))
  ·intro j hj hji h9 hS
   have:=h.mu.keep9 hi hj hji h9 hS
   rw[hc]at this
   exfalso;have k8:cA 9=1:=rfl;omega
  ·rw[hc]at hlg;rw[hl];exact hlg.low (by omega) (by omega) (by omega) (by omega)):G:=h
theorem qLlMh1 {G:Prop} (h:G:=by
  refine⟨h.step hi (.inr hb) s.wg h1 (Zal h2 (by decide)) ?_ ?_ (Wg.stay6_7 h.wg hi hi0 hc hl) hy ⟨fun e=>absurd e hi0,fun e=>absurd e hi0,fun _=>Nat.le_refl _⟩ (fun e=>by omega) (fun _ _=>⟨by omega,fun e=>by omega⟩) fun _ hlg=>?_,h2⟩
  ·exact fun e=>absurd e (Zbf h2 (by decide))
  ·intro j hj hji h9 hS
   have:=h.mu.keep9 hi hj hji h9 hS
   rw[hc]at this
   exfalso;have k10:Zaq 6=0:=rfl;have k17:cR 6=0:=rfl;omega
  ·rw[hc]at hlg;rw[hl];exact hlg.low (by omega) (by omega) (by omega) (by omega)):G:=h
theorem ZbQ {G:Prop} (h:G:=by
  intro j hj hji h9 hS
  have:=h.mu.keep9 hi hj hji h9 hS
  rw[hc]at this
  exact⟨by first | exact hS | rfl,by first | exact Nat.le_refl _ | exact Nat.le_succ _⟩):G:=h
open Go.ConcN (sumTo upd sumTo_upd upd_ne upd_same)
section
variable  {c:Cx}{s:Ts}{i:Nat}{l:List Nat}
theorem Cnt.fast (h:Cnt c s)(hi:i<s.next)(hb:c.base<=i)(hc:cd (s.tag i)=2)(hl:cd l=10)(kh:s.mu.st=0)
  (hy:Mu.Says { s.mu with L:=1 } (Mu.mu { s.mu with L:=1 } s.more (upd s.tag i l) s.next) l):Cnt c { s with mu:={ s.mu with L:=1 },tag:=upd s.tag i l }∧Mu.mu { s.mu with L:=1 } s.more (upd s.tag i l) s.next+6=Mu.mu s.mu s.more s.tag s.next+3:=by
 have hi0:i≠0:=by have:=h.pos;omega
 obtain⟨h1,h2⟩:=Mu.fast (more:=s.more) (l:=l) h.mu hi hc hl kh
 refine⟨h.step hi (.inr hb) s.wg h1 (Zal h2 (by decide)) ?_ ?_ (Wg.stay2_10 h.wg hi hi0 hc hl) hy ⟨fun e=>absurd e hi0,fun e=>absurd e hi0,fun _=>Nat.le_refl _⟩ (fun e=>by omega) (fun _ _=>⟨by omega,fun e=>by omega⟩) fun _ hlg=>?_,h2⟩
 ·exact fun e=>absurd e (Zbf h2 (by decide))
 ·intro j hj hji h9 hS
  have:=h.mu.keep9 hi hj hji h9 hS
  rw[hc]at this
  exfalso;unfold Mu.st at kh;omega
 ·rw[hc]at hlg;rw[hl];exact hlg.low (by omega) (by omega) (by omega) (by omega)
theorem Cnt.spin (h:Cnt c s)(hi:i<s.next)(hb:c.base<=i)(hc:cd (s.tag i)=4)(hl:cd l=5)(kh:s.mu.W=0)(kh2:s.mu.S=0)
  (hy:Mu.Says { s.mu with W:=1 } (Mu.mu { s.mu with W:=1 } s.more (upd s.tag i l) s.next) l):Cnt c { s with mu:={ s.mu with W:=1 },tag:=upd s.tag i l }∧Mu.mu { s.mu with W:=1 } s.more (upd s.tag i l) s.next+6=Mu.mu s.mu s.more s.tag s.next+5:=by
 have hi0:i≠0:=by have:=h.pos;omega
 obtain⟨h1,h2⟩:=Mu.spin (more:=s.more) (l:=l) h.mu hi hc hl kh kh2
 refine⟨h.step hi (.inr hb) s.wg h1 (Zal h2 (by decide)) ?_ ?_ (Wg.stay4_5 h.wg hi hi0 hc hl) hy ⟨fun e=>absurd e hi0,fun e=>absurd e hi0,fun _=>Nat.le_refl _⟩ (fun e=>by omega) (fun _ _=>⟨by omega,fun e=>by omega⟩) fun _ hlg=>?_,h2⟩
 ·exact fun e=>absurd e (Zbf h2 (by decide))
 ·exact ZfQ
 ·rw[hc]at hlg;rw[hl];exact hlg.low (by omega) (by omega) (by omega) (by omega)
theorem Cnt.take4 (h:Cnt c s)(hi:i<s.next)(hb:c.base<=i)(hc:cd (s.tag i)=4)(hl:cd l=10)(kh:s.mu.L=0)(kh2:s.mu.S=0)
  (hy:Mu.Says { s.mu with L:=1 } (Mu.mu { s.mu with L:=1 } s.more (upd s.tag i l) s.next) l):Cnt c { s with mu:={ s.mu with L:=1 },tag:=upd s.tag i l }∧Mu.mu { s.mu with L:=1 } s.more (upd s.tag i l) s.next+6=Mu.mu s.mu s.more s.tag s.next+3:=by
 have hi0:i≠0:=by have:=h.pos;omega
 obtain⟨h1,h2⟩:=Mu.take4 (more:=s.more) (l:=l) h.mu hi hc hl kh kh2
 refine⟨h.step hi (.inr hb) s.wg h1 (Zal h2 (by decide)) ?_ ?_ (Wg.stay4_10 h.wg hi hi0 hc hl) hy ⟨fun e=>absurd e hi0,fun e=>absurd e hi0,fun _=>Nat.le_refl _⟩ (fun e=>by omega) (fun _ _=>⟨by omega,fun e=>by omega⟩) fun _ hlg=>?_,h2⟩
 ·exact fun e=>absurd e (Zbf h2 (by decide))
 ·exact ZfQ
 ·rw[hc]at hlg;rw[hl];exact hlg.low (by omega) (by omega) (by omega) (by omega)
theorem Cnt.take6 (h:Cnt c s)(hi:i<s.next)(hb:c.base<=i)(hc:cd (s.tag i)=6)(hl:cd l=10)(kh:s.mu.L=0)(kh2:s.mu.S=0)
  (hy:Mu.Says { s.mu with L:=1,W:=0 } (Mu.mu { s.mu with L:=1,W:=0 } s.more (upd s.tag i l) s.next) l):Cnt c { s with mu:={ s.mu with L:=1,W:=0 },tag:=upd s.tag i l }∧Mu.mu { s.mu with L:=1,W:=0 } s.more (upd s.tag i l) s.next+5=Mu.mu s.mu s.more s.tag s.next+3:=by
 have hi0:i≠0:=by have:=h.pos;omega
 obtain⟨h1,h2⟩:=Mu.take6 (more:=s.more) (l:=l) h.mu hi hc hl kh kh2
 refine⟨h.step hi (.inr hb) s.wg h1 (Zal h2 (by decide)) ?_ ?_ (Wg.stay6_10 h.wg hi hi0 hc hl) hy ⟨fun e=>absurd e hi0,fun e=>absurd e hi0,fun _=>Nat.le_refl _⟩ (fun e=>by omega) (fun _ _=>⟨by omega,fun e=>by omega⟩) fun _ hlg=>?_,h2⟩
 ·exact fun e=>absurd e (Zbf h2 (by decide))
 ·exact ZfQ
 ·rw[hc]at hlg;rw[hl];exact hlg.low (by omega) (by omega) (by omega) (by omega)
theorem Cnt.queue4 (h:Cnt c s)(hi:i<s.next)(hb:c.base<=i)(hc:cd (s.tag i)=4)(hl:cd l=7)(kh:s.mu.L=1∨s.mu.S=1)
  (hy:Mu.Says { s.mu with n:=s.mu.n+1 } (Mu.mu { s.mu with n:=s.mu.n+1 } s.more (upd s.tag i l) s.next) l):Cnt c { s with mu:={ s.mu with n:=s.mu.n+1 },tag:=upd s.tag i l }∧Mu.mu { s.mu with n:=s.mu.n+1 } s.more (upd s.tag i l) s.next+6=Mu.mu s.mu s.more s.tag s.next+4:=by
 have hi0:i≠0:=by have:=h.pos;omega
 obtain⟨h1,h2⟩:=Mu.queue4 (more:=s.more) (l:=l) h.mu hi hc hl kh
 refine⟨h.step hi (.inr hb) s.wg h1 (Zal h2 (by decide)) ?_ ?_ (Wg.stay4_7 h.wg hi hi0 hc hl) hy ⟨fun e=>absurd e hi0,fun e=>absurd e hi0,fun _=>Nat.le_refl _⟩ (fun e=>by omega) (fun _ _=>⟨by omega,fun e=>by omega⟩) fun _ hlg=>?_,h2⟩
 ·exact fun e=>absurd e (Zbf h2 (by decide))
 ·exact ZbQ
 ·rw[hc]at hlg;rw[hl];exact hlg.low (by omega) (by omega) (by omega) (by omega)
theorem Cnt.queue6 (h:Cnt c s)(hi:i<s.next)(hb:c.base<=i)(hc:cd (s.tag i)=6)(hl:cd l=7)(kh:s.mu.L=1)
  (hy:Mu.Says { s.mu with n:=s.mu.n+1,W:=0 } (Mu.mu { s.mu with n:=s.mu.n+1,W:=0 } s.more (upd s.tag i l) s.next) l):Cnt c { s with mu:={ s.mu with n:=s.mu.n+1,W:=0 },tag:=upd s.tag i l }∧Mu.mu { s.mu with n:=s.mu.n+1,W:=0 } s.more (upd s.tag i l) s.next+5=Mu.mu s.mu s.more s.tag s.next+4:=by
 have hi0:i≠0:=by have:=h.pos;omega
 obtain⟨h1,h2⟩:=Mu.queue6 (more:=s.more) (l:=l) h.mu hi hc hl kh
 exact qLlMh1
theorem Cnt.queue6s (h:Cnt c s)(hi:i<s.next)(hb:c.base<=i)(hc:cd (s.tag i)=6)(hl:cd l=7)(kh:s.mu.L=1)
  (hy:Mu.Says { s.mu with n:=s.mu.n+1,W:=0,S:=1 } (Mu.mu { s.mu with n:=s.mu.n+1,W:=0,S:=1 } s.more (upd s.tag i l) s.next) l):Cnt c { s with mu:={ s.mu with n:=s.mu.n+1,W:=0,S:=1 },tag:=upd s.tag i l }∧Mu.mu { s.mu with n:=s.mu.n+1,W:=0,S:=1 } s.more (upd s.tag i l) s.next+5=Mu.mu s.mu s.more s.tag s.next+4:=by
 have hi0:i≠0:=by have:=h.pos;omega
 obtain⟨h1,h2⟩:=Mu.queue6s (more:=s.more) (l:=l) h.mu hi hc hl kh
 exact qLlMh1
theorem Cnt.semacq (h:Cnt c s)(hi:i<s.next)(hb:c.base<=i)(hc:cd (s.tag i)=7)(hl:cd l=8)(kh:0<s.mu.sm)
  (hy:Mu.Says { s.mu with sm:=s.mu.sm-1 } (Mu.mu { s.mu with sm:=s.mu.sm-1 } s.more (upd s.tag i l) s.next) l):Cnt c { s with mu:={ s.mu with sm:=s.mu.sm-1 },tag:=upd s.tag i l }∧Mu.mu { s.mu with sm:=s.mu.sm-1 } s.more (upd s.tag i l) s.next+5=Mu.mu s.mu s.more s.tag s.next+5:=by
 have hi0:i≠0:=by have:=h.pos;omega
 obtain⟨h1,h2⟩:=Mu.semacq (more:=s.more) (l:=l) h.mu hi hc hl kh
 refine⟨h.step hi (.inr hb) s.wg h1 (Zal h2 (by decide)) ?_ ?_ (Wg.stay7_8 h.wg hi hi0 hc hl) hy ⟨fun e=>absurd e hi0,fun e=>absurd e hi0,fun _=>Nat.le_refl _⟩ (fun e=>by omega) (fun _ _=>⟨by omega,fun e=>by omega⟩) fun _ hlg=>?_,h2⟩
 ·exact fun _=>rfl
 ·intro j hj hji h9 hS
  have:=h.mu.keep9 hi hj hji h9 hS
  rw[hc]at this
  exfalso;have k10:Zaq 7=0:=rfl;have k17:cR 7=0:=rfl;omega
 ·rw[hc]at hlg;rw[hl];exact hlg.low (by omega) (by omega) (by omega) (by omega)
theorem Cnt.wake0 (h:Cnt c s)(hi:i<s.next)(hb:c.base<=i)(hc:cd (s.tag i)=8)(hl:cd l=6)(kh:s.mu.S=0)
  (hy:Mu.Says s.mu (Mu.mu s.mu s.more (upd s.tag i l) s.next) l):Cnt c { s with mu:=s.mu,tag:=upd s.tag i l }∧Mu.mu s.mu s.more (upd s.tag i l) s.next+5=Mu.mu s.mu s.more s.tag s.next+5:=by
 have hi0:i≠0:=by have:=h.pos;omega
 obtain⟨h1,h2⟩:=Mu.wake0 (more:=s.more) (l:=l) h.mu hi hc hl kh
 refine⟨h.step hi (.inr hb) s.wg h1 (Zal h2 (by decide)) ?_ ?_ (Wg.stay8_6 h.wg hi hi0 hc hl) hy ⟨fun e=>absurd e hi0,fun e=>absurd e hi0,fun _=>Nat.le_refl _⟩ (fun e=>by omega) (fun _ _=>⟨by omega,fun e=>by omega⟩) fun _ hlg=>?_,h2⟩
 ·exact fun _=>rfl
 ·exact ZfQ
 ·rw[hc]at hlg;rw[hl];exact hlg.low (by omega) (by omega) (by omega) (by omega)
theorem Cnt.wake1 (h:Cnt c s)(hi:i<s.next)(hb:c.base<=i)(hc:cd (s.tag i)=8)(hl:cd l=9)(kh:s.mu.S=1)
  (hy:Mu.Says s.mu (Mu.mu s.mu s.more (upd s.tag i l) s.next) l):Cnt c { s with mu:=s.mu,tag:=upd s.tag i l }∧Mu.mu s.mu s.more (upd s.tag i l) s.next+5=Mu.mu s.mu s.more s.tag s.next+5:=by
 have hi0:i≠0:=by have:=h.pos;omega
 obtain⟨h1,h2⟩:=Mu.wake1 (more:=s.more) (l:=l) h.mu hi hc hl kh
 refine⟨h.step hi (.inr hb) s.wg h1 (Zal h2 (by decide)) ?_ ?_ (Wg.stay8_9 h.wg hi hi0 hc hl) hy ⟨fun e=>absurd e hi0,fun e=>absurd e hi0,fun _=>Nat.le_refl _⟩ (fun e=>by omega) (fun _ _=>⟨by omega,fun e=>by omega⟩) fun _ hlg=>?_,h2⟩
 ·exact fun _=>rfl
 ·intro j hj hji h9 hS
  have:=h.mu.keep9 hi hj hji h9 hS
  rw[hc]at this
  exfalso;have k8:cA 8=1:=rfl;omega
 ·rw[hc]at hlg;rw[hl];exact hlg.low (by omega) (by omega) (by omega) (by omega)
theorem Cnt.hand (h:Cnt c s)(hi:i<s.next)(hb:c.base<=i)(hc:cd (s.tag i)=9)(hl:cd l=10)(kh:s.mu.S=1)(kh2:2<=s.mu.n)
  (hy:Mu.Says { s.mu with L:=1,n:=s.mu.n-1 } (Mu.mu { s.mu with L:=1,n:=s.mu.n-1 } s.more (upd s.tag i l) s.next) l):Cnt c { s with mu:={ s.mu with L:=1,n:=s.mu.n-1 },tag:=upd s.tag i l }∧Mu.mu { s.mu with L:=1,n:=s.mu.n-1 } s.more (upd s.tag i l) s.next+5=Mu.mu s.mu s.more s.tag s.next+3:=by
 have hi0:i≠0:=by have:=h.pos;omega
 obtain⟨h1,h2⟩:=Mu.hand (more:=s.more) (l:=l) h.mu hi hc hl kh kh2
 exact qLlMh2
theorem Cnt.hand0 (h:Cnt c s)(hi:i<s.next)(hb:c.base<=i)(hc:cd (s.tag i)=9)(hl:cd l=10)(kh:s.mu.S=1)
  (hy:Mu.Says { s.mu with L:=1,n:=s.mu.n-1,S:=0 } (Mu.mu { s.mu with L:=1,n:=s.mu.n-1,S:=0 } s.more (upd s.tag i l) s.next) l):Cnt c { s with mu:={ s.mu with L:=1,n:=s.mu.n-1,S:=0 },tag:=upd s.tag i l }∧Mu.mu { s.mu with L:=1,n:=s.mu.n-1,S:=0 } s.more (upd s.tag i l) s.next+5=Mu.mu s.mu s.more s.tag s.next+3:=by
 have hi0:i≠0:=by have:=h.pos;omega
 obtain⟨h1,h2⟩:=Mu.hand0 (more:=s.more) (l:=l) h.mu hi hc hl kh
 exact qLlMh2
theorem Cnt.unlock0 (h:Cnt c s)(hi:i<s.next)(hb:c.base<=i)(hc:cd (s.tag i)=14)(hl:cd l=18)(kh:s.mu.S=0)(kh2:s.mu.n=0∨s.mu.W=1)
  (hy:Mu.Says { s.mu with L:=0 } (Mu.mu { s.mu with L:=0 } s.more (upd s.tag i l) s.next) l):Cnt c { s with mu:={ s.mu with L:=0 },tag:=upd s.tag i l }∧Mu.mu { s.mu with L:=0 } s.more (upd s.tag i l) s.next+3=Mu.mu s.mu s.more s.tag s.next+0:=by
 have hi0:i≠0:=by have:=h.pos;omega
 obtain⟨h1,h2⟩:=Mu.unlock0 (more:=s.more) (l:=l) h.mu hi hc hl kh kh2
 refine⟨h.step hi (.inr hb) s.wg h1 (Zal h2 (by decide)) ?_ ?_ (Wg.stay14_18 h.wg hi hi0 hc hl) hy ⟨fun e=>absurd e hi0,fun e=>absurd e hi0,fun _=>Nat.le_refl _⟩ (fun e=>by omega) (fun _ _=>⟨by omega,fun e=>by omega⟩) fun _ hlg=>?_,h2⟩
 ·exact fun e=>absurd e (Zbf h2 (by decide))
 ·exact ZfQ
 ·rw[hc]at hlg;rw[hl];exact hlg.mid (by omega) (by omega) (by omega) (by omega)
theorem Cnt.unlockU (h:Cnt c s)(hi:i<s.next)(hb:c.base<=i)(hc:cd (s.tag i)=14)(hl:cd l=15)(kh:s.mu.S=0)
  (hy:Mu.Says { s.mu with L:=0 } (Mu.mu { s.mu with L:=0 } s.more (upd s.tag i l) s.next) l):Cnt c { s with mu:={ s.mu with L:=0 },tag:=upd s.tag i l }∧Mu.mu { s.mu with L:=0 } s.more (upd s.tag i l) s.next+3=Mu.mu s.mu s.more s.tag s.next+2:=by
 have hi0:i≠0:=by have:=h.pos;omega
 obtain⟨h1,h2⟩:=Mu.unlockU (more:=s.more) (l:=l) h.mu hi hc hl kh
 refine⟨h.step hi (.inr hb) s.wg h1 (Zal h2 (by decide)) ?_ ?_ (Wg.stay14_15 h.wg hi hi0 hc hl) hy ⟨fun e=>absurd e hi0,fun e=>absurd e hi0,fun _=>Nat.le_refl _⟩ (fun e=>by omega) (fun _ _=>⟨by omega,fun e=>by omega⟩) fun _ hlg=>?_,h2⟩
 ·exact fun e=>absurd e (Zbf h2 (by decide))
 ·exact ZfQ
 ·rw[hc]at hlg;rw[hl];exact hlg.mid (by omega) (by omega) (by omega) (by omega)
theorem Cnt.unlockS (h:Cnt c s)(hi:i<s.next)(hb:c.base<=i)(hc:cd (s.tag i)=14)(hl:cd l=17)(kh:s.mu.S=1)
  (hy:Mu.Says { s.mu with L:=0 } (Mu.mu { s.mu with L:=0 } s.more (upd s.tag i l) s.next) l):Cnt c { s with mu:={ s.mu with L:=0 },tag:=upd s.tag i l }∧Mu.mu { s.mu with L:=0 } s.more (upd s.tag i l) s.next+3=Mu.mu s.mu s.more s.tag s.next+1:=by
 have hi0:i≠0:=by have:=h.pos;omega
 obtain⟨h1,h2⟩:=Mu.unlockS (more:=s.more) (l:=l) h.mu hi hc hl kh
 refine⟨h.step hi (.inr hb) s.wg h1 (Zal h2 (by decide)) ?_ ?_ (Wg.stay14_17 h.wg hi hi0 hc hl) hy ⟨fun e=>absurd e hi0,fun e=>absurd e hi0,fun _=>Nat.le_refl _⟩ (fun e=>by omega) (fun _ _=>⟨by omega,fun e=>by omega⟩) fun _ hlg=>?_,h2⟩
 ·exact fun e=>absurd e (Zbf h2 (by decide))
 ·intro j hj hji h9 hS
  have:=h.mu.keep9 hi hj hji h9 hS
  rw[hc]at this
  exfalso;have k10:Zaq 14=1:=rfl;have k17:cR 14=0:=rfl;omega
 ·rw[hc]at hlg;rw[hl];exact hlg.mid (by omega) (by omega) (by omega) (by omega)
theorem Cnt.giveU (h:Cnt c s)(hi:i<s.next)(hb:c.base<=i)(hc:cd (s.tag i)=15)(hl:cd l=17)(kh:s.mu.L=0)(kh2:s.mu.W=0)(kh3:s.mu.S=0)(kh4:0<s.mu.n)
  (hy:Mu.Says { s.mu with n:=s.mu.n-1,W:=1 } (Mu.mu { s.mu with n:=s.mu.n-1,W:=1 } s.more (upd s.tag i l) s.next) l):Cnt c { s with mu:={ s.mu with n:=s.mu.n-1,W:=1 },tag:=upd s.tag i l }∧Mu.mu { s.mu with n:=s.mu.n-1,W:=1 } s.more (upd s.tag i l) s.next+2=Mu.mu s.mu s.more s.tag s.next+1:=by
 have hi0:i≠0:=by have:=h.pos;omega
 obtain⟨h1,h2⟩:=Mu.giveU (more:=s.more) (l:=l) h.mu hi hc hl kh kh2 kh3 kh4
 refine⟨h.step hi (.inr hb) s.wg h1 (Zal h2 (by decide)) ?_ ?_ (Wg.stay15_17 h.wg hi hi0 hc hl) hy ⟨fun e=>absurd e hi0,fun e=>absurd e hi0,fun _=>Nat.le_refl _⟩ (fun e=>by omega) (fun _ _=>⟨by omega,fun e=>by omega⟩) fun _ hlg=>?_,h2⟩
 ·exact fun e=>absurd e (Zbf h2 (by decide))
 ·exact ZfQ
 ·rw[hc]at hlg;rw[hl];exact hlg.mid (by omega) (by omega) (by omega) (by omega)
theorem Cnt.semrel (h:Cnt c s)(hi:i<s.next)(hb:c.base<=i)(hc:cd (s.tag i)=17)(hl:cd l=18)
  (hy:Mu.Says { s.mu with sm:=s.mu.sm+1 } (Mu.mu { s.mu with sm:=s.mu.sm+1 } s.more (upd s.tag i l) s.next) l):Cnt c { s with mu:={ s.mu with sm:=s.mu.sm+1 },tag:=upd s.tag i l }∧Mu.mu { s.mu with sm:=s.mu.sm+1 } s.more (upd s.tag i l) s.next+1=Mu.mu s.mu s.more s.tag s.next+1:=by
 have hi0:i≠0:=by have:=h.pos;omega
 obtain⟨h1,h2⟩:=Mu.semrel (more:=s.more) (l:=l) h.mu hi hc hl
 refine⟨h.step hi (.inr hb) s.wg h1 (Zal h2 (by decide)) ?_ ?_ (Wg.stay17_18 h.wg hi hi0 hc hl) hy ⟨fun e=>absurd e hi0,fun e=>absurd e hi0,fun _=>Nat.le_refl _⟩ (fun e=>by omega) (fun _ _=>⟨by omega,fun e=>by omega⟩) fun _ hlg=>?_,h2⟩
 ·exact fun _=>rfl
 ·intro j hj hji h9 hS
  have:=h.mu.keep9 hi hj hji h9 hS
  rw[hc]at this
  exfalso;have k17:cR 17=1:=rfl;omega
 ·rw[hc]at hlg;rw[hl];exact hlg.mid (by omega) (by omega) (by omega) (by omega)
theorem Cnt.leaveU (h:Cnt c s)(hi:i<s.next)(hb:c.base<=i)(hc:cd (s.tag i)=16)(hl:cd l=18)(kh:s.mu.L=1∨s.mu.W=1∨s.mu.S=1∨s.mu.n=0)
  (hy:Mu.Says s.mu (Mu.mu s.mu s.more (upd s.tag i l) s.next) l):Cnt c { s with mu:=s.mu,tag:=upd s.tag i l }∧Mu.mu s.mu s.more (upd s.tag i l) s.next+2=Mu.mu s.mu s.more s.tag s.next+0:=by
 have hi0:i≠0:=by have:=h.pos;omega
 obtain⟨h1,h2⟩:=Mu.leaveU (more:=s.more) (l:=l) h.mu hi hc hl kh
 refine⟨h.step hi (.inr hb) s.wg h1 (Zal h2 (by decide)) ?_ ?_ (Wg.stay16_18 h.wg hi hi0 hc hl) hy ⟨fun e=>absurd e hi0,fun e=>absurd e hi0,fun _=>Nat.le_refl _⟩ (fun e=>by omega) (fun _ _=>⟨by omega,fun e=>by omega⟩) fun _ hlg=>?_,h2⟩
 ·exact fun _=>rfl
 ·exact ZbQ
 ·rw[hc]at hlg;rw[hl];exact hlg.mid (by omega) (by omega) (by omega) (by omega)
theorem Cnt.same1_2 (h:Cnt c s)(hi:i<s.next)(hb:c.base<=i)(hc:cd (s.tag i)=1)(hl:cd l=2)(hneed:c.need i=true)
  (hy:Mu.Says s.mu (Mu.mu s.mu s.more (upd s.tag i l) s.next) l):Cnt c { s with mu:=s.mu,tag:=upd s.tag i l }∧Mu.mu s.mu s.more (upd s.tag i l) s.next+6=Mu.mu s.mu s.more s.tag s.next+6:=by
 have hi0:i≠0:=by have:=h.pos;omega
 obtain⟨h1,h2⟩:=Mu.same1_2 (more:=s.more) (l:=l) h.mu hi hc hl
 refine⟨h.step hi (.inr hb) s.wg h1 (Zal h2 (by decide)) ?_ ?_ (Wg.stay1_2 h.wg hi hi0 hc hl) hy ⟨fun e=>absurd e hi0,fun e=>absurd e hi0,fun _=>Nat.le_refl _⟩ (fun e=>by omega) (fun _ _=>⟨by omega,fun e=>by omega⟩) fun _ hlg=>?_,h2⟩
 ·exact fun _=>rfl
 ·exact ZbQ
 ·rw[hc]at hlg;rw[hl];exact hlg.start hneed
theorem Cnt.same2_3 (h:Cnt c s)(hi:i<s.next)(hb:c.base<=i)(hc:cd (s.tag i)=2)(hl:cd l=3)
  (hy:Mu.Says s.mu (Mu.mu s.mu s.more (upd s.tag i l) s.next) l):Cnt c { s with mu:=s.mu,tag:=upd s.tag i l }∧Mu.mu s.mu s.more (upd s.tag i l) s.next+6=Mu.mu s.mu s.more s.tag s.next+6:=by
 have hi0:i≠0:=by have:=h.pos;omega
 obtain⟨h1,h2⟩:=Mu.same2_3 (more:=s.more) (l:=l) h.mu hi hc hl
 refine⟨h.step hi (.inr hb) s.wg h1 (Zal h2 (by decide)) ?_ ?_ (Wg.stay2_3 h.wg hi hi0 hc hl) hy ⟨fun e=>absurd e hi0,fun e=>absurd e hi0,fun _=>Nat.le_refl _⟩ (fun e=>by omega) (fun _ _=>⟨by omega,fun e=>by omega⟩) fun _ hlg=>?_,h2⟩
 ·exact fun _=>rfl
 ·exact ZbQ
 ·rw[hc]at hlg;rw[hl];exact hlg.low (by omega) (by omega) (by omega) (by omega)
theorem Cnt.same3_4 (h:Cnt c s)(hi:i<s.next)(hb:c.base<=i)(hc:cd (s.tag i)=3)(hl:cd l=4)
  (hy:Mu.Says s.mu (Mu.mu s.mu s.more (upd s.tag i l) s.next) l):Cnt c { s with mu:=s.mu,tag:=upd s.tag i l }∧Mu.mu s.mu s.more (upd s.tag i l) s.next+6=Mu.mu s.mu s.more s.tag s.next+6:=by
 have hi0:i≠0:=by have:=h.pos;omega
 obtain⟨h1,h2⟩:=Mu.same3_4 (more:=s.more) (l:=l) h.mu hi hc hl
 refine⟨h.step hi (.inr hb) s.wg h1 (Zal h2 (by decide)) ?_ ?_ (Wg.stay3_4 h.wg hi hi0 hc hl) hy ⟨fun e=>absurd e hi0,fun e=>absurd e hi0,fun _=>Nat.le_refl _⟩ (fun e=>by omega) (fun _ _=>⟨by omega,fun e=>by omega⟩) fun _ hlg=>?_,h2⟩
 ·exact fun _=>rfl
 ·exact ZbQ
 ·rw[hc]at hlg;rw[hl];exact hlg.low (by omega) (by omega) (by omega) (by omega)
theorem Cnt.same4_3 (h:Cnt c s)(hi:i<s.next)(hb:c.base<=i)(hc:cd (s.tag i)=4)(hl:cd l=3)
  (hy:Mu.Says s.mu (Mu.mu s.mu s.more (upd s.tag i l) s.next) l):Cnt c { s with mu:=s.mu,tag:=upd s.tag i l }∧Mu.mu s.mu s.more (upd s.tag i l) s.next+6=Mu.mu s.mu s.more s.tag s.next+6:=by
 have hi0:i≠0:=by have:=h.pos;omega
 obtain⟨h1,h2⟩:=Mu.same4_3 (more:=s.more) (l:=l) h.mu hi hc hl
 refine⟨h.step hi (.inr hb) s.wg h1 (Zal h2 (by decide)) ?_ ?_ (Wg.stay4_3 h.wg hi hi0 hc hl) hy ⟨fun e=>absurd e hi0,fun e=>absurd e hi0,fun _=>Nat.le_refl _⟩ (fun e=>by omega) (fun _ _=>⟨by omega,fun e=>by omega⟩) fun _ hlg=>?_,h2⟩
 ·exact fun _=>rfl
 ·exact ZbQ
 ·rw[hc]at hlg;rw[hl];exact hlg.low (by omega) (by omega) (by omega) (by omega)
theorem Cnt.same5_6 (h:Cnt c s)(hi:i<s.next)(hb:c.base<=i)(hc:cd (s.tag i)=5)(hl:cd l=6)
  (hy:Mu.Says s.mu (Mu.mu s.mu s.more (upd s.tag i l) s.next) l):Cnt c { s with mu:=s.mu,tag:=upd s.tag i l }∧Mu.mu s.mu s.more (upd s.tag i l) s.next+5=Mu.mu s.mu s.more s.tag s.next+5:=by
 have hi0:i≠0:=by have:=h.pos;omega
 obtain⟨h1,h2⟩:=Mu.same5_6 (more:=s.more) (l:=l) h.mu hi hc hl
 refine⟨h.step hi (.inr hb) s.wg h1 (Zal h2 (by decide)) ?_ ?_ (Wg.stay5_6 h.wg hi hi0 hc hl) hy ⟨fun e=>absurd e hi0,fun e=>absurd e hi0,fun _=>Nat.le_refl _⟩ (fun e=>by omega) (fun _ _=>⟨by omega,fun e=>by omega⟩) fun _ hlg=>?_,h2⟩
 ·exact fun _=>rfl
 ·exact ZbQ
 ·rw[hc]at hlg;rw[hl];exact hlg.low (by omega) (by omega) (by omega) (by omega)
theorem Cnt.same6_5 (h:Cnt c s)(hi:i<s.next)(hb:c.base<=i)(hc:cd (s.tag i)=6)(hl:cd l=5)
  (hy:Mu.Says s.mu (Mu.mu s.mu s.more (upd s.tag i l) s.next) l):Cnt c { s with mu:=s.mu,tag:=upd s.tag i l }∧Mu.mu s.mu s.more (upd s.tag i l) s.next+5=Mu.mu s.mu s.more s.tag s.next+5:=by
 have hi0:i≠0:=by have:=h.pos;omega
 obtain⟨h1,h2⟩:=Mu.same6_5 (more:=s.more) (l:=l) h.mu hi hc hl
 refine⟨h.step hi (.inr hb) s.wg h1 (Zal h2 (by decide)) ?_ ?_ (Wg.stay6_5 h.wg hi hi0 hc hl) hy ⟨fun e=>absurd e hi0,fun e=>absurd e hi0,fun _=>Nat.le_refl _⟩ (fun e=>by omega) (fun _ _=>⟨by omega,fun e=>by omega⟩) fun _ hlg=>?_,h2⟩
 ·exact fun _=>rfl
 ·exact ZbQ
 ·rw[hc]at hlg;rw[hl];exact hlg.low (by omega) (by omega) (by omega) (by omega)
theorem Cnt.same10_11 (h:Cnt c s)(hi:i<s.next)(hb:c.base<=i)(hc:cd (s.tag i)=10)(hl:cd l=11)
  (hy:Mu.Says s.mu (Mu.mu s.mu s.more (upd s.tag i l) s.next) l):Cnt c { s with mu:=s.mu,tag:=upd s.tag i l }∧Mu.mu s.mu s.more (upd s.tag i l) s.next+3=Mu.mu s.mu s.more s.tag s.next+3:=by
 have hi0:i≠0:=by have:=h.pos;omega
 obtain⟨h1,h2⟩:=Mu.same10_11 (more:=s.more) (l:=l) h.mu hi hc hl
 refine⟨h.step hi (.inr hb) s.wg h1 (Zal h2 (by decide)) ?_ ?_ (Wg.stay10_11 h.wg hi hi0 hc hl) hy ⟨fun e=>absurd e hi0,fun e=>absurd e hi0,fun _=>Nat.le_refl _⟩ (fun e=>by omega) (fun _ _=>⟨by omega,fun e=>by omega⟩) fun _ hlg=>?_,h2⟩
 ·exact fun _=>rfl
 ·exact ZbQ
 ·rw[hc]at hlg;rw[hl];exact hlg.low (by omega) (by omega) (by omega) (by omega)
theorem Cnt.same13_14 (h:Cnt c s)(hi:i<s.next)(hb:c.base<=i)(hc:cd (s.tag i)=13)(hl:cd l=14)
  (hy:Mu.Says s.mu (Mu.mu s.mu s.more (upd s.tag i l) s.next) l):Cnt c { s with mu:=s.mu,tag:=upd s.tag i l }∧Mu.mu s.mu s.more (upd s.tag i l) s.next+3=Mu.mu s.mu s.more s.tag s.next+3:=by
 have hi0:i≠0:=by have:=h.pos;omega
 obtain⟨h1,h2⟩:=Mu.same13_14 (more:=s.more) (l:=l) h.mu hi hc hl
 refine⟨h.step hi (.inr hb) s.wg h1 (Zal h2 (by decide)) ?_ ?_ (Wg.stay13_14 h.wg hi hi0 hc hl) hy ⟨fun e=>absurd e hi0,fun e=>absurd e hi0,fun _=>Nat.le_refl _⟩ (fun e=>by omega) (fun _ _=>⟨by omega,fun e=>by omega⟩) fun _ hlg=>?_,h2⟩
 ·exact fun _=>rfl
 ·exact ZbQ
 ·rw[hc]at hlg;rw[hl];exact hlg.mid (by omega) (by omega) (by omega) (by omega)
theorem Cnt.same15_16 (h:Cnt c s)(hi:i<s.next)(hb:c.base<=i)(hc:cd (s.tag i)=15)(hl:cd l=16)
  (hy:Mu.Says s.mu (Mu.mu s.mu s.more (upd s.tag i l) s.next) l):Cnt c { s with mu:=s.mu,tag:=upd s.tag i l }∧Mu.mu s.mu s.more (upd s.tag i l) s.next+2=Mu.mu s.mu s.more s.tag s.next+2:=by
 have hi0:i≠0:=by have:=h.pos;omega
 obtain⟨h1,h2⟩:=Mu.same15_16 (more:=s.more) (l:=l) h.mu hi hc hl
 refine⟨h.step hi (.inr hb) s.wg h1 (Zal h2 (by decide)) ?_ ?_ (Wg.stay15_16 h.wg hi hi0 hc hl) hy ⟨fun e=>absurd e hi0,fun e=>absurd e hi0,fun _=>Nat.le_refl _⟩ (fun e=>by omega) (fun _ _=>⟨by omega,fun e=>by omega⟩) fun _ hlg=>?_,h2⟩
 ·exact fun _=>rfl
 ·exact ZbQ
 ·rw[hc]at hlg;rw[hl];exact hlg.mid (by omega) (by omega) (by omega) (by omega)
theorem Cnt.same16_15 (h:Cnt c s)(hi:i<s.next)(hb:c.base<=i)(hc:cd (s.tag i)=16)(hl:cd l=15)
  (hy:Mu.Says s.mu (Mu.mu s.mu s.more (upd s.tag i l) s.next) l):Cnt c { s with mu:=s.mu,tag:=upd s.tag i l }∧Mu.mu s.mu s.more (upd s.tag i l) s.next+2=Mu.mu s.mu s.more s.tag s.next+2:=by
 have hi0:i≠0:=by have:=h.pos;omega
 obtain⟨h1,h2⟩:=Mu.same16_15 (more:=s.more) (l:=l) h.mu hi hc hl
 refine⟨h.step hi (.inr hb) s.wg h1 (Zal h2 (by decide)) ?_ ?_ (Wg.stay16_15 h.wg hi hi0 hc hl) hy ⟨fun e=>absurd e hi0,fun e=>absurd e hi0,fun _=>Nat.le_refl _⟩ (fun e=>by omega) (fun _ _=>⟨by omega,fun e=>by omega⟩) fun _ hlg=>?_,h2⟩
 ·exact fun _=>rfl
 ·exact ZbQ
 ·rw[hc]at hlg;rw[hl];exact hlg.mid (by omega) (by omega) (by omega) (by omega)
theorem Cnt.same18_19 (h:Cnt c s)(hi:i<s.next)(hb:c.base<=i)(hc:cd (s.tag i)=18)(hl:cd l=19)
  (hy:Mu.Says s.mu (Mu.mu s.mu s.more (upd s.tag i l) s.next) l):Cnt c { s with mu:=s.mu,tag:=upd s.tag i l }∧Mu.mu s.mu s.more (upd s.tag i l) s.next+0=Mu.mu s.mu s.more s.tag s.next+0:=by
 have hi0:i≠0:=by have:=h.pos;omega
 obtain⟨h1,h2⟩:=Mu.same18_19 (more:=s.more) (l:=l) h.mu hi hc hl
 refine⟨h.step hi (.inr hb) s.wg h1 (Zal h2 (by decide)) ?_ ?_ (Wg.stay18_19 h.wg hi hi0 hc hl) hy ⟨fun e=>absurd e hi0,fun e=>absurd e hi0,fun _=>Nat.le_refl _⟩ (fun e=>by omega) (fun _ _=>⟨by omega,fun e=>by omega⟩) fun _ hlg=>?_,h2⟩
 ·exact fun _=>rfl
 ·exact ZbQ
 ·rw[hc]at hlg;rw[hl];exact hlg.mid (by omega) (by omega) (by omega) (by omega)
theorem Cnt.same1_20 (h:Cnt c s)(hi:i<s.next)(hb:c.base<=i)(hc:cd (s.tag i)=1)(hl:cd l=20)(hneed:¬ c.need i=true)
  (hy:Mu.Says s.mu (Mu.mu s.mu s.more (upd s.tag i l) s.next) l):Cnt c { s with mu:=s.mu,tag:=upd s.tag i l }∧Mu.mu s.mu s.more (upd s.tag i l) s.next+6=Mu.mu s.mu s.more s.tag s.next+0:=by
 have hi0:i≠0:=by have:=h.pos;omega
 obtain⟨h1,h2⟩:=Mu.same1_20 (more:=s.more) (l:=l) h.mu hi hc hl
 refine⟨h.step hi (.inr hb) s.wg h1 (Zal h2 (by decide)) ?_ ?_ (Wg.stay1_20 h.wg hi hi0 hc hl) hy ⟨fun e=>absurd e hi0,fun e=>absurd e hi0,fun _=>Nat.le_refl _⟩ (fun e=>by omega) (fun _ _=>⟨by omega,fun e=>by omega⟩) fun _ hlg=>?_,h2⟩
 ·exact fun _=>rfl
 ·exact ZbQ
 ·rw[hc]at hlg;rw[hl];exact hlg.skip hneed
theorem Cnt.same19_20 (h:Cnt c s)(hi:i<s.next)(hb:c.base<=i)(hc:cd (s.tag i)=19)(hl:cd l=20)
  (hy:Mu.Says s.mu (Mu.mu s.mu s.more (upd s.tag i l) s.next) l):Cnt c { s with mu:=s.mu,tag:=upd s.tag i l }∧Mu.mu s.mu s.more (upd s.tag i l) s.next+0=Mu.mu s.mu s.more s.tag s.next+0:=by
 have hi0:i≠0:=by have:=h.pos;omega
 obtain⟨h1,h2⟩:=Mu.same19_20 (more:=s.more) (l:=l) h.mu hi hc hl
 refine⟨h.step hi (.inr hb) s.wg h1 (Zal h2 (by decide)) ?_ ?_ (Wg.stay19_20 h.wg hi hi0 hc hl) hy ⟨fun e=>absurd e hi0,fun e=>absurd e hi0,fun _=>Nat.le_refl _⟩ (fun e=>by omega) (fun _ _=>⟨by omega,fun e=>by omega⟩) fun _ hlg=>?_,h2⟩
 ·exact fun _=>rfl
 ·exact ZbQ
 ·rw[hc]at hlg;rw[hl];exact hlg.up
theorem Cnt.same20_21 (h:Cnt c s)(hi:i<s.next)(hb:c.base<=i)(hc:cd (s.tag i)=20)(hl:cd l=21)
  (hy:Mu.Says s.mu (Mu.mu s.mu s.more (upd s.tag i l) s.next) l):Cnt c { s with mu:=s.mu,tag:=upd s.tag i l }∧Mu.mu s.mu s.more (upd s.tag i l) s.next+0=Mu.mu s.mu s.more s.tag s.next+0:=by
 have hi0:i≠0:=by have:=h.pos;omega
 obtain⟨h1,h2⟩:=Mu.same20_21 (more:=s.more) (l:=l) h.mu hi hc hl
 refine⟨h.step hi (.inr hb) s.wg h1 (Zal h2 (by decide)) ?_ ?_ (Wg.stay20_21 h.wg hi hi0 hc hl) hy ⟨fun e=>absurd e hi0,fun e=>absurd e hi0,fun _=>Nat.le_refl _⟩ (fun e=>by omega) (fun _ _=>⟨by omega,fun e=>by omega⟩) fun _ hlg=>?_,h2⟩
 ·exact fun _=>rfl
 ·exact ZbQ
 ·rw[hc]at hlg;rw[hl];exact hlg.hi (by omega) (by omega)
theorem Cnt.same22_23 (h:Cnt c s)(hi:i<s.next)(hb:c.base<=i)(hc:cd (s.tag i)=22)(hl:cd l=23)
  (hy:Mu.Says s.mu (Mu.mu s.mu s.more (upd s.tag i l) s.next) l):Cnt c { s with mu:=s.mu,tag:=upd s.tag i l }∧Mu.mu s.mu s.more (upd s.tag i l) s.next+0=Mu.mu s.mu s.more s.tag s.next+0:=by
 have hi0:i≠0:=by have:=h.pos;omega
 obtain⟨h1,h2⟩:=Mu.same22_23 (more:=s.more) (l:=l) h.mu hi hc hl
 refine⟨h.step hi (.inr hb) s.wg h1 (Zal h2 (by decide)) ?_ ?_ (Wg.stay22_23 h.wg hi hi0 hc hl) hy ⟨fun e=>absurd e hi0,fun e=>absurd e hi0,fun _=>Nat.le_refl _⟩ (fun e=>by omega) (fun _ _=>⟨by omega,fun e=>by omega⟩) fun _ hlg=>?_,h2⟩
 ·exact fun _=>rfl
 ·exact ZbQ
 ·rw[hc]at hlg;rw[hl];exact hlg.hi (by omega) (by omega)
theorem Cnt.doneN (h:Cnt c s)(hi:i<s.next)(hb:c.base<=i)(hc:cd (s.tag i)=21)(kh:¬ (s.wg.v=1∧s.wg.wt=1))
   :Cnt c { s with wg:={ s.wg with v:=s.wg.v-1 },tag:=upd s.tag i [0] }:=by
 have hi0:i≠0:=by have:=h.pos;omega
 obtain⟨h1,h2⟩:=Mu.same21_0 (more:=s.more) (l:=[0]) h.mu hi hc rfl
 refine h.step hi (.inr hb) _ h1 (Zal h2 (by decide)) (fun _=>rfl) ?_ (Wg.doneN (l:=[0]) h.wg hi hi0 hc rfl kh) trivial ⟨fun e=>absurd e hi0,fun e=>absurd e hi0,fun _=>Nat.sub_le _ _⟩ (fun e=>by simp[cd]at e) (fun _ _=>⟨by decide,fun e=>rfl⟩) fun _ hlg=>?_
 ·exact fun j hj hji h9 hS=>⟨hS,Nat.le_refl _⟩
 ·rw[hc]at hlg;exact hlg.hi (by omega) (by decide)
theorem Cnt.doneL (h:Cnt c s)(hi:i<s.next)(hb:c.base<=i)(hc:cd (s.tag i)=21)(hl:cd l=22)(hy:Mu.Says s.mu (Mu.mu s.mu s.more (upd s.tag i l) s.next) l)(kh:s.wg.v=1∧s.wg.wt=1)
   :Cnt c { s with wg:={ s.wg with v:=s.wg.v-1 },tag:=upd s.tag i l }:=by
 have hi0:i≠0:=by have:=h.pos;omega
 obtain⟨h1,h2⟩:=Mu.same21_22 (more:=s.more) (l:=l) h.mu hi hc hl
 refine h.step hi (.inr hb) _ h1 (Zal h2 (by decide)) (fun _=>rfl) ?_ (Wg.doneL (l:=l) h.wg hi hi0 hc hl kh) hy ⟨fun e=>absurd e hi0,fun e=>absurd e hi0,fun _=>Nat.sub_le _ _⟩ (fun e=>by omega) (fun _ _=>⟨by omega,fun e=>by omega⟩) fun _ hlg=>?_
 ·exact fun j hj hji h9 hS=>⟨hS,Nat.le_refl _⟩
 ·rw[hc]at hlg;rw[hl];exact hlg.hi (by omega) (by omega)
theorem Cnt.store0 (h:Cnt c s)(hi:i<s.next)(hb:c.base<=i)(hc:cd (s.tag i)=23)(hl:cd l=24)(hy:Mu.Says s.mu (Mu.mu s.mu s.more (upd s.tag i l) s.next) l)
   :Cnt c { s with wg:={ s.wg with wt:=0 },tag:=upd s.tag i l }:=by
 have hi0:i≠0:=by have:=h.pos;omega
 obtain⟨h1,h2⟩:=Mu.same23_24 (more:=s.more) (l:=l) h.mu hi hc hl
 refine h.step hi (.inr hb) _ h1 (Zal h2 (by decide)) (fun _=>rfl) ?_ (Wg.store0 (l:=l) h.wg hi hi0 hc hl) hy ⟨fun e=>absurd e hi0,fun e=>absurd e hi0,fun _=>Nat.le_refl _⟩ (fun e=>by omega) (fun _ _=>⟨by omega,fun e=>by omega⟩) fun _ hlg=>?_
 ·exact fun j hj hji h9 hS=>⟨hS,Nat.le_refl _⟩
 ·rw[hc]at hlg;rw[hl];exact hlg.hi (by omega) (by omega)
theorem Cnt.wgrel (h:Cnt c s)(hi:i<s.next)(hb:c.base<=i)(hc:cd (s.tag i)=24)
   :Cnt c { s with wg:={ s.wg with wm:=s.wg.wm+1 },tag:=upd s.tag i [0] }:=by
 have hi0:i≠0:=by have:=h.pos;omega
 obtain⟨h1,h2⟩:=Mu.same24_0 (more:=s.more) (l:=[0]) h.mu hi hc rfl
 refine h.step hi (.inr hb) _ h1 (Zal h2 (by decide)) (fun _=>rfl) ?_ (Wg.wgrel (l:=[0]) h.wg hi hi0 hc rfl) trivial ⟨fun e=>absurd e hi0,fun e=>absurd e hi0,fun _=>Nat.le_refl _⟩ (fun e=>by simp[cd]at e) (fun _ _=>⟨by decide,fun e=>rfl⟩) fun _ hlg=>?_
 ·exact fun j hj hji h9 hS=>⟨hS,Nat.le_refl _⟩
 ·rw[hc]at hlg;exact hlg.hi (by omega) (by decide)
theorem Cnt.m_add (h:Cnt c s)(hc:cd (s.tag 0)=31)(hl:cd l=32)(hn:∀ k n,l=[k,n]->s.next=c.base+n):Cnt c { s with wg:={ s.wg with v:=s.wg.v+1 },tag:=upd s.tag 0 l }:=by
 obtain⟨h1,h2⟩:=h.mu.main (more:=s.more) (l:=l) h.next0 (by omega) (by omega)
 refine h.step h.next0 (.inl rfl) _ h1 (Nat.le_of_eq h2) (fun _=>rfl) (fun j hj hji h9 hS=>⟨hS,Nat.le_refl _⟩) (Wg.add h.wg h.next0 hc hl) (Mu.says_main (by omega)) ⟨fun _ v=>⟨fun e=>by rw[e]at hl;simp[cd]at hl,fun e=>by rw[e]at hl;simp[cd]at hl⟩,fun _ k n hk e=>hn k n e,fun e=>absurd rfl e⟩ (fun e=>by omega) (fun e=>absurd rfl e) fun e=>absurd rfl e
theorem Cnt.m_seen0 (h:Cnt c s)(hc:cd (s.tag 0)=34)(hl:cd l=38)(kh:s.wg.v=0)(khmore:s.more=0) :Cnt c { s with wg:=s.wg,tag:=upd s.tag 0 l }:=by
 obtain⟨h1,h2⟩:=h.mu.main (more:=s.more) (l:=l) h.next0 (by omega) (by omega)
 refine h.step h.next0 (.inl rfl) _ h1 (Nat.le_of_eq h2) (fun _=>rfl) (fun j hj hji h9 hS=>⟨hS,Nat.le_refl _⟩) (Wg.seen0 h.wg h.next0 hc hl kh khmore) (Mu.says_main (by omega)) ⟨fun _ v=>⟨fun e=>by rw[e]at hl;simp[cd]at hl,fun e=>by rw[e]at hl;simp[cd]at hl⟩,fun _ k n hk e=>by rw[e]at hl;simp[cd]at hl;omega,fun e=>absurd rfl e⟩ (fun e=>by omega) (fun e=>absurd rfl e) fun e=>absurd rfl e
theorem Cnt.m_seenN (h:Cnt c s)(hc:cd (s.tag 0)=34)(hl:cd l=35)(kh:s.wg.v≠0)(hv:∀ v,l=[35,v]->s.wg.v<=v):Cnt c { s with wg:=s.wg,tag:=upd s.tag 0 l }:=by
 obtain⟨h1,h2⟩:=h.mu.main (more:=s.more) (l:=l) h.next0 (by omega) (by omega)
 refine h.step h.next0 (.inl rfl) _ h1 (Nat.le_of_eq h2) (fun _=>rfl) (fun j hj hji h9 hS=>⟨hS,Nat.le_refl _⟩) (Wg.seenN h.wg h.next0 hc hl kh) (Mu.says_main (by omega)) ⟨fun _ v=>⟨fun e=>hv v e,fun e=>by rw[e]at hl;simp[cd]at hl⟩,fun _ k n hk e=>by rw[e]at hl;simp[cd]at hl;omega,fun e=>absurd rfl e⟩ (fun e=>by omega) (fun e=>absurd rfl e) fun e=>absurd rfl e
theorem Cnt.m_miss (h:Cnt c s)(hc:cd (s.tag 0)=35)(hl:cd l=34)(hv:∀ v,l=[34,v]->s.wg.v<v):Cnt c { s with wg:=s.wg,tag:=upd s.tag 0 l }:=by
 obtain⟨h1,h2⟩:=h.mu.main (more:=s.more) (l:=l) h.next0 (by omega) (by omega)
 refine h.step h.next0 (.inl rfl) _ h1 (Nat.le_of_eq h2) (fun _=>rfl) (fun j hj hji h9 hS=>⟨hS,Nat.le_refl _⟩) (Wg.miss h.wg h.next0 hc hl) (Mu.says_main (by omega)) ⟨fun _ v=>⟨fun e=>by rw[e]at hl;simp[cd]at hl,fun e=>hv v e⟩,fun _ k n hk e=>by rw[e]at hl;simp[cd]at hl;omega,fun e=>absurd rfl e⟩ (fun e=>by omega) (fun e=>absurd rfl e) fun e=>absurd rfl e
theorem Cnt.m_wait (h:Cnt c s)(hc:cd (s.tag 0)=35)(hl:cd l=36)(kh:s.wg.v≠0) :Cnt c { s with wg:={ s.wg with wt:=1 },tag:=upd s.tag 0 l }:=by
 obtain⟨h1,h2⟩:=h.mu.main (more:=s.more) (l:=l) h.next0 (by omega) (by omega)
 refine h.step h.next0 (.inl rfl) _ h1 (Nat.le_of_eq h2) (fun _=>rfl) (fun j hj hji h9 hS=>⟨hS,Nat.le_refl _⟩) (Wg.wait h.wg h.next0 hc hl kh) (Mu.says_main (by omega)) ⟨fun _ v=>⟨fun e=>by rw[e]at hl;simp[cd]at hl,fun e=>by rw[e]at hl;simp[cd]at hl⟩,fun _ k n hk e=>by rw[e]at hl;simp[cd]at hl;omega,fun e=>absurd rfl e⟩ (fun e=>by omega) (fun e=>absurd rfl e) fun e=>absurd rfl e
theorem Cnt.m_woken (h:Cnt c s)(hc:cd (s.tag 0)=36)(hl:cd l=37)(kh:s.wg.wm≠0) :Cnt c { s with wg:={ s.wg with wm:=s.wg.wm-1 },tag:=upd s.tag 0 l }:=by
 obtain⟨h1,h2⟩:=h.mu.main (more:=s.more) (l:=l) h.next0 (by omega) (by omega)
 refine h.step h.next0 (.inl rfl) _ h1 (Nat.le_of_eq h2) (fun _=>rfl) (fun j hj hji h9 hS=>⟨hS,Nat.le_refl _⟩) (Wg.woken h.wg h.next0 hc hl kh) (Mu.says_main (by omega)) ⟨fun _ v=>⟨fun e=>by rw[e]at hl;simp[cd]at hl,fun e=>by rw[e]at hl;simp[cd]at hl⟩,fun _ k n hk e=>by rw[e]at hl;simp[cd]at hl;omega,fun e=>absurd rfl e⟩ (fun e=>by omega) (fun e=>absurd rfl e) fun e=>absurd rfl e
theorem Cnt.m_same30_31 (h:Cnt c s)(hc:cd (s.tag 0)=30)(hl:cd l=31)(hn:∀ k n,l=[k,n]->s.next=c.base+n):Cnt c { s with wg:=s.wg,tag:=upd s.tag 0 l }:=by
 obtain⟨h1,h2⟩:=h.mu.main (more:=s.more) (l:=l) h.next0 (by omega) (by omega)
 refine h.step h.next0 (.inl rfl) _ h1 (Nat.le_of_eq h2) (fun _=>rfl) (fun j hj hji h9 hS=>⟨hS,Nat.le_refl _⟩) (Wg.same30_31 h.wg h.next0 hc hl) (Mu.says_main (by omega)) ⟨fun _ v=>⟨fun e=>by rw[e]at hl;simp[cd]at hl,fun e=>by rw[e]at hl;simp[cd]at hl⟩,fun _ k n hk e=>hn k n e,fun e=>absurd rfl e⟩ (fun e=>by omega) (fun e=>absurd rfl e) fun e=>absurd rfl e
theorem Cnt.m_same32_33 (h:Cnt c s)(hc:cd (s.tag 0)=32)(hl:cd l=33)(hn:∀ k n,l=[k,n]->s.next=c.base+n):Cnt c { s with wg:=s.wg,tag:=upd s.tag 0 l }:=by
 obtain⟨h1,h2⟩:=h.mu.main (more:=s.more) (l:=l) h.next0 (by omega) (by omega)
 refine h.step h.next0 (.inl rfl) _ h1 (Nat.le_of_eq h2) (fun _=>rfl) (fun j hj hji h9 hS=>⟨hS,Nat.le_refl _⟩) (Wg.same32_33 h.wg h.next0 hc hl) (Mu.says_main (by omega)) ⟨fun _ v=>⟨fun e=>by rw[e]at hl;simp[cd]at hl,fun e=>by rw[e]at hl;simp[cd]at hl⟩,fun _ k n hk e=>hn k n e,fun e=>absurd rfl e⟩ (fun e=>by omega) (fun e=>absurd rfl e) fun e=>absurd rfl e
theorem Cnt.m_same30_34 (h:Cnt c s)(hc:cd (s.tag 0)=30)(hl:cd l=34)(khmore:s.more=0)(hv:∀ v,l=[34,v]->s.wg.v<v):Cnt c { s with wg:=s.wg,tag:=upd s.tag 0 l }:=by
 obtain⟨h1,h2⟩:=h.mu.main (more:=s.more) (l:=l) h.next0 (by omega) (by omega)
 refine h.step h.next0 (.inl rfl) _ h1 (Nat.le_of_eq h2) (fun _=>rfl) (fun j hj hji h9 hS=>⟨hS,Nat.le_refl _⟩) (Wg.same30_34 h.wg h.next0 hc hl khmore) (Mu.says_main (by omega)) ⟨fun _ v=>⟨fun e=>by rw[e]at hl;simp[cd]at hl,fun e=>hv v e⟩,fun _ k n hk e=>by rw[e]at hl;simp[cd]at hl;omega,fun e=>absurd rfl e⟩ (fun e=>by omega) (fun e=>absurd rfl e) fun e=>absurd rfl e
theorem Cnt.m_same37_38 (h:Cnt c s)(hc:cd (s.tag 0)=37)(hl:cd l=38)  :Cnt c { s with wg:=s.wg,tag:=upd s.tag 0 l }:=by
 obtain⟨h1,h2⟩:=h.mu.main (more:=s.more) (l:=l) h.next0 (by omega) (by omega)
 refine h.step h.next0 (.inl rfl) _ h1 (Nat.le_of_eq h2) (fun _=>rfl) (fun j hj hji h9 hS=>⟨hS,Nat.le_refl _⟩) (Wg.same37_38 h.wg h.next0 hc hl) (Mu.says_main (by omega)) ⟨fun _ v=>⟨fun e=>by rw[e]at hl;simp[cd]at hl,fun e=>by rw[e]at hl;simp[cd]at hl⟩,fun _ k n hk e=>by rw[e]at hl;simp[cd]at hl;omega,fun e=>absurd rfl e⟩ (fun e=>by omega) (fun e=>absurd rfl e) fun e=>absurd rfl e
theorem Cnt.m_same38_39 (h:Cnt c s)(hc:cd (s.tag 0)=38)(hl:cd l=39)  :Cnt c { s with wg:=s.wg,tag:=upd s.tag 0 l }:=by
 obtain⟨h1,h2⟩:=h.mu.main (more:=s.more) (l:=l) h.next0 (by omega) (by omega)
 refine h.step h.next0 (.inl rfl) _ h1 (Nat.le_of_eq h2) (fun _=>rfl) (fun j hj hji h9 hS=>⟨hS,Nat.le_refl _⟩) (Wg.same38_39 h.wg h.next0 hc hl) (Mu.says_main (by omega)) ⟨fun _ v=>⟨fun e=>by rw[e]at hl;simp[cd]at hl,fun e=>by rw[e]at hl;simp[cd]at hl⟩,fun _ k n hk e=>by rw[e]at hl;simp[cd]at hl;omega,fun e=>absurd rfl e⟩ (fun e=>by omega) (fun e=>absurd rfl e) fun e=>absurd rfl e
end
end Go.LL
end
