import Derived.Test.YthmnpenamnoniaaGreatDoorP18
set_option linter.all false
section
namespace Go.LL
open Go.Conc
open Go.ConcN (sumTo upd sumTo_upd upd_ne upd_same)
def stv (L W S n:Nat):Nat:=L+2 * W+4 * S+8 * n
structure Bits (L W S n:Nat):Prop where
 L:L<=1
 W:W<=1
 S:S<=1
 n:n<=200000000
theorem Bits.eq {L W S n L' W' S' n':Nat}(h:Bits L W S n)(h':Bits L' W' S' n')(e:stv L W S n=stv L' W' S' n'):L=L'∧W=W'∧S=S'∧n=n':=by
 obtain⟨a1,a2,a3,_⟩:=h
 obtain⟨b1,b2,b3,_⟩:=h'
 unfold stv at e
 omega
section
variable  {p:Program}{c:Cx}{i:Nat}{H:Hp}{s:Ts}{f:FuncId}{wk nr:Bool}
theorem Ct_le {g:Nat->Nat}(hg:∀ n,g n<=1)(tag:Nat->List Nat)(k:Nat):Ct g tag k<=k:=by
 have:=Zhq (f:=fun i=>g (cd (tag i))) (b:=0) (n:=k) (Nat.zero_le _) (fun i _=>hg _) (fun i hi=>absurd hi (Nat.not_lt_zero _))
 simpa[Ct]using this
theorem Ziq (b:Bool):one b<=1:=by cases b<;>decide
theorem Cnt.ct_le (h:Cnt c s){g:Nat->Nat}(hg:∀ n,g n<=1)(h0:g 0=0)(h30:∀ n,30<=n->g n=0):Ct g s.tag s.next<=c.K:=by
 have:=Zhq (f:=fun i=>g (cd (s.tag i))) (b:=c.base) (n:=s.next) h.nb (fun i _=>hg _) (fun i hi=>by
  rcases Nat.eq_zero_or_pos i with e | e
  ·subst e;exact h30 _ h.wg.main
  ·simp only[h.olds i e hi];exact h0)
 have h3:=h.num
 have e:Ct g s.tag s.next=sumTo s.next (fun i=>g (cd (s.tag i))):=rfl
 omega
theorem Cnt.bits (ok:c.Ok)(h:Cnt c s):Bits s.mu.L s.mu.W s.mu.S s.mu.n:=by
 have h1:=h.ct_le (g:=cQ) (fun n=>Ziq _) rfl (fun n hn=>by simp[cQ,one];omega)
 have h2:=h.ct_le (g:=cA) (fun n=>Ziq _) rfl (fun n hn=>by simp[cA,one];omega)
 have h3:=h.num
 have h4:=ok.small
 obtain⟨f1,f2,f3,f4,f5,f6⟩:=h.mu
 refine⟨f2,f3,f4,?_⟩
 rcases Nat.eq_zero_or_pos s.mu.S with h0 | h0
 ·have:=f5 h0;omega
 ·have:=f6 (by omega);omega
theorem Zb1 (x:Mu):x.st=stv x.L x.W x.S x.n:=rfl
theorem cT_pos (h:Cnt c s)(hi:i<s.next)(hc:cd (s.tag i)=5∨cd (s.tag i)=6):s.mu.S=0∧s.mu.W=1:=by
 have:=Ct.le cT s.tag hi
 have e:cT (cd (s.tag i))=1:=by rcases hc with hc | hc<;>rw[hc]<;>rfl
 obtain⟨f1,f2,f3,f4,f5,f6⟩:=h.mu
 rcases Nat.eq_zero_or_pos s.mu.S with h0 | h0
 ·have:=f5 h0;omega
 ·have:=f6 (by omega);omega
theorem Zek (ok:c.Ok){ty:TypeId}(hty:Zb5 p ty=some none){x:Operand}{ρ:Operand->Value}{ty2:TypeId}(hx:ρ x=.pointer (some (mkA c.M))){M:Nat}(hg:H.gh=[3]∨H.gh=[3,M]∨∃ v,H.gh=[4,v,M]) :
  ShOp ((team p c).prgW i) (execOp ρ (bare (.load ty x) ty2)) wk true H (fun v H'=>∃ L W S n m,Bits L W S n∧v=.int .i32 (stv L W S n:Nat)∧H'=H.tagged [4,stv L W S n,m]∧(H.gh=[3,M]->m<M)∧((∃ v,H.gh=[4,v,M])->m<=M)):=by
 have hcd:cd H.gh=3∨cd H.gh=4:=by rcases hg with e | e | ⟨v,e⟩<;>rw[e]<;>simp[cd]
 refine Zfz ok hty hx (by omega) fun s h hi hb ht=>?_
 have hbits:=h.bits ok
 have key:∀ m,Mu.mu s.mu s.more (upd s.tag i [4,s.mu.st,m]) s.next=Mu.mu s.mu s.more s.tag s.next->m=Mu.mu s.mu s.more s.tag s.next->s.mu.Says (Mu.mu s.mu s.more (upd s.tag i [4,s.mu.st,m]) s.next) [4,s.mu.st,m]:=by
  intro m e hm
  rw[e]
  exact⟨Nat.le_of_eq hm.symm,fun _=>rfl⟩
 have hmu:∀ l:List Nat,cd l=4->Mu.mu s.mu s.more (upd s.tag i l) s.next=Mu.mu s.mu s.more s.tag s.next:=by
  intro l hl
  have e:=counts (tag:=s.tag) (l:=l) hi pot
  rw[ht,hl]at e
  have e2:pot (cd H.gh)=6:=by rcases hcd with e | e<;>rw[e]<;>rfl
  have e3:pot 4=6:=rfl
  unfold Mu.mu
  omega
 refine⟨[4,s.mu.st,Mu.mu s.mu s.more s.tag s.next],?_,by simp[cd],by simp[cd],by simp[cd],by rcases hcd with e | e<;>rw[e]<;>rfl,s.mu.L,s.mu.W,s.mu.S,s.mu.n,_,hbits,rfl,rfl,fun e=>?_,fun ⟨v,e⟩=>?_⟩
 ·rcases hcd with e | e
  ·exact(h.same3_4 hi hb (by rw[ht];exact e) rfl (key _ (hmu _ rfl) rfl)).1
  ·have h3:=(h.same4_3 (l:=[3]) hi hb (by rw[ht];exact e) rfl trivial).1
   have hmu3:Mu.mu s.mu s.more (upd s.tag i [3]) s.next=Mu.mu s.mu s.more s.tag s.next:=by
    have e0:=counts (tag:=s.tag) (l:=[3]) hi pot
    rw[ht,e]at e0
    have e3:pot 4=6:=rfl
    have e4:pot (cd [3])=6:=rfl
    unfold Mu.mu
    omega
   have h4:=(h3.same3_4 (i:=i) (l:=[4,s.mu.st,Mu.mu s.mu s.more s.tag s.next]) hi hb (by show cd (upd s.tag i [3] i)=3;rw[upd_same];rfl) rfl (by
    show s.mu.Says (Mu.mu s.mu s.more (upd (upd s.tag i [3]) i _) s.next) _
    rw[Zhn]
    exact key _ (hmu _ rfl) rfl)).1
   show Cnt c { s with tag:=_ }
   rw[<-Zhn s.tag i [3]]
   exact h4
 ·have:=h.says i hi
  rw[ht,e]at this
  exact this
 ·have:=h.says i hi
  rw[ht,e]at this
  exact this.1
theorem Zd9 {a b d e M:Nat}(h:a+d=b+e)(he:e<d)(hb:b<=M):a<M:=by omega
theorem Zhu {s:Ts}{i M:Nat}{k:Nat}(h:Cnt c s)(hi:i<s.next)(ht:s.tag i=[k,M])(hk:k=3∨k=5∨k=7∨k=8∨k=16):Mu.mu s.mu s.more s.tag s.next<M:=by
 have:=h.says i hi
 rw[ht]at this
 rcases hk with rfl | rfl | rfl | rfl | rfl<;>exact this
theorem ZfM {s:Ts}{i M v:Nat}{k:Nat}(h:Cnt c s)(hi:i<s.next)(ht:s.tag i=[k,v,M])(hk:k=4∨k=6∨k=15):Mu.mu s.mu s.more s.tag s.next<=M∧(Mu.mu s.mu s.more s.tag s.next=M->s.mu.st=v):=by
 have:=h.says i hi
 rw[ht]at this
 rcases hk with rfl | rfl | rfl
 ·exact this
 ·exact this
 ·exact⟨this.1,this.2.1⟩
theorem ZiY (ok:c.Ok)(hx:Ext p f (Extern.Atomic.casT (.int .i32)))(hg:H.gh=[2]) :
  ShOp ((team p c).prgW i) (callFunc f #[.pointer (some (mkA c.M)),.int .i32 (0:Nat),.int .i32 (1:Nat)]) wk nr H (fun v H'=>(v=.bool true∧H'=H.tagged [10])∨(v=.bool false∧H'=H.tagged [3])):=by
 refine ZdT ok hx (by rw[hg];simp[cd,df,one]) (fun s h hi hb ht he=>?_) (fun s h hi hb ht he=>?_)
 ·have:=h.bits ok
  rw[Zb1]at he
  unfold stv at he
  refine⟨_,[10],(h.fast (l:=[10]) hi hb (by rw[ht,hg];rfl) rfl (by rw[Zb1];unfold stv;omega) trivial).1,?_,rfl,by simp[cd],by simp[cd],by simp[cd],rfl,.inl ⟨rfl,rfl⟩⟩
  rw[Zb1]
  unfold stv
  simp only
  omega
 ·exact⟨[3],(h.same2_3 (l:=[3]) hi hb (by rw[ht,hg];rfl) rfl trivial).1,by simp[cd],by simp[cd],by simp[cd],rfl,.inr ⟨rfl,rfl⟩⟩
theorem miss4 {M v:Nat}(h:Cnt c s)(hi:i<s.next)(hb:c.base<=i)(ht:s.tag i=[4,v,M])(hne:s.mu.st≠v):Cnt c { s with tag:=upd s.tag i [3,M] }:=by
 have h1:=ZfM h hi ht (.inl rfl)
 have e:=counts (tag:=s.tag) (l:=[3,M]) hi pot
 rw[ht]at e
 have e3:pot (cd [4,v,M])=6:=rfl
 have e4:pot (cd [3,M])=6:=rfl
 have:Mu.mu s.mu s.more (upd s.tag i [3,M]) s.next=Mu.mu s.mu s.more s.tag s.next:=by unfold Mu.mu;omega
 refine(h.same4_3 hi hb (by rw[ht];rfl) rfl ?_).1
 show _<M
 rw[this]
 rcases Nat.lt_or_ge (Mu.mu s.mu s.more s.tag s.next) M with h2 | h2
 ·exact h2
 ·exact absurd (h1.2 (by omega)) hne
theorem miss6 {M v:Nat}(h:Cnt c s)(hi:i<s.next)(hb:c.base<=i)(ht:s.tag i=[6,v,M])(hne:s.mu.st≠v):Cnt c { s with tag:=upd s.tag i [5,M] }:=by
 have h1:=ZfM h hi ht (.inr (.inl rfl))
 have e:=counts (tag:=s.tag) (l:=[5,M]) hi pot
 rw[ht]at e
 have e3:pot (cd [6,v,M])=5:=rfl
 have e4:pot (cd [5,M])=5:=rfl
 have:Mu.mu s.mu s.more (upd s.tag i [5,M]) s.next=Mu.mu s.mu s.more s.tag s.next:=by unfold Mu.mu;omega
 refine(h.same6_5 hi hb (by rw[ht];rfl) rfl ?_).1
 show _<M
 rw[this]
 rcases Nat.lt_or_ge (Mu.mu s.mu s.more s.tag s.next) M with h2 | h2
 ·exact h2
 ·exact absurd (h1.2 (by omega)) hne
theorem ZiW (ok:c.Ok)(hx:Ext p f (Extern.Atomic.casT (.int .i32))){L n M:Nat}(hB:Bits L 0 0 n)(hg:H.gh=[4,stv L 0 0 n,M]) :
  ShOp ((team p c).prgW i) (callFunc f #[.pointer (some (mkA c.M)),.int .i32 (stv L 0 0 n:Nat),.int .i32 (stv L 1 0 n:Nat)]) wk nr H (fun v H'=>(v=.bool true∧H'=H.tagged [5,M])∨(v=.bool false∧H'=H.tagged [3,M])):=by
 refine ZdT ok hx (by rw[hg];simp[cd,df,one]) (fun s h hi hb ht he=>?_) (fun s h hi hb ht he=>?_)
 ·obtain⟨b1,b2,b3,b4⟩:=(h.bits ok).eq hB he
  have h1:=(ZfM h hi (ht.trans hg) (.inl rfl)).1
  obtain⟨m1,m2⟩:=Mu.spin (more:=s.more) (l:=[5,M]) h.mu hi (by rw[ht,hg];rfl) rfl b2 b3
  refine⟨_,[5,M],(h.spin (l:=[5,M]) hi hb (by rw[ht,hg];rfl) rfl b2 b3 ?_).1,?_,rfl,by simp[cd],by simp[cd],by simp[cd],rfl,.inl ⟨rfl,rfl⟩⟩
  ·show _<M
   exact Zd9 m2 (by decide) h1
  ·rw[Zb1];unfold stv;simp only;omega
 ·exact⟨[3,M],miss4 h hi hb (ht.trans hg) he,by simp[cd],by simp[cd],by simp[cd],rfl,.inr ⟨rfl,rfl⟩⟩
theorem Zh3 (ok:c.Ok)(hx:Ext p f (Extern.Atomic.casT (.int .i32))){W n M:Nat}(hB:Bits 0 W 0 n)(hg:H.gh=[4,stv 0 W 0 n,M]) :
  ShOp ((team p c).prgW i) (callFunc f #[.pointer (some (mkA c.M)),.int .i32 (stv 0 W 0 n:Nat),.int .i32 (stv 1 W 0 n:Nat)]) wk nr H (fun v H'=>(v=.bool true∧H'=H.tagged [10])∨(v=.bool false∧H'=H.tagged [3,M])):=by
 refine ZdT ok hx (by rw[hg];simp[cd,df,one]) (fun s h hi hb ht he=>?_) (fun s h hi hb ht he=>?_)
 ·obtain⟨b1,b2,b3,b4⟩:=(h.bits ok).eq hB he
  refine⟨_,[10],(h.take4 (l:=[10]) hi hb (by rw[ht,hg];rfl) rfl b1 b3 trivial).1,?_,rfl,by simp[cd],by simp[cd],by simp[cd],rfl,.inl ⟨rfl,rfl⟩⟩
  rw[Zb1];unfold stv;simp only;omega
 ·exact⟨[3,M],miss4 h hi hb (ht.trans hg) he,by simp[cd],by simp[cd],by simp[cd],rfl,.inr ⟨rfl,rfl⟩⟩
theorem ZdL (ok:c.Ok)(hx:Ext p f (Extern.Atomic.casT (.int .i32))){L W S n M:Nat}(hB:Bits L W S n)(hLS:L=1∨S=1)(hg:H.gh=[4,stv L W S n,M]) :
  ShOp ((team p c).prgW i) (callFunc f #[.pointer (some (mkA c.M)),.int .i32 (stv L W S n:Nat),.int .i32 (stv L W S (n+1):Nat)]) wk nr H (fun v H'=>(v=.bool true∧H'=H.tagged [7,M])∨(v=.bool false∧H'=H.tagged [3,M])):=by
 refine ZdT ok hx (by rw[hg];simp[cd,df,one]) (fun s h hi hb ht he=>?_) (fun s h hi hb ht he=>?_)
 ·obtain⟨b1,b2,b3,b4⟩:=(h.bits ok).eq hB he
  have h1:=(ZfM h hi (ht.trans hg) (.inl rfl)).1
  have hk:s.mu.L=1∨s.mu.S=1:=by omega
  obtain⟨m1,m2⟩:=Mu.queue4 (more:=s.more) (l:=[7,M]) h.mu hi (by rw[ht,hg];rfl) rfl hk
  refine⟨_,[7,M],(h.queue4 (l:=[7,M]) hi hb (by rw[ht,hg];rfl) rfl hk ?_).1,?_,rfl,by simp[cd],by simp[cd],by simp[cd],rfl,.inl ⟨rfl,rfl⟩⟩
  ·show _<M
   exact Zd9 m2 (by decide) h1
  ·rw[Zb1];unfold stv;simp only;omega
 ·exact⟨[3,M],miss4 h hi hb (ht.trans hg) he,by simp[cd],by simp[cd],by simp[cd],rfl,.inr ⟨rfl,rfl⟩⟩
theorem Zem (ok:c.Ok)(hx:Ext p f (Extern.Atomic.casT (.int .i32))){n M:Nat}(hB:Bits 0 1 0 n)(hg:H.gh=[6,stv 0 1 0 n,M]) :
  ShOp ((team p c).prgW i) (callFunc f #[.pointer (some (mkA c.M)),.int .i32 (stv 0 1 0 n:Nat),.int .i32 (stv 1 0 0 n:Nat)]) wk nr H (fun v H'=>(v=.bool true∧H'=H.tagged [10])∨(v=.bool false∧H'=H.tagged [5,M])):=by
 refine ZdT ok hx (by rw[hg];simp[cd,df,one]) (fun s h hi hb ht he=>?_) (fun s h hi hb ht he=>?_)
 ·obtain⟨b1,b2,b3,b4⟩:=(h.bits ok).eq hB he
  refine⟨_,[10],(h.take6 (l:=[10]) hi hb (by rw[ht,hg];rfl) rfl b1 b3 trivial).1,?_,rfl,by simp[cd],by simp[cd],by simp[cd],rfl,.inl ⟨rfl,rfl⟩⟩
  rw[Zb1];unfold stv;simp only;omega
 ·exact⟨[5,M],miss6 h hi hb (ht.trans hg) he,by simp[cd],by simp[cd],by simp[cd],rfl,.inr ⟨rfl,rfl⟩⟩
theorem ZdK (ok:c.Ok)(hx:Ext p f (Extern.Atomic.casT (.int .i32))){n M:Nat}(sv:Bool)(hB:Bits 1 1 0 n)(hg:H.gh=[6,stv 1 1 0 n,M]) :
  ShOp ((team p c).prgW i) (callFunc f #[.pointer (some (mkA c.M)),.int .i32 (stv 1 1 0 n:Nat),.int .i32 (stv 1 0 (if sv then 1 else 0) (n+1):Nat)]) wk nr H (fun v H'=>(v=.bool true∧H'=H.tagged [7,M])∨(v=.bool false∧H'=H.tagged [5,M])):=by
 refine ZdT ok hx (by rw[hg];simp[cd,df,one]) (fun s h hi hb ht he=>?_) (fun s h hi hb ht he=>?_)
 ·obtain⟨b1,b2,b3,b4⟩:=(h.bits ok).eq hB he
  have h1:=(ZfM h hi (ht.trans hg) (.inr (.inl rfl))).1
  cases sv with
  | false=>
   obtain⟨m1,m2⟩:=Mu.queue6 (more:=s.more) (l:=[7,M]) h.mu hi (by rw[ht,hg];rfl) rfl b1
   refine⟨_,[7,M],(h.queue6 (l:=[7,M]) hi hb (by rw[ht,hg];rfl) rfl b1 ?_).1,?_,rfl,by simp[cd],by simp[cd],by simp[cd],rfl,.inl ⟨rfl,rfl⟩⟩
   ·show _<M
    exact Zd9 m2 (by decide) h1
   ·rw[Zb1];unfold stv;simp;omega
  | true=>
   obtain⟨m1,m2⟩:=Mu.queue6s (more:=s.more) (l:=[7,M]) h.mu hi (by rw[ht,hg];rfl) rfl b1
   refine⟨_,[7,M],(h.queue6s (l:=[7,M]) hi hb (by rw[ht,hg];rfl) rfl b1 ?_).1,?_,rfl,by simp[cd],by simp[cd],by simp[cd],rfl,.inl ⟨rfl,rfl⟩⟩
   ·show _<M
    exact Zd9 m2 (by decide) h1
   ·rw[Zb1];unfold stv;simp;omega
 ·exact⟨[5,M],miss6 h hi hb (ht.trans hg) he,by simp[cd],by simp[cd],by simp[cd],rfl,.inr ⟨rfl,rfl⟩⟩
theorem Zej (ok:c.Ok){ty:TypeId}(hty:Zb5 p ty=some none){x:Operand}{ρ:Operand->Value}{ty2:TypeId}(hx:ρ x=.pointer (some (mkA c.M))){M:Nat}(hg:H.gh=[5,M]∨∃ v,H.gh=[6,v,M]) :
  ShOp ((team p c).prgW i) (execOp ρ (bare (.load ty x) ty2)) wk true H (fun v H'=>∃ L n m,Bits L 1 0 n∧v=.int .i32 (stv L 1 0 n:Nat)∧H'=H.tagged [6,stv L 1 0 n,m]∧(H.gh=[5,M]->m<M)∧((∃ v,H.gh=[6,v,M])->m<=M)):=by
 have hcd:cd H.gh=5∨cd H.gh=6:=by rcases hg with e | ⟨v,e⟩<;>rw[e]<;>simp[cd]
 refine Zfz ok hty hx (by omega) fun s h hi hb ht=>?_
 have hbits:=h.bits ok
 obtain⟨hS,hW⟩:=cT_pos h hi (by rw[ht];exact hcd)
 rw[hS,hW]at hbits
 have hst:s.mu.st=stv s.mu.L 1 0 s.mu.n:=by rw[Zb1,hS,hW]
 have hmu:∀ l:List Nat,cd l=5∨cd l=6->Mu.mu s.mu s.more (upd s.tag i l) s.next=Mu.mu s.mu s.more s.tag s.next:=by
  intro l hl
  have e:=counts (tag:=s.tag) (l:=l) hi pot
  rw[ht]at e
  have e2:pot (cd H.gh)=5:=by rcases hcd with e | e<;>rw[e]<;>rfl
  have e3:pot (cd l)=5:=by rcases hl with e | e<;>rw[e]<;>rfl
  unfold Mu.mu
  omega
 have key:s.mu.Says (Mu.mu s.mu s.more (upd s.tag i [6,s.mu.st,Mu.mu s.mu s.more s.tag s.next]) s.next) [6,s.mu.st,Mu.mu s.mu s.more s.tag s.next]:=by
  rw[hmu _ (.inr rfl)]
  exact⟨Nat.le_refl _,fun _=>rfl⟩
 refine⟨[6,s.mu.st,Mu.mu s.mu s.more s.tag s.next],?_,by simp[cd],by simp[cd],by simp[cd],by rcases hcd with e | e<;>rw[e]<;>rfl,s.mu.L,s.mu.n,_,hbits,by rw[hst],by rw[hst],fun e=>?_,fun ⟨v,e⟩=>?_⟩
 ·rcases hcd with e | e
  ·exact(h.same5_6 hi hb (by rw[ht];exact e) rfl key).1
  ·have h3:=(h.same6_5 (l:=[5]) hi hb (by rw[ht];exact e) rfl trivial).1
   have h4:=(h3.same5_6 (i:=i) (l:=[6,s.mu.st,Mu.mu s.mu s.more s.tag s.next]) hi hb (by show cd (upd s.tag i [5] i)=5;rw[upd_same];rfl) rfl (by
    show s.mu.Says (Mu.mu s.mu s.more (upd (upd s.tag i [5]) i _) s.next) _
    rw[Zhn]
    exact key)).1
   show Cnt c { s with tag:=_ }
   rw[<-Zhn s.tag i [5]]
   exact h4
 ·exact Zhu h hi (ht.trans e) (by omega)
 ·exact(ZfM h hi (ht.trans e) (by omega)).1
theorem Zh2 (ok:c.Ok)(hx:Ext p f Extern.Sync.semacquire){vs:Array Value}(hvs:vs[0]? = some (.pointer (some ⟨c.M,1,none⟩))){M:Nat}(hg:H.gh=[7,M]) :
  ShOp ((team p c).prgW i) (callFunc f vs) wk nr H (fun v H'=>v=ZaC∧H'=H.tagged [8,M]):=by
 refine ZcP ok (.inl (by rw[hg];simp[cd,df,one])) fun s Hs t w hA=>?_
 have htag:s.tag i=[7,M]:=(show s.tag i=H.gh from hA.tag).trans hg
 have hI:CInv c s Hs t:=hA.inv
 have hwk:=Zgr hA (by rw[htag];simp[cd,df,one]) (by rw[htag];simp[cd,df,one])
 have hD:Deaf t i=1:=by rw[Zfc hA (by rw[htag];simp[cd,df,one]),htag];rfl
 obtain⟨_,_,hc,hz⟩:=ZjB ok hA
 by_cases h0:s.mu.sm=0
 ·rw[h0]at hc
  exact .inl ⟨ZgJ hx hvs hc,.inl ⟨by rw[htag];rfl,h0⟩⟩
 ·refine .inr ⟨ZaC,[8,M],?_,.inl (by simp[cd]),rfl,rfl⟩
  obtain⟨n1,n2,n3⟩:=Zfu (C:=c.toTC) (i:=i) (d:=Deaf t i) (b:=c.M) (off:=1) (.inl rfl)
  have hr:=ZgK (rest:=#[]) hx hvs hc hz (by exact_mod_cast h0)
  have hk:((s.mu.sm:Nat):Int)-1=((s.mu.sm-1:Nat):Int):=by omega
  rw[hk]at hr
  have h1:=Zhu hI.cnt hA.lt htag (by omega)
  obtain⟨m1,m2⟩:=Mu.semacq (more:=s.more) (l:=[8,M]) hI.cnt.mu hA.lt (by rw[htag];rfl) rfl (by omega)
  refine Step1.ofM (x':={ s.mu with sm:=s.mu.sm-1 }) ok hA hr (fun fn _=>Zd0) (.inr ⟨1,_,rfl,rfl⟩) (hI.cnt.semacq (l:=[8,M]) hA.lt hwk (by rw[htag];rfl) rfl (by omega) ?_).1 ⟨n1,n2,?_⟩ (.inr fun e=>absurd e h0) ?_ (by rw[htag];simp[cd,df,one]) (by simp[cd]) (fun e=>by simp[cd]at e)
  ·show _<M
   exact Nat.lt_of_le_of_lt (Zal m2 (by decide)) h1
  ·rw[n3,hD];rfl
  ·left
   rintro(⟨_,e⟩ | ⟨e,_⟩)
   ·exact h0 e
   ·rw[htag]at e;simp[cd]at e
theorem ZcL (ok:c.Ok){ty:TypeId}(hty:Zb5 p ty=some none){x:Operand}{ρ:Operand->Value}{ty2:TypeId}(hx:ρ x=.pointer (some (mkA c.M))){M:Nat}(hg:H.gh=[8,M]) :
  ShOp ((team p c).prgW i) (execOp ρ (bare (.load ty x) ty2)) wk true H (fun v H'=>(∃ L n m,Bits L 1 0 n∧v=.int .i32 (stv L 1 0 n:Nat)∧H'=H.tagged [6,stv L 1 0 n,m]∧m<M) ∨
   (∃ n,Bits 0 0 1 n∧1<=n∧v=.int .i32 (stv 0 0 1 n:Nat)∧H'=H.tagged [9,stv 0 0 1 n])):=by
 refine Zfz ok hty hx (by rw[hg];simp[cd,df,one]) fun s h hi hb ht=>?_
 have hbits:=h.bits ok
 have hA:=Ct.le cA s.tag hi
 have e:cA (cd (s.tag i))=1:=by rw[ht,hg];rfl
 rcases Nat.eq_zero_or_pos s.mu.S with h0 | h0
 ·have hW:s.mu.W=1:=by have:=h.mu.norm h0;have:=h.mu.W1;omega
  have hst:s.mu.st=stv s.mu.L 1 0 s.mu.n:=by rw[Zb1,h0,hW]
  rw[h0,hW]at hbits
  obtain⟨m1,m2⟩:=Mu.wake0 (more:=s.more) (l:=[6,s.mu.st,Mu.mu s.mu s.more s.tag s.next]) h.mu hi (by rw[ht,hg];rfl) rfl h0
  refine⟨[6,s.mu.st,Mu.mu s.mu s.more s.tag s.next],(h.wake0 (l:=[6,s.mu.st,Mu.mu s.mu s.more s.tag s.next]) hi hb (by rw[ht,hg];rfl) rfl h0 ⟨by omega,fun _=>rfl⟩).1,by simp[cd],by simp[cd],by simp[cd],by rw[hg];rfl,.inl ⟨s.mu.L,s.mu.n,_,hbits,by rw[hst],by rw[hst],Zhu h hi (ht.trans hg) (by omega)⟩⟩
 ·have h1:s.mu.S=1:=by have:=h.mu.S1;omega
  have h2:=h.mu.starv h1
  have hst:s.mu.st=stv 0 0 1 s.mu.n:=by rw[Zb1,h1];unfold stv;omega
  refine⟨[9,s.mu.st],(h.wake1 (l:=[9,s.mu.st]) hi hb (by rw[ht,hg];rfl) rfl h1 ⟨h1,?_,?_⟩).1,by simp[cd],by simp[cd],by simp[cd],by rw[hg];rfl,.inr ⟨s.mu.n,⟨by omega,by omega,by omega,hbits.n⟩,h2.2.1,by rw[hst],by rw[hst]⟩⟩
  ·rw[hst];unfold stv;omega
  ·rw[hst];unfold stv;omega
theorem Zly {z:Int}(h1:0<=z)(h2:z<=2147483647):IntKind.i32.wrap z=z:=by
 simp only[IntKind.wrap,IntKind.bits,IntKind.signed]
 simp
 omega
theorem Zcn (ok:c.Ok)(hx:Ext p f (Extern.Atomic.update (Op.intArith .add) .i32 true)){n:Nat}(hn:Bits 0 0 1 n)(h1:1<=n)(fin:Bool)(hfin:fin=false->n≠1)(hg:H.gh=[9,stv 0 0 1 n]) :
  ShOp ((team p c).prgW i) (callFunc f #[.pointer (some (mkA c.M)),.int .i32 (if fin then -11 else -7)]) wk nr H (fun v H'=>(∃ z,v=.int .i32 z)∧H'=H.tagged [10]):=by
 refine ZmW ok hx (by rw[hg];simp[cd,df,one]) fun s h hi hb ht=>?_
 have hbits:=h.bits ok
 have hsay:=h.says i hi
 rw[ht,hg]at hsay
 obtain⟨hS,hv1,hv2⟩:=hsay
 have hv:stv 0 0 1 n / 8=n:=by unfold stv;omega
 rw[hv]at hv1 hv2
 have h2:=h.mu.starv hS
 have hA:=Ct.le cA s.tag hi
 have e:cA (cd (s.tag i))=1:=by rw[ht,hg];rfl
 have hL:s.mu.L=0:=by omega
 have hW:s.mu.W=0:=h2.2.2.1
 have hb4:=hbits.n
 cases fin with
 | true=>
  refine⟨_,[10],(h.hand0 (l:=[10]) hi hb (by rw[ht,hg];rfl) rfl hS trivial).1,?_,rfl,by simp[cd],by simp[cd],by simp[cd],rfl,⟨_,rfl⟩,rfl⟩
  rw[Zb1,Zb1]
  unfold stv
  simp only[if_true]
  rw[Zly]<;>omega
 | false=>
  have:=hfin rfl
  refine⟨_,[10],(h.hand (l:=[10]) hi hb (by rw[ht,hg];rfl) rfl hS (by omega) trivial).1,?_,rfl,by simp[cd],by simp[cd],by simp[cd],rfl,⟨_,rfl⟩,rfl⟩
  rw[Zb1,Zb1]
  unfold stv
  simp only[Bool.false_eq_true,if_false]
  rw[Zly]<;>omega
theorem Zlo (ok:c.Ok)(hx:Ext p f (Extern.Atomic.update (Op.intArith .add) .i32 true))(hg:H.gh=[14]) :
  ShOp ((team p c).prgW i) (callFunc f #[.pointer (some (mkA c.M)),.int .i32 (-1)]) wk nr H (fun v H'=>
   (∃ W n,Bits 0 W 0 n∧(n=0∨W=1)∧v=.int .i32 (stv 0 W 0 n:Nat)∧H'=H.tagged [18])∨(∃ n m,Bits 0 0 0 n∧1<=n∧v=.int .i32 (stv 0 0 0 n:Nat)∧H'=H.tagged [15,stv 0 0 0 n,m]) ∨
   (∃ n,Bits 0 0 1 n∧v=.int .i32 (stv 0 0 1 n:Nat)∧H'=H.tagged [17])):=by
 refine ZmW ok hx (by rw[hg];simp[cd,df,one]) fun s h hi hb ht=>?_
 have hbits:=h.bits ok
 have hH:=Ct.le Zaq s.tag hi
 have e:Zaq (cd (s.tag i))=1:=by rw[ht,hg];rfl
 have hL:s.mu.L=1:=by have:=h.mu.L1;have:=h.mu.L2;omega
 have hb4:=hbits.n
 have hw:∀ x':Mu,x'={ s.mu with L:=0 }->IntKind.i32.wrap ((s.mu.st:Nat)+(-1))=(x'.st:Nat):=by
  rintro x' rfl
  rw[Zb1,Zb1]
  unfold stv
  simp only
  have:=hbits.W;have:=hbits.S
  rw[Zly]<;>omega
 rcases Nat.eq_zero_or_pos s.mu.S with h0 | h0
 ·by_cases hk:s.mu.n=0∨s.mu.W=1
  ·refine⟨_,[18],(h.unlock0 (l:=[18]) hi hb (by rw[ht,hg];rfl) rfl h0 hk trivial).1,hw _ rfl,rfl,by simp[cd],by simp[cd],by simp[cd],rfl,.inl ⟨s.mu.W,s.mu.n,⟨by omega,hbits.W,by omega,hb4⟩,hk,?_,rfl⟩⟩
   rw[Zb1];simp only[h0]
  ·have hW:s.mu.W=0:=by have:=hbits.W;omega
   have hst:({ s.mu with L:=0 }:Mu).st=stv 0 0 0 s.mu.n:=by rw[Zb1];simp only[h0,hW]
   obtain⟨m1,m2⟩:=Mu.unlockU (more:=s.more) (l:=[15,stv 0 0 0 s.mu.n,Mu.mu { s.mu with L:=0 } s.more (upd s.tag i [15]) s.next]) h.mu hi (by rw[ht,hg];rfl) rfl h0
   have hsame:Mu.mu { s.mu with L:=0 } s.more (upd s.tag i [15,stv 0 0 0 s.mu.n,Mu.mu { s.mu with L:=0 } s.more (upd s.tag i [15]) s.next]) s.next=Mu.mu { s.mu with L:=0 } s.more (upd s.tag i [15]) s.next:=by
    have e1:=counts (tag:=s.tag) (l:=[15]) hi pot
    have e2:=counts (tag:=s.tag) (l:=[15,stv 0 0 0 s.mu.n,Mu.mu { s.mu with L:=0 } s.more (upd s.tag i [15]) s.next]) hi pot
    have e3:cd [15]=cd [15,stv 0 0 0 s.mu.n,Mu.mu { s.mu with L:=0 } s.more (upd s.tag i [15]) s.next]:=rfl
    rw[<-e3]at e2
    simp only[Mu.mu]at e1 e2 ⊢
    omega
   refine⟨_,[15,stv 0 0 0 s.mu.n,Mu.mu { s.mu with L:=0 } s.more (upd s.tag i [15]) s.next],(h.unlockU hi hb (by rw[ht,hg];rfl) rfl h0 ?_).1,hw _ rfl,rfl,by simp[cd],by simp[cd],by simp[cd],rfl,.inr (.inl ⟨s.mu.n,_,⟨by omega,by omega,by omega,hb4⟩,by omega,by rw[hst],rfl⟩)⟩
   refine⟨Nat.le_of_eq hsame,fun _=>hst,?_,?_⟩<;>unfold stv<;>omega
 ·have h1:s.mu.S=1:=by have:=h.mu.S1;omega
  have h2:=h.mu.starv h1
  refine⟨_,[17],(h.unlockS (l:=[17]) hi hb (by rw[ht,hg];rfl) rfl h1 trivial).1,hw _ rfl,rfl,by simp[cd],by simp[cd],by simp[cd],rfl,.inr (.inr ⟨s.mu.n,⟨by omega,by omega,by omega,hb4⟩,?_,rfl⟩)⟩
  rw[Zb1];simp only[h1,h2.2.2.1]
theorem ZiX (ok:c.Ok)(hx:Ext p f (Extern.Atomic.casT (.int .i32))){n M:Nat}(hB:Bits 0 0 0 (n+1))(hg:H.gh=[15,stv 0 0 0 (n+1),M]) :
  ShOp ((team p c).prgW i) (callFunc f #[.pointer (some (mkA c.M)),.int .i32 (stv 0 0 0 (n+1):Nat),.int .i32 (stv 0 1 0 n:Nat)]) wk nr H (fun v H'=>(v=.bool true∧H'=H.tagged [17])∨(v=.bool false∧H'=H.tagged [16,M])):=by
 refine ZdT ok hx (by rw[hg];simp[cd,df,one]) (fun s h hi hb ht he=>?_) (fun s h hi hb ht he=>?_)
 ·obtain⟨b1,b2,b3,b4⟩:=(h.bits ok).eq hB he
  refine⟨_,[17],(h.giveU (l:=[17]) hi hb (by rw[ht,hg];rfl) rfl b1 b2 b3 (by omega) trivial).1,?_,rfl,by simp[cd],by simp[cd],by simp[cd],rfl,.inl ⟨rfl,rfl⟩⟩
  rw[Zb1];unfold stv;simp only;omega
 ·refine⟨[16,M],(h.same15_16 (l:=[16,M]) hi hb (by rw[ht,hg];rfl) rfl ?_).1,by simp[cd],by simp[cd],by simp[cd],rfl,.inr ⟨rfl,rfl⟩⟩
  have h1:=ZfM h hi (ht.trans hg) (.inr (.inr rfl))
  have e:=counts (tag:=s.tag) (l:=[16,M]) hi pot
  rw[ht,hg]at e
  have e3:pot (cd [15,stv 0 0 0 (n+1),M])=2:=rfl
  have e4:pot (cd [16,M])=2:=rfl
  have:Mu.mu s.mu s.more (upd s.tag i [16,M]) s.next=Mu.mu s.mu s.more s.tag s.next:=by unfold Mu.mu;omega
  show _<M
  rw[this]
  rcases Nat.lt_or_ge (Mu.mu s.mu s.more s.tag s.next) M with h2 | h2
  ·exact h2
  ·exact absurd (h1.2 (by omega)) he
theorem Zlp (ok:c.Ok){ty:TypeId}(hty:Zb5 p ty=some none){x:Operand}{ρ:Operand->Value}{ty2:TypeId}(hx:ρ x=.pointer (some (mkA c.M))){M:Nat}(hg:H.gh=[16,M]) :
  ShOp ((team p c).prgW i) (execOp ρ (bare (.load ty x) ty2)) wk true H (fun v H'=>(∃ L W S n,Bits L W S n∧(L=1∨W=1∨S=1∨n=0)∧v=.int .i32 (stv L W S n:Nat)∧H'=H.tagged [18]) ∨
   (∃ n m,Bits 0 0 0 n∧1<=n∧v=.int .i32 (stv 0 0 0 n:Nat)∧H'=H.tagged [15,stv 0 0 0 n,m]∧m<M)):=by
 refine Zfz ok hty hx (by rw[hg];simp[cd,df,one]) fun s h hi hb ht=>?_
 have hbits:=h.bits ok
 by_cases hk:s.mu.L=1∨s.mu.W=1∨s.mu.S=1∨s.mu.n=0
 ·exact⟨[18],(h.leaveU (l:=[18]) hi hb (by rw[ht,hg];rfl) rfl hk trivial).1,by simp[cd],by simp[cd],by simp[cd],by rw[hg];rfl,.inl ⟨_,_,_,_,hbits,hk,by rw[Zb1],rfl⟩⟩
 ·have b1:=hbits.L;have b2:=hbits.W;have b3:=hbits.S
  have e1:s.mu.L=0:=by omega
  have e2:s.mu.W=0:=by omega
  have e3:s.mu.S=0:=by omega
  have hst:s.mu.st=stv 0 0 0 s.mu.n:=by rw[Zb1,e1,e2,e3]
  have hmu:Mu.mu s.mu s.more (upd s.tag i [15,stv 0 0 0 s.mu.n,Mu.mu s.mu s.more s.tag s.next]) s.next=Mu.mu s.mu s.more s.tag s.next:=by
   have e:=counts (tag:=s.tag) (l:=[15,stv 0 0 0 s.mu.n,Mu.mu s.mu s.more s.tag s.next]) hi pot
   rw[ht,hg]at e
   have e5:pot (cd [16,M])=2:=rfl
   have e6:pot (cd [15,stv 0 0 0 s.mu.n,Mu.mu s.mu s.more s.tag s.next])=2:=rfl
   simp only[Mu.mu]at e e6 ⊢
   omega
  refine⟨[15,stv 0 0 0 s.mu.n,Mu.mu s.mu s.more s.tag s.next],(h.same16_15 (l:=[15,stv 0 0 0 s.mu.n,Mu.mu s.mu s.more s.tag s.next]) hi hb (by rw[ht,hg];rfl) rfl ?_).1,by simp[cd],by simp[cd],by simp[cd],by rw[hg];rfl,.inr ⟨s.mu.n,_,⟨by omega,by omega,by omega,hbits.n⟩,by omega,by rw[hst],rfl,Zhu h hi (ht.trans hg) (by omega)⟩⟩
  refine⟨Nat.le_of_eq hmu,fun _=>hst,?_,?_⟩<;>unfold stv<;>omega
theorem Zhc (ok:c.Ok)(hx:Ext p f Extern.Sync.semrelease){vs:Array Value}(hvs:vs[0]? = some (.pointer (some ⟨c.M,1,none⟩)))(hg:H.gh=[17]) :
  ShOp ((team p c).prgW i) (callFunc f vs) true nr H (fun v H'=>v=ZaC∧H'=H.tagged [18]):=by
 refine ZcP ok (.inl (by rw[hg];simp[cd,df,one])) fun s Hs t w hA=>.inr ?_
 have htag:s.tag i=[17]:=(show s.tag i=H.gh from hA.tag).trans hg
 have hI:CInv c s Hs t:=hA.inv
 have hwk:=Zgr hA (by rw[htag];simp[cd,df,one]) (by rw[htag];simp[cd,df,one])
 have hD:Deaf t i=1:=by rw[Zfc hA (by rw[htag];simp[cd,df,one]),htag];rfl
 obtain⟨_,_,hc,hz⟩:=ZjB ok hA
 have hsm:s.mu.sm<=1:=by
  have:=Ct_le (g:=cQ) (fun n=>Ziq _) s.tag s.next
  obtain⟨f1,f2,f3,f4,f5,f6⟩:=hI.cnt.mu
  rcases Nat.eq_zero_or_pos s.mu.S with h0 | h0
  ·have:=f5 h0;omega
  ·have:=f6 (by omega);omega
 obtain⟨n1,n2,n3⟩:=Zfu (C:=c.toTC) (i:=i) (d:=Deaf t i) (b:=c.M) (off:=1) (.inl rfl)
 have hr:=ZgI hx hvs hc hz
 have hk:IntKind.u32.wrap (((s.mu.sm:Nat):Int)+1)=((s.mu.sm+1:Nat):Int):=by
  simp only[IntKind.wrap,IntKind.bits,IntKind.signed]
  simp
  omega
 rw[hk]at hr
 refine⟨ZaC,[18],?_,.inl (by simp[cd]),rfl,rfl⟩
 refine Step1.ofM (x':={ s.mu with sm:=s.mu.sm+1 }) ok hA hr (fun fn _=>Zd0) (.inr ⟨1,_,rfl,rfl⟩) (hI.cnt.semrel (l:=[18]) hA.lt hwk (by rw[htag];rfl) rfl trivial).1 ⟨n1,n2,?_⟩ (.inl rfl) (ZbD (by rw[htag];simp[cd,df,one]) (by rw[htag];simp[cd,df,one])) (by rw[htag];simp[cd,df,one]) (by simp[cd]) (fun e=>by simp[cd]at e)
 rw[n3,hD];rfl
end
end Go.LL
end
