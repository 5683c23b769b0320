import Derived.Test.YthmnpenamnoniaaGreatDoorP11
set_option linter.all false
namespace Go.LL
section
variable{L W S n M k v:Nat}{g:Nat->Nat}{ty lL:TypeId}{x:Operand}{ρ:Operand->Value}{vs:Array Value}
open Go.Conc
open Go.ConcN (sumTo upd sumTo_upd upd_ne upd_same)
def bF(L W S n:Nat):Nat:=L+2 * W+4 * S+8 * n
structure bU(L W S n:Nat):Prop where
 L:L<=1
 W:W<=1
 S:S<=1
 n:n<=200000000
def bU.eq{a d b j:Nat}(h:bU L W S n)(l:bU a d b j)(e:bF L W S n=bF a d b j):L=a/\W=d/\S=b/\n=j:=by obtain⟨m,o,a3,_⟩:=h;obtain⟨q,r,t,_⟩:=l;unfold bF at e;omega
section
variable{p:Program}{c:Cx}{i:Nat}{H:Hp}{s:Ts}{f:FuncId}{wk nr:Bool}
def ZAs(a:∀n,g n<=1)(tag:Nat->List Nat)(k:Nat):Ct g tag k<=k:=by have:=NE (f:=λi=>g (cd (tag i))) (b:=0) (n:=k) (qBg _) (λi _=>a _) (λi d=>absurd d (Nat.not_lt_zero _));simpa[Ct]using this
def AS(b:Bool):dS b<=1:=by cases b<;>decide
def aW.pE(h:aW c s)(j:∀n,g n<=1)(d:g 0=0)(a:∀n,30<=n->g n=0):Ct g s.tag s.next<=c.K:=by
 have:=NE (f:=λi=>g (cd (s.tag i))) (b:=c.base) (n:=s.next) h.nb (λi _=>j _) (λi hi=>by
  rcases qAN i with e | e
  ·subst e;exact a _ h.wg.main
  simp only[h.olds i e hi];exact d)
 have l:=h.num;have e:Ct g s.tag s.next=sumTo s.next (λi=>g (cd (s.tag i))):=rfl;omega
def aW.bits(ok:c.Ok)(h:aW c s):bU s.mu.L s.mu.W s.mu.S s.mu.n:=by
 have j:=h.pE (g:=cQ) (λn=>AS _) rfl (λn d=>by simp[cQ,dS];omega);have l:=h.pE (g:=cA) (λn=>AS _) rfl (λn d=>by simp[cA,dS];omega);have m:=h.num;have o:=ok.rL;obtain⟨e,b,f3,f4,f5,f6⟩:=h.mu;refine⟨b,f3,f4,?_⟩;rcases qAN s.mu.S with a | a
 ·have:=f5 a;omega
 have:=f6 O;omega
theorem Yw(x:Mu):x.st=bF x.L x.W x.S x.n:=rfl
def Zw7(h:aW c s)(d:i<s.next)(a:cd (s.tag i)=5\/cd (s.tag i)=6):s.mu.S=0/\s.mu.W=1:=by
 have:=Ct.le cT s.tag d;have e:cT (cd (s.tag i))=1:=by rcases a with a | a<;>rw[a]<;>rfl
 obtain⟨j,l,f3,f4,f5,f6⟩:=h.mu;rcases qAN s.mu.S with b | b
 ·have:=f5 b;omega
 have:=f6 O;omega
def EL(ok:c.Ok)(w:Yi p ty=some none)(J:ρ x=.pointer (some (cC c.M)))(E:H.gh=[3]\/H.gh=[3,M]\/∃v,H.gh=[4,v,M]) :
  Zp ((aZ p c).prgW i) (execOp ρ (aN (.load ty x) lL)) wk true H (λv z=>∃L W S n m,bU L W S n/\v=.int .i32 (bF L W S n:Nat)/\z=H.tagged [4,bF L W S n,m]/\(H.gh=[3,M]->m<M)/\((∃v,H.gh=[4,v,M])->m<=M)):=by
 have o:cd H.gh=3\/cd H.gh=4:=by rcases E with e | e | ⟨v,e⟩<;>rw[e]<;>simp[cd]
 refine EK ok w J O λs h q hb r=>?_;have j:=h.bits ok;have key:∀m,Mu.mu s.mu s.more (upd s.tag i [4,s.mu.st,m]) s.next=Mu.mu s.mu s.more s.tag s.next->m=Mu.mu s.mu s.more s.tag s.next->s.mu.fJ (Mu.mu s.mu s.more (upd s.tag i [4,s.mu.st,m]) s.next) [4,s.mu.st,m]:=by intro m e I;rw[e];exact⟨qCH I.symm,λ_=>rfl⟩
 have u:∀l:List Nat,cd l=4->Mu.mu s.mu s.more (upd s.tag i l) s.next=Mu.mu s.mu s.more s.tag s.next:=by
  intro l F;have e:=counts (tag:=s.tag) (l:=l) q fU;rw[r,F]at e;have K:fU (cd H.gh)=6:=by rcases o with e | e<;>rw[e]<;>rfl
  have B:fU 4=6:=rfl;unfold Mu.mu;omega
 refine⟨[4,s.mu.st,Mu.mu s.mu s.more s.tag s.next],?_,by simp[cd],by simp[cd],by simp[cd],by rcases o with e | e<;>rw[e]<;>rfl,s.mu.L,s.mu.W,s.mu.S,s.mu.n,_,j,rfl,rfl,λe=>?_,λ⟨v,e⟩=>?_⟩
 ·rcases o with e | e
  ·exact(h.same3_4 q hb (by rw[r];exact e) rfl (key _ (u _ rfl) rfl)).1
  have C:=(h.g0 (l:=[3]) q hb (by rw[r];exact e) rfl trivial).1;have y:Mu.mu s.mu s.more (upd s.tag i [3]) s.next=Mu.mu s.mu s.more s.tag s.next:=by have A:=counts (tag:=s.tag) (l:=[3]) q fU;rw[r,e]at A;have B:fU 4=6:=rfl;have N:fU (cd [3])=6:=rfl;unfold Mu.mu;omega
  have D:=(C.same3_4 (i:=i) (l:=[4,s.mu.st,Mu.mu s.mu s.more s.tag s.next]) q hb (by show cd (upd s.tag i [3] i)=3;rw[upd_same];rfl) rfl (by show s.mu.fJ (Mu.mu s.mu s.more (upd (upd s.tag i [3]) i _) s.next) _;rw[GZ];exact key _ (u _ rfl) rfl)).1;show aW c { s with tag:=_ };rw[<-GZ s.tag i [3]];exact D
 ·have:=h.jY i q;rw[r,e]at this;exact this
 have:=h.jY i q;rw[r,e]at this;exact this.1
def GM{a b d e:Nat}(h:a+d=b+e)(j:e<d)(hb:b<=M):a<M:=O
def FJ{s:Ts}{i:Nat}(h:aW c s)(a:i<s.next)(d:s.tag i=[k,M])(b:k=3\/k=5\/k=7\/k=8\/k=16):Mu.mu s.mu s.more s.tag s.next<M:=by have:=h.jY i a;rw[d]at this;rcases b with rfl | rfl | rfl | rfl | rfl<;>exact this
def vF{s:Ts}{i:Nat}(h:aW c s)(a:i<s.next)(d:s.tag i=[k,v,M])(b:k=4\/k=6\/k=15):Mu.mu s.mu s.more s.tag s.next<=M/\(Mu.mu s.mu s.more s.tag s.next=M->s.mu.st=v):=by
 have:=h.jY i a;rw[d]at this;rcases b with rfl | rfl | rfl
 ·exact this
 ·exact this
 exact⟨this.1,this.2.1⟩
def Zz0(ok:c.Ok)(m:dC p f (Extern.Atomic.casT (.int .i32)))(b:H.gh=[2]) :
  Zp ((aZ p c).prgW i) (callFunc f #[.pointer (some (cC c.M)),.int .i32 (0:Nat),.int .i32 (1:Nat)]) wk nr H (λv j=>(v=.bool true/\j=H.tagged [10])\/(v=.bool false/\j=H.tagged [3])):=by
 refine vO ok m (by rw[b];simp[cd,df,dS]) (λs h d hb e a=>?_) (λs h d hb e a=>?_)
 ·have:=h.bits ok;rw[Yw]at a;unfold bF at a;refine⟨_,[10],(h.uI (l:=[10]) d hb (by rw[e,b];rfl) rfl (by rw[Yw];unfold bF;omega) trivial).1,?_,rfl,by simp[cd],by simp[cd],by simp[cd],rfl,.inl ⟨rfl,rfl⟩⟩;rw[Yw];unfold bF;simp only;omega
 exact⟨[3],(h.jG (l:=[3]) d hb (by rw[e,b];rfl) rfl trivial).1,by simp[cd],by simp[cd],by simp[cd],rfl,.inr ⟨rfl,rfl⟩⟩
def LJ(h:aW c s)(d:i<s.next)(hb:c.base<=i)(m:s.tag i=[4,v,M])(j:s.mu.st≠v):aW c { s with tag:=upd s.tag i [3,M] }:=by
 have q:=vF h d m (.inl rfl);have e:=counts (tag:=s.tag) (l:=[3,M]) d fU;rw[m]at e;have r:fU (cd [4,v,M])=6:=rfl;have t:fU (cd [3,M])=6:=rfl;have:Mu.mu s.mu s.more (upd s.tag i [3,M]) s.next=Mu.mu s.mu s.more s.tag s.next:=by unfold Mu.mu;omega
 refine(h.g0 d hb (by rw[m];rfl) rfl ?_).1;show _<M;rw[this];rcases qAM (Mu.mu s.mu s.more s.tag s.next) M with o | o
 ·exact o
 exact absurd (q.2 O) j
def Br(h:aW c s)(d:i<s.next)(hb:c.base<=i)(m:s.tag i=[6,v,M])(j:s.mu.st≠v):aW c { s with tag:=upd s.tag i [5,M] }:=by
 have q:=vF h d m (.inr (.inl rfl));have e:=counts (tag:=s.tag) (l:=[5,M]) d fU;rw[m]at e;have r:fU (cd [6,v,M])=5:=rfl;have t:fU (cd [5,M])=5:=rfl;have:Mu.mu s.mu s.more (upd s.tag i [5,M]) s.next=Mu.mu s.mu s.more s.tag s.next:=by unfold Mu.mu;omega
 refine(h.gZ d hb (by rw[m];rfl) rfl ?_).1;show _<M;rw[this];rcases qAM (Mu.mu s.mu s.more s.tag s.next) M with o | o
 ·exact o
 exact absurd (q.2 O) j
def ZzY(ok:c.Ok)(t:dC p f (Extern.Atomic.casT (.int .i32)))(r:bU L 0 0 n)(a:H.gh=[4,bF L 0 0 n,M]) :
  Zp ((aZ p c).prgW i) (callFunc f #[.pointer (some (cC c.M)),.int .i32 (bF L 0 0 n:Nat),.int .i32 (bF L 1 0 n:Nat)]) wk nr H (λv j=>(v=.bool true/\j=H.tagged [5,M])\/(v=.bool false/\j=H.tagged [3,M])):=by
 refine vO ok t (by rw[a];simp[cd,df,dS]) (λs h b hb d e=>?_) (λs h b hb d e=>?_)
 ·obtain⟨w,m,o,y⟩:=(h.bits ok).eq r e;have q:=(vF h b (d.trans a) (.inl rfl)).1;obtain⟨m1,u⟩:=Mu.qH (more:=s.more) (l:=[5,M]) h.mu b (by rw[d,a];rfl) rfl m o;refine⟨_,[5,M],(h.qH (l:=[5,M]) b hb (by rw[d,a];rfl) rfl m o ?_).1,?_,rfl,by simp[cd],by simp[cd],by simp[cd],rfl,.inl ⟨rfl,rfl⟩⟩
  ·show _<M;exact GM u (by decide) q
  rw[Yw];unfold bF;simp only;omega
 exact⟨[3,M],LJ h b hb (d.trans a) e,by simp[cd],by simp[cd],by simp[cd],rfl,.inr ⟨rfl,rfl⟩⟩
def ZzX(ok:c.Ok)(r:dC p f (Extern.Atomic.casT (.int .i32)))(q:bU 0 W 0 n)(b:H.gh=[4,bF 0 W 0 n,M]) :
  Zp ((aZ p c).prgW i) (callFunc f #[.pointer (some (cC c.M)),.int .i32 (bF 0 W 0 n:Nat),.int .i32 (bF 1 W 0 n:Nat)]) wk nr H (λv j=>(v=.bool true/\j=H.tagged [10])\/(v=.bool false/\j=H.tagged [3,M])):=by
 refine vO ok r (by rw[b];simp[cd,df,dS]) (λs h d hb e a=>?_) (λs h d hb e a=>?_)
 ·obtain⟨m,t,o,u⟩:=(h.bits ok).eq q a;refine⟨_,[10],(h.oE (l:=[10]) d hb (by rw[e,b];rfl) rfl m o trivial).1,?_,rfl,by simp[cd],by simp[cd],by simp[cd],rfl,.inl ⟨rfl,rfl⟩⟩;rw[Yw];unfold bF;simp only;omega
 exact⟨[3,M],LJ h d hb (e.trans b) a,by simp[cd],by simp[cd],by simp[cd],rfl,.inr ⟨rfl,rfl⟩⟩
def TR(ok:c.Ok)(u:dC p f (Extern.Atomic.casT (.int .i32)))(r:bU L W S n)(t:L=1\/S=1)(a:H.gh=[4,bF L W S n,M]) :
  Zp ((aZ p c).prgW i) (callFunc f #[.pointer (some (cC c.M)),.int .i32 (bF L W S n:Nat),.int .i32 (bF L W S (n+1):Nat)]) wk nr H (λv j=>(v=.bool true/\j=H.tagged [7,M])\/(v=.bool false/\j=H.tagged [3,M])):=by
 refine vO ok u (by rw[a];simp[cd,df,dS]) (λs h b hb d e=>?_) (λs h b hb d e=>?_)
 ·obtain⟨y,z,A,B⟩:=(h.bits ok).eq r e;have q:=(vF h b (d.trans a) (.inl rfl)).1;have m:s.mu.L=1\/s.mu.S=1:=O;obtain⟨m1,w⟩:=Mu.jK (more:=s.more) (l:=[7,M]) h.mu b (by rw[d,a];rfl) rfl m;refine⟨_,[7,M],(h.jK (l:=[7,M]) b hb (by rw[d,a];rfl) rfl m ?_).1,?_,rfl,by simp[cd],by simp[cd],by simp[cd],rfl,.inl ⟨rfl,rfl⟩⟩
  ·show _<M;exact GM w (by decide) q
  rw[Yw];unfold bF;simp only;omega
 exact⟨[3,M],LJ h b hb (d.trans a) e,by simp[cd],by simp[cd],by simp[cd],rfl,.inr ⟨rfl,rfl⟩⟩
def TT(ok:c.Ok)(r:dC p f (Extern.Atomic.casT (.int .i32)))(q:bU 0 1 0 n)(b:H.gh=[6,bF 0 1 0 n,M]) :
  Zp ((aZ p c).prgW i) (callFunc f #[.pointer (some (cC c.M)),.int .i32 (bF 0 1 0 n:Nat),.int .i32 (bF 1 0 0 n:Nat)]) wk nr H (λv j=>(v=.bool true/\j=H.tagged [10])\/(v=.bool false/\j=H.tagged [5,M])):=by
 refine vO ok r (by rw[b];simp[cd,df,dS]) (λs h d hb e a=>?_) (λs h d hb e a=>?_)
 ·obtain⟨m,t,o,u⟩:=(h.bits ok).eq q a;refine⟨_,[10],(h.oD (l:=[10]) d hb (by rw[e,b];rfl) rfl m o trivial).1,?_,rfl,by simp[cd],by simp[cd],by simp[cd],rfl,.inl ⟨rfl,rfl⟩⟩;rw[Yw];unfold bF;simp only;omega
 exact⟨[5,M],Br h d hb (e.trans b) a,by simp[cd],by simp[cd],by simp[cd],rfl,.inr ⟨rfl,rfl⟩⟩
def TS(ok:c.Ok)(u:dC p f (Extern.Atomic.casT (.int .i32)))(r:Bool)(t:bU 1 1 0 n)(a:H.gh=[6,bF 1 1 0 n,M]) :
  Zp ((aZ p c).prgW i) (callFunc f #[.pointer (some (cC c.M)),.int .i32 (bF 1 1 0 n:Nat),.int .i32 (bF 1 0 (if r then 1 else 0) (n+1):Nat)]) wk nr H (λv o=>(v=.bool true/\o=H.tagged [7,M])\/(v=.bool false/\o=H.tagged [5,M])):=by
 refine vO ok u (by rw[a];simp[cd,df,dS]) (λs h b hb d j=>?_) (λs h b hb d j=>?_)
 ·obtain⟨e,w,y,z⟩:=(h.bits ok).eq t j;have q:=(vF h b (d.trans a) (.inr (.inl rfl))).1;cases r with
  | false=>
   obtain⟨m1,m⟩:=Mu.jJ (more:=s.more) (l:=[7,M]) h.mu b (by rw[d,a];rfl) rfl e;refine⟨_,[7,M],(h.jJ (l:=[7,M]) b hb (by rw[d,a];rfl) rfl e ?_).1,?_,rfl,by simp[cd],by simp[cd],by simp[cd],rfl,.inl ⟨rfl,rfl⟩⟩
   ·show _<M;exact GM m (by decide) q
   rw[Yw];unfold bF;simp;omega
  | true=>
   obtain⟨m1,m⟩:=Mu.g9 (more:=s.more) (l:=[7,M]) h.mu b (by rw[d,a];rfl) rfl e;refine⟨_,[7,M],(h.g9 (l:=[7,M]) b hb (by rw[d,a];rfl) rfl e ?_).1,?_,rfl,by simp[cd],by simp[cd],by simp[cd],rfl,.inl ⟨rfl,rfl⟩⟩
   ·show _<M;exact GM m (by decide) q
   rw[Yw];unfold bF;simp;omega
 exact⟨[5,M],Br h b hb (d.trans a) j,by simp[cd],by simp[cd],by simp[cd],rfl,.inr ⟨rfl,rfl⟩⟩
def EM(ok:c.Ok)(y:Yi p ty=some none)(I:ρ x=.pointer (some (cC c.M)))(E:H.gh=[5,M]\/∃v,H.gh=[6,v,M]) :
  Zp ((aZ p c).prgW i) (execOp ρ (aN (.load ty x) lL)) wk true H (λv B=>∃L n m,bU L 1 0 n/\v=.int .i32 (bF L 1 0 n:Nat)/\B=H.tagged [6,bF L 1 0 n,m]/\(H.gh=[5,M]->m<M)/\((∃v,H.gh=[6,v,M])->m<=M)):=by
 have j:cd H.gh=5\/cd H.gh=6:=by rcases E with e | ⟨v,e⟩<;>rw[e]<;>simp[cd]
 refine EK ok y I O λs h o hb r=>?_;have d:=h.bits ok;obtain⟨z,A⟩:=Zw7 h o (by rw[r];exact j);rw[z,A]at d;have u:s.mu.st=bF s.mu.L 1 0 s.mu.n:=by rw[Yw,z,A]
 have w:∀l:List Nat,cd l=5\/cd l=6->Mu.mu s.mu s.more (upd s.tag i l) s.next=Mu.mu s.mu s.more s.tag s.next:=by
  intro l F;have e:=counts (tag:=s.tag) (l:=l) o fU;rw[r]at e;have J:fU (cd H.gh)=5:=by rcases j with e | e<;>rw[e]<;>rfl
  have K:fU (cd l)=5:=by rcases F with e | e<;>rw[e]<;>rfl
  unfold Mu.mu;omega
 have key:s.mu.fJ (Mu.mu s.mu s.more (upd s.tag i [6,s.mu.st,Mu.mu s.mu s.more s.tag s.next]) s.next) [6,s.mu.st,Mu.mu s.mu s.more s.tag s.next]:=by rw[w _ (.inr rfl)];exact⟨AT _,λ_=>rfl⟩
 refine⟨[6,s.mu.st,Mu.mu s.mu s.more s.tag s.next],?_,by simp[cd],by simp[cd],by simp[cd],by rcases j with e | e<;>rw[e]<;>rfl,s.mu.L,s.mu.n,_,d,by rw[u],by rw[u],λe=>?_,λ⟨v,e⟩=>?_⟩
 ·rcases j with e | e
  ·exact(h.same5_6 o hb (by rw[r];exact e) rfl key).1
  have C:=(h.gZ (l:=[5]) o hb (by rw[r];exact e) rfl trivial).1;have D:=(C.same5_6 (i:=i) (l:=[6,s.mu.st,Mu.mu s.mu s.more s.tag s.next]) o hb (by show cd (upd s.tag i [5] i)=5;rw[upd_same];rfl) rfl (by show s.mu.fJ (Mu.mu s.mu s.more (upd (upd s.tag i [5]) i _) s.next) _;rw[GZ];exact key)).1;show aW c { s with tag:=_ };rw[<-GZ s.tag i [5]];exact D
 ·exact FJ h o (r.trans e) O
 exact(vF h o (r.trans e) O).1
def EP(ok:c.Ok)(A:dC p f Extern.Sync.semacquire)(m:vs[0]? = some (.pointer (some ⟨c.M,1,none⟩)))(y:H.gh=[7,M]) :
  Zp ((aZ p c).prgW i) (callFunc f vs) wk nr H (λv B=>v=Zz/\B=H.tagged [8,M]):=by
 refine vI ok (.inl (by rw[y];simp[cd,df,dS])) λs D t w h=>?_;have a:s.tag i=[7,M]:=(show s.tag i=H.gh from h.tag).trans y;have q:Yb c s D t:=h.inv;have u:=UJ h (by rw[a];simp[cd,df,dS]) (by rw[a];simp[cd,df,dS]);have F:Deaf t i=1:=by rw[Um h (by rw[a];simp[cd,df,dS]),a];rfl
 obtain⟨_,_,r,J⟩:=uS ok h;by_cases j:s.mu.sm=0
 ·rw[j]at r;exact .inl ⟨Lq A m r,.inl ⟨by rw[a];rfl,j⟩⟩
 refine .inr ⟨Zz,[8,M],?_,.inl (by simp[cd]),rfl,rfl⟩;obtain⟨N,P,Q⟩:=DX (C:=c.toTC) (i:=i) (d:=Deaf t i) (b:=c.M) (off:=1) (.inl rfl);have z:=Lp (rest:=#[]) A m r J (by exact_mod_cast j);have I:((s.mu.sm:Nat):Int)-1=((s.mu.sm-1:Nat):Int):=O;rw[I]at z;have E:=FJ q.cnt h.lt a O;obtain⟨m1,K⟩:=Mu.jF (more:=s.more) (l:=[8,M]) q.cnt.mu h.lt (by rw[a];rfl) rfl O;refine cG.pK (x':={ s.mu with sm:=s.mu.sm-1 }) ok h z (λfn _=>FK) (.inr ⟨1,_,rfl,rfl⟩) (q.cnt.jF (l:=[8,M]) h.lt u (by rw[a];rfl) rfl O ?_).1 ⟨N,P,?_⟩ (.inr λe=>absurd e j) ?_ (by rw[a];simp[cd,df,dS]) (by simp[cd]) (λe=>by simp[cd]at e)
 ·show _<M;exact qBn (O6 K (by decide)) E
 ·rw[Q,F];rfl
 left;rintro(⟨_,e⟩ | ⟨e,_⟩)
 ·exact j e
 rw[a]at e;simp[cd]at e
def xQ(ok:c.Ok)(u:Yi p ty=some none)(A:ρ x=.pointer (some (cC c.M)))(j:H.gh=[8,M]) :
  Zp ((aZ p c).prgW i) (execOp ρ (aN (.load ty x) lL)) wk true H (λv w=>(∃L n m,bU L 1 0 n/\v=.int .i32 (bF L 1 0 n:Nat)/\w=H.tagged [6,bF L 1 0 n,m]/\m<M) \/
   (∃n,bU 0 0 1 n/\1<=n/\v=.int .i32 (bF 0 0 1 n:Nat)/\w=H.tagged [9,bF 0 0 1 n])):=by
 refine EK ok u A (by rw[j];simp[cd,df,dS]) λs h q hb r=>?_
 have b:=h.bits ok
 have B:=Ct.le cA s.tag q
 have e:cA (cd (s.tag i))=1:=by rw[r,j];rfl
 rcases qAN s.mu.S with o | o
 ·have y:s.mu.W=1:=by have:=h.mu.norm o;have:=h.mu.W1;omega
  have d:s.mu.st=bF s.mu.L 1 0 s.mu.n:=by rw[Yw,o,y]
  rw[o,y]at b;obtain⟨m1,C⟩:=Mu.lK (more:=s.more) (l:=[6,s.mu.st,Mu.mu s.mu s.more s.tag s.next]) h.mu q (by rw[r,j];rfl) rfl o;refine⟨[6,s.mu.st,Mu.mu s.mu s.more s.tag s.next],(h.lK (l:=[6,s.mu.st,Mu.mu s.mu s.more s.tag s.next]) q hb (by rw[r,j];rfl) rfl o ⟨O,λ_=>rfl⟩).1,by simp[cd],by simp[cd],by simp[cd],by rw[j];rfl,.inl ⟨s.mu.L,s.mu.n,_,b,by rw[d],by rw[d],FJ h q (r.trans j) O⟩⟩
 ·have t:s.mu.S=1:=by have:=h.mu.S1;omega
  have z:=h.mu.starv t;have d:s.mu.st=bF 0 0 1 s.mu.n:=by rw[Yw,t];unfold bF;omega
  refine⟨[9,s.mu.st],(h.n9 (l:=[9,s.mu.st]) q hb (by rw[r,j];rfl) rfl t ⟨t,?_,?_⟩).1,by simp[cd],by simp[cd],by simp[cd],by rw[j];rfl,.inr ⟨s.mu.n,⟨O,O,O,b.n⟩,z.2.1,by rw[d],by rw[d]⟩⟩
  ·rw[d];unfold bF;omega
  rw[d];unfold bF;omega
def PV{z:Int}(a:0<=z)(b:z<=2147483647):IntKind.i32.wrap z=z:=by simp only[IntKind.wrap,IntKind.bits,IntKind.signed];simp;omega
def sH(ok:c.Ok)(D:dC p f (Extern.Atomic.update (Op.intArith .add) .i32 true))(K:bU 0 0 1 n)(E:1<=n)(b:Bool)(j:b=false->n≠1)(m:H.gh=[9,bF 0 0 1 n]) :
  Zp ((aZ p c).prgW i) (callFunc f #[.pointer (some (cC c.M)),.int .i32 (if b then -11 else -7)]) wk nr H (λv y=>(∃z,v=.int .i32 z)/\y=H.tagged [10]):=by
 refine TQ ok D (by rw[m];simp[cd,df,dS]) λs h o hb q=>?_;have d:=h.bits ok;have a:=h.jY i o;rw[q,m]at a;obtain⟨r,t,u⟩:=a;have C:bF 0 0 1 n / 8=n:=by unfold bF;omega
 rw[C]at t u;have A:=h.mu.starv r;have F:=Ct.le cA s.tag o;have e:cA (cd (s.tag i))=1:=by rw[q,m];rfl
 have I:s.mu.L=0:=O;have J:s.mu.W=0:=A.2.2.1;have B:=d.n;cases b with
 | true=>
  refine⟨_,[10],(h.oZ (l:=[10]) o hb (by rw[q,m];rfl) rfl r trivial).1,?_,rfl,by simp[cd],by simp[cd],by simp[cd],rfl,⟨_,rfl⟩,rfl⟩;rw[Yw,Yw];unfold bF;simp only[qAH];rw[PV]<;>omega
 | false=>
  have:=j rfl;refine⟨_,[10],(h.hand (l:=[10]) o hb (by rw[q,m];rfl) rfl r O trivial).1,?_,rfl,by simp[cd],by simp[cd],by simp[cd],rfl,⟨_,rfl⟩,rfl⟩;rw[Yw,Yw];unfold bF;simp only[dO,qAf];rw[PV]<;>omega
def ZzQ(ok:c.Ok)(K:dC p f (Extern.Atomic.update (Op.intArith .add) .i32 true))(t:H.gh=[14]) :
  Zp ((aZ p c).prgW i) (callFunc f #[.pointer (some (cC c.M)),.int .i32 (-1)]) wk nr H (λv y=>
   (∃W n,bU 0 W 0 n/\(n=0\/W=1)/\v=.int .i32 (bF 0 W 0 n:Nat)/\y=H.tagged [18])\/(∃n m,bU 0 0 0 n/\1<=n/\v=.int .i32 (bF 0 0 0 n:Nat)/\y=H.tagged [15,bF 0 0 0 n,m]) \/
   (∃n,bU 0 0 1 n/\v=.int .i32 (bF 0 0 1 n:Nat)/\y=H.tagged [17])):=by
 refine TQ ok K (by rw[t];simp[cd,df,dS]) λs h o hb w=>?_
 have b:=h.bits ok
 have N:=Ct.le YE s.tag o
 have e:YE (cd (s.tag i))=1:=by rw[w,t];rfl
 have P:s.mu.L=1:=by have:=h.mu.L1;have:=h.mu.L2;omega
 have j:=b.n
 have A:∀B:Mu,B={ s.mu with L:=0 }->IntKind.i32.wrap ((s.mu.st:Nat)+(-1))=(B.st:Nat):=by rintro B rfl;rw[Yw,Yw];unfold bF;simp only;have:=b.W;have:=b.S;rw[PV]<;>omega
 rcases qAN s.mu.S with r | r
 ·by_cases D:s.mu.n=0\/s.mu.W=1
  ·refine⟨_,[18],(h.jD (l:=[18]) o hb (by rw[w,t];rfl) rfl r D trivial).1,A _ rfl,rfl,by simp[cd],by simp[cd],by simp[cd],rfl,.inl ⟨s.mu.W,s.mu.n,⟨O,b.W,O,j⟩,D,?_,rfl⟩⟩;rw[Yw];simp only[r]
  have J:s.mu.W=0:=by have:=b.W;omega
  have u:({ s.mu with L:=0 }:Mu).st=bF 0 0 0 s.mu.n:=by rw[Yw];simp only[r,J]
  obtain⟨m1,Q⟩:=Mu.gY (more:=s.more) (l:=[15,bF 0 0 0 s.mu.n,Mu.mu { s.mu with L:=0 } s.more (upd s.tag i [15]) s.next]) h.mu o (by rw[w,t];rfl) rfl r;have q:Mu.mu { s.mu with L:=0 } s.more (upd s.tag i [15,bF 0 0 0 s.mu.n,Mu.mu { s.mu with L:=0 } s.more (upd s.tag i [15]) s.next]) s.next=Mu.mu { s.mu with L:=0 } s.more (upd s.tag i [15]) s.next:=by have E:=counts (tag:=s.tag) (l:=[15]) o fU;have C:=counts (tag:=s.tag) (l:=[15,bF 0 0 0 s.mu.n,Mu.mu { s.mu with L:=0 } s.more (upd s.tag i [15]) s.next]) o fU;have F:cd [15]=cd [15,bF 0 0 0 s.mu.n,Mu.mu { s.mu with L:=0 } s.more (upd s.tag i [15]) s.next]:=rfl;rw[<-F]at C;simp only[Mu.mu]at E C ⊢;omega
  refine⟨_,[15,bF 0 0 0 s.mu.n,Mu.mu { s.mu with L:=0 } s.more (upd s.tag i [15]) s.next],(h.gY o hb (by rw[w,t];rfl) rfl r ?_).1,A _ rfl,rfl,by simp[cd],by simp[cd],by simp[cd],rfl,.inr (.inl ⟨s.mu.n,_,⟨O,O,O,j⟩,O,by rw[u],rfl⟩)⟩;refine⟨qCH q,λ_=>u,?_,?_⟩<;>unfold bF<;>omega
 ·have z:s.mu.S=1:=by have:=h.mu.S1;omega
  have I:=h.mu.starv z;refine⟨_,[17],(h.jC (l:=[17]) o hb (by rw[w,t];rfl) rfl z trivial).1,A _ rfl,rfl,by simp[cd],by simp[cd],by simp[cd],rfl,.inr (.inr ⟨s.mu.n,⟨O,O,O,j⟩,?_,rfl⟩)⟩;rw[Yw];simp only[z,I.2.2.1]
def ZzZ(ok:c.Ok)(A:dC p f (Extern.Atomic.casT (.int .i32)))(z:bU 0 0 0 (n+1))(d:H.gh=[15,bF 0 0 0 (n+1),M]) :
  Zp ((aZ p c).prgW i) (callFunc f #[.pointer (some (cC c.M)),.int .i32 (bF 0 0 0 (n+1):Nat),.int .i32 (bF 0 1 0 n:Nat)]) wk nr H (λv q=>(v=.bool true/\q=H.tagged [17])\/(v=.bool false/\q=H.tagged [16,M])):=by
 refine vO ok A (by rw[d];simp[cd,df,dS]) (λs h j hb m o=>?_) (λs h j hb m o=>?_)
 ·obtain⟨t,u,w,B⟩:=(h.bits ok).eq z o;refine⟨_,[17],(h.o0 (l:=[17]) j hb (by rw[m,d];rfl) rfl t u w O trivial).1,?_,rfl,by simp[cd],by simp[cd],by simp[cd],rfl,.inl ⟨rfl,rfl⟩⟩;rw[Yw];unfold bF;simp only;omega
 refine⟨[16,M],(h.gG (l:=[16,M]) j hb (by rw[m,d];rfl) rfl ?_).1,by simp[cd],by simp[cd],by simp[cd],rfl,.inr ⟨rfl,rfl⟩⟩;have y:=vF h j (m.trans d) (.inr (.inr rfl));have e:=counts (tag:=s.tag) (l:=[16,M]) j fU;rw[m,d]at e;have C:fU (cd [15,bF 0 0 0 (n+1),M])=2:=rfl;have D:fU (cd [16,M])=2:=rfl;have:Mu.mu s.mu s.more (upd s.tag i [16,M]) s.next=Mu.mu s.mu s.more s.tag s.next:=by unfold Mu.mu;omega
 show _<M;rw[this];rcases qAM (Mu.mu s.mu s.more s.tag s.next) M with r | r
 ·exact r
 exact absurd (y.2 O) o
def ZzS(ok:c.Ok)(u:Yi p ty=some none)(D:ρ x=.pointer (some (cC c.M)))(j:H.gh=[16,M]) :
  Zp ((aZ p c).prgW i) (execOp ρ (aN (.load ty x) lL)) wk true H (λv w=>(∃L W S n,bU L W S n/\(L=1\/W=1\/S=1\/n=0)/\v=.int .i32 (bF L W S n:Nat)/\w=H.tagged [18]) \/
   (∃n m,bU 0 0 0 n/\1<=n/\v=.int .i32 (bF 0 0 0 n:Nat)/\w=H.tagged [15,bF 0 0 0 n,m]/\m<M)):=by
 refine EK ok u D (by rw[j];simp[cd,df,dS]) λs h q hb r=>?_
 have b:=h.bits ok
 by_cases y:s.mu.L=1\/s.mu.W=1\/s.mu.S=1\/s.mu.n=0
 ·exact⟨[18],(h.kY (l:=[18]) q hb (by rw[r,j];rfl) rfl y trivial).1,by simp[cd],by simp[cd],by simp[cd],by rw[j];rfl,.inl ⟨_,_,_,_,b,y,by rw[Yw],rfl⟩⟩
 ·have E:=b.L;have F:=b.W;have I:=b.S;have z:s.mu.L=0:=O;have A:s.mu.W=0:=O;have B:s.mu.S=0:=O;have o:s.mu.st=bF 0 0 0 s.mu.n:=by rw[Yw,z,A,B]
  have t:Mu.mu s.mu s.more (upd s.tag i [15,bF 0 0 0 s.mu.n,Mu.mu s.mu s.more s.tag s.next]) s.next=Mu.mu s.mu s.more s.tag s.next:=by have e:=counts (tag:=s.tag) (l:=[15,bF 0 0 0 s.mu.n,Mu.mu s.mu s.more s.tag s.next]) q fU;rw[r,j]at e;have J:fU (cd [16,M])=2:=rfl;have C:fU (cd [15,bF 0 0 0 s.mu.n,Mu.mu s.mu s.more s.tag s.next])=2:=rfl;simp only[Mu.mu]at e C ⊢;omega
  refine⟨[15,bF 0 0 0 s.mu.n,Mu.mu s.mu s.more s.tag s.next],(h.gF (l:=[15,bF 0 0 0 s.mu.n,Mu.mu s.mu s.more s.tag s.next]) q hb (by rw[r,j];rfl) rfl ?_).1,by simp[cd],by simp[cd],by simp[cd],by rw[j];rfl,.inr ⟨s.mu.n,_,⟨O,O,O,b.n⟩,O,by rw[o],rfl,FJ h q (r.trans j) O⟩⟩;refine⟨qCH t,λ_=>o,?_,?_⟩<;>unfold bF<;>omega
theorem TU(ok:c.Ok)(I:dC p f Extern.Sync.semrelease)(m:vs[0]? = some (.pointer (some ⟨c.M,1,none⟩)))(u:H.gh=[17]) :
  Zp ((aZ p c).prgW i) (callFunc f vs) true nr H (λv z=>v=Zz/\z=H.tagged [18]):=by
 refine vI ok (.inl (by rw[u];simp[cd,df,dS])) λs A t w h=>.inr ?_;have a:s.tag i=[17]:=(show s.tag i=H.gh from h.tag).trans u;have r:Yb c s A t:=h.inv;have o:=UJ h (by rw[a];simp[cd,df,dS]) (by rw[a];simp[cd,df,dS]);have B:Deaf t i=1:=by rw[Um h (by rw[a];simp[cd,df,dS]),a];rfl
 obtain⟨_,_,D,J⟩:=uS ok h;have F:s.mu.sm<=1:=by
  have:=ZAs (g:=cQ) (λn=>AS _) s.tag s.next;obtain⟨Q,R,f3,f4,f5,f6⟩:=r.cnt.mu;rcases qAN s.mu.S with q | q
  ·have:=f5 q;omega
  have:=f6 O;omega
 obtain⟨K,N,P⟩:=DX (C:=c.toTC) (i:=i) (d:=Deaf t i) (b:=c.M) (off:=1) (.inl rfl);have y:=Lr I m D J;have E:IntKind.u32.wrap (((s.mu.sm:Nat):Int)+1)=((s.mu.sm+1:Nat):Int):=by simp only[IntKind.wrap,IntKind.bits,IntKind.signed];simp;omega
 rw[E]at y;refine⟨Zz,[18],?_,.inl (by simp[cd]),rfl,rfl⟩;refine cG.pK (x':={ s.mu with sm:=s.mu.sm+1 }) ok h y (λfn _=>FK) (.inr ⟨1,_,rfl,rfl⟩) (r.cnt.kT (l:=[18]) h.lt o (by rw[a];rfl) rfl trivial).1 ⟨K,N,?_⟩ (.inl rfl) (Vg (by rw[a];simp[cd,df,dS]) (by rw[a];simp[cd,df,dS])) (by rw[a];simp[cd,df,dS]) (by simp[cd]) (λe=>by simp[cd]at e);rw[P,B];rfl
end
end
variable{G:Prop}
def N8(h:G:=by intro op iC x kN b gN;simp only[qAb,iF]at iC;rw[iC]at kN;simp[MemAct.touch?]at kN):G:=h
def N7(h:G:=by intro said q a _ op iC b gN _;simp only[qAb,iF]at iC;rw[iC]at gN;simp[MemAct.touch?]at gN):G:=h
open Go.Conc
open Go.ConcN (sumTo upd sumTo_upd upd_ne upd_same)
section
variable{p:Program}{c:Cx}{i:Nat}{H:Hp}{f:FuncId}{wk nr:Bool}
theorem FS(H:Hp):H.tagged H.gh=H:=Hp.ext' (λ_=>rfl) rfl
def Qr{α:Type}(g:Nat->α)(i:Nat):upd g i (g i)=g:=by
 funext j;by_cases e:j=i
 ·subst e;rw[upd_same]
 rw[upd_ne _ _ e]
theorem EO(ok:c.Ok)(B:dC p f Extern.OsHooks.nano)(u:norace p f=true){vs:Array Value}(l:1<=cd H.gh/\cd H.gh<=19/\cd H.gh≠12) :
  Zp ((aZ p c).prgW i) (callFunc f vs) wk nr H (λv m=>(∃z,v=.int .i64 z)/\m=H):=by
 refine vI ok (.inl ⟨l.1,l.2.1⟩) λs o t w h=>.inr ?_;have a:s.tag i=H.gh:=h.tag;have q:Yb c s o t:=h.inv;have j:aW c { s with tag:=upd s.tag i H.gh }:=by rw[<-a,Qr];exact q.cnt
 obtain⟨D,E,F⟩:=Ke (i:=i) (d:=Deaf t i) (C:=c.toTC);have y:(callFunc f vs).runT p w #[]=(.ok (.value (.int .i64 ((w.os.mono+w.tick:Nat):Int))) w.later,#[YA f]++#[⟨.output,true,false⟩]):=B.val rfl rfl;have r:=wM ok h;have A:=wW h;refine⟨_,H.gh,⟨⟨w.later,_,#[],s.mu,s.wg,y,λfn _=>seen_entry_out fn f u,j,D,E,?_,r,A,λ_ _ _=>rfl,rfl,⟨⟨w.tick,rfl⟩,rfl,rfl⟩,.inr ⟨id,id⟩⟩,.inr a.symm,by rw[a];omega,O,λe=>O,by rw[a];omega⟩,.inl ⟨l.1,l.2.1⟩,⟨_,rfl⟩,FS H⟩;rw[F,Um h (by rw[a];omega),a,bY O]
def MF(ok:c.Ok){s:Ts}{d:Hp}{t:Trace}{w:World}(a:bZ (aZ p c) i H s d t w):H c.M=none/\H c.W=none:=by
 have e:Yb c s d t:=a.inv;constructor
 ·cases b:H c.M with
  | none=>rfl
  | some y=>have:=a.dis c.M _ _ b (e.atM ok);rw[this.1]at this;simp at this
 cases b:H c.W with
 | none=>rfl
 | some y=>have:=a.dis c.W _ _ b e.atW;rw[this.1]at this;simp at this
def sI(ok:c.Ok)(hx:dC p f (Extern.Race.marked .acquire))(hg:H.gh=[11]) :
  Zp ((aZ p c).prgW i) (callFunc f #[.pointer (some (cC c.M))]) wk nr H (λv H'=>v=Zz/\∃(l:List Nat) (D:Hp),c.PI l D/\i ∉ l/\c.need i=true/\D.gh=[]/\(H.tagged (12 :: l)).Comp D/\H'=(H.tagged (12 :: l)).join D):=by
 intro G K nx cs lU ha hG;refine .dL ⟨by rw[hg];simp,.inr (.inl ⟨.inl (by rw[hg];simp[cd]),λs Hs t w u=>.inl ?_⟩)⟩;have d:s.tag i=[11]:=(show s.tag i=H.gh from u.tag).trans hg;have B:Yb c s Hs t:=u.inv;have hb:=UJ u (by rw[d];simp[cd]) (by rw[d];simp[cd]);have Q:i≠0:=by have:=B.cnt.pos;omega
 have U:=B0 u (by rw[d];simp);have hD:Deaf t i=0:=by rw[Um u (by rw[d];simp[cd]),d];rfl
 obtain⟨rY,rX⟩:=MF ok u;have AC:YE (cd (s.tag i))=1:=by rw[d];rfl
 have rU:¬ VX s:=by
  rintro⟨j,A,e | e⟩
  ·have CZ:j≠i:=by rintro rfl;rw[d]at e;simp[cd]at e
   have wC:i<s.next:=u.lt;have e1:=counts (tag:=s.tag) (l:=[0]) wC YE;have e2:=Ct.le YE (upd s.tag i [0]) A;rw[upd_ne _ _ CZ,e]at e2;have e3:YE (cd [0])=0:=rfl;have e4:YE 12=1:=rfl;have:=B.cnt.mu.L1;have:=B.cnt.mu.L2;omega
  have:=MS B.cnt A O;subst this;have:=B.cnt.over O hb u.lt;rw[d]at this;simp at this
 obtain⟨C,N,I,Y⟩:=(B.heap.resolve_left λh=>rU h.1).2;let D:Hp:=⟨C.mem,[]⟩
 obtain⟨p1,p2⟩:=NZ ok I;obtain⟨V,CX⟩:=(B.cnt.lwk i hb u.lt).2.1 (by rw[d];simp[cd]) (by rw[d];simp[cd]);have hr:=AW hx (cC c.M) w;have qX:seen p K.fn (#[YA f]++#[⟨.mark (.acquire (cC c.M)),false,true⟩])=#[⟨.mark (.acquire (cC c.M)),false,true⟩]:=vG λx hx=>by simp at hx;subst hx;exact⟨rfl,by simp⟩
 have hu:Z3 i K #[⟨.mark (.acquire (cC c.M)),false,true⟩]=#[{ g:=i,fn:=K.fn,pos:=K.place,act:=.mark (.acquire (cC c.M)) }]:=by simp[Z3,ofEvents_eq,MemAct.ofEvent]
 have I2:∀b x,D b=some x->FB c Hs b:=by
  intro b x hb;have F:C b=some x:=hb;refine⟨⟨x,?_⟩,?_,?_⟩
  ·rw[N];exact Hp.aP I F
  ·rintro rfl;rw[p1]at F;simp at F
  rintro rfl;rw[p2]at F;simp at F
 obtain⟨HC,Rj⟩:=B.tr.take (y:={ g:=i,fn:=K.fn,pos:=K.place,act:=.mark (.acquire (cC c.M)) }) rfl hD U;have T:(H.tagged (12 :: s.log)).Comp D:=⟨λb x y R h2=>by
  have JZ:Hs b=some y:=by rw[N];exact Hp.aP I h2
  exact u.dis b x y R JZ,.inr rfl⟩
 have oX:((H.tagged (12 :: s.log)).join D).gh=12 :: s.log:=by simp[Hp.bI,Hp.tagged,D]
 have Z:aW c { s with tag:=upd s.tag i (12 :: s.log) }:=by
  obtain⟨m1,m2⟩:=Mu.mZ (more:=s.more) (l:=12 :: s.log) B.cnt.mu u.lt (by rw[d];rfl) rfl;have jT:=Wg.mN (l:=12 :: s.log) B.cnt.wg u.lt Q (by rw[d];rfl) rfl;refine B.cnt.step u.lt (.inr hb) s.wg m1 (O6 m2 (by decide)) (λ_=>rfl) (λj _ _ _ hS=>⟨hS,AT _⟩) jT ?_ ⟨λe=>absurd e Q,λe=>absurd e Q,λ_=>AT _⟩ (λ_=>rfl) (λ_ _=>⟨by simp[cd],λe=>by simp[cd]at e⟩) λ_ kO=>?_
  ·unfold Mu.fJ;split<;>first | (rename_i h;simp at h;done) | trivial
  rw[d]at kO;exact VH.low kO (by simp[cd]) (by simp[cd]) (by simp[cd]) (by simp[cd])
 refine⟨nx Zz,cs,w,(H.tagged (12 :: s.log)).join D,{ s with tag:=upd s.tag i (12 :: s.log) },fI c s,#[⟨.mark (.acquire (cC c.M)),false,true⟩],?_,?_,?_,λj=>?_,rfl,AT _,.inr λj A=>?_,.inl ⟨hG _ _ ⟨rfl,s.log,D,?_,CX,V,rfl,T,rfl⟩,?_⟩⟩
 ·exact(vL (P:=p) ha hr).trans (by rw[qX])
 ·rw[hu];refine⟨AT _,λ_ _ _ _=>rfl,λb o pm h=>u.leS b o pm (B.mw h),λb x h=>.inr ⟨x,.inr (B.mw h),λ_=>rfl⟩,.refl w,?_,?_,?_,?_⟩
  ·exact N8
  ·exact N7
  ·intro op iC;simp only[qAb,iF]at iC;rw[iC];exact u.leS.lt (B.atM ok)
  refine⟨Z,HC.sub (λj A=>?_) (λb gN=>?_),λj A rW=>?_,λpQ=>?_,.inl ⟨⟨i,u.lt,.inl (by simp[upd_same,cd])⟩,rfl⟩⟩
  ·unfold VF at A ⊢;simp only at A;by_cases e:j=i
   ·subst e;rw[upd_same]at A;simp[cd]at A
   rw[upd_ne _ _ e]at A;exact A
  ·obtain⟨⟨x,kN⟩,b1,b2⟩:=gN;exact absurd (kN.symm.trans (UX b1 b2)) (by simp)
  ·have:=BO (i:=i) (l:=12 :: s.log) (es:=#[⟨.mark (.acquire (cC c.M)),false,true⟩]) (fn:=K.fn) (pos:=K.place) B.deaf (λ_=>by rw[hD];rfl) A rW;rw[<-hu];exact this
  simp only[upd_ne _ _ (qAm Q)]at pQ;have:=B.cnt.over O hb u.lt;rw[d]at this;simp at this
 ·rw[hu];refine⟨?_,?_,?_,?_⟩
  ·intro b o pm gN;simp only[Hp.aQ,Hp.cD]at gN;cases hh:H b with
   | some z=>rw[hh]at gN;exact u.le b o pm (by rw[hh];exact gN)
   | none=>rw[hh]at gN;exact u.leS b o pm (by rw[N];exact Hp.aP I gN)
  ·intro b x y R h2;exfalso;rcases(u4 h2).1 with rfl | rfl
   ·have:H c.M=none/\C c.M=none:=⟨rY,p1⟩;simp only[Hp.aQ,Hp.cD,this.1]at R;have E:C c.M=some x:=R;rw[p1]at E;simp at E
   simp only[Hp.aQ,Hp.cD,rX]at R;have E:C c.W=some x:=R;rw[p2]at E;simp at E
  ·intro b x gN;refine .inr ⟨x,?_,λ_=>rfl⟩;simp only[Hp.aQ,Hp.cD]at gN;cases hh:H b with
   | some z=>rw[hh]at gN;exact .inl gN
   | none=>rw[hh]at gN;exact .inr (by rw[N];exact Hp.aP I gN)
  have R:dG (t++#[{ g:=i,fn:=K.fn,pos:=K.place,act:=.mark (.acquire (cC c.M)) }]) i (H.tagged (12 :: s.log)):=
   u.perm.own λop iC=>.inl (by simp only[qAb,iF]at iC;rw[iC])
  refine R.join λb o pm gN q a hq hl _=>?_;obtain⟨x,kN,lS⟩:=touch_of hq;exact Rj b (I2 b _ gN) q x a kN lS hl
 ·show upd s.tag i (12 :: s.log) j=_;rw[oX];rfl
 ·have A:Ya s j:=A;show Ya _ j;unfold Ya at A ⊢;have:j≠i:=by rintro rfl;rw[d]at A;simp[cd]at A
  simp only[upd_ne _ _ this];exact A
 ·have:D.mem=C.mem:=rfl;exact ok.aN _ _ _ Y
 show Ys _;rw[oX];exact .inl (by simp[cd])
def ZzT(ok:c.Ok)(hx:dC p f (Extern.Race.marked .releaseMerge)){K C:Hp}{l:List Nat}(hc:K.Comp C)(hg:K.gh=12 :: l)(Z:c.PI (l++[i]) C) :
  Zp ((aZ p c).prgW i) (callFunc f #[.pointer (some (cC c.M))]) wk nr (K.join C) (λv H'=>v=Zz/\H'=K.tagged [13]):=by
 have kO:C.gh=[]:=hc.gh.resolve_left (by rw[hg];simp);have U:(K.join C).gh=12 :: l:=by rw[Hp.bI,kO,hg];simp
 intro G J nx cs lU ha hG;refine .dL ⟨by rw[U];simp,.inr (.inl ⟨.inl (by rw[U];simp[cd]),λs Hs t w E=>.inl ?_⟩)⟩;have d:s.tag i=12 :: l:=(show s.tag i=(K.join C).gh from E.tag).trans U;have u:i<s.next:=E.lt;have m:Yb c s Hs t:=E.inv;have hb:=UJ E (by rw[d];simp[cd]) (by rw[d];simp[cd]);have N:i≠0:=by have:=m.cnt.pos;omega
 have z4:=B0 E (by rw[d];simp);have hD:Deaf t i=0:=by rw[Um E (by rw[d];simp[cd]),d];rfl
 obtain⟨rY,rX⟩:=MF ok E;have F:s.log=l:=by have:=m.cnt.tk i u (by rw[d];rfl);rw[d]at this;simpa using this.symm
 have nE:VX s:=⟨i,u,.inl (by rw[d];rfl)⟩;have R:Hs=fI c s:=by
  rcases m.heap with h | h
  ·exact h.2
  exact absurd nE h.1
 have AC:YE (cd (s.tag i))=1:=by rw[d];rfl
 obtain⟨X,CX⟩:=(m.cnt.lwk i hb u).2.1 (by rw[d];simp[cd]) (by rw[d];simp[cd]);have hr:=AW hx (cC c.M) w;have qX:seen p J.fn (#[YA f]++#[⟨.mark (.releaseMerge (cC c.M)),false,true⟩])=#[⟨.mark (.releaseMerge (cC c.M)),false,true⟩]:=vG λx hx=>by simp at hx;subst hx;exact⟨rfl,by simp⟩
 have hu:Z3 i J #[⟨.mark (.releaseMerge (cC c.M)),false,true⟩]=#[{ g:=i,fn:=J.fn,pos:=J.place,act:=.mark (.releaseMerge (cC c.M)) }]:=by simp[Z3,ofEvents_eq,MemAct.ofEvent]
 have Q:∀b x,C b=some x->(K.join C) b=some x:=λb x h=>Hp.aP hc h;have hlM:C c.M=none:=(Hp.cI.1 rY).2;have hlW:C c.W=none:=(Hp.cI.1 rX).2;have rU:¬ VX { s with tag:=upd s.tag i [13],log:=l++[i] }:=by
  rintro⟨j,r,e⟩;by_cases V:j=i
  ·subst V;simp only[upd_same,cd]at e;simp at e
  simp only[upd_ne _ _ V]at e;rcases e with e | e
  ·have e1:=counts (tag:=s.tag) (l:=[0]) u YE;have e2:=Ct.le YE (upd s.tag i [0]) r;rw[upd_ne _ _ V,e]at e2;have e3:YE (cd [0])=0:=rfl;have e4:YE 12=1:=rfl;have:=m.cnt.mu.L1;have:=m.cnt.mu.L2;simp only at e2;omega
  have:=MS m.cnt r O;subst this;have:=m.cnt.over O hb u;rw[d]at this;simp at this
 have iD:aW c { s with tag:=upd s.tag i [13],log:=l++[i] }:=by
  obtain⟨m1,m2⟩:=Mu.mY (more:=s.more) (l:=[13]) m.cnt.mu u (by rw[d];rfl) rfl;have jT:=Wg.mM (l:=[13]) m.cnt.wg u N (by rw[d];rfl) rfl;have I:∀j,j∈l++[i]↔j∈s.log\/j=i:=by intro j;rw[F];simp
  refine⟨m1,jT,λj r=>?_,λv=>?_,λk n hk hl=>?_,λj r T=>?_,m.cnt.num,m.cnt.pos,m.cnt.nb,λj D B=>?_,λj D B=>?_,?_,λj r=>?_,λj D B=>?_⟩
  ·by_cases e:j=i
   ·subst e;simp only[upd_same];trivial
   simp only[upd_ne _ _ e];exact(m.cnt.jY j r).keep (O6 m2 (by decide)) (λ_=>rfl) λ_ hS=>⟨hS,AT _⟩
  ·simp only[upd_ne _ _ (qAm N)];exact m.cnt.jX v
  ·simp only[upd_ne _ _ (qAm N)]at hl;exact m.cnt.kK k n hk hl
  ·exfalso;exact rU ⟨j,r,.inl T⟩
  ·have:j≠i:=by rintro rfl;omega
   simp only[upd_ne _ _ this];exact m.cnt.olds j D B
  ·by_cases e:j=i
   ·subst e;simp only[upd_same];exact⟨by simp[cd],λe=>by simp[cd]at e⟩
   simp only[upd_ne _ _ e];exact m.cnt.iS j D B
  ·have:=m.cnt.lnd;rw[F]at this;refine qCY.2 ⟨this,by simp,λa ha b hb e=>?_⟩;simp only[iF]at hb;rw[e,hb]at ha;rw[F]at CX;exact CX ha
  ·rcases(I j).1 r with D | rfl
   ·exact m.cnt.lmem j D
   exact⟨hb,u,X⟩
  have hk:=m.cnt.lwk j D B;by_cases e:j=i
  ·subst e;simp only[upd_same];exact⟨λe=>by simp[cd]at e,λ_ e=>by simp[cd]at e,λ_ _=>(I j).2 (.inr rfl),λe=>by simp[cd]at e⟩
  simp only[upd_ne _ _ e];have:j∈l++[i]↔j∈s.log:=(I j).trans ⟨λh=>h.resolve_right e,.inl⟩;rw[this];exact hk
 have oY:(fI c s).Comp C:=⟨λb x y D B=>by
  rcases(u4 D).1 with rfl | rfl
  ·rw[hlM]at B;simp at B
  rw[hlW]at B;simp at B,.inl rfl⟩
 refine⟨nx Zz,cs,w,K.tagged [13],{ s with tag:=upd s.tag i [13],log:=l++[i] },(fI c s).join C,#[⟨.mark (.releaseMerge (cC c.M)),false,true⟩],?_,?_,?_,λj=>rfl,rfl,AT _,.inr λj r=>?_,.inl ⟨hG _ _ ⟨rfl,rfl⟩,.inl (by simp[Hp.tagged,cd])⟩⟩
 ·exact(vL (P:=p) ha hr).trans (by rw[qX])
 ·rw[hu];refine⟨AT _,λ_ _ _ _=>rfl,?_,?_,.refl w,?_,?_,?_,?_⟩
  ·intro b o pm h;simp only[Hp.aQ]at h;cases hh:fI c s b with
   | some z=>rw[hh]at h;exact E.leS b o pm (by rw[R];exact hh.trans h)
   | none=>rw[hh]at h;exact E.le b o pm (Q b _ h)
  ·intro b x h;simp only[Hp.aQ]at h;cases hh:fI c s b with
   | some z=>rw[hh]at h;exact .inr ⟨x,.inr (by rw[R];exact hh.trans h),λ_=>rfl⟩
   | none=>rw[hh]at h;exact .inr ⟨x,.inl (Q b _ h),λ_=>rfl⟩
  ·exact N8
  ·exact N7
  ·intro op iC;simp only[qAb,iF]at iC;rw[iC];exact E.leS.lt (m.atM ok)
  have HC:=m.tr.J0 (y:={ g:=i,fn:=J.fn,pos:=J.place,act:=.mark (.releaseMerge (cC c.M)) }) rfl hD ⟨hb,u,by unfold VF;rw[d];simp[cd]⟩ (zC:=FB c ((fI c s).join C)) (λb gN=>.inr λq x a hq wF JN=>by obtain⟨⟨y,hy⟩,b1,b2⟩:=gN;have hmn:fI c s b=none:=UX b1 b2;simp only[Hp.aQ]at hy;rw[hmn]at hy;have hw:=ok.own _ _ Z b y hy;refine E.perm b y.1 y.2 (Q b _ hy) q a ?_ JN (.inl hw);rw[touchAt_of hq];exact wF);refine⟨iD,HC.sub (λj r=>?_) (λ_ h=>h),λj r T=>?_,λpQ=>?_,.inr ⟨rU,C,rfl,oY,Z⟩⟩
  ·unfold VF at r ⊢;simp only at r;by_cases e:j=i
   ·subst e;rw[upd_same]at r;simp[cd]at r
   rw[upd_ne _ _ e]at r;exact r
  ·have:=BO (i:=i) (l:=[13]) (es:=#[⟨.mark (.releaseMerge (cC c.M)),false,true⟩]) (fn:=J.fn) (pos:=J.place) m.deaf (λ_=>by rw[hD];rfl) r T;rw[<-hu];exact this
  simp only[upd_ne _ _ (qAm N)]at pQ;have:=m.cnt.over O hb u;rw[d]at this;simp at this
 ·rw[hu];refine⟨λb o pm h=>E.le b o pm (Hp.aJ h),?_,λb x h=>.inr ⟨x,.inl (Hp.aJ h),λ_=>rfl⟩,?_⟩
  ·intro b x y D B;simp only[Hp.aQ]at B;cases hh:fI c s b with
   | some z=>rw[hh]at B;exact E.dis b x y (Hp.aJ D) (by rw[R];exact hh.trans B)
   | none=>rw[hh]at B;exact hc b x y D B
  have D:dG (t++#[{ g:=i,fn:=J.fn,pos:=J.place,act:=.mark (.releaseMerge (cC c.M)) }]) i (K.join C):=
   E.perm.own λop iC=>.inl (by simp only[qAb,iF]at iC;rw[iC])
  exact D.left
 have r:Ya s j:=r;show Ya _ j;unfold Ya at r ⊢;have:j≠i:=by rintro rfl;rw[d]at r;simp[cd]at r
 simp only[upd_ne _ _ this];exact r
def ZzR(ok:c.Ok)(F:dC p f (Extern.Race.marked .releaseMerge))(X:(cd H.gh=1/\¬ c.need i=true)\/cd H.gh=19) :
  Zp ((aZ p c).prgW i) (callFunc f #[.pointer (some (cC c.W))]) wk nr H (λv Y=>v=Zz/\Y=H.tagged [20]):=by
 have o:1<=cd H.gh/\cd H.gh<=19/\cd H.gh≠12/\cd H.gh≠7:=O;intro G u nx cs lU ha hG;refine .dL ⟨λe=>by rw[e]at o;simp[cd]at o,.inr (.inl ⟨.inl ⟨o.1,o.2.1⟩,λs U t w r=>.inl ?_⟩)⟩;have m:s.tag i=H.gh:=r.tag;have B:i<s.next:=r.lt;have z:Yb c s U t:=r.inv;have hb:=UJ r (by rw[m];exact o.1) (by rw[m];omega);have Q:i≠0:=by have:=z.cnt.pos;omega
 have V:Deaf t i=0:=by rw[Um r (by rw[m];omega),m];rcases X with⟨e,_⟩ | e<;>rw[e]<;>rfl
 have hr:=AW F (cC c.W) w;have N:seen p u.fn (#[YA f]++#[⟨.mark (.releaseMerge (cC c.W)),false,true⟩])=#[⟨.mark (.releaseMerge (cC c.W)),false,true⟩]:=vG λx F=>by simp at F;subst F;exact⟨rfl,by simp⟩
 have R:Z3 i u #[⟨.mark (.releaseMerge (cC c.W)),false,true⟩]=#[{ g:=i,fn:=u.fn,pos:=u.place,act:=.mark (.releaseMerge (cC c.W)) }]:=by simp[Z3,ofEvents_eq,MemAct.ofEvent]
 have D:aW c { s with tag:=upd s.tag i [20] }:=by
  rcases X with⟨e,hn⟩ | e
  ·exact(z.cnt.hV (l:=[20]) B hb (by rw[m];exact e) rfl hn trivial).1
  exact(z.cnt.gD (l:=[20]) B hb (by rw[m];exact e) rfl trivial).1
 have E:VX { s with tag:=upd s.tag i [20] }↔VX s:=by
  constructor
  ·rintro⟨j,I,A⟩;by_cases e:j=i
   ·subst e;simp only[upd_same,cd]at A;simp at A
   simp only[upd_ne _ _ e]at A;exact⟨j,I,A⟩
  rintro⟨j,I,A⟩;by_cases e:j=i
  ·subst e;rw[m]at A;omega
  exact⟨j,I,by simp only[upd_ne _ _ e];exact A⟩
 refine⟨nx Zz,cs,w,H.tagged [20],{ s with tag:=upd s.tag i [20] },U,#[⟨.mark (.releaseMerge (cC c.W)),false,true⟩],?_,?_,?_,λj=>rfl,rfl,AT _,.inr λj q=>?_,.inr ⟨by show Yh _;simp[Hp.tagged,Yh,cd],hG _ _ ⟨rfl,rfl⟩⟩⟩
 ·exact(vL (P:=p) ha hr).trans (by rw[N])
 ·rw[R];refine⟨AT _,λ_ _ _ _=>rfl,r.leS,λb x h=>.inr ⟨x,.inr h,λ_=>rfl⟩,.refl w,?_,?_,?_,?_⟩
  ·exact N8
  ·exact N7
  ·intro op iC;simp only[qAb,iF]at iC;rw[iC];exact r.leS.lt z.atW
  have T:=Tr.release ok.ne z.tr (y:={ g:=i,fn:=u.fn,pos:=u.place,act:=.mark (.releaseMerge (cC c.W)) }) rfl V;refine⟨D,T.sub (λj q=>?_) (λ_ h=>h),λj q K=>?_,λJ=>?_,?_⟩
  ·unfold VF at q ⊢;simp only at q;by_cases e:j=i
   ·exact .inr e
   rw[upd_ne _ _ e]at q;exact .inl q
  ·have:=BO (i:=i) (l:=[20]) (es:=#[⟨.mark (.releaseMerge (cC c.W)),false,true⟩]) (fn:=u.fn) (pos:=u.place) z.deaf (λ_=>by rw[V];rfl) q K;rw[<-R];exact this
  ·simp only[upd_ne _ _ (qAm Q)]at J;have:=z.cnt.over O hb B;rw[m]at this;rw[this]at o;simp[cd]at o
  exact z.heap.imp (λ⟨a,b⟩=>⟨E.2 a,b⟩) λ⟨a,Z,b,cc,d⟩=>⟨λh=>a (E.1 h),Z,b,cc,d⟩
 ·rw[R];exact⟨r.le,r.dis,λb x h=>.inr ⟨x,.inl h,λ_=>rfl⟩,r.perm.own λop iC=>.inl (by simp only[qAb,iF]at iC;rw[iC])⟩
 have q:Ya s j:=q;show Ya _ j;unfold Ya at q ⊢;have:j≠i:=by rintro rfl;rw[m]at q;omega
 simp only[upd_ne _ _ this];exact q
end
