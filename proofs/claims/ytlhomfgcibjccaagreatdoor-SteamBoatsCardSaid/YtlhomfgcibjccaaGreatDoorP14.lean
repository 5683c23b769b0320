import Derived.Test.YtlhomfgcibjccaaGreatDoorP05
import Derived.Test.YtlhomfgcibjccaaGreatDoorP13
set_option linter.all false
namespace Go.LL
section
variable{l:List Nat}{vs:Array Value}{a:Addr}{ty wI:TypeId}{v d n:Int}{x:Operand}{ρ:Operand->Value}{fn:FuncId}{C:TC}{Post:Value->Hp->Prop}{b off:Nat}{wr:Bool}{k:IntKind}
open Go.Conc
open Go.ConcN (sumTo upd sumTo_upd upd_ne upd_same)
section
variable{p:Program}{c:Cx}{i:Nat}{H:Hp}{s:Ts}{Hs:Hp}{t:Trace}{w:World}{f:FuncId}{wk nr:Bool}
def YY(j:cd (s.tag i)≠7)(e:cd (s.tag i)≠36):¬ ZQ s i\/l=s.tag i:=by
 left;rintro(⟨h,_⟩ | ⟨h,_⟩)
 ·exact j h
 exact e h
def Be{α:Type}(g:Nat->α)(i:Nat)(a b:α):upd (upd g i a) i b=upd g i b:=by
 funext j;by_cases e:j=i
 ·subst e;rw[upd_same,upd_same]
 rw[upd_ne _ _ e,upd_ne _ _ e,upd_ne _ _ e]
theorem WA(ok:c.Ok){m:Mark}(u:m=.disable\/m=.enable)(I:eX p f (λ_=>do mark m;pure Zt)){a:Nat}(F:cd H.cg=a)(K:1<=a/\a<=19)(G:1<=cd l/\cd l<=19)(D:a≠7/\a≠12/\cd l≠12)
  (r:deafBehind (df a) #[⟨.mark m,false,true⟩]=df (cd l))
  (o:∀s:Ts,bP c s->i<s.next->c.base<=i->cd (s.tag i)=a->s.hd i=H.hd->bP c { s with tag:=upd s.tag i l }):Zk ((bO p c).prgW i) (callFunc f vs) wk nr H (λv z=>v=Zt/\z=H.tagc l):=by
 have q:∀g,m≠.extern g:=by rcases u with rfl | rfl<;>simp
 refine O6 ok (.inl ⟨O,O⟩) λs Hs t w j=>.inr ⟨Zt,l,?_,.inl G,rfl,rfl⟩;have h:cd (s.tag i)=a:=by rw[(YD j O).1];exact F
 have E:ZL c s Hs t:=j.inv;obtain⟨A,B⟩:=X5 (C:=c.toTC) (i:=i) (d:=Deaf t i) (m:=m) (by rcases u with rfl | rfl<;>simp);refine eJ.CJ ok j (Q0 q I vs w) (λfn _=>Q1 q fn) (.inl ⟨rfl,rfl⟩) (o s E.cnt j.lt (UD j O O) h (YD j O).2) ⟨A,B,?_⟩ (.inr id) (YY O O) O ⟨D.2.2,O⟩ (λe=>O);rw[VT j O,h,r,aT O]
def Zyv(ok:c.Ok)(u:eX p f (λ_=>do mark .disable;pure Zt))(m:cd H.cg=1)(r:c.need H.hd=true):Zk ((bO p c).prgW i) (callFunc f vs) wk nr H (λv e=>v=Zt/\e=H.tagc [2]):=
 WA ok (.inl rfl) u m O (by simp[cd]) (by simp[cd]) rfl λs h q hb j o=>(h.rR (l:=[2]) q hb j rfl (o ▸ r) trivial).1
def OV(ok:c.Ok)(q:eX p f (λ_=>do mark .enable;pure Zt))(m:cd H.cg=10):Zk ((bO p c).prgW i) (callFunc f vs) wk nr H (λv e=>v=Zt/\e=H.tagc [11]):=
 WA ok (.inr rfl) q m O (by simp[cd]) (by simp[cd]) rfl λs h o hb j _=>(h.nC (l:=[11]) o hb j rfl trivial).1
def Zyu(ok:c.Ok)(q:eX p f (λ_=>do mark .disable;pure Zt))(m:cd H.cg=13):Zk ((bO p c).prgW i) (callFunc f vs) wk nr H (λv e=>v=Zt/\e=H.tagc [14]):=
 WA ok (.inl rfl) q m O (by simp[cd]) (by simp[cd]) rfl λs h o hb j _=>(h.nB (l:=[14]) o hb j rfl trivial).1
def Zyt(ok:c.Ok)(q:eX p f (λ_=>do mark .enable;pure Zt))(m:cd H.cg=18):Zk ((bO p c).prgW i) (callFunc f vs) wk nr H (λv e=>v=Zt/\e=H.tagc [19]):=
 WA ok (.inr rfl) q m O (by simp[cd]) (by simp[cd]) rfl λs h o hb j _=>(h.m8 (l:=[19]) o hb j rfl (by simp) trivial).1
def Zhz(h:Yd p ty=some none){v:Value}(r:w.cell? a=some v)(B:ρ x=.pointer (some a)) :
  (execOp ρ (aR (.load ty x) wI)).runT p w #[]=(.ok (.value v) w,#[⟨.cell a,false,false⟩]):=by
 have e:execOp ρ (aR (.load ty x) wI)=(do pure (.value (<-Instr.loadAt ty (.pointer (some a)))):Sem Next):=by simp[execOp,aR,B]
 have j:∃d,p.underlying ty=some d/\(∀m,d≠.struct m)/\∀n e,d≠.array n e:=by unfold Yd at h;split at h<;>simp only[qAe,reduceCtorEq]at h;rename_i d i A y o q;exact⟨d,o,λm e=>A m (by rw[<-e]),λn e u=>y n e (by rw[<-u])⟩
 obtain⟨d,z,D,E⟩:=j;have hb:(match d with | .struct _ | .array _ _=>true | _=>false)=false:=by
  cases d with
  | struct m=>exact absurd rfl (D m)
  | array n e=>exact absurd rfl (E n e)
  | _=>rfl
 have j:(isAgg ty).run p w=.ok false w:=by simp only[isAgg,underlying,bind,Sem.bind,program,Sem.run,z,pure]
 rw[e,Sem.runT_eq];have o:(do pure (.value (<-Instr.loadAt ty (.pointer (some a)))):Sem Next).run p w=.ok (.value v) w:=by simp[Instr.loadAt,Instr.sureAddr,loadVar,j,r,Result.andThen]
 have q:(do pure (.value (<-Instr.loadAt ty (.pointer (some a)))):Sem Next).events p w #[]=#[⟨.cell a,false,false⟩]:=by simp[Instr.loadAt,Instr.sureAddr,loadVar,j,r,Result.andThen,Result.evThen,events_load]
 rw[o,q]
def Zhi(h:norace p fn=true):seen p fn #[⟨.cell a,false,false⟩]=#[]:=by unfold norace at h;simp[seen,h]
def IT(ok:c.Ok)(e:dY (bO p c) i H s Hs t w):w.cell? ⟨c.M,0,none⟩=some (.int .i32 (s.mu.st:Nat))/\w.frozen? ⟨c.M,0,none⟩=false/\w.cell? ⟨c.M,1,none⟩=some (.int .u32 (s.mu.sm:Nat))/\w.frozen? ⟨c.M,1,none⟩=false:=by obtain⟨h,j⟩:=VV (off:=0) (v:=.int .i32 (s.mu.st:Nat)) (wM ok e) rfl;obtain⟨m,o⟩:=VV (off:=1) (v:=.int .u32 (s.mu.sm:Nat)) (wM ok e) rfl;exact⟨h,j,m,o⟩
def ZiZ{d:Nat}:EX C i d #[]/\(∀e∈(#[]:Array Event),∀B,C.M<B->C.W<B->(MemAct.ofEvent e).low B)/\deafBehind d #[]=d:=⟨λk e h=>by simp at h,λe h=>by simp at h,rfl⟩
theorem T7(ok:c.Ok)(r:Yd p ty=some none)(J:ρ x=.pointer (some (dZ c.M)))(q:1<=cd H.cg/\cd H.cg<=19/\cd H.cg≠7/\cd H.cg≠12)
  (h:∀s:Ts,bP c s->i<s.next->c.base<=i->s.tag i=H.cg->∃l,bP c { s with tag:=upd s.tag i l }/\1<=cd l/\cd l<=19/\cd l≠12/\df (cd l)=df (cd H.cg)/\Post (.int .i32 (s.mu.st:Nat)) (H.tagc l)) :
  Zk ((bO p c).prgW i) (execOp ρ (aR (.load ty x) wI)) wk true H Post:=by
 refine O6 ok (.inl ⟨q.1,q.2.1⟩) λs Hs t w m=>.inr ?_;obtain⟨j,G⟩:=YD m O;have F:ZL c s Hs t:=m.inv;obtain⟨l,y,z,A,B,D,E⟩:=h s F.cnt m.lt (UD m (by rw[j];exact q.1) (by rw[j];omega)) j;obtain⟨K,N,P⟩:=ZiZ (i:=i) (d:=Deaf t i) (C:=c.toTC);refine⟨_,l,?_,.inl ⟨z,A⟩,E⟩;refine eJ.CJ ok m (Zhz r (IT ok m).1 J) (λfn I=>Zhi (I rfl)) (.inl ⟨rfl,rfl⟩) y ⟨K,N,?_⟩ (.inr id) (YY (by rw[j];omega) (by rw[j];omega)) (by rw[j];omega) ⟨B,O⟩ (λe=>O);rw[P,VT m (by rw[j];omega),j,aT O,D]
def LV(hb:b=C.M\/b=C.W):∀e∈#[qH b off wr],∃b off wr,e=qH b off wr/\(b=C.M\/b=C.W):=by intro e h;simp at h;exact⟨b,off,wr,h,hb⟩
def QC(hb:b=C.M\/b=C.W):∀e∈#[qH b off false,qH b off true],∃b off wr,e=qH b off wr/\(b=C.M\/b=C.W):=by
 intro e h;simp at h;rcases h with rfl | rfl
 ·exact⟨b,off,false,rfl,hb⟩
 exact⟨b,off,true,rfl,hb⟩
def Zhk{f:FuncId}{j:Array Event}(h:∀e∈j,∃b off wr,e=qH b off wr):seen p fn (#[Yn f]++j)=j:=
 O8 λx m=>by obtain⟨b,off,wr,rfl⟩:=h x m;exact⟨rfl,λg h=>by simp[qH]at h⟩
def O7{f:FuncId}:seen p fn (#[Yn f]++#[qH b off wr])=#[qH b off wr]:=Zhk λe h=>by simp at h;exact⟨b,off,wr,h⟩
def LM{f:FuncId}:seen p fn (#[Yn f]++#[qH b off false,qH b off true])=#[qH b off false,qH b off true]:=Zhk λe h=>by
 simp at h;rcases h with rfl | rfl
 ·exact⟨b,off,false,rfl⟩
 exact⟨b,off,true,rfl⟩
theorem ZhC(j:eX p f (Extern.Atomic.casT (.int k)))(e:w.cell? a=some (.int k v))(h:w.frozen? a=false) :
  (callFunc f #[.pointer (some a),.int k v,.int k n]).runT p w #[]=(.ok (.value (.bool true)) (w.setCell a (.int k n)),#[Yn f]++#[⟨.cell a,false,true⟩,⟨.cell a,true,true⟩]):=
 j.val (by rw[casT_eq];exact run_cas_hit_entry e h) (by rw[casT_eq,events_cas_hit_entry e h];rfl)
theorem ZhB(m:eX p f (Extern.Atomic.casT (.int k))){o:Int}(h:w.cell? a=some (.int k v))(j:w.frozen? a=false)(e:¬ v=o) :
  (callFunc f #[.pointer (some a),.int k o,.int k n]).runT p w #[]=(.ok (.value (.bool false)) w,#[Yn f]++#[⟨.cell a,false,true⟩]):=
 m.val (by rw[casT_eq];exact run_cas_miss_entry h j e) (by rw[casT_eq,events_cas_miss_entry h j e];rfl)
theorem Lz(j:eX p f (Extern.Atomic.update (Op.intArith .add) k true))(e:w.cell? a=some (.int k v))(h:w.frozen? a=false) :
  (callFunc f #[.pointer (some a),.int k d]).runT p w #[]=(.ok (.value (.int k (k.wrap (v+d)))) (w.setCell a (.int k (k.wrap (v+d)))),#[Yn f]++#[⟨.cell a,false,true⟩,⟨.cell a,true,true⟩]):=
 j.val (run_add_entry e h) (by rw[events_add_entry e h];rfl)
theorem IR(ok:c.Ok)(T:eX p f (Extern.Atomic.casT (.int .i32))){o n:Nat}(z:1<=cd H.cg/\cd H.cg<=19/\cd H.cg≠7/\cd H.cg≠12/\df (cd H.cg)=1)
  (q:∀s:Ts,bP c s->i<s.next->c.base<=i->s.tag i=H.cg->s.mu.st=o->∃x' l,bP c { s with mu:=x',tag:=upd s.tag i l }/\x'.st=n/\x'.sm=s.mu.sm/\1<=cd l/\cd l<=19/\cd l≠12/\df (cd l)=1/\Post (.bool true) (H.tagc l))
  (m:∀s:Ts,bP c s->i<s.next->c.base<=i->s.tag i=H.cg->s.mu.st≠o->∃l,bP c { s with tag:=upd s.tag i l }/\1<=cd l/\cd l<=19/\cd l≠12/\df (cd l)=1/\Post (.bool false) (H.tagc l)) :
  Zk ((bO p c).prgW i) (callFunc f #[.pointer (some (dZ c.M)),.int .i32 (o:Nat),.int .i32 (n:Nat)]) wk nr H Post:=by
 refine O6 ok (.inl ⟨z.1,z.2.1⟩) λs Hs t w j=>.inr ?_;obtain⟨h,X⟩:=YD j O;have Q:ZL c s Hs t:=j.inv;have r:=UD j (by rw[h];exact z.1) (by rw[h];omega);have P:Deaf t i=1:=by rw[VT j (by rw[h];omega),h];exact z.2.2.2.2
 obtain⟨R,U,_⟩:=IT ok j;by_cases y:s.mu.st=o
 ·obtain⟨x',l,A,V,N,B,D,E,F,G⟩:=q s Q.cnt j.lt r h y;obtain⟨I,J,K⟩:=Ut (i:=i) (d:=Deaf t i) (C:=c.toTC) (QC (off:=0) (.inl rfl)) O;refine⟨.bool true,l,?_,.inl ⟨B,D⟩,G⟩;subst y;refine eJ.CJ (x':=x') ok j (ZhC T R U) (λfn _=>LM) (.inr ⟨0,_,rfl,by rw[V,N];rfl⟩) A ⟨I,J,?_⟩ (.inr λe=>by rw[N];exact e) (YY (by rw[h];omega) (by rw[h];omega)) (by rw[h];omega) ⟨E,O⟩ (λe=>O);rw[K,P,aT O,F]
 obtain⟨l,A,B,D,E,F,G⟩:=m s Q.cnt j.lt r h y;obtain⟨I,J,K⟩:=Ut (i:=i) (d:=Deaf t i) (C:=c.toTC) (LV (off:=0) (wr:=false) (.inl rfl)) O;refine⟨.bool false,l,?_,.inl ⟨B,D⟩,G⟩;refine eJ.CJ ok j (ZhB T R U (λe=>y (by exact_mod_cast e))) (λfn _=>O7) (.inl ⟨rfl,rfl⟩) A ⟨I,J,?_⟩ (.inr id) (YY (by rw[h];omega) (by rw[h];omega)) (by rw[h];omega) ⟨E,O⟩ (λe=>O);rw[K,P,aT O,F]
def Wf(ok:c.Ok)(P:eX p f (Extern.Atomic.update (Op.intArith .add) .i32 true))(o:1<=cd H.cg/\cd H.cg<=19/\cd H.cg≠7/\cd H.cg≠12/\df (cd H.cg)=1)
  (h:∀s:Ts,bP c s->i<s.next->c.base<=i->s.tag i=H.cg->∃x' l,bP c { s with mu:=x',tag:=upd s.tag i l }/\IntKind.i32.wrap ((s.mu.st:Nat)+d)=(x'.st:Nat)/\x'.sm=s.mu.sm/\1<=cd l/\cd l<=19/\cd l≠12/\df (cd l)=1/\Post (.int .i32 (x'.st:Nat)) (H.tagc l)) :
  Zk ((bO p c).prgW i) (callFunc f #[.pointer (some (dZ c.M)),.int .i32 d]) wk nr H Post:=by
 refine O6 ok (.inl ⟨o.1,o.2.1⟩) λs Hs t w m=>.inr ?_;obtain⟨j,N⟩:=YD m O;have J:ZL c s Hs t:=m.inv;have q:=UD m (by rw[j];exact o.1) (by rw[j];omega);have I:Deaf t i=1:=by rw[VT m (by rw[j];omega),j];exact o.2.2.2.2
 obtain⟨K,Q,_⟩:=IT ok m;obtain⟨x',l,z,A,r,B,D,E,F,G⟩:=h s J.cnt m.lt q j;obtain⟨R,T,U⟩:=Ut (i:=i) (d:=Deaf t i) (C:=c.toTC) (QC (off:=0) (.inl rfl)) O;refine⟨.int .i32 (x'.st:Nat),l,?_,.inl ⟨B,D⟩,G⟩;have u:=Lz P (d:=d) K Q;rw[A]at u;refine eJ.CJ (x':=x') ok m u (λfn _=>LM) (.inr ⟨0,_,rfl,by rw[r];rfl⟩) z ⟨R,T,?_⟩ (.inr λe=>by rw[r];exact e) (YY (by rw[j];omega) (by rw[j];omega)) (by rw[j];omega) ⟨E,O⟩ (λe=>O);rw[U,I,aT O,F]
def Zhy(o:eX p f Extern.Sync.semacquire){rest:Array Value}(e:vs[0]? = some (.pointer (some a)))(h:w.cell? a=some (.int .u32 n))(m:w.frozen? a=false)(j:n≠0) :
  (callFunc f vs).runT p w #[]=(.ok (.value Zt) (w.setCell a (.int .u32 (n-1))),#[Yn f]++semEvents a):=
 o.val (by simp[Extern.Sync.semacquire,Extern.Sync.count,e,h,j,m,Extern.Sync.none_,run_store p w a (.int .u32 (n-1)) .atomic rfl,Result.andThen])
  (by simp[Extern.Sync.semacquire,Extern.Sync.count,e,h,j,m,semEvents,events_load,events_store p w _ a (.int .u32 (n-1)) .atomic rfl,run_store p w a (.int .u32 (n-1)) .atomic rfl,Result.evThen])
def Zhx(j:eX p f Extern.Sync.semacquire)(e:vs[0]? = some (.pointer (some a)))(h:w.cell? a=some (.int .u32 0)):∃es,(callFunc f vs).runT p w #[]=(.halt .blocked w,es):=
 j.blocks (by simp[Extern.Sync.semacquire,Extern.Sync.count,e,h])
def Zhw(m:eX p f Extern.Sync.semrelease)(e:vs[0]? = some (.pointer (some a)))(h:w.cell? a=some (.int .u32 n))(j:w.frozen? a=false) :
  (callFunc f vs).runT p w #[]=(.ok (.value Zt) (w.setCell a (.int .u32 (IntKind.u32.wrap (n+1)))),#[Yn f]++semEvents a):=
 m.val (by simp[Extern.Sync.semrelease,Extern.Sync.count,e,h,j,Extern.Sync.none_,Op.intArith,run_store p w a (.int .u32 (IntKind.u32.wrap (n+1))) .atomic rfl,Result.andThen])
  (by simp[Extern.Sync.semrelease,Extern.Sync.count,e,h,j,semEvents,Op.intArith,events_load,events_store p w _ a (.int .u32 (IntKind.u32.wrap (n+1))) .atomic rfl,run_store p w a (.int .u32 (IntKind.u32.wrap (n+1))) .atomic rfl,Result.evThen])
def Aq{f:FuncId}:seen p fn (#[Yn f]++semEvents a)=semEvents a:=O8 (semEvents_sync a)
end
end
variable{L W S n M k v:Nat}{g:Nat->Nat}{ty wI:TypeId}{x:Operand}{ρ:Operand->Value}{vs:Array Value}
open Go.Conc
open Go.ConcN (sumTo upd sumTo_upd upd_ne upd_same)
def cI(L W S n:Nat):Nat:=L+2 * W+4 * S+8 * n
structure dV(L W S n:Nat):Prop where
 L:L<=1
 W:W<=1
 S:S<=1
 n:n<=200000000
def dV.eq{j o m q:Nat}(h:dV L W S n)(r:dV j o m q)(e:cI L W S n=cI j o m q):L=j/\W=o/\S=m/\n=q:=by obtain⟨u,y,a3,_⟩:=h;obtain⟨z,A,B,_⟩:=r;unfold cI at e;omega
section
variable{p:Program}{c:Cx}{i:Nat}{H:Hp}{s:Ts}{f:FuncId}{wk nr:Bool}
def Zy1(e:∀n,g n<=1)(tag:Nat->List Nat)(k:Nat):Ct g tag k<=k:=by have:=Mg (f:=λi=>g (cd (tag i))) (b:=0) (n:=k) (qAI _) (λi _=>e _) (λi h=>absurd h (qBm _));simpa[Ct]using this
def QT(b:Bool):one b<=1:=by cases b<;>decide
def bP.B5(h:bP c s)(o:∀n,g n<=1)(m:g 0=0)(j:∀n,30<=n->g n=0):Ct g s.tag s.next<=c.K:=by
 have:=Mg (f:=λi=>g (cd (s.tag i))) (b:=c.base) (n:=s.next) h.nb (λi _=>o _) (λi q=>by
  rcases qBo i with e | e
  ·subst e;exact j _ h.wg.main
  simp only[h.olds i e q];exact m)
 have r:=h.num;have e:Ct g s.tag s.next=sumTo s.next (λi=>g (cd (s.tag i))):=rfl;omega
def bP.bits(ok:c.Ok)(h:bP c s):dV s.mu.L s.mu.W s.mu.S s.mu.n:=by
 have q:=h.B5 (g:=cQ) (λn=>QT _) rfl (λn m=>by simp[cQ,one];omega);have r:=h.B5 (g:=cA) (λn=>QT _) rfl (λn m=>by simp[cA,one];omega);have u:=h.num;have y:=ok.E4;obtain⟨o,j,f3,f4,f5,f6⟩:=h.mu;refine⟨j,f3,f4,?_⟩;rcases qBo s.mu.S with e | e
 ·have:=f5 e;omega
 have:=f6 O;omega
theorem Ym(x:Mu):x.st=cI x.L x.W x.S x.n:=rfl
def ZvL(h:bP c s)(o:i<s.next)(j:cd (s.tag i)=5\/cd (s.tag i)=6):s.mu.S=0/\s.mu.W=1:=by
 have:=Ct.le cT s.tag o;have e:cT (cd (s.tag i))=1:=by rcases j with j | j<;>rw[j]<;>rfl
 obtain⟨q,r,f3,f4,f5,f6⟩:=h.mu;rcases qBo s.mu.S with m | m
 ·have:=f5 m;omega
 have:=f6 O;omega
def T8(ok:c.Ok)(A:Yd p ty=some none)(P:ρ x=.pointer (some (dZ c.M)))(J:H.cg=[3]\/H.cg=[3,M]\/∃v,H.cg=[4,v,M]) :
  Zk ((bO p c).prgW i) (execOp ρ (aR (.load ty x) wI)) wk true H (λv D=>∃L W S n m,dV L W S n/\v=.int .i32 (cI L W S n:Nat)/\D=H.tagc [4,cI L W S n,m]/\(H.cg=[3,M]->m<M)/\((∃v,H.cg=[4,v,M])->m<=M)):=by
 have r:cd H.cg=3\/cd H.cg=4:=by rcases J with e | e | ⟨v,e⟩<;>rw[e]<;>simp[cd]
 refine T7 ok A P O λs h u hb y=>?_;have q:=h.bits ok;have key:∀m,Mu.mu s.mu s.pm (upd s.tag i [4,s.mu.st,m]) s.next=Mu.mu s.mu s.pm s.tag s.next->m=Mu.mu s.mu s.pm s.tag s.next->s.mu.jA (Mu.mu s.mu s.pm (upd s.tag i [4,s.mu.st,m]) s.next) [4,s.mu.st,m]:=by intro m e N;rw[e];exact⟨qDO N.symm,λ_=>rfl⟩
 have z:∀l:List Nat,cd l=4->Mu.mu s.mu s.pm (upd s.tag i l) s.next=Mu.mu s.mu s.pm s.tag s.next:=by
  intro l K;have e:=counts (tag:=s.tag) (l:=l) u iP;rw[y,K]at e;have Q:iP (cd H.cg)=6:=by rcases r with e | e<;>rw[e]<;>rfl
  have F:iP 4=6:=rfl;unfold Mu.mu;omega
 refine⟨[4,s.mu.st,Mu.mu s.mu s.pm s.tag s.next],?_,by simp[cd],by simp[cd],by simp[cd],by rcases r with e | e<;>rw[e]<;>rfl,s.mu.L,s.mu.W,s.mu.S,s.mu.n,_,q,rfl,rfl,λe=>?_,λ⟨v,e⟩=>?_⟩
 ·rcases r with e | e
  ·exact(h.same3_4 u hb (by rw[y];exact e) rfl (key _ (z _ rfl) rfl)).1
  have G:=(h.oN (l:=[3]) u hb (by rw[y];exact e) rfl trivial).1;have B:Mu.mu s.mu s.pm (upd s.tag i [3]) s.next=Mu.mu s.mu s.pm s.tag s.next:=by have E:=counts (tag:=s.tag) (l:=[3]) u iP;rw[y,e]at E;have F:iP 4=6:=rfl;have R:iP (cd [3])=6:=rfl;unfold Mu.mu;omega
  have I:=(G.same3_4 (i:=i) (l:=[4,s.mu.st,Mu.mu s.mu s.pm s.tag s.next]) u hb (by show cd (upd s.tag i [3] i)=3;rw[upd_same];rfl) rfl (by show s.mu.jA (Mu.mu s.mu s.pm (upd (upd s.tag i [3]) i _) s.next) _;rw[Be];exact key _ (z _ rfl) rfl)).1;show bP c { s with tag:=_ };rw[<-Be s.tag i [3]];exact I
 ·have:=h.says i u;rw[y,e]at this;exact this
 have:=h.says i u;rw[y,e]at this;exact this.1
def XQ{a b d e:Nat}(h:a+d=b+e)(j:e<d)(hb:b<=M):a<M:=O
def Ao{s:Ts}{i:Nat}(h:bP c s)(e:i<s.next)(m:s.tag i=[k,M])(j:k=3\/k=5\/k=7\/k=8\/k=16):Mu.mu s.mu s.pm s.tag s.next<M:=by have:=h.says i e;rw[m]at this;rcases j with rfl | rfl | rfl | rfl | rfl<;>exact this
def O9{s:Ts}{i:Nat}(h:bP c s)(e:i<s.next)(m:s.tag i=[k,v,M])(j:k=4\/k=6\/k=15):Mu.mu s.mu s.pm s.tag s.next<=M/\(Mu.mu s.mu s.pm s.tag s.next=M->s.mu.st=v):=by
 have:=h.says i e;rw[m]at this;rcases j with rfl | rfl | rfl
 ·exact this
 ·exact this
 exact⟨this.1,this.2.1⟩
def Zyz(ok:c.Ok)(r:eX p f (Extern.Atomic.casT (.int .i32)))(j:H.cg=[2]) :
  Zk ((bO p c).prgW i) (callFunc f #[.pointer (some (dZ c.M)),.int .i32 (0:Nat),.int .i32 (1:Nat)]) wk nr H (λv q=>(v=.bool true/\q=H.tagc [10])\/(v=.bool false/\q=H.tagc [3])):=by
 refine IR ok r (by rw[j];simp[cd,df,one]) (λs h m hb o e=>?_) (λs h m hb o e=>?_)
 ·have:=h.bits ok;rw[Ym]at e;unfold cI at e;refine⟨_,[10],(h.HO (l:=[10]) m hb (by rw[o,j];rfl) rfl (by rw[Ym];unfold cI;omega) trivial).1,?_,rfl,by simp[cd],by simp[cd],by simp[cd],rfl,.inl ⟨rfl,rfl⟩⟩;rw[Ym];unfold cI;simp only;omega
 exact⟨[3],(h.rQ (l:=[3]) m hb (by rw[o,j];rfl) rfl trivial).1,by simp[cd],by simp[cd],by simp[cd],rfl,.inr ⟨rfl,rfl⟩⟩
def Kt(h:bP c s)(m:i<s.next)(hb:c.base<=i)(q:s.tag i=[4,v,M])(o:s.mu.st≠v):bP c { s with tag:=upd s.tag i [3,M] }:=by
 have u:=O9 h m q (.inl rfl);have e:=counts (tag:=s.tag) (l:=[3,M]) m iP;rw[q]at e;have y:iP (cd [4,v,M])=6:=rfl;have z:iP (cd [3,M])=6:=rfl;have:Mu.mu s.mu s.pm (upd s.tag i [3,M]) s.next=Mu.mu s.mu s.pm s.tag s.next:=by unfold Mu.mu;omega
 refine(h.oN m hb (by rw[q];rfl) rfl ?_).1;show _<M;rw[this];rcases qBi (Mu.mu s.mu s.pm s.tag s.next) M with r | r
 ·exact r
 exact absurd (u.2 O) o
def Zlq(h:bP c s)(m:i<s.next)(hb:c.base<=i)(q:s.tag i=[6,v,M])(o:s.mu.st≠v):bP c { s with tag:=upd s.tag i [5,M] }:=by
 have u:=O9 h m q (.inr (.inl rfl));have e:=counts (tag:=s.tag) (l:=[5,M]) m iP;rw[q]at e;have y:iP (cd [6,v,M])=5:=rfl;have z:iP (cd [5,M])=5:=rfl;have:Mu.mu s.mu s.pm (upd s.tag i [5,M]) s.next=Mu.mu s.mu s.pm s.tag s.next:=by unfold Mu.mu;omega
 refine(h.oM m hb (by rw[q];rfl) rfl ?_).1;show _<M;rw[this];rcases qBi (Mu.mu s.mu s.pm s.tag s.next) M with r | r
 ·exact r
 exact absurd (u.2 O) o
def Zyx(ok:c.Ok)(A:eX p f (Extern.Atomic.casT (.int .i32)))(z:dV L 0 0 n)(e:H.cg=[4,cI L 0 0 n,M]) :
  Zk ((bO p c).prgW i) (callFunc f #[.pointer (some (dZ c.M)),.int .i32 (cI L 0 0 n:Nat),.int .i32 (cI L 1 0 n:Nat)]) wk nr H (λv q=>(v=.bool true/\q=H.tagc [5,M])\/(v=.bool false/\q=H.tagc [3,M])):=by
 refine IR ok A (by rw[e];simp[cd,df,one]) (λs h j hb m o=>?_) (λs h j hb m o=>?_)
 ·obtain⟨D,r,u,E⟩:=(h.bits ok).eq z o;have y:=(O9 h j (m.trans e) (.inl rfl)).1;obtain⟨m1,B⟩:=Mu.DR (more:=s.pm) (l:=[5,M]) h.mu j (by rw[m,e];rfl) rfl r u;refine⟨_,[5,M],(h.DR (l:=[5,M]) j hb (by rw[m,e];rfl) rfl r u ?_).1,?_,rfl,by simp[cd],by simp[cd],by simp[cd],rfl,.inl ⟨rfl,rfl⟩⟩
  ·show _<M;exact XQ B (by decide) y
  rw[Ym];unfold cI;simp only;omega
 exact⟨[3,M],Kt h j hb (m.trans e) o,by simp[cd],by simp[cd],by simp[cd],rfl,.inr ⟨rfl,rfl⟩⟩
def Zyw(ok:c.Ok)(z:eX p f (Extern.Atomic.casT (.int .i32)))(y:dV 0 W 0 n)(j:H.cg=[4,cI 0 W 0 n,M]) :
  Zk ((bO p c).prgW i) (callFunc f #[.pointer (some (dZ c.M)),.int .i32 (cI 0 W 0 n:Nat),.int .i32 (cI 1 W 0 n:Nat)]) wk nr H (λv q=>(v=.bool true/\q=H.tagc [10])\/(v=.bool false/\q=H.tagc [3,M])):=by
 refine IR ok z (by rw[j];simp[cd,df,one]) (λs h m hb o e=>?_) (λs h m hb o e=>?_)
 ·obtain⟨r,A,u,B⟩:=(h.bits ok).eq y e;refine⟨_,[10],(h.AH (l:=[10]) m hb (by rw[o,j];rfl) rfl r u trivial).1,?_,rfl,by simp[cd],by simp[cd],by simp[cd],rfl,.inl ⟨rfl,rfl⟩⟩;rw[Ym];unfold cI;simp only;omega
 exact⟨[3,M],Kt h m hb (o.trans j) e,by simp[cd],by simp[cd],by simp[cd],rfl,.inr ⟨rfl,rfl⟩⟩
def Wh(ok:c.Ok)(B:eX p f (Extern.Atomic.casT (.int .i32)))(z:dV L W S n)(A:L=1\/S=1)(e:H.cg=[4,cI L W S n,M]) :
  Zk ((bO p c).prgW i) (callFunc f #[.pointer (some (dZ c.M)),.int .i32 (cI L W S n:Nat),.int .i32 (cI L W S (n+1):Nat)]) wk nr H (λv q=>(v=.bool true/\q=H.tagc [7,M])\/(v=.bool false/\q=H.tagc [3,M])):=by
 refine IR ok B (by rw[e];simp[cd,df,one]) (λs h j hb m o=>?_) (λs h j hb m o=>?_)
 ·obtain⟨E,F,G,I⟩:=(h.bits ok).eq z o;have y:=(O9 h j (m.trans e) (.inl rfl)).1;have r:s.mu.L=1\/s.mu.S=1:=O;obtain⟨m1,D⟩:=Mu.rW (more:=s.pm) (l:=[7,M]) h.mu j (by rw[m,e];rfl) rfl r;refine⟨_,[7,M],(h.rW (l:=[7,M]) j hb (by rw[m,e];rfl) rfl r ?_).1,?_,rfl,by simp[cd],by simp[cd],by simp[cd],rfl,.inl ⟨rfl,rfl⟩⟩
  ·show _<M;exact XQ D (by decide) y
  rw[Ym];unfold cI;simp only;omega
 exact⟨[3,M],Kt h j hb (m.trans e) o,by simp[cd],by simp[cd],by simp[cd],rfl,.inr ⟨rfl,rfl⟩⟩
def Wj(ok:c.Ok)(z:eX p f (Extern.Atomic.casT (.int .i32)))(y:dV 0 1 0 n)(j:H.cg=[6,cI 0 1 0 n,M]) :
  Zk ((bO p c).prgW i) (callFunc f #[.pointer (some (dZ c.M)),.int .i32 (cI 0 1 0 n:Nat),.int .i32 (cI 1 0 0 n:Nat)]) wk nr H (λv q=>(v=.bool true/\q=H.tagc [10])\/(v=.bool false/\q=H.tagc [5,M])):=by
 refine IR ok z (by rw[j];simp[cd,df,one]) (λs h m hb o e=>?_) (λs h m hb o e=>?_)
 ·obtain⟨r,A,u,B⟩:=(h.bits ok).eq y e;refine⟨_,[10],(h.AG (l:=[10]) m hb (by rw[o,j];rfl) rfl r u trivial).1,?_,rfl,by simp[cd],by simp[cd],by simp[cd],rfl,.inl ⟨rfl,rfl⟩⟩;rw[Ym];unfold cI;simp only;omega
 exact⟨[5,M],Zlq h m hb (o.trans j) e,by simp[cd],by simp[cd],by simp[cd],rfl,.inr ⟨rfl,rfl⟩⟩
def Wi(ok:c.Ok)(B:eX p f (Extern.Atomic.casT (.int .i32)))(z:Bool)(A:dV 1 1 0 n)(e:H.cg=[6,cI 1 1 0 n,M]) :
  Zk ((bO p c).prgW i) (callFunc f #[.pointer (some (dZ c.M)),.int .i32 (cI 1 1 0 n:Nat),.int .i32 (cI 1 0 (if z then 1 else 0) (n+1):Nat)]) wk nr H (λv u=>(v=.bool true/\u=H.tagc [7,M])\/(v=.bool false/\u=H.tagc [5,M])):=by
 refine IR ok B (by rw[e];simp[cd,df,one]) (λs h j hb m q=>?_) (λs h j hb m q=>?_)
 ·obtain⟨o,D,E,F⟩:=(h.bits ok).eq A q;have y:=(O9 h j (m.trans e) (.inr (.inl rfl))).1;cases z with
  | false=>
   obtain⟨m1,r⟩:=Mu.rV (more:=s.pm) (l:=[7,M]) h.mu j (by rw[m,e];rfl) rfl o;refine⟨_,[7,M],(h.rV (l:=[7,M]) j hb (by rw[m,e];rfl) rfl o ?_).1,?_,rfl,by simp[cd],by simp[cd],by simp[cd],rfl,.inl ⟨rfl,rfl⟩⟩
   ·show _<M;exact XQ r (by decide) y
   rw[Ym];unfold cI;simp;omega
  | true=>
   obtain⟨m1,r⟩:=Mu.oO (more:=s.pm) (l:=[7,M]) h.mu j (by rw[m,e];rfl) rfl o;refine⟨_,[7,M],(h.oO (l:=[7,M]) j hb (by rw[m,e];rfl) rfl o ?_).1,?_,rfl,by simp[cd],by simp[cd],by simp[cd],rfl,.inl ⟨rfl,rfl⟩⟩
   ·show _<M;exact XQ r (by decide) y
   rw[Ym];unfold cI;simp;omega
 exact⟨[5,M],Zlq h j hb (m.trans e) q,by simp[cd],by simp[cd],by simp[cd],rfl,.inr ⟨rfl,rfl⟩⟩
def T9(ok:c.Ok)(B:Yd p ty=some none)(N:ρ x=.pointer (some (dZ c.M)))(J:H.cg=[5,M]\/∃v,H.cg=[6,v,M]) :
  Zk ((bO p c).prgW i) (execOp ρ (aR (.load ty x) wI)) wk true H (λv F=>∃L n m,dV L 1 0 n/\v=.int .i32 (cI L 1 0 n:Nat)/\F=H.tagc [6,cI L 1 0 n,m]/\(H.cg=[5,M]->m<M)/\((∃v,H.cg=[6,v,M])->m<=M)):=by
 have q:cd H.cg=5\/cd H.cg=6:=by rcases J with e | ⟨v,e⟩<;>rw[e]<;>simp[cd]
 refine T7 ok B N O λs h r hb y=>?_;have o:=h.bits ok;obtain⟨D,E⟩:=ZvL h r (by rw[y];exact q);rw[D,E]at o;have z:s.mu.st=cI s.mu.L 1 0 s.mu.n:=by rw[Ym,D,E]
 have A:∀l:List Nat,cd l=5\/cd l=6->Mu.mu s.mu s.pm (upd s.tag i l) s.next=Mu.mu s.mu s.pm s.tag s.next:=by
  intro l K;have e:=counts (tag:=s.tag) (l:=l) r iP;rw[y]at e;have P:iP (cd H.cg)=5:=by rcases q with e | e<;>rw[e]<;>rfl
  have Q:iP (cd l)=5:=by rcases K with e | e<;>rw[e]<;>rfl
  unfold Mu.mu;omega
 have key:s.mu.jA (Mu.mu s.mu s.pm (upd s.tag i [6,s.mu.st,Mu.mu s.mu s.pm s.tag s.next]) s.next) [6,s.mu.st,Mu.mu s.mu s.pm s.tag s.next]:=by rw[A _ (.inr rfl)];exact⟨dO _,λ_=>rfl⟩
 refine⟨[6,s.mu.st,Mu.mu s.mu s.pm s.tag s.next],?_,by simp[cd],by simp[cd],by simp[cd],by rcases q with e | e<;>rw[e]<;>rfl,s.mu.L,s.mu.n,_,o,by rw[z],by rw[z],λe=>?_,λ⟨v,e⟩=>?_⟩
 ·rcases q with e | e
  ·exact(h.same5_6 r hb (by rw[y];exact e) rfl key).1
  have G:=(h.oM (l:=[5]) r hb (by rw[y];exact e) rfl trivial).1;have I:=(G.same5_6 (i:=i) (l:=[6,s.mu.st,Mu.mu s.mu s.pm s.tag s.next]) r hb (by show cd (upd s.tag i [5] i)=5;rw[upd_same];rfl) rfl (by show s.mu.jA (Mu.mu s.mu s.pm (upd (upd s.tag i [5]) i _) s.next) _;rw[Be];exact key)).1;show bP c { s with tag:=_ };rw[<-Be s.tag i [5]];exact I
 ·exact Ao h r (y.trans e) O
 exact(O9 h r (y.trans e) O).1
def WE(ok:c.Ok)(B:eX p f Extern.Sync.semacquire)(o:vs[0]? = some (.pointer (some ⟨c.M,1,none⟩)))(y:H.cg=[7,M]) :
  Zk ((bO p c).prgW i) (callFunc f vs) wk nr H (λv D=>v=Zt/\D=H.tagc [8,M]):=by
 refine O6 ok (.inl (by rw[y];simp[cd,df,one])) λs Hs t w j=>?_;have h:s.tag i=[7,M]:=(show s.tag i=H.cg from(YD j (by rw[y];simp[cd])).1).trans y;have r:ZL c s Hs t:=j.inv;have z:=UD j (by rw[h];simp[cd,df,one]) (by rw[h];simp[cd,df,one]);have F:Deaf t i=1:=by rw[VT j (by rw[h];simp[cd,df,one]),h];rfl
 obtain⟨_,_,u,I⟩:=IT ok j;by_cases m:s.mu.sm=0
 ·rw[m]at u;exact .inl ⟨Zhx B o u,.inl ⟨by rw[h];rfl,m⟩⟩
 refine .inr ⟨Zt,[8,M],?_,.inl (by simp[cd]),rfl,rfl⟩;obtain⟨K,N,P⟩:=X6 (C:=c.toTC) (i:=i) (d:=Deaf t i) (b:=c.M) (off:=1) (.inl rfl);have A:=Zhy (rest:=#[]) B o u I (by exact_mod_cast m);have G:((s.mu.sm:Nat):Int)-1=((s.mu.sm-1:Nat):Int):=O;rw[G]at A;have E:=Ao r.cnt j.lt h O;obtain⟨m1,J⟩:=Mu.rP (more:=s.pm) (l:=[8,M]) r.cnt.mu j.lt (by rw[h];rfl) rfl O;refine eJ.CJ (x':={ s.mu with sm:=s.mu.sm-1 }) ok j A (λfn _=>Aq) (.inr ⟨1,_,rfl,rfl⟩) (r.cnt.rP (l:=[8,M]) j.lt z (by rw[h];rfl) rfl O ?_).1 ⟨K,N,?_⟩ (.inr λe=>absurd e m) ?_ (by rw[h];simp[cd,df,one]) (by simp[cd]) (λe=>by simp[cd]at e)
 ·show _<M;exact qCk (OG J (by decide)) E
 ·rw[P,F];rfl
 left;rintro(⟨_,e⟩ | ⟨e,_⟩)
 ·exact m e
 rw[h]at e;simp[cd]at e
def K6(ok:c.Ok)(B:Yd p ty=some none)(G:ρ x=.pointer (some (dZ c.M)))(r:H.cg=[8,M]) :
  Zk ((bO p c).prgW i) (execOp ρ (aR (.load ty x) wI)) wk true H (λv D=>(∃L n m,dV L 1 0 n/\v=.int .i32 (cI L 1 0 n:Nat)/\D=H.tagc [6,cI L 1 0 n,m]/\m<M) \/
   (∃n,dV 0 0 1 n/\1<=n/\v=.int .i32 (cI 0 0 1 n:Nat)/\D=H.tagc [9,cI 0 0 1 n])):=by
 refine T7 ok B G (by rw[r];simp[cd,df,one]) λs h y hb z=>?_
 have o:=h.bits ok
 have I:=Ct.le cA s.tag y
 have e:cA (cd (s.tag i))=1:=by rw[z,r];rfl
 rcases qBo s.mu.S with u | u
 ·have E:s.mu.W=1:=by have:=h.mu.norm u;have:=h.mu.W1;omega
  have q:s.mu.st=cI s.mu.L 1 0 s.mu.n:=by rw[Ym,u,E]
  rw[u,E]at o;obtain⟨m1,J⟩:=Mu.wH (more:=s.pm) (l:=[6,s.mu.st,Mu.mu s.mu s.pm s.tag s.next]) h.mu y (by rw[z,r];rfl) rfl u;refine⟨[6,s.mu.st,Mu.mu s.mu s.pm s.tag s.next],(h.wH (l:=[6,s.mu.st,Mu.mu s.mu s.pm s.tag s.next]) y hb (by rw[z,r];rfl) rfl u ⟨O,λ_=>rfl⟩).1,by simp[cd],by simp[cd],by simp[cd],by rw[r];rfl,.inl ⟨s.mu.L,s.mu.n,_,o,by rw[q],by rw[q],Ao h y (z.trans r) O⟩⟩
 ·have A:s.mu.S=1:=by have:=h.mu.S1;omega
  have F:=h.mu.starv A;have q:s.mu.st=cI 0 0 1 s.mu.n:=by rw[Ym,A];unfold cI;omega
  refine⟨[9,s.mu.st],(h.AB (l:=[9,s.mu.st]) y hb (by rw[z,r];rfl) rfl A ⟨A,?_,?_⟩).1,by simp[cd],by simp[cd],by simp[cd],by rw[r];rfl,.inr ⟨s.mu.n,⟨O,O,O,o.n⟩,F.2.1,by rw[q],by rw[q]⟩⟩
  ·rw[q];unfold cI;omega
  rw[q];unfold cI;omega
def Lr{z:Int}(e:0<=z)(h:z<=2147483647):IntKind.i32.wrap z=z:=by simp only[IntKind.wrap,IntKind.bits,IntKind.signed];simp;omega
def OU(ok:c.Ok)(K:eX p f (Extern.Atomic.update (Op.intArith .add) .i32 true))(T:dV 0 0 1 n)(N:1<=n)(m:Bool)(q:m=false->n≠1)(r:H.cg=[9,cI 0 0 1 n]) :
  Zk ((bO p c).prgW i) (callFunc f #[.pointer (some (dZ c.M)),.int .i32 (if m then -11 else -7)]) wk nr H (λv F=>(∃z,v=.int .i32 z)/\F=H.tagc [10]):=by
 refine Wf ok K (by rw[r];simp[cd,df,one]) λs h u hb y=>?_;have o:=h.bits ok;have j:=h.says i u;rw[y,r]at j;obtain⟨A,B,D⟩:=j;have J:cI 0 0 1 n / 8=n:=by unfold cI;omega
 rw[J]at B D;have G:=h.mu.starv A;have P:=Ct.le cA s.tag u;have e:cA (cd (s.tag i))=1:=by rw[y,r];rfl
 have Q:s.mu.L=0:=O;have R:s.mu.W=0:=G.2.2.1;have I:=o.n;cases m with
 | true=>
  refine⟨_,[10],(h.BS (l:=[10]) u hb (by rw[y,r];rfl) rfl A trivial).1,?_,rfl,by simp[cd],by simp[cd],by simp[cd],rfl,⟨_,rfl⟩,rfl⟩;rw[Ym,Ym];unfold cI;simp only[qBp];rw[Lr]<;>omega
 | false=>
  have:=q rfl;refine⟨_,[10],(h.hand (l:=[10]) u hb (by rw[y,r];rfl) rfl A O trivial).1,?_,rfl,by simp[cd],by simp[cd],by simp[cd],rfl,⟨_,rfl⟩,rfl⟩;rw[Ym,Ym];unfold cI;simp only[DO,qAw];rw[Lr]<;>omega
def Zyp(ok:c.Ok)(T:eX p f (Extern.Atomic.update (Op.intArith .add) .i32 true))(A:H.cg=[14]) :
  Zk ((bO p c).prgW i) (callFunc f #[.pointer (some (dZ c.M)),.int .i32 (-1)]) wk nr H (λv E=>
   (∃W n,dV 0 W 0 n/\(n=0\/W=1)/\v=.int .i32 (cI 0 W 0 n:Nat)/\E=H.tagc [18])\/(∃n m,dV 0 0 0 n/\1<=n/\v=.int .i32 (cI 0 0 0 n:Nat)/\E=H.tagc [15,cI 0 0 0 n,m]) \/
   (∃n,dV 0 0 1 n/\v=.int .i32 (cI 0 0 1 n:Nat)/\E=H.tagc [17])):=by
 refine Wf ok T (by rw[A];simp[cd,df,one]) λs h u hb D=>?_
 have o:=h.bits ok
 have U:=Ct.le Yo s.tag u
 have e:Yo (cd (s.tag i))=1:=by rw[D,A];rfl
 have V:s.mu.L=1:=by have:=h.mu.L1;have:=h.mu.L2;omega
 have r:=o.n
 have G:∀I:Mu,I={ s.mu with L:=0 }->IntKind.i32.wrap ((s.mu.st:Nat)+(-1))=(I.st:Nat):=by rintro I rfl;rw[Ym,Ym];unfold cI;simp only;have:=o.W;have:=o.S;rw[Lr]<;>omega
 rcases qBo s.mu.S with z | z
 ·by_cases K:s.mu.n=0\/s.mu.W=1
  ·refine⟨_,[18],(h.rN (l:=[18]) u hb (by rw[D,A];rfl) rfl z K trivial).1,G _ rfl,rfl,by simp[cd],by simp[cd],by simp[cd],rfl,.inl ⟨s.mu.W,s.mu.n,⟨O,o.W,O,r⟩,K,?_,rfl⟩⟩;rw[Ym];simp only[z]
  have R:s.mu.W=0:=by have:=o.W;omega
  have B:({ s.mu with L:=0 }:Mu).st=cI 0 0 0 s.mu.n:=by rw[Ym];simp only[z,R]
  obtain⟨m1,X⟩:=Mu.oJ (more:=s.pm) (l:=[15,cI 0 0 0 s.mu.n,Mu.mu { s.mu with L:=0 } s.pm (upd s.tag i [15]) s.next]) h.mu u (by rw[D,A];rfl) rfl z;have y:Mu.mu { s.mu with L:=0 } s.pm (upd s.tag i [15,cI 0 0 0 s.mu.n,Mu.mu { s.mu with L:=0 } s.pm (upd s.tag i [15]) s.next]) s.next=Mu.mu { s.mu with L:=0 } s.pm (upd s.tag i [15]) s.next:=by have N:=counts (tag:=s.tag) (l:=[15]) u iP;have J:=counts (tag:=s.tag) (l:=[15,cI 0 0 0 s.mu.n,Mu.mu { s.mu with L:=0 } s.pm (upd s.tag i [15]) s.next]) u iP;have P:cd [15]=cd [15,cI 0 0 0 s.mu.n,Mu.mu { s.mu with L:=0 } s.pm (upd s.tag i [15]) s.next]:=rfl;rw[<-P]at J;simp only[Mu.mu]at N J ⊢;omega
  refine⟨_,[15,cI 0 0 0 s.mu.n,Mu.mu { s.mu with L:=0 } s.pm (upd s.tag i [15]) s.next],(h.oJ u hb (by rw[D,A];rfl) rfl z ?_).1,G _ rfl,rfl,by simp[cd],by simp[cd],by simp[cd],rfl,.inr (.inl ⟨s.mu.n,_,⟨O,O,O,r⟩,O,by rw[B],rfl⟩)⟩;refine⟨qDO y,λ_=>B,?_,?_⟩<;>unfold cI<;>omega
 ·have F:s.mu.S=1:=by have:=h.mu.S1;omega
  have Q:=h.mu.starv F;refine⟨_,[17],(h.rL (l:=[17]) u hb (by rw[D,A];rfl) rfl F trivial).1,G _ rfl,rfl,by simp[cd],by simp[cd],by simp[cd],rfl,.inr (.inr ⟨s.mu.n,⟨O,O,O,r⟩,?_,rfl⟩)⟩;rw[Ym];simp only[F,Q.2.2.1]
def Zyy(ok:c.Ok)(F:eX p f (Extern.Atomic.casT (.int .i32)))(E:dV 0 0 0 (n+1))(m:H.cg=[15,cI 0 0 0 (n+1),M]) :
  Zk ((bO p c).prgW i) (callFunc f #[.pointer (some (dZ c.M)),.int .i32 (cI 0 0 0 (n+1):Nat),.int .i32 (cI 0 1 0 n:Nat)]) wk nr H (λv u=>(v=.bool true/\u=H.tagc [17])\/(v=.bool false/\u=H.tagc [16,M])):=by
 refine IR ok F (by rw[m];simp[cd,df,one]) (λs h o hb q r=>?_) (λs h o hb q r=>?_)
 ·obtain⟨z,A,B,G⟩:=(h.bits ok).eq E r;refine⟨_,[17],(h.BT (l:=[17]) o hb (by rw[q,m];rfl) rfl z A B O trivial).1,?_,rfl,by simp[cd],by simp[cd],by simp[cd],rfl,.inl ⟨rfl,rfl⟩⟩;rw[Ym];unfold cI;simp only;omega
 refine⟨[16,M],(h.nA (l:=[16,M]) o hb (by rw[q,m];rfl) rfl ?_).1,by simp[cd],by simp[cd],by simp[cd],rfl,.inr ⟨rfl,rfl⟩⟩;have D:=O9 h o (q.trans m) (.inr (.inr rfl));have e:=counts (tag:=s.tag) (l:=[16,M]) o iP;rw[q,m]at e;have I:iP (cd [15,cI 0 0 0 (n+1),M])=2:=rfl;have J:iP (cd [16,M])=2:=rfl;have:Mu.mu s.mu s.pm (upd s.tag i [16,M]) s.next=Mu.mu s.mu s.pm s.tag s.next:=by unfold Mu.mu;omega
 show _<M;rw[this];rcases qBi (Mu.mu s.mu s.pm s.tag s.next) M with y | y
 ·exact y
 exact absurd (D.2 O) r
def Zyr(ok:c.Ok)(A:Yd p ty=some none)(J:ρ x=.pointer (some (dZ c.M)))(q:H.cg=[16,M]) :
  Zk ((bO p c).prgW i) (execOp ρ (aR (.load ty x) wI)) wk true H (λv B=>(∃L W S n,dV L W S n/\(L=1\/W=1\/S=1\/n=0)/\v=.int .i32 (cI L W S n:Nat)/\B=H.tagc [18]) \/
   (∃n m,dV 0 0 0 n/\1<=n/\v=.int .i32 (cI 0 0 0 n:Nat)/\B=H.tagc [15,cI 0 0 0 n,m]/\m<M)):=by
 refine T7 ok A J (by rw[q];simp[cd,df,one]) λs h u hb y=>?_
 have o:=h.bits ok
 by_cases D:s.mu.L=1\/s.mu.W=1\/s.mu.S=1\/s.mu.n=0
 ·exact⟨[18],(h.vE (l:=[18]) u hb (by rw[y,q];rfl) rfl D trivial).1,by simp[cd],by simp[cd],by simp[cd],by rw[q];rfl,.inl ⟨_,_,_,_,o,D,by rw[Ym],rfl⟩⟩
 ·have K:=o.L;have N:=o.W;have P:=o.S;have E:s.mu.L=0:=O;have F:s.mu.W=0:=O;have G:s.mu.S=0:=O;have r:s.mu.st=cI 0 0 0 s.mu.n:=by rw[Ym,E,F,G]
  have z:Mu.mu s.mu s.pm (upd s.tag i [15,cI 0 0 0 s.mu.n,Mu.mu s.mu s.pm s.tag s.next]) s.next=Mu.mu s.mu s.pm s.tag s.next:=by have e:=counts (tag:=s.tag) (l:=[15,cI 0 0 0 s.mu.n,Mu.mu s.mu s.pm s.tag s.next]) u iP;rw[y,q]at e;have Q:iP (cd [16,M])=2:=rfl;have I:iP (cd [15,cI 0 0 0 s.mu.n,Mu.mu s.mu s.pm s.tag s.next])=2:=rfl;simp only[Mu.mu]at e I ⊢;omega
  refine⟨[15,cI 0 0 0 s.mu.n,Mu.mu s.mu s.pm s.tag s.next],(h.m9 (l:=[15,cI 0 0 0 s.mu.n,Mu.mu s.mu s.pm s.tag s.next]) u hb (by rw[y,q];rfl) rfl ?_).1,by simp[cd],by simp[cd],by simp[cd],by rw[q];rfl,.inr ⟨s.mu.n,_,⟨O,O,O,o.n⟩,O,by rw[r],rfl,Ao h u (y.trans q) O⟩⟩;refine⟨qDO z,λ_=>r,?_,?_⟩<;>unfold cI<;>omega
theorem Wl(ok:c.Ok)(G:eX p f Extern.Sync.semrelease)(q:vs[0]? = some (.pointer (some ⟨c.M,1,none⟩)))(o:H.cg=[17]) :
  Zk ((bO p c).prgW i) (callFunc f vs) true nr H (λv A=>v=Zt/\A=H.tagc [18]):=by
 refine O6 ok (.inl (by rw[o];simp[cd,df,one])) λs Hs t w j=>.inr ?_;have h:s.tag i=[17]:=(show s.tag i=H.cg from(YD j (by rw[o];simp[cd])).1).trans o;have y:ZL c s Hs t:=j.inv;have r:=UD j (by rw[h];simp[cd,df,one]) (by rw[h];simp[cd,df,one]);have B:Deaf t i=1:=by rw[VT j (by rw[h];simp[cd,df,one]),h];rfl
 obtain⟨_,_,D,I⟩:=IT ok j;have F:s.mu.sm<=1:=by
  have:=Zy1 (g:=cQ) (λn=>QT _) s.tag s.next;obtain⟨P,Q,f3,f4,f5,f6⟩:=y.cnt.mu;rcases qBo s.mu.S with u | u
  ·have:=f5 u;omega
  have:=f6 O;omega
 obtain⟨J,K,N⟩:=X6 (C:=c.toTC) (i:=i) (d:=Deaf t i) (b:=c.M) (off:=1) (.inl rfl);have z:=Zhw G q D I;have E:IntKind.u32.wrap (((s.mu.sm:Nat):Int)+1)=((s.mu.sm+1:Nat):Int):=by simp only[IntKind.wrap,IntKind.bits,IntKind.signed];simp;omega
 rw[E]at z;refine⟨Zt,[18],?_,.inl (by simp[cd]),rfl,rfl⟩;refine eJ.CJ (x':={ s.mu with sm:=s.mu.sm+1 }) ok j z (λfn _=>Aq) (.inr ⟨1,_,rfl,rfl⟩) (y.cnt.u6 (l:=[18]) j.lt r (by rw[h];rfl) rfl trivial).1 ⟨J,K,?_⟩ (.inl rfl) (YY (by rw[h];simp[cd,df,one]) (by rw[h];simp[cd,df,one])) (by rw[h];simp[cd,df,one]) (by simp[cd]) (λe=>by simp[cd]at e);rw[N,B];rfl
end
