import Derived.Test.YtmfealhfgccmfaaGreatDoorP05
import Derived.Test.YtmfealhfgccmfaaGreatDoorP13
set_option linter.all false
def LJ{G:Prop}(h:G:=by exact⟨[3,M],Zfp h hi hb (ht.trans hg) he,by simp[cd],by simp[cd],by simp[cd],rfl,.inr ⟨rfl,rfl⟩⟩):G:=h
def G6{G:Prop}(h:G:=by
  show _<M;rw[this];rcases qBh (Mu.mu s.mu s.pm s.tag s.next) M with h2 | h2
  ·exact h2
  exact absurd (h1.2 O) pK):G:=h
def GL{G:Prop}(h:G:=by exact⟨[5,M],Zlj h hi hb (ht.trans hg) he,by simp[cd],by simp[cd],by simp[cd],rfl,.inr ⟨rfl,rfl⟩⟩):G:=h
namespace Go.LL
section
variable{l:List Nat}{vs:Array Value}{a:Addr}{ty vE:TypeId}{v d n:Int}{x:Operand}{ρ:Operand->Value}{fn:FuncId}{C:TC}{Post:Value->Hp->Prop}{b off:Nat}{wr:Bool}{k:IntKind}
open Go.Conc
open Go.ConcN (sumTo upd sumTo_upd upd_ne upd_same)
section
variable{p:Program}{c:Cx}{i:Nat}{H:Hp}{s:Ts}{Hs:Hp}{t:Trace}{w:World}{f:FuncId}{wk nr:Bool}
def Y8(h7:cd (s.tag i)≠7)(e:cd (s.tag i)≠36):¬ ZY s i\/l=s.tag i:=by
 left;rintro(⟨h,_⟩ | ⟨h,_⟩)
 ·exact h7 h
 exact e h
def Nb{α:Type}(g:Nat->α)(i:Nat)(a b:α):upd (upd g i a) i b=upd g i b:=by
 funext j;by_cases e:j=i
 ·subst e;rw[upd_same,upd_same]
 rw[upd_ne _ _ e,upd_ne _ _ e,upd_ne _ _ e]
theorem Mk(ok:c.Ok){m:Mark}(u:m=.disable\/m=.enable)(G:iU p f (λ_=>do mark m;pure Zx)){a:Nat}(E:cd H.cg=a)(J:1<=a/\a<=19)(F:1<=cd l/\cd l<=19)(h7:a≠7/\a≠12/\cd l≠12)
  (r:deafBehind (df a) #[⟨.mark m,false,true⟩]=df (cd l))
  (o:∀s:Ts,fY c s->i<s.next->c.base<=i->cd (s.tag i)=a->s.hd i=H.hd->fY c { s with tag:=upd s.tag i l }):Zm ((fX p c).prgW i) (callFunc f vs) wk nr H (λv z=>v=Zx/\z=H.tagc l):=by
 have q:∀g,m≠.extern g:=by rcases u with rfl | rfl<;>simp
 refine MU ok (.inl ⟨O,O⟩) λs Hs t w j=>.inr ⟨Zx,l,?_,.inl F,rfl,rfl⟩;have h:cd (s.tag i)=a:=by rw[(YO j O).1];exact E
 have D:ZU c s Hs t:=j.inv;obtain⟨A,B⟩:=Ls (C:=c.toTC) (i:=i) (d:=Deaf t i) (m:=m) (by rcases u with rfl | rfl<;>simp);refine iB.BV ok j (Aa q G vs w) (λfn _=>Ad q fn) (.inl ⟨rfl,rfl⟩) (o s D.cnt j.lt (UM j O O) h (YO j O).2) ⟨A,B,?_⟩ (.inr id) (Y8 O O) O ⟨h7.2.2,O⟩ (λe=>O);rw[V2 j O,h,r,iF O]
def Zzz(ok:c.Ok)(u:iU p f (λ_=>do mark .disable;pure Zx))(m:cd H.cg=1)(r:c.need H.hd=true):Zm ((fX p c).prgW i) (callFunc f vs) wk nr H (λv e=>v=Zx/\e=H.tagc [2]):=
 Mk ok (.inl rfl) u m O (by simp[cd]) (by simp[cd]) rfl λs h q hb j o=>(h.sF (l:=[2]) q hb j rfl (o ▸ r) trivial).1
def Ys(ok:c.Ok)(q:iU p f (λ_=>do mark .enable;pure Zx))(m:cd H.cg=10):Zm ((fX p c).prgW i) (callFunc f vs) wk nr H (λv e=>v=Zx/\e=H.tagc [11]):=
 Mk ok (.inr rfl) q m O (by simp[cd]) (by simp[cd]) rfl λs h o hb j _=>(h.oW (l:=[11]) o hb j rfl trivial).1
def Zzy(ok:c.Ok)(q:iU p f (λ_=>do mark .disable;pure Zx))(m:cd H.cg=13):Zm ((fX p c).prgW i) (callFunc f vs) wk nr H (λv e=>v=Zx/\e=H.tagc [14]):=
 Mk ok (.inl rfl) q m O (by simp[cd]) (by simp[cd]) rfl λs h o hb j _=>(h.oV (l:=[14]) o hb j rfl trivial).1
def Zzx(ok:c.Ok)(q:iU p f (λ_=>do mark .enable;pure Zx))(m:cd H.cg=18):Zm ((fX p c).prgW i) (callFunc f vs) wk nr H (λv e=>v=Zx/\e=H.tagc [19]):=
 Mk ok (.inr rfl) q m O (by simp[cd]) (by simp[cd]) rfl λs h o hb j _=>(h.oQ (l:=[19]) o hb j rfl (by simp) trivial).1
def Zhy(h:Ym p ty=some none){v:Value}(r:w.cell? a=some v)(B:ρ x=.pointer (some a)) :
  (execOp ρ (fL (.load ty x) vE)).runT p w #[]=(.ok (.value v) w,#[⟨.cell a,false,false⟩]):=by
 have e:execOp ρ (fL (.load ty x) vE)=(do pure (.value (<-Instr.loadAt ty (.pointer (some a)))):Sem Next):=by simp[execOp,fL,B]
 have j:∃d,p.underlying ty=some d/\(∀m,d≠.struct m)/\∀n e,d≠.array n e:=by unfold Ym at h;split at h<;>simp only[IF,reduceCtorEq]at h;rename_i d i A y o q;exact⟨d,o,λm e=>A m (by rw[<-e]),λn e u=>y n e (by rw[<-u])⟩
 obtain⟨d,z,D,E⟩:=j;have hb:(match d with | .struct _ | .array _ _=>true | _=>false)=false:=by
  cases d with
  | struct m=>exact absurd rfl (D m)
  | array n e=>exact absurd rfl (E n e)
  | _=>rfl
 have j:(isAgg ty).run p w=.ok false w:=by simp only[isAgg,underlying,bind,Sem.bind,program,Sem.run,z,pure]
 rw[e,Sem.runT_eq];have o:(do pure (.value (<-Instr.loadAt ty (.pointer (some a)))):Sem Next).run p w=.ok (.value v) w:=by simp[Instr.loadAt,Instr.sureAddr,loadVar,j,r,Result.andThen]
 have q:(do pure (.value (<-Instr.loadAt ty (.pointer (some a)))):Sem Next).events p w #[]=#[⟨.cell a,false,false⟩]:=by simp[Instr.loadAt,Instr.sureAddr,loadVar,j,r,Result.andThen,Result.evThen,events_load]
 rw[o,q]
def Zhe(h:norace p fn=true):seen p fn #[⟨.cell a,false,false⟩]=#[]:=by unfold norace at h;simp[seen,h]
def MF(ok:c.Ok)(e:gX (fX p c) i H s Hs t w):w.cell? ⟨c.M,0,none⟩=some (.int .i32 (s.mu.st:Nat))/\w.frozen? ⟨c.M,0,none⟩=false/\w.cell? ⟨c.M,1,none⟩=some (.int .u32 (s.mu.sm:Nat))/\w.frozen? ⟨c.M,1,none⟩=false:=by obtain⟨h,j⟩:=V4 (off:=0) (v:=.int .i32 (s.mu.st:Nat)) (wM ok e) rfl;obtain⟨m,o⟩:=V4 (off:=1) (v:=.int .u32 (s.mu.sm:Nat)) (wM ok e) rfl;exact⟨h,j,m,o⟩
def ZiA{d:Nat}:FG C i d #[]/\(∀e∈(#[]:Array Event),∀B,C.M<B->C.W<B->(MemAct.ofEvent e).low B)/\deafBehind d #[]=d:=⟨λk e h=>by simp at h,λe h=>by simp at h,rfl⟩
theorem Mj(ok:c.Ok)(r:Ym p ty=some none)(J:ρ x=.pointer (some (gZ c.M)))(q:1<=cd H.cg/\cd H.cg<=19/\cd H.cg≠7/\cd H.cg≠12)
  (h:∀s:Ts,fY c s->i<s.next->c.base<=i->s.tag i=H.cg->∃l,fY c { s with tag:=upd s.tag i l }/\1<=cd l/\cd l<=19/\cd l≠12/\df (cd l)=df (cd H.cg)/\Post (.int .i32 (s.mu.st:Nat)) (H.tagc l)) :
  Zm ((fX p c).prgW i) (execOp ρ (fL (.load ty x) vE)) wk true H Post:=by
 refine MU ok (.inl ⟨q.1,q.2.1⟩) λs Hs t w m=>.inr ?_;obtain⟨j,G⟩:=YO m O;have F:ZU c s Hs t:=m.inv;obtain⟨l,y,z,A,B,D,E⟩:=h s F.cnt m.lt (UM m (by rw[j];exact q.1) (by rw[j];omega)) j;obtain⟨K,N,P⟩:=ZiA (i:=i) (d:=Deaf t i) (C:=c.toTC);refine⟨_,l,?_,.inl ⟨z,A⟩,E⟩;refine iB.BV ok m (Zhy r (MF ok m).1 J) (λfn I=>Zhe (I rfl)) (.inl ⟨rfl,rfl⟩) y ⟨K,N,?_⟩ (.inr id) (Y8 (by rw[j];omega) (by rw[j];omega)) (by rw[j];omega) ⟨B,O⟩ (λe=>O);rw[P,V2 m (by rw[j];omega),j,iF O,D]
def PU(hb:b=C.M\/b=C.W):∀e∈#[rB b off wr],∃b off wr,e=rB b off wr/\(b=C.M\/b=C.W):=by intro e h;simp at h;exact⟨b,off,wr,h,hb⟩
def XG(hb:b=C.M\/b=C.W):∀e∈#[rB b off false,rB b off true],∃b off wr,e=rB b off wr/\(b=C.M\/b=C.W):=by
 intro e h;simp at h;rcases h with rfl | rfl
 ·exact⟨b,off,false,rfl,hb⟩
 exact⟨b,off,true,rfl,hb⟩
def Zhg{f:FuncId}{j:Array Event}(h:∀e∈j,∃b off wr,e=rB b off wr):seen p fn (#[Yy f]++j)=j:=
 MS λx m=>by obtain⟨b,off,wr,rfl⟩:=h x m;exact⟨rfl,λg h=>by simp[rB]at h⟩
def MT{f:FuncId}:seen p fn (#[Yy f]++#[rB b off wr])=#[rB b off wr]:=Zhg λe h=>by simp at h;exact⟨b,off,wr,h⟩
def QA{f:FuncId}:seen p fn (#[Yy f]++#[rB b off false,rB b off true])=#[rB b off false,rB b off true]:=Zhg λe h=>by
 simp at h;rcases h with rfl | rfl
 ·exact⟨b,off,false,rfl⟩
 exact⟨b,off,true,rfl⟩
theorem ZhB(j:iU p f (Extern.Atomic.casT (.int k)))(e:w.cell? a=some (.int k v))(h:w.frozen? a=false) :
  (callFunc f #[.pointer (some a),.int k v,.int k n]).runT p w #[]=(.ok (.value (.bool true)) (w.setCell a (.int k n)),#[Yy f]++#[⟨.cell a,false,true⟩,⟨.cell a,true,true⟩]):=
 j.val (by rw[casT_eq];exact run_cas_hit_entry e h) (by rw[casT_eq,events_cas_hit_entry e h];rfl)
theorem ZhA(m:iU p f (Extern.Atomic.casT (.int k))){o:Int}(h:w.cell? a=some (.int k v))(j:w.frozen? a=false)(e:¬ v=o) :
  (callFunc f #[.pointer (some a),.int k o,.int k n]).runT p w #[]=(.ok (.value (.bool false)) w,#[Yy f]++#[⟨.cell a,false,true⟩]):=
 m.val (by rw[casT_eq];exact run_cas_miss_entry h j e) (by rw[casT_eq,events_cas_miss_entry h j e];rfl)
theorem ZeM(j:iU p f (Extern.Atomic.update (Op.intArith .add) k true))(e:w.cell? a=some (.int k v))(h:w.frozen? a=false) :
  (callFunc f #[.pointer (some a),.int k d]).runT p w #[]=(.ok (.value (.int k (k.wrap (v+d)))) (w.setCell a (.int k (k.wrap (v+d)))),#[Yy f]++#[⟨.cell a,false,true⟩,⟨.cell a,true,true⟩]):=
 j.val (run_add_entry e h) (by rw[events_add_entry e h];rfl)
theorem M0(ok:c.Ok)(R:iU p f (Extern.Atomic.casT (.int .i32))){o n:Nat}(z:1<=cd H.cg/\cd H.cg<=19/\cd H.cg≠7/\cd H.cg≠12/\df (cd H.cg)=1)
  (q:∀s:Ts,fY c s->i<s.next->c.base<=i->s.tag i=H.cg->s.mu.st=o->∃x' l,fY c { s with mu:=x',tag:=upd s.tag i l }/\x'.st=n/\x'.sm=s.mu.sm/\1<=cd l/\cd l<=19/\cd l≠12/\df (cd l)=1/\Post (.bool true) (H.tagc l))
  (m:∀s:Ts,fY c s->i<s.next->c.base<=i->s.tag i=H.cg->s.mu.st≠o->∃l,fY c { s with tag:=upd s.tag i l }/\1<=cd l/\cd l<=19/\cd l≠12/\df (cd l)=1/\Post (.bool false) (H.tagc l)) :
  Zm ((fX p c).prgW i) (callFunc f #[.pointer (some (gZ c.M)),.int .i32 (o:Nat),.int .i32 (n:Nat)]) wk nr H Post:=by
 refine MU ok (.inl ⟨z.1,z.2.1⟩) λs Hs t w j=>.inr ?_;obtain⟨h,V⟩:=YO j O;have P:ZU c s Hs t:=j.inv;have r:=UM j (by rw[h];exact z.1) (by rw[h];omega);have N:Deaf t i=1:=by rw[V2 j (by rw[h];omega),h];exact z.2.2.2.2
 obtain⟨Q,T,_⟩:=MF ok j;by_cases y:s.mu.st=o
 ·obtain⟨x',l,A,U,K,B,D,E,h7,F⟩:=q s P.cnt j.lt r h y;obtain⟨G,I,J⟩:=UB (i:=i) (d:=Deaf t i) (C:=c.toTC) (XG (off:=0) (.inl rfl)) O;refine⟨.bool true,l,?_,.inl ⟨B,D⟩,F⟩;subst y;refine iB.BV (x':=x') ok j (ZhB R Q T) (λfn _=>QA) (.inr ⟨0,_,rfl,by rw[U,K];rfl⟩) A ⟨G,I,?_⟩ (.inr λe=>by rw[K];exact e) (Y8 (by rw[h];omega) (by rw[h];omega)) (by rw[h];omega) ⟨E,O⟩ (λe=>O);rw[J,N,iF O,h7]
 obtain⟨l,A,B,D,E,h7,F⟩:=m s P.cnt j.lt r h y;obtain⟨G,I,J⟩:=UB (i:=i) (d:=Deaf t i) (C:=c.toTC) (PU (off:=0) (wr:=false) (.inl rfl)) O;refine⟨.bool false,l,?_,.inl ⟨B,D⟩,F⟩;refine iB.BV ok j (ZhA R Q T (λe=>y (by exact_mod_cast e))) (λfn _=>MT) (.inl ⟨rfl,rfl⟩) A ⟨G,I,?_⟩ (.inr id) (Y8 (by rw[h];omega) (by rw[h];omega)) (by rw[h];omega) ⟨E,O⟩ (λe=>O);rw[J,N,iF O,h7]
def Znf(ok:c.Ok)(N:iU p f (Extern.Atomic.update (Op.intArith .add) .i32 true))(o:1<=cd H.cg/\cd H.cg<=19/\cd H.cg≠7/\cd H.cg≠12/\df (cd H.cg)=1)
  (h:∀s:Ts,fY c s->i<s.next->c.base<=i->s.tag i=H.cg->∃x' l,fY c { s with mu:=x',tag:=upd s.tag i l }/\IntKind.i32.wrap ((s.mu.st:Nat)+d)=(x'.st:Nat)/\x'.sm=s.mu.sm/\1<=cd l/\cd l<=19/\cd l≠12/\df (cd l)=1/\Post (.int .i32 (x'.st:Nat)) (H.tagc l)) :
  Zm ((fX p c).prgW i) (callFunc f #[.pointer (some (gZ c.M)),.int .i32 d]) wk nr H Post:=by
 refine MU ok (.inl ⟨o.1,o.2.1⟩) λs Hs t w m=>.inr ?_;obtain⟨j,K⟩:=YO m O;have I:ZU c s Hs t:=m.inv;have q:=UM m (by rw[j];exact o.1) (by rw[j];omega);have G:Deaf t i=1:=by rw[V2 m (by rw[j];omega),j];exact o.2.2.2.2
 obtain⟨J,P,_⟩:=MF ok m;obtain⟨x',l,z,A,r,B,D,E,h7,F⟩:=h s I.cnt m.lt q j;obtain⟨Q,R,T⟩:=UB (i:=i) (d:=Deaf t i) (C:=c.toTC) (XG (off:=0) (.inl rfl)) O;refine⟨.int .i32 (x'.st:Nat),l,?_,.inl ⟨B,D⟩,F⟩;have u:=ZeM N (d:=d) J P;rw[A]at u;refine iB.BV (x':=x') ok m u (λfn _=>QA) (.inr ⟨0,_,rfl,by rw[r];rfl⟩) z ⟨Q,R,?_⟩ (.inr λe=>by rw[r];exact e) (Y8 (by rw[j];omega) (by rw[j];omega)) (by rw[j];omega) ⟨E,O⟩ (λe=>O);rw[T,G,iF O,h7]
def Zhx(o:iU p f Extern.Sync.semacquire){rest:Array Value}(e:vs[0]? = some (.pointer (some a)))(h:w.cell? a=some (.int .u32 n))(m:w.frozen? a=false)(j:n≠0) :
  (callFunc f vs).runT p w #[]=(.ok (.value Zx) (w.setCell a (.int .u32 (n-1))),#[Yy f]++semEvents a):=
 o.val (by simp[Extern.Sync.semacquire,Extern.Sync.count,e,h,j,m,Extern.Sync.none_,run_store p w a (.int .u32 (n-1)) .atomic rfl,Result.andThen])
  (by simp[Extern.Sync.semacquire,Extern.Sync.count,e,h,j,m,semEvents,events_load,events_store p w _ a (.int .u32 (n-1)) .atomic rfl,run_store p w a (.int .u32 (n-1)) .atomic rfl,Result.evThen])
def Zhw(j:iU p f Extern.Sync.semacquire)(e:vs[0]? = some (.pointer (some a)))(h:w.cell? a=some (.int .u32 0)):∃es,(callFunc f vs).runT p w #[]=(.halt .blocked w,es):=
 j.blocks (by simp[Extern.Sync.semacquire,Extern.Sync.count,e,h])
def Zhv(m:iU p f Extern.Sync.semrelease)(e:vs[0]? = some (.pointer (some a)))(h:w.cell? a=some (.int .u32 n))(j:w.frozen? a=false) :
  (callFunc f vs).runT p w #[]=(.ok (.value Zx) (w.setCell a (.int .u32 (IntKind.u32.wrap (n+1)))),#[Yy f]++semEvents a):=
 m.val (by simp[Extern.Sync.semrelease,Extern.Sync.count,e,h,j,Extern.Sync.none_,Op.intArith,run_store p w a (.int .u32 (IntKind.u32.wrap (n+1))) .atomic rfl,Result.andThen])
  (by simp[Extern.Sync.semrelease,Extern.Sync.count,e,h,j,semEvents,Op.intArith,events_load,events_store p w _ a (.int .u32 (IntKind.u32.wrap (n+1))) .atomic rfl,run_store p w a (.int .u32 (IntKind.u32.wrap (n+1))) .atomic rfl,Result.evThen])
def Nr{f:FuncId}:seen p fn (#[Yy f]++semEvents a)=semEvents a:=MS (semEvents_sync a)
end
end
variable{L W S n M k v:Nat}{g:Nat->Nat}{ty vE:TypeId}{x:Operand}{ρ:Operand->Value}{vs:Array Value}
open Go.Conc
open Go.ConcN (sumTo upd sumTo_upd upd_ne upd_same)
def gD(L W S n:Nat):Nat:=L+2 * W+4 * S+8 * n
structure gW(L W S n:Nat):Prop where
 L:L<=1
 W:W<=1
 S:S<=1
 n:n<=200000000
def gW.eq{j o m q:Nat}(h:gW L W S n)(r:gW j o m q)(e:gD L W S n=gD j o m q):L=j/\W=o/\S=m/\n=q:=by obtain⟨u,y,a3,_⟩:=h;obtain⟨z,A,B,_⟩:=r;unfold gD at e;omega
section
variable{p:Program}{c:Cx}{i:Nat}{H:Hp}{s:Ts}{f:FuncId}{wk nr:Bool}
def Zz5(e:∀n,g n<=1)(tag:Nat->List Nat)(k:Nat):Ct g tag k<=k:=by have:=ZeA (f:=λi=>g (cd (tag i))) (b:=0) (n:=k) (qBf _) (λi _=>e _) (λi h=>absurd h (qBW _));simpa[Ct]using this
def Ax(b:Bool):one b<=1:=by cases b<;>decide
def fY.BI(h:fY c s)(o:∀n,g n<=1)(m:g 0=0)(j:∀n,30<=n->g n=0):Ct g s.tag s.next<=c.K:=by
 have:=ZeA (f:=λi=>g (cd (s.tag i))) (b:=c.base) (n:=s.next) h.nb (λi _=>o _) (λi q=>by
  rcases qBd i with e | e
  ·subst e;exact j _ h.wg.main
  simp only[h.olds i e q];exact m)
 have r:=h.num;have e:Ct g s.tag s.next=sumTo s.next (λi=>g (cd (s.tag i))):=rfl;omega
def fY.bits(ok:c.Ok)(h:fY c s):gW s.mu.L s.mu.W s.mu.S s.mu.n:=by have o:=h.BI (g:=cQ) (λn=>Ax _) rfl (λn j=>by simp[cQ,one];omega);have q:=h.BI (g:=cA) (λn=>Ax _) rfl (λn j=>by simp[cA,one];omega);have r:=h.num;have u:=ok.FQ;obtain⟨m,e,f3,f4,f5,f6⟩:=h.mu;refine⟨e,f3,f4,?_⟩;exact D4
theorem Yx(x:Mu):x.st=gD x.L x.W x.S x.n:=rfl
def ZwF(h:fY c s)(m:i<s.next)(j:cd (s.tag i)=5\/cd (s.tag i)=6):s.mu.S=0/\s.mu.W=1:=by
 have:=Ct.le cT s.tag m;have e:cT (cd (s.tag i))=1:=by rcases j with j | j<;>rw[j]<;>rfl
 obtain⟨o,q,f3,f4,f5,f6⟩:=h.mu;exact D4
def Nw(ok:c.Ok)(A:Ym p ty=some none)(P:ρ x=.pointer (some (gZ c.M)))(J:H.cg=[3]\/H.cg=[3,M]\/∃v,H.cg=[4,v,M]) :
  Zm ((fX p c).prgW i) (execOp ρ (fL (.load ty x) vE)) wk true H (λv D=>∃L W S n m,gW L W S n/\v=.int .i32 (gD L W S n:Nat)/\D=H.tagc [4,gD L W S n,m]/\(H.cg=[3,M]->m<M)/\((∃v,H.cg=[4,v,M])->m<=M)):=by
 have r:cd H.cg=3\/cd H.cg=4:=by rcases J with e | e | ⟨v,e⟩<;>rw[e]<;>simp[cd]
 refine Mj ok A P O λs h u hb y=>?_;have q:=h.bits ok;have key:∀m,Mu.mu s.mu s.pm (upd s.tag i [4,s.mu.st,m]) s.next=Mu.mu s.mu s.pm s.tag s.next->m=Mu.mu s.mu s.pm s.tag s.next->s.mu.lO (Mu.mu s.mu s.pm (upd s.tag i [4,s.mu.st,m]) s.next) [4,s.mu.st,m]:=by intro m e N;rw[e];exact⟨qDw N.symm,λ_=>rfl⟩
 have z:∀l:List Nat,cd l=4->Mu.mu s.mu s.pm (upd s.tag i l) s.next=Mu.mu s.mu s.pm s.tag s.next:=by
  intro l K;have e:=counts (tag:=s.tag) (l:=l) u lD;rw[y,K]at e;have Q:lD (cd H.cg)=6:=by rcases r with e | e<;>rw[e]<;>rfl
  have F:lD 4=6:=rfl;unfold Mu.mu;omega
 refine⟨[4,s.mu.st,Mu.mu s.mu s.pm s.tag s.next],?_,by simp[cd],by simp[cd],by simp[cd],by rcases r with e | e<;>rw[e]<;>rfl,s.mu.L,s.mu.W,s.mu.S,s.mu.n,_,q,rfl,rfl,λe=>?_,λ⟨v,e⟩=>?_⟩
 ·rcases r with e | e
  ·exact(h.same3_4 u hb (by rw[y];exact e) rfl (key _ (z _ rfl) rfl)).1
  have G:=(h.pZ (l:=[3]) u hb (by rw[y];exact e) rfl trivial).1;have B:Mu.mu s.mu s.pm (upd s.tag i [3]) s.next=Mu.mu s.mu s.pm s.tag s.next:=by have E:=counts (tag:=s.tag) (l:=[3]) u lD;rw[y,e]at E;have F:lD 4=6:=rfl;have R:lD (cd [3])=6:=rfl;unfold Mu.mu;omega
  have I:=(G.same3_4 (i:=i) (l:=[4,s.mu.st,Mu.mu s.mu s.pm s.tag s.next]) u hb (by show cd (upd s.tag i [3] i)=3;rw[upd_same];rfl) rfl (by show s.mu.lO (Mu.mu s.mu s.pm (upd (upd s.tag i [3]) i _) s.next) _;rw[Nb];exact key _ (z _ rfl) rfl)).1;show fY c { s with tag:=_ };rw[<-Nb s.tag i [3]];exact I
 ·have:=h.says i u;rw[y,e]at this;exact this
 have:=h.says i u;rw[y,e]at this;exact this.1
def Mb{a b d e:Nat}(h:a+d=b+e)(j:e<d)(hb:b<=M):a<M:=O
def Np{s:Ts}{i:Nat}(h:fY c s)(e:i<s.next)(m:s.tag i=[k,M])(j:k=3\/k=5\/k=7\/k=8\/k=16):Mu.mu s.mu s.pm s.tag s.next<M:=by have:=h.says i e;rw[m]at this;rcases j with rfl | rfl | rfl | rfl | rfl<;>exact this
def MQ{s:Ts}{i:Nat}(h:fY c s)(e:i<s.next)(m:s.tag i=[k,v,M])(j:k=4\/k=6\/k=15):Mu.mu s.mu s.pm s.tag s.next<=M/\(Mu.mu s.mu s.pm s.tag s.next=M->s.mu.st=v):=by
 have:=h.says i e;rw[m]at this;rcases j with rfl | rfl | rfl
 ·exact this
 ·exact this
 exact⟨this.1,this.2.1⟩
def ZzD(ok:c.Ok)(r:iU p f (Extern.Atomic.casT (.int .i32)))(j:H.cg=[2]) :
  Zm ((fX p c).prgW i) (callFunc f #[.pointer (some (gZ c.M)),.int .i32 (0:Nat),.int .i32 (1:Nat)]) wk nr H (λv q=>(v=.bool true/\q=H.tagc [10])\/(v=.bool false/\q=H.tagc [3])):=by
 refine M0 ok r (by rw[j];simp[cd,df,one]) (λs h m hb o e=>?_) (λs h m hb o e=>?_)
 ·have:=h.bits ok;rw[Yx]at e;unfold gD at e;refine⟨_,[10],(h.LY (l:=[10]) m hb (by rw[o,j];rfl) rfl (by rw[Yx];unfold gD;omega) trivial).1,?_,rfl,by simp[cd],by simp[cd],by simp[cd],rfl,.inl ⟨rfl,rfl⟩⟩;rw[Yx];unfold gD;simp only;omega
 exact⟨[3],(h.sE (l:=[3]) m hb (by rw[o,j];rfl) rfl trivial).1,by simp[cd],by simp[cd],by simp[cd],rfl,.inr ⟨rfl,rfl⟩⟩
def Zfp(h:fY c s)(j:i<s.next)(hb:c.base<=i)(m:s.tag i=[4,v,M])(pK:s.mu.st≠v):fY c { s with tag:=upd s.tag i [3,M] }:=by
 have h1:=MQ h j m (.inl rfl);have e:=counts (tag:=s.tag) (l:=[3,M]) j lD;rw[m]at e;have o:lD (cd [4,v,M])=6:=rfl;have q:lD (cd [3,M])=6:=rfl;have:Mu.mu s.mu s.pm (upd s.tag i [3,M]) s.next=Mu.mu s.mu s.pm s.tag s.next:=by unfold Mu.mu;omega
 refine(h.pZ j hb (by rw[m];rfl) rfl ?_).1;exact G6
def Zlj(h:fY c s)(j:i<s.next)(hb:c.base<=i)(m:s.tag i=[6,v,M])(pK:s.mu.st≠v):fY c { s with tag:=upd s.tag i [5,M] }:=by
 have h1:=MQ h j m (.inr (.inl rfl));have e:=counts (tag:=s.tag) (l:=[5,M]) j lD;rw[m]at e;have o:lD (cd [6,v,M])=5:=rfl;have q:lD (cd [5,M])=5:=rfl;have:Mu.mu s.mu s.pm (upd s.tag i [5,M]) s.next=Mu.mu s.mu s.pm s.tag s.next:=by unfold Mu.mu;omega
 refine(h.pY j hb (by rw[m];rfl) rfl ?_).1;exact G6
def ZzB(ok:c.Ok)(r:iU p f (Extern.Atomic.casT (.int .i32)))(q:gW L 0 0 n)(hg:H.cg=[4,gD L 0 0 n,M]) :
  Zm ((fX p c).prgW i) (callFunc f #[.pointer (some (gZ c.M)),.int .i32 (gD L 0 0 n:Nat),.int .i32 (gD L 1 0 n:Nat)]) wk nr H (λv e=>(v=.bool true/\e=H.tagc [5,M])\/(v=.bool false/\e=H.tagc [3,M])):=by
 refine M0 ok r (by rw[hg];simp[cd,df,one]) (λs h hi hb ht he=>?_) (λs h hi hb ht he=>?_)
 ·obtain⟨y,j,m,z⟩:=(h.bits ok).eq q he;have o:=(MQ h hi (ht.trans hg) (.inl rfl)).1;obtain⟨m1,u⟩:=Mu.C4 (more:=s.pm) (l:=[5,M]) h.mu hi (by rw[ht,hg];rfl) rfl j m;refine⟨_,[5,M],(h.C4 (l:=[5,M]) hi hb (by rw[ht,hg];rfl) rfl j m ?_).1,?_,rfl,by simp[cd],by simp[cd],by simp[cd],rfl,.inl ⟨rfl,rfl⟩⟩
  ·show _<M;exact Mb u (by decide) o
  rw[Yx];unfold gD;simp only;omega
 exact LJ
def ZzA(ok:c.Ok)(q:iU p f (Extern.Atomic.casT (.int .i32)))(o:gW 0 W 0 n)(hg:H.cg=[4,gD 0 W 0 n,M]) :
  Zm ((fX p c).prgW i) (callFunc f #[.pointer (some (gZ c.M)),.int .i32 (gD 0 W 0 n:Nat),.int .i32 (gD 1 W 0 n:Nat)]) wk nr H (λv e=>(v=.bool true/\e=H.tagc [10])\/(v=.bool false/\e=H.tagc [3,M])):=by
 refine M0 ok q (by rw[hg];simp[cd,df,one]) (λs h hi hb ht he=>?_) (λs h hi hb ht he=>?_)
 ·obtain⟨j,r,m,u⟩:=(h.bits ok).eq o he;refine⟨_,[10],(h.zS (l:=[10]) hi hb (by rw[ht,hg];rfl) rfl j m trivial).1,?_,rfl,by simp[cd],by simp[cd],by simp[cd],rfl,.inl ⟨rfl,rfl⟩⟩;rw[Yx];unfold gD;simp only;omega
 exact LJ
def Zne(ok:c.Ok)(u:iU p f (Extern.Atomic.casT (.int .i32)))(q:gW L W S n)(r:L=1\/S=1)(hg:H.cg=[4,gD L W S n,M]) :
  Zm ((fX p c).prgW i) (callFunc f #[.pointer (some (gZ c.M)),.int .i32 (gD L W S n:Nat),.int .i32 (gD L W S (n+1):Nat)]) wk nr H (λv e=>(v=.bool true/\e=H.tagc [7,M])\/(v=.bool false/\e=H.tagc [3,M])):=by
 refine M0 ok u (by rw[hg];simp[cd,df,one]) (λs h hi hb ht he=>?_) (λs h hi hb ht he=>?_)
 ·obtain⟨z,A,B,D⟩:=(h.bits ok).eq q he;have o:=(MQ h hi (ht.trans hg) (.inl rfl)).1;have j:s.mu.L=1\/s.mu.S=1:=O;obtain⟨m1,y⟩:=Mu.sJ (more:=s.pm) (l:=[7,M]) h.mu hi (by rw[ht,hg];rfl) rfl j;refine⟨_,[7,M],(h.sJ (l:=[7,M]) hi hb (by rw[ht,hg];rfl) rfl j ?_).1,?_,rfl,by simp[cd],by simp[cd],by simp[cd],rfl,.inl ⟨rfl,rfl⟩⟩
  ·show _<M;exact Mb y (by decide) o
  rw[Yx];unfold gD;simp only;omega
 exact LJ
def Znc(ok:c.Ok)(q:iU p f (Extern.Atomic.casT (.int .i32)))(o:gW 0 1 0 n)(hg:H.cg=[6,gD 0 1 0 n,M]) :
  Zm ((fX p c).prgW i) (callFunc f #[.pointer (some (gZ c.M)),.int .i32 (gD 0 1 0 n:Nat),.int .i32 (gD 1 0 0 n:Nat)]) wk nr H (λv e=>(v=.bool true/\e=H.tagc [10])\/(v=.bool false/\e=H.tagc [5,M])):=by
 refine M0 ok q (by rw[hg];simp[cd,df,one]) (λs h hi hb ht he=>?_) (λs h hi hb ht he=>?_)
 ·obtain⟨j,r,m,u⟩:=(h.bits ok).eq o he;refine⟨_,[10],(h.zQ (l:=[10]) hi hb (by rw[ht,hg];rfl) rfl j m trivial).1,?_,rfl,by simp[cd],by simp[cd],by simp[cd],rfl,.inl ⟨rfl,rfl⟩⟩;rw[Yx];unfold gD;simp only;omega
 exact GL
def Znd(ok:c.Ok)(u:iU p f (Extern.Atomic.casT (.int .i32)))(q:Bool)(r:gW 1 1 0 n)(hg:H.cg=[6,gD 1 1 0 n,M]) :
  Zm ((fX p c).prgW i) (callFunc f #[.pointer (some (gZ c.M)),.int .i32 (gD 1 1 0 n:Nat),.int .i32 (gD 1 0 (if q then 1 else 0) (n+1):Nat)]) wk nr H (λv m=>(v=.bool true/\m=H.tagc [7,M])\/(v=.bool false/\m=H.tagc [5,M])):=by
 refine M0 ok u (by rw[hg];simp[cd,df,one]) (λs h hi hb ht he=>?_) (λs h hi hb ht he=>?_)
 ·obtain⟨e,y,z,A⟩:=(h.bits ok).eq r he;have o:=(MQ h hi (ht.trans hg) (.inr (.inl rfl))).1;cases q with
  | false=>
   obtain⟨m1,j⟩:=Mu.sI (more:=s.pm) (l:=[7,M]) h.mu hi (by rw[ht,hg];rfl) rfl e;refine⟨_,[7,M],(h.sI (l:=[7,M]) hi hb (by rw[ht,hg];rfl) rfl e ?_).1,?_,rfl,by simp[cd],by simp[cd],by simp[cd],rfl,.inl ⟨rfl,rfl⟩⟩
   ·show _<M;exact Mb j (by decide) o
   rw[Yx];unfold gD;simp;omega
  | true=>
   obtain⟨m1,j⟩:=Mu.p7 (more:=s.pm) (l:=[7,M]) h.mu hi (by rw[ht,hg];rfl) rfl e;refine⟨_,[7,M],(h.p7 (l:=[7,M]) hi hb (by rw[ht,hg];rfl) rfl e ?_).1,?_,rfl,by simp[cd],by simp[cd],by simp[cd],rfl,.inl ⟨rfl,rfl⟩⟩
   ·show _<M;exact Mb j (by decide) o
   rw[Yx];unfold gD;simp;omega
 exact GL
def Nu(ok:c.Ok)(B:Ym p ty=some none)(N:ρ x=.pointer (some (gZ c.M)))(J:H.cg=[5,M]\/∃v,H.cg=[6,v,M]) :
  Zm ((fX p c).prgW i) (execOp ρ (fL (.load ty x) vE)) wk true H (λv F=>∃L n m,gW L 1 0 n/\v=.int .i32 (gD L 1 0 n:Nat)/\F=H.tagc [6,gD L 1 0 n,m]/\(H.cg=[5,M]->m<M)/\((∃v,H.cg=[6,v,M])->m<=M)):=by
 have q:cd H.cg=5\/cd H.cg=6:=by rcases J with e | ⟨v,e⟩<;>rw[e]<;>simp[cd]
 refine Mj ok B N O λs h r hb y=>?_;have o:=h.bits ok;obtain⟨D,E⟩:=ZwF h r (by rw[y];exact q);rw[D,E]at o;have z:s.mu.st=gD s.mu.L 1 0 s.mu.n:=by rw[Yx,D,E]
 have A:∀l:List Nat,cd l=5\/cd l=6->Mu.mu s.mu s.pm (upd s.tag i l) s.next=Mu.mu s.mu s.pm s.tag s.next:=by
  intro l K;have e:=counts (tag:=s.tag) (l:=l) r lD;rw[y]at e;have P:lD (cd H.cg)=5:=by rcases q with e | e<;>rw[e]<;>rfl
  have Q:lD (cd l)=5:=by rcases K with e | e<;>rw[e]<;>rfl
  unfold Mu.mu;omega
 have key:s.mu.lO (Mu.mu s.mu s.pm (upd s.tag i [6,s.mu.st,Mu.mu s.mu s.pm s.tag s.next]) s.next) [6,s.mu.st,Mu.mu s.mu s.pm s.tag s.next]:=by rw[A _ (.inr rfl)];exact⟨DO _,λ_=>rfl⟩
 refine⟨[6,s.mu.st,Mu.mu s.mu s.pm s.tag s.next],?_,by simp[cd],by simp[cd],by simp[cd],by rcases q with e | e<;>rw[e]<;>rfl,s.mu.L,s.mu.n,_,o,by rw[z],by rw[z],λe=>?_,λ⟨v,e⟩=>?_⟩
 ·rcases q with e | e
  ·exact(h.same5_6 r hb (by rw[y];exact e) rfl key).1
  have G:=(h.pY (l:=[5]) r hb (by rw[y];exact e) rfl trivial).1;have I:=(G.same5_6 (i:=i) (l:=[6,s.mu.st,Mu.mu s.mu s.pm s.tag s.next]) r hb (by show cd (upd s.tag i [5] i)=5;rw[upd_same];rfl) rfl (by show s.mu.lO (Mu.mu s.mu s.pm (upd (upd s.tag i [5]) i _) s.next) _;rw[Nb];exact key)).1;show fY c { s with tag:=_ };rw[<-Nb s.tag i [5]];exact I
 ·exact Np h r (y.trans e) O
 exact(MQ h r (y.trans e) O).1
def OX(ok:c.Ok)(B:iU p f Extern.Sync.semacquire)(o:vs[0]? = some (.pointer (some ⟨c.M,1,none⟩)))(y:H.cg=[7,M]) :
  Zm ((fX p c).prgW i) (callFunc f vs) wk nr H (λv D=>v=Zx/\D=H.tagc [8,M]):=by
 refine MU ok (.inl (by rw[y];simp[cd,df,one])) λs Hs t w j=>?_;have h:s.tag i=[7,M]:=(show s.tag i=H.cg from(YO j (by rw[y];simp[cd])).1).trans y;have r:ZU c s Hs t:=j.inv;have z:=UM j (by rw[h];simp[cd,df,one]) (by rw[h];simp[cd,df,one]);have F:Deaf t i=1:=by rw[V2 j (by rw[h];simp[cd,df,one]),h];rfl
 obtain⟨_,_,u,I⟩:=MF ok j;by_cases m:s.mu.sm=0
 ·rw[m]at u;exact .inl ⟨Zhw B o u,.inl ⟨by rw[h];rfl,m⟩⟩
 refine .inr ⟨Zx,[8,M],?_,.inl (by simp[cd]),rfl,rfl⟩;obtain⟨K,N,P⟩:=Lt (C:=c.toTC) (i:=i) (d:=Deaf t i) (b:=c.M) (off:=1) (.inl rfl);have A:=Zhx (rest:=#[]) B o u I (by exact_mod_cast m);have G:((s.mu.sm:Nat):Int)-1=((s.mu.sm-1:Nat):Int):=O;rw[G]at A;have E:=Np r.cnt j.lt h O;obtain⟨m1,J⟩:=Mu.sC (more:=s.pm) (l:=[8,M]) r.cnt.mu j.lt (by rw[h];rfl) rfl O;refine iB.BV (x':={ s.mu with sm:=s.mu.sm-1 }) ok j A (λfn _=>Nr) (.inr ⟨1,_,rfl,rfl⟩) (r.cnt.sC (l:=[8,M]) j.lt z (by rw[h];rfl) rfl O ?_).1 ⟨K,N,?_⟩ (.inr λe=>absurd e m) ?_ (by rw[h];simp[cd,df,one]) (by simp[cd]) (λe=>by simp[cd]at e)
 ·show _<M;exact qBB (OM J (by decide)) E
 ·rw[P,F];rfl
 left;rintro(⟨_,e⟩ | ⟨e,_⟩)
 ·exact m e
 rw[h]at e;simp[cd]at e
def VS(ok:c.Ok)(B:Ym p ty=some none)(G:ρ x=.pointer (some (gZ c.M)))(r:H.cg=[8,M]) :
  Zm ((fX p c).prgW i) (execOp ρ (fL (.load ty x) vE)) wk true H (λv D=>(∃L n m,gW L 1 0 n/\v=.int .i32 (gD L 1 0 n:Nat)/\D=H.tagc [6,gD L 1 0 n,m]/\m<M) \/
   (∃n,gW 0 0 1 n/\1<=n/\v=.int .i32 (gD 0 0 1 n:Nat)/\D=H.tagc [9,gD 0 0 1 n])):=by
 refine Mj ok B G (by rw[r];simp[cd,df,one]) λs h y hb z=>?_
 have o:=h.bits ok
 have I:=Ct.le cA s.tag y
 have e:cA (cd (s.tag i))=1:=by rw[z,r];rfl
 rcases qBd s.mu.S with u | u
 ·have E:s.mu.W=1:=by have:=h.mu.norm u;have:=h.mu.W1;omega
  have q:s.mu.st=gD s.mu.L 1 0 s.mu.n:=by rw[Yx,u,E]
  rw[u,E]at o;obtain⟨m1,J⟩:=Mu.vC (more:=s.pm) (l:=[6,s.mu.st,Mu.mu s.mu s.pm s.tag s.next]) h.mu y (by rw[z,r];rfl) rfl u;refine⟨[6,s.mu.st,Mu.mu s.mu s.pm s.tag s.next],(h.vC (l:=[6,s.mu.st,Mu.mu s.mu s.pm s.tag s.next]) y hb (by rw[z,r];rfl) rfl u ⟨O,λ_=>rfl⟩).1,by simp[cd],by simp[cd],by simp[cd],by rw[r];rfl,.inl ⟨s.mu.L,s.mu.n,_,o,by rw[q],by rw[q],Np h y (z.trans r) O⟩⟩
 ·have A:s.mu.S=1:=by have:=h.mu.S1;omega
  have F:=h.mu.starv A;have q:s.mu.st=gD 0 0 1 s.mu.n:=by rw[Yx,A];unfold gD;omega
  refine⟨[9,s.mu.st],(h.zK (l:=[9,s.mu.st]) y hb (by rw[z,r];rfl) rfl A ⟨A,?_,?_⟩).1,by simp[cd],by simp[cd],by simp[cd],by rw[r];rfl,.inr ⟨s.mu.n,⟨O,O,O,o.n⟩,F.2.1,by rw[q],by rw[q]⟩⟩
  ·rw[q];unfold gD;omega
  rw[q];unfold gD;omega
def Zef{z:Int}(e:0<=z)(h:z<=2147483647):IntKind.i32.wrap z=z:=by exact xX
def YJ(ok:c.Ok)(K:iU p f (Extern.Atomic.update (Op.intArith .add) .i32 true))(T:gW 0 0 1 n)(N:1<=n)(m:Bool)(q:m=false->n≠1)(r:H.cg=[9,gD 0 0 1 n]) :
  Zm ((fX p c).prgW i) (callFunc f #[.pointer (some (gZ c.M)),.int .i32 (if m then -11 else -7)]) wk nr H (λv F=>(∃z,v=.int .i32 z)/\F=H.tagc [10]):=by
 refine Znf ok K (by rw[r];simp[cd,df,one]) λs h u hb y=>?_;have o:=h.bits ok;have j:=h.says i u;rw[y,r]at j;obtain⟨A,B,D⟩:=j;have J:gD 0 0 1 n / 8=n:=by unfold gD;omega
 rw[J]at B D;have G:=h.mu.starv A;have P:=Ct.le cA s.tag u;have e:cA (cd (s.tag i))=1:=by rw[y,r];rfl
 have Q:s.mu.L=0:=O;have R:s.mu.W=0:=G.2.2.1;have I:=o.n;cases m with
 | true=>
  refine⟨_,[10],(h.AM (l:=[10]) u hb (by rw[y,r];rfl) rfl A trivial).1,?_,rfl,by simp[cd],by simp[cd],by simp[cd],rfl,⟨_,rfl⟩,rfl⟩;rw[Yx,Yx];unfold gD;simp only[qBb];rw[Zef]<;>omega
 | false=>
  have:=q rfl;refine⟨_,[10],(h.hand (l:=[10]) u hb (by rw[y,r];rfl) rfl A O trivial).1,?_,rfl,by simp[cd],by simp[cd],by simp[cd],rfl,⟨_,rfl⟩,rfl⟩;rw[Yx,Yx];unfold gD;simp only[oR,qAq];rw[Zef]<;>omega
def Zzt(ok:c.Ok)(T:iU p f (Extern.Atomic.update (Op.intArith .add) .i32 true))(A:H.cg=[14]) :
  Zm ((fX p c).prgW i) (callFunc f #[.pointer (some (gZ c.M)),.int .i32 (-1)]) wk nr H (λv E=>
   (∃W n,gW 0 W 0 n/\(n=0\/W=1)/\v=.int .i32 (gD 0 W 0 n:Nat)/\E=H.tagc [18])\/(∃n m,gW 0 0 0 n/\1<=n/\v=.int .i32 (gD 0 0 0 n:Nat)/\E=H.tagc [15,gD 0 0 0 n,m]) \/
   (∃n,gW 0 0 1 n/\v=.int .i32 (gD 0 0 1 n:Nat)/\E=H.tagc [17])):=by
 refine Znf ok T (by rw[A];simp[cd,df,one]) λs h u hb D=>?_
 have o:=h.bits ok
 have U:=Ct.le Yz s.tag u
 have e:Yz (cd (s.tag i))=1:=by rw[D,A];rfl
 have V:s.mu.L=1:=by have:=h.mu.L1;have:=h.mu.L2;omega
 have r:=o.n
 have G:∀I:Mu,I={ s.mu with L:=0 }->IntKind.i32.wrap ((s.mu.st:Nat)+(-1))=(I.st:Nat):=by rintro I rfl;rw[Yx,Yx];unfold gD;simp only;have:=o.W;have:=o.S;rw[Zef]<;>omega
 rcases qBd s.mu.S with z | z
 ·by_cases K:s.mu.n=0\/s.mu.W=1
  ·refine⟨_,[18],(h.sA (l:=[18]) u hb (by rw[D,A];rfl) rfl z K trivial).1,G _ rfl,rfl,by simp[cd],by simp[cd],by simp[cd],rfl,.inl ⟨s.mu.W,s.mu.n,⟨O,o.W,O,r⟩,K,?_,rfl⟩⟩;rw[Yx];simp only[z]
  have R:s.mu.W=0:=by have:=o.W;omega
  have B:({ s.mu with L:=0 }:Mu).st=gD 0 0 0 s.mu.n:=by rw[Yx];simp only[z,R]
  obtain⟨m1,X⟩:=Mu.pW (more:=s.pm) (l:=[15,gD 0 0 0 s.mu.n,Mu.mu { s.mu with L:=0 } s.pm (upd s.tag i [15]) s.next]) h.mu u (by rw[D,A];rfl) rfl z;have y:Mu.mu { s.mu with L:=0 } s.pm (upd s.tag i [15,gD 0 0 0 s.mu.n,Mu.mu { s.mu with L:=0 } s.pm (upd s.tag i [15]) s.next]) s.next=Mu.mu { s.mu with L:=0 } s.pm (upd s.tag i [15]) s.next:=by have N:=counts (tag:=s.tag) (l:=[15]) u lD;have J:=counts (tag:=s.tag) (l:=[15,gD 0 0 0 s.mu.n,Mu.mu { s.mu with L:=0 } s.pm (upd s.tag i [15]) s.next]) u lD;have P:cd [15]=cd [15,gD 0 0 0 s.mu.n,Mu.mu { s.mu with L:=0 } s.pm (upd s.tag i [15]) s.next]:=rfl;rw[<-P]at J;simp only[Mu.mu]at N J ⊢;omega
  refine⟨_,[15,gD 0 0 0 s.mu.n,Mu.mu { s.mu with L:=0 } s.pm (upd s.tag i [15]) s.next],(h.pW u hb (by rw[D,A];rfl) rfl z ?_).1,G _ rfl,rfl,by simp[cd],by simp[cd],by simp[cd],rfl,.inr (.inl ⟨s.mu.n,_,⟨O,O,O,r⟩,O,by rw[B],rfl⟩)⟩;refine⟨qDw y,λ_=>B,?_,?_⟩<;>unfold gD<;>omega
 ·have F:s.mu.S=1:=by have:=h.mu.S1;omega
  have Q:=h.mu.starv F;refine⟨_,[17],(h.r8 (l:=[17]) u hb (by rw[D,A];rfl) rfl F trivial).1,G _ rfl,rfl,by simp[cd],by simp[cd],by simp[cd],rfl,.inr (.inr ⟨s.mu.n,⟨O,O,O,r⟩,?_,rfl⟩)⟩;rw[Yx];simp only[F,Q.2.2.1]
def ZzC(ok:c.Ok)(F:iU p f (Extern.Atomic.casT (.int .i32)))(E:gW 0 0 0 (n+1))(m:H.cg=[15,gD 0 0 0 (n+1),M]) :
  Zm ((fX p c).prgW i) (callFunc f #[.pointer (some (gZ c.M)),.int .i32 (gD 0 0 0 (n+1):Nat),.int .i32 (gD 0 1 0 n:Nat)]) wk nr H (λv u=>(v=.bool true/\u=H.tagc [17])\/(v=.bool false/\u=H.tagc [16,M])):=by
 refine M0 ok F (by rw[m];simp[cd,df,one]) (λs h o hb q r=>?_) (λs h o hb q r=>?_)
 ·obtain⟨z,A,B,G⟩:=(h.bits ok).eq E r;refine⟨_,[17],(h.A0 (l:=[17]) o hb (by rw[q,m];rfl) rfl z A B O trivial).1,?_,rfl,by simp[cd],by simp[cd],by simp[cd],rfl,.inl ⟨rfl,rfl⟩⟩;rw[Yx];unfold gD;simp only;omega
 refine⟨[16,M],(h.oU (l:=[16,M]) o hb (by rw[q,m];rfl) rfl ?_).1,by simp[cd],by simp[cd],by simp[cd],rfl,.inr ⟨rfl,rfl⟩⟩;have D:=MQ h o (q.trans m) (.inr (.inr rfl));have e:=counts (tag:=s.tag) (l:=[16,M]) o lD;rw[q,m]at e;have I:lD (cd [15,gD 0 0 0 (n+1),M])=2:=rfl;have J:lD (cd [16,M])=2:=rfl;have:Mu.mu s.mu s.pm (upd s.tag i [16,M]) s.next=Mu.mu s.mu s.pm s.tag s.next:=by unfold Mu.mu;omega
 show _<M;rw[this];rcases qBh (Mu.mu s.mu s.pm s.tag s.next) M with y | y
 ·exact y
 exact absurd (D.2 O) r
def Zzv(ok:c.Ok)(A:Ym p ty=some none)(J:ρ x=.pointer (some (gZ c.M)))(q:H.cg=[16,M]) :
  Zm ((fX p c).prgW i) (execOp ρ (fL (.load ty x) vE)) wk true H (λv B=>(∃L W S n,gW L W S n/\(L=1\/W=1\/S=1\/n=0)/\v=.int .i32 (gD L W S n:Nat)/\B=H.tagc [18]) \/
   (∃n m,gW 0 0 0 n/\1<=n/\v=.int .i32 (gD 0 0 0 n:Nat)/\B=H.tagc [15,gD 0 0 0 n,m]/\m<M)):=by
 refine Mj ok A J (by rw[q];simp[cd,df,one]) λs h u hb y=>?_
 have o:=h.bits ok
 by_cases D:s.mu.L=1\/s.mu.W=1\/s.mu.S=1\/s.mu.n=0
 ·exact⟨[18],(h.uX (l:=[18]) u hb (by rw[y,q];rfl) rfl D trivial).1,by simp[cd],by simp[cd],by simp[cd],by rw[q];rfl,.inl ⟨_,_,_,_,o,D,by rw[Yx],rfl⟩⟩
 ·have K:=o.L;have N:=o.W;have P:=o.S;have E:s.mu.L=0:=O;have F:s.mu.W=0:=O;have G:s.mu.S=0:=O;have r:s.mu.st=gD 0 0 0 s.mu.n:=by rw[Yx,E,F,G]
  have z:Mu.mu s.mu s.pm (upd s.tag i [15,gD 0 0 0 s.mu.n,Mu.mu s.mu s.pm s.tag s.next]) s.next=Mu.mu s.mu s.pm s.tag s.next:=by have e:=counts (tag:=s.tag) (l:=[15,gD 0 0 0 s.mu.n,Mu.mu s.mu s.pm s.tag s.next]) u lD;rw[y,q]at e;have Q:lD (cd [16,M])=2:=rfl;have I:lD (cd [15,gD 0 0 0 s.mu.n,Mu.mu s.mu s.pm s.tag s.next])=2:=rfl;simp only[Mu.mu]at e I ⊢;omega
  refine⟨[15,gD 0 0 0 s.mu.n,Mu.mu s.mu s.pm s.tag s.next],(h.oT (l:=[15,gD 0 0 0 s.mu.n,Mu.mu s.mu s.pm s.tag s.next]) u hb (by rw[y,q];rfl) rfl ?_).1,by simp[cd],by simp[cd],by simp[cd],by rw[q];rfl,.inr ⟨s.mu.n,_,⟨O,O,O,o.n⟩,O,by rw[r],rfl,Np h u (y.trans q) O⟩⟩;refine⟨qDw z,λ_=>r,?_,?_⟩<;>unfold gD<;>omega
theorem Znb(ok:c.Ok)(E:iU p f Extern.Sync.semrelease)(o:vs[0]? = some (.pointer (some ⟨c.M,1,none⟩)))(m:H.cg=[17]) :
  Zm ((fX p c).prgW i) (callFunc f vs) true nr H (λv y=>v=Zx/\y=H.tagc [18]):=by
 refine MU ok (.inl (by rw[m];simp[cd,df,one])) λs Hs t w j=>.inr ?_;have h:s.tag i=[17]:=(show s.tag i=H.cg from(YO j (by rw[m];simp[cd])).1).trans m;have r:ZU c s Hs t:=j.inv;have q:=UM j (by rw[h];simp[cd,df,one]) (by rw[h];simp[cd,df,one]);have z:Deaf t i=1:=by rw[V2 j (by rw[h];simp[cd,df,one]),h];rfl
 obtain⟨_,_,A,F⟩:=MF ok j;have D:s.mu.sm<=1:=by have:=Zz5 (g:=cQ) (λn=>Ax _) s.tag s.next;obtain⟨K,N,f3,f4,f5,f6⟩:=r.cnt.mu;exact D4
 obtain⟨G,I,J⟩:=Lt (C:=c.toTC) (i:=i) (d:=Deaf t i) (b:=c.M) (off:=1) (.inl rfl);have u:=Zhv E o A F;have B:IntKind.u32.wrap (((s.mu.sm:Nat):Int)+1)=((s.mu.sm+1:Nat):Int):=by exact xX
 rw[B]at u;refine⟨Zx,[18],?_,.inl (by simp[cd]),rfl,rfl⟩;refine iB.BV (x':={ s.mu with sm:=s.mu.sm+1 }) ok j u (λfn _=>Nr) (.inr ⟨1,_,rfl,rfl⟩) (r.cnt.uR (l:=[18]) j.lt q (by rw[h];rfl) rfl trivial).1 ⟨G,I,?_⟩ (.inl rfl) (Y8 (by rw[h];simp[cd,df,one]) (by rw[h];simp[cd,df,one])) (by rw[h];simp[cd,df,one]) (by simp[cd]) (λe=>by simp[cd]at e);rw[J,z];rfl
end
