import Derived.Test.YthmnpenamnoniaaGreatDoorP06
import Derived.Test.YthmnpenamnoniaaGreatDoorP12
import Derived.Conc.Own2
import Derived.Conc.SmallLaws
set_option linter.all false
namespace Go.LL
section
variable{t:Trace}{w:World}{z v:Int}{k:IntKind}{a:Addr}{vs:Array Value}{n:Nat}
open Go.Conc
open Go.ConcN (sumTo upd sumTo_upd upd_ne upd_same)
section
variable{p:Program}{c:Cx}{i:Nat}{H:Hp}{s:Ts}{f:FuncId}{wk nr:Bool}
def eZ(v b:Nat):Nat:=v * 4294967296+b
def Uo{g:Hp}(b:bZ (aZ p c) i H s g t w):w.cell? ⟨c.W,0,none⟩=some (.int .u64 (eZ s.wg.v s.wg.wt:Nat))/\w.frozen? ⟨c.W,0,none⟩=false/\w.cell? ⟨c.W,1,none⟩=some (.int .u32 (s.wg.wm:Nat))/\w.frozen? ⟨c.W,1,none⟩=false:=by obtain⟨h,j⟩:=UE (off:=0) (v:=.int .u64 (eZ s.wg.v s.wg.wt:Nat)) (wW b) rfl;obtain⟨l,m⟩:=UE (off:=1) (v:=.int .u32 (s.wg.wm:Nat)) (wW b) rfl;exact⟨h,j,l,m⟩
def PW(b:0<=z)(g:z<=18446744073709551615):IntKind.u64.wrap z=z:=by simp only[IntKind.wrap,IntKind.bits,IntKind.signed];simp;omega
def Zo1(b:18446744073709551616<=z)(g:z<=36893488147419103231):IntKind.u64.wrap z=z-18446744073709551616:=by simp only[IntKind.wrap,IntKind.bits,IntKind.signed];simp;omega
def aW.jB(ok:c.Ok)(h:aW c s):s.wg.v<=100000001/\s.wg.wt<=1:=by
 have r:=h.pE (g:=cW) (λn=>AS _) rfl (λn B=>by simp[cW,dS];omega);have u:=h.num;have y:=ok.rL;have A:mP (cd (s.tag 0))<=1:=AS _;obtain⟨l,m,o,b,j,q⟩:=h.wg;refine⟨O,?_⟩;by_cases e:cd (s.tag 0)=36
 ·have:=b e;omega
 have:=j e;omega
def FI(g:dC p f (Extern.Atomic.loadT (.int k)))(b:w.cell? a=some (.int k v)) :
  (callFunc f #[.pointer (some a)]).runT p w #[]=(.ok (.value (.int k v)) w,#[YA f]++#[⟨.cell a,false,true⟩]):=by
 refine g.val ?_ ?_
 ·change Sem.run p (do Extern.Atomic.read (.int k) (<-asAddr (.pointer (some a)))) w=_;simp[Extern.Atomic.read,asAddr,b]
 change Sem.events p (do Extern.Atomic.read (.int k) (<-asAddr (.pointer (some a)))) w _=_;simp[Extern.Atomic.read,asAddr,b,events_load]
def Zqo(h:dC p f Extern.Atomic.storeT){u:Value}(b:w.cell? a=some u)(g:w.frozen? a=false) :
  (callFunc f #[.pointer (some a),.int k v]).runT p w #[]=(.ok (.value Zz) (w.setCell a (.int k v)),#[YA f]++#[⟨.cell a,true,true⟩]):=by
 refine h.val ?_ ?_
 ·change Sem.run p (do
   store (<-asAddr (.pointer (some a))) (.int k v) .atomic
   pure Extern.Atomic.none_) w=_
  simp[asAddr,b,g,run_store p w a (.int k v) .atomic rfl,Extern.Atomic.none_,Result.andThen]
 change Sem.events p (do
  store (<-asAddr (.pointer (some a))) (.int k v) .atomic
  pure Extern.Atomic.none_) w _=_
 simp[asAddr,b,g,events_store p w _ a (.int k v) .atomic rfl]
def BT{j:Hp}(g:bZ (aZ p c) i (.aN H.gh) s j t w)(m:Yh H.gh):s.tag i=H.gh/\Yb c s j t/\i<s.next/\c.base<=i/\i≠0/\Deaf t i=df (cd H.gh):=by have b:s.tag i=H.gh:=g.tag;have l:Yb c s j t:=g.inv;unfold Yh at m;have hb:=UJ g (by rw[b];omega) (by rw[b];omega);exact⟨b,l,g.lt,hb,by have:=l.cnt.pos;omega,by rw[Um g (by rw[b];omega),b]⟩
theorem Zu8(ok:c.Ok)(B:dC p f (λ_=>do mark .disable;pure Zz))(g:H.gh=[20]):Zp ((aZ p c).prgW i) (callFunc f vs) wk nr H (λv q=>v=Zz/\q=H.tagged [21]):=by refine AZ ok (by rw[g];simp[Yh,cd]) λs D t w j=>.inr ⟨Zz,[21],?_,.inl ⟨by simp[Yh,cd],rfl,rfl⟩⟩;obtain⟨b,y,h,hb,A,o⟩:=BT j (by rw[g];simp[Yh,cd]);rw[g]at b o;obtain⟨r,u⟩:=DW (C:=c.toTC) (i:=i) (d:=Deaf t i) (m:=.disable) (.inl rfl);refine cG.pK ok j (AX (by simp) B vs w) (λfn _=>AY (by simp) fn) (.inl ⟨rfl,rfl⟩) (y.cnt.gC (l:=[21]) h hb (by rw[b];rfl) rfl trivial).1 ⟨r,u,?_⟩ (.inr id) (Vg (by rw[b];simp[cd]) (by rw[b];simp[cd])) (by rw[b];simp[cd]) (by simp[cd]) (λ_=>.inl (by rw[b];simp[cd]));rw[o];rfl
theorem Zu9(ok:c.Ok)(M:dC p f (Extern.Atomic.update (Op.intArith .add) .u64 true))(y:H.gh=[21]) :
  Zp ((aZ p c).prgW i) (callFunc f #[.pointer (some (cC c.W)),.int .u64 18446744069414584320]) wk nr H (λv D=>∃n h,n<=100000000/\h<=1/\v=.int .u64 (eZ n h:Nat) /\
   (((n≠0\/h=0)/\D=H.tagged (lv 1))\/(n=0/\h=1/\D=H.tagged [22]))):=by
 refine AZ ok (by rw[y];simp[Yh,cd]) λs Q t w r=>.inr ?_
 obtain⟨b,u,j,hb,K,m⟩:=BT r (by rw[y];simp[Yh,cd])
 rw[y]at b m
 replace m:Deaf t i=1:=m
 obtain⟨J,N,_⟩:=Uo r
 obtain⟨T,q⟩:=u.cnt.jB ok
 have L:1<=s.wg.v:=by
  have R:=Ct.le cW s.tag j;have S:cW (cd (s.tag i))=1:=by rw[b];rfl
  have:=u.cnt.wg.v1;omega
 have B:=M4 M (d:=18446744069414584320) J N
 have o:IntKind.u64.wrap (((eZ s.wg.v s.wg.wt:Nat):Int)+18446744069414584320)=((eZ (s.wg.v-1) s.wg.wt:Nat):Int):=by unfold eZ;rw[Zo1]<;>omega
 rw[o]at B
 obtain⟨E,F,G⟩:=UB (i:=i) (d:=Deaf t i) (C:=c.toTC) (BQ (off:=0) (.inr rfl)) O
 have I:∀{l:List Nat},¬ Ya s i\/l=s.tag i:=Vg (by rw[b];simp[cd]) (by rw[b];simp[cd])
 by_cases A:s.wg.v=1/\s.wg.wt=1
 ·refine⟨_,[22],cG.nT (y':={ s.wg with v:=s.wg.v-1 }) ok r B (λfn _=>wZ) (.inr ⟨0,_,rfl,rfl⟩) (u.cnt.pD (l:=[22]) j hb (by rw[b];rfl) rfl trivial A) ⟨E,F,by rw[G,m];rfl⟩ (.inr id) I (by rw[b];simp[cd]) (by simp[cd]) (λ_=>.inl (by rw[b];simp[cd])),
   .inl ⟨by simp[Yh,cd],s.wg.v-1,s.wg.wt,O,q,rfl,.inr ⟨O,A.2,rfl⟩⟩⟩
 ·refine⟨_,[0],cG.nT (y':={ s.wg with v:=s.wg.v-1 }) ok r B (λfn _=>wZ) (.inr ⟨0,_,rfl,rfl⟩) (u.cnt.pC j hb (by rw[b];rfl) A) ⟨E,F,by rw[G,m];rfl⟩ (.inr id) I (by rw[b];simp[cd]) (by simp[cd]) (λ_=>.inl (by rw[b];simp[cd])),
   .inr ⟨rfl,s.wg.v-1,s.wg.wt,O,q,rfl,.inl ⟨O,rfl⟩⟩⟩
def Cv(h:aW c s)(b:i<s.next)(l:cL (cd (s.tag i))=1):s.wg.v=0/\s.wg.wt=1/\s.wg.wm=0:=by
 have u:=Ct.le cL s.tag b;obtain⟨m,o,q,g,j,r⟩:=h.wg;by_cases e:cd (s.tag 0)=36
 ·have:=g e;omega
 have:=j e;omega
theorem Zu7(ok:c.Ok)(B:dC p f (Extern.Atomic.loadT (.int .u64)))(m:H.gh=[22]) :
  Zp ((aZ p c).prgW i) (callFunc f #[.pointer (some (cC c.W))]) wk nr H (λv r=>v=.int .u64 (1:Nat)/\r=H.tagged [23]):=by
 refine AZ ok (by rw[m];simp[Yh,cd]) λs G t w j=>.inr ?_;obtain⟨b,o,g,hb,A,h⟩:=BT j (by rw[m];simp[Yh,cd]);rw[m]at b h;replace h:Deaf t i=1:=h;obtain⟨q,J,_⟩:=Uo j;obtain⟨u,y,I⟩:=Cv o.cnt g (by rw[b];rfl);rw[u,y]at q;obtain⟨D,E,F⟩:=UB (i:=i) (d:=Deaf t i) (C:=c.toTC) (x6 (off:=0) (wr:=false) (.inr rfl)) O;refine⟨_,[23],cG.nT ok j (FI B q) (λfn _=>vH) (.inl ⟨rfl,rfl⟩) (o.cnt.gB (l:=[23]) g hb (by rw[b];rfl) rfl trivial).1 ⟨D,E,by rw[F,h];rfl⟩ (.inr id) (Vg (by rw[b];simp[cd]) (by rw[b];simp[cd])) (by rw[b];simp[cd]) (by simp[cd]) (λ_=>.inl (by rw[b];simp[cd])),
  .inl ⟨by simp[Yh,cd],rfl,rfl⟩⟩
theorem Zu5(ok:c.Ok)(A:dC p f Extern.Atomic.storeT)(m:H.gh=[23]) :
  Zp ((aZ p c).prgW i) (callFunc f #[.pointer (some (cC c.W)),.int .u64 (0:Nat)]) wk nr H (λv q=>v=Zz/\q=H.tagged [24]):=by
 refine AZ ok (by rw[m];simp[Yh,cd]) λs G t w j=>.inr ?_;obtain⟨b,o,g,hb,y,h⟩:=BT j (by rw[m];simp[Yh,cd]);rw[m]at b h;replace h:Deaf t i=1:=h;obtain⟨u,B,_⟩:=Uo j;obtain⟨r,I,J⟩:=Cv o.cnt g (by rw[b];rfl);obtain⟨D,E,F⟩:=UB (i:=i) (d:=Deaf t i) (C:=c.toTC) (x6 (off:=0) (wr:=true) (.inr rfl)) O;refine⟨_,[24],cG.nT (y':={ s.wg with wt:=0 }) ok j (Zqo A u B) (λfn _=>vH) (.inr ⟨0,_,rfl,by rw[r];rfl⟩) (o.cnt.kR (l:=[24]) g hb (by rw[b];rfl) rfl trivial) ⟨D,E,by rw[F,h];rfl⟩ (.inr id) (Vg (by rw[b];simp[cd]) (by rw[b];simp[cd])) (by rw[b];simp[cd]) (by simp[cd]) (λ_=>.inl (by rw[b];simp[cd])),
  .inl ⟨by simp[Yh,cd],rfl,rfl⟩⟩
def Zu6(ok:c.Ok)(I:dC p f Extern.Sync.semrelease)(q:vs[0]? = some (.pointer (some ⟨c.W,1,none⟩)))(o:H.gh=[24]) :
  Zp ((aZ p c).prgW i) (callFunc f vs) true nr H (λv A=>v=Zz/\A=H.tagged (lv 1)):=by
 refine AZ ok (by rw[o];simp[Yh,cd]) λs N t w m=>.inr ?_;obtain⟨g,u,h,hb,F,l⟩:=BT m (by rw[o];simp[Yh,cd]);rw[o]at g l;replace l:Deaf t i=1:=l;obtain⟨_,_,E,J⟩:=Uo m;have r:s.wg.wm=0:=by
  have T:=Ct.le cE s.tag h;have U:cE (cd (s.tag i))=1:=by rw[g];rfl
  obtain⟨O,Q,R,B,D,S⟩:=u.cnt.wg;by_cases e:cd (s.tag 0)=36
  ·have:=B e;omega
  have:=D e;omega
 obtain⟨K,L,M⟩:=DX (C:=c.toTC) (i:=i) (d:=Deaf t i) (b:=c.W) (off:=1) (.inr rfl);have y:=Lr I q E J;have G:IntKind.u32.wrap (((s.wg.wm:Nat):Int)+1)=((s.wg.wm+1:Nat):Int):=by rw[r];rfl
 rw[G]at y;refine⟨_,[0],cG.nT (y':={ s.wg with wm:=s.wg.wm+1 }) ok m y (λfn _=>FK) (.inr ⟨1,_,rfl,rfl⟩) (u.cnt.n8 h hb (by rw[g];rfl)) ⟨K,L,by rw[M,l];rfl⟩ (.inl rfl) (Vg (by rw[g];simp[cd]) (by rw[g];simp[cd])) (by rw[g];simp[cd]) (by simp[cd]) (λ_=>.inl (by rw[g];simp[cd])),
  .inr ⟨rfl,rfl,rfl⟩⟩
def Zuz(h:dC p f (λ_=>do mark .enable;pure Zz))(g:H.gh=lv 1):Zp ((aZ p c).prgW i) (callFunc f vs) wk nr H (λv b=>v=Zz/\b=H.tagged (lv 0)):=
 ZpV g (λw=>AX (by simp) h vs w) (λfn=>AY (by simp) fn) (by simp[Event.mute]) ⟨rfl,rfl⟩
def Om{j:Hp}(h:bZ (aZ p c) 0 H s j t w)(l:30<=cd H.gh):s.tag 0=H.gh/\Yb c s j t/\Deaf t 0=df (cd H.gh):=by have b:s.tag 0=H.gh:=h.tag;exact⟨b,h.inv,by rw[Um h (by rw[b];omega),b]⟩
theorem GN(ok:c.Ok){m:Mark}(r:m=.disable\/m=.enable)(I:dC p f (λ_=>do mark m;pure Zz)){l:List Nat}(q:30<=cd H.gh/\cd H.gh<=39/\cd H.gh≠36)(G:30<=cd l/\cd l<=39)
  (F:deafBehind (df (cd H.gh)) #[⟨.mark m,false,true⟩]=df (cd l)) (h:∀s:Ts,aW c s->s.tag 0=H.gh->aW c { s with tag:=upd s.tag 0 l }):Zp ((aZ p c).prgM) (callFunc f vs) wk nr H (λv y=>v=Zz/\y=H.tagged l):=by
 have j:∀g,m≠.extern g:=by rcases r with rfl | rfl<;>simp
 refine vJ ok q.1 λs K t w o=>.inr ⟨Zz,l,?_,G.1,rfl,rfl⟩;obtain⟨b,E,D⟩:=Om o q.1;obtain⟨A,B⟩:=DW (C:=c.toTC) (i:=0) (d:=Deaf t 0) (m:=m) (by rcases r with rfl | rfl<;>simp);refine cG.pK ok o (AX j I vs w) (λfn _=>AY j fn) (.inl ⟨rfl,rfl⟩) (h s E.cnt b) ⟨A,B,?_⟩ (.inr id) (Vg (by rw[b];omega) (by rw[b];omega)) (by rw[b];omega) O (λe=>.inl (by rw[b];omega));rw[D,F,bY O]
def Zuu(ok:c.Ok)(o:dC p f (λ_=>do mark .disable;pure Zz))(b:H.gh=[30,n]):Zp ((aZ p c).prgM) (callFunc f vs) wk nr H (λv j=>v=Zz/\j=H.tagged [31,n]):=
 GN ok (.inl rfl) o (by rw[b];simp[cd]) (by simp[cd]) (by rw[b];rfl) λs h g=>h.kD (l:=[31,n]) (by rw[g,b];rfl) rfl λk m e=>by simp at e;rw[e.2.symm];exact h.kK 30 n O (g.trans b)
def Zus(ok:c.Ok)(o:dC p f (λ_=>do mark .enable;pure Zz))(b:H.gh=[32,n]):Zp ((aZ p c).prgM) (callFunc f vs) wk nr H (λv j=>v=Zz/\j=H.tagged [33,n]):=
 GN ok (.inr rfl) o (by rw[b];simp[cd]) (by simp[cd]) (by rw[b];rfl) λs h g=>h.kB (l:=[33,n]) (by rw[g,b];rfl) rfl λk m e=>by simp at e;rw[e.2.symm];exact h.kK 32 n O (g.trans b)
def Zut(ok:c.Ok)(m:dC p f (λ_=>do mark .disable;pure Zz))(b:H.gh=[30,c.K]):Zp ((aZ p c).prgM) (callFunc f vs) wk nr H (λv j=>v=Zz/\j=H.tagged [34]):=
 GN ok (.inl rfl) m (by rw[b];simp[cd]) (by simp[cd]) (by rw[b];rfl) λs h g=>h.kC (l:=[34]) (by rw[g,b];rfl) rfl (by have:=h.kK 30 c.K O (g.trans b);have:=h.num;omega) λv e=>by simp at e
theorem Bf(ok:c.Ok)(m:dC p f (λ_=>do mark .enable;pure Zz))(b:H.gh=[38]):Zp ((aZ p c).prgM) (callFunc f vs) wk nr H (λv g=>v=Zz/\g=H.tagged [39]):=
 GN ok (.inr rfl) m (by rw[b];simp[cd]) (by simp[cd]) (by rw[b];rfl) λs h j=>h.j0 (l:=[39]) (by rw[j,b];rfl) rfl
theorem Zuw(ok:c.Ok)(F:dC p f (Extern.Atomic.update (Op.intArith .add) .u64 true))(r:H.gh=[31,n]) :
  Zp ((aZ p c).prgM) (callFunc f #[.pointer (some (cC c.W)),.int .u64 (4294967296:Nat)]) wk nr H (λv B=>∃m,m<=100000001/\v=.int .u64 (eZ (m+1) 0:Nat)/\B=H.tagged [32,n]):=by
 refine vJ ok (by rw[r];simp[cd]) λs L t w q=>.inr ?_;obtain⟨b,o,j⟩:=Om q (by rw[r];simp[cd]);rw[r]at b j;replace j:Deaf t 0=1:=j;obtain⟨D,G,_⟩:=Uo q;obtain⟨E,_⟩:=o.cnt.jB ok;have u:s.wg.wt=0:=(o.cnt.wg.q9 (by rw[b];simp[cd])).1;have y:=M4 F (d:=((4294967296:Nat):Int)) D G;have h:IntKind.u64.wrap (((eZ s.wg.v s.wg.wt:Nat):Int)+((4294967296:Nat):Int))=((eZ (s.wg.v+1) s.wg.wt:Nat):Int):=by unfold eZ;rw[PW]<;>omega
 rw[h]at y;obtain⟨I,J,K⟩:=UB (i:=0) (d:=Deaf t 0) (C:=c.toTC) (BQ (off:=0) (.inr rfl)) O;refine⟨_,[32,n],cG.nT (y':={ s.wg with v:=s.wg.v+1 }) ok q y (λfn _=>wZ) (.inr ⟨0,_,rfl,rfl⟩) (o.cnt.zF (l:=[32,n]) (by rw[b];rfl) rfl λk m e=>?_) ⟨I,J,by rw[K,j];rfl⟩ (.inr id) (Vg (by rw[b];simp[cd]) (by rw[b];simp[cd])) (by rw[b];simp[cd]) (by simp[cd]) (λe=>by simp[cd]at e;exact .inl (by rw[b];simp[cd])),
  by simp[cd],s.wg.v,E,by rw[u],rfl⟩
 simp at e;rw[e.2.symm];exact o.cnt.kK 31 n O b
theorem Bg(ok:c.Ok){mk:Addr->Mark}(h:mk=.read\/mk=.write)(F:dC p f (Extern.Race.marked mk))(D:(∃n,H.gh=[32,n])\/H.gh=[36]) :
  Zp ((aZ p c).prgM) (callFunc f #[.pointer (some ⟨c.W,1,none⟩)]) wk nr H (λv q=>v=Zz/\q=H):=by
 have B:cd H.gh=32\/cd H.gh=36:=by rcases D with⟨n,e⟩ | e<;>rw[e]<;>simp[cd]
 refine vJ ok O λs G t w o=>?_;obtain⟨b,A,y⟩:=Om o O;have l:aW c { s with tag:=upd s.tag 0 H.gh }:=by rw[<-b,Qr];exact A.cnt
 obtain⟨r,u⟩:=DW (C:=c.toTC) (i:=0) (d:=Deaf t 0) (m:=mk ⟨c.W,1,none⟩) (.inr (.inr ⟨rfl,1,by rcases h with rfl | rfl<;>simp⟩));have E:∀g,mk ⟨c.W,1,none⟩≠.extern g:=by rcases h with rfl | rfl<;>simp
 refine .inr ⟨Zz,H.gh,?_,O,rfl,FS H⟩;refine cG.pK ok o (AW F _ w) (λfn _=>AY E fn) (.inl ⟨rfl,rfl⟩) l ⟨r,u,?_⟩ (.inr id) (.inr b.symm) (by rw[b];omega) O (λe=>.inl (by rw[b];omega));rw[y,bY O];rcases h with rfl | rfl<;>rfl
end
end
section
open Go.Conc
open Go.ConcN (sumTo upd sumTo_upd upd_ne upd_same)
section
variable{p:Program}{c:Cx}{i:Nat}{H:Hp}{s:Ts}{f:FuncId}{wk nr:Bool}
theorem Zuq(ok:c.Ok)(E:dC p f (Extern.Atomic.loadT (.int .u64))){l0:List Nat}(A:H.gh=34 :: l0) :
  Zp ((aZ p c).prgM) (callFunc f #[.pointer (some (cC c.W))]) wk nr H (λv D=>∃n,n<=100000001/\v=.int .u64 (eZ n 0:Nat)/\(∀j,l0=[j]->n<j)/\((n=0/\D=H.tagged [38])\/(n≠0/\D=H.tagged [35,n]))):=by
 refine vJ ok (by rw[A];simp[cd]) λs K t w u=>.inr ?_;obtain⟨b,m,o⟩:=Om u (by rw[A];simp[cd]);rw[A]at b o;replace o:Deaf t 0=1:=o;obtain⟨y,M,_⟩:=Uo u;obtain⟨L,_⟩:=m.cnt.jB ok;have B:s.wg.wt=0:=(m.cnt.wg.q9 (by rw[b];simp[cd])).1;rw[B]at y;have q:∀j,l0=[j]->s.wg.v<j:=λj e=>(m.cnt.jX j).2 (by rw[b,e]);obtain⟨G,I,J⟩:=UB (i:=0) (d:=Deaf t 0) (C:=c.toTC) (x6 (off:=0) (wr:=false) (.inr rfl)) O;have h:s.more=0:=m.cnt.wg.more0 (by rw[b];simp[cd]);by_cases r:s.wg.v=0
 ·refine⟨_,[38],cG.nT ok u (FI E y) (λfn _=>vH) (.inl ⟨rfl,rfl⟩) (m.cnt.qN (l:=[38]) (by rw[b];rfl) rfl r h) ⟨G,I,by rw[J,o];rfl⟩ (.inr id) (Vg (by rw[b];simp[cd]) (by rw[b];simp[cd])) (by rw[b];simp[cd]) (by simp[cd]) (λe=>.inl (by rw[b];simp[cd])),
   by simp[cd],s.wg.v,O,rfl,q,.inl ⟨r,rfl⟩⟩
 refine⟨_,[35,s.wg.v],cG.nT ok u (FI E y) (λfn _=>vH) (.inl ⟨rfl,rfl⟩) (m.cnt.qM (l:=[35,s.wg.v]) (by rw[b];rfl) rfl r λv e=>by simp at e;omega) ⟨G,I,by rw[J,o];rfl⟩ (.inr id) (Vg (by rw[b];simp[cd]) (by rw[b];simp[cd])) (by rw[b];simp[cd]) (by simp[cd]) (λe=>.inl (by rw[b];simp[cd])),
  by simp[cd],s.wg.v,O,rfl,q,.inr ⟨r,rfl⟩⟩
theorem Zuv(ok:c.Ok)(E:dC p f (Extern.Atomic.casT (.int .u64))){n:Nat}(I:n≠0)(q:H.gh=[35,n]) :
  Zp ((aZ p c).prgM) (callFunc f #[.pointer (some (cC c.W)),.int .u64 (eZ n 0:Nat),.int .u64 (eZ n 1:Nat)]) wk nr H (λv B=>(v=.bool true/\B=H.tagged [36])\/(v=.bool false/\B=H.tagged [34,n])):=by
 refine vJ ok (by rw[q];simp[cd]) λs J t w m=>.inr ?_;obtain⟨b,h,g⟩:=Om m (by rw[q];simp[cd]);rw[q]at b g;replace g:Deaf t 0=1:=g;obtain⟨o,F,_⟩:=Uo m;obtain⟨K,_⟩:=h.cnt.jB ok;have r:s.wg.wt=0:=(h.cnt.wg.q9 (by rw[b];simp[cd])).1;rw[r]at o;have G:s.wg.v<=n:=(h.cnt.jX n).1 b;by_cases D:s.wg.v=n
 ·obtain⟨u,y,A⟩:=UB (i:=0) (d:=Deaf t 0) (C:=c.toTC) (BQ (off:=0) (.inr rfl)) O;subst D;refine⟨_,[36],cG.nT (y':={ s.wg with wt:=1 }) ok m (Np E o F) (λfn _=>wZ) (.inr ⟨0,_,rfl,rfl⟩) (h.cnt.tS (l:=[36]) (by rw[b];rfl) rfl I) ⟨u,y,by rw[A,g];rfl⟩ (.inr id) (Vg (by rw[b];simp[cd]) (by rw[b];simp[cd])) (by rw[b];simp[cd]) (by simp[cd]) (λe=>.inl (by rw[b];simp[cd])),
   by simp[cd],.inl ⟨rfl,rfl⟩⟩
 obtain⟨u,y,A⟩:=UB (i:=0) (d:=Deaf t 0) (C:=c.toTC) (x6 (off:=0) (wr:=false) (.inr rfl)) O;refine⟨_,[34,n],cG.nT ok m (Nr E o F λe=>D ?_) (λfn _=>vH) (.inl ⟨rfl,rfl⟩) (h.cnt.tU (l:=[34,n]) (by rw[b];rfl) rfl λv e=>by simp at e;omega) ⟨u,y,by rw[A,g];rfl⟩ (.inr id) (Vg (by rw[b];simp[cd]) (by rw[b];simp[cd])) (by rw[b];simp[cd]) (by simp[cd]) (λe=>.inl (by rw[b];simp[cd])),
  by simp[cd],.inr ⟨rfl,rfl⟩⟩
 have e:eZ s.wg.v 0=eZ n 0:=by exact_mod_cast e
 unfold eZ at e;omega
def Zuo(ok:c.Ok)(A:dC p f Extern.Sync.semacquire){vs:Array Value}(j:vs[0]? = some (.pointer (some ⟨c.W,1,none⟩)))(u:H.gh=[36]) :
  Zp ((aZ p c).prgM) (callFunc f vs) wk nr H (λv B=>v=Zz/\B=H.tagged [37]):=by
 refine vJ ok (by rw[u];simp[cd]) λs K t w q=>?_;obtain⟨g,D,m⟩:=Om q (by rw[u];simp[cd]);rw[u]at g m;replace m:Deaf t 0=1:=m;obtain⟨_,_,r,F⟩:=Uo q;by_cases h:s.wg.wm=0
 ·rw[h]at r;exact .inl ⟨Lq A j r,.inr ⟨by rw[g];rfl,h⟩⟩
 refine .inr ⟨Zz,[37],?_,by simp[cd],rfl,rfl⟩;obtain⟨G,I,J⟩:=DX (C:=c.toTC) (i:=0) (d:=Deaf t 0) (b:=c.W) (off:=1) (.inr rfl);have y:=Lp (rest:=#[]) A j r F (by exact_mod_cast h);have E:((s.wg.wm:Nat):Int)-1=((s.wg.wm-1:Nat):Int):=O;rw[E]at y;refine cG.nT (y':={ s.wg with wm:=s.wg.wm-1 }) ok q y (λfn _=>FK) (.inr ⟨1,_,rfl,rfl⟩) (D.cnt.m_woken (l:=[37]) (by rw[g];rfl) rfl h) ⟨G,I,by rw[J,m];rfl⟩ (.inr λe=>absurd e h) ?_ (by rw[g];simp[cd]) (by simp[cd]) (λe=>.inl (by rw[g];simp[cd]));left;rintro(⟨e,_⟩ | ⟨_,e⟩)
 ·rw[g]at e;simp[cd]at e
 exact h e
theorem Zup(ok:c.Ok)(A:dC p f (Extern.Atomic.loadT (.int .u64)))(m:H.gh=[37]) :
  Zp ((aZ p c).prgM) (callFunc f #[.pointer (some (cC c.W))]) wk nr H (λv u=>v=.int .u64 (0:Nat)/\u=H.tagged [38]):=by
 refine vJ ok (by rw[m];simp[cd]) λs F t w h=>.inr ?_;obtain⟨b,j,g⟩:=Om h (by rw[m];simp[cd]);rw[m]at b g;replace g:Deaf t 0=1:=g;obtain⟨r,G,_⟩:=Uo h;have o:s.wg.wt=0:=(j.cnt.wg.q9 (by rw[b];simp[cd])).1;have y:s.wg.v=0:=j.cnt.wg.zero (by rw[b];simp[cd]);rw[o,y]at r;obtain⟨B,D,E⟩:=UB (i:=0) (d:=Deaf t 0) (C:=c.toTC) (x6 (off:=0) (wr:=false) (.inr rfl)) O;exact⟨_,[38],cG.nT ok h (FI A r) (λfn _=>vH) (.inl ⟨rfl,rfl⟩) (j.cnt.kA (l:=[38]) (by rw[b];rfl) rfl) ⟨B,D,by rw[E,g];rfl⟩ (.inr id) (Vg (by rw[b];simp[cd]) (by rw[b];simp[cd])) (by rw[b];simp[cd]) (by simp[cd]) (λe=>.inl (by rw[b];simp[cd])),
   by simp[cd],rfl,rfl⟩
def Be(ok:c.Ok)(hx:dC p f (Extern.Race.marked .acquire))(hg:H.gh=[39]) :
  Zp ((aZ p c).prgM) (callFunc f #[.pointer (some (cC c.W))]) wk nr H (λv H'=>v=Zz/\∃(l:List Nat) (R:Hp),c.PI l R/\(∀j,c.base<=j->j<c.base+c.K->c.need j=true->j∈l)/\(∀j∈l,c.base<=j/\j<c.base+c.K/\c.need j=true)/\l.Nodup /\
   R.gh=[]/\(H.tagged [40]).Comp R/\H'=(H.tagged [40]).join R):=by
 intro G S nx cs lU ha hG
 refine .dL ⟨by rw[hg];simp,λs Hs t w hA=>.inl ?_⟩
 obtain⟨u,E,hD⟩:=Om hA (by rw[hg];simp[cd])
 rw[hg]at u hD
 replace hD:Deaf t 0=0:=hD
 have qS:=E.cnt.pos
 have D:0<s.next:=E.cnt.next0
 have z4:c.live s.next 0:=⟨D,.inl rfl⟩
 obtain⟨rY,rX⟩:=MF ok hA
 have L:∀j,c.base<=j->j<s.next->s.tag j=[0]:=λj J Z=>E.cnt.over (by rw[u];simp[cd]) J Z
 have z3:s.more=0:=E.cnt.wg.more0 (by rw[u];simp[cd])
 have aAt:s.next=c.base+c.K:=by have:=E.cnt.num;omega
 have rU:¬ VX s:=by
  rintro⟨j,I,e | e⟩
  ·by_cases hb:c.base<=j
   ·rw[L j hb I]at e;simp[cd]at e
   rcases qAN j with h0 | h0
   ·subst h0;rw[u]at e;simp[cd]at e
   rw[E.cnt.olds j h0 O]at e;simp[cd]at e
  have:=MS E.cnt I O;subst this;rw[u]at e;simp[cd]at e
 obtain⟨N,Y,V,JU⟩:=(E.heap.resolve_left λh=>rU h.1).2
 let R:Hp:=⟨N.mem,[]⟩
 obtain⟨p1,p2⟩:=NZ ok V
 have hr:=AW hx (cC c.W) w
 have qX:seen p S.fn (#[YA f]++#[⟨.mark (.acquire (cC c.W)),false,true⟩])=#[⟨.mark (.acquire (cC c.W)),false,true⟩]:=vG λx hx=>by simp at hx;subst hx;exact⟨rfl,by simp⟩
 have hu:Z3 0 S #[⟨.mark (.acquire (cC c.W)),false,true⟩]=#[{ g:=0,fn:=S.fn,pos:=S.place,act:=.mark (.acquire (cC c.W)) }]:=by simp[Z3,ofEvents_eq,MemAct.ofEvent]
 have I2:∀b x,R b=some x->FB c Hs b:=by
  intro b x hb;have U:N b=some x:=hb;refine⟨⟨x,?_⟩,?_,?_⟩
  ·rw[Y];exact Hp.aP V U
  ·rintro rfl;rw[p1]at U;simp at U
  rintro rfl;rw[p2]at U;simp at U
 obtain⟨Rn,Rm,Rl⟩:=E.tr.all (y:={ g:=0,fn:=S.fn,pos:=S.place,act:=.mark (.acquire (cC c.W)) }) rfl hD rfl λj J Z=>by unfold VF;rw[L j J Z];exact .inr rfl
 have kH:(H.tagged [40]).Comp R:=⟨λb x y J Z=>by
  have JZ:Hs b=some y:=by rw[Y];exact Hp.aP V Z
  exact hA.dis b x y J JZ,.inr rfl⟩
 have oX:((H.tagged [40]).join R).gh=[40]:=by simp[Hp.bI,Hp.tagged,R]
 have iD:aW c { s with tag:=upd s.tag 0 [40] }:=by obtain⟨m1,m2⟩:=E.cnt.mu.main (more:=s.more) (l:=[40]) D (by rw[u];simp[cd]) (by simp[cd]);refine E.cnt.step D (.inl rfl) s.wg m1 (qCH m2) (λ_=>rfl) (λj _ _ _ hS=>⟨hS,AT _⟩) (Wg.mQ (l:=[40]) E.cnt.wg D (by rw[u];rfl) rfl) (Mu.fH (by simp[cd])) ⟨λ_ v=>⟨λe=>by simp at e,λe=>by simp at e⟩,λ_ k n hk e=>by simp at e,λe=>absurd rfl e⟩ (λe=>by simp[cd]at e) (λe=>absurd rfl e) λe=>absurd rfl e
 have F:∀op∈#[({ g:=0,fn:=S.fn,pos:=S.place,act:=.mark (.acquire (cC c.W)) }:MemOp)],op.act.touch? = none/\op.act≠.mark (.release (cC c.M))/\op.act≠.mark (.release (cC c.W))/\(op.act=.mark (.releaseMerge (cC c.M))->c.base<=op.g/\op.g<s.next/\¬ VF s op.g):=by intro op B;simp only[qAb,iF]at B;rw[B];exact⟨rfl,by simp,by simp,by simp⟩
 refine⟨nx Zz,cs,w,(H.tagged [40]).join R,{ s with tag:=upd s.tag 0 [40] },fI c s,#[⟨.mark (.acquire (cC c.W)),false,true⟩],?_,?_,?_,λj=>?_,rfl,AT _,.inr λj I=>?_,hG _ _ ⟨rfl,s.log,R,?_,λj J Z h3=>?_,λj I=>?_,E.cnt.lnd,rfl,kH,rfl⟩,?_⟩
 ·exact(vL (P:=p) ha hr).trans (by rw[qX])
 ·rw[hu];refine⟨AT _,λ_ _ _ _=>rfl,λb o pm h=>hA.leS b o pm (E.mw h),λb x h=>.inr ⟨x,.inr (E.mw h),λ_=>rfl⟩,.refl w,?_,?_,?_,?_⟩
  ·intro op B x Q b m;rw[(F op B).1]at Q;simp at Q
  ·intro said q a _ op B b m _;rw[(F op B).1]at m;simp at m
  ·intro op B;simp only[qAb,iF]at B;rw[B];exact hA.leS.lt E.atW
  refine⟨iD,(E.tr.quietly F).sub (λj I=>?_) (λb m=>?_),λj I rW=>?_,λpQ=>⟨Rn,Rm⟩,.inl ⟨⟨0,D,.inr (by simp[upd_same,cd])⟩,rfl⟩⟩
  ·unfold VF at I ⊢;simp only at I;by_cases e:j=0
   ·subst e;left;rw[u];simp[cd]
   rw[upd_ne _ _ e]at I;exact I
  ·obtain⟨⟨x,Q⟩,b1,b2⟩:=m;exact absurd (Q.symm.trans (UX b1 b2)) (by simp)
  have:=BO (i:=0) (l:=[40]) (es:=#[⟨.mark (.acquire (cC c.W)),false,true⟩]) (fn:=S.fn) (pos:=S.place) E.deaf (λ_=>by rw[hD];rfl) I rW;rw[<-hu];exact this
 ·rw[hu];refine⟨?_,?_,?_,?_⟩
  ·intro b o pm m;simp only[Hp.aQ,Hp.cD]at m;cases hh:H b with
   | some z=>rw[hh]at m;exact hA.le b o pm (by rw[hh];exact m)
   | none=>rw[hh]at m;exact hA.leS b o pm (by rw[Y];exact Hp.aP V m)
  ·intro b x y J Z;exfalso;rcases(u4 Z).1 with rfl | rfl
   ·have:H c.M=none/\N c.M=none:=⟨rY,p1⟩;simp only[Hp.aQ,Hp.cD,this.1]at J;have T:N c.M=some x:=J;rw[p1]at T;simp at T
   simp only[Hp.aQ,Hp.cD,rX]at J;have T:N c.W=some x:=J;rw[p2]at T;simp at T
  ·intro b x m;refine .inr ⟨x,?_,λ_=>rfl⟩;simp only[Hp.aQ,Hp.cD]at m;cases hh:H b with
   | some z=>rw[hh]at m;exact .inl m
   | none=>rw[hh]at m;exact .inr (by rw[Y];exact Hp.aP V m)
  have J:dG (t++#[{ g:=0,fn:=S.fn,pos:=S.place,act:=.mark (.acquire (cC c.W)) }]) 0 (H.tagged [40]):=
   hA.perm.own λop B=>.inl (by simp only[qAb,iF]at B;rw[B])
  refine J.join λb o pm m q a hq hl _=>?_;obtain⟨x,Q,lS⟩:=touch_of hq;rcases getElem?_append_cases Q with⟨_,tX⟩ | ⟨_,tX⟩
  ·exact Rl q x a b tX lS hl (I2 b _ m) D
  rw[(F x tX).1]at lS;simp at lS
 ·show upd s.tag 0 [40] j=_;rw[oX];rfl
 ·have I:Ya s j:=I;show Ya _ j;unfold Ya at I ⊢;have:j≠0:=by rintro rfl;rw[u]at I;simp[cd]at I
  simp only[upd_ne _ _ this];exact I
 ·have:R.mem=N.mem:=rfl;exact ok.aN _ _ _ JU
 ·exact(E.cnt.lwk j J O).2.2.2 (.inl (by rw[L j J O];rfl)) h3
 ·obtain⟨a,b,d⟩:=E.cnt.lmem j I;exact⟨a,O,d⟩
 ·show Ys _;rw[oX];exact .inr (by simp[cd])
end
end
section
variable{n:Nat}{sm:Sem Next}{d:Deferred}
open Go.Conc
open Go.ConcN (sumTo upd sumTo_upd upd_ne upd_same)
def Hp.Less(K H:Hp):Prop:=∀b o pm,K b=some (o,pm)->∃g,H b=some (o,g)/\(pm=true->g=true)
section
variable{p:Program}{c:Cx}{i:Nat}{H:Hp}{s:Ts}{f:FuncId}{wk nr:Bool}
def ZAr(g:Nat->Nat)(tag:Nat->List Nat)(k:Nat)(l:List Nat):Ct g (upd tag k l) (k+1)=Ct g tag k+g (cd l):=by
 have b:Ct g (upd tag k l) k=Ct g tag k:=by unfold Ct;exact Go.ConcN.sumTo_congr λj m=>by rw[upd_ne _ _ O]
 have h:Ct g (upd tag k l) (k+1)=Ct g (upd tag k l) k+g (cd (upd tag k l k)):=rfl;rw[h,b,upd_same]
def aW.uG(h:aW c s)(E:s.tag 0=[33,n])(hn:n<c.K) :
  aW c { s with tag:=upd (upd s.tag 0 [30,n+1]) s.next [1],next:=s.next+1,more:=s.more-1 }/\s.more-1<s.more:=by
 have Y:=h.kK 33 n O E;have N:=h.num;have D:=h.pos;have L:=h.next0;have G:1<=s.more:=O;obtain⟨m1,Z⟩:=h.mu.main (more:=s.more) (l:=[30,n+1]) L (by rw[E];simp[cd]) (by simp[cd]);have q:∀g:Nat->Nat,Ct g (upd (upd s.tag 0 [30,n+1]) s.next [1]) (s.next+1)=Ct g (upd s.tag 0 [30,n+1]) s.next+g 1:=λg=>ZAr g _ _ _;have I:Mu.mu s.mu (s.more-1) (upd (upd s.tag 0 [30,n+1]) s.next [1]) (s.next+1)=Mu.mu s.mu s.more s.tag s.next:=by rw[<-Z];unfold Mu.mu;rw[q];have:fU 1=6:=rfl;omega
 have o:∀j,j≠0->j≠s.next->upd (upd s.tag 0 [30,n+1]) s.next [1] j=s.tag j:=λj u y=>by rw[upd_ne _ _ y,upd_ne _ _ u]
 have b:upd (upd s.tag 0 [30,n+1]) s.next [1] 0=[30,n+1]:=by rw[upd_ne _ _ O,upd_same]
 have m:upd (upd s.tag 0 [30,n+1]) s.next [1] s.next=[1]:=upd_same _ _ _;refine⟨⟨?_,?_,λj C=>?_,λv=>?_,λk n' hk M=>?_,λj C A=>?_,?_,D,?_,λj u y=>?_,λj u y=>?_,h.lnd,λj C=>?_,λj u y=>?_⟩,O⟩
 ·obtain⟨F,J,f3,f4,f5,f6⟩:=m1;refine⟨?_,J,f3,f4,?_,?_⟩
  ·rw[q];exact F
  ·rw[q,q,q,q,q];exact f5
  rw[q,q,q,q];exact f6
 ·obtain⟨F,J,f3,f4,f5,f6⟩:=h.wg;have e:∀g:Nat->Nat,g 30=0->g 33=0->Ct g (upd s.tag 0 [30,n+1]) s.next=Ct g s.tag s.next:=by intro g V W;have:=counts (tag:=s.tag) (l:=[30,n+1]) L g;rw[E]at this;have r:g (cd [33,n])=0:=W;have R:g (cd [30,n+1])=0:=V;omega
  have U:=e cW rfl rfl;have T:=e cL rfl rfl;have S:=e cE rfl rfl;have gf:=f5 (by rw[E];simp[cd]);rw[E]at F;have r:mP (cd [33,n])=1:=rfl;have R:cW 1=1:=rfl;have e3:cL 1=0:=rfl;have e4:cE 1=0:=rfl;have e5:mP (cd [30,n+1])=0:=rfl;refine⟨?_,?_,?_,?_,?_,?_⟩<;>simp only[b]
  ·rw[q,U];omega
  ·simp[cd]
  ·simp[cd]
  ·simp[cd]
  ·intro _;rw[q,q,T,S];omega
  simp[cd]
 ·simp only[I];by_cases B:j=0
  ·subst B;rw[b];exact Mu.fH (by simp[cd])
  by_cases r:j=s.next
  ·subst r;rw[m];trivial
  rw[o j B r];exact h.jY j (by simp only at C;omega)
 ·simp only[b];simp
 ·simp only[b]at M;simp at M;simp only;omega
 ·by_cases B:j=0
  ·subst B;simp only[b]at A;simp[cd]at A
  by_cases r:j=s.next
  ·subst r;simp only[m]at A;simp[cd]at A
  simp only[o j B r]at A ⊢;exact h.tk j (by simp only at C;omega) A
 ·simp only;omega
 ·simp only;have:=h.nb;omega
 ·have:=h.nb;simp only[o j O O];exact h.olds j u y
 ·by_cases r:j=s.next
  ·subst r;simp only[m];exact⟨by simp[cd],λe=>by simp[cd]at e⟩
  simp only[o j O r];exact h.iS j u (by simp only at y;omega)
 ·obtain⟨Q,a2,a3⟩:=h.lmem j C;exact⟨Q,by simp only;omega,a3⟩
 by_cases r:j=s.next
 ·subst r;simp only[m];refine⟨λ_ X=>?_,λe=>by simp[cd]at e,λe=>by simp[cd]at e,λe=>by simp[cd]at e⟩;have:=(h.lmem _ X).2.1;omega
 simp only[o j O r];exact h.lwk j u (by simp only at y;omega)
def Tr.HG{C:TC}{next:Nat}{done B g r:Nat->Prop}{t:Trace}(h:Tr C next done B t)(A:∀j,j<next->g j->done j)(E:∀b,r b->B b):Tr C next g r t:=
 ⟨h.pos,h.size,h.fV,h.iA,λq x a b l m o u=>h.fN q x a b l m o (E b u),λq x a l m o u y D=>h.kW q x a l m o u y (A _ y D),h.early,h.fP,h.kZ,λq x l m o=>let⟨a,b,e⟩:=h.kU q x l m o;⟨a,b,λh=>e (A _ b h)⟩⟩
abbrev YV(p:Program)(d:Deferred):Frame:={ (default:Frame)with fn:=p.funcs.size,defers:=[d],mode:=.panicking [goexitEntry] }
def Zpx{P:Program}{main:Bool}{j:Frame}{q:Value->Frame}{m:List Frame}{wk nr:Bool}(r:wN P j q sm wk nr){w l:World}{b:Array Event}(g:∃f c,d.target=.fn f c)(o:sm.runT P w #[]=(.ok (.spawn d) l,b)) :
  stepG P main (bO j m) w=.spawn (bO (q undef) m) (bO (YV P d) []) l (seen P j.fn b):=by
 obtain⟨f,c,g⟩:=g;rcases d with⟨u,args⟩;simp only at g;subst g;rcases r.spawn with h | h
 ·obtain⟨v,l,es,e⟩:=h w;rw[o]at e;simp at e
 exact h _ _ _ _ _ _ _ _ o
theorem Zur(ok:c.Ok)(hd:∃f c,d.target=.fn f c)(hr:∀w,sm.runT p w #[]=(.ok (.spawn d) w,#[]))(hg:H.gh=[33,n])(hn:n<c.K){H' Hc:Hp}(U:H'.Less H)(D:Hc.Less H)(oY:H'.Dis Hc)
  (wD:H'.gh=[30,n+1]) (SU:Hc.gh=[1]) (zN:Reach ((aZ p c).prgW (c.base+n)) UV (YV p d) [] Hc):Zp ((aZ p c).prgM) sm wk nr H (λv K=>v=undef/\K=H'):=by
 intro G I nx cs lU ha hG;refine .dL ⟨by rw[hg];simp,λs Hs t w hA=>.inr (.inr ?_)⟩;obtain⟨l,hI,hD⟩:=Om hA (by rw[hg];simp[cd]);rw[hg]at l hD;replace hD:Deaf t 0=0:=hD;have qS:=hI.cnt.pos;have Z:0<s.next:=hI.cnt.next0;have hnx:s.next=c.base+n:=hI.cnt.kK 33 n O l;obtain⟨iD,wC⟩:=hI.cnt.uG l hn;have JL:Deaf t s.next=0:=hA.above s.next (AT _);let s':Ts:={ s with tag:=upd (upd s.tag 0 [30,n+1]) s.next [1],next:=s.next+1,more:=s.more-1 }
 have r:∀j,j≠0->j≠s.next->s'.tag j=s.tag j:=λj U D=>by show upd (upd s.tag 0 [30,n+1]) s.next [1] j=_;rw[upd_ne _ _ D,upd_ne _ _ U]
 have J:s'.tag 0=[30,n+1]:=by show upd (upd s.tag 0 [30,n+1]) s.next [1] 0=_;rw[upd_ne _ _ O,upd_same]
 have L:s'.tag s.next=[1]:=upd_same _ _ _;have hu:Vd 0 s.next I (YV p d) #[]=#[({ g:=0,fn:=I.fn,pos:=I.place,act:=.go s.next }:MemOp),{ g:=s.next,fn:=p.funcs.size,pos:=I.place,act:=.start }]:=by simp[Vd,Z3,ofEvents_eq]
 have W:∀op∈Vd 0 s.next I (YV p d) #[],op.act.touch? = none/\op.act.low w.heap.size:=by intro op u;rw[hu]at u;simp only[qAb,DO,qBF,qCS]at u;rcases u with rfl | rfl<;>exact V
 have S:∀{K:Hp},K.Less H->K.le w:=λhK b o pm hb=>by obtain⟨T,e,_⟩:=hK b o pm hb;exact hA.le b o T e
 have F:∀{K:Hp},K.Less H->K.Dis Hs:=λhK b x y hx hy=>by
  obtain⟨T,e,e2⟩:=hK b x.1 x.2 hx;obtain⟨e3,e4⟩:=hA.dis b _ _ e hy;have:x.2=false:=by
   cases X:x.2 with
   | false=>rfl
   | true=>rw[e2 X]at e4;simp at e4
  simp only at e4;subst e4;exact⟨by rw[<-e3,<-this],this⟩
 have C:∀{K:Hp},K.Less H->eP H Hs w K:=λhK b x hx=>by
  obtain⟨T,e,e2⟩:=hK b x.1 x.2 hx;refine .inr ⟨_,.inl e,λe3=>?_⟩;simp only at e3;subst e3;cases X:x.2 with
  | false=>rw[<-X]
  | true=>exact absurd (e2 X) (by simp)
 have E:∀{K:Hp},K.Less H->dG t 0 K:=λhK b o pm hb q a hq hl hw=>by obtain⟨T,e,e2⟩:=hK b o pm hb;exact hA.perm b o T e q a hq hl (hw.imp e2 id)
 have m:∀{q:Nat} {a:Touch},touchAt (t++Vd 0 s.next I (YV p d) #[]) q=some a->touchAt t q=some a:=by
  intro q a hq;obtain⟨x,hx,lS⟩:=touch_of hq;rcases getElem?_append_cases hx with⟨_,M⟩ | ⟨_,M⟩
  ·rw[touchAt_of M];exact lS
  rw[(W x M).1]at lS;simp at lS
 refine⟨nx undef,cs,YV p d,w,H',Hc,s',Hs,#[],?_,?_,⟨S U,F U,C U,?_⟩,⟨S D,F D,C D,?_⟩,oY,λj=>?_,rfl,wC,λj R hb=>?_,hG _ _ ⟨rfl,rfl⟩,?_,?_,?_⟩
 ·exact(Zpx (P:=p) ha hd (hr w)).trans (by simp[seen])
 ·refine⟨AT _,λ_ _ _ _=>rfl,hA.leS,λb x h=>.inr ⟨x,.inr h,λ_=>rfl⟩,.refl w,?_,?_,λop u=>(W op u).2,?_⟩
  ·intro op u x M b Q;rw[(W op u).1]at M;simp at M
  ·intro said q a _ op u b Q _;rw[(W op u).1]at Q;simp at Q
  refine⟨iD,?_,λj R rW=>?_,λpQ=>?_,?_⟩
  ·have:=hI.tr.uG hI.cnt.nb (x:={ g:=0,fn:=I.fn,pos:=I.place,act:=.go s.next }) (y:={ g:=s.next,fn:=p.funcs.size,pos:=I.place,act:=.start }) ⟨rfl,rfl⟩ ⟨rfl,rfl⟩ hD JL Z;rw[<-hu]at this;refine this.HG (λj hjl R=>?_) (λb Q=>Q);unfold VF at R ⊢;by_cases B:j=0
   ·subst B;exact⟨by rw[l];simp[cd],Z⟩
   by_cases N:j=s.next
   ·subst N;rw[L]at R;simp[cd]at R
   rw[r j B N]at R;exact⟨R,O⟩
  ·have hda:∀j,Deaf (t++Vd 0 s.next I (YV p d) #[]) j=Deaf t j:=by intro j;rw[hu,Deaf_append];simp[deafStep]
   show Deaf (t++Vd 0 s.next I (YV p d) #[]) j=_;rw[hda];by_cases B:j=0
   ·subst B;rw[J,hD];rfl
   by_cases N:j=s.next
   ·subst N;rw[L,JL];rfl
   rw[r j B N]at rW ⊢;exact hI.deaf j ⟨by have:j<s.next+1:=R.1;omega,R.2⟩ rW
  ·rw[J]at pQ;simp[cd]at pQ
  have nE:VX s'↔VX s:=by
   constructor
   ·rintro⟨j,U,D⟩;by_cases B:j=0
    ·subst B;rw[J]at D;simp[cd]at D
    by_cases N:j=s.next
    ·subst N;rw[L]at D;simp[cd]at D
    rw[r j B N]at D;exact⟨j,by have:j<s.next+1:=U;omega,D⟩
   rintro⟨j,U,D⟩;by_cases B:j=0
   ·subst B;rw[l]at D;simp[cd]at D
   exact⟨j,by show j<s.next+1;omega,by rw[r j B O];exact D⟩
  exact hI.heap.imp (λ⟨a,b⟩=>⟨nE.2 a,b⟩) λ⟨a,Hl,b,cc,d⟩=>⟨λh=>a (nE.1 h),Hl,b,cc,d⟩
 ·intro b o pm hb q a hq hl hw;exact(E U b o pm hb q a (m hq) hl hw).app _
 ·intro b o pm hb q a hq hl hw;have:=Go.ConcN.fork_knows (x:={ g:=0,fn:=I.fn,pos:=I.place,act:=.go s.next }) (y:={ g:=s.next,fn:=p.funcs.size,pos:=I.place,act:=.start }) ⟨rfl,rfl⟩ ⟨rfl,rfl⟩ hD JL (E D b o pm hb q a (m hq) hl hw);rw[<-hu]at this;exact this
 ·show s'.tag j=_;by_cases B:j=0
  ·subst B;rw[J,wD];simp
  rw[bY B];by_cases N:j=s.next
  ·subst N;rw[L,SU];exact(BY rfl).symm
  rw[r j B N];exact(bY N).symm
 ·have hb:Ya s j:=hb;show Ya s' j;have R:j<s.next:=R;have B:j≠0:=by rintro rfl;unfold Ya at hb;rw[l]at hb;simp[cd]at hb
  unfold Ya at hb ⊢;rw[r j B O];exact hb
 ·show Ys _;rw[wD];exact .inr (by simp[cd])
 ·show Ys _;rw[SU];exact .inl (by simp[cd])
 have:(aZ p c).next s=c.base+n:=hnx;rw[this];exact zN
end
end
variable{t src dst lL:TypeId}{w:World}{sm:Sem Next}{v:Value}{a:Addr}{ρ:Operand->Value}
open Go.Conc
open Go.ConcN (sumTo upd sumTo_upd upd_ne upd_same)
section
variable{p:Program}{c:Cx}{i:Nat}{H:Hp}{f:FuncId}{wk nr:Bool}
def ZAq(t:Trace)(i:Nat)(b:Frame)(es:Array Event)(g:es=#[]):t++Z3 i b es=t:=by subst g;simp[Z3,ofEvents_eq]
def Cb{T:UG p}{i:Nat}{H:Hp}{s:T.S}{o:Hp}{t:Trace}(g:bZ T i H s o t w){l:Array Event}{m:Frame}{r:Value->Frame}{q:List Frame}(y:wN p m r sm wk nr)(B:sm.runT p w #[]=(.ok (.value v) w,l))(C:seen p m.fn l=#[])
  {K:Trace->Frame->List Frame->Hp->Prop} (u:K t (r v) q H):OF T i K m q H s o t w:=by
 have e:t++Z3 i m #[]=t:=ZAq t i m #[] rfl;refine⟨r v,q,w,H,s,o,#[],?_,?_,?_,λj=>?_,rfl,AT _,.inr λj A=>A,?_⟩
 ·exact(vL (P:=p) y B).trans (by rw[C])
 ·refine⟨AT _,λ_ _ _ _=>rfl,g.leS,λb x h=>.inr ⟨x,.inr h,λ_=>rfl⟩,.refl w,?_,?_,?_,by rw[e];exact g.inv⟩<;>simp[Z3,ofEvents_eq]
 ·exact⟨g.le,g.dis,λb x h=>.inr ⟨x,.inl h,λ_=>rfl⟩,by rw[e];exact g.perm⟩
 ·split
  ·subst j;exact g.tag
  rfl
 rw[e];exact u
def Mq{b:Value->Hp->Prop}(j:Ys H.gh)(h:∀s l t w,bZ (aZ p c) i H s l t w->∃v g,sm.runT p w #[]=(.ok (.value v) w,g)/\(∀fn,(nr=true->norace p fn=true)->seen p fn g=#[])/\b v H):Zp ((aZ p c).prgW i) sm wk nr H b:=by intro G C D B A o y;refine .dL ⟨by intro e;rw[e]at j;simp[Ys,cd]at j,.inr (.inl ⟨j,λs l t w m=>.inl ?_⟩)⟩;obtain⟨v,g,q,r,u⟩:=h s l t w m;exact Cb m o q (r _ o.nr) (.inl ⟨y _ _ u,j⟩)
def Zs2{b:Value->Hp->Prop}(l:30<=cd H.gh)(h:∀s j t w,bZ (aZ p c) 0 H s j t w->∃v g,sm.runT p w #[]=(.ok (.value v) w,g)/\(∀fn,(nr=true->norace p fn=true)->seen p fn g=#[])/\b v H):Zp ((aZ p c).prgM) sm wk nr H b:=by intro G C D B A o y;refine .dL ⟨by intro e;rw[e]at l;simp[cd]at l,λs j t w m=>.inl ?_⟩;obtain⟨v,g,q,r,u⟩:=h s j t w m;exact Cb m o q (r _ o.nr) ⟨y _ _ u,.inr l⟩
def Ns(l:p.underlying src=some (.pointer t))(j:p.underlying dst=some .unsafePointer)(b:(p.info? t).map (λi=>decide (i.size=0))=some false)(h:w.cell? a=some v){x:Operand}(r:ρ x=.pointer (some a)) :
  (execOp ρ (aN (.convert src dst x) lL)).runT p w #[]=(.ok (.value (.pointer (some a))) w,#[]):=by
 have e:execOp ρ (aN (.convert src dst x) lL)=(do pure (.value (<-convert src dst (.pointer (some a)))):Sem Next):=by simp[execOp,aN,r]
 rw[e,Sem.runT_eq];have g:=run_convert_to_unsafe l j b h;have q:=events_convert_to_unsafe l j b h #[];have m:(do pure (.value (<-convert src dst (.pointer (some a)))):Sem Next).run p w=.ok (.value (.pointer (some a))) w:=by simp[g,Result.andThen]
 have o:(do pure (.value (<-convert src dst (.pointer (some a)))):Sem Next).events p w #[]=#[]:=by simp[g,q,Result.evThen,Result.andThen]
 rw[m,o]
structure wO(p:Program)(src dst:TypeId):Prop where
 ex:∃t,p.underlying src=some (.pointer t)/\p.underlying dst=some .unsafePointer/\(p.info? t).map (λi=>decide (i.size=0))=some false
def U4(ok:c.Ok)(o:wO p src dst){x:Operand}(u:ρ x=.pointer (some a))(q:a=cC c.M\/a=cC c.W)(r:Ys H.gh) :
  Zp ((aZ p c).prgW i) (execOp ρ (aN (.convert src dst x) lL)) wk nr H (λv h=>v=.pointer (some a)/\h=H):=by
 obtain⟨t,j,l,m⟩:=o.ex;refine Mq r λs y t w g=>?_;have b:∃v,w.cell? a=some v:=by
  rcases q with rfl | rfl
  ·exact⟨_,(uS ok g).1⟩
  exact⟨_,(Uo g).1⟩
 obtain⟨v,b⟩:=b;exact⟨_,_,Ns j l m b u,λfn _=>by simp[seen],rfl,rfl⟩
def DQ(o:wO p src dst){x:Operand}(u:ρ x=.pointer (some a))(q:a=cC c.W\/a=⟨c.W,1,none⟩)(r:30<=cd H.gh) :
  Zp ((aZ p c).prgM) (execOp ρ (aN (.convert src dst x) lL)) wk nr H (λv h=>v=.pointer (some a)/\h=H):=by
 obtain⟨t,j,l,m⟩:=o.ex;refine Zs2 r λs y t w g=>?_;have b:∃v,w.cell? a=some v:=by
  rcases q with rfl | rfl
  ·exact⟨_,(Uo g).1⟩
  exact⟨_,(Uo g).2.2.1⟩
 obtain⟨v,b⟩:=b;exact⟨_,_,Ns j l m b u,λfn _=>by simp[seen],rfl,rfl⟩
def ZuG(ok:c.Ok){ty:TypeId}(b:Yi p ty=some none){x:Operand}(m:ρ x=.pointer (some (cC c.M)))(j:Ys H.gh) :
  Zp ((aZ p c).prgW i) (execOp ρ (aN (.load ty x) lL)) wk true H (λ_ g=>g=H):=
 Mq j λs o t w h=>⟨_,_,Nt b (uS ok h).1 m,λfn l=>Ma (l rfl),rfl⟩
end
section
variable{P:aY}{d:Option Nat}{next:aL->Hp->Prop}{σ:aL}{H:Hp}{x:Operand}{f:FuncId}{e:Array Value->Sem Value}{aA:Array Operand}{ts:Array TypeId}{ty:TypeId}{vs:List Value}
def dC.yZ(h:dC P.toProgram f e):Vw P.toProgram (aN (.call { callee:=.value (.func f),args:=aA,argTypes:=ts }) ty)=true:=by
 obtain⟨fn,b,_,g,_⟩:=h.ex;have:fn.body.isSome=false:=by simpa using g
 simp[Vw,aN,b,this]
def MQ(g:(aA.toList.all λx=>(σ.get x).isSome)=true):((Op.call { callee:=.value (.func f),args:=aA,argTypes:=ts }).operands.all λx=>(σ.get x).isSome)=true:=by
 rw[qAd];intro x b;simp only[Op.operands,Call.operands]at b;simp only[qAp]at g;simp only[qBk,qAn,qAC,qAb,iF,qAu]at b g;rcases b with rfl | b
 ·rfl
 exact g x b
def Zt(r:dC P.toProgram f e)(o:σ.dM aA.toList=some vs){b:Value->Hp->Prop}(h:Zp P (callFunc f vs.toArray) true false H b)(q:∀v g,b v g->next (σ.set d v) g) :
  (aR.raw (.call { callee:=.value (.func f),args:=aA,argTypes:=ts }) ty).m P d next σ H:=by
 obtain⟨j,l⟩:=Oq o;refine⟨?_,.inr ?_⟩
 ·exact MQ l
 rw[Ah (ρ:=λx=>(σ.get x).getD undef) rfl,r.yZ];have:aA.map (λx=>(σ.get x).getD undef)=vs.toArray:=by obtain⟨aA⟩:=aA;simp only[qBq];rw[j]
 rw[this];exact h.mono q
def OX(B:dC P.toProgram f e)(A:σ.dM aA.toList=some vs)(h:bD P (e vs.toArray) (λv _ b=>next (σ.set d v) b) false H) :
  (aR.raw (.call { callee:=.value (.func f),args:=aA,argTypes:=ts }) ty).m P d next σ H:=by
 obtain⟨u,y⟩:=Oq A;refine⟨?_,.inl ?_⟩
 ·exact MQ y
 rw[Ah (ρ:=λx=>(σ.get x).getD undef) rfl];have:aA.map (λx=>(σ.get x).getD undef)=vs.toArray:=by obtain⟨aA⟩:=aA;simp only[qBq];rw[u]
 rw[this];obtain⟨fn,j,l,o,q,r⟩:=B.ex;simp only[callFunc,Ze,Vu,j,l,o,q,r,dO,qAf,qAH];exact⟨.inl ⟨f,rfl⟩,Vv (λv g H h=>(.inr h:_\/_)) h⟩
def VO{g:TypeId}(e:σ.get x=some v){b:Value->Hp->Prop}(h:Zp P (execOp (λx=>(σ.get x).getD undef) (aN (.convert t g x) ty)) (Vw P (aN (.convert t g x) ty)) false H b)(l:∀v j,b v j->next (σ.set d v) j):(aR.raw (.convert t g x) ty).m P d next σ H:=
 ⟨by simp[Op.operands,e],.inr (h.mono l)⟩
def Vr(e:σ.get x=some v){b:Value->Hp->Prop}(h:Zp P (execOp (λx=>(σ.get x).getD undef) (aN (.load t x) ty)) (Vw P (aN (.load t x) ty)) true H b)(j:∀v g,b v g->next (σ.set d v) g):(aR.eQ (.load t x) ty).m P d next σ H:=
 ⟨by simp[Op.operands,e],h.mono j⟩
end
