import Derived.Test.YthmnpenamnoniaaGreatDoorP05
import Derived.Test.YthmnpenamnoniaaGreatDoorP10
import Derived.Conc.AtomicLaws2
import Derived.Conc.MarkLaws
import Derived.Conc.ClockLaws
set_option linter.all false
namespace Go.LL
section
variable{P:Program}{f:FuncId}{e:Array Value->Sem Value}{vs:Array Value}{w w':World}{v:Value}{evs:Array Event}{s:Ts}{i:Nat}{l:List Nat}{H:Hp}{sm:Sem Next}{wk nr:Bool}{Post:Value->Hp->Prop}
open Go.Conc
open Go.ConcN (sumTo upd sumTo_upd upd_ne upd_same)
structure dC(P:Program)(f:FuncId)(e:Array Value->Sem Value):Prop where
 ex:∃fn,P.funcs[f]? = some fn/\(fn.name == "runtime.NumGoroutine")=false/\fn.body.isNone=true/\Extern.findNext fn=none/\Extern.find fn=some e
def YA(f:FuncId):Event:=⟨.mark (.extern f),false,true⟩
def dC.val(h:dC P f e)(y:(e vs).run P w=.ok v w')(u:(e vs).events P w #[YA f]=#[YA f]++evs) :
  (callFunc f vs).runT P w #[]=(.ok (.value v) w',#[YA f]++evs):=by
 obtain⟨fn,g,j,o,q,r⟩:=h.ex;rw[Sem.runT_eq,run_callFunc_extern g j o q r,y,events_callFunc_extern g j o q r];simp only[Result.andThen];rw[show(#[]:Array Event).push ⟨.mark (.extern f),false,true⟩=#[YA f]from rfl,u]
def dC.blocks(h:dC P f e)(u:(e vs).run P w=.halt .blocked w') :
  ∃es,(callFunc f vs).runT P w #[]=(.halt .blocked w',es):=by
 obtain⟨fn,g,j,o,q,r⟩:=h.ex;exact⟨_,by rw[Sem.runT_eq,run_callFunc_extern g j o q r,u];rfl⟩
def vG{fn:FuncId}(h:∀x∈evs,x.sync=true/\∀g,x.loc≠.mark (.extern g)):seen P fn (#[YA f]++evs)=evs:=seen_entry fn f evs h
section
variable{p:Program}{c:Cx}
structure cG(p:Program)(c:Cx)(i:Nat)(s:Ts)(t:Trace)(w:World)(sm:Sem Next)(wk nr:Bool)(v:Value)(l:List Nat):Prop where
 ex:∃(w':World) (kJ es:Array Event) (x':Mu) (y':Wg),sm.runT p w #[]=(.ok (.value v) w',kJ)/\(∀fn,(nr=true->norace p fn=true)->seen p fn kJ=es)/\aW c { s with mu:=x',wg:=y',tag:=upd s.tag i l } /\
  rH c.toTC i (Deaf t i) es/\(∀e∈es,∀B,c.M<B->c.W<B->(MemAct.ofEvent e).low B)/\deafBehind (Deaf t i) es=(if cd l=0 then 1 else df (cd l)) /\
  w'.heap[c.M]? = some (u1 c x')/\w'.heap[c.W]? = some (Ob c y')/\(∀b,b≠c.M->b≠c.W->w'.heap[b]? = w.heap[b]?)/\w'.heap.size=w.heap.size/\nZ w w' /\
  (wk=true\/((s.mu.sm=0->x'.sm=0)/\(s.wg.wm=0->y'.wm=0)))
 nb:¬ Ya s i\/l=s.tag i
 nt:cd (s.tag i)≠12/\cd (s.tag i)≠40
 Wq:cd l≠12/\cd l≠40
 dn:20<=cd l\/cd l=0->VF s i
 nz:cd (s.tag i)≠0
def Zzm{o:Mu}{q:Wg}(g:¬ Ya s i\/l=s.tag i)(r:s.mu.sm=0->o.sm=0)(u:s.wg.wm=0->q.wm=0)(j:Nat)(h:Ya s j):Ya { s with mu:=o,wg:=q,tag:=upd s.tag i l } j:=by
 have:upd s.tag i l j=s.tag j:=by
  by_cases e:j=i
  ·subst e;rcases g with g | g
   ·exact absurd h g
   rw[upd_same,g]
  exact upd_ne _ _ e
 unfold Ya at h ⊢;simp only[this];exact h.imp (λ⟨a,b⟩=>⟨a,r b⟩) λ⟨a,b⟩=>⟨a,u b⟩
def LS{g:List Nat}(h:Ys g\/Yh g):g≠[0]:=by rintro rfl;simp[Ys,Yh,cd]at h
def cG.goes(ok:c.Ok){Hs:Hp}{t:Trace}(h:cG p c i s t w sm wk nr v l)(E:bZ (aZ p c) i H s Hs t w)(V:s.tag i≠[0])
  {q:Frame} {B:Value->Frame} {cs:List Frame} (z:wN p q B sm wk nr) {K:Trace->Frame->List Frame->Hp->Prop} (T:∀F,(cd l=0->Deaf F i=1)->K F (B v) cs (H.tagged l)):OF (aZ p c) i K q cs H s Hs t w:=by
 obtain⟨w',kJ,es,X,Y,J,L,M,N,O,D,Q,R,S,u,y,g⟩:=h.ex;have o:=B0 E V;obtain⟨r,U⟩:=ZwJ ok E o M N O (λe=>by rw[D,bY e]) h.nt h.Wq h.nz h.dn Q R S u y;have A:=L q.fn z.nr;obtain⟨m1,W⟩:=U q.fn q.place;refine⟨B v,cs,w',H.tagged l,{ s with mu:=X,wg:=Y,tag:=upd s.tag i l },r,es,?_,m1,W,λj=>rfl,rfl,AT _,?_,T _ λe=>?_⟩
 ·rw[vL z J,A]
 ·rcases g with g | ⟨G,I⟩
  ·exact .inl (z.y0 g cs)
  exact .inr (Zzm h.nb G I)
 rw[Deaf_own,D,BY e]
def vI(ok:c.Ok)(j:Ys H.gh)
  (h:∀s Hs t w,bZ (aZ p c) i H s Hs t w->((∃es,sm.runT p w #[]=(.halt .blocked w,es))/\Ya s i)\/∃v l,cG p c i s t w sm wk nr v l/\Ys l/\Post v (H.tagged l)):Zp ((aZ p c).prgW i) sm wk nr H Post:=by
 intro G E F cs B q A;refine .dL ⟨?_,.inr (.inl ⟨j,λs Hs t w o=>?_⟩)⟩
 ·intro e;rw[e]at j;simp[Ys,cd]at j
 have g:s.tag i=H.gh:=o.tag;rcases h s Hs t w o with⟨⟨es,D⟩,hb⟩ | ⟨v,l,u,y,z⟩
 ·exact .inr ⟨ND q D,hb⟩
 exact .inl (u.goes ok o (by rw[g];exact LS (.inl j)) q λI _=>.inl ⟨A v _ z,y⟩)
def AZ(ok:c.Ok)(j:Yh H.gh)
  (h:∀s Hs t w,bZ (aZ p c) i (.aN H.gh) s Hs t w->((∃es,sm.runT p w #[]=(.halt .blocked w,es))/\Ya s i)\/∃v l,cG p c i s t w sm wk nr v l/\((Yh l/\Post v (H.tagged l))\/(l=[0]/\Post v (H.tagged (lv 1))))):Zp ((aZ p c).prgW i) sm wk nr H Post:=by
 intro G F I cs B z y;refine .dL ⟨?_,.inr (.inr ⟨j,λs Hs t w r=>?_⟩)⟩
 ·intro e;rw[e]at j;simp[Yh,cd]at j
 have g:s.tag i=H.gh:=r.tag;rcases h s Hs t w r with⟨⟨es,D⟩,hb⟩ | ⟨v,l,A,o⟩
 ·exact .inr ⟨ND z D,hb⟩
 refine .inl (A.goes ok r (by rw[g];exact LS (.inr j)) z λJ E=>⟨λb=>rfl,?_⟩);rcases o with⟨o,q⟩ | ⟨rfl,q⟩
 ·exact .inl ⟨o,y v _ q⟩
 exact .inr ⟨rfl,by rw[E rfl];exact y v _ q⟩
def vJ(ok:c.Ok)(o:30<=cd H.gh)
  (h:∀s Hs t w,bZ (aZ p c) 0 H s Hs t w->((∃es,sm.runT p w #[]=(.halt .blocked w,es))/\Ya s 0)\/∃v l,cG p c 0 s t w sm wk nr v l/\30<=cd l/\Post v (H.tagged l)):Zp ((aZ p c).prgM) sm wk nr H Post:=by
 intro G E F cs B q A;refine .dL ⟨?_,λs Hs t w j=>?_⟩
 ·intro e;rw[e]at o;simp[cd]at o
 have g:s.tag 0=H.gh:=j.tag;rcases h s Hs t w j with⟨⟨es,D⟩,hb⟩ | ⟨v,l,u,y,z⟩
 ·exact .inr (.inl ⟨ND q D,hb⟩)
 exact .inl (u.goes ok j (by rw[g];exact LS (.inl (.inr o))) q λI _=>⟨A v _ z,.inr y⟩)
def ZpV{d:Nat}(g:H.gh=lv d){kJ es:Array Event}(u:∀w,sm.runT p w #[]=(.ok (.value v) w,kJ))(y:∀fn,seen p fn kJ=es)
  (q:∀e∈es,Event.mute e=true) (r:Post v (H.tagged (lv (deafBehind d es)))):Zp ((aZ p c).prgW i) sm wk nr H Post:=by
 intro G A z cs o j h;refine .dL ⟨by rw[g];simp[lv],.inl ⟨d,g,.inl ⟨z v,cs,es,q,λmain w=>(vL (P:=p) j (u w)).trans (by rw[y]),h v _ r⟩⟩⟩
end
end
section
variable{C:TC}{d b off:Nat}{es kJ:Array Event}{m:Mark}{cs:Array Value}{ty:TypeId}{v:Value}{sm:Sem Next}{wk nr:Bool}{l:List Nat}{w':World}{f:FuncId}
open Go.Conc
open Go.ConcN (sumTo upd sumTo_upd upd_ne upd_same)
abbrev Zz:Value:=.tuple #[]
def iM(b off:Nat)(wr:Bool):Event:=⟨.cell ⟨b,off,none⟩,wr,true⟩
section
variable{p:Program}{c:Cx}{i:Nat}{H:Hp}{s:Ts}{Hs:Hp}{t:Trace}{w:World}
def UB(h:∀e∈es,∃b off wr,e=iM b off wr/\(b=C.M\/b=C.W))(u:d≠0) :
  rH C i d es/\(∀e∈es,∀B,C.M<B->C.W<B->(MemAct.ofEvent e).low B)/\deafBehind d es=d:=by
 have g:∀e∈es,e.loc≠.mark .disable/\e.loc≠.mark .enable:=by intro e o;obtain⟨b,off,wr,rfl,_⟩:=h e o;exact⟨by simp[iM],by simp[iM]⟩
 refine⟨λk e y=>?_,λe o B A D=>?_,deafBehind_still g d⟩
 ·have z:e∈es:=by obtain⟨q,rfl⟩:=qAr.1 y;exact Array.getElem_mem q
  obtain⟨b,off,wr,rfl,hb⟩:=h e z;refine⟨by cases wr<;>simp[iM,MemAct.ofEvent],λa r _=>?_⟩;have:a=⟨.cell ⟨b,off,none⟩,wr,.atomic⟩:=by cases wr<;>simp[iM,MemAct.ofEvent,MemAct.touch?]at r<;>rw[<-r]
  subst this;refine⟨⟨b,rfl,hb⟩,by simp,by simp,λ_=>⟨rfl,?_⟩⟩;rw[deafBehind_still (λe o=>g e ?_) d]
  ·exact u
  obtain⟨j,E,rfl⟩:=qCf.1 o;simp only[Array.getElem_extract];exact Array.getElem_mem _
 obtain⟨b,off,wr,rfl,hb⟩:=h e o;cases wr<;>(simp only[iM,MemAct.ofEvent,MemAct.low,Loc.low];rcases hb with rfl | rfl<;>assumption)
def DX(hb:b=C.M\/b=C.W) :
  rH C i d (semEvents ⟨b,off,none⟩)/\(∀e∈semEvents ⟨b,off,none⟩,∀B,C.M<B->C.W<B->(MemAct.ofEvent e).low B)/\deafBehind d (semEvents ⟨b,off,none⟩)=d:=by
 refine⟨λk e g=>?_,λe j B q r=>?_,by simp[semEvents,deafBehind]⟩
 ·have key:∀wr,(∀a,(MemAct.ofEvent (iM b off wr)).touch? = some a->a.loc.isMemory=true->C.Sh a.loc/\a.kind≠.plain/\(a.kind=.said->i=0)/\(i≠0->a.kind=.atomic/\d+1≠0)):=by
   intro wr a h _;have:a=⟨.cell ⟨b,off,none⟩,wr,.atomic⟩:=by cases wr<;>simp[iM,MemAct.ofEvent,MemAct.touch?]at h<;>rw[<-h]
   subst this;exact⟨⟨b,rfl,hb⟩,by simp,by simp,λ_=>⟨rfl,O⟩⟩
  match k,g with
  | 0,g=>
   simp[semEvents]at g;subst g;exact⟨by simp[MemAct.ofEvent],λa h=>by simp[MemAct.ofEvent,MemAct.touch?]at h⟩
  | 1,g=>
   simp[semEvents]at g;subst g;refine⟨by simp[MemAct.ofEvent],?_⟩;have:deafBehind d ((semEvents ⟨b,off,none⟩).extract 0 1)=d+1:=by simp[semEvents,deafBehind]
   rw[this];exact key false
  | 2,g=>
   simp[semEvents]at g;subst g;refine⟨by simp[MemAct.ofEvent],?_⟩;have:deafBehind d ((semEvents ⟨b,off,none⟩).extract 0 2)=d+1:=by simp[semEvents,deafBehind]
   rw[this];exact key true
  | 3,g=>
   simp[semEvents]at g;subst g;exact⟨by simp[MemAct.ofEvent],λa h=>by simp[MemAct.ofEvent,MemAct.touch?]at h⟩
  | k+4,g=>simp[semEvents]at g
 simp[semEvents]at j;rcases j with rfl | rfl | rfl | rfl<;>simp only[MemAct.ofEvent,MemAct.low,Loc.low]<;>(rcases hb with rfl | rfl<;>assumption)
def DW(u:m=.disable\/m=.enable\/(i=0/\∃off,m=.read ⟨C.W,off,none⟩\/m=.write ⟨C.W,off,none⟩)) :
  rH C i d #[⟨.mark m,false,true⟩]/\∀e∈(#[⟨.mark m,false,true⟩]:Array Event),∀B,C.M<B->C.W<B->(MemAct.ofEvent e).low B:=by
 refine⟨λk e j=>?_,λe r B y q=>?_⟩
 ·match k,j with
  | 0,j=>
   simp at j;subst j;rcases u with rfl | rfl | ⟨o,off,rfl | rfl⟩
   ·exact⟨by simp[MemAct.ofEvent],λa g=>by simp[MemAct.ofEvent,MemAct.touch?]at g⟩
   ·exact⟨by simp[MemAct.ofEvent],λa g=>by simp[MemAct.ofEvent,MemAct.touch?]at g⟩
   ·refine⟨by simp[MemAct.ofEvent],λa g _=>?_⟩;simp[MemAct.ofEvent,MemAct.touch?]at g;subst g;exact⟨⟨C.W,rfl,.inr rfl⟩,by simp,λ_=>o,λh=>absurd o h⟩
   refine⟨by simp[MemAct.ofEvent],λa g _=>?_⟩;simp[MemAct.ofEvent,MemAct.touch?]at g;subst g;exact⟨⟨C.W,rfl,.inr rfl⟩,by simp,λ_=>o,λh=>absurd o h⟩
  | k+1,j=>simp at j
 simp at r;subst r;rcases u with rfl | rfl | ⟨o,off,rfl | rfl⟩
 ·trivial
 ·trivial
 ·exact q
 exact q
def wM(ok:c.Ok)(g:bZ (aZ p c) i H s Hs t w):w.heap[c.M]? = some (u1 c s.mu):=g.leS _ _ _ ((show Yb c s Hs t from g.inv).atM ok)
def wW(g:bZ (aZ p c) i H s Hs t w):w.heap[c.W]? = some (Ob c s.wg):=g.leS _ _ _ ((show Yb c s Hs t from g.inv).atW)
def UE{w:World}(h:w.heap[b]? = some (.cells cs ty))(g:cs[off]? = some v):w.cell? ⟨b,off,none⟩=some v/\w.frozen? ⟨b,off,none⟩=false:=by
 constructor
 ·simp[World.cell?,h,g]
 simp[World.frozen?,h]
def Mb{w:World}(h:w.heap[b]? = some (.cells cs ty)):(w.setCell ⟨b,off,none⟩ v).heap[b]? = some (.cells (cs.setIfInBounds off v) ty) /\
  (∀g,g≠b->(w.setCell ⟨b,off,none⟩ v).heap[g]? = w.heap[g]?)/\(w.setCell ⟨b,off,none⟩ v).heap.size=w.heap.size/\nZ w (w.setCell ⟨b,off,none⟩ v):=by
 refine⟨?_,λg hb=>?_,by simp[World.setCell],⟨.refl _,rfl,rfl⟩⟩
 ·simp[World.setCell,qBy,h]
 simp[World.setCell,qBy,qAm hb]
theorem cG.pK(ok:c.Ok)(y:bZ (aZ p c) i H s Hs t w){x':Mu}(K:sm.runT p w #[]=(.ok (.value v) w',kJ))(L:∀fn,(nr=true->norace p fn=true)->seen p fn kJ=es)
  (O:(w'=w/\x'=s.mu)\/∃off u,w'=w.setCell ⟨c.M,off,none⟩ u/\(#[.int .i32 (s.mu.st:Nat),.int .u32 (s.mu.sm:Nat)]:Array Value).setIfInBounds off u=#[.int .i32 (x'.st:Nat),.int .u32 (x'.sm:Nat)])
  (j:aW c { s with mu:=x',tag:=upd s.tag i l }) (g:rH c.toTC i (Deaf t i) es/\(∀e∈es,∀B,c.M<B->c.W<B->(MemAct.ofEvent e).low B)/\deafBehind (Deaf t i) es=(if cd l=0 then 1 else df (cd l)))
  (hb:wk=true\/(s.mu.sm=0->x'.sm=0)) (Q:¬ Ya s i\/l=s.tag i) (o:cd (s.tag i)≠12/\cd (s.tag i)≠40/\cd (s.tag i)≠0) (q:cd l≠12/\cd l≠40) (E:20<=cd l\/cd l=0->VF s i):cG p c i s t w sm wk nr v l:=by
 have z:=wM ok y;have A:=wW y;refine⟨⟨w',kJ,es,x',s.wg,K,L,j,g.1,g.2.1,g.2.2,?_⟩,Q,⟨o.1,o.2.1⟩,q,E,o.2.2⟩;rcases O with⟨rfl,rfl⟩ | ⟨off,u,rfl,N⟩
 ·exact⟨z,A,λ_ _ _=>rfl,rfl,.refl _,hb.imp id λh=>⟨h,id⟩⟩
 obtain⟨F,r,G,I⟩:=Mb (off:=off) (v:=u) z;refine⟨?_,?_,λb J _=>r b J,G,I,hb.imp id λh=>⟨h,id⟩⟩
 ·rw[F,N];rfl
 rw[r _ (qAm ok.ne)];exact A
theorem cG.nT(ok:c.Ok)(y:bZ (aZ p c) i H s Hs t w){y':Wg}(K:sm.runT p w #[]=(.ok (.value v) w',kJ))(L:∀fn,(nr=true->norace p fn=true)->seen p fn kJ=es)
  (O:(w'=w/\y'=s.wg)\/∃off u,w'=w.setCell ⟨c.W,off,none⟩ u/\(#[.int .u64 ((s.wg.v * 4294967296+s.wg.wt:Nat):Int),.int .u32 (s.wg.wm:Nat)]:Array Value).setIfInBounds off u=#[.int .u64 ((y'.v * 4294967296+y'.wt:Nat):Int),.int .u32 (y'.wm:Nat)])
  (j:aW c { s with wg:=y',tag:=upd s.tag i l }) (g:rH c.toTC i (Deaf t i) es/\(∀e∈es,∀B,c.M<B->c.W<B->(MemAct.ofEvent e).low B)/\deafBehind (Deaf t i) es=(if cd l=0 then 1 else df (cd l)))
  (hb:wk=true\/(s.wg.wm=0->y'.wm=0)) (Q:¬ Ya s i\/l=s.tag i) (o:cd (s.tag i)≠12/\cd (s.tag i)≠40/\cd (s.tag i)≠0) (q:cd l≠12/\cd l≠40) (E:20<=cd l\/cd l=0->VF s i):cG p c i s t w sm wk nr v l:=by
 have z:=wM ok y;have A:=wW y;refine⟨⟨w',kJ,es,s.mu,y',K,L,j,g.1,g.2.1,g.2.2,?_⟩,Q,⟨o.1,o.2.1⟩,q,E,o.2.2⟩;rcases O with⟨rfl,rfl⟩ | ⟨off,u,rfl,N⟩
 ·exact⟨z,A,λ_ _ _=>rfl,rfl,.refl _,hb.imp id λh=>⟨id,h⟩⟩
 obtain⟨F,r,G,I⟩:=Mb (off:=off) (v:=u) A;refine⟨?_,?_,λb _ J=>r b J,G,I,hb.imp id λh=>⟨id,h⟩⟩
 ·rw[r _ ok.ne];exact z
 rw[F,N];rfl
def Um(h:bZ (aZ p c) i H s Hs t w)(g:cd (s.tag i)≠0):Deaf t i=df (cd (s.tag i)):=
 (show Yb c s Hs t from h.inv).deaf i (B0 h (by rintro e;rw[e]at g;exact g rfl)) g
def UJ(j:bZ (aZ p c) i H s Hs t w)(g:1<=cd (s.tag i))(q:cd (s.tag i)<=24):c.base<=i:=by
 have o:=B0 j (by rintro e;rw[e]at g;simp[cd]at g);rcases o.2 with rfl | h
 ·have:=(show Yb c s Hs t from j.inv).cnt.wg.main;omega
 exact h
def AX(j:∀g,m≠.extern g)(h:dC p f (λ_=>do mark m;pure Zz))(vs:Array Value)(w:World):(callFunc f vs).runT p w #[]=(.ok (.value Zz) w,#[YA f]++#[⟨.mark m,false,true⟩]):=
 h.val (by simp[run_mark]) (by simp[events_mark])
def AY(o:∀g,m≠.extern g)(fn:FuncId):seen p fn (#[YA f]++#[⟨.mark m,false,true⟩])=#[⟨.mark m,false,true⟩]:=
 vG λx j=>by simp at j;subst j;exact⟨rfl,λg h=>o g (Loc.mark.inj h)⟩
def AW{mk:Addr->Mark}(g:dC p f (Extern.Race.marked mk))(a:Addr)(w:World):(callFunc f #[.pointer (some a)]).runT p w #[]=(.ok (.value Zz) w,#[YA f]++#[⟨.mark (mk a),false,true⟩]):=
 g.val (by simp[Extern.Race.marked,Extern.Race.at_,run_mark,Extern.Race.none_]) (by simp[Extern.Race.marked,Extern.Race.at_,events_mark])
end
end
variable{l:List Nat}{vs:Array Value}{a:Addr}{ty lL:TypeId}{v d n:Int}{x:Operand}{ρ:Operand->Value}{fn:FuncId}{C:TC}{Post:Value->Hp->Prop}{b off:Nat}{wr:Bool}{k:IntKind}
open Go.Conc
open Go.ConcN (sumTo upd sumTo_upd upd_ne upd_same)
section
variable{p:Program}{c:Cx}{i:Nat}{H:Hp}{s:Ts}{Hs:Hp}{t:Trace}{w:World}{f:FuncId}{wk nr:Bool}
def Vg(j:cd (s.tag i)≠7)(g:cd (s.tag i)≠36):¬ Ya s i\/l=s.tag i:=by
 left;rintro(⟨h,_⟩ | ⟨h,_⟩)
 ·exact j h
 exact g h
def GZ{α:Type}(g:Nat->α)(i:Nat)(a b:α):upd (upd g i a) i b=upd g i b:=by
 funext j;by_cases e:j=i
 ·subst e;rw[upd_same,upd_same]
 rw[upd_ne _ _ e,upd_ne _ _ e,upd_ne _ _ e]
theorem EN(ok:c.Ok){m:Mark}(r:m=.disable\/m=.enable)(I:dC p f (λ_=>do mark m;pure Zz)){a:Nat}(F:cd H.gh=a)(K:1<=a/\a<=19)(G:1<=cd l/\cd l<=19)(B:a≠7/\a≠12/\cd l≠12)
  (E:deafBehind (df a) #[⟨.mark m,false,true⟩]=df (cd l))
  (o:∀s:Ts,aW c s->i<s.next->c.base<=i->cd (s.tag i)=a->aW c { s with tag:=upd s.tag i l }):Zp ((aZ p c).prgW i) (callFunc f vs) wk nr H (λv y=>v=Zz/\y=H.tagged l):=by
 have q:∀g,m≠.extern g:=by rcases r with rfl | rfl<;>simp
 refine vI ok (.inl ⟨O,O⟩) λs Hs t w j=>.inr ⟨Zz,l,?_,.inl G,rfl,rfl⟩;have h:cd (s.tag i)=a:=by rw[show s.tag i=H.gh from j.tag];exact F
 have D:Yb c s Hs t:=j.inv;obtain⟨z,A⟩:=DW (C:=c.toTC) (i:=i) (d:=Deaf t i) (m:=m) (by rcases r with rfl | rfl<;>simp);refine cG.pK ok j (AX q I vs w) (λfn _=>AY q fn) (.inl ⟨rfl,rfl⟩) (o s D.cnt j.lt (UJ j O O) h) ⟨z,A,?_⟩ (.inr id) (Vg O O) O ⟨B.2.2,O⟩ (λe=>O);rw[Um j O,h,E,bY O]
def ZzW(ok:c.Ok)(u:dC p f (λ_=>do mark .disable;pure Zz))(o:cd H.gh=1)(r:c.need i=true):Zp ((aZ p c).prgW i) (callFunc f vs) wk nr H (λv g=>v=Zz/\g=H.tagged [2]):=
 EN ok (.inl rfl) u o O (by simp[cd]) (by simp[cd]) rfl λs h q hb j=>(h.jH (l:=[2]) q hb j rfl r trivial).1
def sG(ok:c.Ok)(r:dC p f (λ_=>do mark .enable;pure Zz))(o:cd H.gh=10):Zp ((aZ p c).prgW i) (callFunc f vs) wk nr H (λv g=>v=Zz/\g=H.tagged [11]):=
 EN ok (.inr rfl) r o O (by simp[cd]) (by simp[cd]) rfl λs h q hb j=>(h.gI (l:=[11]) q hb j rfl trivial).1
def ZzV(ok:c.Ok)(r:dC p f (λ_=>do mark .disable;pure Zz))(o:cd H.gh=13):Zp ((aZ p c).prgW i) (callFunc f vs) wk nr H (λv g=>v=Zz/\g=H.tagged [14]):=
 EN ok (.inl rfl) r o O (by simp[cd]) (by simp[cd]) rfl λs h q hb j=>(h.gH (l:=[14]) q hb j rfl trivial).1
def ZzU(ok:c.Ok)(r:dC p f (λ_=>do mark .enable;pure Zz))(o:cd H.gh=18):Zp ((aZ p c).prgW i) (callFunc f vs) wk nr H (λv g=>v=Zz/\g=H.tagged [19]):=
 EN ok (.inr rfl) r o O (by simp[cd]) (by simp[cd]) rfl λs h q hb j=>(h.gE (l:=[19]) q hb j rfl trivial).1
def Nt(h:Yi p ty=some none){v:Value}(r:w.cell? a=some v)(B:ρ x=.pointer (some a)) :
  (execOp ρ (aN (.load ty x) lL)).runT p w #[]=(.ok (.value v) w,#[⟨.cell a,false,false⟩]):=by
 have e:execOp ρ (aN (.load ty x) lL)=(do pure (.value (<-Instr.loadAt ty (.pointer (some a)))):Sem Next):=by simp[execOp,aN,B]
 have g:∃d,p.underlying ty=some d/\(∀j,d≠.struct j)/\∀n e,d≠.array n e:=by unfold Yi at h;split at h<;>simp only[aT,reduceCtorEq]at h;rename_i d i A y o q;exact⟨d,o,λj e=>A j (by rw[<-e]),λn e u=>y n e (by rw[<-u])⟩
 obtain⟨d,z,D,E⟩:=g;have hb:(match d with | .struct _ | .array _ _=>true | _=>false)=false:=by
  cases d with
  | struct j=>exact absurd rfl (D j)
  | array n e=>exact absurd rfl (E n e)
  | _=>rfl
 have g:(isAgg ty).run p w=.ok false w:=by simp only[isAgg,underlying,bind,Sem.bind,program,Sem.run,z,pure]
 rw[e,Sem.runT_eq];have o:(do pure (.value (<-Instr.loadAt ty (.pointer (some a)))):Sem Next).run p w=.ok (.value v) w:=by simp[Instr.loadAt,Instr.sureAddr,loadVar,g,r,Result.andThen]
 have q:(do pure (.value (<-Instr.loadAt ty (.pointer (some a)))):Sem Next).events p w #[]=#[⟨.cell a,false,false⟩]:=by simp[Instr.loadAt,Instr.sureAddr,loadVar,g,r,Result.andThen,Result.evThen,events_load]
 rw[o,q]
def Ma(h:norace p fn=true):seen p fn #[⟨.cell a,false,false⟩]=#[]:=by unfold norace at h;simp[seen,h]
def uS(ok:c.Ok)(g:bZ (aZ p c) i H s Hs t w):w.cell? ⟨c.M,0,none⟩=some (.int .i32 (s.mu.st:Nat))/\w.frozen? ⟨c.M,0,none⟩=false/\w.cell? ⟨c.M,1,none⟩=some (.int .u32 (s.mu.sm:Nat))/\w.frozen? ⟨c.M,1,none⟩=false:=by obtain⟨h,j⟩:=UE (off:=0) (v:=.int .i32 (s.mu.st:Nat)) (wM ok g) rfl;obtain⟨o,q⟩:=UE (off:=1) (v:=.int .u32 (s.mu.sm:Nat)) (wM ok g) rfl;exact⟨h,j,o,q⟩
def Ke{d:Nat}:rH C i d #[]/\(∀e∈(#[]:Array Event),∀B,C.M<B->C.W<B->(MemAct.ofEvent e).low B)/\deafBehind d #[]=d:=⟨λk e h=>by simp at h,λe h=>by simp at h,rfl⟩
theorem EK(ok:c.Ok)(u:Yi p ty=some none)(I:ρ x=.pointer (some (cC c.M)))(r:1<=cd H.gh/\cd H.gh<=19/\cd H.gh≠7/\cd H.gh≠12)
  (h:∀s:Ts,aW c s->i<s.next->c.base<=i->s.tag i=H.gh->∃l,aW c { s with tag:=upd s.tag i l }/\1<=cd l/\cd l<=19/\cd l≠12/\df (cd l)=df (cd H.gh)/\Post (.int .i32 (s.mu.st:Nat)) (H.tagged l)) :
  Zp ((aZ p c).prgW i) (execOp ρ (aN (.load ty x) lL)) wk true H Post:=by
 refine vI ok (.inl ⟨r.1,r.2.1⟩) λs Hs t w j=>.inr ?_;have g:s.tag i=H.gh:=j.tag;have F:Yb c s Hs t:=j.inv;obtain⟨l,y,z,A,B,D,E⟩:=h s F.cnt j.lt (UJ j (by rw[g];exact r.1) (by rw[g];omega)) g;obtain⟨J,K,L⟩:=Ke (i:=i) (d:=Deaf t i) (C:=c.toTC);refine⟨_,l,?_,.inl ⟨z,A⟩,E⟩;refine cG.pK ok j (Nt u (uS ok j).1 I) (λfn G=>Ma (G rfl)) (.inl ⟨rfl,rfl⟩) y ⟨J,K,?_⟩ (.inr id) (Vg (by rw[g];omega) (by rw[g];omega)) (by rw[g];omega) ⟨B,O⟩ (λe=>O);rw[L,Um j (by rw[g];omega),g,bY O,D]
def x6(hb:b=C.M\/b=C.W):∀e∈#[iM b off wr],∃b off wr,e=iM b off wr/\(b=C.M\/b=C.W):=by intro e g;simp at g;exact⟨b,off,wr,g,hb⟩
def BQ(hb:b=C.M\/b=C.W):∀e∈#[iM b off false,iM b off true],∃b off wr,e=iM b off wr/\(b=C.M\/b=C.W):=by
 intro e g;simp at g;rcases g with rfl | rfl
 ·exact⟨b,off,false,rfl,hb⟩
 exact⟨b,off,true,rfl,hb⟩
def Lz{f:FuncId}{evs:Array Event}(h:∀e∈evs,∃b off wr,e=iM b off wr):seen p fn (#[YA f]++evs)=evs:=
 vG λx j=>by obtain⟨b,off,wr,rfl⟩:=h x j;exact⟨rfl,λg h=>by simp[iM]at h⟩
def vH{f:FuncId}:seen p fn (#[YA f]++#[iM b off wr])=#[iM b off wr]:=Lz λe g=>by simp at g;exact⟨b,off,wr,g⟩
def wZ{f:FuncId}:seen p fn (#[YA f]++#[iM b off false,iM b off true])=#[iM b off false,iM b off true]:=Lz λe g=>by
 simp at g;rcases g with rfl | rfl
 ·exact⟨b,off,false,rfl⟩
 exact⟨b,off,true,rfl⟩
theorem Np(j:dC p f (Extern.Atomic.casT (.int k)))(g:w.cell? a=some (.int k v))(h:w.frozen? a=false) :
  (callFunc f #[.pointer (some a),.int k v,.int k n]).runT p w #[]=(.ok (.value (.bool true)) (w.setCell a (.int k n)),#[YA f]++#[⟨.cell a,false,true⟩,⟨.cell a,true,true⟩]):=
 j.val (by rw[casT_eq];exact run_cas_hit_entry g h) (by rw[casT_eq,events_cas_hit_entry g h];rfl)
theorem Nr(q:dC p f (Extern.Atomic.casT (.int k))){o:Int}(h:w.cell? a=some (.int k v))(j:w.frozen? a=false)(g:¬ v=o) :
  (callFunc f #[.pointer (some a),.int k o,.int k n]).runT p w #[]=(.ok (.value (.bool false)) w,#[YA f]++#[⟨.cell a,false,true⟩]):=
 q.val (by rw[casT_eq];exact run_cas_miss_entry h j g) (by rw[casT_eq,events_cas_miss_entry h j g];rfl)
theorem M4(j:dC p f (Extern.Atomic.update (Op.intArith .add) k true))(g:w.cell? a=some (.int k v))(h:w.frozen? a=false) :
  (callFunc f #[.pointer (some a),.int k d]).runT p w #[]=(.ok (.value (.int k (k.wrap (v+d)))) (w.setCell a (.int k (k.wrap (v+d)))),#[YA f]++#[⟨.cell a,false,true⟩,⟨.cell a,true,true⟩]):=
 j.val (run_add_entry g h) (by rw[events_add_entry g h];rfl)
theorem vO(ok:c.Ok)(T:dC p f (Extern.Atomic.casT (.int .i32))){o n:Nat}(A:1<=cd H.gh/\cd H.gh<=19/\cd H.gh≠7/\cd H.gh≠12/\df (cd H.gh)=1)
  (u:∀s:Ts,aW c s->i<s.next->c.base<=i->s.tag i=H.gh->s.mu.st=o->∃x' l,aW c { s with mu:=x',tag:=upd s.tag i l }/\x'.st=n/\x'.sm=s.mu.sm/\1<=cd l/\cd l<=19/\cd l≠12/\df (cd l)=1/\Post (.bool true) (H.tagged l))
  (r:∀s:Ts,aW c s->i<s.next->c.base<=i->s.tag i=H.gh->s.mu.st≠o->∃l,aW c { s with tag:=upd s.tag i l }/\1<=cd l/\cd l<=19/\cd l≠12/\df (cd l)=1/\Post (.bool false) (H.tagged l)) :
  Zp ((aZ p c).prgW i) (callFunc f #[.pointer (some (cC c.M)),.int .i32 (o:Nat),.int .i32 (n:Nat)]) wk nr H Post:=by
 refine vI ok (.inl ⟨A.1,A.2.1⟩) λs Hs t w h=>.inr ?_;have g:s.tag i=H.gh:=h.tag;have R:Yb c s Hs t:=h.inv;have y:=UJ h (by rw[g];exact A.1) (by rw[g];omega);have Q:Deaf t i=1:=by rw[Um h (by rw[g];omega),g];exact A.2.2.2.2
 obtain⟨S,U,_⟩:=uS ok h;by_cases z:s.mu.st=o
 ·obtain⟨x',l,B,V,N,D,E,F,G,I⟩:=u s R.cnt h.lt y g z;obtain⟨J,K,L⟩:=UB (i:=i) (d:=Deaf t i) (C:=c.toTC) (BQ (off:=0) (.inl rfl)) O;refine⟨.bool true,l,?_,.inl ⟨D,E⟩,I⟩;subst z;refine cG.pK (x':=x') ok h (Np T S U) (λfn _=>wZ) (.inr ⟨0,_,rfl,by rw[V,N];rfl⟩) B ⟨J,K,?_⟩ (.inr λe=>by rw[N];exact e) (Vg (by rw[g];omega) (by rw[g];omega)) (by rw[g];omega) ⟨F,O⟩ (λe=>O);rw[L,Q,bY O,G]
 obtain⟨l,B,D,E,F,G,I⟩:=r s R.cnt h.lt y g z;obtain⟨J,K,L⟩:=UB (i:=i) (d:=Deaf t i) (C:=c.toTC) (x6 (off:=0) (wr:=false) (.inl rfl)) O;refine⟨.bool false,l,?_,.inl ⟨D,E⟩,I⟩;refine cG.pK ok h (Nr T S U (λe=>z (by exact_mod_cast e))) (λfn _=>vH) (.inl ⟨rfl,rfl⟩) B ⟨J,K,?_⟩ (.inr id) (Vg (by rw[g];omega) (by rw[g];omega)) (by rw[g];omega) ⟨F,O⟩ (λe=>O);rw[L,Q,bY O,G]
def TQ(ok:c.Ok)(N:dC p f (Extern.Atomic.update (Op.intArith .add) .i32 true))(q:1<=cd H.gh/\cd H.gh<=19/\cd H.gh≠7/\cd H.gh≠12/\df (cd H.gh)=1)
  (h:∀s:Ts,aW c s->i<s.next->c.base<=i->s.tag i=H.gh->∃x' l,aW c { s with mu:=x',tag:=upd s.tag i l }/\IntKind.i32.wrap ((s.mu.st:Nat)+d)=(x'.st:Nat)/\x'.sm=s.mu.sm/\1<=cd l/\cd l<=19/\cd l≠12/\df (cd l)=1/\Post (.int .i32 (x'.st:Nat)) (H.tagged l)) :
  Zp ((aZ p c).prgW i) (callFunc f #[.pointer (some (cC c.M)),.int .i32 d]) wk nr H Post:=by
 refine vI ok (.inl ⟨q.1,q.2.1⟩) λs Hs t w j=>.inr ?_;have g:s.tag i=H.gh:=j.tag;have K:Yb c s Hs t:=j.inv;have u:=UJ j (by rw[g];exact q.1) (by rw[g];omega);have J:Deaf t i=1:=by rw[Um j (by rw[g];omega),g];exact q.2.2.2.2
 obtain⟨L,Q,_⟩:=uS ok j;obtain⟨x',l,A,B,y,D,E,F,G,I⟩:=h s K.cnt j.lt u g;obtain⟨R,S,T⟩:=UB (i:=i) (d:=Deaf t i) (C:=c.toTC) (BQ (off:=0) (.inl rfl)) O;refine⟨.int .i32 (x'.st:Nat),l,?_,.inl ⟨D,E⟩,I⟩;have z:=M4 N (d:=d) L Q;rw[B]at z;refine cG.pK (x':=x') ok j z (λfn _=>wZ) (.inr ⟨0,_,rfl,by rw[y];rfl⟩) A ⟨R,S,?_⟩ (.inr λe=>by rw[y];exact e) (Vg (by rw[g];omega) (by rw[g];omega)) (by rw[g];omega) ⟨F,O⟩ (λe=>O);rw[T,J,bY O,G]
def Lp(q:dC p f Extern.Sync.semacquire){rest:Array Value}(g:vs[0]? = some (.pointer (some a)))(h:w.cell? a=some (.int .u32 n))(o:w.frozen? a=false)(j:n≠0) :
  (callFunc f vs).runT p w #[]=(.ok (.value Zz) (w.setCell a (.int .u32 (n-1))),#[YA f]++semEvents a):=
 q.val (by simp[Extern.Sync.semacquire,Extern.Sync.count,g,h,j,o,Extern.Sync.none_,run_store p w a (.int .u32 (n-1)) .atomic rfl,Result.andThen])
  (by simp[Extern.Sync.semacquire,Extern.Sync.count,g,h,j,o,semEvents,events_load,events_store p w _ a (.int .u32 (n-1)) .atomic rfl,run_store p w a (.int .u32 (n-1)) .atomic rfl,Result.evThen])
def Lq(j:dC p f Extern.Sync.semacquire)(g:vs[0]? = some (.pointer (some a)))(h:w.cell? a=some (.int .u32 0)):∃es,(callFunc f vs).runT p w #[]=(.halt .blocked w,es):=
 j.blocks (by simp[Extern.Sync.semacquire,Extern.Sync.count,g,h])
def Lr(o:dC p f Extern.Sync.semrelease)(g:vs[0]? = some (.pointer (some a)))(h:w.cell? a=some (.int .u32 n))(j:w.frozen? a=false) :
  (callFunc f vs).runT p w #[]=(.ok (.value Zz) (w.setCell a (.int .u32 (IntKind.u32.wrap (n+1)))),#[YA f]++semEvents a):=
 o.val (by simp[Extern.Sync.semrelease,Extern.Sync.count,g,h,j,Extern.Sync.none_,Op.intArith,run_store p w a (.int .u32 (IntKind.u32.wrap (n+1))) .atomic rfl,Result.andThen])
  (by simp[Extern.Sync.semrelease,Extern.Sync.count,g,h,j,semEvents,Op.intArith,events_load,events_store p w _ a (.int .u32 (IntKind.u32.wrap (n+1))) .atomic rfl,run_store p w a (.int .u32 (IntKind.u32.wrap (n+1))) .atomic rfl,Result.evThen])
def FK{f:FuncId}:seen p fn (#[YA f]++semEvents a)=semEvents a:=vG (semEvents_sync a)
end
