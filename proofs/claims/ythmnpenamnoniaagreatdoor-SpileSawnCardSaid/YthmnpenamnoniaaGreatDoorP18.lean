import Derived.Test.YthmnpenamnoniaaGreatDoorP09
import Derived.Test.YthmnpenamnoniaaGreatDoorP17
import Derived.Conc.AtomicLaws2
import Derived.Conc.MarkLaws
import Derived.Conc.ClockLaws
set_option linter.all false
section
namespace Go.LL
open Go.Conc
open Go.ConcN (sumTo upd sumTo_upd upd_ne upd_same)
structure Ext (P:Program)(f:FuncId)(e:Array Value->Sem Value):Prop where
 ex:∃ fn,P.funcs[f]? = some fn∧(fn.name == "runtime.NumGoroutine")=false∧fn.body.isNone=true∧Extern.findNext fn=none∧Extern.find fn=some e
def extE (f:FuncId):Event:=⟨.mark (.extern f),false,true⟩
theorem Ext.val {P:Program}{f:FuncId}{e:Array Value->Sem Value}(h:Ext P f e){vs:Array Value}{w w':World}{v:Value}{evs:Array Event}(hr:(e vs).run P w=.ok v w')(he:(e vs).events P w #[extE f]=#[extE f]++evs) :
  (callFunc f vs).runT P w #[]=(.ok (.value v) w',#[extE f]++evs):=by
 obtain⟨fn,h1,h2,h3,h4,h5⟩:=h.ex
 rw[Sem.runT_eq,run_callFunc_extern h1 h2 h3 h4 h5,hr,events_callFunc_extern h1 h2 h3 h4 h5]
 simp only[Result.andThen]
 rw[show (#[]:Array Event).push ⟨.mark (.extern f),false,true⟩=#[extE f] from rfl,he]
theorem Ext.blocks {P:Program}{f:FuncId}{e:Array Value->Sem Value}(h:Ext P f e){vs:Array Value}{w w':World}(hr:(e vs).run P w=.halt .blocked w') :
  ∃ es,(callFunc f vs).runT P w #[]=(.halt .blocked w',es):=by
 obtain⟨fn,h1,h2,h3,h4,h5⟩:=h.ex
 exact⟨_,by rw[Sem.runT_eq,run_callFunc_extern h1 h2 h3 h4 h5,hr];rfl⟩
theorem ZcR {P:Program}{fn f:FuncId}{evs:Array Event}(h:∀ x∈evs,x.sync=true∧∀ g,x.loc≠.mark (.extern g)):seen P fn (#[extE f]++evs)=evs:=seen_entry fn f evs h
section
variable  {p:Program}{c:Cx}
structure Step1 (p:Program)(c:Cx)(i:Nat)(s:Ts)(t:Trace)(w:World)(sm:Sem Next)(wk nr:Bool)(v:Value)(l:List Nat):Prop where
 ex:∃ (w':World) (es0 es:Array Event) (x':Mu) (y':Wg),sm.runT p w #[]=(.ok (.value v) w',es0)∧(∀ fn,(nr=true->norace p fn=true)->seen p fn es0=es)∧Cnt c { s with mu:=x',wg:=y',tag:=upd s.tag i l } ∧
  EvS c.toTC i (Deaf t i) es∧(∀ e∈es,∀ B,c.M<B->c.W<B->(MemAct.ofEvent e).low B)∧deafBehind (Deaf t i) es=(if cd l=0 then 1 else df (cd l)) ∧
  w'.heap[c.M]? = some (Zjh c x')∧w'.heap[c.W]? = some (Zhl c y')∧(∀ b,b≠c.M->b≠c.W->w'.heap[b]? = w.heap[b]?)∧w'.heap.size=w.heap.size∧Out w w' ∧
  (wk=true∨((s.mu.sm=0->x'.sm=0)∧(s.wg.wm=0->y'.wm=0)))
 nb:¬ cBlk s i∨l=s.tag i
 nt:cd (s.tag i)≠12∧cd (s.tag i)≠40
 nt':cd l≠12∧cd l≠40
 dn:20<=cd l∨cd l=0->Zcf s i
 nz:cd (s.tag i)≠0
theorem blk_keep {s:Ts}{x':Mu}{y':Wg}{i:Nat}{l:List Nat}(nb:¬ cBlk s i∨l=s.tag i)(h1:s.mu.sm=0->x'.sm=0)(h2:s.wg.wm=0->y'.wm=0)(j:Nat)(hj:cBlk s j):cBlk { s with mu:=x',wg:=y',tag:=upd s.tag i l } j:=by
 have:upd s.tag i l j=s.tag j:=by
  by_cases e:j=i
  ·subst e;rcases nb with nb | nb
   ·exact absurd hj nb
   ·rw[upd_same,nb]
  ·exact upd_ne _ _ e
 unfold cBlk at hj ⊢
 simp only[this]
 exact hj.imp (fun ⟨a,b⟩=>⟨a,h1 b⟩) fun ⟨a,b⟩=>⟨a,h2 b⟩
theorem ZhN {g:List Nat}(h:cAct g∨cHsh g):g≠[0]:=by
 rintro rfl
 simp[cAct,cHsh,cd]at h
theorem Step1.goes (ok:c.Ok){i:Nat}{H:Hp}{s:Ts}{Hs:Hp}{t:Trace}{w:World}{sm:Sem Next}{wk nr:Bool}{v:Value}{l:List Nat}(h:Step1 p c i s t w sm wk nr v l)(hA:Ahead (team p c) i H s Hs t w)(hl:s.tag i≠[0])
  {fr:Frame} {nx:Value->Frame} {cs:List Frame} (ha:Zhh p fr nx sm wk nr) {K:Trace->Frame->List Frame->Hp->Prop} (hK:∀ t',(cd l=0->Deaf t' i=1)->K t' (nx v) cs (H.tagged l)):Zh4 (team p c) i K fr cs H s Hs t w:=by
 obtain⟨w',es0,es,x',y',h1,h2,h3,h4,h5,h6,h7,h8,h9,h10,h11,h12⟩:=h.ex
 have hlive:=Zf5 hA hl
 obtain⟨Hs',hM⟩:=core ok hA hlive h3 h4 h5 (fun e=>by rw[h6,if_neg e]) h.nt h.nt' h.nz h.dn h7 h8 h9 h10 h11
 have hes:=h2 fr.fn ha.nr
 obtain⟨m1,m2⟩:=hM fr.fn fr.place
 refine⟨nx v,cs,w',H.tagged l,{ s with mu:=x',wg:=y',tag:=upd s.tag i l },Hs',es,?_,m1,m2,fun j=>rfl,rfl,Nat.le_refl _,?_,hK _ fun e=>?_⟩
 ·rw[ZbF ha h1,hes]
 ·rcases h12 with h12 | ⟨e1,e2⟩
  ·exact .inl (ha.wake h12 cs)
  ·exact .inr (blk_keep h.nb e1 e2)
 ·rw[Deaf_own,h6,if_pos e]
theorem ZcP (ok:c.Ok){i:Nat}{H:Hp}{sm:Sem Next}{wk nr:Bool}{Post:Value->Hp->Prop}(hg:cAct H.gh)
  (h:∀ s Hs t w,Ahead (team p c) i H s Hs t w->((∃ es,sm.runT p w #[]=(.halt .blocked w,es))∧cBlk s i)∨∃ v l,Step1 p c i s t w sm wk nr v l∧cAct l∧Post v (H.tagged l)):ShOp ((team p c).prgW i) sm wk nr H Post:=by
 intro G fr nx cs hcl ha hG
 refine .shared ⟨?_,.inr (.inl ⟨hg,fun s Hs t w hA=>?_⟩)⟩
 ·intro e;rw[e]at hg;simp[cAct,cd]at hg
 ·have htag:s.tag i=H.gh:=hA.tag
  rcases h s Hs t w hA with ⟨⟨es,hr⟩,hb⟩ | ⟨v,l,h1,h2,h3⟩
  ·exact .inr ⟨Zc5 ha hr,hb⟩
  ·exact .inl (h1.goes ok hA (by rw[htag];exact ZhN (.inl hg)) ha fun t' _=>.inl ⟨hG v _ h3,h2⟩)
theorem ZdY (ok:c.Ok){i:Nat}{H:Hp}{sm:Sem Next}{wk nr:Bool}{Post:Value->Hp->Prop}(hg:cHsh H.gh)
  (h:∀ s Hs t w,Ahead (team p c) i (.bare H.gh) s Hs t w->((∃ es,sm.runT p w #[]=(.halt .blocked w,es))∧cBlk s i)∨∃ v l,Step1 p c i s t w sm wk nr v l∧((cHsh l∧Post v (H.tagged l))∨(l=[0]∧Post v (H.tagged (lv 1))))):ShOp ((team p c).prgW i) sm wk nr H Post:=by
 intro G fr nx cs hcl ha hG
 refine .shared ⟨?_,.inr (.inr ⟨hg,fun s Hs t w hA=>?_⟩)⟩
 ·intro e;rw[e]at hg;simp[cHsh,cd]at hg
 ·have htag:s.tag i=H.gh:=hA.tag
  rcases h s Hs t w hA with ⟨⟨es,hr⟩,hb⟩ | ⟨v,l,h1,h2⟩
  ·exact .inr ⟨Zc5 ha hr,hb⟩
  ·refine .inl (h1.goes ok hA (by rw[htag];exact ZhN (.inr hg)) ha fun t' ht=>⟨fun b=>rfl,?_⟩)
   rcases h2 with ⟨h2,h3⟩ | ⟨rfl,h3⟩
   ·exact .inl ⟨h2,hG v _ h3⟩
   ·exact .inr ⟨rfl,by rw[ht rfl];exact hG v _ h3⟩
theorem Zb8 (ok:c.Ok){H:Hp}{sm:Sem Next}{wk nr:Bool}{Post:Value->Hp->Prop}(hg:30<=cd H.gh)
  (h:∀ s Hs t w,Ahead (team p c) 0 H s Hs t w->((∃ es,sm.runT p w #[]=(.halt .blocked w,es))∧cBlk s 0)∨∃ v l,Step1 p c 0 s t w sm wk nr v l∧30<=cd l∧Post v (H.tagged l)):ShOp ((team p c).prgM) sm wk nr H Post:=by
 intro G fr nx cs hcl ha hG
 refine .shared ⟨?_,fun s Hs t w hA=>?_⟩
 ·intro e;rw[e]at hg;simp[cd]at hg
 ·have htag:s.tag 0=H.gh:=hA.tag
  rcases h s Hs t w hA with ⟨⟨es,hr⟩,hb⟩ | ⟨v,l,h1,h2,h3⟩
  ·exact .inr (.inl ⟨Zc5 ha hr,hb⟩)
  ·exact .inl (h1.goes ok hA (by rw[htag];exact ZhN (.inl (.inr hg))) ha fun t' _=>⟨hG v _ h3,.inr h2⟩)
theorem ZkK {i:Nat}{H:Hp}{sm:Sem Next}{wk nr:Bool}{Post:Value->Hp->Prop}{d:Nat}(hg:H.gh=lv d){v:Value}{es0 es:Array Event}(hr:∀ w,sm.runT p w #[]=(.ok (.value v) w,es0))(hs:∀ fn,seen p fn es0=es)
  (hm:∀ e∈es,Event.mute e=true) (hp:Post v (H.tagged (lv (deafBehind d es)))):ShOp ((team p c).prgW i) sm wk nr H Post:=by
 intro G fr nx cs hcl ha hG
 refine .shared ⟨by rw[hg];simp[lv],.inl ⟨d,hg,.inl ⟨nx v,cs,es,hm,fun main w=>(ZbF (P:=p) ha (hr w)).trans (by rw[hs]),hG v _ hp⟩⟩⟩
end
end Go.LL
end
section
namespace Go.LL
open Go.Conc
open Go.ConcN (sumTo upd sumTo_upd upd_ne upd_same)
abbrev ZaC:Value:=.tuple #[]
def atE (b off:Nat)(wr:Bool):Event:=⟨.cell ⟨b,off,none⟩,wr,true⟩
section
variable  {p:Program}{c:Cx}{i:Nat}{H:Hp}{s:Ts}{Hs:Hp}{t:Trace}{w:World}
theorem Za1 {C:TC}{d:Nat}{es:Array Event}(h:∀ e∈es,∃ b off wr,e=atE b off wr∧(b=C.M∨b=C.W))(hd:d≠0) :
  EvS C i d es∧(∀ e∈es,∀ B,C.M<B->C.W<B->(MemAct.ofEvent e).low B)∧deafBehind d es=d:=by
 have nomark:∀ e∈es,e.loc≠.mark .disable∧e.loc≠.mark .enable:=by
  intro e he
  obtain⟨b,off,wr,rfl,_⟩:=h e he
  exact⟨by simp[atE],by simp[atE]⟩
 refine⟨fun k e hk=>?_,fun e he B h1 h2=>?_,deafBehind_still nomark d⟩
 ·have hm:e∈es:=by
   obtain⟨hlt,rfl⟩:=Array.getElem?_eq_some_iff.1 hk
   exact Array.getElem_mem hlt
  obtain⟨b,off,wr,rfl,hb⟩:=h e hm
  refine⟨by cases wr<;>simp[atE,MemAct.ofEvent],fun a ha _=>?_⟩
  have:a=⟨.cell ⟨b,off,none⟩,wr,.atomic⟩:=by
   cases wr<;>simp[atE,MemAct.ofEvent,MemAct.touch?]at ha<;>rw[<-ha]
  subst this
  refine⟨⟨b,rfl,hb⟩,by simp,by simp,fun _=>⟨rfl,?_⟩⟩
  rw[deafBehind_still (fun e he=>nomark e ?_) d]
  ·exact hd
  ·obtain⟨j,hj,rfl⟩:=Array.mem_iff_getElem.1 he
   simp only[Array.getElem_extract]
   exact Array.getElem_mem _
 ·obtain⟨b,off,wr,rfl,hb⟩:=h e he
  cases wr<;>(simp only[atE,MemAct.ofEvent,MemAct.low,Loc.low];rcases hb with rfl | rfl<;>assumption)
theorem Zfu {C:TC}{d b off:Nat}(hb:b=C.M∨b=C.W) :
  EvS C i d (semEvents ⟨b,off,none⟩)∧(∀ e∈semEvents ⟨b,off,none⟩,∀ B,C.M<B->C.W<B->(MemAct.ofEvent e).low B)∧deafBehind d (semEvents ⟨b,off,none⟩)=d:=by
 refine⟨fun k e hk=>?_,fun e he B h1 h2=>?_,by simp[semEvents,deafBehind]⟩
 ·have key:∀ wr,(∀ a,(MemAct.ofEvent (atE b off wr)).touch? = some a->a.loc.isMemory=true->C.Sh a.loc∧a.kind≠.plain∧(a.kind=.said->i=0)∧(i≠0->a.kind=.atomic∧d+1≠0)):=by
   intro wr a ha _
   have:a=⟨.cell ⟨b,off,none⟩,wr,.atomic⟩:=by
    cases wr<;>simp[atE,MemAct.ofEvent,MemAct.touch?]at ha<;>rw[<-ha]
   subst this
   exact⟨⟨b,rfl,hb⟩,by simp,by simp,fun _=>⟨rfl,by omega⟩⟩
  match k,hk with
  | 0,hk=>
   simp[semEvents]at hk
   subst hk
   exact⟨by simp[MemAct.ofEvent],fun a ha=>by simp[MemAct.ofEvent,MemAct.touch?]at ha⟩
  | 1,hk=>
   simp[semEvents]at hk
   subst hk
   refine⟨by simp[MemAct.ofEvent],?_⟩
   have:deafBehind d ((semEvents ⟨b,off,none⟩).extract 0 1)=d+1:=by simp[semEvents,deafBehind]
   rw[this]
   exact key false
  | 2,hk=>
   simp[semEvents]at hk
   subst hk
   refine⟨by simp[MemAct.ofEvent],?_⟩
   have:deafBehind d ((semEvents ⟨b,off,none⟩).extract 0 2)=d+1:=by simp[semEvents,deafBehind]
   rw[this]
   exact key true
  | 3,hk=>
   simp[semEvents]at hk
   subst hk
   exact⟨by simp[MemAct.ofEvent],fun a ha=>by simp[MemAct.ofEvent,MemAct.touch?]at ha⟩
  | k+4,hk=>simp[semEvents]at hk
 ·simp[semEvents]at he
  rcases he with rfl | rfl | rfl | rfl<;>simp only[MemAct.ofEvent,MemAct.low,Loc.low]<;>(rcases hb with rfl | rfl<;>assumption)
theorem Zfv {C:TC}{d:Nat}{m:Mark}(hm:m=.disable∨m=.enable∨(i=0∧∃ off,m=.read ⟨C.W,off,none⟩∨m=.write ⟨C.W,off,none⟩)) :
  EvS C i d #[⟨.mark m,false,true⟩]∧∀ e∈(#[⟨.mark m,false,true⟩]:Array Event),∀ B,C.M<B->C.W<B->(MemAct.ofEvent e).low B:=by
 refine⟨fun k e hk=>?_,fun e he B h1 h2=>?_⟩
 ·match k,hk with
  | 0,hk=>
   simp at hk
   subst hk
   rcases hm with rfl | rfl | ⟨h0,off,rfl | rfl⟩
   ·exact⟨by simp[MemAct.ofEvent],fun a ha=>by simp[MemAct.ofEvent,MemAct.touch?]at ha⟩
   ·exact⟨by simp[MemAct.ofEvent],fun a ha=>by simp[MemAct.ofEvent,MemAct.touch?]at ha⟩
   ·refine⟨by simp[MemAct.ofEvent],fun a ha _=>?_⟩
    simp[MemAct.ofEvent,MemAct.touch?]at ha
    subst ha
    exact⟨⟨C.W,rfl,.inr rfl⟩,by simp,fun _=>h0,fun h=>absurd h0 h⟩
   ·refine⟨by simp[MemAct.ofEvent],fun a ha _=>?_⟩
    simp[MemAct.ofEvent,MemAct.touch?]at ha
    subst ha
    exact⟨⟨C.W,rfl,.inr rfl⟩,by simp,fun _=>h0,fun h=>absurd h0 h⟩
  | k+1,hk=>simp at hk
 ·simp at he
  subst he
  rcases hm with rfl | rfl | ⟨h0,off,rfl | rfl⟩
  ·trivial
  ·trivial
  ·exact h2
  ·exact h2
theorem wM (ok:c.Ok)(hA:Ahead (team p c) i H s Hs t w):w.heap[c.M]? = some (Zjh c s.mu):=hA.leS _ _ _ ((show CInv c s Hs t from hA.inv).atM ok)
theorem wW (hA:Ahead (team p c) i H s Hs t w):w.heap[c.W]? = some (Zhl c s.wg):=hA.leS _ _ _ ((show CInv c s Hs t from hA.inv).atW)
theorem ZdR {w:World}{b off:Nat}{cs:Array Value}{ty:TypeId}{v:Value}(h:w.heap[b]? = some (.cells cs ty))(hv:cs[off]? = some v):w.cell? ⟨b,off,none⟩=some v∧w.frozen? ⟨b,off,none⟩=false:=by
 constructor
 ·simp[World.cell?,h,hv]
 ·simp[World.frozen?,h]
theorem set_at {w:World}{b off:Nat}{cs:Array Value}{ty:TypeId}{v:Value}(h:w.heap[b]? = some (.cells cs ty)):(w.setCell ⟨b,off,none⟩ v).heap[b]? = some (.cells (cs.setIfInBounds off v) ty) ∧
  (∀ b',b'≠b->(w.setCell ⟨b,off,none⟩ v).heap[b']? = w.heap[b']?)∧(w.setCell ⟨b,off,none⟩ v).heap.size=w.heap.size∧Out w (w.setCell ⟨b,off,none⟩ v):=by
 refine⟨?_,fun b' hb=>?_,by simp[World.setCell],⟨.refl _,rfl,rfl⟩⟩
 ·simp[World.setCell,Array.getElem?_modify,h]
 ·simp[World.setCell,Array.getElem?_modify,Ne.symm hb]
theorem Step1.ofM (ok:c.Ok)(hA:Ahead (team p c) i H s Hs t w){sm:Sem Next}{wk nr:Bool}{v:Value}{l:List Nat}{x':Mu}{w':World}{es0 es:Array Event}(hr:sm.runT p w #[]=(.ok (.value v) w',es0))(hs:∀ fn,(nr=true->norace p fn=true)->seen p fn es0=es)
  (hw:(w'=w∧x'=s.mu)∨∃ off u,w'=w.setCell ⟨c.M,off,none⟩ u∧(#[.int .i32 (s.mu.st:Nat),.int .u32 (s.mu.sm:Nat)]:Array Value).setIfInBounds off u=#[.int .i32 (x'.st:Nat),.int .u32 (x'.sm:Nat)])
  (hcnt:Cnt c { s with mu:=x',tag:=upd s.tag i l }) (hev:EvS c.toTC i (Deaf t i) es∧(∀ e∈es,∀ B,c.M<B->c.W<B->(MemAct.ofEvent e).low B)∧deafBehind (Deaf t i) es=(if cd l=0 then 1 else df (cd l)))
  (hb:wk=true∨(s.mu.sm=0->x'.sm=0)) (nb:¬ cBlk s i∨l=s.tag i) (nt:cd (s.tag i)≠12∧cd (s.tag i)≠40∧cd (s.tag i)≠0) (nt':cd l≠12∧cd l≠40) (dn:20<=cd l∨cd l=0->Zcf s i):Step1 p c i s t w sm wk nr v l:=by
 have hM:=wM ok hA
 have hW:=wW hA
 refine⟨⟨w',es0,es,x',s.wg,hr,hs,hcnt,hev.1,hev.2.1,hev.2.2,?_⟩,nb,⟨nt.1,nt.2.1⟩,nt',dn,nt.2.2⟩
 rcases hw with ⟨rfl,rfl⟩ | ⟨off,u,rfl,hu⟩
 ·exact⟨hM,hW,fun _ _ _=>rfl,rfl,.refl _,hb.imp id fun h=>⟨h,id⟩⟩
 ·obtain⟨e1,e2,e3,e4⟩:=set_at (off:=off) (v:=u) hM
  refine⟨?_,?_,fun b h1 _=>e2 b h1,e3,e4,hb.imp id fun h=>⟨h,id⟩⟩
  ·rw[e1,hu];rfl
  ·rw[e2 _ (Ne.symm ok.ne)];exact hW
theorem Step1.ofW (ok:c.Ok)(hA:Ahead (team p c) i H s Hs t w){sm:Sem Next}{wk nr:Bool}{v:Value}{l:List Nat}{y':Wg}{w':World}{es0 es:Array Event}(hr:sm.runT p w #[]=(.ok (.value v) w',es0))(hs:∀ fn,(nr=true->norace p fn=true)->seen p fn es0=es)
  (hw:(w'=w∧y'=s.wg)∨∃ off u,w'=w.setCell ⟨c.W,off,none⟩ u∧(#[.int .u64 ((s.wg.v * 4294967296+s.wg.wt:Nat):Int),.int .u32 (s.wg.wm:Nat)]:Array Value).setIfInBounds off u=#[.int .u64 ((y'.v * 4294967296+y'.wt:Nat):Int),.int .u32 (y'.wm:Nat)])
  (hcnt:Cnt c { s with wg:=y',tag:=upd s.tag i l }) (hev:EvS c.toTC i (Deaf t i) es∧(∀ e∈es,∀ B,c.M<B->c.W<B->(MemAct.ofEvent e).low B)∧deafBehind (Deaf t i) es=(if cd l=0 then 1 else df (cd l)))
  (hb:wk=true∨(s.wg.wm=0->y'.wm=0)) (nb:¬ cBlk s i∨l=s.tag i) (nt:cd (s.tag i)≠12∧cd (s.tag i)≠40∧cd (s.tag i)≠0) (nt':cd l≠12∧cd l≠40) (dn:20<=cd l∨cd l=0->Zcf s i):Step1 p c i s t w sm wk nr v l:=by
 have hM:=wM ok hA
 have hW:=wW hA
 refine⟨⟨w',es0,es,s.mu,y',hr,hs,hcnt,hev.1,hev.2.1,hev.2.2,?_⟩,nb,⟨nt.1,nt.2.1⟩,nt',dn,nt.2.2⟩
 rcases hw with ⟨rfl,rfl⟩ | ⟨off,u,rfl,hu⟩
 ·exact⟨hM,hW,fun _ _ _=>rfl,rfl,.refl _,hb.imp id fun h=>⟨id,h⟩⟩
 ·obtain⟨e1,e2,e3,e4⟩:=set_at (off:=off) (v:=u) hW
  refine⟨?_,?_,fun b _ h1=>e2 b h1,e3,e4,hb.imp id fun h=>⟨id,h⟩⟩
  ·rw[e2 _ ok.ne];exact hM
  ·rw[e1,hu];rfl
theorem Zfc (hA:Ahead (team p c) i H s Hs t w)(h0:cd (s.tag i)≠0):Deaf t i=df (cd (s.tag i)):=
 (show CInv c s Hs t from hA.inv).deaf i (Zf5 hA (by rintro e;rw[e]at h0;exact h0 rfl)) h0
theorem Zgr (hA:Ahead (team p c) i H s Hs t w)(h1:1<=cd (s.tag i))(h2:cd (s.tag i)<=24):c.base<=i:=by
 have hl:=Zf5 hA (by rintro e;rw[e]at h1;simp[cd]at h1)
 rcases hl.2 with rfl | h
 ·have:=(show CInv c s Hs t from hA.inv).cnt.wg.main;omega
 ·exact h
theorem Zc9 {m:Mark}(hm:∀ g,m≠.extern g){f:FuncId}(hx:Ext p f (fun _=>do mark m;pure ZaC))(vs:Array Value)(w:World):(callFunc f vs).runT p w #[]=(.ok (.value ZaC) w,#[extE f]++#[⟨.mark m,false,true⟩]):=
 hx.val (by simp[run_mark]) (by simp[events_mark])
theorem Zcw {m:Mark}(hm:∀ g,m≠.extern g){f:FuncId}(fn:FuncId):seen p fn (#[extE f]++#[⟨.mark m,false,true⟩])=#[⟨.mark m,false,true⟩]:=
 ZcR fun x hx=>by simp at hx;subst hx;exact⟨rfl,fun g h=>hm g (Loc.mark.inj h)⟩
theorem Zcx {mk:Addr->Mark}{f:FuncId}(hx:Ext p f (Extern.Race.marked mk))(a:Addr)(w:World):(callFunc f #[.pointer (some a)]).runT p w #[]=(.ok (.value ZaC) w,#[extE f]++#[⟨.mark (mk a),false,true⟩]):=
 hx.val (by simp[Extern.Race.marked,Extern.Race.at_,run_mark,Extern.Race.none_]) (by simp[Extern.Race.marked,Extern.Race.at_,events_mark])
end
end Go.LL
end
section
namespace Go.LL
open Go.Conc
open Go.ConcN (sumTo upd sumTo_upd upd_ne upd_same)
section
variable  {p:Program}{c:Cx}{i:Nat}{H:Hp}{s:Ts}{Hs:Hp}{t:Trace}{w:World}{f:FuncId}{wk nr:Bool}
theorem ZbD {l:List Nat}(h7:cd (s.tag i)≠7)(h36:cd (s.tag i)≠36):¬ cBlk s i∨l=s.tag i:=by
 left
 rintro(⟨h,_⟩ | ⟨h,_⟩)
 ·exact h7 h
 ·exact h36 h
theorem Zhn {α:Type}(g:Nat->α)(i:Nat)(a b:α):upd (upd g i a) i b=upd g i b:=by
 funext j
 by_cases e:j=i
 ·subst e;rw[upd_same,upd_same]
 ·rw[upd_ne _ _ e,upd_ne _ _ e,upd_ne _ _ e]
theorem Zfy (ok:c.Ok){m:Mark}(hm:m=.disable∨m=.enable)(hx:Ext p f (fun _=>do mark m;pure ZaC)){vs:Array Value}{a:Nat}{l:List Nat}(hg:cd H.gh=a)(ha:1<=a∧a<=19)(hl:1<=cd l∧cd l<=19)(h7:a≠7∧a≠12∧cd l≠12)
  (hd:deafBehind (df a) #[⟨.mark m,false,true⟩]=df (cd l))
  (hcnt:∀ s:Ts,Cnt c s->i<s.next->c.base<=i->cd (s.tag i)=a->Cnt c { s with tag:=upd s.tag i l }):ShOp ((team p c).prgW i) (callFunc f vs) wk nr H (fun v H'=>v=ZaC∧H'=H.tagged l):=by
 have hme:∀ g,m≠.extern g:=by rcases hm with rfl | rfl<;>simp
 refine ZcP ok (.inl ⟨by omega,by omega⟩) fun s Hs t w hA=>.inr ⟨ZaC,l,?_,.inl hl,rfl,rfl⟩
 have htag:cd (s.tag i)=a:=by rw[show s.tag i=H.gh from hA.tag];exact hg
 have hI:CInv c s Hs t:=hA.inv
 obtain⟨e1,e2⟩:=Zfv (C:=c.toTC) (i:=i) (d:=Deaf t i) (m:=m) (by rcases hm with rfl | rfl<;>simp)
 refine Step1.ofM ok hA (Zc9 hme hx vs w) (fun fn _=>Zcw hme fn) (.inl ⟨rfl,rfl⟩) (hcnt s hI.cnt hA.lt (Zgr hA (by omega) (by omega)) htag) ⟨e1,e2,?_⟩ (.inr id) (ZbD (by omega) (by omega)) (by omega) ⟨h7.2.2,by omega⟩ (fun e=>by omega)
 rw[Zfc hA (by omega),htag,hd,if_neg (by omega)]
theorem Zff (ok:c.Ok)(hx:Ext p f (fun _=>do mark .disable;pure ZaC)){vs:Array Value}(hg:cd H.gh=1)(hn:c.need i=true):ShOp ((team p c).prgW i) (callFunc f vs) wk nr H (fun v H'=>v=ZaC∧H'=H.tagged [2]):=
 Zfy ok (.inl rfl) hx hg (by omega) (by simp[cd]) (by simp[cd]) rfl fun s h hi hb hc=>(h.same1_2 (l:=[2]) hi hb hc rfl hn trivial).1
theorem ZaG (ok:c.Ok)(hx:Ext p f (fun _=>do mark .enable;pure ZaC)){vs:Array Value}(hg:cd H.gh=10):ShOp ((team p c).prgW i) (callFunc f vs) wk nr H (fun v H'=>v=ZaC∧H'=H.tagged [11]):=
 Zfy ok (.inr rfl) hx hg (by omega) (by simp[cd]) (by simp[cd]) rfl fun s h hi hb hc=>(h.same10_11 (l:=[11]) hi hb hc rfl trivial).1
theorem Zel (ok:c.Ok)(hx:Ext p f (fun _=>do mark .disable;pure ZaC)){vs:Array Value}(hg:cd H.gh=13):ShOp ((team p c).prgW i) (callFunc f vs) wk nr H (fun v H'=>v=ZaC∧H'=H.tagged [14]):=
 Zfy ok (.inl rfl) hx hg (by omega) (by simp[cd]) (by simp[cd]) rfl fun s h hi hb hc=>(h.same13_14 (l:=[14]) hi hb hc rfl trivial).1
theorem ZeV (ok:c.Ok)(hx:Ext p f (fun _=>do mark .enable;pure ZaC)){vs:Array Value}(hg:cd H.gh=18):ShOp ((team p c).prgW i) (callFunc f vs) wk nr H (fun v H'=>v=ZaC∧H'=H.tagged [19]):=
 Zfy ok (.inr rfl) hx hg (by omega) (by simp[cd]) (by simp[cd]) rfl fun s h hi hb hc=>(h.same18_19 (l:=[19]) hi hb hc rfl trivial).1
theorem Zid {ty:TypeId}(h:Zb5 p ty=some none){a:Addr}{v:Value}(hc:w.cell? a=some v){x:Operand}{ρ:Operand->Value}{ty2:TypeId}(hx:ρ x=.pointer (some a)) :
  (execOp ρ (bare (.load ty x) ty2)).runT p w #[]=(.ok (.value v) w,#[⟨.cell a,false,false⟩]):=by
 have e:execOp ρ (bare (.load ty x) ty2)=(do pure (.value (<-Instr.loadAt ty (.pointer (some a)))):Sem Next):=by simp[execOp,bare,hx]
 have hag:∃ d,p.underlying ty=some d∧(∀ fs,d≠.struct fs)∧∀ n e,d≠.array n e:=by
  unfold Zb5 at h
  split at h<;>simp only[Option.some.injEq,reduceCtorEq]at h
  rename_i d i hs ha h1 h2
  exact⟨d,h1,fun fs e=>hs fs (by rw[<-e]),fun n e e'=>ha n e (by rw[<-e'])⟩
 obtain⟨d,hd,n1,n2⟩:=hag
 have hb:(match d with | .struct _ | .array _ _=>true | _=>false)=false:=by
  cases d with
  | struct fs=>exact absurd rfl (n1 fs)
  | array n e=>exact absurd rfl (n2 n e)
  | _=>rfl
 have hag:(isAgg ty).run p w=.ok false w:=by
  simp only[isAgg,underlying,bind,Sem.bind,program,Sem.run,hd,pure]
 rw[e,Sem.runT_eq]
 have h1:(do pure (.value (<-Instr.loadAt ty (.pointer (some a)))):Sem Next).run p w=.ok (.value v) w:=by
  simp[Instr.loadAt,Instr.sureAddr,loadVar,hag,hc,Result.andThen]
 have h2:(do pure (.value (<-Instr.loadAt ty (.pointer (some a)))):Sem Next).events p w #[]=#[⟨.cell a,false,false⟩]:=by
  simp[Instr.loadAt,Instr.sureAddr,loadVar,hag,hc,Result.andThen,Result.evThen,events_load]
 rw[h1,h2]
theorem ZgH {fn:FuncId}{a:Addr}(h:norace p fn=true):seen p fn #[⟨.cell a,false,false⟩]=#[]:=by
 unfold norace at h
 simp[seen,h]
theorem ZjB (ok:c.Ok)(hA:Ahead (team p c) i H s Hs t w):w.cell? ⟨c.M,0,none⟩=some (.int .i32 (s.mu.st:Nat))∧w.frozen? ⟨c.M,0,none⟩=false∧w.cell? ⟨c.M,1,none⟩=some (.int .u32 (s.mu.sm:Nat))∧w.frozen? ⟨c.M,1,none⟩=false:=by
 obtain⟨h1,h2⟩:=ZdR (off:=0) (v:=.int .i32 (s.mu.st:Nat)) (wM ok hA) rfl
 obtain⟨h3,h4⟩:=ZdR (off:=1) (v:=.int .u32 (s.mu.sm:Nat)) (wM ok hA) rfl
 exact⟨h1,h2,h3,h4⟩
theorem no_evs {d:Nat}{C:TC}:EvS C i d #[]∧(∀ e∈(#[]:Array Event),∀ B,C.M<B->C.W<B->(MemAct.ofEvent e).low B)∧deafBehind d #[]=d:=⟨fun k e h=>by simp at h,fun e h=>by simp at h,rfl⟩
theorem Zfz (ok:c.Ok){ty:TypeId}(hty:Zb5 p ty=some none){x:Operand}{ρ:Operand->Value}{ty2:TypeId}(hx:ρ x=.pointer (some (mkA c.M))){Post:Value->Hp->Prop}(hg:1<=cd H.gh∧cd H.gh<=19∧cd H.gh≠7∧cd H.gh≠12)
  (h:∀ s:Ts,Cnt c s->i<s.next->c.base<=i->s.tag i=H.gh->∃ l,Cnt c { s with tag:=upd s.tag i l }∧1<=cd l∧cd l<=19∧cd l≠12∧df (cd l)=df (cd H.gh)∧Post (.int .i32 (s.mu.st:Nat)) (H.tagged l)) :
  ShOp ((team p c).prgW i) (execOp ρ (bare (.load ty x) ty2)) wk true H Post:=by
 refine ZcP ok (.inl ⟨hg.1,hg.2.1⟩) fun s Hs t w hA=>.inr ?_
 have htag:s.tag i=H.gh:=hA.tag
 have hI:CInv c s Hs t:=hA.inv
 obtain⟨l,h1,h2,h3,h4,h5,h6⟩:=h s hI.cnt hA.lt (Zgr hA (by rw[htag];exact hg.1) (by rw[htag];omega)) htag
 obtain⟨n1,n2,n3⟩:=no_evs (i:=i) (d:=Deaf t i) (C:=c.toTC)
 refine⟨_,l,?_,.inl ⟨h2,h3⟩,h6⟩
 refine Step1.ofM ok hA (Zid hty (ZjB ok hA).1 hx) (fun fn hn=>ZgH (hn rfl)) (.inl ⟨rfl,rfl⟩) h1 ⟨n1,n2,?_⟩ (.inr id) (ZbD (by rw[htag];omega) (by rw[htag];omega)) (by rw[htag];omega) ⟨h4,by omega⟩ (fun e=>by omega)
 rw[n3,Zfc hA (by rw[htag];omega),htag,if_neg (by omega),h5]
theorem ZeR {b off:Nat}{wr:Bool}{C:TC}(hb:b=C.M∨b=C.W):∀ e∈#[atE b off wr],∃ b off wr,e=atE b off wr∧(b=C.M∨b=C.W):=by
 intro e he
 simp at he
 exact⟨b,off,wr,he,hb⟩
theorem Zge {b off:Nat}{C:TC}(hb:b=C.M∨b=C.W):∀ e∈#[atE b off false,atE b off true],∃ b off wr,e=atE b off wr∧(b=C.M∨b=C.W):=by
 intro e he
 simp at he
 rcases he with rfl | rfl
 ·exact⟨b,off,false,rfl,hb⟩
 ·exact⟨b,off,true,rfl,hb⟩
theorem ZlN {f fn:FuncId}{evs:Array Event}(h:∀ e∈evs,∃ b off wr,e=atE b off wr):seen p fn (#[extE f]++evs)=evs:=
 ZcR fun x hx=>by
  obtain⟨b,off,wr,rfl⟩:=h x hx
  exact⟨rfl,fun g h=>by simp[atE]at h⟩
theorem ZcQ {f fn:FuncId}{b off:Nat}{wr:Bool}:seen p fn (#[extE f]++#[atE b off wr])=#[atE b off wr]:=ZlN fun e he=>by simp at he;exact⟨b,off,wr,he⟩
theorem Zdt {f fn:FuncId}{b off:Nat}:seen p fn (#[extE f]++#[atE b off false,atE b off true])=#[atE b off false,atE b off true]:=ZlN fun e he=>by
 simp at he
 rcases he with rfl | rfl
 ·exact⟨b,off,false,rfl⟩
 ·exact⟨b,off,true,rfl⟩
theorem ZgL {k:IntKind}(hx:Ext p f (Extern.Atomic.casT (.int k))){a:Addr}{v n:Int}(hc:w.cell? a=some (.int k v))(hz:w.frozen? a=false) :
  (callFunc f #[.pointer (some a),.int k v,.int k n]).runT p w #[]=(.ok (.value (.bool true)) (w.setCell a (.int k n)),#[extE f]++#[⟨.cell a,false,true⟩,⟨.cell a,true,true⟩]):=
 hx.val (by rw[casT_eq];exact run_cas_hit_entry hc hz) (by rw[casT_eq,events_cas_hit_entry hc hz];rfl)
theorem ZfN {k:IntKind}(hx:Ext p f (Extern.Atomic.casT (.int k))){a:Addr}{v o n:Int}(hc:w.cell? a=some (.int k v))(hz:w.frozen? a=false)(hne:¬ v=o) :
  (callFunc f #[.pointer (some a),.int k o,.int k n]).runT p w #[]=(.ok (.value (.bool false)) w,#[extE f]++#[⟨.cell a,false,true⟩]):=
 hx.val (by rw[casT_eq];exact run_cas_miss_entry hc hz hne) (by rw[casT_eq,events_cas_miss_entry hc hz hne];rfl)
theorem Zi9 {k:IntKind}(hx:Ext p f (Extern.Atomic.update (Op.intArith .add) k true)){a:Addr}{v d:Int}(hc:w.cell? a=some (.int k v))(hz:w.frozen? a=false) :
  (callFunc f #[.pointer (some a),.int k d]).runT p w #[]=(.ok (.value (.int k (k.wrap (v+d)))) (w.setCell a (.int k (k.wrap (v+d)))),#[extE f]++#[⟨.cell a,false,true⟩,⟨.cell a,true,true⟩]):=
 hx.val (run_add_entry hc hz) (by rw[events_add_entry hc hz];rfl)
theorem ZdT (ok:c.Ok)(hx:Ext p f (Extern.Atomic.casT (.int .i32))){o n:Nat}{Post:Value->Hp->Prop}(hg:1<=cd H.gh∧cd H.gh<=19∧cd H.gh≠7∧cd H.gh≠12∧df (cd H.gh)=1)
  (hhit:∀ s:Ts,Cnt c s->i<s.next->c.base<=i->s.tag i=H.gh->s.mu.st=o->∃ x' l,Cnt c { s with mu:=x',tag:=upd s.tag i l }∧x'.st=n∧x'.sm=s.mu.sm∧1<=cd l∧cd l<=19∧cd l≠12∧df (cd l)=1∧Post (.bool true) (H.tagged l))
  (hmiss:∀ s:Ts,Cnt c s->i<s.next->c.base<=i->s.tag i=H.gh->s.mu.st≠o->∃ l,Cnt c { s with tag:=upd s.tag i l }∧1<=cd l∧cd l<=19∧cd l≠12∧df (cd l)=1∧Post (.bool false) (H.tagged l)) :
  ShOp ((team p c).prgW i) (callFunc f #[.pointer (some (mkA c.M)),.int .i32 (o:Nat),.int .i32 (n:Nat)]) wk nr H Post:=by
 refine ZcP ok (.inl ⟨hg.1,hg.2.1⟩) fun s Hs t w hA=>.inr ?_
 have htag:s.tag i=H.gh:=hA.tag
 have hI:CInv c s Hs t:=hA.inv
 have hwk:=Zgr hA (by rw[htag];exact hg.1) (by rw[htag];omega)
 have hD:Deaf t i=1:=by rw[Zfc hA (by rw[htag];omega),htag];exact hg.2.2.2.2
 obtain⟨hc,hz,_⟩:=ZjB ok hA
 by_cases he:s.mu.st=o
 ·obtain⟨x',l,h1,h2,h3,h4,h5,h6,h7,h8⟩:=hhit s hI.cnt hA.lt hwk htag he
  obtain⟨n1,n2,n3⟩:=Za1 (i:=i) (d:=Deaf t i) (C:=c.toTC) (Zge (off:=0) (.inl rfl)) (by omega)
  refine⟨.bool true,l,?_,.inl ⟨h4,h5⟩,h8⟩
  subst he
  refine Step1.ofM (x':=x') ok hA (ZgL hx hc hz) (fun fn _=>Zdt) (.inr ⟨0,_,rfl,by rw[h2,h3];rfl⟩) h1 ⟨n1,n2,?_⟩ (.inr fun e=>by rw[h3];exact e) (ZbD (by rw[htag];omega) (by rw[htag];omega)) (by rw[htag];omega) ⟨h6,by omega⟩ (fun e=>by omega)
  rw[n3,hD,if_neg (by omega),h7]
 ·obtain⟨l,h1,h4,h5,h6,h7,h8⟩:=hmiss s hI.cnt hA.lt hwk htag he
  obtain⟨n1,n2,n3⟩:=Za1 (i:=i) (d:=Deaf t i) (C:=c.toTC) (ZeR (off:=0) (wr:=false) (.inl rfl)) (by omega)
  refine⟨.bool false,l,?_,.inl ⟨h4,h5⟩,h8⟩
  refine Step1.ofM ok hA (ZfN hx hc hz (fun e=>he (by exact_mod_cast e))) (fun fn _=>ZcQ) (.inl ⟨rfl,rfl⟩) h1 ⟨n1,n2,?_⟩ (.inr id) (ZbD (by rw[htag];omega) (by rw[htag];omega)) (by rw[htag];omega) ⟨h6,by omega⟩ (fun e=>by omega)
  rw[n3,hD,if_neg (by omega),h7]
theorem ZmW (ok:c.Ok)(hx:Ext p f (Extern.Atomic.update (Op.intArith .add) .i32 true)){d:Int}{Post:Value->Hp->Prop}(hg:1<=cd H.gh∧cd H.gh<=19∧cd H.gh≠7∧cd H.gh≠12∧df (cd H.gh)=1)
  (h:∀ s:Ts,Cnt c s->i<s.next->c.base<=i->s.tag i=H.gh->∃ x' l,Cnt c { s with mu:=x',tag:=upd s.tag i l }∧IntKind.i32.wrap ((s.mu.st:Nat)+d)=(x'.st:Nat)∧x'.sm=s.mu.sm∧1<=cd l∧cd l<=19∧cd l≠12∧df (cd l)=1∧Post (.int .i32 (x'.st:Nat)) (H.tagged l)) :
  ShOp ((team p c).prgW i) (callFunc f #[.pointer (some (mkA c.M)),.int .i32 d]) wk nr H Post:=by
 refine ZcP ok (.inl ⟨hg.1,hg.2.1⟩) fun s Hs t w hA=>.inr ?_
 have htag:s.tag i=H.gh:=hA.tag
 have hI:CInv c s Hs t:=hA.inv
 have hwk:=Zgr hA (by rw[htag];exact hg.1) (by rw[htag];omega)
 have hD:Deaf t i=1:=by rw[Zfc hA (by rw[htag];omega),htag];exact hg.2.2.2.2
 obtain⟨hc,hz,_⟩:=ZjB ok hA
 obtain⟨x',l,h1,h2,h3,h4,h5,h6,h7,h8⟩:=h s hI.cnt hA.lt hwk htag
 obtain⟨n1,n2,n3⟩:=Za1 (i:=i) (d:=Deaf t i) (C:=c.toTC) (Zge (off:=0) (.inl rfl)) (by omega)
 refine⟨.int .i32 (x'.st:Nat),l,?_,.inl ⟨h4,h5⟩,h8⟩
 have hr:=Zi9 hx (d:=d) hc hz
 rw[h2]at hr
 refine Step1.ofM (x':=x') ok hA hr (fun fn _=>Zdt) (.inr ⟨0,_,rfl,by rw[h3];rfl⟩) h1 ⟨n1,n2,?_⟩ (.inr fun e=>by rw[h3];exact e) (ZbD (by rw[htag];omega) (by rw[htag];omega)) (by rw[htag];omega) ⟨h6,by omega⟩ (fun e=>by omega)
 rw[n3,hD,if_neg (by omega),h7]
theorem ZgK (hx:Ext p f Extern.Sync.semacquire){a:Addr}{rest:Array Value}{vs:Array Value}(hvs:vs[0]? = some (.pointer (some a))){n:Int}(hc:w.cell? a=some (.int .u32 n))(hz:w.frozen? a=false)(hn:n≠0) :
  (callFunc f vs).runT p w #[]=(.ok (.value ZaC) (w.setCell a (.int .u32 (n-1))),#[extE f]++semEvents a):=
 hx.val (by simp[Extern.Sync.semacquire,Extern.Sync.count,hvs,hc,hn,hz,Extern.Sync.none_,run_store p w a (.int .u32 (n-1)) .atomic rfl,Result.andThen])
  (by simp[Extern.Sync.semacquire,Extern.Sync.count,hvs,hc,hn,hz,semEvents,events_load,events_store p w _ a (.int .u32 (n-1)) .atomic rfl,run_store p w a (.int .u32 (n-1)) .atomic rfl,Result.evThen])
theorem ZgJ (hx:Ext p f Extern.Sync.semacquire){a:Addr}{vs:Array Value}(hvs:vs[0]? = some (.pointer (some a)))(hc:w.cell? a=some (.int .u32 0)):∃ es,(callFunc f vs).runT p w #[]=(.halt .blocked w,es):=
 hx.blocks (by simp[Extern.Sync.semacquire,Extern.Sync.count,hvs,hc])
theorem ZgI (hx:Ext p f Extern.Sync.semrelease){a:Addr}{vs:Array Value}(hvs:vs[0]? = some (.pointer (some a))){n:Int}(hc:w.cell? a=some (.int .u32 n))(hz:w.frozen? a=false) :
  (callFunc f vs).runT p w #[]=(.ok (.value ZaC) (w.setCell a (.int .u32 (IntKind.u32.wrap (n+1)))),#[extE f]++semEvents a):=
 hx.val (by simp[Extern.Sync.semrelease,Extern.Sync.count,hvs,hc,hz,Extern.Sync.none_,Op.intArith,run_store p w a (.int .u32 (IntKind.u32.wrap (n+1))) .atomic rfl,Result.andThen])
  (by simp[Extern.Sync.semrelease,Extern.Sync.count,hvs,hc,hz,semEvents,Op.intArith,events_load,events_store p w _ a (.int .u32 (IntKind.u32.wrap (n+1))) .atomic rfl,run_store p w a (.int .u32 (IntKind.u32.wrap (n+1))) .atomic rfl,Result.evThen])
theorem Zd0 {f fn:FuncId}{a:Addr}:seen p fn (#[extE f]++semEvents a)=semEvents a:=ZcR (semEvents_sync a)
end
end Go.LL
end
