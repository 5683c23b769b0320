import Derived.Test.YthmnpenamnoniaaGreatDoorP14
set_option linter.all false
section
namespace Go.LL
open Go.Conc
structure TC where
 M:Nat
 W:Nat
 base:Nat
 n0:Nat
 old:Loc->Prop
def mkA (b:Nat):Addr:=⟨b,0,none⟩
def TC.Sh (C:TC)(l:Loc):Prop:=∃ b,l.blk=some b∧(b=C.M∨b=C.W)
def TC.live (C:TC)(next j:Nat):Prop:=j<next∧(j=0∨C.base<=j)
def ZjF (n0 b:Nat)(t:Trace)(q:Nat):Prop:=∃ r y,n0<=r∧t[r]? = some y∧y.act=.mark (.releaseMerge (mkA b))∧t.heard r∧Before t q r
theorem ZjF.app {n0 b q:Nat}{t:Trace}(u:Trace)(h:ZjF n0 b t q):ZjF n0 b (t++u) q:=by
 obtain⟨r,y,h1,h2,h3,h4,h5⟩:=h
 have hr:=lt_size_of_getElem? h2
 exact⟨r,y,h1,by rw[getElem?_append_old hr];exact h2,h3,(heard_old hr).2 h4,h5.app u⟩
structure Tr (C:TC)(next:Nat)(done pl:Nat->Prop)(t:Trace):Prop where
 pos:1<=C.base
 size:C.n0<=t.size
 norel:∀ q x,t[q]? = some x->C.n0<=q->x.act≠.mark (.release (mkA C.M))∧x.act≠.mark (.release (mkA C.W))
 quiet:∀ q x a,t[q]? = some x->x.act.touch? = some a->C.Sh a.loc->(a.kind≠.plain∧(a.kind=.said->x.g=0))∨∀ j,C.live next j->Knows t j q
 pool:∀ q x a b,t[q]? = some x->x.act.touch? = some a->a.loc.blk=some b->pl b->(∀ j,C.live next j->Knows t j q)∨ZjF C.n0 C.M t q
 mine:∀ q x a,t[q]? = some x->x.act.touch? = some a->a.loc.isMemory=true->C.base<=x.g->x.g<next->done x.g->(a.kind=.atomic∧C.Sh a.loc∧¬ t.heard q)∨ZjF C.n0 C.W t q
 early:∀ q x a,t[q]? = some x->q<C.n0->x.act.touch? = some a->a.loc.isMemory=true->Knows t 0 q∨(a.kind=.atomic∧C.old a.loc)
 earlyH:∀ q x,t[q]? = some x->q<C.n0->x.g≠0->t.counts q->∃ j y,t[j]? = some y∧y.g=0∧HappensBefore t q j
 late:∀ q x a,t[q]? = some x->C.n0<=q->x.act.touch? = some a->a.loc.isMemory=true->x.g=0∨(C.base<=x.g∧x.g<next)
 rels:∀ q x,t[q]? = some x->C.n0<=q->x.act=.mark (.releaseMerge (mkA C.M))->C.base<=x.g∧x.g<next∧(done x.g->ZjF C.n0 C.W t q)
section
variable  {C:TC}{next:Nat}{done pl:Nat->Prop}{t u:Trace}
def OkOp (C:TC)(next:Nat)(done pl:Nat->Prop)(t:Trace)(q:Nat)(x:MemOp):Prop:=
 (x.act≠.mark (.release (mkA C.M))∧x.act≠.mark (.release (mkA C.W))∧(x.act=.mark (.releaseMerge (mkA C.M))->C.base<=x.g∧x.g<next∧¬ done x.g))∧∀ a,x.act.touch? = some a->a.loc.isMemory=true ->
  (x.g=0∨(C.base<=x.g∧x.g<next))∧(C.Sh a.loc->a.kind≠.plain∧(a.kind=.said->x.g=0))∧(∀ b,a.loc.blk=some b->¬ pl b)∧(x.g≠0->done x.g->a.kind=.atomic∧C.Sh a.loc∧¬ t.heard q)
theorem sh_mem {l:Loc}(h:C.Sh l):l.isMemory=true:=by
 obtain⟨b,hb,_⟩:=h
 cases l<;>simp[Loc.blk]at hb<;>rfl
theorem ZmS {l:Loc}{b:Nat}(hb:l.blk=some b):l.isMemory=true:=by
 cases l<;>simp[Loc.blk]at hb<;>rfl
theorem Tr.app (h:Tr C next done pl t)(hu:∀ q x,t.size<=q->(t++u)[q]? = some x->OkOp C next done pl (t++u) q x):Tr C next done pl (t++u):=by
 have split:∀ {q x},(t++u)[q]? = some x->(q<t.size∧t[q]? = some x)∨OkOp C next done pl (t++u) q x:=by
  intro q x hx
  rcases getElem?_append_cases hx with h1 | ⟨h1,_⟩
  ·exact .inl h1
  ·exact .inr (hu q x h1 hx)
 refine⟨h.pos,Nat.le_trans h.size (by simp),?_,?_,?_,?_,?_,?_,?_,?_⟩
 ·intro q x hx hq
  rcases split hx with ⟨_,h1⟩ | h1
  ·exact h.norel q x h1 hq
  ·exact⟨h1.1.1,h1.1.2.1⟩
 ·intro q x a hx ha hs
  rcases split hx with ⟨_,h1⟩ | h1
  ·exact(h.quiet q x a h1 ha hs).imp id fun hk j hj=>(hk j hj).app u
  ·exact .inl ((h1.2 a ha (sh_mem hs)).2.1 hs)
 ·intro q x a b hx ha hb hp
  rcases split hx with ⟨_,h1⟩ | h1
  ·exact(h.pool q x a b h1 ha hb hp).imp (fun hk j hj=>(hk j hj).app u) (·.app u)
  ·exact absurd hp ((h1.2 a ha (ZmS hb)).2.2.1 b hb)
 ·intro q x a hx ha hm h1 h2 h3
  rcases split hx with ⟨hq,h4⟩ | h4
  ·exact(h.mine q x a h4 ha hm h1 h2 h3).imp (fun ⟨e1,e2,e3⟩=>⟨e1,e2,fun e=>e3 ((heard_old hq).1 e)⟩) (·.app u)
  ·by_cases hg:x.g=0
   ·have:=h.pos;omega
   ·exact .inl ((h4.2 a ha hm).2.2.2 hg h3)
 ·intro q x a hx hq ha hm
  rcases split hx with ⟨_,h1⟩ | h1
  ·exact(h.early q x a h1 hq ha hm).imp (·.app u) id
  ·rcases getElem?_append_cases hx with ⟨_,h2⟩ | ⟨h2,_⟩
   ·exact(h.early q x a h2 hq ha hm).imp (·.app u) id
   ·have:=h.size;omega
 ·intro q x hx hq hg hc
  rcases getElem?_append_cases hx with ⟨h1,h2⟩ | ⟨h2,_⟩
  ·obtain⟨j,y,h3,h4,h5⟩:=h.earlyH q x h2 hq hg ((counts_old h1).1 hc)
   exact⟨j,y,by rw[getElem?_append_old (lt_size_of_getElem? h3)];exact h3,h4,hb_app u h5⟩
  ·have:=h.size;omega
 ·intro q x a hx hq ha hm
  rcases split hx with ⟨_,h1⟩ | h1
  ·exact h.late q x a h1 hq ha hm
  ·exact(h1.2 a ha hm).1
 ·intro q x hx hq ha
  rcases split hx with ⟨_,h1⟩ | h1
  ·obtain⟨h2,h3,h4⟩:=h.rels q x h1 hq ha
   exact⟨h2,h3,fun hd=>(h4 hd).app u⟩
  ·obtain⟨h2,h3,h4⟩:=h1.1.2.2 ha
   exact⟨h2,h3,fun hd=>absurd hd h4⟩
theorem Tr.sub (h:Tr C next done pl t){done' pl':Nat->Prop}(hd:∀ j,done' j->done j)(hp:∀ b,pl' b->pl b):Tr C next done' pl' t:=
 ⟨h.pos,h.size,h.norel,h.quiet,fun q x a b h1 h2 h3 h4=>h.pool q x a b h1 h2 h3 (hp b h4),fun q x a h1 h2 h3 h4 h5 h6=>h.mine q x a h1 h2 h3 h4 h5 (hd _ h6),h.early,h.earlyH,h.late,fun q x h1 h2 h3=>let ⟨a,b,e⟩:=h.rels q x h1 h2 h3;⟨a,b,fun h=>e (hd _ h)⟩⟩
def EvS (C:TC)(i d:Nat)(es:Array Event):Prop:=∀ k e,es[k]? = some e ->
 ((MemAct.ofEvent e)≠.mark (.release (mkA C.M))∧(MemAct.ofEvent e)≠.mark (.release (mkA C.W))∧(MemAct.ofEvent e)≠.mark (.releaseMerge (mkA C.M))) ∧
 ∀ a,(MemAct.ofEvent e).touch? = some a->a.loc.isMemory=true->C.Sh a.loc∧a.kind≠.plain∧(a.kind=.said->i=0)∧(i≠0->a.kind=.atomic∧deafBehind d (es.extract 0 k)≠0)
theorem ZhM (i:Nat)(fn:FuncId)(pos:String)(es:Array Event):(MemOp.ofEvents i fn pos es).size=es.size:=by rw[ofEvents_eq];simp
theorem Ziw (i:Nat)(fn:FuncId)(pos:String)(es:Array Event)(k:Nat):(MemOp.ofEvents i fn pos es)[k]? = (es[k]?).map fun e=>{ g:=i,fn,pos,act:=.ofEvent e }:=by
 rw[ofEvents_eq];simp
theorem deaf_at (t:Trace)(i:Nat)(fn:FuncId)(pos:String)(es:Array Event){k:Nat}(hk:k<=es.size):(t++MemOp.ofEvents i fn pos es).deaf i (t.size+k)=deafBehind (Deaf t i) (es.extract 0 k):=by
 have e:es=es.extract 0 k++es.extract k es.size:=by simp[hk]
 have e2:MemOp.ofEvents i fn pos es=MemOp.ofEvents i fn pos (es.extract 0 k)++MemOp.ofEvents i fn pos (es.extract k es.size):=by
  conv=>lhs;rw[e]
  simp only[ofEvents_eq,Array.map_append]
 rw[e2,<-Array.append_assoc]
 have hs:(t++MemOp.ofEvents i fn pos (es.extract 0 k)).size=t.size+k:=by
  rw[Array.size_append,ZhM];simp;omega
 rw[deaf_old (by rw[hs];exact Nat.le_refl _),<-Deaf_own t i fn pos (es.extract 0 k)]
 unfold Deaf
 rw[hs]
theorem new_at {i:Nat}{fn:FuncId}{pos:String}{es:Array Event}{q:Nat}{x:MemOp}(hq:t.size<=q)(hx:(t++MemOp.ofEvents i fn pos es)[q]? = some x) :
  ∃ k e,q=t.size+k∧es[k]? = some e∧x={ g:=i,fn,pos,act:=.ofEvent e }:=by
 rw[Array.getElem?_append_right hq,Ziw]at hx
 obtain⟨e,h1,h2⟩:=Option.map_eq_some_iff.1 hx
 exact⟨q-t.size,e,by omega,h1,h2.symm⟩
theorem Zmn {α:Type}{xs:Array α}{k:Nat}{e:α}(h:xs[k]? = some e):k<xs.size:=(Array.getElem?_eq_some_iff.1 h).1
theorem Tr.evs (h:Tr C next done pl t){i:Nat}(hi:C.live next i)(hpl:∀ b,pl b->b≠C.M∧b≠C.W){fn:FuncId}{pos:String}{es:Array Event}(he:EvS C i (Deaf t i) es) :
  Tr C next done pl (t++MemOp.ofEvents i fn pos es):=by
 refine h.app fun q x hq hx=>?_
 obtain⟨k,e,rfl,hk,rfl⟩:=new_at hq hx
 obtain⟨h1,h2⟩:=he k e hk
 refine⟨⟨h1.1,h1.2.1,fun e=>absurd e h1.2.2⟩,fun a ha hm=>?_⟩
 obtain⟨h3,h4,h5,h6⟩:=h2 a ha hm
 refine⟨?_,fun _=>⟨h4,h5⟩,fun b hb hp=>?_,fun hi0 _=>?_⟩
 ·rcases hi.2 with h0 | h0
  ·exact .inl h0
  ·exact .inr ⟨h0,hi.1⟩
 ·obtain⟨b',hb',h7⟩:=h3
  rw[hb]at hb'
  obtain rfl:=Option.some.inj hb'
  have:=hpl b hp
  omega
 ·refine⟨(h6 hi0).1,h3,?_⟩
  rintro⟨g,hg,hd⟩
  have:g=i:=by
   have:(t++MemOp.ofEvents i fn pos es).g? (t.size+k)=some i:=by unfold Trace.g?;rw[hx];rfl
   rw[this]at hg
   exact(Option.some.inj hg).symm
  subst this
  rw[deaf_at t g fn pos es (Nat.le_of_lt (Zmn hk))]at hd
  exact(h6 hi0).2 hd
theorem Tr.lone (h:Tr C next done pl t){i:Nat}(hi:C.live next i)(hnd:i≠0->¬ done i){Hs:Hp}(hM:Hs C.M≠none)(hW:Hs C.W≠none)(hpl:∀ b,pl b->Hs b≠none)(hu:∀ op∈u,Zgl i Hs op):Tr C next done pl (t++u):=by
 refine h.app fun q x hq hx=>?_
 obtain⟨hg,hx'⟩:=hu x ((getElem?_append_cases hx).elim (fun h=>absurd h.1 (Nat.not_lt.2 hq)) (·.2))
 rcases hx' with ⟨loc,wr,ha,hb⟩ | ⟨f,ha⟩ | ha
 ·refine⟨by rw[ha];simp,fun a haa hm=>?_⟩
  rw[ha]at haa
  simp only[MemAct.touch?,Option.some.injEq]at haa
  subst haa
  refine⟨?_,fun ⟨b,hbb,hs⟩=>?_,fun b hbb hp=>hpl b hp (hb b hbb),fun h0 hd=>absurd (by rw[<-hg];exact hd) (hnd (by rw[<-hg];exact h0))⟩
  ·rw[hg]
   rcases hi.2 with h0 | h0
   ·exact .inl h0
   ·exact .inr ⟨h0,hi.1⟩
  ·exfalso
   have:=hb b hbb
   rcases hs with rfl | rfl
   ·exact hM this
   ·exact hW this
 ·exact⟨by rw[ha];simp,fun a haa=>by rw[ha]at haa;simp[MemAct.touch?]at haa⟩
 ·exact⟨by rw[ha];simp,fun a haa=>by rw[ha]at haa;simp[MemAct.touch?]at haa⟩
theorem Tr.quietly (h:Tr C next done pl t)(hu:∀ op∈u,op.act.touch? = none∧op.act≠.mark (.release (mkA C.M))∧op.act≠.mark (.release (mkA C.W))∧(op.act=.mark (.releaseMerge (mkA C.M))->C.base<=op.g∧op.g<next∧¬ done op.g)):Tr C next done pl (t++u):=by
 refine h.app fun q x hq hx=>?_
 obtain⟨h1,h2⟩:=hu x ((getElem?_append_cases hx).elim (fun h=>absurd h.1 (Nat.not_lt.2 hq)) (·.2))
 exact⟨h2,fun a ha=>by rw[h1]at ha;simp at ha⟩
theorem Zea (t:Trace)(y:MemOp):(t++#[y])[t.size]? = some y:=by simp
theorem Zg3 {t:Trace}{y:MemOp}(hd:Deaf t y.g=0):(t++#[y]).heard t.size:=
 ⟨y.g,by unfold Trace.g?;rw[Zea];rfl,by rw[deaf_old (Nat.le_refl _)];exact hd⟩
theorem ZfO {n0 b:Nat}{t:Trace}{y:MemOp}(hn:n0<=t.size)(hy:y.act=.mark (.releaseMerge (mkA b)))(hd:Deaf t y.g=0){q:Nat}(hk:Knows t y.g q):ZjF n0 b (t++#[y]) q:=
 ⟨t.size,y,hn,Zea t y,hy,Zg3 hd,.inr (hk.hb_new (Nat.le_refl _) (Zea t y) rfl)⟩
theorem Tr.release (hne:C.M≠C.W)(h:Tr C next done pl t){y:MemOp}(hy:y.act=.mark (.releaseMerge (mkA C.W)))(hd:Deaf t y.g=0):Tr C next (fun j=>done j∨j=y.g) pl (t++#[y]):=by
 have h0:Tr C next done pl (t++#[y]):=h.quietly fun op hop=>by
  simp only[List.mem_toArray,List.mem_singleton]at hop
  rw[hop,hy]
  exact⟨rfl,by simp,by simp,fun e=>absurd e (by simp[mkA];exact fun e=>hne e.symm)⟩
 refine⟨h0.pos,h0.size,h0.norel,h0.quiet,h0.pool,?_,h0.early,h0.earlyH,h0.late,fun q x hx hq ha=>?_⟩
 rotate_left
 ·obtain⟨e1,e2,e3⟩:=h0.rels q x hx hq ha
  refine⟨e1,e2,fun hd'=>hd'.elim e3 fun h3=>?_⟩
  rcases getElem?_append_cases hx with ⟨_,hx'⟩ | ⟨_,hx'⟩
  ·exact ZfO h.size hy hd (h3 ▸ knows_own hx')
  ·simp only[List.mem_toArray,List.mem_singleton]at hx'
   rw[hx',hy]at ha
   simp[mkA]at ha
   exact absurd ha.symm hne
 intro q x a hx ha hm h1 h2 h3
 rcases h3 with h3 | h3
 ·exact h0.mine q x a hx ha hm h1 h2 h3
 ·rcases getElem?_append_cases hx with ⟨_,hx'⟩ | ⟨_,hx'⟩
  ·exact .inr (ZfO h.size hy hd (h3 ▸ knows_own hx'))
  ·simp only[List.mem_toArray,List.mem_singleton]at hx'
   rw[hx',hy]at ha
   simp[MemAct.touch?]at ha
theorem Tr.give (h:Tr C next done pl t){y:MemOp}(hy:y.act=.mark (.releaseMerge (mkA C.M)))(hd:Deaf t y.g=0)(hyl:C.base<=y.g∧y.g<next∧¬ done y.g){pl':Nat->Prop}
  (hp:∀ b,pl' b->pl b∨∀ q x a,t[q]? = some x->x.act.touch? = some a->a.loc.blk=some b->Knows t y.g q):Tr C next done pl' (t++#[y]):=by
 have h0:Tr C next done pl (t++#[y]):=h.quietly fun op hop=>by
  simp only[List.mem_toArray,List.mem_singleton]at hop
  rw[hop,hy]
  exact⟨rfl,by simp,by simp,fun _=>hyl⟩
 refine⟨h0.pos,h0.size,h0.norel,h0.quiet,?_,h0.mine,h0.early,h0.earlyH,h0.late,h0.rels⟩
 intro q x a b hx ha hb hpb
 rcases hp b hpb with h1 | h1
 ·exact h0.pool q x a b hx ha hb h1
 ·rcases getElem?_append_cases hx with ⟨_,hx'⟩ | ⟨_,hx'⟩
  ·exact .inr (ZfO h.size hy hd (h1 q x a hx' ha hb))
  ·simp only[List.mem_toArray,List.mem_singleton]at hx'
   rw[hx',hy]at ha
   simp[MemAct.touch?]at ha
theorem ZcU {n0 b:Nat}{t:Trace}{y:MemOp}(hnr:∀ q x,(t++#[y])[q]? = some x->n0<=q->x.act≠.mark (.release (mkA b)))(hy:y.act=.mark (.acquire (mkA b)))(hd:Deaf t y.g=0){q:Nat}(h:ZjF n0 b t q):Knows (t++#[y]) y.g q:=by
 obtain⟨r,z,h1,h2,h3,h4,h5⟩:=h
 have hr:=lt_size_of_getElem? h2
 have hr':(t++#[y])[r]? = some z:=by rw[getElem?_append_old hr];exact h2
 have edge:HappensBefore (t++#[y]) r t.size:=.single (.inr ⟨.marked hr (.inr (by rw[act?_of hr',h3])) (by rw[act?_of (Zea t y),hy])
  (fun k hk1 hk2 e=>by
   obtain⟨x,hx,hxa⟩:=Option.map_eq_some_iff.1 e
   exact hnr k x hx (by omega) hxa),(heard_old hr).2 h4,Zg3 hd⟩)
 exact⟨t.size,y,Zea t y,rfl,.inr ((h5.app #[y]).hb edge)⟩
theorem Tr.take (h:Tr C next done pl t){y:MemOp}(hy:y.act=.mark (.acquire (mkA C.M)))(hd:Deaf t y.g=0)(hl:C.live next y.g) :
  Tr C next done (fun _=>False) (t++#[y])∧∀ b,pl b->∀ q x a,(t++#[y])[q]? = some x->x.act.touch? = some a->a.loc.blk=some b->Knows (t++#[y]) y.g q:=by
 have h0:Tr C next done pl (t++#[y]):=h.quietly fun op hop=>by
  simp only[List.mem_toArray,List.mem_singleton]at hop
  rw[hop,hy]
  exact⟨rfl,by simp,by simp,by simp⟩
 refine⟨h0.sub (fun _ h=>h) (fun _ h=>h.elim),fun b hp q x a hx ha hb=>?_⟩
 rcases getElem?_append_cases hx with ⟨hq,hx'⟩ | ⟨_,hx'⟩
 ·rcases h.pool q x a b hx' ha hb hp with hk | hk
  ·exact(hk _ hl).app _
  ·exact ZcU (fun q x hx hq=>(h0.norel q x hx hq).1) hy hd hk
 ·simp only[List.mem_toArray,List.mem_singleton]at hx'
  rw[hx',hy]at ha
  simp[MemAct.touch?]at ha
theorem Tr.all (h:Tr C next done pl t){y:MemOp}(hy:y.act=.mark (.acquire (mkA C.W)))(hd:Deaf t y.g=0)(h0:y.g=0)(hall:∀ j,C.base<=j->j<next->done j) :
  (∀ q x a,(t++#[y])[q]? = some x->x.act.touch? = some a->a.loc.isMemory=true->Knows (t++#[y]) 0 q∨(a.kind=.atomic∧(C.old a.loc∨C.Sh a.loc)))∧(t++#[y]).HandedOver ∧
  ∀ q x a b,t[q]? = some x->x.act.touch? = some a->a.loc.blk=some b->pl b->0<next->Knows (t++#[y]) 0 q:=by
 have hq:Tr C next done pl (t++#[y]):=h.quietly fun op hop=>by
  simp only[List.mem_toArray,List.mem_singleton]at hop
  rw[hop,hy]
  exact⟨rfl,by simp,by simp,by simp⟩
 have hn:∀ a,y.act.touch? = some a->False:=fun a ha=>by rw[hy]at ha;simp[MemAct.touch?]at ha
 have key:∀ q x a,t[q]? = some x->x.act.touch? = some a->a.loc.isMemory=true->C.n0<=q->Knows (t++#[y]) 0 q∨(a.kind=.atomic∧C.Sh a.loc∧¬ t.heard q):=by
  intro q x a hx ha hm hqn
  rcases h.late q x a hx hqn ha hm with h1 | ⟨h1,h2⟩
  ·have hk:=knows_own hx
   rw[h1]at hk
   exact .inl (hk.app _)
  ·rcases h.mine q x a hx ha hm h1 h2 (hall _ h1 h2) with h3 | h3
   ·exact .inr h3
   ·exact .inl (h0 ▸ ZcU (fun q x hx hq'=>(hq.norel q x hx hq').2) hy hd h3)
 refine⟨fun q x a hx ha hm=>?_,?_,fun q x a b hx ha hb hp hn0=>?_⟩
 rotate_left 2
 ·rcases h.pool q x a b hx ha hb hp with h1 | ⟨r,z,e1,e2,e3,e4,e5⟩
  ·exact(h1 0 ⟨hn0,.inl rfl⟩).app _
  ·obtain⟨g1,g2,g3⟩:=h.rels r z e2 e1 e3
   have hk:=ZcU (fun q x hx hq'=>(hq.norel q x hx hq').2) hy hd (g3 (hall _ g1 g2))
   rw[h0]at hk
   exact hk.of_before (e5.app _)
 ·rcases getElem?_append_cases hx with ⟨_,hx'⟩ | ⟨_,hx'⟩
  ·rcases Nat.lt_or_ge q C.n0 with hlt | hge
   ·exact(h.early q x a hx' hlt ha hm).imp (·.app _) fun ⟨e1,e2⟩=>⟨e1,.inl e2⟩
   ·exact(key q x a hx' ha hm hge).imp id fun ⟨e1,e2,_⟩=>⟨e1,.inr e2⟩
  ·simp only[List.mem_toArray,List.mem_singleton]at hx'
   rw[hx']at ha
   exact(hn a ha).elim
 ·intro q g hg hg0 hc
  obtain⟨x,hx,hxg⟩:=Option.map_eq_some_iff.1 hg
  obtain⟨a,ha,hm,hca⟩:=hc
  have ha':x.act.touch? = some a:=by rw[act?_of hx]at ha;exact ha
  rcases getElem?_append_cases hx with ⟨hlt0,hx'⟩ | ⟨_,hx'⟩
  ·rcases Nat.lt_or_ge q C.n0 with hlt | hge
   ·obtain⟨j,z,h1,h2,h3⟩:=h.earlyH q x hx' hlt (by rw[hxg];exact hg0) ⟨a,by rw[act?_of hx'];exact ha',hm,hca.imp id fun e=>(heard_old hlt0).1 e⟩
    exact⟨j,by unfold Trace.g?;rw[getElem?_append_old (lt_size_of_getElem? h1),h1];simp[h2],hb_app _ h3⟩
   ·rcases key q x a hx' ha' hm hge with h1 | ⟨h1,_,h2⟩
    ·obtain⟨p,z,h3,h4,h5⟩:=h1
     rcases h5 with rfl | h5
     ·rw[hx]at h3
      obtain rfl:=Option.some.inj h3
      exact absurd (hxg.symm.trans h4) hg0
     ·exact⟨p,by unfold Trace.g?;rw[h3];simp[h4],h5⟩
    ·exfalso
     rcases hca with h3 | h3
     ·exact h3 h1
     ·exact h2 ((heard_old hlt0).1 h3)
  ·simp only[List.mem_toArray,List.mem_singleton]at hx'
   rw[hx']at ha'
   exact(hn a ha').elim
theorem Tr.fork (h:Tr C next done pl t)(hb:C.base<=next){x y:MemOp}(hx:x.g=0∧x.act=.go next)(hy:y.g=next∧y.act=.start)(h0:Deaf t 0=0)(hk:Deaf t next=0)(hn:0<next):Tr C (next+1) (fun j=>done j∧j<next) pl (t++#[x,y]):=by
 have hq:Tr C next done pl (t++#[x,y]):=h.quietly fun op hop=>by
  simp only[List.mem_toArray,List.mem_cons,List.not_mem_nil,or_false]at hop
  rcases hop with rfl | rfl
  ·rw[hx.2];exact⟨rfl,by simp,by simp,by simp⟩
  ·rw[hy.2];exact⟨rfl,by simp,by simp,by simp⟩
 have hup:∀ q,(∀ j,C.live next j->Knows t j q)->∀ j,C.live (next+1) j->Knows (t++#[x,y]) j q:=by
  intro q hk' j hj
  rcases Nat.lt_or_ge j next with h1 | h1
  ·exact(hk' j ⟨h1,hj.2⟩).app _
  ·obtain rfl:j=next:=by have:=hj.1;omega
   exact Go.ConcN.fork_knows hx hy h0 hk (hk' 0 ⟨hn,.inl rfl⟩)
 have hold:∀ {q:Nat} {z:MemOp} {a:Touch},(t++#[x,y])[q]? = some z->z.act.touch? = some a->t[q]? = some z:=by
  intro q z a hz ha
  rcases getElem?_append_cases hz with ⟨_,hz'⟩ | ⟨_,hz'⟩
  ·exact hz'
  ·simp only[List.mem_toArray,List.mem_cons,List.not_mem_nil,or_false]at hz'
   rcases hz' with rfl | rfl
   ·rw[hx.2]at ha;simp[MemAct.touch?]at ha
   ·rw[hy.2]at ha;simp[MemAct.touch?]at ha
 refine⟨h.pos,hq.size,hq.norel,fun q z a hz ha hs=>(h.quiet q z a (hold hz ha) ha hs).imp id (hup q),fun q z a b hz ha hbb hp=>(h.pool q z a b (hold hz ha) ha hbb hp).imp (hup q) (·.app _),?_,hq.early,hq.earlyH,fun q z a hz hqn ha hm=>(hq.late q z a hz hqn ha hm).imp id fun ⟨h1,h2⟩=>⟨h1,by omega⟩,fun q z hz hqn ha=>let ⟨a,b,e⟩:=hq.rels q z hz hqn ha;⟨a,by omega,fun h=>e h.1⟩⟩
 intro q z a hz ha hm h1 h2 h3
 exact hq.mine q z a hz ha hm h1 h3.2 h3.1
theorem Tr.known (h:Tr C next done pl t){i:Nat}(hi:C.live next i){said:Bool}{b:Touch}(hs:C.Sh b.loc)(hk:b.kind≠.plain)(h0:b.kind=.said->i=0){q:Nat}{a:Touch}(ha:touchAt t q=some a)(hc:a.conflicts said b):Knows t i q:=by
 obtain⟨x,hx,hxa⟩:=touch_of ha
 obtain⟨hl,_,_,hkd⟩:=hc
 rcases h.quiet q x a hx hxa (by rw[hl];exact hs) with ⟨h1,h2⟩ | h1
 ·rcases hkd with h3 | h3 | ⟨_,h3,h4⟩
  ·exact absurd h3 h1
  ·exact absurd h3 hk
  ·have:=knows_own hx
   rw[h2 h3]at this
   rw[h0 h4]
   exact this
 ·exact h1 i hi
end
end Go.LL
end
section
namespace Go.LL
open Go.Conc
open Go.ConcN (sumTo upd sumTo_upd upd_ne upd_same)
theorem Zdr {f:Nat->Nat}:∀ {n:Nat},(∀ i,i<n->f i=0)->sumTo n f=0
 | 0,_=>rfl
 | n+1,h=>by rw[sumTo,Zdr fun i hi=>h i (by omega),h n (by omega)]
theorem ZfH {f:Nat->Nat}:∀ {n:Nat},sumTo n f≠0->∃ i,i<n∧f i≠0
 | 0,h=>absurd rfl h
 | n+1,h=>by
  by_cases e:f n=0
  ·rw[sumTo,e,Nat.add_zero]at h
   obtain⟨i,h1,h2⟩:=ZfH h
   exact⟨i,by omega,h2⟩
  ·exact⟨n,by omega,e⟩
theorem Zhq {f:Nat->Nat}{b:Nat}:∀ {n:Nat},b<=n->(∀ i,i<n->f i<=1)->(∀ i,i<b->f i=0)->sumTo n f<=n-b
 | 0,_,_,_=>Nat.zero_le _
 | n+1,hb,h1,h2=>by
  rw[sumTo]
  by_cases e:b=n+1
  ·rw[Zdr fun i hi=>h2 i (by omega),h2 n (by omega)];omega
  ·have:=Zhq (f:=f) (b:=b) (n:=n) (by omega) (fun i hi=>h1 i (by omega)) h2
   have:=h1 n (by omega)
   omega
structure Cx extends TC where
 tM:TypeId
 tW:TypeId
 K:Nat
 need:Nat->Bool
 PI:List Nat->Hp->Prop
structure Ts where
 tag:Nat->List Nat
 next:Nat
 more:Nat
 mu:Mu
 wg:Wg
 log:List Nat
def Zjh (c:Cx)(x:Mu):Obj:=.cells #[.int .i32 (x.st:Nat),.int .u32 (x.sm:Nat)] c.tM
def Zhl (c:Cx)(y:Wg):Obj:=.cells #[.int .u64 ((y.v * 4294967296+y.wt:Nat):Int),.int .u32 (y.wm:Nat)] c.tW
def mwH (c:Cx)(s:Ts):Hp:=(Hp.nil.ins c.M (Zjh c s.mu)).ins c.W (Zhl c s.wg)
def df (c:Nat):Nat:=one ((2<=c && c<=10) || (14<=c && c<=18) || (21<=c && c<=24) || c == 31 || c == 32 || (34<=c && c<=38))
def ZdU (n m:Prop)(c:Nat):Prop:=(c=1->¬ m)∧(2<=c->c<=12->n∧¬ m)∧(13<=c->c<=19->m)∧(c=0∨20<=c->n->m)
structure Cnt (c:Cx)(s:Ts):Prop where
 mu:s.mu.Fits s.tag s.next
 wg:s.wg.Fits s.tag s.next s.more
 says:∀ j,j<s.next->s.mu.Says (Mu.mu s.mu s.more s.tag s.next) (s.tag j)
 saysM:∀ v,(s.tag 0=[35,v]->s.wg.v<=v)∧(s.tag 0=[34,v]->s.wg.v<v)
 cntN:∀ k n,k<=33->s.tag 0=[k,n]->s.next=c.base+n
 tk:∀ j,j<s.next->cd (s.tag j)=12->s.tag j=12 :: s.log
 num:s.next+s.more=c.base+c.K
 pos:1<=c.base
 nb:c.base<=s.next
 olds:∀ j,1<=j->j<c.base->s.tag j=[0]
 works:∀ j,c.base<=j->j<s.next->cd (s.tag j)<=24∧(cd (s.tag j)=0->s.tag j=[0])
 lnd:s.log.Nodup
 lmem:∀ j∈s.log,c.base<=j∧j<s.next∧c.need j=true
 lwk:∀ j,c.base<=j->j<s.next->ZdU (c.need j=true) (j∈s.log) (cd (s.tag j))
def Zeo (s:Ts):Prop:=∃ j,j<s.next∧(cd (s.tag j)=12∨cd (s.tag j)=40)
def Zcf (s:Ts)(j:Nat):Prop:=20<=cd (s.tag j)∨cd (s.tag j)=0
def plOf (c:Cx)(Hs:Hp)(b:Nat):Prop:=(∃ x,Hs b=some x)∧b≠c.M∧b≠c.W
structure CInv (c:Cx)(s:Ts)(Hs:Hp)(t:Trace):Prop where
 cnt:Cnt c s
 tr:Tr c.toTC s.next (Zcf s) (plOf c Hs) t
 deaf:∀ j,c.live s.next j->cd (s.tag j)≠0->Deaf t j=df (cd (s.tag j))
 fin:cd (s.tag 0)=40->(∀ q x a,t[q]? = some x->x.act.touch? = some a->a.loc.isMemory=true->Knows t 0 q∨(a.kind=.atomic∧(c.old a.loc∨c.Sh a.loc)))∧t.HandedOver
 heap:(Zeo s∧Hs=mwH c s)∨(¬ Zeo s∧∃ Hl:Hp,Hs=(mwH c s).join Hl∧(mwH c s).Comp Hl∧c.PI s.log Hl)
structure Cx.Ok (c:Cx):Prop where
 ne:c.M≠c.W
 own:∀ l H,c.PI l H->∀ b x,H b=some x->x.2=true
 small:c.K<=100000000
 bare:∀ l H g,c.PI l H->c.PI l (H.tagged g)
def cBlk (s:Ts)(j:Nat):Prop:=(cd (s.tag j)=7∧s.mu.sm=0)∨(cd (s.tag j)=36∧s.wg.wm=0)
def cAct (g:List Nat):Prop:=(1<=cd g∧cd g<=19)∨30<=cd g
def cHsh (g:List Nat):Prop:=20<=cd g∧cd g<=24
def team (p:Program)(c:Cx):Team p where
 S:=Ts
 tag:=Ts.tag
 next:=Ts.next
 more:=Ts.more
 Inv:=CInv c
 Blk:=cBlk
 act:=cAct
 hsh:=cHsh
 left:=[0]
 stl:=fun g=>cd g == 0 || (decide (20<=cd g) && decide (cd g<=24))
 stlNil:=rfl
theorem Zjg {c:Cx}(h:c.M≠c.W)(s:Ts):mwH c s c.M=some (Zjh c s.mu,true):=by
 unfold mwH
 rw[Hp.ins_other _ _ h,Hp.ins_same]
theorem Ziz (c:Cx)(s:Ts):mwH c s c.W=some (Zhl c s.wg,true):=Hp.ins_same _ _ _
theorem Zbo {c:Cx}{s:Ts}{b:Nat}(h1:b≠c.M)(h2:b≠c.W):mwH c s b=none:=by
 unfold mwH
 rw[Hp.ins_other _ _ h2,Hp.ins_other _ _ h1];rfl
section
variable  {c:Cx}{s:Ts}{Hs:Hp}{t:Trace}
theorem CInv.mw (h:CInv c s Hs t){b:Nat}{x:Obj×Bool}(hb:mwH c s b=some x):Hs b=some x:=by
 rcases h.heap with ⟨_,e⟩ | ⟨_,Hl,e,_⟩
 ·rw[e];exact hb
 ·rw[e];exact Hp.join_left hb
theorem CInv.atM (ok:c.Ok)(h:CInv c s Hs t):Hs c.M=some (Zjh c s.mu,true):=h.mw (Zjg ok.ne s)
theorem CInv.atW (h:CInv c s Hs t):Hs c.W=some (Zhl c s.wg,true):=h.mw (Ziz c s)
theorem ZjC {j:Nat}(h:Cnt c s)(hj:j<s.next)(hc:30<=cd (s.tag j)):j=0:=by
 rcases Nat.eq_zero_or_pos j with h0 | h0
 ·exact h0
 ·rcases Nat.lt_or_ge j c.base with h1 | h1
  ·rw[h.olds j h0 h1]at hc;simp[cd]at hc
  ·have:=(h.works j h1 hj).1;omega
theorem Cnt.next0 (h:Cnt c s):0<s.next:=by have:=h.pos;have:=h.nb;omega
theorem Cnt.over (h:Cnt c s)(h0:37<=cd (s.tag 0)){j:Nat}(hb:c.base<=j)(hj:j<s.next):s.tag j=[0]:=by
 obtain⟨g1,g2,g3,g4,g5,g6⟩:=h.wg
 have hv:=g6 h0
 obtain⟨_,_,zL,zE⟩:=g5 (by omega)
 have zW:Ct cW s.tag s.next=0:=by omega
 obtain⟨h1,h2⟩:=h.works j hb hj
 have a1:=Ct.le cW s.tag hj
 have a2:=Ct.le cL s.tag hj
 have a3:=Ct.le cE s.tag hj
 refine h2 (Classical.byContradiction fun hne=>?_)
 have:∀ n:Fin 25,n.val≠0->cW n.val+cL n.val+cE n.val=1:=by decide
 have:=this ⟨cd (s.tag j),by omega⟩ hne
 simp only at this
 omega
theorem ZmG {old:Loc->Prop}{t u:Trace}(hu:∀ op∈u,op.g=0∨op.act.touch? = none)
  (h:(∀ q x a,t[q]? = some x->x.act.touch? = some a->a.loc.isMemory=true->Knows t 0 q∨(a.kind=.atomic∧old a.loc))∧t.HandedOver) :
  (∀ q x a,(t++u)[q]? = some x->x.act.touch? = some a->a.loc.isMemory=true->Knows (t++u) 0 q∨(a.kind=.atomic∧old a.loc))∧(t++u).HandedOver:=by
 refine⟨fun q x a hx ha hm=>?_,handedOver_app h.2 hu⟩
 rcases getElem?_append_cases hx with ⟨_,h1⟩ | ⟨_,h1⟩
 ·exact(h.1 q x a h1 ha hm).imp (·.app u) id
 ·rcases hu x h1 with h2 | h2
  ·have:=knows_own hx
   rw[h2]at this
   exact .inl this
  ·rw[h2]at ha;simp at ha
theorem Cnt.live (h:Cnt c s)(hb:∀ j,j<s.next->s.tag j≠[0]->cBlk s j):False:=by
 have hm:=h.wg.main
 have hm0:cd (s.tag 0)=36∧s.wg.wm=0:=by
  rcases hb 0 h.next0 (fun e=>by rw[e]at hm;simp[cd]at hm) with ⟨h1,_⟩ | h1
  ·omega
  ·exact h1
 have cls:∀ j,j<s.next->cd (s.tag j)=0∨(cd (s.tag j)=7∧s.mu.sm=0)∨cd (s.tag j)=36:=by
  intro j hj
  by_cases e:s.tag j=[0]
  ·left;rw[e];rfl
  ·rcases hb j hj e with h1 | h1
   ·exact .inr (.inl h1)
   ·exact .inr (.inr h1.1)
 have z:∀ f:Nat->Nat,f 0=0->f 7=0->f 36=0->Ct f s.tag s.next=0:=by
  intro f h0 h7 h36
  refine Zdr fun i hi=>?_
  rcases cls i hi with e | ⟨e,_⟩ | e<;>rw[e]<;>assumption
 have zH:=z Zaq rfl rfl rfl
 have zT:=z cT rfl rfl rfl
 have zA:=z cA rfl rfl rfl
 have zU:=z cU rfl rfl rfl
 have zR:=z cR rfl rfl rfl
 have zL:=z cL rfl rfl rfl
 have zE:=z cE rfl rfl rfl
 obtain⟨f1,f2,f3,f4,f5,f6⟩:=h.mu
 by_cases hq:Ct cQ s.tag s.next=0
 ·have zW:Ct cW s.tag s.next=0:=by
   refine Classical.byContradiction fun hne=>?_
   obtain⟨i,hi,hi2⟩:=ZfH hne
   rcases cls i hi with e | ⟨e,_⟩ | e
   ·rw[e]at hi2;exact hi2 rfl
   ·have:=Ct.le cQ s.tag hi
    rw[e,hq]at this
    exact absurd this (by decide)
   ·rw[e]at hi2;exact hi2 rfl
  obtain⟨g1,g2,g3,g4,g5,g6⟩:=h.wg
  rw[hm0.1]at g1
  replace g1:s.wg.v=Ct cW s.tag s.next+0:=g1
  have:=g4 hm0.1
  omega
 ·obtain⟨i,hi,hi2⟩:=ZfH hq
  have hs:s.mu.sm=0:=by
   rcases cls i hi with e | ⟨_,e⟩ | e
   ·rw[e]at hi2;exact absurd rfl hi2
   ·exact e
   ·rw[e]at hi2;exact absurd rfl hi2
  rcases Nat.eq_zero_or_pos s.mu.S with h0 | h0
  ·have:=f5 h0;omega
  ·have:=f6 (by omega);omega
theorem Zlc {i:Nat}{u:Trace}(hu:∀ op∈u,Zgl i Hs op)(j:Nat):Deaf (t++u) j=Deaf t j:=by
 by_cases h:j=i
 ·subst h
  obtain⟨l⟩:=u
  rw[Deaf_append]
  have hl:∀ op∈l,Zgl j Hs op:=fun op h=>hu op (by simpa using h)
  clear hu
  generalize Deaf t j=d
  induction l generalizing d with
  | nil=>rfl
  | cons y l ih=>
   rw[List.foldl_cons]
   have:deafStep j d y=d:=by
    obtain⟨_,h2⟩:=hl y (by simp)
    rcases h2 with ⟨loc,wr,ha,_⟩ | ⟨f,ha⟩ | ha<;>simp[deafStep,ha]
   rw[this]
   exact ih (fun op h=>hl op (by simp[h])) d
 ·exact Deaf_other t (Ne.symm h) u fun op hop=>(hu op hop).1
theorem ZkF {p:Program}(ok:c.Ok):(team p c).Sound where
 own:=by
  intro (s:Ts) Hs t h b x hx
  rcases(show CInv c s Hs t from h).heap with ⟨_,e⟩ | ⟨_,Hl,e,hc,hp⟩
  ·rw[e]at hx
   by_cases h1:b=c.W
   ·subst h1;rw[Ziz]at hx;rw[<-Option.some.inj hx]
   ·by_cases h2:b=c.M
    ·subst h2;rw[Zjg ok.ne]at hx;rw[<-Option.some.inj hx]
    ·rw[Zbo h2 h1]at hx;simp at hx
  ·rw[e]at hx
   by_cases h1:b=c.W
   ·subst h1;rw[Hp.join_left (Ziz c s)]at hx;rw[<-Option.some.inj hx]
   ·by_cases h2:b=c.M
    ·subst h2;rw[Hp.join_left (Zjg ok.ne s)]at hx;rw[<-Option.some.inj hx]
    ·simp only[Hp.join_at,Zbo h2 h1]at hx
     exact ok.own _ _ hp b x hx
 stable:=by
  intro (s:Ts) Hs t i u h hi ha hu
  have h:CInv c s Hs t:=h
  have hlive:c.live s.next i:=by
   refine⟨hi,?_⟩
   rcases Nat.eq_zero_or_pos i with h0 | h0
   ·exact .inl h0
   ·rcases Nat.lt_or_ge i c.base with h1 | h1
    ·have ha:cAct (s.tag i):=ha
     rw[h.cnt.olds i h0 h1]at ha
     simp[cAct,cd]at ha
    ·exact .inr h1
  refine⟨h.cnt,h.tr.lone hlive (fun h0 hd=>?_) (Hs:=Hs) (by rw[h.atM ok];simp) (by rw[h.atW];simp) (fun b hb=>by obtain⟨x,hx⟩:=hb.1;rw[hx];simp) hu,fun j hj hc=>by rw[Zlc hu];exact h.deaf j hj hc,fun h40=>ZmG (old:=fun l=>c.old l∨c.Sh l) (fun op hop=>?_) (h.fin h40),h.heap⟩
  rotate_left
  ·rcases hlive.2 with h1 | h1
   ·exact .inl ((hu op hop).1.trans h1)
   ·exfalso
    have ha:cAct (s.tag i):=ha
    rw[h.cnt.over (by omega) h1 hi]at ha
    simp[cAct,cd]at ha
  have ha:cAct (s.tag i):=ha
  rcases hlive.2 with h1 | h1
  ·exact h0 h1
  ·have:=(h.cnt.works i h1 hi).1
   unfold Zcf at hd
   unfold cAct at ha
   omega
 mute:=by
  intro (s:Ts) Hs t i u h hi ht hu
  have h:CInv c s Hs t:=h
  have ht:s.tag i=[0]:=ht
  refine⟨h.cnt,h.tr.quietly fun op hop=>?_,fun j hj hc=>?_,fun h40=>ZmG (old:=fun l=>c.old l∨c.Sh l) (fun op hop=>?_) (h.fin h40),h.heap⟩
  rotate_right
  ·obtain⟨_,h2⟩:=hu op hop
   rcases h2 with h2 | h2<;>rw[h2]<;>exact .inr rfl
  ·obtain⟨_,h2⟩:=hu op hop
   rcases h2 with h2 | h2<;>rw[h2]<;>exact⟨rfl,by simp,by simp⟩
  ·have:i≠j:=by rintro rfl;rw[ht]at hc;exact hc rfl
   rw[Deaf_other t this u fun op hop=>(hu op hop).1]
   exact h.deaf j hj hc
 live:=by
  intro (s:Ts) Hs t h hb
  exact(show CInv c s Hs t from h).cnt.live hb
 actLeft:=by simp[team,cAct,cd]
 hshLeft:=by simp[team,cHsh,cd]
 actLv:=by intro d;simp[team,cAct,cd,lv]
 actHsh:=by intro g h1 h2;simp only[team,cAct,cHsh]at h1 h2;omega
 hshLv:=by intro d;simp[team,cHsh,cd,lv]
 stlLv:=by intro d;simp[team,cd,lv]
 stlHsh:=by intro g h;simp only[team,cHsh]at h ⊢;simp[h.1,h.2]
end
end Go.LL
end
