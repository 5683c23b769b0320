import Derived.Test.YtmfealhfgccmfaaGreatDoorP10
set_option linter.all false
def LG{G:Prop}(h:G:=by simp only[qAk,iO]at oK;rw[oK,hy]at ha;simp[MemAct.touch?]at ha):G:=h
namespace Go.LL
variable{n0 b q k i:Nat}{l:Loc}{RA:Nat->Prop}{fn:FuncId}{pos:String}{es:Array Event}{x y:MemOp}
open Go.Conc
structure TC where
 M:Nat
 W:Nat
 ch:Nat
 base:Nat
 n0:Nat
 old:Loc->Prop
def gZ(b:Nat):Addr:=⟨b,0,none⟩
def TC.Sh(C:TC)(l:Loc):Prop:=∃b,l.j0=some b/\(b=C.M\/b=C.W)
def TC.live(C:TC)(next j:Nat):Prop:=j<next/\(j=0\/C.base<=j)
def HP(n0 b:Nat)(t:Trace)(q:Nat):Prop:=∃r y,n0<=r/\t[r]? = some y/\y.act=.mark (.releaseMerge (gZ b))/\t.heard r/\Before t q r
def HP.app{t:Trace}(u:Trace)(h:HP n0 b t q):HP n0 b (t++u) q:=by obtain⟨r,y,d,a,e,f,g⟩:=h;have c:=lt_size_of_getElem? a;exact⟨r,y,d,by rw[getElem?_append_old c];exact a,e,(heard_old c).2 f,g.app u⟩
structure Tr(C:TC)(next:Nat)(done pl:Nat->Prop)(t:Trace):Prop where
 pos:1<=C.base
 size:C.n0<=t.size
 norel:∀q x,t[q]? = some x->C.n0<=q->x.act≠.mark (.release (gZ C.M))/\x.act≠.mark (.release (gZ C.W))
 n7:∀q x a,t[q]? = some x->x.act.touch? = some a->C.Sh a.loc->(a.kind≠.plain/\(a.kind=.said->x.g=0))\/∀j,C.live next j->Knows t j q
 nN:∀q x a b,t[q]? = some x->x.act.touch? = some a->a.loc.j0=some b->pl b->(∀j,C.live next j->Knows t j q)\/HP C.n0 C.M t q
 uW:∀q x a,t[q]? = some x->x.act.touch? = some a->a.loc.isMemory=true->C.base<=x.g->x.g<next->done x.g->(a.kind=.atomic/\C.Sh a.loc/\¬ t.heard q)\/HP C.n0 C.W t q
 early:∀q x a,t[q]? = some x->q<C.n0->x.act.touch? = some a->a.loc.isMemory=true->Knows t 0 q\/(a.kind=.atomic/\C.old a.loc)
 nP:∀q x,t[q]? = some x->q<C.n0->x.g≠0->t.counts q->∃j y,t[j]? = some y/\y.g=0/\HappensBefore t q j
 uY:∀q x a,t[q]? = some x->C.n0<=q->x.act.touch? = some a->a.loc.isMemory=true->x.g=0\/(C.base<=x.g/\x.g<next)
 uS:∀q x,t[q]? = some x->C.n0<=q->x.act=.mark (.releaseMerge (gZ C.M))->C.base<=x.g/\x.g<next/\(done x.g->HP C.n0 C.W t q)
 chk:∀q x a,t[q]? = some x->x.act.touch? = some a->a.loc.j0=some C.ch->Knows t 0 q
section
variable{C:TC}{next:Nat}{done pl:Nat->Prop}{t u:Trace}
def Znq(C:TC)(next:Nat)(done pl:Nat->Prop)(t:Trace)(q:Nat)(x:MemOp):Prop:=
 (x.act≠.mark (.release (gZ C.M))/\x.act≠.mark (.release (gZ C.W))/\(x.act=.mark (.releaseMerge (gZ C.M))->C.base<=x.g/\x.g<next/\¬ done x.g))/\∀a,x.act.touch? = some a->a.loc.isMemory=true ->
  (x.g=0\/(C.base<=x.g/\x.g<next))/\(C.Sh a.loc->a.kind≠.plain/\(a.kind=.said->x.g=0))/\(∀b,a.loc.j0=some b->¬ pl b)/\(x.g≠0->done x.g->a.kind=.atomic/\C.Sh a.loc/\¬ t.heard q)/\(a.loc.j0=some C.ch->x.g=0)
theorem Zo1(h:C.Sh l):l.isMemory=true:=by obtain⟨b,hb,_⟩:=h;cases l<;>simp[Loc.j0]at hb<;>rfl
theorem Zf2(hb:l.j0=some b):l.isMemory=true:=by cases l<;>simp[Loc.j0]at hb<;>rfl
theorem Tr.app(h:Tr C next done pl t)(H:∀q x,t.size<=q->(t++u)[q]? = some x->Znq C next done pl (t++u) q x):Tr C next done pl (t++u):=by
 have split:∀{q x},(t++u)[q]? = some x->(q<t.size/\t[q]? = some x)\/Znq C next done pl (t++u) q x:=by
  intro q x d;rcases getElem?_append_cases d with c | ⟨c,_⟩
  ·exact .inl c
  exact .inr (H q x c d)
 refine⟨h.pos,qAP h.size (by simp),?_,?_,?_,?_,?_,?_,?_,?_,?_⟩
 ·intro q x d n;rcases split d with⟨_,c⟩ | c
  ·exact h.norel q x c n
  exact⟨c.1.1,c.1.2.1⟩
 ·intro q x a d f z;rcases split d with⟨_,c⟩ | c
  ·exact(h.n7 q x a c f z).imp id λw j v=>(w j v).app u
  exact .inl ((c.2 a f (Zo1 z)).2.1 z)
 ·intro q x a b d f hb A;rcases split d with⟨_,c⟩ | c
  ·exact(h.nN q x a b c f hb A).imp (λw j v=>(w j v).app u) (·.app u)
  exact absurd A ((c.2 a f (Zf2 hb)).2.2.1 b hb)
 ·intro q x a d f r c m o;rcases split d with⟨n,p⟩ | p
  ·exact(h.uW q x a p f r c m o).imp (λ⟨B,D,E⟩=>⟨B,D,λe=>E ((heard_old n).1 e)⟩) (·.app u)
  by_cases s:x.g=0
  ·have:=h.pos;omega
  exact .inl ((p.2 a f r).2.2.2.1 s o)
 ·intro q x a d n f r;rcases split d with⟨_,c⟩ | c
  ·exact(h.early q x a c n f r).imp (·.app u) id
  rcases getElem?_append_cases d with⟨_,m⟩ | ⟨m,_⟩
  ·exact(h.early q x a m n f r).imp (·.app u) id
  have:=h.size;omega
 ·intro q x d n s G;rcases getElem?_append_cases d with⟨c,m⟩ | ⟨m,_⟩
  ·obtain⟨j,y,o,p,F⟩:=h.nP q x m n s ((counts_old c).1 G);exact⟨j,y,by rw[getElem?_append_old (lt_size_of_getElem? o)];exact o,p,hb_app u F⟩
  have:=h.size;omega
 ·intro q x a d n f r;rcases split d with⟨_,c⟩ | c
  ·exact h.uY q x a c n f r
  exact(c.2 a f r).1
 ·intro q x d n f;rcases split d with⟨_,c⟩ | c
  ·obtain⟨m,o,p⟩:=h.uS q x c n f;exact⟨m,o,λhd=>(p hd).app u⟩
  obtain⟨m,o,p⟩:=c.1.2.2 f;exact⟨m,o,λhd=>absurd hd p⟩
 intro q x a d f hb;rcases split d with⟨_,c⟩ | c
 ·exact(h.chk q x a c f hb).app u
 have m:=(c.2 a f (Zf2 hb)).2.2.2.2 hb;have:=knows_own d;rwa [m]at this
def Tr.sub(h:Tr C next done pl t){c:Nat->Prop}(hd:∀j,c j->done j)(p:∀b,RA b->pl b):Tr C next c RA t:=
 ⟨h.pos,h.size,h.norel,h.n7,λq x a b d f g m=>h.nN q x a b d f g (p b m),λq x a d f g m n o=>h.uW q x a d f g m n (hd _ o),h.early,h.nP,h.uY,λq x d f g=>let⟨a,b,e⟩:=h.uS q x d f g;⟨a,b,λh=>e (hd _ h)⟩,h.chk⟩
def FG(C:TC)(i d:Nat)(es:Array Event):Prop:=∀k e,es[k]? = some e ->
 ((MemAct.ofEvent e)≠.mark (.release (gZ C.M))/\(MemAct.ofEvent e)≠.mark (.release (gZ C.W))/\(MemAct.ofEvent e)≠.mark (.releaseMerge (gZ C.M))) /\
 ∀a,(MemAct.ofEvent e).touch? = some a->a.loc.isMemory=true->C.Sh a.loc/\a.kind≠.plain/\(a.kind=.said->i=0)/\(i≠0->a.kind=.atomic/\deafBehind d (es.extract 0 k)≠0)
def ZtN(i:Nat)(fn:FuncId)(pos:String)(es:Array Event):(MemOp.ofEvents i fn pos es).size=es.size:=by rw[ofEvents_eq];simp
def ZtO(i:Nat)(fn:FuncId)(pos:String)(es:Array Event)(k:Nat):(MemOp.ofEvents i fn pos es)[k]? = (es[k]?).map λe=>{ g:=i,fn,pos,act:=.ofEvent e }:=by rw[ofEvents_eq];simp
def Zwh(t:Trace)(i:Nat)(fn:FuncId)(pos:String)(es:Array Event)(d:k<=es.size):(t++MemOp.ofEvents i fn pos es).deaf i (t.size+k)=deafBehind (Deaf t i) (es.extract 0 k):=by
 have e:es=es.extract 0 k++es.extract k es.size:=by simp[d]
 have c:MemOp.ofEvents i fn pos es=MemOp.ofEvents i fn pos (es.extract 0 k)++MemOp.ofEvents i fn pos (es.extract k es.size):=by
  conv=>lhs;rw[e]
  simp only[ofEvents_eq,Array.map_append]
 rw[c,<-qDP];have a:(t++MemOp.ofEvents i fn pos (es.extract 0 k)).size=t.size+k:=by rw[Array.size_append,ZtN];simp;omega
 rw[deaf_old (by rw[a];exact DO _),<-Deaf_own t i fn pos (es.extract 0 k)];unfold Deaf;rw[a]
def ZtZ(f:t.size<=q)(a:(t++MemOp.ofEvents i fn pos es)[q]? = some x) :
  ∃k e,q=t.size+k/\es[k]? = some e/\x={ g:=i,fn,pos,act:=.ofEvent e }:=by
 rw[Array.getElem?_append_right f,ZtO]at a;obtain⟨e,c,d⟩:=qAD.1 a;exact⟨q-t.size,e,O,c,d.symm⟩
def ZuE{α:Type}{a:Array α}{e:α}(h:a[k]? = some e):k<a.size:=(qAC.1 h).1
def Tr.evs(h:Tr C next done pl t)(s:C.live next i)(o:∀b,pl b->b≠C.M/\b≠C.W)(d:C.ch≠C.M/\C.ch≠C.W)(F:FG C i (Deaf t i) es) :
  Tr C next done pl (t++MemOp.ofEvents i fn pos es):=by
 refine h.app λq x I w=>?_;obtain⟨k,e,rfl,v,rfl⟩:=ZtZ I w;obtain⟨m,A⟩:=F k e v;refine⟨⟨m.1,m.2.1,λe=>absurd e m.2.2⟩,λa E G=>?_⟩;obtain⟨n,B,D,p⟩:=A a E G;refine⟨?_,λ_=>⟨B,D⟩,λb hb H=>?_,λf _=>?_,λhb=>?_⟩
 ·rcases s.2 with j | j
  ·exact .inl j
  exact .inr ⟨j,s.1⟩
 ·obtain⟨z,c,h7⟩:=n;rw[hb]at c;obtain rfl:=aT c;have:=o b H;omega
 ·refine⟨(p f).1,n,?_⟩;rintro⟨g,r,hd⟩;have:g=i:=by
   have:(t++MemOp.ofEvents i fn pos es).g? (t.size+k)=some i:=by unfold Trace.g?;rw[w];rfl
   rw[this]at r;exact(aT r).symm
  subst this;rw[Zwh t g fn pos es (qDh (ZuE v))]at hd;exact(p f).2 hd
 exfalso;obtain⟨z,c,h7⟩:=n;rw[hb]at c;obtain rfl:=aT c;exact h7.elim d.1 d.2
def Tr.lone(h:Tr C next done pl t)(r:C.live next i)(n:i≠0->¬ done i){Hs:Hp}(v:Hs C.M≠none)(w:Hs C.W≠none)(s:Hs C.ch≠none)(o:∀b,pl b->Hs b≠none)(D:∀op∈u,X2 i Hs op):Tr C next done pl (t++u):=by
 refine h.app λq x A E=>?_;obtain⟨m,p⟩:=D x ((getElem?_append_cases E).elim (λh=>absurd h.1 (qCX.2 A)) (·.2));rcases p with⟨loc,G,d,hb⟩ | ⟨f,d⟩ | d
 ·refine⟨by rw[d];simp,λa c F=>?_⟩;rw[d]at c;simp only[MemAct.touch?,IF]at c;subst c;refine⟨?_,λ⟨b,e,B⟩=>?_,λb e z=>o b z (hb b e),λg hd=>absurd (by rw[<-m];exact hd) (n (by rw[<-m];exact g)),λj=>absurd (hb _ j) s⟩
  ·rw[m];rcases r.2 with g | g
   ·exact .inl g
   exact .inr ⟨g,r.1⟩
  exfalso;have:=hb b e;rcases B with rfl | rfl
  ·exact v this
  exact w this
 ·exact⟨by rw[d];simp,λa c=>by rw[d]at c;simp[MemAct.touch?]at c⟩
 exact⟨by rw[d];simp,λa c=>by rw[d]at c;simp[MemAct.touch?]at c⟩
def Tr.kF(h:Tr C next done pl t)(j:∀op∈u,op.act.touch? = none/\op.act≠.mark (.release (gZ C.M))/\op.act≠.mark (.release (gZ C.W))/\(op.act=.mark (.releaseMerge (gZ C.M))->C.base<=op.g/\op.g<next/\¬ done op.g)):Tr C next done pl (t++u):=by refine h.app λq x f m=>?_;obtain⟨d,e⟩:=j x ((getElem?_append_cases m).elim (λh=>absurd h.1 (qCX.2 f)) (·.2));exact⟨e,λa c=>by rw[d]at c;simp at c⟩
def XS(t:Trace)(y:MemOp):(t++#[y])[t.size]? = some y:=by simp
def ZlK{t:Trace}(a:Deaf t y.g=0):(t++#[y]).heard t.size:=
 ⟨y.g,by unfold Trace.g?;rw[XS];rfl,by rw[deaf_old (DO _)];exact a⟩
def ZeP{t:Trace}(d:n0<=t.size)(e:y.act=.mark (.releaseMerge (gZ b)))(a:Deaf t y.g=0)(c:Knows t y.g q):HP n0 b (t++#[y]) q:=
 ⟨t.size,y,d,XS t y,e,ZlK a,.inr (c.hb_new (DO _) (XS t y) rfl)⟩
def Tr.release(f:C.M≠C.W)(h:Tr C next done pl t)(hy:y.act=.mark (.releaseMerge (gZ C.W)))(hd:Deaf t y.g=0):Tr C next (λj=>done j\/j=y.g) pl (t++#[y]):=by
 have c:Tr C next done pl (t++#[y]):=h.kF λop m=>by simp only[qAk,iO]at m;rw[m,hy];exact⟨rfl,by simp,by simp,λe=>absurd e (by simp[gZ];exact λe=>f e.symm)⟩
 refine⟨c.pos,c.size,c.norel,c.n7,c.nN,?_,c.early,c.nP,c.uY,λq x n A ha=>?_,c.chk⟩;rotate_left
 ·obtain⟨p,r,s⟩:=c.uS q x n A ha;refine⟨p,r,λo=>o.elim s λd=>?_⟩;rcases getElem?_append_cases n with⟨_,oK⟩ | ⟨_,oK⟩
  ·exact ZeP h.size hy hd (d ▸ knows_own oK)
  simp only[qAk,iO]at oK;rw[oK,hy]at ha;simp[gZ]at ha;exact absurd ha.symm f
 intro q x a n ha z v w d;rcases d with d | d
 ·exact c.uW q x a n ha z v w d
 rcases getElem?_append_cases n with⟨_,oK⟩ | ⟨_,oK⟩
 ·exact .inr (ZeP h.size hy hd (d ▸ knows_own oK))
 exact LG
def Tr.Xd(h:Tr C next done pl t)(hy:y.act=.mark (.releaseMerge (gZ C.M)))(hd:Deaf t y.g=0)(j:C.base<=y.g/\y.g<next/\¬ done y.g)
  (n:∀b,RA b->pl b\/∀q x a,t[q]? = some x->x.act.touch? = some a->a.loc.j0=some b->Knows t y.g q):Tr C next done RA (t++#[y]):=by
 have c:Tr C next done pl (t++#[y]):=h.kF λop d=>by simp only[qAk,iO]at d;rw[d,hy];exact⟨rfl,by simp,by simp,λ_=>j⟩
 refine⟨c.pos,c.size,c.norel,c.n7,?_,c.uW,c.early,c.nP,c.uY,c.uS,c.chk⟩;intro q x a b m ha hb f;rcases n b f with e | e
 ·exact c.nN q x a b m ha hb e
 rcases getElem?_append_cases m with⟨_,oK⟩ | ⟨_,oK⟩
 ·exact .inr (ZeP h.size hy hd (e q x a oK ha hb))
 exact LG
def ZeQ{t:Trace}(c:∀q x,(t++#[y])[q]? = some x->n0<=q->x.act≠.mark (.release (gZ b)))(B:y.act=.mark (.acquire (gZ b)))(s:Deaf t y.g=0)(h:HP n0 b t q):Knows (t++#[y]) y.g q:=by
 obtain⟨r,z,D,m,n,o,p⟩:=h;have d:=lt_size_of_getElem? m;have f:(t++#[y])[r]? = some z:=by rw[getElem?_append_old d];exact m
 have a:HappensBefore (t++#[y]) r t.size:=.single (.inr ⟨.marked d (.inr (by rw[act?_of f,n])) (by rw[act?_of (XS t y),B])
  (λk v w e=>by obtain⟨x,A,j⟩:=qAD.1 e;exact c k x A O j),(heard_old d).2 o,ZlK s⟩)
 exact⟨t.size,y,XS t y,rfl,.inr ((p.app #[y]).hb a)⟩
def Tr.take(h:Tr C next done pl t)(hy:y.act=.mark (.acquire (gZ C.M)))(hd:Deaf t y.g=0)(m:C.live next y.g) :
  Tr C next done (λ_=>False) (t++#[y])/\∀b,pl b->∀q x a,(t++#[y])[q]? = some x->x.act.touch? = some a->a.loc.j0=some b->Knows (t++#[y]) y.g q:=by
 have f:Tr C next done pl (t++#[y]):=h.kF λop c=>by simp only[qAk,iO]at c;rw[c,hy];exact⟨rfl,by simp,by simp,by simp⟩
 refine⟨f.sub (λ_ h=>h) (λ_ h=>h.elim),λb n q x a e ha hb=>?_⟩;rcases getElem?_append_cases e with⟨j,oK⟩ | ⟨_,oK⟩
 ·rcases h.nN q x a b oK ha hb n with d | d
  ·exact(d _ m).app _
  exact ZeQ (λq x e j=>(f.norel q x e j).1) hy hd d
 exact LG
theorem Tr.all(h:Tr C next done pl t)(M:y.act=.mark (.acquire (gZ C.W)))(hd:Deaf t y.g=0)(Q:y.g=0)(s:∀j,C.base<=j->j<next->done j) :
  (∀q x a,(t++#[y])[q]? = some x->x.act.touch? = some a->a.loc.isMemory=true->Knows (t++#[y]) 0 q\/(a.kind=.atomic/\(C.old a.loc\/C.Sh a.loc)))/\(t++#[y]).HandedOver /\
  ∀q x a b,t[q]? = some x->x.act.touch? = some a->a.loc.j0=some b->pl b->0<next->Knows (t++#[y]) 0 q:=by
 have T:Tr C next done pl (t++#[y]):=h.kF λop K=>by simp only[qAk,iO]at K;rw[K,M];exact⟨rfl,by simp,by simp,by simp⟩
 have S:∀a,y.act.touch? = some a->False:=λa d=>by rw[M]at d;simp[MemAct.touch?]at d
 have key:∀q x a,t[q]? = some x->x.act.touch? = some a->a.loc.isMemory=true->C.n0<=q->Knows (t++#[y]) 0 q\/(a.kind=.atomic/\C.Sh a.loc/\¬ t.heard q):=by
  intro q x a f d w P;rcases h.uY q x a f P d w with m | ⟨m,E⟩
  ·have J:=knows_own f;rw[m]at J;exact .inl (J.app _)
  rcases h.uW q x a f d w m E (s _ m E)with n | n
  ·exact .inr n
  exact .inl (Q ▸ ZeQ (λq x f D=>(T.norel q x f D).2) M hd n)
 refine⟨λq x a f d w=>?_,?_,λq x a b f d hb hp O=>?_⟩;rotate_left 2
 ·rcases h.nN q x a b f d hb hp with m | ⟨r,z,F,G,U,e4,V⟩
  ·exact(m 0 ⟨O,.inl rfl⟩).app _
  obtain⟨X,Y,Z⟩:=h.uS r z G F U;have J:=ZeQ (λq x f D=>(T.norel q x f D).2) M hd (Z (s _ X Y));rw[Q]at J;exact J.of_before (V.app _)
 ·rcases getElem?_append_cases f with⟨_,c⟩ | ⟨_,c⟩
  ·rcases qBh q C.n0 with B | A
   ·exact(h.early q x a c B d w).imp (·.app _) λ⟨F,G⟩=>⟨F,.inl G⟩
   exact(key q x a c d w A).imp id λ⟨F,G,_⟩=>⟨F,.inr G⟩
  simp only[qAk,iO]at c;rw[c]at d;exact(S a d).elim
 intro q g hg I hc;obtain⟨x,f,L⟩:=qAD.1 hg;obtain⟨a,d,w,H⟩:=hc;have o:x.act.touch? = some a:=by rw[act?_of f]at d;exact d
 rcases getElem?_append_cases f with⟨v,c⟩ | ⟨_,c⟩
 ·rcases qBh q C.n0 with B | A
  ·obtain⟨j,z,m,E,n⟩:=h.nP q x c B (by rw[L];exact I) ⟨a,by rw[act?_of c];exact o,w,H.imp id λe=>(heard_old v).1 e⟩;exact⟨j,by unfold Trace.g?;rw[getElem?_append_old (lt_size_of_getElem? m),m];simp[E],hb_app _ n⟩
  rcases key q x a c o w A with m | ⟨m,_,E⟩
  ·obtain⟨p,z,n,R,N⟩:=m;rcases N with rfl | N
   ·rw[f]at n;obtain rfl:=aT n;exact absurd (L.symm.trans R) I
   exact⟨p,by unfold Trace.g?;rw[n];simp[R],N⟩
  exfalso;rcases H with n | n
  ·exact n m
  exact E ((heard_old v).1 n)
 simp only[qAk,iO]at c;rw[c]at o;exact(S a o).elim
theorem Tr.LX(h:Tr C next done pl t)(hb:C.base<=next)(B:x.g=0/\x.act=.go next)(D:y.g=next/\y.act=.start)(G:Deaf t 0=0)(I:Deaf t next=0)(J:0<next):Tr C (next+1) (λj=>done j/\j<next) pl (t++#[x,y]):=by
 have n:Tr C next done pl (t++#[x,y]):=h.kF λop s=>by
  simp only[qAk,qAi,qBD,qCV]at s;rcases s with rfl | rfl
  ·rw[B.2];exact⟨rfl,by simp,by simp,by simp⟩
  rw[D.2];exact⟨rfl,by simp,by simp,by simp⟩
 have v:∀q,(∀j,C.live next j->Knows t j q)->∀j,C.live (next+1) j->Knows (t++#[x,y]) j q:=by
  intro q r j F;rcases qBh j next with p | p
  ·exact(r j ⟨p,F.2⟩).app _
  obtain rfl:j=next:=by have:=F.1;omega
  exact Go.ConcN.fork_knows B D G I (r 0 ⟨J,.inl rfl⟩)
 have m:∀{q:Nat} {z:MemOp} {a:Touch},(t++#[x,y])[q]? = some z->z.act.touch? = some a->t[q]? = some z:=by
  intro q z a d c;rcases getElem?_append_cases d with⟨_,f⟩ | ⟨_,f⟩
  ·exact f
  simp only[qAk,qAi,qBD,qCV]at f;rcases f with rfl | rfl
  ·rw[B.2]at c;simp[MemAct.touch?]at c
  rw[D.2]at c;simp[MemAct.touch?]at c
 refine⟨h.pos,n.size,n.norel,λq z a d c L=>(h.n7 q z a (m d c) c L).imp id (v q),λq z a b d c w K=>(h.nN q z a b (m d c) c w K).imp (v q) (·.app _),?_,n.early,n.nP,λq z a d o c A=>(n.uY q z a d o c A).imp id λ⟨p,H⟩=>⟨p,O⟩,λq z d o c=>let⟨a,b,e⟩:=n.uS q z d o c;⟨a,O,λh=>e h.1⟩,n.chk⟩;intro q z a d c A p H E;exact n.uW q z a d c A p E.2 E.1
def Tr.known(h:Tr C next done pl t)(r:C.live next i){said:Bool}{b:Touch}(w:C.Sh b.loc)(s:b.kind≠.plain)(j:b.kind=.said->i=0){a:Touch}(o:touchAt t q=some a)(p:a.conflicts said b):Knows t i q:=by
 obtain⟨x,g,f⟩:=touch_of o;obtain⟨v,_,_,e⟩:=p;rcases h.n7 q x a g f (by rw[v];exact w)with⟨d,m⟩ | d
 ·rcases e with c | c | ⟨_,c,n⟩
  ·exact absurd c d
  ·exact absurd c s
  have:=knows_own g;rw[m c]at this;rw[j n];exact this
 exact d i r
end
