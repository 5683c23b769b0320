import Derived.Test.YtlhomfgcibjccaaGreatDoorP08
import Derived.Conc.TokenTrace
set_option linter.all false
namespace Go.LL
section
variable{u:Trace}{n b:Nat}
open Go.Conc (Knows Deaf touchAt QuitsD crowd woken rcase scase recvd parked)
open Go.ConcN (sumTo upd sumTo_upd upd_ne upd_same)
section
variable{p:Program}{T:Vy p}{G:Frame->List Frame->Hp->Prop}{N:Nat}{H0:Hp}{w0:World}{gs:Array Goroutine}{w:World}{t:Trace}{s:T.S}{Hs:Hp}{Hf:Nat->Hp}{md:Nat->Nat}{rk:Nat->Rk}
def VG(c n b:Nat)(a f:FuncId)(h l:String):Trace:=
 #[{ g:=0,fn:=a,pos:=h,act:=.send c n },{ g:=b,fn:=f,pos:=l,act:=.recv c n 0 },{ g:=0,fn:=a,pos:=h,act:=.sendDone c n },{ g:=b,fn:=f,pos:=l,act:=.recvDone c n }]
def Jf{g:Nat}:∀(l:List MemOp) (t:Trace),(∀op∈l,op.g≠g)->Deaf (t++l.toArray) g=Deaf t g
 | [],t,_=>by simp
 | x :: l,t,h=>by
  have e:t++(x :: l).toArray=(t++#[x])++l.toArray:=by simp
  rw[e,Jf l _ λop a=>h op (qAP _ a)];exact Go.Conc.Deaf_other t (g':=x.g) (h x qBv) _ (by simp)
def eU.l7{t:Trace}{i:Nat}{H:Hp}(h:eU t i H)(f:∀op∈u,op.act.touch? = none):eU (t++u) i H:=h.own λop a=>.inr (f op a)
def ZtE{t:Trace}{c q:Nat}{a f:FuncId}{l m:String}(y:Deaf t 0=0)(hb:Deaf t b=0)(A:b≠0)(h:Knows t 0 q):Knows (t++VG c n b a f l m) b q:=by
 have o:(t++VG c n b a f l m)[t.size]? = some { g:=0,fn:=a,pos:=l,act:=.send c n }:=by simp[VG]
 have r:(t++VG c n b a f l m)[t.size+3]? = some { g:=b,fn:=f,pos:=m,act:=.recvDone c n }:=by simp[VG]
 have k1:=h.hb_new (u:=VG c n b a f l m) (dO _) o rfl;refine⟨_,_,r,rfl,.inr (k1.trans (.single (.inr ⟨.handOver (c:=c) (k:=n) (by simp[Trace.act?,o]) (by simp[Trace.act?,r]),?_,?_⟩)))⟩
 ·refine⟨0,by simp[Trace.g?,o],?_⟩;rw[Go.Conc.deaf_old (dO _)];exact y
 refine⟨b,by simp[Trace.g?,r],?_⟩;have v:(t++VG c n b a f l m)[t.size+1]? = some { g:=b,fn:=f,pos:=m,act:=.recv c n 0 }:=by simp[VG]
 have x:(t++VG c n b a f l m)[t.size+2]? = some { g:=0,fn:=a,pos:=l,act:=.sendDone c n }:=by simp[VG]
 rw[Go.Conc.deaf_succ x,Go.Conc.deaf_succ v,Go.Conc.deaf_succ o,Go.Conc.deaf_old (dO _)];exact hb
theorem eD.meet(hT:T.Sound)(C:eD T G N H0 w0 gs w t s Hs Hf md rk)(hb:b<gs.size)(BR:b≠0){B:Array Goroutine}{w':World}{Y:T.S}{TM TL:Frame}{Z TO:List Frame}{L U:Hp}{V gb:List Nat}{k0 kb:Rk}
  (e0:Hf 0=L.join U) (hc:L.Comp U) (hn:Hs T.ch=some (.chan 0 #[] false n n false,true)) (Fl:T.Inv Y (Hs.ins T.ch (.chan 0 #[] false (n+1) (n+1) false)) (t++u))
  (X:∀j,T.tag Y j=if j=0 then V else if j=b then gb else T.tag s j) (BK:T.next Y=T.next s) (BM:T.more Y<=T.more s) (jQ:T.cls Y=T.cls s) (Gj:∀j,T.Blk s j->T.Blk Y j)
  (hw:w'.heap=w.heap.setIfInBounds T.ch (.chan 0 #[] false (n+1) (n+1) false)) (BJ:xE w w') (M2:∀op∈u,op.g=0\/op.g=b) (CL:∀op∈u,op.act.touch? = none) (Dx:∀op∈u,op.act.low w.heap.size)
  (hk:∀q,Knows t 0 q->Knows (t++u) b q) (Se:B[0]? = some (cV TM Z)) (Ft:B[b]? = some (cV TL TO)) (NP:∀j,j≠0->j≠b->B[j]? = gs[j]?) (I:B.size=gs.size)
  (r0:fO (mN T.prgM G) k0 (TM,Z,L.tagged V)) (a0:T.act V) (rb:fO (mN (T.prgW b) Vg) kb (TL,TO,((Hf b).join U).tagged gb)) (ab:T.act gb) :
  eD T G N H0 w0 B w' (t++u) Y (Hs.ins T.ch (.chan 0 #[] false (n+1) (n+1) false)) (upd (upd Hf 0 (L.tagged V)) b (((Hf b).join U).tagged gb)) (upd (upd md 0 3) b 2) (upd (upd rk 0 k0) b kb):=by
 have hp:=C.pos;have Gb:T.ch<w.heap.size:=C.leS.lt hn;have Rl:∀j,Hf j T.ch=none:=by
  intro j;cases h:Hf j T.ch with
  | none=>rfl
  | some x=>
   obtain⟨e,e2⟩:=C.disS j _ _ _ h hn;rw[e]at e2;simp at e2
 have D:∀{α:Type} (f:Nat->α) (x y:α) (j:Nat),upd (upd f 0 x) b y j=if j=b then y else if j=0 then x else f j:=λ_ _ _ _=>rfl
 have l1:∀c x,L c=some x->Hf 0 c=some x:=λc x h=>by rw[e0];exact Hp.aW h
 have lm:∀c x,U c=some x->Hf 0 c=some x:=λc x h=>by rw[e0];exact Hp.bC hc h
 have src:∀j c x,upd (upd Hf 0 (L.tagged V)) b (((Hf b).join U).tagged gb) j c=some x->(Hf j c=some x)\/(j=b/\U c=some x):=by
  intro j c x h;rw[D]at h;split at h
  ·rename_i e;subst e;simp only[Hp.kI,Hp.bH]at h;cases hh:Hf j c with
   | none=>rw[hh]at h;exact .inr ⟨rfl,h⟩
   | some z=>rw[hh]at h;exact .inl h
  split at h
  ·rename_i e;subst e;exact .inl (l1 _ _ h)
  exact .inl h
 have fst:∀c x,L.tagged V c=some x->L c=some x:=λc x h=>h;have W:∀j c x,upd (upd Hf 0 (L.tagged V)) b (((Hf b).join U).tagged gb) j c=some x->c≠T.ch:=by
  rintro j c x h rfl;rcases src _ _ _ h with h | ⟨_,h⟩
  ·rw[Rl]at h;simp at h
  have:=lm _ _ h;rw[Rl]at this;simp at this
 have E:∀c,c≠T.ch->w'.heap[c]? = w.heap[c]?:=λc h=>by rw[hw,qAu (qAF h)]
 have uR:∀j d,gC T B j d->gC T gs j d:=by
  rintro j d ⟨x,c,sh,K,ho⟩;by_cases v:j=0
  ·subst v;rw[Se]at K;have:=qBc Goroutine.status (iO K);simp[parked]at this
  by_cases l:j=b
  ·subst l;rw[Ft]at K;have:=qBc Goroutine.status (iO K);simp[parked]at this
  exact⟨x,c,sh,by rw[<-NP j v l];exact K,ho⟩
 have A:∀j,j≠0->∀c x y,Hf 0 c=some x->Hf j c=some y->x=y/\x.2=false:=λj J c x y v l=>C.dis 0 j (qAF J) c x y v l;refine⟨by rw[I,BK];exact C.size,by rw[I];exact hp,by rw[I];have:=C.bound;omega,Fl,?_,?_,?_,?_,?_,?_,λsaid=>Go.Conc.noRace_appendMute (C.clean said) CL,?_,?_,?_,?_,C.out.trans BJ,?_,?_,?_,?_,λj k v l=>C.one j k (uR _ _ v) (uR _ _ l)⟩
 ·intro c o pm h;by_cases e:c=T.ch
  ·subst e;rw[Hp.aG]at h;simp only[qAe,qBD]at h;rw[hw,qAO Gb,h.1]
  rw[Hp.aH _ _ e]at h;rw[E c e];exact C.leS c o pm h
 ·intro j c o pm h;rw[E c (W _ _ _ h)];rcases src _ _ _ h with h | ⟨_,h⟩
  ·exact C.le j c o pm h
  exact C.le 0 c o pm (lm _ _ h)
 ·
  have key:∀j c x,upd (upd Hf 0 (L.tagged V)) b (((Hf b).join U).tagged gb) j c=some x->(j≠0/\Hf j c=some x)\/(j=0/\L c=some x)\/(j=b/\U c=some x):=by
   intro j c x h;by_cases e:j=0
   ·subst e;rw[D,aT (qAF BR),iF rfl]at h;exact .inr (.inl ⟨rfl,h⟩)
   exact(src _ _ _ h).imp (λh=>⟨e,h⟩) .inr
  intro j j' pK c x y K hy
  rcases key _ _ _ K with⟨n1,P⟩ | ⟨rfl,P⟩ | ⟨rfl,P⟩<;>rcases key _ _ _ hy with⟨n2,Q⟩ | ⟨rfl,Q⟩ | ⟨rfl,Q⟩
  ·exact C.dis j j' pK c x y P Q
  ·obtain⟨e1,e2⟩:=A j n1 c y x (l1 _ _ Q) P;exact⟨e1.symm,by rw[<-e1];exact e2⟩
  ·obtain⟨e1,e2⟩:=A j n1 c y x (lm _ _ Q) P;exact⟨e1.symm,by rw[<-e1];exact e2⟩
  ·exact A j' n2 c x y (l1 _ _ P) Q
  ·exact absurd rfl pK
  ·exact hc.mem c x y P Q
  ·exact A j' n2 c x y (lm _ _ P) Q
  ·exact hc.symm.mem c x y P Q
  ·exact absurd rfl pK
 ·intro j c x y K hy;rw[Hp.aH _ _ (W _ _ _ K)]at hy;rcases src _ _ _ K with h | ⟨_,h⟩
  ·exact C.disS j c x y h hy
  exact C.disS 0 c x y (lm _ _ h) hy
 ·intro j c o pm h;rcases src _ _ _ h with h' | ⟨rfl,h'⟩
  ·exact(C.perm j).l7 CL c o pm h'
  intro q a hq hl hwr;obtain⟨x,K,qV⟩:=Go.Conc.touch_of hq;rcases Go.Conc.getElem?_append_cases K with⟨_,wP⟩ | ⟨_,GX⟩
  ·exact hk q (C.perm 0 c o pm (lm _ _ h') q a (by rw[Go.Conc.touchAt_of wP];exact qV) hl hwr)
  rw[CL x GX]at qV;simp at qV
 ·intro j J;rw[I]at J;rw[X,D];by_cases v:j=0
  ·subst v;rw[iF rfl,aT (qAF BR),iF rfl];rfl
  rw[aT v];by_cases l:j=b
  ·rw[iF l,iF l];rfl
  rw[aT l,aT l,aT v];exact C.tag j J
 ·have hs:w'.heap.size=w.heap.size:=by rw[hw];simp
  exact Go.Conc.seen_app (λop F=>by rw[hs];exact C.low op F) λop F=>by rw[hs];exact Dx op F
 ·intro j J;rw[I]at J;obtain⟨u⟩:=u;rw[Jf u t λop F=>by rcases M2 op (by simpa using F)with h | h<;>omega];exact C.above j J
 ·intro j J c;rw[I]at J;rw[D,aT O,aT O];exact C.over j J c
 ·intro j J;rw[I]at J;rw[D,D,D];by_cases l:j=b
  ·rw[iF l,iF l,iF l];subst l;exact⟨BR,TL,TO,.inl Ft,rb,ab⟩
  rw[aT l,aT l,aT l];by_cases v:j=0
  ·rw[iF v,iF v,iF v];subst v;exact⟨rfl,TM,Z,.inl Se,r0,a0⟩
  rw[aT v,aT v,aT v];have aw:∀fr cs,oU T s gs j fr cs->oU T Y B j fr cs:=by intro fr cs h;unfold oU Pk at h ⊢;rw[NP j v l];refine h.imp id (qDU (λh=>⟨h.1,Gj j h.2⟩) ?_);rintro⟨d,c,sh,ho,hs,h⟩;refine⟨d,c,sh,ho,hs,h.imp (λ⟨P,Q,a3⟩=>⟨P,jQ.trans Q,?_⟩) id⟩;rw[X,aT v,aT l];exact a3
  have h:=C.st j J;revert h;generalize md j=m;generalize rk j=r;intro h;match m,h with
  | 3,⟨h0,fr,cs,h3,h4⟩=>exact⟨h0,fr,cs,aw _ _ h3,h4⟩
  | 2,⟨h0,fr,cs,h3,h4⟩=>exact⟨h0,fr,cs,aw _ _ h3,h4⟩
  | 1,⟨h0,fr,cs,h3,h4⟩=>exact⟨h0,fr,cs,aw _ _ h3,h4⟩
  | 0,⟨Gs,CQ,N2,x,q,h3,h4,h5⟩=>
   refine⟨Gs,CQ,N2,x,q,by rw[NP j v l];exact h3,?_,h5⟩;obtain⟨u⟩:=u;rw[Jf u t λop F=>by rcases M2 op (by simpa using F)with h | h<;>omega];exact h4
 ·rw[hw];simpa using C.grown
 ·intro c TD Rj;have Si:c≠T.ch:=by
   rintro rfl;rcases C.orgS _ _ hn with h | ⟨z,hz,he⟩
   ·omega
   rcases hz with hz | hz
   ·obtain⟨zo,zp⟩:=z;cases zp with
    | true=>exact Rj zo hz
    | false=>have:=he rfl;simp at this
   simp[Hp.nil]at hz
  rw[E c Si];exact C.keep c TD Rj
 ·intro j c x h;rcases src _ _ _ h with h | ⟨_,h⟩
  ·exact C.org j c x h
  exact C.org 0 c x (lm _ _ h)
 intro c x h;by_cases e:c=T.ch
 ·subst e;rcases C.orgS _ _ hn with h' | ⟨z,hz,he⟩
  ·exact .inl h'
  refine .inr ⟨z,hz,λhf=>?_⟩;have:=he hf;rw[<-this]at hf;simp at hf
 rw[Hp.aH _ _ e]at h;exact C.orgS c x h
end
end
section
variable{d send:Bool}{c:CommCase}{sh:CommShape}{g:Goroutine}{k j i b:Nat}{cs:List Frame}{fr:Frame}
open Go.Conc (Knows Deaf touchAt QuitsD crowd woken rcase scase recvd parked ph offersAt)
open Go.ConcN (sumTo upd sumTo_upd upd_ne upd_same)
section
variable{p:Program}{T:Vy p}{G:Frame->List Frame->Hp->Prop}{N:Nat}{H0:Hp}{w0:World}{gs:Array Goroutine}{w:World}{t:Trace}{s:T.S}{Hs:Hp}{Hf:Nat->Hp}{md:Nat->Nat}{rk:Nat->Rk}
def Zs8(a:jC T d c sh)(h:k∈offersAt (parked g #[c] sh) T.ch send):k=0/\send=d:=by
 rcases a with⟨rfl,v,z,rfl,_⟩ | ⟨rfl,z,f,rfl,_⟩<;>cases send
 ·rw[Go.Conc.offersAt_parked_send']at h;simp at h
 ·rw[Go.Conc.offersAt_parked_send,iF rfl]at h;simpa using h
 ·rw[Go.Conc.offersAt_parked_recv,iF rfl]at h;simpa using h
 rw[Go.Conc.offersAt_parked_recv']at h;simp at h
def Zs9(a:jC T d c sh):0∈offersAt (parked g #[c] sh) T.ch d:=by
 rcases a with⟨rfl,v,z,rfl,_⟩ | ⟨rfl,z,f,rfl,_⟩
 ·rw[Go.Conc.offersAt_parked_send,iF rfl];simp
 rw[Go.Conc.offersAt_parked_recv,iF rfl];simp
structure xC(T:Vy p)(G:Frame->List Frame->Hp->Prop)(gs:Array Goroutine)(s:T.S)(Hf:Nat->Hp)(md:Nat->Nat)(rk:Nat->Rk)(j:Nat)(d:Bool)(fr:Frame)(cs:List Frame)(c:CommCase)(sh:CommShape):Prop where
 at_:gs[j]? = some (parked (cV fr cs) #[c] sh)
 tO:jC T d c sh
 step:∀main w n,w.heap[T.ch]? = some (.chan 0 #[] false n n false)->stepG p main (cV fr cs) w=.comm (cV fr cs) #[c] true sh w #[]
 cls:T.cls s=false
 can:T.can d (T.tag s j)
 Nw:(md j=3/\j=0/\fO (mN T.prgM G) (rk j) (fr,cs,Hf j))\/(md j=2/\j≠0/\fO (mN (T.prgW j) Vg) (rk j) (fr,cs,Hf j))
def Bj{f:Goroutine}{cs a:Array CommCase}{E6:CommShape}(h:parked g cs sh=parked f a E6):g.frame=f.frame/\g.callers=f.callers/\cs=a/\sh=E6:=by have m:=qBc Goroutine.frame h;have o:=qBc Goroutine.callers h;have l:=qBc Goroutine.offers h;simp only[parked,qAe,qBD]at m o l;exact⟨m,o,l.1,l.2⟩
def eD.offers(hT:T.Sound)(C:eD T G N H0 w0 gs w t s Hs Hf md rk)(r:gs[j]? = some g)(hb:g.status=.blocked)(I:g.offers≠none):∃d fr cs c sh,xC T G gs s Hf md rk j d fr cs c sh/\g=parked (cV fr cs) #[c] sh:=by
 have D:j<gs.size:=(qAK.1 r).1;have y:∀fr cs,oU T s gs j fr cs->∃d c sh,g=parked (cV fr cs) #[c] sh/\jC T d c sh/\(∀main w n,w.heap[T.ch]? = some (.chan 0 #[] false n n false)->stepG p main (cV fr cs) w=.comm (cV fr cs) #[c] true sh w #[])/\T.cls s=false/\T.can d (T.tag s j):=by
  rintro fr cs (h | ⟨h,_⟩ | ⟨d,c,sh,a,o,⟨h,l,B⟩ | ⟨h,_⟩⟩)<;>(rw[r]at h;obtain rfl:=iO h)
  ·simp at hb
  ·exact absurd rfl I
  ·exact⟨d,c,sh,rfl,a,o,l,B⟩
  simp at hb
 have h:=C.st j D;revert h;generalize F:md j=m;generalize E:rk j=k;intro h;match m,h with
 | 3,⟨A,fr,cs,a,o,_⟩=>
  obtain⟨d,c,sh,rfl,v,a3,a4,f⟩:=y _ _ a;exact⟨d,fr,cs,c,sh,⟨r,v,a3,a4,f,.inl ⟨F,A,by rw[E];exact o⟩⟩,rfl⟩
 | 2,⟨A,fr,cs,a,o,_⟩=>
  obtain⟨d,c,sh,rfl,v,a3,a4,f⟩:=y _ _ a;exact⟨d,fr,cs,c,sh,⟨r,v,a3,a4,f,.inr ⟨F,A,by rw[E];exact o⟩⟩,rfl⟩
 | 1,⟨_,fr,cs,a,_,l,_⟩=>
  obtain⟨d,c,sh,rfl,v,a3,a4,f⟩:=y _ _ a;rw[C.tag j D]at f;exact absurd l (hT.nG _ (hT.pC f))
 | 0,⟨_,_,_,x,q,l,B,_⟩=>
  rw[r]at l;obtain rfl:=iO l;rcases B.status with h | h<;>rw[h]at hb<;>simp at hb
def eD.rZ(hT:T.Sound)(C:eD T G N H0 w0 gs w t s Hs Hf md rk)(h:(j,k)∈partners (gs.setIfInBounds i ph) T.ch send):k=0/\j≠i/\∃fr cs c sh,xC T G gs s Hf md rk j send fr cs c sh:=by
 obtain⟨g,o,a⟩:=Go.Conc.mem_partners.1 h;rcases Go.Conc.getElem?_stand gs i j g o with⟨_,rfl⟩ | ⟨l,f⟩
 ·rw[Go.Conc.offersAt_ph]at a;simp at a
 have hb:g.status=.blocked:=qAd λhb=>by rw[Go.Conc.offersAt_of_not_blocked hb]at a;simp at a
 have q:g.offers≠none:=by intro e;unfold offersAt at a;rw[hb,e]at a;simp at a
 obtain⟨d,fr,cs,c,sh,m,rfl⟩:=C.offers hT f hb q;obtain⟨rfl,rfl⟩:=Zs8 m.tO a;exact⟨rfl,l,fr,cs,c,sh,m⟩
def eD.vB(C:eD T G N H0 w0 gs w t s Hs Hf md rk)(a:j≠i)(h:gC T gs j d):(j,0)∈partners (gs.setIfInBounds i ph) T.ch d:=by obtain⟨g,c,sh,f,l⟩:=h;exact Go.Conc.mem_partners.2 ⟨_,Go.Conc.stand_get a f,Zs9 l⟩
def z9.congr{a:Array Goroutine}{m:Nat}{H:Hp}{k:Rk}(e:a[j]? = gs[j]?)(h:z9 T G gs t s j H m k):z9 T G a t s j H m k:=by
 have r:∀fr cs,oU T s gs j fr cs->oU T s a j fr cs:=λfr cs h=>by unfold oU Pk at h ⊢;rw[e];exact h
 match m,h with
 | 3,⟨f,fr,cs,l,o⟩=>exact⟨f,fr,cs,r _ _ l,o⟩
 | 2,⟨f,fr,cs,l,o⟩=>exact⟨f,fr,cs,r _ _ l,o⟩
 | 1,⟨f,fr,cs,l,o⟩=>exact⟨f,fr,cs,r _ _ l,o⟩
 | 0,⟨f,l,o,x,q,v,y⟩=>exact⟨f,l,o,x,q,by rw[e];exact v,y⟩
def eD.Dc(C:eD T G N H0 w0 gs w t s Hs Hf md rk)(P:i<gs.size)(Q:jC T d c sh)(m:∀k,k≠i->gC T gs k (!d)->False)
  (r:∀h:Array Goroutine,h[i]? = some (parked (cV fr cs) #[c] sh)->z9 T G h t s i (Hf i) (md i) (rk i)):eD T G N H0 w0 (gs.setIfInBounds i (parked (cV fr cs) #[c] sh)) w t s Hs Hf md rk:=by
 have a:(gs.setIfInBounds i (parked (cV fr cs) #[c] sh)).size=gs.size:=by simp
 have l:(gs.setIfInBounds i (parked (cV fr cs) #[c] sh))[i]? = some (parked (cV fr cs) #[c] sh):=qAO P;have q:∀j y,gC T (gs.setIfInBounds i (parked (cV fr cs) #[c] sh)) j y->(j=i/\y=d)\/(j≠i/\gC T gs j y):=by
  rintro j y ⟨x,F,E6,A,o⟩;by_cases e:j=i
  ·subst e;rw[l]at A;obtain⟨_,_,J,K⟩:=Bj (iO A);obtain rfl:c=F:=by simpa using J
   subst K;refine .inl ⟨rfl,?_⟩;rcases Q with⟨rfl,v,z,rfl,_⟩ | ⟨rfl,z,f,rfl,_⟩<;>rcases o with⟨rfl,X,V,B,_⟩ | ⟨rfl,V,W,B,_⟩
   ·rfl
   ·have:=qBc CommCase.send B;simp[scase,rcase]at this
   ·have:=qBc CommCase.send B;simp[scase,rcase]at this
   rfl
  rw[qAu (qAF e)]at A;exact .inr ⟨e,x,F,E6,A,o⟩
 refine⟨by rw[a];exact C.size,by rw[a];exact C.pos,by rw[a];exact C.bound,C.inv,C.leS,C.le,C.dis,C.disS,C.perm,by rw[a];exact C.tag,C.clean,C.low,by rw[a];exact C.above,by rw[a];exact C.over,?_,C.out,C.grown,C.keep,C.org,C.orgS,?_⟩
 ·intro j I;rw[a]at I;by_cases e:j=i
  ·subst e;exact r _ l
  exact(C.st j I).congr (qAu (qAF e))
 intro j k L O;rcases q _ _ L with⟨rfl,rfl⟩ | ⟨R,D⟩<;>rcases q _ _ O with⟨rfl,e⟩ | ⟨U,E⟩
 ·simp at e
 ·exact m k U E
 ·subst e;exact m j R D
 exact C.one j k D E
def Zil{M:Ms}(ih:∀F,qP N F M->∀gs w sl t s Hs Hf md rk,iV (T:=T) s gs md rk=F->eD T G N H0 w0 gs w t s Hs Hf md rk->Y9 T G N H0 w0 (crowd gs w sl) t)
  (hT:T.Sound) (R:iV s gs md rk=M) (C:eD T G N H0 w0 gs w t s Hs Hf md rk) (A:i<gs.size) {sl nO:Option (Nat×Nat)} {e:Nat} (I:gs[i]? = some g) (L:K0 p g fr cs)
  (D:stepT p (crowd gs w sl)=runT p (crowd gs (w.at e) nO) i) (K:jC T d c sh) (q:T.cls s=false)
  (m:∀main w n,w.heap[T.ch]? = some (.chan 0 #[] false n n false)->stepG p main (cV fr cs) w=.comm (cV fr cs) #[c] true sh w #[]) (l:partners (gs.setIfInBounds i ph) T.ch (!d)=[])
  (r:∀o:Array Goroutine,o[i]? = some (parked (cV fr cs) #[c] sh)->z9 T G o t s i (Hf i) (md i) (rk i)):Y9 T G N H0 w0 (crowd gs w sl) t:=by
 obtain⟨n,J⟩:=hT.chan C.inv;rw[q]at J;have x:=(C.at e).leS _ _ _ J;have a:runT p (crowd gs (w.at e) nO) i=(.next (crowd (gs.setIfInBounds i (parked (cV fr cs) #[c] sh)) (w.at e) nO),MemOp.ofEvents i g.frame.fn g.frame.place #[]):=by
  refine Go.Conc.crowd_waits I ((L.step _ _).trans (m _ _ n x)) λO y=>?_;obtain rfl:O=c:=by simpa using y
  rcases K with⟨rfl,v,z,rfl,_⟩ | ⟨rfl,z,f,rfl,_⟩
  ·exact Go.Conc.ways_send_none x (qAI _) l
  exact Go.Conc.ways_recv_none x l
 have P:MemOp.ofEvents i g.frame.fn g.frame.place #[]=#[]:=by simp[Go.Conc.ofEvents_eq]
 rw[P]at a;refine Y9.step (D.trans a) ?_;rw[qAG];have Q:=(C.at e).Dc A K (λk U h=>by have:=(C.at e).vB U h;rw[l]at this;simp at this) r;refine ih _ ?_ _ _ _ _ _ _ _ _ _ rfl Q;rw[<-R];unfold iV;have E:(gs.setIfInBounds i (parked (cV fr cs) #[c] sh)).size=gs.size:=by simp
 rw[E];refine RH (dO _) (.inr ⟨rfl,.inr ⟨rfl,?_⟩⟩);have:lE (gs.setIfInBounds i (parked (cV fr cs) #[c] sh))=upd (lE gs) i 0:=by
  funext j;rw[V1];unfold lE;by_cases B:j=i
  ·subst B;simp[A,parked]
  rw[aT B,qAu (qAF B)]
 rw[this];exact Mh A (by simp[lE,I,L.st])
def eD.pair(hT:T.Sound)(C:eD T G N H0 w0 gs w t s Hs Hf md rk)(hb:b<gs.size)(F:b≠0)(o:T.cls s=false){R0 Rb:Frame->List Frame->Hp->Prop}{D E:Frame}{A B:List Frame}
  (h0:OX T R0 D A (Hf 0)) (h1:OY T Rb E B (Hf b)) :
  ∃(v z zb:Value) (f:Bool) (n:Nat),(∀main w n,w.heap[T.ch]? = some (.chan 0 #[] false n n false)->stepG p main (cV D A) w=.comm (cV D A) #[scase T.ch v z] true .send w #[]) /\
   (∀main w n cl,w.heap[T.ch]? = some (.chan 0 #[] cl n n false)->stepG p main (cV E B) w=.comm (cV E B) #[rcase T.ch zb] true (.recv f) w #[])/\w.heap[T.ch]? = some (.chan 0 #[] false n n false) /\
   ∀(m:Array Goroutine) (U:World) (O P:FuncId) (Q R:String),U.heap=w.heap.setIfInBounds T.ch (.chan 0 #[] false (n+1) (n+1) false)->xE w U->m[0]? = some (cV (D.finish undef) A)->m[b]? = some (cV (E.finish (recvd f v true)) B) ->
    (∀j,j≠0->j≠b->m[j]? = gs[j]?)->m.size=gs.size->(∀fr cs H,R0 fr cs H->∃k,fO (mN T.prgM G) k (fr,cs,H))->(∀fr cs H,Rb fr cs H->∃k,fO (mN (T.prgW b) Vg) k (fr,cs,H)) ->
    ∃s' W V Di Cq,eD T G N H0 w0 m U (t++VG T.ch n b O P Q R) s' W V Di Cq/\T.more s'<T.more s:=by
 obtain⟨c0,v,z,g',H1,Hm,s0,e0,hc,Fs,hp,a0,r0⟩:=h0
 obtain⟨X,zb,f,sb,hr,_,_⟩:=h1
 obtain⟨n,J⟩:=hT.chan C.inv
 rw[o]at J
 have r:=C.pos
 have t0:=C.tag 0 r
 have tb:=C.tag b hb
 rw[<-t0]at c0 hp
 rw[<-tb]at X hr
 obtain⟨s',gb,q1,q2,q3,q4,q5,q6,q7⟩:=hT.meet (b:=b) (n:=n) C.inv (by rw[<-C.size];exact r) (by rw[<-C.size];exact hb) F o J c0 X hp
 have hd:(Hf b).Dis Hm:=λc x y hx hy=>C.dis b 0 F c x y hx (by rw[e0];exact Hp.bC hc hy)
 obtain⟨ab,rb⟩:=hr gb v Hm Fs hd q1
 have I:T.ch<w.heap.size:=C.leS.lt J
 refine⟨v,z,zb,f,n,s0,sb,C.leS _ _ _ J,?_⟩
 intro m U O P Q R hw L g1 g2 g3 g4 Y Z
 obtain⟨k0,k0r⟩:=Y _ _ _ r0
 obtain⟨kb,kbr⟩:=Z _ _ _ rb
 have a:∀op∈VG T.ch n b O P Q R,(op.g=0\/op.g=b)/\(op.act=.send T.ch n\/op.act=.recv T.ch n 0\/op.act=.sendDone T.ch n\/op.act=.recvDone T.ch n):=by intro op K;simp only[VG,qAv,qAq,qCf,qDz]at K;rcases K with rfl | rfl | rfl | rfl<;>simp
 have hC:=C.meet hT (u:=VG T.ch n b O P Q R) hb F e0 hc J (q7 _ (λop h=>(a op h).1) λop h=>(a op h).2) q2 q3 (qDB q4) (q5.trans o.symm) q6 hw L (λop h=>(a op h).1)
  (λop h=>by rcases(a op h).2 with e | e | e | e<;>rw[e]<;>rfl) (λop h=>by rcases(a op h).2 with e | e | e | e<;>rw[e]<;>exact I)
  (λq hq=>ZtE (hT.hears C.inv (by rw[<-C.size];exact r) c0) (hT.hears C.inv (by rw[<-C.size];exact hb) X) F hq) g1 g2 g3 g4 k0r a0 kbr ab
 exact⟨_,_,_,_,_,hC,q4⟩
theorem Q2{v:Value}:Go.Conc.served (cV fr cs) v=cV (fr.finish v) cs:=rfl
def L4{w f:World}{main:Bool}{es a:Array Event}(h:stepG p main (cV fr cs) w=.comm (cV fr cs) #[c] true sh w es):stepG p main (cV fr cs) w≠.go g f a:=by rw[h];intro e;cases e
section
variable(hT:T.Sound)(C:eD T G N H0 w0 gs w t s Hs Hf md rk)
include hT C
theorem eD.rcv_of(m:xC T G gs s Hf md rk b false fr cs c sh) :
  b≠0/\b<gs.size/\OY T (λa e f=>∃K,Rk.lt K (rk b)/\fO (mN (T.prgW b) Vg) K (a,e,f)) fr cs (Hf b):=by
 have hb:b<gs.size:=(qAK.1 m.at_).1;have B:b<T.next s:=by rw[<-C.size];exact hb
 have r:=hT.E8 C.inv B m.can;refine⟨r,hb,?_⟩;obtain⟨n,J⟩:=hT.chan C.inv;rw[m.cls]at J;have D:=C.leS _ _ _ J;have I:=C.ahead hb;have x:=C.tag b hb;rcases m.Nw with⟨_,e,_⟩ | ⟨_,_,F⟩
 ·exact absurd e r
 rcases fO.step mN.mono F with v | E | ⟨_,o⟩
 ·exact v.elim
 ·obtain⟨eC,y,Q,L,es,q,_⟩:=E.1 false w I.le;exact absurd q (L4 (m.step false w n D))
 have l:=hT.pC m.can;rw[x]at l;rcases o with⟨d,hd,_⟩ | ⟨_,o⟩ | ⟨P,_⟩ | ⟨_,h⟩
 ·rw[show(Hf b).gh=lv d from hd]at l;exact absurd l (hT.uC d)
 ·rcases o s Hs t w I with⟨eC,y,Q,L,R,O,es,A,_⟩ | ⟨A,_⟩
  ·exact absurd A (L4 (m.step _ w n D))
  exact absurd A (L4 (m.step _ w n D))
 ·exact absurd P (hT.nG _ l)
 exact h
theorem eD.snd_of(l:xC T G gs s Hf md rk j true fr cs c sh)(hG:∀fr cs H,G fr cs H->¬ T.can true H.gh) :
  j=0/\OX T (λa e f=>∃I,Rk.lt I (rk 0)/\fO (mN T.prgM G) I (a,e,f)) fr cs (Hf 0):=by
 have x:j<gs.size:=(qAK.1 l.at_).1;obtain rfl:=hT.E7 C.inv (by rw[<-C.size];exact x) l.can;refine⟨rfl,?_⟩;obtain⟨n,F⟩:=hT.chan C.inv;rw[l.cls]at F;have r:=C.leS _ _ _ F;have E:=C.ahead x;rcases l.Nw with⟨_,_,A⟩ | ⟨_,e,_⟩
 ·rcases fO.step mN.mono A with L | y | ⟨_,B⟩
  ·have:=l.can;rw[C.tag 0 x]at this;exact absurd this (hG _ _ _ L)
  ·obtain⟨eC,q,J,D,es,m,_⟩:=y.1 false w E.le;exact absurd m (L4 (l.step false w n r))
  rcases B s Hs t w E with⟨eC,q,J,D,O,v,es,o,_⟩ | ⟨o,_⟩ | ⟨eC,q,K,J,D,P,O,v,es,o,_⟩ | h
  ·exact absurd o (L4 (l.step _ w n r))
  ·exact absurd o (L4 (l.step _ w n r))
  ·rw[l.step true w n r]at o;cases o
  exact h
 exact absurd rfl e
end
end
end
section
variable{g:Goroutine}{cs:List Frame}{sh E6:CommShape}{d:Bool}{z:Value}{M:Ms}{sl nO:Option (Nat×Nat)}{e:Nat}{fr:Frame}
open Go.Conc (Knows Deaf touchAt QuitsD crowd woken rcase scase recvd parked ph offersAt)
open Go.ConcN (sumTo upd sumTo_upd upd_ne upd_same)
section
variable{p:Program}{T:Vy p}{G:Frame->List Frame->Hp->Prop}{N:Nat}{H0:Hp}{w0:World}{gs:Array Goroutine}{w:World}{t:Trace}{s:T.S}{Hs:Hp}{Hf:Nat->Hp}{md:Nat->Nat}{rk:Nat->Rk}
theorem Zhh{l:Goroutine}{cs a:Array CommCase}(h:parked g cs sh=parked l a E6)(v:Value):Go.Conc.served g v=Go.Conc.served l v:=by obtain⟨m,o,_,_⟩:=Bj h;have f:=qBc Goroutine.dying h;simp only[parked]at f;obtain⟨q,r,a3,a4,x⟩:=g;obtain⟨y,A,B,D,E⟩:=l;simp only at m o f;subst m o f;rfl
theorem WJ{c a:CommCase}{w:World}(h:GStep.comm g #[c] true sh w #[]=GStep.comm g #[a] true E6 w #[]):c=a/\sh=E6:=by simp only[GStep.comm.injEq,true_and,qDY]at h;exact⟨by simpa using h.1,h.2⟩
theorem jC.rcv(h:jC T d (rcase T.ch z) sh):d=false:=by
 rcases h with⟨_,v,a,e,_⟩ | ⟨e,_⟩
 ·have:=qBc CommCase.send e;simp[scase,rcase]at this
 exact e
theorem jC.snd{v:Value}(h:jC T d (scase T.ch v z) sh):d=true:=by
 rcases h with⟨e,_⟩ | ⟨_,a,f,e,_⟩
 ·exact e
 have:=qBc CommCase.send e;simp[scase,rcase]at this
variable(hT:T.Sound)(hG:∀fr cs H,G fr cs H->¬ T.can true H.gh)
include hT hG
theorem Zim(ih:∀v,qP N v M->∀gs w sl t s Hs Hf md rk,iV (T:=T) s gs md rk=v->eD T G N H0 w0 gs w t s Hs Hf md rk->Y9 T G N H0 w0 (crowd gs w sl) t)
  (A:iV s gs md rk=M) {l:Array Goroutine} {x:World} {u:Trace} (q:stepT p (crowd gs w sl)=(.next (crowd l x nO),u))
  (h:∃r f a m o,eD T G N H0 w0 l x (t++u) r f a m o/\T.more r<T.more s):Y9 T G N H0 w0 (crowd gs w sl) t:=by
 obtain⟨r,f,a,m,o,y,B⟩:=h;refine Y9.step q (ih _ ?_ _ _ _ _ _ _ _ _ _ rfl y);rw[<-A];exact Zlp B _ _
theorem ZsM(ih:∀X,qP N X M->∀gs w sl t s Hs Hf md rk,iV (T:=T) s gs md rk=X->eD T G N H0 w0 gs w t s Hs Hf md rk->Y9 T G N H0 w0 (crowd gs w sl) t)
  (hM:iV s gs md rk=M) (C:eD T G N H0 w0 gs w t s Hs Hf md rk) (hg:gs[0]? = some g) (hr:K0 p g fr cs)
  (I:stepT p (crowd gs w sl)=runT p (crowd gs (w.at e) nO) 0) (R:md 0=3) (W:fO (mN T.prgM G) (rk 0) (fr,cs,Hf 0))
  (h:OX T (λa e f=>∃k',Rk.lt k' (rk 0)/\fO (mN T.prgM G) k' (a,e,f)) fr cs (Hf 0)):Y9 T G N H0 w0 (crowd gs w sl) t:=by
 have J:=C.pos;have h':=h;obtain⟨x,v,z,_,_,_,r,_⟩:=h';have o:T.can true (T.tag s 0):=by rw[C.tag 0 J];exact x
 have m:=hT.E0 C.inv (by rw[<-C.size];exact J) o;obtain⟨n,U⟩:=hT.chan C.inv;rw[m]at U;have hc:=(C.at e).leS _ _ _ U;by_cases E:partners (gs.setIfInBounds 0 ph) T.ch false=[]
 ·refine Zil ih hT hM C J hg hr I (d:=true) (.inl ⟨rfl,v,z,rfl,rfl⟩) m r E λgs' D=>?_;rw[R];exact⟨rfl,fr,cs,.inr (.inr ⟨true,_,_,.inl ⟨rfl,v,z,rfl,rfl⟩,r,.inl ⟨D,m,o⟩⟩),W,hT.pC x⟩
 obtain⟨j,Z,zj,shj,d',D7,hj,q⟩:=Go.Conc.crowd_send_meets_some (P:=p) (w:=w.at e) (sl:=nO) hg ((hr.step true _).trans (r true _ n hc)) hc E (λj k Q=>by
  obtain⟨rfl,V,L,K,c,sh,y⟩:=(C.at e).rZ hT Q;refine⟨rfl,V,?_⟩;rcases y.tO with⟨e,_⟩ | ⟨_,z',f,rfl,rfl⟩
  ·cases e
  exact⟨_,_,_,y.at_⟩)
 obtain⟨d,L,K,c,sh,y,A⟩:=C.offers hT hj rfl (by simp[parked]);obtain⟨_,_,e1,e2⟩:=Bj A;obtain rfl:rcase T.ch zj=c:=by simpa using e1
 subst e2;obtain rfl:=y.tO.rcv;obtain⟨B,hb,F⟩:=C.rcv_of hT y;obtain⟨v2,z2,zb,Y,n2,k1,k2,k3,k4⟩:=C.pair hT hb B m h F;have l:=C.leS _ _ _ U;obtain⟨x1,_⟩:=WJ ((r true w n l).symm.trans (k1 true w n l));have ev:v=v2:=by have:=qBc CommCase.send x1;simpa[scase]using this
 obtain⟨_,x2⟩:=WJ ((y.step true w n l).symm.trans (k2 true w n false l));have en:n=n2:=by rw[k3]at l;simp at l;exact l.symm
 subst ev x2 en;rw[Go.Conc.finishComm_recv,Go.Conc.finishComm_send,Q2,Zhh A,Q2]at q;have eo:MemOp.ofEvents 0 g.frame.fn g.frame.place #[]=#[]:=by simp[Go.Conc.ofEvents_eq]
 rw[eo,qDe]at q;refine Zim hT hG ih hM (I.trans q) ?_;have yH:gs.size≠0:=O;refine k4 _ _ (cV fr cs).frame.fn Z.frame.fn (cV fr cs).frame.place Z.frame.place rfl ⟨.refl _,rfl,rfl⟩ ?_ ?_ ?_ ?_ (λa b c ⟨k,_,h⟩=>⟨k,h⟩) (λa b c ⟨k,_,h⟩=>⟨k,h⟩)
 ·exact qAO (by simpa using J)
 ·rw[qAu (qAF B)];exact qAO hb
 ·intro j' h1 h2;rw[qAu (qAF h1),qAu (qAF h2)]
 simp
def vA:Goroutine:={ (default:Goroutine)with frame:={ (default:Frame)with mode:=.run,todo:=[] } }
omit hT hG in
theorem Zsb:mayWake p vA=false:=rfl
theorem ZsN(ih:∀M',qP N M' M->∀gs w sl t s Hs Hf md rk,iV (T:=T) s gs md rk=M'->eD T G N H0 w0 gs w t s Hs Hf md rk->Y9 T G N H0 w0 (crowd gs w sl) t)
  (hM:iV s gs md rk=M) (C:eD T G N H0 w0 gs w t s Hs Hf md rk) {i:Nat} (F:i<gs.size) (I:i≠0) (hg:gs[i]? = some g) (hr:K0 p g fr cs)
  (U:stepT p (crowd gs w sl)=runT p (crowd gs (w.at e) nO) i) (Rn:md i=2) (M7:fO (mN (T.prgW i) Vg) (rk i) (fr,cs,Hf i))
  (h:OY T (λa e f=>∃k',Rk.lt k' (rk i)/\fO (mN (T.prgW i) Vg) k' (a,e,f)) fr cs (Hf i)):Y9 T G N H0 w0 (crowd gs w sl) t:=by
 have h':=h;obtain⟨L,z,r,B,_,Z,jQ⟩:=h';have yL:i<T.next s:=by rw[<-C.size];exact F
 have A:T.can false (T.tag s i):=by rw[C.tag i F];exact L
 obtain⟨n,hn⟩:=hT.chan C.inv;have v:=C.leS _ _ _ hn;have W:=(C.at e).leS _ _ _ hn;have eo:MemOp.ofEvents i g.frame.fn g.frame.place #[]=#[]:=by simp[Go.Conc.ofEvents_eq]
 cases l:T.cls s with
 | true=>
  rw[l]at W;have J:partners (gs.setIfInBounds i ph) T.ch true=[]:=by refine Go.Conc.partners_nil λj x D=>?_;refine qAd λR=>?_;obtain⟨k,hk⟩:=qCB _ R;obtain⟨_,_,_,_,_,_,O⟩:=(C.at e).rZ hT (Go.Conc.mem_partners.2 ⟨x,D,hk⟩);rw[O.cls]at l;simp at l
  have y:=Go.Conc.crowd_recv_closed (P:=p) (w:=w.at e) (sl:=nO) hg ((hr.step _ _).trans (B _ _ n true W)) W J;rw[Go.Conc.finishComm_recv,Q2,eo,qDe]at y;refine Y9.step (U.trans y) ?_;obtain⟨s',q1,q2,q3,q4,q5,q6⟩:=hT.E5 C.inv yL l A;obtain⟨k',nF,zQ⟩:=jQ;have q:∀op∈(#[{ g:=i,fn:=(cV fr cs).frame.fn,pos:=(cV fr cs).frame.place,act:=.recvClosed T.ch }]:Trace),op.g=i/\op.act=.recvClosed T.ch:=by intro op o;simp only[qAv,oR]at o;subst o;exact⟨rfl,rfl⟩
  have Y:=(C.at e).ahead F;have hm:gJ T i s Hs t (w.at e) (Hf i) (#[{ g:=i,fn:=(cV fr cs).frame.fn,pos:=(cV fr cs).frame.place,act:=.recvClosed T.ch }]:Trace) s' Hs (w.at e):=
   ⟨dO _,λ_ _ _ _=>rfl,Y.leS,λb x D=>.inr ⟨x,.inr D,λ_=>rfl⟩,.refl _,λop o x D=>by rw[(q op o).2]at D;simp[MemAct.touch?]at D,
    λ_ _ _ _ op o x D=>by rw[(q op o).2]at D;simp[MemAct.touch?]at D,λop o=>by rw[(q op o).2];exact Y.leS.lt hn,q6 _ q⟩
  have D8:gY i Hs (w.at e) (Hf i) (t++(#[{ g:=i,fn:=(cV fr cs).frame.fn,pos:=(cV fr cs).frame.place,act:=.recvClosed T.ch }]:Trace)) Hs (w.at e) ((Hf i).tagged (T.shut (T.tag s i))):=
   ⟨Y.le,Y.dis,λb x D=>.inr ⟨x,.inl D,λ_=>rfl⟩,Y.perm.own λop o=>.inl (q op o).1⟩
  have ew:∀g' w',woken p vA g' w'=id:=λg' w'=>by funext x;simp[woken,Zsb]
  have K:T.shut (T.tag s i)=T.shut (Hf i).gh:=by rw[C.tag i F]
  have hC:=(C.at e).go hT F (g:=vA) (g':=cV (fr.finish (recvd r z false)) cs) (λop o=>(q op o).1) hm D8 (λj=>by rw[q1];rfl) q2 q3 (.inr q5) (.inl (q4.trans l.symm)) (.inr rfl) (m:=2) (k:=k')
   ⟨I,_,_,.inl (XO F _ _),by rw[K];exact zQ,by show T.act (T.shut (T.tag s i));rw[K];exact Z⟩
  rw[ew,Array.map_id]at hC;refine ih _ ?_ _ _ _ _ _ _ _ _ _ rfl hC;rw[<-hM];unfold iV;have yH:(gs.setIfInBounds i (cV (fr.finish (recvd r z false)) cs)).size=gs.size:=by simp
  rw[yH];refine RH q3 (.inr ⟨by rw[<-Rn,LR],.inl (Jv (qBu F (by have:=C.bound;omega)) nF)⟩)
 | false=>
  rw[l]at W hn v;by_cases J:partners (gs.setIfInBounds i ph) T.ch true=[]
  ·refine Zil ih hT hM C F hg hr U (d:=false) (.inr ⟨rfl,z,r,rfl,rfl⟩) l (λmain w n h=>B main w n false h) J λgs' Fq=>?_;rw[Rn];exact⟨I,fr,cs,.inr (.inr ⟨false,_,_,.inr ⟨rfl,z,r,rfl,rfl⟩,λmain w n h=>B main w n false h,.inl ⟨Fq,l,A⟩⟩),M7,hT.pC L⟩
  obtain⟨j,gj,vj,zj,shj,d',D7,hj,y⟩:=Go.Conc.crowd_recv_meets_some (P:=p) (w:=w.at e) (sl:=nO) hg ((hr.step _ _).trans (B _ _ n false W)) W J (λj k S0=>by
   obtain⟨rfl,R,TL,TO,c,sh,O⟩:=(C.at e).rZ hT S0;refine⟨rfl,R,?_⟩;rcases O.tO with⟨_,v',z',rfl,rfl⟩ | ⟨e,_⟩
   ·exact⟨_,_,_,_,O.at_⟩
   cases e)
  obtain⟨d,TM,cs0,c,sh,O,X⟩:=C.offers hT hj rfl (by simp[parked]);obtain⟨_,_,e1,e2⟩:=Bj X;obtain rfl:scase T.ch vj zj=c:=by simpa using e1
  subst e2;obtain rfl:=O.tO.snd;obtain⟨rfl,G3⟩:=C.snd_of hT O hG;obtain⟨v2,z2,zb,Q,n2,k1,k2,k3,k4⟩:=C.pair hT F I l G3 h;obtain⟨x1,x3⟩:=WJ ((O.step true w n v).symm.trans (k1 true w n v));have ev:vj=v2:=by have:=qBc CommCase.send x1;simpa[scase]using this
  obtain⟨_,x2⟩:=WJ ((B true w n false v).symm.trans (k2 true w n false v));have ef:r=Q:=by simpa using x2
  have en:n=n2:=by rw[k3]at v;simp at v;exact v.symm
  subst ev ef en x3;rw[Go.Conc.finishComm_recv,Go.Conc.finishComm_send,Q2,Zhh X,Q2,eo,qDe]at y;refine Zim hT hG ih hM (U.trans y) ?_;refine k4 _ _ gj.frame.fn (cV fr cs).frame.fn gj.frame.place (cV fr cs).frame.place rfl ⟨.refl _,rfl,rfl⟩ ?_ ?_ ?_ ?_ (λa b c ⟨k,_,h⟩=>⟨k,h⟩) (λa b c ⟨k,_,h⟩=>⟨k,h⟩)
  ·rw[qAu I];exact qAO (by have:=C.pos;exact this)
  ·exact qAO (by simpa using F)
  ·intro j' h1 h2;rw[qAu (qAF h2),qAu (qAF h1)]
  simp
end
end
open Go.Conc (Knows Deaf touchAt QuitsD crowd woken)
open Go.ConcN (sumTo upd sumTo_upd upd_ne upd_same)
section
variable{p:Program}{T:Vy p}{G:Frame->List Frame->Hp->Prop}{n:Nat}{H0:Hp}{w0:World}
theorem ZtS{d a:Nat}(h:lv d=lv a):d=a:=by simpa[lv]using h
theorem Zsa(hT:T.Sound){i:Nat}:∀(k:Rk) (fr:Frame) (cs:List Frame) (H:Hp) (d:Nat),H.gh=lv d->fO (mN (T.prgW i) Vg) k (fr,cs,H)->∃q,QuitsD p q d (cV fr cs):=by
 intro k;induction Rk.Hr k with
 | intro k _ ih=>
 intro fr cs H d x h;rcases fO.step mN.mono h with y | B | ⟨_,E⟩
 ·exact y.elim
 ·obtain⟨l,f,v,F,o,m⟩:=B.2 (by show T.stl H.gh=true;rw[x];exact hT.EY d);obtain⟨q,D⟩:=ih F o l f H d x m;exact⟨q+1,.ctl rfl (λw=>v false w) D⟩
 rcases E with⟨K,A,h⟩ | ⟨a,_⟩ | ⟨a,_⟩ | ⟨a,_⟩
 ·obtain rfl:=ZtS (x.symm.trans A);rcases h with⟨l,f,es,J,r,F,o,m⟩ | ⟨rfl,g,I,r⟩
  ·obtain⟨q,D⟩:=ih F o l f _ _ rfl m;exact⟨q+1,.inr ⟨rfl,_,es,J,λw=>r false w,D⟩⟩
  exact⟨1,.inr ⟨rfl,g,#[],by simp,r,I,rfl⟩⟩
 ·rw[show H.gh=lv d from x]at a;exact absurd a (hT.uC d)
 ·rw[show H.gh=lv d from x]at a;exact absurd a (hT.BD d)
 rw[show H.gh=lv d from x]at a;exact absurd a (hT.uC d)
theorem Zn5(hT:T.Sound)(hG:∀fr cs H,G fr cs H->¬ T.can true H.gh):∀(M:Ms) (gs:Array Goroutine) (w:World) (sl:Option (Nat×Nat)) (t:Trace) (s:T.S) (Hs:Hp) (Hf:Nat->Hp) (md:Nat->Nat) (rk:Nat->Rk),
  iV s gs md rk=M->eD T G n H0 w0 gs w t s Hs Hf md rk->Y9 T G n H0 w0 (crowd gs w sl) t:=by
 intro M;induction M using(Zty n).induction with
 | _ M ih=>
 intro gs w sl t s Hs Hf md rk V C;obtain⟨i,g,d,nO,B,hr,l⟩:=Go.Conc.crowd_pick (P:=p) (w:=w) (sl:=sl) C.awake (C.stuck hT);have Q:i<gs.size:=(qAK.1 B).1;have ha:=(C.at d).ahead Q;have h:=C.st i Q;have Z:∀j,T.tag s j=if j=i then(Hf i).gh else T.tag s j:=λj=>by split;subst j;exact C.tag _ Q;rfl
 match y:md i,h with
 | 0,h=>
  obtain⟨h0,hl,hn,x,q,hx,hq,hk⟩:=h;rw[B]at hx;obtain rfl:=iO hx;exact ZsO hT ih V C Q h0 y hl hn B hr l hq hk
 | 1,h=>
  obtain⟨h0,fr,cs,FM,⟨Hl,X,E⟩,I,hn⟩:=h;have J:=FM.lE B hr;have L:=fO.step mN.mono E;rcases L with HJ | NE | ⟨_,F⟩
  ·exact HJ.elim
  ·obtain⟨r,o,A,R,v,f⟩:=NE.2 (by show T.stl Hl.gh=true;rw[X];exact hT.AJ _ I);have hm:=gJ.still ha;have D8:=gY.still ha;refine OA ih hT V C Q B J l (A _ _) (by rw[Jp];exact hm) (by rw[Jp];exact D8) Z rfl (dO _) (.inr λ_ h=>h) (.inl rfl) (m:=1) (k:=R) ?_ (.inr ⟨y.symm,v⟩);exact λD a=>⟨h0,r,o,.inl a,⟨Hl,X,f⟩,I,hn⟩
  rcases F with⟨d',TA,_⟩ | ⟨W,_⟩ | ⟨_,F⟩ | ⟨W,_⟩
  ·rw[show(Hf i).gh=lv d' from X.symm.trans TA]at I;exact absurd I (hT.BD d')
  ·rw[show Hl.gh=(Hf i).gh from X]at W;exact absurd I (λ_=>hT.nG _ W I)
  ·have NZ:Hp.aR Hl.gh=Hf i:=Hp.ext' (λb=>(hn b).symm) X;rw[NZ]at F;rcases F s Hs t (w.at d) ha with⟨r,o,w',H',s',kG,es,h1,h2,h3,h4,h5,h6,h7,U,h8,⟨Y,R,v,f⟩ | ⟨hl,R,_,f⟩⟩ | K
   ·refine OA ih hT V C Q B J l h1 h2 h3 h4 h5 h6 h7 U (m:=1) (k:=R) ?_ (.inr ⟨y.symm,v⟩);exact λD a=>⟨h0,r,o,.inl a,⟨Hl.tagged H'.gh,rfl,f⟩,Y,h8⟩
   ·obtain⟨q,hq⟩:=Zsa hT R r o _ _ rfl f;refine OA ih hT V C Q B J l h1 h2 h3 h4 h5 h6 h7 U (m:=0) (k:=.ofNat q) ?_ (.inl O);exact λD a=>⟨h0,hl,h8,_,q,a,hq,rfl⟩
   exact Jm ih hT V C Q B J l K λD a=>by rw[y];exact⟨h0,fr,cs,.inr (.inl ⟨a,K.2⟩),⟨Hl,X,E⟩,I,hn⟩
  rw[show Hl.gh=(Hf i).gh from X]at W;exact absurd I (λ_=>hT.nG _ W I)
 | 2,h=>
  obtain⟨h0,fr,cs,FM,E,I⟩:=h;have J:=FM.lE B hr;have L:=fO.step mN.mono E;rcases L with HJ | NE | ⟨_,F⟩
  ·exact HJ.elim
  ·obtain⟨r,o,w',H',es,A,hf,⟨R,v,f⟩,yM⟩:=NE.1 (i == 0) (w.at d) ha.le;obtain⟨hm,D8⟩:=ZlF (fr:=fr) hT ha (.inl I) hf yM;refine OA ih hT V C Q B J l A hm D8 (λj=>by rw[hf.gh];exact Z j) rfl (dO _) (.inr λ_ h=>h) (.inl rfl) (m:=2) (k:=R) ?_ (.inr ⟨y.symm,v⟩);exact λD a=>⟨h0,r,o,.inl a,f,by rw[hf.gh];exact I⟩
  rcases F with⟨d',TA,_⟩ | ⟨_,F⟩ | ⟨W,_⟩ | ⟨_,Eh⟩
  ·rw[show(Hf i).gh=lv d' from TA]at I;exact absurd I (hT.uC d')
  ·rcases F s Hs t (w.at d) ha with⟨r,o,w',H',s',kG,es,h1,h2,h3,h4,h5,h6,h7,U,⟨⟨R,v,f⟩,Y⟩ | ⟨Y,R,_,f⟩⟩ | K
   ·refine OA ih hT V C Q B J l h1 h2 h3 h4 h5 h6 h7 U (m:=2) (k:=R) ?_ (.inr ⟨y.symm,v⟩);exact λD a=>⟨h0,r,o,.inl a,f,Y⟩
   ·refine OA ih hT V C Q B J l h1 h2 (gY.aR H'.gh) h4 h5 h6 h7 U (m:=1) (k:=R) ?_ (.inl O);exact λD a=>⟨h0,r,o,.inl a,⟨(Hf i).tagged H'.gh,rfl,f⟩,Y,λ_=>rfl⟩
   exact Jm ih hT V C Q B J l K λD a=>by rw[y];exact⟨h0,fr,cs,.inr (.inl ⟨a,K.2⟩),E,I⟩
  ·exact absurd W (hT.nG _ I)
  exact ZsN hT hG ih V C Q h0 B J l y E Eh
 | 3,h=>
  obtain⟨rfl,fr,cs,FM,E,I⟩:=h;have J:=FM.lE B hr;have L:=fO.step mN.mono E;rcases L with NO | NE | ⟨_,F⟩
  ·obtain rfl:=FM.MN B hr;exact⟨0,gs,w,sl,t,s,Hs,Hf,md,rk,rfl,C,fr,cs,B,NO⟩
  ·obtain⟨r,o,w',H',es,A,hf,⟨R,v,f⟩,yM⟩:=NE.1 (0 == 0) (w.at d) ha.le;obtain⟨hm,D8⟩:=ZlF (fr:=fr) hT ha (.inl I) hf yM;refine OA ih hT V C Q B J l A hm D8 (λj=>by rw[hf.gh];exact Z j) rfl (dO _) (.inr λ_ h=>h) (.inl rfl) (m:=3) (k:=R) ?_ (.inr ⟨y.symm,v⟩);exact λD a=>⟨rfl,r,o,.inl a,f,by rw[hf.gh];exact I⟩
  rcases F s Hs t (w.at d) ha with⟨r,o,w',H',s',kG,es,h1,h2,h3,h4,h5,h6,h7,U,⟨R,v,f⟩,Y⟩ | K | ⟨r,o,tG,w',H',Hc,s',kG,es,h1,h2,h3,h4,h5,h6,h7,h8,h9,⟨R,v,f⟩,h11,h12,h13⟩ | G3
  ·refine OA ih hT V C Q B J l h1 h2 h3 h4 h5 h6 h7 U (m:=3) (k:=R) ?_ (.inr ⟨y.symm,v⟩);exact λD a=>⟨rfl,r,o,.inl a,f,Y⟩
  ·exact Jm ih hT V C Q B J l K λD a=>by rw[y];exact⟨rfl,fr,cs,.inr (.inl ⟨a,K.2⟩),E,I⟩
  ·obtain⟨kc,hkc⟩:=h13.rank;have G4:=Go.Conc.runT_crowd_spawn (P:=p) (sl:=nO) B ((J.step true _).trans h1);refine Y9.step (l.trans G4) ?_;have hC:=(C.at d).spawn h2 h3 h4 h5 h6 h7 h8 h9.1 h9.2 h11 f h12 hkc;have e:YW 0 (T.next s) fr tG es=(((MemOp.ofEvents 0 g.frame.fn g.frame.place es).push { g:=0,fn:=g.frame.fn,pos:=g.frame.place,act:=.go gs.size }).push { g:=gs.size,fn:=(cV tG []).frame.fn,pos:=g.frame.place,act:=.start }:Trace):=by rw[C.size,J.frm];rfl
   rw[e]at hC;refine ih _ ?_ _ _ _ _ _ _ _ _ _ rfl hC;rw[<-V];exact Zlp h8 _ _
  exact ZsM hT hG ih V C B J l y E G3
 | m+4,h=>exact h.elim
end
