import Derived.Test.YtmfealhfgccmfaaGreatDoorP08
import Derived.Conc.TokenTrace
set_option linter.all false
def GN{G:Prop}(h:G:=by obtain⟨iD,kY,w',H',es,RX,_⟩:=F1.1 false w ha.le;exact absurd RX (X7 (hw.step false w n hc))):G:=h
namespace Go.LL
section
variable{u:Trace}{n b:Nat}
open Go.Conc (Knows Deaf touchAt QuitsD crowd woken rcase scase recvd parked)
open Go.ConcN (sumTo upd sumTo_upd upd_ne upd_same)
section
variable{p:Program}{T:VG p}{G:Frame->List Frame->Hp->Prop}{N:Nat}{H0:Hp}{w0:World}{gs:Array Goroutine}{w:World}{t:Trace}{s:T.S}{Hs:Hp}{Hf:Nat->Hp}{md:Nat->Nat}{rk:Nat->Rk}
def VM(c n b:Nat)(a f:FuncId)(h l:String):Trace:=
 #[{ g:=0,fn:=a,pos:=h,act:=.send c n },{ g:=b,fn:=f,pos:=l,act:=.recv c n 0 },{ g:=0,fn:=a,pos:=h,act:=.sendDone c n },{ g:=b,fn:=f,pos:=l,act:=.recvDone c n }]
def ZfS{g:Nat}:∀(l:List MemOp) (t:Trace),(∀op∈l,op.g≠g)->Deaf (t++l.toArray) g=Deaf t g
 | [],t,_=>by simp
 | x :: l,t,h=>by
  have e:t++(x :: l).toArray=(t++#[x])++l.toArray:=by simp
  rw[e,ZfS l _ λop a=>h op (qAm _ a)];exact Go.Conc.Deaf_other t (g':=x.g) (h x qAB) _ (by simp)
def iQ.n7{t:Trace}{i:Nat}{H:Hp}(h:iQ t i H)(f:∀op∈u,op.act.touch? = none):iQ (t++u) i H:=h.own λop a=>.inr (f op a)
def Zuk{t:Trace}{c q:Nat}{a f:FuncId}{l m:String}(y:Deaf t 0=0)(hb:Deaf t b=0)(A:b≠0)(h:Knows t 0 q):Knows (t++VM c n b a f l m) b q:=by
 have o:(t++VM c n b a f l m)[t.size]? = some { g:=0,fn:=a,pos:=l,act:=.send c n }:=by simp[VM]
 have r:(t++VM c n b a f l m)[t.size+3]? = some { g:=b,fn:=f,pos:=m,act:=.recvDone c n }:=by simp[VM]
 have k1:=h.hb_new (u:=VM c n b a f l m) (DO _) o rfl;refine⟨_,_,r,rfl,.inr (k1.trans (.single (.inr ⟨.handOver (c:=c) (k:=n) (by simp[Trace.act?,o]) (by simp[Trace.act?,r]),?_,?_⟩)))⟩
 ·refine⟨0,by simp[Trace.g?,o],?_⟩;rw[Go.Conc.deaf_old (DO _)];exact y
 refine⟨b,by simp[Trace.g?,r],?_⟩;have v:(t++VM c n b a f l m)[t.size+1]? = some { g:=b,fn:=f,pos:=m,act:=.recv c n 0 }:=by simp[VM]
 have x:(t++VM c n b a f l m)[t.size+2]? = some { g:=0,fn:=a,pos:=l,act:=.sendDone c n }:=by simp[VM]
 rw[Go.Conc.deaf_succ x,Go.Conc.deaf_succ v,Go.Conc.deaf_succ o,Go.Conc.deaf_old (DO _)];exact hb
theorem g8.meet(hT:T.Sound)(C:g8 T G N H0 w0 gs w t s Hs Hf md rk)(hb:b<gs.size)(vM:b≠0){B:Array Goroutine}{w':World}{X:T.S}{Ke Kd:Frame}{Y Z:List Frame}{K R:Hp}{U gb:List Nat}{k0 kb:Rk}
  (e0:Hf 0=K.join R) (hc:K.Comp R) (hn:Hs T.ch=some (.chan 0 #[] false n n false,true)) (Tt:T.Inv X (Hs.ins T.ch (.chan 0 #[] false (n+1) (n+1) false)) (t++u))
  (W:∀j,T.tag X j=if j=0 then U else if j=b then gb else T.tag s j) (AK:T.next X=T.next s) (F0:T.more X<=T.more s) (qB:T.cls X=T.cls s) (Wl:∀j,T.Blk s j->T.Blk X j)
  (hw:w'.heap=w.heap.setIfInBounds T.ch (.chan 0 #[] false (n+1) (n+1) false)) (AJ:wE w w') (RR:∀op∈u,op.g=0\/op.g=b) (B0:∀op∈u,op.act.touch? = none) (Ru:∀op∈u,op.act.low w.heap.size)
  (hk:∀q,Knows t 0 q->Knows (t++u) b q) (hg0:B[0]? = some (gG Ke Y)) (Wa:B[b]? = some (gG Kd Z)) (DS:∀j,j≠0->j≠b->B[j]? = gs[j]?) (I:B.size=gs.size)
  (r0:jI (oG T.prgM G) k0 (Ke,Y,K.tagged U)) (a0:T.act U) (rb:jI (oG (T.prgW b) Vs) kb (Kd,Z,((Hf b).join R).tagged gb)) (ab:T.act gb) :
  g8 T G N H0 w0 B w' (t++u) X (Hs.ins T.ch (.chan 0 #[] false (n+1) (n+1) false)) (upd (upd Hf 0 (K.tagged U)) b (((Hf b).join R).tagged gb)) (upd (upd md 0 3) b 2) (upd (upd rk 0 k0) b kb):=by
 have hp:=C.pos;have We:T.ch<w.heap.size:=C.leS.lt hn;have Jh:∀j,Hf j T.ch=none:=by
  intro j;cases h:Hf j T.ch with
  | none=>rfl
  | some x=>
   obtain⟨e,e2⟩:=C.disS j _ _ _ h hn;rw[e]at e2;simp at e2
 have D:∀{α:Type} (f:Nat->α) (x y:α) (j:Nat),upd (upd f 0 x) b y j=if j=b then y else if j=0 then x else f j:=λ_ _ _ _=>rfl
 have l1:∀c x,K c=some x->Hf 0 c=some x:=λc x h=>by rw[e0];exact Hp.eN h
 have lm:∀c x,R c=some x->Hf 0 c=some x:=λc x h=>by rw[e0];exact Hp.fS hc h
 have src:∀j c x,upd (upd Hf 0 (K.tagged U)) b (((Hf b).join R).tagged gb) j c=some x->(Hf j c=some x)\/(j=b/\R c=some x):=by
  intro j c x h;rw[D]at h;split at h
  ·rename_i e;subst e;simp only[Hp.mZ,Hp.fW]at h;cases hh:Hf j c with
   | none=>rw[hh]at h;exact .inr ⟨rfl,h⟩
   | some z=>rw[hh]at h;exact .inl h
  split at h
  ·rename_i e;subst e;exact .inl (l1 _ _ h)
  exact .inl h
 have fst:∀c x,K.tagged U c=some x->K c=some x:=λc x h=>h;have V:∀j c x,upd (upd Hf 0 (K.tagged U)) b (((Hf b).join R).tagged gb) j c=some x->c≠T.ch:=by
  rintro j c x h rfl;rcases src _ _ _ h with h | ⟨_,h⟩
  ·rw[Jh]at h;simp at h
  have:=lm _ _ h;rw[Jh]at this;simp at this
 have E:∀c,c≠T.ch->w'.heap[c]? = w.heap[c]?:=λc h=>by rw[hw,qAg (qAo h)]
 have B6:∀j d,jU T B j d->jU T gs j d:=by
  rintro j d ⟨x,c,sh,hx,ho⟩;by_cases v:j=0
  ·subst v;rw[hg0]at hx;exact LC
  by_cases l:j=b
  ·subst l;rw[Wa]at hx;exact LC
  exact⟨x,c,sh,by rw[<-DS j v l];exact hx,ho⟩
 have A:∀j,j≠0->∀c x y,Hf 0 c=some x->Hf j c=some y->x=y/\x.2=false:=λj J c x y v l=>C.dis 0 j (qAo J) c x y v l;refine⟨by rw[I,AK];exact C.size,by rw[I];exact hp,by rw[I];have:=C.bound;omega,Tt,?_,?_,?_,?_,?_,?_,λsaid=>Go.Conc.noRace_appendMute (C.clean said) B0,?_,?_,?_,?_,C.out.trans AJ,?_,?_,?_,?_,λj k v l=>C.one j k (B6 _ _ v) (B6 _ _ l)⟩
 ·intro c o pm h;by_cases e:c=T.ch
  ·subst e;rw[Hp.aQ]at h;simp only[IF,qAX]at h;rw[hw,qAG We,h.1]
  rw[Hp.aR _ _ e]at h;rw[E c e];exact C.leS c o pm h
 ·intro j c o pm h;rw[E c (V _ _ _ h)];rcases src _ _ _ h with h | ⟨_,h⟩
  ·exact C.le j c o pm h
  exact C.le 0 c o pm (lm _ _ h)
 ·
  have key:∀j c x,upd (upd Hf 0 (K.tagged U)) b (((Hf b).join R).tagged gb) j c=some x->(j≠0/\Hf j c=some x)\/(j=0/\K c=some x)\/(j=b/\R c=some x):=by
   intro j c x h;by_cases e:j=0
   ·subst e;rw[D,iF (qAo vM),qAa rfl]at h;exact .inr (.inl ⟨rfl,h⟩)
   exact(src _ _ _ h).imp (λh=>⟨e,h⟩) .inr
  intro j j' pK c x y hx hy
  rcases key _ _ _ hx with⟨n1,L⟩ | ⟨rfl,L⟩ | ⟨rfl,L⟩<;>rcases key _ _ _ hy with⟨n2,P⟩ | ⟨rfl,P⟩ | ⟨rfl,P⟩
  ·exact C.dis j j' pK c x y L P
  ·obtain⟨e1,e2⟩:=A j n1 c y x (l1 _ _ P) L;exact⟨e1.symm,by rw[<-e1];exact e2⟩
  ·obtain⟨e1,e2⟩:=A j n1 c y x (lm _ _ P) L;exact⟨e1.symm,by rw[<-e1];exact e2⟩
  ·exact A j' n2 c x y (l1 _ _ L) P
  ·exact absurd rfl pK
  ·exact hc.mem c x y L P
  ·exact A j' n2 c x y (lm _ _ L) P
  ·exact hc.symm.mem c x y L P
  ·exact absurd rfl pK
 ·intro j c x y hx hy;rw[Hp.aR _ _ (V _ _ _ hx)]at hy;rcases src _ _ _ hx with h | ⟨_,h⟩
  ·exact C.disS j c x y h hy
  exact C.disS 0 c x y (lm _ _ h) hy
 ·intro j c o pm h;rcases src _ _ _ h with h' | ⟨rfl,h'⟩
  ·exact(C.perm j).n7 B0 c o pm h'
  intro q a hq hl hwr;obtain⟨x,hx,uF⟩:=Go.Conc.touch_of hq;rcases Go.Conc.getElem?_append_cases hx with⟨_,oK⟩ | ⟨_,KJ⟩
  ·exact hk q (C.perm 0 c o pm (lm _ _ h') q a (by rw[Go.Conc.touchAt_of oK];exact uF) hl hwr)
  rw[B0 x KJ]at uF;simp at uF
 ·intro j J;rw[I]at J;rw[W,D];by_cases v:j=0
  ·subst v;rw[qAa rfl,iF (qAo vM),qAa rfl];rfl
  rw[iF v];by_cases l:j=b
  ·rw[qAa l,qAa l];rfl
  rw[iF l,iF l,iF v];exact C.tag j J
 ·have hs:w'.heap.size=w.heap.size:=by rw[hw];simp
  exact Go.Conc.seen_app (λop F=>by rw[hs];exact C.low op F) λop F=>by rw[hs];exact Ru op F
 ·intro j J;rw[I]at J;obtain⟨u⟩:=u;rw[ZfS u t λop F=>by rcases RR op (by simpa using F)with h | h<;>omega];exact C.above j J
 ·intro j J c;rw[I]at J;rw[D,iF O,iF O];exact C.over j J c
 ·intro j J;rw[I]at J;rw[D,D,D];by_cases l:j=b
  ·rw[qAa l,qAa l,qAa l];subst l;exact⟨vM,Kd,Z,.inl Wa,rb,ab⟩
  rw[iF l,iF l,iF l];by_cases v:j=0
  ·rw[qAa v,qAa v,qAa v];subst v;exact⟨rfl,Ke,Y,.inl hg0,r0,a0⟩
  rw[iF v,iF v,iF v];have aw:∀fr cs,qH T s gs j fr cs->qH T X B j fr cs:=by intro fr cs h;unfold qH Pk at h ⊢;rw[DS j v l];refine h.imp id (qDD (λh=>⟨h.1,Wl j h.2⟩) ?_);rintro⟨d,c,sh,ho,hs,h⟩;refine⟨d,c,sh,ho,hs,h.imp (λ⟨L,P,a3⟩=>⟨L,qB.trans P,?_⟩) id⟩;rw[W,iF v,iF l];exact a3
  have h:=C.st j J;revert h;generalize md j=m;generalize rk j=r;intro h;match m,h with
  | 3,⟨h0,fr,cs,h3,h4⟩=>exact⟨h0,fr,cs,aw _ _ h3,h4⟩
  | 2,⟨h0,fr,cs,h3,h4⟩=>exact⟨h0,fr,cs,aw _ _ h3,h4⟩
  | 1,⟨h0,fr,cs,h3,h4⟩=>exact⟨h0,fr,cs,aw _ _ h3,h4⟩
  | 0,⟨Ww,sS,Wv,x,q,h3,h4,h5⟩=>
   refine⟨Ww,sS,Wv,x,q,by rw[DS j v l];exact h3,?_,h5⟩;obtain⟨u⟩:=u;rw[ZfS u t λop F=>by rcases RR op (by simpa using F)with h | h<;>omega];exact h4
 ·rw[hw];simpa using C.grown
 ·intro c SQ hnw;have hcc:c≠T.ch:=by
   rintro rfl;rcases C.orgS _ _ hn with h | ⟨z,hz,he⟩
   ·omega
   rcases hz with hz | hz
   ·obtain⟨zo,zp⟩:=z;cases zp with
    | true=>exact hnw zo hz
    | false=>have:=he rfl;simp at this
   simp[Hp.nil]at hz
  rw[E c hcc];exact C.keep c SQ hnw
 ·intro j c x h;rcases src _ _ _ h with h | ⟨_,h⟩
  ·exact C.org j c x h
  exact C.org 0 c x (lm _ _ h)
 intro c x h;by_cases e:c=T.ch
 ·subst e;rcases C.orgS _ _ hn with h' | ⟨z,hz,he⟩
  ·exact .inl h'
  refine .inr ⟨z,hz,λhf=>?_⟩;have:=he hf;rw[<-this]at hf;simp at hf
 rw[Hp.aR _ _ e]at h;exact C.orgS c x h
end
end
section
variable{d send:Bool}{c:CommCase}{sh:CommShape}{g:Goroutine}{k j i b:Nat}{cs:List Frame}{fr:Frame}
open Go.Conc (Knows Deaf touchAt QuitsD crowd woken rcase scase recvd parked ph offersAt)
open Go.ConcN (sumTo upd sumTo_upd upd_ne upd_same)
section
variable{p:Program}{T:VG p}{G:Frame->List Frame->Hp->Prop}{N:Nat}{H0:Hp}{w0:World}{gs:Array Goroutine}{w:World}{t:Trace}{s:T.S}{Hs:Hp}{Hf:Nat->Hp}{md:Nat->Nat}{rk:Nat->Rk}
def ZtJ(a:lQ T d c sh)(h:k∈offersAt (parked g #[c] sh) T.ch send):k=0/\send=d:=by
 rcases a with⟨rfl,v,z,rfl,_⟩ | ⟨rfl,z,f,rfl,_⟩<;>cases send
 ·rw[Go.Conc.offersAt_parked_send']at h;simp at h
 ·rw[Go.Conc.offersAt_parked_send,qAa rfl]at h;simpa using h
 ·rw[Go.Conc.offersAt_parked_recv,qAa rfl]at h;simpa using h
 rw[Go.Conc.offersAt_parked_recv']at h;simp at h
def ZtK(a:lQ T d c sh):0∈offersAt (parked g #[c] sh) T.ch d:=by
 rcases a with⟨rfl,v,z,rfl,_⟩ | ⟨rfl,z,f,rfl,_⟩
 ·rw[Go.Conc.offersAt_parked_send,qAa rfl];simp
 rw[Go.Conc.offersAt_parked_recv,qAa rfl];simp
structure wC(T:VG p)(G:Frame->List Frame->Hp->Prop)(gs:Array Goroutine)(s:T.S)(Hf:Nat->Hp)(md:Nat->Nat)(rk:Nat->Rk)(j:Nat)(d:Bool)(fr:Frame)(cs:List Frame)(c:CommCase)(sh:CommShape):Prop where
 at_:gs[j]? = some (parked (gG fr cs) #[c] sh)
 tH:lQ T d c sh
 step:∀main w n,w.heap[T.ch]? = some (.chan 0 #[] false n n false)->stepG p main (gG fr cs) w=.comm (gG fr cs) #[c] true sh w #[]
 cls:T.cls s=false
 can:T.can d (T.tag s j)
 sta:(md j=3/\j=0/\jI (oG T.prgM G) (rk j) (fr,cs,Hf j))\/(md j=2/\j≠0/\jI (oG (T.prgW j) Vs) (rk j) (fr,cs,Hf j))
def La{f:Goroutine}{cs a:Array CommCase}{FS:CommShape}(h:parked g cs sh=parked f a FS):g.frame=f.frame/\g.callers=f.callers/\cs=a/\sh=FS:=by have m:=qAx Goroutine.frame h;have o:=qAx Goroutine.callers h;have l:=qAx Goroutine.offers h;simp only[parked,IF,qAX]at m o l;exact⟨m,o,l.1,l.2⟩
def g8.offers(hT:T.Sound)(C:g8 T G N H0 w0 gs w t s Hs Hf md rk)(r:gs[j]? = some g)(hb:g.status=.blocked)(I:g.offers≠none):∃d fr cs c sh,wC T G gs s Hf md rk j d fr cs c sh/\g=parked (gG fr cs) #[c] sh:=by
 have D:j<gs.size:=(qAC.1 r).1;have y:∀fr cs,qH T s gs j fr cs->∃d c sh,g=parked (gG fr cs) #[c] sh/\lQ T d c sh/\(∀main w n,w.heap[T.ch]? = some (.chan 0 #[] false n n false)->stepG p main (gG fr cs) w=.comm (gG fr cs) #[c] true sh w #[])/\T.cls s=false/\T.can d (T.tag s j):=by
  rintro fr cs (h | ⟨h,_⟩ | ⟨d,c,sh,a,o,⟨h,l,B⟩ | ⟨h,_⟩⟩)<;>(rw[r]at h;obtain rfl:=aT h)
  ·simp at hb
  ·exact absurd rfl I
  ·exact⟨d,c,sh,rfl,a,o,l,B⟩
  simp at hb
 have h:=C.st j D;revert h;generalize F:md j=m;generalize E:rk j=k;intro h;match m,h with
 | 3,⟨A,fr,cs,a,o,_⟩=>
  obtain⟨d,c,sh,rfl,v,a3,a4,f⟩:=y _ _ a;exact⟨d,fr,cs,c,sh,⟨r,v,a3,a4,f,.inl ⟨F,A,by rw[E];exact o⟩⟩,rfl⟩
 | 2,⟨A,fr,cs,a,o,_⟩=>
  obtain⟨d,c,sh,rfl,v,a3,a4,f⟩:=y _ _ a;exact⟨d,fr,cs,c,sh,⟨r,v,a3,a4,f,.inr ⟨F,A,by rw[E];exact o⟩⟩,rfl⟩
 | 1,⟨_,fr,cs,a,_,l,_⟩=>
  obtain⟨d,c,sh,rfl,v,a3,a4,f⟩:=y _ _ a;rw[C.tag j D]at f;exact absurd l (hT.pG _ (hT.qO f))
 | 0,⟨_,_,_,x,q,l,B,_⟩=>
  rw[r]at l;obtain rfl:=aT l;rcases B.status with h | h<;>rw[h]at hb<;>simp at hb
def g8.sL(hT:T.Sound)(C:g8 T G N H0 w0 gs w t s Hs Hf md rk)(h:(j,k)∈partners (gs.setIfInBounds i ph) T.ch send):k=0/\j≠i/\∃fr cs c sh,wC T G gs s Hf md rk j send fr cs c sh:=by
 obtain⟨g,o,a⟩:=Go.Conc.mem_partners.1 h;rcases Go.Conc.getElem?_stand gs i j g o with⟨_,rfl⟩ | ⟨l,f⟩
 ·rw[Go.Conc.offersAt_ph]at a;simp at a
 have hb:g.status=.blocked:=qAb λhb=>by rw[Go.Conc.offersAt_of_not_blocked hb]at a;simp at a
 have q:g.offers≠none:=by intro e;unfold offersAt at a;rw[hb,e]at a;simp at a
 obtain⟨d,fr,cs,c,sh,m,rfl⟩:=C.offers hT f hb q;obtain⟨rfl,rfl⟩:=ZtJ m.tH a;exact⟨rfl,l,fr,cs,c,sh,m⟩
def g8.uU(C:g8 T G N H0 w0 gs w t s Hs Hf md rk)(a:j≠i)(h:jU T gs j d):(j,0)∈partners (gs.setIfInBounds i ph) T.ch d:=by obtain⟨g,c,sh,f,l⟩:=h;exact Go.Conc.mem_partners.2 ⟨_,Go.Conc.stand_get a f,ZtK l⟩
def zC.congr{a:Array Goroutine}{m:Nat}{H:Hp}{k:Rk}(e:a[j]? = gs[j]?)(h:zC T G gs t s j H m k):zC T G a t s j H m k:=by
 have r:∀fr cs,qH T s gs j fr cs->qH T s a j fr cs:=λfr cs h=>by unfold qH Pk at h ⊢;rw[e];exact h
 match m,h with
 | 3,⟨f,fr,cs,l,o⟩=>exact⟨f,fr,cs,r _ _ l,o⟩
 | 2,⟨f,fr,cs,l,o⟩=>exact⟨f,fr,cs,r _ _ l,o⟩
 | 1,⟨f,fr,cs,l,o⟩=>exact⟨f,fr,cs,r _ _ l,o⟩
 | 0,⟨f,l,o,x,q,v,y⟩=>exact⟨f,l,o,x,q,by rw[e];exact v,y⟩
def g8.Qs(C:g8 T G N H0 w0 gs w t s Hs Hf md rk)(P:i<gs.size)(Q:lQ T d c sh)(m:∀k,k≠i->jU T gs k (!d)->False)
  (r:∀h:Array Goroutine,h[i]? = some (parked (gG fr cs) #[c] sh)->zC T G h t s i (Hf i) (md i) (rk i)):g8 T G N H0 w0 (gs.setIfInBounds i (parked (gG fr cs) #[c] sh)) w t s Hs Hf md rk:=by
 have a:(gs.setIfInBounds i (parked (gG fr cs) #[c] sh)).size=gs.size:=by simp
 have l:(gs.setIfInBounds i (parked (gG fr cs) #[c] sh))[i]? = some (parked (gG fr cs) #[c] sh):=qAG P;have q:∀j y,jU T (gs.setIfInBounds i (parked (gG fr cs) #[c] sh)) j y->(j=i/\y=d)\/(j≠i/\jU T gs j y):=by
  rintro j y ⟨x,F,FS,A,o⟩;by_cases e:j=i
  ·subst e;rw[l]at A;obtain⟨_,_,J,K⟩:=La (aT A);obtain rfl:c=F:=by simpa using J
   subst K;refine .inl ⟨rfl,?_⟩;rcases Q with⟨rfl,v,z,rfl,_⟩ | ⟨rfl,z,f,rfl,_⟩<;>rcases o with⟨rfl,X,V,B,_⟩ | ⟨rfl,V,W,B,_⟩
   ·rfl
   ·have:=qAx CommCase.send B;simp[scase,rcase]at this
   ·have:=qAx CommCase.send B;simp[scase,rcase]at this
   rfl
  rw[qAg (qAo e)]at A;exact .inr ⟨e,x,F,FS,A,o⟩
 refine⟨by rw[a];exact C.size,by rw[a];exact C.pos,by rw[a];exact C.bound,C.inv,C.leS,C.le,C.dis,C.disS,C.perm,by rw[a];exact C.tag,C.clean,C.low,by rw[a];exact C.above,by rw[a];exact C.over,?_,C.out,C.grown,C.keep,C.org,C.orgS,?_⟩
 ·intro j I;rw[a]at I;by_cases e:j=i
  ·subst e;exact r _ l
  exact(C.st j I).congr (qAg (qAo e))
 intro j k L O;rcases q _ _ L with⟨rfl,rfl⟩ | ⟨R,D⟩<;>rcases q _ _ O with⟨rfl,e⟩ | ⟨U,E⟩
 ·simp at e
 ·exact m k U E
 ·subst e;exact m j R D
 exact C.one j k D E
def Zh6{M:Ms}(ih:∀F,rJ N F M->∀gs w sl t s Hs Hf md rk,lL (T:=T) s gs md rk=F->g8 T G N H0 w0 gs w t s Hs Hf md rk->Vm T G N H0 w0 (crowd gs w sl) t)
  (hT:T.Sound) (R:lL s gs md rk=M) (C:g8 T G N H0 w0 gs w t s Hs Hf md rk) (A:i<gs.size) {sl nX:Option (Nat×Nat)} {e:Nat} (I:gs[i]? = some g) (L:PJ p g fr cs)
  (D:stepT p (crowd gs w sl)=runT p (crowd gs (w.at e) nX) i) (K:lQ T d c sh) (q:T.cls s=false)
  (m:∀main w n,w.heap[T.ch]? = some (.chan 0 #[] false n n false)->stepG p main (gG fr cs) w=.comm (gG fr cs) #[c] true sh w #[]) (l:partners (gs.setIfInBounds i ph) T.ch (!d)=[])
  (r:∀o:Array Goroutine,o[i]? = some (parked (gG fr cs) #[c] sh)->zC T G o t s i (Hf i) (md i) (rk i)):Vm T G N H0 w0 (crowd gs w sl) t:=by
 obtain⟨n,J⟩:=hT.chan C.inv;rw[q]at J;have x:=(C.at e).leS _ _ _ J;have a:runT p (crowd gs (w.at e) nX) i=(.next (crowd (gs.setIfInBounds i (parked (gG fr cs) #[c] sh)) (w.at e) nX),MemOp.ofEvents i g.frame.fn g.frame.place #[]):=by
  refine Go.Conc.crowd_waits I ((L.step _ _).trans (m _ _ n x)) λO y=>?_;obtain rfl:O=c:=by simpa using y
  rcases K with⟨rfl,v,z,rfl,_⟩ | ⟨rfl,z,f,rfl,_⟩
  ·exact Go.Conc.ways_send_none x (qBf _) l
  exact Go.Conc.ways_recv_none x l
 have P:MemOp.ofEvents i g.frame.fn g.frame.place #[]=#[]:=by simp[Go.Conc.ofEvents_eq]
 rw[P]at a;refine Vm.step (D.trans a) ?_;rw[qAw];have Q:=(C.at e).Qs A K (λk U h=>by have:=(C.at e).uU U h;rw[l]at this;simp at this) r;refine ih _ ?_ _ _ _ _ _ _ _ _ _ rfl Q;rw[<-R];unfold lL;have E:(gs.setIfInBounds i (parked (gG fr cs) #[c] sh)).size=gs.size:=by simp
 rw[E];refine XW (DO _) (.inr ⟨rfl,.inr ⟨rfl,?_⟩⟩);have:nM (gs.setIfInBounds i (parked (gG fr cs) #[c] sh))=upd (nM gs) i 0:=by
  funext j;rw[V9];unfold nM;by_cases B:j=i
  ·subst B;simp[A,parked]
  rw[iF B,qAg (qAo B)]
 rw[this];exact Zez A (by simp[nM,I,L.st])
def g8.pair(hT:T.Sound)(C:g8 T G N H0 w0 gs w t s Hs Hf md rk)(hb:b<gs.size)(F:b≠0)(o:T.cls s=false){R0 Rb:Frame->List Frame->Hp->Prop}{D E:Frame}{A B:List Frame}
  (h0:OZ T R0 D A (Hf 0)) (h1:O0 T Rb E B (Hf b)) :
  ∃(v z zb:Value) (f:Bool) (n:Nat),(∀main w n,w.heap[T.ch]? = some (.chan 0 #[] false n n false)->stepG p main (gG D A) w=.comm (gG D A) #[scase T.ch v z] true .send w #[]) /\
   (∀main w n cl,w.heap[T.ch]? = some (.chan 0 #[] cl n n false)->stepG p main (gG E B) w=.comm (gG E B) #[rcase T.ch zb] true (.recv f) w #[])/\w.heap[T.ch]? = some (.chan 0 #[] false n n false) /\
   ∀(m:Array Goroutine) (U:World) (O P:FuncId) (Q R:String),U.heap=w.heap.setIfInBounds T.ch (.chan 0 #[] false (n+1) (n+1) false)->wE w U->m[0]? = some (gG (D.finish undef) A)->m[b]? = some (gG (E.finish (recvd f v true)) B) ->
    (∀j,j≠0->j≠b->m[j]? = gs[j]?)->m.size=gs.size->(∀fr cs H,R0 fr cs H->∃k,jI (oG T.prgM G) k (fr,cs,H))->(∀fr cs H,Rb fr cs H->∃k,jI (oG (T.prgW b) Vs) k (fr,cs,H)) ->
    ∃s' W V Rc Qi,g8 T G N H0 w0 m U (t++VM T.ch n b O P Q R) s' W V Rc Qi/\T.more s'<T.more s:=by
 obtain⟨c0,v,z,g',H1,Hm,s0,e0,hc,Ty,hp,a0,r0⟩:=h0
 obtain⟨X,zb,f,sb,hr,_,_⟩:=h1
 obtain⟨n,J⟩:=hT.chan C.inv
 rw[o]at J
 have r:=C.pos
 have t0:=C.tag 0 r
 have tb:=C.tag b hb
 rw[<-t0]at c0 hp
 rw[<-tb]at X hr
 obtain⟨s',gb,q1,q2,q3,q4,q5,q6,q7⟩:=hT.meet (b:=b) (n:=n) C.inv (by rw[<-C.size];exact r) (by rw[<-C.size];exact hb) F o J c0 X hp
 have hd:(Hf b).Dis Hm:=λc x y hx hy=>C.dis b 0 F c x y hx (by rw[e0];exact Hp.fS hc hy)
 obtain⟨ab,rb⟩:=hr gb v Hm Ty hd q1
 have I:T.ch<w.heap.size:=C.leS.lt J
 refine⟨v,z,zb,f,n,s0,sb,C.leS _ _ _ J,?_⟩
 intro m U O P Q R hw L g1 g2 g3 g4 Y Z
 obtain⟨k0,k0r⟩:=Y _ _ _ r0
 obtain⟨kb,kbr⟩:=Z _ _ _ rb
 have a:∀op∈VM T.ch n b O P Q R,(op.g=0\/op.g=b)/\(op.act=.send T.ch n\/op.act=.recv T.ch n 0\/op.act=.sendDone T.ch n\/op.act=.recvDone T.ch n):=by intro op K;simp only[VM,qAk,qAi,qBD,qCV]at K;rcases K with rfl | rfl | rfl | rfl<;>simp
 have hC:=C.meet hT (u:=VM T.ch n b O P Q R) hb F e0 hc J (q7 _ (λop h=>(a op h).1) λop h=>(a op h).2) q2 q3 (qDh q4) (q5.trans o.symm) q6 hw L (λop h=>(a op h).1)
  (λop h=>by rcases(a op h).2 with e | e | e | e<;>rw[e]<;>rfl) (λop h=>by rcases(a op h).2 with e | e | e | e<;>rw[e]<;>exact I)
  (λq hq=>Zuk (hT.hears C.inv (by rw[<-C.size];exact r) c0) (hT.hears C.inv (by rw[<-C.size];exact hb) X) F hq) g1 g2 g3 g4 k0r a0 kbr ab
 exact⟨_,_,_,_,_,hC,q4⟩
theorem Ae{v:Value}:Go.Conc.served (gG fr cs) v=gG (fr.finish v) cs:=rfl
def X7{w f:World}{main:Bool}{es a:Array Event}(h:stepG p main (gG fr cs) w=.comm (gG fr cs) #[c] true sh w es):stepG p main (gG fr cs) w≠.go g f a:=by rw[h];intro e;cases e
section
variable(hT:T.Sound)(C:g8 T G N H0 w0 gs w t s Hs Hf md rk)
include hT C
theorem g8.rcv_of(hw:wC T G gs s Hf md rk b false fr cs c sh) :
  b≠0/\b<gs.size/\O0 T (λa e f=>∃B,Rk.lt B (rk b)/\jI (oG (T.prgW b) Vs) B (a,e,f)) fr cs (Hf b):=by
 have hb:b<gs.size:=(qAC.1 hw.at_).1;have x:b<T.next s:=by rw[<-C.size];exact hb
 have o:=hT.FU C.inv x hw.can;refine⟨o,hb,?_⟩;obtain⟨n,A⟩:=hT.chan C.inv;rw[hw.cls]at A;have hc:=C.leS _ _ _ A;have ha:=C.ahead hb;have r:=C.tag b hb;rcases hw.sta with⟨_,e,_⟩ | ⟨_,_,y⟩
 ·exact absurd e o
 rcases jI.step oG.mono y with q | F1 | ⟨_,m⟩
 ·exact q.elim
 ·exact GN
 have l:=hT.qO hw.can;rw[r]at l;rcases m with⟨d,hd,_⟩ | ⟨_,m⟩ | ⟨E,_⟩ | ⟨_,h⟩
 ·rw[show(Hf b).gh=lv d from hd]at l;exact absurd l (hT.uA d)
 ·rcases m s Hs t w ha with⟨iD,kY,w',H',F,D,es,v,_⟩ | ⟨v,_⟩
  ·exact absurd v (X7 (hw.step _ w n hc))
  exact absurd v (X7 (hw.step _ w n hc))
 ·exact absurd E (hT.pG _ l)
 exact h
theorem g8.snd_of(hw:wC T G gs s Hf md rk j true fr cs c sh)(hG:∀fr cs H,G fr cs H->¬ T.can true H.gh) :
  j=0/\OZ T (λa e f=>∃x,Rk.lt x (rk 0)/\jI (oG T.prgM G) x (a,e,f)) fr cs (Hf 0):=by
 have o:j<gs.size:=(qAC.1 hw.at_).1;obtain rfl:=hT.FT C.inv (by rw[<-C.size];exact o) hw.can;refine⟨rfl,?_⟩;obtain⟨n,v⟩:=hT.chan C.inv;rw[hw.cls]at v;have hc:=C.leS _ _ _ v;have ha:=C.ahead o;rcases hw.sta with⟨_,_,q⟩ | ⟨_,e,_⟩
 ·rcases jI.step oG.mono q with A | F1 | ⟨_,r⟩
  ·have:=hw.can;rw[C.tag 0 o]at this;exact absurd this (hG _ _ _ A)
  ·exact GN
  rcases r s Hs t w ha with⟨iD,kY,w',H',B,m,es,l,_⟩ | ⟨l,_⟩ | ⟨iD,kY,y,w',H',D,B,m,es,l,_⟩ | h
  ·exact absurd l (X7 (hw.step _ w n hc))
  ·exact absurd l (X7 (hw.step _ w n hc))
  ·rw[hw.step true w n hc]at l;cases l
  exact h
 exact absurd rfl e
end
end
end
section
variable{g:Goroutine}{cs:List Frame}{sh FS:CommShape}{d:Bool}{z:Value}{M:Ms}{sl nX:Option (Nat×Nat)}{e:Nat}{fr:Frame}
open Go.Conc (Knows Deaf touchAt QuitsD crowd woken rcase scase recvd parked ph offersAt)
open Go.ConcN (sumTo upd sumTo_upd upd_ne upd_same)
section
variable{p:Program}{T:VG p}{G:Frame->List Frame->Hp->Prop}{N:Nat}{H0:Hp}{w0:World}{gs:Array Goroutine}{w:World}{t:Trace}{s:T.S}{Hs:Hp}{Hf:Nat->Hp}{md:Nat->Nat}{rk:Nat->Rk}
theorem Zhd{l:Goroutine}{cs a:Array CommCase}(h:parked g cs sh=parked l a FS)(v:Value):Go.Conc.served g v=Go.Conc.served l v:=by obtain⟨m,o,_,_⟩:=La h;have f:=qAx Goroutine.dying h;simp only[parked]at f;obtain⟨q,r,a3,a4,x⟩:=g;obtain⟨y,A,B,D,E⟩:=l;simp only at m o f;subst m o f;rfl
theorem Lm{c a:CommCase}{w:World}(h:GStep.comm g #[c] true sh w #[]=GStep.comm g #[a] true FS w #[]):c=a/\sh=FS:=by simp only[GStep.comm.injEq,qEa,qCw]at h;exact⟨by simpa using h.1,h.2⟩
theorem lQ.sH(h:lQ T d (rcase T.ch z) sh):d=false:=by
 rcases h with⟨_,v,a,e,_⟩ | ⟨e,_⟩
 ·have:=qAx CommCase.send e;simp[scase,rcase]at this
 exact e
theorem lQ.snd{v:Value}(h:lQ T d (scase T.ch v z) sh):d=true:=by
 rcases h with⟨e,_⟩ | ⟨_,a,f,e,_⟩
 ·exact e
 have:=qAx CommCase.send e;simp[scase,rcase]at this
variable(hT:T.Sound)(hG:∀fr cs H,G fr cs H->¬ T.can true H.gh)
include hT hG
theorem Zh7(ih:∀v,rJ N v M->∀gs w sl t s Hs Hf md rk,lL (T:=T) s gs md rk=v->g8 T G N H0 w0 gs w t s Hs Hf md rk->Vm T G N H0 w0 (crowd gs w sl) t)
  (A:lL s gs md rk=M) {l:Array Goroutine} {x:World} {u:Trace} (q:stepT p (crowd gs w sl)=(.next (crowd l x nX),u))
  (h:∃r f a m o,g8 T G N H0 w0 l x (t++u) r f a m o/\T.more r<T.more s):Vm T G N H0 w0 (crowd gs w sl) t:=by
 obtain⟨r,f,a,m,o,y,B⟩:=h;refine Vm.step q (ih _ ?_ _ _ _ _ _ _ _ _ _ rfl y);rw[<-A];exact Zlc B _ _
theorem Zs5(ih:∀X,rJ N X M->∀gs w sl t s Hs Hf md rk,lL (T:=T) s gs md rk=X->g8 T G N H0 w0 gs w t s Hs Hf md rk->Vm T G N H0 w0 (crowd gs w sl) t)
  (hM:lL s gs md rk=M) (C:g8 T G N H0 w0 gs w t s Hs Hf md rk) (hg:gs[0]? = some g) (hr:PJ p g fr cs)
  (I:stepT p (crowd gs w sl)=runT p (crowd gs (w.at e) nX) 0) (R:md 0=3) (W:jI (oG T.prgM G) (rk 0) (fr,cs,Hf 0))
  (h:OZ T (λa e f=>∃k',Rk.lt k' (rk 0)/\jI (oG T.prgM G) k' (a,e,f)) fr cs (Hf 0)):Vm T G N H0 w0 (crowd gs w sl) t:=by
 have J:=C.pos;have h':=h;obtain⟨x,v,z,_,_,_,r,_⟩:=h';have o:T.can true (T.tag s 0):=by rw[C.tag 0 J];exact x
 have m:=hT.FO C.inv (by rw[<-C.size];exact J) o;obtain⟨n,U⟩:=hT.chan C.inv;rw[m]at U;have hc:=(C.at e).leS _ _ _ U;by_cases E:partners (gs.setIfInBounds 0 ph) T.ch false=[]
 ·refine Zh6 ih hT hM C J hg hr I (d:=true) (.inl ⟨rfl,v,z,rfl,rfl⟩) m r E λKb D=>?_;rw[R];exact⟨rfl,fr,cs,.inr (.inr ⟨true,_,_,.inl ⟨rfl,v,z,rfl,rfl⟩,r,.inl ⟨D,m,o⟩⟩),W,hT.qO x⟩
 obtain⟨j,Z,zj,shj,d',SI,hj,q⟩:=Go.Conc.crowd_send_meets_some (P:=p) (w:=w.at e) (sl:=nX) hg ((hr.step true _).trans (r true _ n hc)) hc E (λj k Q=>by
  obtain⟨rfl,V,L,K,c,sh,y⟩:=(C.at e).sL hT Q;refine⟨rfl,V,?_⟩;rcases y.tH with⟨e,_⟩ | ⟨_,z',f,rfl,rfl⟩
  ·cases e
  exact⟨_,_,_,y.at_⟩)
 obtain⟨d,L,K,c,sh,y,A⟩:=C.offers hT hj rfl (by simp[parked]);obtain⟨_,_,e1,e2⟩:=La A;obtain rfl:rcase T.ch zj=c:=by simpa using e1
 subst e2;obtain rfl:=y.tH.sH;obtain⟨B,hb,F⟩:=C.rcv_of hT y;obtain⟨v2,z2,zb,Y,n2,k1,k2,k3,k4⟩:=C.pair hT hb B m h F;have l:=C.leS _ _ _ U;obtain⟨x1,_⟩:=Lm ((r true w n l).symm.trans (k1 true w n l));have ev:v=v2:=by have:=qAx CommCase.send x1;simpa[scase]using this
 obtain⟨_,x2⟩:=Lm ((y.step true w n l).symm.trans (k2 true w n false l));have en:n=n2:=by rw[k3]at l;simp at l;exact l.symm
 subst ev x2 en;rw[Go.Conc.finishComm_recv,Go.Conc.finishComm_send,Ae,Zhd A,Ae]at q;have eo:MemOp.ofEvents 0 g.frame.fn g.frame.place #[]=#[]:=by simp[Go.Conc.ofEvents_eq]
 rw[eo,qCE]at q;refine Zh7 hT hG ih hM (I.trans q) ?_;have xT:gs.size≠0:=O;refine k4 _ _ (gG fr cs).frame.fn Z.frame.fn (gG fr cs).frame.place Z.frame.place rfl ⟨.refl _,rfl,rfl⟩ ?_ ?_ ?_ ?_ (λa b c ⟨k,_,h⟩=>⟨k,h⟩) (λa b c ⟨k,_,h⟩=>⟨k,h⟩)
 ·exact qAG (by simpa using J)
 ·rw[qAg (qAo B)];exact qAG hb
 ·intro j' h1 h2;rw[qAg (qAo h1),qAg (qAo h2)]
 simp
def uT:Goroutine:={ (default:Goroutine)with frame:={ (default:Frame)with mode:=.run,todo:=[] } }
omit hT hG in
theorem Zsv:mayWake p uT=false:=rfl
theorem Zs6(ih:∀M',rJ N M' M->∀gs w sl t s Hs Hf md rk,lL (T:=T) s gs md rk=M'->g8 T G N H0 w0 gs w t s Hs Hf md rk->Vm T G N H0 w0 (crowd gs w sl) t)
  (hM:lL s gs md rk=M) (C:g8 T G N H0 w0 gs w t s Hs Hf md rk) {i:Nat} (F:i<gs.size) (I:i≠0) (hg:gs[i]? = some g) (hr:PJ p g fr cs)
  (U:stepT p (crowd gs w sl)=runT p (crowd gs (w.at e) nX) i) (hmd:md i=2) (R4:jI (oG (T.prgW i) Vs) (rk i) (fr,cs,Hf i))
  (h:O0 T (λa e f=>∃k',Rk.lt k' (rk i)/\jI (oG (T.prgW i) Vs) k' (a,e,f)) fr cs (Hf i)):Vm T G N H0 w0 (crowd gs w sl) t:=by
 have h':=h;obtain⟨L,z,r,B,_,Z,qB⟩:=h';have SL:i<T.next s:=by rw[<-C.size];exact F
 have A:T.can false (T.tag s i):=by rw[C.tag i F];exact L
 obtain⟨n,hn⟩:=hT.chan C.inv;have v:=C.leS _ _ _ hn;have W:=(C.at e).leS _ _ _ hn;have eo:MemOp.ofEvents i g.frame.fn g.frame.place #[]=#[]:=by simp[Go.Conc.ofEvents_eq]
 cases l:T.cls s with
 | true=>
  rw[l]at W;have J:partners (gs.setIfInBounds i ph) T.ch true=[]:=by refine Go.Conc.partners_nil λj x D=>?_;refine qAb λR=>?_;obtain⟨k,hk⟩:=qBu _ R;obtain⟨_,_,_,_,_,_,O⟩:=(C.at e).sL hT (Go.Conc.mem_partners.2 ⟨x,D,hk⟩);rw[O.cls]at l;simp at l
  have y:=Go.Conc.crowd_recv_closed (P:=p) (w:=w.at e) (sl:=nX) hg ((hr.step _ _).trans (B _ _ n true W)) W J;rw[Go.Conc.finishComm_recv,Ae,eo,qCE]at y;refine Vm.step (U.trans y) ?_;obtain⟨s',q1,q2,q3,q4,q5,q6⟩:=hT.FR C.inv SL l A;obtain⟨k',pS,Jo⟩:=qB;have q:∀op∈(#[{ g:=i,fn:=(gG fr cs).frame.fn,pos:=(gG fr cs).frame.place,act:=.recvClosed T.ch }]:Trace),op.g=i/\op.act=.recvClosed T.ch:=by intro op o;simp only[qAk,iO]at o;subst o;exact⟨rfl,rfl⟩
  have Y:=(C.at e).ahead F;have hm:jZ T i s Hs t (w.at e) (Hf i) (#[{ g:=i,fn:=(gG fr cs).frame.fn,pos:=(gG fr cs).frame.place,act:=.recvClosed T.ch }]:Trace) s' Hs (w.at e):=
   ⟨DO _,λ_ _ _ _=>rfl,Y.leS,λb x D=>.inr ⟨x,.inr D,λ_=>rfl⟩,.refl _,λop o x D=>by rw[(q op o).2]at D;simp[MemAct.touch?]at D,
    λ_ _ _ _ op o x D=>by rw[(q op o).2]at D;simp[MemAct.touch?]at D,λop o=>by rw[(q op o).2];exact Y.leS.lt hn,q6 _ q⟩
  have DR:kN i Hs (w.at e) (Hf i) (t++(#[{ g:=i,fn:=(gG fr cs).frame.fn,pos:=(gG fr cs).frame.place,act:=.recvClosed T.ch }]:Trace)) Hs (w.at e) ((Hf i).tagged (T.shut (T.tag s i))):=
   ⟨Y.le,Y.dis,λb x D=>.inr ⟨x,.inl D,λ_=>rfl⟩,Y.perm.own λop o=>.inl (q op o).1⟩
  have ew:∀g' w',woken p uT g' w'=id:=λg' w'=>by funext x;simp[woken,Zsv]
  have K:T.shut (T.tag s i)=T.shut (Hf i).gh:=by rw[C.tag i F]
  have hC:=(C.at e).go hT F (g:=uT) (g':=gG (fr.finish (recvd r z false)) cs) (λop o=>(q op o).1) hm DR (λj=>by rw[q1];rfl) q2 q3 (.inr q5) (.inl (q4.trans l.symm)) (.inr rfl) (m:=2) (k:=k')
   ⟨I,_,_,.inl (Ma F _ _),by rw[K];exact Jo,by show T.act (T.shut (T.tag s i));rw[K];exact Z⟩
  rw[ew,Array.map_id]at hC;refine ih _ ?_ _ _ _ _ _ _ _ _ _ rfl hC;rw[<-hM];unfold lL;have xT:(gs.setIfInBounds i (gG (fr.finish (recvd r z false)) cs)).size=gs.size:=by simp
  rw[xT];refine XW q3 (.inr ⟨by rw[<-hmd,QG],.inl (ZeY (qAY F (by have:=C.bound;omega)) pS)⟩)
 | false=>
  rw[l]at W hn v;by_cases J:partners (gs.setIfInBounds i ph) T.ch true=[]
  ·refine Zh6 ih hT hM C F hg hr U (d:=false) (.inr ⟨rfl,z,r,rfl,rfl⟩) l (λmain w n h=>B main w n false h) J λKb Tx=>?_;rw[hmd];exact⟨I,fr,cs,.inr (.inr ⟨false,_,_,.inr ⟨rfl,z,r,rfl,rfl⟩,λmain w n h=>B main w n false h,.inl ⟨Tx,l,A⟩⟩),R4,hT.qO L⟩
  obtain⟨j,gj,vj,zj,shj,d',SI,hj,y⟩:=Go.Conc.crowd_recv_meets_some (P:=p) (w:=w.at e) (sl:=nX) hg ((hr.step _ _).trans (B _ _ n false W)) W J (λj k KU=>by
   obtain⟨rfl,R,Kd,csb,c,sh,O⟩:=(C.at e).sL hT KU;refine⟨rfl,R,?_⟩;rcases O.tH with⟨_,v',z',rfl,rfl⟩ | ⟨e,_⟩
   ·exact⟨_,_,_,_,O.at_⟩
   cases e)
  obtain⟨d,Ke,cs0,c,sh,O,X⟩:=C.offers hT hj rfl (by simp[parked]);obtain⟨_,_,e1,e2⟩:=La X;obtain rfl:scase T.ch vj zj=c:=by simpa using e1
  subst e2;obtain rfl:=O.tH.snd;obtain⟨rfl,KL⟩:=C.snd_of hT O hG;obtain⟨v2,z2,zb,Q,n2,k1,k2,k3,k4⟩:=C.pair hT F I l KL h;obtain⟨x1,x3⟩:=Lm ((O.step true w n v).symm.trans (k1 true w n v));have ev:vj=v2:=by have:=qAx CommCase.send x1;simpa[scase]using this
  obtain⟨_,x2⟩:=Lm ((B true w n false v).symm.trans (k2 true w n false v));have ef:r=Q:=by simpa using x2
  have en:n=n2:=by rw[k3]at v;simp at v;exact v.symm
  subst ev ef en x3;rw[Go.Conc.finishComm_recv,Go.Conc.finishComm_send,Ae,Zhd X,Ae,eo,qCE]at y;refine Zh7 hT hG ih hM (U.trans y) ?_;refine k4 _ _ gj.frame.fn (gG fr cs).frame.fn gj.frame.place (gG fr cs).frame.place rfl ⟨.refl _,rfl,rfl⟩ ?_ ?_ ?_ ?_ (λa b c ⟨k,_,h⟩=>⟨k,h⟩) (λa b c ⟨k,_,h⟩=>⟨k,h⟩)
  ·rw[qAg I];exact qAG (by have:=C.pos;exact this)
  ·exact qAG (by simpa using F)
  ·intro j' h1 h2;rw[qAg (qAo h2),qAg (qAo h1)]
  simp
end
end
open Go.Conc (Knows Deaf touchAt QuitsD crowd woken)
open Go.ConcN (sumTo upd sumTo_upd upd_ne upd_same)
section
variable{p:Program}{T:VG p}{G:Frame->List Frame->Hp->Prop}{n:Nat}{H0:Hp}{w0:World}
theorem Zuy{d a:Nat}(h:lv d=lv a):d=a:=by simpa[lv]using h
theorem Zsu(hT:T.Sound){i:Nat}:∀(k:Rk) (fr:Frame) (cs:List Frame) (H:Hp) (d:Nat),H.gh=lv d->jI (oG (T.prgW i) Vs) k (fr,cs,H)->∃q,QuitsD p q d (gG fr cs):=by
 intro k;induction Rk.Xv k with
 | intro k _ ih=>
 intro fr cs H d x h;rcases jI.step oG.mono h with y | B | ⟨_,E⟩
 ·exact y.elim
 ·obtain⟨l,f,v,F,o,m⟩:=B.2 (by show T.stl H.gh=true;rw[x];exact hT.FN d);obtain⟨q,D⟩:=ih F o l f H d x m;exact⟨q+1,.ctl rfl (λw=>v false w) D⟩
 rcases E with⟨K,A,h⟩ | ⟨a,_⟩ | ⟨a,_⟩ | ⟨a,_⟩
 ·obtain rfl:=Zuy (x.symm.trans A);rcases h with⟨l,f,es,J,r,F,o,m⟩ | ⟨rfl,g,I,r⟩
  ·obtain⟨q,D⟩:=ih F o l f _ _ rfl m;exact⟨q+1,.inr ⟨rfl,_,es,J,λw=>r false w,D⟩⟩
  exact⟨1,.inr ⟨rfl,g,#[],by simp,r,I,rfl⟩⟩
 ·rw[show H.gh=lv d from x]at a;exact absurd a (hT.uA d)
 ·rw[show H.gh=lv d from x]at a;exact absurd a (hT.AG d)
 rw[show H.gh=lv d from x]at a;exact absurd a (hT.uA d)
theorem Zoh(hT:T.Sound)(hG:∀fr cs H,G fr cs H->¬ T.can true H.gh):∀(M:Ms) (gs:Array Goroutine) (w:World) (sl:Option (Nat×Nat)) (t:Trace) (s:T.S) (Hs:Hp) (Hf:Nat->Hp) (md:Nat->Nat) (rk:Nat->Rk),
  lL s gs md rk=M->g8 T G n H0 w0 gs w t s Hs Hf md rk->Vm T G n H0 w0 (crowd gs w sl) t:=by
 intro M;induction M using(Zuc n).induction with
 | _ M ih=>
 intro gs w sl t s Hs Hf md rk V C;obtain⟨i,g,d,nX,B,hr,l⟩:=Go.Conc.crowd_pick (P:=p) (w:=w) (sl:=sl) C.awake (C.stuck hT);have Q:i<gs.size:=(qAC.1 B).1;have ha:=(C.at d).ahead Q;have h:=C.st i Q;have Z:∀j,T.tag s j=if j=i then(Hf i).gh else T.tag s j:=λj=>by split;subst j;exact C.tag _ Q;rfl
 match y:md i,h with
 | 0,h=>
  obtain⟨h0,hl,hn,x,q,hx,hq,hk⟩:=h;rw[B]at hx;obtain rfl:=aT hx;exact Zs7 hT ih V C Q h0 y hl hn B hr l hq hk
 | 1,h=>
  obtain⟨h0,fr,cs,F4,⟨Hl,X,E⟩,I,hn⟩:=h;have J:=F4.nM B hr;have L:=jI.step oG.mono E;rcases L with K9 | F1 | ⟨_,F⟩
  ·exact K9.elim
  ·obtain⟨r,o,A,R,v,f⟩:=F1.2 (by show T.stl Hl.gh=true;rw[X];exact hT.zZ _ I);have hm:=jZ.still ha;have DR:=kN.still ha;refine OG ih hT V C Q B J l (A _ _) (by rw[Ze3];exact hm) (by rw[Ze3];exact DR) Z rfl (DO _) (.inr λ_ h=>h) (.inl rfl) (m:=1) (k:=R) ?_ (.inr ⟨y.symm,v⟩);exact λD a=>⟨h0,r,o,.inl a,⟨Hl,X,f⟩,I,hn⟩
  rcases F with⟨d',Ju,_⟩ | ⟨W,_⟩ | ⟨_,F⟩ | ⟨W,_⟩
  ·rw[show(Hf i).gh=lv d' from X.symm.trans Ju]at I;exact absurd I (hT.AG d')
  ·rw[show Hl.gh=(Hf i).gh from X]at W;exact absurd I (λ_=>hT.pG _ W I)
  ·have SR:Hp.fL Hl.gh=Hf i:=Hp.ext' (λb=>(hn b).symm) X;rw[SR]at F;rcases F s Hs t (w.at d) ha with⟨r,o,w',H',s',mW,es,h1,h2,h3,h4,h5,h6,h7,U,h8,⟨Y,R,v,f⟩ | ⟨hl,R,_,f⟩⟩ | K
   ·refine OG ih hT V C Q B J l h1 h2 h3 h4 h5 h6 h7 U (m:=1) (k:=R) ?_ (.inr ⟨y.symm,v⟩);exact λD a=>⟨h0,r,o,.inl a,⟨Hl.tagged H'.gh,rfl,f⟩,Y,h8⟩
   ·obtain⟨q,hq⟩:=Zsu hT R r o _ _ rfl f;refine OG ih hT V C Q B J l h1 h2 h3 h4 h5 h6 h7 U (m:=0) (k:=.ofNat q) ?_ (.inl O);exact λD a=>⟨h0,hl,h8,_,q,a,hq,rfl⟩
   exact Ze7 ih hT V C Q B J l K λD a=>by rw[y];exact⟨h0,fr,cs,.inr (.inl ⟨a,K.2⟩),⟨Hl,X,E⟩,I,hn⟩
  rw[show Hl.gh=(Hf i).gh from X]at W;exact absurd I (λ_=>hT.pG _ W I)
 | 2,h=>
  obtain⟨h0,fr,cs,F4,E,I⟩:=h;have J:=F4.nM B hr;have L:=jI.step oG.mono E;rcases L with K9 | F1 | ⟨_,F⟩
  ·exact K9.elim
  ·obtain⟨r,o,w',H',es,A,hf,⟨R,v,f⟩,yR⟩:=F1.1 (i == 0) (w.at d) ha.le;obtain⟨hm,DR⟩:=Zlw (fr:=fr) hT ha (.inl I) hf yR;refine OG ih hT V C Q B J l A hm DR (λj=>by rw[hf.gh];exact Z j) rfl (DO _) (.inr λ_ h=>h) (.inl rfl) (m:=2) (k:=R) ?_ (.inr ⟨y.symm,v⟩);exact λD a=>⟨h0,r,o,.inl a,f,by rw[hf.gh];exact I⟩
  rcases F with⟨d',Ju,_⟩ | ⟨_,F⟩ | ⟨W,_⟩ | ⟨_,Sf⟩
  ·rw[show(Hf i).gh=lv d' from Ju]at I;exact absurd I (hT.uA d')
  ·rcases F s Hs t (w.at d) ha with⟨r,o,w',H',s',mW,es,h1,h2,h3,h4,h5,h6,h7,U,⟨⟨R,v,f⟩,Y⟩ | ⟨Y,R,_,f⟩⟩ | K
   ·refine OG ih hT V C Q B J l h1 h2 h3 h4 h5 h6 h7 U (m:=2) (k:=R) ?_ (.inr ⟨y.symm,v⟩);exact λD a=>⟨h0,r,o,.inl a,f,Y⟩
   ·refine OG ih hT V C Q B J l h1 h2 (kN.fL H'.gh) h4 h5 h6 h7 U (m:=1) (k:=R) ?_ (.inl O);exact λD a=>⟨h0,r,o,.inl a,⟨(Hf i).tagged H'.gh,rfl,f⟩,Y,λ_=>rfl⟩
   exact Ze7 ih hT V C Q B J l K λD a=>by rw[y];exact⟨h0,fr,cs,.inr (.inl ⟨a,K.2⟩),E,I⟩
  ·exact absurd W (hT.pG _ I)
  exact Zs6 hT hG ih V C Q h0 B J l y E Sf
 | 3,h=>
  obtain⟨rfl,fr,cs,F4,E,I⟩:=h;have J:=F4.nM B hr;have L:=jI.step oG.mono E;rcases L with SN | F1 | ⟨_,F⟩
  ·obtain rfl:=F4.Q5 B hr;exact⟨0,gs,w,sl,t,s,Hs,Hf,md,rk,rfl,C,fr,cs,B,SN⟩
  ·obtain⟨r,o,w',H',es,A,hf,⟨R,v,f⟩,yR⟩:=F1.1 (0 == 0) (w.at d) ha.le;obtain⟨hm,DR⟩:=Zlw (fr:=fr) hT ha (.inl I) hf yR;refine OG ih hT V C Q B J l A hm DR (λj=>by rw[hf.gh];exact Z j) rfl (DO _) (.inr λ_ h=>h) (.inl rfl) (m:=3) (k:=R) ?_ (.inr ⟨y.symm,v⟩);exact λD a=>⟨rfl,r,o,.inl a,f,by rw[hf.gh];exact I⟩
  rcases F s Hs t (w.at d) ha with⟨r,o,w',H',s',mW,es,h1,h2,h3,h4,h5,h6,h7,U,⟨R,v,f⟩,Y⟩ | K | ⟨r,o,tA,w',H',Hc,s',mW,es,h1,h2,h3,h4,h5,h6,h7,h8,h9,⟨R,v,f⟩,h11,h12,h13⟩ | KL
  ·refine OG ih hT V C Q B J l h1 h2 h3 h4 h5 h6 h7 U (m:=3) (k:=R) ?_ (.inr ⟨y.symm,v⟩);exact λD a=>⟨rfl,r,o,.inl a,f,Y⟩
  ·exact Ze7 ih hT V C Q B J l K λD a=>by rw[y];exact⟨rfl,fr,cs,.inr (.inl ⟨a,K.2⟩),E,I⟩
  ·obtain⟨kc,hkc⟩:=h13.Q8;have KM:=Go.Conc.runT_crowd_spawn (P:=p) (sl:=nX) B ((J.step true _).trans h1);refine Vm.step (l.trans KM) ?_;have hC:=(C.at d).spawn h2 h3 h4 h5 h6 h7 h8 h9.1 h9.2 h11 f h12 hkc;have e:Y6 0 (T.next s) fr tA es=(((MemOp.ofEvents 0 g.frame.fn g.frame.place es).push { g:=0,fn:=g.frame.fn,pos:=g.frame.place,act:=.go gs.size }).push { g:=gs.size,fn:=(gG tA []).frame.fn,pos:=g.frame.place,act:=.start }:Trace):=by rw[C.size,J.frm];rfl
   rw[e]at hC;refine ih _ ?_ _ _ _ _ _ _ _ _ _ rfl hC;rw[<-V];exact Zlc h8 _ _
  exact Zs5 hT hG ih V C B J l y E KL
 | m+4,h=>exact h.elim
end
