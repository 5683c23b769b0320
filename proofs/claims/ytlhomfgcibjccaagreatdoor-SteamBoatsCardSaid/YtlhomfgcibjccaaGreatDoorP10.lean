import Derived.Test.YtlhomfgcibjccaaGreatDoorP09
set_option linter.all false
namespace Go.LL
section
variable{p:Program}{H H' F:Hp}{gs:Array Goroutine}{w:World}{t:Trace}{q:Nat->Nat}{b:Nat}{R:Frame->List Frame->Hp->Prop}{fr:Frame}{cs:List Frame}
open Go.Conc (Knows Deaf touchAt QuitsD crowd woken Leavers Past)
open Go.ConcN (sumTo upd sumTo_upd upd_ne upd_same)
def K4(H:Hp)(n:Nat)(l:Loc):Prop:=∃b,l.gL=some b/\b<n/\H b=none
def z8(t:Trace)(b:Nat):Prop:=∃i a,touchAt t i=some a/\a.loc.gL=some b/\¬ Knows t 0 i
structure jP(p:Program)(H:Hp)(gs:Array Goroutine)(w:World)(t:Trace)(q:Nat->Nat):Prop where
 leavers:Leavers p t gs q
 past:Past (K4 H w.heap.size) w.heap.size t
 le:H.le w
def jP.unk(h:jP p H gs w t q)(hb:z8 t b):H b=none:=by
 obtain⟨i,a,e,d,f⟩:=hb;have j:a.loc.isMemory=true:=by cases hl:a.loc<;>simp[hl,Loc.gL]at d<;>rfl
 rcases h.past.known i a e j with c | ⟨⟨m,c,_,g⟩,_⟩
 ·exact absurd c f
 rw[d]at c;obtain rfl:=iO c;exact g
def Jt{n d:Nat}(h:Past (K4 H n) d t)(o:n<=d)(r:∀b,z8 t b->H' b=none):Past (K4 H' d) d t:=by
 refine⟨h.clean,λi a e g=>?_,h.over,h.hears,h.seen⟩;by_cases f:Knows t 0 i
 ·exact .inl f
 rcases h.known i a e g with c | ⟨⟨b,c,j,_⟩,m⟩
 ·exact .inl c
 exact .inr ⟨⟨b,c,qBu j o,r b ⟨i,a,e,c,f⟩⟩,m⟩
structure OW(H:Hp)(w:World)(t:Trace)(H':Hp)(w':World)(t':Trace):Prop where
 out:xE w w'
 grown:w.heap.size<=w'.heap.size
 keep:∀b,b<w.heap.size->(∀o,H b≠some (o,true))->w'.heap[b]? = w.heap[b]?
 org:jD H .nil w H'
 unk:∀b,z8 t' b->z8 t b\/w.heap.size<=b\/∃o,H b=some (o,true)
 gh:H'.gh=H.gh
theorem jD.nil{K:Hp}(h:jD H .nil w K){x:Obj×Bool}(c:K b=some x):w.heap.size<=b\/∃y,H b=some y/\(y.2=false->x=y):=
 (h b x c).imp id λ⟨y,d,a⟩=>⟨y,d.resolve_right (by simp[Hp.nil]),a⟩
def Zi0(F:Hp):Hp.nil.Dis F:=λb x y h=>by simp[Hp.nil]at h
def OW.refl:OW H w t H w t:=
 ⟨.refl w,dO _,λ_ _ _=>rfl,λb x h=>.inr ⟨x,.inl h,λ_=>rfl⟩,λb h=>.inl h,rfl⟩
def OW.trans{f g s:Hp}{r D E:World}{A B C:Trace}(a:OW f r A g D B)(b:OW g D B s E C):OW f r A s E C:=by
 have c:∀x o,g x=some (o,true)->r.heap.size<=x\/∃m,f x=some (m,true):=by
  intro x o h;rcases a.org.nil h with j | ⟨⟨P,Q⟩,j,I⟩
  ·exact .inl j
  cases Q with
  | true=>exact .inr ⟨P,j⟩
  | false=>have:=I rfl;simp at this
 refine⟨a.out.trans b.out,qAz a.grown b.grown,λx d u=>?_,λx y N=>?_,λx d=>?_,b.gh.trans a.gh⟩
 ·rw[b.keep x (qBu d a.grown) λo L=>?_]
  ·exact a.keep x d u
  rcases c x o L with h | ⟨m,h⟩
  ·omega
  exact u m h
 ·rcases b.org.nil N with h | ⟨z,O,J⟩
  ·exact .inl (qAz a.grown h)
  rcases a.org.nil O with h | ⟨v,M,K⟩
  ·exact .inl h
  refine .inr ⟨v,.inl M,λh=>?_⟩;have e:=K h;rw[<-e]at h ⊢;exact J h
 rcases b.unk x d with h | h | ⟨o,h⟩
 ·exact a.unk x h
 ·exact .inr (.inl (qAz a.grown h))
 exact .inr (c x o h)
theorem OW.frame{d:World}{c:Trace}(e:H.Comp F)(h:OW H w t H' d c):OW (H.join F) w t (H'.join F) d c:=by
 refine⟨h.out,h.grown,λb hb g=>h.keep b hb λo j=>g o (Hp.aW j),λb x a=>?_,λb hb=>?_,by rw[Hp.bZ,Hp.bZ,h.gh]⟩
 ·simp only[Hp.bH]at a;cases hh:H' b with
  | none=>rw[hh]at a;exact .inr ⟨x,.inl (Hp.bC e a),λ_=>rfl⟩
  | some z=>
   rw[hh]at a;obtain rfl:=iO a;exact(h.org.nil hh).imp id λ⟨y,m,f⟩=>⟨y,.inl (Hp.aW m),f⟩
 exact(h.unk b hb).imp id (qDU id λ⟨o,h⟩=>⟨o,Hp.aW h⟩)
def Tx(p:Program)(R:Frame->List Frame->Hp->Prop)(H:Hp)(gs:Array Goroutine)(w:World)(j:Option (Nat×Nat))(t:Trace):Prop:=
 ∃k a g e f h H' d c,runNT p k (crowd gs w j) t=(.next (crowd a g e),f)/\a[0]? = some (cV d c)/\jP p H' a g f h/\OW H w t H' g f/\R d c H'
def UY(p:Program)(R:Frame->List Frame->Hp->Prop)(fr:Frame)(cs:List Frame)(H:Hp):Prop:=
 ∀gs w a t q,jP p H gs w t q->gs[0]? = some (cV fr cs)->Tx p R H gs w a t
def jP.left(h:jP p (H.join F) gs w t q):jP p H gs w t q:=
 ⟨h.leavers,Jt h.past (dO _) λb hb=>(Hp.eF.1 (h.unk hb)).1,h.le.left⟩
def UY.frame(a:H.Comp F)(h:UY p R fr cs H):UY p (λfr cs u=>∃H',u=H'.join F/\H'.Comp F/\R fr cs H') fr cs (H.join F):=by
 intro gs w sl t q m v;obtain⟨k,f,s,r,E,D,H',eC,e,y,A,d,c,B⟩:=h gs w sl t q m.left v;have g:F.le w:=m.le.right a;have hd:H'.Dis F:=c.org.dis g a.mem (Zi0 F);have j:F.le s:=Au (Hs:=.nil) a.mem (Zi0 F) g λb hb C _=>c.keep b hb C;refine⟨k,f,s,r,E,D,H'.join F,eC,e,y,A,⟨d.leavers,Jt d.past (dO _) λb hb=>?_,?_⟩,c.frame a,H',rfl,⟨hd,by rw[c.gh];exact a.gh⟩,B⟩
 ·refine Hp.eF.2 ⟨d.unk hb,?_⟩;cases hfb:F b with
  | none=>rfl
  | some x=>
   rcases c.unk b hb with h | h | ⟨o,h⟩
   ·rw[(Hp.eF.1 (m.unk h)).2]at hfb;simp at hfb
   ·exact absurd (g.lt hfb) O
   have:=(a b _ _ h hfb).2;simp at this
 intro b o pm hb;simp only[Hp.bH]at hb;cases hh:H' b with
 | none=>rw[hh]at hb;exact j b o pm hb
 | some z=>rw[hh]at hb;exact d.le b o pm (by rw[hh];exact hb)
def UY.mono{e:Frame->List Frame->Hp->Prop}(u:∀fr cs H,R fr cs H->e fr cs H)(h:UY p R fr cs H):UY p e fr cs H:=by intro gs w sl t q s f;obtain⟨k,c,z,d,y,v,H',eC,a,g,j,m,o,r⟩:=h gs w sl t q s f;exact⟨k,c,z,d,y,v,H',eC,a,g,j,m,o,u _ _ _ r⟩
def Zu6(p:Program):Env where
 sh:=UY p
 shMono:=λc _ _ _ h=>h.mono c
 shFrame:=λa h=>h.frame a
def Al{p:Program}:∀{k a:Nat} {m c:Machine} {t d:Trace} {r:Stepped×Trace},runNT p k m t=(.next c,d)->runNT p a c d=r->runNT p (k+a) m t=r
 | 0,a,m,c,t,d,r,h,f=>by simp only[runNT,qBD,Stepped.next.injEq]at h;obtain⟨rfl,rfl⟩:=h;rw[qAE];exact f
 | k+1,a,m,c,t,d,r,h,f=>by
  rw[Nat.add_right_comm];cases hs:stepT p m with
  | mk e aI=>
   cases e with
   | next m1=>
    simp only[runNT,hs]at h ⊢;exact Al h f
   | ended o w=>simp[runNT,hs]at h
theorem Zye 
  (hs:∀w,H.le w->∃z v K H' es,stepG p true (cV fr cs) w=.go (cV z v) K es/\Fr H w H' K/\R z v H'/\∀e∈es,EvL H w K.heap.size e) :
  ∀(N:Nat) (gs:Array Goroutine) (w:World) (sl:Option (Nat×Nat)) (t:Trace) (q:Nat->Nat),sumTo gs.size q<=N->jP p H gs w t q->gs[0]? = some (cV fr cs)->Tx p R H gs w sl t:=by
 intro N;induction N using Nat.strongRecOn with
 | _ N ih=>
 intro gs w sl t q hN S h0;have hL:=S.leavers;have FM:∀g∈gs,Go.Conc.awake g:=by
  intro g hg;obtain⟨i,L,rfl⟩:=qDp.1 hg;rcases qBo i with rfl | E
  ·have:gs[0]=cV fr cs:=by simpa[qBB L]using h0
   rw[this];exact Go.Conc.awake_of (.inl rfl)
  exact Go.Conc.awake_of ((hL.old i _ E (qBB L)).status.elim .inl λx=>.inr (.inr x))
 obtain⟨i,g,d,Q,L,hg,tC⟩:=Go.Conc.crowd_pick (P:=p) (w:=w) (sl:=sl) FM ⟨0,_,h0,rfl⟩;have HB:0<gs.size:=(qAK.1 h0).1;rcases qBo i with rfl | E
 ·obtain rfl:g=cV fr cs:=by rw[h0]at L;exact(iO L).symm
  have tD:H.le (w.at d):=S.le;obtain⟨z,v,K,H',es,h1,f,hR,he⟩:=hs (w.at d) tD;have I:=Go.Conc.runT_crowd_go (P:=p) (sl:=Q) (i:=0) L (show stepG p (0 == 0) (cV fr cs) (w.at d)=_ from h1);have yH:((gs.map (woken p (cV fr cs) (cV z v) K)).setIfInBounds 0 (cV z v)).size=gs.size:=by simp
  have c:∀op∈MemOp.ofEvents 0 (cV fr cs).frame.fn (cV fr cs).frame.place es,op.g=0:=λop V=>by obtain⟨e,_,rfl⟩:=Go.Conc.mem_ofEvents V;rfl
  have D:∀b,z8 (t++MemOp.ofEvents 0 (cV fr cs).frame.fn (cV fr cs).frame.place es) b->z8 t b:=by
   rintro b ⟨j,a,A,hb,hk⟩;obtain⟨x,s,C⟩:=Go.Conc.touch_of A;rcases Go.Conc.getElem?_append_cases s with⟨_,Y⟩ | ⟨_,Z⟩
   ·exact⟨j,a,by rw[Go.Conc.touchAt_of Y];exact C,hb,λh=>hk (h.app _)⟩
   have:=Go.Conc.knows_own s;rw[c x Z]at this;exact absurd this hk
  have U:∀b,z8 t b->H' b=none:=by
   intro b hb;have J:=S.unk hb;obtain⟨j,a,A,NY,_⟩:=hb;obtain⟨x,s,C⟩:=Go.Conc.touch_of A;have D6:=LZ C NY (S.past.seen x (Go.Conc.mem_of_getElem? s));cases hh:H' b with
   | none=>rfl
   | some y=>exact absurd (f.new b J (by rw[hh];simp)) (Nat.not_le.2 D6)
  have W:Past (K4 H w.heap.size) K.heap.size (t++MemOp.ofEvents 0 (cV fr cs).frame.fn (cV fr cs).frame.place es):=by
   refine(S.past.mono f.size).own λe hee=>?_;have u:=he e hee;refine⟨λx s hsh=>?_,?_,?_,?_⟩
   ·obtain⟨b,hb,B,hn⟩:=hsh;rcases ZgO u s hb with⟨o,pm,J,_⟩ | ⟨J,_⟩
    ·rw[hn]at J;simp at J
    exact absurd B (qDx.2 J)
   ·rintro hm;rw[EvL,hm]at u;exact u
   ·rintro hm;rw[EvL,hm]at u;exact u
   have B:∀b,((∃o p,H b=some (o,p)/\(e.write=true->p=true))\/(w.at d).heap.size<=b/\b<K.heap.size)->b<K.heap.size:=by
    rintro b (⟨o,pm,J,_⟩ | J)
    ·exact qBu (S.le.lt J) f.size
    exact J.2
   obtain⟨loc,wr,sy⟩:=e;cases loc with
   | cell a=>
    obtain⟨rfl,h⟩:=u;exact B _ h
   | obj r=>
    obtain⟨rfl,h⟩:=u;cases wr<;>exact B _ h
   | mark m=>
    cases m<;>simp only[EvL]at u<;>trivial
   | _=>simp only[EvL]at u
  refine⟨1,(gs.map (woken p (cV fr cs) (cV z v) K)).setIfInBounds 0 (cV z v),K,Q,t++MemOp.ofEvents 0 (cV fr cs).frame.fn (cV fr cs).frame.place es,q,H',z,v,by simp only[runNT,tC,I],by simp[HB],⟨⟨λj x A s=>?_,λj A=>?_⟩,Jt W f.size λb hb=>U b (D b hb),f.le⟩,
   ⟨⟨by rw[f.os];exact .refl _,f.tape,f.out⟩,f.size,f.keep,λb x s=>?_,λb hb=>.inl (D b hb),f.gh⟩,hR⟩
  ·have T:0≠j:=O;rw[qAu T,qCm]at s;obtain⟨y,hy,rfl⟩:=qAL.1 s;have X:=hL.old j y A hy;rw[Go.Conc.woken_quitsD X,Go.Conc.Deaf_other t O _ c];exact X
  ·rw[Go.Conc.Deaf_other t (g':=0) (by simp at A;omega) _ c];exact hL.above j (by simpa using A)
  cases hh:H b with
  | none=>exact .inl (f.new b hh (by rw[s];simp))
  | some y=>
   refine .inr ⟨y,.inl rfl,λhy=>?_⟩;obtain⟨yo,yp⟩:=y;obtain rfl:yp=false:=hy;have:=f.ro b yo hh;rw[this]at s;exact(iO s).symm
 have X:=hL.old i g E L;have gQ:(i == 0)=false:=by simp;omega
 have B:i<gs.size:=(qAK.1 L).1;cases hqi:q i with
 | zero=>rw[hqi]at X;rw[X.1]at hg;cases hg
 | succ k=>
  rw[hqi]at X;rcases X with⟨hf,_⟩ | ⟨_,g',es,hm,Dy,Eo⟩
  ·rw[hf]at hg;cases hg
  have I:=Go.Conc.runT_crowd_go (P:=p) (sl:=Q) (i:=i) L (by rw[gQ];exact Dy (w.at d));have yH:((gs.map (woken p g g' (w.at d))).setIfInBounds i g').size=gs.size:=by simp
  have aG9:sumTo gs.size (upd q i k)+(k+1)=sumTo gs.size q+k:=by have:=sumTo_upd q k id B;simpa[hqi]using this
  have NA:=Zlo (i:=i) (fr:=g.frame) hm;have c:∀op∈MemOp.ofEvents i g.frame.fn g.frame.place es,op.g=i:=λop V=>by obtain⟨e,_,rfl⟩:=Go.Conc.mem_ofEvents V;rfl
  have D:∀b,z8 (t++MemOp.ofEvents i g.frame.fn g.frame.place es) b->z8 t b:=by
   rintro b ⟨j,a,A,hb,hk⟩;obtain⟨x,s,C⟩:=Go.Conc.touch_of A;rcases Go.Conc.getElem?_append_cases s with⟨_,Y⟩ | ⟨_,Z⟩
   ·exact⟨j,a,by rw[Go.Conc.touchAt_of Y];exact C,hb,λh=>hk (h.app _)⟩
   rw[(NA x Z).AD]at C;simp at C
  have hp2:Past (K4 H w.heap.size) w.heap.size (t++MemOp.ofEvents i g.frame.fn g.frame.place es):=S.past.mute O hm;have hC:jP p H ((gs.map (woken p g g' (w.at d))).setIfInBounds i g') (w.at d) (t++MemOp.ofEvents i g.frame.fn g.frame.place es) (upd q i k):=by
   refine⟨⟨λj x A s=>?_,λj A=>?_⟩,hp2,S.le⟩
   ·by_cases M:i=j
    ·subst M;rw[qAO (by simpa using B)]at s;obtain rfl:=iO s;rw[upd_same,Go.Conc.Deaf_own];exact Eo
    rw[qAu M,qCm]at s;obtain⟨y,hy,rfl⟩:=qAL.1 s;have Rc:=hL.old j y A hy;rw[Go.Conc.woken_quitsD Rc,upd_ne q k (qAF M),Go.Conc.Deaf_other t M _ c];exact Rc
   rw[Go.Conc.Deaf_other t (g':=i) (by simp at A;omega) _ c];exact hL.above j (by simpa using A)
  obtain⟨k2,gs2,w2,sl2,t2,q2,H2,fr2,cs2,e1,e2,e3,e4,e5⟩:=ih (N-1) O _ (w.at d) Q _ _ (by rw[yH];omega) hC (by have T:i≠0:=O;rw[qAu T,qCm,h0];simp[Go.Conc.woken_run (show(cV fr cs).status=.running from rfl)]);refine⟨k2+1,gs2,w2,sl2,t2,q2,H2,fr2,cs2,by simp only[runNT,tC,I];exact e1,e2,e3,?_,e5⟩;have:OW H w t H (w.at d) (t++MemOp.ofEvents i g.frame.fn g.frame.place es):=⟨⟨.refl _,rfl,rfl⟩,dO _,λ_ _ _=>rfl,λb x h=>.inr ⟨x,.inl h,λ_=>rfl⟩,λb hb=>.inl (D b hb),rfl⟩;exact this.trans e4
def Zpr{P:aX}(U:P.sh=UY P.toProgram){G:Frame->List Frame->Hp->Prop}(h:Reach P G fr cs H):UY P.toProgram G fr cs H:=by
 refine h (UY P.toProgram G) (λfr cs H V gs w o t q m j=>⟨0,gs,w,o,t,q,H,fr,cs,rfl,j,m,.refl,V⟩) ?_ ?_
 ·intro fr cs H r gs w o t q m j;obtain⟨k,d,S,f,O,M,H',C,u,D,E,I,J,K⟩:=Zye (r.1 true) _ gs w o t q (dO _) m j;obtain⟨L,e,T,g,Q,N,s,c,a,v,y,z,A,B⟩:=K d S f O M I E;exact⟨k+L,e,T,g,Q,N,s,c,a,Al D v,y,z,J.trans A,B⟩
 intro fr cs H r gs w o t q m j;rw[U]at r;obtain⟨k,d,S,f,O,M,H',C,u,D,E,I,J,K⟩:=r gs w o t q m j;obtain⟨L,e,T,g,Q,N,s,c,a,v,y,z,A,B⟩:=K d S f O M I E;exact⟨k+L,e,T,g,Q,N,s,c,a,Al D v,y,z,J.trans A,B⟩
end
section
open Go.Conc (Knows Deaf touchAt QuitsD crowd woken Leavers Past)
open Go.ConcN (sumTo upd sumTo_upd upd_ne upd_same)
structure Zy7{p:Program}(T:Vy p)(R:Frame->List Frame->Hp->Prop)(fr:Frame)(cs:List Frame)(H:Hp)(gs:Array Goroutine)(w:World)(t:Trace)(s:T.S)(Hs Hm:Hp)(G:Frame->List Frame->Hp->Prop):Prop where
 sound:T.Sound
 inv:T.Inv s Hs t
 next:T.next s=gs.size
 tag0:T.tag s 0=Hm.gh
 tags:∀j,j≠0->j<gs.size->T.tag s j=T.left
 le:Hm.le w
 leS:Hs.le w
 dis:Hm.Dis Hs
 from0:jD H .nil w Hm
 fromS:jD H .nil w Hs
 act:T.act Hm.gh
 work:Reach T.prgM G fr cs Hm
 goal:∀fr cs H,G fr cs H->¬ T.can true H.gh
 done:∀eC jX H' s' kG t' w',G eC jX H'->T.Inv s' kG t'->T.tag s' 0=H'.gh->H'.Dis kG->H'.le w'->kG.le w'->eU t' 0 H'->(∀op∈t',op.act.low w'.heap.size)->jD H .nil w H'->jD H .nil w kG ->
  (∀j,j≠0->j<T.next s'->T.tag s' j=T.left) /\
  (∀i a,touchAt t' i=some a->a.loc.isMemory=true->Knows t' 0 i\/(a.kind=.atomic/\∀b,a.loc.gL=some b->H' b=none/\(z8 t b\/w.heap.size<=b\/∃o,H b=some (o,true)))) /\
  t'.HandedOver/\Deaf t' 0=0/\∃H2:Hp,H2.gh=H.gh/\(∀b x,H2 b=some x->∃y,H' b=some y/\y.1=x.1/\(x.2=true->y.2=true\/∃o,H b=some (o,true)))/\R eC jX H2
def Zsu{p:Program}{R:Frame->List Frame->Hp->Prop}{fr:Frame}{cs:List Frame}{H:Hp}
  (h:∀gs w t q,jP p H gs w t q->gs[0]? = some (cV fr cs)->∃(T:Vy p) (s:T.S) (Hs Hm:Hp) (G:Frame->List Frame->Hp->Prop),Zy7 T R fr cs H gs w t s Hs Hm G):UY p R fr cs H:=by
 intro gs w sl t q L h0;obtain⟨T,s,Hs,Hm,G,B⟩:=h gs w t q L h0;have HB:0<gs.size:=(qAK.1 h0).1;obtain⟨k,hk⟩:=B.work.rank;have U:eU t 0 Hm:=by
  intro b o pm hb i a hi P _;refine qAd λhn=>?_;have f:=L.unk ⟨i,a,hi,P,hn⟩;rcases B.from0.nil hb with A | ⟨y,K,_⟩
  ·obtain⟨x,E,Y⟩:=Go.Conc.touch_of hi;exact absurd (LZ Y P (L.past.seen x (Go.Conc.mem_of_getElem? E))) O
  rw[f]at K;simp at K
 have Ew:∀j d,gC T gs j d->False:=by
  rintro j d ⟨x,c,sh,E,_⟩;by_cases v:j=0
  ·subst v;rw[h0]at E;have:=qBc Goroutine.status (iO E);simp[Go.Conc.parked]at this
  have f:=(L.leavers.old j _ O E).status;simp[Go.Conc.parked]at f
 have C:eD T G (gs.size+T.more s) H w gs w t s Hs (λj=>if j=0 then Hm else .aR T.left) (λj=>if j=0 then 3 else 0) (λj=>if j=0 then k else .ofNat (q j)):=by
  have hb:∀g,yF (.aR g):=λg b=>rfl;refine⟨B.next.symm,HB,dO _,B.inv,B.leS,?_,?_,?_,?_,?_,L.past.clean,L.past.seen,L.leavers.above,?_,?_,.refl w,dO _,λ_ _ _=>rfl,?_,B.fromS,λj k f _=>Ew j _ f⟩
  ·intro j;split
   ·exact B.le
   intro b o pm hh;simp[Hp.aR]at hh
  ·intro j j' pK b x y f A;by_cases v:j=0
   ·rw[aT (show j'≠0 by omega)]at A;simp[Hp.aR]at A
   rw[aT v]at f;simp[Hp.aR]at f
  ·intro j;split
   ·exact B.dis
   intro b x y f;simp[Hp.aR]at f
  ·intro j;split
   ·subst j;exact U
   intro b o pm hh;simp[Hp.aR]at hh
  ·intro j v;split
   ·subst j;exact B.tag0
   exact B.tags j ‹_› v
  ·intro j v;rw[aT O];exact hb _
  ·intro j v;by_cases D:j=0
   ·subst D;exact⟨rfl,fr,cs,.inl h0,hk,B.act⟩
   rw[aT D,aT D,aT D];exact⟨D,rfl,hb _,gs[j],q j,qBB v,L.leavers.old j _ O (qBB v),rfl⟩
  intro j;split
  ·exact B.from0
  intro b x E;simp[Hp.aR]at E
 obtain⟨n,J,w',nO,t',s',kG,M,Di,Cq,G4,u,eC,jX,KD,hG⟩:=Zn5 B.sound B.goal _ gs w sl t s Hs _ _ _ rfl C;have vJ:=u.pos;obtain⟨d1,d2,d3,d4,H2,g1,g2,d5⟩:=B.done eC jX (M 0) s' kG t' w' hG u.inv (u.tag 0 vJ) (u.disS 0) (u.le 0) u.leS (u.perm 0) u.low (u.org 0) u.orgS;have hq:∀j,∃q,∀g,0<j->J[j]? = some g->QuitsD p q (Deaf t' j) g:=by
  intro j;by_cases v:0<j/\j<J.size
  ·have W:=u.st j v.2;have P:(M j).gh=T.left:=by rw[<-u.tag j v.2];exact d1 j O (by rw[<-u.size];exact v.2)
   revert W;generalize Di j=m;generalize Cq j=r;intro W;match m,W with
   | 3,⟨f,_⟩=>omega
   | 2,⟨_,_,_,_,_,f⟩=>rw[P]at f;exact absurd f B.sound.actLeft
   | 1,⟨_,_,_,_,_,f,_⟩=>rw[P]at f;exact absurd f B.sound.hshLeft
   | 0,⟨_,_,_,g,q,f,A,_⟩=>exact⟨q,λg' _ Z=>by rw[f]at Z;obtain rfl:=iO Z;exact A⟩
  exact⟨0,λg f Z=>absurd ⟨f,(qAK.1 Z).1⟩ v⟩
 have V:∃q':Nat->Nat,∀j g,0<j->J[j]? = some g->QuitsD p (q' j) (Deaf t' j) g:=by refine⟨λj=>(hq j).choose,λj g f Z=>(hq j).choose_spec g f Z⟩
 obtain⟨q',V⟩:=V;have Fa:∀{l:Loc} {b:Nat},l.gL=some b->l.isMemory=true:=by intro l b P;cases l<;>simp[Loc.gL]at P<;>rfl
 have Q:∀b,M 0 b=none->H2 b=none:=λb hb=>by
  cases h:H2 b with
  | none=>rfl
  | some x=>obtain⟨y,K,_⟩:=g2 b x h;rw[hb]at K;simp at K
 refine⟨n,J,w',nO,t',q',H2,eC,jX,G4,KD,⟨⟨V,u.above⟩,⟨u.clean,λi a f A=>?_,d3,d4,u.low⟩,λb o pm hb=>?_⟩,⟨u.out,u.grown,u.keep,λb x E=>?_,λb hb=>?_,g1⟩,d5⟩
 ·rcases d2 i a f A with N | ⟨N,I⟩
  ·exact .inl N
  obtain⟨b,hb⟩:=Zlu A;refine .inr ⟨⟨b,hb,?_,Q b (I b hb).1⟩,N⟩;obtain⟨x,E,Y⟩:=Go.Conc.touch_of f;exact LZ Y hb (u.low x (Go.Conc.mem_of_getElem? E))
 ·obtain⟨⟨yo,yp⟩,K,e,_⟩:=g2 b _ hb;simp only at e;subst e;exact u.le 0 b yo yp K
 ·obtain⟨y,K,e,N⟩:=g2 b x E;rcases(u.org 0).nil K with h | ⟨z,hz,MZ⟩
  ·exact .inl h
  refine .inr ⟨z,.inl hz,λhf=>?_⟩;have e2:=MZ hf;have X:x.2=false:=by
   cases X:x.2 with
   | false=>rfl
   | true=>
    rcases N X with I | ⟨o,I⟩
    ·rw[e2,hf]at I;simp at I
    rw[I]at hz;obtain rfl:=iO hz;simp at hf
  rw[<-e2];rw[<-e2]at hf;exact Prod.ext e.symm (X.trans hf.symm)
 obtain⟨i,a,f,A,N⟩:=hb;rcases d2 i a f (Fa A)with I | ⟨_,I⟩
 ·exact absurd I N
 exact(I b A).2
end
section
variable{n:Nat}
open Go.ConcN (sumTo upd sumTo_upd upd_ne upd_same)
def cd(l:List Nat):Nat:=l.headD 0
def Ct(f:Nat->Nat)(tag:Nat->List Nat)(n:Nat):Nat:=sumTo n λi=>f (cd (tag i))
def Ct.upd(f:Nat->Nat)(tag:Nat->List Nat)(l:List Nat){i:Nat}(h:i<n):Ct f (upd tag i l) n+f (cd (tag i))=Ct f tag n+f (cd l):=
 sumTo_upd tag l (λx=>f (cd x)) h
def Ct.le(f:Nat->Nat)(tag:Nat->List Nat){i:Nat}(h:i<n):f (cd (tag i))<=Ct f tag n:=Go.ConcN.le_sumTo (f:=λi=>f (cd (tag i))) h
def one(b:Bool):Nat:=if b then 1 else 0
def Yo(c:Nat):Nat:=one (10<=c && c<=14)
def cT(c:Nat):Nat:=one (c == 5 || c == 6)
def cQ(c:Nat):Nat:=one (c == 7)
def cA(c:Nat):Nat:=one (c == 8 || c == 9)
def cU(c:Nat):Nat:=one (c == 15 || c == 16)
def cR(c:Nat):Nat:=one (c == 17)
def iP(c:Nat):Nat:=
 if 1<=c && c<=4 then 6 else if c == 5 || c == 6 || c == 8 || c == 9 then 5 else if c == 7 then 4 else if 10<=c && c<=14 then 3 else if c == 15 || c == 16 then 2 else if c == 17 then 1 else 0
structure Mu where
 L:Nat
 W:Nat
 S:Nat
 n:Nat
 sm:Nat
def Mu.st(x:Mu):Nat:=x.L+2 * x.W+4 * x.S+8 * x.n
def Mu.mu(x:Mu)(more:Nat)(tag:Nat->List Nat)(k:Nat):Nat:=Ct iP tag k+x.sm+6 * more
structure Mu.aS(x:Mu)(tag:Nat->List Nat)(k:Nat):Prop where
 L1:x.L=Ct Yo tag k
 L2:x.L<=1
 W1:x.W<=1
 S1:x.S<=1
 norm:x.S=0->Ct cQ tag k=x.n+x.sm+Ct cR tag k/\x.W=Ct cT tag k+Ct cA tag k+x.sm+Ct cR tag k/\(x.L=0->0<x.n->x.W=1\/0<Ct cU tag k)
 starv:x.S=1->x.n=Ct cQ tag k+Ct cA tag k/\1<=x.n/\x.W=0/\Ct cT tag k=0/\x.L+Ct cR tag k+x.sm+Ct cA tag k=1
def Mu.jA(x:Mu)(mu:Nat):List Nat->Prop
 | [4,v,m]=>mu<=m/\(mu=m->x.st=v)
 | [6,v,m]=>mu<=m/\(mu=m->x.st=v)
 | [15,v,m]=>mu<=m/\(mu=m->x.st=v)/\v % 8=0/\8<=v
 | [9,v]=>x.S=1/\1<=v / 8/\v / 8<=x.n
 | [3,m]=>mu<m
 | [5,m]=>mu<m
 | [7,m]=>mu<m
 | [8,m]=>mu<m
 | [16,m]=>mu<m
 | [4]=>False
 | [6]=>False
 | [15]=>False
 | [9]=>False
 | _=>True
section
variable{x x':Mu}{tag:Nat->List Nat}{k i:Nat}{l:List Nat}
def counts(a:i<k)(f:Nat->Nat):Ct f (upd tag i l) k+f (cd (tag i))=Ct f tag k+f (cd l):=Ct.upd f tag l a
end
end
variable{G:Prop}
open Go.ConcN (sumTo upd sumTo_upd upd_ne upd_same)
def cW(c:Nat):Nat:=one (1<=c && c<=21)
def cL(c:Nat):Nat:=one (c == 22 || c == 23)
def cE(c:Nat):Nat:=one (c == 24)
def mP(c:Nat):Nat:=one (c == 32 || c == 33)
structure Wg where
 v:Nat
 wt:Nat
 wm:Nat
structure Wg.aS(x:Wg)(tag:Nat->List Nat)(k more:Nat):Prop where
 v1:x.v=Ct cW tag k+mP (cd (tag 0))
 main:30<=cd (tag 0)
 more0:34<=cd (tag 0)->more=0
 MA:cd (tag 0)=36->(x.wt=1/\x.wm=0/\Ct cE tag k=0/\(x.v=0->Ct cL tag k=1)/\(x.v≠0->Ct cL tag k=0))\/(x.wt=0/\x.v=0/\Ct cL tag k=0/\Ct cE tag k+x.wm=1)
 ED:cd (tag 0)≠36->x.wt=0/\x.wm=0/\Ct cL tag k=0/\Ct cE tag k=0
 zero:37<=cd (tag 0)->x.v=0
def Wg.tT(h:G:=by obtain⟨f1,f2,f3,f4,f5,f6⟩:=F;have e0:=counts (tag:=tag) (l:=l) hi cW;have e1:=counts (tag:=tag) (l:=l) hi cL;have e2:=counts (tag:=tag) (l:=l) hi cE;have g1:=Ct.le cW tag hi;have g2:=Ct.le cL tag hi;have g3:=Ct.le cE tag hi;simp[hc,hl,cW,cL,cE,one]at e0 e1 e2 g1 g2 g3;have h0:upd tag i l 0=tag 0:=upd_ne tag l (qAF gQ);refine⟨?_,?_,?_,?_,?_,?_⟩<;>rw[h0]<;>(try dsimp only)<;>omega):G:=h
def Wg.t0(h:G:=by
  obtain⟨f1,f2,f3,f4,f5,f6⟩:=F;have e0:=counts (tag:=tag) (l:=l) hi cW;have e1:=counts (tag:=tag) (l:=l) hi cL;have e2:=counts (tag:=tag) (l:=l) hi cE;have g1:=Ct.le cW tag hi;have g2:=Ct.le cL tag hi;have g3:=Ct.le cE tag hi;simp[hc,hl,cW,cL,cE,one]at e0 e1 e2 g1 g2 g3;have h0:upd tag 0 l 0=l:=upd_same tag 0 l;rw[hc]at f1 f2 f3 f4 f5 f6;simp[mP,one]at f1;refine⟨?_,?_,?_,?_,?_,?_⟩<;>rw[h0,hl]<;>(try dsimp only)
  ·simp[mP,one];omega
  all_goals omega):G:=h
section
variable{x:Wg}{tag:Nat->List Nat}{k i more:Nat}{l:List Nat}
def Wg.add(F:x.aS tag k more)(hi:0<k)(hc:cd (tag 0)=31)(hl:cd l=32) :Wg.aS { x with v:=x.v+1 } (upd tag 0 l) k more:=Wg.t0
def Wg.B0(F:x.aS tag k more)(hi:i<k)(gQ:i≠0)(hc:cd (tag i)=21)(hl:cd l=0)(h:¬ (x.v=1/\x.wt=1)):Wg.aS { x with v:=x.v-1 } (upd tag i l) k more:=Wg.tT
def Wg.B3(F:x.aS tag k more)(hi:i<k)(gQ:i≠0)(hc:cd (tag i)=21)(hl:cd l=22)(h:x.v=1/\x.wt=1):Wg.aS { x with v:=x.v-1 } (upd tag i l) k more:=Wg.tT
def Wg.u4(F:x.aS tag k more)(hi:i<k)(gQ:i≠0)(hc:cd (tag i)=23)(hl:cd l=24) :Wg.aS { x with wt:=0 } (upd tag i l) k more:=Wg.tT
def Wg.AA(F:x.aS tag k more)(hi:i<k)(gQ:i≠0)(hc:cd (tag i)=24)(hl:cd l=0) :Wg.aS { x with wm:=x.wm+1 } (upd tag i l) k more:=Wg.tT
def Wg.MK(F:x.aS tag k more)(hi:0<k)(hc:cd (tag 0)=34)(hl:cd l=38)(h:x.v=0)(a:more=0):Wg.aS x (upd tag 0 l) k more:=Wg.t0
def Wg.MJ(F:x.aS tag k more)(hi:0<k)(hc:cd (tag 0)=34)(hl:cd l=35)(h:x.v≠0):Wg.aS x (upd tag 0 l) k more:=Wg.t0
def Wg.Dh(F:x.aS tag k more)(hi:0<k)(hc:cd (tag 0)=35)(hl:cd l=34) :Wg.aS x (upd tag 0 l) k more:=Wg.t0
def Wg.MA(F:x.aS tag k more)(hi:0<k)(hc:cd (tag 0)=35)(hl:cd l=36)(h:x.v≠0):Wg.aS { x with wt:=1 } (upd tag 0 l) k more:=Wg.t0
def Wg.woken(F:x.aS tag k more)(hi:0<k)(hc:cd (tag 0)=36)(hl:cd l=37)(h:x.wm≠0):Wg.aS { x with wm:=x.wm-1 } (upd tag 0 l) k more:=Wg.t0
def Wg.x7(F:x.aS tag k more)(hi:0<k)(hc:cd (tag 0)=30)(hl:cd l=31) :Wg.aS x (upd tag 0 l) k more:=Wg.t0
def Wg.x0(F:x.aS tag k more)(hi:0<k)(hc:cd (tag 0)=32)(hl:cd l=33) :Wg.aS x (upd tag 0 l) k more:=Wg.t0
def Wg.x6(F:x.aS tag k more)(hi:0<k)(hc:cd (tag 0)=30)(hl:cd l=34)(a:more=0):Wg.aS x (upd tag 0 l) k more:=Wg.t0
def Wg.xZ(F:x.aS tag k more)(hi:0<k)(hc:cd (tag 0)=37)(hl:cd l=38) :Wg.aS x (upd tag 0 l) k more:=Wg.t0
def Wg.xY(F:x.aS tag k more)(hi:0<k)(hc:cd (tag 0)=38)(hl:cd l=39) :Wg.aS x (upd tag 0 l) k more:=Wg.t0
def Wg.xX(F:x.aS tag k more)(hi:0<k)(hc:cd (tag 0)=39)(hl:cd l=40) :Wg.aS x (upd tag 0 l) k more:=Wg.t0
def Wg.DN(F:x.aS tag k more)(hi:i<k)(gQ:i≠0)(hc:cd (tag i)=1)(hl:cd l=2) :Wg.aS x (upd tag i l) k more:=Wg.tT
def Wg.AM(F:x.aS tag k more)(hi:i<k)(gQ:i≠0)(hc:cd (tag i)=2)(hl:cd l=10) :Wg.aS x (upd tag i l) k more:=Wg.tT
def Wg.DL(F:x.aS tag k more)(hi:i<k)(gQ:i≠0)(hc:cd (tag i)=2)(hl:cd l=3) :Wg.aS x (upd tag i l) k more:=Wg.tT
def Wg.DK(F:x.aS tag k more)(hi:i<k)(gQ:i≠0)(hc:cd (tag i)=3)(hl:cd l=4) :Wg.aS x (upd tag i l) k more:=Wg.tT
def Wg.DJ(F:x.aS tag k more)(hi:i<k)(gQ:i≠0)(hc:cd (tag i)=4)(hl:cd l=3) :Wg.aS x (upd tag i l) k more:=Wg.tT
def Wg.DI(F:x.aS tag k more)(hi:i<k)(gQ:i≠0)(hc:cd (tag i)=4)(hl:cd l=5) :Wg.aS x (upd tag i l) k more:=Wg.tT
def Wg.DG(F:x.aS tag k more)(hi:i<k)(gQ:i≠0)(hc:cd (tag i)=5)(hl:cd l=6) :Wg.aS x (upd tag i l) k more:=Wg.tT
def Wg.DF(F:x.aS tag k more)(hi:i<k)(gQ:i≠0)(hc:cd (tag i)=6)(hl:cd l=5) :Wg.aS x (upd tag i l) k more:=Wg.tT
def Wg.AL(F:x.aS tag k more)(hi:i<k)(gQ:i≠0)(hc:cd (tag i)=4)(hl:cd l=10) :Wg.aS x (upd tag i l) k more:=Wg.tT
def Wg.AK(F:x.aS tag k more)(hi:i<k)(gQ:i≠0)(hc:cd (tag i)=6)(hl:cd l=10) :Wg.aS x (upd tag i l) k more:=Wg.tT
def Wg.DH(F:x.aS tag k more)(hi:i<k)(gQ:i≠0)(hc:cd (tag i)=4)(hl:cd l=7) :Wg.aS x (upd tag i l) k more:=Wg.tT
def Wg.wK(F:x.aS tag k more)(hi:i<k)(gQ:i≠0)(hc:cd (tag i)=6)(hl:cd l=7) :Wg.aS x (upd tag i l) k more:=Wg.tT
def Wg.DD(F:x.aS tag k more)(hi:i<k)(gQ:i≠0)(hc:cd (tag i)=7)(hl:cd l=8) :Wg.aS x (upd tag i l) k more:=Wg.tT
def Wg.DC(F:x.aS tag k more)(hi:i<k)(gQ:i≠0)(hc:cd (tag i)=8)(hl:cd l=6) :Wg.aS x (upd tag i l) k more:=Wg.tT
def Wg.C9(F:x.aS tag k more)(hi:i<k)(gQ:i≠0)(hc:cd (tag i)=8)(hl:cd l=9) :Wg.aS x (upd tag i l) k more:=Wg.tT
def Wg.tK(F:x.aS tag k more)(hi:i<k)(gQ:i≠0)(hc:cd (tag i)=9)(hl:cd l=10) :Wg.aS x (upd tag i l) k more:=Wg.tT
def Wg.xW(F:x.aS tag k more)(hi:i<k)(gQ:i≠0)(hc:cd (tag i)=10)(hl:cd l=11) :Wg.aS x (upd tag i l) k more:=Wg.tT
def Wg.xV(F:x.aS tag k more)(hi:i<k)(gQ:i≠0)(hc:cd (tag i)=11)(hl:cd l=12) :Wg.aS x (upd tag i l) k more:=Wg.tT
def Wg.xU(F:x.aS tag k more)(hi:i<k)(gQ:i≠0)(hc:cd (tag i)=12)(hl:cd l=13) :Wg.aS x (upd tag i l) k more:=Wg.tT
def Wg.xT(F:x.aS tag k more)(hi:i<k)(gQ:i≠0)(hc:cd (tag i)=13)(hl:cd l=14) :Wg.aS x (upd tag i l) k more:=Wg.tT
def Wg.xQ(F:x.aS tag k more)(hi:i<k)(gQ:i≠0)(hc:cd (tag i)=14)(hl:cd l=18) :Wg.aS x (upd tag i l) k more:=Wg.tT
def Wg.xS(F:x.aS tag k more)(hi:i<k)(gQ:i≠0)(hc:cd (tag i)=14)(hl:cd l=15) :Wg.aS x (upd tag i l) k more:=Wg.tT
def Wg.xR(F:x.aS tag k more)(hi:i<k)(gQ:i≠0)(hc:cd (tag i)=14)(hl:cd l=17) :Wg.aS x (upd tag i l) k more:=Wg.tT
def Wg.xP(F:x.aS tag k more)(hi:i<k)(gQ:i≠0)(hc:cd (tag i)=15)(hl:cd l=16) :Wg.aS x (upd tag i l) k more:=Wg.tT
def Wg.xN(F:x.aS tag k more)(hi:i<k)(gQ:i≠0)(hc:cd (tag i)=16)(hl:cd l=15) :Wg.aS x (upd tag i l) k more:=Wg.tT
def Wg.xM(F:x.aS tag k more)(hi:i<k)(gQ:i≠0)(hc:cd (tag i)=16)(hl:cd l=18) :Wg.aS x (upd tag i l) k more:=Wg.tT
def Wg.xO(F:x.aS tag k more)(hi:i<k)(gQ:i≠0)(hc:cd (tag i)=15)(hl:cd l=17) :Wg.aS x (upd tag i l) k more:=Wg.tT
def Wg.xL(F:x.aS tag k more)(hi:i<k)(gQ:i≠0)(hc:cd (tag i)=17)(hl:cd l=18) :Wg.aS x (upd tag i l) k more:=Wg.tT
def Wg.xK(F:x.aS tag k more)(hi:i<k)(gQ:i≠0)(hc:cd (tag i)=18)(hl:cd l=19) :Wg.aS x (upd tag i l) k more:=Wg.tT
def Wg.xJ(F:x.aS tag k more)(hi:i<k)(gQ:i≠0)(hc:cd (tag i)=19)(hl:cd l=20) :Wg.aS x (upd tag i l) k more:=Wg.tT
def Wg.xI(F:x.aS tag k more)(hi:i<k)(gQ:i≠0)(hc:cd (tag i)=20)(hl:cd l=21) :Wg.aS x (upd tag i l) k more:=Wg.tT
def Wg.xH(F:x.aS tag k more)(hi:i<k)(gQ:i≠0)(hc:cd (tag i)=22)(hl:cd l=23) :Wg.aS x (upd tag i l) k more:=Wg.tT
end
