import Derived.Test.YtmfealhfgccmfaaGreatDoorP09
set_option linter.all false
def TD{G:Prop}(h:G:=by obtain⟨k2,Wx,w2,Qb,t2,q2,H2,Xh,Xl,e1,e2,e3,e4,e5⟩:=h5 Kb w' nX t' q' h3 h2;exact⟨k+k2,Wx,w2,Qb,t2,q2,H2,Xh,Xl,Zc6 h1 e1,e2,e3,h4.trans e4,e5⟩):G:=h
namespace Go.LL
section
variable{p:Program}{H H' F:Hp}{gs:Array Goroutine}{w:World}{t:Trace}{q:Nat->Nat}{b:Nat}{R:Frame->List Frame->Hp->Prop}{fr:Frame}{cs:List Frame}
open Go.Conc (Knows Deaf touchAt QuitsD crowd woken Leavers Past)
open Go.ConcN (sumTo upd sumTo_upd upd_ne upd_same)
def PK(H:Hp)(n:Nat)(l:Loc):Prop:=∃b,l.j0=some b/\b<n/\H b=none
def zB(t:Trace)(b:Nat):Prop:=∃i a,touchAt t i=some a/\a.loc.j0=some b/\¬ Knows t 0 i
structure mC(p:Program)(H:Hp)(gs:Array Goroutine)(w:World)(t:Trace)(q:Nat->Nat):Prop where
 leavers:Leavers p t gs q
 past:Past (PK H w.heap.size) w.heap.size t
 le:H.le w
def mC.unk(h:mC p H gs w t q)(hb:zB t b):H b=none:=by
 obtain⟨i,a,e,d,f⟩:=hb;have j:a.loc.isMemory=true:=by cases hl:a.loc<;>simp[hl,Loc.j0]at d<;>rfl
 rcases h.past.known i a e j with c | ⟨⟨m,c,_,g⟩,_⟩
 ·exact absurd c f
 rw[d]at c;obtain rfl:=aT c;exact g
def Ze0{n d:Nat}(h:Past (PK H n) d t)(o:n<=d)(r:∀b,zB t b->H' b=none):Past (PK H' d) d t:=by
 refine⟨h.clean,λi a e g=>?_,h.over,h.hears,h.seen⟩;by_cases f:Knows t 0 i
 ·exact .inl f
 rcases h.known i a e g with c | ⟨⟨b,c,j,_⟩,m⟩
 ·exact .inl c
 exact .inr ⟨⟨b,c,qAY j o,r b ⟨i,a,e,c,f⟩⟩,m⟩
structure OY(H:Hp)(w:World)(t:Trace)(H':Hp)(w':World)(t':Trace):Prop where
 out:wE w w'
 grown:w.heap.size<=w'.heap.size
 keep:∀b,b<w.heap.size->(∀o,H b≠some (o,true))->w'.heap[b]? = w.heap[b]?
 org:lR H .nil w H'
 unk:∀b,zB t' b->zB t b\/w.heap.size<=b\/∃o,H b=some (o,true)
 gh:H'.gh=H.gh
theorem lR.nil{K:Hp}(h:lR H .nil w K){x:Obj×Bool}(c:K b=some x):w.heap.size<=b\/∃y,H b=some y/\(y.2=false->x=y):=
 (h b x c).imp id λ⟨y,d,a⟩=>⟨y,d.resolve_right (by simp[Hp.nil]),a⟩
def ZiB(F:Hp):Hp.nil.Dis F:=λb x y h=>by simp[Hp.nil]at h
def OY.refl:OY H w t H w t:=
 ⟨.refl w,DO _,λ_ _ _=>rfl,λb x h=>.inr ⟨x,.inl h,λ_=>rfl⟩,λb h=>.inl h,rfl⟩
def OY.trans{f g s:Hp}{r D E:World}{A B C:Trace}(a:OY f r A g D B)(b:OY g D B s E C):OY f r A s E C:=by
 have c:∀x o,g x=some (o,true)->r.heap.size<=x\/∃m,f x=some (m,true):=by
  intro x o h;rcases a.org.nil h with j | ⟨⟨P,Q⟩,j,I⟩
  ·exact .inl j
  cases Q with
  | true=>exact .inr ⟨P,j⟩
  | false=>have:=I rfl;simp at this
 refine⟨a.out.trans b.out,qAP a.grown b.grown,λx d u=>?_,λx y N=>?_,λx d=>?_,b.gh.trans a.gh⟩
 ·rw[b.keep x (qAY d a.grown) λo L=>?_]
  ·exact a.keep x d u
  rcases c x o L with h | ⟨m,h⟩
  ·omega
  exact u m h
 ·rcases b.org.nil N with h | ⟨z,O,J⟩
  ·exact .inl (qAP a.grown h)
  rcases a.org.nil O with h | ⟨v,M,K⟩
  ·exact .inl h
  refine .inr ⟨v,.inl M,λh=>?_⟩;have e:=K h;rw[<-e]at h ⊢;exact J h
 rcases b.unk x d with h | h | ⟨o,h⟩
 ·exact a.unk x h
 ·exact .inr (.inl (qAP a.grown h))
 exact .inr (c x o h)
theorem OY.frame{d:World}{c:Trace}(e:H.Comp F)(h:OY H w t H' d c):OY (H.join F) w t (H'.join F) d c:=by
 refine⟨h.out,h.grown,λb hb g=>h.keep b hb λo j=>g o (Hp.eN j),λb x a=>?_,λb hb=>?_,by rw[Hp.gB,Hp.gB,h.gh]⟩
 ·simp only[Hp.fW]at a;cases hh:H' b with
  | none=>rw[hh]at a;exact .inr ⟨x,.inl (Hp.fS e a),λ_=>rfl⟩
  | some z=>
   rw[hh]at a;obtain rfl:=aT a;exact(h.org.nil hh).imp id λ⟨y,m,f⟩=>⟨y,.inl (Hp.eN m),f⟩
 exact(h.unk b hb).imp id (qDD id λ⟨o,h⟩=>⟨o,Hp.eN h⟩)
def Znw(p:Program)(R:Frame->List Frame->Hp->Prop)(H:Hp)(gs:Array Goroutine)(w:World)(j:Option (Nat×Nat))(t:Trace):Prop:=
 ∃k a g e f h H' d c,runNT p k (crowd gs w j) t=(.next (crowd a g e),f)/\a[0]? = some (gG d c)/\mC p H' a g f h/\OY H w t H' g f/\R d c H'
def U5(p:Program)(R:Frame->List Frame->Hp->Prop)(fr:Frame)(cs:List Frame)(H:Hp):Prop:=
 ∀gs w a t q,mC p H gs w t q->gs[0]? = some (gG fr cs)->Znw p R H gs w a t
def mC.left(h:mC p (H.join F) gs w t q):mC p H gs w t q:=
 ⟨h.leavers,Ze0 h.past (DO _) λb hb=>(Hp.hQ.1 (h.unk hb)).1,h.le.left⟩
def U5.frame(a:H.Comp F)(h:U5 p R fr cs H):U5 p (λfr cs u=>∃H',u=H'.join F/\H'.Comp F/\R fr cs H') fr cs (H.join F):=by
 intro gs w sl t q m v;obtain⟨k,f,s,r,E,D,H',iD,e,y,A,d,c,B⟩:=h gs w sl t q m.left v;have g:F.le w:=m.le.right a;have hd:H'.Dis F:=c.org.dis g a.mem (ZiB F);have j:F.le s:=Mq (Hs:=.nil) a.mem (ZiB F) g λb hb C _=>c.keep b hb C;refine⟨k,f,s,r,E,D,H'.join F,iD,e,y,A,⟨d.leavers,Ze0 d.past (DO _) λb hb=>?_,?_⟩,c.frame a,H',rfl,⟨hd,by rw[c.gh];exact a.gh⟩,B⟩
 ·refine Hp.hQ.2 ⟨d.unk hb,?_⟩;cases hfb:F b with
  | none=>rfl
  | some x=>
   rcases c.unk b hb with h | h | ⟨o,h⟩
   ·rw[(Hp.hQ.1 (m.unk h)).2]at hfb;simp at hfb
   ·exact absurd (g.lt hfb) O
   have:=(a b _ _ h hfb).2;simp at this
 intro b o pm hb;simp only[Hp.fW]at hb;cases hh:H' b with
 | none=>rw[hh]at hb;exact j b o pm hb
 | some z=>rw[hh]at hb;exact d.le b o pm (by rw[hh];exact hb)
def U5.mono{e:Frame->List Frame->Hp->Prop}(u:∀fr cs H,R fr cs H->e fr cs H)(h:U5 p R fr cs H):U5 p e fr cs H:=by intro gs w sl t q s f;obtain⟨k,c,z,d,y,v,H',iD,a,g,j,m,o,r⟩:=h gs w sl t q s f;exact⟨k,c,z,d,y,v,H',iD,a,g,j,m,o,u _ _ _ r⟩
def Zv4(p:Program):Env where
 sh:=U5 p
 shMono:=λc _ _ _ h=>h.mono c
 shFrame:=λa h=>h.frame a
def Zc6{p:Program}:∀{k a:Nat} {m c:Machine} {t d:Trace} {r:Stepped×Trace},runNT p k m t=(.next c,d)->runNT p a c d=r->runNT p (k+a) m t=r
 | 0,a,m,c,t,d,r,h,f=>by simp only[runNT,qAX,Stepped.next.injEq]at h;obtain⟨rfl,rfl⟩:=h;rw[qAJ];exact f
 | k+1,a,m,c,t,d,r,h,f=>by
  rw[Nat.add_right_comm];cases hs:stepT p m with
  | mk e fK=>
   cases e with
   | next m1=>
    simp only[runNT,hs]at h ⊢;exact Zc6 h f
   | ended o w=>simp[runNT,hs]at h
theorem Zzh 
  (hs:∀w,H.le w->∃v u J H' es,stepG p true (gG fr cs) w=.go (gG v u) J es/\Fr H w H' J/\R v u H'/\∀e∈es,EvL H w J.heap.size e) :
  ∀(N:Nat) (gs:Array Goroutine) (w:World) (sl:Option (Nat×Nat)) (t:Trace) (q:Nat->Nat),sumTo gs.size q<=N->mC p H gs w t q->gs[0]? = some (gG fr cs)->Znw p R H gs w sl t:=by
 intro N;induction N using Nat.strongRecOn with
 | _ N ih=>
 intro gs w sl t q hN Q h0;have Z:=Q.leavers;have F4:∀g∈gs,Go.Conc.awake g:=by
  intro g hg;obtain⟨i,K,rfl⟩:=qCN.1 hg;rcases qBd i with rfl | D
  ·have:gs[0]=gG fr cs:=by simpa[qBc K]using h0
   rw[this];exact Go.Conc.awake_of (.inl rfl)
  exact Go.Conc.awake_of ((Z.old i _ D (qBc K)).status.elim .inl λx=>.inr (.inr x))
 obtain⟨i,g,d,M,K,hg,nO⟩:=Go.Conc.crowd_pick (P:=p) (w:=w) (sl:=sl) F4 ⟨0,_,h0,rfl⟩;have KS:0<gs.size:=(qAC.1 h0).1;rcases qBd i with rfl | D
 ·obtain rfl:g=gG fr cs:=by rw[h0]at K;exact(aT K).symm
  have B8:H.le (w.at d):=Q.le;obtain⟨v,u,J,H',es,h1,f,hR,he⟩:=hs (w.at d) B8;have E:=Go.Conc.runT_crowd_go (P:=p) (sl:=M) (i:=0) K (show stepG p (0 == 0) (gG fr cs) (w.at d)=_ from h1);have xT:((gs.map (woken p (gG fr cs) (gG v u) J)).setIfInBounds 0 (gG v u)).size=gs.size:=by simp
  have c:∀op∈MemOp.ofEvents 0 (gG fr cs).frame.fn (gG fr cs).frame.place es,op.g=0:=λop U=>by obtain⟨e,_,rfl⟩:=Go.Conc.mem_ofEvents U;rfl
  have C:∀b,zB (t++MemOp.ofEvents 0 (gG fr cs).frame.fn (gG fr cs).frame.place es) b->zB t b:=by
   rintro b ⟨j,a,z,hb,hk⟩;obtain⟨x,hx,B⟩:=Go.Conc.touch_of z;rcases Go.Conc.getElem?_append_cases hx with⟨_,X⟩ | ⟨_,Y⟩
   ·exact⟨j,a,by rw[Go.Conc.touchAt_of X];exact B,hb,λh=>hk (h.app _)⟩
   have:=Go.Conc.knows_own hx;rw[c x Y]at this;exact absurd this hk
  have T:∀b,zB t b->H' b=none:=by
   intro b hb;have I:=Q.unk hb;obtain⟨j,a,z,K8,_⟩:=hb;obtain⟨x,hx,B⟩:=Go.Conc.touch_of z;have DN:=PZ B K8 (Q.past.seen x (Go.Conc.mem_of_getElem? hx));cases hh:H' b with
   | none=>rfl
   | some y=>exact absurd (f.new b I (by rw[hh];simp)) (Nat.not_le.2 DN)
  have V:Past (PK H w.heap.size) J.heap.size (t++MemOp.ofEvents 0 (gG fr cs).frame.fn (gG fr cs).frame.place es):=by
   refine(Q.past.mono f.size).own λe hee=>?_;have s:=he e hee;refine⟨λx hx hsh=>?_,?_,?_,?_⟩
   ·obtain⟨b,hb,A,hn⟩:=hsh;rcases ZgE s hx hb with⟨o,pm,I,_⟩ | ⟨I,_⟩
    ·rw[hn]at I;simp at I
    exact absurd A (qCX.2 I)
   ·rintro hm;rw[EvL,hm]at s;exact s
   ·rintro hm;rw[EvL,hm]at s;exact s
   have A:∀b,((∃o p,H b=some (o,p)/\(e.write=true->p=true))\/(w.at d).heap.size<=b/\b<J.heap.size)->b<J.heap.size:=by
    rintro b (⟨o,pm,I,_⟩ | I)
    ·exact qAY (Q.le.lt I) f.size
    exact I.2
   obtain⟨loc,wr,sy⟩:=e;cases loc with
   | cell a=>
    obtain⟨rfl,h⟩:=s;exact A _ h
   | obj r=>
    obtain⟨rfl,h⟩:=s;cases wr<;>exact A _ h
   | mark m=>
    cases m<;>simp only[EvL]at s<;>trivial
   | _=>simp only[EvL]at s
  refine⟨1,(gs.map (woken p (gG fr cs) (gG v u) J)).setIfInBounds 0 (gG v u),J,M,t++MemOp.ofEvents 0 (gG fr cs).frame.fn (gG fr cs).frame.place es,q,H',v,u,by simp only[runNT,nO,E],by simp[KS],⟨⟨λj x z hx=>?_,λj z=>?_⟩,Ze0 V f.size λb hb=>T b (C b hb),f.le⟩,
   ⟨⟨by rw[f.os];exact .refl _,f.tape,f.out⟩,f.size,f.keep,λb x hx=>?_,λb hb=>.inl (C b hb),f.gh⟩,hR⟩
  ·have S:0≠j:=O;rw[qAg S,qBH]at hx;obtain⟨y,hy,rfl⟩:=qAD.1 hx;have W:=Z.old j y z hy;rw[Go.Conc.woken_quitsD W,Go.Conc.Deaf_other t O _ c];exact W
  ·rw[Go.Conc.Deaf_other t (g':=0) (by simp at z;omega) _ c];exact Z.above j (by simpa using z)
  exact TW
 have W:=Z.old i g D K;have kL:(i == 0)=false:=by simp;omega
 have A:i<gs.size:=(qAC.1 K).1;cases hqi:q i with
 | zero=>rw[hqi]at W;rw[W.1]at hg;cases hg
 | succ k=>
  rw[hqi]at W;rcases W with⟨hf,_⟩ | ⟨_,g',es,hm,Rw,hq'⟩
  ·rw[hf]at hg;cases hg
  have E:=Go.Conc.runT_crowd_go (P:=p) (sl:=M) (i:=i) K (by rw[kL];exact Rw (w.at d));have xT:((gs.map (woken p g g' (w.at d))).setIfInBounds i g').size=gs.size:=by simp
  have aNT:sumTo gs.size (upd q i k)+(k+1)=sumTo gs.size q+k:=by have:=sumTo_upd q k id A;simpa[hqi]using this
  have Jk:=Zlb (i:=i) (fr:=g.frame) hm;have c:∀op∈MemOp.ofEvents i g.frame.fn g.frame.place es,op.g=i:=λop U=>by obtain⟨e,_,rfl⟩:=Go.Conc.mem_ofEvents U;rfl
  have C:∀b,zB (t++MemOp.ofEvents i g.frame.fn g.frame.place es) b->zB t b:=by
   rintro b ⟨j,a,z,hb,hk⟩;obtain⟨x,hx,B⟩:=Go.Conc.touch_of z;rcases Go.Conc.getElem?_append_cases hx with⟨_,X⟩ | ⟨_,Y⟩
   ·exact⟨j,a,by rw[Go.Conc.touchAt_of X];exact B,hb,λh=>hk (h.app _)⟩
   rw[(Jk x Y).zP]at B;simp at B
  have hp2:Past (PK H w.heap.size) w.heap.size (t++MemOp.ofEvents i g.frame.fn g.frame.place es):=Q.past.mute O hm;have hC:mC p H ((gs.map (woken p g g' (w.at d))).setIfInBounds i g') (w.at d) (t++MemOp.ofEvents i g.frame.fn g.frame.place es) (upd q i k):=by
   refine⟨⟨λj x z hx=>?_,λj z=>?_⟩,hp2,Q.le⟩
   ·by_cases L:i=j
    ·subst L;rw[qAG (by simpa using A)]at hx;obtain rfl:=aT hx;rw[upd_same,Go.Conc.Deaf_own];exact hq'
    rw[qAg L,qBH]at hx;obtain⟨y,hy,rfl⟩:=qAD.1 hx;have hqj:=Z.old j y z hy;rw[Go.Conc.woken_quitsD hqj,upd_ne q k (qAo L),Go.Conc.Deaf_other t L _ c];exact hqj
   rw[Go.Conc.Deaf_other t (g':=i) (by simp at z;omega) _ c];exact Z.above j (by simpa using z)
  obtain⟨k2,Wx,w2,Qb,t2,q2,H2,Xh,Xl,e1,e2,e3,e4,e5⟩:=ih (N-1) O _ (w.at d) M _ _ (by rw[xT];omega) hC (by have S:i≠0:=O;rw[qAg S,qBH,h0];simp[Go.Conc.woken_run (show(gG fr cs).status=.running from rfl)]);refine⟨k2+1,Wx,w2,Qb,t2,q2,H2,Xh,Xl,by simp only[runNT,nO,E];exact e1,e2,e3,?_,e5⟩;have:OY H w t H (w.at d) (t++MemOp.ofEvents i g.frame.fn g.frame.place es):=⟨⟨.refl _,rfl,rfl⟩,DO _,λ_ _ _=>rfl,λb x h=>.inr ⟨x,.inl h,λ_=>rfl⟩,λb hb=>.inl (C b hb),rfl⟩;exact this.trans e4
def ZpD{P:fP}(j:P.sh=U5 P.toProgram){G:Frame->List Frame->Hp->Prop}(h:Reach P G fr cs H):U5 P.toProgram G fr cs H:=by
 refine h (U5 P.toProgram G) (λfr cs H m gs w d t q c a=>⟨0,gs,w,d,t,q,H,fr,cs,rfl,a,c,.refl,m⟩) ?_ ?_
 ·intro fr cs H e gs w d t q c a;obtain⟨k,Kb,w',nX,t',q',H',g,f,h1,h2,h3,h4,h5⟩:=Zzh (e.1 true) _ gs w d t q (DO _) c a;exact TD
 intro fr cs H e gs w d t q c a;rw[j]at e;obtain⟨k,Kb,w',nX,t',q',H',g,f,h1,h2,h3,h4,h5⟩:=e gs w d t q c a;exact TD
end
section
open Go.Conc (Knows Deaf touchAt QuitsD crowd woken Leavers Past)
open Go.ConcN (sumTo upd sumTo_upd upd_ne upd_same)
structure ZAb{p:Program}(T:VG p)(R:Frame->List Frame->Hp->Prop)(fr:Frame)(cs:List Frame)(H:Hp)(gs:Array Goroutine)(w:World)(t:Trace)(s:T.S)(Hs Hm:Hp)(G:Frame->List Frame->Hp->Prop):Prop where
 lJ:T.Sound
 inv:T.Inv s Hs t
 next:T.next s=gs.size
 Pn:T.tag s 0=Hm.gh
 Pm:∀j,j≠0->j<gs.size->T.tag s j=T.left
 le:Hm.le w
 leS:Hs.le w
 dis:Hm.Dis Hs
 HC:lR H .nil w Hm
 WR:lR H .nil w Hs
 act:T.act Hm.gh
 Pe:Reach T.prgM G fr cs Hm
 Xc:∀fr cs H,G fr cs H->¬ T.can true H.gh
 done:∀iD kY H' s' mW t' w',G iD kY H'->T.Inv s' mW t'->T.tag s' 0=H'.gh->H'.Dis mW->H'.le w'->mW.le w'->iQ t' 0 H'->(∀op∈t',op.act.low w'.heap.size)->lR H .nil w H'->lR H .nil w mW ->
  (∀j,j≠0->j<T.next s'->T.tag s' j=T.left) /\
  (∀i a,touchAt t' i=some a->a.loc.isMemory=true->Knows t' 0 i\/(a.kind=.atomic/\∀b,a.loc.j0=some b->H' b=none/\(zB t b\/w.heap.size<=b\/∃o,H b=some (o,true)))) /\
  t'.HandedOver/\Deaf t' 0=0/\∃H2:Hp,H2.gh=H.gh/\(∀b x,H2 b=some x->∃y,H' b=some y/\y.1=x.1/\(x.2=true->y.2=true\/∃o,H b=some (o,true)))/\R iD kY H2
def ZsQ{p:Program}{R:Frame->List Frame->Hp->Prop}{fr:Frame}{cs:List Frame}{H:Hp}
  (h:∀gs w t q,mC p H gs w t q->gs[0]? = some (gG fr cs)->∃(T:VG p) (s:T.S) (Hs Hm:Hp) (G:Frame->List Frame->Hp->Prop),ZAb T R fr cs H gs w t s Hs Hm G):U5 p R fr cs H:=by
 intro gs w sl t q L h0;obtain⟨T,s,Hs,Hm,G,B⟩:=h gs w t q L h0;have KS:0<gs.size:=(qAC.1 h0).1;obtain⟨k,hk⟩:=B.Pe.Q8;have U:iQ t 0 Hm:=by
  intro b o pm hb i a hi P _;refine qAb λhn=>?_;have f:=L.unk ⟨i,a,hi,P,hn⟩;rcases B.HC.nil hb with A | ⟨y,K,_⟩
  ·obtain⟨x,E,Y⟩:=Go.Conc.touch_of hi;exact absurd (PZ Y P (L.past.seen x (Go.Conc.mem_of_getElem? E))) O
  rw[f]at K;simp at K
 have hnp:∀j d,jU T gs j d->False:=by
  rintro j d ⟨x,c,sh,E,_⟩;by_cases v:j=0
  ·subst v;rw[h0]at E;have:=qAx Goroutine.status (aT E);simp[Go.Conc.parked]at this
  have f:=(L.leavers.old j _ O E).status;simp[Go.Conc.parked]at f
 have C:g8 T G (gs.size+T.more s) H w gs w t s Hs (λj=>if j=0 then Hm else .fL T.left) (λj=>if j=0 then 3 else 0) (λj=>if j=0 then k else .ofNat (q j)):=by
  have hb:∀g,xQ (.fL g):=λg b=>rfl;refine⟨B.next.symm,KS,DO _,B.inv,B.leS,?_,?_,?_,?_,?_,L.past.clean,L.past.seen,L.leavers.above,?_,?_,.refl w,DO _,λ_ _ _=>rfl,?_,B.WR,λj k f _=>hnp j _ f⟩
  ·intro j;split
   ·exact B.le
   intro b o pm hh;simp[Hp.fL]at hh
  ·intro j j' pK b x y f A;by_cases v:j=0
   ·rw[iF (show j'≠0 by omega)]at A;simp[Hp.fL]at A
   rw[iF v]at f;simp[Hp.fL]at f
  ·intro j;split
   ·exact B.dis
   intro b x y f;simp[Hp.fL]at f
  ·intro j;split
   ·subst j;exact U
   intro b o pm hh;simp[Hp.fL]at hh
  ·intro j v;split
   ·subst j;exact B.Pn
   exact B.Pm j ‹_› v
  ·intro j v;rw[iF O];exact hb _
  ·intro j v;by_cases D:j=0
   ·subst D;exact⟨rfl,fr,cs,.inl h0,hk,B.act⟩
   rw[iF D,iF D,iF D];exact⟨D,rfl,hb _,gs[j],q j,qBc v,L.leavers.old j _ O (qBc v),rfl⟩
  intro j;split
  ·exact B.HC
  intro b x E;simp[Hp.fL]at E
 obtain⟨n,J,w',nX,t',s',mW,M,Rc,Qi,KM,u,iD,kY,N1,hG⟩:=Zoh B.lJ B.Xc _ gs w sl t s Hs _ _ _ rfl C;have AH:=u.pos;obtain⟨d1,d2,d3,d4,H2,g1,g2,d5⟩:=B.done iD kY (M 0) s' mW t' w' hG u.inv (u.tag 0 AH) (u.disS 0) (u.le 0) u.leS (u.perm 0) u.low (u.org 0) u.orgS;have hq:∀j,∃q,∀g,0<j->J[j]? = some g->QuitsD p q (Deaf t' j) g:=by
  intro j;by_cases v:0<j/\j<J.size
  ·have W:=u.st j v.2;have P:(M j).gh=T.left:=by rw[<-u.tag j v.2];exact d1 j O (by rw[<-u.size];exact v.2)
   revert W;generalize Rc j=m;generalize Qi j=r;intro W;match m,W with
   | 3,⟨f,_⟩=>omega
   | 2,⟨_,_,_,_,_,f⟩=>rw[P]at f;exact absurd f B.lJ.v7
   | 1,⟨_,_,_,_,_,f,_⟩=>rw[P]at f;exact absurd f B.lJ.vL
   | 0,⟨_,_,_,g,q,f,A,_⟩=>exact⟨q,λg' _ Z=>by rw[f]at Z;obtain rfl:=aT Z;exact A⟩
  exact⟨0,λg f Z=>absurd ⟨f,(qAC.1 Z).1⟩ v⟩
 have V:∃q':Nat->Nat,∀j g,0<j->J[j]? = some g->QuitsD p (q' j) (Deaf t' j) g:=by refine⟨λj=>(hq j).choose,λj g f Z=>(hq j).choose_spec g f Z⟩
 obtain⟨q',V⟩:=V;have Ta:∀{l:Loc} {b:Nat},l.j0=some b->l.isMemory=true:=by intro l b P;cases l<;>simp[Loc.j0]at P<;>rfl
 have Q:∀b,M 0 b=none->H2 b=none:=λb hb=>by
  cases h:H2 b with
  | none=>rfl
  | some x=>obtain⟨y,K,_⟩:=g2 b x h;rw[hb]at K;simp at K
 refine⟨n,J,w',nX,t',q',H2,iD,kY,KM,N1,⟨⟨V,u.above⟩,⟨u.clean,λi a f A=>?_,d3,d4,u.low⟩,λb o pm hb=>?_⟩,⟨u.out,u.grown,u.keep,λb x E=>?_,λb hb=>?_,g1⟩,d5⟩
 ·rcases d2 i a f A with N | ⟨N,I⟩
  ·exact .inl N
  obtain⟨b,hb⟩:=Zlm A;refine .inr ⟨⟨b,hb,?_,Q b (I b hb).1⟩,N⟩;obtain⟨x,E,Y⟩:=Go.Conc.touch_of f;exact PZ Y hb (u.low x (Go.Conc.mem_of_getElem? E))
 ·obtain⟨⟨yo,yp⟩,K,e,_⟩:=g2 b _ hb;simp only at e;subst e;exact u.le 0 b yo yp K
 ·obtain⟨y,K,e,N⟩:=g2 b x E;rcases(u.org 0).nil K with h | ⟨z,hz,RN⟩
  ·exact .inl h
  refine .inr ⟨z,.inl hz,λhf=>?_⟩;have e2:=RN hf;have X:x.2=false:=by
   cases X:x.2 with
   | false=>rfl
   | true=>
    rcases N X with I | ⟨o,I⟩
    ·rw[e2,hf]at I;simp at I
    rw[I]at hz;obtain rfl:=aT hz;simp at hf
  rw[<-e2];rw[<-e2]at hf;exact Prod.ext e.symm (X.trans hf.symm)
 obtain⟨i,a,f,A,N⟩:=hb;rcases d2 i a f (Ta A)with I | ⟨_,I⟩
 ·exact absurd I N
 exact(I b A).2
end
section
variable{n:Nat}
open Go.ConcN (sumTo upd sumTo_upd upd_ne upd_same)
def cd(l:List Nat):Nat:=l.headD 0
def Ct(f:Nat->Nat)(tag:Nat->List Nat)(n:Nat):Nat:=sumTo n λi=>f (cd (tag i))
def Ct.upd(f:Nat->Nat)(tag:Nat->List Nat)(l:List Nat){i:Nat}(h:i<n):Ct f (upd tag i l) n+f (cd (tag i))=Ct f tag n+f (cd l):=
 sumTo_upd tag l (λx=>f (cd x)) h
def Ct.le(f:Nat->Nat)(tag:Nat->List Nat){i:Nat}(h:i<n):f (cd (tag i))<=Ct f tag n:=Go.ConcN.le_sumTo (f:=λi=>f (cd (tag i))) h
def one(b:Bool):Nat:=if b then 1 else 0
def Yz(c:Nat):Nat:=one (10<=c && c<=14)
def cT(c:Nat):Nat:=one (c == 5 || c == 6)
def cQ(c:Nat):Nat:=one (c == 7)
def cA(c:Nat):Nat:=one (c == 8 || c == 9)
def cU(c:Nat):Nat:=one (c == 15 || c == 16)
def cR(c:Nat):Nat:=one (c == 17)
def lD(c:Nat):Nat:=
 if 1<=c && c<=4 then 6 else if c == 5 || c == 6 || c == 8 || c == 9 then 5 else if c == 7 then 4 else if 10<=c && c<=14 then 3 else if c == 15 || c == 16 then 2 else if c == 17 then 1 else 0
structure Mu where
 L:Nat
 W:Nat
 S:Nat
 n:Nat
 sm:Nat
def Mu.st(x:Mu):Nat:=x.L+2 * x.W+4 * x.S+8 * x.n
def Mu.mu(x:Mu)(more:Nat)(tag:Nat->List Nat)(k:Nat):Nat:=Ct lD tag k+x.sm+6 * more
structure Mu.fF(x:Mu)(tag:Nat->List Nat)(k:Nat):Prop where
 L1:x.L=Ct Yz tag k
 L2:x.L<=1
 W1:x.W<=1
 S1:x.S<=1
 norm:x.S=0->Ct cQ tag k=x.n+x.sm+Ct cR tag k/\x.W=Ct cT tag k+Ct cA tag k+x.sm+Ct cR tag k/\(x.L=0->0<x.n->x.W=1\/0<Ct cU tag k)
 starv:x.S=1->x.n=Ct cQ tag k+Ct cA tag k/\1<=x.n/\x.W=0/\Ct cT tag k=0/\x.L+Ct cR tag k+x.sm+Ct cA tag k=1
def Mu.lO(x:Mu)(mu:Nat):List Nat->Prop
 | [4,v,m]=>mu<=m/\(mu=m->x.st=v)
 | [6,v,m]=>mu<=m/\(mu=m->x.st=v)
 | [15,v,m]=>mu<=m/\(mu=m->x.st=v)/\v % 8=0/\8<=v
 | [9,v]=>x.S=1/\1<=v / 8/\v / 8<=x.n
 | [3,m]=>mu<m
 | [5,m]=>mu<m
 | [7,m]=>mu<m
 | [8,m]=>mu<m
 | [16,m]=>mu<m
 | [4]=>False
 | [6]=>False
 | [15]=>False
 | [9]=>False
 | _=>True
section
variable{x x':Mu}{tag:Nat->List Nat}{k i:Nat}{l:List Nat}
def counts(a:i<k)(f:Nat->Nat):Ct f (upd tag i l) k+f (cd (tag i))=Ct f tag k+f (cd l):=Ct.upd f tag l a
end
end
variable{G:Prop}
open Go.ConcN (sumTo upd sumTo_upd upd_ne upd_same)
def cW(c:Nat):Nat:=one (1<=c && c<=21)
def cL(c:Nat):Nat:=one (c == 22 || c == 23)
def cE(c:Nat):Nat:=one (c == 24)
def mP(c:Nat):Nat:=one (c == 32 || c == 33)
structure Wg where
 v:Nat
 wt:Nat
 wm:Nat
structure Wg.fF(x:Wg)(tag:Nat->List Nat)(k more:Nat):Prop where
 v1:x.v=Ct cW tag k+mP (cd (tag 0))
 main:30<=cd (tag 0)
 FX:34<=cd (tag 0)->more=0
 QW:cd (tag 0)=36->(x.wt=1/\x.wm=0/\Ct cE tag k=0/\(x.v=0->Ct cL tag k=1)/\(x.v≠0->Ct cL tag k=0))\/(x.wt=0/\x.v=0/\Ct cL tag k=0/\Ct cE tag k+x.wm=1)
 D8:cd (tag 0)≠36->x.wt=0/\x.wm=0/\Ct cL tag k=0/\Ct cE tag k=0
 zero:37<=cd (tag 0)->x.v=0
def Wg.tT(h:G:=by obtain⟨f1,f2,f3,f4,f5,f6⟩:=F;have e0:=counts (tag:=tag) (l:=l) hi cW;have e1:=counts (tag:=tag) (l:=l) hi cL;have e2:=counts (tag:=tag) (l:=l) hi cE;have g1:=Ct.le cW tag hi;have g2:=Ct.le cL tag hi;have g3:=Ct.le cE tag hi;simp[hc,hl,cW,cL,cE,one]at e0 e1 e2 g1 g2 g3;have h0:upd tag i l 0=tag 0:=upd_ne tag l (qAo kL);refine⟨?_,?_,?_,?_,?_,?_⟩<;>rw[h0]<;>(try dsimp only)<;>omega):G:=h
def Wg.t0(h:G:=by
  obtain⟨f1,f2,f3,f4,f5,f6⟩:=F;have e0:=counts (tag:=tag) (l:=l) hi cW;have e1:=counts (tag:=tag) (l:=l) hi cL;have e2:=counts (tag:=tag) (l:=l) hi cE;have g1:=Ct.le cW tag hi;have g2:=Ct.le cL tag hi;have g3:=Ct.le cE tag hi;simp[hc,hl,cW,cL,cE,one]at e0 e1 e2 g1 g2 g3;have h0:upd tag 0 l 0=l:=upd_same tag 0 l;rw[hc]at f1 f2 f3 f4 f5 f6;simp[mP,one]at f1;refine⟨?_,?_,?_,?_,?_,?_⟩<;>rw[h0,hl]<;>(try dsimp only)
  ·simp[mP,one];omega
  all_goals omega):G:=h
section
variable{x:Wg}{tag:Nat->List Nat}{k i more:Nat}{l:List Nat}
def Wg.add(F:x.fF tag k more)(hi:0<k)(hc:cd (tag 0)=31)(hl:cd l=32) :Wg.fF { x with v:=x.v+1 } (upd tag 0 l) k more:=Wg.t0
def Wg.BG(F:x.fF tag k more)(hi:i<k)(kL:i≠0)(hc:cd (tag i)=21)(hl:cd l=0)(h:¬ (x.v=1/\x.wt=1)):Wg.fF { x with v:=x.v-1 } (upd tag i l) k more:=Wg.tT
def Wg.BH(F:x.fF tag k more)(hi:i<k)(kL:i≠0)(hc:cd (tag i)=21)(hl:cd l=22)(h:x.v=1/\x.wt=1):Wg.fF { x with v:=x.v-1 } (upd tag i l) k more:=Wg.tT
def Wg.uO(F:x.fF tag k more)(hi:i<k)(kL:i≠0)(hc:cd (tag i)=23)(hl:cd l=24) :Wg.fF { x with wt:=0 } (upd tag i l) k more:=Wg.tT
def Wg.zJ(F:x.fF tag k more)(hi:i<k)(kL:i≠0)(hc:cd (tag i)=24)(hl:cd l=0) :Wg.fF { x with wm:=x.wm+1 } (upd tag i l) k more:=Wg.tT
def Wg.Q3(F:x.fF tag k more)(hi:0<k)(hc:cd (tag 0)=34)(hl:cd l=38)(h:x.v=0)(a:more=0):Wg.fF x (upd tag 0 l) k more:=Wg.t0
def Wg.Q2(F:x.fF tag k more)(hi:0<k)(hc:cd (tag 0)=34)(hl:cd l=35)(h:x.v≠0):Wg.fF x (upd tag 0 l) k more:=Wg.t0
def Wg.Ra(F:x.fF tag k more)(hi:0<k)(hc:cd (tag 0)=35)(hl:cd l=34) :Wg.fF x (upd tag 0 l) k more:=Wg.t0
def Wg.QW(F:x.fF tag k more)(hi:0<k)(hc:cd (tag 0)=35)(hl:cd l=36)(h:x.v≠0):Wg.fF { x with wt:=1 } (upd tag 0 l) k more:=Wg.t0
def Wg.woken(F:x.fF tag k more)(hi:0<k)(hc:cd (tag 0)=36)(hl:cd l=37)(h:x.wm≠0):Wg.fF { x with wm:=x.wm-1 } (upd tag 0 l) k more:=Wg.t0
def Wg.xG(F:x.fF tag k more)(hi:0<k)(hc:cd (tag 0)=30)(hl:cd l=31) :Wg.fF x (upd tag 0 l) k more:=Wg.t0
def Wg.xE(F:x.fF tag k more)(hi:0<k)(hc:cd (tag 0)=32)(hl:cd l=33) :Wg.fF x (upd tag 0 l) k more:=Wg.t0
def Wg.xF(F:x.fF tag k more)(hi:0<k)(hc:cd (tag 0)=30)(hl:cd l=34)(a:more=0):Wg.fF x (upd tag 0 l) k more:=Wg.t0
def Wg.xD(F:x.fF tag k more)(hi:0<k)(hc:cd (tag 0)=37)(hl:cd l=38) :Wg.fF x (upd tag 0 l) k more:=Wg.t0
def Wg.xC(F:x.fF tag k more)(hi:0<k)(hc:cd (tag 0)=38)(hl:cd l=39) :Wg.fF x (upd tag 0 l) k more:=Wg.t0
def Wg.xB(F:x.fF tag k more)(hi:0<k)(hc:cd (tag 0)=39)(hl:cd l=40) :Wg.fF x (upd tag 0 l) k more:=Wg.t0
def Wg.C0(F:x.fF tag k more)(hi:i<k)(kL:i≠0)(hc:cd (tag i)=1)(hl:cd l=2) :Wg.fF x (upd tag i l) k more:=Wg.tT
def Wg.z5(F:x.fF tag k more)(hi:i<k)(kL:i≠0)(hc:cd (tag i)=2)(hl:cd l=10) :Wg.fF x (upd tag i l) k more:=Wg.tT
def Wg.CZ(F:x.fF tag k more)(hi:i<k)(kL:i≠0)(hc:cd (tag i)=2)(hl:cd l=3) :Wg.fF x (upd tag i l) k more:=Wg.tT
def Wg.CY(F:x.fF tag k more)(hi:i<k)(kL:i≠0)(hc:cd (tag i)=3)(hl:cd l=4) :Wg.fF x (upd tag i l) k more:=Wg.tT
def Wg.CX(F:x.fF tag k more)(hi:i<k)(kL:i≠0)(hc:cd (tag i)=4)(hl:cd l=3) :Wg.fF x (upd tag i l) k more:=Wg.tT
def Wg.CW(F:x.fF tag k more)(hi:i<k)(kL:i≠0)(hc:cd (tag i)=4)(hl:cd l=5) :Wg.fF x (upd tag i l) k more:=Wg.tT
def Wg.CU(F:x.fF tag k more)(hi:i<k)(kL:i≠0)(hc:cd (tag i)=5)(hl:cd l=6) :Wg.fF x (upd tag i l) k more:=Wg.tT
def Wg.CR(F:x.fF tag k more)(hi:i<k)(kL:i≠0)(hc:cd (tag i)=6)(hl:cd l=5) :Wg.fF x (upd tag i l) k more:=Wg.tT
def Wg.z4(F:x.fF tag k more)(hi:i<k)(kL:i≠0)(hc:cd (tag i)=4)(hl:cd l=10) :Wg.fF x (upd tag i l) k more:=Wg.tT
def Wg.z3(F:x.fF tag k more)(hi:i<k)(kL:i≠0)(hc:cd (tag i)=6)(hl:cd l=10) :Wg.fF x (upd tag i l) k more:=Wg.tT
def Wg.CV(F:x.fF tag k more)(hi:i<k)(kL:i≠0)(hc:cd (tag i)=4)(hl:cd l=7) :Wg.fF x (upd tag i l) k more:=Wg.tT
def Wg.vH(F:x.fF tag k more)(hi:i<k)(kL:i≠0)(hc:cd (tag i)=6)(hl:cd l=7) :Wg.fF x (upd tag i l) k more:=Wg.tT
def Wg.CQ(F:x.fF tag k more)(hi:i<k)(kL:i≠0)(hc:cd (tag i)=7)(hl:cd l=8) :Wg.fF x (upd tag i l) k more:=Wg.tT
def Wg.CP(F:x.fF tag k more)(hi:i<k)(kL:i≠0)(hc:cd (tag i)=8)(hl:cd l=6) :Wg.fF x (upd tag i l) k more:=Wg.tT
def Wg.CO(F:x.fF tag k more)(hi:i<k)(kL:i≠0)(hc:cd (tag i)=8)(hl:cd l=9) :Wg.fF x (upd tag i l) k more:=Wg.tT
def Wg.tD(F:x.fF tag k more)(hi:i<k)(kL:i≠0)(hc:cd (tag i)=9)(hl:cd l=10) :Wg.fF x (upd tag i l) k more:=Wg.tT
def Wg.w8(F:x.fF tag k more)(hi:i<k)(kL:i≠0)(hc:cd (tag i)=10)(hl:cd l=11) :Wg.fF x (upd tag i l) k more:=Wg.tT
def Wg.wZ(F:x.fF tag k more)(hi:i<k)(kL:i≠0)(hc:cd (tag i)=11)(hl:cd l=12) :Wg.fF x (upd tag i l) k more:=Wg.tT
def Wg.wY(F:x.fF tag k more)(hi:i<k)(kL:i≠0)(hc:cd (tag i)=12)(hl:cd l=13) :Wg.fF x (upd tag i l) k more:=Wg.tT
def Wg.wX(F:x.fF tag k more)(hi:i<k)(kL:i≠0)(hc:cd (tag i)=13)(hl:cd l=14) :Wg.fF x (upd tag i l) k more:=Wg.tT
def Wg.wT(F:x.fF tag k more)(hi:i<k)(kL:i≠0)(hc:cd (tag i)=14)(hl:cd l=18) :Wg.fF x (upd tag i l) k more:=Wg.tT
def Wg.wV(F:x.fF tag k more)(hi:i<k)(kL:i≠0)(hc:cd (tag i)=14)(hl:cd l=15) :Wg.fF x (upd tag i l) k more:=Wg.tT
def Wg.wU(F:x.fF tag k more)(hi:i<k)(kL:i≠0)(hc:cd (tag i)=14)(hl:cd l=17) :Wg.fF x (upd tag i l) k more:=Wg.tT
def Wg.wS(F:x.fF tag k more)(hi:i<k)(kL:i≠0)(hc:cd (tag i)=15)(hl:cd l=16) :Wg.fF x (upd tag i l) k more:=Wg.tT
def Wg.wQ(F:x.fF tag k more)(hi:i<k)(kL:i≠0)(hc:cd (tag i)=16)(hl:cd l=15) :Wg.fF x (upd tag i l) k more:=Wg.tT
def Wg.wP(F:x.fF tag k more)(hi:i<k)(kL:i≠0)(hc:cd (tag i)=16)(hl:cd l=18) :Wg.fF x (upd tag i l) k more:=Wg.tT
def Wg.wR(F:x.fF tag k more)(hi:i<k)(kL:i≠0)(hc:cd (tag i)=15)(hl:cd l=17) :Wg.fF x (upd tag i l) k more:=Wg.tT
def Wg.wO(F:x.fF tag k more)(hi:i<k)(kL:i≠0)(hc:cd (tag i)=17)(hl:cd l=18) :Wg.fF x (upd tag i l) k more:=Wg.tT
def Wg.wN(F:x.fF tag k more)(hi:i<k)(kL:i≠0)(hc:cd (tag i)=18)(hl:cd l=19) :Wg.fF x (upd tag i l) k more:=Wg.tT
def Wg.wL(F:x.fF tag k more)(hi:i<k)(kL:i≠0)(hc:cd (tag i)=19)(hl:cd l=20) :Wg.fF x (upd tag i l) k more:=Wg.tT
def Wg.wK(F:x.fF tag k more)(hi:i<k)(kL:i≠0)(hc:cd (tag i)=20)(hl:cd l=21) :Wg.fF x (upd tag i l) k more:=Wg.tT
def Wg.wJ(F:x.fF tag k more)(hi:i<k)(kL:i≠0)(hc:cd (tag i)=22)(hl:cd l=23) :Wg.fF x (upd tag i l) k more:=Wg.tT
end
