import Derived.Test.YtlhomfgcibjccaaGreatDoorP07
set_option linter.all false
namespace Go.LL
section
variable{P:aX}{G:Frame->List Frame->Hp->Prop}{fr:Frame}{cs:List Frame}{H:Hp}{c:CommCase}{sh:CommShape}{g g':Goroutine}{w w':World}{n j i m:Nat}{gs:Array Goroutine}{t u:Trace}{k:Rk}
open Go.Conc (Knows Deaf touchAt QuitsD crowd woken rcase scase recvd parked)
open Go.ConcN (sumTo upd sumTo_upd upd_ne upd_same)
def mN(P:aX)(G:Frame->List Frame->Hp->Prop)(R:Nd->Prop)(x:Nd):Prop:=
 G x.1 x.2.1 x.2.2\/rJ P x.1 x.2.1 x.2.2 (λa b c=>R (a,b,c))\/P.sh (λa b c=>R (a,b,c)) x.1 x.2.1 x.2.2
theorem mN.mono:∀{R e:Nd->Prop},(∀x,R x->e x)->∀x,mN P G R x->mN P G e x:=
 λf _ h=>h.imp id (qDU (λh=>h.mono λ_ _ _ h=>f _ h) (λh=>P.shMono (λ_ _ _ h=>f _ h) h))
def Reach.rank(h:Reach P G fr cs H):∃k,fO (mN P G) k (fr,cs,H):=
 ZpR mN.mono λR e=>h (λa b c=>R (a,b,c)) (λ_ _ _ f=>e _ (.inl f)) (λ_ _ _ l=>e _ (.inr (.inl l))) (λ_ _ _ o=>e _ (.inr (.inr o)))
section
variable{p:Program}(T:Vy p)
def jC(d:Bool)(c:CommCase)(sh:CommShape):Prop:=(d=true/\∃v z,c=scase T.ch v z/\sh=.send)\/(d=false/\∃z e,c=rcase T.ch z/\sh=.recv e)
def Pk(s:T.S)(gs:Array Goroutine)(j:Nat)(fr:Frame)(cs:List Frame):Prop:=
 ∃d c sh,jC T d c sh/\(∀main w n,w.heap[T.ch]? = some (.chan 0 #[] false n n false)->stepG p main (cV fr cs) w=.comm (cV fr cs) #[c] true sh w #[]) /\
  ((gs[j]? = some (parked (cV fr cs) #[c] sh)/\T.cls s=false/\T.can d (T.tag s j))\/(gs[j]? = some { parked (cV fr cs) #[c] sh with status:=.running }/\j≠0))
def oU(s:T.S)(gs:Array Goroutine)(j:Nat)(fr:Frame)(cs:List Frame):Prop:=gs[j]? = some (cV fr cs)\/(gs[j]? = some (gL fr cs)/\T.Blk s j)\/Pk T s gs j fr cs
def gC(gs:Array Goroutine)(j:Nat)(d:Bool):Prop:=∃g c sh,gs[j]? = some (parked g #[c] sh)/\jC T d c sh
def z9(G:Frame->List Frame->Hp->Prop)(gs:Array Goroutine)(t:Trace)(s:T.S)(j:Nat)(H:Hp):Nat->Rk->Prop
 | 3,k=>j=0/\∃fr cs,oU T s gs j fr cs/\fO (mN T.prgM G) k (fr,cs,H)/\T.act H.gh
 | 2,k=>j≠0/\∃fr cs,oU T s gs j fr cs/\fO (mN (T.prgW j) Vg) k (fr,cs,H)/\T.act H.gh
 | 1,k=>j≠0/\∃fr cs,oU T s gs j fr cs/\(∃e:Hp,e.gh=H.gh/\fO (mN (T.prgW j) Vg) k (fr,cs,e))/\T.hsh H.gh/\yF H
 | 0,k=>j≠0/\H.gh=T.left/\yF H/\∃g q,gs[j]? = some g/\QuitsD p q (Deaf t j) g/\k=.ofNat q
 | _,_=>False
structure eD(G:Frame->List Frame->Hp->Prop)(n:Nat)(H0:Hp)(w0:World)(gs:Array Goroutine)(w:World)(t:Trace)(s:T.S)(Hs:Hp)(Hf:Nat->Hp)(md:Nat->Nat)(rk:Nat->Rk):Prop where
 size:gs.size=T.next s
 pos:0<gs.size
 bound:gs.size+T.more s<=n
 inv:T.Inv s Hs t
 leS:Hs.le w
 le:∀j,(Hf j).le w
 dis:∀j k,j≠k->(Hf j).Dis (Hf k)
 disS:∀j,(Hf j).Dis Hs
 perm:∀j,eU t j (Hf j)
 tag:∀j,j<gs.size->T.tag s j=(Hf j).gh
 clean:∀said,¬ Race said t
 low:∀op∈t,op.act.low w.heap.size
 above:∀j,gs.size<=j->Deaf t j=0
 over:∀j,gs.size<=j->yF (Hf j)
 st:∀j,j<gs.size->z9 T G gs t s j (Hf j) (md j) (rk j)
 out:xE w0 w
 grown:w0.heap.size<=w.heap.size
 keep:∀b,b<w0.heap.size->(∀o,H0 b≠some (o,true))->w.heap[b]? = w0.heap[b]?
 org:∀j,jD H0 .nil w0 (Hf j)
 orgS:jD H0 .nil w0 Hs
 one:∀j k,gC T gs j true->gC T gs k false->False
variable{T}
def Zyl{d:Bool}(l:jC T d c sh){e:Bool}(h:w.heap[T.ch]? = some (.chan 0 #[] e n n false)) :
  (parked g #[c] sh).again w=if e then{ parked g #[c] sh with status:=.running }else parked g #[c] sh:=by
 rcases l with⟨_,v,z,rfl,_⟩ | ⟨_,z,f,rfl,_⟩<;>cases e<;>simp[Goroutine.again,parked,scase,rcase,h]
def ZnH{x y:Goroutine}(h:woken p g g' w' x=parked y #[c] sh):x=parked y #[c] sh:=by
 unfold woken at h;split at h
 ·unfold Goroutine.again at h;split at h
  ·dsimp only at h;split at h
   ·have:=qBc Goroutine.status h;simp[parked]at this
   exact h
  ·have:=qBc Goroutine.status h;simp[parked]at this
  ·have:=qBc Goroutine.status h;simp[parked]at this
  exact h
 exact h
def oU.hU{s f:T.S}(l:j≠i)(hb:(mayWake p g && g'.status != .blocked && g'.status != .waiting)=true\/∀j,T.Blk s j->T.Blk f j)
  (q:T.cls f=T.cls s\/(T.cls f=true/\(mayWake p g && g'.status != .blocked && g'.status != .waiting)=true/\i=0)) (v:∃n,w'.heap[T.ch]? = some (.chan 0 #[] (T.cls f) n n false)) (e:T.tag f j=T.tag s j)
  (h:oU T s gs j fr cs):oU T f ((gs.map (woken p g g' w')).setIfInBounds i g') j fr cs:=by
 unfold oU at h ⊢;rw[qAu (qAF l),qCm];rcases h with h | ⟨h,C⟩ | ⟨d,c,sh,B,E,h⟩
 ·rw[h];exact .inl (by simp[Go.Conc.woken_run (show(cV fr cs).status=.running from rfl)])
 ·rw[h];by_cases o:(mayWake p g && g'.status != .blocked && g'.status != .waiting)=true
  ·refine .inl ?_;simp only[qBZ,woken,o,qBp];rfl
  refine .inr (.inl ⟨?_,hb.resolve_left o j C⟩);simp only[qBZ,woken,o];rfl
 refine .inr (.inr ⟨d,c,sh,B,E,?_⟩);rw[qAu (qAF l),qCm];rcases h with⟨h,y,z⟩ | h
 ·rw[h];obtain⟨n,D⟩:=v;by_cases o:(mayWake p g && g'.status != .blocked && g'.status != .waiting)=true
  ·simp only[qBZ,woken,o,qBp,Zyl B D];cases r:T.cls f with
   | true=>
    refine .inr ⟨rfl,?_⟩;rcases q with A | ⟨_,_,rfl⟩
    ·rw[r,y]at A;simp at A
    exact l
   | false=>exact .inl ⟨rfl,rfl,by rw[e];exact z⟩
  have r:T.cls f=T.cls s:=q.resolve_right λh=>o h.2.1;simp only[qBZ,woken,o];exact .inl ⟨rfl,r.trans y,by rw[e];exact z⟩
 rw[h.1];refine .inr ⟨?_,h.2⟩;simp[Go.Conc.woken_run (show({ parked (cV fr cs) #[c] sh with status:=.running }:Goroutine).status=.running from rfl)]
def z9.hU{s z:T.S}(e:j≠i)
  (hb:(mayWake p g && g'.status != .blocked && g'.status != .waiting)=true\/∀j,T.Blk s j->T.Blk z j) (D:∀op∈u,op.g=i)
  (y:T.cls z=T.cls s\/(T.cls z=true/\(mayWake p g && g'.status != .blocked && g'.status != .waiting)=true/\i=0)) (v:∃n,w'.heap[T.ch]? = some (.chan 0 #[] (T.cls z) n n false)) (f:T.tag z j=T.tag s j)
  (h:z9 T G gs t s j H m k):z9 T G ((gs.map (woken p g g' w')).setIfInBounds i g') (t++u) z j H m k:=by
 match m,h with
 | 3,⟨l,fr,cs,o,r⟩=>exact⟨l,fr,cs,o.hU e hb y v f,r⟩
 | 2,⟨l,fr,cs,o,r⟩=>exact⟨l,fr,cs,o.hU e hb y v f,r⟩
 | 1,⟨l,fr,cs,o,r⟩=>exact⟨l,fr,cs,o.hU e hb y v f,r⟩
 | 0,⟨l,o,r,x,q,B,A,C⟩=>
  refine⟨l,o,r,x,q,?_,?_,C⟩
  ·rw[qAu (qAF e),qCm,B];simp[Go.Conc.woken_quitsD A]
  rw[Go.Conc.Deaf_other t (qAF e) u D];exact A
theorem V1{α:Type}(f:Nat->α)(i:Nat)(x:α)(j:Nat):upd f i x j=if j=i then x else f j:=rfl
theorem eD.go{H0:Hp}{w0:World}{s:T.S}{Hs:Hp}{Hf:Nat->Hp}{md:Nat->Nat}{rk:Nat->Rk}
  (hT:T.Sound) (C:eD T G n H0 w0 gs w t s Hs Hf md rk) (hi:i<gs.size) {B:T.S} {kG J:Hp} (hu:∀op∈u,op.g=i)
  (l:gJ T i s Hs t w (Hf i) u B kG w') (N:gY i Hs w (Hf i) (t++u) kG w' J) (D:∀j,T.tag B j=if j=i then J.gh else T.tag s j) (F:T.next B=T.next s) (BM:T.more B<=T.more s)
  (hb:(mayWake p g && g'.status != .blocked && g'.status != .waiting)=true\/∀j,T.Blk s j->T.Blk B j)
  (jQ:T.cls B=T.cls s\/(T.cls B=true/\(mayWake p g && g'.status != .blocked && g'.status != .waiting)=true/\i=0)) (Ew:g'.status≠.blocked\/g'.offers=none)
  (tC:z9 T G ((gs.map (woken p g g' w')).setIfInBounds i g') (t++u) B i J m k) :
  eD T G n H0 w0 ((gs.map (woken p g g' w')).setIfInBounds i g') w' (t++u) B kG (upd Hf i J) (upd md i m) (upd rk i k):=by
 have f:((gs.map (woken p g g' w')).setIfInBounds i g').size=gs.size:=by simp
 have Z:∃n,w'.heap[T.ch]? = some (.chan 0 #[] (T.cls B) n n false):=by obtain⟨n,Q⟩:=hT.chan l.inv;exact⟨n,l.leS _ _ _ Q⟩
 have U:∀j d,gC T ((gs.map (woken p g g' w')).setIfInBounds i g') j d->gC T gs j d:=by
  rintro j d ⟨x,c,sh,E,R⟩;by_cases e:j=i
  ·subst e;rw[qAO (by simpa using hi)]at E;obtain rfl:=iO E;rcases Ew with h | h<;>simp[parked]at h
  rw[qAu (qAF e),qCm]at E;obtain⟨y,hy,hyx⟩:=qAL.1 E;exact⟨x,c,sh,by rw[hy,ZnH hyx],R⟩
 have dj:∀j,j≠i->J.Dis (Hf j):=λj e=>N.aB.dis (C.le j) (C.dis i j (qAF e)) (C.disS j).symm;have Dl:∀j,j≠i->(Hf j).le w':=λj e=>Au (C.dis i j (qAF e)) (C.disS j).symm (C.le j) l.keep;have A:∀K,jD (Hf i) Hs w K->jD H0 .nil w0 K:=by
  intro K hK b x E;rcases hK b x E with h | ⟨y,hy,L⟩
  ·exact .inl (qAz C.grown h)
  have:w0.heap.size<=b\/∃z,(H0 b=some z\/Hp.nil b=some z)/\(z.2=false->y=z):=hy.elim (λh=>C.org i b y h) (λh=>C.orgS b y h);refine this.imp id λ⟨z,v,MZ⟩=>⟨z,v,λhf=>?_⟩;have:=MZ hf;rw[<-this]at hf ⊢;exact L hf
 refine⟨by rw[f,F];exact C.size,by rw[f];exact C.pos,?_,l.inv,l.leS,?_,?_,?_,?_,?_,?_,?_,?_,?_,?_,C.out.trans l.out,qAz C.grown l.size,?_,?_,A _ l.from2,λj k X Y=>C.one j k (U _ _ X) (U _ _ Y)⟩
 ·rw[f];have:=C.bound;omega
 ·intro j;rw[V1];split
  ·exact N.le
  exact Dl j ‹_›
 ·intro j j' pK;rw[V1,V1];split<;>split
  ·omega
  ·exact dj j' ‹_›
  ·exact(dj j ‹_›).symm
  exact C.dis j j' pK
 ·intro j;rw[V1];split
  ·exact N.dis
  rename_i e;exact(l.from2.dis (C.le j) (C.dis i j (qAF e)) (C.disS j).symm).symm
 ·intro j;rw[V1];split
  ·subst j;exact N.perm
  rename_i e;intro b o pm hb q a hq hl hw;obtain⟨x,E,V⟩:=Go.Conc.touch_of hq;rcases Go.Conc.getElem?_append_cases E with⟨_,wP⟩ | ⟨_,GX⟩
  ·exact(C.perm j b o pm hb q a (by rw[Go.Conc.touchAt_of wP];exact V) hl hw).app u
  exfalso;rcases l.evs x GX a V b hl with⟨o',p',X,Y⟩ | X
  ·have:(o',p')=(o,pm)/\(o',p').2=false:=X.elim (λh=>C.dis i j (qAF e) b _ _ h hb) (λh=>(C.disS j).symm b _ _ h hb);obtain⟨e1,W⟩:=this;simp only[qBD]at e1;obtain⟨rfl,rfl⟩:=e1;rcases hw with h | h
   ·rw[h]at W;simp at W
   rw[Y h]at W;simp at W
  exact absurd ((C.le j).lt hb) O
 ·intro j e;rw[D,V1];split
  ·rfl
  exact C.tag j (by rw[f]at e;exact e)
 ·exact λsaid=>Go.Conc.noRace_append (C.clean said) hu λq a ha op I b hb hc=>l.norace said q a ha op I b hb hc
 ·exact Go.Conc.seen_app (λop I=>MemAct.low_mono l.size (C.low op I)) l.low
 ·intro j e;rw[f]at e;rw[Go.Conc.Deaf_other t (show i≠j by omega) u hu];exact C.above j e
 ·intro j e;rw[f]at e;rw[V1,aT O];exact C.over j e
 ·intro j e;rw[f]at e;by_cases r:j=i
  ·subst r;rw[upd_same,upd_same,upd_same];exact tC
  rw[upd_ne _ _ r,upd_ne _ _ r,upd_ne _ _ r];refine(C.st j e).hU r hb hu jQ Z ?_;rw[D,aT r]
 ·intro b hb Q;rw[l.keep b (qBu hb C.grown) ?_ ?_]
  ·exact C.keep b hb Q
  ·intro o R;rcases C.org i b _ R with h | ⟨z,v,L⟩
   ·omega
   rcases v with v | v
   ·obtain⟨zo,zp⟩:=z;cases zp with
    | true=>exact Q zo v
    | false=>have:=L rfl;simp at this
   simp[Hp.nil]at v
  intro o R;rcases C.orgS b _ R with h | ⟨z,v,L⟩
  ·omega
  rcases v with v | v
  ·obtain⟨zo,zp⟩:=z;cases zp with
   | true=>exact Q zo v
   | false=>have:=L rfl;simp at this
  simp[Hp.nil]at v
 intro j;rw[V1];split
 ·exact A _ N.aB
 exact C.org j
end
end
section
variable{H Hs H0:Hp}{w w0:World}{n i b j:Nat}{fr:Frame}{es:Array Event}{x:Touch}{t:Trace}{G:Frame->List Frame->Hp->Prop}{gs:Array Goroutine}{Hf:Nat->Hp}{md:Nat->Nat}{rk:Nat->Rk}{cs:List Frame}{g:Goroutine}
open Go.Conc (Knows Deaf touchAt QuitsD crowd woken rcase scase recvd parked)
open Go.ConcN (sumTo upd sumTo_upd upd_ne upd_same)
section
variable{p:Program}{T:Vy p}
def ZtZ(f:∀b x,Hs b=some x->x.2=true)(C:H.Dis Hs)(E:Hs.le w)(D:∀e∈es,EvL H w n e):∀op∈ZI i fr es,P8 i Hs op:=by
 intro op q;obtain⟨e,B,rfl⟩:=Go.Conc.mem_ofEvents q;refine⟨rfl,?_⟩;have h:=D e B;have key:∀b,((∃o p,H b=some (o,p)/\(e.write=true->p=true))\/w.heap.size<=b/\b<n)->Hs b=none:=by
  rintro b (⟨o,pm,z,_⟩ | z)
  ·cases l:Hs b with
   | none=>rfl
   | some x=>
    obtain⟨A,y⟩:=C b _ _ z l;rw[A,f b x l]at y;simp at y
  cases l:Hs b with
  | none=>rfl
  | some x=>exact absurd (E.lt l) O
 obtain⟨loc,v,F⟩:=e;cases loc with
 | cell a=>
  obtain⟨rfl,h⟩:=h;exact .inl ⟨.cell a,v,rfl,λb hb=>by simp[Loc.gL]at hb;subst hb;exact key _ h⟩
 | obj r=>
  obtain⟨rfl,h⟩:=h;exact .inl ⟨.obj r,v,by cases v<;>rfl,λb hb=>by simp[Loc.gL]at hb;subst hb;exact key _ h⟩
 | mark m=>
  cases m<;>simp only[EvL]at h<;>first | exact .inr (.inl ⟨_,rfl⟩) | exact .inr (.inr rfl)
 | _=>simp only[EvL]at h
def ZgO{e:Event}(l:EvL H w n e)(f:(MemAct.ofEvent e).touch? = some x)(hb:x.loc.gL=some b) :
  ((∃o p,H b=some (o,p)/\(x.write=true->p=true))\/w.heap.size<=b/\b<n):=by
 obtain⟨loc,q,v⟩:=e;cases loc with
 | cell a=>
  obtain⟨rfl,h⟩:=l;simp[MemAct.ofEvent,MemAct.touch?]at f;subst f;simp[Loc.gL]at hb;subst hb;exact h
 | obj r=>
  obtain⟨rfl,h⟩:=l;cases q<;>(simp[MemAct.ofEvent,MemAct.touch?]at f;subst f;simp[Loc.gL]at hb;subst hb;exact h)
 | mark m=>
  cases m<;>simp only[EvL]at l<;>simp[MemAct.ofEvent,MemAct.touch?]at f
 | _=>simp only[EvL]at l
def Zlu{l:Loc}(h:l.isMemory):∃b,l.gL=some b:=by cases l<;>simp[Loc.isMemory,Loc.gL]at *
def LZ{op:MemOp}(f:op.act.touch? = some x)(hb:x.loc.gL=some b)(h:op.act.low n):b<n:=by
 obtain⟨g,fn,pos,act⟩:=op;cases act with
 | access e=>
  simp[MemAct.touch?]at f;subst f;obtain⟨loc,o,l⟩:=e;cases loc<;>simp[Loc.gL]at hb<;>subst hb<;>exact h
 | mark m=>cases m<;>simp[MemAct.touch?]at f<;>subst f<;>simp[Loc.gL]at hb<;>subst hb<;>exact h
 | _=>simp[MemAct.touch?]at f
theorem ZlF{s:T.S}{V:Hp}{w':World}(hT:T.Sound)(v:dY T i H s Hs t w)(D:T.act H.gh\/es=#[])(f:Fr H w V w')(I:∀e∈es,EvL H w w'.heap.size e) :
  gJ T i s Hs t w H (ZI i fr es) s Hs w'/\gY i Hs w H (t++ZI i fr es) Hs w' V:=by
 have Q:=hT.own v.inv;have B:∀op∈ZI i fr es,∀x,op.act.touch? = some x->∀b,x.loc.gL=some b->((∃o p,H b=some (o,p)/\(x.write=true->p=true))\/w.heap.size<=b/\b<w'.heap.size):=by intro op A x z b hb;obtain⟨e,C,rfl⟩:=Go.Conc.mem_ofEvents A;exact ZgO (I e C) z hb
 have E:∀b,b<w.heap.size->(∀o,H b≠some (o,true))->w'.heap[b]? = w.heap[b]?:=f.keep;have l:jD H .nil w V:=by
  intro b x z;cases hh:H b with
  | none=>exact .inl (f.new b hh (by rw[z];simp))
  | some y=>
   refine .inr ⟨y,.inl rfl,λK=>?_⟩;obtain⟨yo,X⟩:=y;obtain rfl:X=false:=K;have:=f.ro b yo hh;rw[this]at z;exact(iO z).symm
 have J:jD H Hs w V:=λb x z=>(l b x z).imp id λ⟨y,K,I⟩=>⟨y,.inl (K.resolve_right (by simp[Hp.nil])),I⟩;have tD:Hs.le w':=by
  intro b o pm hb;rw[E b (v.leS.lt hb) λo' ho'=>?_]
  ·exact v.leS b o pm hb
  simpa using(v.dis b _ _ ho' hb).2
 have L:=ZtZ (i:=i) (fr:=fr) Q v.dis v.leS I;refine⟨⟨f.size,λb hb C _=>E b hb C,tD,λb x z=>.inr ⟨x,.inr z,λ_=>rfl⟩,⟨by rw[f.os];exact .refl _,f.tape,f.out⟩,?_,?_,?_,?_⟩,⟨f.le,?_,J,?_⟩⟩
 ·exact λop A x z b hb=>(B op A x z b hb).imp (λ⟨o,p,C,F⟩=>⟨o,p,.inl C,F⟩) And.left
 ·intro said q a W op A x z Z;obtain⟨b,hb⟩:=Zlu Z.2.1;have Y:x.loc.gL=some b:=by rw[<-Z.1];exact hb
  rcases B op A x z b Y with⟨o,pm,C,F⟩ | ⟨C,_⟩
  ·refine v.perm b o pm C q a W hb ?_;rcases Z.2.2.1 with h | h
   ·exact .inr h
   exact .inl (F h)
  exfalso;obtain⟨y,K,hya⟩:=Go.Conc.touch_of W;exact absurd (LZ hya hb (v.low y (Go.Conc.mem_of_getElem? K))) O
 ·intro op A;obtain⟨e,C,rfl⟩:=Go.Conc.mem_ofEvents A;have h:=I e C;obtain⟨loc,wr,sy⟩:=e;have N:∀b,((∃o p,H b=some (o,p)/\(wr=true->p=true))\/w.heap.size<=b/\b<w'.heap.size)->b<w'.heap.size:=by
   rintro b (⟨o,pm,F,_⟩ | F)
   ·exact qBu (v.le.lt F) f.size
   exact F.2
  cases loc with
  | cell a=>
   obtain⟨rfl,h⟩:=h;exact N _ h
  | obj r=>
   obtain⟨rfl,h⟩:=h;cases wr<;>exact N _ h
  | mark m=>
   cases m<;>simp only[EvL]at h<;>trivial
  | _=>simp only[EvL]at h
 ·rcases D with D | rfl
  ·exact hT.AN v.inv v.lt (by rw[v.tag];exact D) L
  have:ZI i fr #[]=#[]:=by simp[ZI,Go.Conc.ofEvents_eq]
  rw[this,qAG];exact v.inv
 ·exact l.dis v.leS v.dis (λb x y C _=>by simp[Hp.nil]at C)
 intro b o pm hb q a W hl hw;obtain⟨x,z,U⟩:=Go.Conc.touch_of W;rcases Go.Conc.getElem?_append_cases z with⟨_,R⟩ | ⟨_,GX⟩
 ·refine Knows.app _ ?_;have Eo:touchAt t q=some a:=by rw[Go.Conc.touchAt_of R];exact U
  rcases l b _ hb with h | ⟨⟨yo,X⟩,K,I⟩
  ·exact absurd (LZ U hl (v.low x (Go.Conc.mem_of_getElem? R))) O
  refine v.perm b yo X (K.resolve_right (by simp[Hp.nil])) q a Eo hl (hw.imp (λhp=>?_) id);cases X with
  | true=>rfl
  | false=>have:=I rfl;simp at this;rw[hp]at this;simp at this
 have:=Go.Conc.knows_own z;rwa [Oz x GX]at this
def eD.at{s:T.S}
  (C:eD T G n H0 w0 gs w t s Hs Hf md rk) (d:Nat):eD T G n H0 w0 gs (w.at d) t s Hs Hf md rk:=
 ⟨C.size,C.pos,C.bound,C.inv,C.leS,C.le,C.dis,C.disS,C.perm,C.tag,C.clean,C.low,C.above,C.over,C.st,⟨C.out.os,C.out.tape,C.out.out⟩,C.grown,C.keep,C.org,C.orgS,C.one⟩
def eD.ahead{s:T.S}
  (C:eD T G n H0 w0 gs w t s Hs Hf md rk) (e:i<gs.size):dY T i (Hf i) s Hs t w:=
 ⟨C.inv,C.tag i e,by rw[<-C.size];exact e,C.le i,C.leS,C.disS i,C.perm i,C.low,λj f=>C.above j (by rw[C.size];exact f)⟩
def lE(gs:Array Goroutine)(j:Nat):Nat:=if(gs[j]?).any (·.status == .running)then 1 else 0
theorem LR{α:Type}(f:Nat->α)(i:Nat):upd f i (f i)=f:=by
 funext j;rw[V1];split
 ·subst j;rfl
 rfl
def Jv(e:i<n){k:Rk}(h:Rk.lt k (rk i)):KZ n (upd rk i k) rk:=⟨i,e,by rw[upd_same];exact h,λj f=>upd_ne _ _ f⟩
theorem Mh(e:i<n){m:Nat}(h:m<md i):sumTo n (upd md i m)<sumTo n md:=by have:sumTo n (upd md i m)+md i=sumTo n md+m:=sumTo_upd md m id e;omega
theorem oU.status{s:T.S}(h:oU T s gs j fr cs)(e:gs[j]? = some g):g.status=.running\/g.status=.blocked:=by
 rcases h with h | ⟨h,_⟩ | ⟨d,c,sh,_,_,⟨h,_⟩ | ⟨h,_⟩⟩<;>(rw[e]at h;obtain rfl:=iO h)
 ·exact .inl rfl
 ·exact .inr rfl
 ·exact .inr rfl
 exact .inl rfl
structure K0(p:Program)(g:Goroutine)(fr:Frame)(cs:List Frame):Prop where
 frm:g.frame=fr
 step:∀main w,stepG p main g w=stepG p main (cV fr cs) w
 wake:mayWake p g=mayWake p (cV fr cs)
 st:g.status=.running
def oU.lE{s:T.S}(h:oU T s gs j fr cs)(f:gs[j]? = some g)(e:g.status=.running):K0 p g fr cs:=by
 rcases h with h | ⟨h,_⟩ | ⟨d,c,sh,_,_,⟨h,_⟩ | ⟨h,_⟩⟩<;>(rw[f]at h;obtain rfl:=iO h)
 ·exact⟨rfl,λ_ _=>rfl,rfl,rfl⟩
 ·simp at e
 ·simp[parked]at e
 exact⟨rfl,λmain w=>Go.Conc.stepG_tries main _ w,rfl,rfl⟩
def oU.MN{s:T.S}(h:oU T s gs 0 fr cs)(e:gs[0]? = some g)(f:g.status=.running):g=cV fr cs:=by
 rcases h with h | ⟨h,_⟩ | ⟨d,c,sh,_,_,⟨h,_⟩ | ⟨_,h⟩⟩
 ·rw[e]at h;exact iO h
 ·rw[e]at h;obtain rfl:=iO h;simp at f
 ·rw[e]at h;obtain rfl:=iO h;simp[parked]at f
 exact absurd rfl h
def eD.stuck{s:T.S}
  (A:T.Sound) (C:eD T G n H0 w0 gs w t s Hs Hf md rk):∃(i:Nat) (g:Goroutine),gs[i]? = some g/\g.status=.running:=by
 refine qAd λo=>?_
 classical
 let D:Nat->Option Bool:=λj=>if gC T gs j true then some true else if gC T gs j false then some false else none
 have z:∀j d,gC T gs j d->D j=some d:=by
  intro j d h;cases d with
  | true=>exact iF h
  | false=>
   have e:¬ gC T gs j true:=λe=>C.one j j e h;show(if _ then _ else _)=_;rw[aT e,iF h]
 have f:∀j d,D j=some d->gC T gs j d:=by
  intro j d h;change (if _ then _ else _)=_ at h;split at h
  ·rename_i e;obtain rfl:=iO h;exact e
  split at h
  ·rename_i e;obtain rfl:=iO h;exact e
  simp at h
 refine A.live D C.inv (λj B E=>?_) λj k e r=>C.one j k (f _ _ e) (f _ _ r)
 have l:j<gs.size:=by rw[C.size];exact B
 have q:∀fr cs,oU T s gs j fr cs->T.Blk s j\/(T.cls s=false/\∃d,D j=some d/\T.can d (T.tag s j)):=by
  rintro fr cs (h | ⟨_,h⟩ | ⟨d,c,sh,F,_,⟨h,e,r⟩ | ⟨h,_⟩⟩)
  ·exact absurd ⟨j,_,h,rfl⟩ o
  ·exact .inl h
  ·exact .inr ⟨e,d,z _ _ ⟨_,_,_,h,F⟩,r⟩
  exact absurd ⟨j,_,h,rfl⟩ o
 have h:=C.st j l
 revert h
 generalize md j=m
 generalize rk j=k
 intro h
 match m,h with
 | 3,⟨_,fr,cs,h,_⟩=>exact q fr cs h
 | 2,⟨_,fr,cs,h,_⟩=>exact q fr cs h
 | 1,⟨_,fr,cs,h,_⟩=>exact q fr cs h
 | 0,⟨_,h,_⟩=>exact absurd ((C.tag j l).trans h) E
theorem eD.awake{s:T.S}
  (C:eD T G n H0 w0 gs w t s Hs Hf md rk):∀g∈gs,Go.Conc.awake g:=by
 intro g l;obtain⟨j,f,rfl⟩:=qDp.1 l;have e:gs[j]? = some gs[j]:=qBB f;have h:=C.st j f;revert h;generalize md j=m;generalize rk j=k;intro h;refine Go.Conc.awake_of ?_;match m,h with
 | 3,⟨_,fr,cs,h,_⟩=>exact(h.status e).imp id .inl
 | 2,⟨_,fr,cs,h,_⟩=>exact(h.status e).imp id .inl
 | 1,⟨_,fr,cs,h,_⟩=>exact(h.status e).imp id .inl
 | 0,⟨_,_,_,g,q,h,o,_⟩=>
  rw[e]at h;obtain rfl:=iO h;exact o.status.imp id .inr
end
end
section
variable{i a a' d:Nat}{H kG:Hp}{w':World}{M:Ms}{sl nO:Option (Nat×Nat)}{fr:Frame}{cs:List Frame}{g:Goroutine}
open Go.Conc (Knows Deaf touchAt QuitsD crowd woken rcase scase recvd parked)
open Go.ConcN (sumTo upd sumTo_upd upd_ne upd_same)
section
variable{p:Program}{T:Vy p}{G:Frame->List Frame->Hp->Prop}{n:Nat}{H0:Hp}{w0:World}{gs:Array Goroutine}{w:World}{t:Trace}{s:T.S}{Hs:Hp}{Hf:Nat->Hp}{md:Nat->Nat}{rk:Nat->Rk}
def Y9(T:Vy p)(G:Frame->List Frame->Hp->Prop)(n:Nat)(H0:Hp)(w0:World)(m:Machine)(t:Trace):Prop:=
 ∃k e w' nO o q kG f h l,runNT p k m t=(.next (crowd e w' nO),o)/\eD T G n H0 w0 e w' o q kG f h l/\∃fr cs,e[0]? = some (cV fr cs)/\G fr cs (f 0)
def Y9.step{m q:Machine}{t u:Trace}(h:stepT p m=(.next q,u))(y:Y9 T G n H0 w0 q (t++u)):Y9 T G n H0 w0 m t:=by obtain⟨k,f,w',nO,A,z,kG,e,l,o,r,v⟩:=y;exact⟨k+1,f,w',nO,A,z,kG,e,l,o,by simp only[runNT,h];exact r,v⟩
def gJ.still(e:dY T i H s Hs t w):gJ T i s Hs t w H #[] s Hs w:=
 ⟨dO _,λ_ _ _ _=>rfl,e.leS,λb x f=>.inr ⟨x,.inr f,λ_=>rfl⟩,.refl w,by simp,by simp,by simp,by simpa using e.inv⟩
def gY.still(e:dY T i H s Hs t w):gY i Hs w H (t++#[]) Hs w H:=
 ⟨e.le,e.dis,λb x f=>.inr ⟨x,.inl f,λ_=>rfl⟩,by simpa using e.perm⟩
def gY.aR{e:Trace}(g:List Nat):gY i Hs w H e kG w' (.aR g):=
 ⟨λb o p h=>by simp[Hp.aR]at h,λb x y h=>by simp[Hp.aR]at h,λb x h=>by simp[Hp.aR]at h,λb o p h=>by simp[Hp.aR]at h⟩
def iV(s:T.S)(gs:Array Goroutine)(md:Nat->Nat)(rk:Nat->Rk):Ms:=(T.more s,sumTo gs.size md,rk,sumTo gs.size (lE gs))
def Zlp(h:a'<a)(x e:Nat×(Nat->Rk)×Nat):qP n (a',e) (a,x):=.left _ _ h
def RH{b e:Nat}{r l:Nat->Rk}{c o:Nat}(v:a'<=a)(h:e<b\/(e=b/\(KZ n l r\/l=r/\o<c))):qP n (a',e,l,o) (a,b,r,c):=by
 rcases qBi a' a with f | q
 ·exact .left _ _ f
 obtain rfl:a'=a:=O;refine .right _ ?_;rcases h with h | ⟨rfl,h⟩
 ·exact .left _ _ h
 refine .right _ ?_;rcases h with h | ⟨rfl,h⟩
 ·exact .left _ _ h
 exact .right _ h
def Jp(i:Nat)(fr:Frame):ZI i fr #[]=#[]:=by simp[ZI,Go.Conc.ofEvents_eq]
def XO(e:i<gs.size)(f:Goroutine->Goroutine)(g:Goroutine):((gs.map f).setIfInBounds i g)[i]? = some g:=by simp[e]
def OA(ih:∀Q,qP n Q M->∀gs w sl t s Hs Hf md rk,iV (T:=T) s gs md rk=Q->eD T G n H0 w0 gs w t s Hs Hf md rk->Y9 T G n H0 w0 (crowd gs w sl) t)
  (W:T.Sound) (V:iV s gs md rk=M) (C:eD T G n H0 w0 gs w t s Hs Hf md rk) (E:i<gs.size) {f:Frame} {e:List Frame} {es:Array Event} {q:T.S} {F:Hp} {m:Nat} {k:Rk}
   (X:gs[i]? = some g) (L:K0 p g fr cs) (N:stepT p (crowd gs w sl)=runT p (crowd gs (w.at d) nO) i) (y:stepG p (i == 0) (cV fr cs) (w.at d)=.go (cV f e) w' es)
  (Y:gJ T i s Hs t (w.at d) (Hf i) (ZI i fr es) q kG w') (J:gY i Hs (w.at d) (Hf i) (t++ZI i fr es) kG w' F) (B:∀j,T.tag q j=if j=i then F.gh else T.tag s j) (v:T.next q=T.next s) (l:T.more q<=T.more s)
  (hb:mayWake p (cV fr cs)=true\/∀j,T.Blk s j->T.Blk q j) (I:T.cls q=T.cls s\/(T.cls q=true/\mayWake p (cV fr cs)=true/\i=0))
  (A:∀z:Array Goroutine,z[i]? = some (cV f e)->z9 T G z (t++ZI i fr es) q i F m k) (r:m<md i\/m=md i/\Rk.lt k (rk i)):Y9 T G n H0 w0 (crowd gs w sl) t:=by
 have o:=Go.Conc.runT_crowd_go (P:=p) (sl:=nO) X ((L.step _ _).trans y);have R:MemOp.ofEvents i g.frame.fn g.frame.place es=ZI i fr es:=by rw[L.frm]
 rw[R]at o;refine Y9.step (N.trans o) ?_;have D:(mayWake p g && (cV f e).status != .blocked && (cV f e).status != .waiting)=mayWake p (cV fr cs):=by rw[L.wake];show(mayWake p (cV fr cs) && true && true)=_;simp
 have U:=(C.at d).go W E (g:=g) (g':=cV f e) (λop K=>Oz op K) Y J B v l (by rw[D];exact hb) (by rw[D];exact I) (.inr rfl) (A _ (XO E _ _));refine ih _ ?_ _ _ _ _ _ _ _ _ _ rfl U;rw[<-V];unfold iV;have O:((gs.map (woken p g (cV f e) w')).setIfInBounds i (cV f e)).size=gs.size:=by simp
 rw[O];refine RH l ?_;rcases r with h | ⟨rfl,h⟩
 ·exact .inl (Mh E h)
 exact .inr ⟨by rw[LR],.inl (Jv (qBu E (by have:=C.bound;omega)) h)⟩
theorem Jm(ih:∀E,qP n E M->∀gs w sl t s Hs Hf md rk,iV (T:=T) s gs md rk=E->eD T G n H0 w0 gs w t s Hs Hf md rk->Y9 T G n H0 w0 (crowd gs w sl) t)
  (O:T.Sound) (N:iV s gs md rk=M) (C:eD T G n H0 w0 gs w t s Hs Hf md rk) (f:i<gs.size) 
   (J:gs[i]? = some g) (z:K0 p g fr cs) (A:stepT p (crowd gs w sl)=runT p (crowd gs (w.at d) nO) i) (r:T6 T i fr cs s (w.at d))
  (q:∀l:Array Goroutine,l[i]? = some (gL fr cs)->z9 T G l t s i (Hf i) (md i) (rk i)):Y9 T G n H0 w0 (crowd gs w sl) t:=by
 obtain⟨L,Q⟩:=r;have e:=Go.Conc.runT_crowd_go (P:=p) (sl:=nO) J ((z.step _ _).trans L);have K:MemOp.ofEvents i g.frame.fn g.frame.place #[]=#[]:=by rw[z.frm];exact Jp i fr
 rw[K]at e;refine Y9.step (A.trans e) ?_;have I:=(C.at d).ahead f;have F:=(C.at d).go O f (g:=g) (g':=(gL fr cs)) (u:=#[]) (by simp) (gJ.still I) (gY.still I) (λj=>by split;subst j;exact C.tag _ f;rfl) rfl (dO _) (.inr λ_ h=>h) (.inl rfl) (.inr rfl)
  (m:=md i) (k:=rk i) (by have:=q _ (XO f (woken p g (gL fr cs) (w.at d)) (gL fr cs));simpa using this)
 rw[LR,LR,LR]at F;refine ih _ ?_ _ _ _ _ _ _ _ _ _ rfl F;rw[<-N];unfold iV;have B:((gs.map (woken p g (gL fr cs) (w.at d))).setIfInBounds i (gL fr cs)).size=gs.size:=by simp
 rw[B];refine RH (dO _) (.inr ⟨rfl,.inr ⟨rfl,?_⟩⟩);have D:∀o,woken p g (gL fr cs) (w.at d) o=o:=by intro o;simp[woken]
 have v:gs.map (woken p g (gL fr cs) (w.at d))=gs:=by have:woken p g (gL fr cs) (w.at d)=id:=funext D;rw[this,Array.map_id]
 rw[v];have:lE (gs.setIfInBounds i (gL fr cs))=upd (lE gs) i 0:=by
  funext j;rw[V1];unfold lE;by_cases y:j=i
  ·subst y;simp[f]
  rw[aT y,qAu (qAF y)]
 rw[this];exact Mh f (by simp[lE,J,z.st])
end
end
variable{i:Nat}{fr tG:Frame}{es:Array Event}{op:MemOp}
open Go.Conc (Knows Deaf touchAt QuitsD crowd woken rcase scase recvd parked)
open Go.ConcN (sumTo upd sumTo_upd upd_ne upd_same)
section
variable{p:Program}{T:Vy p}{G:Frame->List Frame->Hp->Prop}{n:Nat}{H0:Hp}{w0:World}{gs:Array Goroutine}{w:World}{t:Trace}{s:T.S}{Hs:Hp}{Hf:Nat->Hp}{md:Nat->Nat}{rk:Nat->Rk}
def Zlo(h:∀e∈es,Event.mute e=true):∀op∈ZI i fr es,KS i op:=by
 intro op f;obtain⟨⟨loc,q,o⟩,l,rfl⟩:=Go.Conc.mem_ofEvents f;have:=h _ l;refine⟨rfl,?_⟩;cases loc with
 | mark m=>cases m<;>first | exact .inl rfl | exact .inr rfl | simp[Event.mute]at this
 | _=>simp[Event.mute]at this
theorem KS.AD(h:KS i op):op.act.touch? = none:=by rcases h.2 with h | h<;>rw[h]<;>rfl
def KS.low{n:Nat}(h:KS i op):op.act.low n:=by rcases h.2 with h | h<;>rw[h]<;>trivial
def ZsO(Q:T.Sound){M:Ms}(ih:∀O,qP n O M->∀gs w sl t s Hs Hf md rk,iV (T:=T) s gs md rk=O->eD T G n H0 w0 gs w t s Hs Hf md rk->Y9 T G n H0 w0 (crowd gs w sl) t)
  (W:iV s gs md rk=M) (C:eD T G n H0 w0 gs w t s Hs Hf md rk) (r:i<gs.size) {sl nO:Option (Nat×Nat)} {d:Nat} {g:Goroutine} {q:Nat} (v:i≠0) (F:md i=0) (R:(Hf i).gh=T.left) (hn:yF (Hf i))
  (Y:gs[i]? = some g) (B:g.status=.running) (L:stepT p (crowd gs w sl)=runT p (crowd gs (w.at d) nO) i) (U:QuitsD p q (Deaf t i) g) (K:rk i=.ofNat q):Y9 T G n H0 w0 (crowd gs w sl) t:=by
 cases q with
 | zero=>rw[U.1]at B;simp at B
 | succ k=>
  rcases U with⟨X,_⟩ | ⟨_,g',es,J,A,y⟩
  ·rw[X]at B;simp at B
  have D:(i == 0)=false:=by simp[v]
  have z:=Go.Conc.runT_crowd_go (P:=p) (sl:=nO) Y (by rw[D];exact A (w.at d));refine Y9.step (L.trans z) ?_;have o:=(C.at d).ahead r;have f:=Zlo (i:=i) (fr:=g.frame) J;have Z:gJ T i s Hs t (w.at d) (Hf i) (ZI i g.frame es) s Hs (w.at d):=
   ⟨dO _,λ_ _ _ _=>rfl,o.leS,λb x l=>.inr ⟨x,.inr l,λ_=>rfl⟩,.refl _,λop e x l=>by rw[(f op e).AD]at l;simp at l,
    λ_ _ _ _ op e x l=>by rw[(f op e).AD]at l;simp at l,λop e=>(f op e).low,Q.mute o.inv o.lt (o.tag.trans R) f⟩
  have E:gY i Hs (w.at d) (Hf i) (t++ZI i g.frame es) Hs (w.at d) (Hf i):=
   ⟨o.le,o.dis,λb x l=>.inr ⟨x,.inl l,λ_=>rfl⟩,o.perm.own λop e=>.inl (Oz op e)⟩
  have V:=(C.at d).go Q r (g:=g) (g':=g') (λop e=>Oz op e) Z E (λj=>by split;subst j;exact C.tag _ r;rfl) rfl (dO _) (.inr λ_ h=>h) (.inl rfl) (.inl (by rcases y.status with h | h<;>rw[h]<;>simp)) (m:=0) (k:=.ofNat k)
   ⟨v,R,hn,g',k,XO r _ _,by rw[Go.Conc.Deaf_own];exact y,rfl⟩
  refine ih _ ?_ _ _ _ _ _ _ _ _ _ rfl V;rw[<-W];unfold iV;have N:((gs.map (woken p g g' (w.at d))).setIfInBounds i g').size=gs.size:=by simp
  rw[N];have I:upd md i 0=md:=by rw[<-F,LR]
  refine RH (dO _) (.inr ⟨by rw[I],.inl (Jv (qBu r (by have:=C.bound;omega)) ?_)⟩);rw[K];exact Rk.AW k
def Ln{k:Nat}:YW i k fr tG es=((ZI i fr es)++#[({ g:=i,fn:=fr.fn,pos:=fr.place,act:=.go k }:MemOp)])++#[({ g:=k,fn:=tG.fn,pos:=fr.place,act:=.start }:MemOp)]:=by simp[YW]
theorem eD.spawn(C:eD T G n H0 w0 gs w t s Hs Hf md rk){eC:Frame}{B:List Frame}{w':World}{R U:Hp}{s':T.S}{kG:Hp}{k kc:Rk}
  (I:gJ T 0 s Hs t w (Hf 0) (YW 0 (T.next s) fr tG es) s' kG w') (hg:gY 0 Hs w (Hf 0) (t++YW 0 (T.next s) fr tG es) kG w' R) (L:gY (T.next s) Hs w (Hf 0) (t++YW 0 (T.next s) fr tG es) kG w' U) (hd:R.Dis U)
  (Z:∀j,T.tag s' j=if j=0 then R.gh else if j=T.next s then U.gh else T.tag s j) (BK:T.next s'=T.next s+1) (BM:T.more s'<T.more s) (jQ:T.cls s'=T.cls s) (hb:∀j,j<T.next s->T.Blk s j->T.Blk s' j)
  (Gn:T.act R.gh) (M7:fO (mN T.prgM G) k (eC,B,R)) (N0:T.act U.gh) (Ef:fO (mN (T.prgW (T.next s)) Vg) kc (tG,[],U)) :
  eD T G n H0 w0 ((gs.setIfInBounds 0 (cV eC B)).push (cV tG [])) w' (t++YW 0 (T.next s) fr tG es) s' kG (upd (upd Hf 0 R) (T.next s) U) (upd (upd md 0 3) (T.next s) 2) (upd (upd rk 0 k) (T.next s) kc):=by
 have hp:=C.pos;have hnz:T.next s≠0:=by rw[<-C.size];omega
 have E:((gs.setIfInBounds 0 (cV eC B)).push (cV tG [])).size=gs.size+1:=by simp
 have hK:∀K,jD (Hf 0) Hs w K->jD H0 .nil w0 K:=by
  intro K hK b x Q;rcases hK b x Q with h | ⟨y,hy,he⟩
  ·exact .inl (qAz C.grown h)
  have:w0.heap.size<=b\/∃z,(H0 b=some z\/Hp.nil b=some z)/\(z.2=false->y=z):=hy.elim (λh=>C.org 0 b y h) (λh=>C.orgS b y h);refine this.imp id λ⟨z,F,MZ⟩=>⟨z,F,λhf=>?_⟩;have:=MZ hf;rw[<-this]at hf ⊢;exact he hf
 have uR:∀j d,gC T ((gs.setIfInBounds 0 (cV eC B)).push (cV tG [])) j d->gC T gs j d:=by
  rintro j d ⟨x,c,sh,Q,ho⟩;rw[qCV]at Q;split at Q
  ·have:=iO Q;have:=qBc Goroutine.status this;simp[parked]at this
  by_cases A:j=0
  ·subst A;rw[qAO hp]at Q;have:=qBc Goroutine.status (iO Q);simp[parked]at this
  rw[qAu (qAF A)]at Q;exact⟨x,c,sh,Q,ho⟩
 have Dl:∀j,j≠0->(Hf j).le w':=λj A=>Au (C.dis 0 j (qAF A)) (C.disS j).symm (C.le j) I.keep;have dj:∀j,j≠0->R.Dis (Hf j):=λj A=>hg.aB.dis (C.le j) (C.dis 0 j (qAF A)) (C.disS j).symm;have dc:∀j,j≠0->U.Dis (Hf j):=λj A=>L.aB.dis (C.le j) (C.dis 0 j (qAF A)) (C.disS j).symm;have J:∀j,j≠0->j≠T.next s->Deaf (t++YW 0 (T.next s) fr tG es) j=Deaf t j:=by
  intro j l hk;rw[Ln,<-qEb,Go.Conc.Deaf_other _ (g':=T.next s) (qAF hk) _ (by simp)];refine Go.Conc.Deaf_other _ (g':=0) (qAF l) _ ?_;intro op v;rcases qBx.1 v with h | h
  ·exact Oz op h
  simp at h;subst h;rfl
 have W:∀j,upd (upd Hf 0 R) (T.next s) U j=if j=T.next s then U else if j=0 then R else Hf j:=λj=>rfl
 refine⟨by rw[E,BK,C.size],by rw[E];omega,?_,I.inv,I.leS,?_,?_,?_,?_,?_,?_,?_,?_,?_,?_,C.out.trans I.out,qAz C.grown I.size,?_,?_,hK _ I.from2,λj k e D=>C.one j k (uR _ _ e) (uR _ _ D)⟩
 ·rw[E];have:=C.bound;omega
 ·intro j;rw[W];split
  ·exact L.le
  split
  ·exact hg.le
  exact Dl j ‹_›
 ·intro j j' pK;rw[W,W];by_cases e:j=T.next s
  ·rw[iF e,aT O];by_cases D:j'=0
   ·rw[iF D];exact hd.symm
   rw[aT D];exact dc j' D
  rw[aT e];by_cases D:j'=T.next s
  ·rw[iF D];by_cases V:j=0
   ·rw[iF V];exact hd
   rw[aT V];exact(dc j V).symm
  rw[aT D];by_cases V:j=0
  ·rw[iF V,aT O];exact dj j' O
  rw[aT V];by_cases h4:j'=0
  ·rw[iF h4];exact(dj j V).symm
  rw[aT h4];exact C.dis j j' pK
 ·intro j;rw[W];split
  ·exact L.dis
  split
  ·exact hg.dis
  rename_i A;exact(I.from2.dis (C.le j) (C.dis 0 j (qAF A)) (C.disS j).symm).symm
 ·intro j;rw[W];split
  ·subst j;exact L.perm
  split
  ·subst j;exact hg.perm
  rename_i A;intro b o pm hb q a hq hl hw;obtain⟨x,Q,qV⟩:=Go.Conc.touch_of hq;rcases Go.Conc.getElem?_append_cases Q with⟨_,wP⟩ | ⟨_,GX⟩
  ·exact(C.perm j b o pm hb q a (by rw[Go.Conc.touchAt_of wP];exact qV) hl hw).app _
  exfalso;rcases I.evs x GX a qV b hl with⟨o',p',e,D⟩ | e
  ·have:(o',p')=(o,pm)/\(o',p').2=false:=e.elim (λh=>C.dis 0 j (qAF A) b _ _ h hb) (λh=>(C.disS j).symm b _ _ h hb);obtain⟨e1,e2⟩:=this;simp only[qBD]at e1;obtain⟨rfl,rfl⟩:=e1;rcases hw with h | h
   ·rw[h]at e2;simp at e2
   rw[D h]at e2;simp at e2
  exact absurd ((C.le j).lt hb) O
 ·intro j A;rw[Z,W];by_cases l:j=0
  ·rw[iF l,aT O,iF l]
  rw[aT l];by_cases e:j=T.next s
  ·rw[iF e,iF e]
  rw[aT e,aT e,aT l];exact C.tag j (by rw[E]at A;have:=C.size;omega)
 ·intro said;rw[Ln,<-qEb];refine Go.Conc.noRace_append (g:=T.next s) (Go.Conc.noRace_append (g:=0) (C.clean said) ?_ ?_) (by simp) ?_
  ·intro op v;rcases qBx.1 v with h | h
   ·exact Oz op h
   simp at h;subst h;rfl
  ·intro q a ha op v b oA hc;exact I.norace said q a ha op (by rw[Ln];exact qBx.2 (.inl v)) b oA hc
  intro q a ha op v b oA;simp at v;subst v;simp[MemAct.touch?]at oA
 ·exact Go.Conc.seen_app (λop v=>MemAct.low_mono I.size (C.low op v)) I.low
 ·intro j A;rw[E]at A;rw[J j O (by rw[<-C.size];omega)];exact C.above j O
 ·intro j A;rw[E]at A;rw[W,aT (by rw[<-C.size];omega),aT O];exact C.over j O
 ·intro j A;rw[E]at A;have e1:∀{α:Type} (f:Nat->α) (x y:α),upd (upd f 0 x) (T.next s) y j=if j=T.next s then y else if j=0 then x else f j:=λ_ _ _=>rfl
  rw[e1,e1,e1];by_cases e:j=T.next s
  ·rw[iF e,iF e,iF e];subst e;refine⟨hnz,tG,[],.inl ?_,Ef,N0⟩;rw[qCV,iF (by simp[C.size])]
  rw[aT e,aT e,aT e];have Y:j<gs.size:=by have:=C.size;omega
  have X:((gs.setIfInBounds 0 (cV eC B)).push (cV tG []))[j]? = (gs.setIfInBounds 0 (cV eC B))[j]?:=by rw[qCV,aT (by simp;omega)]
  by_cases l:j=0
  ·rw[iF l,iF l,iF l];subst l;refine⟨rfl,eC,B,.inl ?_,M7,Gn⟩;rw[X];simp[hp]
  rw[aT l,aT l,aT l];have N:((gs.setIfInBounds 0 (cV eC B)).push (cV tG []))[j]? = gs[j]?:=by rw[X,qAu (qAF l)]
  have aw:∀fr cs,oU T s gs j fr cs->oU T s' ((gs.setIfInBounds 0 (cV eC B)).push (cV tG [])) j fr cs:=by intro fr cs h;unfold oU Pk at h ⊢;rw[N];refine h.imp id (qDU (λh=>⟨h.1,hb j (by rw[<-C.size];exact Y) h.2⟩) ?_);rintro⟨d,c,sh,ho,hs,h⟩;refine⟨d,c,sh,ho,hs,h.imp (λ⟨a1,a2,a3⟩=>⟨a1,jQ.trans a2,?_⟩) id⟩;rw[Z,aT l,aT e];exact a3
  have h:=C.st j Y;revert h;generalize md j=m;generalize rk j=r;intro h;match m,h with
  | 3,⟨l,fr,cs,e,D⟩=>exact⟨l,fr,cs,aw _ _ e,D⟩
  | 2,⟨l,fr,cs,e,D⟩=>exact⟨l,fr,cs,aw _ _ e,D⟩
  | 1,⟨l,fr,cs,e,D⟩=>exact⟨l,fr,cs,aw _ _ e,D⟩
  | 0,⟨Gs,CQ,D,x,q,V,h4,h5⟩=>exact⟨Gs,CQ,D,x,q,by rw[N];exact V,by rw[J j l e];exact h4,h5⟩
 ·intro b hb hn;rw[I.keep b (qBu hb C.grown) ?_ ?_]
  ·exact C.keep b hb hn
  ·intro o ho;rcases C.org 0 b _ ho with h | ⟨z,F,he⟩
   ·omega
   rcases F with F | F
   ·obtain⟨zo,zp⟩:=z;cases zp with
    | true=>exact hn zo F
    | false=>have:=he rfl;simp at this
   simp[Hp.nil]at F
  intro o ho;rcases C.orgS b _ ho with h | ⟨z,F,he⟩
  ·omega
  rcases F with F | F
  ·obtain⟨zo,zp⟩:=z;cases zp with
   | true=>exact hn zo F
   | false=>have:=he rfl;simp at this
  simp[Hp.nil]at F
 intro j;rw[W];split
 ·exact hK _ L.aB
 split
 ·exact hK _ hg.aB
 exact C.org j
end
