import Derived.Test.YtmfealhfgccmfaaGreatDoorP07
set_option linter.all false
def D5{G:Prop}(h:G:=by
  rcases hz with hz | hz
  ·obtain⟨zo,zp⟩:=z;cases zp with
   | true=>exact hn zo hz
   | false=>have:=he rfl;simp at this
  simp[Hp.nil]at hz):G:=h
def TW{G:Prop}(h:G:=by
  cases hh:H b with
  | none=>exact .inl (f.new b hh (by rw[hx];simp))
  | some y=>
   refine .inr ⟨y,.inl rfl,λhy=>?_⟩;obtain⟨yo,yp⟩:=y;obtain rfl:yp=false:=hy;have:=f.ro b yo hh;rw[this]at hx;exact(aT hx).symm):G:=h
def S8{G:Prop}(h:G:=by
  obtain⟨e1,e2⟩:=this;simp only[qAX]at e1;obtain⟨rfl,rfl⟩:=e1;rcases hw with h | h
  ·rw[h]at e2;simp at e2
  rw[h2 h]at e2;simp at e2):G:=h
def LC{G:Prop}(h:G:=by have:=qAx Goroutine.status (aT hx);simp[parked]at this):G:=h
namespace Go.LL
section
variable{P:fP}{G:Frame->List Frame->Hp->Prop}{fr:Frame}{cs:List Frame}{H:Hp}{c:CommCase}{sh:CommShape}{g g':Goroutine}{w w':World}{n j i m:Nat}{gs:Array Goroutine}{t u:Trace}{k:Rk}
open Go.Conc (Knows Deaf touchAt QuitsD crowd woken rcase scase recvd parked)
open Go.ConcN (sumTo upd sumTo_upd upd_ne upd_same)
def oG(P:fP)(G:Frame->List Frame->Hp->Prop)(R:Nd->Prop)(x:Nd):Prop:=
 G x.1 x.2.1 x.2.2\/rX P x.1 x.2.1 x.2.2 (λa b c=>R (a,b,c))\/P.sh (λa b c=>R (a,b,c)) x.1 x.2.1 x.2.2
theorem oG.mono:∀{R e:Nd->Prop},(∀x,R x->e x)->∀x,oG P G R x->oG P G e x:=
 λf _ h=>h.imp id (qDD (λh=>h.mono λ_ _ _ h=>f _ h) (λh=>P.shMono (λ_ _ _ h=>f _ h) h))
def Reach.Q8(h:Reach P G fr cs H):∃k,jI (oG P G) k (fr,cs,H):=
 Zp3 oG.mono λR e=>h (λa b c=>R (a,b,c)) (λ_ _ _ f=>e _ (.inl f)) (λ_ _ _ l=>e _ (.inr (.inl l))) (λ_ _ _ o=>e _ (.inr (.inr o)))
section
variable{p:Program}(T:VG p)
def lQ(d:Bool)(c:CommCase)(sh:CommShape):Prop:=(d=true/\∃v z,c=scase T.ch v z/\sh=.send)\/(d=false/\∃z e,c=rcase T.ch z/\sh=.recv e)
def Pk(s:T.S)(gs:Array Goroutine)(j:Nat)(fr:Frame)(cs:List Frame):Prop:=
 ∃d c sh,lQ T d c sh/\(∀main w n,w.heap[T.ch]? = some (.chan 0 #[] false n n false)->stepG p main (gG fr cs) w=.comm (gG fr cs) #[c] true sh w #[]) /\
  ((gs[j]? = some (parked (gG fr cs) #[c] sh)/\T.cls s=false/\T.can d (T.tag s j))\/(gs[j]? = some { parked (gG fr cs) #[c] sh with status:=.running }/\j≠0))
def qH(s:T.S)(gs:Array Goroutine)(j:Nat)(fr:Frame)(cs:List Frame):Prop:=gs[j]? = some (gG fr cs)\/(gs[j]? = some (j0 fr cs)/\T.Blk s j)\/Pk T s gs j fr cs
def jU(gs:Array Goroutine)(j:Nat)(d:Bool):Prop:=∃g c sh,gs[j]? = some (parked g #[c] sh)/\lQ T d c sh
def zC(G:Frame->List Frame->Hp->Prop)(gs:Array Goroutine)(t:Trace)(s:T.S)(j:Nat)(H:Hp):Nat->Rk->Prop
 | 3,k=>j=0/\∃fr cs,qH T s gs j fr cs/\jI (oG T.prgM G) k (fr,cs,H)/\T.act H.gh
 | 2,k=>j≠0/\∃fr cs,qH T s gs j fr cs/\jI (oG (T.prgW j) Vs) k (fr,cs,H)/\T.act H.gh
 | 1,k=>j≠0/\∃fr cs,qH T s gs j fr cs/\(∃e:Hp,e.gh=H.gh/\jI (oG (T.prgW j) Vs) k (fr,cs,e))/\T.hsh H.gh/\xQ H
 | 0,k=>j≠0/\H.gh=T.left/\xQ H/\∃g q,gs[j]? = some g/\QuitsD p q (Deaf t j) g/\k=.ofNat q
 | _,_=>False
structure g8(G:Frame->List Frame->Hp->Prop)(n:Nat)(H0:Hp)(w0:World)(gs:Array Goroutine)(w:World)(t:Trace)(s:T.S)(Hs:Hp)(Hf:Nat->Hp)(md:Nat->Nat)(rk:Nat->Rk):Prop where
 size:gs.size=T.next s
 pos:0<gs.size
 bound:gs.size+T.more s<=n
 inv:T.Inv s Hs t
 leS:Hs.le w
 le:∀j,(Hf j).le w
 dis:∀j k,j≠k->(Hf j).Dis (Hf k)
 disS:∀j,(Hf j).Dis Hs
 perm:∀j,iQ t j (Hf j)
 tag:∀j,j<gs.size->T.tag s j=(Hf j).gh
 clean:∀said,¬ Race said t
 low:∀op∈t,op.act.low w.heap.size
 above:∀j,gs.size<=j->Deaf t j=0
 over:∀j,gs.size<=j->xQ (Hf j)
 st:∀j,j<gs.size->zC T G gs t s j (Hf j) (md j) (rk j)
 out:wE w0 w
 grown:w0.heap.size<=w.heap.size
 keep:∀b,b<w0.heap.size->(∀o,H0 b≠some (o,true))->w.heap[b]? = w0.heap[b]?
 org:∀j,lR H0 .nil w0 (Hf j)
 orgS:lR H0 .nil w0 Hs
 one:∀j k,jU T gs j true->jU T gs k false->False
variable{T}
def Zzp{d:Bool}(l:lQ T d c sh){e:Bool}(h:w.heap[T.ch]? = some (.chan 0 #[] e n n false)) :
  (parked g #[c] sh).again w=if e then{ parked g #[c] sh with status:=.running }else parked g #[c] sh:=by
 rcases l with⟨_,v,z,rfl,_⟩ | ⟨_,z,f,rfl,_⟩<;>cases e<;>simp[Goroutine.again,parked,scase,rcase,h]
def ZnQ{x y:Goroutine}(h:woken p g g' w' x=parked y #[c] sh):x=parked y #[c] sh:=by
 unfold woken at h;split at h
 ·unfold Goroutine.again at h;split at h
  ·dsimp only at h;split at h
   ·have:=qAx Goroutine.status h;simp[parked]at this
   exact h
  ·have:=qAx Goroutine.status h;simp[parked]at this
  ·have:=qAx Goroutine.status h;simp[parked]at this
  exact h
 exact h
def qH.pI{s f:T.S}(l:j≠i)(hb:(mayWake p g && g'.status != .blocked && g'.status != .waiting)=true\/∀j,T.Blk s j->T.Blk f j)
  (q:T.cls f=T.cls s\/(T.cls f=true/\(mayWake p g && g'.status != .blocked && g'.status != .waiting)=true/\i=0)) (v:∃n,w'.heap[T.ch]? = some (.chan 0 #[] (T.cls f) n n false)) (e:T.tag f j=T.tag s j)
  (h:qH T s gs j fr cs):qH T f ((gs.map (woken p g g' w')).setIfInBounds i g') j fr cs:=by
 unfold qH at h ⊢;rw[qAg (qAo l),qBH];rcases h with h | ⟨h,C⟩ | ⟨d,c,sh,B,E,h⟩
 ·rw[h];exact .inl (by simp[Go.Conc.woken_run (show(gG fr cs).status=.running from rfl)])
 ·rw[h];by_cases o:(mayWake p g && g'.status != .blocked && g'.status != .waiting)=true
  ·refine .inl ?_;simp only[qBC,woken,o,qBb];rfl
  refine .inr (.inl ⟨?_,hb.resolve_left o j C⟩);simp only[qBC,woken,o];rfl
 refine .inr (.inr ⟨d,c,sh,B,E,?_⟩);rw[qAg (qAo l),qBH];rcases h with⟨h,y,z⟩ | h
 ·rw[h];obtain⟨n,D⟩:=v;by_cases o:(mayWake p g && g'.status != .blocked && g'.status != .waiting)=true
  ·simp only[qBC,woken,o,qBb,Zzp B D];cases r:T.cls f with
   | true=>
    refine .inr ⟨rfl,?_⟩;rcases q with A | ⟨_,_,rfl⟩
    ·rw[r,y]at A;simp at A
    exact l
   | false=>exact .inl ⟨rfl,rfl,by rw[e];exact z⟩
  have r:T.cls f=T.cls s:=q.resolve_right λh=>o h.2.1;simp only[qBC,woken,o];exact .inl ⟨rfl,r.trans y,by rw[e];exact z⟩
 rw[h.1];refine .inr ⟨?_,h.2⟩;simp[Go.Conc.woken_run (show({ parked (gG fr cs) #[c] sh with status:=.running }:Goroutine).status=.running from rfl)]
def zC.pI{s z:T.S}(e:j≠i)
  (hb:(mayWake p g && g'.status != .blocked && g'.status != .waiting)=true\/∀j,T.Blk s j->T.Blk z j) (D:∀op∈u,op.g=i)
  (y:T.cls z=T.cls s\/(T.cls z=true/\(mayWake p g && g'.status != .blocked && g'.status != .waiting)=true/\i=0)) (v:∃n,w'.heap[T.ch]? = some (.chan 0 #[] (T.cls z) n n false)) (f:T.tag z j=T.tag s j)
  (h:zC T G gs t s j H m k):zC T G ((gs.map (woken p g g' w')).setIfInBounds i g') (t++u) z j H m k:=by
 match m,h with
 | 3,⟨l,fr,cs,o,r⟩=>exact⟨l,fr,cs,o.pI e hb y v f,r⟩
 | 2,⟨l,fr,cs,o,r⟩=>exact⟨l,fr,cs,o.pI e hb y v f,r⟩
 | 1,⟨l,fr,cs,o,r⟩=>exact⟨l,fr,cs,o.pI e hb y v f,r⟩
 | 0,⟨l,o,r,x,q,B,A,C⟩=>
  refine⟨l,o,r,x,q,?_,?_,C⟩
  ·rw[qAg (qAo e),qBH,B];simp[Go.Conc.woken_quitsD A]
  rw[Go.Conc.Deaf_other t (qAo e) u D];exact A
theorem V9{α:Type}(f:Nat->α)(i:Nat)(x:α)(j:Nat):upd f i x j=if j=i then x else f j:=rfl
theorem g8.go{H0:Hp}{w0:World}{s:T.S}{Hs:Hp}{Hf:Nat->Hp}{md:Nat->Nat}{rk:Nat->Rk}
  (hT:T.Sound) (C:g8 T G n H0 w0 gs w t s Hs Hf md rk) (hi:i<gs.size) {A:T.S} {mW I:Hp} (hu:∀op∈u,op.g=i)
  (l:jZ T i s Hs t w (Hf i) u A mW w') (J:kN i Hs w (Hf i) (t++u) mW w' I) (B:∀j,T.tag A j=if j=i then I.gh else T.tag s j) (E:T.next A=T.next s) (X:T.more A<=T.more s)
  (hb:(mayWake p g && g'.status != .blocked && g'.status != .waiting)=true\/∀j,T.Blk s j->T.Blk A j)
  (V:T.cls A=T.cls s\/(T.cls A=true/\(mayWake p g && g'.status != .blocked && g'.status != .waiting)=true/\i=0)) (Z:g'.status≠.blocked\/g'.offers=none)
  (nO:zC T G ((gs.map (woken p g g' w')).setIfInBounds i g') (t++u) A i I m k) :
  g8 T G n H0 w0 ((gs.map (woken p g g' w')).setIfInBounds i g') w' (t++u) A mW (upd Hf i I) (upd md i m) (upd rk i k):=by
 have f:((gs.map (woken p g g' w')).setIfInBounds i g').size=gs.size:=by simp
 have U:∃n,w'.heap[T.ch]? = some (.chan 0 #[] (T.cls A) n n false):=by obtain⟨n,hn⟩:=hT.chan l.inv;exact⟨n,l.leS _ _ _ hn⟩
 have N:∀j d,jU T ((gs.map (woken p g g' w')).setIfInBounds i g') j d->jU T gs j d:=by
  rintro j d ⟨x,c,sh,D,L⟩;by_cases e:j=i
  ·subst e;rw[qAG (by simpa using hi)]at D;obtain rfl:=aT D;rcases Z with h | h<;>simp[parked]at h
  rw[qAg (qAo e),qBH]at D;obtain⟨y,hy,hyx⟩:=qAD.1 D;exact⟨x,c,sh,by rw[hy,ZnQ hyx],L⟩
 have dj:∀j,j≠i->I.Dis (Hf j):=λj e=>J.aH.dis (C.le j) (C.dis i j (qAo e)) (C.disS j).symm;have Rf:∀j,j≠i->(Hf j).le w':=λj e=>Mq (C.dis i j (qAo e)) (C.disS j).symm (C.le j) l.keep;have v:∀K,lR (Hf i) Hs w K->lR H0 .nil w0 K:=by
  intro K hK b x D;rcases hK b x D with h | ⟨y,hy,he⟩
  ·exact .inl (qAP C.grown h)
  have:w0.heap.size<=b\/∃z,(H0 b=some z\/Hp.nil b=some z)/\(z.2=false->y=z):=hy.elim (λh=>C.org i b y h) (λh=>C.orgS b y h);refine this.imp id λ⟨z,hz,RN⟩=>⟨z,hz,λW=>?_⟩;have:=RN W;rw[<-this]at W ⊢;exact he W
 refine⟨by rw[f,E];exact C.size,by rw[f];exact C.pos,?_,l.inv,l.leS,?_,?_,?_,?_,?_,?_,?_,?_,?_,?_,C.out.trans l.out,qAP C.grown l.size,?_,?_,v _ l.from2,λj k R h2=>C.one j k (N _ _ R) (N _ _ h2)⟩
 ·rw[f];have:=C.bound;omega
 ·intro j;rw[V9];split
  ·exact J.le
  exact Rf j ‹_›
 ·intro j j' Y;rw[V9,V9];split<;>split
  ·omega
  ·exact dj j' ‹_›
  ·exact(dj j ‹_›).symm
  exact C.dis j j' Y
 ·intro j;rw[V9];split
  ·exact J.dis
  rename_i e;exact(l.from2.dis (C.le j) (C.dis i j (qAo e)) (C.disS j).symm).symm
 ·intro j;rw[V9];split
  ·subst j;exact J.perm
  rename_i e;intro b o pm hb q a hq hl hw;obtain⟨x,D,Q⟩:=Go.Conc.touch_of hq;rcases Go.Conc.getElem?_append_cases D with⟨_,oK⟩ | ⟨_,KJ⟩
  ·exact(C.perm j b o pm hb q a (by rw[Go.Conc.touchAt_of oK];exact Q) hl hw).app u
  exfalso;rcases l.evs x KJ a Q b hl with⟨o',p',R,h2⟩ | R
  ·have:(o',p')=(o,pm)/\(o',p').2=false:=R.elim (λh=>C.dis i j (qAo e) b _ _ h hb) (λh=>(C.disS j).symm b _ _ h hb);exact S8
  exact absurd ((C.le j).lt hb) O
 ·intro j e;rw[B,V9];split
  ·rfl
  exact C.tag j (by rw[f]at e;exact e)
 ·exact λsaid=>Go.Conc.noRace_append (C.clean said) hu λq a ha op F b hb hc=>l.norace said q a ha op F b hb hc
 ·exact Go.Conc.seen_app (λop F=>MemAct.low_mono l.size (C.low op F)) l.low
 ·intro j e;rw[f]at e;rw[Go.Conc.Deaf_other t (show i≠j by omega) u hu];exact C.above j e
 ·intro j e;rw[f]at e;rw[V9,iF O];exact C.over j e
 ·intro j e;rw[f]at e;by_cases r:j=i
  ·subst r;rw[upd_same,upd_same,upd_same];exact nO
  rw[upd_ne _ _ r,upd_ne _ _ r,upd_ne _ _ r];refine(C.st j e).pI r hb hu V U ?_;rw[B,iF r]
 ·intro b hb hn;rw[l.keep b (qAY hb C.grown) ?_ ?_]
  ·exact C.keep b hb hn
  ·intro o L;rcases C.org i b _ L with h | ⟨z,hz,he⟩
   ·omega
   exact D5
  intro o L;rcases C.orgS b _ L with h | ⟨z,hz,he⟩
  ·omega
  exact D5
 intro j;rw[V9];split
 ·exact v _ J.aH
 exact C.org j
end
end
section
variable{H Hs H0:Hp}{w w0:World}{n i b j:Nat}{fr:Frame}{es:Array Event}{x:Touch}{t:Trace}{G:Frame->List Frame->Hp->Prop}{gs:Array Goroutine}{Hf:Nat->Hp}{md:Nat->Nat}{rk:Nat->Rk}{cs:List Frame}{g:Goroutine}
open Go.Conc (Knows Deaf touchAt QuitsD crowd woken rcase scase recvd parked)
open Go.ConcN (sumTo upd sumTo_upd upd_ne upd_same)
section
variable{p:Program}{T:VG p}
def ZuJ(f:∀b x,Hs b=some x->x.2=true)(C:H.Dis Hs)(E:Hs.le w)(D:∀e∈es,EvL H w n e):∀op∈ZS i fr es,X2 i Hs op:=by
 intro op q;obtain⟨e,B,rfl⟩:=Go.Conc.mem_ofEvents q;refine⟨rfl,?_⟩;have h:=D e B;have key:∀b,((∃o p,H b=some (o,p)/\(e.write=true->p=true))\/w.heap.size<=b/\b<n)->Hs b=none:=by
  rintro b (⟨o,pm,z,_⟩ | z)
  ·cases l:Hs b with
   | none=>rfl
   | some x=>
    obtain⟨A,y⟩:=C b _ _ z l;rw[A,f b x l]at y;simp at y
  cases l:Hs b with
  | none=>rfl
  | some x=>exact absurd (E.lt l) O
 obtain⟨loc,v,F⟩:=e;cases loc with
 | cell a=>
  obtain⟨rfl,h⟩:=h;exact .inl ⟨.cell a,v,rfl,λb hb=>by simp[Loc.j0]at hb;subst hb;exact key _ h⟩
 | obj r=>
  obtain⟨rfl,h⟩:=h;exact .inl ⟨.obj r,v,by cases v<;>rfl,λb hb=>by simp[Loc.j0]at hb;subst hb;exact key _ h⟩
 | mark m=>
  cases m<;>simp only[EvL]at h<;>first | exact .inr (.inl ⟨_,rfl⟩) | exact .inr (.inr rfl)
 | _=>simp only[EvL]at h
def ZgE{e:Event}(l:EvL H w n e)(f:(MemAct.ofEvent e).touch? = some x)(hb:x.loc.j0=some b) :
  ((∃o p,H b=some (o,p)/\(x.write=true->p=true))\/w.heap.size<=b/\b<n):=by
 obtain⟨loc,q,v⟩:=e;cases loc with
 | cell a=>
  obtain⟨rfl,h⟩:=l;simp[MemAct.ofEvent,MemAct.touch?]at f;subst f;simp[Loc.j0]at hb;subst hb;exact h
 | obj r=>
  obtain⟨rfl,h⟩:=l;cases q<;>(simp[MemAct.ofEvent,MemAct.touch?]at f;subst f;simp[Loc.j0]at hb;subst hb;exact h)
 | mark m=>
  cases m<;>simp only[EvL]at l<;>simp[MemAct.ofEvent,MemAct.touch?]at f
 | _=>simp only[EvL]at l
def Zlm{l:Loc}(h:l.isMemory):∃b,l.j0=some b:=by cases l<;>simp[Loc.isMemory,Loc.j0]at *
def PZ{op:MemOp}(f:op.act.touch? = some x)(hb:x.loc.j0=some b)(h:op.act.low n):b<n:=by
 obtain⟨g,fn,pos,act⟩:=op;cases act with
 | access e=>
  simp[MemAct.touch?]at f;subst f;obtain⟨loc,o,l⟩:=e;cases loc<;>simp[Loc.j0]at hb<;>subst hb<;>exact h
 | mark m=>cases m<;>simp[MemAct.touch?]at f<;>subst f<;>simp[Loc.j0]at hb<;>subst hb<;>exact h
 | _=>simp[MemAct.touch?]at f
theorem Zlw{s:T.S}{R:Hp}{w':World}(hT:T.Sound)(v:gX T i H s Hs t w)(C:T.act H.gh\/es=#[])(f:Fr H w R w')(F:∀e∈es,EvL H w w'.heap.size e) :
  jZ T i s Hs t w H (ZS i fr es) s Hs w'/\kN i Hs w H (t++ZS i fr es) Hs w' R:=by
 have L:=hT.own v.inv;have A:∀op∈ZS i fr es,∀x,op.act.touch? = some x->∀b,x.loc.j0=some b->((∃o p,H b=some (o,p)/\(x.write=true->p=true))\/w.heap.size<=b/\b<w'.heap.size):=by intro op z x hx b hb;obtain⟨e,B,rfl⟩:=Go.Conc.mem_ofEvents z;exact ZgE (F e B) hx hb
 have D:∀b,b<w.heap.size->(∀o,H b≠some (o,true))->w'.heap[b]? = w.heap[b]?:=f.keep;have l:lR H .nil w R:=by intro b x hx;exact TW
 have I:lR H Hs w R:=λb x hx=>(l b x hx).imp id λ⟨y,hy,F⟩=>⟨y,.inl (hy.resolve_right (by simp[Hp.nil])),F⟩;have X:Hs.le w':=by
  intro b o pm hb;rw[D b (v.leS.lt hb) λo' Y=>?_]
  ·exact v.leS b o pm hb
  simpa using(v.dis b _ _ Y hb).2
 have J:=ZuJ (i:=i) (fr:=fr) L v.dis v.leS F;refine⟨⟨f.size,λb hb B _=>D b hb B,X,λb x hx=>.inr ⟨x,.inr hx,λ_=>rfl⟩,⟨by rw[f.os];exact .refl _,f.tape,f.out⟩,?_,?_,?_,?_⟩,⟨f.le,?_,I,?_⟩⟩
 ·exact λop z x hx b hb=>(A op z x hx b hb).imp (λ⟨o,p,B,E⟩=>⟨o,p,.inl B,E⟩) And.left
 ·intro said q a U op z x hx W;obtain⟨b,hb⟩:=Zlm W.2.1;have V:x.loc.j0=some b:=by rw[<-W.1];exact hb
  rcases A op z x hx b V with⟨o,pm,B,E⟩ | ⟨B,_⟩
  ·refine v.perm b o pm B q a U hb ?_;rcases W.2.2.1 with h | h
   ·exact .inr h
   exact .inl (E h)
  exfalso;obtain⟨y,hy,hya⟩:=Go.Conc.touch_of U;exact absurd (PZ hya hb (v.low y (Go.Conc.mem_of_getElem? hy))) O
 ·intro op z;obtain⟨e,B,rfl⟩:=Go.Conc.mem_ofEvents z;have h:=F e B;obtain⟨loc,wr,sy⟩:=e;have K:∀b,((∃o p,H b=some (o,p)/\(wr=true->p=true))\/w.heap.size<=b/\b<w'.heap.size)->b<w'.heap.size:=by
   rintro b (⟨o,pm,E,_⟩ | E)
   ·exact qAY (v.le.lt E) f.size
   exact E.2
  cases loc with
  | cell a=>
   obtain⟨rfl,h⟩:=h;exact K _ h
  | obj r=>
   obtain⟨rfl,h⟩:=h;cases wr<;>exact K _ h
  | mark m=>
   cases m<;>simp only[EvL]at h<;>trivial
  | _=>simp only[EvL]at h
 ·rcases C with C | rfl
  ·exact hT.z6 v.inv v.lt (by rw[v.tag];exact C) J
  have:ZS i fr #[]=#[]:=by simp[ZS,Go.Conc.ofEvents_eq]
  rw[this,qAw];exact v.inv
 ·exact l.dis v.leS v.dis (λb x y B _=>by simp[Hp.nil]at B)
 intro b o pm hb q a U hl hw;obtain⟨x,hx,Q⟩:=Go.Conc.touch_of U;rcases Go.Conc.getElem?_append_cases hx with⟨_,N⟩ | ⟨_,KJ⟩
 ·refine Knows.app _ ?_;have Z:touchAt t q=some a:=by rw[Go.Conc.touchAt_of N];exact Q
  rcases l b _ hb with h | ⟨⟨yo,yp⟩,hy,F⟩
  ·exact absurd (PZ Q hl (v.low x (Go.Conc.mem_of_getElem? N))) O
  refine v.perm b yo yp (hy.resolve_right (by simp[Hp.nil])) q a Z hl (hw.imp (λhp=>?_) id);cases yp with
  | true=>rfl
  | false=>have:=F rfl;simp at this;rw[hp]at this;simp at this
 have:=Go.Conc.knows_own hx;rwa [OF x KJ]at this
def g8.at{s:T.S}
  (C:g8 T G n H0 w0 gs w t s Hs Hf md rk) (d:Nat):g8 T G n H0 w0 gs (w.at d) t s Hs Hf md rk:=
 ⟨C.size,C.pos,C.bound,C.inv,C.leS,C.le,C.dis,C.disS,C.perm,C.tag,C.clean,C.low,C.above,C.over,C.st,⟨C.out.os,C.out.tape,C.out.out⟩,C.grown,C.keep,C.org,C.orgS,C.one⟩
def g8.ahead{s:T.S}
  (C:g8 T G n H0 w0 gs w t s Hs Hf md rk) (e:i<gs.size):gX T i (Hf i) s Hs t w:=
 ⟨C.inv,C.tag i e,by rw[<-C.size];exact e,C.le i,C.leS,C.disS i,C.perm i,C.low,λj f=>C.above j (by rw[C.size];exact f)⟩
def nM(gs:Array Goroutine)(j:Nat):Nat:=if(gs[j]?).any (·.status == .running)then 1 else 0
theorem QG{α:Type}(f:Nat->α)(i:Nat):upd f i (f i)=f:=by
 funext j;rw[V9];split
 ·subst j;rfl
 rfl
def ZeY(e:i<n){k:Rk}(h:Rk.lt k (rk i)):PH n (upd rk i k) rk:=⟨i,e,by rw[upd_same];exact h,λj f=>upd_ne _ _ f⟩
theorem Zez(e:i<n){m:Nat}(h:m<md i):sumTo n (upd md i m)<sumTo n md:=by have:sumTo n (upd md i m)+md i=sumTo n md+m:=sumTo_upd md m id e;omega
theorem qH.status{s:T.S}(h:qH T s gs j fr cs)(e:gs[j]? = some g):g.status=.running\/g.status=.blocked:=by
 rcases h with h | ⟨h,_⟩ | ⟨d,c,sh,_,_,⟨h,_⟩ | ⟨h,_⟩⟩<;>(rw[e]at h;obtain rfl:=aT h)
 ·exact .inl rfl
 ·exact .inr rfl
 ·exact .inr rfl
 exact .inl rfl
structure PJ(p:Program)(g:Goroutine)(fr:Frame)(cs:List Frame):Prop where
 frm:g.frame=fr
 step:∀main w,stepG p main g w=stepG p main (gG fr cs) w
 wake:mayWake p g=mayWake p (gG fr cs)
 st:g.status=.running
def qH.nM{s:T.S}(h:qH T s gs j fr cs)(f:gs[j]? = some g)(e:g.status=.running):PJ p g fr cs:=by
 rcases h with h | ⟨h,_⟩ | ⟨d,c,sh,_,_,⟨h,_⟩ | ⟨h,_⟩⟩<;>(rw[f]at h;obtain rfl:=aT h)
 ·exact⟨rfl,λ_ _=>rfl,rfl,rfl⟩
 ·simp at e
 ·simp[parked]at e
 exact⟨rfl,λmain w=>Go.Conc.stepG_tries main _ w,rfl,rfl⟩
def qH.Q5{s:T.S}(h:qH T s gs 0 fr cs)(e:gs[0]? = some g)(f:g.status=.running):g=gG fr cs:=by
 rcases h with h | ⟨h,_⟩ | ⟨d,c,sh,_,_,⟨h,_⟩ | ⟨_,h⟩⟩
 ·rw[e]at h;exact aT h
 ·rw[e]at h;obtain rfl:=aT h;simp at f
 ·rw[e]at h;obtain rfl:=aT h;simp[parked]at f
 exact absurd rfl h
def g8.stuck{s:T.S}
  (A:T.Sound) (C:g8 T G n H0 w0 gs w t s Hs Hf md rk):∃(i:Nat) (g:Goroutine),gs[i]? = some g/\g.status=.running:=by
 refine qAb λo=>?_
 classical
 let D:Nat->Option Bool:=λj=>if jU T gs j true then some true else if jU T gs j false then some false else none
 have z:∀j d,jU T gs j d->D j=some d:=by
  intro j d h;cases d with
  | true=>exact qAa h
  | false=>
   have e:¬ jU T gs j true:=λe=>C.one j j e h;show(if _ then _ else _)=_;rw[iF e,qAa h]
 have f:∀j d,D j=some d->jU T gs j d:=by
  intro j d h;change (if _ then _ else _)=_ at h;split at h
  ·rename_i e;obtain rfl:=aT h;exact e
  split at h
  ·rename_i e;obtain rfl:=aT h;exact e
  simp at h
 refine A.live D C.inv (λj B E=>?_) λj k e r=>C.one j k (f _ _ e) (f _ _ r)
 have l:j<gs.size:=by rw[C.size];exact B
 have q:∀fr cs,qH T s gs j fr cs->T.Blk s j\/(T.cls s=false/\∃d,D j=some d/\T.can d (T.tag s j)):=by
  rintro fr cs (h | ⟨_,h⟩ | ⟨d,c,sh,F,_,⟨h,e,r⟩ | ⟨h,_⟩⟩)
  ·exact absurd ⟨j,_,h,rfl⟩ o
  ·exact .inl h
  ·exact .inr ⟨e,d,z _ _ ⟨_,_,_,h,F⟩,r⟩
  exact absurd ⟨j,_,h,rfl⟩ o
 have h:=C.st j l
 revert h
 generalize md j=m
 generalize rk j=k
 intro h
 match m,h with
 | 3,⟨_,fr,cs,h,_⟩=>exact q fr cs h
 | 2,⟨_,fr,cs,h,_⟩=>exact q fr cs h
 | 1,⟨_,fr,cs,h,_⟩=>exact q fr cs h
 | 0,⟨_,h,_⟩=>exact absurd ((C.tag j l).trans h) E
theorem g8.awake{s:T.S}
  (C:g8 T G n H0 w0 gs w t s Hs Hf md rk):∀g∈gs,Go.Conc.awake g:=by
 intro g l;obtain⟨j,f,rfl⟩:=qCN.1 l;have e:gs[j]? = some gs[j]:=qBc f;have h:=C.st j f;revert h;generalize md j=m;generalize rk j=k;intro h;refine Go.Conc.awake_of ?_;match m,h with
 | 3,⟨_,fr,cs,h,_⟩=>exact(h.status e).imp id .inl
 | 2,⟨_,fr,cs,h,_⟩=>exact(h.status e).imp id .inl
 | 1,⟨_,fr,cs,h,_⟩=>exact(h.status e).imp id .inl
 | 0,⟨_,_,_,g,q,h,o,_⟩=>
  rw[e]at h;obtain rfl:=aT h;exact o.status.imp id .inr
end
end
section
variable{i a a' d:Nat}{H mW:Hp}{w':World}{M:Ms}{sl nX:Option (Nat×Nat)}{fr:Frame}{cs:List Frame}{g:Goroutine}
open Go.Conc (Knows Deaf touchAt QuitsD crowd woken rcase scase recvd parked)
open Go.ConcN (sumTo upd sumTo_upd upd_ne upd_same)
section
variable{p:Program}{T:VG p}{G:Frame->List Frame->Hp->Prop}{n:Nat}{H0:Hp}{w0:World}{gs:Array Goroutine}{w:World}{t:Trace}{s:T.S}{Hs:Hp}{Hf:Nat->Hp}{md:Nat->Nat}{rk:Nat->Rk}
def Vm(T:VG p)(G:Frame->List Frame->Hp->Prop)(n:Nat)(H0:Hp)(w0:World)(m:Machine)(t:Trace):Prop:=
 ∃k e w' nX o q mW f h l,runNT p k m t=(.next (crowd e w' nX),o)/\g8 T G n H0 w0 e w' o q mW f h l/\∃fr cs,e[0]? = some (gG fr cs)/\G fr cs (f 0)
def Vm.step{m q:Machine}{t u:Trace}(h:stepT p m=(.next q,u))(y:Vm T G n H0 w0 q (t++u)):Vm T G n H0 w0 m t:=by obtain⟨k,f,w',nX,A,z,mW,e,l,o,r,v⟩:=y;exact⟨k+1,f,w',nX,A,z,mW,e,l,o,by simp only[runNT,h];exact r,v⟩
def jZ.still(e:gX T i H s Hs t w):jZ T i s Hs t w H #[] s Hs w:=
 ⟨DO _,λ_ _ _ _=>rfl,e.leS,λb x f=>.inr ⟨x,.inr f,λ_=>rfl⟩,.refl w,by simp,by simp,by simp,by simpa using e.inv⟩
def kN.still(e:gX T i H s Hs t w):kN i Hs w H (t++#[]) Hs w H:=
 ⟨e.le,e.dis,λb x f=>.inr ⟨x,.inl f,λ_=>rfl⟩,by simpa using e.perm⟩
def kN.fL{e:Trace}(g:List Nat):kN i Hs w H e mW w' (.fL g):=
 ⟨λb o p h=>by simp[Hp.fL]at h,λb x y h=>by simp[Hp.fL]at h,λb x h=>by simp[Hp.fL]at h,λb o p h=>by simp[Hp.fL]at h⟩
def lL(s:T.S)(gs:Array Goroutine)(md:Nat->Nat)(rk:Nat->Rk):Ms:=(T.more s,sumTo gs.size md,rk,sumTo gs.size (nM gs))
def Zlc(h:a'<a)(x e:Nat×(Nat->Rk)×Nat):rJ n (a',e) (a,x):=.left _ _ h
def XW{b e:Nat}{r l:Nat->Rk}{c o:Nat}(v:a'<=a)(h:e<b\/(e=b/\(PH n l r\/l=r/\o<c))):rJ n (a',e,l,o) (a,b,r,c):=by
 rcases qBh a' a with f | q
 ·exact .left _ _ f
 obtain rfl:a'=a:=O;refine .right _ ?_;rcases h with h | ⟨rfl,h⟩
 ·exact .left _ _ h
 refine .right _ ?_;rcases h with h | ⟨rfl,h⟩
 ·exact .left _ _ h
 exact .right _ h
def Ze3(i:Nat)(fr:Frame):ZS i fr #[]=#[]:=by simp[ZS,Go.Conc.ofEvents_eq]
def Ma(e:i<gs.size)(f:Goroutine->Goroutine)(g:Goroutine):((gs.map f).setIfInBounds i g)[i]? = some g:=by simp[e]
def OG(ih:∀Q,rJ n Q M->∀gs w sl t s Hs Hf md rk,lL (T:=T) s gs md rk=Q->g8 T G n H0 w0 gs w t s Hs Hf md rk->Vm T G n H0 w0 (crowd gs w sl) t)
  (W:T.Sound) (V:lL s gs md rk=M) (C:g8 T G n H0 w0 gs w t s Hs Hf md rk) (E:i<gs.size) {f:Frame} {e:List Frame} {es:Array Event} {q:T.S} {F:Hp} {m:Nat} {k:Rk}
   (X:gs[i]? = some g) (L:PJ p g fr cs) (N:stepT p (crowd gs w sl)=runT p (crowd gs (w.at d) nX) i) (y:stepG p (i == 0) (gG fr cs) (w.at d)=.go (gG f e) w' es)
  (Y:jZ T i s Hs t (w.at d) (Hf i) (ZS i fr es) q mW w') (J:kN i Hs (w.at d) (Hf i) (t++ZS i fr es) mW w' F) (B:∀j,T.tag q j=if j=i then F.gh else T.tag s j) (v:T.next q=T.next s) (l:T.more q<=T.more s)
  (hb:mayWake p (gG fr cs)=true\/∀j,T.Blk s j->T.Blk q j) (I:T.cls q=T.cls s\/(T.cls q=true/\mayWake p (gG fr cs)=true/\i=0))
  (A:∀z:Array Goroutine,z[i]? = some (gG f e)->zC T G z (t++ZS i fr es) q i F m k) (r:m<md i\/m=md i/\Rk.lt k (rk i)):Vm T G n H0 w0 (crowd gs w sl) t:=by
 have o:=Go.Conc.runT_crowd_go (P:=p) (sl:=nX) X ((L.step _ _).trans y);have R:MemOp.ofEvents i g.frame.fn g.frame.place es=ZS i fr es:=by rw[L.frm]
 rw[R]at o;refine Vm.step (N.trans o) ?_;have D:(mayWake p g && (gG f e).status != .blocked && (gG f e).status != .waiting)=mayWake p (gG fr cs):=by rw[L.wake];show(mayWake p (gG fr cs) && true && true)=_;simp
 have U:=(C.at d).go W E (g:=g) (g':=gG f e) (λop K=>OF op K) Y J B v l (by rw[D];exact hb) (by rw[D];exact I) (.inr rfl) (A _ (Ma E _ _));refine ih _ ?_ _ _ _ _ _ _ _ _ _ rfl U;rw[<-V];unfold lL;have O:((gs.map (woken p g (gG f e) w')).setIfInBounds i (gG f e)).size=gs.size:=by simp
 rw[O];refine XW l ?_;rcases r with h | ⟨rfl,h⟩
 ·exact .inl (Zez E h)
 exact .inr ⟨by rw[QG],.inl (ZeY (qAY E (by have:=C.bound;omega)) h)⟩
theorem Ze7(ih:∀E,rJ n E M->∀gs w sl t s Hs Hf md rk,lL (T:=T) s gs md rk=E->g8 T G n H0 w0 gs w t s Hs Hf md rk->Vm T G n H0 w0 (crowd gs w sl) t)
  (O:T.Sound) (N:lL s gs md rk=M) (C:g8 T G n H0 w0 gs w t s Hs Hf md rk) (f:i<gs.size) 
   (J:gs[i]? = some g) (z:PJ p g fr cs) (A:stepT p (crowd gs w sl)=runT p (crowd gs (w.at d) nX) i) (r:Mi T i fr cs s (w.at d))
  (q:∀l:Array Goroutine,l[i]? = some (j0 fr cs)->zC T G l t s i (Hf i) (md i) (rk i)):Vm T G n H0 w0 (crowd gs w sl) t:=by
 obtain⟨L,Q⟩:=r;have e:=Go.Conc.runT_crowd_go (P:=p) (sl:=nX) J ((z.step _ _).trans L);have K:MemOp.ofEvents i g.frame.fn g.frame.place #[]=#[]:=by rw[z.frm];exact Ze3 i fr
 rw[K]at e;refine Vm.step (A.trans e) ?_;have I:=(C.at d).ahead f;have F:=(C.at d).go O f (g:=g) (g':=(j0 fr cs)) (u:=#[]) (by simp) (jZ.still I) (kN.still I) (λj=>by split;subst j;exact C.tag _ f;rfl) rfl (DO _) (.inr λ_ h=>h) (.inl rfl) (.inr rfl)
  (m:=md i) (k:=rk i) (by have:=q _ (Ma f (woken p g (j0 fr cs) (w.at d)) (j0 fr cs));simpa using this)
 rw[QG,QG,QG]at F;refine ih _ ?_ _ _ _ _ _ _ _ _ _ rfl F;rw[<-N];unfold lL;have B:((gs.map (woken p g (j0 fr cs) (w.at d))).setIfInBounds i (j0 fr cs)).size=gs.size:=by simp
 rw[B];refine XW (DO _) (.inr ⟨rfl,.inr ⟨rfl,?_⟩⟩);have D:∀o,woken p g (j0 fr cs) (w.at d) o=o:=by intro o;simp[woken]
 have v:gs.map (woken p g (j0 fr cs) (w.at d))=gs:=by have:woken p g (j0 fr cs) (w.at d)=id:=funext D;rw[this,Array.map_id]
 rw[v];have:nM (gs.setIfInBounds i (j0 fr cs))=upd (nM gs) i 0:=by
  funext j;rw[V9];unfold nM;by_cases y:j=i
  ·subst y;simp[f]
  rw[iF y,qAg (qAo y)]
 rw[this];exact Zez f (by simp[nM,J,z.st])
end
end
variable{i:Nat}{fr tA:Frame}{es:Array Event}{op:MemOp}
open Go.Conc (Knows Deaf touchAt QuitsD crowd woken rcase scase recvd parked)
open Go.ConcN (sumTo upd sumTo_upd upd_ne upd_same)
section
variable{p:Program}{T:VG p}{G:Frame->List Frame->Hp->Prop}{n:Nat}{H0:Hp}{w0:World}{gs:Array Goroutine}{w:World}{t:Trace}{s:T.S}{Hs:Hp}{Hf:Nat->Hp}{md:Nat->Nat}{rk:Nat->Rk}
def Zlb(h:∀e∈es,Event.mute e=true):∀op∈ZS i fr es,PD i op:=by
 intro op f;obtain⟨⟨loc,q,o⟩,l,rfl⟩:=Go.Conc.mem_ofEvents f;have:=h _ l;refine⟨rfl,?_⟩;cases loc with
 | mark m=>cases m<;>first | exact .inl rfl | exact .inr rfl | simp[Event.mute]at this
 | _=>simp[Event.mute]at this
theorem PD.zP(h:PD i op):op.act.touch? = none:=by rcases h.2 with h | h<;>rw[h]<;>rfl
def PD.low{n:Nat}(h:PD i op):op.act.low n:=by rcases h.2 with h | h<;>rw[h]<;>trivial
def Zs7(Q:T.Sound){M:Ms}(ih:∀O,rJ n O M->∀gs w sl t s Hs Hf md rk,lL (T:=T) s gs md rk=O->g8 T G n H0 w0 gs w t s Hs Hf md rk->Vm T G n H0 w0 (crowd gs w sl) t)
  (W:lL s gs md rk=M) (C:g8 T G n H0 w0 gs w t s Hs Hf md rk) (r:i<gs.size) {sl nX:Option (Nat×Nat)} {d:Nat} {g:Goroutine} {q:Nat} (v:i≠0) (F:md i=0) (R:(Hf i).gh=T.left) (hn:xQ (Hf i))
  (Y:gs[i]? = some g) (B:g.status=.running) (L:stepT p (crowd gs w sl)=runT p (crowd gs (w.at d) nX) i) (U:QuitsD p q (Deaf t i) g) (K:rk i=.ofNat q):Vm T G n H0 w0 (crowd gs w sl) t:=by
 cases q with
 | zero=>rw[U.1]at B;simp at B
 | succ k=>
  rcases U with⟨X,_⟩ | ⟨_,g',es,J,A,y⟩
  ·rw[X]at B;simp at B
  have D:(i == 0)=false:=by simp[v]
  have z:=Go.Conc.runT_crowd_go (P:=p) (sl:=nX) Y (by rw[D];exact A (w.at d));refine Vm.step (L.trans z) ?_;have o:=(C.at d).ahead r;have f:=Zlb (i:=i) (fr:=g.frame) J;have Z:jZ T i s Hs t (w.at d) (Hf i) (ZS i g.frame es) s Hs (w.at d):=
   ⟨DO _,λ_ _ _ _=>rfl,o.leS,λb x l=>.inr ⟨x,.inr l,λ_=>rfl⟩,.refl _,λop e x l=>by rw[(f op e).zP]at l;simp at l,
    λ_ _ _ _ op e x l=>by rw[(f op e).zP]at l;simp at l,λop e=>(f op e).low,Q.mute o.inv o.lt (o.tag.trans R) f⟩
  have E:kN i Hs (w.at d) (Hf i) (t++ZS i g.frame es) Hs (w.at d) (Hf i):=
   ⟨o.le,o.dis,λb x l=>.inr ⟨x,.inl l,λ_=>rfl⟩,o.perm.own λop e=>.inl (OF op e)⟩
  have V:=(C.at d).go Q r (g:=g) (g':=g') (λop e=>OF op e) Z E (λj=>by split;subst j;exact C.tag _ r;rfl) rfl (DO _) (.inr λ_ h=>h) (.inl rfl) (.inl (by rcases y.status with h | h<;>rw[h]<;>simp)) (m:=0) (k:=.ofNat k)
   ⟨v,R,hn,g',k,Ma r _ _,by rw[Go.Conc.Deaf_own];exact y,rfl⟩
  refine ih _ ?_ _ _ _ _ _ _ _ _ _ rfl V;rw[<-W];unfold lL;have N:((gs.map (woken p g g' (w.at d))).setIfInBounds i g').size=gs.size:=by simp
  rw[N];have I:upd md i 0=md:=by rw[<-F,QG]
  refine XW (DO _) (.inr ⟨by rw[I],.inl (ZeY (qAY r (by have:=C.bound;omega)) ?_)⟩);rw[K];exact Rk.ofNat_lt k
def ZfG{k:Nat}:Y6 i k fr tA es=((ZS i fr es)++#[({ g:=i,fn:=fr.fn,pos:=fr.place,act:=.go k }:MemOp)])++#[({ g:=k,fn:=tA.fn,pos:=fr.place,act:=.start }:MemOp)]:=by simp[Y6]
theorem g8.spawn(C:g8 T G n H0 w0 gs w t s Hs Hf md rk){iD:Frame}{B:List Frame}{w':World}{L N:Hp}{X:T.S}{mW:Hp}{k kc:Rk}
  (E:jZ T 0 s Hs t w (Hf 0) (Y6 0 (T.next s) fr tA es) X mW w') (hg:kN 0 Hs w (Hf 0) (t++Y6 0 (T.next s) fr tA es) mW w' L) (I:kN (T.next s) Hs w (Hf 0) (t++Y6 0 (T.next s) fr tA es) mW w' N) (hd:L.Dis N)
  (W:∀j,T.tag X j=if j=0 then L.gh else if j=T.next s then N.gh else T.tag s j) (AK:T.next X=T.next s+1) (F0:T.more X<T.more s) (qB:T.cls X=T.cls s) (hb:∀j,j<T.next s->T.Blk s j->T.Blk X j)
  (Wo:T.act L.gh) (R4:jI (oG T.prgM G) k (iD,B,L)) (Y:T.act N.gh) (Sd:jI (oG (T.prgW (T.next s)) Vs) kc (tA,[],N)) :
  g8 T G n H0 w0 ((gs.setIfInBounds 0 (gG iD B)).push (gG tA [])) w' (t++Y6 0 (T.next s) fr tA es) X mW (upd (upd Hf 0 L) (T.next s) N) (upd (upd md 0 3) (T.next s) 2) (upd (upd rk 0 k) (T.next s) kc):=by
 have hp:=C.pos;have hnz:T.next s≠0:=by rw[<-C.size];omega
 have D:((gs.setIfInBounds 0 (gG iD B)).push (gG tA [])).size=gs.size+1:=by simp
 have hK:∀K,lR (Hf 0) Hs w K->lR H0 .nil w0 K:=by
  intro K hK b x hx;rcases hK b x hx with h | ⟨y,hy,he⟩
  ·exact .inl (qAP C.grown h)
  have:w0.heap.size<=b\/∃z,(H0 b=some z\/Hp.nil b=some z)/\(z.2=false->y=z):=hy.elim (λh=>C.org 0 b y h) (λh=>C.orgS b y h);refine this.imp id λ⟨z,hz,RN⟩=>⟨z,hz,λhf=>?_⟩;have:=RN hf;rw[<-this]at hf ⊢;exact he hf
 have B6:∀j d,jU T ((gs.setIfInBounds 0 (gG iD B)).push (gG tA [])) j d->jU T gs j d:=by
  rintro j d ⟨x,c,sh,hx,ho⟩;rw[qCB]at hx;split at hx
  ·have:=aT hx;have:=qAx Goroutine.status this;simp[parked]at this
  by_cases A:j=0
  ·subst A;rw[qAG hp]at hx;exact LC
  rw[qAg (qAo A)]at hx;exact⟨x,c,sh,hx,ho⟩
 have Rf:∀j,j≠0->(Hf j).le w':=λj A=>Mq (C.dis 0 j (qAo A)) (C.disS j).symm (C.le j) E.keep;have dj:∀j,j≠0->L.Dis (Hf j):=λj A=>hg.aH.dis (C.le j) (C.dis 0 j (qAo A)) (C.disS j).symm;have dc:∀j,j≠0->N.Dis (Hf j):=λj A=>I.aH.dis (C.le j) (C.dis 0 j (qAo A)) (C.disS j).symm;have F:∀j,j≠0->j≠T.next s->Deaf (t++Y6 0 (T.next s) fr tA es) j=Deaf t j:=by
  intro j l hk;rw[ZfG,<-qDP,Go.Conc.Deaf_other _ (g':=T.next s) (qAo hk) _ (by simp)];refine Go.Conc.Deaf_other _ (g':=0) (qAo l) _ ?_;intro op v;rcases qBe.1 v with h | h
  ·exact OF op h
  simp at h;subst h;rfl
 have R:∀j,upd (upd Hf 0 L) (T.next s) N j=if j=T.next s then N else if j=0 then L else Hf j:=λj=>rfl
 refine⟨by rw[D,AK,C.size],by rw[D];omega,?_,E.inv,E.leS,?_,?_,?_,?_,?_,?_,?_,?_,?_,?_,C.out.trans E.out,qAP C.grown E.size,?_,?_,hK _ E.from2,λj k e h2=>C.one j k (B6 _ _ e) (B6 _ _ h2)⟩
 ·rw[D];have:=C.bound;omega
 ·intro j;rw[R];split
  ·exact I.le
  split
  ·exact hg.le
  exact Rf j ‹_›
 ·intro j j' pK;rw[R,R];by_cases e:j=T.next s
  ·rw[qAa e,iF O];by_cases h2:j'=0
   ·rw[qAa h2];exact hd.symm
   rw[iF h2];exact dc j' h2
  rw[iF e];by_cases h2:j'=T.next s
  ·rw[qAa h2];by_cases Q:j=0
   ·rw[qAa Q];exact hd
   rw[iF Q];exact(dc j Q).symm
  rw[iF h2];by_cases Q:j=0
  ·rw[qAa Q,iF O];exact dj j' O
  rw[iF Q];by_cases h4:j'=0
  ·rw[qAa h4];exact(dj j Q).symm
  rw[iF h4];exact C.dis j j' pK
 ·intro j;rw[R];split
  ·exact I.dis
  split
  ·exact hg.dis
  rename_i A;exact(E.from2.dis (C.le j) (C.dis 0 j (qAo A)) (C.disS j).symm).symm
 ·intro j;rw[R];split
  ·subst j;exact I.perm
  split
  ·subst j;exact hg.perm
  rename_i A;intro b o pm hb q a hq hl hw;obtain⟨x,hx,uF⟩:=Go.Conc.touch_of hq;rcases Go.Conc.getElem?_append_cases hx with⟨_,oK⟩ | ⟨_,KJ⟩
  ·exact(C.perm j b o pm hb q a (by rw[Go.Conc.touchAt_of oK];exact uF) hl hw).app _
  exfalso;rcases E.evs x KJ a uF b hl with⟨o',p',e,h2⟩ | e
  ·have:(o',p')=(o,pm)/\(o',p').2=false:=e.elim (λh=>C.dis 0 j (qAo A) b _ _ h hb) (λh=>(C.disS j).symm b _ _ h hb);exact S8
  exact absurd ((C.le j).lt hb) O
 ·intro j A;rw[W,R];by_cases l:j=0
  ·rw[qAa l,iF O,qAa l]
  rw[iF l];by_cases e:j=T.next s
  ·rw[qAa e,qAa e]
  rw[iF e,iF e,iF l];exact C.tag j (by rw[D]at A;have:=C.size;omega)
 ·intro said;rw[ZfG,<-qDP];refine Go.Conc.noRace_append (g:=T.next s) (Go.Conc.noRace_append (g:=0) (C.clean said) ?_ ?_) (by simp) ?_
  ·intro op v;rcases qBe.1 v with h | h
   ·exact OF op h
   simp at h;subst h;rfl
  ·intro q a ha op v b Z hc;exact E.norace said q a ha op (by rw[ZfG];exact qBe.2 (.inl v)) b Z hc
  intro q a ha op v b Z;simp at v;subst v;simp[MemAct.touch?]at Z
 ·exact Go.Conc.seen_app (λop v=>MemAct.low_mono E.size (C.low op v)) E.low
 ·intro j A;rw[D]at A;rw[F j O (by rw[<-C.size];omega)];exact C.above j O
 ·intro j A;rw[D]at A;rw[R,iF (by rw[<-C.size];omega),iF O];exact C.over j O
 ·intro j A;rw[D]at A;have e1:∀{α:Type} (f:Nat->α) (x y:α),upd (upd f 0 x) (T.next s) y j=if j=T.next s then y else if j=0 then x else f j:=λ_ _ _=>rfl
  rw[e1,e1,e1];by_cases e:j=T.next s
  ·rw[qAa e,qAa e,qAa e];subst e;refine⟨hnz,tA,[],.inl ?_,Sd,Y⟩;rw[qCB,qAa (by simp[C.size])]
  rw[iF e,iF e,iF e];have V:j<gs.size:=by have:=C.size;omega
  have U:((gs.setIfInBounds 0 (gG iD B)).push (gG tA []))[j]? = (gs.setIfInBounds 0 (gG iD B))[j]?:=by rw[qCB,iF (by simp;omega)]
  by_cases l:j=0
  ·rw[qAa l,qAa l,qAa l];subst l;refine⟨rfl,iD,B,.inl ?_,R4,Wo⟩;rw[U];simp[hp]
  rw[iF l,iF l,iF l];have J:((gs.setIfInBounds 0 (gG iD B)).push (gG tA []))[j]? = gs[j]?:=by rw[U,qAg (qAo l)]
  have aw:∀fr cs,qH T s gs j fr cs->qH T X ((gs.setIfInBounds 0 (gG iD B)).push (gG tA [])) j fr cs:=by intro fr cs h;unfold qH Pk at h ⊢;rw[J];refine h.imp id (qDD (λh=>⟨h.1,hb j (by rw[<-C.size];exact V) h.2⟩) ?_);rintro⟨d,c,sh,ho,hs,h⟩;refine⟨d,c,sh,ho,hs,h.imp (λ⟨a1,a2,a3⟩=>⟨a1,qB.trans a2,?_⟩) id⟩;rw[W,iF l,iF e];exact a3
  have h:=C.st j V;revert h;generalize md j=m;generalize rk j=r;intro h;match m,h with
  | 3,⟨l,fr,cs,e,h2⟩=>exact⟨l,fr,cs,aw _ _ e,h2⟩
  | 2,⟨l,fr,cs,e,h2⟩=>exact⟨l,fr,cs,aw _ _ e,h2⟩
  | 1,⟨l,fr,cs,e,h2⟩=>exact⟨l,fr,cs,aw _ _ e,h2⟩
  | 0,⟨Ww,sS,h2,x,q,Q,h4,h5⟩=>exact⟨Ww,sS,h2,x,q,by rw[J];exact Q,by rw[F j l e];exact h4,h5⟩
 ·intro b hb hn;rw[E.keep b (qAY hb C.grown) ?_ ?_]
  ·exact C.keep b hb hn
  ·intro o ho;rcases C.org 0 b _ ho with h | ⟨z,hz,he⟩
   ·omega
   exact D5
  intro o ho;rcases C.orgS b _ ho with h | ⟨z,hz,he⟩
  ·omega
  exact D5
 intro j;rw[R];split
 ·exact hK _ I.aH
 split
 ·exact hK _ hg.aH
 exact C.org j
end
