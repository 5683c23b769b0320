import Derived.Test.YtlhomfgcibjccaaGreatDoorP07
import Derived.Conc.TokenTrace
set_option linter.all false
namespace Go.LL
section
variable{P:bF}{G:Frame->List Frame->Hp->Prop}{fr:Frame}{cs:List Frame}{H:Hp}{c:CommCase}{sh:CommShape}{g g':Goroutine}{w w':World}{n j i m:Nat}{gs:Array Goroutine}{t u:Trace}{k:Rk}
open Go.Conc (Knows Deaf touchAt QuitsD crowd woken rcase scase recvd parked)
open Go.ConcN (sumTo upd sumTo_upd upd_ne upd_same)
def mF(P:bF)(G:Frame->List Frame->Hp->Prop)(R:Nd->Prop)(x:Nd):Prop:=
 G x.1 x.2.1 x.2.2\/qJ P x.1 x.2.1 x.2.2 (λa b c=>R (a,b,c))\/P.sh (λa b c=>R (a,b,c)) x.1 x.2.1 x.2.2
theorem mF.mono:∀{R R':Nd->Prop},(∀x,R x->R' x)->∀x,mF P G R x->mF P G R' x:=
 λhr _ h=>h.imp id (qCJ (λh=>h.mono λ_ _ _ h=>hr _ h) (λh=>P.shMono (λ_ _ _ h=>hr _ h) h))
theorem Reach.rank(h:Reach P G fr cs H):∃k,fO (mF P G) k (fr,cs,H):=
 Zp7 mF.mono λR hR=>h (λa b c=>R (a,b,c)) (λ_ _ _ hg=>hR _ (.inl hg)) (λ_ _ _ hl=>hR _ (.inr (.inl hl))) (λ_ _ _ hs=>hR _ (.inr (.inr hs)))
section
variable{p:Program}(T:Vx p)
def iX(d:Bool)(c:CommCase)(sh:CommShape):Prop:=(d=true/\∃v z,c=scase T.ch v z/\sh=.send)\/(d=false/\∃z fM,c=rcase T.ch z/\sh=.recv fM)
def Pk(s:T.S)(gs:Array Goroutine)(j:Nat)(fr:Frame)(cs:List Frame):Prop:=
 ∃d c sh,iX T d c sh/\(∀main w n,w.heap[T.ch]? = some (.chan 0 #[] false n n false)->stepG p main (bT fr cs) w=.comm (bT fr cs) #[c] true sh w #[]) /\
  ((gs[j]? = some (parked (bT fr cs) #[c] sh)/\T.cls s=false/\T.can d (T.tag s j))\/(gs[j]? = some { parked (bT fr cs) #[c] sh with status:=.running }/\j≠0))
def oM(s:T.S)(gs:Array Goroutine)(j:Nat)(fr:Frame)(cs:List Frame):Prop:=gs[j]? = some (bT fr cs)\/(gs[j]? = some (gP fr cs)/\T.Blk s j)\/Pk T s gs j fr cs
def gH(gs:Array Goroutine)(j:Nat)(d:Bool):Prop:=∃g c sh,gs[j]? = some (parked g #[c] sh)/\iX T d c sh
def y5(G:Frame->List Frame->Hp->Prop)(gs:Array Goroutine)(t:Trace)(s:T.S)(j:Nat)(H:Hp):Nat->Rk->Prop
 | 3,k=>j=0/\∃fr cs,oM T s gs j fr cs/\fO (mF T.prgM G) k (fr,cs,H)/\T.act H.gh
 | 2,k=>j≠0/\∃fr cs,oM T s gs j fr cs/\fO (mF (T.prgW j) Vf) k (fr,cs,H)/\T.act H.gh
 | 1,k=>j≠0/\∃fr cs,oM T s gs j fr cs/\(∃Hl:Hp,Hl.gh=H.gh/\fO (mF (T.prgW j) Vf) k (fr,cs,Hl))/\T.hsh H.gh/\xQ H
 | 0,k=>j≠0/\H.gh=T.left/\xQ H/\∃g q,gs[j]? = some g/\QuitsD p q (Deaf t j) g/\k=.ofNat q
 | _,_=>False
structure dP(G:Frame->List Frame->Hp->Prop)(n:Nat)(H0:Hp)(w0:World)(gs:Array Goroutine)(w:World)(t:Trace)(s:T.S)(Hs:Hp)(Hf:Nat->Hp)(md:Nat->Nat)(rk:Nat->Rk):Prop where
 size:gs.size=T.next s
 pos:0<gs.size
 bound:gs.size+T.more s<=n
 inv:T.Inv s Hs t
 leS:Hs.le w
 le:∀j,(Hf j).le w
 dis:∀j k,j≠k->(Hf j).Dis (Hf k)
 disS:∀j,(Hf j).Dis Hs
 perm:∀j,eR t j (Hf j)
 tag:∀j,j<gs.size->T.tag s j=(Hf j).gh
 clean:∀said,¬ Race said t
 low:∀op∈t,op.act.low w.heap.size
 above:∀j,gs.size<=j->Deaf t j=0
 over:∀j,gs.size<=j->xQ (Hf j)
 st:∀j,j<gs.size->y5 T G gs t s j (Hf j) (md j) (rk j)
 out:wB w0 w
 grown:w0.heap.size<=w.heap.size
 keep:∀b,b<w0.heap.size->(∀o,H0 b≠some (o,true))->w.heap[b]? = w0.heap[b]?
 org:∀j,iY H0 .nil w0 (Hf j)
 orgS:iY H0 .nil w0 Hs
 one:∀j k,gH T gs j true->gH T gs k false->False
variable{T}
theorem ZyC{d:Bool}(ho:iX T d c sh){cl:Bool}(hc:w.heap[T.ch]? = some (.chan 0 #[] cl n n false)) :
  (parked g #[c] sh).again w=if cl then{ parked g #[c] sh with status:=.running }else parked g #[c] sh:=by
 rcases ho with⟨_,v,z,rfl,_⟩ | ⟨_,z,f,rfl,_⟩<;>cases cl<;>simp[Goroutine.again,parked,scase,rcase,hc]
theorem ZnV{x y:Goroutine}(h:woken p g g' w' x=parked y #[c] sh):x=parked y #[c] sh:=by
 unfold woken at h;split at h
 ·unfold Goroutine.again at h;split at h
  ·dsimp only at h;split at h
   ·have:=qAC Goroutine.status h;simp[parked]at this
   exact h
  ·have:=qAC Goroutine.status h;simp[parked]at this
  ·have:=qAC Goroutine.status h;simp[parked]at this
  exact h
 exact h
theorem oM.nD{s s':T.S}(dG:j≠i)(hb:(mayWake p g && g'.status != .blocked && g'.status != .waiting)=true\/∀j,T.Blk s j->T.Blk s' j)
  (bU:T.cls s'=T.cls s\/(T.cls s'=true/\(mayWake p g && g'.status != .blocked && g'.status != .waiting)=true/\i=0)) (tD:∃n,w'.heap[T.ch]? = some (.chan 0 #[] (T.cls s') n n false)) (aG:T.tag s' j=T.tag s j)
  (h:oM T s gs j fr cs):oM T s' ((gs.map (woken p g g' w')).setIfInBounds i g') j fr cs:=by
 unfold oM at h ⊢;rw[qAa (qAi dG),qBk];rcases h with h | ⟨h,hk⟩ | ⟨d,c,sh,ho,hs,h⟩
 ·rw[h];exact .inl (by simp[Go.Conc.woken_run (show(bT fr cs).status=.running from rfl)])
 ·rw[h];by_cases hw:(mayWake p g && g'.status != .blocked && g'.status != .waiting)=true
  ·refine .inl ?_;simp only[qBa,woken,hw,qAM];rfl
  refine .inr (.inl ⟨?_,hb.resolve_left hw j hk⟩);simp only[qBa,woken,hw];rfl
 refine .inr (.inr ⟨d,c,sh,ho,hs,?_⟩);rw[qAa (qAi dG),qBk];rcases h with⟨h,h1,h2⟩ | h
 ·rw[h];obtain⟨n,hn⟩:=tD;by_cases hw:(mayWake p g && g'.status != .blocked && g'.status != .waiting)=true
  ·simp only[qBa,woken,hw,qAM,ZyC ho hn];cases hc:T.cls s' with
   | true=>
    refine .inr ⟨rfl,?_⟩;rcases bU with h3 | ⟨_,_,rfl⟩
    ·rw[hc,h1]at h3;simp at h3
    exact dG
   | false=>exact .inl ⟨rfl,rfl,by rw[aG];exact h2⟩
  have hc:T.cls s'=T.cls s:=bU.resolve_right λh=>hw h.2.1;simp only[qBa,woken,hw];exact .inl ⟨rfl,hc.trans h1,by rw[aG];exact h2⟩
 rw[h.1];refine .inr ⟨?_,h.2⟩;simp[Go.Conc.woken_run (show({ parked (bT fr cs) #[c] sh with status:=.running }:Goroutine).status=.running from rfl)]
theorem y5.nD{s s':T.S}(dG:j≠i)
  (hb:(mayWake p g && g'.status != .blocked && g'.status != .waiting)=true\/∀j,T.Blk s j->T.Blk s' j) (hu:∀op∈u,op.g=i)
  (bU:T.cls s'=T.cls s\/(T.cls s'=true/\(mayWake p g && g'.status != .blocked && g'.status != .waiting)=true/\i=0)) (tD:∃n,w'.heap[T.ch]? = some (.chan 0 #[] (T.cls s') n n false)) (aG:T.tag s' j=T.tag s j)
  (h:y5 T G gs t s j H m k):y5 T G ((gs.map (woken p g g' w')).setIfInBounds i g') (t++u) s' j H m k:=by
 match m,h with
 | 3,⟨h0,fr,cs,h1,h2⟩=>exact⟨h0,fr,cs,h1.nD dG hb bU tD aG,h2⟩
 | 2,⟨h0,fr,cs,h1,h2⟩=>exact⟨h0,fr,cs,h1.nD dG hb bU tD aG,h2⟩
 | 1,⟨h0,fr,cs,h1,h2⟩=>exact⟨h0,fr,cs,h1.nD dG hb bU tD aG,h2⟩
 | 0,⟨h0,h1,h2,x,q,h3,h4,h5⟩=>
  refine⟨h0,h1,h2,x,q,?_,?_,h5⟩
  ·rw[qAa (qAi dG),qBk,h3];simp[Go.Conc.woken_quitsD h4]
  rw[Go.Conc.Deaf_other t (qAi dG) u hu];exact h4
theorem V0{α:Type}(f:Nat->α)(i:Nat)(x:α)(j:Nat):upd f i x j=if j=i then x else f j:=rfl
theorem dP.go{H0:Hp}{w0:World}{s:T.S}{Hs:Hp}{Hf:Nat->Hp}{md:Nat->Nat}{rk:Nat->Rk}
  (hT:T.Sound) (C:dP T G n H0 w0 gs w t s Hs Hf md rk) (hi:i<gs.size) {s':T.S} {eG H':Hp} (hu:∀op∈u,op.g=i)
  (hm:gN T i s Hs t w (Hf i) u s' eG w') (hg:g9 i Hs w (Hf i) (t++u) eG w' H') (aG:∀j,T.tag s' j=if j=i then H'.gh else T.tag s j) (kA:T.next s'=T.next s) (kB:T.more s'<=T.more s)
  (hb:(mayWake p g && g'.status != .blocked && g'.status != .waiting)=true\/∀j,T.Blk s j->T.Blk s' j)
  (bU:T.cls s'=T.cls s\/(T.cls s'=true/\(mayWake p g && g'.status != .blocked && g'.status != .waiting)=true/\i=0)) (BH:g'.status≠.blocked\/g'.offers=none)
  (bB:y5 T G ((gs.map (woken p g g' w')).setIfInBounds i g') (t++u) s' i H' m k) :
  dP T G n H0 w0 ((gs.map (woken p g g' w')).setIfInBounds i g') w' (t++u) s' eG (upd Hf i H') (upd md i m) (upd rk i k):=by
 have fP:((gs.map (woken p g g' w')).setIfInBounds i g').size=gs.size:=by simp
 have tD:∃n,w'.heap[T.ch]? = some (.chan 0 #[] (T.cls s') n n false):=by obtain⟨n,hn⟩:=hT.chan hm.inv;exact⟨n,hm.leS _ _ _ hn⟩
 have oV:∀j d,gH T ((gs.map (woken p g g' w')).setIfInBounds i g') j d->gH T gs j d:=by
  rintro j d ⟨x,c,sh,hx,ho⟩;by_cases hj:j=i
  ·subst hj;rw[qAn (by simpa using hi)]at hx;obtain rfl:=dO hx;rcases BH with h | h<;>simp[parked]at h
  rw[qAa (qAi hj),qBk]at hx;obtain⟨y,hy,hyx⟩:=qAm.1 hx;exact⟨x,c,sh,by rw[hy,ZnV hyx],ho⟩
 have dj:∀j,j≠i->H'.Dis (Hf j):=λj hj=>hg.k9.dis (C.le j) (C.dis i j (qAi hj)) (C.disS j).symm;have Fa:∀j,j≠i->(Hf j).le w':=λj hj=>Bu (C.dis i j (qAi hj)) (C.disS j).symm (C.le j) hm.keep;have vS:∀K,iY (Hf i) Hs w K->iY H0 .nil w0 K:=by
  intro K hK b x hx;rcases hK b x hx with h | ⟨y,hy,he⟩
  ·exact .inl (qAT C.grown h)
  have:w0.heap.size<=b\/∃z,(H0 b=some z\/Hp.nil b=some z)/\(z.2=false->y=z):=hy.elim (λh=>C.org i b y h) (λh=>C.orgS b y h);refine this.imp id λ⟨z,hz,NR⟩=>⟨z,hz,λhf=>?_⟩;have:=NR hf;rw[<-this]at hf ⊢;exact he hf
 refine⟨by rw[fP,kA];exact C.size,by rw[fP];exact C.pos,?_,hm.inv,hm.leS,?_,?_,?_,?_,?_,?_,?_,?_,?_,?_,C.out.trans hm.out,qAT C.grown hm.size,?_,?_,vS _ hm.qG,λj k h1 h2=>C.one j k (oV _ _ h1) (oV _ _ h2)⟩
 ·rw[fP];have:=C.bound;omega
 ·intro j;rw[V0];split
  ·exact hg.le
  exact Fa j ‹_›
 ·intro j j' dG;rw[V0,V0];split<;>split
  ·omega
  ·exact dj j' ‹_›
  ·exact(dj j ‹_›).symm
  exact C.dis j j' dG
 ·intro j;rw[V0];split
  ·exact hg.dis
  rename_i hj;exact(hm.qG.dis (C.le j) (C.dis i j (qAi hj)) (C.disS j).symm).symm
 ·intro j;rw[V0];split
  ·subst j;exact hg.perm
  rename_i hj;intro b o pm hb q a hq hl hw;obtain⟨x,hx,gC⟩:=Go.Conc.touch_of hq;rcases Go.Conc.getElem?_append_cases hx with⟨_,eP⟩ | ⟨_,xS⟩
  ·exact(C.perm j b o pm hb q a (by rw[Go.Conc.touchAt_of eP];exact gC) hl hw).app u
  exfalso;rcases hm.tU x xS a gC b hl with⟨o',p',h1,h2⟩ | h1
  ·have:(o',p')=(o,pm)/\(o',p').2=false:=h1.elim (λh=>C.dis i j (qAi hj) b _ _ h hb) (λh=>(C.disS j).symm b _ _ h hb);obtain⟨e1,e2⟩:=this;simp only[qAG]at e1;obtain⟨rfl,rfl⟩:=e1;rcases hw with h | h
   ·rw[h]at e2;simp at e2
   rw[h2 h]at e2;simp at e2
  exact absurd ((C.le j).lt hb) O
 ·intro j hj;rw[aG,V0];split
  ·rfl
  exact C.tag j (by rw[fP]at hj;exact hj)
 ·exact λsaid=>Go.Conc.noRace_append (C.clean said) hu λq a ha op bH b hb hc=>hm.norace said q a ha op bH b hb hc
 ·exact Go.Conc.seen_app (λop bH=>MemAct.low_mono hm.size (C.low op bH)) hm.low
 ·intro j hj;rw[fP]at hj;rw[Go.Conc.Deaf_other t (show i≠j by omega) u hu];exact C.above j hj
 ·intro j hj;rw[fP]at hj;rw[V0,bY O];exact C.over j hj
 ·intro j hj;rw[fP]at hj;by_cases gO:j=i
  ·subst gO;rw[upd_same,upd_same,upd_same];exact bB
  rw[upd_ne _ _ gO,upd_ne _ _ gO,upd_ne _ _ gO];refine(C.st j hj).nD gO hb hu bU tD ?_;rw[aG,bY gO]
 ·intro b hb hn;rw[hm.keep b (qAz hb C.grown) ?_ ?_]
  ·exact C.keep b hb hn
  ·intro o ho;rcases C.org i b _ ho with h | ⟨z,hz,he⟩
   ·omega
   rcases hz with hz | hz
   ·obtain⟨zo,zp⟩:=z;cases zp with
    | true=>exact hn zo hz
    | false=>have:=he rfl;simp at this
   simp[Hp.nil]at hz
  intro o ho;rcases C.orgS b _ ho with h | ⟨z,hz,he⟩
  ·omega
  rcases hz with hz | hz
  ·obtain⟨zo,zp⟩:=z;cases zp with
   | true=>exact hn zo hz
   | false=>have:=he rfl;simp at this
  simp[Hp.nil]at hz
 intro j;rw[V0];split
 ·exact vS _ hg.k9
 exact C.org j
end
end
section
variable{H Hs H0:Hp}{w w0:World}{n i b j:Nat}{fr:Frame}{es:Array Event}{x:Touch}{t:Trace}{G:Frame->List Frame->Hp->Prop}{gs:Array Goroutine}{Hf:Nat->Hp}{md:Nat->Nat}{rk:Nat->Rk}{cs:List Frame}{g:Goroutine}
open Go.Conc (Knows Deaf touchAt QuitsD crowd woken rcase scase recvd parked)
open Go.ConcN (sumTo upd sumTo_upd upd_ne upd_same)
section
variable{p:Program}{T:Vx p}
theorem Zuf(kR:∀b x,Hs b=some x->x.2=true)(hd:H.Dis Hs)(hs:Hs.le w)(he:∀e∈es,EvL H w n e):∀op∈ZJ i fr es,RL i Hs op:=by
 intro op bH;obtain⟨e,h1,rfl⟩:=Go.Conc.mem_ofEvents bH;refine⟨rfl,?_⟩;have h:=he e h1;have key:∀b,((∃o p,H b=some (o,p)/\(e.write=true->p=true))\/w.heap.size<=b/\b<n)->Hs b=none:=by
  rintro b (⟨o,pm,h2,_⟩ | h2)
  ·cases hh:Hs b with
   | none=>rfl
   | some x=>
    obtain⟨e1,e2⟩:=hd b _ _ h2 hh;rw[e1,kR b x hh]at e2;simp at e2
  cases hh:Hs b with
  | none=>rfl
  | some x=>exact absurd (hs.lt hh) O
 obtain⟨loc,wr,sy⟩:=e;cases loc with
 | cell a=>
  obtain⟨rfl,h⟩:=h;exact .inl ⟨.cell a,wr,rfl,λb hb=>by simp[Loc.gP]at hb;subst hb;exact key _ h⟩
 | obj r=>
  obtain⟨rfl,h⟩:=h;exact .inl ⟨.obj r,wr,by cases wr<;>rfl,λb hb=>by simp[Loc.gP]at hb;subst hb;exact key _ h⟩
 | mark m=>
  cases m<;>simp only[EvL]at h<;>first | exact .inr (.inl ⟨_,rfl⟩) | exact .inr (.inr rfl)
 | _=>simp only[EvL]at h
theorem ZgU{e:Event}(he:EvL H w n e)(hx:(MemAct.ofEvent e).touch? = some x)(hb:x.loc.gP=some b) :
  ((∃o p,H b=some (o,p)/\(x.write=true->p=true))\/w.heap.size<=b/\b<n):=by
 obtain⟨loc,wr,sy⟩:=e;cases loc with
 | cell a=>
  obtain⟨rfl,h⟩:=he;simp[MemAct.ofEvent,MemAct.touch?]at hx;subst hx;simp[Loc.gP]at hb;subst hb;exact h
 | obj r=>
  obtain⟨rfl,h⟩:=he;cases wr<;>(simp[MemAct.ofEvent,MemAct.touch?]at hx;subst hx;simp[Loc.gP]at hb;subst hb;exact h)
 | mark m=>
  cases m<;>simp only[EvL]at he<;>simp[MemAct.ofEvent,MemAct.touch?]at hx
 | _=>simp only[EvL]at he
theorem ZlH{l:Loc}(h:l.isMemory):∃b,l.gP=some b:=by cases l<;>simp[Loc.isMemory,Loc.gP]at *
theorem MJ{op:MemOp}(hx:op.act.touch? = some x)(hb:x.loc.gP=some b)(h:op.act.low n):b<n:=by
 obtain⟨g,fn,pos,act⟩:=op;cases act with
 | access e=>
  simp[MemAct.touch?]at hx;subst hx;obtain⟨loc,wr,sy⟩:=e;cases loc<;>simp[Loc.gP]at hb<;>subst hb<;>exact h
 | mark m=>cases m<;>simp[MemAct.touch?]at hx<;>subst hx<;>simp[Loc.gP]at hb<;>subst hb<;>exact h
 | _=>simp[MemAct.touch?]at hx
theorem ZlS{s:T.S}{H':Hp}{w':World}(hT:T.Sound)(ha:dH T i H s Hs t w)(jE:T.act H.gh\/es=#[])(f:Fr H w H' w')(he:∀e∈es,EvL H w w'.heap.size e) :
  gN T i s Hs t w H (ZJ i fr es) s Hs w'/\g9 i Hs w H (t++ZJ i fr es) Hs w' H':=by
 have kR:=hT.own ha.inv;have AQ:∀op∈ZJ i fr es,∀x,op.act.touch? = some x->∀b,x.loc.gP=some b->((∃o p,H b=some (o,p)/\(x.write=true->p=true))\/w.heap.size<=b/\b<w'.heap.size):=by intro op bH x hx b hb;obtain⟨e,h1,rfl⟩:=Go.Conc.mem_ofEvents bH;exact ZgU (he e h1) hx hb
 have nG:∀b,b<w.heap.size->(∀o,H b≠some (o,true))->w'.heap[b]? = w.heap[b]?:=f.keep;have uV:iY H .nil w H':=by
  intro b x hx;cases hh:H b with
  | none=>exact .inl (f.new b hh (by rw[hx];simp))
  | some y=>
   refine .inr ⟨y,.inl rfl,λhy=>?_⟩;obtain⟨yo,yp⟩:=y;obtain rfl:yp=false:=hy;have:=f.ro b yo hh;rw[this]at hx;exact(dO hx).symm
 have vS:iY H Hs w H':=λb x hx=>(uV b x hx).imp id λ⟨y,hy,he⟩=>⟨y,.inl (hy.resolve_right (by simp[Hp.nil])),he⟩;have kK:Hs.le w':=by
  intro b o pm hb;rw[nG b (ha.leS.lt hb) λo' pM=>?_]
  ·exact ha.leS b o pm hb
  simpa using(ha.dis b _ _ pM hb).2
 have Hr:=Zuf (i:=i) (fr:=fr) kR ha.dis ha.leS he;refine⟨⟨f.size,λb hb h1 _=>nG b hb h1,kK,λb x hx=>.inr ⟨x,.inr hx,λ_=>rfl⟩,⟨by rw[f.os];exact .refl _,f.tape,f.out⟩,?_,?_,?_,?_⟩,⟨f.le,?_,vS,?_⟩⟩
 ·exact λop bH x hx b hb=>(AQ op bH x hx b hb).imp (λ⟨o,p,h1,h2⟩=>⟨o,p,.inl h1,h2⟩) And.left
 ·intro said q a hq op bH x hx hc;obtain⟨b,hb⟩:=ZlH hc.2.1;have eY:x.loc.gP=some b:=by rw[<-hc.1];exact hb
  rcases AQ op bH x hx b eY with⟨o,pm,h1,h2⟩ | ⟨h1,_⟩
  ·refine ha.perm b o pm h1 q a hq hb ?_;rcases hc.2.2.1 with h | h
   ·exact .inr h
   exact .inl (h2 h)
  exfalso;obtain⟨y,hy,hya⟩:=Go.Conc.touch_of hq;exact absurd (MJ hya hb (ha.low y (Go.Conc.mem_of_getElem? hy))) O
 ·intro op bH;obtain⟨e,h1,rfl⟩:=Go.Conc.mem_ofEvents bH;have h:=he e h1;obtain⟨loc,wr,sy⟩:=e;have bV:∀b,((∃o p,H b=some (o,p)/\(wr=true->p=true))\/w.heap.size<=b/\b<w'.heap.size)->b<w'.heap.size:=by
   rintro b (⟨o,pm,h2,_⟩ | h2)
   ·exact qAz (ha.le.lt h2) f.size
   exact h2.2
  cases loc with
  | cell a=>
   obtain⟨rfl,h⟩:=h;exact bV _ h
  | obj r=>
   obtain⟨rfl,h⟩:=h;cases wr<;>exact bV _ h
  | mark m=>
   cases m<;>simp only[EvL]at h<;>trivial
  | _=>simp only[EvL]at h
 ·rcases jE with jE | rfl
  ·exact hT.zO ha.inv ha.lt (by rw[ha.tag];exact jE) Hr
  have:ZJ i fr #[]=#[]:=by simp[ZJ,Go.Conc.ofEvents_eq]
  rw[this,qAh];exact ha.inv
 ·exact uV.dis ha.leS ha.dis (λb x y h1 _=>by simp[Hp.nil]at h1)
 intro b o pm hb q a hq hl hw;obtain⟨x,hx,gC⟩:=Go.Conc.touch_of hq;rcases Go.Conc.getElem?_append_cases hx with⟨_,eP⟩ | ⟨_,xS⟩
 ·refine Knows.app _ ?_;have qD:touchAt t q=some a:=by rw[Go.Conc.touchAt_of eP];exact gC
  rcases uV b _ hb with h | ⟨⟨yo,yp⟩,hy,he⟩
  ·exact absurd (MJ gC hl (ha.low x (Go.Conc.mem_of_getElem? eP))) O
  refine ha.perm b yo yp (hy.resolve_right (by simp[Hp.nil])) q a qD hl (hw.imp (λhp=>?_) id);cases yp with
  | true=>rfl
  | false=>have:=he rfl;simp at this;rw[hp]at this;simp at this
 have:=Go.Conc.knows_own hx;rwa [GP x xS]at this
theorem dP.at{s:T.S}
  (C:dP T G n H0 w0 gs w t s Hs Hf md rk) (d:Nat):dP T G n H0 w0 gs (w.at d) t s Hs Hf md rk:=
 ⟨C.size,C.pos,C.bound,C.inv,C.leS,C.le,C.dis,C.disS,C.perm,C.tag,C.clean,C.low,C.above,C.over,C.st,⟨C.out.os,C.out.tape,C.out.out⟩,C.grown,C.keep,C.org,C.orgS,C.one⟩
theorem dP.ahead{s:T.S}
  (C:dP T G n H0 w0 gs w t s Hs Hf md rk) (hi:i<gs.size):dH T i (Hf i) s Hs t w:=
 ⟨C.inv,C.tag i hi,by rw[<-C.size];exact hi,C.le i,C.leS,C.disS i,C.perm i,C.low,λj hj=>C.above j (by rw[C.size];exact hj)⟩
def lB(gs:Array Goroutine)(j:Nat):Nat:=if(gs[j]?).any (·.status == .running)then 1 else 0
theorem MC{α:Type}(f:Nat->α)(i:Nat):upd f i (f i)=f:=by
 funext j;rw[V0];split
 ·subst j;rfl
 rfl
theorem Md(hi:i<n){k:Rk}(h:Rk.lt k (rk i)):K6 n (upd rk i k) rk:=⟨i,hi,by rw[upd_same];exact h,λj hj=>upd_ne _ _ hj⟩
theorem Px(hi:i<n){m:Nat}(h:m<md i):sumTo n (upd md i m)<sumTo n md:=by have:sumTo n (upd md i m)+md i=sumTo n md+m:=sumTo_upd md m id hi;omega
theorem oM.status{s:T.S}(h:oM T s gs j fr cs)(hg:gs[j]? = some g):g.status=.running\/g.status=.blocked:=by
 rcases h with h | ⟨h,_⟩ | ⟨d,c,sh,_,_,⟨h,_⟩ | ⟨h,_⟩⟩<;>(rw[hg]at h;obtain rfl:=dO h)
 ·exact .inl rfl
 ·exact .inr rfl
 ·exact .inr rfl
 exact .inl rfl
structure K7(p:Program)(g:Goroutine)(fr:Frame)(cs:List Frame):Prop where
 Js:g.frame=fr
 step:∀main w,stepG p main g w=stepG p main (bT fr cs) w
 wD:mayWake p g=mayWake p (bT fr cs)
 st:g.status=.running
theorem oM.lB{s:T.S}(h:oM T s gs j fr cs)(hg:gs[j]? = some g)(hr:g.status=.running):K7 p g fr cs:=by
 rcases h with h | ⟨h,_⟩ | ⟨d,c,sh,_,_,⟨h,_⟩ | ⟨h,_⟩⟩<;>(rw[hg]at h;obtain rfl:=dO h)
 ·exact⟨rfl,λ_ _=>rfl,rfl,rfl⟩
 ·simp at hr
 ·simp[parked]at hr
 exact⟨rfl,λmain w=>Go.Conc.stepG_tries main _ w,rfl,rfl⟩
theorem oM.NB{s:T.S}(h:oM T s gs 0 fr cs)(hg:gs[0]? = some g)(hr:g.status=.running):g=bT fr cs:=by
 rcases h with h | ⟨h,_⟩ | ⟨d,c,sh,_,_,⟨h,_⟩ | ⟨_,h⟩⟩
 ·rw[hg]at h;exact dO h
 ·rw[hg]at h;obtain rfl:=dO h;simp at hr
 ·rw[hg]at h;obtain rfl:=dO h;simp[parked]at hr
 exact absurd rfl h
theorem dP.stuck{s:T.S}
  (hT:T.Sound) (C:dP T G n H0 w0 gs w t s Hs Hf md rk):∃(i:Nat) (g:Goroutine),gs[i]? = some g/\g.status=.running:=by
 refine oR λiV=>?_
 classical
 let D:Nat->Option Bool:=λj=>if gH T gs j true then some true else if gH T gs j false then some false else none
 have hD:∀j d,gH T gs j d->D j=some d:=by
  intro j d h;cases d with
  | true=>exact iO h
  | false=>
   have h1:¬ gH T gs j true:=λh1=>C.one j j h1 h;show(if _ then _ else _)=_;rw[bY h1,iO h]
 have Wu:∀j d,D j=some d->gH T gs j d:=by
  intro j d h;change (if _ then _ else _)=_ at h;split at h
  ·rename_i h1;obtain rfl:=dO h;exact h1
  split at h
  ·rename_i h1;obtain rfl:=dO h;exact h1
  simp at h
 refine hT.live D C.inv (λj hj hl=>?_) λj k h1 h2=>C.one j k (Wu _ _ h1) (Wu _ _ h2)
 have cH:j<gs.size:=by rw[C.size];exact hj
 have aw:∀fr cs,oM T s gs j fr cs->T.Blk s j\/(T.cls s=false/\∃d,D j=some d/\T.can d (T.tag s j)):=by
  rintro fr cs (h | ⟨_,h⟩ | ⟨d,c,sh,ho,_,⟨h,h1,h2⟩ | ⟨h,_⟩⟩)
  ·exact absurd ⟨j,_,h,rfl⟩ iV
  ·exact .inl h
  ·exact .inr ⟨h1,d,hD _ _ ⟨_,_,_,h,ho⟩,h2⟩
  exact absurd ⟨j,_,h,rfl⟩ iV
 have h:=C.st j cH
 revert h
 generalize md j=m
 generalize rk j=k
 intro h
 match m,h with
 | 3,⟨_,fr,cs,h,_⟩=>exact aw fr cs h
 | 2,⟨_,fr,cs,h,_⟩=>exact aw fr cs h
 | 1,⟨_,fr,cs,h,_⟩=>exact aw fr cs h
 | 0,⟨_,h,_⟩=>exact absurd ((C.tag j cH).trans h) hl
theorem dP.awake{s:T.S}
  (C:dP T G n H0 w0 gs w t s Hs Hf md rk):∀g∈gs,Go.Conc.awake g:=by
 intro g hg;obtain⟨j,hj,rfl⟩:=qCa.1 hg;have WA:gs[j]? = some gs[j]:=qAE hj;have h:=C.st j hj;revert h;generalize md j=m;generalize rk j=k;intro h;refine Go.Conc.awake_of ?_;match m,h with
 | 3,⟨_,fr,cs,h,_⟩=>exact(h.status WA).imp id .inl
 | 2,⟨_,fr,cs,h,_⟩=>exact(h.status WA).imp id .inl
 | 1,⟨_,fr,cs,h,_⟩=>exact(h.status WA).imp id .inl
 | 0,⟨_,_,_,g,q,h,hq,_⟩=>
  rw[WA]at h;obtain rfl:=dO h;exact hq.status.imp id .inr
end
end
section
variable{i a a' d:Nat}{H eG:Hp}{w':World}{M:Ms}{sl iD:Option (Nat×Nat)}{fr:Frame}{cs:List Frame}{g:Goroutine}
open Go.Conc (Knows Deaf touchAt QuitsD crowd woken rcase scase recvd parked)
open Go.ConcN (sumTo upd sumTo_upd upd_ne upd_same)
section
variable{p:Program}{T:Vx p}{G:Frame->List Frame->Hp->Prop}{n:Nat}{H0:Hp}{w0:World}{gs:Array Goroutine}{w:World}{t:Trace}{s:T.S}{Hs:Hp}{Hf:Nat->Hp}{md:Nat->Nat}{rk:Nat->Rk}
def Y9(T:Vx p)(G:Frame->List Frame->Hp->Prop)(n:Nat)(H0:Hp)(w0:World)(m:Machine)(t:Trace):Prop:=
 ∃k fF w' iD t' s' eG yL CV CR,runNT p k m t=(.next (crowd fF w' iD),t')/\dP T G n H0 w0 fF w' t' s' eG yL CV CR/\∃fr cs,fF[0]? = some (bT fr cs)/\G fr cs (yL 0)
theorem Y9.step{m m':Machine}{t u:Trace}(h:stepT p m=(.next m',u))(hc:Y9 T G n H0 w0 m' (t++u)):Y9 T G n H0 w0 m t:=by obtain⟨k,fF,w',iD,t',s',eG,yL,CV,CR,h1,h2⟩:=hc;exact⟨k+1,fF,w',iD,t',s',eG,yL,CV,CR,by simp only[runNT,h];exact h1,h2⟩
theorem gN.still(ha:dH T i H s Hs t w):gN T i s Hs t w H #[] s Hs w:=
 ⟨aC _,λ_ _ _ _=>rfl,ha.leS,λb x hx=>.inr ⟨x,.inr hx,λ_=>rfl⟩,.refl w,by simp,by simp,by simp,by simpa using ha.inv⟩
theorem g9.still(ha:dH T i H s Hs t w):g9 i Hs w H (t++#[]) Hs w H:=
 ⟨ha.le,ha.dis,λb x hx=>.inr ⟨x,.inl hx,λ_=>rfl⟩,by simpa using ha.perm⟩
theorem g9.aP{t':Trace}(g:List Nat):g9 i Hs w H t' eG w' (.aP g):=
 ⟨λb o p h=>by simp[Hp.aP]at h,λb x y h=>by simp[Hp.aP]at h,λb x h=>by simp[Hp.aP]at h,λb o p h=>by simp[Hp.aP]at h⟩
def iS(s:T.S)(gs:Array Goroutine)(md:Nat->Nat)(rk:Nat->Rk):Ms:=(T.more s,sumTo gs.size md,rk,sumTo gs.size (lB gs))
theorem ZlC(h:a'<a)(x x':Nat×(Nat->Rk)×Nat):pZ n (a',x') (a,x):=.left _ _ h
theorem S5{b b':Nat}{r r':Nat->Rk}{c c':Nat}(ha:a'<=a)(h:b'<b\/(b'=b/\(K6 n r' r\/r'=r/\c'<c))):pZ n (a',b',r',c') (a,b,r,c):=by
 rcases qAH a' a with bV | WC
 ·exact .left _ _ bV
 obtain rfl:a'=a:=O;refine .right _ ?_;rcases h with h | ⟨rfl,h⟩
 ·exact .left _ _ h
 refine .right _ ?_;rcases h with h | ⟨rfl,h⟩
 ·exact .left _ _ h
 exact .right _ h
theorem Lx(i:Nat)(fr:Frame):ZJ i fr #[]=#[]:=by simp[ZJ,Go.Conc.ofEvents_eq]
theorem Ad(hi:i<gs.size)(f:Goroutine->Goroutine)(g:Goroutine):((gs.map f).setIfInBounds i g)[i]? = some g:=by simp[hi]
theorem OC(ih:∀M',pZ n M' M->∀gs w sl t s Hs Hf md rk,iS (T:=T) s gs md rk=M'->dP T G n H0 w0 gs w t s Hs Hf md rk->Y9 T G n H0 w0 (crowd gs w sl) t)
  (hT:T.Sound) (hM:iS s gs md rk=M) (C:dP T G n H0 w0 gs w t s Hs Hf md rk) (hi:i<gs.size) {bW:Frame} {bJ:List Frame} {es:Array Event} {s':T.S} {H':Hp} {m:Nat} {k:Rk}
   (hg:gs[i]? = some g) (hr:K7 p g fr cs) (bB:stepT p (crowd gs w sl)=runT p (crowd gs (w.at d) iD) i) (eM:stepG p (i == 0) (bT fr cs) (w.at d)=.go (bT bW bJ) w' es)
  (hm:gN T i s Hs t (w.at d) (Hf i) (ZJ i fr es) s' eG w') (x9:g9 i Hs (w.at d) (Hf i) (t++ZJ i fr es) eG w' H') (aG:∀j,T.tag s' j=if j=i then H'.gh else T.tag s j) (kA:T.next s'=T.next s) (kB:T.more s'<=T.more s)
  (hb:mayWake p (bT fr cs)=true\/∀j,T.Blk s j->T.Blk s' j) (bU:T.cls s'=T.cls s\/(T.cls s'=true/\mayWake p (bT fr cs)=true/\i=0))
  (uN:∀fF:Array Goroutine,fF[i]? = some (bT bW bJ)->y5 T G fF (t++ZJ i fr es) s' i H' m k) (PW:m<md i\/m=md i/\Rk.lt k (rk i)):Y9 T G n H0 w0 (crowd gs w sl) t:=by
 have fJ:=Go.Conc.runT_crowd_go (P:=p) (sl:=iD) hg ((hr.step _ _).trans eM);have e0:MemOp.ofEvents i g.frame.fn g.frame.place es=ZJ i fr es:=by rw[hr.Js]
 rw[e0]at fJ;refine Y9.step (bB.trans fJ) ?_;have uL:(mayWake p g && (bT bW bJ).status != .blocked && (bT bW bJ).status != .waiting)=mayWake p (bT fr cs):=by rw[hr.wD];show(mayWake p (bT fr cs) && true && true)=_;simp
 have hC:=(C.at d).go hT hi (g:=g) (g':=bT bW bJ) (λop bH=>GP op bH) hm x9 aG kA kB (by rw[uL];exact hb) (by rw[uL];exact bU) (.inr rfl) (uN _ (Ad hi _ _));refine ih _ ?_ _ _ _ _ _ _ _ _ _ rfl hC;rw[<-hM];unfold iS;have fP:((gs.map (woken p g (bT bW bJ) w')).setIfInBounds i (bT bW bJ)).size=gs.size:=by simp
 rw[fP];refine S5 kB ?_;rcases PW with h | ⟨rfl,h⟩
 ·exact .inl (Px hi h)
 exact .inr ⟨by rw[MC],.inl (Md (qAz hi (by have:=C.bound;omega)) h)⟩
theorem Lu(ih:∀M',pZ n M' M->∀gs w sl t s Hs Hf md rk,iS (T:=T) s gs md rk=M'->dP T G n H0 w0 gs w t s Hs Hf md rk->Y9 T G n H0 w0 (crowd gs w sl) t)
  (hT:T.Sound) (hM:iS s gs md rk=M) (C:dP T G n H0 w0 gs w t s Hs Hf md rk) (hi:i<gs.size) 
   (hg:gs[i]? = some g) (hr:K7 p g fr cs) (bB:stepT p (crowd gs w sl)=runT p (crowd gs (w.at d) iD) i) (mD:WT T i fr cs s (w.at d))
  (uN:∀fF:Array Goroutine,fF[i]? = some (gP fr cs)->y5 T G fF t s i (Hf i) (md i) (rk i)):Y9 T G n H0 w0 (crowd gs w sl) t:=by
 obtain⟨h1,h2⟩:=mD;have fJ:=Go.Conc.runT_crowd_go (P:=p) (sl:=iD) hg ((hr.step _ _).trans h1);have e0:MemOp.ofEvents i g.frame.fn g.frame.place #[]=#[]:=by rw[hr.Js];exact Lx i fr
 rw[e0]at fJ;refine Y9.step (bB.trans fJ) ?_;have ha:=(C.at d).ahead hi;have hC:=(C.at d).go hT hi (g:=g) (g':=(gP fr cs)) (u:=#[]) (by simp) (gN.still ha) (g9.still ha) (λj=>by split;subst j;exact C.tag _ hi;rfl) rfl (aC _) (.inr λ_ h=>h) (.inl rfl) (.inr rfl)
  (m:=md i) (k:=rk i) (by have:=uN _ (Ad hi (woken p g (gP fr cs) (w.at d)) (gP fr cs));simpa using this)
 rw[MC,MC,MC]at hC;refine ih _ ?_ _ _ _ _ _ _ _ _ _ rfl hC;rw[<-hM];unfold iS;have fP:((gs.map (woken p g (gP fr cs) (w.at d))).setIfInBounds i (gP fr cs)).size=gs.size:=by simp
 rw[fP];refine S5 (aC _) (.inr ⟨rfl,.inr ⟨rfl,?_⟩⟩);have uL:∀o,woken p g (gP fr cs) (w.at d) o=o:=by intro o;simp[woken]
 have hid:gs.map (woken p g (gP fr cs) (w.at d))=gs:=by have:woken p g (gP fr cs) (w.at d)=id:=funext uL;rw[this,Array.map_id]
 rw[hid];have:lB (gs.setIfInBounds i (gP fr cs))=upd (lB gs) i 0:=by
  funext j;rw[V0];unfold lB;by_cases hj:j=i
  ·subst hj;simp[hi]
  rw[bY hj,qAa (qAi hj)]
 rw[this];exact Px hi (by simp[lB,hg,hr.st])
end
end
section
variable{i:Nat}{fr kU:Frame}{es:Array Event}{op:MemOp}
open Go.Conc (Knows Deaf touchAt QuitsD crowd woken rcase scase recvd parked)
open Go.ConcN (sumTo upd sumTo_upd upd_ne upd_same)
section
variable{p:Program}{T:Vx p}{G:Frame->List Frame->Hp->Prop}{n:Nat}{H0:Hp}{w0:World}{gs:Array Goroutine}{w:World}{t:Trace}{s:T.S}{Hs:Hp}{Hf:Nat->Hp}{md:Nat->Nat}{rk:Nat->Rk}
theorem ZlB(h:∀e∈es,Event.mute e=true):∀op∈ZJ i fr es,KX i op:=by
 intro op bH;obtain⟨⟨loc,wr,sy⟩,he,rfl⟩:=Go.Conc.mem_ofEvents bH;have:=h _ he;refine⟨rfl,?_⟩;cases loc with
 | mark m=>cases m<;>first | exact .inl rfl | exact .inr rfl | simp[Event.mute]at this
 | _=>simp[Event.mute]at this
theorem KX.y9(h:KX i op):op.act.touch? = none:=by rcases h.2 with h | h<;>rw[h]<;>rfl
theorem KX.low{n:Nat}(h:KX i op):op.act.low n:=by rcases h.2 with h | h<;>rw[h]<;>trivial
theorem Zs5(hT:T.Sound){M:Ms}(ih:∀M',pZ n M' M->∀gs w sl t s Hs Hf md rk,iS (T:=T) s gs md rk=M'->dP T G n H0 w0 gs w t s Hs Hf md rk->Y9 T G n H0 w0 (crowd gs w sl) t)
  (hM:iS s gs md rk=M) (C:dP T G n H0 w0 gs w t s Hs Hf md rk) (hi:i<gs.size) {sl iD:Option (Nat×Nat)} {d:Nat} {g:Goroutine} {q:Nat} (bD:i≠0) (rE:md i=0) (hl:(Hf i).gh=T.left) (hn:xQ (Hf i))
  (hg:gs[i]? = some g) (hr:g.status=.running) (bB:stepT p (crowd gs w sl)=runT p (crowd gs (w.at d) iD) i) (hq:QuitsD p q (Deaf t i) g) (oE:rk i=.ofNat q):Y9 T G n H0 w0 (crowd gs w sl) t:=by
 cases q with
 | zero=>rw[hq.1]at hr;simp at hr
 | succ k=>
  rcases hq with⟨hf,_⟩ | ⟨_,g',es,rT,HJ,qD⟩
  ·rw[hf]at hr;simp at hr
  have gF:(i == 0)=false:=by simp[bD]
  have fJ:=Go.Conc.runT_crowd_go (P:=p) (sl:=iD) hg (by rw[gF];exact HJ (w.at d));refine Y9.step (bB.trans fJ) ?_;have ha:=(C.at d).ahead hi;have T5:=ZlB (i:=i) (fr:=g.frame) rT;have hm:gN T i s Hs t (w.at d) (Hf i) (ZJ i g.frame es) s Hs (w.at d):=
   ⟨aC _,λ_ _ _ _=>rfl,ha.leS,λb x hx=>.inr ⟨x,.inr hx,λ_=>rfl⟩,.refl _,λop bH x hx=>by rw[(T5 op bH).y9]at hx;simp at hx,
    λ_ _ _ _ op bH x hx=>by rw[(T5 op bH).y9]at hx;simp at hx,λop bH=>(T5 op bH).low,hT.mute ha.inv ha.lt (ha.tag.trans hl) T5⟩
  have x9:g9 i Hs (w.at d) (Hf i) (t++ZJ i g.frame es) Hs (w.at d) (Hf i):=
   ⟨ha.le,ha.dis,λb x hx=>.inr ⟨x,.inl hx,λ_=>rfl⟩,ha.perm.own λop bH=>.inl (GP op bH)⟩
  have hC:=(C.at d).go hT hi (g:=g) (g':=g') (λop bH=>GP op bH) hm x9 (λj=>by split;subst j;exact C.tag _ hi;rfl) rfl (aC _) (.inr λ_ h=>h) (.inl rfl) (.inl (by rcases qD.status with h | h<;>rw[h]<;>simp)) (m:=0) (k:=.ofNat k)
   ⟨bD,hl,hn,g',k,Ad hi _ _,by rw[Go.Conc.Deaf_own];exact qD,rfl⟩
  refine ih _ ?_ _ _ _ _ _ _ _ _ _ rfl hC;rw[<-hM];unfold iS;have fP:((gs.map (woken p g g' (w.at d))).setIfInBounds i g').size=gs.size:=by simp
  rw[fP];have Hi:upd md i 0=md:=by rw[<-rE,MC]
  refine S5 (aC _) (.inr ⟨by rw[Hi],.inl (Md (qAz hi (by have:=C.bound;omega)) ?_)⟩);rw[oE];exact Rk.AD k
theorem Pa{k:Nat}:YW i k fr kU es=((ZJ i fr es)++#[({ g:=i,fn:=fr.fn,pos:=fr.place,act:=.go k }:MemOp)])++#[({ g:=k,fn:=kU.fn,pos:=fr.place,act:=.start }:MemOp)]:=by simp[YW]
theorem dP.spawn(C:dP T G n H0 w0 gs w t s Hs Hf md rk){bW:Frame}{bJ:List Frame}{w':World}{H' Hc:Hp}{s':T.S}{eG:Hp}{k kc:Rk}
  (hm:gN T 0 s Hs t w (Hf 0) (YW 0 (T.next s) fr kU es) s' eG w') (hg:g9 0 Hs w (Hf 0) (t++YW 0 (T.next s) fr kU es) eG w' H') (C3:g9 (T.next s) Hs w (Hf 0) (t++YW 0 (T.next s) fr kU es) eG w' Hc) (hd:H'.Dis Hc)
  (aG:∀j,T.tag s' j=if j=0 then H'.gh else if j=T.next s then Hc.gh else T.tag s j) (kA:T.next s'=T.next s+1) (kB:T.more s'<T.more s) (bU:T.cls s'=T.cls s) (hb:∀j,j<T.next s->T.Blk s j->T.Blk s' j)
  (jE:T.act H'.gh) (oE:fO (mF T.prgM G) k (bW,bJ,H')) (QN:T.act Hc.gh) (Gi:fO (mF (T.prgW (T.next s)) Vf) kc (kU,[],Hc)) :
  dP T G n H0 w0 ((gs.setIfInBounds 0 (bT bW bJ)).push (bT kU [])) w' (t++YW 0 (T.next s) fr kU es) s' eG (upd (upd Hf 0 H') (T.next s) Hc) (upd (upd md 0 3) (T.next s) 2) (upd (upd rk 0 k) (T.next s) kc):=by
 have hp:=C.pos;have hnz:T.next s≠0:=by rw[<-C.size];omega
 have F8:((gs.setIfInBounds 0 (bT bW bJ)).push (bT kU [])).size=gs.size+1:=by simp
 have hK:∀K,iY (Hf 0) Hs w K->iY H0 .nil w0 K:=by
  intro K hK b x hx;rcases hK b x hx with h | ⟨y,hy,he⟩
  ·exact .inl (qAT C.grown h)
  have:w0.heap.size<=b\/∃z,(H0 b=some z\/Hp.nil b=some z)/\(z.2=false->y=z):=hy.elim (λh=>C.org 0 b y h) (λh=>C.orgS b y h);refine this.imp id λ⟨z,hz,NR⟩=>⟨z,hz,λhf=>?_⟩;have:=NR hf;rw[<-this]at hf ⊢;exact he hf
 have oV:∀j d,gH T ((gs.setIfInBounds 0 (bT bW bJ)).push (bT kU [])) j d->gH T gs j d:=by
  rintro j d ⟨x,c,sh,hx,ho⟩;rw[qBO]at hx;split at hx
  ·have:=dO hx;have:=qAC Goroutine.status this;simp[parked]at this
  by_cases hj:j=0
  ·subst hj;rw[qAn hp]at hx;have:=qAC Goroutine.status (dO hx);simp[parked]at this
  rw[qAa (qAi hj)]at hx;exact⟨x,c,sh,hx,ho⟩
 have Fa:∀j,j≠0->(Hf j).le w':=λj hj=>Bu (C.dis 0 j (qAi hj)) (C.disS j).symm (C.le j) hm.keep;have dj:∀j,j≠0->H'.Dis (Hf j):=λj hj=>hg.k9.dis (C.le j) (C.dis 0 j (qAi hj)) (C.disS j).symm;have dc:∀j,j≠0->Hc.Dis (Hf j):=λj hj=>C3.k9.dis (C.le j) (C.dis 0 j (qAi hj)) (C.disS j).symm;have qF:∀j,j≠0->j≠T.next s->Deaf (t++YW 0 (T.next s) fr kU es) j=Deaf t j:=by
  intro j h0 hk;rw[Pa,<-qCV,Go.Conc.Deaf_other _ (g':=T.next s) (qAi hk) _ (by simp)];refine Go.Conc.Deaf_other _ (g':=0) (qAi h0) _ ?_;intro op bH;rcases qAB.1 bH with h | h
  ·exact GP op h
  simp at h;subst h;rfl
 have hH:∀j,upd (upd Hf 0 H') (T.next s) Hc j=if j=T.next s then Hc else if j=0 then H' else Hf j:=λj=>rfl
 refine⟨by rw[F8,kA,C.size],by rw[F8];omega,?_,hm.inv,hm.leS,?_,?_,?_,?_,?_,?_,?_,?_,?_,?_,C.out.trans hm.out,qAT C.grown hm.size,?_,?_,hK _ hm.qG,λj k h1 h2=>C.one j k (oV _ _ h1) (oV _ _ h2)⟩
 ·rw[F8];have:=C.bound;omega
 ·intro j;rw[hH];split
  ·exact C3.le
  split
  ·exact hg.le
  exact Fa j ‹_›
 ·intro j j' dG;rw[hH,hH];by_cases h1:j=T.next s
  ·rw[iO h1,bY O];by_cases h2:j'=0
   ·rw[iO h2];exact hd.symm
   rw[bY h2];exact dc j' h2
  rw[bY h1];by_cases h2:j'=T.next s
  ·rw[iO h2];by_cases h3:j=0
   ·rw[iO h3];exact hd
   rw[bY h3];exact(dc j h3).symm
  rw[bY h2];by_cases h3:j=0
  ·rw[iO h3,bY O];exact dj j' O
  rw[bY h3];by_cases h4:j'=0
  ·rw[iO h4];exact(dj j h3).symm
  rw[bY h4];exact C.dis j j' dG
 ·intro j;rw[hH];split
  ·exact C3.dis
  split
  ·exact hg.dis
  rename_i hj;exact(hm.qG.dis (C.le j) (C.dis 0 j (qAi hj)) (C.disS j).symm).symm
 ·intro j;rw[hH];split
  ·subst j;exact C3.perm
  split
  ·subst j;exact hg.perm
  rename_i hj;intro b o pm hb q a hq hl hw;obtain⟨x,hx,gC⟩:=Go.Conc.touch_of hq;rcases Go.Conc.getElem?_append_cases hx with⟨_,eP⟩ | ⟨_,xS⟩
  ·exact(C.perm j b o pm hb q a (by rw[Go.Conc.touchAt_of eP];exact gC) hl hw).app _
  exfalso;rcases hm.tU x xS a gC b hl with⟨o',p',h1,h2⟩ | h1
  ·have:(o',p')=(o,pm)/\(o',p').2=false:=h1.elim (λh=>C.dis 0 j (qAi hj) b _ _ h hb) (λh=>(C.disS j).symm b _ _ h hb);obtain⟨e1,e2⟩:=this;simp only[qAG]at e1;obtain⟨rfl,rfl⟩:=e1;rcases hw with h | h
   ·rw[h]at e2;simp at e2
   rw[h2 h]at e2;simp at e2
  exact absurd ((C.le j).lt hb) O
 ·intro j hj;rw[aG,hH];by_cases h0:j=0
  ·rw[iO h0,bY O,iO h0]
  rw[bY h0];by_cases h1:j=T.next s
  ·rw[iO h1,iO h1]
  rw[bY h1,bY h1,bY h0];exact C.tag j (by rw[F8]at hj;have:=C.size;omega)
 ·intro said;rw[Pa,<-qCV];refine Go.Conc.noRace_append (g:=T.next s) (Go.Conc.noRace_append (g:=0) (C.clean said) ?_ ?_) (by simp) ?_
  ·intro op bH;rcases qAB.1 bH with h | h
   ·exact GP op h
   simp at h;subst h;rfl
  ·intro q a ha op bH b eY hc;exact hm.norace said q a ha op (by rw[Pa];exact qAB.2 (.inl bH)) b eY hc
  intro q a ha op bH b eY;simp at bH;subst bH;simp[MemAct.touch?]at eY
 ·exact Go.Conc.seen_app (λop bH=>MemAct.low_mono hm.size (C.low op bH)) hm.low
 ·intro j hj;rw[F8]at hj;rw[qF j O (by rw[<-C.size];omega)];exact C.above j O
 ·intro j hj;rw[F8]at hj;rw[hH,bY (by rw[<-C.size];omega),bY O];exact C.over j O
 ·intro j hj;rw[F8]at hj;have e1:∀{α:Type} (f:Nat->α) (x y:α),upd (upd f 0 x) (T.next s) y j=if j=T.next s then y else if j=0 then x else f j:=λ_ _ _=>rfl
  rw[e1,e1,e1];by_cases h1:j=T.next s
  ·rw[iO h1,iO h1,iO h1];subst h1;refine⟨hnz,kU,[],.inl ?_,Gi,QN⟩;rw[qBO,iO (by simp[C.size])]
  rw[bY h1,bY h1,bY h1];have P1:j<gs.size:=by have:=C.size;omega
  have EK:((gs.setIfInBounds 0 (bT bW bJ)).push (bT kU []))[j]? = (gs.setIfInBounds 0 (bT bW bJ))[j]?:=by rw[qBO,bY (by simp;omega)]
  by_cases h0:j=0
  ·rw[iO h0,iO h0,iO h0];subst h0;refine⟨rfl,bW,bJ,.inl ?_,oE,jE⟩;rw[EK];simp[hp]
  rw[bY h0,bY h0,bY h0];have GA:((gs.setIfInBounds 0 (bT bW bJ)).push (bT kU []))[j]? = gs[j]?:=by rw[EK,qAa (qAi h0)]
  have aw:∀fr cs,oM T s gs j fr cs->oM T s' ((gs.setIfInBounds 0 (bT bW bJ)).push (bT kU [])) j fr cs:=by intro fr cs h;unfold oM Pk at h ⊢;rw[GA];refine h.imp id (qCJ (λh=>⟨h.1,hb j (by rw[<-C.size];exact P1) h.2⟩) ?_);rintro⟨d,c,sh,ho,hs,h⟩;refine⟨d,c,sh,ho,hs,h.imp (λ⟨a1,a2,a3⟩=>⟨a1,bU.trans a2,?_⟩) id⟩;rw[aG,bY h0,bY h1];exact a3
  have h:=C.st j P1;revert h;generalize md j=m;generalize rk j=r;intro h;match m,h with
  | 3,⟨h0,fr,cs,h1,h2⟩=>exact⟨h0,fr,cs,aw _ _ h1,h2⟩
  | 2,⟨h0,fr,cs,h1,h2⟩=>exact⟨h0,fr,cs,aw _ _ h1,h2⟩
  | 1,⟨h0,fr,cs,h1,h2⟩=>exact⟨h0,fr,cs,aw _ _ h1,h2⟩
  | 0,⟨Jm,kM,h2,x,q,h3,h4,h5⟩=>exact⟨Jm,kM,h2,x,q,by rw[GA];exact h3,by rw[qF j h0 h1];exact h4,h5⟩
 ·intro b hb hn;rw[hm.keep b (qAz hb C.grown) ?_ ?_]
  ·exact C.keep b hb hn
  ·intro o ho;rcases C.org 0 b _ ho with h | ⟨z,hz,he⟩
   ·omega
   rcases hz with hz | hz
   ·obtain⟨zo,zp⟩:=z;cases zp with
    | true=>exact hn zo hz
    | false=>have:=he rfl;simp at this
   simp[Hp.nil]at hz
  intro o ho;rcases C.orgS b _ ho with h | ⟨z,hz,he⟩
  ·omega
  rcases hz with hz | hz
  ·obtain⟨zo,zp⟩:=z;cases zp with
   | true=>exact hn zo hz
   | false=>have:=he rfl;simp at this
  simp[Hp.nil]at hz
 intro j;rw[hH];split
 ·exact hK _ C3.k9
 split
 ·exact hK _ hg.k9
 exact C.org j
end
end
variable{u:Trace}{n b:Nat}
open Go.Conc (Knows Deaf touchAt QuitsD crowd woken rcase scase recvd parked)
open Go.ConcN (sumTo upd sumTo_upd upd_ne upd_same)
section
variable{p:Program}{T:Vx p}{G:Frame->List Frame->Hp->Prop}{N:Nat}{H0:Hp}{w0:World}{gs:Array Goroutine}{w:World}{t:Trace}{s:T.S}{Hs:Hp}{Hf:Nat->Hp}{md:Nat->Nat}{rk:Nat->Rk}
def VF(c n b:Nat)(f0 fb:FuncId)(p0 pb:String):Trace:=
 #[{ g:=0,fn:=f0,pos:=p0,act:=.send c n },{ g:=b,fn:=fb,pos:=pb,act:=.recv c n 0 },{ g:=0,fn:=f0,pos:=p0,act:=.sendDone c n },{ g:=b,fn:=fb,pos:=pb,act:=.recvDone c n }]
theorem Lj{g:Nat}:∀(l:List MemOp) (t:Trace),(∀op∈l,op.g≠g)->Deaf (t++l.toArray) g=Deaf t g
 | [],t,_=>by simp
 | x :: l,t,h=>by
  have e:t++(x :: l).toArray=(t++#[x])++l.toArray:=by simp
  rw[e,Lj l _ λop bH=>h op (qAr _ bH)];exact Go.Conc.Deaf_other t (g':=x.g) (h x qBu) _ (by simp)
theorem eR.lQ{t:Trace}{i:Nat}{H:Hp}(h:eR t i H)(hu:∀op∈u,op.act.touch? = none):eR (t++u) i H:=h.own λop bH=>.inr (hu op bH)
theorem ZtU{t:Trace}{c q:Nat}{f0 fb:FuncId}{p0 pb:String}(h0:Deaf t 0=0)(hb:Deaf t b=0)(gF:b≠0)(h:Knows t 0 q):Knows (t++VF c n b f0 fb p0 pb) b q:=by
 have e0:(t++VF c n b f0 fb p0 pb)[t.size]? = some { g:=0,fn:=f0,pos:=p0,act:=.send c n }:=by simp[VF]
 have e3:(t++VF c n b f0 fb p0 pb)[t.size+3]? = some { g:=b,fn:=fb,pos:=pb,act:=.recvDone c n }:=by simp[VF]
 have k1:=h.hb_new (u:=VF c n b f0 fb p0 pb) (aC _) e0 rfl;refine⟨_,_,e3,rfl,.inr (k1.trans (.single (.inr ⟨.handOver (c:=c) (k:=n) (by simp[Trace.act?,e0]) (by simp[Trace.act?,e3]),?_,?_⟩)))⟩
 ·refine⟨0,by simp[Trace.g?,e0],?_⟩;rw[Go.Conc.deaf_old (aC _)];exact h0
 refine⟨b,by simp[Trace.g?,e3],?_⟩;have e1:(t++VF c n b f0 fb p0 pb)[t.size+1]? = some { g:=b,fn:=fb,pos:=pb,act:=.recv c n 0 }:=by simp[VF]
 have e2:(t++VF c n b f0 fb p0 pb)[t.size+2]? = some { g:=0,fn:=f0,pos:=p0,act:=.sendDone c n }:=by simp[VF]
 rw[Go.Conc.deaf_succ e2,Go.Conc.deaf_succ e1,Go.Conc.deaf_succ e0,Go.Conc.deaf_old (aC _)];exact hb
theorem dP.meet(hT:T.Sound)(C:dP T G N H0 w0 gs w t s Hs Hf md rk)(hb:b<gs.size)(gF:b≠0){fF:Array Goroutine}{w':World}{s':T.S}{B8 B7:Frame}{EX CE:List Frame}{H1 Hm:Hp}{g' gb:List Nat}{k0 kb:Rk}
  (e0:Hf 0=H1.join Hm) (hc:H1.Comp Hm) (hn:Hs T.ch=some (.chan 0 #[] false n n false,true)) (IT:T.Inv s' (Hs.ins T.ch (.chan 0 #[] false (n+1) (n+1) false)) (t++u))
  (aG:∀j,T.tag s' j=if j=0 then g' else if j=b then gb else T.tag s j) (kA:T.next s'=T.next s) (kB:T.more s'<=T.more s) (bU:T.cls s'=T.cls s) (Iz:∀j,T.Blk s j->T.Blk s' j)
  (hw:w'.heap=w.heap.setIfInBounds T.ch (.chan 0 #[] false (n+1) (n+1) false)) (uQ:wB w w') (FY:∀op∈u,op.g=0\/op.g=b) (CX:∀op∈u,op.act.touch? = none) (Fw:∀op∈u,op.act.low w.heap.size)
  (hk:∀q,Knows t 0 q->Knows (t++u) b q) (P8:fF[0]? = some (bT B8 EX)) (Ij:fF[b]? = some (bT B7 CE)) (uT:∀j,j≠0->j≠b->fF[j]? = gs[j]?) (fP:fF.size=gs.size)
  (r0:fO (mF T.prgM G) k0 (B8,EX,H1.tagged g')) (a0:T.act g') (rb:fO (mF (T.prgW b) Vf) kb (B7,CE,((Hf b).join Hm).tagged gb)) (ab:T.act gb) :
  dP T G N H0 w0 fF w' (t++u) s' (Hs.ins T.ch (.chan 0 #[] false (n+1) (n+1) false)) (upd (upd Hf 0 (H1.tagged g')) b (((Hf b).join Hm).tagged gb)) (upd (upd md 0 3) b 2) (upd (upd rk 0 k0) b kb):=by
 have hp:=C.pos;have I4:T.ch<w.heap.size:=C.leS.lt hn;have iV:∀j,Hf j T.ch=none:=by
  intro j;cases h:Hf j T.ch with
  | none=>rfl
  | some x=>
   obtain⟨e,e2⟩:=C.disS j _ _ _ h hn;rw[e]at e2;simp at e2
 have rN:∀{α:Type} (f:Nat->α) (x y:α) (j:Nat),upd (upd f 0 x) b y j=if j=b then y else if j=0 then x else f j:=λ_ _ _ _=>rfl
 have l1:∀c x,H1 c=some x->Hf 0 c=some x:=λc x h=>by rw[e0];exact Hp.aK h
 have lm:∀c x,Hm c=some x->Hf 0 c=some x:=λc x h=>by rw[e0];exact Hp.aS hc h
 have src:∀j c x,upd (upd Hf 0 (H1.tagged g')) b (((Hf b).join Hm).tagged gb) j c=some x->(Hf j c=some x)\/(j=b/\Hm c=some x):=by
  intro j c x h;rw[rN]at h;split at h
  ·rename_i e;subst e;simp only[Hp.kJ,Hp.aX]at h;cases hh:Hf j c with
   | none=>rw[hh]at h;exact .inr ⟨rfl,h⟩
   | some z=>rw[hh]at h;exact .inl h
  split at h
  ·rename_i e;subst e;exact .inl (l1 _ _ h)
  exact .inl h
 have fst:∀c x,H1.tagged g' c=some x->H1 c=some x:=λc x h=>h;have QC:∀j c x,upd (upd Hf 0 (H1.tagged g')) b (((Hf b).join Hm).tagged gb) j c=some x->c≠T.ch:=by
  rintro j c x h rfl;rcases src _ _ _ h with h | ⟨_,h⟩
  ·rw[iV]at h;simp at h
  have:=lm _ _ h;rw[iV]at this;simp at this
 have tA:∀c,c≠T.ch->w'.heap[c]? = w.heap[c]?:=λc h=>by rw[hw,qAa (qAi h)]
 have oV:∀j d,gH T fF j d->gH T gs j d:=by
  rintro j d ⟨x,c,sh,hx,ho⟩;by_cases h1:j=0
  ·subst h1;rw[P8]at hx;have:=qAC Goroutine.status (dO hx);simp[parked]at this
  by_cases h2:j=b
  ·subst h2;rw[Ij]at hx;have:=qAC Goroutine.status (dO hx);simp[parked]at this
  exact⟨x,c,sh,by rw[<-uT j h1 h2];exact hx,ho⟩
 have vT:∀j,j≠0->∀c x y,Hf 0 c=some x->Hf j c=some y->x=y/\x.2=false:=λj hj c x y h1 h2=>C.dis 0 j (qAi hj) c x y h1 h2;refine⟨by rw[fP,kA];exact C.size,by rw[fP];exact hp,by rw[fP];have:=C.bound;omega,IT,?_,?_,?_,?_,?_,?_,λsaid=>Go.Conc.noRace_appendMute (C.clean said) CX,?_,?_,?_,?_,C.out.trans uQ,?_,?_,?_,?_,λj k h1 h2=>C.one j k (oV _ _ h1) (oV _ _ h2)⟩
 ·intro c o pm h;by_cases e:c=T.ch
  ·subst e;rw[Hp.aF]at h;simp only[iF,qAG]at h;rw[hw,qAn I4,h.1]
  rw[Hp.aE _ _ e]at h;rw[tA c e];exact C.leS c o pm h
 ·intro j c o pm h;rw[tA c (QC _ _ _ h)];rcases src _ _ _ h with h | ⟨_,h⟩
  ·exact C.le j c o pm h
  exact C.le 0 c o pm (lm _ _ h)
 ·
  have key:∀j c x,upd (upd Hf 0 (H1.tagged g')) b (((Hf b).join Hm).tagged gb) j c=some x->(j≠0/\Hf j c=some x)\/(j=0/\H1 c=some x)\/(j=b/\Hm c=some x):=by
   intro j c x h;by_cases e:j=0
   ·subst e;rw[rN,bY (qAi gF),iO rfl]at h;exact .inr (.inl ⟨rfl,h⟩)
   exact(src _ _ _ h).imp (λh=>⟨e,h⟩) .inr
  intro j j' dG c x y hx hy
  rcases key _ _ _ hx with⟨n1,a1⟩ | ⟨rfl,a1⟩ | ⟨rfl,a1⟩<;>rcases key _ _ _ hy with⟨n2,a2⟩ | ⟨rfl,a2⟩ | ⟨rfl,a2⟩
  ·exact C.dis j j' dG c x y a1 a2
  ·obtain⟨e1,e2⟩:=vT j n1 c y x (l1 _ _ a2) a1;exact⟨e1.symm,by rw[<-e1];exact e2⟩
  ·obtain⟨e1,e2⟩:=vT j n1 c y x (lm _ _ a2) a1;exact⟨e1.symm,by rw[<-e1];exact e2⟩
  ·exact vT j' n2 c x y (l1 _ _ a1) a2
  ·exact absurd rfl dG
  ·exact hc.mem c x y a1 a2
  ·exact vT j' n2 c x y (lm _ _ a1) a2
  ·exact hc.symm.mem c x y a1 a2
  ·exact absurd rfl dG
 ·intro j c x y hx hy;rw[Hp.aE _ _ (QC _ _ _ hx)]at hy;rcases src _ _ _ hx with h | ⟨_,h⟩
  ·exact C.disS j c x y h hy
  exact C.disS 0 c x y (lm _ _ h) hy
 ·intro j c o pm h;rcases src _ _ _ h with h' | ⟨rfl,h'⟩
  ·exact(C.perm j).lQ CX c o pm h'
  intro q a hq hl hwr;obtain⟨x,hx,gC⟩:=Go.Conc.touch_of hq;rcases Go.Conc.getElem?_append_cases hx with⟨_,eP⟩ | ⟨_,xS⟩
  ·exact hk q (C.perm 0 c o pm (lm _ _ h') q a (by rw[Go.Conc.touchAt_of eP];exact gC) hl hwr)
  rw[CX x xS]at gC;simp at gC
 ·intro j hj;rw[fP]at hj;rw[aG,rN];by_cases h1:j=0
  ·subst h1;rw[iO rfl,bY (qAi gF),iO rfl];rfl
  rw[bY h1];by_cases h2:j=b
  ·rw[iO h2,iO h2];rfl
  rw[bY h2,bY h2,bY h1];exact C.tag j hj
 ·have hs:w'.heap.size=w.heap.size:=by rw[hw];simp
  exact Go.Conc.seen_app (λop bH=>by rw[hs];exact C.low op bH) λop bH=>by rw[hs];exact Fw op bH
 ·intro j hj;rw[fP]at hj;obtain⟨u⟩:=u;rw[Lj u t λop bH=>by rcases FY op (by simpa using bH)with h | h<;>omega];exact C.above j hj
 ·intro j hj c;rw[fP]at hj;rw[rN,bY O,bY O];exact C.over j hj c
 ·intro j hj;rw[fP]at hj;rw[rN,rN,rN];by_cases h2:j=b
  ·rw[iO h2,iO h2,iO h2];subst h2;exact⟨gF,B7,CE,.inl Ij,rb,ab⟩
  rw[bY h2,bY h2,bY h2];by_cases h1:j=0
  ·rw[iO h1,iO h1,iO h1];subst h1;exact⟨rfl,B8,EX,.inl P8,r0,a0⟩
  rw[bY h1,bY h1,bY h1];have aw:∀fr cs,oM T s gs j fr cs->oM T s' fF j fr cs:=by intro fr cs h;unfold oM Pk at h ⊢;rw[uT j h1 h2];refine h.imp id (qCJ (λh=>⟨h.1,Iz j h.2⟩) ?_);rintro⟨d,c,sh,ho,hs,h⟩;refine⟨d,c,sh,ho,hs,h.imp (λ⟨a1,a2,a3⟩=>⟨a1,bU.trans a2,?_⟩) id⟩;rw[aG,bY h1,bY h2];exact a3
  have h:=C.st j hj;revert h;generalize md j=m;generalize rk j=r;intro h;match m,h with
  | 3,⟨h0,fr,cs,h3,h4⟩=>exact⟨h0,fr,cs,aw _ _ h3,h4⟩
  | 2,⟨h0,fr,cs,h3,h4⟩=>exact⟨h0,fr,cs,aw _ _ h3,h4⟩
  | 1,⟨h0,fr,cs,h3,h4⟩=>exact⟨h0,fr,cs,aw _ _ h3,h4⟩
  | 0,⟨Jm,kM,C7,x,q,h3,h4,h5⟩=>
   refine⟨Jm,kM,C7,x,q,by rw[uT j h1 h2];exact h3,?_,h5⟩;obtain⟨u⟩:=u;rw[Lj u t λop bH=>by rcases FY op (by simpa using bH)with h | h<;>omega];exact h4
 ·rw[hw];simpa using C.grown
 ·intro c lG Wb;have WI:c≠T.ch:=by
   rintro rfl;rcases C.orgS _ _ hn with h | ⟨z,hz,he⟩
   ·omega
   rcases hz with hz | hz
   ·obtain⟨zo,zp⟩:=z;cases zp with
    | true=>exact Wb zo hz
    | false=>have:=he rfl;simp at this
   simp[Hp.nil]at hz
  rw[tA c WI];exact C.keep c lG Wb
 ·intro j c x h;rcases src _ _ _ h with h | ⟨_,h⟩
  ·exact C.org j c x h
  exact C.org 0 c x (lm _ _ h)
 intro c x h;by_cases e:c=T.ch
 ·subst e;rcases C.orgS _ _ hn with h' | ⟨z,hz,he⟩
  ·exact .inl h'
  refine .inr ⟨z,hz,λhf=>?_⟩;have:=he hf;rw[<-this]at hf;simp at hf
 rw[Hp.aE _ _ e]at h;exact C.orgS c x h
end
