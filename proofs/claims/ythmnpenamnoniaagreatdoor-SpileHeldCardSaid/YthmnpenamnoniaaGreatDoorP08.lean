import Derived.Test.YthmnpenamnoniaaGreatDoorP07
set_option linter.all false
namespace Go.LL
section
variable{P:aY}{G:Frame->List Frame->Hp->Prop}{fr:Frame}{cs:List Frame}{H:Hp}{gs:Array Goroutine}{j i m:Nat}{g g':Goroutine}{w':World}{t u:Trace}{k:Rk}
open Go.Conc (Knows Deaf touchAt QuitsD crowd woken)
open Go.ConcN (sumTo upd sumTo_upd upd_ne upd_same)
def lH(P:aY)(G:Frame->List Frame->Hp->Prop)(R:Nd->Prop)(x:Nd):Prop:=
 G x.1 x.2.1 x.2.2\/jA P x.1 x.2.1 x.2.2 (λa b c=>R (a,b,c))\/P.sh (λa b c=>R (a,b,c)) x.1 x.2.1 x.2.2
theorem lH.mono:∀{R c:Nd->Prop},(∀x,R x->c x)->∀x,lH P G R x->lH P G c x:=
 λe _ h=>h.imp id (Or.imp (λh=>h.mono λ_ _ _ h=>e _ h) (λh=>P.shMono (λ_ _ _ h=>e _ h) h))
def Reach.zB(h:Reach P G fr cs H):∃k,eX (lH P G) k (fr,cs,H):=
 ZqL lH.mono λR e=>h (λa b c=>R (a,b,c)) (λ_ _ _ f=>e _ (.inl f)) (λ_ _ _ l=>e _ (.inr (.inl l))) (λ_ _ _ o=>e _ (.inr (.inr o)))
section
variable{p:Program}(T:UG p)
def lJ(s:T.S)(gs:Array Goroutine)(j:Nat)(fr:Frame)(cs:List Frame):Prop:=gs[j]? = some (bO fr cs)\/(gs[j]? = some (dY fr cs)/\T.Blk s j)
def vT(G:Frame->List Frame->Hp->Prop)(gs:Array Goroutine)(t:Trace)(s:T.S)(j:Nat)(H:Hp):Nat->Rk->Prop
 | 3,k=>j=0/\∃fr cs,lJ T s gs j fr cs/\eX (lH T.prgM G) k (fr,cs,H)/\T.act H.gh
 | 2,k=>j≠0/\∃fr cs,lJ T s gs j fr cs/\eX (lH (T.prgW j) UV) k (fr,cs,H)/\T.act H.gh
 | 1,k=>j≠0/\∃fr cs,lJ T s gs j fr cs/\(∃c:Hp,c.gh=H.gh/\eX (lH (T.prgW j) UV) k (fr,cs,c))/\T.hsh H.gh/\m7 H
 | 0,k=>j≠0/\H.gh=T.left/\m7 H/\∃g q,gs[j]? = some g/\QuitsD p q (Deaf t j) g/\k=.ofNat q
 | _,_=>False
structure Vi(G:Frame->List Frame->Hp->Prop)(n:Nat)(H0:Hp)(w0:World)(gs:Array Goroutine)(w:World)(t:Trace)(s:T.S)(Hs:Hp)(Hf:Nat->Hp)(md:Nat->Nat)(rk:Nat->Rk):Prop where
 size:gs.size=T.next s
 pos:0<gs.size
 bound:gs.size+T.more s<=n
 inv:T.Inv s Hs t
 leS:Hs.le w
 le:∀j,(Hf j).le w
 dis:∀j k,j≠k->(Hf j).Dis (Hf k)
 disS:∀j,(Hf j).Dis Hs
 perm:∀j,dG t j (Hf j)
 tag:∀j,j<gs.size->T.tag s j=(Hf j).gh
 clean:∀said,¬ Race said t
 low:∀op∈t,op.act.low w.heap.size
 above:∀j,gs.size<=j->Deaf t j=0
 over:∀j,gs.size<=j->m7 (Hf j)
 st:∀j,j<gs.size->vT T G gs t s j (Hf j) (md j) (rk j)
 out:nZ w0 w
 grown:w0.heap.size<=w.heap.size
 keep:∀b,b<w0.heap.size->(∀o,H0 b≠some (o,true))->w.heap[b]? = w0.heap[b]?
 org:∀j,eP H0 .nil w0 (Hf j)
 orgS:eP H0 .nil w0 Hs
variable{T}
theorem lJ.eT{s f:T.S}(c:j≠i)(hb:(mayWake p g && g'.status != .blocked && g'.status != .waiting)=true\/∀j,T.Blk s j->T.Blk f j)
  (h:lJ T s gs j fr cs):lJ T f ((gs.map (woken p g g' w')).setIfInBounds i g') j fr cs:=by
 unfold lJ at h ⊢;rw[qAT (qAm c),qCc];rcases h with h | ⟨h,l⟩
 ·rw[h];exact .inl (by simp[Go.Conc.woken_run (show(bO fr cs).status=.running from rfl)])
 rw[h];by_cases e:(mayWake p g && g'.status != .blocked && g'.status != .waiting)=true
 ·refine .inl ?_;simp only[qBl,woken,e,qAH];rfl
 refine .inr ⟨?_,hb.resolve_left e j l⟩;simp only[qBl,woken,e];rfl
def vT.eT{s r:T.S}(c:j≠i)
  (hb:(mayWake p g && g'.status != .blocked && g'.status != .waiting)=true\/∀j,T.Blk s j->T.Blk r j) (z:∀op∈u,op.g=i)
  (h:vT T G gs t s j H m k):vT T G ((gs.map (woken p g g' w')).setIfInBounds i g') (t++u) r j H m k:=by
 match m,h with
 | 3,⟨e,fr,cs,f,l⟩=>exact⟨e,fr,cs,f.eT c hb,l⟩
 | 2,⟨e,fr,cs,f,l⟩=>exact⟨e,fr,cs,f.eT c hb,l⟩
 | 1,⟨e,fr,cs,f,l⟩=>exact⟨e,fr,cs,f.eT c hb,l⟩
 | 0,⟨e,f,l,x,q,v,o,y⟩=>
  refine⟨e,f,l,x,q,?_,?_,y⟩
  ·rw[qAT (qAm c),qCc,v];simp[Go.Conc.woken_quitsD o]
  rw[Go.Conc.Deaf_other t (qAm c) u z];exact o
theorem UL{α:Type}(f:Nat->α)(i:Nat)(x:α)(j:Nat):upd f i x j=if j=i then x else f j:=rfl
theorem Vi.go{n:Nat}{H0:Hp}{w0:World}{w:World}{s:T.S}{Hs:Hp}{Hf:Nat->Hp}{md:Nat->Nat}{rk:Nat->Rk}
  (C:Vi T G n H0 w0 gs w t s Hs Hf md rk) (hi:i<gs.size) {D:T.S} {fK E:Hp} (Y:∀op∈u,op.g=i)
  (l:dT T i s Hs t w (Hf i) u D fK w') (I:VI i Hs w (Hf i) (t++u) fK w' E) (J:∀j,T.tag D j=if j=i then E.gh else T.tag s j) (A:T.next D=T.next s) (R:T.more D<=T.more s)
  (hb:(mayWake p g && g'.status != .blocked && g'.status != .waiting)=true\/∀j,T.Blk s j->T.Blk D j)
  (X:vT T G ((gs.map (woken p g g' w')).setIfInBounds i g') (t++u) D i E m k) :
  Vi T G n H0 w0 ((gs.map (woken p g g' w')).setIfInBounds i g') w' (t++u) D fK (upd Hf i E) (upd md i m) (upd rk i k):=by
 have e:((gs.map (woken p g g' w')).setIfInBounds i g').size=gs.size:=by simp
 have dj:∀j,j≠i->E.Dis (Hf j):=λj c=>I.aB.dis (C.le j) (C.dis i j (qAm c)) (C.disS j).symm;have IB:∀j,j≠i->(Hf j).le w':=λj c=>FO (C.dis i j (qAm c)) (C.disS j).symm (C.le j) l.keep;have r:∀K,eP (Hf i) Hs w K->eP H0 .nil w0 K:=by
  intro K hK b x Z;rcases hK b x Z with h | ⟨y,hy,F⟩
  ·exact .inl (qAE C.grown h)
  have:w0.heap.size<=b\/∃z,(H0 b=some z\/Hp.nil b=some z)/\(z.2=false->y=z):=hy.elim (λh=>C.org i b y h) (λh=>C.orgS b y h);refine this.imp id λ⟨z,f,zJ⟩=>⟨z,f,λQ=>?_⟩;have:=zJ Q;rw[<-this]at Q ⊢;exact F Q
 refine⟨by rw[e,A];exact C.size,by rw[e];exact C.pos,?_,l.inv,l.leS,?_,?_,?_,?_,?_,?_,?_,?_,?_,?_,C.out.trans l.out,qAE C.grown l.size,?_,?_,r _ l.from2⟩
 ·rw[e];have:=C.bound;omega
 ·intro j;rw[UL];split
  ·exact I.le
  exact IB j ‹_›
 ·intro j j' V;rw[UL,UL];split<;>split
  ·omega
  ·exact dj j' ‹_›
  ·exact(dj j ‹_›).symm
  exact C.dis j j' V
 ·intro j;rw[UL];split
  ·exact I.dis
  rename_i c;exact(l.from2.dis (C.le j) (C.dis i j (qAm c)) (C.disS j).symm).symm
 ·intro j;rw[UL];split
  ·subst j;exact I.perm
  rename_i c;intro b o pm hb q a hq hl hw;obtain⟨x,Z,L⟩:=Go.Conc.touch_of hq;rcases Go.Conc.getElem?_append_cases Z with⟨_,kN⟩ | ⟨_,qO⟩
  ·exact(C.perm j b o pm hb q a (by rw[Go.Conc.touchAt_of kN];exact L) hl hw).app u
  exfalso;rcases l.evs x qO a L b hl with⟨o',p',h1,h2⟩ | h1
  ·have:(o',p')=(o,pm)/\(o',p').2=false:=h1.elim (λh=>C.dis i j (qAm c) b _ _ h hb) (λh=>(C.disS j).symm b _ _ h hb);obtain⟨e1,N⟩:=this;simp only[qAL]at e1;obtain⟨rfl,rfl⟩:=e1;rcases hw with h | h
   ·rw[h]at N;simp at N
   rw[h2 h]at N;simp at N
  exact absurd ((C.le j).lt hb) O
 ·intro j c;rw[J,UL];split
  ·rfl
  exact C.tag j (by rw[e]at c;exact c)
 ·exact λsaid=>Go.Conc.noRace_append (C.clean said) Y λq a ha op B b hb hc=>l.norace said q a ha op B b hb hc
 ·exact Go.Conc.seen_app (λop B=>MemAct.low_mono l.size (C.low op B)) l.low
 ·intro j c;rw[e]at c;rw[Go.Conc.Deaf_other t (show i≠j by omega) u Y];exact C.above j c
 ·intro j c;rw[e]at c;rw[UL,bY O];exact C.over j c
 ·intro j c;rw[e]at c;by_cases v:j=i
  ·subst v;rw[upd_same,upd_same,upd_same];exact X
  rw[upd_ne _ _ v,upd_ne _ _ v,upd_ne _ _ v];exact(C.st j c).eT v hb Y
 ·intro b hb U;rw[l.keep b (qAG hb C.grown) ?_ ?_]
  ·exact C.keep b hb U
  ·intro o W;rcases C.org i b _ W with h | ⟨z,f,F⟩
   ·omega
   rcases f with f | f
   ·obtain⟨zo,zp⟩:=z;cases zp with
    | true=>exact U zo f
    | false=>have:=F rfl;simp at this
   simp[Hp.nil]at f
  intro o W;rcases C.orgS b _ W with h | ⟨z,f,F⟩
  ·omega
  rcases f with f | f
  ·obtain⟨zo,zp⟩:=z;cases zp with
   | true=>exact U zo f
   | false=>have:=F rfl;simp at this
  simp[Hp.nil]at f
 intro j;rw[UL];split
 ·exact r _ I.aB
 exact C.org j
end
end
section
variable{H Hs H0:Hp}{w w0:World}{n i b j:Nat}{fr:Frame}{es:Array Event}{x:Touch}{t:Trace}{G:Frame->List Frame->Hp->Prop}{gs:Array Goroutine}{Hf:Nat->Hp}{md:Nat->Nat}{rk:Nat->Rk}{cs:List Frame}{g:Goroutine}
open Go.Conc (Knows Deaf touchAt QuitsD crowd woken)
open Go.ConcN (sumTo upd sumTo_upd upd_ne upd_same)
section
variable{p:Program}{T:UG p}
def ZuF(c:∀b x,Hs b=some x->x.2=true)(B:H.Dis Hs)(D:Hs.le w)(C:∀e∈es,EvL H w n e):∀op∈Z3 i fr es,CH i Hs op:=by
 intro op l;obtain⟨e,A,rfl⟩:=Go.Conc.mem_ofEvents l;refine⟨rfl,?_⟩;have h:=C e A;have key:∀b,((∃o p,H b=some (o,p)/\(e.write=true->p=true))\/w.heap.size<=b/\b<n)->Hs b=none:=by
  rintro b (⟨o,pm,y,_⟩ | y)
  ·cases f:Hs b with
   | none=>rfl
   | some x=>
    obtain⟨z,v⟩:=B b _ _ y f;rw[z,c b x f]at v;simp at v
  cases f:Hs b with
  | none=>rfl
  | some x=>exact absurd (D.lt f) O
 obtain⟨loc,q,E⟩:=e;cases loc with
 | cell a=>
  obtain⟨rfl,h⟩:=h;exact .inl ⟨.cell a,q,rfl,λb hb=>by simp[Loc.dY]at hb;subst hb;exact key _ h⟩
 | obj r=>
  obtain⟨rfl,h⟩:=h;exact .inl ⟨.obj r,q,by cases q<;>rfl,λb hb=>by simp[Loc.dY]at hb;subst hb;exact key _ h⟩
 | mark m=>
  cases m<;>simp only[EvL]at h<;>first | exact .inr (.inl ⟨_,rfl⟩) | exact .inr (.inr rfl)
 | _=>simp only[EvL]at h
def Qh{e:Event}(f:EvL H w n e)(c:(MemAct.ofEvent e).touch? = some x)(hb:x.loc.dY=some b) :
  ((∃o p,H b=some (o,p)/\(x.write=true->p=true))\/w.heap.size<=b/\b<n):=by
 obtain⟨loc,l,q⟩:=e;cases loc with
 | cell a=>
  obtain⟨rfl,h⟩:=f;simp[MemAct.ofEvent,MemAct.touch?]at c;subst c;simp[Loc.dY]at hb;subst hb;exact h
 | obj r=>
  obtain⟨rfl,h⟩:=f;cases l<;>(simp[MemAct.ofEvent,MemAct.touch?]at c;subst c;simp[Loc.dY]at hb;subst hb;exact h)
 | mark m=>
  cases m<;>simp only[EvL]at f<;>simp[MemAct.ofEvent,MemAct.touch?]at c
 | _=>simp only[EvL]at f
def Bn{l:Loc}(h:l.isMemory):∃b,l.dY=some b:=by cases l<;>simp[Loc.isMemory,Loc.dY]at *
def yC{op:MemOp}(c:op.act.touch? = some x)(hb:x.loc.dY=some b)(h:op.act.low n):b<n:=by
 obtain⟨g,fn,pos,act⟩:=op;cases act with
 | access e=>
  simp[MemAct.touch?]at c;subst c;obtain⟨loc,l,f⟩:=e;cases loc<;>simp[Loc.dY]at hb<;>subst hb<;>exact h
 | mark m=>cases m<;>simp[MemAct.touch?]at c<;>subst c<;>simp[Loc.dY]at hb<;>subst hb<;>exact h
 | _=>simp[MemAct.touch?]at c
theorem Az{s:T.S}{U:Hp}{w':World}(hT:T.Sound)(l:bZ T i H s Hs t w)(C:T.act H.gh\/es=#[])(f:Fr H w U w')(F:∀e∈es,EvL H w w'.heap.size e) :
  dT T i s Hs t w H (Z3 i fr es) s Hs w'/\VI i Hs w H (t++Z3 i fr es) Hs w' U:=by
 have N:=hT.own l.inv;have A:∀op∈Z3 i fr es,∀x,op.act.touch? = some x->∀b,x.loc.dY=some b->((∃o p,H b=some (o,p)/\(x.write=true->p=true))\/w.heap.size<=b/\b<w'.heap.size):=by intro op z x v b hb;obtain⟨e,B,rfl⟩:=Go.Conc.mem_ofEvents z;exact Qh (F e B) v hb
 have D:∀b,b<w.heap.size->(∀o,H b≠some (o,true))->w'.heap[b]? = w.heap[b]?:=f.keep;have c:eP H .nil w U:=by
  intro b x v;cases hh:H b with
  | none=>exact .inl (f.new b hh (by rw[v];simp))
  | some y=>
   refine .inr ⟨y,.inl rfl,λJ=>?_⟩;obtain⟨yo,W⟩:=y;obtain rfl:W=false:=J;have:=f.ro b yo hh;rw[this]at v;exact(iN v).symm
 have I:eP H Hs w U:=λb x v=>(c b x v).imp id λ⟨y,J,F⟩=>⟨y,.inl (J.resolve_right (by simp[Hp.nil])),F⟩;have Z:Hs.le w':=by
  intro b o pm hb;rw[D b (l.leS.lt hb) λo' pM=>?_]
  ·exact l.leS b o pm hb
  simpa using(l.dis b _ _ pM hb).2
 have K:=ZuF (i:=i) (fr:=fr) N l.dis l.leS F;refine⟨⟨f.size,λb hb B _=>D b hb B,Z,λb x v=>.inr ⟨x,.inr v,λ_=>rfl⟩,⟨by rw[f.os];exact .refl _,f.tape,f.out⟩,?_,?_,?_,?_⟩,⟨f.le,?_,I,?_⟩⟩
 ·exact λop z x v b hb=>(A op z x v b hb).imp (λ⟨o,p,B,E⟩=>⟨o,p,.inl B,E⟩) And.left
 ·intro said q a V op z x v Y;obtain⟨b,hb⟩:=Bn Y.2.1;have X:x.loc.dY=some b:=by rw[<-Y.1];exact hb
  rcases A op z x v b X with⟨o,pm,B,E⟩ | ⟨B,_⟩
  ·refine l.perm b o pm B q a V hb ?_;rcases Y.2.2.1 with h | h
   ·exact .inr h
   exact .inl (E h)
  exfalso;obtain⟨y,J,Xj⟩:=Go.Conc.touch_of V;exact absurd (yC Xj hb (l.low y (Go.Conc.mem_of_getElem? J))) O
 ·intro op z;obtain⟨e,B,rfl⟩:=Go.Conc.mem_ofEvents z;have h:=F e B;obtain⟨loc,wr,sy⟩:=e;have L:∀b,((∃o p,H b=some (o,p)/\(wr=true->p=true))\/w.heap.size<=b/\b<w'.heap.size)->b<w'.heap.size:=by
   rintro b (⟨o,pm,E,_⟩ | E)
   ·exact qAG (l.le.lt E) f.size
   exact E.2
  cases loc with
  | cell a=>
   obtain⟨rfl,h⟩:=h;exact L _ h
  | obj r=>
   obtain⟨rfl,h⟩:=h;cases wr<;>exact L _ h
  | mark m=>
   cases m<;>simp only[EvL]at h<;>trivial
  | _=>simp only[EvL]at h
 ·rcases C with C | rfl
  ·exact hT.oK l.inv l.lt (by rw[l.tag];exact C) K
  have:Z3 i fr #[]=#[]:=by simp[Z3,Go.Conc.ofEvents_eq]
  rw[this,qAg];exact l.inv
 ·exact c.dis l.leS l.dis (λb x y B _=>by simp[Hp.nil]at B)
 intro b o pm hb q a V hl hw;obtain⟨x,v,R⟩:=Go.Conc.touch_of V;rcases Go.Conc.getElem?_append_cases v with⟨_,Q⟩ | ⟨_,qO⟩
 ·refine Knows.app _ ?_;have I0:touchAt t q=some a:=by rw[Go.Conc.touchAt_of Q];exact R
  rcases c b _ hb with h | ⟨⟨yo,W⟩,J,F⟩
  ·exact absurd (yC R hl (l.low x (Go.Conc.mem_of_getElem? Q))) O
  refine l.perm b yo W (J.resolve_right (by simp[Hp.nil])) q a I0 hl (hw.imp (λhp=>?_) id);cases W with
  | true=>rfl
  | false=>have:=F rfl;simp at this;rw[hp]at this;simp at this
 have:=Go.Conc.knows_own v;rwa [OU x qO]at this
def Vi.at{s:T.S}
  (C:Vi T G n H0 w0 gs w t s Hs Hf md rk) (d:Nat):Vi T G n H0 w0 gs (w.at d) t s Hs Hf md rk:=
 ⟨C.size,C.pos,C.bound,C.inv,C.leS,C.le,C.dis,C.disS,C.perm,C.tag,C.clean,C.low,C.above,C.over,C.st,⟨C.out.os,C.out.tape,C.out.out⟩,C.grown,C.keep,C.org,C.orgS⟩
def Vi.iX{s:T.S}
  (C:Vi T G n H0 w0 gs w t s Hs Hf md rk) (hi:i<gs.size):bZ T i (Hf i) s Hs t w:=
 ⟨C.inv,C.tag i hi,by rw[<-C.size];exact hi,C.le i,C.leS,C.disS i,C.perm i,C.low,λj c=>C.above j (by rw[C.size];exact c)⟩
def hY(gs:Array Goroutine)(j:Nat):Nat:=if(gs[j]?).any (·.status == .running)then 1 else 0
theorem BH{α:Type}(f:Nat->α)(i:Nat):upd f i (f i)=f:=by
 funext j;rw[UL];split
 ·subst j;rfl
 rfl
def Jt(c:i<n){k:Rk}(h:Rk.lt k (rk i)):yM n (upd rk i k) rk:=⟨i,c,by rw[upd_same];exact h,λj e=>upd_ne _ _ e⟩
theorem Rc(c:i<n){m:Nat}(h:m<md i):sumTo n (upd md i m)<sumTo n md:=by have:sumTo n (upd md i m)+md i=sumTo n md+m:=sumTo_upd md m id c;omega
theorem lJ.status{s:T.S}(h:lJ T s gs j fr cs)(c:gs[j]? = some g):g.status=.running\/g.status=.blocked:=by
 rcases h with h | ⟨h,_⟩<;>(rw[c]at h;obtain rfl:=iN h)
 ·exact .inl rfl
 exact .inr rfl
def lJ.hY{s:T.S}(h:lJ T s gs j fr cs)(c:gs[j]? = some g)(e:g.status=.running):g=bO fr cs:=by
 rcases h with h | ⟨h,_⟩<;>(rw[c]at h;obtain rfl:=iN h)
 ·rfl
 simp at e
def Vi.stuck{s:T.S}
  (o:T.Sound) (C:Vi T G n H0 w0 gs w t s Hs Hf md rk):∃(i:Nat) (g:Goroutine),gs[i]? = some g/\g.status=.running:=by
 refine IF λf=>?_;refine o.live C.inv λj q r=>?_;have c:j<gs.size:=by rw[C.size];exact q
 have e:∀fr cs,lJ T s gs j fr cs->T.Blk s j:=by
  rintro fr cs (h | ⟨_,h⟩)
  ·exact absurd ⟨j,_,h,rfl⟩ f
  exact h
 have h:=C.st j c;revert h;generalize md j=m;generalize rk j=k;intro h;match m,h with
 | 3,⟨_,fr,cs,h,_⟩=>exact e fr cs h
 | 2,⟨_,fr,cs,h,_⟩=>exact e fr cs h
 | 1,⟨_,fr,cs,h,_⟩=>exact e fr cs h
 | 0,⟨_,h,_⟩=>exact absurd ((C.tag j c).trans h) r
theorem Vi.awake{s:T.S}
  (C:Vi T G n H0 w0 gs w t s Hs Hf md rk):∀g∈gs,Go.Conc.awake g:=by
 intro g f;obtain⟨j,e,rfl⟩:=qCf.1 f;have c:gs[j]? = some gs[j]:=qAO e;have h:=C.st j e;revert h;generalize md j=m;generalize rk j=k;intro h;refine Go.Conc.awake_of ?_;match m,h with
 | 3,⟨_,fr,cs,h,_⟩=>exact(h.status c).imp id .inl
 | 2,⟨_,fr,cs,h,_⟩=>exact(h.status c).imp id .inl
 | 1,⟨_,fr,cs,h,_⟩=>exact(h.status c).imp id .inl
 | 0,⟨_,_,_,g,q,h,l,_⟩=>
  rw[c]at h;obtain rfl:=iN h;exact l.status.imp id .inr
end
end
section
variable{i a a' d:Nat}{H fK:Hp}{w':World}{fr dN:Frame}{cs dH:List Frame}{M:Ms}{sl kS:Option (Nat×Nat)}
open Go.Conc (Knows Deaf touchAt QuitsD crowd woken)
open Go.ConcN (sumTo upd sumTo_upd upd_ne upd_same)
section
variable{p:Program}{T:UG p}{G:Frame->List Frame->Hp->Prop}{n:Nat}{H0:Hp}{w0:World}{gs:Array Goroutine}{w:World}{t:Trace}{s:T.S}{Hs:Hp}{Hf:Nat->Hp}{md:Nat->Nat}{rk:Nat->Rk}
def OG(T:UG p)(G:Frame->List Frame->Hp->Prop)(n:Nat)(H0:Hp)(w0:World)(m:Machine)(t:Trace):Prop:=
 ∃k c w' kS l o fK e f h,runNT p k m t=(.next (crowd c w' kS),l)/\Vi T G n H0 w0 c w' l o fK e f h/\∃fr cs,c[0]? = some (bO fr cs)/\G fr cs (e 0)
def OG.step{m o:Machine}{t u:Trace}(h:stepT p m=(.next o,u))(v:OG T G n H0 w0 o (t++u)):OG T G n H0 w0 m t:=by obtain⟨k,e,w',kS,z,y,fK,c,f,l,q,r⟩:=v;exact⟨k+1,e,w',kS,z,y,fK,c,f,l,by simp only[runNT,h];exact q,r⟩
def dT.still(c:bZ T i H s Hs t w):dT T i s Hs t w H #[] s Hs w:=
 ⟨AT _,λ_ _ _ _=>rfl,c.leS,λb x e=>.inr ⟨x,.inr e,λ_=>rfl⟩,.refl w,by simp,by simp,by simp,by simpa using c.inv⟩
def VI.still(c:bZ T i H s Hs t w):VI i Hs w H (t++#[]) Hs w H:=
 ⟨c.le,c.dis,λb x e=>.inr ⟨x,.inl e,λ_=>rfl⟩,by simpa using c.perm⟩
def VI.aN{c:Trace}(g:List Nat):VI i Hs w H c fK w' (.aN g):=
 ⟨λb o p h=>by simp[Hp.aN]at h,λb x y h=>by simp[Hp.aN]at h,λb x h=>by simp[Hp.aN]at h,λb o p h=>by simp[Hp.aN]at h⟩
def iK(s:T.S)(gs:Array Goroutine)(md:Nat->Nat)(rk:Nat->Rk):Ms:=(T.more s,sumTo gs.size md,rk,sumTo gs.size (hY gs))
def Zua(h:a'<a)(x c:Nat×(Nat->Rk)×Nat):nK n (a',c) (a,x):=.left _ _ h
def LM{b e:Nat}{r l:Nat->Rk}{c o:Nat}(v:a'<=a)(h:e<b\/(e=b/\(yM n l r\/l=r/\o<c))):nK n (a',e,l,o) (a,b,r,c):=by
 rcases qAM a' a with f | q
 ·exact .left _ _ f
 obtain rfl:a'=a:=O;refine .right _ ?_;rcases h with h | ⟨rfl,h⟩
 ·exact .left _ _ h
 refine .right _ ?_;rcases h with h | ⟨rfl,h⟩
 ·exact .left _ _ h
 exact .right _ h
theorem Zo4{c:T.S}(h:mayWake p (bO fr cs)=true\/∀j,T.Blk s j->T.Blk c j) :
  (mayWake p (bO fr cs) && (bO dN dH).status != .blocked && (bO dN dH).status != .waiting)=true\/∀j,T.Blk s j->T.Blk c j:=h.imp (λh=>by rw[h];rfl) id
def NR(i:Nat)(fr:Frame):Z3 i fr #[]=#[]:=by simp[Z3,Go.Conc.ofEvents_eq]
def K9(c:i<gs.size)(f:Goroutine->Goroutine)(g:Goroutine):((gs.map f).setIfInBounds i g)[i]? = some g:=by simp[c]
def OW(ih:∀I,nK n I M->∀gs w sl t s Hs Hf md rk,iK (T:=T) s gs md rk=I->Vi T G n H0 w0 gs w t s Hs Hf md rk->OG T G n H0 w0 (crowd gs w sl) t)
  (K:iK s gs md rk=M) (C:Vi T G n H0 w0 gs w t s Hs Hf md rk) (z:i<gs.size) {es:Array Event} {o:T.S} {A:Hp} {m:Nat} {k:Rk}
  (L:gs[i]? = some (bO fr cs)) (E:stepT p (crowd gs w sl)=runT p (crowd gs (w.at d) kS) i) (l:stepG p (i == 0) (bO fr cs) (w.at d)=.go (bO dN dH) w' es)
  (N:dT T i s Hs t (w.at d) (Hf i) (Z3 i fr es) o fK w') (B:VI i Hs (w.at d) (Hf i) (t++Z3 i fr es) fK w' A) (y:∀j,T.tag o j=if j=i then A.gh else T.tag s j) (f:T.next o=T.next s) (c:T.more o<=T.more s)
  (hb:mayWake p (bO fr cs)=true\/∀j,T.Blk s j->T.Blk o j)
  (v:∀q:Array Goroutine,q[i]? = some (bO dN dH)->vT T G q (t++Z3 i fr es) o i A m k) (e:m<md i\/m=md i/\Rk.lt k (rk i)):OG T G n H0 w0 (crowd gs w sl) t:=by
 have r:=Go.Conc.runT_crowd_go (P:=p) (sl:=kS) L l;refine OG.step (E.trans r) ?_;have J:=(C.at d).go z (g:=bO fr cs) (g':=bO dN dH) (λop D=>OU op D) N B y f c (Zo4 hb) (v _ (K9 z _ _));refine ih _ ?_ _ _ _ _ _ _ _ _ _ rfl J;rw[<-K];unfold iK;have F:((gs.map (woken p (bO fr cs) (bO dN dH) w')).setIfInBounds i (bO dN dH)).size=gs.size:=by simp
 rw[F];refine LM c ?_;rcases e with h | ⟨rfl,h⟩
 ·exact .inl (Rc z h)
 exact .inr ⟨by rw[BH],.inl (Jt (qAG z (by have:=C.bound;omega)) h)⟩
theorem PR(ih:∀B,nK n B M->∀gs w sl t s Hs Hf md rk,iK (T:=T) s gs md rk=B->Vi T G n H0 w0 gs w t s Hs Hf md rk->OG T G n H0 w0 (crowd gs w sl) t)
  (K:iK s gs md rk=M) (C:Vi T G n H0 w0 gs w t s Hs Hf md rk) (e:i<gs.size) 
  (F:gs[i]? = some (bO fr cs)) (y:stepT p (crowd gs w sl)=runT p (crowd gs (w.at d) kS) i) (q:EI T i fr cs s (w.at d))
  (l:∀f:Array Goroutine,f[i]? = some (dY fr cs)->vT T G f t s i (Hf i) (md i) (rk i)):OG T G n H0 w0 (crowd gs w sl) t:=by
 obtain⟨J,L⟩:=q;have c:=Go.Conc.runT_crowd_go (P:=p) (sl:=kS) F J;have I:MemOp.ofEvents i (bO fr cs).frame.fn (bO fr cs).frame.place #[]=#[]:=NR i fr;rw[I]at c;refine OG.step (y.trans c) ?_;have E:=(C.at d).iX e;have D:=(C.at d).go e (g:=bO fr cs) (g':=(dY fr cs)) (u:=#[]) (by simp) (dT.still E) (VI.still E) (λj=>by split;subst j;exact C.tag _ e;rfl) rfl (AT _) (.inr λ_ h=>h)
  (m:=md i) (k:=rk i) (by have:=l _ (K9 e (woken p (bO fr cs) (dY fr cs) (w.at d)) (dY fr cs));simpa using this)
 rw[BH,BH,BH]at D;refine ih _ ?_ _ _ _ _ _ _ _ _ _ rfl D;rw[<-K];unfold iK;have z:((gs.map (woken p (bO fr cs) (dY fr cs) (w.at d))).setIfInBounds i (dY fr cs)).size=gs.size:=by simp
 rw[z];refine LM (AT _) (.inr ⟨rfl,.inr ⟨rfl,?_⟩⟩);have A:∀o,woken p (bO fr cs) (dY fr cs) (w.at d) o=o:=by intro o;simp[woken]
 have r:gs.map (woken p (bO fr cs) (dY fr cs) (w.at d))=gs:=by have:woken p (bO fr cs) (dY fr cs) (w.at d)=id:=funext A;rw[this,Array.map_id]
 rw[r];have:hY (gs.setIfInBounds i (dY fr cs))=upd (hY gs) i 0:=by
  funext j;rw[UL];unfold hY;by_cases v:j=i
  ·subst v;simp[e]
  rw[bY v,qAT (qAm v)]
 rw[this];exact Rc e (by simp[hY,F])
end
end
section
variable{i:Nat}{fr kI:Frame}{es:Array Event}{op:MemOp}
open Go.Conc (Knows Deaf touchAt QuitsD crowd woken)
open Go.ConcN (sumTo upd sumTo_upd upd_ne upd_same)
section
variable{p:Program}{T:UG p}{G:Frame->List Frame->Hp->Prop}{n:Nat}{H0:Hp}{w0:World}{gs:Array Goroutine}{w:World}{t:Trace}{s:T.S}{Hs:Hp}{Hf:Nat->Hp}{md:Nat->Nat}{rk:Nat->Rk}
def Bx(h:∀e∈es,Event.mute e=true):∀op∈Z3 i fr es,wK i op:=by
 intro op c;obtain⟨⟨loc,o,l⟩,f,rfl⟩:=Go.Conc.mem_ofEvents c;have:=h _ f;refine⟨rfl,?_⟩;cases loc with
 | mark m=>cases m<;>first | exact .inl rfl | exact .inr rfl | simp[Event.mute]at this
 | _=>simp[Event.mute]at this
theorem wK.oC(h:wK i op):op.act.touch? = none:=by rcases h.2 with h | h<;>rw[h]<;>rfl
def wK.low{n:Nat}(h:wK i op):op.act.low n:=by rcases h.2 with h | h<;>rw[h]<;>trivial
def Ztv(V:T.Sound){M:Ms}(ih:∀N,nK n N M->∀gs w sl t s Hs Hf md rk,iK (T:=T) s gs md rk=N->Vi T G n H0 w0 gs w t s Hs Hf md rk->OG T G n H0 w0 (crowd gs w sl) t)
  (U:iK s gs md rk=M) (C:Vi T G n H0 w0 gs w t s Hs Hf md rk) (o:i<gs.size) {sl kS:Option (Nat×Nat)} {d:Nat} {g:Goroutine} {q:Nat} (r:i≠0) (D:md i=0) (O:(Hf i).gh=T.left) (Z:m7 (Hf i))
  (X:gs[i]? = some g) (z:g.status=.running) (K:stepT p (crowd gs w sl)=runT p (crowd gs (w.at d) kS) i) (Q:QuitsD p q (Deaf t i) g) (J:rk i=.ofNat q):OG T G n H0 w0 (crowd gs w sl) t:=by
 cases q with
 | zero=>rw[Q.1]at z;simp at z
 | succ k=>
  rcases Q with⟨W,_⟩ | ⟨_,g',es,F,y,I⟩
  ·rw[W]at z;simp at z
  have A:(i == 0)=false:=by simp[r]
  have v:=Go.Conc.runT_crowd_go (P:=p) (sl:=kS) X (by rw[A];exact y (w.at d));refine OG.step (K.trans v) ?_;have l:=(C.at d).iX o;have e:=Bx (i:=i) (fr:=g.frame) F;have Y:dT T i s Hs t (w.at d) (Hf i) (Z3 i g.frame es) s Hs (w.at d):=
   ⟨AT _,λ_ _ _ _=>rfl,l.leS,λb x f=>.inr ⟨x,.inr f,λ_=>rfl⟩,.refl _,λop c x f=>by rw[(e op c).oC]at f;simp at f,
    λ_ _ _ _ op c x f=>by rw[(e op c).oC]at f;simp at f,λop c=>(e op c).low,V.mute l.inv l.lt (l.tag.trans O) e⟩
  have B:VI i Hs (w.at d) (Hf i) (t++Z3 i g.frame es) Hs (w.at d) (Hf i):=
   ⟨l.le,l.dis,λb x f=>.inr ⟨x,.inl f,λ_=>rfl⟩,l.perm.own λop c=>.inl (OU op c)⟩
  have R:=(C.at d).go o (g:=g) (g':=g') (λop c=>OU op c) Y B (λj=>by split;subst j;exact C.tag _ o;rfl) rfl (AT _) (.inr λ_ h=>h) (m:=0) (k:=.ofNat k)
   ⟨r,O,Z,g',k,K9 o _ _,by rw[Go.Conc.Deaf_own];exact I,rfl⟩
  refine ih _ ?_ _ _ _ _ _ _ _ _ _ rfl R;rw[<-U];unfold iK;have L:((gs.map (woken p g g' (w.at d))).setIfInBounds i g').size=gs.size:=by simp
  rw[L];have E:upd md i 0=md:=by rw[<-D,BH]
  refine LM (AT _) (.inr ⟨by rw[E],.inl (Jt (qAG o (by have:=C.bound;omega)) ?_)⟩);rw[J];exact Rk.ofNat_lt k
def ME{k:Nat}:Vd i k fr kI es=((Z3 i fr es)++#[({ g:=i,fn:=fr.fn,pos:=fr.place,act:=.go k }:MemOp)])++#[({ g:=k,fn:=kI.fn,pos:=fr.place,act:=.start }:MemOp)]:=by simp[Vd]
theorem Vi.spawn(C:Vi T G n H0 w0 gs w t s Hs Hf md rk){dN:Frame}{dH:List Frame}{w':World}{L N:Hp}{Z:T.S}{fK:Hp}{k kc:Rk}
  (E:dT T 0 s Hs t w (Hf 0) (Vd 0 (T.next s) fr kI es) Z fK w') (hg:VI 0 Hs w (Hf 0) (t++Vd 0 (T.next s) fr kI es) fK w' L) (I:VI (T.next s) Hs w (Hf 0) (t++Vd 0 (T.next s) fr kI es) fK w' N) (hd:L.Dis N)
  (IS:∀j,T.tag Z j=if j=0 then L.gh else if j=T.next s then N.gh else T.tag s j) (Y:T.next Z=T.next s+1) (z3:T.more Z<T.more s) (hb:∀j,j<T.next s->T.Blk s j->T.Blk Z j)
  (JQ:T.act L.gh) (Xy:eX (lH T.prgM G) k (dN,dH,L)) (W:T.act N.gh) (IY:eX (lH (T.prgW (T.next s)) UV) kc (kI,[],N)) :
  Vi T G n H0 w0 ((gs.setIfInBounds 0 (bO dN dH)).push (bO kI [])) w' (t++Vd 0 (T.next s) fr kI es) Z fK (upd (upd Hf 0 L) (T.next s) N) (upd (upd md 0 3) (T.next s) 2) (upd (upd rk 0 k) (T.next s) kc):=by
 have hp:=C.pos;have hnz:T.next s≠0:=by rw[<-C.size];omega
 have B:((gs.setIfInBounds 0 (bO dN dH)).push (bO kI [])).size=gs.size+1:=by simp
 have hK:∀K,eP (Hf 0) Hs w K->eP H0 .nil w0 K:=by
  intro K hK b x hx;rcases hK b x hx with h | ⟨y,hy,he⟩
  ·exact .inl (qAE C.grown h)
  have:w0.heap.size<=b\/∃z,(H0 b=some z\/Hp.nil b=some z)/\(z.2=false->y=z):=hy.elim (λh=>C.org 0 b y h) (λh=>C.orgS b y h);refine this.imp id λ⟨z,D,zJ⟩=>⟨z,D,λhf=>?_⟩;have:=zJ hf;rw[<-this]at hf ⊢;exact he hf
 have IB:∀j,j≠0->(Hf j).le w':=λj v=>FO (C.dis 0 j (qAm v)) (C.disS j).symm (C.le j) E.keep;have dj:∀j,j≠0->L.Dis (Hf j):=λj v=>hg.aB.dis (C.le j) (C.dis 0 j (qAm v)) (C.disS j).symm;have dc:∀j,j≠0->N.Dis (Hf j):=λj v=>I.aB.dis (C.le j) (C.dis 0 j (qAm v)) (C.disS j).symm;have F:∀j,j≠0->j≠T.next s->Deaf (t++Vd 0 (T.next s) fr kI es) j=Deaf t j:=by
  intro j e hk;rw[ME,<-qCV,Go.Conc.Deaf_other _ (g':=T.next s) (qAm hk) _ (by simp)];refine Go.Conc.Deaf_other _ (g':=0) (qAm e) _ ?_;intro op l;rcases qAC.1 l with h | h
  ·exact OU op h
  simp at h;subst h;rfl
 have R:∀j,upd (upd Hf 0 L) (T.next s) N j=if j=T.next s then N else if j=0 then L else Hf j:=λj=>rfl
 refine⟨by rw[B,Y,C.size],by rw[B];omega,?_,E.inv,E.leS,?_,?_,?_,?_,?_,?_,?_,?_,?_,?_,C.out.trans E.out,qAE C.grown E.size,?_,?_,hK _ E.from2⟩
 ·rw[B];have:=C.bound;omega
 ·intro j;rw[R];split
  ·exact I.le
  split
  ·exact hg.le
  exact IB j ‹_›
 ·intro j j' k9;rw[R,R];by_cases c:j=T.next s
  ·rw[BY c,bY O];by_cases A:j'=0
   ·rw[BY A];exact hd.symm
   rw[bY A];exact dc j' A
  rw[bY c];by_cases A:j'=T.next s
  ·rw[BY A];by_cases Q:j=0
   ·rw[BY Q];exact hd
   rw[bY Q];exact(dc j Q).symm
  rw[bY A];by_cases Q:j=0
  ·rw[BY Q,bY O];exact dj j' O
  rw[bY Q];by_cases h4:j'=0
  ·rw[BY h4];exact(dj j Q).symm
  rw[bY h4];exact C.dis j j' k9
 ·intro j;rw[R];split
  ·exact I.dis
  split
  ·exact hg.dis
  rename_i v;exact(E.from2.dis (C.le j) (C.dis 0 j (qAm v)) (C.disS j).symm).symm
 ·intro j;rw[R];split
  ·subst j;exact I.perm
  split
  ·subst j;exact hg.perm
  rename_i v;intro b o pm hb q a hq hl hw;obtain⟨x,hx,lS⟩:=Go.Conc.touch_of hq;rcases Go.Conc.getElem?_append_cases hx with⟨_,kN⟩ | ⟨_,qO⟩
  ·exact(C.perm j b o pm hb q a (by rw[Go.Conc.touchAt_of kN];exact lS) hl hw).app _
  exfalso;rcases E.evs x qO a lS b hl with⟨o',p',c,A⟩ | c
  ·have:(o',p')=(o,pm)/\(o',p').2=false:=c.elim (λh=>C.dis 0 j (qAm v) b _ _ h hb) (λh=>(C.disS j).symm b _ _ h hb);obtain⟨e1,e2⟩:=this;simp only[qAL]at e1;obtain⟨rfl,rfl⟩:=e1;rcases hw with h | h
   ·rw[h]at e2;simp at e2
   rw[A h]at e2;simp at e2
  exact absurd ((C.le j).lt hb) O
 ·intro j v;rw[IS,R];by_cases e:j=0
  ·rw[BY e,bY O,BY e]
  rw[bY e];by_cases c:j=T.next s
  ·rw[BY c,BY c]
  rw[bY c,bY c,bY e];exact C.tag j (by rw[B]at v;have:=C.size;omega)
 ·intro said;rw[ME,<-qCV];refine Go.Conc.noRace_append (g:=T.next s) (Go.Conc.noRace_append (g:=0) (C.clean said) ?_ ?_) (by simp) ?_
  ·intro op l;rcases qAC.1 l with h | h
   ·exact OU op h
   simp at h;subst h;rfl
  ·intro q a ha op l b X hc;exact E.norace said q a ha op (by rw[ME];exact qAC.2 (.inl l)) b X hc
  intro q a ha op l b X;simp at l;subst l;simp[MemAct.touch?]at X
 ·exact Go.Conc.seen_app (λop l=>MemAct.low_mono E.size (C.low op l)) E.low
 ·intro j v;rw[B]at v;rw[F j O (by rw[<-C.size];omega)];exact C.above j O
 ·intro j v;rw[B]at v;rw[R,bY (by rw[<-C.size];omega),bY O];exact C.over j O
 ·intro j v;rw[B]at v;have e1:∀{α:Type} (f:Nat->α) (x y:α),upd (upd f 0 x) (T.next s) y j=if j=T.next s then y else if j=0 then x else f j:=λ_ _ _=>rfl
  rw[e1,e1,e1];by_cases c:j=T.next s
  ·rw[BY c,BY c,BY c];subst c;refine⟨hnz,kI,[],.inl ?_,IY,W⟩;rw[qCo,BY (by simp[C.size])]
  rw[bY c,bY c,bY c];have V:j<gs.size:=by have:=C.size;omega
  have U:((gs.setIfInBounds 0 (bO dN dH)).push (bO kI []))[j]? = (gs.setIfInBounds 0 (bO dN dH))[j]?:=by rw[qCo,bY (by simp;omega)]
  by_cases e:j=0
  ·rw[BY e,BY e,BY e];subst e;refine⟨rfl,dN,dH,.inl ?_,Xy,JQ⟩;rw[U];simp[hp]
  rw[bY e,bY e,bY e];have J:((gs.setIfInBounds 0 (bO dN dH)).push (bO kI []))[j]? = gs[j]?:=by rw[U,qAT (qAm e)]
  have aw:∀fr cs,lJ T s gs j fr cs->lJ T Z ((gs.setIfInBounds 0 (bO dN dH)).push (bO kI [])) j fr cs:=by intro fr cs h;unfold lJ at h ⊢;rw[J];exact h.imp id λh=>⟨h.1,hb j (by rw[<-C.size];exact V) h.2⟩
  have h:=C.st j V;revert h;generalize md j=m;generalize rk j=r;intro h;match m,h with
  | 3,⟨e,fr,cs,c,A⟩=>exact⟨e,fr,cs,aw _ _ c,A⟩
  | 2,⟨e,fr,cs,c,A⟩=>exact⟨e,fr,cs,aw _ _ c,A⟩
  | 1,⟨e,fr,cs,c,A⟩=>exact⟨e,fr,cs,aw _ _ c,A⟩
  | 0,⟨h0',h1',A,x,q,Q,h4,h5⟩=>exact⟨h0',h1',A,x,q,by rw[J];exact Q,by rw[F j e c];exact h4,h5⟩
 ·intro b hb hn;rw[E.keep b (qAG hb C.grown) ?_ ?_]
  ·exact C.keep b hb hn
  ·intro o ho;rcases C.org 0 b _ ho with h | ⟨z,D,he⟩
   ·omega
   rcases D with D | D
   ·obtain⟨zo,zp⟩:=z;cases zp with
    | true=>exact hn zo D
    | false=>have:=he rfl;simp at this
   simp[Hp.nil]at D
  intro o ho;rcases C.orgS b _ ho with h | ⟨z,D,he⟩
  ·omega
  rcases D with D | D
  ·obtain⟨zo,zp⟩:=z;cases zp with
   | true=>exact hn zo D
   | false=>have:=he rfl;simp at this
  simp[Hp.nil]at D
 intro j;rw[R];split
 ·exact hK _ I.aB
 split
 ·exact hK _ hg.aB
 exact C.org j
end
end
open Go.Conc (Knows Deaf touchAt QuitsD crowd woken)
open Go.ConcN (sumTo upd sumTo_upd upd_ne upd_same)
section
variable{p:Program}{T:UG p}{G:Frame->List Frame->Hp->Prop}{n:Nat}{H0:Hp}{w0:World}
def Zuy{d c:Nat}(h:lv d=lv c):d=c:=by simpa[lv]using h
def Zs1(y:T.Sound){i:Nat}:∀(k:Rk) (fr:Frame) (cs:List Frame) (H:Hp) (d:Nat),H.gh=lv d->eX (lH (T.prgW i) UV) k (fr,cs,H)->∃q,QuitsD p q d (bO fr cs):=by
 intro k;induction Rk.KC k with
 | intro k _ ih=>
 intro fr cs H d v h;rcases eX.step lH.mono h with r | A | ⟨_,C⟩
 ·exact r.elim
 ·obtain⟨dN,dH,l,D,e,c⟩:=A.2 (by show T.stl H.gh=true;rw[v];exact y.rK d);obtain⟨q,B⟩:=ih D e dN dH H d v c;exact⟨q+1,.ctl rfl (λw=>l false w) B⟩
 rcases C with⟨I,z,h⟩ | ⟨o,_⟩ | ⟨o,_⟩
 ·obtain rfl:=Zuy (v.symm.trans z);rcases h with⟨dN,dH,es,F,f,D,e,c⟩ | ⟨rfl,g,E,f⟩
  ·obtain⟨q,B⟩:=ih D e dN dH _ _ rfl c;exact⟨q+1,.inr ⟨rfl,_,es,F,λw=>f false w,B⟩⟩
  exact⟨1,.inr ⟨rfl,g,#[],by simp,f,E,rfl⟩⟩
 ·rw[show H.gh=lv d from v]at o;exact absurd o (y.pH d)
 rw[show H.gh=lv d from v]at o;exact absurd o (y.oV d)
def Zpr(Z:T.Sound):∀(M:Ms) (gs:Array Goroutine) (w:World) (sl:Option (Nat×Nat)) (t:Trace) (s:T.S) (Hs:Hp) (Hf:Nat->Hp) (md:Nat->Nat) (rk:Nat->Rk),
  iK s gs md rk=M->Vi T G n H0 w0 gs w t s Hs Hf md rk->OG T G n H0 w0 (crowd gs w sl) t:=by
 intro M;induction M using(Zt9 n).induction with
 | _ M ih=>
 intro gs w sl t s Hs Hf md rk Q C;obtain⟨i,g,d,kS,A,hr,l⟩:=Go.Conc.crowd_pick (P:=p) (w:=w) (sl:=sl) C.awake (C.stuck Z);have K:i<gs.size:=(qAr.1 A).1;have ha:=(C.at d).iX K;have h:=C.st i K;have L:∀j,T.tag s j=if j=i then(Hf i).gh else T.tag s j:=λj=>by split;subst j;exact C.tag _ K;rfl
 match y:md i,h with
 | 0,h=>
  obtain⟨U,hl,hn,x,q,hx,hq,hk⟩:=h;rw[A]at hx;obtain rfl:=iN hx;exact Ztv Z ih Q C K U y hl hn A hr l hq hk
 | 1,h=>
  obtain⟨U,fr,cs,V,⟨Hl,R,F⟩,B,hn⟩:=h;obtain rfl:=V.hY A hr;have E:=eX.step lH.mono F;rcases E with W | Y | ⟨_,z⟩
  ·exact W.elim
  ·obtain⟨dN,dH,r,I,o,f⟩:=Y.2 (by show T.stl Hl.gh=true;rw[R];exact Z.oF _ B);have hm:=dT.still ha;have X:=VI.still ha;refine OW ih Q C K A l (r _ _) (by rw[NR];exact hm) (by rw[NR];exact X) L rfl (AT _) (.inr λ_ h=>h) (m:=1) (k:=I) ?_ (.inr ⟨y.symm,o⟩);exact λv c=>⟨U,dN,dH,.inl c,⟨Hl,R,f⟩,B,hn⟩
  rcases z with⟨d',C5,_⟩ | ⟨wF,_⟩ | ⟨_,z⟩
  ·rw[show(Hf i).gh=lv d' from R.symm.trans C5]at B;exact absurd B (Z.oV d')
  ·rw[show Hl.gh=(Hf i).gh from R]at wF;exact absurd B (λ_=>Z.lF _ wF B)
  have AK:Hp.aN Hl.gh=Hf i:=Hp.ext' (λb=>(hn b).symm) R;rw[AK]at z;rcases z s Hs t (w.at d) ha with⟨dN,dH,w',H',s',fK,es,h1,h2,h3,h4,h5,h6,h7,h8,⟨J,I,o,f⟩ | ⟨hl,I,_,f⟩⟩ | D
  ·refine OW ih Q C K A l h1 h2 h3 h4 h5 h6 h7 (m:=1) (k:=I) ?_ (.inr ⟨y.symm,o⟩);exact λv c=>⟨U,dN,dH,.inl c,⟨Hl.tagged H'.gh,rfl,f⟩,J,h8⟩
  ·obtain⟨q,hq⟩:=Zs1 Z I dN dH _ _ rfl f;refine OW ih Q C K A l h1 h2 h3 h4 h5 h6 h7 (m:=0) (k:=.ofNat q) ?_ (.inl O);exact λv c=>⟨U,hl,h8,_,q,c,hq,rfl⟩
  exact PR ih Q C K A l D λv c=>by rw[y];exact⟨U,fr,cs,.inr ⟨c,D.2⟩,⟨Hl,R,F⟩,B,hn⟩
 | 2,h=>
  obtain⟨U,fr,cs,V,F,B⟩:=h;obtain rfl:=V.hY A hr;have E:=eX.step lH.mono F;rcases E with W | Y | ⟨_,z⟩
  ·exact W.elim
  ·obtain⟨dN,dH,w',H',es,r,hf,⟨I,o,f⟩,qX⟩:=Y.1 (i == 0) (w.at d) ha.le;obtain⟨hm,X⟩:=Az (fr:=fr) Z ha (.inl B) hf qX;refine OW ih Q C K A l r hm X (λj=>by rw[hf.gh];exact L j) rfl (AT _) (.inr λ_ h=>h) (m:=2) (k:=I) ?_ (.inr ⟨y.symm,o⟩);exact λv c=>⟨U,dN,dH,.inl c,f,by rw[hf.gh];exact B⟩
  rcases z with⟨d',C5,_⟩ | ⟨_,z⟩ | ⟨wF,_⟩
  ·rw[show(Hf i).gh=lv d' from C5]at B;exact absurd B (Z.pH d')
  ·rcases z s Hs t (w.at d) ha with⟨dN,dH,w',H',s',fK,es,h1,h2,h3,h4,h5,h6,h7,⟨⟨I,o,f⟩,J⟩ | ⟨J,I,_,f⟩⟩ | D
   ·refine OW ih Q C K A l h1 h2 h3 h4 h5 h6 h7 (m:=2) (k:=I) ?_ (.inr ⟨y.symm,o⟩);exact λv c=>⟨U,dN,dH,.inl c,f,J⟩
   ·refine OW ih Q C K A l h1 h2 (VI.aN H'.gh) h4 h5 h6 h7 (m:=1) (k:=I) ?_ (.inl O);exact λv c=>⟨U,dN,dH,.inl c,⟨(Hf i).tagged H'.gh,rfl,f⟩,J,λ_=>rfl⟩
   exact PR ih Q C K A l D λv c=>by rw[y];exact⟨U,fr,cs,.inr ⟨c,D.2⟩,F,B⟩
  exact absurd wF (Z.lF _ B)
 | 3,h=>
  obtain⟨rfl,fr,cs,V,F,B⟩:=h;obtain rfl:=V.hY A hr;have E:=eX.step lH.mono F;rcases E with AD | Y | ⟨_,z⟩
  ·exact⟨0,gs,w,sl,t,s,Hs,Hf,md,rk,rfl,C,fr,cs,A,AD⟩
  ·obtain⟨dN,dH,w',H',es,r,hf,⟨I,o,f⟩,qX⟩:=Y.1 (0 == 0) (w.at d) ha.le;obtain⟨hm,X⟩:=Az (fr:=fr) Z ha (.inl B) hf qX;refine OW ih Q C K A l r hm X (λj=>by rw[hf.gh];exact L j) rfl (AT _) (.inr λ_ h=>h) (m:=3) (k:=I) ?_ (.inr ⟨y.symm,o⟩);exact λv c=>⟨rfl,dN,dH,.inl c,f,by rw[hf.gh];exact B⟩
  rcases z s Hs t (w.at d) ha with⟨dN,dH,w',H',s',fK,es,h1,h2,h3,h4,h5,h6,h7,⟨I,o,f⟩,J⟩ | D | ⟨dN,dH,kI,w',H',Hc,s',fK,es,h1,h2,h3,h4,h5,h6,h7,h8,h9,⟨I,o,f⟩,h11,AM,h13⟩
  ·refine OW ih Q C K A l h1 h2 h3 h4 h5 h6 h7 (m:=3) (k:=I) ?_ (.inr ⟨y.symm,o⟩);exact λv c=>⟨rfl,dN,dH,.inl c,f,J⟩
  ·exact PR ih Q C K A l D λv c=>by rw[y];exact⟨rfl,fr,cs,.inr ⟨c,D.2⟩,F,B⟩
  obtain⟨kc,hkc⟩:=h13.zB;have tZ:=Go.Conc.runT_crowd_spawn (P:=p) (sl:=kS) A (show stepG p (0 == 0) (bO fr cs) (w.at d)=_ from h1);refine OG.step (l.trans tZ) ?_;have hC:=(C.at d).spawn h2 h3 h4 h5 h6 h7 h8 h9 h11 f AM hkc;have e:Vd 0 (T.next s) fr kI es=(((MemOp.ofEvents 0 (bO fr cs).frame.fn (bO fr cs).frame.place es).push { g:=0,fn:=(bO fr cs).frame.fn,pos:=(bO fr cs).frame.place,act:=.go gs.size }).push { g:=gs.size,fn:=(bO kI []).frame.fn,pos:=(bO fr cs).frame.place,act:=.start }:Trace):=by rw[C.size];rfl
  rw[e]at hC;refine ih _ ?_ _ _ _ _ _ _ _ _ _ rfl hC;rw[<-Q];exact Zua h8 _ _
 | m+4,h=>exact h.elim
end
