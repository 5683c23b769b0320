import Derived.Test.YthmnpenamnoniaaGreatDoorP08
set_option linter.all false
namespace Go.LL
section
variable{p:Program}{H H' F:Hp}{gs:Array Goroutine}{w:World}{t:Trace}{q:Nat->Nat}{b:Nat}{R:Frame->List Frame->Hp->Prop}{fr:Frame}{cs:List Frame}
open Go.Conc (Knows Deaf touchAt QuitsD crowd woken Leavers Past)
open Go.ConcN (sumTo upd sumTo_upd upd_ne upd_same)
def yP(H:Hp)(n:Nat)(l:Loc):Prop:=∃b,l.dY=some b/\b<n/\H b=none
def nY(t:Trace)(b:Nat):Prop:=∃i a,touchAt t i=some a/\a.loc.dY=some b/\¬ Knows t 0 i
structure eV(p:Program)(H:Hp)(gs:Array Goroutine)(w:World)(t:Trace)(q:Nat->Nat):Prop where
 leavers:Leavers p t gs q
 past:Past (yP H w.heap.size) w.heap.size t
 le:H.le w
def eV.unk(h:eV p H gs w t q)(hb:nY t b):H b=none:=by
 obtain⟨i,a,e,d,f⟩:=hb;have j:a.loc.isMemory=true:=by cases hl:a.loc<;>simp[hl,Loc.dY]at d<;>rfl
 rcases h.past.known i a e j with c | ⟨⟨m,c,_,g⟩,_⟩
 ·exact absurd c f
 rw[d]at c;obtain rfl:=iN c;exact g
def NX{n d:Nat}(h:Past (yP H n) d t)(o:n<=d)(r:∀b,nY t b->H' b=none):Past (yP H' d) d t:=by
 refine⟨h.clean,λi a e g=>?_,h.over,h.hears,h.seen⟩;by_cases f:Knows t 0 i
 ·exact .inl f
 rcases h.known i a e g with c | ⟨⟨b,c,j,_⟩,m⟩
 ·exact .inl c
 exact .inr ⟨⟨b,c,qAG j o,r b ⟨i,a,e,c,f⟩⟩,m⟩
structure pI(H:Hp)(w:World)(t:Trace)(H':Hp)(w':World)(t':Trace):Prop where
 out:nZ w w'
 grown:w.heap.size<=w'.heap.size
 keep:∀b,b<w.heap.size->(∀o,H b≠some (o,true))->w'.heap[b]? = w.heap[b]?
 org:eP H .nil w H'
 unk:∀b,nY t' b->nY t b\/w.heap.size<=b\/∃o,H b=some (o,true)
 gh:H'.gh=H.gh
theorem eP.nil{K:Hp}(h:eP H .nil w K){x:Obj×Bool}(c:K b=some x):w.heap.size<=b\/∃y,H b=some y/\(y.2=false->x=y):=
 (h b x c).imp id λ⟨y,d,a⟩=>⟨y,d.resolve_right (by simp[Hp.nil]),a⟩
def Kd(F:Hp):Hp.nil.Dis F:=λb x y h=>by simp[Hp.nil]at h
def pI.refl:pI H w t H w t:=
 ⟨.refl w,AT _,λ_ _ _=>rfl,λb x h=>.inr ⟨x,.inl h,λ_=>rfl⟩,λb h=>.inl h,rfl⟩
def pI.trans{f g s:Hp}{r I J:World}{B D E:Trace}(a:pI f r B g I D)(b:pI g I D s J E):pI f r B s J E:=by
 have c:∀x o,g x=some (o,true)->r.heap.size<=x\/∃m,f x=some (m,true):=by
  intro x o h;rcases a.org.nil h with j | ⟨⟨S,T⟩,j,K⟩
  ·exact .inl j
  cases T with
  | true=>exact .inr ⟨S,j⟩
  | false=>have:=K rfl;simp at this
 refine⟨a.out.trans b.out,qAE a.grown b.grown,λx d A=>?_,λx y P=>?_,λx d=>?_,b.gh.trans a.gh⟩
 ·rw[b.keep x (qAG d a.grown) λo N=>?_]
  ·exact a.keep x d A
  rcases c x o N with h | ⟨m,h⟩
  ·omega
  exact A m h
 ·rcases b.org.nil P with h | ⟨z,Q,L⟩
  ·exact .inl (qAE a.grown h)
  rcases a.org.nil Q with h | ⟨v,O,M⟩
  ·exact .inl h
  refine .inr ⟨v,.inl O,λh=>?_⟩;have e:=M h;rw[<-e]at h ⊢;exact L h
 rcases b.unk x d with h | h | ⟨o,h⟩
 ·exact a.unk x h
 ·exact .inr (.inl (qAE a.grown h))
 exact .inr (c x o h)
theorem pI.frame{d:World}{c:Trace}(e:H.Comp F)(h:pI H w t H' d c):pI (H.join F) w t (H'.join F) d c:=by
 refine⟨h.out,h.grown,λb hb g=>h.keep b hb λo j=>g o (Hp.aJ j),λb x a=>?_,λb hb=>?_,by rw[Hp.bI,Hp.bI,h.gh]⟩
 ·simp only[Hp.aQ]at a;cases hh:H' b with
  | none=>rw[hh]at a;exact .inr ⟨x,.inl (Hp.aP e a),λ_=>rfl⟩
  | some z=>
   rw[hh]at a;obtain rfl:=iN a;exact(h.org.nil hh).imp id λ⟨y,m,f⟩=>⟨y,.inl (Hp.aJ m),f⟩
 exact(h.unk b hb).imp id (Or.imp id λ⟨o,h⟩=>⟨o,Hp.aJ h⟩)
def WP(p:Program)(R:Frame->List Frame->Hp->Prop)(H:Hp)(gs:Array Goroutine)(w:World)(j:Option (Nat×Nat))(t:Trace):Prop:=
 ∃k a g e f h H' d c,runNT p k (crowd gs w j) t=(.next (crowd a g e),f)/\a[0]? = some (bO d c)/\eV p H' a g f h/\pI H w t H' g f/\R d c H'
def U7(p:Program)(R:Frame->List Frame->Hp->Prop)(fr:Frame)(cs:List Frame)(H:Hp):Prop:=
 ∀gs w a t q,eV p H gs w t q->gs[0]? = some (bO fr cs)->WP p R H gs w a t
def eV.left(h:eV p (H.join F) gs w t q):eV p H gs w t q:=
 ⟨h.leavers,NX h.past (AT _) λb hb=>(Hp.cI.1 (h.unk hb)).1,h.le.left⟩
def U7.frame(a:H.Comp F)(h:U7 p R fr cs H):U7 p (λfr cs A=>∃H',A=H'.join F/\H'.Comp F/\R fr cs H') fr cs (H.join F):=by
 intro gs w sl t q r B;obtain⟨k,g,v,s,M,L,H',f,e,D,E,d,c,I⟩:=h gs w sl t q r.left B;have j:F.le w:=r.le.right a;have J:H'.Dis F:=c.org.dis j a.mem (Kd F);have m:F.le v:=FO (Hs:=.nil) a.mem (Kd F) j λb hb K _=>c.keep b hb K;refine⟨k,g,v,s,M,L,H'.join F,f,e,D,E,⟨d.leavers,NX d.past (AT _) λb hb=>?_,?_⟩,c.frame a,H',rfl,⟨J,by rw[c.gh];exact a.gh⟩,I⟩
 ·refine Hp.cI.2 ⟨d.unk hb,?_⟩;cases hfb:F b with
  | none=>rfl
  | some x=>
   rcases c.unk b hb with h | h | ⟨o,h⟩
   ·rw[(Hp.cI.1 (r.unk h)).2]at hfb;simp at hfb
   ·exact absurd (j.lt hfb) O
   have:=(a b _ _ h hfb).2;simp at this
 intro b o pm hb;simp only[Hp.aQ]at hb;cases hh:H' b with
 | none=>rw[hh]at hb;exact m b o pm hb
 | some z=>rw[hh]at hb;exact d.le b o pm (by rw[hh];exact hb)
def U7.mono{f:Frame->List Frame->Hp->Prop}(z:∀fr cs H,R fr cs H->f fr cs H)(h:U7 p R fr cs H):U7 p f fr cs H:=by intro gs w sl t q v g;obtain⟨k,d,D,e,B,A,H',c,a,j,m,o,r,s⟩:=h gs w sl t q v g;exact⟨k,d,D,e,B,A,H',c,a,j,m,o,r,z _ _ _ s⟩
def Zwy(p:Program):Env where
 sh:=U7 p
 shMono:=λc _ _ _ h=>h.mono c
 shFrame:=λa h=>h.frame a
def FH{p:Program}:∀{k a:Nat} {m c:Machine} {t d:Trace} {r:Stepped×Trace},runNT p k m t=(.next c,d)->runNT p a c d=r->runNT p (k+a) m t=r
 | 0,a,m,c,t,d,r,h,f=>by simp only[runNT,qAL,Stepped.next.injEq]at h;obtain⟨rfl,rfl⟩:=h;rw[qAP];exact f
 | k+1,a,m,c,t,d,r,h,f=>by
  rw[Nat.add_right_comm];cases hs:stepT p m with
  | mk e aG=>
   cases e with
   | next m1=>
    simp only[runNT,hs]at h ⊢;exact FH h f
   | ended o w=>simp[runNT,hs]at h
theorem ZzI 
  (hs:∀w,H.le w->∃A z M H' es,stepG p true (bO fr cs) w=.go (bO A z) M es/\Fr H w H' M/\R A z H'/\∀e∈es,EvL H w M.heap.size e) :
  ∀(N:Nat) (gs:Array Goroutine) (w:World) (sl:Option (Nat×Nat)) (t:Trace) (q:Nat->Nat),sumTo gs.size q<=N->eV p H gs w t q->gs[0]? = some (bO fr cs)->WP p R H gs w sl t:=by
 intro N;induction N using Nat.strongRecOn with
 | _ N ih=>
 intro gs w sl t q hN U h0;have hL:=U.leavers;have haw:∀g∈gs,Go.Conc.awake g:=by
  intro g hg;obtain⟨i,Q,rfl⟩:=qCf.1 hg;rcases qAN i with rfl | J
  ·have:gs[0]=bO fr cs:=by simpa[qAO Q]using h0
   rw[this];exact Go.Conc.awake_of (.inl rfl)
  exact Go.Conc.awake_of ((hL.old i _ J (qAO Q)).status.elim .inl λx=>.inr (.inr x))
 obtain⟨i,g,d,T,Q,hg,jT⟩:=Go.Conc.crowd_pick (P:=p) (w:=w) (sl:=sl) haw ⟨0,_,h0,rfl⟩;have uC:0<gs.size:=(qAr.1 h0).1;rcases qAN i with rfl | J
 ·obtain rfl:g=bO fr cs:=by rw[h0]at Q;exact(iN Q).symm
  have nV:H.le (w.at d):=U.le;obtain⟨A,z,M,H',es,h1,f,hR,he⟩:=hs (w.at d) nV;have K:=Go.Conc.runT_crowd_go (P:=p) (sl:=T) (i:=0) Q (show stepG p (0 == 0) (bO fr cs) (w.at d)=_ from h1);have tY:((gs.map (woken p (bO fr cs) (bO A z) M)).setIfInBounds 0 (bO A z)).size=gs.size:=by simp
  have c:∀op∈MemOp.ofEvents 0 (bO fr cs).frame.fn (bO fr cs).frame.place es,op.g=0:=λop X=>by obtain⟨e,_,rfl⟩:=Go.Conc.mem_ofEvents X;rfl
  have I:∀b,nY (t++MemOp.ofEvents 0 (bO fr cs).frame.fn (bO fr cs).frame.place es) b->nY t b:=by
   rintro b ⟨j,a,B,hb,hk⟩;obtain⟨x,s,E⟩:=Go.Conc.touch_of B;rcases Go.Conc.getElem?_append_cases s with⟨_,kN⟩ | ⟨_,qO⟩
   ·exact⟨j,a,by rw[Go.Conc.touchAt_of kN];exact E,hb,λh=>hk (h.app _)⟩
   have:=Go.Conc.knows_own s;rw[c x qO]at this;exact absurd this hk
  have W:∀b,nY t b->H' b=none:=by
   intro b hb;have L:=U.unk hb;obtain⟨j,a,B,JN,_⟩:=hb;obtain⟨x,s,E⟩:=Go.Conc.touch_of B;have qV:=yC E JN (U.past.seen x (Go.Conc.mem_of_getElem? s));cases hh:H' b with
   | none=>rfl
   | some y=>exact absurd (f.new b L (by rw[hh];simp)) (Nat.not_le.2 qV)
  have Y:Past (yP H w.heap.size) M.heap.size (t++MemOp.ofEvents 0 (bO fr cs).frame.fn (bO fr cs).frame.place es):=by
   refine(U.past.mono f.size).own λe hee=>?_;have v:=he e hee;refine⟨λx s hsh=>?_,?_,?_,?_⟩
   ·obtain⟨b,hb,D,hn⟩:=hsh;rcases Qh v s hb with⟨o,pm,L,_⟩ | ⟨L,_⟩
    ·rw[hn]at L;simp at L
    exact absurd D (qCu.2 L)
   ·rintro hm;rw[EvL,hm]at v;exact v
   ·rintro hm;rw[EvL,hm]at v;exact v
   have D:∀b,((∃o p,H b=some (o,p)/\(e.write=true->p=true))\/(w.at d).heap.size<=b/\b<M.heap.size)->b<M.heap.size:=by
    rintro b (⟨o,pm,L,_⟩ | L)
    ·exact qAG (U.le.lt L) f.size
    exact L.2
   obtain⟨loc,wr,sy⟩:=e;cases loc with
   | cell a=>
    obtain⟨rfl,h⟩:=v;exact D _ h
   | obj r=>
    obtain⟨rfl,h⟩:=v;cases wr<;>exact D _ h
   | mark m=>
    cases m<;>simp only[EvL]at v<;>trivial
   | _=>simp only[EvL]at v
  refine⟨1,(gs.map (woken p (bO fr cs) (bO A z) M)).setIfInBounds 0 (bO A z),M,T,t++MemOp.ofEvents 0 (bO fr cs).frame.fn (bO fr cs).frame.place es,q,H',A,z,by simp only[runNT,jT,K],by simp[uC],⟨⟨λj x B s=>?_,λj B=>?_⟩,NX Y f.size λb hb=>W b (I b hb),f.le⟩,
   ⟨⟨by rw[f.os];exact .refl _,f.tape,f.out⟩,f.size,f.keep,λb x s=>?_,λb hb=>.inl (I b hb),f.gh⟩,hR⟩
  ·have V:0≠j:=O;rw[qAT V,qCc]at s;obtain⟨y,hy,rfl⟩:=qAk.1 s;have Z:=hL.old j y B hy;rw[Go.Conc.woken_quitsD Z,Go.Conc.Deaf_other t O _ c];exact Z
  ·rw[Go.Conc.Deaf_other t (g':=0) (by simp at B;omega) _ c];exact hL.above j (by simpa using B)
  cases hh:H b with
  | none=>exact .inl (f.new b hh (by rw[s];simp))
  | some y=>
   refine .inr ⟨y,.inl rfl,λhy=>?_⟩;obtain⟨yo,yp⟩:=y;obtain rfl:yp=false:=hy;have:=f.ro b yo hh;rw[this]at s;exact(iN s).symm
 have Z:=hL.old i g J Q;have eH:(i == 0)=false:=by simp;omega
 have D:i<gs.size:=(qAr.1 Q).1;cases hqi:q i with
 | zero=>rw[hqi]at Z;rw[Z.1]at hg;cases hg
 | succ k=>
  rw[hqi]at Z;rcases Z with⟨hf,_⟩ | ⟨_,g',es,hm,IT,I0⟩
  ·rw[hf]at hg;cases hg
  have K:=Go.Conc.runT_crowd_go (P:=p) (sl:=T) (i:=i) Q (by rw[eH];exact IT (w.at d));have tY:((gs.map (woken p g g' (w.at d))).setIfInBounds i g').size=gs.size:=by simp
  have qQ:sumTo gs.size (upd q i k)+(k+1)=sumTo gs.size q+k:=by have:=sumTo_upd q k id D;simpa[hqi]using this
  have hmu:=Bx (i:=i) (fr:=g.frame) hm;have c:∀op∈MemOp.ofEvents i g.frame.fn g.frame.place es,op.g=i:=λop X=>by obtain⟨e,_,rfl⟩:=Go.Conc.mem_ofEvents X;rfl
  have I:∀b,nY (t++MemOp.ofEvents i g.frame.fn g.frame.place es) b->nY t b:=by
   rintro b ⟨j,a,B,hb,hk⟩;obtain⟨x,s,E⟩:=Go.Conc.touch_of B;rcases Go.Conc.getElem?_append_cases s with⟨_,kN⟩ | ⟨_,qO⟩
   ·exact⟨j,a,by rw[Go.Conc.touchAt_of kN];exact E,hb,λh=>hk (h.app _)⟩
   rw[(hmu x qO).oC]at E;simp at E
  have hp2:Past (yP H w.heap.size) w.heap.size (t++MemOp.ofEvents i g.frame.fn g.frame.place es):=U.past.mute O hm;have hC:eV p H ((gs.map (woken p g g' (w.at d))).setIfInBounds i g') (w.at d) (t++MemOp.ofEvents i g.frame.fn g.frame.place es) (upd q i k):=by
   refine⟨⟨λj x B s=>?_,λj B=>?_⟩,hp2,U.le⟩
   ·by_cases S:i=j
    ·subst S;rw[Array.getElem?_setIfInBounds_self_of_lt (by simpa using D)]at s;obtain rfl:=iN s;rw[upd_same,Go.Conc.Deaf_own];exact I0
    rw[qAT S,qCc]at s;obtain⟨y,hy,rfl⟩:=qAk.1 s;have SI:=hL.old j y B hy;rw[Go.Conc.woken_quitsD SI,upd_ne q k (qAm S),Go.Conc.Deaf_other t S _ c];exact SI
   rw[Go.Conc.Deaf_other t (g':=i) (by simp at B;omega) _ c];exact hL.above j (by simpa using B)
  obtain⟨k2,gs2,w2,HK,t2,q2,H2,fr2,cs2,e1,e2,e3,e4,e5⟩:=ih (N-1) O _ (w.at d) T _ _ (by rw[tY];omega) hC (by have V:i≠0:=O;rw[qAT V,qCc,h0];simp[Go.Conc.woken_run (show(bO fr cs).status=.running from rfl)]);refine⟨k2+1,gs2,w2,HK,t2,q2,H2,fr2,cs2,by simp only[runNT,jT,K];exact e1,e2,e3,?_,e5⟩;have:pI H w t H (w.at d) (t++MemOp.ofEvents i g.frame.fn g.frame.place es):=⟨⟨.refl _,rfl,rfl⟩,AT _,λ_ _ _=>rfl,λb x h=>.inr ⟨x,.inl h,λ_=>rfl⟩,λb hb=>.inl (I b hb),rfl⟩;exact this.trans e4
def Zqp{P:aY}(X:P.sh=U7 P.toProgram){G:Frame->List Frame->Hp->Prop}(h:Reach P G fr cs H):U7 P.toProgram G fr cs H:=by
 refine h (U7 P.toProgram G) (λfr cs H Y gs w o t q m j=>⟨0,gs,w,o,t,q,H,fr,cs,rfl,j,m,.refl,Y⟩) ?_ ?_
 ·intro fr cs H r gs w o t q m j;obtain⟨k,d,V,f,T,Q,H',I,v,J,K,L,M,N⟩:=ZzI (r.1 true) _ gs w o t q (AT _) m j;obtain⟨O,e,W,g,U,S,s,c,a,z,A,B,D,E⟩:=N d V f T Q L K;exact⟨k+O,e,W,g,U,S,s,c,a,FH J z,A,B,M.trans D,E⟩
 intro fr cs H r gs w o t q m j;rw[X]at r;obtain⟨k,d,V,f,T,Q,H',I,v,J,K,L,M,N⟩:=r gs w o t q m j;obtain⟨O,e,W,g,U,S,s,c,a,z,A,B,D,E⟩:=N d V f T Q L K;exact⟨k+O,e,W,g,U,S,s,c,a,FH J z,A,B,M.trans D,E⟩
end
section
open Go.Conc (Knows Deaf touchAt QuitsD crowd woken Leavers Past)
open Go.ConcN (sumTo upd sumTo_upd upd_ne upd_same)
structure ZAD{p:Program}(T:UG p)(R:Frame->List Frame->Hp->Prop)(fr:Frame)(cs:List Frame)(H:Hp)(gs:Array Goroutine)(w:World)(t:Trace)(s:T.S)(Hs Hm:Hp)(G:Frame->List Frame->Hp->Prop):Prop where
 eL:T.Sound
 inv:T.Inv s Hs t
 next:T.next s=gs.size
 HE:T.tag s 0=Hm.gh
 HD:∀j,j≠0->j<gs.size->T.tag s j=T.left
 le:Hm.le w
 leS:Hs.le w
 dis:Hm.Dis Hs
 rZ:eP H .nil w Hm
 AN:eP H .nil w Hs
 act:T.act Hm.gh
 HB:Reach T.prgM G fr cs Hm
 done:∀dN dH H' s' fK t' w',G dN dH H'->T.Inv s' fK t'->T.tag s' 0=H'.gh->H'.Dis fK->H'.le w'->fK.le w'->dG t' 0 H'->(∀op∈t',op.act.low w'.heap.size)->eP H .nil w H'->eP H .nil w fK ->
  (∀j,j≠0->j<T.next s'->T.tag s' j=T.left) /\
  (∀i a,touchAt t' i=some a->a.loc.isMemory=true->Knows t' 0 i\/(a.kind=.atomic/\∀b,a.loc.dY=some b->H' b=none/\(nY t b\/w.heap.size<=b\/∃o,H b=some (o,true)))) /\
  t'.HandedOver/\Deaf t' 0=0/\∃H2:Hp,H2.gh=H.gh/\(∀b x,H2 b=some x->∃y,H' b=some y/\y.1=x.1/\(x.2=true->y.2=true\/∃o,H b=some (o,true)))/\R dN dH H2
def Ztd{p:Program}{R:Frame->List Frame->Hp->Prop}{fr:Frame}{cs:List Frame}{H:Hp}
  (h:∀gs w t q,eV p H gs w t q->gs[0]? = some (bO fr cs)->∃(T:UG p) (s:T.S) (Hs Hm:Hp) (G:Frame->List Frame->Hp->Prop),ZAD T R fr cs H gs w t s Hs Hm G):U7 p R fr cs H:=by
 intro gs w sl t q L h0;obtain⟨T,s,Hs,Hm,G,B⟩:=h gs w t q L h0;have uC:0<gs.size:=(qAr.1 h0).1;obtain⟨k,hk⟩:=B.HB.zB;have P:dG t 0 Hm:=by
  intro b o pm hb i a hi M _;refine IF λhn=>?_;have c:=L.unk ⟨i,a,hi,M,hn⟩;rcases B.rZ.nil hb with v | ⟨y,I,_⟩
  ·obtain⟨x,V,X⟩:=Go.Conc.touch_of hi;exact absurd (yC X M (L.past.seen x (Go.Conc.mem_of_getElem? V))) O
  rw[c]at I;simp at I
 have C:Vi T G (gs.size+T.more s) H w gs w t s Hs (λj=>if j=0 then Hm else .aN T.left) (λj=>if j=0 then 3 else 0) (λj=>if j=0 then k else .ofNat (q j)):=by
  have hb:∀g,m7 (.aN g):=λg b=>rfl;refine⟨B.next.symm,uC,AT _,B.inv,B.leS,?_,?_,?_,?_,?_,L.past.clean,L.past.seen,L.leavers.above,?_,?_,.refl w,AT _,λ_ _ _=>rfl,?_,B.AN⟩
  ·intro j;split
   ·exact B.le
   intro b o pm hh;simp[Hp.aN]at hh
  ·intro j j' k9 b x y c v;by_cases f:j=0
   ·rw[bY (show j'≠0 by omega)]at v;simp[Hp.aN]at v
   rw[bY f]at c;simp[Hp.aN]at c
  ·intro j;split
   ·exact B.dis
   intro b x y c;simp[Hp.aN]at c
  ·intro j;split
   ·subst j;exact P
   intro b o pm hh;simp[Hp.aN]at hh
  ·intro j f;split
   ·subst j;exact B.HE
   exact B.HD j ‹_› f
  ·intro j f;rw[bY O];exact hb _
  ·intro j f;by_cases A:j=0
   ·subst A;exact⟨rfl,fr,cs,.inl h0,hk,B.act⟩
   rw[bY A,bY A,bY A];exact⟨A,rfl,hb _,gs[j],q j,qAO f,L.leavers.old j _ O (qAO f),rfl⟩
  intro j;split
  ·exact B.rZ
  intro b x V;simp[Hp.aN]at V
 obtain⟨n,E,w',kS,t',s',fK,J,Wz,Sc,tZ,d,dN,Z,wD,hG⟩:=Zpr B.eL _ gs w sl t s Hs _ _ _ rfl C;have qS:=d.pos;obtain⟨d1,d2,d3,d4,H2,g1,g2,d5⟩:=B.done dN Z (J 0) s' fK t' w' hG d.inv (d.tag 0 qS) (d.disS 0) (d.le 0) d.leS (d.perm 0) d.low (d.org 0) d.orgS;have hq:∀j,∃q,∀g,0<j->E[j]? = some g->QuitsD p q (Deaf t' j) g:=by
  intro j;by_cases f:0<j/\j<E.size
  ·have U:=d.st j f.2;have M:(J j).gh=T.left:=by rw[<-d.tag j f.2];exact d1 j O (by rw[<-d.size];exact f.2)
   revert U;generalize Wz j=m;generalize Sc j=r;intro U;match m,U with
   | 3,⟨c,_⟩=>omega
   | 2,⟨_,_,_,_,_,c⟩=>rw[M]at c;exact absurd c B.eL.lY
   | 1,⟨_,_,_,_,_,c,_⟩=>rw[M]at c;exact absurd c B.eL.lT
   | 0,⟨_,_,_,g,q,c,v,_⟩=>exact⟨q,λg' _ Y=>by rw[c]at Y;obtain rfl:=iN Y;exact v⟩
  exact⟨0,λg c Y=>absurd ⟨c,(qAr.1 Y).1⟩ f⟩
 have Q:∃q':Nat->Nat,∀j g,0<j->E[j]? = some g->QuitsD p (q' j) (Deaf t' j) g:=by refine⟨λj=>(hq j).choose,λj g c Y=>(hq j).choose_spec g c Y⟩
 obtain⟨q',Q⟩:=Q;have nG:∀{l:Loc} {b:Nat},l.dY=some b->l.isMemory=true:=by intro l b M;cases l<;>simp[Loc.dY]at M<;>rfl
 have N:∀b,J 0 b=none->H2 b=none:=λb hb=>by
  cases h:H2 b with
  | none=>rfl
  | some x=>obtain⟨y,I,_⟩:=g2 b x h;rw[hb]at I;simp at I
 refine⟨n,E,w',kS,t',q',H2,dN,Z,tZ,wD,⟨⟨Q,d.above⟩,⟨d.clean,λi a c v=>?_,d3,d4,d.low⟩,λb o pm hb=>?_⟩,⟨d.out,d.grown,d.keep,λb x V=>?_,λb hb=>?_,g1⟩,d5⟩
 ·rcases d2 i a c v with K | ⟨K,D⟩
  ·exact .inl K
  obtain⟨b,hb⟩:=Bn v;refine .inr ⟨⟨b,hb,?_,N b (D b hb).1⟩,K⟩;obtain⟨x,V,X⟩:=Go.Conc.touch_of c;exact yC X hb (d.low x (Go.Conc.mem_of_getElem? V))
 ·obtain⟨⟨yo,yp⟩,I,e,_⟩:=g2 b _ hb;simp only at e;subst e;exact d.le 0 b yo yp I
 ·obtain⟨y,I,e,K⟩:=g2 b x V;rcases(d.org 0).nil I with h | ⟨z,hz,zJ⟩
  ·exact .inl h
  refine .inr ⟨z,.inl hz,λhf=>?_⟩;have e2:=zJ hf;have W:x.2=false:=by
   cases W:x.2 with
   | false=>rfl
   | true=>
    rcases K W with D | ⟨o,D⟩
    ·rw[e2,hf]at D;simp at D
    rw[D]at hz;obtain rfl:=iN hz;simp at hf
  rw[<-e2];rw[<-e2]at hf;exact Prod.ext e.symm (W.trans hf.symm)
 obtain⟨i,a,c,v,K⟩:=hb;rcases d2 i a c (nG v)with D | ⟨_,D⟩
 ·exact absurd D K
 exact(D b v).2
end
section
variable{n:Nat}
open Go.ConcN (sumTo upd sumTo_upd upd_ne upd_same)
def cd(l:List Nat):Nat:=l.headD 0
def Ct(f:Nat->Nat)(tag:Nat->List Nat)(n:Nat):Nat:=sumTo n λi=>f (cd (tag i))
def Ct.upd(f:Nat->Nat)(tag:Nat->List Nat)(l:List Nat){i:Nat}(h:i<n):Ct f (upd tag i l) n+f (cd (tag i))=Ct f tag n+f (cd l):=
 sumTo_upd tag l (λx=>f (cd x)) h
def Ct.le(f:Nat->Nat)(tag:Nat->List Nat){i:Nat}(h:i<n):f (cd (tag i))<=Ct f tag n:=Go.ConcN.le_sumTo (f:=λi=>f (cd (tag i))) h
def dS(b:Bool):Nat:=if b then 1 else 0
def YE(c:Nat):Nat:=dS (10<=c && c<=14)
def cT(c:Nat):Nat:=dS (c == 5 || c == 6)
def cQ(c:Nat):Nat:=dS (c == 7)
def cA(c:Nat):Nat:=dS (c == 8 || c == 9)
def cU(c:Nat):Nat:=dS (c == 15 || c == 16)
def cR(c:Nat):Nat:=dS (c == 17)
def fU(c:Nat):Nat:=
 if 1<=c && c<=4 then 6 else if c == 5 || c == 6 || c == 8 || c == 9 then 5 else if c == 7 then 4 else if 10<=c && c<=14 then 3 else if c == 15 || c == 16 then 2 else if c == 17 then 1 else 0
structure Mu where
 L:Nat
 W:Nat
 S:Nat
 n:Nat
 sm:Nat
def Mu.st(x:Mu):Nat:=x.L+2 * x.W+4 * x.S+8 * x.n
def Mu.mu(x:Mu)(more:Nat)(tag:Nat->List Nat)(k:Nat):Nat:=Ct fU tag k+x.sm+6 * more
structure Mu.aH(x:Mu)(tag:Nat->List Nat)(k:Nat):Prop where
 L1:x.L=Ct YE tag k
 L2:x.L<=1
 W1:x.W<=1
 S1:x.S<=1
 norm:x.S=0->Ct cQ tag k=x.n+x.sm+Ct cR tag k/\x.W=Ct cT tag k+Ct cA tag k+x.sm+Ct cR tag k/\(x.L=0->0<x.n->x.W=1\/0<Ct cU tag k)
 starv:x.S=1->x.n=Ct cQ tag k+Ct cA tag k/\1<=x.n/\x.W=0/\Ct cT tag k=0/\x.L+Ct cR tag k+x.sm+Ct cA tag k=1
def Mu.fJ(x:Mu)(mu:Nat):List Nat->Prop
 | [4,v,m]=>mu<=m/\(mu=m->x.st=v)
 | [6,v,m]=>mu<=m/\(mu=m->x.st=v)
 | [15,v,m]=>mu<=m/\(mu=m->x.st=v)/\v % 8=0/\8<=v
 | [9,v]=>x.S=1/\1<=v / 8/\v / 8<=x.n
 | [3,m]=>mu<m
 | [5,m]=>mu<m
 | [7,m]=>mu<m
 | [8,m]=>mu<m
 | [16,m]=>mu<m
 | [4]=>False
 | [6]=>False
 | [15]=>False
 | [9]=>False
 | _=>True
section
variable{x x':Mu}{tag:Nat->List Nat}{k i:Nat}{l:List Nat}
def counts(a:i<k)(f:Nat->Nat):Ct f (upd tag i l) k+f (cd (tag i))=Ct f tag k+f (cd l):=Ct.upd f tag l a
end
end
section
variable{G:Prop}
open Go.ConcN (sumTo upd sumTo_upd upd_ne upd_same)
def cW(c:Nat):Nat:=dS (1<=c && c<=21)
def cL(c:Nat):Nat:=dS (c == 22 || c == 23)
def cE(c:Nat):Nat:=dS (c == 24)
def mP(c:Nat):Nat:=dS (c == 32 || c == 33)
structure Wg where
 v:Nat
 wt:Nat
 wm:Nat
structure Wg.aH(x:Wg)(tag:Nat->List Nat)(k more:Nat):Prop where
 v1:x.v=Ct cW tag k+mP (cd (tag 0))
 main:30<=cd (tag 0)
 more0:34<=cd (tag 0)->more=0
 y4:cd (tag 0)=36->(x.wt=1/\x.wm=0/\Ct cE tag k=0/\(x.v=0->Ct cL tag k=1)/\(x.v≠0->Ct cL tag k=0))\/(x.wt=0/\x.v=0/\Ct cL tag k=0/\Ct cE tag k+x.wm=1)
 q9:cd (tag 0)≠36->x.wt=0/\x.wm=0/\Ct cL tag k=0/\Ct cE tag k=0
 zero:37<=cd (tag 0)->x.v=0
def Wg.tT(h:G:=by obtain⟨f1,f2,f3,f4,f5,f6⟩:=F;have e0:=counts (tag:=tag) (l:=l) hi cW;have e1:=counts (tag:=tag) (l:=l) hi cL;have e2:=counts (tag:=tag) (l:=l) hi cE;have g1:=Ct.le cW tag hi;have g2:=Ct.le cL tag hi;have g3:=Ct.le cE tag hi;simp[hc,hl,cW,cL,cE,dS]at e0 e1 e2 g1 g2 g3;have h0:upd tag i l 0=tag 0:=upd_ne tag l (qAm eH);refine⟨?_,?_,?_,?_,?_,?_⟩<;>rw[h0]<;>(try dsimp only)<;>omega):G:=h
def Wg.t0(h:G:=by
  obtain⟨f1,f2,f3,f4,f5,f6⟩:=F;have e0:=counts (tag:=tag) (l:=l) hi cW;have e1:=counts (tag:=tag) (l:=l) hi cL;have e2:=counts (tag:=tag) (l:=l) hi cE;have g1:=Ct.le cW tag hi;have g2:=Ct.le cL tag hi;have g3:=Ct.le cE tag hi;simp[hc,hl,cW,cL,cE,dS]at e0 e1 e2 g1 g2 g3;have h0:upd tag 0 l 0=l:=upd_same tag 0 l;rw[hc]at f1 f2 f3 f4 f5 f6;simp[mP,dS]at f1;refine⟨?_,?_,?_,?_,?_,?_⟩<;>rw[h0,hl]<;>(try dsimp only)
  ·simp[mP,dS];omega
  all_goals omega):G:=h
section
variable{x:Wg}{tag:Nat->List Nat}{k i more:Nat}{l:List Nat}
def Wg.add(F:x.aH tag k more)(hi:0<k)(hc:cd (tag 0)=31)(hl:cd l=32) :Wg.aH { x with v:=x.v+1 } (upd tag 0 l) k more:=Wg.t0
def Wg.pC(F:x.aH tag k more)(hi:i<k)(eH:i≠0)(hc:cd (tag i)=21)(hl:cd l=0)(h:¬ (x.v=1/\x.wt=1)):Wg.aH { x with v:=x.v-1 } (upd tag i l) k more:=Wg.tT
def Wg.pD(F:x.aH tag k more)(hi:i<k)(eH:i≠0)(hc:cd (tag i)=21)(hl:cd l=22)(h:x.v=1/\x.wt=1):Wg.aH { x with v:=x.v-1 } (upd tag i l) k more:=Wg.tT
def Wg.kR(F:x.aH tag k more)(hi:i<k)(eH:i≠0)(hc:cd (tag i)=23)(hl:cd l=24) :Wg.aH { x with wt:=0 } (upd tag i l) k more:=Wg.tT
def Wg.n8(F:x.aH tag k more)(hi:i<k)(eH:i≠0)(hc:cd (tag i)=24)(hl:cd l=0) :Wg.aH { x with wm:=x.wm+1 } (upd tag i l) k more:=Wg.tT
def Wg.zA(F:x.aH tag k more)(hi:0<k)(hc:cd (tag 0)=34)(hl:cd l=38)(h:x.v=0)(a:more=0):Wg.aH x (upd tag 0 l) k more:=Wg.t0
def Wg.y9(F:x.aH tag k more)(hi:0<k)(hc:cd (tag 0)=34)(hl:cd l=35)(h:x.v≠0):Wg.aH x (upd tag 0 l) k more:=Wg.t0
def Wg.IA(F:x.aH tag k more)(hi:0<k)(hc:cd (tag 0)=35)(hl:cd l=34) :Wg.aH x (upd tag 0 l) k more:=Wg.t0
def Wg.y4(F:x.aH tag k more)(hi:0<k)(hc:cd (tag 0)=35)(hl:cd l=36)(h:x.v≠0):Wg.aH { x with wt:=1 } (upd tag 0 l) k more:=Wg.t0
def Wg.woken(F:x.aH tag k more)(hi:0<k)(hc:cd (tag 0)=36)(hl:cd l=37)(h:x.wm≠0):Wg.aH { x with wm:=x.wm-1 } (upd tag 0 l) k more:=Wg.t0
def Wg.mV(F:x.aH tag k more)(hi:0<k)(hc:cd (tag 0)=30)(hl:cd l=31) :Wg.aH x (upd tag 0 l) k more:=Wg.t0
def Wg.mT(F:x.aH tag k more)(hi:0<k)(hc:cd (tag 0)=32)(hl:cd l=33) :Wg.aH x (upd tag 0 l) k more:=Wg.t0
def Wg.mU(F:x.aH tag k more)(hi:0<k)(hc:cd (tag 0)=30)(hl:cd l=34)(a:more=0):Wg.aH x (upd tag 0 l) k more:=Wg.t0
def Wg.mS(F:x.aH tag k more)(hi:0<k)(hc:cd (tag 0)=37)(hl:cd l=38) :Wg.aH x (upd tag 0 l) k more:=Wg.t0
def Wg.mR(F:x.aH tag k more)(hi:0<k)(hc:cd (tag 0)=38)(hl:cd l=39) :Wg.aH x (upd tag 0 l) k more:=Wg.t0
def Wg.mQ(F:x.aH tag k more)(hi:0<k)(hc:cd (tag 0)=39)(hl:cd l=40) :Wg.aH x (upd tag 0 l) k more:=Wg.t0
def Wg.qF(F:x.aH tag k more)(hi:i<k)(eH:i≠0)(hc:cd (tag i)=1)(hl:cd l=2) :Wg.aH x (upd tag i l) k more:=Wg.tT
def Wg.oI(F:x.aH tag k more)(hi:i<k)(eH:i≠0)(hc:cd (tag i)=2)(hl:cd l=10) :Wg.aH x (upd tag i l) k more:=Wg.tT
def Wg.qE(F:x.aH tag k more)(hi:i<k)(eH:i≠0)(hc:cd (tag i)=2)(hl:cd l=3) :Wg.aH x (upd tag i l) k more:=Wg.tT
def Wg.qD(F:x.aH tag k more)(hi:i<k)(eH:i≠0)(hc:cd (tag i)=3)(hl:cd l=4) :Wg.aH x (upd tag i l) k more:=Wg.tT
def Wg.qC(F:x.aH tag k more)(hi:i<k)(eH:i≠0)(hc:cd (tag i)=4)(hl:cd l=3) :Wg.aH x (upd tag i l) k more:=Wg.tT
def Wg.qB(F:x.aH tag k more)(hi:i<k)(eH:i≠0)(hc:cd (tag i)=4)(hl:cd l=5) :Wg.aH x (upd tag i l) k more:=Wg.tT
def Wg.p9(F:x.aH tag k more)(hi:i<k)(eH:i≠0)(hc:cd (tag i)=5)(hl:cd l=6) :Wg.aH x (upd tag i l) k more:=Wg.tT
def Wg.p8(F:x.aH tag k more)(hi:i<k)(eH:i≠0)(hc:cd (tag i)=6)(hl:cd l=5) :Wg.aH x (upd tag i l) k more:=Wg.tT
def Wg.oH(F:x.aH tag k more)(hi:i<k)(eH:i≠0)(hc:cd (tag i)=4)(hl:cd l=10) :Wg.aH x (upd tag i l) k more:=Wg.tT
def Wg.oG(F:x.aH tag k more)(hi:i<k)(eH:i≠0)(hc:cd (tag i)=6)(hl:cd l=10) :Wg.aH x (upd tag i l) k more:=Wg.tT
def Wg.qA(F:x.aH tag k more)(hi:i<k)(eH:i≠0)(hc:cd (tag i)=4)(hl:cd l=7) :Wg.aH x (upd tag i l) k more:=Wg.tT
def Wg.lM(F:x.aH tag k more)(hi:i<k)(eH:i≠0)(hc:cd (tag i)=6)(hl:cd l=7) :Wg.aH x (upd tag i l) k more:=Wg.tT
def Wg.p7(F:x.aH tag k more)(hi:i<k)(eH:i≠0)(hc:cd (tag i)=7)(hl:cd l=8) :Wg.aH x (upd tag i l) k more:=Wg.tT
def Wg.pZ(F:x.aH tag k more)(hi:i<k)(eH:i≠0)(hc:cd (tag i)=8)(hl:cd l=6) :Wg.aH x (upd tag i l) k more:=Wg.tT
def Wg.pY(F:x.aH tag k more)(hi:i<k)(eH:i≠0)(hc:cd (tag i)=8)(hl:cd l=9) :Wg.aH x (upd tag i l) k more:=Wg.tT
def Wg.jV(F:x.aH tag k more)(hi:i<k)(eH:i≠0)(hc:cd (tag i)=9)(hl:cd l=10) :Wg.aH x (upd tag i l) k more:=Wg.tT
def Wg.mO(F:x.aH tag k more)(hi:i<k)(eH:i≠0)(hc:cd (tag i)=10)(hl:cd l=11) :Wg.aH x (upd tag i l) k more:=Wg.tT
def Wg.mN(F:x.aH tag k more)(hi:i<k)(eH:i≠0)(hc:cd (tag i)=11)(hl:cd l=12) :Wg.aH x (upd tag i l) k more:=Wg.tT
def Wg.mM(F:x.aH tag k more)(hi:i<k)(eH:i≠0)(hc:cd (tag i)=12)(hl:cd l=13) :Wg.aH x (upd tag i l) k more:=Wg.tT
def Wg.mL(F:x.aH tag k more)(hi:i<k)(eH:i≠0)(hc:cd (tag i)=13)(hl:cd l=14) :Wg.aH x (upd tag i l) k more:=Wg.tT
def Wg.mH(F:x.aH tag k more)(hi:i<k)(eH:i≠0)(hc:cd (tag i)=14)(hl:cd l=18) :Wg.aH x (upd tag i l) k more:=Wg.tT
def Wg.mJ(F:x.aH tag k more)(hi:i<k)(eH:i≠0)(hc:cd (tag i)=14)(hl:cd l=15) :Wg.aH x (upd tag i l) k more:=Wg.tT
def Wg.mI(F:x.aH tag k more)(hi:i<k)(eH:i≠0)(hc:cd (tag i)=14)(hl:cd l=17) :Wg.aH x (upd tag i l) k more:=Wg.tT
def Wg.mG(F:x.aH tag k more)(hi:i<k)(eH:i≠0)(hc:cd (tag i)=15)(hl:cd l=16) :Wg.aH x (upd tag i l) k more:=Wg.tT
def Wg.mE(F:x.aH tag k more)(hi:i<k)(eH:i≠0)(hc:cd (tag i)=16)(hl:cd l=15) :Wg.aH x (upd tag i l) k more:=Wg.tT
def Wg.mD(F:x.aH tag k more)(hi:i<k)(eH:i≠0)(hc:cd (tag i)=16)(hl:cd l=18) :Wg.aH x (upd tag i l) k more:=Wg.tT
def Wg.mF(F:x.aH tag k more)(hi:i<k)(eH:i≠0)(hc:cd (tag i)=15)(hl:cd l=17) :Wg.aH x (upd tag i l) k more:=Wg.tT
def Wg.mC(F:x.aH tag k more)(hi:i<k)(eH:i≠0)(hc:cd (tag i)=17)(hl:cd l=18) :Wg.aH x (upd tag i l) k more:=Wg.tT
def Wg.mB(F:x.aH tag k more)(hi:i<k)(eH:i≠0)(hc:cd (tag i)=18)(hl:cd l=19) :Wg.aH x (upd tag i l) k more:=Wg.tT
def Wg.oJ(F:x.aH tag k more)(hi:i<k)(eH:i≠0)(hc:cd (tag i)=1)(hl:cd l=20) :Wg.aH x (upd tag i l) k more:=Wg.tT
def Wg.mA(F:x.aH tag k more)(hi:i<k)(eH:i≠0)(hc:cd (tag i)=19)(hl:cd l=20) :Wg.aH x (upd tag i l) k more:=Wg.tT
def Wg.l9(F:x.aH tag k more)(hi:i<k)(eH:i≠0)(hc:cd (tag i)=20)(hl:cd l=21) :Wg.aH x (upd tag i l) k more:=Wg.tT
def Wg.l8(F:x.aH tag k more)(hi:i<k)(eH:i≠0)(hc:cd (tag i)=22)(hl:cd l=23) :Wg.aH x (upd tag i l) k more:=Wg.tT
end
end
variable{n0 b q k i:Nat}{l:Loc}{zC:Nat->Prop}{fn:FuncId}{pos:String}{es:Array Event}{x y:MemOp}
open Go.Conc
structure TC where
 M:Nat
 W:Nat
 base:Nat
 n0:Nat
 old:Loc->Prop
def cC(b:Nat):Addr:=⟨b,0,none⟩
def TC.Sh(C:TC)(l:Loc):Prop:=∃b,l.dY=some b/\(b=C.M\/b=C.W)
def TC.live(C:TC)(next j:Nat):Prop:=j<next/\(j=0\/C.base<=j)
def sY(n0 b:Nat)(t:Trace)(q:Nat):Prop:=∃r y,n0<=r/\t[r]? = some y/\y.act=.mark (.releaseMerge (cC b))/\t.heard r/\Before t q r
def sY.app{t:Trace}(u:Trace)(h:sY n0 b t q):sY n0 b (t++u) q:=by obtain⟨r,y,d,a,e,f,g⟩:=h;have c:=lt_size_of_getElem? a;exact⟨r,y,d,by rw[getElem?_append_old c];exact a,e,(heard_old c).2 f,g.app u⟩
structure Tr(C:TC)(next:Nat)(done pl:Nat->Prop)(t:Trace):Prop where
 pos:1<=C.base
 size:C.n0<=t.size
 fV:∀q x,t[q]? = some x->C.n0<=q->x.act≠.mark (.release (cC C.M))/\x.act≠.mark (.release (cC C.W))
 iA:∀q x a,t[q]? = some x->x.act.touch? = some a->C.Sh a.loc->(a.kind≠.plain/\(a.kind=.said->x.g=0))\/∀j,C.live next j->Knows t j q
 fN:∀q x a b,t[q]? = some x->x.act.touch? = some a->a.loc.dY=some b->pl b->(∀j,C.live next j->Knows t j q)\/sY C.n0 C.M t q
 kW:∀q x a,t[q]? = some x->x.act.touch? = some a->a.loc.isMemory=true->C.base<=x.g->x.g<next->done x.g->(a.kind=.atomic/\C.Sh a.loc/\¬ t.heard q)\/sY C.n0 C.W t q
 early:∀q x a,t[q]? = some x->q<C.n0->x.act.touch? = some a->a.loc.isMemory=true->Knows t 0 q\/(a.kind=.atomic/\C.old a.loc)
 fP:∀q x,t[q]? = some x->q<C.n0->x.g≠0->t.counts q->∃j y,t[j]? = some y/\y.g=0/\HappensBefore t q j
 kZ:∀q x a,t[q]? = some x->C.n0<=q->x.act.touch? = some a->a.loc.isMemory=true->x.g=0\/(C.base<=x.g/\x.g<next)
 kU:∀q x,t[q]? = some x->C.n0<=q->x.act=.mark (.releaseMerge (cC C.M))->C.base<=x.g/\x.g<next/\(done x.g->sY C.n0 C.W t q)
section
variable{C:TC}{next:Nat}{done pl:Nat->Prop}{t u:Trace}
def WV(C:TC)(next:Nat)(done pl:Nat->Prop)(t:Trace)(q:Nat)(x:MemOp):Prop:=
 (x.act≠.mark (.release (cC C.M))/\x.act≠.mark (.release (cC C.W))/\(x.act=.mark (.releaseMerge (cC C.M))->C.base<=x.g/\x.g<next/\¬ done x.g))/\∀a,x.act.touch? = some a->a.loc.isMemory=true ->
  (x.g=0\/(C.base<=x.g/\x.g<next))/\(C.Sh a.loc->a.kind≠.plain/\(a.kind=.said->x.g=0))/\(∀b,a.loc.dY=some b->¬ pl b)/\(x.g≠0->done x.g->a.kind=.atomic/\C.Sh a.loc/\¬ t.heard q)
theorem ZpX(h:C.Sh l):l.isMemory=true:=by obtain⟨b,hb,_⟩:=h;cases l<;>simp[Loc.dY]at hb<;>rfl
theorem T5(hb:l.dY=some b):l.isMemory=true:=by cases l<;>simp[Loc.dY]at hb<;>rfl
theorem Tr.app(h:Tr C next done pl t)(O:∀q x,t.size<=q->(t++u)[q]? = some x->WV C next done pl (t++u) q x):Tr C next done pl (t++u):=by
 have split:∀{q x},(t++u)[q]? = some x->(q<t.size/\t[q]? = some x)\/WV C next done pl (t++u) q x:=by
  intro q x d;rcases getElem?_append_cases d with c | ⟨c,_⟩
  ·exact .inl c
  exact .inr (O q x c d)
 refine⟨h.pos,qAE h.size (by simp),?_,?_,?_,?_,?_,?_,?_,?_⟩
 ·intro q x d m;rcases split d with⟨_,c⟩ | c
  ·exact h.fV q x c m
  exact⟨c.1.1,c.1.2.1⟩
 ·intro q x a d f E;rcases split d with⟨_,c⟩ | c
  ·exact(h.iA q x a c f E).imp id λD j B=>(D j B).app u
  exact .inl ((c.2 a f (ZpX E)).2.1 E)
 ·intro q x a b d f hb I;rcases split d with⟨_,c⟩ | c
  ·exact(h.fN q x a b c f hb I).imp (λD j B=>(D j B).app u) (·.app u)
  exact absurd I ((c.2 a f (T5 hb)).2.2.1 b hb)
 ·intro q x a d f v c o r;rcases split d with⟨m,s⟩ | s
  ·exact(h.kW q x a s f v c o r).imp (λ⟨J,K,L⟩=>⟨J,K,λe=>L ((heard_old m).1 e)⟩) (·.app u)
  by_cases A:x.g=0
  ·have:=h.pos;omega
  exact .inl ((s.2 a f v).2.2.2 A r)
 ·intro q x a d m f v;rcases split d with⟨_,c⟩ | c
  ·exact(h.early q x a c m f v).imp (·.app u) id
  rcases getElem?_append_cases d with⟨_,o⟩ | ⟨o,_⟩
  ·exact(h.early q x a o m f v).imp (·.app u) id
  have:=h.size;omega
 ·intro q x d m A N;rcases getElem?_append_cases d with⟨c,o⟩ | ⟨o,_⟩
  ·obtain⟨j,y,r,s,M⟩:=h.fP q x o m A ((counts_old c).1 N);exact⟨j,y,by rw[getElem?_append_old (lt_size_of_getElem? r)];exact r,s,hb_app u M⟩
  have:=h.size;omega
 ·intro q x a d m f v;rcases split d with⟨_,c⟩ | c
  ·exact h.kZ q x a c m f v
  exact(c.2 a f v).1
 intro q x d m f;rcases split d with⟨_,c⟩ | c
 ·obtain⟨o,r,s⟩:=h.kU q x c m f;exact⟨o,r,λz=>(s z).app u⟩
 obtain⟨o,r,s⟩:=c.1.2.2 f;exact⟨o,r,λz=>absurd z s⟩
def Tr.sub(h:Tr C next done pl t){c:Nat->Prop}(o:∀j,c j->done j)(v:∀b,zC b->pl b):Tr C next c zC t:=
 ⟨h.pos,h.size,h.fV,h.iA,λq x a b d f g m=>h.fN q x a b d f g (v b m),λq x a d f g m r s=>h.kW q x a d f g m r (o _ s),h.early,h.fP,h.kZ,λq x d f g=>let⟨a,b,e⟩:=h.kU q x d f g;⟨a,b,λh=>e (o _ h)⟩⟩
def rH(C:TC)(i d:Nat)(es:Array Event):Prop:=∀k e,es[k]? = some e ->
 ((MemAct.ofEvent e)≠.mark (.release (cC C.M))/\(MemAct.ofEvent e)≠.mark (.release (cC C.W))/\(MemAct.ofEvent e)≠.mark (.releaseMerge (cC C.M))) /\
 ∀a,(MemAct.ofEvent e).touch? = some a->a.loc.isMemory=true->C.Sh a.loc/\a.kind≠.plain/\(a.kind=.said->i=0)/\(i≠0->a.kind=.atomic/\deafBehind d (es.extract 0 k)≠0)
def ZtQ(i:Nat)(fn:FuncId)(pos:String)(es:Array Event):(MemOp.ofEvents i fn pos es).size=es.size:=by rw[ofEvents_eq];simp
def ZtR(i:Nat)(fn:FuncId)(pos:String)(es:Array Event)(k:Nat):(MemOp.ofEvents i fn pos es)[k]? = (es[k]?).map λe=>{ g:=i,fn,pos,act:=.ofEvent e }:=by rw[ofEvents_eq];simp
def ZwI(t:Trace)(i:Nat)(fn:FuncId)(pos:String)(es:Array Event)(d:k<=es.size):(t++MemOp.ofEvents i fn pos es).deaf i (t.size+k)=deafBehind (Deaf t i) (es.extract 0 k):=by
 have e:es=es.extract 0 k++es.extract k es.size:=by simp[d]
 have c:MemOp.ofEvents i fn pos es=MemOp.ofEvents i fn pos (es.extract 0 k)++MemOp.ofEvents i fn pos (es.extract k es.size):=by
  conv=>lhs;rw[e]
  simp only[ofEvents_eq,Array.map_append]
 rw[c,<-qCV];have a:(t++MemOp.ofEvents i fn pos (es.extract 0 k)).size=t.size+k:=by rw[Array.size_append,ZtQ];simp;omega
 rw[deaf_old (by rw[a];exact AT _),<-Deaf_own t i fn pos (es.extract 0 k)];unfold Deaf;rw[a]
def ZtW(f:t.size<=q)(a:(t++MemOp.ofEvents i fn pos es)[q]? = some x) :
  ∃k e,q=t.size+k/\es[k]? = some e/\x={ g:=i,fn,pos,act:=.ofEvent e }:=by
 rw[Array.getElem?_append_right f,ZtR]at a;obtain⟨e,c,d⟩:=qAk.1 a;exact⟨q-t.size,e,O,c,d.symm⟩
def ZuA{α:Type}{a:Array α}{e:α}(h:a[k]? = some e):k<a.size:=(qAr.1 h).1
def Tr.evs(h:Tr C next done pl t)(hi:C.live next i)(m:∀b,pl b->b≠C.M/\b≠C.W)(J:rH C i (Deaf t i) es) :
  Tr C next done pl (t++MemOp.ofEvents i fn pos es):=by
 refine h.app λq x N A=>?_;obtain⟨k,e,rfl,z,rfl⟩:=ZtW N A;obtain⟨j,B⟩:=J k e z;refine⟨⟨j.1,j.2.1,λe=>absurd e j.2.2⟩,λa I K=>?_⟩;obtain⟨o,D,E,r⟩:=B a I K;refine⟨?_,λ_=>⟨D,E⟩,λb hb L=>?_,λd _=>?_⟩
 ·rcases hi.2 with f | f
  ·exact .inl f
  exact .inr ⟨f,hi.1⟩
 ·obtain⟨O,c,P⟩:=o;rw[hb]at c;obtain rfl:=iN c;have:=m b L;omega
 refine⟨(r d).1,o,?_⟩;rintro⟨g,v,s⟩;have:g=i:=by
  have:(t++MemOp.ofEvents i fn pos es).g? (t.size+k)=some i:=by unfold Trace.g?;rw[A];rfl
  rw[this]at v;exact(iN v).symm
 subst this;rw[ZwI t g fn pos es (Nat.le_of_lt (ZuA z))]at s;exact(r d).2 s
def Tr.lone(h:Tr C next done pl t)(hi:C.live next i)(m:i≠0->¬ done i){Hs:Hp}(s:Hs C.M≠none)(v:Hs C.W≠none)(o:∀b,pl b->Hs b≠none)(E:∀op∈u,CH i Hs op):Tr C next done pl (t++u):=by
 refine h.app λq x B I=>?_;obtain⟨j,r⟩:=E x ((getElem?_append_cases I).elim (λh=>absurd h.1 (qCu.2 B)) (·.2));rcases r with⟨loc,K,d,hb⟩ | ⟨f,d⟩ | d
 ·refine⟨by rw[d];simp,λa c J=>?_⟩;rw[d]at c;simp only[MemAct.touch?,aT]at c;subst c;refine⟨?_,λ⟨b,e,D⟩=>?_,λb e A=>o b A (hb b e),λg z=>absurd (by rw[<-j];exact z) (m (by rw[<-j];exact g))⟩
  ·rw[j];rcases hi.2 with g | g
   ·exact .inl g
   exact .inr ⟨g,hi.1⟩
  exfalso;have:=hb b e;rcases D with rfl | rfl
  ·exact s this
  exact v this
 ·exact⟨by rw[d];simp,λa c=>by rw[d]at c;simp[MemAct.touch?]at c⟩
 exact⟨by rw[d];simp,λa c=>by rw[d]at c;simp[MemAct.touch?]at c⟩
def Tr.quietly(h:Tr C next done pl t)(j:∀op∈u,op.act.touch? = none/\op.act≠.mark (.release (cC C.M))/\op.act≠.mark (.release (cC C.W))/\(op.act=.mark (.releaseMerge (cC C.M))->C.base<=op.g/\op.g<next/\¬ done op.g)):Tr C next done pl (t++u):=by refine h.app λq x f m=>?_;obtain⟨d,e⟩:=j x ((getElem?_append_cases m).elim (λh=>absurd h.1 (qCu.2 f)) (·.2));exact⟨e,λa c=>by rw[d]at c;simp at c⟩
def BW(t:Trace)(y:MemOp):(t++#[y])[t.size]? = some y:=by simp
def Ch{t:Trace}(a:Deaf t y.g=0):(t++#[y]).heard t.size:=
 ⟨y.g,by unfold Trace.g?;rw[BW];rfl,by rw[deaf_old (AT _)];exact a⟩
def MY{t:Trace}(d:n0<=t.size)(e:y.act=.mark (.releaseMerge (cC b)))(a:Deaf t y.g=0)(c:Knows t y.g q):sY n0 b (t++#[y]) q:=
 ⟨t.size,y,d,BW t y,e,Ch a,.inr (c.hb_new (AT _) (BW t y) rfl)⟩
def Tr.release(o:C.M≠C.W)(h:Tr C next done pl t)(v:y.act=.mark (.releaseMerge (cC C.W)))(A:Deaf t y.g=0):Tr C next (λj=>done j\/j=y.g) pl (t++#[y]):=by
 have d:Tr C next done pl (t++#[y]):=h.quietly λop r=>by simp only[qAb,iF]at r;rw[r,v];exact⟨rfl,by simp,by simp,λe=>absurd e (by simp[cC];exact λe=>o e.symm)⟩
 refine⟨d.pos,d.size,d.fV,d.iA,d.fN,?_,d.early,d.fP,d.kZ,λq x s L f=>?_⟩;rotate_left
 ·obtain⟨B,D,E⟩:=d.kU q x s L f;refine⟨B,D,λz=>z.elim E λm=>?_⟩;rcases getElem?_append_cases s with⟨_,c⟩ | ⟨_,c⟩
  ·exact MY h.size v A (m ▸ knows_own c)
  simp only[qAb,iF]at c;rw[c,v]at f;simp[cC]at f;exact absurd f.symm o
 intro q x a s f K I J m;rcases m with m | m
 ·exact d.kW q x a s f K I J m
 rcases getElem?_append_cases s with⟨_,c⟩ | ⟨_,c⟩
 ·exact .inr (MY h.size v A (m ▸ knows_own c))
 simp only[qAb,iF]at c;rw[c,v]at f;simp[MemAct.touch?]at f
def Tr.J0(h:Tr C next done pl t)(o:y.act=.mark (.releaseMerge (cC C.M)))(v:Deaf t y.g=0)(r:C.base<=y.g/\y.g<next/\¬ done y.g)
  (z:∀b,zC b->pl b\/∀q x a,t[q]? = some x->x.act.touch? = some a->a.loc.dY=some b->Knows t y.g q):Tr C next done zC (t++#[y]):=by
 have c:Tr C next done pl (t++#[y]):=h.quietly λop e=>by simp only[qAb,iF]at e;rw[e,o];exact⟨rfl,by simp,by simp,λ_=>r⟩
 refine⟨c.pos,c.size,c.fV,c.iA,?_,c.kW,c.early,c.fP,c.kZ,c.kU⟩;intro q x a b s f hb m;rcases z b m with j | j
 ·exact c.fN q x a b s f hb j
 rcases getElem?_append_cases s with⟨_,d⟩ | ⟨_,d⟩
 ·exact .inr (MY h.size o v (j q x a d f hb))
 simp only[qAb,iF]at d;rw[d,o]at f;simp[MemAct.touch?]at f
def PF{t:Trace}(c:∀q x,(t++#[y])[q]? = some x->n0<=q->x.act≠.mark (.release (cC b)))(I:y.act=.mark (.acquire (cC b)))(A:Deaf t y.g=0)(h:sY n0 b t q):Knows (t++#[y]) y.g q:=by
 obtain⟨r,z,J,m,o,s,v⟩:=h;have d:=lt_size_of_getElem? m;have f:(t++#[y])[r]? = some z:=by rw[getElem?_append_old d];exact m
 have a:HappensBefore (t++#[y]) r t.size:=.single (.inr ⟨.marked d (.inr (by rw[act?_of f,o])) (by rw[act?_of (BW t y),I])
  (λk B D e=>by obtain⟨x,E,j⟩:=qAk.1 e;exact c k x E O j),(heard_old d).2 s,Ch A⟩)
 exact⟨t.size,y,BW t y,rfl,.inr ((v.app #[y]).hb a)⟩
def Tr.take(h:Tr C next done pl t)(m:y.act=.mark (.acquire (cC C.M)))(s:Deaf t y.g=0)(v:C.live next y.g) :
  Tr C next done (λ_=>False) (t++#[y])/\∀b,pl b->∀q x a,(t++#[y])[q]? = some x->x.act.touch? = some a->a.loc.dY=some b->Knows (t++#[y]) y.g q:=by
 have o:Tr C next done pl (t++#[y]):=h.quietly λop d=>by simp only[qAb,iF]at d;rw[d,m];exact⟨rfl,by simp,by simp,by simp⟩
 refine⟨o.sub (λ_ h=>h) (λ_ h=>h.elim),λb z q x a j e hb=>?_⟩;rcases getElem?_append_cases j with⟨r,c⟩ | ⟨_,c⟩
 ·rcases h.fN q x a b c e hb z with f | f
  ·exact(f _ v).app _
  exact PF (λq x j r=>(o.fV q x j r).1) m s f
 simp only[qAb,iF]at c;rw[c,m]at e;simp[MemAct.touch?]at e
theorem Tr.all(h:Tr C next done pl t)(S:y.act=.mark (.acquire (cC C.W)))(Z:Deaf t y.g=0)(X:y.g=0)(v:∀j,C.base<=j->j<next->done j) :
  (∀q x a,(t++#[y])[q]? = some x->x.act.touch? = some a->a.loc.isMemory=true->Knows (t++#[y]) 0 q\/(a.kind=.atomic/\(C.old a.loc\/C.Sh a.loc)))/\(t++#[y]).HandedOver /\
  ∀q x a b,t[q]? = some x->x.act.touch? = some a->a.loc.dY=some b->pl b->0<next->Knows (t++#[y]) 0 q:=by
 have hq:Tr C next done pl (t++#[y]):=h.quietly λop P=>by simp only[qAb,iF]at P;rw[P,S];exact⟨rfl,by simp,by simp,by simp⟩
 have hn:∀a,y.act.touch? = some a->False:=λa d=>by rw[S]at d;simp[MemAct.touch?]at d
 have key:∀q x a,t[q]? = some x->x.act.touch? = some a->a.loc.isMemory=true->C.n0<=q->Knows (t++#[y]) 0 q\/(a.kind=.atomic/\C.Sh a.loc/\¬ t.heard q):=by
  intro q x a f d B V;rcases h.kZ q x a f V d B with m | ⟨m,J⟩
  ·have O:=knows_own f;rw[m]at O;exact .inl (O.app _)
  rcases h.kW q x a f d B m J (v _ m J)with o | o
  ·exact .inr o
  exact .inl (X ▸ PF (λq x f I=>(hq.fV q x f I).2) S Z o)
 refine⟨λq x a f d B=>?_,?_,λq x a b f d hb hp U=>?_⟩;rotate_left 2
 ·rcases h.fN q x a b f d hb hp with m | ⟨r,z,K,L,e3,e4,e5⟩
  ·exact(m 0 ⟨U,.inl rfl⟩).app _
  obtain⟨g1,g2,g3⟩:=h.kU r z L K e3;have O:=PF (λq x f I=>(hq.fV q x f I).2) S Z (g3 (v _ g1 g2));rw[X]at O;exact O.of_before (e5.app _)
 ·rcases getElem?_append_cases f with⟨_,c⟩ | ⟨_,c⟩
  ·rcases qAM q C.n0 with E | D
   ·exact(h.early q x a c E d B).imp (·.app _) λ⟨K,L⟩=>⟨K,.inl L⟩
   exact(key q x a c d B D).imp id λ⟨K,L,_⟩=>⟨K,.inr L⟩
  simp only[qAb,iF]at c;rw[c]at d;exact(hn a d).elim
 intro q g hg N hc;obtain⟨x,f,Q⟩:=qAk.1 hg;obtain⟨a,d,B,M⟩:=hc;have s:x.act.touch? = some a:=by rw[act?_of f]at d;exact d
 rcases getElem?_append_cases f with⟨A,c⟩ | ⟨_,c⟩
 ·rcases qAM q C.n0 with E | D
  ·obtain⟨j,z,m,J,o⟩:=h.fP q x c E (by rw[Q];exact N) ⟨a,by rw[act?_of c];exact s,B,M.imp id λe=>(heard_old A).1 e⟩;exact⟨j,by unfold Trace.g?;rw[getElem?_append_old (lt_size_of_getElem? m),m];simp[J],hb_app _ o⟩
  rcases key q x a c s B D with m | ⟨m,_,J⟩
  ·obtain⟨p,z,o,Y,T⟩:=m;rcases T with rfl | T
   ·rw[f]at o;obtain rfl:=iN o;exact absurd (Q.symm.trans Y) N
   exact⟨p,by unfold Trace.g?;rw[o];simp[Y],T⟩
  exfalso;rcases M with o | o
  ·exact o m
  exact J ((heard_old A).1 o)
 simp only[qAb,iF]at c;rw[c]at s;exact(hn a s).elim
theorem Tr.uG(h:Tr C next done pl t)(hb:C.base<=next)(I:x.g=0/\x.act=.go next)(J:y.g=next/\y.act=.start)(M:Deaf t 0=0)(P:Deaf t next=0)(Q:0<next):Tr C (next+1) (λj=>done j/\j<next) pl (t++#[x,y]):=by
 have o:Tr C next done pl (t++#[x,y]):=h.quietly λop A=>by
  simp only[qAb,DO,qBF,qCS]at A;rcases A with rfl | rfl
  ·rw[I.2];exact⟨rfl,by simp,by simp,by simp⟩
  rw[J.2];exact⟨rfl,by simp,by simp,by simp⟩
 have B:∀q,(∀j,C.live next j->Knows t j q)->∀j,C.live (next+1) j->Knows (t++#[x,y]) j q:=by
  intro q v j L;rcases qAM j next with s | s
  ·exact(v j ⟨s,L.2⟩).app _
  obtain rfl:j=next:=by have:=L.1;omega
  exact Go.ConcN.fork_knows I J M P (v 0 ⟨Q,.inl rfl⟩)
 have m:∀{q:Nat} {z:MemOp} {a:Touch},(t++#[x,y])[q]? = some z->z.act.touch? = some a->t[q]? = some z:=by
  intro q z a d c;rcases getElem?_append_cases d with⟨_,f⟩ | ⟨_,f⟩
  ·exact f
  simp only[qAb,DO,qBF,qCS]at f;rcases f with rfl | rfl
  ·rw[I.2]at c;simp[MemAct.touch?]at c
  rw[J.2]at c;simp[MemAct.touch?]at c
 refine⟨h.pos,o.size,o.fV,λq z a d c T=>(h.iA q z a (m d c) c T).imp id (B q),λq z a b d c D S=>(h.fN q z a b (m d c) c D S).imp (B q) (·.app _),?_,o.early,o.fP,λq z a d r c E=>(o.kZ q z a d r c E).imp id λ⟨s,N⟩=>⟨s,O⟩,λq z d r c=>let⟨a,b,e⟩:=o.kU q z d r c;⟨a,O,λh=>e h.1⟩⟩;intro q z a d c E s N K;exact o.kW q z a d c E s K.2 K.1
def Tr.known(h:Tr C next done pl t)(hi:C.live next i){said:Bool}{b:Touch}(A:C.Sh b.loc)(v:b.kind≠.plain)(j:b.kind=.said->i=0){a:Touch}(r:touchAt t q=some a)(s:a.conflicts said b):Knows t i q:=by
 obtain⟨x,g,f⟩:=touch_of r;obtain⟨z,_,_,e⟩:=s;rcases h.iA q x a g f (by rw[z];exact A)with⟨d,m⟩ | d
 ·rcases e with c | c | ⟨_,c,o⟩
  ·exact absurd c d
  ·exact absurd c v
  have:=knows_own g;rw[m c]at this;rw[j o];exact this
 exact d i hi
end
