import Derived.Test.YthmnpenamnoniaaGreatDoorP13
set_option linter.all false
section
namespace Go.LL
open Go.Conc (Knows Deaf touchAt QuitsD crowd woken Leavers Past)
open Go.ConcN (sumTo upd sumTo_upd upd_ne upd_same)
def Zhe (H:Hp)(n:Nat)(l:Loc):Prop:=∃ b,l.blk=some b∧b<n∧H b=none
def Unk (t:Trace)(b:Nat):Prop:=∃ i a,touchAt t i=some a∧a.loc.blk=some b∧¬ Knows t 0 i
structure Alone (p:Program)(H:Hp)(gs:Array Goroutine)(w:World)(t:Trace)(q:Nat->Nat):Prop where
 leavers:Leavers p t gs q
 past:Past (Zhe H w.heap.size) w.heap.size t
 le:H.le w
theorem Alone.unk {p:Program}{H:Hp}{gs:Array Goroutine}{w:World}{t:Trace}{q:Nat->Nat}(h:Alone p H gs w t q){b:Nat}(hb:Unk t b):H b=none:=by
 obtain⟨i,a,h1,h2,h3⟩:=hb
 have hm:a.loc.isMemory=true:=by cases hl:a.loc<;>simp[hl,Loc.blk]at h2<;>rfl
 rcases h.past.known i a h1 hm with h4 | ⟨⟨b',h4,_,h5⟩,_⟩
 ·exact absurd h4 h3
 ·rw[h2]at h4
  obtain rfl:=Option.some.inj h4
  exact h5
theorem Zjc {H H':Hp}{n n':Nat}{t:Trace}(h:Past (Zhe H n) n' t)(hn:n<=n')(hu:∀ b,Unk t b->H' b=none):Past (Zhe H' n') n' t:=by
 refine⟨h.clean,fun i a h1 h2=>?_,h.over,h.hears,h.seen⟩
 by_cases hk:Knows t 0 i
 ·exact .inl hk
 ·rcases h.known i a h1 h2 with h3 | ⟨⟨b,h3,h4,_⟩,h5⟩
  ·exact .inl h3
  ·exact .inr ⟨⟨b,h3,Nat.lt_of_lt_of_le h4 hn,hu b ⟨i,a,h1,h3,hk⟩⟩,h5⟩
structure Turn (H:Hp)(w:World)(t:Trace)(H':Hp)(w':World)(t':Trace):Prop where
 out:Out w w'
 grown:w.heap.size<=w'.heap.size
 keep:∀ b,b<w.heap.size->(∀ o,H b≠some (o,true))->w'.heap[b]? = w.heap[b]?
 org:From H .nil w H'
 unk:∀ b,Unk t' b->Unk t b∨w.heap.size<=b∨∃ o,H b=some (o,true)
 gh:H'.gh=H.gh
theorem From.nil {H K:Hp}{w:World}(h:From H .nil w K){b:Nat}{x:Obj×Bool}(hx:K b=some x):w.heap.size<=b∨∃ y,H b=some y∧(y.2=false->x=y):=
 (h b x hx).imp id fun ⟨y,hy,he⟩=>⟨y,hy.resolve_right (by simp[Hp.nil]),he⟩
theorem Zmd (F:Hp):Hp.nil.Dis F:=fun b x y h=>by simp[Hp.nil]at h
theorem Turn.refl {H:Hp}{w:World}{t:Trace}:Turn H w t H w t:=
 ⟨.refl w,Nat.le_refl _,fun _ _ _=>rfl,fun b x h=>.inr ⟨x,.inl h,fun _=>rfl⟩,fun b h=>.inl h,rfl⟩
theorem Turn.trans {H₁ H₂ H₃:Hp}{w₁ w₂ w₃:World}{t₁ t₂ t₃:Trace}(a:Turn H₁ w₁ t₁ H₂ w₂ t₂)(b:Turn H₂ w₂ t₂ H₃ w₃ t₃):Turn H₁ w₁ t₁ H₃ w₃ t₃:=by
 have hup:∀ x o,H₂ x=some (o,true)->w₁.heap.size<=x∨∃ o',H₁ x=some (o',true):=by
  intro x o h
  rcases a.org.nil h with h1 | ⟨⟨yo,yp⟩,h1,h2⟩
  ·exact .inl h1
  ·cases yp with
   | true=>exact .inr ⟨yo,h1⟩
   | false=>have:=h2 rfl;simp at this
 refine⟨a.out.trans b.out,Nat.le_trans a.grown b.grown,fun x hx hn=>?_,fun x y hy=>?_,fun x hx=>?_,b.gh.trans a.gh⟩
 ·rw[b.keep x (Nat.lt_of_lt_of_le hx a.grown) fun o ho=>?_]
  ·exact a.keep x hx hn
  ·rcases hup x o ho with h | ⟨o',h⟩
   ·omega
   ·exact hn o' h
 ·rcases b.org.nil hy with h | ⟨z,hz,he⟩
  ·exact .inl (Nat.le_trans a.grown h)
  ·rcases a.org.nil hz with h | ⟨v,hv,hf⟩
   ·exact .inl h
   ·refine .inr ⟨v,.inl hv,fun h=>?_⟩
    have e:=hf h
    rw[<-e]at h ⊢
    exact he h
 ·rcases b.unk x hx with h | h | ⟨o,h⟩
  ·exact a.unk x h
  ·exact .inr (.inl (Nat.le_trans a.grown h))
  ·exact .inr (hup x o h)
theorem Turn.frame {H H' F:Hp}{w w':World}{t t':Trace}(hc:H.Comp F)(h:Turn H w t H' w' t'):Turn (H.join F) w t (H'.join F) w' t':=by
 refine⟨h.out,h.grown,fun b hb hn=>h.keep b hb fun o ho=>hn o (Hp.join_left ho),fun b x hx=>?_,fun b hb=>?_,by rw[Hp.join_gh,Hp.join_gh,h.gh]⟩
 ·simp only[Hp.join_at]at hx
  cases hh:H' b with
  | none=>rw[hh]at hx;exact .inr ⟨x,.inl (Hp.join_right hc hx),fun _=>rfl⟩
  | some z=>
   rw[hh]at hx
   obtain rfl:=Option.some.inj hx
   exact(h.org.nil hh).imp id fun ⟨y,hy,he⟩=>⟨y,.inl (Hp.join_left hy),he⟩
 ·exact(h.unk b hb).imp id (Or.imp id fun ⟨o,h⟩=>⟨o,Hp.join_left h⟩)
def Gets0 (p:Program)(R:Frame->List Frame->Hp->Prop)(H:Hp)(gs:Array Goroutine)(w:World)(sl:Option (Nat×Nat))(t:Trace):Prop:=
 ∃ k gs' w' sl' t' q' H' fr' cs',runNT p k (crowd gs w sl) t=(.next (crowd gs' w' sl'),t')∧gs'[0]? = some (gor fr' cs')∧Alone p H' gs' w' t' q'∧Turn H w t H' w' t'∧R fr' cs' H'
def ZgC (p:Program)(R:Frame->List Frame->Hp->Prop)(fr:Frame)(cs:List Frame)(H:Hp):Prop:=
 ∀ gs w sl t q,Alone p H gs w t q->gs[0]? = some (gor fr cs)->Gets0 p R H gs w sl t
theorem Alone.left {p:Program}{H F:Hp}{gs:Array Goroutine}{w:World}{t:Trace}{q:Nat->Nat}(h:Alone p (H.join F) gs w t q):Alone p H gs w t q:=
 ⟨h.leavers,Zjc h.past (Nat.le_refl _) fun b hb=>(Hp.join_none.1 (h.unk hb)).1,h.le.left⟩
theorem ZgC.frame {p:Program}{R:Frame->List Frame->Hp->Prop}{fr:Frame}{cs:List Frame}{H F:Hp}(hc:H.Comp F)(h:ZgC p R fr cs H):ZgC p (fun fr cs HF=>∃ H',HF=H'.join F∧H'.Comp F∧R fr cs H') fr cs (H.join F):=by
 intro gs w sl t q ha h0
 obtain⟨k,gs',w',sl',t',q',H',fr',cs',h1,h2,h3,h4,h5⟩:=h gs w sl t q ha.left h0
 have hF:F.le w:=ha.le.right hc
 have hd:H'.Dis F:=h4.org.dis hF hc.mem (Zmd F)
 have hF':F.le w':=stays (Hs:=.nil) hc.mem (Zmd F) hF fun b hb hn _=>h4.keep b hb hn
 refine⟨k,gs',w',sl',t',q',H'.join F,fr',cs',h1,h2,⟨h3.leavers,Zjc h3.past (Nat.le_refl _) fun b hb=>?_,?_⟩,h4.frame hc,H',rfl,⟨hd,by rw[h4.gh];exact hc.gh⟩,h5⟩
 ·refine Hp.join_none.2 ⟨h3.unk hb,?_⟩
  cases hfb:F b with
  | none=>rfl
  | some x=>
   rcases h4.unk b hb with h | h | ⟨o,h⟩
   ·rw[(Hp.join_none.1 (ha.unk h)).2]at hfb;simp at hfb
   ·exact absurd (hF.lt hfb) (by omega)
   ·have:=(hc b _ _ h hfb).2;simp at this
 ·intro b o pm hb
  simp only[Hp.join_at]at hb
  cases hh:H' b with
  | none=>rw[hh]at hb;exact hF' b o pm hb
  | some z=>rw[hh]at hb;exact h3.le b o pm (by rw[hh];exact hb)
theorem ZgC.mono {p:Program}{R R':Frame->List Frame->Hp->Prop}(hr:∀ fr cs H,R fr cs H->R' fr cs H){fr:Frame}{cs:List Frame}{H:Hp}(h:ZgC p R fr cs H):ZgC p R' fr cs H:=by
 intro gs w sl t q ha h0
 obtain⟨k,gs',w',sl',t',q',H',fr',cs',h1,h2,h3,h4,h5⟩:=h gs w sl t q ha h0
 exact⟨k,gs',w',sl',t',q',H',fr',cs',h1,h2,h3,h4,hr _ _ _ h5⟩
def envP (p:Program):Env where
 sh:=ZgC p
 shMono:=fun hr _ _ _ h=>h.mono hr
 shFrame:=fun hc h=>h.frame hc
theorem ZcS {p:Program}:∀ {k k':Nat} {m m':Machine} {t t':Trace} {r:Stepped×Trace},runNT p k m t=(.next m',t')->runNT p k' m' t'=r->runNT p (k+k') m t=r
 | 0,k',m,m',t,t',r,h,h'=>by
  simp only[runNT,Prod.mk.injEq,Stepped.next.injEq]at h
  obtain⟨rfl,rfl⟩:=h
  rw[Nat.zero_add];exact h'
 | k+1,k',m,m',t,t',r,h,h'=>by
  rw[Nat.add_right_comm]
  cases hs:stepT p m with
  | mk e ops=>
   cases e with
   | next m1=>
    simp only[runNT,hs]at h ⊢
    exact ZcS h h'
   | ended o w=>simp[runNT,hs]at h
theorem Zlk {p:Program}{R:Frame->List Frame->Hp->Prop}{fr:Frame}{cs:List Frame}{H:Hp}
  (hs:∀ w,H.le w->∃ fr' cs' w' H' es,stepG p true (gor fr cs) w=.go (gor fr' cs') w' es∧Fr H w H' w'∧R fr' cs' H'∧∀ e∈es,EvL H w w'.heap.size e) :
  ∀ (N:Nat) (gs:Array Goroutine) (w:World) (sl:Option (Nat×Nat)) (t:Trace) (q:Nat->Nat),sumTo gs.size q<=N->Alone p H gs w t q->gs[0]? = some (gor fr cs)->Gets0 p R H gs w sl t:=by
 intro N
 induction N using Nat.strongRecOn with
 | _ N ih=>
 intro gs w sl t q hN ha h0
 have hL:=ha.leavers
 have haw:∀ g∈gs,Go.Conc.awake g:=by
  intro g hg
  obtain⟨i,hi,rfl⟩:=Array.mem_iff_getElem.1 hg
  rcases Nat.eq_zero_or_pos i with rfl | hpos
  ·have:gs[0]=gor fr cs:=by simpa[Array.getElem?_eq_getElem hi]using h0
   rw[this];exact Go.Conc.awake_of (.inl rfl)
  ·exact Go.Conc.awake_of ((hL.old i _ hpos (Array.getElem?_eq_getElem hi)).status.elim .inl fun x=>.inr (.inr x))
 obtain⟨i,g,d,sl',hi,hg,hst⟩:=Go.Conc.crowd_pick (P:=p) (w:=w) (sl:=sl) haw ⟨0,_,h0,rfl⟩
 have hlt0:0<gs.size:=(Array.getElem?_eq_some_iff.1 h0).1
 rcases Nat.eq_zero_or_pos i with rfl | hpos
 ·obtain rfl:g=gor fr cs:=by rw[h0]at hi;exact(Option.some.inj hi).symm
  have hle:H.le (w.at d):=ha.le
  obtain⟨fr',cs',w',H',es,h1,f,hR,he⟩:=hs (w.at d) hle
  have hrun:=Go.Conc.runT_crowd_go (P:=p) (sl:=sl') (i:=0) hi (show stepG p (0 == 0) (gor fr cs) (w.at d)=_ from h1)
  have hsz:((gs.map (woken p (gor fr cs) (gor fr' cs') w')).setIfInBounds 0 (gor fr' cs')).size=gs.size:=by simp
  have hown:∀ op∈MemOp.ofEvents 0 (gor fr cs).frame.fn (gor fr cs).frame.place es,op.g=0:=fun op hop=>by obtain⟨e,_,rfl⟩:=Go.Conc.mem_ofEvents hop;rfl
  have hunk:∀ b,Unk (t++MemOp.ofEvents 0 (gor fr cs).frame.fn (gor fr cs).frame.place es) b->Unk t b:=by
   rintro b ⟨j,a,hj,hb,hk⟩
   obtain⟨x,hx,hxa⟩:=Go.Conc.touch_of hj
   rcases Go.Conc.getElem?_append_cases hx with ⟨_,hx'⟩ | ⟨_,hxu⟩
   ·exact⟨j,a,by rw[Go.Conc.touchAt_of hx'];exact hxa,hb,fun h=>hk (h.app _)⟩
   ·have:=Go.Conc.knows_own hx
    rw[hown x hxu]at this
    exact absurd this hk
  have hnone:∀ b,Unk t b->H' b=none:=by
   intro b hb
   have h2:=ha.unk hb
   obtain⟨j,a,hj,hbl,_⟩:=hb
   obtain⟨x,hx,hxa⟩:=Go.Conc.touch_of hj
   have hlow:=ZeL hxa hbl (ha.past.seen x (Go.Conc.mem_of_getElem? hx))
   cases hh:H' b with
   | none=>rfl
   | some y=>exact absurd (f.new b h2 (by rw[hh];simp)) (Nat.not_le.2 hlow)
  have hpast:Past (Zhe H w.heap.size) w'.heap.size (t++MemOp.ofEvents 0 (gor fr cs).frame.fn (gor fr cs).frame.place es):=by
   refine(ha.past.mono f.size).own fun e hee=>?_
   have hev:=he e hee
   refine⟨fun x hx hsh=>?_,?_,?_,?_⟩
   ·obtain⟨b,hb,hlt,hn⟩:=hsh
    rcases ZjN hev hx hb with ⟨o,pm,h2,_⟩ | ⟨h2,_⟩
    ·rw[hn]at h2;simp at h2
    ·exact absurd hlt (Nat.not_lt.2 h2)
   ·rintro hm
    rw[EvL,hm]at hev
    exact hev
   ·rintro hm
    rw[EvL,hm]at hev
    exact hev
   ·have hlt:∀ b,((∃ o p,H b=some (o,p)∧(e.write=true->p=true))∨(w.at d).heap.size<=b∧b<w'.heap.size)->b<w'.heap.size:=by
     rintro b (⟨o,pm,h2,_⟩ | h2)
     ·exact Nat.lt_of_lt_of_le (ha.le.lt h2) f.size
     ·exact h2.2
    obtain⟨loc,wr,sy⟩:=e
    cases loc with
    | cell a=>
     obtain⟨rfl,h⟩:=hev
     exact hlt _ h
    | obj r=>
     obtain⟨rfl,h⟩:=hev
     cases wr<;>exact hlt _ h
    | mark m=>
     cases m<;>simp only[EvL]at hev<;>trivial
    | _=>simp only[EvL]at hev
  refine⟨1,(gs.map (woken p (gor fr cs) (gor fr' cs') w')).setIfInBounds 0 (gor fr' cs'),w',sl',t++MemOp.ofEvents 0 (gor fr cs).frame.fn (gor fr cs).frame.place es,q,H',fr',cs',by simp only[runNT,hst,hrun],by simp[hlt0],⟨⟨fun j x hj hx=>?_,fun j hj=>?_⟩,Zjc hpast f.size fun b hb=>hnone b (hunk b hb),f.le⟩,
   ⟨⟨by rw[f.os];exact .refl _,f.tape,f.out⟩,f.size,f.keep,fun b x hx=>?_,fun b hb=>.inl (hunk b hb),f.gh⟩,hR⟩
  ·have hne:0≠j:=by omega
   rw[Array.getElem?_setIfInBounds_ne hne,Array.getElem?_map]at hx
   obtain⟨y,hy,rfl⟩:=Option.map_eq_some_iff.1 hx
   have hq:=hL.old j y hj hy
   rw[Go.Conc.woken_quitsD hq,Go.Conc.Deaf_other t (by omega) _ hown]
   exact hq
  ·rw[Go.Conc.Deaf_other t (g':=0) (by simp at hj;omega) _ hown]
   exact hL.above j (by simpa using hj)
  ·cases hh:H b with
   | none=>exact .inl (f.new b hh (by rw[hx];simp))
   | some y=>
    refine .inr ⟨y,.inl rfl,fun hy=>?_⟩
    obtain⟨yo,yp⟩:=y
    obtain rfl:yp=false:=hy
    have:=f.ro b yo hh
    rw[this]at hx
    exact(Option.some.inj hx).symm
 ·have hq:=hL.old i g hpos hi
  have hi0:(i == 0)=false:=by simp;omega
  have hlt:i<gs.size:=(Array.getElem?_eq_some_iff.1 hi).1
  cases hqi:q i with
  | zero=>rw[hqi]at hq;rw[hq.1]at hg;cases hg
  | succ k=>
   rw[hqi]at hq
   rcases hq with ⟨hf,_⟩ | ⟨_,g',es,hm,hstp,hq'⟩
   ·rw[hf]at hg;cases hg
   have hrun:=Go.Conc.runT_crowd_go (P:=p) (sl:=sl') (i:=i) hi (by rw[hi0];exact hstp (w.at d))
   have hsz:((gs.map (woken p g g' (w.at d))).setIfInBounds i g').size=gs.size:=by simp
   have hsum:sumTo gs.size (upd q i k)+(k+1)=sumTo gs.size q+k:=by
    have:=sumTo_upd q k id hlt
    simpa[hqi]using this
   have hmu:=Zme (i:=i) (fr:=g.frame) hm
   have hown:∀ op∈MemOp.ofEvents i g.frame.fn g.frame.place es,op.g=i:=fun op hop=>by obtain⟨e,_,rfl⟩:=Go.Conc.mem_ofEvents hop;rfl
   have hunk:∀ b,Unk (t++MemOp.ofEvents i g.frame.fn g.frame.place es) b->Unk t b:=by
    rintro b ⟨j,a,hj,hb,hk⟩
    obtain⟨x,hx,hxa⟩:=Go.Conc.touch_of hj
    rcases Go.Conc.getElem?_append_cases hx with ⟨_,hx'⟩ | ⟨_,hxu⟩
    ·exact⟨j,a,by rw[Go.Conc.touchAt_of hx'];exact hxa,hb,fun h=>hk (h.app _)⟩
    ·rw[(hmu x hxu).touch]at hxa;simp at hxa
   have hp2:Past (Zhe H w.heap.size) w.heap.size (t++MemOp.ofEvents i g.frame.fn g.frame.place es):=ha.past.mute (by omega) hm
   have hC:Alone p H ((gs.map (woken p g g' (w.at d))).setIfInBounds i g') (w.at d) (t++MemOp.ofEvents i g.frame.fn g.frame.place es) (upd q i k):=by
    refine⟨⟨fun j x hj hx=>?_,fun j hj=>?_⟩,hp2,ha.le⟩
    ·by_cases hji:i=j
     ·subst hji
      rw[Array.getElem?_setIfInBounds_self_of_lt (by simpa using hlt)]at hx
      obtain rfl:=Option.some.inj hx
      rw[upd_same,Go.Conc.Deaf_own]
      exact hq'
     ·rw[Array.getElem?_setIfInBounds_ne hji,Array.getElem?_map]at hx
      obtain⟨y,hy,rfl⟩:=Option.map_eq_some_iff.1 hx
      have hqj:=hL.old j y hj hy
      rw[Go.Conc.woken_quitsD hqj,upd_ne q k (Ne.symm hji),Go.Conc.Deaf_other t hji _ hown]
      exact hqj
    ·rw[Go.Conc.Deaf_other t (g':=i) (by simp at hj;omega) _ hown]
     exact hL.above j (by simpa using hj)
   obtain⟨k2,gs2,w2,sl2,t2,q2,H2,fr2,cs2,e1,e2,e3,e4,e5⟩:=ih (N-1) (by omega) _ (w.at d) sl' _ _ (by rw[hsz];omega) hC (by
    have hne:i≠0:=by omega
    rw[Array.getElem?_setIfInBounds_ne hne,Array.getElem?_map,h0]
    simp[Go.Conc.woken_run (show (gor fr cs).status=.running from rfl)])
   refine⟨k2+1,gs2,w2,sl2,t2,q2,H2,fr2,cs2,by simp only[runNT,hst,hrun];exact e1,e2,e3,?_,e5⟩
   have:Turn H w t H (w.at d) (t++MemOp.ofEvents i g.frame.fn g.frame.place es):=⟨⟨.refl _,rfl,rfl⟩,Nat.le_refl _,fun _ _ _=>rfl,fun b x h=>.inr ⟨x,.inl h,fun _=>rfl⟩,fun b hb=>.inl (hunk b hb),rfl⟩
   exact this.trans e4
theorem ZlO {P:Prg}(hP:P.sh=ZgC P.toProgram){G:Frame->List Frame->Hp->Prop}{fr:Frame}{cs:List Frame}{H:Hp}(h:Reach P G fr cs H):ZgC P.toProgram G fr cs H:=by
 refine h (ZgC P.toProgram G) (fun fr cs H hg gs w sl t q ha h0=>⟨0,gs,w,sl,t,q,H,fr,cs,rfl,h0,ha,.refl,hg⟩) ?_ ?_
 ·intro fr cs H hs gs w sl t q ha h0
  obtain⟨k,gs',w',sl',t',q',H',fr',cs',h1,h2,h3,h4,h5⟩:=Zlk (hs.1 true) _ gs w sl t q (Nat.le_refl _) ha h0
  obtain⟨k2,gs2,w2,sl2,t2,q2,H2,fr2,cs2,e1,e2,e3,e4,e5⟩:=h5 gs' w' sl' t' q' h3 h2
  exact⟨k+k2,gs2,w2,sl2,t2,q2,H2,fr2,cs2,ZcS h1 e1,e2,e3,h4.trans e4,e5⟩
 ·intro fr cs H hs gs w sl t q ha h0
  rw[hP]at hs
  obtain⟨k,gs',w',sl',t',q',H',fr',cs',h1,h2,h3,h4,h5⟩:=hs gs w sl t q ha h0
  obtain⟨k2,gs2,w2,sl2,t2,q2,H2,fr2,cs2,e1,e2,e3,e4,e5⟩:=h5 gs' w' sl' t' q' h3 h2
  exact⟨k+k2,gs2,w2,sl2,t2,q2,H2,fr2,cs2,ZcS h1 e1,e2,e3,h4.trans e4,e5⟩
end Go.LL
end
section
namespace Go.LL
open Go.Conc (Knows Deaf touchAt QuitsD crowd woken Leavers Past)
open Go.ConcN (sumTo upd sumTo_upd upd_ne upd_same)
structure Begins {p:Program}(T:Team p)(R:Frame->List Frame->Hp->Prop)(fr:Frame)(cs:List Frame)(H:Hp)(gs:Array Goroutine)(w:World)(t:Trace)(s:T.S)(Hs Hm:Hp)(G:Frame->List Frame->Hp->Prop):Prop where
 sound:T.Sound
 inv:T.Inv s Hs t
 next:T.next s=gs.size
 tag0:T.tag s 0=Hm.gh
 tags:∀ j,j≠0->j<gs.size->T.tag s j=T.left
 le:Hm.le w
 leS:Hs.le w
 dis:Hm.Dis Hs
 from0:From H .nil w Hm
 fromS:From H .nil w Hs
 act:T.act Hm.gh
 work:Reach T.prgM G fr cs Hm
 done:∀ fr' cs' H' s' Hs' t' w',G fr' cs' H'->T.Inv s' Hs' t'->T.tag s' 0=H'.gh->H'.Dis Hs'->H'.le w'->Hs'.le w'->PermH t' 0 H'->(∀ op∈t',op.act.low w'.heap.size)->From H .nil w H'->From H .nil w Hs' ->
  (∀ j,j≠0->j<T.next s'->T.tag s' j=T.left) ∧
  (∀ i a,touchAt t' i=some a->a.loc.isMemory=true->Knows t' 0 i∨(a.kind=.atomic∧∀ b,a.loc.blk=some b->H' b=none∧(Unk t b∨w.heap.size<=b∨∃ o,H b=some (o,true)))) ∧
  t'.HandedOver∧Deaf t' 0=0∧∃ H2:Hp,H2.gh=H.gh∧(∀ b x,H2 b=some x->∃ y,H' b=some y∧y.1=x.1∧(x.2=true->y.2=true∨∃ o,H b=some (o,true)))∧R fr' cs' H2
theorem ZhA {p:Program}{R:Frame->List Frame->Hp->Prop}{fr:Frame}{cs:List Frame}{H:Hp}
  (h:∀ gs w t q,Alone p H gs w t q->gs[0]? = some (gor fr cs)->∃ (T:Team p) (s:T.S) (Hs Hm:Hp) (G:Frame->List Frame->Hp->Prop),Begins T R fr cs H gs w t s Hs Hm G):ZgC p R fr cs H:=by
 intro gs w sl t q ha h0
 obtain⟨T,s,Hs,Hm,G,B⟩:=h gs w t q ha h0
 have hlt0:0<gs.size:=(Array.getElem?_eq_some_iff.1 h0).1
 obtain⟨k,hk⟩:=B.work.rank
 have hperm:PermH t 0 Hm:=by
  intro b o pm hb i a hi hl _
  refine Classical.byContradiction fun hn=>?_
  have h1:=ha.unk ⟨i,a,hi,hl,hn⟩
  rcases B.from0.nil hb with h2 | ⟨y,hy,_⟩
  ·obtain⟨x,hx,hxa⟩:=Go.Conc.touch_of hi
   exact absurd (ZeL hxa hl (ha.past.seen x (Go.Conc.mem_of_getElem? hx))) (by omega)
  ·rw[h1]at hy;simp at hy
 have C:Conf T G (gs.size+T.more s) H w gs w t s Hs (fun j=>if j=0 then Hm else .bare T.left) (fun j=>if j=0 then 3 else 0) (fun j=>if j=0 then k else .ofNat (q j)):=by
  have hb:∀ g,noHp (.bare g):=fun g b=>rfl
  refine⟨B.next.symm,hlt0,Nat.le_refl _,B.inv,B.leS,?_,?_,?_,?_,?_,ha.past.clean,ha.past.seen,ha.leavers.above,?_,?_,.refl w,Nat.le_refl _,fun _ _ _=>rfl,?_,B.fromS⟩
  ·intro j
   split
   ·exact B.le
   ·intro b o pm hh;simp[Hp.bare]at hh
  ·intro j j' hne b x y h1 h2
   by_cases hj:j=0
   ·rw[if_neg (show j'≠0 by omega)]at h2;simp[Hp.bare]at h2
   ·rw[if_neg hj]at h1;simp[Hp.bare]at h1
  ·intro j
   split
   ·exact B.dis
   ·intro b x y h1;simp[Hp.bare]at h1
  ·intro j
   split
   ·subst j;exact hperm
   ·intro b o pm hh;simp[Hp.bare]at hh
  ·intro j hj
   split
   ·subst j;exact B.tag0
   ·exact B.tags j ‹_› hj
  ·intro j hj
   rw[if_neg (by omega)]
   exact hb _
  ·intro j hj
   by_cases hj0:j=0
   ·subst hj0
    exact⟨rfl,fr,cs,.inl h0,hk,B.act⟩
   ·rw[if_neg hj0,if_neg hj0,if_neg hj0]
    exact⟨hj0,rfl,hb _,gs[j],q j,Array.getElem?_eq_getElem hj,ha.leavers.old j _ (by omega) (Array.getElem?_eq_getElem hj),rfl⟩
  ·intro j
   split
   ·exact B.from0
   ·intro b x hx;simp[Hp.bare]at hx
 obtain⟨n,gs',w',sl',t',s',Hs',Hf',md',rk',hrun,C',fr',cs',hg',hG⟩:=ZlI B.sound _ gs w sl t s Hs _ _ _ rfl C
 have hpos:=C'.pos
 obtain⟨d1,d2,d3,d4,H2,g1,g2,d5⟩:=B.done fr' cs' (Hf' 0) s' Hs' t' w' hG C'.inv (C'.tag 0 hpos) (C'.disS 0) (C'.le 0) C'.leS (C'.perm 0) C'.low (C'.org 0) C'.orgS
 have hq:∀ j,∃ q,∀ g,0<j->gs'[j]? = some g->QuitsD p q (Deaf t' j) g:=by
  intro j
  by_cases hj:0<j∧j<gs'.size
  ·have hst:=C'.st j hj.2
   have hl:(Hf' j).gh=T.left:=by
    rw[<-C'.tag j hj.2];exact d1 j (by omega) (by rw[<-C'.size];exact hj.2)
   revert hst
   generalize md' j=m
   generalize rk' j=r
   intro hst
   match m,hst with
   | 3,⟨h1,_⟩=>omega
   | 2,⟨_,_,_,_,_,h1⟩=>rw[hl]at h1;exact absurd h1 B.sound.actLeft
   | 1,⟨_,_,_,_,_,h1,_⟩=>rw[hl]at h1;exact absurd h1 B.sound.hshLeft
   | 0,⟨_,_,_,g,q,h1,h2,_⟩=>exact⟨q,fun g' _ hg=>by rw[h1]at hg;obtain rfl:=Option.some.inj hg;exact h2⟩
  ·exact⟨0,fun g h1 hg=>absurd ⟨h1,(Array.getElem?_eq_some_iff.1 hg).1⟩ hj⟩
 have hq':∃ q':Nat->Nat,∀ j g,0<j->gs'[j]? = some g->QuitsD p (q' j) (Deaf t' j) g:=by
  refine⟨fun j=>(hq j).choose,fun j g h1 hg=>(hq j).choose_spec g h1 hg⟩
 obtain⟨q',hq'⟩:=hq'
 have hmem:∀ {l:Loc} {b:Nat},l.blk=some b->l.isMemory=true:=by
  intro l b hl
  cases l<;>simp[Loc.blk]at hl<;>rfl
 have hnone:∀ b,Hf' 0 b=none->H2 b=none:=fun b hb=>by
  cases h:H2 b with
  | none=>rfl
  | some x=>obtain⟨y,hy,_⟩:=g2 b x h;rw[hb]at hy;simp at hy
 refine⟨n,gs',w',sl',t',q',H2,fr',cs',hrun,hg',⟨⟨hq',C'.above⟩,⟨C'.clean,fun i a h1 h2=>?_,d3,d4,C'.low⟩,fun b o pm hb=>?_⟩,⟨C'.out,C'.grown,C'.keep,fun b x hx=>?_,fun b hb=>?_,g1⟩,d5⟩
 ·rcases d2 i a h1 h2 with h3 | ⟨h3,h4⟩
  ·exact .inl h3
  ·obtain⟨b,hb⟩:=Zmh h2
   refine .inr ⟨⟨b,hb,?_,hnone b (h4 b hb).1⟩,h3⟩
   obtain⟨x,hx,hxa⟩:=Go.Conc.touch_of h1
   exact ZeL hxa hb (C'.low x (Go.Conc.mem_of_getElem? hx))
 ·obtain⟨⟨yo,yp⟩,hy,e,_⟩:=g2 b _ hb
  simp only at e
  subst e
  exact C'.le 0 b yo yp hy
 ·obtain⟨y,hy,e,h3⟩:=g2 b x hx
  rcases(C'.org 0).nil hy with h | ⟨z,hz,hzy⟩
  ·exact .inl h
  ·refine .inr ⟨z,.inl hz,fun hf=>?_⟩
   have e2:=hzy hf
   have hx2:x.2=false:=by
    cases hx2:x.2 with
    | false=>rfl
    | true=>
     rcases h3 hx2 with h4 | ⟨o,h4⟩
     ·rw[e2,hf]at h4;simp at h4
     ·rw[h4]at hz;obtain rfl:=Option.some.inj hz;simp at hf
   rw[<-e2]
   rw[<-e2]at hf
   exact Prod.ext e.symm (hx2.trans hf.symm)
 ·obtain⟨i,a,h1,h2,h3⟩:=hb
  rcases d2 i a h1 (hmem h2) with h4 | ⟨_,h4⟩
  ·exact absurd h4 h3
  ·exact(h4 b h2).2
end Go.LL
end
section
namespace Go.LL
open Go.ConcN (sumTo upd sumTo_upd upd_ne upd_same)
def cd (l:List Nat):Nat:=l.headD 0
def Ct (f:Nat->Nat)(tag:Nat->List Nat)(n:Nat):Nat:=sumTo n fun i=>f (cd (tag i))
theorem Ct.upd (f:Nat->Nat)(tag:Nat->List Nat)(l:List Nat){i n:Nat}(h:i<n):Ct f (upd tag i l) n+f (cd (tag i))=Ct f tag n+f (cd l):=
 sumTo_upd tag l (fun x=>f (cd x)) h
theorem Ct.le (f:Nat->Nat)(tag:Nat->List Nat){i n:Nat}(h:i<n):f (cd (tag i))<=Ct f tag n:=Go.ConcN.le_sumTo (f:=fun i=>f (cd (tag i))) h
def one (b:Bool):Nat:=if b then 1 else 0
def Zaq (c:Nat):Nat:=one (10<=c && c<=14)
def cT (c:Nat):Nat:=one (c == 5 || c == 6)
def cQ (c:Nat):Nat:=one (c == 7)
def cA (c:Nat):Nat:=one (c == 8 || c == 9)
def cU (c:Nat):Nat:=one (c == 15 || c == 16)
def cR (c:Nat):Nat:=one (c == 17)
def pot (c:Nat):Nat:=
 if 1<=c && c<=4 then 6 else if c == 5 || c == 6 || c == 8 || c == 9 then 5 else if c == 7 then 4 else if 10<=c && c<=14 then 3 else if c == 15 || c == 16 then 2 else if c == 17 then 1 else 0
structure Mu where
 L:Nat
 W:Nat
 S:Nat
 n:Nat
 sm:Nat
def Mu.st (x:Mu):Nat:=x.L+2 * x.W+4 * x.S+8 * x.n
def Mu.mu (x:Mu)(more:Nat)(tag:Nat->List Nat)(k:Nat):Nat:=Ct pot tag k+x.sm+6 * more
structure Mu.Fits (x:Mu)(tag:Nat->List Nat)(k:Nat):Prop where
 L1:x.L=Ct Zaq tag k
 L2:x.L<=1
 W1:x.W<=1
 S1:x.S<=1
 norm:x.S=0->Ct cQ tag k=x.n+x.sm+Ct cR tag k∧x.W=Ct cT tag k+Ct cA tag k+x.sm+Ct cR tag k∧(x.L=0->0<x.n->x.W=1∨0<Ct cU tag k)
 starv:x.S=1->x.n=Ct cQ tag k+Ct cA tag k∧1<=x.n∧x.W=0∧Ct cT tag k=0∧x.L+Ct cR tag k+x.sm+Ct cA tag k=1
def Mu.Says (x:Mu)(mu:Nat):List Nat->Prop
 | [4,v,m]=>mu<=m∧(mu=m->x.st=v)
 | [6,v,m]=>mu<=m∧(mu=m->x.st=v)
 | [15,v,m]=>mu<=m∧(mu=m->x.st=v)∧v % 8=0∧8<=v
 | [9,v]=>x.S=1∧1<=v / 8∧v / 8<=x.n
 | [3,m]=>mu<m
 | [5,m]=>mu<m
 | [7,m]=>mu<m
 | [8,m]=>mu<m
 | [16,m]=>mu<m
 | [4]=>False
 | [6]=>False
 | [15]=>False
 | [9]=>False
 | _=>True
section
variable  {x x':Mu}{tag:Nat->List Nat}{k i:Nat}{l:List Nat}
theorem counts (hi:i<k)(f:Nat->Nat):Ct f (upd tag i l) k+f (cd (tag i))=Ct f tag k+f (cd l):=Ct.upd f tag l hi
end
theorem ct {tag:Nat->List Nat}{i k a b:Nat}{l:List Nat}(hi:i<k)(hc:cd (tag i)=a)(hl:cd l=b)(c:Nat->Nat):Ct c (upd tag i l) k+c a=Ct c tag k+c b:=by have e:=counts (tag:=tag) (l:=l) hi c;rw[hc,hl]at e;exact e
theorem cl {tag:Nat->List Nat}{i k a:Nat}(hi:i<k)(hc:cd (tag i)=a)(c:Nat->Nat):c a<=Ct c tag k:=by have e:=Ct.le c tag hi;rw[hc]at e;exact e
end Go.LL
end
section
namespace Go.LL
theorem Zil {G:Prop} (h:G:=by
  have h0:upd tag i l 0=tag 0:=upd_ne tag l (Ne.symm hi0)
  refine⟨?_,?_,?_,?_,?_,?_⟩<;>rw[h0]<;>(try dsimp only)<;>omega):G:=h
theorem ZdG {G:Prop} (h:G:=by
  obtain⟨f1,f2,f3,f4,f5,f6⟩:=F
  have e0:Ct cW (upd tag 0 l) k+0=Ct cW tag k+0:=ct hi hc hl cW
  have e1:Ct cL (upd tag 0 l) k+0=Ct cL tag k+0:=ct hi hc hl cL
  have e2:Ct cE (upd tag 0 l) k+0=Ct cE tag k+0:=ct hi hc hl cE
  have h0:upd tag 0 l 0=l:=upd_same tag 0 l
  rw[hc]at f1 f2 f3 f4 f5 f6
  replace f1:x.v=Ct cW tag k+0:=f1
  refine⟨?_,?_,?_,?_,?_,?_⟩<;>rw[h0,hl]<;>(try dsimp only)
  ·show _=_+0;omega
  all_goals omega):G:=h
theorem ZaI {G:Prop} (h:G:=by
  obtain⟨f1,f2,f3,f4,f5,f6⟩:=F
  have e0:Ct cW (upd tag i l) k+1=Ct cW tag k+1:=ct hi hc hl cW
  have e1:Ct cL (upd tag i l) k+0=Ct cL tag k+0:=ct hi hc hl cL
  have e2:Ct cE (upd tag i l) k+0=Ct cE tag k+0:=ct hi hc hl cE
  have g1:1<=Ct cW tag k:=cl hi hc cW
  have h0:upd tag i l 0=tag 0:=upd_ne tag l (Ne.symm hi0)
  refine⟨?_,?_,?_,?_,?_,?_⟩<;>rw[h0]<;>(try dsimp only)<;>omega):G:=h
open Go.ConcN (sumTo upd sumTo_upd upd_ne upd_same)
def cW (c:Nat):Nat:=one (1<=c && c<=21)
def cL (c:Nat):Nat:=one (c == 22 || c == 23)
def cE (c:Nat):Nat:=one (c == 24)
def mP (c:Nat):Nat:=one (c == 32 || c == 33)
structure Wg where
 v:Nat
 wt:Nat
 wm:Nat
structure Wg.Fits (x:Wg)(tag:Nat->List Nat)(k more:Nat):Prop where
 v1:x.v=Ct cW tag k+mP (cd (tag 0))
 main:30<=cd (tag 0)
 more0:34<=cd (tag 0)->more=0
 wait:cd (tag 0)=36->(x.wt=1∧x.wm=0∧Ct cE tag k=0∧(x.v=0->Ct cL tag k=1)∧(x.v≠0->Ct cL tag k=0))∨(x.wt=0∧x.v=0∧Ct cL tag k=0∧Ct cE tag k+x.wm=1)
 free:cd (tag 0)≠36->x.wt=0∧x.wm=0∧Ct cL tag k=0∧Ct cE tag k=0
 zero:37<=cd (tag 0)->x.v=0
section
variable  {x:Wg}{tag:Nat->List Nat}{k i more:Nat}{l:List Nat}
theorem Wg.add (F:x.Fits tag k more)(hi:0<k)(hc:cd (tag 0)=31)(hl:cd l=32) :Wg.Fits { x with v:=x.v+1 } (upd tag 0 l) k more:=by
 obtain⟨f1,f2,f3,f4,f5,f6⟩:=F
 have e0:Ct cW (upd tag 0 l) k+0=Ct cW tag k+0:=ct hi hc hl cW
 have e1:Ct cL (upd tag 0 l) k+0=Ct cL tag k+0:=ct hi hc hl cL
 have e2:Ct cE (upd tag 0 l) k+0=Ct cE tag k+0:=ct hi hc hl cE
 have h0:upd tag 0 l 0=l:=upd_same tag 0 l
 rw[hc]at f1 f2 f3 f4 f5 f6
 replace f1:x.v=Ct cW tag k+0:=f1
 refine⟨?_,?_,?_,?_,?_,?_⟩<;>rw[h0,hl]<;>(try dsimp only)
 ·show _=_+1;omega
 all_goals omega
theorem Wg.doneN (F:x.Fits tag k more)(hi:i<k)(hi0:i≠0)(hc:cd (tag i)=21)(hl:cd l=0)(h:¬ (x.v=1∧x.wt=1)):Wg.Fits { x with v:=x.v-1 } (upd tag i l) k more:=by
 obtain⟨f1,f2,f3,f4,f5,f6⟩:=F
 have e0:Ct cW (upd tag i l) k+1=Ct cW tag k+0:=ct hi hc hl cW
 have e1:Ct cL (upd tag i l) k+0=Ct cL tag k+0:=ct hi hc hl cL
 have e2:Ct cE (upd tag i l) k+0=Ct cE tag k+0:=ct hi hc hl cE
 have g1:1<=Ct cW tag k:=cl hi hc cW
 exact Zil
theorem Wg.doneL (F:x.Fits tag k more)(hi:i<k)(hi0:i≠0)(hc:cd (tag i)=21)(hl:cd l=22)(h:x.v=1∧x.wt=1):Wg.Fits { x with v:=x.v-1 } (upd tag i l) k more:=by
 obtain⟨f1,f2,f3,f4,f5,f6⟩:=F
 have e0:Ct cW (upd tag i l) k+1=Ct cW tag k+0:=ct hi hc hl cW
 have e1:Ct cL (upd tag i l) k+0=Ct cL tag k+1:=ct hi hc hl cL
 have e2:Ct cE (upd tag i l) k+0=Ct cE tag k+0:=ct hi hc hl cE
 have g1:1<=Ct cW tag k:=cl hi hc cW
 exact Zil
theorem Wg.store0 (F:x.Fits tag k more)(hi:i<k)(hi0:i≠0)(hc:cd (tag i)=23)(hl:cd l=24) :Wg.Fits { x with wt:=0 } (upd tag i l) k more:=by
 obtain⟨f1,f2,f3,f4,f5,f6⟩:=F
 have e0:Ct cW (upd tag i l) k+0=Ct cW tag k+0:=ct hi hc hl cW
 have e1:Ct cL (upd tag i l) k+1=Ct cL tag k+0:=ct hi hc hl cL
 have e2:Ct cE (upd tag i l) k+0=Ct cE tag k+1:=ct hi hc hl cE
 have g2:1<=Ct cL tag k:=cl hi hc cL
 exact Zil
theorem Wg.wgrel (F:x.Fits tag k more)(hi:i<k)(hi0:i≠0)(hc:cd (tag i)=24)(hl:cd l=0) :Wg.Fits { x with wm:=x.wm+1 } (upd tag i l) k more:=by
 obtain⟨f1,f2,f3,f4,f5,f6⟩:=F
 have e0:Ct cW (upd tag i l) k+0=Ct cW tag k+0:=ct hi hc hl cW
 have e1:Ct cL (upd tag i l) k+0=Ct cL tag k+0:=ct hi hc hl cL
 have e2:Ct cE (upd tag i l) k+1=Ct cE tag k+0:=ct hi hc hl cE
 have g3:1<=Ct cE tag k:=cl hi hc cE
 exact Zil
theorem Wg.seen0 (F:x.Fits tag k more)(hi:0<k)(hc:cd (tag 0)=34)(hl:cd l=38)(h:x.v=0)(hmore:more=0):Wg.Fits x (upd tag 0 l) k more:=by
 exact ZdG
theorem Wg.seenN (F:x.Fits tag k more)(hi:0<k)(hc:cd (tag 0)=34)(hl:cd l=35)(h:x.v≠0):Wg.Fits x (upd tag 0 l) k more:=by
 exact ZdG
theorem Wg.miss (F:x.Fits tag k more)(hi:0<k)(hc:cd (tag 0)=35)(hl:cd l=34) :Wg.Fits x (upd tag 0 l) k more:=by
 exact ZdG
theorem Wg.wait (F:x.Fits tag k more)(hi:0<k)(hc:cd (tag 0)=35)(hl:cd l=36)(h:x.v≠0):Wg.Fits { x with wt:=1 } (upd tag 0 l) k more:=by
 exact ZdG
theorem Wg.woken (F:x.Fits tag k more)(hi:0<k)(hc:cd (tag 0)=36)(hl:cd l=37)(h:x.wm≠0):Wg.Fits { x with wm:=x.wm-1 } (upd tag 0 l) k more:=by
 exact ZdG
theorem Wg.same30_31 (F:x.Fits tag k more)(hi:0<k)(hc:cd (tag 0)=30)(hl:cd l=31) :Wg.Fits x (upd tag 0 l) k more:=by
 exact ZdG
theorem Wg.same32_33 (F:x.Fits tag k more)(hi:0<k)(hc:cd (tag 0)=32)(hl:cd l=33) :Wg.Fits x (upd tag 0 l) k more:=by
 obtain⟨f1,f2,f3,f4,f5,f6⟩:=F
 have e0:Ct cW (upd tag 0 l) k+0=Ct cW tag k+0:=ct hi hc hl cW
 have e1:Ct cL (upd tag 0 l) k+0=Ct cL tag k+0:=ct hi hc hl cL
 have e2:Ct cE (upd tag 0 l) k+0=Ct cE tag k+0:=ct hi hc hl cE
 have h0:upd tag 0 l 0=l:=upd_same tag 0 l
 rw[hc]at f1 f2 f3 f4 f5 f6
 replace f1:x.v=Ct cW tag k+1:=f1
 refine⟨?_,?_,?_,?_,?_,?_⟩<;>rw[h0,hl]<;>(try dsimp only)
 ·show _=_+1;omega
 all_goals omega
theorem Wg.same30_34 (F:x.Fits tag k more)(hi:0<k)(hc:cd (tag 0)=30)(hl:cd l=34)(hmore:more=0):Wg.Fits x (upd tag 0 l) k more:=by
 exact ZdG
theorem Wg.same37_38 (F:x.Fits tag k more)(hi:0<k)(hc:cd (tag 0)=37)(hl:cd l=38) :Wg.Fits x (upd tag 0 l) k more:=by
 exact ZdG
theorem Wg.same38_39 (F:x.Fits tag k more)(hi:0<k)(hc:cd (tag 0)=38)(hl:cd l=39) :Wg.Fits x (upd tag 0 l) k more:=by
 exact ZdG
theorem Wg.same39_40 (F:x.Fits tag k more)(hi:0<k)(hc:cd (tag 0)=39)(hl:cd l=40) :Wg.Fits x (upd tag 0 l) k more:=by
 exact ZdG
theorem Wg.stay1_2 (F:x.Fits tag k more)(hi:i<k)(hi0:i≠0)(hc:cd (tag i)=1)(hl:cd l=2) :Wg.Fits x (upd tag i l) k more:=by
 exact ZaI
theorem Wg.stay2_10 (F:x.Fits tag k more)(hi:i<k)(hi0:i≠0)(hc:cd (tag i)=2)(hl:cd l=10) :Wg.Fits x (upd tag i l) k more:=by
 exact ZaI
theorem Wg.stay2_3 (F:x.Fits tag k more)(hi:i<k)(hi0:i≠0)(hc:cd (tag i)=2)(hl:cd l=3) :Wg.Fits x (upd tag i l) k more:=by
 exact ZaI
theorem Wg.stay3_4 (F:x.Fits tag k more)(hi:i<k)(hi0:i≠0)(hc:cd (tag i)=3)(hl:cd l=4) :Wg.Fits x (upd tag i l) k more:=by
 exact ZaI
theorem Wg.stay4_3 (F:x.Fits tag k more)(hi:i<k)(hi0:i≠0)(hc:cd (tag i)=4)(hl:cd l=3) :Wg.Fits x (upd tag i l) k more:=by
 exact ZaI
theorem Wg.stay4_5 (F:x.Fits tag k more)(hi:i<k)(hi0:i≠0)(hc:cd (tag i)=4)(hl:cd l=5) :Wg.Fits x (upd tag i l) k more:=by
 exact ZaI
theorem Wg.stay5_6 (F:x.Fits tag k more)(hi:i<k)(hi0:i≠0)(hc:cd (tag i)=5)(hl:cd l=6) :Wg.Fits x (upd tag i l) k more:=by
 exact ZaI
theorem Wg.stay6_5 (F:x.Fits tag k more)(hi:i<k)(hi0:i≠0)(hc:cd (tag i)=6)(hl:cd l=5) :Wg.Fits x (upd tag i l) k more:=by
 exact ZaI
theorem Wg.stay4_10 (F:x.Fits tag k more)(hi:i<k)(hi0:i≠0)(hc:cd (tag i)=4)(hl:cd l=10) :Wg.Fits x (upd tag i l) k more:=by
 exact ZaI
theorem Wg.stay6_10 (F:x.Fits tag k more)(hi:i<k)(hi0:i≠0)(hc:cd (tag i)=6)(hl:cd l=10) :Wg.Fits x (upd tag i l) k more:=by
 exact ZaI
theorem Wg.stay4_7 (F:x.Fits tag k more)(hi:i<k)(hi0:i≠0)(hc:cd (tag i)=4)(hl:cd l=7) :Wg.Fits x (upd tag i l) k more:=by
 exact ZaI
theorem Wg.stay6_7 (F:x.Fits tag k more)(hi:i<k)(hi0:i≠0)(hc:cd (tag i)=6)(hl:cd l=7) :Wg.Fits x (upd tag i l) k more:=by
 exact ZaI
theorem Wg.stay7_8 (F:x.Fits tag k more)(hi:i<k)(hi0:i≠0)(hc:cd (tag i)=7)(hl:cd l=8) :Wg.Fits x (upd tag i l) k more:=by
 exact ZaI
theorem Wg.stay8_6 (F:x.Fits tag k more)(hi:i<k)(hi0:i≠0)(hc:cd (tag i)=8)(hl:cd l=6) :Wg.Fits x (upd tag i l) k more:=by
 exact ZaI
theorem Wg.stay8_9 (F:x.Fits tag k more)(hi:i<k)(hi0:i≠0)(hc:cd (tag i)=8)(hl:cd l=9) :Wg.Fits x (upd tag i l) k more:=by
 exact ZaI
theorem Wg.stay9_10 (F:x.Fits tag k more)(hi:i<k)(hi0:i≠0)(hc:cd (tag i)=9)(hl:cd l=10) :Wg.Fits x (upd tag i l) k more:=by
 exact ZaI
theorem Wg.stay10_11 (F:x.Fits tag k more)(hi:i<k)(hi0:i≠0)(hc:cd (tag i)=10)(hl:cd l=11) :Wg.Fits x (upd tag i l) k more:=by
 exact ZaI
theorem Wg.stay11_12 (F:x.Fits tag k more)(hi:i<k)(hi0:i≠0)(hc:cd (tag i)=11)(hl:cd l=12) :Wg.Fits x (upd tag i l) k more:=by
 exact ZaI
theorem Wg.stay12_13 (F:x.Fits tag k more)(hi:i<k)(hi0:i≠0)(hc:cd (tag i)=12)(hl:cd l=13) :Wg.Fits x (upd tag i l) k more:=by
 exact ZaI
theorem Wg.stay13_14 (F:x.Fits tag k more)(hi:i<k)(hi0:i≠0)(hc:cd (tag i)=13)(hl:cd l=14) :Wg.Fits x (upd tag i l) k more:=by
 exact ZaI
theorem Wg.stay14_18 (F:x.Fits tag k more)(hi:i<k)(hi0:i≠0)(hc:cd (tag i)=14)(hl:cd l=18) :Wg.Fits x (upd tag i l) k more:=by
 exact ZaI
theorem Wg.stay14_15 (F:x.Fits tag k more)(hi:i<k)(hi0:i≠0)(hc:cd (tag i)=14)(hl:cd l=15) :Wg.Fits x (upd tag i l) k more:=by
 exact ZaI
theorem Wg.stay14_17 (F:x.Fits tag k more)(hi:i<k)(hi0:i≠0)(hc:cd (tag i)=14)(hl:cd l=17) :Wg.Fits x (upd tag i l) k more:=by
 exact ZaI
theorem Wg.stay15_16 (F:x.Fits tag k more)(hi:i<k)(hi0:i≠0)(hc:cd (tag i)=15)(hl:cd l=16) :Wg.Fits x (upd tag i l) k more:=by
 exact ZaI
theorem Wg.stay16_15 (F:x.Fits tag k more)(hi:i<k)(hi0:i≠0)(hc:cd (tag i)=16)(hl:cd l=15) :Wg.Fits x (upd tag i l) k more:=by
 exact ZaI
theorem Wg.stay16_18 (F:x.Fits tag k more)(hi:i<k)(hi0:i≠0)(hc:cd (tag i)=16)(hl:cd l=18) :Wg.Fits x (upd tag i l) k more:=by
 exact ZaI
theorem Wg.stay15_17 (F:x.Fits tag k more)(hi:i<k)(hi0:i≠0)(hc:cd (tag i)=15)(hl:cd l=17) :Wg.Fits x (upd tag i l) k more:=by
 exact ZaI
theorem Wg.stay17_18 (F:x.Fits tag k more)(hi:i<k)(hi0:i≠0)(hc:cd (tag i)=17)(hl:cd l=18) :Wg.Fits x (upd tag i l) k more:=by
 exact ZaI
theorem Wg.stay18_19 (F:x.Fits tag k more)(hi:i<k)(hi0:i≠0)(hc:cd (tag i)=18)(hl:cd l=19) :Wg.Fits x (upd tag i l) k more:=by
 exact ZaI
theorem Wg.stay1_20 (F:x.Fits tag k more)(hi:i<k)(hi0:i≠0)(hc:cd (tag i)=1)(hl:cd l=20) :Wg.Fits x (upd tag i l) k more:=by
 exact ZaI
theorem Wg.stay19_20 (F:x.Fits tag k more)(hi:i<k)(hi0:i≠0)(hc:cd (tag i)=19)(hl:cd l=20) :Wg.Fits x (upd tag i l) k more:=by
 exact ZaI
theorem Wg.stay20_21 (F:x.Fits tag k more)(hi:i<k)(hi0:i≠0)(hc:cd (tag i)=20)(hl:cd l=21) :Wg.Fits x (upd tag i l) k more:=by
 exact ZaI
theorem Wg.stay22_23 (F:x.Fits tag k more)(hi:i<k)(hi0:i≠0)(hc:cd (tag i)=22)(hl:cd l=23) :Wg.Fits x (upd tag i l) k more:=by
 obtain⟨f1,f2,f3,f4,f5,f6⟩:=F
 have e0:Ct cW (upd tag i l) k+0=Ct cW tag k+0:=ct hi hc hl cW
 have e1:Ct cL (upd tag i l) k+1=Ct cL tag k+1:=ct hi hc hl cL
 have e2:Ct cE (upd tag i l) k+0=Ct cE tag k+0:=ct hi hc hl cE
 have g2:1<=Ct cL tag k:=cl hi hc cL
 exact Zil
end
end Go.LL
end
