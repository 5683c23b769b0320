import Derived.Test.YthmnpenamnoniaaGreatDoorP12
set_option linter.all false
section
namespace Go.LL
open Go.Conc (Knows Deaf touchAt QuitsD crowd woken)
open Go.ConcN (sumTo upd sumTo_upd upd_ne upd_same)
section
variable  {p:Program}{T:Team p}{G:Frame->List Frame->Hp->Prop}{n:Nat}{H0:Hp}{w0:World}{gs:Array Goroutine}{w:World}{t:Trace}{s:T.S}{Hs:Hp}{Hf:Nat->Hp}{md:Nat->Nat}{rk:Nat->Rk}
def Zh6 (T:Team p)(G:Frame->List Frame->Hp->Prop)(n:Nat)(H0:Hp)(w0:World)(m:Machine)(t:Trace):Prop:=
 ∃ k gs' w' sl' t' s' Hs' Hf' md' rk',runNT p k m t=(.next (crowd gs' w' sl'),t')∧Conf T G n H0 w0 gs' w' t' s' Hs' Hf' md' rk'∧∃ fr cs,gs'[0]? = some (gor fr cs)∧G fr cs (Hf' 0)
theorem Zh6.step {m m':Machine}{t u:Trace}(h:stepT p m=(.next m',u))(hc:Zh6 T G n H0 w0 m' (t++u)):Zh6 T G n H0 w0 m t:=by
 obtain⟨k,gs',w',sl',t',s',Hs',Hf',md',rk',h1,h2⟩:=hc
 exact⟨k+1,gs',w',sl',t',s',Hs',Hf',md',rk',by simp only[runNT,h];exact h1,h2⟩
theorem Meets.still {i:Nat}{H:Hp}(ha:Ahead T i H s Hs t w):Meets T i s Hs t w H #[] s Hs w:=
 ⟨Nat.le_refl _,fun _ _ _ _=>rfl,ha.leS,fun b x hx=>.inr ⟨x,.inr hx,fun _=>rfl⟩,.refl w,by simp,by simp,by simp,by simpa using ha.inv⟩
theorem Gets.still {i:Nat}{H:Hp}(ha:Ahead T i H s Hs t w):Gets i Hs w H (t++#[]) Hs w H:=
 ⟨ha.le,ha.dis,fun b x hx=>.inr ⟨x,.inl hx,fun _=>rfl⟩,by simpa using ha.perm⟩
theorem Gets.bare {i:Nat}{H Hs':Hp}{w':World}{t':Trace}(g:List Nat):Gets i Hs w H t' Hs' w' (.bare g):=
 ⟨fun b o p h=>by simp[Hp.bare]at h,fun b x y h=>by simp[Hp.bare]at h,fun b x h=>by simp[Hp.bare]at h,fun b o p h=>by simp[Hp.bare]at h⟩
def meas (s:T.S)(gs:Array Goroutine)(md:Nat->Nat)(rk:Nat->Rk):Ms:=(T.more s,sumTo gs.size md,rk,sumTo gs.size (runs gs))
theorem ms_more {a a':Nat}(h:a'<a)(x x':Nat×(Nat->Rk)×Nat):MsLt n (a',x') (a,x):=.left _ _ h
theorem ms_le {a a' b b':Nat}{r r':Nat->Rk}{c c':Nat}(ha:a'<=a)(h:b'<b∨(b'=b∧(PiLt n r' r∨r'=r∧c'<c))):MsLt n (a',b',r',c') (a,b,r,c):=by
 rcases Nat.lt_or_ge a' a with hlt | hge
 ·exact .left _ _ hlt
 ·obtain rfl:a'=a:=by omega
  refine .right _ ?_
  rcases h with h | ⟨rfl,h⟩
  ·exact .left _ _ h
  ·refine .right _ ?_
   rcases h with h | ⟨rfl,h⟩
   ·exact .left _ _ h
   ·exact .right _ h
theorem woke {fr fr':Frame}{cs cs':List Frame}{s':T.S}(h:mayWake p (gor fr cs)=true∨∀ j,T.Blk s j->T.Blk s' j) :
  (mayWake p (gor fr cs) && (gor fr' cs').status != .blocked && (gor fr' cs').status != .waiting)=true∨∀ j,T.Blk s j->T.Blk s' j:=h.imp (fun h=>by rw[h];rfl) id
theorem ZfT (i:Nat)(fr:Frame):Zbl i fr #[]=#[]:=by simp[Zbl,Go.Conc.ofEvents_eq]
theorem laid {i:Nat}(hi:i<gs.size)(f:Goroutine->Goroutine)(g:Goroutine):((gs.map f).setIfInBounds i g)[i]? = some g:=by simp[hi]
theorem Zir {M:Ms}(ih:∀ M',MsLt n M' M->∀ gs w sl t s Hs Hf md rk,meas (T:=T) s gs md rk=M'->Conf T G n H0 w0 gs w t s Hs Hf md rk->Zh6 T G n H0 w0 (crowd gs w sl) t)
  (hM:meas s gs md rk=M) (C:Conf T G n H0 w0 gs w t s Hs Hf md rk) {i:Nat} (hi:i<gs.size) {sl sl':Option (Nat×Nat)} {d:Nat} {fr fr':Frame} {cs cs':List Frame} {w':World} {es:Array Event} {s':T.S} {Hs' H':Hp} {m:Nat} {k:Rk}
  (hg:gs[i]? = some (gor fr cs)) (hst:stepT p (crowd gs w sl)=runT p (crowd gs (w.at d) sl') i) (hstep:stepG p (i == 0) (gor fr cs) (w.at d)=.go (gor fr' cs') w' es)
  (hm:Meets T i s Hs t (w.at d) (Hf i) (Zbl i fr es) s' Hs' w') (hgt:Gets i Hs (w.at d) (Hf i) (t++Zbl i fr es) Hs' w' H') (htag:∀ j,T.tag s' j=if j=i then H'.gh else T.tag s j) (hnext:T.next s'=T.next s) (hmore:T.more s'<=T.more s)
  (hb:mayWake p (gor fr cs)=true∨∀ j,T.Blk s j->T.Blk s' j)
  (hsta:∀ gs':Array Goroutine,gs'[i]? = some (gor fr' cs')->Sta T G gs' (t++Zbl i fr es) s' i H' m k) (hmeas:m<md i∨m=md i∧Rk.lt k (rk i)):Zh6 T G n H0 w0 (crowd gs w sl) t:=by
 have hrun:=Go.Conc.runT_crowd_go (P:=p) (sl:=sl') hg hstep
 refine Zh6.step (hst.trans hrun) ?_
 have hC:=(C.at d).go hi (g:=gor fr cs) (g':=gor fr' cs') (fun op hop=>ZbR op hop) hm hgt htag hnext hmore (woke hb) (hsta _ (laid hi _ _))
 refine ih _ ?_ _ _ _ _ _ _ _ _ _ rfl hC
 rw[<-hM]
 unfold meas
 have hsz:((gs.map (woken p (gor fr cs) (gor fr' cs') w')).setIfInBounds i (gor fr' cs')).size=gs.size:=by simp
 rw[hsz]
 refine ms_le hmore ?_
 rcases hmeas with h | ⟨rfl,h⟩
 ·exact .inl (sum_lt hi h)
 ·exact .inr ⟨by rw[ZdW],.inl (pi_lt (Nat.lt_of_lt_of_le hi (by have:=C.bound;omega)) h)⟩
theorem ZhC {M:Ms}(ih:∀ M',MsLt n M' M->∀ gs w sl t s Hs Hf md rk,meas (T:=T) s gs md rk=M'->Conf T G n H0 w0 gs w t s Hs Hf md rk->Zh6 T G n H0 w0 (crowd gs w sl) t)
  (hM:meas s gs md rk=M) (C:Conf T G n H0 w0 gs w t s Hs Hf md rk) {i:Nat} (hi:i<gs.size) {sl sl':Option (Nat×Nat)} {d:Nat} {fr:Frame} {cs:List Frame}
  (hg:gs[i]? = some (gor fr cs)) (hst:stepT p (crowd gs w sl)=runT p (crowd gs (w.at d) sl') i) (hbl:ZkC T i fr cs s (w.at d))
  (hsta:∀ gs':Array Goroutine,gs'[i]? = some (blk fr cs)->Sta T G gs' t s i (Hf i) (md i) (rk i)):Zh6 T G n H0 w0 (crowd gs w sl) t:=by
 obtain⟨h1,h2⟩:=hbl
 have hrun:=Go.Conc.runT_crowd_go (P:=p) (sl:=sl') hg h1
 have e0:MemOp.ofEvents i (gor fr cs).frame.fn (gor fr cs).frame.place #[]=#[]:=ZfT i fr
 rw[e0]at hrun
 refine Zh6.step (hst.trans hrun) ?_
 have ha:=(C.at d).ahead hi
 have hC:=(C.at d).go hi (g:=gor fr cs) (g':=(blk fr cs)) (u:=#[]) (by simp) (Meets.still ha) (Gets.still ha) (fun j=>by split;subst j;exact C.tag _ hi;rfl) rfl (Nat.le_refl _) (.inr fun _ h=>h)
  (m:=md i) (k:=rk i) (by have:=hsta _ (laid hi (woken p (gor fr cs) (blk fr cs) (w.at d)) (blk fr cs));simpa using this)
 rw[ZdW,ZdW,ZdW]at hC
 refine ih _ ?_ _ _ _ _ _ _ _ _ _ rfl hC
 rw[<-hM]
 unfold meas
 have hsz:((gs.map (woken p (gor fr cs) (blk fr cs) (w.at d))).setIfInBounds i (blk fr cs)).size=gs.size:=by simp
 rw[hsz]
 refine ms_le (Nat.le_refl _) (.inr ⟨rfl,.inr ⟨rfl,?_⟩⟩)
 have hwk:∀ o,woken p (gor fr cs) (blk fr cs) (w.at d) o=o:=by
  intro o
  simp[woken]
 have hid:gs.map (woken p (gor fr cs) (blk fr cs) (w.at d))=gs:=by
  have:woken p (gor fr cs) (blk fr cs) (w.at d)=id:=funext hwk
  rw[this,Array.map_id]
 rw[hid]
 have:runs (gs.setIfInBounds i (blk fr cs))=upd (runs gs) i 0:=by
  funext j
  rw[ZdE]
  unfold runs
  by_cases hj:j=i
  ·subst hj
   simp[hi]
  ·rw[if_neg hj,Array.getElem?_setIfInBounds_ne (Ne.symm hj)]
 rw[this]
 exact sum_lt hi (by simp[runs,hg])
end
end Go.LL
end
section
namespace Go.LL
open Go.Conc (Knows Deaf touchAt QuitsD crowd woken)
open Go.ConcN (sumTo upd sumTo_upd upd_ne upd_same)
section
variable  {p:Program}{T:Team p}{G:Frame->List Frame->Hp->Prop}{n:Nat}{H0:Hp}{w0:World}{gs:Array Goroutine}{w:World}{t:Trace}{s:T.S}{Hs:Hp}{Hf:Nat->Hp}{md:Nat->Nat}{rk:Nat->Rk}
theorem Zme {i:Nat}{fr:Frame}{es:Array Event}(h:∀ e∈es,Event.mute e=true):∀ op∈Zbl i fr es,ZkB i op:=by
 intro op hop
 obtain⟨⟨loc,wr,sy⟩,he,rfl⟩:=Go.Conc.mem_ofEvents hop
 have:=h _ he
 refine⟨rfl,?_⟩
 cases loc with
 | mark m=>cases m<;>first | exact .inl rfl | exact .inr rfl | simp[Event.mute]at this
 | _=>simp[Event.mute]at this
theorem ZkB.touch {i:Nat}{op:MemOp}(h:ZkB i op):op.act.touch? = none:=by
 rcases h.2 with h | h<;>rw[h]<;>rfl
theorem ZkB.low {i n:Nat}{op:MemOp}(h:ZkB i op):op.act.low n:=by
 rcases h.2 with h | h<;>rw[h]<;>trivial
theorem on_leave (hT:T.Sound){M:Ms}(ih:∀ M',MsLt n M' M->∀ gs w sl t s Hs Hf md rk,meas (T:=T) s gs md rk=M'->Conf T G n H0 w0 gs w t s Hs Hf md rk->Zh6 T G n H0 w0 (crowd gs w sl) t)
  (hM:meas s gs md rk=M) (C:Conf T G n H0 w0 gs w t s Hs Hf md rk) {i:Nat} (hi:i<gs.size) {sl sl':Option (Nat×Nat)} {d:Nat} {g:Goroutine} {q:Nat} (hi0:i≠0) (hmd:md i=0) (hl:(Hf i).gh=T.left) (hn:noHp (Hf i))
  (hg:gs[i]? = some g) (hr:g.status=.running) (hst:stepT p (crowd gs w sl)=runT p (crowd gs (w.at d) sl') i) (hq:QuitsD p q (Deaf t i) g) (hrk:rk i=.ofNat q):Zh6 T G n H0 w0 (crowd gs w sl) t:=by
 cases q with
 | zero=>rw[hq.1]at hr;simp at hr
 | succ k=>
  rcases hq with ⟨hf,_⟩ | ⟨_,g',es,hmu,hstp,hq'⟩
  ·rw[hf]at hr;simp at hr
  have hb0:(i == 0)=false:=by simp[hi0]
  have hrun:=Go.Conc.runT_crowd_go (P:=p) (sl:=sl') hg (by rw[hb0];exact hstp (w.at d))
  refine Zh6.step (hst.trans hrun) ?_
  have ha:=(C.at d).ahead hi
  have hmo:=Zme (i:=i) (fr:=g.frame) hmu
  have hm:Meets T i s Hs t (w.at d) (Hf i) (Zbl i g.frame es) s Hs (w.at d):=
   ⟨Nat.le_refl _,fun _ _ _ _=>rfl,ha.leS,fun b x hx=>.inr ⟨x,.inr hx,fun _=>rfl⟩,.refl _,fun op hop x hx=>by rw[(hmo op hop).touch]at hx;simp at hx,
    fun _ _ _ _ op hop x hx=>by rw[(hmo op hop).touch]at hx;simp at hx,fun op hop=>(hmo op hop).low,hT.mute ha.inv ha.lt (ha.tag.trans hl) hmo⟩
  have hgt:Gets i Hs (w.at d) (Hf i) (t++Zbl i g.frame es) Hs (w.at d) (Hf i):=
   ⟨ha.le,ha.dis,fun b x hx=>.inr ⟨x,.inl hx,fun _=>rfl⟩,ha.perm.own fun op hop=>.inl (ZbR op hop)⟩
  have hC:=(C.at d).go hi (g:=g) (g':=g') (fun op hop=>ZbR op hop) hm hgt (fun j=>by split;subst j;exact C.tag _ hi;rfl) rfl (Nat.le_refl _) (.inr fun _ h=>h) (m:=0) (k:=.ofNat k)
   ⟨hi0,hl,hn,g',k,laid hi _ _,by rw[Go.Conc.Deaf_own];exact hq',rfl⟩
  refine ih _ ?_ _ _ _ _ _ _ _ _ _ rfl hC
  rw[<-hM]
  unfold meas
  have hsz:((gs.map (woken p g g' (w.at d))).setIfInBounds i g').size=gs.size:=by simp
  rw[hsz]
  have hmm:upd md i 0=md:=by rw[<-hmd,ZdW]
  refine ms_le (Nat.le_refl _) (.inr ⟨by rw[hmm],.inl (pi_lt (Nat.lt_of_lt_of_le hi (by have:=C.bound;omega)) ?_)⟩)
  rw[hrk]
  exact Rk.ofNat_lt k
theorem ZhW {i k:Nat}{fr frc:Frame}{es:Array Event}:Zc4 i k fr frc es=((Zbl i fr es)++#[({ g:=i,fn:=fr.fn,pos:=fr.place,act:=.go k }:MemOp)])++#[({ g:=k,fn:=frc.fn,pos:=fr.place,act:=.start }:MemOp)]:=by
 simp[Zc4]
theorem Conf.spawn (C:Conf T G n H0 w0 gs w t s Hs Hf md rk){fr fr' frc:Frame}{cs':List Frame}{w':World}{H' Hc:Hp}{s':T.S}{Hs':Hp}{es:Array Event}{k kc:Rk}
  (hm:Meets T 0 s Hs t w (Hf 0) (Zc4 0 (T.next s) fr frc es) s' Hs' w') (hg:Gets 0 Hs w (Hf 0) (t++Zc4 0 (T.next s) fr frc es) Hs' w' H') (hgc:Gets (T.next s) Hs w (Hf 0) (t++Zc4 0 (T.next s) fr frc es) Hs' w' Hc) (hd:H'.Dis Hc)
  (htag:∀ j,T.tag s' j=if j=0 then H'.gh else if j=T.next s then Hc.gh else T.tag s j) (hnext:T.next s'=T.next s+1) (hmore:T.more s'<T.more s) (hb:∀ j,j<T.next s->T.Blk s j->T.Blk s' j)
  (hact:T.act H'.gh) (hrk:Rank (Phi T.prgM G) k (fr',cs',H')) (hactc:T.act Hc.gh) (hrkc:Rank (Phi (T.prgW (T.next s)) Zcr) kc (frc,[],Hc)) :
  Conf T G n H0 w0 ((gs.setIfInBounds 0 (gor fr' cs')).push (gor frc [])) w' (t++Zc4 0 (T.next s) fr frc es) s' Hs' (upd (upd Hf 0 H') (T.next s) Hc) (upd (upd md 0 3) (T.next s) 2) (upd (upd rk 0 k) (T.next s) kc):=by
 have hp:=C.pos
 have hnz:T.next s≠0:=by rw[<-C.size];omega
 have hgs:((gs.setIfInBounds 0 (gor fr' cs')).push (gor frc [])).size=gs.size+1:=by simp
 have hK:∀ K,From (Hf 0) Hs w K->From H0 .nil w0 K:=by
  intro K hK b x hx
  rcases hK b x hx with h | ⟨y,hy,he⟩
  ·exact .inl (Nat.le_trans C.grown h)
  ·have:w0.heap.size<=b∨∃ z,(H0 b=some z∨Hp.nil b=some z)∧(z.2=false->y=z):=hy.elim (fun h=>C.org 0 b y h) (fun h=>C.orgS b y h)
   refine this.imp id fun ⟨z,hz,hzy⟩=>⟨z,hz,fun hf=>?_⟩
   have:=hzy hf
   rw[<-this]at hf ⊢
   exact he hf
 have lej:∀ j,j≠0->(Hf j).le w':=fun j hj=>stays (C.dis 0 j (Ne.symm hj)) (C.disS j).symm (C.le j) hm.keep
 have dj:∀ j,j≠0->H'.Dis (Hf j):=fun j hj=>hg.from1.dis (C.le j) (C.dis 0 j (Ne.symm hj)) (C.disS j).symm
 have dc:∀ j,j≠0->Hc.Dis (Hf j):=fun j hj=>hgc.from1.dis (C.le j) (C.dis 0 j (Ne.symm hj)) (C.disS j).symm
 have hdeaf:∀ j,j≠0->j≠T.next s->Deaf (t++Zc4 0 (T.next s) fr frc es) j=Deaf t j:=by
  intro j h0 hk
  rw[ZhW,<-Array.append_assoc,Go.Conc.Deaf_other _ (g':=T.next s) (Ne.symm hk) _ (by simp)]
  refine Go.Conc.Deaf_other _ (g':=0) (Ne.symm h0) _ ?_
  intro op hop
  rcases Array.mem_append.1 hop with h | h
  ·exact ZbR op h
  ·simp at h;subst h;rfl
 have hH:∀ j,upd (upd Hf 0 H') (T.next s) Hc j=if j=T.next s then Hc else if j=0 then H' else Hf j:=fun j=>rfl
 refine⟨by rw[hgs,hnext,C.size],by rw[hgs];omega,?_,hm.inv,hm.leS,?_,?_,?_,?_,?_,?_,?_,?_,?_,?_,C.out.trans hm.out,Nat.le_trans C.grown hm.size,?_,?_,hK _ hm.from2⟩
 ·rw[hgs];have:=C.bound;omega
 ·intro j
  rw[hH]
  split
  ·exact hgc.le
  ·split
   ·exact hg.le
   ·exact lej j ‹_›
 ·intro j j' hne
  rw[hH,hH]
  by_cases h1:j=T.next s
  ·rw[if_pos h1,if_neg (by omega)]
   by_cases h2:j'=0
   ·rw[if_pos h2];exact hd.symm
   ·rw[if_neg h2];exact dc j' h2
  ·rw[if_neg h1]
   by_cases h2:j'=T.next s
   ·rw[if_pos h2]
    by_cases h3:j=0
    ·rw[if_pos h3];exact hd
    ·rw[if_neg h3];exact(dc j h3).symm
   ·rw[if_neg h2]
    by_cases h3:j=0
    ·rw[if_pos h3,if_neg (by omega)];exact dj j' (by omega)
    ·rw[if_neg h3]
     by_cases h4:j'=0
     ·rw[if_pos h4];exact(dj j h3).symm
     ·rw[if_neg h4];exact C.dis j j' hne
 ·intro j
  rw[hH]
  split
  ·exact hgc.dis
  ·split
   ·exact hg.dis
   ·rename_i hj
    exact(hm.from2.dis (C.le j) (C.dis 0 j (Ne.symm hj)) (C.disS j).symm).symm
 ·intro j
  rw[hH]
  split
  ·subst j;exact hgc.perm
  ·split
   ·subst j;exact hg.perm
   ·rename_i hj
    intro b o pm hb q a hq hl hw
    obtain⟨x,hx,hxa⟩:=Go.Conc.touch_of hq
    rcases Go.Conc.getElem?_append_cases hx with ⟨_,hx'⟩ | ⟨_,hxu⟩
    ·exact(C.perm j b o pm hb q a (by rw[Go.Conc.touchAt_of hx'];exact hxa) hl hw).app _
    ·exfalso
     rcases hm.evs x hxu a hxa b hl with ⟨o',p',h1,h2⟩ | h1
     ·have:(o',p')=(o,pm)∧(o',p').2=false:=h1.elim (fun h=>C.dis 0 j (Ne.symm hj) b _ _ h hb) (fun h=>(C.disS j).symm b _ _ h hb)
      obtain⟨e1,e2⟩:=this
      simp only[Prod.mk.injEq]at e1
      obtain⟨rfl,rfl⟩:=e1
      rcases hw with h | h
      ·rw[h]at e2;simp at e2
      ·rw[h2 h]at e2;simp at e2
     ·exact absurd ((C.le j).lt hb) (by omega)
 ·intro j hj
  rw[htag,hH]
  by_cases h0:j=0
  ·rw[if_pos h0,if_neg (by omega),if_pos h0]
  ·rw[if_neg h0]
   by_cases h1:j=T.next s
   ·rw[if_pos h1,if_pos h1]
   ·rw[if_neg h1,if_neg h1,if_neg h0]
    exact C.tag j (by rw[hgs]at hj;have:=C.size;omega)
 ·intro said
  rw[ZhW,<-Array.append_assoc]
  refine Go.Conc.noRace_append (g:=T.next s) (Go.Conc.noRace_append (g:=0) (C.clean said) ?_ ?_) (by simp) ?_
  ·intro op hop
   rcases Array.mem_append.1 hop with h | h
   ·exact ZbR op h
   ·simp at h;subst h;rfl
  ·intro q a ha op hop b hb' hc
   exact hm.norace said q a ha op (by rw[ZhW];exact Array.mem_append.2 (.inl hop)) b hb' hc
  ·intro q a ha op hop b hb'
   simp at hop
   subst hop
   simp[MemAct.touch?]at hb'
 ·exact Go.Conc.seen_app (fun op hop=>MemAct.low_mono hm.size (C.low op hop)) hm.low
 ·intro j hj
  rw[hgs]at hj
  rw[hdeaf j (by omega) (by rw[<-C.size];omega)]
  exact C.above j (by omega)
 ·intro j hj
  rw[hgs]at hj
  rw[hH,if_neg (by rw[<-C.size];omega),if_neg (by omega)]
  exact C.over j (by omega)
 ·intro j hj
  rw[hgs]at hj
  have e1:∀ {α:Type} (f:Nat->α) (x y:α),upd (upd f 0 x) (T.next s) y j=if j=T.next s then y else if j=0 then x else f j:=fun _ _ _=>rfl
  rw[e1,e1,e1]
  by_cases h1:j=T.next s
  ·rw[if_pos h1,if_pos h1,if_pos h1]
   subst h1
   refine⟨hnz,frc,[],.inl ?_,hrkc,hactc⟩
   rw[Array.getElem?_push,if_pos (by simp[C.size])]
  ·rw[if_neg h1,if_neg h1,if_neg h1]
   have hjlt:j<gs.size:=by have:=C.size;omega
   have hget:((gs.setIfInBounds 0 (gor fr' cs')).push (gor frc []))[j]? = (gs.setIfInBounds 0 (gor fr' cs'))[j]?:=by
    rw[Array.getElem?_push,if_neg (by simp;omega)]
   by_cases h0:j=0
   ·rw[if_pos h0,if_pos h0,if_pos h0]
    subst h0
    refine⟨rfl,fr',cs',.inl ?_,hrk,hact⟩
    rw[hget]
    simp[hp]
   ·rw[if_neg h0,if_neg h0,if_neg h0]
    have hget':((gs.setIfInBounds 0 (gor fr' cs')).push (gor frc []))[j]? = gs[j]?:=by
     rw[hget,Array.getElem?_setIfInBounds_ne (Ne.symm h0)]
    have aw:∀ fr cs,Awk T s gs j fr cs->Awk T s' ((gs.setIfInBounds 0 (gor fr' cs')).push (gor frc [])) j fr cs:=by
     intro fr cs h
     unfold Awk at h ⊢
     rw[hget']
     exact h.imp id fun h=>⟨h.1,hb j (by rw[<-C.size];exact hjlt) h.2⟩
    have h:=C.st j hjlt
    revert h
    generalize md j=m
    generalize rk j=r
    intro h
    match m,h with
    | 3,⟨h0,fr,cs,h1,h2⟩=>exact⟨h0,fr,cs,aw _ _ h1,h2⟩
    | 2,⟨h0,fr,cs,h1,h2⟩=>exact⟨h0,fr,cs,aw _ _ h1,h2⟩
    | 1,⟨h0,fr,cs,h1,h2⟩=>exact⟨h0,fr,cs,aw _ _ h1,h2⟩
    | 0,⟨h0',h1',h2,x,q,h3,h4,h5⟩=>exact⟨h0',h1',h2,x,q,by rw[hget'];exact h3,by rw[hdeaf j h0 h1];exact h4,h5⟩
 ·intro b hb hn
  rw[hm.keep b (Nat.lt_of_lt_of_le hb C.grown) ?_ ?_]
  ·exact C.keep b hb hn
  ·intro o ho
   rcases C.org 0 b _ ho with h | ⟨z,hz,he⟩
   ·omega
   ·rcases hz with hz | hz
    ·obtain⟨zo,zp⟩:=z
     cases zp with
     | true=>exact hn zo hz
     | false=>have:=he rfl;simp at this
    ·simp[Hp.nil]at hz
  ·intro o ho
   rcases C.orgS b _ ho with h | ⟨z,hz,he⟩
   ·omega
   ·rcases hz with hz | hz
    ·obtain⟨zo,zp⟩:=z
     cases zp with
     | true=>exact hn zo hz
     | false=>have:=he rfl;simp at this
    ·simp[Hp.nil]at hz
 ·intro j
  rw[hH]
  split
  ·exact hK _ hgc.from1
  ·split
   ·exact hK _ hg.from1
   ·exact C.org j
end
end Go.LL
end
section
namespace Go.LL
open Go.Conc (Knows Deaf touchAt QuitsD crowd woken)
open Go.ConcN (sumTo upd sumTo_upd upd_ne upd_same)
section
variable  {p:Program}{T:Team p}{G:Frame->List Frame->Hp->Prop}{n:Nat}{H0:Hp}{w0:World}
theorem lv_inj {d d':Nat}(h:lv d=lv d'):d=d':=by simpa[lv]using h
theorem Zhy (hT:T.Sound){i:Nat}:∀ (k:Rk) (fr:Frame) (cs:List Frame) (H:Hp) (d:Nat),H.gh=lv d->Rank (Phi (T.prgW i) Zcr) k (fr,cs,H)->∃ q,QuitsD p q d (gor fr cs):=by
 intro k
 induction Rk.acc k with
 | intro k _ ih=>
 intro fr cs H d hd h
 rcases Rank.step Phi.mono h with hbad | hls | ⟨_,hsh⟩
 ·exact hbad.elim
 ·obtain⟨fr',cs',hstep,k',hlt,hk'⟩:=hls.2 (by show T.stl H.gh=true;rw[hd];exact hT.stlLv d)
  obtain⟨q,hq⟩:=ih k' hlt fr' cs' H d hd hk'
  exact⟨q+1,.ctl rfl (fun w=>hstep false w) hq⟩
 ·rcases hsh with ⟨d',hd',h⟩ | ⟨ha,_⟩ | ⟨ha,_⟩
  ·obtain rfl:=lv_inj (hd.symm.trans hd')
   rcases h with ⟨fr',cs',es,hm,hst,k',hlt,hk'⟩ | ⟨rfl,g,hg,hst⟩
   ·obtain⟨q,hq⟩:=ih k' hlt fr' cs' _ _ rfl hk'
    exact⟨q+1,.inr ⟨rfl,_,es,hm,fun w=>hst false w,hq⟩⟩
   ·exact⟨1,.inr ⟨rfl,g,#[],by simp,hst,hg,rfl⟩⟩
  ·rw[show H.gh=lv d from hd]at ha;exact absurd ha (hT.actLv d)
  ·rw[show H.gh=lv d from hd]at ha;exact absurd ha (hT.hshLv d)
theorem ZlI (hT:T.Sound):∀ (M:Ms) (gs:Array Goroutine) (w:World) (sl:Option (Nat×Nat)) (t:Trace) (s:T.S) (Hs:Hp) (Hf:Nat->Hp) (md:Nat->Nat) (rk:Nat->Rk),
  meas s gs md rk=M->Conf T G n H0 w0 gs w t s Hs Hf md rk->Zh6 T G n H0 w0 (crowd gs w sl) t:=by
 intro M
 induction M using (ms_wf n).induction with
 | _ M ih=>
 intro gs w sl t s Hs Hf md rk hM C
 obtain⟨i,g,d,sl',hg,hr,hst⟩:=Go.Conc.crowd_pick (P:=p) (w:=w) (sl:=sl) C.awake (C.stuck hT)
 have hi:i<gs.size:=(Array.getElem?_eq_some_iff.1 hg).1
 have ha:=(C.at d).ahead hi
 have h:=C.st i hi
 have htag0:∀ j,T.tag s j=if j=i then (Hf i).gh else T.tag s j:=fun j=>by split;subst j;exact C.tag _ hi;rfl
 match hmd:md i,h with
 | 0,h=>
  obtain⟨h0,hl,hn,x,q,hx,hq,hk⟩:=h
  rw[hg]at hx
  obtain rfl:=Option.some.inj hx
  exact on_leave hT ih hM C hi h0 hmd hl hn hg hr hst hq hk
 | 1,h=>
  obtain⟨h0,fr,cs,haw,⟨Hl,hgl,hrk⟩,hh,hn⟩:=h
  obtain rfl:=haw.runs hg hr
  have hphi:=Rank.step Phi.mono hrk
  rcases hphi with hbad | hls | ⟨_,hsh⟩
  ·exact hbad.elim
  ·obtain⟨fr',cs',hstep,k',hlt,hk'⟩:=hls.2 (by show T.stl Hl.gh=true;rw[hgl];exact hT.stlHsh _ hh)
   have hm:=Meets.still ha
   have hgt:=Gets.still ha
   refine Zir ih hM C hi hg hst (hstep _ _) (by rw[ZfT];exact hm) (by rw[ZfT];exact hgt) htag0 rfl (Nat.le_refl _) (.inr fun _ h=>h) (m:=1) (k:=k') ?_ (.inr ⟨hmd.symm,hlt⟩)
   exact fun gs' hgs'=>⟨h0,fr',cs',.inl hgs',⟨Hl,hgl,hk'⟩,hh,hn⟩
  ·rcases hsh with ⟨d',hd',_⟩ | ⟨ha',_⟩ | ⟨_,hsh⟩
   ·rw[show (Hf i).gh=lv d' from hgl.symm.trans hd']at hh;exact absurd hh (hT.hshLv d')
   ·rw[show Hl.gh=(Hf i).gh from hgl]at ha'
    exact absurd hh (fun _=>hT.actHsh _ ha' hh)
   ·have hbare:Hp.bare Hl.gh=Hf i:=Hp.ext' (fun b=>(hn b).symm) hgl
    rw[hbare]at hsh
    rcases hsh s Hs t (w.at d) ha with ⟨fr',cs',w',H',s',Hs',es,h1,h2,h3,h4,h5,h6,h7,h8,⟨hh',k',hlt,hk'⟩ | ⟨hl,k',_,hk'⟩⟩ | hbl
    ·refine Zir ih hM C hi hg hst h1 h2 h3 h4 h5 h6 h7 (m:=1) (k:=k') ?_ (.inr ⟨hmd.symm,hlt⟩)
     exact fun gs' hgs'=>⟨h0,fr',cs',.inl hgs',⟨Hl.tagged H'.gh,rfl,hk'⟩,hh',h8⟩
    ·obtain⟨q,hq⟩:=Zhy hT k' fr' cs' _ _ rfl hk'
     refine Zir ih hM C hi hg hst h1 h2 h3 h4 h5 h6 h7 (m:=0) (k:=.ofNat q) ?_ (.inl (by omega))
     exact fun gs' hgs'=>⟨h0,hl,h8,_,q,hgs',hq,rfl⟩
    ·exact ZhC ih hM C hi hg hst hbl fun gs' hgs'=>by rw[hmd];exact⟨h0,fr,cs,.inr ⟨hgs',hbl.2⟩,⟨Hl,hgl,hrk⟩,hh,hn⟩
 | 2,h=>
  obtain⟨h0,fr,cs,haw,hrk,hh⟩:=h
  obtain rfl:=haw.runs hg hr
  have hphi:=Rank.step Phi.mono hrk
  rcases hphi with hbad | hls | ⟨_,hsh⟩
  ·exact hbad.elim
  ·obtain⟨fr',cs',w',H',es,hstep,hf,⟨k',hlt,hk'⟩,hes⟩:=hls.1 (i == 0) (w.at d) ha.le
   obtain⟨hm,hgt⟩:=Zf4 (fr:=fr) hT ha (.inl hh) hf hes
   refine Zir ih hM C hi hg hst hstep hm hgt (fun j=>by rw[hf.gh];exact htag0 j) rfl (Nat.le_refl _) (.inr fun _ h=>h) (m:=2) (k:=k') ?_ (.inr ⟨hmd.symm,hlt⟩)
   exact fun gs' hgs'=>⟨h0,fr',cs',.inl hgs',hk',by rw[hf.gh];exact hh⟩
  ·rcases hsh with ⟨d',hd',_⟩ | ⟨_,hsh⟩ | ⟨ha',_⟩
   ·rw[show (Hf i).gh=lv d' from hd']at hh;exact absurd hh (hT.actLv d')
   ·rcases hsh s Hs t (w.at d) ha with ⟨fr',cs',w',H',s',Hs',es,h1,h2,h3,h4,h5,h6,h7,⟨⟨k',hlt,hk'⟩,hh'⟩ | ⟨hh',k',_,hk'⟩⟩ | hbl
    ·refine Zir ih hM C hi hg hst h1 h2 h3 h4 h5 h6 h7 (m:=2) (k:=k') ?_ (.inr ⟨hmd.symm,hlt⟩)
     exact fun gs' hgs'=>⟨h0,fr',cs',.inl hgs',hk',hh'⟩
    ·refine Zir ih hM C hi hg hst h1 h2 (Gets.bare H'.gh) h4 h5 h6 h7 (m:=1) (k:=k') ?_ (.inl (by omega))
     exact fun gs' hgs'=>⟨h0,fr',cs',.inl hgs',⟨(Hf i).tagged H'.gh,rfl,hk'⟩,hh',fun _=>rfl⟩
    ·exact ZhC ih hM C hi hg hst hbl fun gs' hgs'=>by rw[hmd];exact⟨h0,fr,cs,.inr ⟨hgs',hbl.2⟩,hrk,hh⟩
   ·exact absurd ha' (hT.actHsh _ hh)
 | 3,h=>
  obtain⟨rfl,fr,cs,haw,hrk,hh⟩:=h
  obtain rfl:=haw.runs hg hr
  have hphi:=Rank.step Phi.mono hrk
  rcases hphi with hgoal | hls | ⟨_,hsh⟩
  ·exact⟨0,gs,w,sl,t,s,Hs,Hf,md,rk,rfl,C,fr,cs,hg,hgoal⟩
  ·obtain⟨fr',cs',w',H',es,hstep,hf,⟨k',hlt,hk'⟩,hes⟩:=hls.1 (0 == 0) (w.at d) ha.le
   obtain⟨hm,hgt⟩:=Zf4 (fr:=fr) hT ha (.inl hh) hf hes
   refine Zir ih hM C hi hg hst hstep hm hgt (fun j=>by rw[hf.gh];exact htag0 j) rfl (Nat.le_refl _) (.inr fun _ h=>h) (m:=3) (k:=k') ?_ (.inr ⟨hmd.symm,hlt⟩)
   exact fun gs' hgs'=>⟨rfl,fr',cs',.inl hgs',hk',by rw[hf.gh];exact hh⟩
  ·rcases hsh s Hs t (w.at d) ha with ⟨fr',cs',w',H',s',Hs',es,h1,h2,h3,h4,h5,h6,h7,⟨k',hlt,hk'⟩,hh'⟩ | hbl | ⟨fr',cs',frc,w',H',Hc,s',Hs',es,h1,h2,h3,h4,h5,h6,h7,h8,h9,⟨k',hlt,hk'⟩,h11,h12,h13⟩
   ·refine Zir ih hM C hi hg hst h1 h2 h3 h4 h5 h6 h7 (m:=3) (k:=k') ?_ (.inr ⟨hmd.symm,hlt⟩)
    exact fun gs' hgs'=>⟨rfl,fr',cs',.inl hgs',hk',hh'⟩
   ·exact ZhC ih hM C hi hg hst hbl fun gs' hgs'=>by rw[hmd];exact⟨rfl,fr,cs,.inr ⟨hgs',hbl.2⟩,hrk,hh⟩
   ·obtain⟨kc,hkc⟩:=h13.rank
    have hrun:=Go.Conc.runT_crowd_spawn (P:=p) (sl:=sl') hg (show stepG p (0 == 0) (gor fr cs) (w.at d)=_ from h1)
    refine Zh6.step (hst.trans hrun) ?_
    have hC:=(C.at d).spawn h2 h3 h4 h5 h6 h7 h8 h9 h11 hk' h12 hkc
    have e:Zc4 0 (T.next s) fr frc es=(((MemOp.ofEvents 0 (gor fr cs).frame.fn (gor fr cs).frame.place es).push { g:=0,fn:=(gor fr cs).frame.fn,pos:=(gor fr cs).frame.place,act:=.go gs.size }).push { g:=gs.size,fn:=(gor frc []).frame.fn,pos:=(gor fr cs).frame.place,act:=.start }:Trace):=by
     rw[C.size];rfl
    rw[e]at hC
    refine ih _ ?_ _ _ _ _ _ _ _ _ _ rfl hC
    rw[<-hM]
    exact ms_more h8 _ _
 | m+4,h=>exact h.elim
end
end Go.LL
end
