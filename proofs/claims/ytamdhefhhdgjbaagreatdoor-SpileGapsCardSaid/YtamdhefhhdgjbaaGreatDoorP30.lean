/- proofs about Leango given: part P30; made by a program out of the longer texts in wip -/
import Derived.Test.YtamdhefhhdgjbaaGreatDoorP29
set_option linter.all false
section
open Go Go.LL
namespace Go.Proofs
def In99 (m:N4):Prop:=∀ j,j<4->0<=m.get j∧m.get j<=99
theorem Zh0 {bf:Int}{sl:Nat}:∀ r,r<=2 * sl+1->∀ k∈innerR bf sl r,k.bf=bf∧-(sl:Int)<=k.by_∧k.by_<=sl∧k.by_≠0
 | 0,_,k,h=>by simp[innerR]at h
 | r+1,hr,k,h=>by
  rw[innerR]at h
  split at h
  ·exact Zh0 r (by omega) k h
  ·rename_i hn
   rcases List.mem_cons.1 h with rfl | h
   ·exact⟨rfl,by show -(sl:Int)<=(sl:Int)-r;omega,by show (sl:Int)-r<=sl;omega,hn⟩
   ·exact Zh0 r (by omega) k h
theorem Zj7 {n sl:Nat}:∀ r,r+1<=n->∀ k∈outerR n sl r,(1<=k.bf∧k.bf<n)∧-(sl:Int)<=k.by_∧k.by_<=sl∧k.by_≠0
 | 0,_,k,h=>by simp[outerR]at h
 | r+1,hr,k,h=>by
  rw[outerR]at h
  rcases List.mem_append.1 h with h | h
  ·obtain⟨h1,h2⟩:=Zh0 _ (Nat.le_refl _) k h
   exact⟨⟨by omega,by omega⟩,h2⟩
  ·exact Zj7 r (by omega) k h
theorem ZjT {b:Bk}(v:Zeo b):∀ k∈ZaC b,-3<=k.by_∧k.by_<=3:=by
 intro k h
 have:=v.sl;have:=v.n
 rcases List.mem_cons.1 h with rfl | h
 ·exact⟨by show (-3:Int)<=0;omega,by show (0:Int)<=3;omega⟩
 ·have:=Zj7 _ (by omega) k h
  omega
theorem ZjR {f:Int->List Boat}{hi:Int}{x:Boat}:∀ {c:Nat},x∈spanR f hi c->∃ v,hi-c<v∧v<=hi∧x∈f v
 | 0,h=>by simp[spanR]at h
 | c+1,h=>by
  rw[spanR]at h
  rcases List.mem_append.1 h with h | h
  ·exact⟨hi-c,by omega,by omega,h⟩
  ·obtain⟨v,h1,h2,h3⟩:=ZjR h
   exact⟨v,by omega,h2,h3⟩
theorem ZmI {b:Bk}(v:Zeo b):∀ r,r<=b.pts.length->∀ m,In99 m->∀ x∈boatsFrom b r m,In99 x.m∧-3<=x.by_∧x.by_<=3
 | 0,_,m,hm,x,h=>by
  rw[boatsFrom]at h
  obtain⟨k,hk,rfl⟩:=List.mem_map.1 (List.mem_filter.1 h).1
  exact⟨hm,ZjT v k hk⟩
 | r+1,hr,m,hm,x,h=>by
  rw[boatsFrom]at h
  have hi:b.pts.length-(r+1)<b.pts.length:=by omega
  rw[show ptAt b (b.pts.length-(r+1))=b.pts[b.pts.length-(r+1)] from Zbd hi _]at h
  obtain⟨p1,_⟩:=v.pts _ hi
  obtain⟨w,h1,h2,h3⟩:=ZjR h
  refine ZmI v r (by omega) _ (fun j hj=>?_) x h3
  rw[N4.put_get _ _ hj]
  split
  ·omega
  ·exact hm j hj
theorem zero_99:In99 ⟨0,0,0,0⟩:=by
 intro j hj
 match j,hj with
 | 0,_=>exact⟨by decide,by decide⟩
 | 1,_=>exact⟨by decide,by decide⟩
 | 2,_=>exact⟨by decide,by decide⟩
 | 3,_=>exact⟨by decide,by decide⟩
theorem Zc2 {b:Bk}(v:Zeo b):∀ x∈Zae b,In99 x.m∧-3<=x.by_∧x.by_<=3:=ZmI v _ (Nat.le_refl _) _ zero_99
theorem Zdr {x:Boat}(h:In99 x.m∧-3<=x.by_∧x.by_<=3):BtOk x:=⟨fun j hj=>by have:=h.1 j hj;exact⟨by omega,by omega⟩,⟨by omega,by omega⟩⟩
theorem gap_in {b:Bk}{x:Boat}(v:Zeo b)(h:In99 x.m∧-3<=x.by_∧x.by_<=3):∀ j,j<4->-102<=(Zas b x).get j∧(Zas b x).get j<=102:=by
 intro j hj
 have:=h.1 j hj;have:=v.op
 rw[Zas,N4.of_get _ hj]
 split
 ·unfold Zk9
  split<;>omega
 ·omega
theorem Zkr {b:Bk}{x:Boat}(v:Zeo b)(h:In99 x.m∧-3<=x.by_∧x.by_<=3):(Zas b x).Sm:=fun j hj=>by have:=gap_in v h j hj;exact⟨by omega,by omega⟩
def Zhu (k n:Nat):Int:=if k=0 then 2 else if k=n then 1 else 0
theorem Zjx {α:Type}{f:α->Bool}{l:List α}{j:Nat}(hj:j<l.length):((l.take (j+1)).filter f).length=((l.take j).filter f).length+if f l[j] then 1 else 0:=by
 rw[List.take_succ_eq_append_getElem hj,List.filter_append,List.length_append]
 cases h:f l[j]<;>simp[List.filter_cons,h]
section
variable  {P:Prg}[Tz P][Loud P]{H:Hp}
set_option maxHeartbeats 1000000
theorem ZlO {b:Bk}{pv cv w fv:Value}{l:List Boat}{f:Boat->Bool}(hw:SlAt H w l)(hl:l.length<=1000000)(hpc:(pv.cells=#[pv]∧Value.isOne pv=true)∧(cv.cells=#[cv]∧Value.isOne cv=true))(hf:∀ x∈l,∀ H',Inc H H'->CallV P fv #[ZaJ x] H' fun v H''=>Inc H' H''∧v=vb (f x)) :
  LL.Zag P 91 #[ZhG b pv cv w,fv] H fun v H'=>Inc H H'∧v=vi (Zhu (l.filter f).length l.length):=by
 have hs:∀ g,P.still g=false:=Loud.loud
 refine IsN.m (isn c91) (args:=[ZhG b pv cv w,fv]) rfl ?_
 unfold n91
 refine wkT ?_
 refine Zav hw rfl ?_
 refine wkT ?_
 refine ZaX l.length (fun j H'=>Inc H H') (fun j=>[(1,fv),(2,vi 0),(5,vi ((l.take j).filter f).length),(9,w),(10,vi l.length),(11,vi j)]) (fun j=>[(2,[vi b.op,vi b.sl,pv,cv,w])]) (.refl H) ⟨rfl,rfl,rfl,rfl,rfl,rfl,trivial⟩ ⟨rfl,trivial⟩ ?_
 intro j H1 hj hi1
 refine wkT ?_
 refine wiT (fun h1=>?_) (fun h1=>?_)
 ·have hj':j<l.length:=by omega
  have hc:=Zjx (f:=f) hj'
  have hle:((l.take j).filter f).length<=l.length:=Nat.le_trans (List.length_filter_le _ _) (by rw[List.length_take];omega)
  refine wkT ?_
  refine ZaE (hw.inc hi1) rfl rfl rfl (i:=j) hj' fun a ha=>?_
  refine wkT ?_
  refine Zao (hs _) rfl ha rfl ?_
  refine wkT ?_
  refine ZaQ (vs:=[ZaJ l[j]]) rfl rfl (hf l[j] (List.getElem_mem hj') H1 hi1) ?_
  rintro v H2 ⟨hi2,rfl⟩
  refine wkT ?_
  refine wiT (fun h2=>?_) (fun h2=>?_)
  ·rw[if_pos h2]at hc
   refine wkT ?_
   exact⟨⟨j+1,by omega⟩,Nat.sub_lt_sub_left (by omega) (Nat.lt_succ_self j),hi1.trans hi2,⟨rfl,rfl,by rw[hc];rfl,rfl,rfl,rfl,trivial⟩,⟨rfl,trivial⟩,rfl⟩
  ·rw[if_neg (by simp[h2])]at hc
   refine wkT ?_
   exact⟨⟨j+1,by omega⟩,Nat.sub_lt_sub_left (by omega) (Nat.lt_succ_self j),hi1.trans hi2,⟨rfl,rfl,by rw[hc];rfl,rfl,rfl,rfl,trivial⟩,⟨rfl,trivial⟩,rfl⟩
 ·have:j=l.length:=by omega
  subst this
  rw[List.take_length]
  refine wkT ?_
  refine wiT (fun h2=>?_) (fun h2=>?_)
  ·refine wkT ?_
   exact⟨hi1,by rw[Zhu,if_pos (by omega)];rfl⟩
  ·refine wkT ?_
   refine Zav (hw.inc hi1) rfl ?_
   refine wkT ?_
   refine wiT (fun h3=>?_) (fun h3=>?_)
   ·refine wkT ?_
    exact⟨hi1,by rw[Zhu,if_neg (by omega),if_pos (by omega)];rfl⟩
   ·refine wkT ?_
    exact⟨hi1,by rw[Zhu,if_neg (by omega),if_neg (by omega)];rfl⟩
theorem Zev {bv:Value}:CallV P (vf 90) #[bv] H fun v H'=>H=H'∧v=vb true:=Zc1 (by kernel_rfl) (whole_ok (Loud.loud _))
theorem Zit {b:Bk}(h:Zah b true=0):snag b=0∧1<=(Zae b).length:=by
 unfold Zah at h
 split at h
 ·exact absurd h (by assumption)
 ·split at h
  ·simp at h
  ·split at h
   ·simp at h
   ·exact⟨by omega,by omega⟩
theorem one_of {α:Type}[Enc α]{H:Hp}{v:Value}{l:List α}(h:SlAt H v l):v.cells=#[v]∧Value.isOne v=true:=by
 obtain⟨A,c,rfl,_⟩:=h;exact⟨rfl,rfl⟩
theorem Zhi {bv:Value}{b:Bk}(hb:BkAt H bv b)(hg:Za8 H)(hl:b.pts.length<=1000000)(hl2:b.cks.length<=1000000) :
  LL.Zag P 21 #[bv] H fun v H'=>Inc H H'∧v=.tuple #[vi (if Zah b true=0 then Zhu ((Zae b).filter Boat.slipped).length (Zae b).length else 0),vi (Zah b true)]:=by
 have hs:∀ g,P.still g=false:=Loud.loud
 have hb0:=hb
 obtain⟨pv,cv,rfl,hp,hc⟩:=hb
 refine IsN.m (isn c21) (args:=[.agg #[vi b.op,vi b.sl,pv,cv]]) rfl ?_
 unfold n21
 refine wkT ?_
 refine Zab (vs:=[.agg #[vi b.op,vi b.sl,pv,cv],vf 90]) rfl (ZdQ (there:=true) hb0 hg hl hl2 Zev) ?_
 rintro v H1 ⟨hi1,⟨hz,rfl⟩ | ⟨hz,pv',cv',w,bb,e,rfl,ow⟩⟩
 ·refine wkT ?_
  refine wiT (fun h1=>?_) (fun h1=>?_)
  ·refine wkT ?_
   exact⟨hi1,by rw[if_neg hz];rfl⟩
  ·exact absurd h1 hz
 ·simp only[Value.agg.injEq,Array.mk.injEq,List.cons.injEq,and_true]at e
  obtain⟨_,_,rfl,rfl⟩:=e
  have:=Zbp (ZaS (Zit hz).1)
  obtain⟨Ap,cp,rfl,hp'⟩:=hp
  obtain⟨Ac,cc,rfl,hc'⟩:=hc
  have hw:=ow.sl
  obtain⟨Aw,cw,rfl,_⟩:=ow.sl
  refine wkT ?_
  refine Zab (vs:=[ZhG b _ _ _,vf 92]) rfl (ZlO (l:=Zae b) (f:=Boat.slipped) hw (by omega) ⟨⟨rfl,rfl⟩,⟨rfl,rfl⟩⟩ (fun x hx H' hi=>(Zc1 (by kernel_rfl) (ZgK (hs _))).mono fun v H'' ⟨h1,h2⟩=>⟨h1 ▸ .refl _,h2⟩)) ?_
  rintro v H2 ⟨hi2,rfl⟩
  refine wkT ?_
  exact⟨hi1.trans hi2,by rw[if_pos hz,hz];rfl⟩
theorem Had_ok {bv:Value}{b:Bk}(hb:BkAt H bv b)(hg:Za8 H)(hl:b.pts.length<=1000000)(hl2:b.cks.length<=1000000) :
  LL.Zag P 31 #[bv] H fun v H'=>Inc H H'∧v=.tuple #[vi (if Zah b true=0 then Zhu ((Zae b).filter (ZgD b)).length (Zae b).length else 0),vi (Zah b true)]:=by
 have hs:∀ g,P.still g=false:=Loud.loud
 have hb0:=hb
 obtain⟨pv,cv,rfl,hp,hc⟩:=hb
 refine IsN.m (isn c31) (args:=[.agg #[vi b.op,vi b.sl,pv,cv]]) rfl ?_
 unfold n31
 refine wkT ?_
 refine Zab (vs:=[.agg #[vi b.op,vi b.sl,pv,cv],vf 90]) rfl (ZdQ (there:=true) hb0 hg hl hl2 Zev) ?_
 rintro v H1 ⟨hi1,⟨hz,rfl⟩ | ⟨hz,pv',cv',w,bb,e,rfl,ow⟩⟩
 ·refine wkT ?_
  refine wiT (fun h1=>?_) (fun h1=>?_)
  ·refine wkT ?_
   exact⟨hi1,by rw[if_neg hz];rfl⟩
  ·exact absurd h1 hz
 ·simp only[Value.agg.injEq,Array.mk.injEq,List.cons.injEq,and_true]at e
  obtain⟨_,_,rfl,rfl⟩:=e
  have val:=ZaS (Zit hz).1
  have:=Zbp val
  obtain⟨Ap,cp,rfl,hp'⟩:=hp
  obtain⟨Ac,cc,rfl,hc'⟩:=hc
  have hw:=ow.sl
  obtain⟨Aw,cw,rfl,_⟩:=ow.sl
  refine wkT ?_
  refine Zck rfl rfl ?_
  refine wkT ?_
  refine Zab (vs:=[ZhG b _ _ _,.func (.func 103) #[.agg #[vi b.op,vi b.sl,.slice Ap b.pts.length cp,.slice Ac b.cks.length cc]] #[]]) rfl (ZlO (l:=Zae b) (f:=ZgD b) hw (by omega) ⟨⟨rfl,rfl⟩,⟨rfl,rfl⟩⟩
   (fun x hx H' hi=>(Zc1 (by kernel_rfl) (ZmJ ((hb0.inc hi1).inc hi) val.good.bk (Zdr (Zc2 val x hx)) (by have:=val.n;omega) val.good.pts (Zkr val (Zc2 val x hx)) (hs _))).mono fun v H'' ⟨h1,h2⟩=>⟨h1.inc,h2⟩)) ?_
  rintro v H2 ⟨hi2,rfl⟩
  refine wkT ?_
  exact⟨hi1.trans hi2,by rw[if_pos hz,hz];rfl⟩
end
end Go.Proofs
end
section
open Go Go.LL
namespace Go.Proofs
def Zgv (b:Bk):List Int:=(Zae b).map fun x=>lowF b (Zas b x)
def ZdH (b:Bk):List Int:=(Zae b).map fun x=>Zfc b (Zas b x)
def sLow (b:Bk):Int:=Zbq gtB ((Zgv b).getD 0 0) ((Zgv b).drop 1)
def sHigh (b:Bk):Int:=Zbq ltB ((ZdH b).getD 0 0) ((ZdH b).drop 1)
def ZfI (b:Bk):Value:=
 if Zah b true=0 then (if sLow b > sHigh b then .tuple #[vi 0,vb false,vi 0] else .tuple #[vi (sLow b),vb true,vi 0]) else .tuple #[vi 0,vb false,vi (Zah b true)]
theorem map_take {α β:Type}(f:α->β){l:List α}{j:Nat}(hj:j<l.length):(l.map f).take (j+1)=(l.map f).take j++[f l[j]]:=by
 rw[List.take_succ_eq_append_getElem (by simpa using hj)]
 simp
def ZfN (k:Slip)(x:Boat):Bool:=x.slipped && decide (x.bf=k.bf∧x.by_=k.by_)
def ZjU (b:Bk):List Slip:=(ZaC b).filter fun k=>(Zae b).any (ZfN k)
theorem u38:Tryz.prog.underlying 38=some (.slice 70):=by kernel_rfl
theorem t38:tiOf Tryz.prog 38=some (1,some (.slice none 0 0),24):=by kernel_rfl
theorem t112:tiOf Tryz.prog 112=some (5,some Zmg,88):=by kernel_rfl
section
variable  {P:Prg}[Tz P][Loud P]{H:Hp}
set_option maxHeartbeats 1000000
theorem Zm2 {bv:Value}{b:Bk}(hb:BkAt H bv b)(hg:Za8 H)(hl:b.pts.length<=1000000)(hl2:b.cks.length<=1000000) :
  LL.Zag P 33 #[bv] H fun v H'=>Inc H H'∧v=ZfI b:=by
 have hs:∀ g,P.still g=false:=Loud.loud
 have hb0:=hb
 obtain⟨pv,cv,rfl,hp,hc⟩:=hb
 refine IsN.m (isn c33) (args:=[.agg #[vi b.op,vi b.sl,pv,cv]]) rfl ?_
 unfold n33
 refine wkT ?_
 refine Zab (vs:=[.agg #[vi b.op,vi b.sl,pv,cv],vf 90]) rfl (ZdQ (there:=true) hb0 hg hl hl2 Zev) ?_
 rintro v H1 ⟨hi1,⟨hz,rfl⟩ | ⟨hz,pv',cv',w,bb,e,rfl,ow⟩⟩
 ·refine wkT ?_
  refine wiT (fun h1=>?_) (fun h1=>?_)
  ·refine wkT ?_
   exact⟨hi1,by rw[ZfI,if_neg hz];rfl⟩
  ·exact absurd h1 hz
 ·simp only[Value.agg.injEq,Array.mk.injEq,List.cons.injEq,and_true]at e
  obtain⟨_,_,rfl,rfl⟩:=e
  obtain⟨hz0,hne⟩:=Zit hz
  have val:=ZaS hz0
  have hlen:=Zbp val
  have hn:=val.n
  obtain⟨Ap,cp,rfl,hp'⟩:=hp
  obtain⟨Ac,cc,rfl,hc'⟩:=hc
  have hw:=ow.sl
  obtain⟨Aw,cw,rfl,_⟩:=ow.sl
  refine wkT ?_
  refine ZaP (α:=Value×Value×Option Nat×Option Nat) (Zae b).length (fun j s H'=>Inc H1 H'∧Own H1 H' 3 s.1 ((Zgv b).take j) s.2.2.1∧Own H1 H' 3 s.2.1 ((ZdH b).take j) s.2.2.2∧Apart s.2.2.1 s.2.2.2)
   (fun j s=>[(3,vb false),(5,vi 0),(6,s.1),(7,s.2.1),(20,.slice Aw (Zae b).length cw),(21,vi (Zae b).length),(22,vi j)]) (fun j s=>[(5,[vi b.op,vi b.sl,.slice Ap b.pts.length cp,.slice Ac b.cks.length cc,.slice Aw (Zae b).length cw])]) (.slice none 0 0,.slice none 0 0,none,none) ⟨.refl H1,.nil H1 H1 3,.nil H1 H1 3,.none _⟩ ⟨rfl,rfl,rfl,rfl,rfl,rfl,rfl,trivial⟩ ⟨rfl,trivial⟩ ?_
  rintro j ⟨v5,v6,b5,b6⟩ H2 hj ⟨hs2,o5,o6,hap⟩
  simp only at o5 o6 hap
  refine wkT ?_
  refine wiT (fun h1=>?_) (fun h1=>?_)
  ·have hj':j<(Zae b).length:=by omega
   have hx:=Zc2 val (Zae b)[j] (List.getElem_mem hj')
   have e5:=map_take (fun x=>lowF b (Zas b x)) hj'
   have e6:=map_take (fun x=>Zfc b (Zas b x)) hj'
   have l5:((Zgv b).take j).length=j:=by simp[Zgv];omega
   have l6:((ZdH b).take j).length=j:=by simp[ZdH];omega
   refine wkT ?_
   refine ZaE (hw.inc hs2) rfl rfl rfl (i:=j) hj' fun a ha=>?_
   refine wkT ?_
   refine Zao (hs _) rfl ha rfl ?_
   generalize (Zae b)[j]=x at *
   refine wkT ?_
   refine Zab (vs:=[.agg #[vi b.op,vi b.sl,.slice Ap b.pts.length cp,.slice Ac b.cks.length cc],ZaJ x]) rfl (Zdn (hb0.inc (hi1.trans hs2)) val.good.bk (Zdr hx) (hs _)) ?_
   rintro v _ ⟨rfl,rfl⟩
   refine wkT ?_
   refine Zab (vs:=[.agg #[vi b.op,vi b.sl,.slice Ap b.pts.length cp,.slice Ac b.cks.length cc],numV (Zas b x)]) rfl (Zd0 (hb0.inc (hi1.trans hs2)) hn.2 (by omega) val.good.pts (Zkr val hx) (hs _)) ?_
   rintro v H3 ⟨hs3,rfl⟩
   have hs3':=hs2.trans hs3.inc
   have o5':=o5.inc hs3.inc
   have o6':=o6.inc hs3.inc
   refine kp_l hs ?_
   refine wkT ?_
   refine Zat (cs:=[vi (lowF b (Zas b x))]) (hs _) rfl fun r1 hr1=>?_
   refine kp_l hs ?_
   refine wkT ?_
   refine ZbW (l':=[lowF b (Zas b x)]) (und u34) (und u34) (tif t3) rfl (by decide) (hs3'.trans (Zaj hr1)) (o5'.ins hr1) ZcR rfl (by rw[l5];simp;omega) (by omega) rfl rfl (hs _) fun v5' H4 b5' hs4 o5'' c2=>?_
   obtain⟨o6'',hap'⟩:=(o5'.ins hr1).other (o6'.ins hr1) hap c2
   refine kp_l hs ?_
   refine wkT ?_
   refine Zat (cs:=[vi (Zfc b (Zas b x))]) (hs _) rfl fun r2 hr2=>?_
   refine kp_l hs ?_
   refine wkT ?_
   refine ZbW (l':=[Zfc b (Zas b x)]) (und u34) (und u34) (tif t3) rfl (by decide) (hs4.trans (Zaj hr2)) (o6''.ins hr2) ZcR rfl (by rw[l6];simp;omega) (by omega) rfl rfl (hs _) fun v6' H5 b6' hs5 o6''' c3=>?_
   obtain⟨o5''',hap''⟩:=(o6''.ins hr2).other (o5''.ins hr2) hap'.symm c3
   refine wkT ?_
   refine⟨(⟨j+1,by omega⟩,(v5',v6',b5',b6')),Nat.sub_lt_sub_left (by omega) (Nat.lt_succ_self j),⟨hs5,?_,?_,hap''.symm⟩,⟨rfl,rfl,rfl,rfl,rfl,rfl,rfl,trivial⟩,⟨rfl,trivial⟩,rfl⟩
   ·show Own H1 H5 3 v5' (((Zae b).map fun x=>lowF b (Zas b x)).take (j+1)) b5'
    rw[e5];exact o5'''
   ·show Own H1 H5 3 v6' (((Zae b).map fun x=>Zfc b (Zas b x)).take (j+1)) b6'
    rw[e6];exact o6'''
  ·have:j=(Zae b).length:=by omega
   subst this
   have l5:(Zgv b).length=(Zae b).length:=by simp[Zgv]
   have l6:(ZdH b).length=(Zae b).length:=by simp[ZdH]
   rw[List.take_of_length_le (by omega)]at o5 o6
   obtain⟨a5,c5,f1,f2⟩:=Zex o5.own (by omega)
   obtain⟨a6,c6,f3,f4⟩:=Zex o6.own (by omega)
   have s5:=o5.sl
   have s6:=o6.sl
   have n5:(Zgv b).getD 0 0=(Zgv b)[0]:=Zbd (by omega) 0
   have n6:(ZdH b).getD 0 0=(ZdH b)[0]:=Zbd (by omega) 0
   subst f1 f3
   refine wkT ?_
   refine ZaE s5 rfl rfl rfl (i:=0) (by omega) fun a ha=>?_
   refine wkT ?_
   refine Zaf (hs _) rfl ha ?_
   refine wkT ?_
   refine Zbu (lo:=1) (und u34) (tif t3) rfl rfl (by omega) ?_
   refine wkT ?_
   refine Zab (vs:=[vf 107,vi (Zgv b)[0],_]) rfl (Zh6 ZiP _ f2 (by simp;omega) (hs _)) ?_
   rintro v _ ⟨rfl,rfl⟩
   refine wkT ?_
   refine ZaE s6 rfl rfl rfl (i:=0) (by omega) fun a ha=>?_
   refine wkT ?_
   refine Zaf (hs _) rfl ha ?_
   refine wkT ?_
   refine Zbu (lo:=1) (und u34) (tif t3) rfl rfl (by omega) ?_
   refine wkT ?_
   refine Zab (vs:=[vf 108,vi (ZdH b)[0],_]) rfl (Zh6 Zko _ f4 (by simp;omega) (hs _)) ?_
   rintro v _ ⟨rfl,rfl⟩
   refine wkT ?_
   rw[<-n5,<-n6]
   refine wiT (fun h2=>?_) (fun h2=>?_)
   ·refine wkT ?_
    exact⟨hi1.trans hs2,by rw[ZfI,if_pos hz,if_pos (by exact h2)];rfl⟩
   ·refine wkT ?_
    exact⟨hi1.trans hs2,by rw[ZfI,if_pos hz,if_neg (by exact h2)];rfl⟩
theorem Zm4 {x:Boat}{k:Slip}{r:Nat}(hk:CellsAt H ⟨r,0,none⟩ [vi k.bf,vi k.by_]):LL.Zag P 97 #[ZaJ x,pt r] H fun v H'=>H=H'∧v=vb (ZfN k x):=by
 have hs:∀ g,P.still g=false:=Loud.loud
 refine IsN.m (isn c97) (args:=[ZaJ x,pt r]) rfl ?_
 unfold n97
 refine wkT ?_
 refine Zab (vs:=[ZaJ x]) rfl (ZgK (hs _)) ?_
 rintro v _ ⟨rfl,rfl⟩
 refine wkT ?_
 refine wiT (fun h1=>?_) (fun h1=>?_)
 ·refine wkT ?_
  refine Zao (hs _) rfl hk rfl ?_
  refine wkT ?_
  refine om_eqS (xs:=#[vi x.bf,vi x.by_]) (ys:=#[vi k.bf,vi k.by_]) g70 (fun Q g H hq=>eqP (.inl s70) Q hq) rfl rfl ?_
  refine wkT ?_
  have e:x.slipped=true:=by rw[Boat.slipped,decide_eq_false h1];rfl
  exact⟨rfl,by rw[ZfN,e];rfl⟩
 ·have e:x.slipped=false:=by rw[Boat.slipped,decide_eq_true h1];rfl
  refine wkT ?_
  exact⟨rfl,by rw[ZfN,e];rfl⟩
theorem ZkF {bv:Value}{b:Bk}(hb:BkAt H bv b)(hg:Za8 H)(hl:b.pts.length<=1000000)(hl2:b.cks.length<=1000000) :
  LL.Zag P 26 #[bv] H fun v H'=>Inc H H'∧((Zah b true≠0∧v=.tuple #[.slice none 0 0,vi (Zah b true)])∨(Zah b true=0∧∃ w bb,v=.tuple #[w,vi 0]∧Own H H' 70 w (ZjU b) bb)):=by
 have hs:∀ g,P.still g=false:=Loud.loud
 have hb0:=hb
 obtain⟨pv,cv,rfl,hp,hc⟩:=hb
 refine IsN.m (isn c26) (args:=[.agg #[vi b.op,vi b.sl,pv,cv]]) rfl ?_
 unfold n26
 refine wkT ?_
 refine ZbY rfl (hs _) fun r1 hr1=>?_
 have hi1:=Zaj (o:=.cells (Value.agg #[vi b.op,vi b.sl,pv,cv]).cells 25) hr1
 have c1:CellsAt (H.ins r1 (.cells (Value.agg #[vi b.op,vi b.sl,pv,cv]).cells 25)) ⟨r1,0,none⟩ [vi b.op,vi b.sl,pv,cv]:=Zar
 generalize H.ins r1 (.cells (Value.agg #[vi b.op,vi b.sl,pv,cv]).cells 25)=H1 at *
 refine wkT ?_
 refine Zao (hs _) rfl c1 rfl ?_
 refine wkT ?_
 refine Zab (vs:=[.agg #[vi b.op,vi b.sl,pv,cv],vf 90]) rfl (ZdQ (there:=true) (hb0.inc hi1) (CellsAt.inc hg hi1) hl hl2 Zev) ?_
 rintro v H2 ⟨hi2,⟨hz,rfl⟩ | ⟨hz,pv',cv',w,bb,e,rfl,ow⟩⟩
 ·refine wkT ?_
  refine Zaw (tif t112) (hs _) fun r4 hr4=>?_
  refine wkT ?_
  refine Zaz (v:=Zmg) (tif t112) (cs:=[vi 0,vi 0,.slice none 0 0,.slice none 0 0,.slice none 0 0]) rfl rfl (Hp.ins_same _ _ _) rfl rfl rfl (hs _) ?_
  rw[Zbc]
  refine wkT ?_
  refine wiT (fun h1=>?_) (fun h1=>?_)
  ·refine wkT ?_
   exact⟨(hi1.trans hi2).trans (Zaj hr4),.inl ⟨hz,rfl⟩⟩
  ·exact absurd h1 hz
 ·simp only[Value.agg.injEq,Array.mk.injEq,List.cons.injEq,and_true]at e
  obtain⟨_,_,rfl,rfl⟩:=e
  obtain⟨hz0,hne⟩:=Zit hz
  have val:=ZaS hz0
  have hlen:=Zbp val
  have hslen:=ZfM val
  obtain⟨Ap,cp,rfl,hp'⟩:=hp
  obtain⟨Ac,cc,rfl,hc'⟩:=hc
  have hw:=ow.sl
  obtain⟨Aw,cw,rfl,_⟩:=ow.sl
  refine wkT ?_
  refine Zaw (tif t112) (hs _) fun r4 hr4=>?_
  refine wkT ?_
  refine Zaz (v:=ZhG b (.slice Ap b.pts.length cp) (.slice Ac b.cks.length cc) (.slice Aw (Zae b).length cw)) (tif t112) (cs:=[vi 0,vi 0,.slice none 0 0,.slice none 0 0,.slice none 0 0]) rfl rfl (Hp.ins_same _ _ _) rfl rfl rfl (hs _) ?_
  rw[Zbc]
  have hi4:=Zaj (o:=.cells (ZhG b (.slice Ap b.pts.length cp) (.slice Ac b.cks.length cc) (.slice Aw (Zae b).length cw)).cells 112) hr4
  have c4:CellsAt (H2.ins r4 (.cells (ZhG b (.slice Ap b.pts.length cp) (.slice Ac b.cks.length cc) (.slice Aw (Zae b).length cw)).cells 112)) ⟨r4,0,none⟩ [vi b.op,vi b.sl,.slice Ap b.pts.length cp,.slice Ac b.cks.length cc,.slice Aw (Zae b).length cw]:=Zar
  generalize H2.ins r4 (.cells (ZhG b (.slice Ap b.pts.length cp) (.slice Ac b.cks.length cc) (.slice Aw (Zae b).length cw)).cells 112)=H4 at *
  refine wkT ?_
  refine Zaw (tif t38) (hs _) fun r6 hr6=>?_
  refine wkT ?_
  have c4':=c4.inc (Zaj (o:=.cells (Value.slice none 0 0).cells 38) hr6)
  have c44:CellsAt (H4.ins r6 (.cells (Value.slice none 0 0).cells 38)) ⟨r4,0,none⟩ [vi b.op,vi b.sl,.slice Ap b.pts.length cp,.slice Ac b.cks.length cc]:=by
   obtain⟨k1,o,p,k2,k3⟩:=c4'
   exact⟨k1,o,p,k2,fun j hj=>by
    rw[k3 j (by simp at hj ⊢;omega)]
    match j,hj with
    | 0,_=>rfl
    | 1,_=>rfl
    | 2,_=>rfl
    | 3,_=>rfl⟩
  refine Zao (hs _) rfl c44 rfl ?_
  refine wkT ?_
  refine Zck rfl rfl ?_
  refine wkT ?_
  refine ZeJ hs rfl (slips_iter val.good.sl0 (by have:=val.sl;omega) (by have:=val.n;omega)) (fun x hx=>by obtain⟨k,_,rfl⟩:=List.mem_map.1 hx;rfl)
   (fun n H'=>Inc H4 H'∧∃ v bb,H' r6=some (.cells #[v] 38,true)∧Own H4 H' 70 v (((ZaC b).take n).filter fun k=>(Zae b).any (ZfN k)) bb∧bb≠some r6) (fun e H'=>False) ⟨Zaj hr6,_,none,Hp.ins_same _ _ _,.nil H4 _ 70,by simp⟩
   (fun n H' J hc ⟨h1,v,bb,h2,h3,h4⟩=>⟨h1.trans (ZaY _ _),v,bb,Hp.join_left h2,h3.inc (ZaY _ _),h4⟩) (fun e H' J hc h=>h) (fun _ _ _=>trivial) ?_ ?_ ?_
  ·rintro n hn H5 ⟨g1,v,bb,g2,g3,g4⟩
   have hn':n<(ZaC b).length:=by simpa using hn
   have htk:(ZaC b).take (n+1)=(ZaC b).take n++[(ZaC b)[n]]:=by rw[List.take_succ_eq_append_getElem hn']
   have hxn:((ZaC b).map Zgw)[n]=[ZbG (ZaC b)[n]]:=by rw[List.getElem_map];rfl
   rw[hxn]
   rw[htk,List.filter_append]
   have hle:(((ZaC b).take n).filter fun k=>(Zae b).any (ZfN k)).length<=22:=Nat.le_trans (List.length_filter_le _ _) (Nat.le_trans (List.length_take_le _ _) (by omega))
   generalize (ZaC b)[n]=k at *
   refine wkT ?_
   refine Zaw (tif t70) (hs _) fun r7 hr7=>?_
   refine wkT ?_
   refine Zaz (v:=ZbG k) (tif t70) (cs:=[vi 0,vi 0]) rfl rfl (Hp.ins_same _ _ _) rfl rfl rfl (hs _) ?_
   rw[Zbc]
   have g1':=g1.trans (Zaj (o:=.cells (ZbG k).cells 70) hr7)
   have g2':=Zaj (o:=.cells (ZbG k).cells 70) hr7 _ _ g2
   have g3':=g3.ins (o:=.cells (ZbG k).cells 70) hr7
   have c7:CellsAt (H5.ins r7 (.cells (ZbG k).cells 70)) ⟨r7,0,none⟩ [vi k.bf,vi k.by_]:=Zar
   generalize H5.ins r7 (.cells (ZbG k).cells 70)=H6 at *
   refine wkT ?_
   refine Zaf (hs _) rfl (ZbA (j:=4) (c4.inc g1') rfl) ?_
   refine wkT ?_
   refine Zck rfl rfl ?_
   refine wkT ?_
   refine Zab (vs:=[.slice Aw (Zae b).length cw,.func (.func 97) #[] #[pt r7]]) rfl (ZeX (f:=ZfN k) (l:=Zae b) (fun x hx=>Zc1 (by kernel_rfl) (Zm4 c7)) ((hw.inc hi4).inc g1') (by omega) (hs _)) ?_
   rintro w _ ⟨rfl,rfl⟩
   refine wkT ?_
   refine wiT (fun h2=>?_) (fun h2=>?_)
   ·refine wkT ?_
    refine Zaf (hs _) rfl (Zan (cs:=[v]) g2') ?_
    refine wkT ?_
    refine Zao (hs _) rfl c7 rfl ?_
    refine wkT ?_
    refine Zat (cs:=[vi k.bf,vi k.by_]) (hs _) rfl fun r8 hr8=>?_
    refine wkT ?_
    refine ZbW (l':=[k]) (und u38) (und u38) (tif t70) rfl (by decide) (g1'.trans (Zaj hr8)) (g3'.ins hr8) (Za4 (l:=[k])) rfl (by simp only[List.length_singleton];omega) (by omega) rfl rfl (hs _) fun v' H7 b' k1 k2 k3=>?_
    have g6:H7 r6=some (.cells #[v] 38,true):=k3.keep r6 _ (Zaj hr8 _ _ g2') (fun e=>g4 e)
    have hv':=one_of k2.sl
    have hb':b'≠some r6:=by
     rcases k3.new with rfl | ⟨q,rfl,hq⟩
     ·exact g4
     ·rintro e
      obtain rfl:=Option.some.inj e
      rw[Zaj hr8 _ _ g2']at hq;simp at hq
    refine wkT ?_
    refine Zax (v:=v') (tif t38) rfl rfl g6 hv'.1 hv'.2 (hs _) ?_
    refine wkT ?_
    refine⟨Za6 k1 hr6,v',b',Hp.ins_same _ _ _,?_,hb'⟩
    rw[List.filter_cons,if_pos h2,List.filter_nil]
    refine⟨k2.own.sub fun c z e hc=>?_,k2.fresh⟩
    rw[Hp.ins_other _ _ (by rintro rfl;exact hb' e)];exact hc
   ·refine wkT ?_
    refine⟨g1',v,bb,g2',?_,g4⟩
    rw[List.filter_cons,if_neg (by simp[h2]),List.filter_nil,List.append_nil]
    exact g3'
  ·rintro H5 ⟨g1,v,bb,g2,g3,g4⟩
   rw[List.length_map,List.take_length]at g3
   refine wkT ?_
   refine Zaf (hs _) rfl (Zan (cs:=[v]) g2) ?_
   refine wkT ?_
   refine⟨((hi1.trans hi2).trans hi4).trans g1,.inr ⟨hz,v,bb,rfl,g3.own,fun q e=>?_⟩⟩
   have:=g3.fresh q e
   exact Zba ((hi1.trans hi2).trans hi4) this
  ·rintro e H5 he h
   exact h.elim
end
end Go.Proofs
end
