import Derived.Test.YtamdhefhhdgjbaaGreatDoorN30
set_option linter.all false
section
open Go Go.LL
namespace Go.Proofs
def In99 (m:N4):Prop:=∀ j,j<4->0<=m.get j∧m.get j<=99
theorem ZiR {bf:Int}{sl:Nat}:∀ r,r<=2 * sl+1->∀ k∈innerR bf sl r,k.bf=bf∧-(sl:Int)<=k.by_∧k.by_<=sl∧k.by_≠0
 | 0,_,k,h=>by simp[innerR]at h
 | r+1,hr,k,h=>by
  rw[innerR]at h
  split at h
  ·exact ZiR r (by omega) k h
  ·rename_i hn
   rcases List.mem_cons.1 h with rfl | h
   ·exact⟨rfl,by show -(sl:Int)<=(sl:Int)-r;omega,by show (sl:Int)-r<=sl;omega,hn⟩
   ·exact ZiR r (by omega) k h
theorem Zlg {n sl:Nat}:∀ r,r+1<=n->∀ k∈outerR n sl r,(1<=k.bf∧k.bf<n)∧-(sl:Int)<=k.by_∧k.by_<=sl∧k.by_≠0
 | 0,_,k,h=>by simp[outerR]at h
 | r+1,hr,k,h=>by
  rw[outerR]at h
  rcases List.mem_append.1 h with h | h
  ·obtain⟨h1,h2⟩:=ZiR _ (Nat.le_refl _) k h
   exact⟨⟨by omega,by omega⟩,h2⟩
  ·exact Zlg r (by omega) k h
theorem Zif {b:Bk}(v:ZbB b):∀ k∈Zat b,-3<=k.by_∧k.by_<=3:=by
 intro k h
 have:=v.sl;have:=v.n
 rcases List.mem_cons.1 h with rfl | h
 ·exact⟨by show (-3:Int)<=0;omega,by show (0:Int)<=3;omega⟩
 ·have:=Zlg _ (by omega) k h
  omega
theorem Zk4 {f:Int->List Boat}{hi:Int}{x:Boat}:∀ {c:Nat},x∈spanR f hi c->∃ v,hi-c<v∧v<=hi∧x∈f v
 | 0,h=>by simp[spanR]at h
 | c+1,h=>by
  rw[spanR]at h
  rcases List.mem_append.1 h with h | h
  ·exact⟨hi-c,by omega,by omega,h⟩
  ·obtain⟨v,h1,h2,h3⟩:=Zk4 h
   exact⟨v,by omega,h2,h3⟩
theorem Zot {b:Bk}(v:ZbB b):∀ r,r<=b.pts.length->∀ m,In99 m->∀ x∈boatsFrom b r m,In99 x.m∧-3<=x.by_∧x.by_<=3
 | 0,_,m,hm,x,h=>by
  rw[boatsFrom]at h
  obtain⟨k,hk,rfl⟩:=List.mem_map.1 (List.mem_filter.1 h).1
  exact⟨hm,Zif v k hk⟩
 | r+1,hr,m,hm,x,h=>by
  rw[boatsFrom]at h
  have hi:b.pts.length-(r+1)<b.pts.length:=by omega
  rw[show ptAt b (b.pts.length-(r+1))=b.pts[b.pts.length-(r+1)] from ZaG hi _]at h
  obtain⟨p1,_⟩:=v.pts _ hi
  obtain⟨w,h1,h2,h3⟩:=Zk4 h
  refine Zot v r (by omega) _ (fun j hj=>?_) x h3
  rw[N4.put_get _ _ hj]
  split
  ·omega
  ·exact hm j hj
theorem zero_99:In99 ⟨0,0,0,0⟩:=by
 intro j hj
 match j,hj with
 | 0,_=>exact⟨by decide,by decide⟩
 | 1,_=>exact⟨by decide,by decide⟩
 | 2,_=>exact⟨by decide,by decide⟩
 | 3,_=>exact⟨by decide,by decide⟩
theorem Zdi {b:Bk}(v:ZbB b):∀ x∈Zae b,In99 x.m∧-3<=x.by_∧x.by_<=3:=Zot v _ (Nat.le_refl _) _ zero_99
theorem ZdM {x:Boat}(h:In99 x.m∧-3<=x.by_∧x.by_<=3):BtOk x:=⟨fun j hj=>by have:=h.1 j hj;exact⟨by omega,by omega⟩,⟨by omega,by omega⟩⟩
theorem gap_in {b:Bk}{x:Boat}(v:ZbB b)(h:In99 x.m∧-3<=x.by_∧x.by_<=3):∀ j,j<4->-102<=(Zav b x).get j∧(Zav b x).get j<=102:=by
 intro j hj
 have:=h.1 j hj;have:=v.op
 rw[Zav,N4.of_get _ hj]
 split
 ·unfold ZkH
  split<;>omega
 ·omega
theorem ZlD {b:Bk}{x:Boat}(v:ZbB b)(h:In99 x.m∧-3<=x.by_∧x.by_<=3):(Zav b x).Sm:=fun j hj=>by have:=gap_in v h j hj;exact⟨by omega,by omega⟩
def Zic (k n:Nat):Int:=if k=0 then 2 else if k=n then 1 else 0
theorem ZkJ {α:Type}{f:α->Bool}{l:List α}{j:Nat}(hj:j<l.length):((l.take (j+1)).filter f).length=((l.take j).filter f).length+if f l[j] then 1 else 0:=by
 rw[List.take_succ_eq_append_getElem hj,List.filter_append,List.length_append]
 cases h:f l[j]<;>simp[List.filter_cons,h]
section
variable  {P:Prg}[Tz P][Loud P]{H:Hp}
set_option maxHeartbeats 1000000
theorem Zna {b:Bk}{pv cv w fv:Value}{l:List Boat}{f:Boat->Bool}(hw:SlAt H w l)(hl:l.length<=1000000)(hpc:(pv.cells=#[pv]∧Value.isOne pv=true)∧(cv.cells=#[cv]∧Value.isOne cv=true))(hf:∀ x∈l,∀ H',Inc H H'->CallV P fv #[ZaS x] H' fun v H''=>Inc H' H''∧v=vb (f x)) :
  LL.Zai P 91 #[Ziv b pv cv w,fv] H fun v H'=>Inc H H'∧v=vi (Zic (l.filter f).length l.length):=by
 have hs:=Loud.loud (P:=P)
 refine IsN.m (isn c91) (args:=[Ziv b pv cv w,fv]) rfl ?_
 unfold n91
 refine wkT ?_
 refine Zal hw rfl ?_
 refine wkT ?_
 refine ZaP l.length (fun j H'=>Inc H H') (fun j=>[(1,fv),(2,vi 0),(5,vi ((l.take j).filter f).length),(9,w),(10,vi l.length),(11,vi j)]) (fun j=>[(2,[vi b.op,vi b.sl,pv,cv,w])]) (.refl H) ⟨rfl,rfl,rfl,rfl,rfl,rfl,trivial⟩ ⟨rfl,trivial⟩ ?_
 intro j H1 hj hi1
 refine wkT ?_
 refine wiT (fun h1=>?_) (fun h1=>?_)
 ·have hj':j<l.length:=by omega
  have hc:=ZkJ (f:=f) hj'
  have hle:((l.take j).filter f).length<=l.length:=Nat.le_trans (List.length_filter_le _ _) (by rw[List.length_take];omega)
  refine wkT ?_
  refine Zar (hw.inc hi1) rfl rfl rfl (i:=j) hj' fun a ha=>?_
  refine wkT ?_
  refine Zam (hs _) rfl ha rfl ?_
  refine wkT ?_
  refine ZaX (vs:=[ZaS l[j]]) rfl rfl (hf l[j] (List.getElem_mem hj') H1 hi1) ?_
  rintro v H2 ⟨hi2,rfl⟩
  refine wkT ?_
  refine wiT (fun h2=>?_) (fun h2=>?_)
  ·rw[if_pos h2]at hc
   refine wkT ?_
   exact⟨⟨j+1,by omega⟩,slt (by omega),hi1.trans hi2,⟨rfl,rfl,by rw[hc];rfl,rfl,rfl,rfl,trivial⟩,⟨rfl,trivial⟩,rfl⟩
  ·rw[if_neg (by simp[h2])]at hc
   refine wkT ?_
   exact⟨⟨j+1,by omega⟩,slt (by omega),hi1.trans hi2,⟨rfl,rfl,by rw[hc];rfl,rfl,rfl,rfl,trivial⟩,⟨rfl,trivial⟩,rfl⟩
 ·have:j=l.length:=by omega
  subst this
  rw[List.take_length]
  refine wkT ?_
  refine wiT (fun h2=>?_) (fun h2=>?_)
  ·refine wkT ?_
   exact⟨hi1,by rw[Zic,if_pos (by omega)];rfl⟩
  ·refine wkT ?_
   refine Zal (hw.inc hi1) rfl ?_
   refine wkT ?_
   refine wiT (fun h3=>?_) (fun h3=>?_)
   ·refine wkT ?_
    exact⟨hi1,by rw[Zic,if_neg (by omega),if_pos (by omega)];rfl⟩
   ·refine wkT ?_
    exact⟨hi1,by rw[Zic,if_neg (by omega),if_neg (by omega)];rfl⟩
theorem ZeZ {bv:Value}:CallV P (vf 90) #[bv] H fun v H'=>H=H'∧v=vb true:=Zdh (by kernel_rfl) (whole_ok (Loud.loud _))
theorem Ziw {b:Bk}(h:Zag b true=0):snag b=0∧1<=(Zae b).length:=by
 unfold Zag at h
 split at h
 ·exact absurd h (by assumption)
 ·split at h
  ·simp at h
  ·split at h
   ·simp at h
   ·exact⟨by omega,by omega⟩
theorem one_of {α:Type}[Enc α]{H:Hp}{v:Value}{l:List α}(h:SlAt H v l):v.cells=#[v]∧Value.isOne v=true:=by
 obtain⟨A,c,rfl,_⟩:=h;exact⟨rfl,rfl⟩
theorem Zh2 {bv:Value}{b:Bk}(hb:BkAt H bv b)(hg:Zba H)(hl:b.pts.length<=1000000)(hl2:b.cks.length<=1000000) :
  LL.Zai P 21 #[bv] H fun v H'=>Inc H H'∧v=.tuple #[vi (if Zag b true=0 then Zic ((Zae b).filter Boat.slipped).length (Zae b).length else 0),vi (Zag b true)]:=by
 have hs:=Loud.loud (P:=P)
 have hb0:=hb
 obtain⟨pv,cv,rfl,hp,hc⟩:=hb
 refine IsN.m (isn c21) (args:=[.agg #[vi b.op,vi b.sl,pv,cv]]) rfl ?_
 unfold n21
 refine wkT ?_
 refine Zab (vs:=[.agg #[vi b.op,vi b.sl,pv,cv],vf 90]) rfl (Zeg (there:=true) hb0 hg hl hl2 ZeZ) ?_
 rintro v H1 ⟨hi1,⟨hz,rfl⟩ | ⟨hz,pv',cv',w,bb,e,rfl,ow⟩⟩
 ·refine wkT ?_
  refine wiT (fun h1=>?_) (fun h1=>?_)
  ·refine wkT ?_
   exact⟨hi1,by rw[if_neg hz];rfl⟩
  ·exact absurd h1 hz
 ·simp only[Value.agg.injEq,Array.mk.injEq,List.cons.injEq,and_true]at e
  obtain⟨_,_,rfl,rfl⟩:=e
  have:=Za8 (ZaH (Ziw hz).1)
  obtain⟨Ap,cp,rfl,hp'⟩:=hp
  obtain⟨Ac,cc,rfl,hc'⟩:=hc
  have hw:=ow.sl
  obtain⟨Aw,cw,rfl,_⟩:=ow.sl
  refine wkT ?_
  refine Zab (vs:=[Ziv b _ _ _,vf 92]) rfl (Zna (l:=Zae b) (f:=Boat.slipped) hw (by omega) ⟨⟨rfl,rfl⟩,⟨rfl,rfl⟩⟩ (fun x hx H' hi=>(Zdh (by kernel_rfl) (Zht (hs _))).mono fun v H'' ⟨h1,h2⟩=>⟨h1 ▸ .refl _,h2⟩)) ?_
  rintro v H2 ⟨hi2,rfl⟩
  refine wkT ?_
  exact⟨hi1.trans hi2,by rw[if_pos hz,hz];rfl⟩
theorem Had_ok {bv:Value}{b:Bk}(hb:BkAt H bv b)(hg:Zba H)(hl:b.pts.length<=1000000)(hl2:b.cks.length<=1000000) :
  LL.Zai P 31 #[bv] H fun v H'=>Inc H H'∧v=.tuple #[vi (if Zag b true=0 then Zic ((Zae b).filter (Zhk b)).length (Zae b).length else 0),vi (Zag b true)]:=by
 have hs:=Loud.loud (P:=P)
 have hb0:=hb
 obtain⟨pv,cv,rfl,hp,hc⟩:=hb
 refine IsN.m (isn c31) (args:=[.agg #[vi b.op,vi b.sl,pv,cv]]) rfl ?_
 unfold n31
 refine wkT ?_
 refine Zab (vs:=[.agg #[vi b.op,vi b.sl,pv,cv],vf 90]) rfl (Zeg (there:=true) hb0 hg hl hl2 ZeZ) ?_
 rintro v H1 ⟨hi1,⟨hz,rfl⟩ | ⟨hz,pv',cv',w,bb,e,rfl,ow⟩⟩
 ·refine wkT ?_
  refine wiT (fun h1=>?_) (fun h1=>?_)
  ·refine wkT ?_
   exact⟨hi1,by rw[if_neg hz];rfl⟩
  ·exact absurd h1 hz
 ·simp only[Value.agg.injEq,Array.mk.injEq,List.cons.injEq,and_true]at e
  obtain⟨_,_,rfl,rfl⟩:=e
  have val:=ZaH (Ziw hz).1
  have:=Za8 val
  obtain⟨Ap,cp,rfl,hp'⟩:=hp
  obtain⟨Ac,cc,rfl,hc'⟩:=hc
  have hw:=ow.sl
  obtain⟨Aw,cw,rfl,_⟩:=ow.sl
  refine wkT ?_
  refine ZcB rfl rfl ?_
  refine wkT ?_
  refine Zab (vs:=[Ziv b _ _ _,.func (.func 103) #[.agg #[vi b.op,vi b.sl,.slice Ap b.pts.length cp,.slice Ac b.cks.length cc]] #[]]) rfl (Zna (l:=Zae b) (f:=Zhk b) hw (by omega) ⟨⟨rfl,rfl⟩,⟨rfl,rfl⟩⟩
   (fun x hx H' hi=>(Zdh (by kernel_rfl) (Zou ((hb0.inc hi1).inc hi) val.good.bk (ZdM (Zdi val x hx)) (by have:=val.n;omega) val.good.pts (ZlD val (Zdi val x hx)) (hs _))).mono fun v H'' ⟨h1,h2⟩=>⟨h1.inc,h2⟩)) ?_
  rintro v H2 ⟨hi2,rfl⟩
  refine wkT ?_
  exact⟨hi1.trans hi2,by rw[if_pos hz,hz];rfl⟩
end
def Zhd (b:Bk):List Int:=(Zae b).map fun x=>lowF b (Zav b x)
def Zd7 (b:Bk):List Int:=(Zae b).map fun x=>ZfM b (Zav b x)
def sLow (b:Bk):Int:=Zbe gtB ((Zhd b).getD 0 0) ((Zhd b).drop 1)
def sHigh (b:Bk):Int:=Zbe ltB ((Zd7 b).getD 0 0) ((Zd7 b).drop 1)
def Zgl (b:Bk):Value:=
 if Zag b true=0 then (if sLow b > sHigh b then .tuple #[vi 0,vb false,vi 0] else .tuple #[vi (sLow b),vb true,vi 0]) else .tuple #[vi 0,vb false,vi (Zag b true)]
theorem map_take {α β:Type}(f:α->β){l:List α}{j:Nat}(hj:j<l.length):(l.map f).take (j+1)=(l.map f).take j++[f l[j]]:=by
 rw[List.take_succ_eq_append_getElem (by simpa using hj)]
 simp
def Zgr (k:Slip)(x:Boat):Bool:=x.slipped && decide (x.bf=k.bf∧x.by_=k.by_)
def Zk6 (b:Bk):List Slip:=(Zat b).filter fun k=>(Zae b).any (Zgr k)
theorem u38:Tryz.prog.underlying 38=some (.slice 70):=by kernel_rfl
theorem t38:tiOf Tryz.prog 38=some (1,some (.slice none 0 0),24):=by kernel_rfl
theorem t112:tiOf Tryz.prog 112=some (5,some ZnZ,88):=by kernel_rfl
theorem Zng (l:List Slip):((encs l).all Value.isOne)=true:=Zga (fun _=>rfl) l
section
variable  {P:Prg}[Tz P][Loud P]{H:Hp}
set_option maxHeartbeats 1000000
theorem ZoW {bv:Value}{b:Bk}(hb:BkAt H bv b)(hg:Zba H)(hl:b.pts.length<=1000000)(hl2:b.cks.length<=1000000) :
  LL.Zai P 33 #[bv] H fun v H'=>Inc H H'∧v=Zgl b:=by
 have hs:=Loud.loud (P:=P)
 have hb0:=hb
 obtain⟨pv,cv,rfl,hp,hc⟩:=hb
 refine IsN.m (isn c33) (args:=[.agg #[vi b.op,vi b.sl,pv,cv]]) rfl ?_
 unfold n33
 refine wkT ?_
 refine Zab (vs:=[.agg #[vi b.op,vi b.sl,pv,cv],vf 90]) rfl (Zeg (there:=true) hb0 hg hl hl2 ZeZ) ?_
 rintro v H1 ⟨hi1,⟨hz,rfl⟩ | ⟨hz,pv',cv',w,bb,e,rfl,ow⟩⟩
 ·refine wkT ?_
  refine wiT (fun h1=>?_) (fun h1=>?_)
  ·refine wkT ?_
   exact⟨hi1,by rw[Zgl,if_neg hz];rfl⟩
  ·exact absurd h1 hz
 ·simp only[Value.agg.injEq,Array.mk.injEq,List.cons.injEq,and_true]at e
  obtain⟨_,_,rfl,rfl⟩:=e
  obtain⟨hz0,hne⟩:=Ziw hz
  have val:=ZaH hz0
  have hlen:=Za8 val
  have hn:=val.n
  obtain⟨Ap,cp,rfl,hp'⟩:=hp
  obtain⟨Ac,cc,rfl,hc'⟩:=hc
  have hw:=ow.sl
  obtain⟨Aw,cw,rfl,_⟩:=ow.sl
  refine wkT ?_
  refine Zax (α:=Value×Value×Option Nat×Option Nat) (Zae b).length (fun j s H'=>Inc H1 H'∧Own H1 H' 3 s.1 ((Zhd b).take j) s.2.2.1∧Own H1 H' 3 s.2.1 ((Zd7 b).take j) s.2.2.2∧Apart s.2.2.1 s.2.2.2)
   (fun j s=>[(3,vb false),(5,vi 0),(6,s.1),(7,s.2.1),(20,.slice Aw (Zae b).length cw),(21,vi (Zae b).length),(22,vi j)]) (fun j s=>[(5,[vi b.op,vi b.sl,.slice Ap b.pts.length cp,.slice Ac b.cks.length cc,.slice Aw (Zae b).length cw])]) (.slice none 0 0,.slice none 0 0,none,none) ⟨.refl H1,.nil H1 H1 3,.nil H1 H1 3,.none _⟩ ⟨rfl,rfl,rfl,rfl,rfl,rfl,rfl,trivial⟩ ⟨rfl,trivial⟩ ?_
  rintro j ⟨v5,v6,b5,b6⟩ H2 hj ⟨hs2,o5,o6,hap⟩
  simp only at o5 o6 hap
  refine wkT ?_
  refine wiT (fun h1=>?_) (fun h1=>?_)
  ·have hj':j<(Zae b).length:=by omega
   have hx:=Zdi val (Zae b)[j] (List.getElem_mem hj')
   have e5:=map_take (fun x=>lowF b (Zav b x)) hj'
   have e6:=map_take (fun x=>ZfM b (Zav b x)) hj'
   have l5:((Zhd b).take j).length=j:=by simp[Zhd];omega
   have l6:((Zd7 b).take j).length=j:=by simp[Zd7];omega
   refine wkT ?_
   refine Zar (hw.inc hs2) rfl rfl rfl (i:=j) hj' fun a ha=>?_
   refine wkT ?_
   refine Zam (hs _) rfl ha rfl ?_
   generalize (Zae b)[j]=x at *
   refine wkT ?_
   refine Zab (vs:=[.agg #[vi b.op,vi b.sl,.slice Ap b.pts.length cp,.slice Ac b.cks.length cc],ZaS x]) rfl (ZdG (hb0.inc (hi1.trans hs2)) val.good.bk (ZdM hx) (hs _)) ?_
   rintro v _ ⟨rfl,rfl⟩
   refine wkT ?_
   refine Zab (vs:=[.agg #[vi b.op,vi b.sl,.slice Ap b.pts.length cp,.slice Ac b.cks.length cc],numV (Zav b x)]) rfl (Zes (hb0.inc (hi1.trans hs2)) hn.2 (by omega) val.good.pts (ZlD val hx) (hs _)) ?_
   rintro v H3 ⟨hs3,rfl⟩
   have hs3':=hs2.trans hs3.inc
   have o5':=o5.inc hs3.inc
   have o6':=o6.inc hs3.inc
   refine kp_l hs ?_
   refine wkT ?_
   refine Zao (cs:=[vi (lowF b (Zav b x))]) (hs _) rfl fun r1 hr1=>?_
   refine kp_l hs ?_
   refine wkT ?_
   refine ZaR (l':=[lowF b (Zav b x)]) (und u34) (und u34) (tif t3) rfl (by decide) (hs3'.trans (Zah hr1)) (o5'.ins hr1) Zc6 rfl (by rw[l5];simp;omega) (by omega) rfl rfl (hs _) fun v5' H4 b5' hs4 o5'' c2=>?_
   obtain⟨o6'',hap'⟩:=(o5'.ins hr1).other (o6'.ins hr1) hap c2
   refine kp_l hs ?_
   refine wkT ?_
   refine Zao (cs:=[vi (ZfM b (Zav b x))]) (hs _) rfl fun r2 hr2=>?_
   refine kp_l hs ?_
   refine wkT ?_
   refine ZaR (l':=[ZfM b (Zav b x)]) (und u34) (und u34) (tif t3) rfl (by decide) (hs4.trans (Zah hr2)) (o6''.ins hr2) Zc6 rfl (by rw[l6];simp;omega) (by omega) rfl rfl (hs _) fun v6' H5 b6' hs5 o6''' c3=>?_
   obtain⟨o5''',hap''⟩:=(o6''.ins hr2).other (o5''.ins hr2) hap'.symm c3
   refine wkT ?_
   refine⟨(⟨j+1,by omega⟩,(v5',v6',b5',b6')),slt (by omega),⟨hs5,?_,?_,hap''.symm⟩,⟨rfl,rfl,rfl,rfl,rfl,rfl,rfl,trivial⟩,⟨rfl,trivial⟩,rfl⟩
   ·show Own H1 H5 3 v5' (((Zae b).map fun x=>lowF b (Zav b x)).take (j+1)) b5'
    rw[e5];exact o5'''
   ·show Own H1 H5 3 v6' (((Zae b).map fun x=>ZfM b (Zav b x)).take (j+1)) b6'
    rw[e6];exact o6'''
  ·have:j=(Zae b).length:=by omega
   subst this
   have l5:(Zhd b).length=(Zae b).length:=by simp[Zhd]
   have l6:(Zd7 b).length=(Zae b).length:=by simp[Zd7]
   rw[List.take_of_length_le (by omega)]at o5 o6
   obtain⟨a5,c5,f1,f2⟩:=Ze1 o5.own (by omega)
   obtain⟨a6,c6,f3,f4⟩:=Ze1 o6.own (by omega)
   have s5:=o5.sl
   have s6:=o6.sl
   have n5:(Zhd b).getD 0 0=(Zhd b)[0]:=ZaG (by omega) 0
   have n6:(Zd7 b).getD 0 0=(Zd7 b)[0]:=ZaG (by omega) 0
   subst f1 f3
   refine wkT ?_
   refine Zar s5 rfl rfl rfl (i:=0) (by omega) fun a ha=>?_
   refine wkT ?_
   refine Zaf (hs _) rfl ha ?_
   refine wkT ?_
   refine ZbE (lo:=1) (und u34) (tif t3) rfl rfl (by omega) ?_
   refine wkT ?_
   refine Zab (vs:=[vf 107,vi (Zhd b)[0],_]) rfl (ZiZ ZjU _ f2 (by simp;omega) (hs _)) ?_
   rintro v _ ⟨rfl,rfl⟩
   refine wkT ?_
   refine Zar s6 rfl rfl rfl (i:=0) (by omega) fun a ha=>?_
   refine wkT ?_
   refine Zaf (hs _) rfl ha ?_
   refine wkT ?_
   refine ZbE (lo:=1) (und u34) (tif t3) rfl rfl (by omega) ?_
   refine wkT ?_
   refine Zab (vs:=[vf 108,vi (Zd7 b)[0],_]) rfl (ZiZ Zlz _ f4 (by simp;omega) (hs _)) ?_
   rintro v _ ⟨rfl,rfl⟩
   refine wkT ?_
   rw[<-n5,<-n6]
   refine wiT (fun h2=>?_) (fun h2=>?_)
   ·refine wkT ?_
    exact⟨hi1.trans hs2,by rw[Zgl,if_pos hz,if_pos (by exact h2)];rfl⟩
   ·refine wkT ?_
    exact⟨hi1.trans hs2,by rw[Zgl,if_pos hz,if_neg (by exact h2)];rfl⟩
theorem ZoY {x:Boat}{k:Slip}{r:Nat}(hk:CellsAt H ⟨r,0,none⟩ [vi k.bf,vi k.by_]):LL.Zai P 97 #[ZaS x,pt r] H fun v H'=>H=H'∧v=vb (Zgr k x):=by
 have hs:=Loud.loud (P:=P)
 refine IsN.m (isn c97) (args:=[ZaS x,pt r]) rfl ?_
 unfold n97
 refine wkT ?_
 refine Zab (vs:=[ZaS x]) rfl (Zht (hs _)) ?_
 rintro v _ ⟨rfl,rfl⟩
 refine wkT ?_
 refine wiT (fun h1=>?_) (fun h1=>?_)
 ·refine wkT ?_
  refine Zam (hs _) rfl hk rfl ?_
  refine wkT ?_
  refine om_eqS (xs:=#[vi x.bf,vi x.by_]) (ys:=#[vi k.bf,vi k.by_]) g70 (fun Q g H hq=>eqP (.inl s70) Q hq) rfl rfl ?_
  refine wkT ?_
  have e:x.slipped=true:=by rw[Boat.slipped,decide_eq_false h1];rfl
  exact⟨rfl,by rw[Zgr,e];rfl⟩
 ·have e:x.slipped=false:=by rw[Boat.slipped,decide_eq_true h1];rfl
  refine wkT ?_
  exact⟨rfl,by rw[Zgr,e];rfl⟩
theorem ZlS {bv:Value}{b:Bk}(hb:BkAt H bv b)(hg:Zba H)(hl:b.pts.length<=1000000)(hl2:b.cks.length<=1000000) :
  LL.Zai P 26 #[bv] H fun v H'=>Inc H H'∧((Zag b true≠0∧v=.tuple #[.slice none 0 0,vi (Zag b true)])∨(Zag b true=0∧∃ w bb,v=.tuple #[w,vi 0]∧Own H H' 70 w (Zk6 b) bb)):=by
 have hs:=Loud.loud (P:=P)
 have hb0:=hb
 obtain⟨pv,cv,rfl,hp,hc⟩:=hb
 refine IsN.m (isn c26) (args:=[.agg #[vi b.op,vi b.sl,pv,cv]]) rfl ?_
 unfold n26
 refine wkT ?_
 refine Zca rfl (hs _) fun r1 hr1=>?_
 have hi1:=Zah (o:=.cells (Value.agg #[vi b.op,vi b.sl,pv,cv]).cells 25) hr1
 have c1:CellsAt (H.ins r1 (.cells (Value.agg #[vi b.op,vi b.sl,pv,cv]).cells 25)) ⟨r1,0,none⟩ [vi b.op,vi b.sl,pv,cv]:=Zaw
 generalize H.ins r1 (.cells (Value.agg #[vi b.op,vi b.sl,pv,cv]).cells 25)=H1 at *
 refine wkT ?_
 refine Zam (hs _) rfl c1 rfl ?_
 refine wkT ?_
 refine Zab (vs:=[.agg #[vi b.op,vi b.sl,pv,cv],vf 90]) rfl (Zeg (there:=true) (hb0.inc hi1) (CellsAt.inc hg hi1) hl hl2 ZeZ) ?_
 rintro v H2 ⟨hi2,⟨hz,rfl⟩ | ⟨hz,pv',cv',w,bb,e,rfl,ow⟩⟩
 ·refine wkT ?_
  refine Zaz (tif t112) (hs _) fun r4 hr4=>?_
  refine wkT ?_
  refine ZaD (v:=ZnZ) (tif t112) (cs:=[vi 0,vi 0,.slice none 0 0,.slice none 0 0,.slice none 0 0]) rfl rfl (Hp.ins_same _ _ _) rfl rfl rfl (hs _) ?_
  rw[Zbk]
  refine wkT ?_
  refine wiT (fun h1=>?_) (fun h1=>?_)
  ·refine wkT ?_
   exact⟨(hi1.trans hi2).trans (Zah hr4),.inl ⟨hz,rfl⟩⟩
  ·exact absurd h1 hz
 ·simp only[Value.agg.injEq,Array.mk.injEq,List.cons.injEq,and_true]at e
  obtain⟨_,_,rfl,rfl⟩:=e
  obtain⟨hz0,hne⟩:=Ziw hz
  have val:=ZaH hz0
  have hlen:=Za8 val
  have hslen:=Zeq val
  obtain⟨Ap,cp,rfl,hp'⟩:=hp
  obtain⟨Ac,cc,rfl,hc'⟩:=hc
  have hw:=ow.sl
  obtain⟨Aw,cw,rfl,_⟩:=ow.sl
  refine wkT ?_
  refine Zaz (tif t112) (hs _) fun r4 hr4=>?_
  refine wkT ?_
  refine ZaD (v:=Ziv b (.slice Ap b.pts.length cp) (.slice Ac b.cks.length cc) (.slice Aw (Zae b).length cw)) (tif t112) (cs:=[vi 0,vi 0,.slice none 0 0,.slice none 0 0,.slice none 0 0]) rfl rfl (Hp.ins_same _ _ _) rfl rfl rfl (hs _) ?_
  rw[Zbk]
  have hi4:=Zah (o:=.cells (Ziv b (.slice Ap b.pts.length cp) (.slice Ac b.cks.length cc) (.slice Aw (Zae b).length cw)).cells 112) hr4
  have c4:CellsAt (H2.ins r4 (.cells (Ziv b (.slice Ap b.pts.length cp) (.slice Ac b.cks.length cc) (.slice Aw (Zae b).length cw)).cells 112)) ⟨r4,0,none⟩ [vi b.op,vi b.sl,.slice Ap b.pts.length cp,.slice Ac b.cks.length cc,.slice Aw (Zae b).length cw]:=Zaw
  generalize H2.ins r4 (.cells (Ziv b (.slice Ap b.pts.length cp) (.slice Ac b.cks.length cc) (.slice Aw (Zae b).length cw)).cells 112)=H4 at *
  refine wkT ?_
  refine Zaz (tif t38) (hs _) fun r6 hr6=>?_
  refine wkT ?_
  have c4':=c4.inc (Zah (o:=.cells (Value.slice none 0 0).cells 38) hr6)
  have c44:CellsAt (H4.ins r6 (.cells (Value.slice none 0 0).cells 38)) ⟨r4,0,none⟩ [vi b.op,vi b.sl,.slice Ap b.pts.length cp,.slice Ac b.cks.length cc]:=by
   obtain⟨k1,o,p,k2,k3⟩:=c4'
   exact⟨k1,o,p,k2,fun j hj=>by
    rw[k3 j (by simp at hj ⊢;omega)]
    match j,hj with
    | 0,_=>rfl
    | 1,_=>rfl
    | 2,_=>rfl
    | 3,_=>rfl⟩
  refine Zam (hs _) rfl c44 rfl ?_
  refine wkT ?_
  refine ZcB rfl rfl ?_
  refine wkT ?_
  refine Zfe hs rfl (slips_iter val.good.sl0 (by have:=val.sl;omega) (by have:=val.n;omega)) (fun x hx=>by obtain⟨k,_,rfl⟩:=List.mem_map.1 hx;rfl)
   (fun n H'=>Inc H4 H'∧∃ v bb,H' r6=some (.cells #[v] 38,true)∧Own H4 H' 70 v (((Zat b).take n).filter fun k=>(Zae b).any (Zgr k)) bb∧bb≠some r6) (fun e H'=>False) ⟨Zah hr6,_,none,Hp.ins_same _ _ _,.nil H4 _ 70,by simp⟩
   (fun n H' J hc ⟨h1,v,bb,h2,h3,h4⟩=>⟨h1.trans (Za2 _ _),v,bb,Hp.join_left h2,h3.inc (Za2 _ _),h4⟩) (fun e H' J hc h=>h) (fun _ _ _=>trivial) ?_ ?_ ?_
  ·rintro n hn H5 ⟨g1,v,bb,g2,g3,g4⟩
   have hn':n<(Zat b).length:=by simpa using hn
   have htk:(Zat b).take (n+1)=(Zat b).take n++[(Zat b)[n]]:=by rw[List.take_succ_eq_append_getElem hn']
   have hxn:((Zat b).map Zhe)[n]=[ZbS (Zat b)[n]]:=by rw[List.getElem_map];rfl
   rw[hxn]
   rw[htk,List.filter_append]
   have hle:(((Zat b).take n).filter fun k=>(Zae b).any (Zgr k)).length<=22:=Nat.le_trans (List.length_filter_le _ _) (Nat.le_trans (List.length_take_le _ _) (by omega))
   generalize (Zat b)[n]=k at *
   refine wkT ?_
   refine Zaz (tif t70) (hs _) fun r7 hr7=>?_
   refine wkT ?_
   refine ZaD (v:=ZbS k) (tif t70) (cs:=[vi 0,vi 0]) rfl rfl (Hp.ins_same _ _ _) rfl rfl rfl (hs _) ?_
   rw[Zbk]
   have g1':=g1.trans (Zah (o:=.cells (ZbS k).cells 70) hr7)
   have g2':=Zah (o:=.cells (ZbS k).cells 70) hr7 _ _ g2
   have g3':=g3.ins (o:=.cells (ZbS k).cells 70) hr7
   have c7:CellsAt (H5.ins r7 (.cells (ZbS k).cells 70)) ⟨r7,0,none⟩ [vi k.bf,vi k.by_]:=Zaw
   generalize H5.ins r7 (.cells (ZbS k).cells 70)=H6 at *
   refine wkT ?_
   refine Zaf (hs _) rfl (Zbl (j:=4) (c4.inc g1') rfl) ?_
   refine wkT ?_
   refine ZcB rfl rfl ?_
   refine wkT ?_
   refine Zab (vs:=[.slice Aw (Zae b).length cw,.func (.func 97) #[] #[pt r7]]) rfl (Zfv (f:=Zgr k) (l:=Zae b) (fun x hx=>Zdh (by kernel_rfl) (ZoY c7)) ((hw.inc hi4).inc g1') (by omega) (hs _)) ?_
   rintro w _ ⟨rfl,rfl⟩
   refine wkT ?_
   refine wiT (fun h2=>?_) (fun h2=>?_)
   ·refine wkT ?_
    refine Zaf (hs _) rfl (Zap (cs:=[v]) g2') ?_
    refine wkT ?_
    refine Zam (hs _) rfl c7 rfl ?_
    refine wkT ?_
    refine Zao (cs:=[vi k.bf,vi k.by_]) (hs _) rfl fun r8 hr8=>?_
    refine wkT ?_
    refine ZaR (l':=[k]) (und u38) (und u38) (tif t70) rfl (by decide) (g1'.trans (Zah hr8)) (g3'.ins hr8) (ZaT (l:=[k])) rfl (by simp only[List.length_singleton];omega) (by omega) rfl rfl (hs _) fun v' H7 b' k1 k2 k3=>?_
    have g6:H7 r6=some (.cells #[v] 38,true):=k3.keep r6 _ (Zah hr8 _ _ g2') (fun e=>g4 e)
    have hv':=one_of k2.sl
    have hb':b'≠some r6:=by
     rcases k3.new with rfl | ⟨q,rfl,hq⟩
     ·exact g4
     ·rintro e
      obtain rfl:=Option.some.inj e
      rw[Zah hr8 _ _ g2']at hq;simp at hq
    refine wkT ?_
    refine ZaA (v:=v') (tif t38) rfl rfl g6 hv'.1 hv'.2 (hs _) ?_
    refine wkT ?_
    refine⟨Za5 k1 hr6,v',b',Hp.ins_same _ _ _,?_,hb'⟩
    rw[List.filter_cons,if_pos h2,List.filter_nil]
    refine⟨k2.own.sub fun c z e hc=>?_,k2.fresh⟩
    rw[Hp.ins_other _ _ (by rintro rfl;exact hb' e)];exact hc
   ·refine wkT ?_
    refine⟨g1',v,bb,g2',?_,g4⟩
    rw[List.filter_cons,if_neg (by simp[h2]),List.filter_nil,List.append_nil]
    exact g3'
  ·rintro H5 ⟨g1,v,bb,g2,g3,g4⟩
   rw[List.length_map,List.take_length]at g3
   refine wkT ?_
   refine Zaf (hs _) rfl (Zap (cs:=[v]) g2) ?_
   refine wkT ?_
   refine⟨((hi1.trans hi2).trans hi4).trans g1,.inr ⟨hz,v,bb,rfl,g3.own,fun q e=>?_⟩⟩
   have:=g3.fresh q e
   exact Zbd ((hi1.trans hi2).trans hi4) this
  ·rintro e H5 he h
   exact h.elim
end
end Go.Proofs
end
