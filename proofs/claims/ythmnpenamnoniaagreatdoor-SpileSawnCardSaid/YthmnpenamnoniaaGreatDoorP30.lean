import Derived.Test.YthmnpenamnoniaaGreatDoorP29
set_option linter.all false
section
open Go Go.LL
namespace Go.Proofs
def Zgs (b:Bk):List Int:=(Zae b).map fun x=>lowF b (Zas b x)
def ZdF (b:Bk):List Int:=(Zae b).map fun x=>Zfb b (Zas b x)
def sLow (b:Bk):Int:=Zbq gtB ((Zgs b).getD 0 0) ((Zgs b).drop 1)
def sHigh (b:Bk):Int:=Zbq ltB ((ZdF b).getD 0 0) ((ZdF b).drop 1)
def ZfG (b:Bk):Value:=
 if Zah b true=0 then (if sLow b > sHigh b then .tuple #[vi 0,vb false,vi 0] else .tuple #[vi (sLow b),vb true,vi 0]) else .tuple #[vi 0,vb false,vi (Zah b true)]
theorem map_take {α β:Type}(f:α->β){l:List α}{j:Nat}(hj:j<l.length):(l.map f).take (j+1)=(l.map f).take j++[f l[j]]:=by
 rw[List.take_succ_eq_append_getElem (by simpa using hj)]
 simp
def ZfL (k:Slip)(x:Boat):Bool:=x.slipped && decide (x.bf=k.bf∧x.by_=k.by_)
def ZjS (b:Bk):List Slip:=(ZaB b).filter fun k=>(Zae b).any (ZfL k)
theorem u38:Tryz.prog.underlying 89=some (.slice 31):=by kernel_rfl
theorem t38:tiOf Tryz.prog 89=some (1,some (.slice none 0 0),24):=by kernel_rfl
theorem t112:tiOf Tryz.prog 137=some (5,some Zmc,88):=by kernel_rfl
section
variable  {P:Prg}[Tz P][Loud P]{H:Hp}
set_option maxHeartbeats 1000000
theorem ZmX {bv:Value}{b:Bk}(hb:BkAt H bv b)(hg:Zbh H)(hl:b.pts.length<=1000000)(hl2:b.cks.length<=1000000) :
  LL.Zag P 18 #[bv] H fun v H'=>Inc H H'∧v=ZfG b:=by
 have hs:=Loud.loud (P:=P)
 have hb0:=hb
 obtain⟨pv,cv,rfl,hp,hc⟩:=hb
 refine IsN.m (isn c33) (args:=[.agg #[vi b.op,vi b.sl,pv,cv]]) rfl ?_
 unfold n33
 refine wkT ?_
 refine Zab (vs:=[.agg #[vi b.op,vi b.sl,pv,cv],vf 65]) rfl (ZdO (there:=true) hb0 hg hl hl2 Zeu) ?_
 rintro v H1 ⟨hi1,⟨hz,rfl⟩ | ⟨hz,pv',cv',w,bb,e,rfl,ow⟩⟩
 ·refine wkT ?_
  refine wiT (fun h1=>?_) (fun h1=>?_)
  ·refine wkT ?_
   exact⟨hi1,by rw[ZfG,if_neg hz];rfl⟩
  ·exact absurd h1 hz
 ·simp only[Value.agg.injEq,Array.mk.injEq,List.cons.injEq,and_true]at e
  obtain⟨_,_,rfl,rfl⟩:=e
  obtain⟨hz0,hne⟩:=Zip hz
  have val:=ZaR hz0
  have hlen:=Zbp val
  have hn:=val.n
  obtain⟨Ap,cp,rfl,hp'⟩:=hp
  obtain⟨Ac,cc,rfl,hc'⟩:=hc
  have hw:=ow.sl
  obtain⟨Aw,cw,rfl,_⟩:=ow.sl
  refine wkT ?_
  refine ZaO (α:=Value×Value×Option Nat×Option Nat) (Zae b).length (fun j s H'=>Inc H1 H'∧Own H1 H' 3 s.1 ((Zgs b).take j) s.2.2.1∧Own H1 H' 3 s.2.1 ((ZdF b).take j) s.2.2.2∧Apart s.2.2.1 s.2.2.2)
   (fun j s=>[(3,vb false),(5,vi 0),(6,s.1),(7,s.2.1),(20,.slice Aw (Zae b).length cw),(21,vi (Zae b).length),(22,vi j)]) (fun j s=>[(5,[vi b.op,vi b.sl,.slice Ap b.pts.length cp,.slice Ac b.cks.length cc,.slice Aw (Zae b).length cw])]) (.slice none 0 0,.slice none 0 0,none,none) ⟨.refl H1,.nil H1 H1 3,.nil H1 H1 3,.none _⟩ ⟨rfl,rfl,rfl,rfl,rfl,rfl,rfl,trivial⟩ ⟨rfl,trivial⟩ ?_
  rintro j ⟨v5,v6,b5,b6⟩ H2 hj ⟨hs2,o5,o6,hap⟩
  simp only at o5 o6 hap
  refine wkT ?_
  refine wiT (fun h1=>?_) (fun h1=>?_)
  ·have hj':j<(Zae b).length:=by omega
   have hx:=ZcZ val (Zae b)[j] (List.getElem_mem hj')
   have e5:=map_take (fun x=>lowF b (Zas b x)) hj'
   have e6:=map_take (fun x=>Zfb b (Zas b x)) hj'
   have l5:((Zgs b).take j).length=j:=by simp[Zgs];omega
   have l6:((ZdF b).take j).length=j:=by simp[ZdF];omega
   refine wkT ?_
   refine ZaE (hw.inc hs2) rfl rfl rfl (i:=j) hj' fun a ha=>?_
   refine wkT ?_
   refine Zao (hs _) rfl ha rfl ?_
   generalize (Zae b)[j]=x at *
   refine wkT ?_
   refine Zab (vs:=[.agg #[vi b.op,vi b.sl,.slice Ap b.pts.length cp,.slice Ac b.cks.length cc],ZaH x]) rfl (Zdk (hb0.inc (hi1.trans hs2)) val.good.bk (Zdo hx) (hs _)) ?_
   rintro v _ ⟨rfl,rfl⟩
   refine wkT ?_
   refine Zab (vs:=[.agg #[vi b.op,vi b.sl,.slice Ap b.pts.length cp,.slice Ac b.cks.length cc],numV (Zas b x)]) rfl (ZdZ (hb0.inc (hi1.trans hs2)) hn.2 (by omega) val.good.pts (Zko val hx) (hs _)) ?_
   rintro v H3 ⟨hs3,rfl⟩
   have hs3':=hs2.trans hs3.inc
   have o5':=o5.inc hs3.inc
   have o6':=o6.inc hs3.inc
   refine kp_l hs ?_
   refine wkT ?_
   refine Zat (cs:=[vi (lowF b (Zas b x))]) (hs _) rfl fun r1 hr1=>?_
   refine kp_l hs ?_
   refine wkT ?_
   refine ZbU (l':=[lowF b (Zas b x)]) (und u34) (und u34) (tif t3) rfl (by decide) (hs3'.trans (Zai hr1)) (o5'.ins hr1) ZcO rfl (by rw[l5];simp;omega) (by omega) rfl rfl (hs _) fun v5' H4 b5' hs4 o5'' c2=>?_
   obtain⟨o6'',hap'⟩:=(o5'.ins hr1).other (o6'.ins hr1) hap c2
   refine kp_l hs ?_
   refine wkT ?_
   refine Zat (cs:=[vi (Zfb b (Zas b x))]) (hs _) rfl fun r2 hr2=>?_
   refine kp_l hs ?_
   refine wkT ?_
   refine ZbU (l':=[Zfb b (Zas b x)]) (und u34) (und u34) (tif t3) rfl (by decide) (hs4.trans (Zai hr2)) (o6''.ins hr2) ZcO rfl (by rw[l6];simp;omega) (by omega) rfl rfl (hs _) fun v6' H5 b6' hs5 o6''' c3=>?_
   obtain⟨o5''',hap''⟩:=(o6''.ins hr2).other (o5''.ins hr2) hap'.symm c3
   refine wkT ?_
   refine⟨(⟨j+1,by omega⟩,(v5',v6',b5',b6')),slt (by omega),⟨hs5,?_,?_,hap''.symm⟩,⟨rfl,rfl,rfl,rfl,rfl,rfl,rfl,trivial⟩,⟨rfl,trivial⟩,rfl⟩
   ·show Own H1 H5 3 v5' (((Zae b).map fun x=>lowF b (Zas b x)).take (j+1)) b5'
    rw[e5];exact o5'''
   ·show Own H1 H5 3 v6' (((Zae b).map fun x=>Zfb b (Zas b x)).take (j+1)) b6'
    rw[e6];exact o6'''
  ·have:j=(Zae b).length:=by omega
   subst this
   have l5:(Zgs b).length=(Zae b).length:=by simp[Zgs]
   have l6:(ZdF b).length=(Zae b).length:=by simp[ZdF]
   rw[List.take_of_length_le (by omega)]at o5 o6
   obtain⟨a5,c5,f1,f2⟩:=Zew o5.own (by omega)
   obtain⟨a6,c6,f3,f4⟩:=Zew o6.own (by omega)
   have s5:=o5.sl
   have s6:=o6.sl
   have n5:(Zgs b).getD 0 0=(Zgs b)[0]:=Zbc (by omega) 0
   have n6:(ZdF b).getD 0 0=(ZdF b)[0]:=Zbc (by omega) 0
   subst f1 f3
   refine wkT ?_
   refine ZaE s5 rfl rfl rfl (i:=0) (by omega) fun a ha=>?_
   refine wkT ?_
   refine Zaf (hs _) rfl ha ?_
   refine wkT ?_
   refine Zbu (lo:=1) (und u34) (tif t3) rfl rfl (by omega) ?_
   refine wkT ?_
   refine Zab (vs:=[vf 70,vi (Zgs b)[0],_]) rfl (Zh1 ZiL _ f2 (by simp;omega) (hs _)) ?_
   rintro v _ ⟨rfl,rfl⟩
   refine wkT ?_
   refine ZaE s6 rfl rfl rfl (i:=0) (by omega) fun a ha=>?_
   refine wkT ?_
   refine Zaf (hs _) rfl ha ?_
   refine wkT ?_
   refine Zbu (lo:=1) (und u34) (tif t3) rfl rfl (by omega) ?_
   refine wkT ?_
   refine Zab (vs:=[vf 71,vi (ZdF b)[0],_]) rfl (Zh1 Zkl _ f4 (by simp;omega) (hs _)) ?_
   rintro v _ ⟨rfl,rfl⟩
   refine wkT ?_
   rw[<-n5,<-n6]
   refine wiT (fun h2=>?_) (fun h2=>?_)
   ·refine wkT ?_
    exact⟨hi1.trans hs2,by rw[ZfG,if_pos hz,if_pos (by exact h2)];rfl⟩
   ·refine wkT ?_
    exact⟨hi1.trans hs2,by rw[ZfG,if_pos hz,if_neg (by exact h2)];rfl⟩
theorem ZmZ {x:Boat}{k:Slip}{r:Nat}(hk:CellsAt H ⟨r,0,none⟩ [vi k.bf,vi k.by_]):LL.Zag P 95 #[ZaH x,pt r] H fun v H'=>H=H'∧v=vb (ZfL k x):=by
 have hs:=Loud.loud (P:=P)
 refine IsN.m (isn c97) (args:=[ZaH x,pt r]) rfl ?_
 unfold n97
 refine wkT ?_
 refine Zab (vs:=[ZaH x]) rfl (ZgG (hs _)) ?_
 rintro v _ ⟨rfl,rfl⟩
 refine wkT ?_
 refine wiT (fun h1=>?_) (fun h1=>?_)
 ·refine wkT ?_
  refine Zao (hs _) rfl hk rfl ?_
  refine wkT ?_
  refine om_eqS (xs:=#[vi x.bf,vi x.by_]) (ys:=#[vi k.bf,vi k.by_]) g70 (fun Q g H hq=>eqP (.inl s70) Q hq) rfl rfl ?_
  refine wkT ?_
  have e:x.slipped=true:=by rw[Boat.slipped,decide_eq_false h1];rfl
  exact⟨rfl,by rw[ZfL,e];rfl⟩
 ·have e:x.slipped=false:=by rw[Boat.slipped,decide_eq_true h1];rfl
  refine wkT ?_
  exact⟨rfl,by rw[ZfL,e];rfl⟩
theorem ZkA {bv:Value}{b:Bk}(hb:BkAt H bv b)(hg:Zbh H)(hl:b.pts.length<=1000000)(hl2:b.cks.length<=1000000) :
  LL.Zag P 35 #[bv] H fun v H'=>Inc H H'∧((Zah b true≠0∧v=.tuple #[.slice none 0 0,vi (Zah b true)])∨(Zah b true=0∧∃ w bb,v=.tuple #[w,vi 0]∧Own H H' 31 w (ZjS b) bb)):=by
 have hs:=Loud.loud (P:=P)
 have hb0:=hb
 obtain⟨pv,cv,rfl,hp,hc⟩:=hb
 refine IsN.m (isn c26) (args:=[.agg #[vi b.op,vi b.sl,pv,cv]]) rfl ?_
 unfold n26
 refine wkT ?_
 refine ZbW rfl (hs _) fun r1 hr1=>?_
 have hi1:=Zai (o:=.cells (Value.agg #[vi b.op,vi b.sl,pv,cv]).cells 25) hr1
 have c1:CellsAt (H.ins r1 (.cells (Value.agg #[vi b.op,vi b.sl,pv,cv]).cells 25)) ⟨r1,0,none⟩ [vi b.op,vi b.sl,pv,cv]:=Zar
 generalize H.ins r1 (.cells (Value.agg #[vi b.op,vi b.sl,pv,cv]).cells 25)=H1 at *
 refine wkT ?_
 refine Zao (hs _) rfl c1 rfl ?_
 refine wkT ?_
 refine Zab (vs:=[.agg #[vi b.op,vi b.sl,pv,cv],vf 65]) rfl (ZdO (there:=true) (hb0.inc hi1) (CellsAt.inc hg hi1) hl hl2 Zeu) ?_
 rintro v H2 ⟨hi2,⟨hz,rfl⟩ | ⟨hz,pv',cv',w,bb,e,rfl,ow⟩⟩
 ·refine wkT ?_
  refine Zav (tif t112) (hs _) fun r4 hr4=>?_
  refine wkT ?_
  refine Zay (v:=Zmc) (tif t112) (cs:=[vi 0,vi 0,.slice none 0 0,.slice none 0 0,.slice none 0 0]) rfl rfl (Hp.ins_same _ _ _) rfl rfl rfl (hs _) ?_
  rw[Zbb]
  refine wkT ?_
  refine wiT (fun h1=>?_) (fun h1=>?_)
  ·refine wkT ?_
   exact⟨(hi1.trans hi2).trans (Zai hr4),.inl ⟨hz,rfl⟩⟩
  ·exact absurd h1 hz
 ·simp only[Value.agg.injEq,Array.mk.injEq,List.cons.injEq,and_true]at e
  obtain⟨_,_,rfl,rfl⟩:=e
  obtain⟨hz0,hne⟩:=Zip hz
  have val:=ZaR hz0
  have hlen:=Zbp val
  have hslen:=ZfK val
  obtain⟨Ap,cp,rfl,hp'⟩:=hp
  obtain⟨Ac,cc,rfl,hc'⟩:=hc
  have hw:=ow.sl
  obtain⟨Aw,cw,rfl,_⟩:=ow.sl
  refine wkT ?_
  refine Zav (tif t112) (hs _) fun r4 hr4=>?_
  refine wkT ?_
  refine Zay (v:=ZhB b (.slice Ap b.pts.length cp) (.slice Ac b.cks.length cc) (.slice Aw (Zae b).length cw)) (tif t112) (cs:=[vi 0,vi 0,.slice none 0 0,.slice none 0 0,.slice none 0 0]) rfl rfl (Hp.ins_same _ _ _) rfl rfl rfl (hs _) ?_
  rw[Zbb]
  have hi4:=Zai (o:=.cells (ZhB b (.slice Ap b.pts.length cp) (.slice Ac b.cks.length cc) (.slice Aw (Zae b).length cw)).cells 137) hr4
  have c4:CellsAt (H2.ins r4 (.cells (ZhB b (.slice Ap b.pts.length cp) (.slice Ac b.cks.length cc) (.slice Aw (Zae b).length cw)).cells 137)) ⟨r4,0,none⟩ [vi b.op,vi b.sl,.slice Ap b.pts.length cp,.slice Ac b.cks.length cc,.slice Aw (Zae b).length cw]:=Zar
  generalize H2.ins r4 (.cells (ZhB b (.slice Ap b.pts.length cp) (.slice Ac b.cks.length cc) (.slice Aw (Zae b).length cw)).cells 137)=H4 at *
  refine wkT ?_
  refine Zav (tif t38) (hs _) fun r6 hr6=>?_
  refine wkT ?_
  have c4':=c4.inc (Zai (o:=.cells (Value.slice none 0 0).cells 89) hr6)
  have c44:CellsAt (H4.ins r6 (.cells (Value.slice none 0 0).cells 89)) ⟨r4,0,none⟩ [vi b.op,vi b.sl,.slice Ap b.pts.length cp,.slice Ac b.cks.length cc]:=by
   obtain⟨k1,o,p,k2,k3⟩:=c4'
   exact⟨k1,o,p,k2,fun j hj=>by
    rw[k3 j (by simp at hj ⊢;omega)]
    match j,hj with
    | 0,_=>rfl
    | 1,_=>rfl
    | 2,_=>rfl
    | 3,_=>rfl⟩
  refine Zao (hs _) rfl c44 rfl ?_
  refine wkT ?_
  refine Zci rfl rfl ?_
  refine wkT ?_
  refine ZeI hs rfl (slips_iter val.good.sl0 (by have:=val.sl;omega) (by have:=val.n;omega)) (fun x hx=>by obtain⟨k,_,rfl⟩:=List.mem_map.1 hx;rfl)
   (fun n H'=>Inc H4 H'∧∃ v bb,H' r6=some (.cells #[v] 89,true)∧Own H4 H' 31 v (((ZaB b).take n).filter fun k=>(Zae b).any (ZfL k)) bb∧bb≠some r6) (fun e H'=>False) ⟨Zai hr6,_,none,Hp.ins_same _ _ _,.nil H4 _ 31,by simp⟩
   (fun n H' J hc ⟨h1,v,bb,h2,h3,h4⟩=>⟨h1.trans (ZaX _ _),v,bb,Hp.join_left h2,h3.inc (ZaX _ _),h4⟩) (fun e H' J hc h=>h) (fun _ _ _=>trivial) ?_ ?_ ?_
  ·rintro n hn H5 ⟨g1,v,bb,g2,g3,g4⟩
   have hn':n<(ZaB b).length:=by simpa using hn
   have htk:(ZaB b).take (n+1)=(ZaB b).take n++[(ZaB b)[n]]:=by rw[List.take_succ_eq_append_getElem hn']
   have hxn:((ZaB b).map Zgt)[n]=[ZbG (ZaB b)[n]]:=by rw[List.getElem_map];rfl
   rw[hxn]
   rw[htk,List.filter_append]
   have hle:(((ZaB b).take n).filter fun k=>(Zae b).any (ZfL k)).length<=22:=Nat.le_trans (List.length_filter_le _ _) (Nat.le_trans (List.length_take_le _ _) (by omega))
   generalize (ZaB b)[n]=k at *
   refine wkT ?_
   refine Zav (tif t70) (hs _) fun r7 hr7=>?_
   refine wkT ?_
   refine Zay (v:=ZbG k) (tif t70) (cs:=[vi 0,vi 0]) rfl rfl (Hp.ins_same _ _ _) rfl rfl rfl (hs _) ?_
   rw[Zbb]
   have g1':=g1.trans (Zai (o:=.cells (ZbG k).cells 31) hr7)
   have g2':=Zai (o:=.cells (ZbG k).cells 31) hr7 _ _ g2
   have g3':=g3.ins (o:=.cells (ZbG k).cells 31) hr7
   have c7:CellsAt (H5.ins r7 (.cells (ZbG k).cells 31)) ⟨r7,0,none⟩ [vi k.bf,vi k.by_]:=Zar
   generalize H5.ins r7 (.cells (ZbG k).cells 31)=H6 at *
   refine wkT ?_
   refine Zaf (hs _) rfl (ZbA (j:=4) (c4.inc g1') rfl) ?_
   refine wkT ?_
   refine Zci rfl rfl ?_
   refine wkT ?_
   refine Zab (vs:=[.slice Aw (Zae b).length cw,.func (.func 95) #[] #[pt r7]]) rfl (ZeW (f:=ZfL k) (l:=Zae b) (fun x hx=>ZcY (by kernel_rfl) (ZmZ c7)) ((hw.inc hi4).inc g1') (by omega) (hs _)) ?_
   rintro w _ ⟨rfl,rfl⟩
   refine wkT ?_
   refine wiT (fun h2=>?_) (fun h2=>?_)
   ·refine wkT ?_
    refine Zaf (hs _) rfl (Zan (cs:=[v]) g2') ?_
    refine wkT ?_
    refine Zao (hs _) rfl c7 rfl ?_
    refine wkT ?_
    refine Zat (cs:=[vi k.bf,vi k.by_]) (hs _) rfl fun r8 hr8=>?_
    refine wkT ?_
    refine ZbU (l':=[k]) (und u38) (und u38) (tif t70) rfl (by decide) (g1'.trans (Zai hr8)) (g3'.ins hr8) (Za3 (l:=[k])) rfl (by simp only[List.length_singleton];omega) (by omega) rfl rfl (hs _) fun v' H7 b' k1 k2 k3=>?_
    have g6:H7 r6=some (.cells #[v] 89,true):=k3.keep r6 _ (Zai hr8 _ _ g2') (fun e=>g4 e)
    have hv':=one_of k2.sl
    have hb':b'≠some r6:=by
     rcases k3.new with rfl | ⟨q,rfl,hq⟩
     ·exact g4
     ·rintro e
      obtain rfl:=Option.some.inj e
      rw[Zai hr8 _ _ g2']at hq;simp at hq
    refine wkT ?_
    refine Zaw (v:=v') (tif t38) rfl rfl g6 hv'.1 hv'.2 (hs _) ?_
    refine wkT ?_
    refine⟨Za6 k1 hr6,v',b',Hp.ins_same _ _ _,?_,hb'⟩
    rw[List.filter_cons,if_pos h2,List.filter_nil]
    refine⟨k2.own.sub fun c z e hc=>?_,k2.fresh⟩
    rw[Hp.ins_other _ _ (by rintro rfl;exact hb' e)];exact hc
   ·refine wkT ?_
    refine⟨g1',v,bb,g2',?_,g4⟩
    rw[List.filter_cons,if_neg (by simp[h2]),List.filter_nil,List.append_nil]
    exact g3'
  ·rintro H5 ⟨g1,v,bb,g2,g3,g4⟩
   rw[List.length_map,List.take_length]at g3
   refine wkT ?_
   refine Zaf (hs _) rfl (Zan (cs:=[v]) g2) ?_
   refine wkT ?_
   refine⟨((hi1.trans hi2).trans hi4).trans g1,.inr ⟨hz,v,bb,rfl,g3.own,fun q e=>?_⟩⟩
   have:=g3.fresh q e
   exact Za9 ((hi1.trans hi2).trans hi4) this
  ·rintro e H5 he h
   exact h.elim
end
theorem qLsU0 {G:Prop} (h:G:=by
  refine wkT ?_
  refine Zay (v:=ZaH ⟨n4of l,k.bf,k.by_⟩) (cs:=ZbN.cells) (tif t121) rfl rfl (by rw[Hp.ins_other _ _ (Ne.symm n67)];exact i14' _ _ b7) rfl rfl rfl (hs _) ?_
  refine wkT ?_
  refine Zaw (tif t28) rfl rfl (by rw[Hp.ins_other _ _ (Ne.symm n78),Hp.ins_other _ _ (Ne.symm n68)];exact i14' _ _ b8) rfl rfl (hs _) ?_
  obtain⟨k1,k2,k3,k4⟩:=three (c6:=[vi b.op,vi b.sl,.slice Ap b.pts.length cp,cv]) (c7:=(⟨n4of l,k.bf,k.by_⟩:Boat).cells) (c8:=[vi 0]) (E6:=113) (E7:=117) (E8:=34) n67 n68 n78 (j8.trans i14') z6 z7 z8
  refine wkT ?_
  exact⟨rfl,hqk ▸ hmem,k1,k2,k3,k4⟩):G:=h
def ZbY:Value:=.agg #[vi 0,vi 0,.slice none 0 0,.slice none 0 0]
def ZbN:Boat:=⟨⟨0,0,0,0⟩,0,0⟩
instance:DecidableEq Slip:=fun a b=>decidable_of_iff (a.bf=b.bf∧a.by_=b.by_) ⟨fun ⟨h1,h2⟩=>by cases a;cases b;simp_all,fun h=>by subst h;exact⟨rfl,rfl⟩⟩
def Zaz (b:Bk)(l:List Int)(k:Slip):Int:=if snag b≠0 then snag b else if Zbw b l 0 99≠0 then Zbw b l 0 99 else if k∈ZaB b then 0 else 6
def ZdQ (b:Bk)(bv:Value)(l:List Int)(k:Slip):Value:=if Zaz b l k=0 then .tuple #[bv,ZaH ⟨n4of l,k.bf,k.by_⟩,vi 0] else .tuple #[ZbY,ZaH ZbN,vi (Zaz b l k)]
theorem t107:tiOf Tryz.prog 113=some (4,some ZbY,64):=by kernel_rfl
theorem t28:tiOf Tryz.prog 34=some (1,some (vi 0),8):=by kernel_rfl
theorem Zl1 {b:Bk}{l:List Int}{lo hi:Int}(h:Zbw b l lo hi=0):l.length=b.pts.length∧∀ n∈l,lo<=n∧n<=hi:=by
 unfold Zbw at h
 split at h
 ·simp at h
 ·split at h
  ·rename_i h1 h2
   refine⟨Classical.byContradiction h1,fun n hn=>by simpa using List.all_eq_true.1 h2 n hn⟩
  ·simp at h
theorem three {H0 H:Hp}{r6 r7 r8:Nat}{c6 c7 c8:List Value}{E6 E7 E8:TypeId}(n1:r6≠r7)(n2:r6≠r8)(n3:r7≠r8)(hi:Inc H0 H)(h6:H0 r6=none)(h7:H0 r7=none)(h8:H0 r8=none) :
  Inc H0 (((H.ins r6 (.cells c6.toArray E6)).ins r7 (.cells c7.toArray E7)).ins r8 (.cells c8.toArray E8))∧CellsAt (((H.ins r6 (.cells c6.toArray E6)).ins r7 (.cells c7.toArray E7)).ins r8 (.cells c8.toArray E8)) ⟨r6,0,none⟩ c6 ∧
  CellsAt (((H.ins r6 (.cells c6.toArray E6)).ins r7 (.cells c7.toArray E7)).ins r8 (.cells c8.toArray E8)) ⟨r7,0,none⟩ c7∧CellsAt (((H.ins r6 (.cells c6.toArray E6)).ins r7 (.cells c7.toArray E7)).ins r8 (.cells c8.toArray E8)) ⟨r8,0,none⟩ c8:=by
 refine⟨Za6 (Za6 (Za6 hi h6) h7) h8,Zan (p:=true) (E:=E6) ?_,Zan (p:=true) (E:=E7) ?_,Zar⟩
 ·rw[Hp.ins_other _ _ n2,Hp.ins_other _ _ n1];exact Hp.ins_same _ _ _
 ·rw[Hp.ins_other _ _ n3];exact Hp.ins_same _ _ _
section
variable  {P:Prg}[Tz P][Loud P]{H:Hp}
set_option maxHeartbeats 1000000
theorem Zmz {bv lv:Value}{b:Bk}{l:List Int}{k:Slip}(hb:BkAt H bv b)(hlv:SlAt H lv l)(hg:Zbh H)(hl:b.pts.length<=1000000)(hl2:b.cks.length<=1000000)(hl3:l.length<=1000000) :
  LL.Zag P 52 #[bv,lv,ZbG k] H fun v H'=>Inc H H'∧v=ZdQ b bv l k:=by
 have hs:=Loud.loud (P:=P)
 have hb0:=hb
 obtain⟨pv,cv,rfl,hp,hc⟩:=hb
 obtain⟨l1,l2⟩:=one_of hlv
 refine IsN.m (isn c137) (args:=[.agg #[vi b.op,vi b.sl,pv,cv],lv,ZbG k]) rfl ?_
 unfold n137
 refine wkT ?_
 refine ZbW rfl (hs _) fun r3 hr3=>?_
 refine wkT ?_
 refine ZbW rfl (hs _) fun r4 hr4=>?_
 refine wkT ?_
 refine ZbW rfl (hs _) fun r5 hr5=>?_
 refine wkT ?_
 refine Zav (tif t107) (hs _) fun r6 hr6=>?_
 refine wkT ?_
 refine Zav (tif t121) (hs _) fun r7 hr7=>?_
 refine wkT ?_
 refine Zav (tif t28) (hs _) fun r8 hr8=>?_
 have i3:=Zai (o:=.cells (Value.agg #[vi b.op,vi b.sl,pv,cv]).cells 25) hr3
 have i4:=Zai (o:=.cells lv.cells 29) hr4
 have i5:=Zai (o:=.cells (ZbG k).cells 31) hr5
 have i6:=Zai (o:=.cells ZbY.cells 113) hr6
 have i7:=Zai (o:=.cells (ZaH ZbN).cells 117) hr7
 have i8:=Zai (o:=.cells (vi 0).cells 34) hr8
 have z6:H r6=none:=Za9 ((i3.trans i4).trans i5) hr6
 have z7:H r7=none:=Za9 (((i3.trans i4).trans i5).trans i6) hr7
 have z8:H r8=none:=Za9 ((((i3.trans i4).trans i5).trans i6).trans i7) hr8
 have n67:r6≠r7:=by rintro rfl;rw[Hp.ins_same]at hr7;simp at hr7
 have n78:r7≠r8:=by rintro rfl;rw[Hp.ins_same]at hr8;simp at hr8
 have n68:r6≠r8:=by rintro rfl;rw[Hp.ins_other _ _ n67,Hp.ins_same]at hr8;simp at hr8
 obtain⟨H8,hH8,j8,b3,b4,b5,b6,b7,b8⟩:∃ H8:Hp,H8=(((((H.ins r3 (.cells (Value.agg #[vi b.op,vi b.sl,pv,cv]).cells 25)).ins r4 (.cells lv.cells 29)).ins r5 (.cells (ZbG k).cells 31)).ins r6 (.cells ZbY.cells 113)).ins r7 (.cells (ZaH ZbN).cells 117)).ins r8 (.cells (vi 0).cells 34)∧Inc H H8 ∧
   H8 r3=some (.cells #[vi b.op,vi b.sl,pv,cv] 25,true)∧H8 r4=some (.cells #[lv] 29,true)∧H8 r5=some (.cells #[vi k.bf,vi k.by_] 31,true)∧H8 r6=some (.cells ZbY.cells 113,true)∧H8 r7=some (.cells (ZaH ZbN).cells 117,true)∧H8 r8=some (.cells #[vi 0] 34,true):=
  ⟨_,rfl,((((i3.trans i4).trans i5).trans i6).trans i7).trans i8,i8 _ _ (i7 _ _ (i6 _ _ (i5 _ _ (i4 _ _ (Hp.ins_same _ _ _))))),i8 _ _ (i7 _ _ (i6 _ _ (i5 _ _ (by rw[<-l1];exact Hp.ins_same _ _ _)))),i8 _ _ (i7 _ _ (i6 _ _ (Hp.ins_same _ _ _))),i8 _ _ (i7 _ _ (Hp.ins_same _ _ _)),i8 _ _ (Hp.ins_same _ _ _),Hp.ins_same _ _ _⟩
 have e0:(((((H.ins r3 (.cells (Value.agg #[vi b.op,vi b.sl,pv,cv]).cells 25)).ins r4 (.cells lv.cells 29)).ins r5 (.cells (ZbG k).cells 31)).ins r6 (.cells ZbY.cells 113)).ins r7 (.cells (Value.agg #[vi 0,vi 0,vi 0,vi 0,vi 0,vi 0]).cells 117)).ins r8 (.cells (vi 0).cells 34)=H8:=hH8.symm
 rw[e0]
 clear e0 hH8 i3 i4 i5 i6 i7 i8 hr3 hr4 hr5 hr6 hr7 hr8
 refine wkT ?_
 refine Zao (cs:=[vi b.op,vi b.sl,pv,cv]) (hs _) rfl (Zan b3) rfl ?_
 refine wkT ?_
 refine Zab (vs:=[.agg #[vi b.op,vi b.sl,pv,cv]]) rfl (ZaJ (hb0.inc j8) (CellsAt.inc hg j8) hl hl2 (hs _)) ?_
 rintro v _ ⟨rfl,rfl⟩
 refine wkT ?_
 refine wiT (fun h1=>?_) (fun h1=>?_)
 ·refine wkT ?_
  refine Zay (v:=ZbY) (tif t107) rfl rfl b6 rfl rfl rfl (hs _) ?_
  refine wkT ?_
  refine Zay (v:=ZaH ZbN) (cs:=ZbN.cells) (tif t121) rfl rfl (by rw[Hp.ins_other _ _ (Ne.symm n67)];exact b7) rfl rfl rfl (hs _) ?_
  refine wkT ?_
  refine Zaw (tif t28) rfl rfl (by rw[Hp.ins_other _ _ (Ne.symm n78),Hp.ins_other _ _ (Ne.symm n68)];exact b8) rfl rfl (hs _) ?_
  obtain⟨k1,k2,k3,k4⟩:=three (c6:=[vi 0,vi 0,.slice none 0 0,.slice none 0 0]) (c7:=ZbN.cells) (c8:=[vi (snag b)]) (E6:=113) (E7:=117) (E8:=34) n67 n68 n78 j8 z6 z7 z8
  refine wkT ?_
  refine Zct (vs:=[ZbY,ZaH ZbN,vi (snag b)]) rfl (hs _) ⟨⟨_,_,rfl,rfl,rfl,k2⟩,⟨_,_,rfl,rfl,rfl,k3⟩,⟨_,rfl,k4⟩,trivial⟩ ?_
  have e:Zaz b l k=snag b:=by rw[Zaz,if_pos h1]
  exact⟨k1,by rw[ZdQ,e,if_neg h1];rfl⟩
 ·have val:=ZaR h1
  refine wkT ?_
  refine Zao (cs:=[vi b.op,vi b.sl,pv,cv]) (hs _) rfl (Zan b3) rfl ?_
  refine wkT ?_
  refine Zav (tif t107) (hs _) fun r10 hr10=>?_
  refine wkT ?_
  refine Zay (v:=.agg #[vi b.op,vi b.sl,pv,cv]) (tif t107) (cs:=[vi 0,vi 0,.slice none 0 0,.slice none 0 0]) rfl rfl (Hp.ins_same _ _ _) rfl rfl (by obtain⟨A,c,rfl,_⟩:=hp;obtain⟨A',c',rfl,_⟩:=hc;rfl) (hs _) ?_
  rw[Zbb]
  have i10:=Zai (o:=.cells (Value.agg #[vi b.op,vi b.sl,pv,cv]).cells 113) hr10
  have b10:CellsAt (H8.ins r10 (.cells (Value.agg #[vi b.op,vi b.sl,pv,cv]).cells 113)) ⟨r10,0,none⟩ [vi b.op,vi b.sl,pv,cv]:=Zar
  generalize H8.ins r10 (.cells (Value.agg #[vi b.op,vi b.sl,pv,cv]).cells 113)=H10 at *
  refine wkT ?_
  refine Zao (hs _) rfl b10 rfl ?_
  refine wkT ?_
  refine Zaf (hs _) rfl (Zan (cs:=[lv]) (i10 _ _ b4)) ?_
  refine wkT ?_
  refine Zab (vs:=[.agg #[vi b.op,vi b.sl,pv,cv],lv,vi 0,vi 99]) rfl (one_ok 0 99 (hb0.inc (j8.trans i10)) (hlv.inc (j8.trans i10)) hl3 (hs _)) ?_
  rintro v H11 ⟨i11,rfl⟩
  have i11':=i10.trans i11.inc
  refine wkT ?_
  refine wiT (fun h2=>?_) (fun h2=>?_)
  ·refine wkT ?_
   refine Zay (v:=ZbY) (tif t107) rfl rfl (i11' _ _ b6) rfl rfl rfl (hs _) ?_
   refine wkT ?_
   refine Zay (v:=ZaH ZbN) (cs:=ZbN.cells) (tif t121) rfl rfl (by rw[Hp.ins_other _ _ (Ne.symm n67)];exact i11' _ _ b7) rfl rfl rfl (hs _) ?_
   refine wkT ?_
   refine Zaw (tif t28) rfl rfl (by rw[Hp.ins_other _ _ (Ne.symm n78),Hp.ins_other _ _ (Ne.symm n68)];exact i11' _ _ b8) rfl rfl (hs _) ?_
   obtain⟨k1,k2,k3,k4⟩:=three (c6:=[vi 0,vi 0,.slice none 0 0,.slice none 0 0]) (c7:=ZbN.cells) (c8:=[vi (Zbw b l 0 99)]) (E6:=113) (E7:=117) (E8:=34) n67 n68 n78 (j8.trans i11') z6 z7 z8
   refine wkT ?_
   refine Zct (vs:=[ZbY,ZaH ZbN,vi (Zbw b l 0 99)]) rfl (hs _) ⟨⟨_,_,rfl,rfl,rfl,k2⟩,⟨_,_,rfl,rfl,rfl,k3⟩,⟨_,rfl,k4⟩,trivial⟩ ?_
   have e:Zaz b l k=Zbw b l 0 99:=by rw[Zaz,if_neg (by omega),if_pos h2]
   exact⟨k1,by rw[ZdQ,e,if_neg h2];rfl⟩
  ·have hlen:=Zl1 h2
   have hn:=val.n
   refine wkT ?_
   refine Zao (hs _) rfl (b10.sub i11) rfl ?_
   refine wkT ?_
   refine Zci rfl rfl ?_
   refine wkT ?_
   have hpv:=hp
   obtain⟨Ap,cp,rfl,_⟩:=hp
   refine ZeI hs rfl (slips_iter val.good.sl0 (by have:=val.sl;omega) (by omega)) (fun x hx=>by obtain⟨k,_,rfl⟩:=List.mem_map.1 hx;rfl)
    (fun n H'=>Inc H11 H'∧k ∉ (ZaB b).take n) (fun e H'=>e=.ret∧k∈ZaB b∧Inc H H'∧CellsAt H' ⟨r6,0,none⟩ [vi b.op,vi b.sl,.slice Ap b.pts.length cp,cv]∧CellsAt H' ⟨r7,0,none⟩ (⟨n4of l,k.bf,k.by_⟩:Boat).cells∧CellsAt H' ⟨r8,0,none⟩ [vi 0]) ⟨.refl _,by simp⟩
    (fun n H' J hc ⟨h1,h2⟩=>⟨h1.trans (ZaX _ _),h2⟩) (fun e H' J hc ⟨h1,h2,h3,h4,h5,h6⟩=>⟨h1,h2,h3.trans (ZaX _ _),h4.inc (ZaX _ _),h5.inc (ZaX _ _),h6.inc (ZaX _ _)⟩) (fun _ _ _=>trivial) ?_ ?_ ?_
   ·rintro n hn H12 ⟨g1,g2⟩
    have hn':n<(ZaB b).length:=by simpa using hn
    have htk:(ZaB b).take (n+1)=(ZaB b).take n++[(ZaB b)[n]]:=by rw[List.take_succ_eq_append_getElem hn']
    have hxn:((ZaB b).map Zgt)[n]=[ZbG (ZaB b)[n]]:=by rw[List.getElem_map];rfl
    have hmem:(ZaB b)[n]∈ZaB b:=List.getElem_mem hn'
    rw[hxn]
    rw[htk]
    generalize (ZaB b)[n]=q at *
    refine wkT ?_
    refine Zav (tif t70) (hs _) fun r12 hr12=>?_
    refine wkT ?_
    refine Zay (v:=ZbG q) (tif t70) (cs:=[vi 0,vi 0]) rfl rfl (Hp.ins_same _ _ _) rfl rfl rfl (hs _) ?_
    rw[Zbb]
    have i12:=g1.trans (Zai (o:=.cells (ZbG q).cells 31) hr12)
    have c12:CellsAt (H12.ins r12 (.cells (ZbG q).cells 31)) ⟨r12,0,none⟩ [vi q.bf,vi q.by_]:=Zar
    generalize H12.ins r12 (.cells (ZbG q).cells 31)=H13 at *
    have i13:=i11'.trans i12
    refine wkT ?_
    refine Zao (hs _) rfl c12 rfl ?_
    refine wkT ?_
    refine Zao (cs:=[vi k.bf,vi k.by_]) (hs _) rfl (Zan (i13 _ _ b5)) rfl ?_
    refine wkT ?_
    refine om_eqS (xs:=#[vi q.bf,vi q.by_]) (ys:=#[vi k.bf,vi k.by_]) g70 (fun Q g H hq=>eqP (.inl s70) Q hq) rfl rfl ?_
    refine wkT ?_
    refine wiT (fun h3=>?_) (fun h3=>?_)
    ·have hqk:q=k:=by cases q;cases k;obtain⟨h31,h32⟩:=h3;simp only at h31 h32;subst h31 h32;rfl
     have fin:∀ H14:Hp,Inc H13 H14->∀ {σ:NSt},σ.env 6=some (pt r6)->σ.env 7=some (pt r7)->σ.env 8=some (pt r8)->True:=fun _ _ _ _ _ _=>trivial
     refine Zbn ?_
     refine nc_two (hs _) ?_ ?_
     ·refine wkT ?_
      refine Zao (hs _) rfl ((b10.sub i11).inc i12) rfl ?_
      refine wkT ?_
      refine Zaf (hs _) rfl (Zan (cs:=[lv]) (i13 _ _ b4)) ?_
      refine wkT ?_
      refine Zao (cs:=[vi k.bf,vi k.by_]) (hs _) rfl (Zan (i13 _ _ b5)) rfl ?_
      refine wkT ?_
      refine Zab (vs:=[lv]) rfl (Zdg (hlv.inc (j8.trans i13)) (by omega) (hs _)) ?_
      rintro v H14 ⟨i14,rfl⟩
      refine kp_lt hs i14.inc ?_
      have i14':=i13.trans i14.inc
      refine wkT ?_
      refine Zay (v:=.agg #[vi b.op,vi b.sl,.slice Ap b.pts.length cp,cv]) (tif t107) rfl rfl (i14' _ _ b6) rfl rfl (by obtain⟨A',c',rfl,_⟩:=hc;rfl) (hs _) ?_
      refine kp_l hs ?_
      exact qLsU0
     ·refine wkT ?_
      refine Zao (hs _) rfl ((b10.sub i11).inc i12) rfl ?_
      refine wkT ?_
      refine Zaf (hs _) rfl (Zan (cs:=[lv]) (i13 _ _ b4)) ?_
      refine wkT ?_
      refine Zab (vs:=[lv]) rfl (Zdg (hlv.inc (j8.trans i13)) (by omega) (hs _)) ?_
      rintro v H14 ⟨i14,rfl⟩
      refine kp_lt hs i14.inc ?_
      have i14':=i13.trans i14.inc
      refine wkT ?_
      refine Zay (v:=.agg #[vi b.op,vi b.sl,.slice Ap b.pts.length cp,cv]) (tif t107) rfl rfl (i14' _ _ b6) rfl rfl (by obtain⟨A',c',rfl,_⟩:=hc;rfl) (hs _) ?_
      refine wkT ?_
      have n56:r5≠r6:=by
       rintro rfl
       rw[b5]at b6
       simp[ZbY,Value.cells]at b6
      refine Zao (cs:=[vi k.bf,vi k.by_]) (hs _) rfl (Zan (p:=true) (E:=31) (by rw[Hp.ins_other _ _ n56];exact i14' _ _ b5)) rfl ?_
      exact qLsU0
    ·refine wkT ?_
     refine⟨i12,?_⟩
     rw[List.mem_append,List.mem_singleton]
     rintro(h | rfl)
     ·exact g2 h
     ·exact h3 ⟨rfl,rfl⟩
   ·rintro H12 ⟨g1,g2⟩
    rw[List.length_map,List.take_length]at g2
    have i12:=i11'.trans g1
    refine wkT ?_
    refine Zay (v:=ZbY) (tif t107) rfl rfl (i12 _ _ b6) rfl rfl rfl (hs _) ?_
    refine wkT ?_
    refine Zay (v:=ZaH ZbN) (cs:=ZbN.cells) (tif t121) rfl rfl (by rw[Hp.ins_other _ _ (Ne.symm n67)];exact i12 _ _ b7) rfl rfl rfl (hs _) ?_
    refine wkT ?_
    refine Zaw (tif t28) rfl rfl (by rw[Hp.ins_other _ _ (Ne.symm n78),Hp.ins_other _ _ (Ne.symm n68)];exact i12 _ _ b8) rfl rfl (hs _) ?_
    obtain⟨k1,k2,k3,k4⟩:=three (c6:=[vi 0,vi 0,.slice none 0 0,.slice none 0 0]) (c7:=ZbN.cells) (c8:=[vi 6]) (E6:=113) (E7:=117) (E8:=34) n67 n68 n78 (j8.trans i12) z6 z7 z8
    refine wkT ?_
    refine Zct (vs:=[ZbY,ZaH ZbN,vi 6]) rfl (hs _) ⟨⟨_,_,rfl,rfl,rfl,k2⟩,⟨_,_,rfl,rfl,rfl,k3⟩,⟨_,rfl,k4⟩,trivial⟩ ?_
    have e:Zaz b l k=6:=by rw[Zaz,if_neg (by omega),if_neg (by omega),if_neg g2]
    exact⟨k1,by rw[ZdQ,e,if_neg (by decide)];rfl⟩
   ·rintro e H12 he ⟨rfl,hm,g1,g2,g3,g4⟩
    have e:Zaz b l k=0:=by rw[Zaz,if_neg (by omega),if_neg (by omega),if_pos hm]
    refine wkT ?_
    refine Zct (vs:=[.agg #[vi b.op,vi b.sl,.slice Ap b.pts.length cp,cv],ZaH ⟨n4of l,k.bf,k.by_⟩,vi 0]) rfl (hs _) ⟨⟨_,_,rfl,rfl,rfl,g2⟩,⟨_,_,rfl,rfl,rfl,g3⟩,⟨_,rfl,g4⟩,trivial⟩ ?_
    exact⟨g1,by rw[ZdQ,if_pos e];rfl⟩
end
theorem handed0 {b:Bk}{l:List Int}{k:Slip}(h:Zaz b l k=0):Zen b∧l.length=b.pts.length∧In99 (n4of l)∧(-3<=k.by_∧k.by_<=3):=by
 unfold Zaz at h
 split at h
 ·contradiction
 ·rename_i h1
  split at h
  ·contradiction
  ·rename_i h2
   split at h
   ·rename_i h3
    have v:=ZaR (b:=b) (Classical.byContradiction fun h=>h1 h)
    obtain⟨e1,e2⟩:=Zl1 (Classical.byContradiction fun h=>h2 h)
    refine⟨v,e1,fun j hj=>?_,ZjR v k h3⟩
    rw[n4of,N4.of_get _ hj]
    by_cases hjl:j<l.length
    ·rw[Zbc hjl];exact e2 _ (List.getElem_mem hjl)
    ·rw[List.getD_eq_getElem?_getD,List.getElem?_eq_none (by omega)];simp
   ·simp at h
def Zgh (l:List Int)(k:Slip):Boat:=⟨n4of l,k.bf,k.by_⟩
def gapsL (b:Bk)(l:List Int)(k:Slip):List Int:=if Zaz b l k=0 then (Zas b (Zgh l k)).list.take b.pts.length else []
section
variable  {P:Prg}[Tz P][Loud P]{H:Hp}
set_option maxHeartbeats 1000000
theorem Gaps_ok {bv lv:Value}{b:Bk}{l:List Int}{k:Slip}(hb:BkAt H bv b)(hlv:SlAt H lv l)(hg:Zbh H)(hl:b.pts.length<=1000000)(hl2:b.cks.length<=1000000)(hl3:l.length<=1000000) :
  LL.Zag P 9 #[bv,lv,ZbG k] H fun v H'=>Inc H H'∧∃ w,v=.tuple #[w,vi (Zaz b l k)]∧SlAt H' w (gapsL b l k):=by
 have hs:=Loud.loud (P:=P)
 have hb0:=hb
 obtain⟨pv,cv,rfl,hp,hc⟩:=hb
 refine IsN.m (isn c74) (args:=[.agg #[vi b.op,vi b.sl,pv,cv],lv,ZbG k]) rfl ?_
 unfold n74
 refine wkT ?_
 refine Zab (vs:=[.agg #[vi b.op,vi b.sl,pv,cv],lv,ZbG k]) rfl (Zmz hb0 hlv hg hl hl2 hl3) ?_
 rintro v H1 ⟨hi1,rfl⟩
 by_cases h:Zaz b l k=0
 ·obtain⟨val,e1,i99,hby⟩:=handed0 h
  have hn:=val.n
  have hx:In99 (Zgh l k).m∧-3<=(Zgh l k).by_∧(Zgh l k).by_<=3:=⟨i99,hby⟩
  rw[ZdQ,if_pos h]
  obtain⟨Ap,cp,rfl,_⟩:=hp
  obtain⟨Ac,cc,rfl,_⟩:=hc
  refine wkT ?_
  refine Zab (vs:=[.agg #[vi b.op,vi b.sl,.slice Ap b.pts.length cp,.slice Ac b.cks.length cc],ZaH (Zgh l k)]) rfl (Zdk (hb0.inc hi1) val.good.bk (Zdo hx) (hs _)) ?_
  rintro v _ ⟨rfl,rfl⟩
  refine kp_l hs ?_
  refine wkT ?_
  refine Zab (vs:=[.agg #[vi b.op,vi b.sl,.slice Ap b.pts.length cp,.slice Ac b.cks.length cc],numV (Zas b (Zgh l k))]) rfl (list_ok (hb0.inc hi1) hn.2 (by omega) (hs _)) ?_
  rintro v H2 ⟨hs2,bb,ow⟩
  refine wkT ?_
  refine⟨hi1.trans hs2.inc,v,by rw[h];rfl,?_⟩
  rw[gapsL,if_pos h]
  exact ow.sl
 ·rw[ZdQ,if_neg h]
  refine wkT ?_
  refine wiT (fun h1=>?_) (fun h1=>?_)
  ·refine wkT ?_
   refine⟨hi1,_,rfl,?_⟩
   rw[gapsL,if_neg h]
   exact .nil _
  ·exact absurd h1 h
end
end Go.Proofs
end
