import Derived.Test.YtamdhefhhdgjbaaGreatDoorN31
set_option linter.all false
section
open Go Go.LL
namespace Go.Proofs
theorem qNLsU0 {G:Prop} (h:G:=by
  refine wkT ?_
  refine ZaD (v:=ZaS ⟨n4of l,k.bf,k.by_⟩) (cs:=ZbZ.cells) (tif t121) rfl rfl (by rw[Hp.ins_other _ _ (Ne.symm n67)];exact i14' _ _ b7) rfl rfl rfl (hs _) ?_
  refine wkT ?_
  refine ZaA (tif t28) rfl rfl (by rw[Hp.ins_other _ _ (Ne.symm n78),Hp.ins_other _ _ (Ne.symm n68)];exact i14' _ _ b8) rfl rfl (hs _) ?_
  obtain⟨k1,k2,k3,k4⟩:=three (c6:=[vi b.op,vi b.sl,.slice Ap b.pts.length cp,cv]) (c7:=(⟨n4of l,k.bf,k.by_⟩:Boat).cells) (c8:=[vi 0]) (E6:=107) (E7:=121) (E8:=28) n67 n68 n78 (j8.trans i14') z6 z7 z8
  refine wkT ?_
  exact⟨rfl,hqk ▸ hmem,k1,k2,k3,k4⟩):G:=h
def Zce:Value:=.agg #[vi 0,vi 0,.slice none 0 0,.slice none 0 0]
def ZbZ:Boat:=⟨⟨0,0,0,0⟩,0,0⟩
instance:DecidableEq Slip:=fun a b=>decidable_of_iff (a.bf=b.bf∧a.by_=b.by_) ⟨fun ⟨h1,h2⟩=>by cases a;cases b;simp_all,fun h=>by subst h;exact⟨rfl,rfl⟩⟩
def ZaE (b:Bk)(l:List Int)(k:Slip):Int:=if snag b≠0 then snag b else if ZbG b l 0 99≠0 then ZbG b l 0 99 else if k∈Zat b then 0 else 6
def Zeh (b:Bk)(bv:Value)(l:List Int)(k:Slip):Value:=if ZaE b l k=0 then .tuple #[bv,ZaS ⟨n4of l,k.bf,k.by_⟩,vi 0] else .tuple #[Zce,ZaS ZbZ,vi (ZaE b l k)]
theorem t107:tiOf Tryz.prog 107=some (4,some Zce,64):=by kernel_rfl
theorem t28:tiOf Tryz.prog 28=some (1,some (vi 0),8):=by kernel_rfl
theorem ZnN {b:Bk}{l:List Int}{lo hi:Int}(h:ZbG b l lo hi=0):l.length=b.pts.length∧∀ n∈l,lo<=n∧n<=hi:=by
 unfold ZbG at h
 split at h
 ·simp at h
 ·split at h
  ·rename_i h1 h2
   refine⟨Classical.byContradiction h1,fun n hn=>by simpa using List.all_eq_true.1 h2 n hn⟩
  ·simp at h
theorem three {H0 H:Hp}{r6 r7 r8:Nat}{c6 c7 c8:List Value}{E6 E7 E8:TypeId}(n1:r6≠r7)(n2:r6≠r8)(n3:r7≠r8)(hi:Inc H0 H)(h6:H0 r6=none)(h7:H0 r7=none)(h8:H0 r8=none) :
  Inc H0 (((H.ins r6 (.cells c6.toArray E6)).ins r7 (.cells c7.toArray E7)).ins r8 (.cells c8.toArray E8))∧CellsAt (((H.ins r6 (.cells c6.toArray E6)).ins r7 (.cells c7.toArray E7)).ins r8 (.cells c8.toArray E8)) ⟨r6,0,none⟩ c6 ∧
  CellsAt (((H.ins r6 (.cells c6.toArray E6)).ins r7 (.cells c7.toArray E7)).ins r8 (.cells c8.toArray E8)) ⟨r7,0,none⟩ c7∧CellsAt (((H.ins r6 (.cells c6.toArray E6)).ins r7 (.cells c7.toArray E7)).ins r8 (.cells c8.toArray E8)) ⟨r8,0,none⟩ c8:=by
 refine⟨Za5 (Za5 (Za5 hi h6) h7) h8,Zap (p:=true) (E:=E6) ?_,Zap (p:=true) (E:=E7) ?_,Zaw⟩
 ·rw[Hp.ins_other _ _ n2,Hp.ins_other _ _ n1];exact Hp.ins_same _ _ _
 ·rw[Hp.ins_other _ _ n3];exact Hp.ins_same _ _ _
section
variable  {P:Prg}[Tz P][Loud P]{H:Hp}
set_option maxHeartbeats 1000000
theorem Zom {bv lv:Value}{b:Bk}{l:List Int}{k:Slip}(hb:BkAt H bv b)(hlv:SlAt H lv l)(hg:Zba H)(hl:b.pts.length<=1000000)(hl2:b.cks.length<=1000000)(hl3:l.length<=1000000) :
  LL.Zai P 137 #[bv,lv,ZbS k] H fun v H'=>Inc H H'∧v=Zeh b bv l k:=by
 have hs:=Loud.loud (P:=P)
 have hb0:=hb
 obtain⟨pv,cv,rfl,hp,hc⟩:=hb
 obtain⟨l1,l2⟩:=one_of hlv
 refine IsN.m (isn c137) (args:=[.agg #[vi b.op,vi b.sl,pv,cv],lv,ZbS k]) rfl ?_
 unfold n137
 refine wkT ?_
 refine Zca rfl (hs _) fun r3 hr3=>?_
 refine wkT ?_
 refine Zca rfl (hs _) fun r4 hr4=>?_
 refine wkT ?_
 refine Zca rfl (hs _) fun r5 hr5=>?_
 refine wkT ?_
 refine Zaz (tif t107) (hs _) fun r6 hr6=>?_
 refine wkT ?_
 refine Zaz (tif t121) (hs _) fun r7 hr7=>?_
 refine wkT ?_
 refine Zaz (tif t28) (hs _) fun r8 hr8=>?_
 have i3:=Zah (o:=.cells (Value.agg #[vi b.op,vi b.sl,pv,cv]).cells 25) hr3
 have i4:=Zah (o:=.cells lv.cells 34) hr4
 have i5:=Zah (o:=.cells (ZbS k).cells 70) hr5
 have i6:=Zah (o:=.cells Zce.cells 107) hr6
 have i7:=Zah (o:=.cells (ZaS ZbZ).cells 121) hr7
 have i8:=Zah (o:=.cells (vi 0).cells 28) hr8
 have z6:H r6=none:=Zbd ((i3.trans i4).trans i5) hr6
 have z7:H r7=none:=Zbd (((i3.trans i4).trans i5).trans i6) hr7
 have z8:H r8=none:=Zbd ((((i3.trans i4).trans i5).trans i6).trans i7) hr8
 have n67:r6≠r7:=by rintro rfl;rw[Hp.ins_same]at hr7;simp at hr7
 have n78:r7≠r8:=by rintro rfl;rw[Hp.ins_same]at hr8;simp at hr8
 have n68:r6≠r8:=by rintro rfl;rw[Hp.ins_other _ _ n67,Hp.ins_same]at hr8;simp at hr8
 obtain⟨H8,hH8,j8,b3,b4,b5,b6,b7,b8⟩:∃ H8:Hp,H8=(((((H.ins r3 (.cells (Value.agg #[vi b.op,vi b.sl,pv,cv]).cells 25)).ins r4 (.cells lv.cells 34)).ins r5 (.cells (ZbS k).cells 70)).ins r6 (.cells Zce.cells 107)).ins r7 (.cells (ZaS ZbZ).cells 121)).ins r8 (.cells (vi 0).cells 28)∧Inc H H8 ∧
   H8 r3=some (.cells #[vi b.op,vi b.sl,pv,cv] 25,true)∧H8 r4=some (.cells #[lv] 34,true)∧H8 r5=some (.cells #[vi k.bf,vi k.by_] 70,true)∧H8 r6=some (.cells Zce.cells 107,true)∧H8 r7=some (.cells (ZaS ZbZ).cells 121,true)∧H8 r8=some (.cells #[vi 0] 28,true):=
  ⟨_,rfl,((((i3.trans i4).trans i5).trans i6).trans i7).trans i8,i8 _ _ (i7 _ _ (i6 _ _ (i5 _ _ (i4 _ _ (Hp.ins_same _ _ _))))),i8 _ _ (i7 _ _ (i6 _ _ (i5 _ _ (by rw[<-l1];exact Hp.ins_same _ _ _)))),i8 _ _ (i7 _ _ (i6 _ _ (Hp.ins_same _ _ _))),i8 _ _ (i7 _ _ (Hp.ins_same _ _ _)),i8 _ _ (Hp.ins_same _ _ _),Hp.ins_same _ _ _⟩
 have e0:(((((H.ins r3 (.cells (Value.agg #[vi b.op,vi b.sl,pv,cv]).cells 25)).ins r4 (.cells lv.cells 34)).ins r5 (.cells (ZbS k).cells 70)).ins r6 (.cells Zce.cells 107)).ins r7 (.cells (Value.agg #[vi 0,vi 0,vi 0,vi 0,vi 0,vi 0]).cells 121)).ins r8 (.cells (vi 0).cells 28)=H8:=hH8.symm
 rw[e0]
 clear e0 hH8 i3 i4 i5 i6 i7 i8 hr3 hr4 hr5 hr6 hr7 hr8
 refine wkT ?_
 refine Zam (cs:=[vi b.op,vi b.sl,pv,cv]) (hs _) rfl (Zap b3) rfl ?_
 refine wkT ?_
 refine Zab (vs:=[.agg #[vi b.op,vi b.sl,pv,cv]]) rfl (ZaU (hb0.inc j8) (CellsAt.inc hg j8) hl hl2 (hs _)) ?_
 rintro v _ ⟨rfl,rfl⟩
 refine wkT ?_
 refine wiT (fun h1=>?_) (fun h1=>?_)
 ·refine wkT ?_
  refine ZaD (v:=Zce) (tif t107) rfl rfl b6 rfl rfl rfl (hs _) ?_
  refine wkT ?_
  refine ZaD (v:=ZaS ZbZ) (cs:=ZbZ.cells) (tif t121) rfl rfl (by rw[Hp.ins_other _ _ (Ne.symm n67)];exact b7) rfl rfl rfl (hs _) ?_
  refine wkT ?_
  refine ZaA (tif t28) rfl rfl (by rw[Hp.ins_other _ _ (Ne.symm n78),Hp.ins_other _ _ (Ne.symm n68)];exact b8) rfl rfl (hs _) ?_
  obtain⟨k1,k2,k3,k4⟩:=three (c6:=[vi 0,vi 0,.slice none 0 0,.slice none 0 0]) (c7:=ZbZ.cells) (c8:=[vi (snag b)]) (E6:=107) (E7:=121) (E8:=28) n67 n68 n78 j8 z6 z7 z8
  refine wkT ?_
  refine ZcM (vs:=[Zce,ZaS ZbZ,vi (snag b)]) rfl (hs _) ⟨⟨_,_,rfl,rfl,rfl,k2⟩,⟨_,_,rfl,rfl,rfl,k3⟩,⟨_,rfl,k4⟩,trivial⟩ ?_
  have e:ZaE b l k=snag b:=by rw[ZaE,if_pos h1]
  exact⟨k1,by rw[Zeh,e,if_neg h1];rfl⟩
 ·have val:=ZaH h1
  refine wkT ?_
  refine Zam (cs:=[vi b.op,vi b.sl,pv,cv]) (hs _) rfl (Zap b3) rfl ?_
  refine wkT ?_
  refine Zaz (tif t107) (hs _) fun r10 hr10=>?_
  refine wkT ?_
  refine ZaD (v:=.agg #[vi b.op,vi b.sl,pv,cv]) (tif t107) (cs:=[vi 0,vi 0,.slice none 0 0,.slice none 0 0]) rfl rfl (Hp.ins_same _ _ _) rfl rfl (by obtain⟨A,c,rfl,_⟩:=hp;obtain⟨A',c',rfl,_⟩:=hc;rfl) (hs _) ?_
  rw[Zbk]
  have i10:=Zah (o:=.cells (Value.agg #[vi b.op,vi b.sl,pv,cv]).cells 107) hr10
  have b10:CellsAt (H8.ins r10 (.cells (Value.agg #[vi b.op,vi b.sl,pv,cv]).cells 107)) ⟨r10,0,none⟩ [vi b.op,vi b.sl,pv,cv]:=Zaw
  generalize H8.ins r10 (.cells (Value.agg #[vi b.op,vi b.sl,pv,cv]).cells 107)=H10 at *
  refine wkT ?_
  refine Zam (hs _) rfl b10 rfl ?_
  refine wkT ?_
  refine Zaf (hs _) rfl (Zap (cs:=[lv]) (i10 _ _ b4)) ?_
  refine wkT ?_
  refine Zab (vs:=[.agg #[vi b.op,vi b.sl,pv,cv],lv,vi 0,vi 99]) rfl (one_ok 0 99 (hb0.inc (j8.trans i10)) (hlv.inc (j8.trans i10)) hl3 (hs _)) ?_
  rintro v H11 ⟨i11,rfl⟩
  have i11':=i10.trans i11.inc
  refine wkT ?_
  refine wiT (fun h2=>?_) (fun h2=>?_)
  ·refine wkT ?_
   refine ZaD (v:=Zce) (tif t107) rfl rfl (i11' _ _ b6) rfl rfl rfl (hs _) ?_
   refine wkT ?_
   refine ZaD (v:=ZaS ZbZ) (cs:=ZbZ.cells) (tif t121) rfl rfl (by rw[Hp.ins_other _ _ (Ne.symm n67)];exact i11' _ _ b7) rfl rfl rfl (hs _) ?_
   refine wkT ?_
   refine ZaA (tif t28) rfl rfl (by rw[Hp.ins_other _ _ (Ne.symm n78),Hp.ins_other _ _ (Ne.symm n68)];exact i11' _ _ b8) rfl rfl (hs _) ?_
   obtain⟨k1,k2,k3,k4⟩:=three (c6:=[vi 0,vi 0,.slice none 0 0,.slice none 0 0]) (c7:=ZbZ.cells) (c8:=[vi (ZbG b l 0 99)]) (E6:=107) (E7:=121) (E8:=28) n67 n68 n78 (j8.trans i11') z6 z7 z8
   refine wkT ?_
   refine ZcM (vs:=[Zce,ZaS ZbZ,vi (ZbG b l 0 99)]) rfl (hs _) ⟨⟨_,_,rfl,rfl,rfl,k2⟩,⟨_,_,rfl,rfl,rfl,k3⟩,⟨_,rfl,k4⟩,trivial⟩ ?_
   have e:ZaE b l k=ZbG b l 0 99:=by rw[ZaE,if_neg (by omega),if_pos h2]
   exact⟨k1,by rw[Zeh,e,if_neg h2];rfl⟩
  ·have hlen:=ZnN h2
   have hn:=val.n
   refine wkT ?_
   refine Zam (hs _) rfl (b10.sub i11) rfl ?_
   refine wkT ?_
   refine ZcB rfl rfl ?_
   refine wkT ?_
   have hpv:=hp
   obtain⟨Ap,cp,rfl,_⟩:=hp
   refine Zfe hs rfl (slips_iter val.good.sl0 (by have:=val.sl;omega) (by omega)) (fun x hx=>by obtain⟨k,_,rfl⟩:=List.mem_map.1 hx;rfl)
    (fun n H'=>Inc H11 H'∧k ∉ (Zat b).take n) (fun e H'=>e=.ret∧k∈Zat b∧Inc H H'∧CellsAt H' ⟨r6,0,none⟩ [vi b.op,vi b.sl,.slice Ap b.pts.length cp,cv]∧CellsAt H' ⟨r7,0,none⟩ (⟨n4of l,k.bf,k.by_⟩:Boat).cells∧CellsAt H' ⟨r8,0,none⟩ [vi 0]) ⟨.refl _,by simp⟩
    (fun n H' J hc ⟨h1,h2⟩=>⟨h1.trans (Za2 _ _),h2⟩) (fun e H' J hc ⟨h1,h2,h3,h4,h5,h6⟩=>⟨h1,h2,h3.trans (Za2 _ _),h4.inc (Za2 _ _),h5.inc (Za2 _ _),h6.inc (Za2 _ _)⟩) (fun _ _ _=>trivial) ?_ ?_ ?_
   ·rintro n hn H12 ⟨g1,g2⟩
    have hn':n<(Zat b).length:=by simpa using hn
    have htk:(Zat b).take (n+1)=(Zat b).take n++[(Zat b)[n]]:=by rw[List.take_succ_eq_append_getElem hn']
    have hxn:((Zat b).map Zhe)[n]=[ZbS (Zat b)[n]]:=by rw[List.getElem_map];rfl
    have hmem:(Zat b)[n]∈Zat b:=List.getElem_mem hn'
    rw[hxn]
    rw[htk]
    generalize (Zat b)[n]=q at *
    refine wkT ?_
    refine Zaz (tif t70) (hs _) fun r12 hr12=>?_
    refine wkT ?_
    refine ZaD (v:=ZbS q) (tif t70) (cs:=[vi 0,vi 0]) rfl rfl (Hp.ins_same _ _ _) rfl rfl rfl (hs _) ?_
    rw[Zbk]
    have i12:=g1.trans (Zah (o:=.cells (ZbS q).cells 70) hr12)
    have c12:CellsAt (H12.ins r12 (.cells (ZbS q).cells 70)) ⟨r12,0,none⟩ [vi q.bf,vi q.by_]:=Zaw
    generalize H12.ins r12 (.cells (ZbS q).cells 70)=H13 at *
    have i13:=i11'.trans i12
    refine wkT ?_
    refine Zam (hs _) rfl c12 rfl ?_
    refine wkT ?_
    refine Zam (cs:=[vi k.bf,vi k.by_]) (hs _) rfl (Zap (i13 _ _ b5)) rfl ?_
    refine wkT ?_
    refine om_eqS (xs:=#[vi q.bf,vi q.by_]) (ys:=#[vi k.bf,vi k.by_]) g70 (fun Q g H hq=>eqP (.inl s70) Q hq) rfl rfl ?_
    refine wkT ?_
    refine wiT (fun h3=>?_) (fun h3=>?_)
    ·have hqk:q=k:=by cases q;cases k;obtain⟨h31,h32⟩:=h3;simp only at h31 h32;subst h31 h32;rfl
     have fin:∀ H14:Hp,Inc H13 H14->∀ {σ:NSt},σ.env 6=some (pt r6)->σ.env 7=some (pt r7)->σ.env 8=some (pt r8)->True:=fun _ _ _ _ _ _=>trivial
     refine Zbx ?_
     refine nc_two (hs _) ?_ ?_
     ·refine wkT ?_
      refine Zam (hs _) rfl ((b10.sub i11).inc i12) rfl ?_
      refine wkT ?_
      refine Zaf (hs _) rfl (Zap (cs:=[lv]) (i13 _ _ b4)) ?_
      refine wkT ?_
      refine Zam (cs:=[vi k.bf,vi k.by_]) (hs _) rfl (Zap (i13 _ _ b5)) rfl ?_
      refine wkT ?_
      refine Zab (vs:=[lv]) rfl (ZdC (hlv.inc (j8.trans i13)) (by omega) (hs _)) ?_
      rintro v H14 ⟨i14,rfl⟩
      refine Zoh hs i14.inc ?_
      have i14':=i13.trans i14.inc
      refine wkT ?_
      refine ZaD (v:=.agg #[vi b.op,vi b.sl,.slice Ap b.pts.length cp,cv]) (tif t107) rfl rfl (i14' _ _ b6) rfl rfl (by obtain⟨A',c',rfl,_⟩:=hc;rfl) (hs _) ?_
      refine kp_l hs ?_
      exact qNLsU0
     ·refine wkT ?_
      refine Zam (hs _) rfl ((b10.sub i11).inc i12) rfl ?_
      refine wkT ?_
      refine Zaf (hs _) rfl (Zap (cs:=[lv]) (i13 _ _ b4)) ?_
      refine wkT ?_
      refine Zab (vs:=[lv]) rfl (ZdC (hlv.inc (j8.trans i13)) (by omega) (hs _)) ?_
      rintro v H14 ⟨i14,rfl⟩
      refine Zoh hs i14.inc ?_
      have i14':=i13.trans i14.inc
      refine wkT ?_
      refine ZaD (v:=.agg #[vi b.op,vi b.sl,.slice Ap b.pts.length cp,cv]) (tif t107) rfl rfl (i14' _ _ b6) rfl rfl (by obtain⟨A',c',rfl,_⟩:=hc;rfl) (hs _) ?_
      refine wkT ?_
      have n56:r5≠r6:=by
       rintro rfl
       rw[b5]at b6
       simp[Zce,Value.cells]at b6
      refine Zam (cs:=[vi k.bf,vi k.by_]) (hs _) rfl (Zap (p:=true) (E:=70) (by rw[Hp.ins_other _ _ n56];exact i14' _ _ b5)) rfl ?_
      exact qNLsU0
    ·refine wkT ?_
     refine⟨i12,?_⟩
     rw[List.mem_append,List.mem_singleton]
     rintro(h | rfl)
     ·exact g2 h
     ·exact h3 ⟨rfl,rfl⟩
   ·rintro H12 ⟨g1,g2⟩
    rw[List.length_map,List.take_length]at g2
    have i12:=i11'.trans g1
    refine wkT ?_
    refine ZaD (v:=Zce) (tif t107) rfl rfl (i12 _ _ b6) rfl rfl rfl (hs _) ?_
    refine wkT ?_
    refine ZaD (v:=ZaS ZbZ) (cs:=ZbZ.cells) (tif t121) rfl rfl (by rw[Hp.ins_other _ _ (Ne.symm n67)];exact i12 _ _ b7) rfl rfl rfl (hs _) ?_
    refine wkT ?_
    refine ZaA (tif t28) rfl rfl (by rw[Hp.ins_other _ _ (Ne.symm n78),Hp.ins_other _ _ (Ne.symm n68)];exact i12 _ _ b8) rfl rfl (hs _) ?_
    obtain⟨k1,k2,k3,k4⟩:=three (c6:=[vi 0,vi 0,.slice none 0 0,.slice none 0 0]) (c7:=ZbZ.cells) (c8:=[vi 6]) (E6:=107) (E7:=121) (E8:=28) n67 n68 n78 (j8.trans i12) z6 z7 z8
    refine wkT ?_
    refine ZcM (vs:=[Zce,ZaS ZbZ,vi 6]) rfl (hs _) ⟨⟨_,_,rfl,rfl,rfl,k2⟩,⟨_,_,rfl,rfl,rfl,k3⟩,⟨_,rfl,k4⟩,trivial⟩ ?_
    have e:ZaE b l k=6:=by rw[ZaE,if_neg (by omega),if_neg (by omega),if_neg g2]
    exact⟨k1,by rw[Zeh,e,if_neg (by decide)];rfl⟩
   ·rintro e H12 he ⟨rfl,hm,g1,g2,g3,g4⟩
    have e:ZaE b l k=0:=by rw[ZaE,if_neg (by omega),if_neg (by omega),if_pos hm]
    refine wkT ?_
    refine ZcM (vs:=[.agg #[vi b.op,vi b.sl,.slice Ap b.pts.length cp,cv],ZaS ⟨n4of l,k.bf,k.by_⟩,vi 0]) rfl (hs _) ⟨⟨_,_,rfl,rfl,rfl,g2⟩,⟨_,_,rfl,rfl,rfl,g3⟩,⟨_,rfl,g4⟩,trivial⟩ ?_
    exact⟨g1,by rw[Zeh,if_pos e];rfl⟩
end
theorem handed0 {b:Bk}{l:List Int}{k:Slip}(h:ZaE b l k=0):ZbB b∧l.length=b.pts.length∧In99 (n4of l)∧(-3<=k.by_∧k.by_<=3):=by
 unfold ZaE at h
 split at h
 ·contradiction
 ·rename_i h1
  split at h
  ·contradiction
  ·rename_i h2
   split at h
   ·rename_i h3
    have v:=ZaH (b:=b) (Classical.byContradiction fun h=>h1 h)
    obtain⟨e1,e2⟩:=ZnN (Classical.byContradiction fun h=>h2 h)
    refine⟨v,e1,fun j hj=>?_,Zif v k h3⟩
    rw[n4of,N4.of_get _ hj]
    by_cases hjl:j<l.length
    ·rw[ZaG hjl];exact e2 _ (List.getElem_mem hjl)
    ·rw[List.getD_eq_getElem?_getD,List.getElem?_eq_none (by omega)];simp
   ·simp at h
def Zg0 (l:List Int)(k:Slip):Boat:=⟨n4of l,k.bf,k.by_⟩
def gapsL (b:Bk)(l:List Int)(k:Slip):List Int:=if ZaE b l k=0 then (Zav b (Zg0 l k)).list.take b.pts.length else []
section
variable  {P:Prg}[Tz P][Loud P]{H:Hp}
set_option maxHeartbeats 1000000
theorem Gaps_ok {bv lv:Value}{b:Bk}{l:List Int}{k:Slip}(hb:BkAt H bv b)(hlv:SlAt H lv l)(hg:Zba H)(hl:b.pts.length<=1000000)(hl2:b.cks.length<=1000000)(hl3:l.length<=1000000) :
  LL.Zai P 74 #[bv,lv,ZbS k] H fun v H'=>Inc H H'∧∃ w,v=.tuple #[w,vi (ZaE b l k)]∧SlAt H' w (gapsL b l k):=by
 have hs:=Loud.loud (P:=P)
 have hb0:=hb
 obtain⟨pv,cv,rfl,hp,hc⟩:=hb
 refine IsN.m (isn c74) (args:=[.agg #[vi b.op,vi b.sl,pv,cv],lv,ZbS k]) rfl ?_
 unfold n74
 refine wkT ?_
 refine Zab (vs:=[.agg #[vi b.op,vi b.sl,pv,cv],lv,ZbS k]) rfl (Zom hb0 hlv hg hl hl2 hl3) ?_
 rintro v H1 ⟨hi1,rfl⟩
 by_cases h:ZaE b l k=0
 ·obtain⟨val,e1,i99,hby⟩:=handed0 h
  have hn:=val.n
  have hx:In99 (Zg0 l k).m∧-3<=(Zg0 l k).by_∧(Zg0 l k).by_<=3:=⟨i99,hby⟩
  rw[Zeh,if_pos h]
  obtain⟨Ap,cp,rfl,_⟩:=hp
  obtain⟨Ac,cc,rfl,_⟩:=hc
  refine wkT ?_
  refine Zab (vs:=[.agg #[vi b.op,vi b.sl,.slice Ap b.pts.length cp,.slice Ac b.cks.length cc],ZaS (Zg0 l k)]) rfl (ZdG (hb0.inc hi1) val.good.bk (ZdM hx) (hs _)) ?_
  rintro v _ ⟨rfl,rfl⟩
  refine kp_l hs ?_
  refine wkT ?_
  refine Zab (vs:=[.agg #[vi b.op,vi b.sl,.slice Ap b.pts.length cp,.slice Ac b.cks.length cc],numV (Zav b (Zg0 l k))]) rfl (list_ok (hb0.inc hi1) hn.2 (by omega) (hs _)) ?_
  rintro v H2 ⟨hs2,bb,ow⟩
  refine wkT ?_
  refine⟨hi1.trans hs2.inc,v,by rw[h];rfl,?_⟩
  rw[gapsL,if_pos h]
  exact ow.sl
 ·rw[Zeh,if_neg h]
  refine wkT ?_
  refine wiT (fun h1=>?_) (fun h1=>?_)
  ·refine wkT ?_
   refine⟨hi1,_,rfl,?_⟩
   rw[gapsL,if_neg h]
   exact .nil _
  ·exact absurd h1 h
end
def Zck (b:Bk)(l:List Int):Int:=if snag b≠0 then snag b else ZbG b l (-199) 199
def Zih (b:Bk)(l:List Int):Value:=
 if Zck b l≠0 then .tuple #[.agg #[vi 0,vi 0],vb false,vi (Zck b l)]
 else if lowF b (n4of l) > ZfM b (n4of l) then .tuple #[.agg #[vi 0,vi 0],vb false,vi 0]
 else .tuple #[.agg #[vi (lowF b (n4of l)),vi (ZfM b (n4of l))],vb true,vi 0]
theorem n4_in {l:List Int}{lo hi:Int}(h0:lo<=0∧0<=hi)(h:∀ n∈l,lo<=n∧n<=hi){j:Nat}(hj:j<4):lo<=(n4of l).get j∧(n4of l).get j<=hi:=by
 rw[n4of,N4.of_get _ hj]
 by_cases hjl:j<l.length
 ·rw[ZaG hjl];exact h _ (List.getElem_mem hjl)
 ·rw[List.getD_eq_getElem?_getD,List.getElem?_eq_none (by omega)];simpa using h0
def Zgi (b:Bk)(i:Nat):Int:=(ptAt b i).bh-(ptAt b i).bl-(ptAt b i).w
def roomB (b:Bk):Nat->Nat
 | 0=>0
 | j+1=>if Zgi b j<Zgi b (roomB b j) then j else roomB b j
theorem Zkn (b:Bk):∀ j,roomB b j<=j-1
 | 0=>Nat.le_refl 0
 | j+1=>by
  have:=Zkn b j
  unfold roomB
  split<;>omega
def roomV (b:Bk):Value:=if snag b≠0 then .tuple #[vi 0,vi 0,vi (snag b)] else .tuple #[vi (roomB b b.pts.length:Nat),vi (Zgi b (roomB b b.pts.length)),vi 0]
section
variable  {P:Prg}[Tz P][Loud P]{H:Hp}
set_option maxHeartbeats 1000000
theorem ZoZ {bv lv:Value}{b:Bk}{l:List Int}(hb:BkAt H bv b)(hlv:SlAt H lv l)(hg:Zba H)(hl:b.pts.length<=1000000)(hl2:b.cks.length<=1000000)(hl3:l.length<=1000000) :
  LL.Zai P 59 #[bv,lv] H fun v H'=>Inc H H'∧v=Zih b l:=by
 have hs:=Loud.loud (P:=P)
 have hb0:=hb
 obtain⟨pv,cv,rfl,hp,hc⟩:=hb
 refine IsN.m (isn c59) (args:=[.agg #[vi b.op,vi b.sl,pv,cv],lv]) rfl ?_
 unfold n59
 refine wkT ?_
 refine Zab (vs:=[.agg #[vi b.op,vi b.sl,pv,cv]]) rfl (ZaU hb0 hg hl hl2 (hs _)) ?_
 rintro v _ ⟨rfl,rfl⟩
 refine wkT ?_
 refine wiT (fun h1=>?_) (fun h1=>?_)
 ·refine wkT ?_
  have e:Zck b l=snag b:=by rw[Zck,if_pos h1]
  exact⟨.refl _,by rw[Zih,e,if_pos h1];rfl⟩
 ·have val:=ZaH h1
  have hn:=val.n
  have e:Zck b l=ZbG b l (-199) 199:=by rw[Zck,if_neg (by omega)]
  rw[Zih,e]
  obtain⟨Ap,cp,rfl,_⟩:=hp
  obtain⟨Ac,cc,rfl,_⟩:=hc
  refine wkT ?_
  refine Zab (vs:=[.agg #[vi b.op,vi b.sl,.slice Ap b.pts.length cp,.slice Ac b.cks.length cc],lv,vi (-199),vi 199]) rfl (one_ok (-199) 199 hb0 hlv hl3 (hs _)) ?_
  rintro v H1 ⟨hi1,rfl⟩
  refine wkT ?_
  refine wiT (fun h2=>?_) (fun h2=>?_)
  ·refine wkT ?_
   exact⟨hi1.inc,by rw[if_pos h2];rfl⟩
  ·obtain⟨e1,hin⟩:=ZnN h2
   rw[if_neg (by omega)]
   refine wkT ?_
   refine Zab (vs:=[lv]) rfl (ZdC (hlv.sub hi1) (by omega) (hs _)) ?_
   rintro v H2 ⟨hi2,rfl⟩
   refine kp_l hs ?_
   refine wkT ?_
   refine Zab (vs:=[.agg #[vi b.op,vi b.sl,.slice Ap b.pts.length cp,.slice Ac b.cks.length cc],numV (n4of l)]) rfl (Zes (hb0.sub (hi1.trans hi2)) hn.2 (by omega) val.good.pts (fun j hj=>by have:=n4_in (l:=l) (lo:=-199) (hi:=199) (by omega) hin hj;exact⟨by omega,by omega⟩) (hs _)) ?_
   rintro v H3 ⟨hi3,rfl⟩
   refine wkT ?_
   refine wiT (fun h3=>?_) (fun h3=>?_)
   ·refine wkT ?_
    exact⟨((hi1.trans hi2).trans hi3).inc,by rw[if_pos (by omega)];rfl⟩
   ·refine wkT ?_
    exact⟨((hi1.trans hi2).trans hi3).inc,by rw[if_neg (by omega)];rfl⟩
theorem Room1_ok {b:Bk}{pv cv:Value}{r j:Nat}(hr:CellsAt H ⟨r,0,none⟩ [vi b.op,vi b.sl,pv,cv])(hp:SlAt H pv b.pts)(hj:j<b.pts.length)(hpo:PtsOk b):LL.Zai P 133 #[vi j,pt r] H fun v H'=>H=H'∧v=vi (Zgi b j):=by
 have hs:=Loud.loud (P:=P)
 refine IsN.m (isn c133) (args:=[vi j,pt r]) rfl ?_
 unfold n133
 have ept:ptAt b j=b.pts[j]:=ZaG hj _
 have s1:=hpo.bl j hj
 have s2:=hpo.bh j hj
 have s3:=hpo.w j hj
 rw[<-ept]at s1 s2 s3
 obtain⟨a1,a2⟩:=s1
 obtain⟨a3,a4⟩:=s2
 obtain⟨a5,a6⟩:=s3
 refine wkT ?_
 refine Zaf (hs _) rfl (Zbl hr (j:=2) rfl) ?_
 refine wkT ?_
 refine Zar hp rfl rfl rfl (i:=j) hj fun a ha=>?_
 rw[<-ept]at ha
 refine wkT ?_
 refine Zaf (hs _) rfl (show CellsAt H (a.add 3) _ from Zbl ha (j:=3) rfl) ?_
 refine wkT ?_
 refine Zaf (hs _) rfl (Zbl hr (j:=2) rfl) ?_
 refine wkT ?_
 refine Zar hp rfl rfl rfl (i:=j) hj fun a ha=>?_
 rw[<-ept]at ha
 refine wkT ?_
 refine Zaf (hs _) rfl (Zbl ha (j:=2) rfl) ?_
 refine wkT ?_
 refine Zaf (hs _) rfl (Zbl hr (j:=2) rfl) ?_
 refine wkT ?_
 refine Zar hp rfl rfl rfl (i:=j) hj fun a ha=>?_
 rw[<-ept]at ha
 refine wkT ?_
 refine Zaf (hs _) rfl (Zbl ha (j:=4) rfl) ?_
 refine wkT ?_
 exact⟨rfl,rfl⟩
theorem Room_ok {bv:Value}{b:Bk}(hb:BkAt H bv b)(hg:Zba H)(hl:b.pts.length<=1000000)(hl2:b.cks.length<=1000000) :
  LL.Zai P 60 #[bv] H fun v H'=>Inc H H'∧v=roomV b:=by
 have hs:=Loud.loud (P:=P)
 have hb0:=hb
 obtain⟨pv,cv,rfl,hp,hc⟩:=hb
 obtain⟨Ap,cp,rfl,hp'⟩:=id hp
 obtain⟨Ac,cc,rfl,_⟩:=hc
 refine IsN.m (isn c60) (args:=[.agg #[vi b.op,vi b.sl,.slice Ap b.pts.length cp,.slice Ac b.cks.length cc]]) rfl ?_
 unfold n60
 refine wkT ?_
 refine Zca rfl (hs _) fun r hr=>?_
 have i1:=Zah (o:=.cells (Value.agg #[vi b.op,vi b.sl,.slice Ap b.pts.length cp,.slice Ac b.cks.length cc]).cells 25) hr
 have c1:CellsAt (H.ins r (.cells (Value.agg #[vi b.op,vi b.sl,.slice Ap b.pts.length cp,.slice Ac b.cks.length cc]).cells 25)) ⟨r,0,none⟩ [vi b.op,vi b.sl,.slice Ap b.pts.length cp,.slice Ac b.cks.length cc]:=Zaw
 have hb1:=hb0.inc i1
 have hg1:Zba _:=CellsAt.inc hg i1
 have hp1:=hp.inc i1
 show Zaj.m _ _ _ _ _
 generalize hH:H.ins r (.cells (Value.agg #[vi b.op,vi b.sl,.slice Ap b.pts.length cp,.slice Ac b.cks.length cc]).cells 25)=H1 at *
 refine wkT ?_
 refine Zam (hs _) rfl c1 rfl ?_
 refine wkT ?_
 refine Zab (vs:=[.agg #[vi b.op,vi b.sl,.slice Ap b.pts.length cp,.slice Ac b.cks.length cc]]) rfl (ZaU hb1 hg1 hl hl2 (hs _)) ?_
 rintro v _ ⟨rfl,rfl⟩
 refine wkT ?_
 refine wiT (fun h1=>?_) (fun h1=>?_)
 ·refine wkT ?_
  exact⟨i1,by rw[roomV,if_pos h1];rfl⟩
 ·have val:=ZaH h1
  have hn:=val.n
  refine wkT ?_
  refine ZcB rfl rfl ?_
  refine wkT ?_
  refine Zaf (hs _) rfl (Zbl c1 (j:=2) rfl) ?_
  refine wkT ?_
  have hF:∀ j:Nat,j<b.pts.length->CallV P (.func (.func 133) #[] #[pt r]) #[vi j] H1 fun v H'=>H1=H'∧v=vi (Zgi b j):=fun j hj=>Zdh (by kernel_rfl) (Room1_ok c1 hp1 hj val.good.pts)
  have hW:∀ j:Nat,roomB b j<b.pts.length∨b.pts.length<j:=fun j=>by have:=Zkn b j;omega
  refine ZaP b.pts.length (fun j H'=>H1=H') (fun j=>[(1,pt r),(2,vi (roomB b j:Nat)),(6,.func (.func 133) #[] #[pt r]),(15,.slice Ap b.pts.length cp),(16,vi b.pts.length),(17,vi j)]) (fun j=>[]) rfl ⟨rfl,rfl,rfl,rfl,rfl,rfl,trivial⟩ trivial ?_
  rintro j _ hj rfl
  have hW':roomB b j<b.pts.length:=by have:=Zkn b j;omega
  refine wkT ?_
  refine wiT (fun h2=>?_) (fun h2=>?_)
  ·refine wkT ?_
   refine ZaX (vs:=[vi j]) rfl rfl (hF j (by omega)) ?_
   rintro v _ ⟨rfl,rfl⟩
   refine wkT ?_
   refine ZaX (vs:=[vi (roomB b j:Nat)]) rfl rfl (hF _ hW') ?_
   rintro v _ ⟨rfl,rfl⟩
   refine wkT ?_
   refine wiT (fun h3=>?_) (fun h3=>?_)
   ·refine wkT ?_
    refine⟨⟨j+1,by omega⟩,slt (by omega),rfl,⟨rfl,?_,rfl,rfl,rfl,rfl,trivial⟩,trivial,rfl⟩
    show _=some (vi (roomB b (j+1):Nat))
    rw[roomB,if_pos h3]
    rfl
   ·refine wkT ?_
    refine⟨⟨j+1,by omega⟩,slt (by omega),rfl,⟨rfl,?_,rfl,rfl,rfl,rfl,trivial⟩,trivial,rfl⟩
    show _=some (vi (roomB b (j+1):Nat))
    rw[roomB,if_neg h3]
    rfl
  ·have:j=b.pts.length:=by omega
   subst this
   refine wkT ?_
   refine ZaX (vs:=[vi (roomB b b.pts.length:Nat)]) rfl rfl (hF _ hW') ?_
   rintro v _ ⟨rfl,rfl⟩
   refine wkT ?_
   exact⟨i1,by rw[roomV,if_neg (by omega)];rfl⟩
end
def el (l:List Int)(i:Nat):Int:=l.getD i 0
theorem ZhY {l:List Int}{i:Nat}(h:i<l.length):el l i=l[i]:=ZaG h 0
theorem ZlN {l:List Int}{i:Nat}(x:Int)(j:Nat)(h:i<l.length):el (l.set i x) j=if j=i then x else el l j:=by
 unfold el
 rw[List.getD_eq_getElem?_getD,List.getD_eq_getElem?_getD,List.getElem?_set]
 by_cases e:j=i
 ·subst e;simp[h]
 ·rw[if_neg (Ne.symm e),if_neg e]
structure AR (G H:Hp)(r:Nat)(l:List Int)(rest:List Value):Prop where
 keep:∀ b x,b≠r->G b=some x->H b=some x
 at_:H r=some (.cells (encs l++rest).toArray 3 (0,0),true)
theorem AR.of {H:Hp}{r:Nat}{l:List Int}{rest:List Value}(h:H r=some (.cells (encs l++rest).toArray 3 (0,0),true)):AR H H r l rest:=⟨fun _ _ _ h=>h,h⟩
theorem AR.trans {G H H':Hp}{r:Nat}{l l':List Int}{rest rest':List Value}(h:AR G H r l rest)(h':AR H H' r l' rest'):AR G H' r l' rest':=⟨fun b x hb hx=>h'.keep b x hb (h.keep b x hb hx),h'.at_⟩
theorem AR.set {G H:Hp}{r:Nat}{l:List Int}{rest:List Value}(h:AR G H r l rest)(l':List Int)(rest':List Value):AR G (H.ins r (.cells (encs l'++rest').toArray 3)) r l' rest':=
 ⟨fun b x hb hx=>by rw[Hp.ins_other _ _ hb];exact h.keep b x hb hx,Hp.ins_same _ _ _⟩
theorem AR.new {G H:Hp}{r r':Nat}{l:List Int}{rest:List Value}{o:Obj}(h:AR G H r l rest)(hr:H r'=none):AR G (H.ins r' o) r l rest:=
 ⟨fun b x hb hx=>(ZaV hr).mem _ _ (h.keep b x hb hx),(ZaV hr).mem _ _ h.at_⟩
theorem AR.inc {G0 G H:Hp}{r:Nat}{l:List Int}{rest:List Value}(h:AR G H r l rest)(hi:Inc G0 G)(hr:G0 r=none):Inc G0 H:=
 fun b x hb=>h.keep b x (fun e=>by rw[e,hr]at hb;simp at hb) (hi b x hb)
theorem encs_at' (l:List Int)(i:Nat)(h:i<l.length):(encs l)[i]? = some (vi (el l i)):=by
 rw[ZbK,List.getElem?_map,List.getElem?_eq_getElem h,ZhY h];rfl
theorem ZbV (l:List Int):(encs l).length=l.length:=by rw[ZbK,List.length_map]
theorem AR.cell {G H:Hp}{r off:Nat}{l:List Int}{rest:List Value}(h:AR G H r l rest){j:Nat}(hj:j<l.length)(e:off=j):CellsAt H ⟨r,off,none⟩ [vi (el l j)]:=by
 subst e
 refine⟨rfl,_,_,h.at_,fun k hk=>?_⟩
 have hk0:k=0:=by simpa using hk
 subst hk0
 have:(encs l++rest)[off]? = some (vi (el l off)):=by rw[List.getElem?_append_left (by rw[ZbV];exact hj),encs_at' l off hj]
 simpa[Obj.at?]using this
theorem Zi3 (r o n:Nat):(⟨r,o,none⟩:Addr).add n=⟨r,o+n,none⟩:=by
 unfold Addr.add
 split
 ·rename_i h;subst h;rfl
 ·rfl
theorem Zbo (r k:Nat):(⟨r,0,none⟩:Addr).add (k * 1)=⟨r,k,none⟩:=by rw[Zi3,Nat.zero_add,Nat.mul_one]
theorem addr2 (r i k:Nat):((⟨r,0,none⟩:Addr).add (i * 1)).add (k * 1)=⟨r,i+k,none⟩:=by rw[Zbo,Zi3,Nat.mul_one]
theorem AR.cA {G H:Hp}{r i j:Nat}{l:List Int}{rest:List Value}(h:AR G H r l rest)(hj:i<l.length)(e:i=j:=by omega):CellsAt H ((⟨r,0,none⟩:Addr).add (i * 1)) [vi (el l j)]:=
 Zbo r i ▸ h.cell (off:=i) (j:=j) (by omega) e
theorem AR.cAA {G H:Hp}{r i k j:Nat}{l:List Int}{rest:List Value}(h:AR G H r l rest)(hj:i+k<l.length)(e:i+k=j:=by omega):CellsAt H (((⟨r,0,none⟩:Addr).add (i * 1)).add (k * 1)) [vi (el l j)]:=
 addr2 r i k ▸ h.cell (off:=i+k) (j:=j) (by omega) e
theorem Zl3 (l:List Int)(rest:List Value){j:Nat}(n:Int)(hj:j<l.length):ZaO (encs l++rest) j [vi n]=encs (l.set j n)++rest:=by
 unfold ZaO
 have h1:j<=(encs l).length:=by rw[ZbV];omega
 have h2:j+1<=(encs l).length:=by rw[ZbV];omega
 rw[List.take_append_of_le_length h1,show ([vi n]:List Value).length=1 from rfl,List.drop_append_of_le_length h2,ZbK,ZbK,List.map_set,List.set_eq_take_append_cons_drop,if_pos (by simpa using hj)]
 simp
theorem clr_list (l:List Int)(rest:List Value){k:Nat}(hk:k<=l.length):(encs l++rest).take k++List.replicate (l.length-k) (vi 0)++(encs l++rest).drop (k+(l.length-k))=encs (l.take k++List.replicate (l.length-k) 0)++rest:=by
 rw[List.take_append_of_le_length (by rw[ZbV];exact hk),show k+(l.length-k)=(encs l).length by rw[ZbV];omega,List.drop_left,Zcu,ZbK,ZbK,ZbK,List.map_take,List.map_replicate]
section
variable  {P:Prg}[Tz P][Loud P]{H:Hp}{d:Option Nat}{next:NSt->Hp->Prop}{σ:NSt}{x y:Operand}
theorem Zak {a:Addr}{esz ln c:Nat}{k:IntKind}{n:Int}(j:Nat)(e1:σ.get x=some (.slice (some a) ln c))(e2:σ.get y=some (.int k n))(e:n=(j:Int))(hj:j<ln)(h:next (σ.set d (.pointer (some (a.add (j * esz))))) H):(NOp.iadr esz x y).m P d next σ H:=by
 subst e;exact ZcC e1 e2 hj h
theorem ZaW {G:Hp}{a:Addr}{ty r j:Nat}{l:List Int}{rest:List Value}{n:Int}(h:AR G H r l rest)(hj:j<l.length)(e:a=⟨r,j,none⟩)(e1:σ.get x=some (.pointer (some a)))(e2:σ.get y=some (vi n))
  (hn:∀ H',AR G H' r (l.set j n) rest->next (σ.set d undef) H'):(NOp.raw (.store 3 x y) ty).m P d next σ H:=by
 subst e
 refine ZdS (tif t3) e1 e2 h.at_ rfl (by rw[List.length_append,ZbV];omega) rfl (Loud.loud _) ?_
 rw[show (vi n).cells.toList=[vi n] from rfl,Zl3 l rest n hj]
 exact hn _ (h.set _ _)
theorem ZeY (n:Nat):(Builtin.zeroCells #[vi 0] n).toList=List.replicate n (vi 0):=by
 simp only[Builtin.zeroCells]
 refine List.ext_getElem (by simp) fun i h1 h2=>?_
 simp[Nat.mod_one]
theorem om_clear {G:Hp}{a:Addr}{T r off cap n:Nat}{l:List Int}{rest:List Value}(h:AR G H r l rest)(hk:off<l.length)(e:a=⟨r,off,none⟩)(en:n=l.length-off)(e1:σ.get x=some (.slice (some a) n cap))
  (hn:∀ H',AR G H' r (l.take off++List.replicate (l.length-off) 0) rest->next (σ.set d undef) H'):(NOp.raw (.call { callee:=.builtin .clear,args:=#[x],argTypes:=#[34] }) T).m P d next σ H:=by
 subst e en
 obtain⟨inf,i1,i2,i3,i4⟩:=(tif (P:=P) t3).ex
 refine Zbh (s:=Builtin.clear_ #[34] T #[.slice (some ⟨r,off,none⟩) (l.length-off) cap]) (by simp[Op.operands,Call.operands,e1]) (by simp[execOp,bare,resolve,invoke,builtin,e1]) ?_
 have hne:∃ m,l.length-off=m+1:=⟨l.length-off-1,by omega⟩
 obtain⟨m,hm⟩:=hne
 rw[hm]
 simp only[Builtin.clear_,List.getElem?_toArray,List.getElem?_cons_zero,Zaa,Zad (und (P:=P) u34),Zb0 i1 i3,Zac]
 refine ZbC _ _ _ off 0 (encs l++rest) H (Loud.loud _) h.at_ ?_ ?_ ?_
 ·rw[show (vi 0).cells=#[vi 0] from rfl,ZeY];simp[Value.isOne]
 ·rw[show (vi 0).cells=#[vi 0] from rfl,ZeY];simp[ZbV];omega
 ·rw[show (vi 0).cells=#[vi 0] from rfl,ZeY,<-hm]
  simp only[Nat.add_zero,List.length_replicate]
  rw[clr_list l rest (by omega)]
  exact hn _ (h.set _ _)
end
end Go.Proofs
end
