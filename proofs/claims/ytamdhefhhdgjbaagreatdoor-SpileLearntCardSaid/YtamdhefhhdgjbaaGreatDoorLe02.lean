/- proofs about Leango given: part Le2; made by a program out of the longer texts in wip -/
import Derived.Test.YtamdhefhhdgjbaaGreatDoorLe01
set_option linter.all false
section
open Go Go.LL
namespace Go.Proofs
theorem Wbl {m:Int}{n:Nat}(h:0<=m)(hn:0<n):∃ i:Nat,i<n∧m.tmod n=i:=by
 have:=WbC (m:=(n:Int)) h (by omega)
 exact⟨(m.tmod n).toNat,by omega,by omega⟩
section
variable  {P:Prg}[Tz P][Loud P]{H:Hp}
set_option maxHeartbeats 16000000
set_option maxRecDepth 40000
end
end Go.Proofs
end
section
open Go Go.LL
namespace Go.Proofs
section
variable  {P:Prg}[Tz P][Loud P]{H:Hp}
set_option maxHeartbeats 16000000
set_option maxRecDepth 40000
end
end Go.Proofs
end
section
open Go Go.LL
namespace Go.Proofs
section
variable  {P:Prg}[Tz P][Loud P]{H:Hp}
set_option maxHeartbeats 8000000
set_option maxRecDepth 20000
end
end Go.Proofs
end
section
open Go Go.LL
namespace Go.Proofs
section
variable  {P:Prg}[Tz P][Loud P]{H:Hp}
set_option maxHeartbeats 16000000
set_option maxRecDepth 40000
end
end Go.Proofs
end
section
open Go Go.LL
namespace Go.Proofs
structure LeN (p q c d a e:Int)(su st:Bool):Prop where
 a1:p=0∨p=q
 a2:c=0∨c=d
 a3:su=true->st=true∧e<=a
theorem Wby {b o:Bk}(L:Wan b o)(h:0<nB o):0<nB b∧LeN (slpF b) (slpF o) (hadF b) (hadF o) (Wbv b) (Wbv o) (Wbw b) (Wbw o):=by
 have hb:0<nB b:=L.pos h
 refine⟨hb,?_,?_,fun hs=>?_⟩
 ·rw[WbF hb,WbF h]
  exact Wbm L.sub h
 ·rw[WbK hb,WbK h]
  exact L.had h
 ·obtain⟨_,h2⟩:=of_decide_eq_true hs
  obtain⟨g1,g2⟩:=L.surely h h2
  refine⟨decide_eq_true ⟨h,g2⟩,?_⟩
  rw[Wbv,if_pos ⟨h,g2⟩,Wbv,if_pos ⟨hb,h2⟩]
  exact g1
section
variable  {P:Prg}[Tz P][Loud P]{H:Hp}
set_option maxHeartbeats 8000000
set_option maxRecDepth 20000
theorem WaO {u w:Value}{l m:List Int}(hl:SlAt H u l)(hm:SlAt H w m)(h:∀ z∈l,z∈m)(hll:l.length<=1000000)(hml:m.length<=1000000):LL.Zag P 134 #[u,w] H fun v H'=>H=H'∧v=vb true:=by
 have hs:∀ g,P.still g=false:=Loud.loud
 refine IsN.m (isn c134) (args:=[u,w]) rfl ?_
 unfold n134
 refine wkT ?_
 refine ZaX l.length (fun j H'=>H=H') (fun j=>[(0,u),(1,w),(5,vi j)]) (fun _=>[]) rfl ⟨rfl,rfl,rfl,trivial⟩ trivial ?_
 rintro j _ hj rfl
 refine wkT ?_
 refine Zav hl rfl ?_
 refine wkT ?_
 refine wiT (fun h1=>?_) (fun h1=>?_)
 ·have hj':j<l.length:=by omega
  refine wkT ?_
  refine ZaE hl rfl rfl rfl (i:=j) hj' fun a ha=>?_
  refine wkT ?_
  refine Zaf (hs _) rfl ha ?_
  refine wkT ?_
  refine Zab (vs:=[w,vi l[j]]) rfl (Has_ok hm hml) ?_
  rintro v _ ⟨rfl,rfl⟩
  rw[decide_eq_true (h _ (List.getElem_mem hj'))]
  refine wkT ?_
  exact Wbq (I:=fun j H'=>H=H') (env:=fun j=>[(0,u),(1,w),(5,vi j)]) (box:=fun _=>[]) hj' rfl ⟨rfl,rfl,rfl,trivial⟩ trivial rfl
 ·refine wkT ?_
  exact⟨rfl,rfl⟩
theorem WbQ {bv:Value}{b:Bk}{i:Nat}{xl xh:Int}(val:Zeo b)(hi:i<b.pts.length)(hb:BkAt H bv b):LL.Zag P 66 #[bv,vi i,.agg #[vi xl,vi xh]] H fun v H'=>Inc H H'∧BkAt H' v (rdBk b i xl xh):=by
 have hs:∀ g,P.still g=false:=Loud.loud
 have hn:=val.n
 obtain⟨pv,cv,rfl,hp,hc⟩:=hb
 obtain⟨Ap,cp,rfl,hp'⟩:=id hp
 obtain⟨Ac,cc,rfl,hc'⟩:=id hc
 refine IsN.m (isn c66) (args:=[.agg #[vi b.op,vi b.sl,.slice Ap b.pts.length cp,.slice Ac b.cks.length cc],vi i,.agg #[vi xl,vi xh]]) rfl ?_
 unfold n66
 refine wkT ?_
 refine Zdw (und u22) (tif t59) (hs _) fun r1 hr1=>?_
 have o1:Own H (H.ins r1 (.cells #[] 59)) 59 (.slice (some ⟨r1,0,none⟩) 0 0) ([]:List SPt) (some r1):=own_nil0 hr1
 have i1:Inc H (H.ins r1 (.cells #[] 59)):=Zaj hr1
 generalize H.ins r1 (.cells #[] 59)=H1 at *
 refine wkT ?_
 refine ZbW (l':=b.pts) (und u22) (und u22) (tif t59) rfl (by decide) i1 o1 (hp.inc i1) (pts_one _) (by simp;omega) (by omega) rfl rfl (hs _) fun v2 H2 b2 i2 o2 _=>?_
 rw[List.nil_append]at o2
 obtain⟨r,cap,rest,rfl,q3,q0⟩:=own_at o2 (by omega)
 have hll:(encs b.pts).length=b.pts.length * 5:=Zcm b.pts
 have hsp:=WbD xl xh b.pts i hi rest
 refine wkT ?_
 refine ZcY rfl rfl hi ?_
 refine wkT ?_
 have hadd:((⟨r,0,none⟩:Addr).add (i * 5)).add 0=⟨r,i * 5,none⟩:=by rw[Zm0,Zm0,Nat.zero_add];rfl
 rw[hadd]
 refine Zd6 (v:=.agg #[vi xl,vi xh]) (cs:=encs b.pts++rest) (tif t49) rfl rfl q3 rfl (by rw[List.length_append,hll];omega) rfl (hs _) ?_
 have e5:ZaN (encs b.pts++rest) (i * 5) (Value.cells (.agg #[vi xl,vi xh])).toList=encs (rdBk b i xl xh).pts++rest:=by
  show ZaN _ _ [vi _,vi _]=_
  rw[hsp,rdBk,show b.pts[i]=ptAt b i from (Zbd hi _).symm]
 rw[e5]
 have hlen:(rdBk b i xl xh).pts.length=b.pts.length:=List.length_set ..
 have hsl:SlAt (H2.ins r (.cells (encs (rdBk b i xl xh).pts++rest).toArray 59)) (.slice (some ⟨r,0,none⟩) b.pts.length cap) (rdBk b i xl xh).pts:=by
  have:=sl_at (cap:=cap) (Hp.ins_same H2 r (.cells (encs (rdBk b i xl xh).pts++rest).toArray 59))
  rwa [hlen]at this
 have i3:Inc H (H2.ins r (.cells (encs (rdBk b i xl xh).pts++rest).toArray 59)):=Za6 i2 q0
 refine wkT ?_
 exact⟨i3,_,_,rfl,hsl,hc.inc i3⟩
theorem Waz {av bv:Value}{a b:Bk}{m:Int}(va:Zeo a)(v':Zeo b)(L:Wan a b)(hpos:0<nB b)(ha:BkAt H av a)(hb:BkAt H bv b)(hg:Za8 H)(hm:0<=m∧m<256):LL.Zag P 65 #[av,bv,.int .u8 m] H fun v H'=>Inc H H'∧v=vb true:=by
 have hs:∀ g,P.still g=false:=Loud.loud
 have hn:=va.n
 have ha0:=ha
 have hb0:=hb
 obtain⟨_,_,rfl,⟨Ap,cp,rfl,_⟩,⟨Ac,cc,rfl,_⟩⟩:=ha0
 obtain⟨_,_,rfl,⟨Bp,dp,rfl,_⟩,⟨Bc,dc,rfl,_⟩⟩:=hb0
 refine IsN.m (isn c65) (args:=[.agg #[vi a.op,vi a.sl,.slice Ap a.pts.length cp,.slice Ac a.cks.length cc],.agg #[vi b.op,vi b.sl,.slice Bp b.pts.length dp,.slice Bc b.cks.length dc],.int .u8 m]) rfl ?_
 unfold n65
 obtain⟨hza,hN1,hN2,hN3⟩:=Wby L hpos
 have hlen:nB b<=nB a:=L.len v'
 have hNa:nB a<=1782:=Zbp va
 refine wkT ?_
 refine Zb3 (und Tryz.underlying5) (und Tryz.underlying3) rfl ?_
 rw[ZbO (show InR m from ⟨by omega,by omega⟩)]
 refine wkT ?_
 refine WbI rfl rfl (by omega) ?_
 obtain⟨i,hi,ei⟩:=Wbl (n:=a.pts.length) hm.1 (by omega)
 rw[ei]
 have hib:i<b.pts.length:=by rw[L.n];exact hi
 have g1:=WbM va i
 have g2:=WbM v' i
 have w1:=Wbk va
 have w2:=Wbk v'
 refine wkT ?_
 refine Zab (vs:=[.agg #[vi a.op,vi a.sl,.slice Ap a.pts.length cp,.slice Ac a.cks.length cc]]) rfl (WbR va ha hg) ?_
 rintro v H1 ⟨i1,rfl⟩
 refine wkT ?_
 refine Zab (vs:=[.agg #[vi b.op,vi b.sl,.slice Bp b.pts.length dp,.slice Bc b.cks.length dc]]) rfl (WbR v' (hb.inc i1) (CellsAt.inc hg i1)) ?_
 rintro v H2 ⟨j2,rfl⟩
 have i2:=i1.trans j2
 refine wkT ?_
 refine Zab (vs:=[.agg #[vi a.op,vi a.sl,.slice Ap a.pts.length cp,.slice Ac a.cks.length cc],vi i]) rfl (Gap_v hi va (ha.inc i2) (CellsAt.inc hg i2)) ?_
 rintro v H3 ⟨j3,A3,c3,rfl,s3⟩
 have i3:=i2.trans j3
 refine wkT ?_
 refine Zab (vs:=[.agg #[vi b.op,vi b.sl,.slice Bp b.pts.length dp,.slice Bc b.cks.length dc],vi i]) rfl (Gap_v hib v' (hb.inc i3) (CellsAt.inc hg i3)) ?_
 rintro v H4 ⟨j4,A4,c4,rfl,s4⟩
 have i4:=i3.trans j4
 refine wkT ?_
 refine Zab (vs:=[.agg #[vi a.op,vi a.sl,.slice Ap a.pts.length cp,.slice Ac a.cks.length cc]]) rfl (Wba va (ha.inc i4) (CellsAt.inc hg i4)) ?_
 rintro v H5 ⟨j5,rfl⟩
 have i5:=i4.trans j5
 refine wkT ?_
 refine Zab (vs:=[.agg #[vi b.op,vi b.sl,.slice Bp b.pts.length dp,.slice Bc b.cks.length dc]]) rfl (Wba v' (hb.inc i5) (CellsAt.inc hg i5)) ?_
 rintro v H6 ⟨j6,rfl⟩
 have i6:=i5.trans j6
 refine wkT ?_
 refine Zab (vs:=[.agg #[vi a.op,vi a.sl,.slice Ap a.pts.length cp,.slice Ac a.cks.length cc]]) rfl (When_v va (ha.inc i6) (CellsAt.inc hg i6)) ?_
 rintro v H7 ⟨j7,A7,c7,rfl,s7⟩
 have i7:=i6.trans j7
 refine wkT ?_
 refine Zab (vs:=[.agg #[vi b.op,vi b.sl,.slice Bp b.pts.length dp,.slice Bc b.cks.length dc]]) rfl (When_v v' (hb.inc i7) (CellsAt.inc hg i7)) ?_
 rintro v H8 ⟨j8,A8,c8,rfl,s8⟩
 have i8:=i7.trans j8
 refine wkT ?_
 refine Zab (vs:=[.agg #[vi a.op,vi a.sl,.slice Ap a.pts.length cp,.slice Ac a.cks.length cc]]) rfl (Had_v va (ha.inc i8) (CellsAt.inc hg i8)) ?_
 rintro v H9 ⟨j9,rfl⟩
 have i9:=i8.trans j9
 refine wkT ?_
 refine Zab (vs:=[.agg #[vi b.op,vi b.sl,.slice Bp b.pts.length dp,.slice Bc b.cks.length dc]]) rfl (Had_v v' (hb.inc i9) (CellsAt.inc hg i9)) ?_
 rintro v H10 ⟨j10,rfl⟩
 have i10:=i9.trans j10
 refine wkT ?_
 refine Zab (vs:=[.agg #[vi a.op,vi a.sl,.slice Ap a.pts.length cp,.slice Ac a.cks.length cc]]) rfl (Wbt va (ha.inc i10) (CellsAt.inc hg i10)) ?_
 rintro v H11 ⟨j11,rfl⟩
 have i11:=i10.trans j11
 refine wkT ?_
 refine Zab (vs:=[.agg #[vi b.op,vi b.sl,.slice Bp b.pts.length dp,.slice Bc b.cks.length dc]]) rfl (Wbt v' (hb.inc i11) (CellsAt.inc hg i11)) ?_
 rintro v H12 ⟨j12,rfl⟩
 have i12:=i11.trans j12
 have t3:SlAt H12 (.slice A3 (gapL a i).length c3) (gapL a i):=s3.inc ((((((((j4.trans j5).trans j6).trans j7).trans j8).trans j9).trans j10).trans j11).trans j12)
 have t4:=s4.inc (((((((j5.trans j6).trans j7).trans j8).trans j9).trans j10).trans j11).trans j12)
 have t7:=s7.inc ((((j8.trans j9).trans j10).trans j11).trans j12)
 have t8:=s8.inc (((j9.trans j10).trans j11).trans j12)
 rw[Waf hza,Waf hpos]
 refine wkT ?_
 refine Zab (vs:=[vi (nB b),vi 1,vi (nB a)]) rfl (Zm6 _ _ _) ?_
 rintro v _ ⟨rfl,rfl⟩
 rw[decide_eq_true (show (1:Int)<=(nB b:Int)∧(nB b:Int)<=nB a from ⟨by omega,by omega⟩)]
 refine wkT ?_
 refine Zab (vs:=[.slice A4 (gapL b i).length c4,.slice A3 (gapL a i).length c3]) rfl (WaO t4 t3 (fun z hz=>L.gapL hz) (by omega) (by omega)) ?_
 rintro v _ ⟨rfl,rfl⟩
 refine wkT ?_
 refine Zab (vs:=[.slice A8 (whenL b).length c8,.slice A7 (whenL a).length c7]) rfl (WaO t8 t7 (fun z hz=>L.when va v' hz) (by omega) (by omega)) ?_
 rintro v _ ⟨rfl,rfl⟩
 generalize slpF a=p at *
 generalize slpF b=q at *
 generalize hadF a=x at *
 generalize hadF b=y at *
 generalize Wbw a=su at *
 generalize Wbw b=st at *
 have fin:∀ (σ:NSt) (H':Hp),True:=fun _ _=>trivial
 have last:∀ {z:Bool},z=true->vb z=vb true:=fun h=>by rw[h]
 cases su with
 | false=>
  refine wkT ?_
  refine wiT (fun h1=>?_) (fun h1=>?_)
  ·refine wkT ?_
   refine wiT (fun h2=>?_) (fun h2=>?_)
   ·refine wkT ?_
    exact⟨i12,rfl⟩
   ·refine wkT ?_
    refine wiT (fun h3=>?_) (fun h3=>?_)
    ·refine wkT ?_
     exact⟨i12,rfl⟩
    ·exact absurd h3 (by omega)
  ·refine wkT ?_
   refine wiT (fun h3=>?_) (fun h3=>?_)
   ·refine wkT ?_
    refine wiT (fun h2=>?_) (fun h2=>?_)
    ·refine wkT ?_
     exact⟨i12,rfl⟩
    ·refine wkT ?_
     refine wiT (fun h4=>?_) (fun h4=>?_)
     ·refine wkT ?_
      exact⟨i12,rfl⟩
     ·exact absurd h4 (by omega)
   ·exact absurd h3 (by omega)
 | true=>
  obtain⟨rfl,hle⟩:=hN3 rfl
  refine wkT ?_
  refine wiT (fun h1=>?_) (fun h1=>?_)
  ·refine wkT ?_
   refine wiT (fun h2=>?_) (fun h2=>?_)
   ·refine wkT ?_
    exact⟨i12,by rw[decide_eq_true hle];rfl⟩
   ·refine wkT ?_
    refine wiT (fun h3=>?_) (fun h3=>?_)
    ·refine wkT ?_
     exact⟨i12,by rw[decide_eq_true hle];rfl⟩
    ·exact absurd h3 (by omega)
  ·refine wkT ?_
   refine wiT (fun h3=>?_) (fun h3=>?_)
   ·refine wkT ?_
    refine wiT (fun h2=>?_) (fun h2=>?_)
    ·refine wkT ?_
     exact⟨i12,by rw[decide_eq_true hle];rfl⟩
    ·refine wkT ?_
     refine wiT (fun h4=>?_) (fun h4=>?_)
     ·refine wkT ?_
      exact⟨i12,by rw[decide_eq_true hle];rfl⟩
     ·exact absurd h4 (by omega)
   ·exact absurd h3 (by omega)
end
end Go.Proofs
end
section
open Go Go.LL
namespace Go.Proofs
theorem WbG {G:Prop} (h:G:=by
  rw[h1,if_neg (by decide)]at hbq
  rw[h1]
  refine wkT ?_
  refine Zab (vs:=[.agg #[vi x13,vi x23,.slice Bp3 np3 dp3,.slice Bc3 nc3 dc3],bookV0]) rfl (Waa hbq (bk0_at _) (by show (0:Nat)<=_;omega) (by show (0:Nat)<=_;omega) rfl) ?_
  rintro v _ ⟨rfl,rfl⟩
  refine wkT ?_
  refine Zab (vs:=[]) rfl (spiled_okP hPP hg3) ?_
  rintro v H4 ⟨_,rfl⟩
  refine wkT ?_
  rfl):G:=h
theorem ag_zero {b:Bk}(h:ZdL b=0):Zeo b∧0<nB b:=by
 unfold ZdL at h
 split at h
 ·rename_i h1;exact absurd h h1
 ·rename_i h1
  have v:=ZaS (b:=b) (Classical.byContradiction h1)
  split at h
  ·simp at h
  ·rename_i h2
   exact⟨v,WaR.1 (by simpa using h2)⟩
theorem ck_zero {b:Bk}{c:SCk}(h:ZkA b c=0):Zeo (ckBk b c)∧0<nB (ckBk b c):=by
 unfold ZkA at h
 split at h
 ·rename_i h1;exact absurd h h1
 ·exact ag_zero h
theorem fm_oSk {b:Bk}{k:Int}(v:Zeo b)(h:0<=k∧k<=b.sl):Zhc b k=oS (fmBk b k):=by
 rw[Zhc,if_neg (by simp[Wai v]),if_neg (by omega),ag_eq (WaQ v h)]
 rfl
theorem rd_snag {b:Bk}{i:Nat}{xl xh:Int}(v:Zeo b)(hi:i<b.pts.length):ZfR b i xl xh=1∨ZfR b i xl xh=9∨(ZfR b i xl xh=0∧max (ptAt b i).ml xl<=min (ptAt b i).mh xh∧0<nB (rdBk b i (max (ptAt b i).ml xl) (min (ptAt b i).mh xh))):=by
 rw[ZfR,if_neg (by simp[Wai v]),if_neg (by omega)]
 split
 ·exact .inl rfl
 ·rw[Int.toNat_natCast]
  split
  ·exact .inr (.inl rfl)
  ·rename_i h
   rw[ag_eq (WaP v hi (by omega) (by omega) (by omega))]
   split
   ·rename_i h2
    exact .inr (.inr ⟨rfl,by omega,h2⟩)
   ·exact .inr (.inl rfl)
section
variable  {P:Prg}[Tz P][Loud P]{H:Hp}
set_option maxHeartbeats 16000000
set_option maxRecDepth 40000
theorem WaE (hPP:P=PP){bv:Value}{b:Bk}{c:SCk}{m2 xl xh m4 m5:Int}(hb:BkAt H bv b)(hm2:0<=m2∧m2<256)(hm4:0<=m4∧m4<256)(hm5:0<=m5∧m5<256)(hg:Za8 H) :
  n10.m P (MFin P r10 fun v _=>v=vb true) (env0 [bv,.agg #[vi c.p,vi c.gl,vi c.gh],.int .u8 m2,.agg #[vi xl,vi xh],.int .u8 m4,.int .u8 m5]) H:=by
 have hs:∀ g,P.still g=false:=Loud.loud
 have hb0:=hb
 obtain⟨pv,cv,rfl,hp,hc⟩:=hb
 obtain⟨Ap,cp,rfl,hp'⟩:=id hp
 obtain⟨Ac,cc,rfl,hc'⟩:=id hc
 unfold n10
 refine wkT ?_
 refine Zab (vs:=[.agg #[vi b.op,vi b.sl,.slice Ap b.pts.length cp,.slice Ac b.cks.length cc]]) rfl (Fit_ok hb0) ?_
 rintro v _ ⟨rfl,rfl⟩
 refine wkT ?_
 refine wiT (fun h0=>?_) (fun h0=>?_)
 ·refine wkT ?_
  refine Zab (vs:=[]) rfl (spiled_okP hPP hg) ?_
  rintro v H1 ⟨_,rfl⟩
  refine wkT ?_
  rfl
 have val:=WbN h0
 have hn:=val.n
 have hsl:=val.sl
 have hck:=val.ckn
 refine wkT ?_
 refine Zab (vs:=[.agg #[vi b.op,vi b.sl,.slice Ap b.pts.length cp,.slice Ac b.cks.length cc],.agg #[vi c.p,vi c.gl,vi c.gh]]) rfl (Check_ok (c:=c) hb0 hg (by omega) (by omega)) ?_
 rintro v H1 ⟨i1,hbk⟩
 obtain⟨Bp,np,dp,Bc,nc,dc,x1,x2,rfl,hbq⟩:=WaX hbk
 clear hbk
 refine wbT ?_
 refine ZbZ (ι:=Hp×Value×Value×Value×Value) (fun i H'=>i.1=H'∧Inc H i.1) (fun _=>[(2,.int .u8 m2),(4,.int .u8 m4),(5,.int .u8 m5),(6,vi 0),(9,vi 0),(13,vi 0)]) (fun i=>[(6,[vi b.op,vi b.sl,.slice Ap b.pts.length cp,.slice Ac b.cks.length cc]),(9,[vi xl,vi xh]),(13,[i.2.1,i.2.2.1,i.2.2.2.1,i.2.2.2.2])]) ?_ ?_
 ·refine wkT ?_
  refine wiT (fun h1=>?_) (fun h1=>?_)
  ·obtain⟨vc,pc⟩:=ck_zero h1
   rw[if_pos h1]at hbq
   refine wkT ?_
   refine Zab (vs:=[.agg #[vi b.op,vi b.sl,.slice Ap b.pts.length cp,.slice Ac b.cks.length cc],.agg #[vi c.p,vi c.gl,vi c.gh]]) rfl (Zhl (c:=c) (hb0.inc i1) (by omega)) ?_
   rintro u H2 ⟨i2,hb2⟩
   have hcl:=vc.ckn
   have hcn:=vc.n
   refine kp_l hs ?_
   refine wkT ?_
   refine Zab (vs:=[.agg #[vi x1,vi x2,.slice Bp np dp,.slice Bc nc dc],u]) rfl (Waa (hbq.inc i2) hb2 (by omega) (by omega) rfl) ?_
   rintro v _ ⟨rfl,rfl⟩
   refine wkT ?_
   refine Zab (vs:=[.agg #[vi x1,vi x2,.slice Bp np dp,.slice Bc nc dc]]) rfl (Zic (hbq.inc i2) (by omega) (by omega)) ?_
   rintro v _ ⟨rfl,rfl⟩
   rw[Wai vc]
   refine wkT ?_
   refine Zab (vs:=[.agg #[vi b.op,vi b.sl,.slice Ap b.pts.length cp,.slice Ac b.cks.length cc],.agg #[vi x1,vi x2,.slice Bp np dp,.slice Bc nc dc],.int .u8 m5]) rfl (Waz val vc (learn_ck val vc) pc (hb0.inc (i1.trans i2)) (hbq.inc i2) (CellsAt.inc hg (i1.trans i2)) hm5) ?_
   rintro v H3 ⟨i3,rfl⟩
   refine wkT ?_
   refine wiT (fun h2=>?_) (fun h2=>?_)
   ·exact absurd h2 (by simp[h1])
   refine wkT ?_
   exact⟨(H3,_,_,_,_),⟨rfl,(i1.trans i2).trans i3⟩,⟨rfl,rfl,rfl,rfl,rfl,rfl,trivial⟩,⟨rfl,rfl,rfl,trivial⟩,rfl⟩
  ·rw[if_neg h1]at hbq
   refine wkT ?_
   refine wiT (fun h2=>?_) (fun h2=>?_)
   ·refine wkT ?_
    refine Zab (vs:=[.agg #[vi x1,vi x2,.slice Bp np dp,.slice Bc nc dc],bookV0]) rfl (Waa hbq (bk0_at _) (by show (0:Nat)<=_;omega) (by show (0:Nat)<=_;omega) rfl) ?_
    rintro v _ ⟨rfl,rfl⟩
    refine wkT ?_
    exact⟨(H1,_,_,_,_),⟨rfl,i1⟩,⟨rfl,rfl,rfl,rfl,rfl,rfl,trivial⟩,⟨rfl,rfl,rfl,trivial⟩,rfl⟩
   ·exact absurd h2 (by simp[h1])
 rintro⟨G,y1,y2,y3,y4⟩ _ ⟨rfl,iG⟩
 simp only at iG ⊢
 clear hbq i1
 have hbG:=hb0.inc iG
 have hgG:=CellsAt.inc hg iG
 refine wkT ?_
 refine Zb3 (und Tryz.underlying5) (und Tryz.underlying3) rfl ?_
 rw[ZbO (show InR m4 from ⟨by omega,by omega⟩)]
 refine wkT ?_
 refine WbI rfl rfl (by omega) ?_
 have hk:=WbC (m:=b.sl+1) hm4.1 (by omega)
 generalize m4.tmod (b.sl+1)=k at *
 have vk:=WaQ (k:=k) val ⟨by omega,by omega⟩
 have lk:=learn_fm (k:=k) val ⟨by omega,by omega⟩
 refine wkT ?_
 refine Zab (vs:=[.agg #[vi b.op,vi b.sl,.slice Ap b.pts.length cp,.slice Ac b.cks.length cc],vi k]) rfl (Firm_ok (n:=k) hbG hgG (by omega) (by omega)) ?_
 rintro v H2 ⟨i2,hbk⟩
 rw[fm_oSk val ⟨by omega,by omega⟩]at hbk
 obtain⟨Bp2,np2,dp2,Bc2,nc2,dc2,x12,x22,rfl,hbq⟩:=WaX hbk
 clear hbk
 refine wbT ?_
 refine ZbZ (ι:=Hp×Value×Value×Value×Value) (fun i H'=>i.1=H'∧Inc G i.1) (fun _=>[(2,.int .u8 m2),(5,.int .u8 m5),(6,vi 0),(9,vi 0),(13,vi 0)]) (fun i=>[(6,[vi b.op,vi b.sl,.slice Ap b.pts.length cp,.slice Ac b.cks.length cc]),(9,[vi xl,vi xh]),(13,[i.2.1,i.2.2.1,i.2.2.2.1,i.2.2.2.2])]) ?_ ?_
 ·refine wkT ?_
  refine wiT (fun h1=>?_) (fun h1=>?_)
  ·have pk:=oS_iff.1 h1
   rw[if_pos h1]at hbq
   refine wkT ?_
   refine Zab (vs:=[.agg #[vi b.op,vi b.sl,.slice Ap b.pts.length cp,.slice Ac b.cks.length cc],vi k]) rfl (Wbj ((hp.inc iG).inc i2) ((hc.inc iG).inc i2)) ?_
   rintro v _ ⟨rfl,rfl⟩
   have hF:BkAt H2 (.agg #[vi b.op,vi k,.slice Ap b.pts.length cp,.slice Ac b.cks.length cc]) (fmBk b k):=⟨_,_,rfl,(hp.inc iG).inc i2,(hc.inc iG).inc i2⟩
   refine wkT ?_
   refine Zab (vs:=[.agg #[vi x12,vi x22,.slice Bp2 np2 dp2,.slice Bc2 nc2 dc2],.agg #[vi b.op,vi k,.slice Ap b.pts.length cp,.slice Ac b.cks.length cc]]) rfl (Waa hbq hF (by show b.pts.length<=_;omega) (by show b.cks.length<=_;omega) rfl) ?_
   rintro v _ ⟨rfl,rfl⟩
   refine wkT ?_
   refine Zab (vs:=[.agg #[vi b.op,vi b.sl,.slice Ap b.pts.length cp,.slice Ac b.cks.length cc],.agg #[vi x12,vi x22,.slice Bp2 np2 dp2,.slice Bc2 nc2 dc2],.int .u8 m5]) rfl (Waz val vk lk pk (hbG.inc i2) hbq (CellsAt.inc hgG i2) hm5) ?_
   rintro v H3 ⟨i3,rfl⟩
   refine wkT ?_
   refine wiT (fun h2=>?_) (fun h2=>?_)
   ·exact absurd h2 (by simp[h1])
   refine wkT ?_
   exact⟨(H3,_,_,_,_),⟨rfl,i2.trans i3⟩,⟨rfl,rfl,rfl,rfl,rfl,trivial⟩,⟨rfl,rfl,rfl,trivial⟩,rfl⟩
  ·rw[if_neg h1]at hbq
   have h9:oS (fmBk b k)=9:=WaT fun e=>h1 (Waf e)
   rw[h9]
   refine wkT ?_
   refine Zab (vs:=[.agg #[vi x12,vi x22,.slice Bp2 np2 dp2,.slice Bc2 nc2 dc2],bookV0]) rfl (Waa hbq (bk0_at _) (by show (0:Nat)<=_;omega) (by show (0:Nat)<=_;omega) rfl) ?_
   rintro v _ ⟨rfl,rfl⟩
   refine wkT ?_
   exact⟨(H2,_,_,_,_),⟨rfl,i2⟩,⟨rfl,rfl,rfl,rfl,rfl,trivial⟩,⟨rfl,rfl,rfl,trivial⟩,rfl⟩
 rintro⟨G2,y12,y22,y32,y42⟩ _ ⟨rfl,iG2⟩
 simp only at iG2 ⊢
 clear hbq i2
 have hbG2:=hbG.inc iG2
 have hgG2:=CellsAt.inc hgG iG2
 have iGG:=iG.trans iG2
 refine wkT ?_
 refine Zb3 (und Tryz.underlying5) (und Tryz.underlying3) rfl ?_
 rw[ZbO (show InR m2 from ⟨by omega,by omega⟩)]
 refine wkT ?_
 refine WbI rfl rfl (by omega) ?_
 obtain⟨i,hi,ei⟩:=Wbl (n:=b.pts.length) hm2.1 (by omega)
 rw[ei]
 refine wkT ?_
 refine Zab (vs:=[.agg #[vi b.op,vi b.sl,.slice Ap b.pts.length cp,.slice Ac b.cks.length cc],vi i,.agg #[vi xl,vi xh]]) rfl (Read_ok (n:=i) (xl:=xl) (xh:=xh) hbG2 hgG2 (by omega) (by omega)) ?_
 rintro v H3 ⟨i3,hbk⟩
 rw[Int.toNat_natCast]at hbk
 obtain⟨Bp3,np3,dp3,Bc3,nc3,dc3,x13,x23,rfl,hbq⟩:=WaX hbk
 clear hbk
 have hg3:=CellsAt.inc hgG2 i3
 rcases rd_snag (xl:=xl) (xh:=xh) val hi with h1 | h1 | ⟨h1,hle,hpos⟩
 ·exact WbG
 ·exact WbG
 ·rw[h1,if_pos rfl]at hbq
  rw[h1]
  have vR:=WaP val hi (xl:=max (ptAt b i).ml xl) (xh:=min (ptAt b i).mh xh) (by omega) hle (by omega)
  have lR:=learn_rd val hi (xl:=max (ptAt b i).ml xl) (xh:=min (ptAt b i).mh xh) (by omega) hle (by omega)
  have row:Enc.enc b.pts[i]=[vi (ptAt b i).ml,vi (ptAt b i).mh,vi (ptAt b i).bl,vi (ptAt b i).bh,vi (ptAt b i).w]:=by
   rw[show b.pts[i]=ptAt b i from (Zbd hi _).symm];rfl
  have hRn:=vR.n
  have hRc:=vR.ckn
  refine wkT ?_
  refine ZaE ((hp.inc iGG).inc i3) rfl rfl rfl (i:=i) hi fun a ha=>?_
  rw[row]at ha
  refine wkT ?_
  refine Zao (cs:=[vi (ptAt b i).ml,vi (ptAt b i).mh]) (hs _) rfl (by rw[add_zero];exact ZbK (ds:=[vi (ptAt b i).bl,vi (ptAt b i).bh,vi (ptAt b i).w]) ha) rfl ?_
  refine wkT ?_
  refine Zab (vs:=[.agg #[vi (ptAt b i).ml,vi (ptAt b i).mh],.agg #[vi xl,vi xh]]) rfl (Meet_ok _ _ _ _) ?_
  rintro v _ ⟨rfl,rfl⟩
  refine wkT ?_
  refine Zab (vs:=[.agg #[vi b.op,vi b.sl,.slice Ap b.pts.length cp,.slice Ac b.cks.length cc],vi i,.agg #[vi (max (ptAt b i).ml xl),vi (min (ptAt b i).mh xh)]]) rfl (WbQ val hi (hbG2.inc i3)) ?_
  rintro u H4 ⟨i4,hb4⟩
  refine kp_l hs ?_
  refine wkT ?_
  refine Zab (vs:=[.agg #[vi x13,vi x23,.slice Bp3 np3 dp3,.slice Bc3 nc3 dc3],u]) rfl (Waa (hbq.inc i4) hb4 (by omega) (by omega) rfl) ?_
  rintro v _ ⟨rfl,rfl⟩
  refine wkT ?_
  refine Zab (vs:=[.agg #[vi x13,vi x23,.slice Bp3 np3 dp3,.slice Bc3 nc3 dc3]]) rfl (Zic (hbq.inc i4) (by omega) (by omega)) ?_
  rintro v _ ⟨rfl,rfl⟩
  rw[Wai vR]
  refine wkT ?_
  refine Zab (vs:=[.agg #[vi b.op,vi b.sl,.slice Ap b.pts.length cp,.slice Ac b.cks.length cc],.agg #[vi x13,vi x23,.slice Bp3 np3 dp3,.slice Bc3 nc3 dc3],.int .u8 m5]) rfl (Waz val vR lR hpos (hbG2.inc (i3.trans i4)) (hbq.inc i4) (CellsAt.inc hg3 i4) hm5) ?_
  rintro v H5 ⟨i5,rfl⟩
  refine wkT ?_
  refine Zab (vs:=[]) rfl (spiled_okP hPP (CellsAt.inc hg3 (i4.trans i5))) ?_
  rintro v H6 ⟨_,rfl⟩
  refine wkT ?_
  rfl
end
end Go.Proofs
end
section
open Go Go.LL Go.Conc Go.ConcM
namespace Go.Proofs.YtamdhefhhdgjbaaGreatDoor
open Go.ChangeShapes Go.WideShapes Go.ChangeAt Go.RowKit
set_option maxRecDepth 100000 in
theorem Wak (os:Os)(started:os.Started)(H:Type)(enc:TypeId×Value->H)(F:Stop.Interp) :
  ReturnsInLeavingWide { calm:=true } Tryz.checked os 10 .any (fun w args=>(Rows.spileLearntSpec.pre enc Tryz.prog Tryz.f10 [] false w args∧laidMetH Tryz.prog [("ribband/spile.checks",Rows.laid_ribband_spile_checks)] w)∧sizedMet enc Tryz.prog Tryz.f10 (OpenSpec.ofChange Rows.spileLearntSpec) false w args)
   ((OpenSpec.ofChange Rows.spileLearntSpec).postWith enc Tryz.prog Tryz.f10 F (outsideKept [.timePasses]) false true false):=by
 refine law_lifted os started F rfl Tryz.func10 Tryz.results10 (by kernel_rfl) (by kernel_rfl) ?_ ?_ ?_ #[.agg #[.int .i64 0,.int .i64 0,.slice none 0 0,.slice none 0 0],.agg #[.int .i64 0,.int .i64 0,.int .i64 0],.int .u8 0,.agg #[.int .i64 0,.int .i64 0],.int .u8 0,.int .u8 0] (by kernel_rfl) (by kernel_rfl) (by kernel_rfl)
 ·intro ds hl
  rw[Tryz.params10]at hl
  match ds,hl with
  | [d0,d1,d2,d3,d4,d5],_=>rfl
 ·have h:(Tryz.f10.params.toList.all fun t=>Tryz.prog.readableRec t && decide (t<Tryz.prog.types.size))=true:=by kernel_rfl
  intro t ht
  simpa using List.all_eq_true.1 h t ht
 ·intro W base args ds p hval hA hg
  rw[Tryz.params10]at hA hval
  obtain⟨v0,w0,d0,e0,p0,q0,ha,rfl,rfl,h0,r0⟩:=trodAll_cons hA
  obtain⟨v1,w1,d1,e1,p1,q1,rfl,rfl,rfl,h1,r1⟩:=trodAll_cons r0
  obtain⟨v2,w2,d2,e2,p2,q2,rfl,rfl,rfl,h2,r2⟩:=trodAll_cons r1
  obtain⟨v3,w3,d3,e3,p3,q3,rfl,rfl,rfl,h3,r3⟩:=trodAll_cons r2
  obtain⟨v4,w4,d4,e4,p4,q4,rfl,rfl,rfl,h4,r4⟩:=trodAll_cons r3
  obtain⟨v5,w5,d5,e5,p5,q5,rfl,rfl,rfl,h5,r5⟩:=trodAll_cons r4
  obtain⟨rfl,rfl,rfl⟩:=trodAll_nil r5
  obtain rfl:args=#[v0,v1,v2,v3,v4,v5]:=by cases args;simp_all
  obtain⟨b0,k0⟩:=bk_open (hval 0 25 v0 rfl rfl) h0
  obtain⟨c1,rfl⟩:=Wbz (hval 1 51 v1 rfl rfl) h1
  obtain⟨n2,rfl,k2a,k2b⟩:=Wbc (hval 2 5 v2 rfl rfl) h2
  obtain⟨xa3,xb3,rfl⟩:=WbE (hval 3 49 v3 rfl rfl) h3
  obtain⟨n4,rfl,k4a,k4b⟩:=Wbc (hval 4 5 v4 rfl rfl) h4
  obtain⟨n5,rfl,k5a,k5b⟩:=Wbc (hval 5 5 v5 rfl rfl) h5
  exact reach_top (args:=[v0,.agg #[vi c1.p,vi c1.gl,vi c1.gh],.int .u8 n2,.agg #[vi xa3,vi xb3],.int .u8 n4,.int .u8 n5]) (isn c10) Tryz.func10 Tryz.results10 rfl (WaE rfl k0 ⟨k2a,k2b⟩ ⟨k4a,k4b⟩ ⟨k5a,k5b⟩ hg)
theorem spileLearnt_holds:Rows.SpileLearntSaid:=
 OpenClaim.holds_of_wide_leaving_time 10 Tryz.f10 rfl rfl rfl rfl rfl rfl rfl ⟨rfl,rfl,rfl,rfl,rfl⟩ rfl rfl rfl rfl rfl WaD Tryz.func10 WaC WaB WaA
  (fun os started H enc _ F=>Wak os started H enc F)
theorem spileLearnt_card:Rows.SpileLearntCardSaid:=
 ZmC .later [.funcs] true (true,"7d20c1c653d3570dc0b3adced23199ecfee38ebbf859018ae9f3ecca83f03cb8") false
  spileLearnt_holds (by kernel_rfl) spileLearnt_row_tie rfl ⟨rfl,rfl⟩ (by kernel_rfl) rfl
  (fun f fn hf hfn=>by
   obtain rfl:f=10:=Option.some.inj (WaD.symm.trans hf) |>.symm
   obtain rfl:fn=Tryz.f10:=(Option.some.inj (Tryz.func10.symm.trans hfn)).symm
   exact⟨by kernel_rfl,fun j t ht=>by
    have hall:(Tryz.f10.params.all fun u=>!Tryz.prog.wantsStandIn u)=true:=by kernel_rfl
    have hm:=Array.mem_of_getElem? ht
    exact(show Tryz.prog.wantsStandIn t=false by simpa using (Array.all_eq_true_iff_forall_mem.1 hall) t hm)⟩)
  (by kernel_rfl)
end Go.Proofs.YtamdhefhhdgjbaaGreatDoor
end
