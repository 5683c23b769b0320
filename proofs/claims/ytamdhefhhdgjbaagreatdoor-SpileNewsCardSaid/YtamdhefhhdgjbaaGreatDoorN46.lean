import Derived.Test.YtamdhefhhdgjbaaGreatDoorN45
import Derived.Conc.HoldsTime
import Derived.Test.YtamdhefhhdgjbaaGreatDoorTie
import Derived.Test.YtamdhefhhdgjbaaGreatDoorCards
import Derived.ProofKit
import Derived.LaidMore
import Derived.Carry
import Derived.Stop.Joined
set_option linter.all false
section
open Go Go.LL
namespace Go.Proofs
theorem exG1 {H H':Hp}{v:Value}(h:Inc H H'∧∃ w bb,v=.tuple #[w,vi (Zag exB (decide (0<=(1:Int)∧(1:Int)<exB.pts.length)))]∧Own H H' 3 w (if Zag exB (decide (0<=(1:Int)∧(1:Int)<exB.pts.length))=0 then gapL exB (1:Int).toNat else []) bb):Inc H H'∧∃ w,v=.tuple #[w,vi 0]∧SlAt H' w ([4,5,6]:List Int):=by
 obtain⟨h1,w,bb,e,hw⟩:=h
 have e6:Zag exB (decide (0<=(1:Int)∧(1:Int)<exB.pts.length))=0:=by kernel_rfl
 rw[e6]at e
 rw[if_pos e6,show gapL exB (1:Int).toNat=[4,5,6] from ex9]at hw
 exact⟨h1,w,e,hw.sl⟩
theorem exG2 {H H':Hp}{v:Value}(h:Inc H H'∧∃ w bb,v=.tuple #[w,vi (Zag exB (decide (0<=(2:Int)∧(2:Int)<exB.pts.length)))]∧Own H H' 3 w (if Zag exB (decide (0<=(2:Int)∧(2:Int)<exB.pts.length))=0 then gapL exB (2:Int).toNat else []) bb):Inc H H'∧∃ w,v=.tuple #[w,vi 0]∧SlAt H' w ([6,7]:List Int):=by
 obtain⟨h1,w,bb,e,hw⟩:=h
 have e6:Zag exB (decide (0<=(2:Int)∧(2:Int)<exB.pts.length))=0:=by kernel_rfl
 rw[e6]at e
 rw[if_pos e6,show gapL exB (2:Int).toNat=[6,7] from ex10]at hw
 exact⟨h1,w,e,hw.sl⟩
section
variable  {P:Prg}[Tz P][Loud P]{H:Hp}
theorem ZcW {u w:Value}{a:List Int}(ha:SlAt H u a)(hb:SlAt H w a)(hl:a.length<=1000000):LL.Zai P 86 #[u,w] H fun v H'=>H=H'∧v=vb true:=
 LL.Zai.mono (listR_ok ha hb hl hl) fun v H' h=>⟨h.1,h.2.trans (by rw[decide_eq_true rfl])⟩
set_option maxHeartbeats 8000000
set_option maxRecDepth 40000
theorem Zhr (hPP:P=PP)(hg:Zba H):LL.Zai P 18 #[] H fun v H'=>Inc H H'∧v=vb true:=by
 have hs:=Loud.loud (P:=P)
 refine IsN.m (isn c18) (args:=[]) rfl ?_
 unfold n18
 refine wkT ?_
 refine Zab (vs:=[]) rfl ZmS ?_
 rintro v H1 ⟨i0,r1,r2,rfl,hb1⟩
 have hg1:Zba H1:=CellsAt.inc hg i0
 have i1:Inc H1 H1:=.refl H1
 refine wkT ?_
 refine Zao (cs:=encs [(4:Int),6,4]) (hs _) rfl fun ra hra=>?_
 have j2:Inc H1 (H1.ins ra (.cells (encs [(4:Int),6,4]).toArray 3)):=Zah hra
 have sra:SlAt (H1.ins ra (.cells (encs [(4:Int),6,4]).toArray 3)) (.slice (some ⟨ra,0,none⟩) 3 3) [(4:Int),6,4]:=ZaT (l:=[(4:Int),6,4])
 generalize H1.ins ra (.cells (encs [(4:Int),6,4]).toArray 3)=H2 at *
 have i2:=i1.trans j2
 refine wkT ?_
 refine Zab (vs:=[.agg #[vi 10,vi 1,.slice (some ⟨r1,0,none⟩) 3 3,.slice (some ⟨r2,0,none⟩) 1 1],.slice (some ⟨ra,0,none⟩) 3 3,ZbS ⟨2,1⟩]) rfl (LL.Zai.mono (Gaps_ok (l:=[4,6,4]) (k:=⟨2,1⟩) (hb1.inc i2) sra (CellsAt.inc hg1 i2) (by decide) (by decide) (by decide)) fun v H' h=>show Inc H2 H'∧∃ w,v=.tuple #[w,vi 0]∧SlAt H' w ([6,4,7]:List Int) from ⟨h.1,by obtain⟨_,w,e,hw⟩:=h;rw[ex2]at e;rw[gapsL,if_pos ex2,ex3]at hw;exact⟨w,e,hw⟩⟩) ?_
 rintro v H3 ⟨j3,w2,rfl,sl2⟩
 have i3:=i2.trans j3
 refine wkT ?_
 refine Zab (vs:=[.agg #[vi 10,vi 1,.slice (some ⟨r1,0,none⟩) 3 3,.slice (some ⟨r2,0,none⟩) 1 1]]) rfl (LL.Zai.mono (Zgf (hb1.inc i3) (CellsAt.inc hg1 i3) (by decide) (by decide)) fun v H' h=>show Inc H3 H'∧v=.tuple #[vi 6,vi 0] from ⟨h.1,h.2.trans (exBt ex4 ex1)⟩) ?_
 rintro v H4 ⟨j4,rfl⟩
 have i4:=i3.trans j4
 refine wkT ?_
 refine Zab (vs:=[.agg #[vi 10,vi 1,.slice (some ⟨r1,0,none⟩) 3 3,.slice (some ⟨r2,0,none⟩) 1 1]]) rfl (LL.Zai.mono (Zh2 (hb1.inc i4) (CellsAt.inc hg1 i4) (by decide) (by decide)) fun v H' h=>show Inc H4 H'∧v=.tuple #[vi 0,vi 0] from ⟨h.1,h.2.trans exSl⟩) ?_
 rintro v H5 ⟨j5,rfl⟩
 have i5:=i4.trans j5
 refine wkT ?_
 refine Zab (vs:=[.agg #[vi 10,vi 1,.slice (some ⟨r1,0,none⟩) 3 3,.slice (some ⟨r2,0,none⟩) 1 1]]) rfl (LL.Zai.mono (When_ok (hb1.inc i5) (CellsAt.inc hg1 i5) (by decide) (by decide)) fun v H' h=>show Inc H5 H'∧∃ w,v=.tuple #[w,vi 0]∧SlAt H' w ([1,2]:List Int) from ⟨h.1,by obtain⟨_,w,bb,e,hw⟩:=h;rw[ex6]at e;rw[if_pos ex6,ex7]at hw;exact⟨w,e,hw.sl⟩⟩) ?_
 rintro v H6 ⟨j6,w8,rfl,sl8⟩
 have i6:=i5.trans j6
 refine wkT ?_
 refine Zab (vs:=[.agg #[vi 10,vi 1,.slice (some ⟨r1,0,none⟩) 3 3,.slice (some ⟨r2,0,none⟩) 1 1]]) rfl (LL.Zai.mono (ZlS (hb1.inc i6) (CellsAt.inc hg1 i6) (by decide) (by decide)) fun v H' h=>show Inc H6 H'∧∃ w,v=.tuple #[w,vi 0]∧SlAt H' w [(⟨1,1⟩:Slip),⟨2,1⟩] from ⟨h.1,by obtain⟨_,⟨h0,_⟩ | ⟨_,w,bb,e,hw⟩⟩:=h;exact absurd ex6 h0;rw[ex8]at hw;exact⟨w,e,hw.sl⟩⟩) ?_
 rintro v H7 ⟨j7,w10,rfl,sl10⟩
 have i7:=i6.trans j7
 refine wkT ?_
 refine Zab (vs:=[.agg #[vi 10,vi 1,.slice (some ⟨r1,0,none⟩) 3 3,.slice (some ⟨r2,0,none⟩) 1 1],vi 1]) rfl (LL.Zai.mono (Gap_ok (n:=1) (hb1.inc i7) (CellsAt.inc hg1 i7) (by decide) (by decide)) fun v H' h=>show Inc H7 H'∧∃ w,v=.tuple #[w,vi 0]∧SlAt H' w ([4,5,6]:List Int) from exG1 h) ?_
 rintro v H8 ⟨j8,w12,rfl,sl12⟩
 have i8:=i7.trans j8
 refine wkT ?_
 refine Zab (vs:=[.agg #[vi 10,vi 1,.slice (some ⟨r1,0,none⟩) 3 3,.slice (some ⟨r2,0,none⟩) 1 1],vi 2]) rfl (LL.Zai.mono (Gap_ok (n:=2) (hb1.inc i8) (CellsAt.inc hg1 i8) (by decide) (by decide)) fun v H' h=>show Inc H8 H'∧∃ w,v=.tuple #[w,vi 0]∧SlAt H' w ([6,7]:List Int) from exG2 h) ?_
 rintro v H9 ⟨j9,w14,rfl,sl14⟩
 have i9:=i8.trans j9
 refine wkT ?_
 refine Zao (cs:=encs [(6:Int),5,6]) (hs _) rfl fun rb hrb=>?_
 have j10:Inc H9 (H9.ins rb (.cells (encs [(6:Int),5,6]).toArray 3)):=Zah hrb
 have srb:SlAt (H9.ins rb (.cells (encs [(6:Int),5,6]).toArray 3)) (.slice (some ⟨rb,0,none⟩) 3 3) [(6:Int),5,6]:=ZaT (l:=[(6:Int),5,6])
 generalize H9.ins rb (.cells (encs [(6:Int),5,6]).toArray 3)=H10 at *
 have i10:=i9.trans j10
 refine wkT ?_
 refine Zab (vs:=[.agg #[vi 10,vi 1,.slice (some ⟨r1,0,none⟩) 3 3,.slice (some ⟨r2,0,none⟩) 1 1],.slice (some ⟨rb,0,none⟩) 3 3]) rfl (LL.Zai.mono (ZoZ (l:=[6,5,6]) (hb1.inc i10) srb (CellsAt.inc hg1 i10) (by decide) (by decide) (by decide)) fun v H' h=>show Inc H10 H'∧v=.tuple #[.agg #[vi (-4),vi 0],vb true,vi 0] from ⟨h.1,h.2.trans ex11⟩) ?_
 rintro v H11 ⟨j11,rfl⟩
 have i11:=i10.trans j11
 refine wkT ?_
 refine Zab (vs:=[.agg #[vi 10,vi 1,.slice (some ⟨r1,0,none⟩) 3 3,.slice (some ⟨r2,0,none⟩) 1 1]]) rfl (LL.Zai.mono (Room_ok (hb1.inc i11) (CellsAt.inc hg1 i11) (by decide) (by decide)) fun v H' h=>show Inc H11 H'∧v=.tuple #[vi 2,vi 6,vi 0] from ⟨h.1,h.2.trans ex12⟩) ?_
 rintro v H12 ⟨j12,rfl⟩
 have i12:=i11.trans j12
 refine wkT ?_
 refine Zab (vs:=[.agg #[vi 10,vi 1,.slice (some ⟨r1,0,none⟩) 3 3,.slice (some ⟨r2,0,none⟩) 1 1]]) rfl (LL.Zai.mono (Had_ok (hb1.inc i12) (CellsAt.inc hg1 i12) (by decide) (by decide)) fun v H' h=>show Inc H12 H'∧v=.tuple #[vi 1,vi 0] from ⟨h.1,h.2.trans exHad⟩) ?_
 rintro v H13 ⟨j13,rfl⟩
 have i13:=i12.trans j13
 refine wkT ?_
 refine Zab (vs:=[.agg #[vi 10,vi 1,.slice (some ⟨r1,0,none⟩) 3 3,.slice (some ⟨r2,0,none⟩) 1 1]]) rfl (LL.Zai.mono (ZoW (hb1.inc i13) (CellsAt.inc hg1 i13) (by decide) (by decide)) fun v H' h=>show Inc H13 H'∧v=.tuple #[vi (-3),vb true,vi 0] from ⟨h.1,h.2.trans ex14⟩) ?_
 rintro v H14 ⟨j14,rfl⟩
 have i14:=i13.trans j14
 refine wkT ?_
 refine Zab (vs:=[.agg #[vi 10,vi 1,.slice (some ⟨r1,0,none⟩) 3 3,.slice (some ⟨r2,0,none⟩) 1 1]]) rfl (LL.Zai.mono (Most_okP hPP (hb1.inc i14) (CellsAt.inc hg1 i14) (by decide) (by decide)) fun v H' h=>show Inc H14 H'∧v=.tuple #[vi (-3),vi 6,vi 0] from ⟨h.1,h.2.trans exMost⟩) ?_
 rintro v H15 ⟨j15,rfl⟩
 have i15:=i14.trans j15
 refine wkT ?_
 refine Zab (vs:=[.agg #[vi 10,vi 1,.slice (some ⟨r1,0,none⟩) 3 3,.slice (some ⟨r2,0,none⟩) 1 1]]) rfl (LL.Zai.mono (Ask_ok (hb1.inc i15) (CellsAt.inc hg1 i15) (by decide) (by decide)) fun v H' h=>show Inc H15 H'∧v=.tuple #[vi 1,vi 3,vi 0] from ⟨h.1,h.2.trans exAsk⟩) ?_
 rintro v H16 ⟨j16,rfl⟩
 have i16:=i15.trans j16
 refine wkT ?_
 refine Zab (vs:=[vi 6]) rfl (Ze9 6) ?_
 rintro v _ ⟨rfl,rfl⟩
 refine kp_l hs ?_
 refine wkT ?_
 refine Zab (vs:=[.agg #[vi 10,vi 1,.slice (some ⟨r1,0,none⟩) 3 3,.slice (some ⟨r2,0,none⟩) 1 1],.agg #[vi 2,vi 6,vi 6]]) rfl (LL.Zai.mono (ZlV (c:=⟨2,6,6⟩) (hb1.inc i16) (CellsAt.inc hg1 i16) (by decide) (by decide)) fun v H' h=>show Inc H16 H'∧∃ pa pc ca cc,v=.tuple #[.agg #[vi 10,vi 1,.slice pa 3 pc,.slice ca 2 cc],vi 0]∧BkAt H' (.agg #[vi 10,vi 1,.slice pa 3 pc,.slice ca 2 cc]) (ckBk exB ⟨2,6,6⟩) from ⟨h.1,bkS0 h.2 ex17⟩) ?_
 rintro v H17 ⟨j17,pa,pc,ca,cc,rfl,hbc⟩
 have i17:=i16.trans j17
 refine kp_l hs ?_
 refine wkT ?_
 refine Zab (vs:=[.agg #[vi 10,vi 1,.slice pa 3 pc,.slice ca 2 cc]]) rfl (LL.Zai.mono (Zgf hbc (CellsAt.inc hg1 i17) (by decide) (by decide)) fun v H' h=>show Inc H17 H'∧v=.tuple #[vi 2,vi 0] from ⟨h.1,h.2.trans (exBt ex18.1 ex18.2)⟩) ?_
 rintro v H18 ⟨j18,rfl⟩
 have i18:=i17.trans j18
 refine wkT ?_
 refine Zab (vs:=[.agg #[vi 10,vi 1,.slice pa 3 pc,.slice ca 2 cc]]) rfl (LL.Zai.mono (Zh2 (hbc.inc j18) (CellsAt.inc hg1 i18) (by decide) (by decide)) fun v H' h=>show Inc H18 H'∧v=.tuple #[vi 2,vi 0] from ⟨h.1,h.2.trans exSl2⟩) ?_
 rintro v H19 ⟨j19,rfl⟩
 have i19:=i18.trans j19
 refine wkT ?_
 refine Zab (vs:=[vi 6]) rfl (Ze9 6) ?_
 rintro v _ ⟨rfl,rfl⟩
 refine kp_l hs ?_
 refine wkT ?_
 refine Zab (vs:=[.agg #[vi 10,vi 1,.slice (some ⟨r1,0,none⟩) 3 3,.slice (some ⟨r2,0,none⟩) 1 1],vi 1,.agg #[vi 6,vi 6]]) rfl (LL.Zai.mono (Zo0 (n:=1) (xl:=6) (xh:=6) (hb1.inc i19) (CellsAt.inc hg1 i19) (by decide) (by decide)) fun v H' h=>show Inc H19 H'∧∃ pa pc ca cc,v=.tuple #[.agg #[vi 10,vi 1,.slice pa 3 pc,.slice ca 1 cc],vi 0]∧BkAt H' (.agg #[vi 10,vi 1,.slice pa 3 pc,.slice ca 1 cc]) (rdBk exB 1 6 6) from ⟨h.1,bkS0 h.2 ex20⟩) ?_
 rintro v H20 ⟨j20,pa2,pc2,ca2,cc2,rfl,hbd⟩
 have i20:=i19.trans j20
 refine kp_l hs ?_
 refine wkT ?_
 refine Zab (vs:=[.agg #[vi 10,vi 1,.slice pa2 3 pc2,.slice ca2 1 cc2]]) rfl (LL.Zai.mono (Zgf hbd (CellsAt.inc hg1 i20) (by decide) (by decide)) fun v H' h=>show Inc H20 H'∧v=.tuple #[vi 3,vi 0] from ⟨h.1,h.2.trans (exBt ex21.1 ex21.2)⟩) ?_
 rintro v H21 ⟨j21,rfl⟩
 have i21:=i20.trans j21
 refine wkT ?_
 refine Zab (vs:=[.agg #[vi 10,vi 1,.slice (some ⟨r1,0,none⟩) 3 3,.slice (some ⟨r2,0,none⟩) 1 1],vi 0]) rfl (LL.Zai.mono (Zo4 (n:=0) (hb1.inc i21) (CellsAt.inc hg1 i21) (by decide) (by decide)) fun v H' h=>show Inc H21 H'∧∃ pa pc ca cc,v=.tuple #[.agg #[vi 10,vi 0,.slice pa 3 pc,.slice ca 1 cc],vi 0]∧BkAt H' (.agg #[vi 10,vi 0,.slice pa 3 pc,.slice ca 1 cc]) (fmBk exB 0) from ⟨h.1,bkS0 h.2 ex22⟩) ?_
 rintro v H22 ⟨j22,pa3,pc3,ca3,cc3,rfl,hbe⟩
 have i22:=i21.trans j22
 refine wkT ?_
 refine Zab (vs:=[.agg #[vi 10,vi 0,.slice pa3 3 pc3,.slice ca3 1 cc3]]) rfl (LL.Zai.mono (Zgf hbe (CellsAt.inc hg1 i22) (by decide) (by decide)) fun v H' h=>show Inc H22 H'∧v=.tuple #[vi 2,vi 0] from ⟨h.1,h.2.trans (exBt ex23.1 ex23.2)⟩) ?_
 rintro v H23 ⟨j23,rfl⟩
 have i23:=i22.trans j23
 refine wqT ?_
 have g2:=((((((((((((((((((((sl2.inc j4).inc j5).inc j6).inc j7).inc j8).inc j9).inc j10).inc j11).inc j12).inc j13).inc j14).inc j15).inc j16).inc j17).inc j18).inc j19).inc j20).inc j21).inc j22).inc j23)
 have g8:=(((((((((((((((((sl8.inc j7).inc j8).inc j9).inc j10).inc j11).inc j12).inc j13).inc j14).inc j15).inc j16).inc j17).inc j18).inc j19).inc j20).inc j21).inc j22).inc j23)
 have g10:=((((((((((((((((sl10.inc j8).inc j9).inc j10).inc j11).inc j12).inc j13).inc j14).inc j15).inc j16).inc j17).inc j18).inc j19).inc j20).inc j21).inc j22).inc j23)
 have g12:=(((((((((((((((sl12.inc j9).inc j10).inc j11).inc j12).inc j13).inc j14).inc j15).inc j16).inc j17).inc j18).inc j19).inc j20).inc j21).inc j22).inc j23)
 have g14:=((((((((((((((sl14.inc j10).inc j11).inc j12).inc j13).inc j14).inc j15).inc j16).inc j17).inc j18).inc j19).inc j20).inc j21).inc j22).inc j23)
 obtain⟨A2,c2,rfl,_⟩:=id g2
 obtain⟨A8,c8,rfl,_⟩:=id g8
 obtain⟨A10,c10,rfl,_⟩:=id g10
 obtain⟨A12,c12,rfl,_⟩:=id g12
 obtain⟨A14,c14,rfl,_⟩:=id g14
 refine Zcb (ι:=Option Addr×Nat) (fun s H'=>Inc H23 H'∧SlAt H' (.slice s.1 1 s.2) [(2:Int)]) (fun s=>[(0,vb false),(2,.slice A2 3 c2),(3,vi 0),(4,vi 6),(5,vi 0),(6,vi 0),(7,vi 0),(8,.slice A8 2 c8),(9,vi 0),(10,.slice A10 2 c10),(11,vi 0),(12,.slice A12 3 c12),(13,vi 0),(14,.slice A14 2 c14),(15,vi 0),(16,vi 0),(17,vb true),(18,vi 0),(19,vi 2),(20,vi 6),(21,vi 0),(22,vi 1),(23,vi 0),(24,vi (-3)),(25,vb true),(26,vi 0),(27,vi (-3)),(28,vi 6),(29,vi 0),(30,vi 1),(31,vi 3),(32,vi 0),(34,vi 0),(35,vi 2),(36,vi 0),(37,vi 2),(38,vi 0),(40,vi 0),(41,vi 3),(42,vi 0),(44,vi 0),(45,vi 2),(46,vi 0),(47,.slice s.1 1 s.2),(48,vi 0)]) (fun _=>[(16,[vi (-4),vi 0])]) ?_ ?_
 ·refine wkT ?_
  refine Zab (vs:=[vi 6]) rfl (Ze9 6) ?_
  rintro v _ ⟨rfl,rfl⟩
  refine kp_l hs ?_
  refine wkT ?_
  refine Zab (vs:=[.agg #[vi 10,vi 1,.slice (some ⟨r1,0,none⟩) 3 3,.slice (some ⟨r2,0,none⟩) 1 1],.agg #[vi 0,vi 6,vi 6]]) rfl (Zfw (c:=⟨0,6,6⟩) (hb1.inc i23) (by decide)) ?_
  rintro v K1 ⟨k1,hk1⟩
  obtain⟨_,_,rfl,⟨pa4,pc4,rfl,_⟩,⟨ca4,cc4,rfl,_⟩⟩:=id hk1
  refine wkT ?_
  refine Zab (vs:=[vi 5]) rfl (Ze9 5) ?_
  rintro v _ ⟨rfl,rfl⟩
  refine wkT ?_
  refine Zab (vs:=[_,.agg #[vi 0,vi 5,vi 5]]) rfl (Zfw (c:=⟨0,5,5⟩) hk1 (by decide)) ?_
  rintro v K2 ⟨k2,hk2⟩
  obtain⟨_,_,rfl,⟨pa5,pc5,rfl,_⟩,⟨ca5,cc5,rfl,_⟩⟩:=id hk2
  refine wkT ?_
  refine Zab (vs:=[_]) rfl (ZlU (b:=exC) hk2 (CellsAt.inc hg1 ((i23.trans k1).trans k2)) (by decide) (by decide)) ?_
  rintro v K3 ⟨k3,w,rfl,hw⟩
  rw[if_pos ⟨ex24.1,ex24.2.1⟩,ex24.2.2]at hw
  rw[ex24.1]
  obtain⟨A47,c47,rfl,_⟩:=id hw
  refine wkT ?_
  exact⟨(A47,c47),⟨(k1.trans k2).trans k3,hw⟩,⟨rfl,rfl,rfl,rfl,rfl,rfl,rfl,rfl,rfl,rfl,rfl,rfl,rfl,rfl,rfl,rfl,rfl,rfl,rfl,rfl,rfl,rfl,rfl,rfl,rfl,rfl,rfl,rfl,rfl,rfl,rfl,rfl,rfl,rfl,rfl,rfl,rfl,rfl,rfl,rfl,rfl,rfl,rfl,rfl,rfl,trivial⟩,⟨rfl,trivial⟩,rfl⟩
 rintro⟨A47,c47⟩ K ⟨kk,g47⟩
 have f2:=g2.inc kk
 have f8:=g8.inc kk
 have f10:=g10.inc kk
 have f12:=g12.inc kk
 have f14:=g14.inc kk
 have ik:=i23.trans kk
 refine wkT ?_
 refine Zao (cs:=encs [(6:Int),4,7]) (hs _) rfl fun q0 hq0=>?_
 have lK1:Inc K (K.ins q0 (.cells (encs [(6:Int),4,7]).toArray 3)):=Zah hq0
 have sq0:SlAt (K.ins q0 (.cells (encs [(6:Int),4,7]).toArray 3)) (.slice (some ⟨q0,0,none⟩) 3 3) [(6:Int),4,7]:=ZaT (l:=[(6:Int),4,7])
 generalize K.ins q0 (.cells (encs [(6:Int),4,7]).toArray 3)=K1 at *
 refine kp_l hs ?_
 refine wkT ?_
 refine Zab (vs:=[.slice A2 3 c2,.slice (some ⟨q0,0,none⟩) 3 3]) rfl (ZcW (f2.inc lK1) sq0 (by decide)) ?_
 rintro v _ ⟨rfl,rfl⟩
 refine wkT ?_
 refine Zao (cs:=encs [(1:Int),2]) (hs _) rfl fun q1 hq1=>?_
 have lK2:Inc K1 (K1.ins q1 (.cells (encs [(1:Int),2]).toArray 3)):=Zah hq1
 have sq1:SlAt (K1.ins q1 (.cells (encs [(1:Int),2]).toArray 3)) (.slice (some ⟨q1,0,none⟩) 2 2) [(1:Int),2]:=ZaT (l:=[(1:Int),2])
 generalize K1.ins q1 (.cells (encs [(1:Int),2]).toArray 3)=K2 at *
 refine kp_l hs ?_
 refine wkT ?_
 refine Zab (vs:=[.slice A8 2 c8,.slice (some ⟨q1,0,none⟩) 2 2]) rfl (ZcW ((f8.inc lK1).inc lK2) sq1 (by decide)) ?_
 rintro v _ ⟨rfl,rfl⟩
 refine wkT ?_
 refine Zao (cs:=encs [(⟨1,1⟩:Slip),⟨2,1⟩]) (hs _) rfl fun q2 hq2=>?_
 have lK3:Inc K2 (K2.ins q2 (.cells (encs [(⟨1,1⟩:Slip),⟨2,1⟩]).toArray 70)):=Zah hq2
 have sq2:SlAt (K2.ins q2 (.cells (encs [(⟨1,1⟩:Slip),⟨2,1⟩]).toArray 70)) (.slice (some ⟨q2,0,none⟩) 2 2) [(⟨1,1⟩:Slip),⟨2,1⟩]:=ZaT (l:=[(⟨1,1⟩:Slip),⟨2,1⟩])
 generalize K2.ins q2 (.cells (encs [(⟨1,1⟩:Slip),⟨2,1⟩]).toArray 70)=K3 at *
 refine kp_l hs ?_
 refine wkT ?_
 refine Zab (vs:=[.slice A10 2 c10,.slice (some ⟨q2,0,none⟩) 2 2]) rfl (Zkb (((f10.inc lK1).inc lK2).inc lK3) sq2 (by decide) (by decide)) ?_
 rintro v _ ⟨rfl,hv,_⟩
 obtain rfl:=hv rfl
 refine wkT ?_
 refine Zao (cs:=encs [(4:Int),5,6]) (hs _) rfl fun q3 hq3=>?_
 have lK4:Inc K3 (K3.ins q3 (.cells (encs [(4:Int),5,6]).toArray 3)):=Zah hq3
 have sq3:SlAt (K3.ins q3 (.cells (encs [(4:Int),5,6]).toArray 3)) (.slice (some ⟨q3,0,none⟩) 3 3) [(4:Int),5,6]:=ZaT (l:=[(4:Int),5,6])
 generalize K3.ins q3 (.cells (encs [(4:Int),5,6]).toArray 3)=K4 at *
 refine kp_l hs ?_
 refine wkT ?_
 refine Zab (vs:=[.slice A12 3 c12,.slice (some ⟨q3,0,none⟩) 3 3]) rfl (ZcW ((((f12.inc lK1).inc lK2).inc lK3).inc lK4) sq3 (by decide)) ?_
 rintro v _ ⟨rfl,rfl⟩
 refine wkT ?_
 refine Zao (cs:=encs [(6:Int),7]) (hs _) rfl fun q4 hq4=>?_
 have lK5:Inc K4 (K4.ins q4 (.cells (encs [(6:Int),7]).toArray 3)):=Zah hq4
 have sq4:SlAt (K4.ins q4 (.cells (encs [(6:Int),7]).toArray 3)) (.slice (some ⟨q4,0,none⟩) 2 2) [(6:Int),7]:=ZaT (l:=[(6:Int),7])
 generalize K4.ins q4 (.cells (encs [(6:Int),7]).toArray 3)=K5 at *
 refine kp_l hs ?_
 refine wkT ?_
 refine Zab (vs:=[.slice A14 2 c14,.slice (some ⟨q4,0,none⟩) 2 2]) rfl (ZcW (((((f14.inc lK1).inc lK2).inc lK3).inc lK4).inc lK5) sq4 (by decide)) ?_
 rintro v _ ⟨rfl,rfl⟩
 refine wkT ?_
 refine Zab (vs:=[vi (-4),vi 0]) rfl (Zkf (-4) 0) ?_
 rintro v _ ⟨rfl,rfl⟩
 refine wkT ?_
 refine Zjz (b:=decide ((-4:Int)=-4∧(0:Int)=0)) (xs:=#[vi (-4),vi 0]) (ys:=#[vi (-4),vi 0]) g49 (fun Q g H hq=>eqP (.inr s49) Q hq) rfl rfl ?_
 refine wkT ?_
 refine Zao (cs:=encs [(2:Int)]) (hs _) rfl fun q5 hq5=>?_
 have lK6:Inc K5 (K5.ins q5 (.cells (encs [(2:Int)]).toArray 3)):=Zah hq5
 have sq5:SlAt (K5.ins q5 (.cells (encs [(2:Int)]).toArray 3)) (.slice (some ⟨q5,0,none⟩) 1 1) [(2:Int)]:=ZaT (l:=[(2:Int)])
 generalize K5.ins q5 (.cells (encs [(2:Int)]).toArray 3)=K6 at *
 refine wkT ?_
 refine Zab (vs:=[.slice A47 1 c47,.slice (some ⟨q5,0,none⟩) 1 1]) rfl (ZcW ((((((g47.inc lK1).inc lK2).inc lK3).inc lK4).inc lK5).inc lK6) sq5 (by decide)) ?_
 rintro v _ ⟨rfl,rfl⟩
 refine wkT ?_
 exact⟨i0.trans ((((((ik.trans lK1).trans lK2).trans lK3).trans lK4).trans lK5).trans lK6),rfl⟩
end
end Go.Proofs
end
section
open Go Go.LL
namespace Go.Proofs
end Go.Proofs
end
section
open Go Go.LL
namespace Go.Proofs
theorem own_len {α:Type}[Enc α]{H0 H:Hp}{E:TypeId}{v:Value}{l:List α}{b:Option Nat}(h:Own H0 H E v l b):∃ A c,v=.slice A l.length c:=by
 obtain⟨A,c,h1,_⟩:=h.sl
 exact⟨A,c,h1⟩
section
variable  {P:Prg}[Tz P][Loud P]{H:Hp}
set_option maxHeartbeats 8000000
set_option maxRecDepth 40000
theorem Zg9 {u w:Value}{a:List Int}(ha:SlAt H u a)(hb:SlAt H w a)(hl:a.length<=1000000):LL.Zai P 25 #[u,w] H fun v H'=>H=H'∧v=vb true:=
 LL.Zai.mono (ZeV ha hb hl hl) fun v H' h=>⟨h.1,h.2.trans (by rw[decide_eq_true rfl])⟩
end
end Go.Proofs
end
section
open Go Go.LL
namespace Go.LL
theorem ZhA {P:Prg}{f0:FuncId}{G:Frame->List Frame->Hp->Prop}{cs:List Frame}{fn:Func}{Post:Value->Hp->Prop}(hcl:Zc3 G)
  (hG:∀ (fr:Frame) (H:Hp),fr.mode=.returning->fr.defers=[]->fr.fn=f0∧fr.kind=.normal->P.funcs[fr.fn]? = some fn->wpL P (results fn fr.tmps) (fun v _ H'=>Post v H') false H->Reach P G fr cs H) :
  ∀ (ds:List Deferred) (fr:Frame) (H:Hp),fr.mode=.returning->fr.defers=ds->fr.fn=f0∧fr.kind=.normal->P.funcs[fr.fn]? = some fn->Unw P fn fr.tmps Post ds H->Reach P G fr cs H:=by
 intro ds
 induction ds with
 | nil=>
  intro fr H hm hd hk hf h
  exact hG fr H hm hd hk hf h
 | cons d ds ih=>
  intro fr H hm hd hk hf h
  have back:∀ H',Unw P fn fr.tmps Post ds H'->Reach P G { fr with defers:=ds } cs H':=fun H' hu=>ih { fr with defers:=ds } H' hm rfl hk hf hu
  have hcol:(∃ r,d.target=.collected r)∨(Za0 d.target=true∧(wpL P (invoke d.target d.args) (fun n _ H'=>UnwN P (Unw P fn fr.tmps Post ds) n H') false H ∨
    (Vals P.toProgram (invoke d.target d.args)∧ShOp P (invoke d.target d.args) false false H fun _ H'=>Unw P fn fr.tmps Post ds H'))):=by
   simp only[Unw]at h
   split at h
   ·exact .inl ⟨_,‹_›⟩
   ·exact .inr h
  rcases hcol with ⟨r,hr⟩ | hcol
  ·simp only[Unw,hr]at h
   obtain⟨hst,h1,h2⟩:=h
   refine .sem (s:=Instr.takeDeferred r) (Q:=fun v _ H'=>v=[]∧H'=H.ins r (.deferred none)) ?_ ?_
   ·simp only[Instr.takeDeferred,Zaa,getObj,setObj]
    exact⟨_,_,⟨hst,h1⟩,rfl,rfl,_,⟨hst,h1⟩,rfl,rfl,rfl,rfl,rfl⟩
   ·rintro v H0 ⟨rfl,_⟩
    refine⟨{ fr with defers:=ds },cs,fun main w w' es e1=>⟨seen P fr.fn es,?_,.inr rfl⟩,fun H' e3=>?_⟩
    ·rw[Zb2 hm]
     obtain⟨tg,da⟩:=d
     simp only at hr
     subst hr
     unfold unwind
     rw[hd]
     simp only[e1,GStep.after,List.nil_append,Array.append_empty]
    ·rw[e3.2]
     exact back _ h2
  obtain⟨ht,h⟩:=hcol
  have hstep:∀ main w,stepG P main (gor fr cs) w=callDeferred P { fr with defers:=ds } cs none d w:=by
   intro main w
   rw[Zb2 hm]
   exact ZfT hd ht
  rcases h with h | ⟨hv,h⟩
  case inr=>
   refine h G fr (fun _=>{ fr with defers:=ds }) cs hcl ⟨fun main cs w w' v es e1=>?_,.inl hv,.inl hv,fun h=>by simp at h,fun h=>by simp at h⟩ fun v H' hu=>back _ hu
   rw[Zb2 hm,ZfT hd ht]
   exact(Zay ht e1).2 (.inl ⟨v,rfl⟩)
  refine .sem h ?_
  intro n H0 h0
  cases n with
  | enter f args=>
   refine⟨_,_,fun main w w' es e1=>⟨seen P fr.fn es,?_,.inr rfl⟩,fun H' e3=>e3 G _ cs hcl (show okD { fr with defers:=ds } by unfold okD;rw[hm];trivial) fun v H'' hv=>back _ hv⟩
   rw[hstep]
   exact(Zay ht e1).1 f args rfl
  | value v=>
   refine⟨{ fr with defers:=ds },cs,fun main w w' es e1=>⟨seen P fr.fn es,?_,.inr rfl⟩,fun H' e3=>back _ e3⟩
   rw[hstep]
   exact(Zay ht e1).2 (.inl ⟨v,rfl⟩)
  | skip=>
   refine⟨{ fr with defers:=ds },cs,fun main w w' es e1=>⟨seen P fr.fn es,?_,.inr rfl⟩,fun H' e3=>back _ e3⟩
   rw[hstep]
   exact(Zay ht e1).2 (.inr rfl)
  | _=>exact h0.elim
def TopG (P:Program)(f:FuncId)(fn:Func)(t:Nat)(v:Value)(fr:Frame)(cs:List Frame)(_:Hp):Prop:=
 cs=[]∧fr.mode=.returning∧fr.defers=[]∧(fr.fn=f∧fr.kind=.normal)∧P.funcs[fr.fn]? = some fn∧fn.results=#[.tmp t]∧fr.tmps.getD t undef=v
theorem Zfy {fn:Func}{t:Nat}(h:fn.results=#[.tmp t])(tmps:Array Value):results fn tmps=pure (tmps.getD t undef):=by
 simp[results,h]
theorem TopG.closed (P:Program)(f:FuncId)(fn:Func)(t:Nat)(v:Value):Zc3 (TopG P f fn t v):=fun _ _ _ _ _ h=>h
theorem Znq {P:Prg}{f:FuncId}{fn:Func}{k t:Nat}{n:Zaj}{rs:List NRes}{v0:Value}(h:IsN P f k n rs)(hfn:P.funcs[f]? = some fn)(hres:fn.results=#[.tmp t]){args:List Value}{H:Hp}(hk:args.length=k)
  (hw:n.m P (MFin P rs fun v _=>v=v0) (env0 args) H):Reach P (TopG P f fn t v0) (Frame.enter P f args.toArray .normal) [] H:=by
 obtain⟨fn',L,h1,h2,h3,h4⟩:=h
 obtain rfl:fn'=fn:=Option.some.inj (h1.symm.trans hfn)
 rw[Bool.and_eq_true,Bool.and_eq_true,decide_eq_true_eq]at h4
 obtain⟨body,hb,hn⟩:=Option.bind_eq_some_iff.1 h2
 subst hk
 have hwn:NFn n rs P args (fun v _=>v=v0) H:=by
  unfold NFn
  refine Zaj.m_w ?_ hw
  intro e σ H h
  cases e<;>exact h
 obtain⟨⟨hl,hm⟩,hnr⟩:=h4
 have hrel:Rel P L fn'.ntmps (env0 args) H ⟨args.toArray++Array.replicate (fn'.ntmps-args.toArray.size) undef,[]⟩ H:=by
  refine⟨by simp;omega,rfl,fun _=>0,.nil,?_,?_,?_,?_,?_,.nil _ _⟩
  ·exact(Hp.join_nil H).symm
  ·exact Hp.comp_nil H
  ·intro d cs h;simp[env0]at h
  ·intro d d' cs cs' h;simp[env0]at h
  ·intro t v ht
   simp only[env0]at ht
   have hlt:t<args.length:=by
    rcases Nat.lt_or_ge t args.length with h | h
    ·exact h
    ·simp[List.getElem?_eq_none h]at ht
   have hno:L.lookup t=none:=by
    cases hh:L.lookup t with
    | none=>rfl
    | some d=>
     obtain⟨l1,l2,rfl,_⟩:=List.lookup_eq_some_iff.1 hh
     have:=List.all_eq_true.1 hl (t,d) (by simp)
     simp at this
     omega
   unfold RelV
   rw[hno]
   simp[Array.getElem?_append,hlt]
   rw[List.getElem?_eq_getElem hlt]at ht
   simpa using ht
 have htri:Tri P ⟨true,fn'.norace⟩ body (fun e a H=>match e with | .exit _=>False | _=>Unw P fn' a.tmps (fun v H'=>∃ H1 J:Hp,H'=H1.join J∧H1.Comp J∧v=v0) a.defers H) ⟨args.toArray++Array.replicate (fn'.ntmps-args.toArray.size) undef,[]⟩ H:=by
  refine(ZaQ (rd:=⟨true,fn'.norace⟩) (fun h=>by rw[h]at hnr;simpa using hnr) hn hwn hrel).mono ?_
  rintro e ⟨at_,ad⟩ Ha ⟨σ,H',r,hq⟩
  cases e with
  | normal=>exact Zhp h3 _ _ _ _ r hq
  | ret=>exact Zhp h3 _ _ _ _ r hq
  | exit id=>exact hq.elim
 have he:Frame.enter P f args.toArray .normal=on (Frame.enter P f args.toArray .normal) ⟨args.toArray++Array.replicate (fn'.ntmps-args.toArray.size) undef,[]⟩ [.code body]:=by
  simp[Frame.enter,on,hfn,hb]
 rw[he]
 have hr:(Frame.enter P f args.toArray .normal).roundOf=none:=rfl
 have last:∀ (fr:Frame) (H:Hp),fr.mode=.returning->fr.defers=[]->fr.fn=f∧fr.kind=.normal->P.funcs[fr.fn]? = some fn'->wpL P (results fn' fr.tmps) (fun v _ H'=>(fun v H'=>∃ H1 J:Hp,H'=H1.join J∧H1.Comp J∧v=v0) v H') false H->Reach P (TopG P f fn' t v0) fr [] H:=by
  intro fr H a1 a2 ak a3 a4
  rw[Zfy hres,Zac]at a4
  obtain⟨_,_,_,_,hv⟩:=a4
  exact .stop ⟨rfl,a1,a2,ak,a3,hres,hv⟩
 refine htri (TopG P f fn' t v0) _ [] [] (TopG.closed _ _ _ _ _) ⟨by simp[Frame.enter],fun _=>hr,fun h=>by simp only[norace,Frame.enter,hfn,Option.any_some];exact h⟩ ?_
 intro e a H' hq
 cases e with
 | normal=>
  refine .pure (fr':={ on (Frame.enter P f args.toArray .normal) a []with mode:=.returning }) (cs':=[]) (fun main w=>ZlM hr) ?_
  exact ZhA (TopG.closed _ _ _ _ _) last _ _ _ rfl rfl ⟨rfl,rfl⟩ hfn hq
 | ret=>
  intro k'
  refine .pure (fr':={ on (Frame.enter P f args.toArray .normal) a (.code .ret :: k') with mode:=.returning }) (cs':=[]) (fun main w=>ZlL hr) ?_
  exact ZhA (TopG.closed _ _ _ _ _) last _ _ _ rfl rfl ⟨rfl,rfl⟩ hfn hq
 | exit id=>exact hq.elim
open Go.Conc (Knows Deaf touchAt QuitsD crowd woken Leavers Past)
def roW (w:World):Hp:=⟨fun b=>(w.heap[b]?).map fun o=>(o,false),[]⟩
theorem Zk9 (w:World)(b:Nat):roW w b=(w.heap[b]?).map fun o=>(o,false):=rfl
theorem roW_le (w:World):(roW w).le w:=fun b o p h=>by
 rw[Zk9]at h
 obtain⟨x,hx,he⟩:=Option.map_eq_some_iff.1 h
 simp only[Prod.mk.injEq]at he
 rw[hx,he.1]
structure Kept0 (W W':World):Prop where
 os:Go.ConcM.OsLater W.os W'.os
 tape:W'.tape=W.tape
 out:W'.output=W.output
 size:W.heap.size<=W'.heap.size
 heap:∀ b,b<W.heap.size->W'.heap[b]? = W.heap[b]?
theorem run_top {p:Program}{f:FuncId}{fn:Func}{t:Nat}{v0:Value}{args:Array Value}{W:World}(hin:p.inits.idxOf? f=none)(h:Reach (prP p) (TopG p f fn t v0) (Frame.enter p f args .normal) [] (roW W)) :
  ∃ M last o w' t',runNT p (M+1) (Go.Conc.solo (Go.Conc.G (Frame.enter p f args .normal) []) W) #[]=(.ended o w',t')∧runN p M (Go.Conc.solo (Go.Conc.G (Frame.enter p f args .normal) []) W)=.next last ∧
   step p last=.ended o w'∧Go.Conc.Good p (fun v W'=>v=v0∧Kept0 W W') last o w' t':=by
 have hph:=Znk (P:=prP p) rfl h
 have ha:Alone p (roW W) #[gor (Frame.enter p f args .normal) []] W #[] (fun _=>0):=by
  refine⟨Go.Conc.leavers_one p _,?_,roW_le W⟩
  exact⟨fun said=>by rintro⟨i,j,_,⟨a,b,ha,_⟩,_⟩;simp[Trace.act?]at ha,fun i a ha=>by simp[touchAt,Trace.act?]at ha,fun i g hg=>by simp[Trace.g?]at hg,rfl,by simp⟩
 obtain⟨k,gs',w',sl',t',q',H',fr',cs',h1,h2,h3,h4,h5⟩:=hph _ W none #[] _ ha rfl
 obtain⟨rfl,g1,g2,⟨g3,g3k⟩,g4,g5,g6⟩:=h5
 have hkeep:∀ w1,Go.Conc.AtRel w' w1->Kept0 W w1:=by
  rintro w1 ⟨d,rfl⟩
  exact⟨h4.out.os,h4.out.tape,h4.out.out,h4.grown,fun b hb=>h4.keep b hb fun o ho=>by
   rw[Zk9]at ho
   obtain⟨x,_,he⟩:=Option.map_eq_some_iff.1 ho
   simp at he⟩
 have hend:Go.Conc.Goes p true Go.Conc.AtRel (fun _ _ _=>False) (Go.Conc.AtEnd p (Zh3 H' w'.heap.size) w'.heap.size (fun v W'=>v=v0∧Kept0 W W')) 0 (gor fr' []) w':=by
  intro w1 hw1
  refine⟨rfl,v0,#[],?_,by simp,rfl,hkeep w1 hw1⟩
  have hr:(results fn fr'.tmps).runT p w1 #[]=(.ok v0 w1,#[]):=by rw[Zfy g5,g6];rfl
  have hin':p.inits.idxOf? fr'.fn=none:=by rw[g3];exact hin
  simp only[gor,stepG,g1,unwind,g2,g4,hr,GStep.after,doReturn,g3k,Array.append_empty,hin']
  simp[seen]
 obtain⟨N,last,o,w2,t2,e1,e2,e3,e4⟩:=Go.Conc.beside_ends (D:=fun _ _ _=>False) (fun _ _ _ h=>h.elim) h2 h3.leavers h3.past hend
 refine⟨k+N,last,o,w2,t2,?_,?_,e3,e4⟩
 ·have:=Zda h1 e1
  rw[Nat.add_assoc];exact this
 ·have hk1:runN p k (Go.Conc.solo (Go.Conc.G (Frame.enter p f args .normal) []) W)=.next (crowd gs' w' sl'):=by
   rw[<-runNT_fst _ _ _ #[]]
   exact congrArg Prod.fst h1
  rw[runN_add,hk1]
  exact e2
end Go.LL
end
section
open Go Go.LL Go.Conc Go.ConcM
namespace Go.Proofs
section
variable  {H:Type}{enc:TypeId×Value->H}
theorem ZkC {a:Assume}{C:Checked}{os:Os}{f:FuncId}{fn:Func}{s:ChangeSpec}{F:Stop.Interp}{conds:List PathCond}{apart fresh handsOn:Bool}{X:World->Array Value->Prop}
  (hX:∀ (w w':World) (args:Array Value),w.heap=w'.heap->X w args->X w' args)
  (own:ownKnob C.prog.godebug=none) (started:os.Started) (hfn:C.prog.funcs[f]? = some fn)
  (witness:∃ (w:World) (tape:Tape) (i:Input),w.os=os∧(w.forCall tape i).Shaped C.prog∧i.vars=[]∧Input.okWide C.prog (w.forCall tape i) .any w.heap.size f i ∧
   ((s.pre enc C.prog fn conds apart (w.forCall tape i).memory i.args∧X (w.forCall tape i).memory i.args)∧sizedMet enc C.prog fn (OpenSpec.ofChange s) apart (w.forCall tape i).memory i.args)∧a.holds C.prog (lone (Frame.enter C.prog f i.args .normal) [] (w.forCall tape i)))
  (runs:∀ (W:World) (base:Nat) (args:Array Value) (ds gs:List (DataW H)) (before:List MemPlace),
   (∀ (j:Nat) t v,fn.params[j]? = some t->args[j]? = some v->Value.okWide C.prog W .any base t v) ->
   DataW.Whole enc C.prog fn.params.toList s.vars apart W args.toList ds gs before ->
   X W args ->
   ∃ M last o w' t',runNT C.prog (M+1) (solo (G (Frame.enter C.prog f args .normal) []) W) #[]=(.ended o w',t')∧runN C.prog M (solo (G (Frame.enter C.prog f args .normal) []) W)=.next last ∧
    step C.prog last=.ended o w'∧Conc.Good C.prog (fun v W'=>s.post enc C.prog fn apart fresh handsOn false W args v { W' with os:=W.os }∧OsLater W.os W'.os) last o w' t') :
  ReturnsInLeavingWide a C os f .any (fun w args=>(s.pre enc C.prog fn conds apart w args∧X w args)∧sizedMet enc C.prog fn (OpenSpec.ofChange s) apart w args) ((OpenSpec.ofChange s).postWith enc C.prog fn F (outsideKept [.timePasses]) apart fresh handsOn):=by
 refine returnsInLeavingWide_of_good own started witness ?_
 intro w tape i _ _ _ hok hpre hholds
 obtain⟨_,_,_,fn',hfn',_,_,_,_,hval⟩:=hok
 have e:fn'=fn:=Option.some.inj (hfn'.symm.trans hfn)
 subst e
 obtain⟨⟨⟨ds,gs,before,hw,hc⟩,hx⟩,hz⟩:=hpre
 have hw':=DataW.Whole.of_heap (w':=w.forCall tape i) (by rfl) hw
 obtain⟨M,last,o,w',t',h1,h2,h3,h4⟩:=runs (w.forCall tape i) w.heap.size i.args ds gs before hval hw' (hX _ _ _ (by rfl) hx)
 obtain⟨v,e,hp,r1,r2,r3,r4⟩:=h4
 exact⟨M,last,o,w',t',h1,h2,h3,v,e,postWith_blind (postWith_of_post hp.1 hp.2),r1,r2,r3,r4⟩
theorem Zgh {C:Checked}{os:Os}{f:FuncId}{fn:Func}{s:ChangeSpec}{conds:List PathCond}{apart:Bool}{X:World->Array Value->Prop}(w0:World)(args:Array Value)(fuel:Nat)(hos:w0.os=os)
  (hsh:(w0.forCall (fun _ _=>0) ⟨#[],args,[]⟩).Shaped C.prog)
  (hok:Input.okWideB C.prog (w0.forCall (fun _ _=>0) ⟨#[],args,[]⟩) f ⟨#[],args,[]⟩=true)
  (hpre:s.preB enc C.prog fn conds apart (w0.forCall (fun _ _=>0) ⟨#[],args,[]⟩).memory args fuel=true)
  (hsz:s.sizedB enc C.prog fn apart (w0.forCall (fun _ _=>0) ⟨#[],args,[]⟩).memory args fuel=true)
  (hx:X (w0.forCall (fun _ _=>0) ⟨#[],args,[]⟩).memory args) :
  ∃ (w:World) (tape:Tape) (i:Input),w.os=os∧(w.forCall tape i).Shaped C.prog∧i.vars=[]∧Input.okWide C.prog (w.forCall tape i) .any w.heap.size f i ∧
   ((s.pre enc C.prog fn conds apart (w.forCall tape i).memory i.args∧X (w.forCall tape i).memory i.args)∧sizedMet enc C.prog fn (OpenSpec.ofChange s) apart (w.forCall tape i).memory i.args)∧({ calm:=true }:Assume).holds C.prog (lone (Frame.enter C.prog f i.args .normal) [] (w.forCall tape i)):=
 ⟨w0,fun _ _=>0,⟨#[],args,[]⟩,hos,hsh,(Input.okWide_of_okWideB (base:=0) hok).1,(Input.okWide_of_okWideB hok).2,⟨⟨ChangeSpec.pre_of_preB hpre,hx⟩,sizedMet_of_sizedB hsz⟩,by
  simp only[Assume.holds]
  exact⟨by simp,fun _ _ _ _=>rfl,by simp,by simp,by simp⟩⟩
end
theorem tzOwn:ownKnob Tryz.prog.godebug=none:=by kernel_rfl
theorem Zm7:laidOutB Tryz.prog=true:=by kernel_rfl
theorem gChecks:Tryz.prog.globalNamed "ribband/spile.checks" = some 0:=by kernel_rfl
end Go.Proofs
end
section
open Go Go.LL Go.Conc Go.ConcM
namespace Go.Proofs
open YtamdhefhhdgjbaaGreatDoor
theorem tChecks:(Tryz.prog.globals[0]?).map (·.type)=some 178:=by kernel_rfl
theorem wShaped (os:Os)(args:Array Value):((World.doorLaid Tryz.prog 600 os).forCall (fun _ _=>0) ⟨#[],args,[]⟩).Shaped Tryz.prog:=World.shaped_of_RefB (by kernel_rfl) (by kernel_rfl)
theorem doorMet (os:Os)(args:Array Value):laidMetH Tryz.prog [("ribband/spile.checks",Rows.laid_ribband_spile_checks)] ((World.doorLaid Tryz.prog 600 os).forCall (fun _ _=>0) ⟨#[],args,[]⟩).memory:=
 laidMetH_of_parts3 (fuel:=8) (laidMet_of_run' 8 (by kernel_rfl) (by kernel_rfl)) (by kernel_rfl) (by kernel_rfl)
end Go.Proofs
end
