import Derived.Test.YthmnpenamnoniaaGreatDoorP41
import Derived.Conc.HoldsTime
import Derived.Test.YthmnpenamnoniaaGreatDoorTie
import Derived.Test.YthmnpenamnoniaaGreatDoorCards
import Derived.ProofKit
import Derived.LaidMore
import Derived.Carry
import Derived.Stop.Joined
set_option linter.all false
section
open Go Go.LL
namespace Go.Proofs
def gapLs (b:Bk)(x:Boat):List Int:=(Zas b x).list.take b.pts.length
structure Q4 where
 m:Value
 (bf by_:Int)
 g:Value
instance:Enc Q4:=⟨4,fun q=>[q.m,vi q.bf,vi q.by_,q.g],fun _=>rfl⟩
structure RbAt (b:Bk)(H:Hp)(rows:List Q4)(xs:List Boat):Prop where
 len:rows.length=xs.length
 at_:∀ i (h:i<rows.length) (h':i<xs.length),rows[i].bf=xs[i].bf∧rows[i].by_=xs[i].by_∧SlAt H rows[i].g (gapLs b xs[i])
def exB:Bk:=⟨10,1,[⟨4,4,0,12,4⟩,⟨5,6,1,12,4⟩,⟨4,4,0,10,4⟩],[⟨2,6,7⟩]⟩
theorem ex1:snag exB=0:=by kernel_rfl
theorem ex2:Zaz exB [4,6,4] ⟨2,1⟩=0:=by
 rw[Zaz,if_neg (by rw[ex1];decide),if_neg (by show ¬ (Zbw exB [4,6,4] 0 99≠0);exact fun h=>h (by kernel_rfl)),if_pos]
 show (⟨2,1⟩:Slip)∈ZaB exB
 rw[show ZaB exB=[⟨0,0⟩,⟨1,-1⟩,⟨1,1⟩,⟨2,-1⟩,⟨2,1⟩] by kernel_rfl]
 simp
theorem ex3:(Zas exB (Zgh [4,6,4] ⟨2,1⟩)).list.take exB.pts.length=[6,4,7]:=by kernel_rfl
theorem ex4:(Zae exB).length=6:=by kernel_rfl
theorem ex5:((Zae exB).filter Boat.slipped).length=4:=by kernel_rfl
theorem ex6:Zah exB true=0:=by kernel_rfl
theorem ex7:whenL exB=[1,2]:=by kernel_rfl
theorem ex8:ZjS exB=[⟨1,1⟩,⟨2,1⟩]:=by kernel_rfl
theorem ex9:gapL exB 1=[4,5,6]:=by kernel_rfl
theorem ex10:gapL exB 2=[6,7]:=by kernel_rfl
theorem ex11:Zhr exB [6,5,6]=.tuple #[.agg #[vi (-4),vi 0],vb true,vi 0]:=by kernel_rfl
theorem ex12:roomV exB=.tuple #[vi 2,vi 6,vi 0]:=by kernel_rfl
theorem ex13:((Zae exB).filter (ZgA exB)).length=6:=by kernel_rfl
theorem ex14:ZfG exB=.tuple #[vi (-3),vb true,vi 0]:=by kernel_rfl
theorem ex15:ZiA exB=⟨-3,6⟩:=by kernel_rfl
theorem ex16:askF exB=(1,3):=by kernel_rfl
theorem ex17:Zkv exB ⟨2,6,6⟩=0:=by kernel_rfl
theorem ex18:(Zae (ckBk exB ⟨2,6,6⟩)).length=2∧snag (ckBk exB ⟨2,6,6⟩)=0:=by constructor<;>kernel_rfl
theorem ex19:((Zae (ckBk exB ⟨2,6,6⟩)).filter Boat.slipped).length=0∧Zah (ckBk exB ⟨2,6,6⟩) true=0:=by constructor<;>kernel_rfl
theorem ex20:ZfP exB 1 6 6=0:=by kernel_rfl
theorem ex21:(Zae (rdBk exB 1 6 6)).length=3∧snag (rdBk exB 1 6 6)=0:=by constructor<;>kernel_rfl
theorem ex22:Zg7 exB 0=0:=by kernel_rfl
theorem ex23:(Zae (fmBk exB 0)).length=2∧snag (fmBk exB 0)=0:=by constructor<;>kernel_rfl
def exC:Bk:=ckBk (ckBk exB ⟨0,6,6⟩) ⟨0,5,5⟩
theorem ex24:snag exC=0∧Zc6 exC=false∧ZmL exC=[2]:=by refine⟨?_,?_,?_⟩<;>kernel_rfl
theorem exSl:Value.tuple #[vi (if Zah exB true=0 then Zhp ((Zae exB).filter Boat.slipped).length (Zae exB).length else 0),vi (Zah exB true)]=.tuple #[vi 0,vi 0]:=by rw[ex6,if_pos rfl,ex5,ex4];rfl
theorem exHad:Value.tuple #[vi (if Zah exB true=0 then Zhp ((Zae exB).filter (ZgA exB)).length (Zae exB).length else 0),vi (Zah exB true)]=.tuple #[vi 1,vi 0]:=by rw[ex6,if_pos rfl,ex13,ex4];rfl
theorem exMost:Value.tuple #[vi (if Zah exB true=0 then (ZiA exB).s else 0),vi (if Zah exB true=0 then (ZiA exB).k else 0),vi (Zah exB true)]=.tuple #[vi (-3),vi 6,vi 0]:=by rw[ex6,if_pos rfl,if_pos rfl,ex15]
theorem exAsk:Value.tuple #[vi (if Zah exB true=0 then (askF exB).1 else 0),vi (if Zah exB true=0 then (askF exB).2 else 0),vi (Zah exB true)]=.tuple #[vi 1,vi 3,vi 0]:=by rw[ex6,if_pos rfl,if_pos rfl,ex16]
theorem exBt {b:Bk}{n:Nat}(h1:(Zae b).length=n)(h2:snag b=0):Value.tuple #[vi (if snag b=0 then (Zae b).length else 0),vi (snag b)]=.tuple #[vi n,vi 0]:=by rw[h2,if_pos rfl,h1]
theorem exSl2:Value.tuple #[vi (if Zah (ckBk exB ⟨2,6,6⟩) true=0 then Zhp ((Zae (ckBk exB ⟨2,6,6⟩)).filter Boat.slipped).length (Zae (ckBk exB ⟨2,6,6⟩)).length else 0),vi (Zah (ckBk exB ⟨2,6,6⟩) true)]=.tuple #[vi 2,vi 0]:=by
 rw[ex19.2,if_pos rfl,ex19.1,ex18.1];rfl
theorem bkS0 {H:Hp}{v:Value}{s:Int}{b:Bk}(h:BkS H v s b)(hs:s=0):∃ pa pc ca cc,v=.tuple #[.agg #[vi b.op,vi b.sl,.slice pa b.pts.length pc,.slice ca b.cks.length cc],vi 0]∧BkAt H (.agg #[vi b.op,vi b.sl,.slice pa b.pts.length pc,.slice ca b.cks.length cc]) b:=by
 subst hs
 obtain⟨w,rfl,hw⟩:=h
 rw[if_pos rfl]at hw
 obtain⟨_,_,rfl,⟨pa,pc,rfl,h1⟩,⟨ca,cc,rfl,h2⟩⟩:=hw
 exact⟨pa,pc,ca,cc,rfl,_,_,rfl,⟨_,_,rfl,h1⟩,⟨_,_,rfl,h2⟩⟩
section
variable  {P:Prg}[Tz P][Loud P]{H:Hp}
set_option maxHeartbeats 4000000
set_option maxRecDepth 20000
theorem Zi2 (a b:Int):LL.Zag P 49 #[vi a,vi b] H fun v H'=>H=H'∧v=.agg #[vi a,vi b]:=by
 have hs:=Loud.loud (P:=P)
 refine IsN.m (isn c62) (args:=[vi a,vi b]) rfl ?_
 unfold n62
 refine wkT ?_
 exact⟨rfl,rfl⟩
theorem ZeD (a:Int):LL.Zag P 42 #[vi a] H fun v H'=>H=H'∧v=.agg #[vi a,vi a]:=by
 have hs:=Loud.loud (P:=P)
 refine IsN.m (isn c49) (args:=[vi a]) rfl ?_
 unfold n49
 refine wkT ?_
 refine Zab (vs:=[vi a,vi a]) rfl (Zi2 a a) ?_
 rintro v _ ⟨rfl,rfl⟩
 refine wkT ?_
 exact⟨rfl,rfl⟩
theorem listR_ok {u w:Value}{a b:List Int}(ha:SlAt H u a)(hb:SlAt H w b)(hl:a.length<=1000000)(hl2:b.length<=1000000):LL.Zag P 47 #[u,w] H fun v H'=>H=H'∧v=vb (decide (a=b)):=by
 refine IsN.m (isn c86) (args:=[u,w]) rfl ?_
 unfold n86
 refine wkT ?_
 refine Zab (vs:=[u,w]) rfl (Zh5 ha hb hl hl2) ?_
 rintro v _ ⟨rfl,rfl⟩
 refine wkT ?_
 exact⟨rfl,rfl⟩
theorem Zhg {bv:Value}{b:Bk}{c:SCk}(hb:BkAt H bv b)(hl2:b.cks.length<=1000000) :
  LL.Zag P 46 #[bv,.agg #[vi c.p,vi c.gl,vi c.gh]] H fun v H'=>Inc H H'∧BkAt H' v (ckBk b c):=by
 have hs:=Loud.loud (P:=P)
 obtain⟨pv,cv,rfl,hp,hc⟩:=hb
 obtain⟨Ap,cp,rfl,hp'⟩:=id hp
 obtain⟨Ac,cc,rfl,hc'⟩:=id hc
 refine IsN.m (isn c51) (args:=[.agg #[vi b.op,vi b.sl,.slice Ap b.pts.length cp,.slice Ac b.cks.length cc],.agg #[vi c.p,vi c.gl,vi c.gh]]) rfl ?_
 unfold n51
 refine wkT ?_
 refine Zdu (und u23) (tif t51) (hs _) fun r1 hr1=>?_
 have o1:Own H (H.ins r1 (.cells #[] 101)) 101 (.slice (some ⟨r1,0,none⟩) 0 0) ([]:List SCk) (some r1):=own_nil0 hr1
 have i1:Inc H (H.ins r1 (.cells #[] 101)):=Zai hr1
 generalize H.ins r1 (.cells #[] 101)=H1 at *
 refine kp_l hs ?_
 refine wkT ?_
 refine ZbU (l':=b.cks) (und u23) (und u23) (tif t51) rfl (by decide) i1 o1 (hc.inc i1) (ZmM _) (by simp;omega) (by omega) rfl rfl (hs _) fun v2 H2 b2 i2 o2 _=>?_
 refine kp_l hs ?_
 refine wkT ?_
 refine Zat (cs:=[vi c.p,vi c.gl,vi c.gh]) (hs _) rfl fun r5 hr5=>?_
 refine kp_l hs ?_
 refine wkT ?_
 refine ZbU (l':=[c]) (und u23) (und u23) (tif t51) rfl (by decide) (i2.trans (Zai hr5)) (o2.ins hr5) Zi8 rfl (by simp;omega) (by omega) rfl rfl (hs _) fun v4 H4 b4 k1 k2 k3=>?_
 rw[List.nil_append]at k2
 have s4:=k2.sl
 obtain⟨A4,c4,rfl,_⟩:=id s4
 refine wkT ?_
 exact⟨k1,_,_,rfl,hp.inc k1,s4⟩
theorem Zlr:LL.Zag P 31 #[] H fun v H'=>Inc H H'∧∃ r1 r2,v=.agg #[vi 10,vi 1,.slice (some ⟨r1,0,none⟩) 3 3,.slice (some ⟨r2,0,none⟩) 1 1]∧BkAt H' v exB:=by
 have hs:=Loud.loud (P:=P)
 refine IsN.m (isn c85) (args:=[]) rfl ?_
 unfold n85
 refine wkT ?_
 refine Zab (vs:=[vi 4]) rfl (ZeD 4) ?_
 rintro v _ ⟨rfl,rfl⟩
 refine wkT ?_
 refine Zab (vs:=[vi 0,vi 12]) rfl (Zi2 0 12) ?_
 rintro v _ ⟨rfl,rfl⟩
 refine wkT ?_
 refine Zab (vs:=[vi 5,vi 6]) rfl (Zi2 5 6) ?_
 rintro v _ ⟨rfl,rfl⟩
 refine wkT ?_
 refine Zab (vs:=[vi 1,vi 12]) rfl (Zi2 1 12) ?_
 rintro v _ ⟨rfl,rfl⟩
 refine wkT ?_
 refine Zab (vs:=[vi 4]) rfl (ZeD 4) ?_
 rintro v _ ⟨rfl,rfl⟩
 refine wkT ?_
 refine Zab (vs:=[vi 0,vi 10]) rfl (Zi2 0 10) ?_
 rintro v _ ⟨rfl,rfl⟩
 refine wkT ?_
 refine Zat (cs:=encs exB.pts) (hs _) rfl fun r1 hr1=>?_
 have s1:SlAt (H.ins r1 (.cells (encs exB.pts).toArray 110)) (.slice (some ⟨r1,0,none⟩) 3 3) exB.pts:=Za3 (l:=exB.pts)
 have i1:Inc H (H.ins r1 (.cells (encs exB.pts).toArray 110)):=Zai hr1
 generalize H.ins r1 (.cells (encs exB.pts).toArray 110)=H1 at *
 refine wkT ?_
 refine Zab (vs:=[vi 6,vi 7]) rfl (Zi2 6 7) ?_
 rintro v _ ⟨rfl,rfl⟩
 refine wkT ?_
 refine Zat (cs:=encs exB.cks) (hs _) rfl fun r2 hr2=>?_
 have s2:SlAt (H1.ins r2 (.cells (encs exB.cks).toArray 101)) (.slice (some ⟨r2,0,none⟩) 1 1) exB.cks:=Za3 (l:=exB.cks)
 have i2:Inc H1 (H1.ins r2 (.cells (encs exB.cks).toArray 101)):=Zai hr2
 generalize H1.ins r2 (.cells (encs exB.cks).toArray 101)=H2 at *
 refine wkT ?_
 exact⟨i1.trans i2,r1,r2,rfl,_,_,rfl,s1.inc i2,s2⟩
end
theorem exG1 {H H':Hp}{v:Value}(h:Inc H H'∧∃ w bb,v=.tuple #[w,vi (Zah exB (decide (0<=(1:Int)∧(1:Int)<exB.pts.length)))]∧Own H H' 3 w (if Zah exB (decide (0<=(1:Int)∧(1:Int)<exB.pts.length))=0 then gapL exB (1:Int).toNat else []) bb):Inc H H'∧∃ w,v=.tuple #[w,vi 0]∧SlAt H' w ([4,5,6]:List Int):=by
 obtain⟨h1,w,bb,e,hw⟩:=h
 have e6:Zah exB (decide (0<=(1:Int)∧(1:Int)<exB.pts.length))=0:=by kernel_rfl
 rw[e6]at e
 rw[if_pos e6,show gapL exB (1:Int).toNat=[4,5,6] from ex9]at hw
 exact⟨h1,w,e,hw.sl⟩
theorem exG2 {H H':Hp}{v:Value}(h:Inc H H'∧∃ w bb,v=.tuple #[w,vi (Zah exB (decide (0<=(2:Int)∧(2:Int)<exB.pts.length)))]∧Own H H' 3 w (if Zah exB (decide (0<=(2:Int)∧(2:Int)<exB.pts.length))=0 then gapL exB (2:Int).toNat else []) bb):Inc H H'∧∃ w,v=.tuple #[w,vi 0]∧SlAt H' w ([6,7]:List Int):=by
 obtain⟨h1,w,bb,e,hw⟩:=h
 have e6:Zah exB (decide (0<=(2:Int)∧(2:Int)<exB.pts.length))=0:=by kernel_rfl
 rw[e6]at e
 rw[if_pos e6,show gapL exB (2:Int).toNat=[6,7] from ex10]at hw
 exact⟨h1,w,e,hw.sl⟩
section
variable  {P:Prg}[Tz P][Loud P]{H:Hp}
theorem ZcD {u w:Value}{a:List Int}(ha:SlAt H u a)(hb:SlAt H w a)(hl:a.length<=1000000):LL.Zag P 47 #[u,w] H fun v H'=>H=H'∧v=vb true:=
 LL.Zag.mono (listR_ok ha hb hl hl) fun v H' h=>⟨h.1,h.2.trans (by rw[decide_eq_true rfl])⟩
set_option maxHeartbeats 8000000
set_option maxRecDepth 40000
theorem spiled_okP (hPP:P=PP)(hg:Zbh H):LL.Zag P 7 #[] H fun v H'=>Inc H H'∧v=vb true:=by
 have hs:=Loud.loud (P:=P)
 refine IsN.m (isn c18) (args:=[]) rfl ?_
 unfold n18
 refine wkT ?_
 refine Zab (vs:=[]) rfl Zlr ?_
 rintro v H1 ⟨i0,r1,r2,rfl,hb1⟩
 have hg1:Zbh H1:=CellsAt.inc hg i0
 have i1:Inc H1 H1:=.refl H1
 refine wkT ?_
 refine Zat (cs:=encs [(4:Int),6,4]) (hs _) rfl fun ra hra=>?_
 have j2:Inc H1 (H1.ins ra (.cells (encs [(4:Int),6,4]).toArray 3)):=Zai hra
 have sra:SlAt (H1.ins ra (.cells (encs [(4:Int),6,4]).toArray 3)) (.slice (some ⟨ra,0,none⟩) 3 3) [(4:Int),6,4]:=Za3 (l:=[(4:Int),6,4])
 generalize H1.ins ra (.cells (encs [(4:Int),6,4]).toArray 3)=H2 at *
 have i2:=i1.trans j2
 refine wkT ?_
 refine Zab (vs:=[.agg #[vi 10,vi 1,.slice (some ⟨r1,0,none⟩) 3 3,.slice (some ⟨r2,0,none⟩) 1 1],.slice (some ⟨ra,0,none⟩) 3 3,ZbG ⟨2,1⟩]) rfl (LL.Zag.mono (Gaps_ok (l:=[4,6,4]) (k:=⟨2,1⟩) (hb1.inc i2) sra (CellsAt.inc hg1 i2) (by decide) (by decide) (by decide)) fun v H' h=>show Inc H2 H'∧∃ w,v=.tuple #[w,vi 0]∧SlAt H' w ([6,4,7]:List Int) from ⟨h.1,by obtain⟨_,w,e,hw⟩:=h;rw[ex2]at e;rw[gapsL,if_pos ex2,ex3]at hw;exact⟨w,e,hw⟩⟩) ?_
 rintro v H3 ⟨j3,w2,rfl,sl2⟩
 have i3:=i2.trans j3
 refine wkT ?_
 refine Zab (vs:=[.agg #[vi 10,vi 1,.slice (some ⟨r1,0,none⟩) 3 3,.slice (some ⟨r2,0,none⟩) 1 1]]) rfl (LL.Zag.mono (ZfA (hb1.inc i3) (CellsAt.inc hg1 i3) (by decide) (by decide)) fun v H' h=>show Inc H3 H'∧v=.tuple #[vi 6,vi 0] from ⟨h.1,h.2.trans (exBt ex4 ex1)⟩) ?_
 rintro v H4 ⟨j4,rfl⟩
 have i4:=i3.trans j4
 refine wkT ?_
 refine Zab (vs:=[.agg #[vi 10,vi 1,.slice (some ⟨r1,0,none⟩) 3 3,.slice (some ⟨r2,0,none⟩) 1 1]]) rfl (LL.Zag.mono (Zhd (hb1.inc i4) (CellsAt.inc hg1 i4) (by decide) (by decide)) fun v H' h=>show Inc H4 H'∧v=.tuple #[vi 0,vi 0] from ⟨h.1,h.2.trans exSl⟩) ?_
 rintro v H5 ⟨j5,rfl⟩
 have i5:=i4.trans j5
 refine wkT ?_
 refine Zab (vs:=[.agg #[vi 10,vi 1,.slice (some ⟨r1,0,none⟩) 3 3,.slice (some ⟨r2,0,none⟩) 1 1]]) rfl (LL.Zag.mono (When_ok (hb1.inc i5) (CellsAt.inc hg1 i5) (by decide) (by decide)) fun v H' h=>show Inc H5 H'∧∃ w,v=.tuple #[w,vi 0]∧SlAt H' w ([1,2]:List Int) from ⟨h.1,by obtain⟨_,w,bb,e,hw⟩:=h;rw[ex6]at e;rw[if_pos ex6,ex7]at hw;exact⟨w,e,hw.sl⟩⟩) ?_
 rintro v H6 ⟨j6,w8,rfl,sl8⟩
 have i6:=i5.trans j6
 refine wkT ?_
 refine Zab (vs:=[.agg #[vi 10,vi 1,.slice (some ⟨r1,0,none⟩) 3 3,.slice (some ⟨r2,0,none⟩) 1 1]]) rfl (LL.Zag.mono (ZkA (hb1.inc i6) (CellsAt.inc hg1 i6) (by decide) (by decide)) fun v H' h=>show Inc H6 H'∧∃ w,v=.tuple #[w,vi 0]∧SlAt H' w [(⟨1,1⟩:Slip),⟨2,1⟩] from ⟨h.1,by obtain⟨_,⟨h0,_⟩ | ⟨_,w,bb,e,hw⟩⟩:=h;exact absurd ex6 h0;rw[ex8]at hw;exact⟨w,e,hw.sl⟩⟩) ?_
 rintro v H7 ⟨j7,w10,rfl,sl10⟩
 have i7:=i6.trans j7
 refine wkT ?_
 refine Zab (vs:=[.agg #[vi 10,vi 1,.slice (some ⟨r1,0,none⟩) 3 3,.slice (some ⟨r2,0,none⟩) 1 1],vi 1]) rfl (LL.Zag.mono (Gap_ok (n:=1) (hb1.inc i7) (CellsAt.inc hg1 i7) (by decide) (by decide)) fun v H' h=>show Inc H7 H'∧∃ w,v=.tuple #[w,vi 0]∧SlAt H' w ([4,5,6]:List Int) from exG1 h) ?_
 rintro v H8 ⟨j8,w12,rfl,sl12⟩
 have i8:=i7.trans j8
 refine wkT ?_
 refine Zab (vs:=[.agg #[vi 10,vi 1,.slice (some ⟨r1,0,none⟩) 3 3,.slice (some ⟨r2,0,none⟩) 1 1],vi 2]) rfl (LL.Zag.mono (Gap_ok (n:=2) (hb1.inc i8) (CellsAt.inc hg1 i8) (by decide) (by decide)) fun v H' h=>show Inc H8 H'∧∃ w,v=.tuple #[w,vi 0]∧SlAt H' w ([6,7]:List Int) from exG2 h) ?_
 rintro v H9 ⟨j9,w14,rfl,sl14⟩
 have i9:=i8.trans j9
 refine wkT ?_
 refine Zat (cs:=encs [(6:Int),5,6]) (hs _) rfl fun rb hrb=>?_
 have j10:Inc H9 (H9.ins rb (.cells (encs [(6:Int),5,6]).toArray 3)):=Zai hrb
 have srb:SlAt (H9.ins rb (.cells (encs [(6:Int),5,6]).toArray 3)) (.slice (some ⟨rb,0,none⟩) 3 3) [(6:Int),5,6]:=Za3 (l:=[(6:Int),5,6])
 generalize H9.ins rb (.cells (encs [(6:Int),5,6]).toArray 3)=H10 at *
 have i10:=i9.trans j10
 refine wkT ?_
 refine Zab (vs:=[.agg #[vi 10,vi 1,.slice (some ⟨r1,0,none⟩) 3 3,.slice (some ⟨r2,0,none⟩) 1 1],.slice (some ⟨rb,0,none⟩) 3 3]) rfl (LL.Zag.mono (Zm0 (l:=[6,5,6]) (hb1.inc i10) srb (CellsAt.inc hg1 i10) (by decide) (by decide) (by decide)) fun v H' h=>show Inc H10 H'∧v=.tuple #[.agg #[vi (-4),vi 0],vb true,vi 0] from ⟨h.1,h.2.trans ex11⟩) ?_
 rintro v H11 ⟨j11,rfl⟩
 have i11:=i10.trans j11
 refine wkT ?_
 refine Zab (vs:=[.agg #[vi 10,vi 1,.slice (some ⟨r1,0,none⟩) 3 3,.slice (some ⟨r2,0,none⟩) 1 1]]) rfl (LL.Zag.mono (Room_ok (hb1.inc i11) (CellsAt.inc hg1 i11) (by decide) (by decide)) fun v H' h=>show Inc H11 H'∧v=.tuple #[vi 2,vi 6,vi 0] from ⟨h.1,h.2.trans ex12⟩) ?_
 rintro v H12 ⟨j12,rfl⟩
 have i12:=i11.trans j12
 refine wkT ?_
 refine Zab (vs:=[.agg #[vi 10,vi 1,.slice (some ⟨r1,0,none⟩) 3 3,.slice (some ⟨r2,0,none⟩) 1 1]]) rfl (LL.Zag.mono (Had_ok (hb1.inc i12) (CellsAt.inc hg1 i12) (by decide) (by decide)) fun v H' h=>show Inc H12 H'∧v=.tuple #[vi 1,vi 0] from ⟨h.1,h.2.trans exHad⟩) ?_
 rintro v H13 ⟨j13,rfl⟩
 have i13:=i12.trans j13
 refine wkT ?_
 refine Zab (vs:=[.agg #[vi 10,vi 1,.slice (some ⟨r1,0,none⟩) 3 3,.slice (some ⟨r2,0,none⟩) 1 1]]) rfl (LL.Zag.mono (ZmX (hb1.inc i13) (CellsAt.inc hg1 i13) (by decide) (by decide)) fun v H' h=>show Inc H13 H'∧v=.tuple #[vi (-3),vb true,vi 0] from ⟨h.1,h.2.trans ex14⟩) ?_
 rintro v H14 ⟨j14,rfl⟩
 have i14:=i13.trans j14
 refine wkT ?_
 refine Zab (vs:=[.agg #[vi 10,vi 1,.slice (some ⟨r1,0,none⟩) 3 3,.slice (some ⟨r2,0,none⟩) 1 1]]) rfl (LL.Zag.mono (Most_okP hPP (hb1.inc i14) (CellsAt.inc hg1 i14) (by decide) (by decide)) fun v H' h=>show Inc H14 H'∧v=.tuple #[vi (-3),vi 6,vi 0] from ⟨h.1,h.2.trans exMost⟩) ?_
 rintro v H15 ⟨j15,rfl⟩
 have i15:=i14.trans j15
 refine wkT ?_
 refine Zab (vs:=[.agg #[vi 10,vi 1,.slice (some ⟨r1,0,none⟩) 3 3,.slice (some ⟨r2,0,none⟩) 1 1]]) rfl (LL.Zag.mono (Ask_ok (hb1.inc i15) (CellsAt.inc hg1 i15) (by decide) (by decide)) fun v H' h=>show Inc H15 H'∧v=.tuple #[vi 1,vi 3,vi 0] from ⟨h.1,h.2.trans exAsk⟩) ?_
 rintro v H16 ⟨j16,rfl⟩
 have i16:=i15.trans j16
 refine wkT ?_
 refine Zab (vs:=[vi 6]) rfl (ZeD 6) ?_
 rintro v _ ⟨rfl,rfl⟩
 refine kp_l hs ?_
 refine wkT ?_
 refine Zab (vs:=[.agg #[vi 10,vi 1,.slice (some ⟨r1,0,none⟩) 3 3,.slice (some ⟨r2,0,none⟩) 1 1],.agg #[vi 2,vi 6,vi 6]]) rfl (LL.Zag.mono (Check_ok (c:=⟨2,6,6⟩) (hb1.inc i16) (CellsAt.inc hg1 i16) (by decide) (by decide)) fun v H' h=>show Inc H16 H'∧∃ pa pc ca cc,v=.tuple #[.agg #[vi 10,vi 1,.slice pa 3 pc,.slice ca 2 cc],vi 0]∧BkAt H' (.agg #[vi 10,vi 1,.slice pa 3 pc,.slice ca 2 cc]) (ckBk exB ⟨2,6,6⟩) from ⟨h.1,bkS0 h.2 ex17⟩) ?_
 rintro v H17 ⟨j17,pa,pc,ca,cc,rfl,hbc⟩
 have i17:=i16.trans j17
 refine kp_l hs ?_
 refine wkT ?_
 refine Zab (vs:=[.agg #[vi 10,vi 1,.slice pa 3 pc,.slice ca 2 cc]]) rfl (LL.Zag.mono (ZfA hbc (CellsAt.inc hg1 i17) (by decide) (by decide)) fun v H' h=>show Inc H17 H'∧v=.tuple #[vi 2,vi 0] from ⟨h.1,h.2.trans (exBt ex18.1 ex18.2)⟩) ?_
 rintro v H18 ⟨j18,rfl⟩
 have i18:=i17.trans j18
 refine wkT ?_
 refine Zab (vs:=[.agg #[vi 10,vi 1,.slice pa 3 pc,.slice ca 2 cc]]) rfl (LL.Zag.mono (Zhd (hbc.inc j18) (CellsAt.inc hg1 i18) (by decide) (by decide)) fun v H' h=>show Inc H18 H'∧v=.tuple #[vi 2,vi 0] from ⟨h.1,h.2.trans exSl2⟩) ?_
 rintro v H19 ⟨j19,rfl⟩
 have i19:=i18.trans j19
 refine wkT ?_
 refine Zab (vs:=[vi 6]) rfl (ZeD 6) ?_
 rintro v _ ⟨rfl,rfl⟩
 refine kp_l hs ?_
 refine wkT ?_
 refine Zab (vs:=[.agg #[vi 10,vi 1,.slice (some ⟨r1,0,none⟩) 3 3,.slice (some ⟨r2,0,none⟩) 1 1],vi 1,.agg #[vi 6,vi 6]]) rfl (LL.Zag.mono (Read_ok (n:=1) (xl:=6) (xh:=6) (hb1.inc i19) (CellsAt.inc hg1 i19) (by decide) (by decide)) fun v H' h=>show Inc H19 H'∧∃ pa pc ca cc,v=.tuple #[.agg #[vi 10,vi 1,.slice pa 3 pc,.slice ca 1 cc],vi 0]∧BkAt H' (.agg #[vi 10,vi 1,.slice pa 3 pc,.slice ca 1 cc]) (rdBk exB 1 6 6) from ⟨h.1,bkS0 h.2 ex20⟩) ?_
 rintro v H20 ⟨j20,pa2,pc2,ca2,cc2,rfl,hbd⟩
 have i20:=i19.trans j20
 refine kp_l hs ?_
 refine wkT ?_
 refine Zab (vs:=[.agg #[vi 10,vi 1,.slice pa2 3 pc2,.slice ca2 1 cc2]]) rfl (LL.Zag.mono (ZfA hbd (CellsAt.inc hg1 i20) (by decide) (by decide)) fun v H' h=>show Inc H20 H'∧v=.tuple #[vi 3,vi 0] from ⟨h.1,h.2.trans (exBt ex21.1 ex21.2)⟩) ?_
 rintro v H21 ⟨j21,rfl⟩
 have i21:=i20.trans j21
 refine wkT ?_
 refine Zab (vs:=[.agg #[vi 10,vi 1,.slice (some ⟨r1,0,none⟩) 3 3,.slice (some ⟨r2,0,none⟩) 1 1],vi 0]) rfl (LL.Zag.mono (Firm_ok (n:=0) (hb1.inc i21) (CellsAt.inc hg1 i21) (by decide) (by decide)) fun v H' h=>show Inc H21 H'∧∃ pa pc ca cc,v=.tuple #[.agg #[vi 10,vi 0,.slice pa 3 pc,.slice ca 1 cc],vi 0]∧BkAt H' (.agg #[vi 10,vi 0,.slice pa 3 pc,.slice ca 1 cc]) (fmBk exB 0) from ⟨h.1,bkS0 h.2 ex22⟩) ?_
 rintro v H22 ⟨j22,pa3,pc3,ca3,cc3,rfl,hbe⟩
 have i22:=i21.trans j22
 refine wkT ?_
 refine Zab (vs:=[.agg #[vi 10,vi 0,.slice pa3 3 pc3,.slice ca3 1 cc3]]) rfl (LL.Zag.mono (ZfA hbe (CellsAt.inc hg1 i22) (by decide) (by decide)) fun v H' h=>show Inc H22 H'∧v=.tuple #[vi 2,vi 0] from ⟨h.1,h.2.trans (exBt ex23.1 ex23.2)⟩) ?_
 rintro v H23 ⟨j23,rfl⟩
 have i23:=i22.trans j23
 refine wqT ?_
 have g2:=((((((((((((((((((((sl2.inc j4).inc j5).inc j6).inc j7).inc j8).inc j9).inc j10).inc j11).inc j12).inc j13).inc j14).inc j15).inc j16).inc j17).inc j18).inc j19).inc j20).inc j21).inc j22).inc j23)
 have g8:=(((((((((((((((((sl8.inc j7).inc j8).inc j9).inc j10).inc j11).inc j12).inc j13).inc j14).inc j15).inc j16).inc j17).inc j18).inc j19).inc j20).inc j21).inc j22).inc j23)
 have g10:=((((((((((((((((sl10.inc j8).inc j9).inc j10).inc j11).inc j12).inc j13).inc j14).inc j15).inc j16).inc j17).inc j18).inc j19).inc j20).inc j21).inc j22).inc j23)
 have g12:=(((((((((((((((sl12.inc j9).inc j10).inc j11).inc j12).inc j13).inc j14).inc j15).inc j16).inc j17).inc j18).inc j19).inc j20).inc j21).inc j22).inc j23)
 have g14:=((((((((((((((sl14.inc j10).inc j11).inc j12).inc j13).inc j14).inc j15).inc j16).inc j17).inc j18).inc j19).inc j20).inc j21).inc j22).inc j23)
 obtain⟨A2,c2,rfl,_⟩:=id g2
 obtain⟨A8,c8,rfl,_⟩:=id g8
 obtain⟨A10,c10,rfl,_⟩:=id g10
 obtain⟨A12,c12,rfl,_⟩:=id g12
 obtain⟨A14,c14,rfl,_⟩:=id g14
 refine ZbX (ι:=Option Addr×Nat) (fun s H'=>Inc H23 H'∧SlAt H' (.slice s.1 1 s.2) [(2:Int)]) (fun s=>[(0,vb false),(2,.slice A2 3 c2),(3,vi 0),(4,vi 6),(5,vi 0),(6,vi 0),(7,vi 0),(8,.slice A8 2 c8),(9,vi 0),(10,.slice A10 2 c10),(11,vi 0),(12,.slice A12 3 c12),(13,vi 0),(14,.slice A14 2 c14),(15,vi 0),(16,vi 0),(17,vb true),(18,vi 0),(19,vi 2),(20,vi 6),(21,vi 0),(22,vi 1),(23,vi 0),(24,vi (-3)),(25,vb true),(26,vi 0),(27,vi (-3)),(28,vi 6),(29,vi 0),(30,vi 1),(31,vi 3),(32,vi 0),(34,vi 0),(35,vi 2),(36,vi 0),(37,vi 2),(38,vi 0),(40,vi 0),(41,vi 3),(42,vi 0),(44,vi 0),(45,vi 2),(46,vi 0),(47,.slice s.1 1 s.2),(48,vi 0)]) (fun _=>[(16,[vi (-4),vi 0])]) ?_ ?_
 ·refine wkT ?_
  refine Zab (vs:=[vi 6]) rfl (ZeD 6) ?_
  rintro v _ ⟨rfl,rfl⟩
  refine kp_l hs ?_
  refine wkT ?_
  refine Zab (vs:=[.agg #[vi 10,vi 1,.slice (some ⟨r1,0,none⟩) 3 3,.slice (some ⟨r2,0,none⟩) 1 1],.agg #[vi 0,vi 6,vi 6]]) rfl (Zhg (c:=⟨0,6,6⟩) (hb1.inc i23) (by decide)) ?_
  rintro v K1 ⟨k1,hk1⟩
  obtain⟨_,_,rfl,⟨pa4,pc4,rfl,_⟩,⟨ca4,cc4,rfl,_⟩⟩:=id hk1
  refine wkT ?_
  refine Zab (vs:=[vi 5]) rfl (ZeD 5) ?_
  rintro v _ ⟨rfl,rfl⟩
  refine wkT ?_
  refine Zab (vs:=[_,.agg #[vi 0,vi 5,vi 5]]) rfl (Zhg (c:=⟨0,5,5⟩) hk1 (by decide)) ?_
  rintro v K2 ⟨k2,hk2⟩
  obtain⟨_,_,rfl,⟨pa5,pc5,rfl,_⟩,⟨ca5,cc5,rfl,_⟩⟩:=id hk2
  refine wkT ?_
  refine Zab (vs:=[_]) rfl (Clash_ok (b:=exC) hk2 (CellsAt.inc hg1 ((i23.trans k1).trans k2)) (by decide) (by decide)) ?_
  rintro v K3 ⟨k3,w,rfl,hw⟩
  rw[if_pos ⟨ex24.1,ex24.2.1⟩,ex24.2.2]at hw
  rw[ex24.1]
  obtain⟨A47,c47,rfl,_⟩:=id hw
  refine wkT ?_
  exact⟨(A47,c47),⟨(k1.trans k2).trans k3,hw⟩,⟨rfl,rfl,rfl,rfl,rfl,rfl,rfl,rfl,rfl,rfl,rfl,rfl,rfl,rfl,rfl,rfl,rfl,rfl,rfl,rfl,rfl,rfl,rfl,rfl,rfl,rfl,rfl,rfl,rfl,rfl,rfl,rfl,rfl,rfl,rfl,rfl,rfl,rfl,rfl,rfl,rfl,rfl,rfl,rfl,rfl,trivial⟩,⟨rfl,trivial⟩,rfl⟩
 rintro⟨A47,c47⟩ K ⟨kk,g47⟩
 have f2:=g2.inc kk
 have f8:=g8.inc kk
 have f10:=g10.inc kk
 have f12:=g12.inc kk
 have f14:=g14.inc kk
 have ik:=i23.trans kk
 refine wkT ?_
 refine Zat (cs:=encs [(6:Int),4,7]) (hs _) rfl fun q0 hq0=>?_
 have lK1:Inc K (K.ins q0 (.cells (encs [(6:Int),4,7]).toArray 3)):=Zai hq0
 have sq0:SlAt (K.ins q0 (.cells (encs [(6:Int),4,7]).toArray 3)) (.slice (some ⟨q0,0,none⟩) 3 3) [(6:Int),4,7]:=Za3 (l:=[(6:Int),4,7])
 generalize K.ins q0 (.cells (encs [(6:Int),4,7]).toArray 3)=K1 at *
 refine kp_l hs ?_
 refine wkT ?_
 refine Zab (vs:=[.slice A2 3 c2,.slice (some ⟨q0,0,none⟩) 3 3]) rfl (ZcD (f2.inc lK1) sq0 (by decide)) ?_
 rintro v _ ⟨rfl,rfl⟩
 refine wkT ?_
 refine Zat (cs:=encs [(1:Int),2]) (hs _) rfl fun q1 hq1=>?_
 have lK2:Inc K1 (K1.ins q1 (.cells (encs [(1:Int),2]).toArray 3)):=Zai hq1
 have sq1:SlAt (K1.ins q1 (.cells (encs [(1:Int),2]).toArray 3)) (.slice (some ⟨q1,0,none⟩) 2 2) [(1:Int),2]:=Za3 (l:=[(1:Int),2])
 generalize K1.ins q1 (.cells (encs [(1:Int),2]).toArray 3)=K2 at *
 refine kp_l hs ?_
 refine wkT ?_
 refine Zab (vs:=[.slice A8 2 c8,.slice (some ⟨q1,0,none⟩) 2 2]) rfl (ZcD ((f8.inc lK1).inc lK2) sq1 (by decide)) ?_
 rintro v _ ⟨rfl,rfl⟩
 refine wkT ?_
 refine Zat (cs:=encs [(⟨1,1⟩:Slip),⟨2,1⟩]) (hs _) rfl fun q2 hq2=>?_
 have lK3:Inc K2 (K2.ins q2 (.cells (encs [(⟨1,1⟩:Slip),⟨2,1⟩]).toArray 31)):=Zai hq2
 have sq2:SlAt (K2.ins q2 (.cells (encs [(⟨1,1⟩:Slip),⟨2,1⟩]).toArray 31)) (.slice (some ⟨q2,0,none⟩) 2 2) [(⟨1,1⟩:Slip),⟨2,1⟩]:=Za3 (l:=[(⟨1,1⟩:Slip),⟨2,1⟩])
 generalize K2.ins q2 (.cells (encs [(⟨1,1⟩:Slip),⟨2,1⟩]).toArray 31)=K3 at *
 refine kp_l hs ?_
 refine wkT ?_
 refine Zab (vs:=[.slice A10 2 c10,.slice (some ⟨q2,0,none⟩) 2 2]) rfl (ZiZ (((f10.inc lK1).inc lK2).inc lK3) sq2 (by decide) (by decide)) ?_
 rintro v _ ⟨rfl,hv,_⟩
 obtain rfl:=hv rfl
 refine wkT ?_
 refine Zat (cs:=encs [(4:Int),5,6]) (hs _) rfl fun q3 hq3=>?_
 have lK4:Inc K3 (K3.ins q3 (.cells (encs [(4:Int),5,6]).toArray 3)):=Zai hq3
 have sq3:SlAt (K3.ins q3 (.cells (encs [(4:Int),5,6]).toArray 3)) (.slice (some ⟨q3,0,none⟩) 3 3) [(4:Int),5,6]:=Za3 (l:=[(4:Int),5,6])
 generalize K3.ins q3 (.cells (encs [(4:Int),5,6]).toArray 3)=K4 at *
 refine kp_l hs ?_
 refine wkT ?_
 refine Zab (vs:=[.slice A12 3 c12,.slice (some ⟨q3,0,none⟩) 3 3]) rfl (ZcD ((((f12.inc lK1).inc lK2).inc lK3).inc lK4) sq3 (by decide)) ?_
 rintro v _ ⟨rfl,rfl⟩
 refine wkT ?_
 refine Zat (cs:=encs [(6:Int),7]) (hs _) rfl fun q4 hq4=>?_
 have lK5:Inc K4 (K4.ins q4 (.cells (encs [(6:Int),7]).toArray 3)):=Zai hq4
 have sq4:SlAt (K4.ins q4 (.cells (encs [(6:Int),7]).toArray 3)) (.slice (some ⟨q4,0,none⟩) 2 2) [(6:Int),7]:=Za3 (l:=[(6:Int),7])
 generalize K4.ins q4 (.cells (encs [(6:Int),7]).toArray 3)=K5 at *
 refine kp_l hs ?_
 refine wkT ?_
 refine Zab (vs:=[.slice A14 2 c14,.slice (some ⟨q4,0,none⟩) 2 2]) rfl (ZcD (((((f14.inc lK1).inc lK2).inc lK3).inc lK4).inc lK5) sq4 (by decide)) ?_
 rintro v _ ⟨rfl,rfl⟩
 refine wkT ?_
 refine Zab (vs:=[vi (-4),vi 0]) rfl (Zi2 (-4) 0) ?_
 rintro v _ ⟨rfl,rfl⟩
 refine wkT ?_
 refine Zl4 (b:=decide ((-4:Int)=-4∧(0:Int)=0)) (xs:=#[vi (-4),vi 0]) (ys:=#[vi (-4),vi 0]) g49 (fun Q g H hq=>eqP (.inr s49) Q hq) rfl rfl ?_
 refine wkT ?_
 refine Zat (cs:=encs [(2:Int)]) (hs _) rfl fun q5 hq5=>?_
 have lK6:Inc K5 (K5.ins q5 (.cells (encs [(2:Int)]).toArray 3)):=Zai hq5
 have sq5:SlAt (K5.ins q5 (.cells (encs [(2:Int)]).toArray 3)) (.slice (some ⟨q5,0,none⟩) 1 1) [(2:Int)]:=Za3 (l:=[(2:Int)])
 generalize K5.ins q5 (.cells (encs [(2:Int)]).toArray 3)=K6 at *
 refine wkT ?_
 refine Zab (vs:=[.slice A47 1 c47,.slice (some ⟨q5,0,none⟩) 1 1]) rfl (ZcD ((((((g47.inc lK1).inc lK2).inc lK3).inc lK4).inc lK5).inc lK6) sq5 (by decide)) ?_
 rintro v _ ⟨rfl,rfl⟩
 refine wkT ?_
 exact⟨i0.trans ((((((ik.trans lK1).trans lK2).trans lK3).trans lK4).trans lK5).trans lK6),rfl⟩
end
end Go.Proofs
end
section
open Go Go.LL
namespace Go.Proofs
end Go.Proofs
end
section
open Go Go.LL
namespace Go.Proofs
end Go.Proofs
end
section
open Go Go.LL
namespace Go.LL
def TopG (P:Program)(f:FuncId)(fn:Func)(t:Nat)(v:Value)(fr:Frame)(cs:List Frame)(_:Hp):Prop:=
 cs=[]∧fr.mode=.returning∧fr.defers=[]∧(fr.fn=f∧fr.kind=.normal)∧P.funcs[fr.fn]? = some fn∧fn.results=#[.tmp t]∧fr.tmps.getD t undef=v
theorem Zif {fn:Func}{t:Nat}(h:fn.results=#[.tmp t])(tmps:Array Value):results fn tmps=pure (tmps.getD t undef):=by
 simp[results,h]
open Go.Conc (Knows Deaf touchAt QuitsD crowd woken Leavers Past)
def roW (w:World):Hp:=⟨fun b=>(w.heap[b]?).map fun o=>(o,false),[]⟩
theorem ZlS (w:World)(b:Nat):roW w b=(w.heap[b]?).map fun o=>(o,false):=rfl
theorem roW_le (w:World):(roW w).le w:=fun b o p h=>by
 rw[ZlS]at h
 obtain⟨x,hx,he⟩:=Option.map_eq_some_iff.1 h
 simp only[Prod.mk.injEq]at he
 rw[hx,he.1]
structure Kept0 (W W':World):Prop where
 os:Go.ConcM.OsLater W.os W'.os
 tape:W'.tape=W.tape
 out:W'.output=W.output
 size:W.heap.size<=W'.heap.size
 heap:∀ b,b<W.heap.size->W'.heap[b]? = W.heap[b]?
theorem run_top {p:Program}{f:FuncId}{fn:Func}{t:Nat}{v0:Value}{args:Array Value}{W:World}(hin:p.inits.idxOf? f=none)(h:Reach (prP p) (TopG p f fn t v0) (Frame.enter p f args .normal) [] (roW W)) :
  ∃ M last o w' t',runNT p (M+1) (Go.Conc.solo (Go.Conc.G (Frame.enter p f args .normal) []) W) #[]=(.ended o w',t')∧runN p M (Go.Conc.solo (Go.Conc.G (Frame.enter p f args .normal) []) W)=.next last ∧
   step p last=.ended o w'∧Go.Conc.Good p (fun v W'=>v=v0∧Kept0 W W') last o w' t':=by
 have hph:=ZlO (P:=prP p) rfl h
 have ha:Alone p (roW W) #[gor (Frame.enter p f args .normal) []] W #[] (fun _=>0):=by
  refine⟨Go.Conc.leavers_one p _,?_,roW_le W⟩
  exact⟨fun said=>by rintro⟨i,j,_,⟨a,b,ha,_⟩,_⟩;simp[Trace.act?]at ha,fun i a ha=>by simp[touchAt,Trace.act?]at ha,fun i g hg=>by simp[Trace.g?]at hg,rfl,by simp⟩
 obtain⟨k,gs',w',sl',t',q',H',fr',cs',h1,h2,h3,h4,h5⟩:=hph _ W none #[] _ ha rfl
 obtain⟨rfl,g1,g2,⟨g3,g3k⟩,g4,g5,g6⟩:=h5
 have hkeep:∀ w1,Go.Conc.AtRel w' w1->Kept0 W w1:=by
  rintro w1 ⟨d,rfl⟩
  exact⟨h4.out.os,h4.out.tape,h4.out.out,h4.grown,fun b hb=>h4.keep b hb fun o ho=>by
   rw[ZlS]at ho
   obtain⟨x,_,he⟩:=Option.map_eq_some_iff.1 ho
   simp at he⟩
 have hend:Go.Conc.Goes p true Go.Conc.AtRel (fun _ _ _=>False) (Go.Conc.AtEnd p (Zhe H' w'.heap.size) w'.heap.size (fun v W'=>v=v0∧Kept0 W W')) 0 (gor fr' []) w':=by
  intro w1 hw1
  refine⟨rfl,v0,#[],?_,by simp,rfl,hkeep w1 hw1⟩
  have hr:(results fn fr'.tmps).runT p w1 #[]=(.ok v0 w1,#[]):=by rw[Zif g5,g6];rfl
  have hin':p.inits.idxOf? fr'.fn=none:=by rw[g3];exact hin
  simp only[gor,stepG,g1,unwind,g2,g4,hr,GStep.after,doReturn,g3k,Array.append_empty,hin']
  simp[seen]
 obtain⟨N,last,o,w2,t2,e1,e2,e3,e4⟩:=Go.Conc.beside_ends (D:=fun _ _ _=>False) (fun _ _ _ h=>h.elim) h2 h3.leavers h3.past hend
 refine⟨k+N,last,o,w2,t2,?_,?_,e3,e4⟩
 ·have:=ZcS h1 e1
  rw[Nat.add_assoc];exact this
 ·have hk1:runN p k (Go.Conc.solo (Go.Conc.G (Frame.enter p f args .normal) []) W)=.next (crowd gs' w' sl'):=by
   rw[<-runNT_fst _ _ _ #[]]
   exact congrArg Prod.fst h1
  rw[runN_add,hk1]
  exact e2
end Go.LL
end
section
open Go Go.LL Go.Conc Go.ConcM
namespace Go.Proofs
section
variable  {H:Type}{enc:TypeId×Value->H}
theorem Zjl {a:Assume}{C:Checked}{os:Os}{f:FuncId}{fn:Func}{s:ChangeSpec}{F:Stop.Interp}{conds:List PathCond}{apart fresh handsOn:Bool}{X:World->Array Value->Prop}
  (hX:∀ (w w':World) (args:Array Value),w.heap=w'.heap->X w args->X w' args)
  (own:ownKnob C.prog.godebug=none) (started:os.Started) (hfn:C.prog.funcs[f]? = some fn)
  (witness:∃ (w:World) (tape:Tape) (i:Input),w.os=os∧(w.forCall tape i).Shaped C.prog∧i.vars=[]∧Input.okWide C.prog (w.forCall tape i) .any w.heap.size f i ∧
   ((s.pre enc C.prog fn conds apart (w.forCall tape i).memory i.args∧X (w.forCall tape i).memory i.args)∧sizedMet enc C.prog fn (OpenSpec.ofChange s) apart (w.forCall tape i).memory i.args)∧a.holds C.prog (lone (Frame.enter C.prog f i.args .normal) [] (w.forCall tape i)))
  (runs:∀ (W:World) (base:Nat) (args:Array Value) (ds gs:List (DataW H)) (before:List MemPlace),
   (∀ (j:Nat) t v,fn.params[j]? = some t->args[j]? = some v->Value.okWide C.prog W .any base t v) ->
   DataW.Whole enc C.prog fn.params.toList s.vars apart W args.toList ds gs before ->
   X W args ->
   ∃ M last o w' t',runNT C.prog (M+1) (solo (G (Frame.enter C.prog f args .normal) []) W) #[]=(.ended o w',t')∧runN C.prog M (solo (G (Frame.enter C.prog f args .normal) []) W)=.next last ∧
    step C.prog last=.ended o w'∧Conc.Good C.prog (fun v W'=>s.post enc C.prog fn apart fresh handsOn false W args v { W' with os:=W.os }∧OsLater W.os W'.os) last o w' t') :
  ReturnsInLeavingWide a C os f .any (fun w args=>(s.pre enc C.prog fn conds apart w args∧X w args)∧sizedMet enc C.prog fn (OpenSpec.ofChange s) apart w args) ((OpenSpec.ofChange s).postWith enc C.prog fn F (outsideKept [.timePasses]) apart fresh handsOn):=by
 refine returnsInLeavingWide_of_good own started witness ?_
 intro w tape i _ _ _ hok hpre hholds
 obtain⟨_,_,_,fn',hfn',_,_,_,_,hval⟩:=hok
 have e:fn'=fn:=Option.some.inj (hfn'.symm.trans hfn)
 subst e
 obtain⟨⟨⟨ds,gs,before,hw,hc⟩,hx⟩,hz⟩:=hpre
 have hw':=DataW.Whole.of_heap (w':=w.forCall tape i) (by rfl) hw
 obtain⟨M,last,o,w',t',h1,h2,h3,h4⟩:=runs (w.forCall tape i) w.heap.size i.args ds gs before hval hw' (hX _ _ _ (by rfl) hx)
 obtain⟨v,e,hp,r1,r2,r3,r4⟩:=h4
 exact⟨M,last,o,w',t',h1,h2,h3,v,e,postWith_blind (postWith_of_post hp.1 hp.2),r1,r2,r3,r4⟩
theorem ZfC {C:Checked}{os:Os}{f:FuncId}{fn:Func}{s:ChangeSpec}{conds:List PathCond}{apart:Bool}{X:World->Array Value->Prop}(w0:World)(args:Array Value)(fuel:Nat)(hos:w0.os=os)
  (hsh:(w0.forCall (fun _ _=>0) ⟨#[],args,[]⟩).Shaped C.prog)
  (hok:Input.okWideB C.prog (w0.forCall (fun _ _=>0) ⟨#[],args,[]⟩) f ⟨#[],args,[]⟩=true)
  (hpre:s.preB enc C.prog fn conds apart (w0.forCall (fun _ _=>0) ⟨#[],args,[]⟩).memory args fuel=true)
  (hsz:s.sizedB enc C.prog fn apart (w0.forCall (fun _ _=>0) ⟨#[],args,[]⟩).memory args fuel=true)
  (hx:X (w0.forCall (fun _ _=>0) ⟨#[],args,[]⟩).memory args) :
  ∃ (w:World) (tape:Tape) (i:Input),w.os=os∧(w.forCall tape i).Shaped C.prog∧i.vars=[]∧Input.okWide C.prog (w.forCall tape i) .any w.heap.size f i ∧
   ((s.pre enc C.prog fn conds apart (w.forCall tape i).memory i.args∧X (w.forCall tape i).memory i.args)∧sizedMet enc C.prog fn (OpenSpec.ofChange s) apart (w.forCall tape i).memory i.args)∧({ calm:=true }:Assume).holds C.prog (lone (Frame.enter C.prog f i.args .normal) [] (w.forCall tape i)):=
 ⟨w0,fun _ _=>0,⟨#[],args,[]⟩,hos,hsh,(Input.okWide_of_okWideB (base:=0) hok).1,(Input.okWide_of_okWideB hok).2,⟨⟨ChangeSpec.pre_of_preB hpre,hx⟩,sizedMet_of_sizedB hsz⟩,by
  simp only[Assume.holds]
  exact⟨by simp,fun _ _ _ _=>rfl,by simp,by simp,by simp⟩⟩
end
theorem tzOwn:ownKnob Tryz.prog.godebug=none:=by kernel_rfl
theorem ZlG:laidOutB Tryz.prog=true:=by kernel_rfl
end Go.Proofs
end
section
open Go Go.LL Go.Conc Go.ConcM
namespace Go.Proofs
open YthmnpenamnoniaaGreatDoor
theorem wShaped (os:Os)(args:Array Value):((World.doorLaid Tryz.prog 600 os).forCall (fun _ _=>0) ⟨#[],args,[]⟩).Shaped Tryz.prog:=World.shaped_of_RefB (by kernel_rfl) (by kernel_rfl)
end Go.Proofs
end
