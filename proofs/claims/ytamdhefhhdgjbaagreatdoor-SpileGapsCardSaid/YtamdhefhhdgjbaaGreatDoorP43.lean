/- proofs about Leango given: part P43; made by a program out of the longer texts in wip -/
import Derived.Test.YtamdhefhhdgjbaaGreatDoorP42
set_option linter.all false
section
open Go Go.LL
namespace Go.Proofs
def gapLs (b:Bk)(x:Boat):List Int:=(Zas b x).list.take b.pts.length
structure Q4 where
 m:Value
 (bf by_:Int)
 g:Value
instance:Enc Q4:=⟨4,fun q=>[q.m,vi q.bf,vi q.by_,q.g],fun _=>rfl⟩
structure RbAt (b:Bk)(H:Hp)(rows:List Q4)(xs:List Boat):Prop where
 len:rows.length=xs.length
 at_:∀ i (h:i<rows.length) (h':i<xs.length),rows[i].bf=xs[i].bf∧rows[i].by_=xs[i].by_∧SlAt H rows[i].g (gapLs b xs[i])
section
variable  {P:Prg}[Tz P][Loud P]{H:Hp}
set_option maxHeartbeats 4000000
set_option maxRecDepth 20000
end
end Go.Proofs
end
section
open Go Go.LL
namespace Go.Proofs
section
variable  {P:Prg}[Tz P][Loud P]{H:Hp}
set_option maxHeartbeats 4000000
set_option maxRecDepth 20000
end
end Go.Proofs
end
section
open Go Go.LL
namespace Go.Proofs
section
variable  {P:Prg}[Tz P][Loud P]{H:Hp}
set_option maxHeartbeats 4000000
set_option maxRecDepth 20000
end
end Go.Proofs
end
section
open Go Go.LL
namespace Go.Proofs
section
variable  {P:Prg}[Tz P][Loud P]{H:Hp}
set_option maxHeartbeats 4000000
set_option maxRecDepth 20000
end
end Go.Proofs
end
section
open Go Go.LL
namespace Go.Proofs
def exB:Bk:=⟨10,1,[⟨4,4,0,12,4⟩,⟨5,6,1,12,4⟩,⟨4,4,0,10,4⟩],[⟨2,6,7⟩]⟩
theorem ex1:snag exB=0:=by kernel_rfl
theorem ex2:ZaA exB [4,6,4] ⟨2,1⟩=0:=by
 rw[ZaA,if_neg (by rw[ex1];decide),if_neg (by show ¬ (Zbw exB [4,6,4] 0 99≠0);exact fun h=>h (by kernel_rfl)),if_pos]
 show (⟨2,1⟩:Slip)∈ZaC exB
 rw[show ZaC exB=[⟨0,0⟩,⟨1,-1⟩,⟨1,1⟩,⟨2,-1⟩,⟨2,1⟩] by kernel_rfl]
 simp
theorem ex3:(Zas exB (Zgk [4,6,4] ⟨2,1⟩)).list.take exB.pts.length=[6,4,7]:=by kernel_rfl
theorem ex4:(Zae exB).length=6:=by kernel_rfl
theorem ex5:((Zae exB).filter Boat.slipped).length=4:=by kernel_rfl
theorem ex6:Zah exB true=0:=by kernel_rfl
theorem ex7:whenL exB=[1,2]:=by kernel_rfl
theorem ex8:ZjU exB=[⟨1,1⟩,⟨2,1⟩]:=by kernel_rfl
theorem ex9:gapL exB 1=[4,5,6]:=by kernel_rfl
theorem ex10:gapL exB 2=[6,7]:=by kernel_rfl
theorem ex11:Zhw exB [6,5,6]=.tuple #[.agg #[vi (-4),vi 0],vb true,vi 0]:=by kernel_rfl
theorem ex12:roomV exB=.tuple #[vi 2,vi 6,vi 0]:=by kernel_rfl
theorem ex13:((Zae exB).filter (ZgD exB)).length=6:=by kernel_rfl
theorem ex14:ZfI exB=.tuple #[vi (-3),vb true,vi 0]:=by kernel_rfl
theorem ex15:ZiE exB=⟨-3,6⟩:=by kernel_rfl
theorem ex16:askF exB=(1,3):=by kernel_rfl
theorem ex17:ZkA exB ⟨2,6,6⟩=0:=by kernel_rfl
theorem ex18:(Zae (ckBk exB ⟨2,6,6⟩)).length=2∧snag (ckBk exB ⟨2,6,6⟩)=0:=by constructor<;>kernel_rfl
theorem ex19:((Zae (ckBk exB ⟨2,6,6⟩)).filter Boat.slipped).length=0∧Zah (ckBk exB ⟨2,6,6⟩) true=0:=by constructor<;>kernel_rfl
theorem ex20:ZfR exB 1 6 6=0:=by kernel_rfl
theorem ex21:(Zae (rdBk exB 1 6 6)).length=3∧snag (rdBk exB 1 6 6)=0:=by constructor<;>kernel_rfl
theorem ex22:Zhc exB 0=0:=by kernel_rfl
theorem ex23:(Zae (fmBk exB 0)).length=2∧snag (fmBk exB 0)=0:=by constructor<;>kernel_rfl
def exC:Bk:=ckBk (ckBk exB ⟨0,6,6⟩) ⟨0,5,5⟩
theorem ex24:snag exC=0∧Zc9 exC=false∧ZmQ exC=[2]:=by refine⟨?_,?_,?_⟩<;>kernel_rfl
end Go.Proofs
end
section
open Go Go.LL
namespace Go.Proofs
theorem exSl:Value.tuple #[vi (if Zah exB true=0 then Zhu ((Zae exB).filter Boat.slipped).length (Zae exB).length else 0),vi (Zah exB true)]=.tuple #[vi 0,vi 0]:=by rw[ex6,if_pos rfl,ex5,ex4];rfl
theorem exHad:Value.tuple #[vi (if Zah exB true=0 then Zhu ((Zae exB).filter (ZgD exB)).length (Zae exB).length else 0),vi (Zah exB true)]=.tuple #[vi 1,vi 0]:=by rw[ex6,if_pos rfl,ex13,ex4];rfl
theorem exMost:Value.tuple #[vi (if Zah exB true=0 then (ZiE exB).s else 0),vi (if Zah exB true=0 then (ZiE exB).k else 0),vi (Zah exB true)]=.tuple #[vi (-3),vi 6,vi 0]:=by rw[ex6,if_pos rfl,if_pos rfl,ex15]
theorem exAsk:Value.tuple #[vi (if Zah exB true=0 then (askF exB).1 else 0),vi (if Zah exB true=0 then (askF exB).2 else 0),vi (Zah exB true)]=.tuple #[vi 1,vi 3,vi 0]:=by rw[ex6,if_pos rfl,if_pos rfl,ex16]
theorem exBt {b:Bk}{n:Nat}(h1:(Zae b).length=n)(h2:snag b=0):Value.tuple #[vi (if snag b=0 then (Zae b).length else 0),vi (snag b)]=.tuple #[vi n,vi 0]:=by rw[h2,if_pos rfl,h1]
theorem exSl2:Value.tuple #[vi (if Zah (ckBk exB ⟨2,6,6⟩) true=0 then Zhu ((Zae (ckBk exB ⟨2,6,6⟩)).filter Boat.slipped).length (Zae (ckBk exB ⟨2,6,6⟩)).length else 0),vi (Zah (ckBk exB ⟨2,6,6⟩) true)]=.tuple #[vi 2,vi 0]:=by
 rw[ex19.2,if_pos rfl,ex19.1,ex18.1];rfl
theorem bkS0 {H:Hp}{v:Value}{s:Int}{b:Bk}(h:BkS H v s b)(hs:s=0):∃ pa pc ca cc,v=.tuple #[.agg #[vi b.op,vi b.sl,.slice pa b.pts.length pc,.slice ca b.cks.length cc],vi 0]∧BkAt H (.agg #[vi b.op,vi b.sl,.slice pa b.pts.length pc,.slice ca b.cks.length cc]) b:=by
 subst hs
 obtain⟨w,rfl,hw⟩:=h
 rw[if_pos rfl]at hw
 obtain⟨_,_,rfl,⟨pa,pc,rfl,h1⟩,⟨ca,cc,rfl,h2⟩⟩:=hw
 exact⟨pa,pc,ca,cc,rfl,_,_,rfl,⟨_,_,rfl,h1⟩,⟨_,_,rfl,h2⟩⟩
section
variable  {P:Prg}[Tz P][Loud P]{H:Hp}
set_option maxHeartbeats 4000000
set_option maxRecDepth 20000
theorem Zi6 (a b:Int):LL.Zag P 62 #[vi a,vi b] H fun v H'=>H=H'∧v=.agg #[vi a,vi b]:=by
 have hs:∀ g,P.still g=false:=Loud.loud
 refine IsN.m (isn c62) (args:=[vi a,vi b]) rfl ?_
 unfold n62
 refine wkT ?_
 exact⟨rfl,rfl⟩
theorem ZeE (a:Int):LL.Zag P 49 #[vi a] H fun v H'=>H=H'∧v=.agg #[vi a,vi a]:=by
 have hs:∀ g,P.still g=false:=Loud.loud
 refine IsN.m (isn c49) (args:=[vi a]) rfl ?_
 unfold n49
 refine wkT ?_
 refine Zab (vs:=[vi a,vi a]) rfl (Zi6 a a) ?_
 rintro v _ ⟨rfl,rfl⟩
 refine wkT ?_
 exact⟨rfl,rfl⟩
theorem listR_ok {u w:Value}{a b:List Int}(ha:SlAt H u a)(hb:SlAt H w b)(hl:a.length<=1000000)(hl2:b.length<=1000000):LL.Zag P 86 #[u,w] H fun v H'=>H=H'∧v=vb (decide (a=b)):=by
 refine IsN.m (isn c86) (args:=[u,w]) rfl ?_
 unfold n86
 refine wkT ?_
 refine Zab (vs:=[u,w]) rfl (Zia ha hb hl hl2) ?_
 rintro v _ ⟨rfl,rfl⟩
 refine wkT ?_
 exact⟨rfl,rfl⟩
theorem Zhl {bv:Value}{b:Bk}{c:SCk}(hb:BkAt H bv b)(hl2:b.cks.length<=1000000) :
  LL.Zag P 51 #[bv,.agg #[vi c.p,vi c.gl,vi c.gh]] H fun v H'=>Inc H H'∧BkAt H' v (ckBk b c):=by
 have hs:∀ g,P.still g=false:=Loud.loud
 obtain⟨pv,cv,rfl,hp,hc⟩:=hb
 obtain⟨Ap,cp,rfl,hp'⟩:=id hp
 obtain⟨Ac,cc,rfl,hc'⟩:=id hc
 refine IsN.m (isn c51) (args:=[.agg #[vi b.op,vi b.sl,.slice Ap b.pts.length cp,.slice Ac b.cks.length cc],.agg #[vi c.p,vi c.gl,vi c.gh]]) rfl ?_
 unfold n51
 refine wkT ?_
 refine Zdw (und u23) (tif t51) (hs _) fun r1 hr1=>?_
 have o1:Own H (H.ins r1 (.cells #[] 51)) 51 (.slice (some ⟨r1,0,none⟩) 0 0) ([]:List SCk) (some r1):=own_nil0 hr1
 have i1:Inc H (H.ins r1 (.cells #[] 51)):=Zaj hr1
 generalize H.ins r1 (.cells #[] 51)=H1 at *
 refine kp_l hs ?_
 refine wkT ?_
 refine ZbW (l':=b.cks) (und u23) (und u23) (tif t51) rfl (by decide) i1 o1 (hc.inc i1) (ZmR _) (by simp;omega) (by omega) rfl rfl (hs _) fun v2 H2 b2 i2 o2 _=>?_
 refine kp_l hs ?_
 refine wkT ?_
 refine Zat (cs:=[vi c.p,vi c.gl,vi c.gh]) (hs _) rfl fun r5 hr5=>?_
 refine kp_l hs ?_
 refine wkT ?_
 refine ZbW (l':=[c]) (und u23) (und u23) (tif t51) rfl (by decide) (i2.trans (Zaj hr5)) (o2.ins hr5) Zjc rfl (by simp;omega) (by omega) rfl rfl (hs _) fun v4 H4 b4 k1 k2 k3=>?_
 rw[List.nil_append]at k2
 have s4:=k2.sl
 obtain⟨A4,c4,rfl,_⟩:=id s4
 refine wkT ?_
 exact⟨k1,_,_,rfl,hp.inc k1,s4⟩
theorem Zlw:LL.Zag P 85 #[] H fun v H'=>Inc H H'∧∃ r1 r2,v=.agg #[vi 10,vi 1,.slice (some ⟨r1,0,none⟩) 3 3,.slice (some ⟨r2,0,none⟩) 1 1]∧BkAt H' v exB:=by
 have hs:∀ g,P.still g=false:=Loud.loud
 refine IsN.m (isn c85) (args:=[]) rfl ?_
 unfold n85
 refine wkT ?_
 refine Zab (vs:=[vi 4]) rfl (ZeE 4) ?_
 rintro v _ ⟨rfl,rfl⟩
 refine wkT ?_
 refine Zab (vs:=[vi 0,vi 12]) rfl (Zi6 0 12) ?_
 rintro v _ ⟨rfl,rfl⟩
 refine wkT ?_
 refine Zab (vs:=[vi 5,vi 6]) rfl (Zi6 5 6) ?_
 rintro v _ ⟨rfl,rfl⟩
 refine wkT ?_
 refine Zab (vs:=[vi 1,vi 12]) rfl (Zi6 1 12) ?_
 rintro v _ ⟨rfl,rfl⟩
 refine wkT ?_
 refine Zab (vs:=[vi 4]) rfl (ZeE 4) ?_
 rintro v _ ⟨rfl,rfl⟩
 refine wkT ?_
 refine Zab (vs:=[vi 0,vi 10]) rfl (Zi6 0 10) ?_
 rintro v _ ⟨rfl,rfl⟩
 refine wkT ?_
 refine Zat (cs:=encs exB.pts) (hs _) rfl fun r1 hr1=>?_
 have s1:SlAt (H.ins r1 (.cells (encs exB.pts).toArray 59)) (.slice (some ⟨r1,0,none⟩) 3 3) exB.pts:=Za4 (l:=exB.pts)
 have i1:Inc H (H.ins r1 (.cells (encs exB.pts).toArray 59)):=Zaj hr1
 generalize H.ins r1 (.cells (encs exB.pts).toArray 59)=H1 at *
 refine wkT ?_
 refine Zab (vs:=[vi 6,vi 7]) rfl (Zi6 6 7) ?_
 rintro v _ ⟨rfl,rfl⟩
 refine wkT ?_
 refine Zat (cs:=encs exB.cks) (hs _) rfl fun r2 hr2=>?_
 have s2:SlAt (H1.ins r2 (.cells (encs exB.cks).toArray 51)) (.slice (some ⟨r2,0,none⟩) 1 1) exB.cks:=Za4 (l:=exB.cks)
 have i2:Inc H1 (H1.ins r2 (.cells (encs exB.cks).toArray 51)):=Zaj hr2
 generalize H1.ins r2 (.cells (encs exB.cks).toArray 51)=H2 at *
 refine wkT ?_
 exact⟨i1.trans i2,r1,r2,rfl,_,_,rfl,s1.inc i2,s2⟩
end
end Go.Proofs
end
section
open Go Go.LL
namespace Go.Proofs
theorem exG1 {H H':Hp}{v:Value}(h:Inc H H'∧∃ w bb,v=.tuple #[w,vi (Zah exB (decide (0<=(1:Int)∧(1:Int)<exB.pts.length)))]∧Own H H' 3 w (if Zah exB (decide (0<=(1:Int)∧(1:Int)<exB.pts.length))=0 then gapL exB (1:Int).toNat else []) bb):Inc H H'∧∃ w,v=.tuple #[w,vi 0]∧SlAt H' w ([4,5,6]:List Int):=by
 obtain⟨h1,w,bb,e,hw⟩:=h
 have e6:Zah exB (decide (0<=(1:Int)∧(1:Int)<exB.pts.length))=0:=by kernel_rfl
 rw[e6]at e
 rw[if_pos e6,show gapL exB (1:Int).toNat=[4,5,6] from ex9]at hw
 exact⟨h1,w,e,hw.sl⟩
theorem exG2 {H H':Hp}{v:Value}(h:Inc H H'∧∃ w bb,v=.tuple #[w,vi (Zah exB (decide (0<=(2:Int)∧(2:Int)<exB.pts.length)))]∧Own H H' 3 w (if Zah exB (decide (0<=(2:Int)∧(2:Int)<exB.pts.length))=0 then gapL exB (2:Int).toNat else []) bb):Inc H H'∧∃ w,v=.tuple #[w,vi 0]∧SlAt H' w ([6,7]:List Int):=by
 obtain⟨h1,w,bb,e,hw⟩:=h
 have e6:Zah exB (decide (0<=(2:Int)∧(2:Int)<exB.pts.length))=0:=by kernel_rfl
 rw[e6]at e
 rw[if_pos e6,show gapL exB (2:Int).toNat=[6,7] from ex10]at hw
 exact⟨h1,w,e,hw.sl⟩
section
variable  {P:Prg}[Tz P][Loud P]{H:Hp}
theorem ZcF {u w:Value}{a:List Int}(ha:SlAt H u a)(hb:SlAt H w a)(hl:a.length<=1000000):LL.Zag P 86 #[u,w] H fun v H'=>H=H'∧v=vb true:=
 LL.Zag.mono (listR_ok ha hb hl hl) fun v H' h=>⟨h.1,h.2.trans (by rw[decide_eq_true rfl])⟩
set_option maxHeartbeats 8000000
set_option maxRecDepth 40000
theorem spiled_okP (hPP:P=PP)(hg:Za8 H):LL.Zag P 18 #[] H fun v H'=>Inc H H'∧v=vb true:=by
 have hs:∀ g,P.still g=false:=Loud.loud
 refine IsN.m (isn c18) (args:=[]) rfl ?_
 unfold n18
 refine wkT ?_
 refine Zab (vs:=[]) rfl Zlw ?_
 rintro v H1 ⟨i0,r1,r2,rfl,hb1⟩
 have hg1:Za8 H1:=CellsAt.inc hg i0
 have i1:Inc H1 H1:=.refl H1
 refine wkT ?_
 refine Zat (cs:=encs [(4:Int),6,4]) (hs _) rfl fun ra hra=>?_
 have j2:Inc H1 (H1.ins ra (.cells (encs [(4:Int),6,4]).toArray 3)):=Zaj hra
 have sra:SlAt (H1.ins ra (.cells (encs [(4:Int),6,4]).toArray 3)) (.slice (some ⟨ra,0,none⟩) 3 3) [(4:Int),6,4]:=Za4 (l:=[(4:Int),6,4])
 generalize H1.ins ra (.cells (encs [(4:Int),6,4]).toArray 3)=H2 at *
 have i2:=i1.trans j2
 refine wkT ?_
 refine Zab (vs:=[.agg #[vi 10,vi 1,.slice (some ⟨r1,0,none⟩) 3 3,.slice (some ⟨r2,0,none⟩) 1 1],.slice (some ⟨ra,0,none⟩) 3 3,ZbG ⟨2,1⟩]) rfl (LL.Zag.mono (Gaps_ok (l:=[4,6,4]) (k:=⟨2,1⟩) (hb1.inc i2) sra (CellsAt.inc hg1 i2) (by decide) (by decide) (by decide)) fun v H' h=>show Inc H2 H'∧∃ w,v=.tuple #[w,vi 0]∧SlAt H' w ([6,4,7]:List Int) from ⟨h.1,by obtain⟨_,w,e,hw⟩:=h;rw[ex2]at e;rw[gapsL,if_pos ex2,ex3]at hw;exact⟨w,e,hw⟩⟩) ?_
 rintro v H3 ⟨j3,w2,rfl,sl2⟩
 have i3:=i2.trans j3
 refine wkT ?_
 refine Zab (vs:=[.agg #[vi 10,vi 1,.slice (some ⟨r1,0,none⟩) 3 3,.slice (some ⟨r2,0,none⟩) 1 1]]) rfl (LL.Zag.mono (ZfC (hb1.inc i3) (CellsAt.inc hg1 i3) (by decide) (by decide)) fun v H' h=>show Inc H3 H'∧v=.tuple #[vi 6,vi 0] from ⟨h.1,h.2.trans (exBt ex4 ex1)⟩) ?_
 rintro v H4 ⟨j4,rfl⟩
 have i4:=i3.trans j4
 refine wkT ?_
 refine Zab (vs:=[.agg #[vi 10,vi 1,.slice (some ⟨r1,0,none⟩) 3 3,.slice (some ⟨r2,0,none⟩) 1 1]]) rfl (LL.Zag.mono (Zhi (hb1.inc i4) (CellsAt.inc hg1 i4) (by decide) (by decide)) fun v H' h=>show Inc H4 H'∧v=.tuple #[vi 0,vi 0] from ⟨h.1,h.2.trans exSl⟩) ?_
 rintro v H5 ⟨j5,rfl⟩
 have i5:=i4.trans j5
 refine wkT ?_
 refine Zab (vs:=[.agg #[vi 10,vi 1,.slice (some ⟨r1,0,none⟩) 3 3,.slice (some ⟨r2,0,none⟩) 1 1]]) rfl (LL.Zag.mono (When_ok (hb1.inc i5) (CellsAt.inc hg1 i5) (by decide) (by decide)) fun v H' h=>show Inc H5 H'∧∃ w,v=.tuple #[w,vi 0]∧SlAt H' w ([1,2]:List Int) from ⟨h.1,by obtain⟨_,w,bb,e,hw⟩:=h;rw[ex6]at e;rw[if_pos ex6,ex7]at hw;exact⟨w,e,hw.sl⟩⟩) ?_
 rintro v H6 ⟨j6,w8,rfl,sl8⟩
 have i6:=i5.trans j6
 refine wkT ?_
 refine Zab (vs:=[.agg #[vi 10,vi 1,.slice (some ⟨r1,0,none⟩) 3 3,.slice (some ⟨r2,0,none⟩) 1 1]]) rfl (LL.Zag.mono (ZkF (hb1.inc i6) (CellsAt.inc hg1 i6) (by decide) (by decide)) fun v H' h=>show Inc H6 H'∧∃ w,v=.tuple #[w,vi 0]∧SlAt H' w [(⟨1,1⟩:Slip),⟨2,1⟩] from ⟨h.1,by obtain⟨_,⟨h0,_⟩ | ⟨_,w,bb,e,hw⟩⟩:=h;exact absurd ex6 h0;rw[ex8]at hw;exact⟨w,e,hw.sl⟩⟩) ?_
 rintro v H7 ⟨j7,w10,rfl,sl10⟩
 have i7:=i6.trans j7
 refine wkT ?_
 refine Zab (vs:=[.agg #[vi 10,vi 1,.slice (some ⟨r1,0,none⟩) 3 3,.slice (some ⟨r2,0,none⟩) 1 1],vi 1]) rfl (LL.Zag.mono (Gap_ok (n:=1) (hb1.inc i7) (CellsAt.inc hg1 i7) (by decide) (by decide)) fun v H' h=>show Inc H7 H'∧∃ w,v=.tuple #[w,vi 0]∧SlAt H' w ([4,5,6]:List Int) from exG1 h) ?_
 rintro v H8 ⟨j8,w12,rfl,sl12⟩
 have i8:=i7.trans j8
 refine wkT ?_
 refine Zab (vs:=[.agg #[vi 10,vi 1,.slice (some ⟨r1,0,none⟩) 3 3,.slice (some ⟨r2,0,none⟩) 1 1],vi 2]) rfl (LL.Zag.mono (Gap_ok (n:=2) (hb1.inc i8) (CellsAt.inc hg1 i8) (by decide) (by decide)) fun v H' h=>show Inc H8 H'∧∃ w,v=.tuple #[w,vi 0]∧SlAt H' w ([6,7]:List Int) from exG2 h) ?_
 rintro v H9 ⟨j9,w14,rfl,sl14⟩
 have i9:=i8.trans j9
 refine wkT ?_
 refine Zat (cs:=encs [(6:Int),5,6]) (hs _) rfl fun rb hrb=>?_
 have j10:Inc H9 (H9.ins rb (.cells (encs [(6:Int),5,6]).toArray 3)):=Zaj hrb
 have srb:SlAt (H9.ins rb (.cells (encs [(6:Int),5,6]).toArray 3)) (.slice (some ⟨rb,0,none⟩) 3 3) [(6:Int),5,6]:=Za4 (l:=[(6:Int),5,6])
 generalize H9.ins rb (.cells (encs [(6:Int),5,6]).toArray 3)=H10 at *
 have i10:=i9.trans j10
 refine wkT ?_
 refine Zab (vs:=[.agg #[vi 10,vi 1,.slice (some ⟨r1,0,none⟩) 3 3,.slice (some ⟨r2,0,none⟩) 1 1],.slice (some ⟨rb,0,none⟩) 3 3]) rfl (LL.Zag.mono (Zm5 (l:=[6,5,6]) (hb1.inc i10) srb (CellsAt.inc hg1 i10) (by decide) (by decide) (by decide)) fun v H' h=>show Inc H10 H'∧v=.tuple #[.agg #[vi (-4),vi 0],vb true,vi 0] from ⟨h.1,h.2.trans ex11⟩) ?_
 rintro v H11 ⟨j11,rfl⟩
 have i11:=i10.trans j11
 refine wkT ?_
 refine Zab (vs:=[.agg #[vi 10,vi 1,.slice (some ⟨r1,0,none⟩) 3 3,.slice (some ⟨r2,0,none⟩) 1 1]]) rfl (LL.Zag.mono (Room_ok (hb1.inc i11) (CellsAt.inc hg1 i11) (by decide) (by decide)) fun v H' h=>show Inc H11 H'∧v=.tuple #[vi 2,vi 6,vi 0] from ⟨h.1,h.2.trans ex12⟩) ?_
 rintro v H12 ⟨j12,rfl⟩
 have i12:=i11.trans j12
 refine wkT ?_
 refine Zab (vs:=[.agg #[vi 10,vi 1,.slice (some ⟨r1,0,none⟩) 3 3,.slice (some ⟨r2,0,none⟩) 1 1]]) rfl (LL.Zag.mono (Had_ok (hb1.inc i12) (CellsAt.inc hg1 i12) (by decide) (by decide)) fun v H' h=>show Inc H12 H'∧v=.tuple #[vi 1,vi 0] from ⟨h.1,h.2.trans exHad⟩) ?_
 rintro v H13 ⟨j13,rfl⟩
 have i13:=i12.trans j13
 refine wkT ?_
 refine Zab (vs:=[.agg #[vi 10,vi 1,.slice (some ⟨r1,0,none⟩) 3 3,.slice (some ⟨r2,0,none⟩) 1 1]]) rfl (LL.Zag.mono (Zm2 (hb1.inc i13) (CellsAt.inc hg1 i13) (by decide) (by decide)) fun v H' h=>show Inc H13 H'∧v=.tuple #[vi (-3),vb true,vi 0] from ⟨h.1,h.2.trans ex14⟩) ?_
 rintro v H14 ⟨j14,rfl⟩
 have i14:=i13.trans j14
 refine wkT ?_
 refine Zab (vs:=[.agg #[vi 10,vi 1,.slice (some ⟨r1,0,none⟩) 3 3,.slice (some ⟨r2,0,none⟩) 1 1]]) rfl (LL.Zag.mono (Most_okP hPP (hb1.inc i14) (CellsAt.inc hg1 i14) (by decide) (by decide)) fun v H' h=>show Inc H14 H'∧v=.tuple #[vi (-3),vi 6,vi 0] from ⟨h.1,h.2.trans exMost⟩) ?_
 rintro v H15 ⟨j15,rfl⟩
 have i15:=i14.trans j15
 refine wkT ?_
 refine Zab (vs:=[.agg #[vi 10,vi 1,.slice (some ⟨r1,0,none⟩) 3 3,.slice (some ⟨r2,0,none⟩) 1 1]]) rfl (LL.Zag.mono (Ask_ok (hb1.inc i15) (CellsAt.inc hg1 i15) (by decide) (by decide)) fun v H' h=>show Inc H15 H'∧v=.tuple #[vi 1,vi 3,vi 0] from ⟨h.1,h.2.trans exAsk⟩) ?_
 rintro v H16 ⟨j16,rfl⟩
 have i16:=i15.trans j16
 refine wkT ?_
 refine Zab (vs:=[vi 6]) rfl (ZeE 6) ?_
 rintro v _ ⟨rfl,rfl⟩
 refine kp_l hs ?_
 refine wkT ?_
 refine Zab (vs:=[.agg #[vi 10,vi 1,.slice (some ⟨r1,0,none⟩) 3 3,.slice (some ⟨r2,0,none⟩) 1 1],.agg #[vi 2,vi 6,vi 6]]) rfl (LL.Zag.mono (Check_ok (c:=⟨2,6,6⟩) (hb1.inc i16) (CellsAt.inc hg1 i16) (by decide) (by decide)) fun v H' h=>show Inc H16 H'∧∃ pa pc ca cc,v=.tuple #[.agg #[vi 10,vi 1,.slice pa 3 pc,.slice ca 2 cc],vi 0]∧BkAt H' (.agg #[vi 10,vi 1,.slice pa 3 pc,.slice ca 2 cc]) (ckBk exB ⟨2,6,6⟩) from ⟨h.1,bkS0 h.2 ex17⟩) ?_
 rintro v H17 ⟨j17,pa,pc,ca,cc,rfl,hbc⟩
 have i17:=i16.trans j17
 refine kp_l hs ?_
 refine wkT ?_
 refine Zab (vs:=[.agg #[vi 10,vi 1,.slice pa 3 pc,.slice ca 2 cc]]) rfl (LL.Zag.mono (ZfC hbc (CellsAt.inc hg1 i17) (by decide) (by decide)) fun v H' h=>show Inc H17 H'∧v=.tuple #[vi 2,vi 0] from ⟨h.1,h.2.trans (exBt ex18.1 ex18.2)⟩) ?_
 rintro v H18 ⟨j18,rfl⟩
 have i18:=i17.trans j18
 refine wkT ?_
 refine Zab (vs:=[.agg #[vi 10,vi 1,.slice pa 3 pc,.slice ca 2 cc]]) rfl (LL.Zag.mono (Zhi (hbc.inc j18) (CellsAt.inc hg1 i18) (by decide) (by decide)) fun v H' h=>show Inc H18 H'∧v=.tuple #[vi 2,vi 0] from ⟨h.1,h.2.trans exSl2⟩) ?_
 rintro v H19 ⟨j19,rfl⟩
 have i19:=i18.trans j19
 refine wkT ?_
 refine Zab (vs:=[vi 6]) rfl (ZeE 6) ?_
 rintro v _ ⟨rfl,rfl⟩
 refine kp_l hs ?_
 refine wkT ?_
 refine Zab (vs:=[.agg #[vi 10,vi 1,.slice (some ⟨r1,0,none⟩) 3 3,.slice (some ⟨r2,0,none⟩) 1 1],vi 1,.agg #[vi 6,vi 6]]) rfl (LL.Zag.mono (Read_ok (n:=1) (xl:=6) (xh:=6) (hb1.inc i19) (CellsAt.inc hg1 i19) (by decide) (by decide)) fun v H' h=>show Inc H19 H'∧∃ pa pc ca cc,v=.tuple #[.agg #[vi 10,vi 1,.slice pa 3 pc,.slice ca 1 cc],vi 0]∧BkAt H' (.agg #[vi 10,vi 1,.slice pa 3 pc,.slice ca 1 cc]) (rdBk exB 1 6 6) from ⟨h.1,bkS0 h.2 ex20⟩) ?_
 rintro v H20 ⟨j20,pa2,pc2,ca2,cc2,rfl,hbd⟩
 have i20:=i19.trans j20
 refine kp_l hs ?_
 refine wkT ?_
 refine Zab (vs:=[.agg #[vi 10,vi 1,.slice pa2 3 pc2,.slice ca2 1 cc2]]) rfl (LL.Zag.mono (ZfC hbd (CellsAt.inc hg1 i20) (by decide) (by decide)) fun v H' h=>show Inc H20 H'∧v=.tuple #[vi 3,vi 0] from ⟨h.1,h.2.trans (exBt ex21.1 ex21.2)⟩) ?_
 rintro v H21 ⟨j21,rfl⟩
 have i21:=i20.trans j21
 refine wkT ?_
 refine Zab (vs:=[.agg #[vi 10,vi 1,.slice (some ⟨r1,0,none⟩) 3 3,.slice (some ⟨r2,0,none⟩) 1 1],vi 0]) rfl (LL.Zag.mono (Firm_ok (n:=0) (hb1.inc i21) (CellsAt.inc hg1 i21) (by decide) (by decide)) fun v H' h=>show Inc H21 H'∧∃ pa pc ca cc,v=.tuple #[.agg #[vi 10,vi 0,.slice pa 3 pc,.slice ca 1 cc],vi 0]∧BkAt H' (.agg #[vi 10,vi 0,.slice pa 3 pc,.slice ca 1 cc]) (fmBk exB 0) from ⟨h.1,bkS0 h.2 ex22⟩) ?_
 rintro v H22 ⟨j22,pa3,pc3,ca3,cc3,rfl,hbe⟩
 have i22:=i21.trans j22
 refine wkT ?_
 refine Zab (vs:=[.agg #[vi 10,vi 0,.slice pa3 3 pc3,.slice ca3 1 cc3]]) rfl (LL.Zag.mono (ZfC hbe (CellsAt.inc hg1 i22) (by decide) (by decide)) fun v H' h=>show Inc H22 H'∧v=.tuple #[vi 2,vi 0] from ⟨h.1,h.2.trans (exBt ex23.1 ex23.2)⟩) ?_
 rintro v H23 ⟨j23,rfl⟩
 have i23:=i22.trans j23
 refine wqT ?_
 have g2:=((((((((((((((((((((sl2.inc j4).inc j5).inc j6).inc j7).inc j8).inc j9).inc j10).inc j11).inc j12).inc j13).inc j14).inc j15).inc j16).inc j17).inc j18).inc j19).inc j20).inc j21).inc j22).inc j23)
 have g8:=(((((((((((((((((sl8.inc j7).inc j8).inc j9).inc j10).inc j11).inc j12).inc j13).inc j14).inc j15).inc j16).inc j17).inc j18).inc j19).inc j20).inc j21).inc j22).inc j23)
 have g10:=((((((((((((((((sl10.inc j8).inc j9).inc j10).inc j11).inc j12).inc j13).inc j14).inc j15).inc j16).inc j17).inc j18).inc j19).inc j20).inc j21).inc j22).inc j23)
 have g12:=(((((((((((((((sl12.inc j9).inc j10).inc j11).inc j12).inc j13).inc j14).inc j15).inc j16).inc j17).inc j18).inc j19).inc j20).inc j21).inc j22).inc j23)
 have g14:=((((((((((((((sl14.inc j10).inc j11).inc j12).inc j13).inc j14).inc j15).inc j16).inc j17).inc j18).inc j19).inc j20).inc j21).inc j22).inc j23)
 obtain⟨A2,c2,rfl,_⟩:=id g2
 obtain⟨A8,c8,rfl,_⟩:=id g8
 obtain⟨A10,c10,rfl,_⟩:=id g10
 obtain⟨A12,c12,rfl,_⟩:=id g12
 obtain⟨A14,c14,rfl,_⟩:=id g14
 refine ZbZ (ι:=Option Addr×Nat) (fun s H'=>Inc H23 H'∧SlAt H' (.slice s.1 1 s.2) [(2:Int)]) (fun s=>[(0,vb false),(2,.slice A2 3 c2),(3,vi 0),(4,vi 6),(5,vi 0),(6,vi 0),(7,vi 0),(8,.slice A8 2 c8),(9,vi 0),(10,.slice A10 2 c10),(11,vi 0),(12,.slice A12 3 c12),(13,vi 0),(14,.slice A14 2 c14),(15,vi 0),(16,vi 0),(17,vb true),(18,vi 0),(19,vi 2),(20,vi 6),(21,vi 0),(22,vi 1),(23,vi 0),(24,vi (-3)),(25,vb true),(26,vi 0),(27,vi (-3)),(28,vi 6),(29,vi 0),(30,vi 1),(31,vi 3),(32,vi 0),(34,vi 0),(35,vi 2),(36,vi 0),(37,vi 2),(38,vi 0),(40,vi 0),(41,vi 3),(42,vi 0),(44,vi 0),(45,vi 2),(46,vi 0),(47,.slice s.1 1 s.2),(48,vi 0)]) (fun _=>[(16,[vi (-4),vi 0])]) ?_ ?_
 ·refine wkT ?_
  refine Zab (vs:=[vi 6]) rfl (ZeE 6) ?_
  rintro v _ ⟨rfl,rfl⟩
  refine kp_l hs ?_
  refine wkT ?_
  refine Zab (vs:=[.agg #[vi 10,vi 1,.slice (some ⟨r1,0,none⟩) 3 3,.slice (some ⟨r2,0,none⟩) 1 1],.agg #[vi 0,vi 6,vi 6]]) rfl (Zhl (c:=⟨0,6,6⟩) (hb1.inc i23) (by decide)) ?_
  rintro v K1 ⟨k1,hk1⟩
  obtain⟨_,_,rfl,⟨pa4,pc4,rfl,_⟩,⟨ca4,cc4,rfl,_⟩⟩:=id hk1
  refine wkT ?_
  refine Zab (vs:=[vi 5]) rfl (ZeE 5) ?_
  rintro v _ ⟨rfl,rfl⟩
  refine wkT ?_
  refine Zab (vs:=[_,.agg #[vi 0,vi 5,vi 5]]) rfl (Zhl (c:=⟨0,5,5⟩) hk1 (by decide)) ?_
  rintro v K2 ⟨k2,hk2⟩
  obtain⟨_,_,rfl,⟨pa5,pc5,rfl,_⟩,⟨ca5,cc5,rfl,_⟩⟩:=id hk2
  refine wkT ?_
  refine Zab (vs:=[_]) rfl (Clash_ok (b:=exC) hk2 (CellsAt.inc hg1 ((i23.trans k1).trans k2)) (by decide) (by decide)) ?_
  rintro v K3 ⟨k3,w,rfl,hw⟩
  rw[if_pos ⟨ex24.1,ex24.2.1⟩,ex24.2.2]at hw
  rw[ex24.1]
  obtain⟨A47,c47,rfl,_⟩:=id hw
  refine wkT ?_
  exact⟨(A47,c47),⟨(k1.trans k2).trans k3,hw⟩,⟨rfl,rfl,rfl,rfl,rfl,rfl,rfl,rfl,rfl,rfl,rfl,rfl,rfl,rfl,rfl,rfl,rfl,rfl,rfl,rfl,rfl,rfl,rfl,rfl,rfl,rfl,rfl,rfl,rfl,rfl,rfl,rfl,rfl,rfl,rfl,rfl,rfl,rfl,rfl,rfl,rfl,rfl,rfl,rfl,rfl,trivial⟩,⟨rfl,trivial⟩,rfl⟩
 rintro⟨A47,c47⟩ K ⟨kk,g47⟩
 have f2:=g2.inc kk
 have f8:=g8.inc kk
 have f10:=g10.inc kk
 have f12:=g12.inc kk
 have f14:=g14.inc kk
 have ik:=i23.trans kk
 refine wkT ?_
 refine Zat (cs:=encs [(6:Int),4,7]) (hs _) rfl fun q0 hq0=>?_
 have lK1:Inc K (K.ins q0 (.cells (encs [(6:Int),4,7]).toArray 3)):=Zaj hq0
 have sq0:SlAt (K.ins q0 (.cells (encs [(6:Int),4,7]).toArray 3)) (.slice (some ⟨q0,0,none⟩) 3 3) [(6:Int),4,7]:=Za4 (l:=[(6:Int),4,7])
 generalize K.ins q0 (.cells (encs [(6:Int),4,7]).toArray 3)=K1 at *
 refine kp_l hs ?_
 refine wkT ?_
 refine Zab (vs:=[.slice A2 3 c2,.slice (some ⟨q0,0,none⟩) 3 3]) rfl (ZcF (f2.inc lK1) sq0 (by decide)) ?_
 rintro v _ ⟨rfl,rfl⟩
 refine wkT ?_
 refine Zat (cs:=encs [(1:Int),2]) (hs _) rfl fun q1 hq1=>?_
 have lK2:Inc K1 (K1.ins q1 (.cells (encs [(1:Int),2]).toArray 3)):=Zaj hq1
 have sq1:SlAt (K1.ins q1 (.cells (encs [(1:Int),2]).toArray 3)) (.slice (some ⟨q1,0,none⟩) 2 2) [(1:Int),2]:=Za4 (l:=[(1:Int),2])
 generalize K1.ins q1 (.cells (encs [(1:Int),2]).toArray 3)=K2 at *
 refine kp_l hs ?_
 refine wkT ?_
 refine Zab (vs:=[.slice A8 2 c8,.slice (some ⟨q1,0,none⟩) 2 2]) rfl (ZcF ((f8.inc lK1).inc lK2) sq1 (by decide)) ?_
 rintro v _ ⟨rfl,rfl⟩
 refine wkT ?_
 refine Zat (cs:=encs [(⟨1,1⟩:Slip),⟨2,1⟩]) (hs _) rfl fun q2 hq2=>?_
 have lK3:Inc K2 (K2.ins q2 (.cells (encs [(⟨1,1⟩:Slip),⟨2,1⟩]).toArray 70)):=Zaj hq2
 have sq2:SlAt (K2.ins q2 (.cells (encs [(⟨1,1⟩:Slip),⟨2,1⟩]).toArray 70)) (.slice (some ⟨q2,0,none⟩) 2 2) [(⟨1,1⟩:Slip),⟨2,1⟩]:=Za4 (l:=[(⟨1,1⟩:Slip),⟨2,1⟩])
 generalize K2.ins q2 (.cells (encs [(⟨1,1⟩:Slip),⟨2,1⟩]).toArray 70)=K3 at *
 refine kp_l hs ?_
 refine wkT ?_
 refine Zab (vs:=[.slice A10 2 c10,.slice (some ⟨q2,0,none⟩) 2 2]) rfl (Zi3 (((f10.inc lK1).inc lK2).inc lK3) sq2 (by decide) (by decide)) ?_
 rintro v _ ⟨rfl,hv,_⟩
 obtain rfl:=hv rfl
 refine wkT ?_
 refine Zat (cs:=encs [(4:Int),5,6]) (hs _) rfl fun q3 hq3=>?_
 have lK4:Inc K3 (K3.ins q3 (.cells (encs [(4:Int),5,6]).toArray 3)):=Zaj hq3
 have sq3:SlAt (K3.ins q3 (.cells (encs [(4:Int),5,6]).toArray 3)) (.slice (some ⟨q3,0,none⟩) 3 3) [(4:Int),5,6]:=Za4 (l:=[(4:Int),5,6])
 generalize K3.ins q3 (.cells (encs [(4:Int),5,6]).toArray 3)=K4 at *
 refine kp_l hs ?_
 refine wkT ?_
 refine Zab (vs:=[.slice A12 3 c12,.slice (some ⟨q3,0,none⟩) 3 3]) rfl (ZcF ((((f12.inc lK1).inc lK2).inc lK3).inc lK4) sq3 (by decide)) ?_
 rintro v _ ⟨rfl,rfl⟩
 refine wkT ?_
 refine Zat (cs:=encs [(6:Int),7]) (hs _) rfl fun q4 hq4=>?_
 have lK5:Inc K4 (K4.ins q4 (.cells (encs [(6:Int),7]).toArray 3)):=Zaj hq4
 have sq4:SlAt (K4.ins q4 (.cells (encs [(6:Int),7]).toArray 3)) (.slice (some ⟨q4,0,none⟩) 2 2) [(6:Int),7]:=Za4 (l:=[(6:Int),7])
 generalize K4.ins q4 (.cells (encs [(6:Int),7]).toArray 3)=K5 at *
 refine kp_l hs ?_
 refine wkT ?_
 refine Zab (vs:=[.slice A14 2 c14,.slice (some ⟨q4,0,none⟩) 2 2]) rfl (ZcF (((((f14.inc lK1).inc lK2).inc lK3).inc lK4).inc lK5) sq4 (by decide)) ?_
 rintro v _ ⟨rfl,rfl⟩
 refine wkT ?_
 refine Zab (vs:=[vi (-4),vi 0]) rfl (Zi6 (-4) 0) ?_
 rintro v _ ⟨rfl,rfl⟩
 refine wkT ?_
 refine Zl8 (b:=decide ((-4:Int)=-4∧(0:Int)=0)) (xs:=#[vi (-4),vi 0]) (ys:=#[vi (-4),vi 0]) g49 (fun Q g H hq=>eqP (.inr s49) Q hq) rfl rfl ?_
 refine wkT ?_
 refine Zat (cs:=encs [(2:Int)]) (hs _) rfl fun q5 hq5=>?_
 have lK6:Inc K5 (K5.ins q5 (.cells (encs [(2:Int)]).toArray 3)):=Zaj hq5
 have sq5:SlAt (K5.ins q5 (.cells (encs [(2:Int)]).toArray 3)) (.slice (some ⟨q5,0,none⟩) 1 1) [(2:Int)]:=Za4 (l:=[(2:Int)])
 generalize K5.ins q5 (.cells (encs [(2:Int)]).toArray 3)=K6 at *
 refine wkT ?_
 refine Zab (vs:=[.slice A47 1 c47,.slice (some ⟨q5,0,none⟩) 1 1]) rfl (ZcF ((((((g47.inc lK1).inc lK2).inc lK3).inc lK4).inc lK5).inc lK6) sq5 (by decide)) ?_
 rintro v _ ⟨rfl,rfl⟩
 refine wkT ?_
 exact⟨i0.trans ((((((ik.trans lK1).trans lK2).trans lK3).trans lK4).trans lK5).trans lK6),rfl⟩
end
end Go.Proofs
end
section
open Go Go.LL
namespace Go.Proofs
end Go.Proofs
end
section
open Go Go.LL
namespace Go.Proofs
section
variable  {P:Prg}[Tz P][Loud P]{H:Hp}
set_option maxHeartbeats 8000000
set_option maxRecDepth 40000
end
end Go.Proofs
end
