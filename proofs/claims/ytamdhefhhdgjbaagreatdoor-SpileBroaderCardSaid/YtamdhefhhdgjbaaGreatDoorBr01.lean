/- proofs about Leango given: part Br1; made by a program out of the longer texts in wip -/
import Derived.Test.YtamdhefhhdgjbaaGreatDoorBr00
set_option linter.all false
section
open Go Go.LL
namespace Go.Proofs
theorem WaK (x y:Int):∀ (l:List SPt) (i:Nat) (hi:i<l.length) (rest:List Value),ZaN (encs l++rest) (i * 5+2) [vi x,vi y]=encs (l.set i { l[i]with bl:=x,bh:=y })++rest
 | [],i,hi,_=>by simp at hi
 | p :: l,0,hi,rest=>by simp[encs,Enc.enc,ZaN]
 | p :: l,i+1,hi,rest=>by
  have ih:=WaK x y l i (by simpa using hi) rest
  have e:encs (p :: l)++rest=Enc.enc p++(encs l++rest):=by simp[encs]
  rw[e,show (i+1) * 5+2=5+(i * 5+2) by omega,ZkO (n:=5) (Enc.len p),ih]
  simp[encs]
theorem sl_at {α:Type}[Enc α]{H:Hp}{r cap:Nat}{l:List α}{rest:List Value}{E:TypeId}(h:H r=some (.cells (encs l++rest).toArray E (0,0),true)):SlAt H (.slice (some ⟨r,0,none⟩) l.length cap) l:=
 ⟨_,cap,rfl,fun _=>⟨_,rfl,ZbK (Zan h)⟩⟩
theorem own_at {H0 H:Hp}{v:Value}{l:List SPt}{bb:Option Nat}(h:Own H0 H 59 v l bb)(hne:0<l.length):∃ r cap rest,v=.slice (some ⟨r,0,none⟩) l.length cap∧H r=some (.cells (encs l++rest).toArray 59 (0,0),true)∧H0 r=none:=by
 obtain⟨q0,⟨q1,q2,q3⟩ | ⟨r,cap,rest,rfl,rfl,q3,q4,q5⟩⟩:=h.own
 ·omega
 ·exact⟨r,cap,rest,rfl,q3,h.fresh r rfl⟩
def brF (b:Bk)(l:List U16)(i:Nat):SPt:={ ptAt b i with bl:=max 0 ((ptAt b i).bl-(Zgj l i).tmod 5),bh:=min 199 ((ptAt b i).bh+((Zgj l i).tdiv 5).tmod 5) }
theorem br_rg (l:List U16)(i:Nat):(0<=(Zgj l i).tmod 5∧(Zgj l i).tmod 5<5)∧(0<=((Zgj l i).tdiv 5).tmod 5∧((Zgj l i).tdiv 5).tmod 5<5):=by
 have:=WaQ l i
 exact⟨Wa5 this.1 (by decide),Wa5 (Int.tdiv_nonneg this.1 (by decide)) (by decide)⟩
theorem pt_rg {b:Bk}(v:Zeo b){i:Nat}(hi:i<b.pts.length):(0<=(ptAt b i).ml∧(ptAt b i).ml<=(ptAt b i).mh∧(ptAt b i).mh<=99)∧(ptAt b i).mh-(ptAt b i).ml<3∧(0<=(ptAt b i).bl∧(ptAt b i).bl<=(ptAt b i).bh∧(ptAt b i).bh<=199)∧(0<=(ptAt b i).w∧(ptAt b i).w<=199):=by
 have:=v.pts i hi
 rwa [show b.pts[i]=ptAt b i from (Zbd hi _).symm]at this
theorem br_valid {b:Bk}(v:Zeo b)(l:List U16):Zeo (ptsB b (brF b l)):=Wa1 v fun i hi=>by
 obtain⟨h1,h2,h3,h4⟩:=pt_rg v hi
 obtain⟨g1,g2⟩:=br_rg l i
 refine⟨h1,h2,?_,h4⟩
 show 0<=max 0 ((ptAt b i).bl-(Zgj l i).tmod 5)∧max 0 ((ptAt b i).bl-(Zgj l i).tmod 5)<=min 199 ((ptAt b i).bh+((Zgj l i).tdiv 5).tmod 5)∧min 199 ((ptAt b i).bh+((Zgj l i).tdiv 5).tmod 5)<=199
 omega
theorem br_wider {b:Bk}(v:Zeo b)(l:List U16):WaH b (ptsB b (brF b l)) where
 op:=rfl
 sl:=rfl
 cks:=rfl
 n:=Wam b _
 ml:=fun i hi=>by rw[WaF (f:=brF b l) hi];exact⟨rfl,rfl⟩
 w:=fun i hi=>by rw[WaF (f:=brF b l) hi];rfl
 b:=fun i hi=>by
  rw[WaF (f:=brF b l) hi]
  obtain⟨h1,h2,h3,h4⟩:=pt_rg v hi
  obtain⟨g1,g2⟩:=br_rg l i
  show max 0 ((ptAt b i).bl-(Zgj l i).tmod 5)<=(ptAt b i).bl∧(ptAt b i).bh<=min 199 ((ptAt b i).bh+((Zgj l i).tdiv 5).tmod 5)
  omega
theorem ptE (p:SPt):Enc.enc p=[vi p.ml,vi p.mh,vi p.bl,vi p.bh,vi p.w]:=rfl
section
variable  {P:Prg}[Tz P][Loud P]{H:Hp}
set_option maxHeartbeats 8000000
set_option maxRecDepth 20000
theorem Wa3 {bv lv:Value}{b:Bk}{l:List U16}(val:Zeo b)(hb:BkAt H bv b)(hl:SlAt H lv l):LL.Zag P 63 #[bv,lv] H fun v H'=>Inc H H'∧BkAt H' v (ptsB b (brF b l)):=by
 have hs:∀ g,P.still g=false:=Loud.loud
 have hn:=val.n
 obtain⟨pv,cv,rfl,hp,hc⟩:=hb
 obtain⟨Ap,cp,rfl,hp'⟩:=id hp
 obtain⟨Ac,cc,rfl,hc'⟩:=id hc
 refine IsN.m (isn c63) (args:=[.agg #[vi b.op,vi b.sl,.slice Ap b.pts.length cp,.slice Ac b.cks.length cc],lv]) rfl ?_
 unfold n63
 refine wkT ?_
 refine Zdw (und u22) (tif t59) (hs _) fun r1 hr1=>?_
 have o1:Own H (H.ins r1 (.cells #[] 59)) 59 (.slice (some ⟨r1,0,none⟩) 0 0) ([]:List SPt) (some r1):=own_nil0 hr1
 have i1:Inc H (H.ins r1 (.cells #[] 59)):=Zaj hr1
 generalize H.ins r1 (.cells #[] 59)=H1 at *
 refine wkT ?_
 refine ZbW (l':=b.pts) (und u22) (und u22) (tif t59) rfl (by decide) i1 o1 (hp.inc i1) (pts_one _) (by simp;omega) (by omega) rfl rfl (hs _) fun v2 H2 b2 i2 o2 _=>?_
 rw[List.nil_append]at o2
 obtain⟨r,cap,rest,rfl,q3,q0⟩:=own_at o2 (by omega)
 refine wkT ?_
 refine ZaX b.pts.length (fun j H'=>Inc H H'∧H' r=some (.cells (encs (updP b (brF b l) j)++rest).toArray 59 (0,0),true)) (fun j=>[(1,lv),(4,vi 0),(5,vi 0),(6,vi j)]) (fun _=>[(4,[vi 0,vi 0,.slice none 0 0,.slice none 0 0]),(5,[vi b.op,vi b.sl,.slice (some ⟨r,0,none⟩) b.pts.length cap,.slice Ac b.cks.length cc])]) ⟨i2,by rw[upd_zero];exact q3⟩ ⟨rfl,rfl,rfl,rfl,trivial⟩ ⟨rfl,rfl,trivial⟩ ?_
 rintro j H3 hj ⟨i3,q⟩
 have hsl:SlAt H3 (.slice (some ⟨r,0,none⟩) b.pts.length cap) (updP b (brF b l) j):=by
  have:=sl_at (cap:=cap) q
  rwa [Wac]at this
 refine wkT ?_
 refine wiT (fun h1=>?_) (fun h1=>?_)
 ·have hj':j<b.pts.length:=by omega
  have hju:j<(updP b (brF b l) j).length:=by rw[Wac];exact hj'
  have hrow:(updP b (brF b l) j)[j]=ptAt b j:=by rw[WaD,if_neg (by omega)]
  obtain⟨_,_,h3,_⟩:=pt_rg val hj'
  obtain⟨g1,g2⟩:=br_rg l j
  have hstep:=upd_set b (brF b l) (j:=j)
  have hsp:=fun x y=>WaK x y (updP b (brF b l) j) j hju rest
  have hll:(encs (updP b (brF b l) j)).length=b.pts.length * 5:=by rw[Zcm,Wac];rfl
  refine wkT ?_
  refine ZaE hsl rfl rfl rfl (i:=j) hju fun a ha=>?_
  rw[hrow,ptE]at ha
  refine wkT ?_
  refine Zao (cs:=[vi (ptAt b j).bl,vi (ptAt b j).bh]) (hs _) rfl (ZbK (ds:=[vi (ptAt b j).w]) (Zlk (n:=2) ha rfl)) rfl ?_
  refine wkT ?_
  refine Zab (vs:=[lv,vi j]) rfl (Choice_ok (hl.inc i3)) ?_
  rintro v _ ⟨rfl,rfl⟩
  refine wkT ?_
  refine om_rem rfl rfl (by decide) ?_
  refine wkT ?_
  refine om_max rfl rfl ?_
  refine wkT ?_
  refine Zab (vs:=[lv,vi j]) rfl (Choice_ok (hl.inc i3)) ?_
  rintro v _ ⟨rfl,rfl⟩
  refine wkT ?_
  refine ZfX rfl rfl (by decide) ?_ ?_
  ·have:=WaQ l j
   have e:=Int.tdiv_nonneg (a:=Zgj l j) (b:=5) this.1 (by decide)
   have e2:=Int.tdiv_le_self (a:=Zgj l j) (b:=5) this.1
   exact⟨by omega,by omega⟩
  refine wkT ?_
  refine om_rem rfl rfl (by decide) ?_
  refine wkT ?_
  refine om_min rfl rfl ?_
  refine wkT ?_
  refine Zab (vs:=[_,_]) rfl (Zi6 _ _) ?_
  rintro v _ ⟨rfl,rfl⟩
  refine wkT ?_
  refine ZcY rfl rfl hj' ?_
  refine wkT ?_
  have hadd:((⟨r,0,none⟩:Addr).add (j * 5)).add 2=⟨r,j * 5+2,none⟩:=by rw[Zm0,Zm0,Nat.zero_add]
  rw[hadd]
  refine Zd6 (v:=.agg #[vi (max 0 ((ptAt b j).bl-(Zgj l j).tmod 5)),vi (min 199 ((ptAt b j).bh+((Zgj l j).tdiv 5).tmod 5))]) (cs:=encs (updP b (brF b l) j)++rest) (tif t49) rfl rfl q rfl (by rw[List.length_append,hll];omega) rfl (hs _) ?_
  have e5:ZaN (encs (updP b (brF b l) j)++rest) (j * 5+2) (Value.cells (.agg #[vi (max 0 ((ptAt b j).bl-(Zgj l j).tmod 5)),vi (min 199 ((ptAt b j).bh+((Zgj l j).tdiv 5).tmod 5))])).toList=encs (updP b (brF b l) (j+1))++rest:=by
   rw[<-hstep]
   show ZaN _ _ [vi _,vi _]=_
   rw[hsp,hrow];rfl
  rw[e5]
  refine wkT ?_
  exact for_next (I:=fun j H'=>Inc H H'∧H' r=some (.cells (encs (updP b (brF b l) j)++rest).toArray 59 (0,0),true)) (env:=fun j=>[(1,lv),(4,vi 0),(5,vi 0),(6,vi j)]) (box:=fun _=>[(4,[vi 0,vi 0,.slice none 0 0,.slice none 0 0]),(5,[vi b.op,vi b.sl,.slice (some ⟨r,0,none⟩) b.pts.length cap,.slice Ac b.cks.length cc])]) hj' ⟨Za6 i3 q0,Hp.ins_same _ _ _⟩ ⟨rfl,rfl,rfl,rfl,trivial⟩ ⟨rfl,rfl,trivial⟩ rfl
 have:j=b.pts.length:=by omega
 subst this
 refine wkT ?_
 exact⟨i3,_,_,rfl,by rw[ptsB];show SlAt H3 _ (updP b (brF b l) b.pts.length);exact hsl,hc.inc i3⟩
end
end Go.Proofs
end
section
open Go Go.LL
namespace Go.Proofs
theorem WaR {G:Prop} (h:G:=by
  refine wkT ?_
  refine wiT (fun h4=>?_) (fun h4=>?_)
  ·exact absurd h4 (by omega)
  refine wkT ?_
  refine wiT (fun h5=>?_) (fun h5=>?_)
  ·exact absurd h5 (by omega)
  refine wkT ?_
  refine wiT (fun h6=>?_) (fun h6=>?_)
  ·refine wkT ?_
   refine om_eqb rfl rfl ?_
   rw[eq_yes a8]
   refine wkT ?_
   refine Zab (vs:=[]) rfl (spiled_okP hPP hg9) ?_
   rintro v H10 ⟨_,rfl⟩
   refine wkT ?_
   rfl
  ·exact absurd a7 h6):G:=h
theorem eq_yes {p q:Prop}[Decidable p][Decidable q](h:p↔q):(decide p == decide q)=true:=by
 by_cases hq:q
 ·have hp:=h.2 hq
  simp[hp,hq]
 ·have hp:¬ p:=fun e=>hq (h.1 e)
  simp[hp,hq]
theorem Wa7 (k n:Nat):Zhu k n=0∨Zhu k n=1∨Zhu k n=2:=by
 rw[Zhu]
 split
 ·exact .inr (.inr rfl)
 ·split
  ·exact .inr (.inl rfl)
  ·exact .inl rfl
theorem WaJ {k n:Nat}(hn:0<n):Zhu k n=1↔k=n:=by
 rw[Zhu]
 split
 ·simp;omega
 ·split<;>simp[*]
theorem WaI {k n:Nat}:Zhu k n=2↔k=0:=by
 rw[Zhu]
 split
 ·simp[*]
 ·split
  ·simp;omega
  ·simp;omega
theorem Wba {b:Bk}(h:0<nB b):hadF b=Zhu ((Zae b).filter (ZgD b)).length (nB b):=if_pos h
structure BrN (p q n m i few many all:Int)(su st:Bool):Prop where
 p3:p=0∨p=1∨p=2
 a1:p=1->q=1
 a2:p≠2->q≠2
 a3:su=true->st=true∧m<=n
 a4:few<=many
 a5:many<=all
 a6:su=true->few=all∧i=n∧p=1
 a7:su=false->few<all
 a8:few=0↔p=2
theorem br_nums {b o:Bk}(w:WaH b o)(v:Zeo b)(v':Zeo o)(h:0<nB b):BrN (hadF b) (hadF o) (WaE b) (WaE o) (ZiE b).s (ZiE b).k (ZiE o).k (nB b) (Way b) (Way o):=by
 have hb:=w.boats v v'
 have hn:nB o=nB b:=by rw[nB,hb];rfl
 have h':0<nB o:=by omega
 have f1:=w.fits v v'
 have f2:((Zae b).filter (ZgD b)).length<=nB b:=List.length_filter_le _ _
 have f3:((Zae o).filter (ZgD o)).length<=nB o:=List.length_filter_le _ _
 have e1:=Wba h
 have e2:=Wba h'
 have s1:=WaJ (k:=((Zae b).filter (ZgD b)).length) h
 have s2:=WaJ (k:=((Zae o).filter (ZgD o)).length) h'
 have s3:=WaI (k:=((Zae b).filter (ZgD b)).length) (n:=nB b)
 have s4:=WaI (k:=((Zae o).filter (ZgD o)).length) (n:=nB o)
 rw[<-e1]at s1 s3
 rw[<-e2]at s2 s4
 have hz:=Wa9 v
 have hs:=w.surely v v' h
 have hsu:Way b=true↔sLow b<=sHigh b:=by rw[Way,decide_eq_true_eq];exact⟨fun e=>e.2,fun e=>⟨h,e⟩⟩
 have hst:Way o=true↔sLow o<=sHigh o:=by rw[Way,decide_eq_true_eq];exact⟨fun e=>e.2,fun e=>⟨h',e⟩⟩
 have ml:=WaT v'
 refine⟨by rw[e1];exact Wa7 _ _,fun e=>by rw[s2];rw[s1]at e;omega,fun e=>?_,fun e=>?_,w.most v v',by have:=ml.2;unfold nB at hn ⊢;omega,fun e=>?_,fun e=>?_,?_⟩
 ·rw[Ne,s3]at e
  rw[Ne,s4]
  omega
 ·have e:=hsu.1 e
  have e':sLow o<=sHigh o:=by omega
  refine⟨hst.2 e',?_⟩
  rw[WaE,if_pos ⟨h',e'⟩,WaE,if_pos ⟨h,e⟩]
  exact hs.1
 ·have e:=hsu.1 e
  obtain⟨g1,g2,g3⟩:=Wa6 v h e
  refine⟨g1,?_,s1.2 g3⟩
  rw[WaE,if_pos ⟨h,e⟩];exact g2
 ·have e:¬ sLow b<=sHigh b:=fun x=>by rw[hsu.2 x]at e;simp at e
  exact WaG v h e
 ·rw[s3];exact hz
section
variable  {P:Prg}[Tz P][Loud P]{H:Hp}
set_option maxHeartbeats 16000000
set_option maxRecDepth 40000
theorem War (hPP:P=PP){bv lv:Value}{b:Bk}{l:List U16}(hb:BkAt H bv b)(hl:SlAt H lv l)(hg:Za8 H) :
  n9.m P (MFin P r9 fun v _=>v=vb true) (env0 [bv,lv]) H:=by
 have hs:∀ g,P.still g=false:=Loud.loud
 have hb0:=hb
 obtain⟨pv,cv,rfl,hp,hc⟩:=hb
 unfold n9
 refine wkT ?_
 refine Zab (vs:=[.agg #[vi b.op,vi b.sl,pv,cv]]) rfl (Fit_ok hb0) ?_
 rintro v _ ⟨rfl,rfl⟩
 refine wkT ?_
 refine wiT (fun h0=>?_) (fun h0=>?_)
 ·refine wkT ?_
  refine Zab (vs:=[]) rfl (spiled_okP hPP hg) ?_
  rintro v H1 ⟨_,rfl⟩
  refine wkT ?_
  rfl
 have val:=Wbc h0
 have hN:nB b<=1782:=Zbp val
 refine wkT ?_
 refine Zab (vs:=[.agg #[vi b.op,vi b.sl,pv,cv],lv]) rfl (Wa3 val hb0 hl) ?_
 rintro v H1 ⟨i1,ho0⟩
 have vo:=br_valid val l
 have wo:=br_wider val l
 have hno:nB (ptsB b (brF b l))=nB b:=by rw[nB,wo.boats val vo];rfl
 have hos:oS (ptsB b (brF b l))=oS b:=by rw[oS,hno];rfl
 have hnum:=br_nums wo val vo
 generalize ptsB b (brF b l)=o at *
 have ho:=ho0
 obtain⟨_,_,rfl,⟨Aq,cq,rfl,_⟩,⟨Ad,cd,rfl,_⟩⟩:=ho0
 refine wkT ?_
 refine Zab (vs:=[.agg #[vi b.op,vi b.sl,pv,cv]]) rfl (Had_v val (hb0.inc i1) (CellsAt.inc hg i1)) ?_
 rintro v H2 ⟨j2,rfl⟩
 have i2:=i1.trans j2
 have k2:=j2
 refine wkT ?_
 refine Zab (vs:=[.agg #[vi o.op,vi o.sl,.slice Aq o.pts.length cq,.slice Ad o.cks.length cd]]) rfl (Had_v vo (ho.inc k2) (CellsAt.inc hg i2)) ?_
 rintro v H3 ⟨j3,rfl⟩
 have i3:=i2.trans j3
 have k3:=k2.trans j3
 refine wkT ?_
 refine Zab (vs:=[.agg #[vi b.op,vi b.sl,pv,cv]]) rfl (WaZ val (hb0.inc i3) (CellsAt.inc hg i3)) ?_
 rintro v H4 ⟨j4,rfl⟩
 have i4:=i3.trans j4
 have k4:=k3.trans j4
 refine wkT ?_
 refine Zab (vs:=[.agg #[vi o.op,vi o.sl,.slice Aq o.pts.length cq,.slice Ad o.cks.length cd]]) rfl (WaZ vo (ho.inc k4) (CellsAt.inc hg i4)) ?_
 rintro v H5 ⟨j5,rfl⟩
 have i5:=i4.trans j5
 have k5:=k4.trans j5
 refine wkT ?_
 refine Zab (vs:=[.agg #[vi b.op,vi b.sl,pv,cv]]) rfl (Most_v hPP val (hb0.inc i5) (CellsAt.inc hg i5)) ?_
 rintro v H6 ⟨j6,rfl⟩
 have i6:=i5.trans j6
 have k6:=k5.trans j6
 refine wkT ?_
 refine Zab (vs:=[.agg #[vi o.op,vi o.sl,.slice Aq o.pts.length cq,.slice Ad o.cks.length cd]]) rfl (Most_v hPP vo (ho.inc k6) (CellsAt.inc hg i6)) ?_
 rintro v H7 ⟨j7,rfl⟩
 have i7:=i6.trans j7
 have k7:=k6.trans j7
 refine wkT ?_
 refine Zab (vs:=[.agg #[vi b.op,vi b.sl,pv,cv]]) rfl (Wbe val (hb0.inc i7) (CellsAt.inc hg i7)) ?_
 rintro v H8 ⟨j8,rfl⟩
 have i8:=i7.trans j8
 have k8:=k7.trans j8
 refine wkT ?_
 refine Zab (vs:=[.agg #[vi o.op,vi o.sl,.slice Aq o.pts.length cq,.slice Ad o.cks.length cd]]) rfl (Wbe vo (ho.inc k8) (CellsAt.inc hg i8)) ?_
 rintro v H9 ⟨j9,rfl⟩
 have hg9:=CellsAt.inc hg (i8.trans j9)
 rw[hno,hos]
 refine wkT ?_
 refine wiT (fun h1=>?_) (fun h1=>?_)
 ·exact absurd rfl h1
 refine wkT ?_
 refine wiT (fun h1=>?_) (fun h1=>?_)
 ·exact absurd rfl h1
 refine wkT ?_
 refine wiT (fun h1=>?_) (fun h1=>?_)
 ·exact absurd rfl h1
 refine wkT ?_
 refine wiT (fun h1=>?_) (fun h1=>?_)
 ·exact absurd rfl h1
 refine wkT ?_
 refine wiT (fun h1=>?_) (fun h1=>?_)
 ·exact absurd rfl h1
 refine wkT ?_
 refine wiT (fun h1=>?_) (fun h1=>?_)
 ·exact absurd rfl h1
 refine wkT ?_
 refine om_neb rfl rfl ?_
 rw[ne_no (show oS b=0↔(0:Int)<(nB b:Int) by rw[oS_iff];omega)]
 refine wkT ?_
 refine wiT (fun h2=>?_) (fun h2=>?_)
 ·have hz:¬ 0<nB b:=fun e=>h2 (Wau e)
  rw[Wat hz]
  refine wkT ?_
  refine Zab (vs:=[]) rfl (spiled_okP hPP hg9) ?_
  rintro v H10 ⟨_,rfl⟩
  refine wkT ?_
  rfl
 have hz:0<nB b:=oS_iff.1 h2
 obtain⟨p3,a1,a2,a3,a4,a5,a6,a7,a8⟩:=hnum hz
 generalize hadF b=p at *
 generalize hadF o=q at *
 generalize WaE b=n at *
 generalize WaE o=m at *
 generalize (ZiE b).s=i at *
 generalize (ZiE b).k=few at *
 generalize (ZiE o).k=many at *
 generalize Way b=su at *
 generalize Way o=st at *
 cases su with
 | true=>
  obtain⟨rfl,hmn⟩:=a3 rfl
  obtain⟨rfl,rfl,rfl⟩:=a6 rfl
  obtain rfl:=a1 rfl
  refine wkT ?_
  refine wiT (fun h3=>?_) (fun h3=>?_)
  ·exact absurd h3 (by omega)
  refine wkT ?_
  refine wiT (fun h4=>?_) (fun h4=>?_)
  ·exact absurd h4 (by omega)
  refine wkT ?_
  refine wiT (fun h5=>?_) (fun h5=>?_)
  ·exact absurd h5 (by omega)
  refine wkT ?_
  refine wiT (fun h6=>?_) (fun h6=>?_)
  ·refine wkT ?_
   refine wiT (fun h7=>?_) (fun h7=>?_)
   ·refine wkT ?_
    refine om_eqb rfl rfl ?_
    rw[eq_yes a8]
    refine wkT ?_
    refine Zab (vs:=[]) rfl (spiled_okP hPP hg9) ?_
    rintro v H10 ⟨_,rfl⟩
    refine wkT ?_
    rfl
   ·exact absurd rfl h7
  ·exact absurd rfl h6
 | false=>
  have a7:=a7 rfl
  rcases p3 with rfl | rfl | rfl
  ·refine wkT ?_
   refine wiT (fun h3=>?_) (fun h3=>?_)
   ·exact absurd h3 (a2 (by decide))
   exact WaR
  ·obtain rfl:=a1 rfl
   exact WaR
  ·exact WaR
end
end Go.Proofs
end
section
open Go Go.LL Go.Conc Go.ConcM
namespace Go.Proofs.YtamdhefhhdgjbaaGreatDoor
open Go.ChangeShapes Go.WideShapes Go.ChangeAt Go.RowKit
set_option maxRecDepth 100000 in
theorem Wah (os:Os)(started:os.Started)(H:Type)(enc:TypeId×Value->H)(F:Stop.Interp) :
  ReturnsInLeavingWide { calm:=true } Tryz.checked os 9 .any (fun w args=>(Rows.spileBroaderSpec.pre enc Tryz.prog Tryz.f9 [] false w args∧laidMetH Tryz.prog [("ribband/spile.checks",Rows.laid_ribband_spile_checks)] w)∧sizedMet enc Tryz.prog Tryz.f9 (OpenSpec.ofChange Rows.spileBroaderSpec) false w args)
   ((OpenSpec.ofChange Rows.spileBroaderSpec).postWith enc Tryz.prog Tryz.f9 F (outsideKept [.timePasses]) false true false):=by
 refine law_lifted os started F rfl Tryz.func9 Tryz.results9 (by kernel_rfl) (by kernel_rfl) ?_ ?_ ?_ #[.agg #[.int .i64 0,.int .i64 0,.slice none 0 0,.slice none 0 0],.slice none 0 0] (by kernel_rfl) (by kernel_rfl) (by kernel_rfl)
 ·intro ds hl
  rw[Tryz.params9]at hl
  match ds,hl with
  | [d0,d1],_=>rfl
 ·have h:(Tryz.f9.params.toList.all fun t=>Tryz.prog.readableRec t && decide (t<Tryz.prog.types.size))=true:=by kernel_rfl
  intro t ht
  simpa using List.all_eq_true.1 h t ht
 ·intro W base args ds p hval hA hg
  rw[Tryz.params9]at hA hval
  obtain⟨v0,w0,d0,e0,p0,q0,ha,rfl,rfl,h0,r0⟩:=trodAll_cons hA
  obtain⟨v1,w1,d1,e1,p1,q1,rfl,rfl,rfl,h1,r1⟩:=trodAll_cons r0
  obtain⟨rfl,rfl,rfl⟩:=trodAll_nil r1
  obtain rfl:args=#[v0,v1]:=by cases args;simp_all
  obtain⟨b0,k0⟩:=bk_open (hval 0 25 v0 rfl rfl) h0
  obtain⟨l1,k1⟩:=Wa4 (hval 1 72 v1 rfl rfl) h1
  exact reach_top (args:=[v0,v1]) (isn c9) Tryz.func9 Tryz.results9 rfl (War rfl k0 k1 hg)
theorem spileBroader_holds:Rows.SpileBroaderSaid:=
 OpenClaim.holds_of_wide_leaving_time 9 Tryz.f9 rfl rfl rfl rfl rfl rfl rfl ⟨rfl,rfl,rfl,rfl,rfl⟩ rfl rfl rfl rfl rfl Waq Tryz.func9 Wap Wao Wan
  (fun os started H enc _ F=>Wah os started H enc F)
theorem spileBroader_card:Rows.SpileBroaderCardSaid:=
 ZmC .later [.funcs] true (true,"7d20c1c653d3570dc0b3adced23199ecfee38ebbf859018ae9f3ecca83f03cb8") false
  spileBroader_holds (by kernel_rfl) spileBroader_row_tie rfl ⟨rfl,rfl⟩ (by kernel_rfl) rfl
  (fun f fn hf hfn=>by
   obtain rfl:f=9:=Option.some.inj (Waq.symm.trans hf) |>.symm
   obtain rfl:fn=Tryz.f9:=(Option.some.inj (Tryz.func9.symm.trans hfn)).symm
   exact⟨by kernel_rfl,fun j t ht=>by
    have hall:(Tryz.f9.params.all fun u=>!Tryz.prog.wantsStandIn u)=true:=by kernel_rfl
    have hm:=Array.mem_of_getElem? ht
    exact(show Tryz.prog.wantsStandIn t=false by simpa using (Array.all_eq_true_iff_forall_mem.1 hall) t hm)⟩)
  (by kernel_rfl)
end Go.Proofs.YtamdhefhhdgjbaaGreatDoor
end
