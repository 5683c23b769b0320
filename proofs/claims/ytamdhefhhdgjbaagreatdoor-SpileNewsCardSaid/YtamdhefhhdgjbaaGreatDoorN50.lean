/- SpileNews is true for every input. -/
import Derived.Test.YtamdhefhhdgjbaaGreatDoorN48
import Derived.Test.YtamdhefhhdgjbaaGreatDoorN49
set_option linter.all false
section
open Go Go.LL
namespace Go.Proofs
theorem sub_take {i k:Nat}(hk:k<(subL i).length):subL i++((subL i).take (k+1)).map (·++[(i:Int)])=(subL i++((subL i).take k).map (·++[(i:Int)]))++[(subL i)[k]++[(i:Int)]]:=by
 rw[List.take_succ_eq_append_getElem hk,List.map_append,List.append_assoc];rfl
theorem clB_take {b:Bk}{L:List (List Int)}{f:List Int}{j:Nat}(hj:j<L.length):clB b (L.take (j+1)) f=ZeJ b (clB b (L.take j) f) L[j]:=by
 rw[List.take_succ_eq_append_getElem hj,clB_snoc]
section
variable  {P:Prg}[Tz P][Loud P]{H:Hp}
set_option maxHeartbeats 8000000
set_option maxRecDepth 40000
theorem ZmO {lv:Value}{n:Nat}(hn:n<=4)(hl:SlAt H lv (ZbD n)) :
  LL.Zai P 123 #[lv,vi n] H fun v H'=>Inc H H'∧∃ vs,SlAt H' v vs∧LLAt H' vs (subL n):=by
 have hs:=Loud.loud (P:=P)
 have hll:(ZbD n).length=n:=by simp[ZbD]
 refine IsN.m (isn c123) (args:=[lv,vi n]) rfl ?_
 unfold n123
 refine wkT ?_
 refine Zao (cs:=[.slice none 0 0]) (hs _) rfl fun r0 hr0=>?_
 have o0:Own H (H.ins r0 (.cells [Value.slice none 0 0].toArray 34)) 34 (.slice (some ⟨r0,0,none⟩) 1 1) [Value.slice none 0 0] (some r0):=Zkt (l:=[Value.slice none 0 0]) hr0
 have l0:LLAt H [Value.slice none 0 0] (subL 0):=(LLAt.nil _).snoc (.nil _)
 have i0:Inc H (H.ins r0 (.cells [Value.slice none 0 0].toArray 34)):=Zah hr0
 generalize H.ins r0 (.cells [Value.slice none 0 0].toArray 34)=H0 at *
 refine wkT ?_
 refine Zax (α:=Hp×Value×List Value×Option Nat) n (fun i s H'=>Inc H s.1∧Inc s.1 H'∧Own s.1 H' 34 s.2.1 s.2.2.1 s.2.2.2∧LLAt s.1 s.2.2.1 (subL i)) (fun i s=>[(0,lv),(1,vi n),(5,s.2.1),(6,vi i)]) (fun _ _=>[]) (H,.slice (some ⟨r0,0,none⟩) 1 1,[.slice none 0 0],some r0) ⟨.refl _,i0,o0,l0⟩ ⟨rfl,rfl,rfl,rfl,trivial⟩ trivial ?_
 rintro i ⟨G,v5,us,b5⟩ H1 hi ⟨g1,g2,o5,l5⟩
 simp only at g1 g2 o5 l5
 have hl5:=l5.len
 have hsl:=Zkj i
 have h16:2 ^ i<=2 ^ 4:=Nat.pow_le_pow_right (by decide) (by omega)
 refine wkT ?_
 refine Zal (hl.inc (g1.trans g2)) rfl ?_
 refine wkT ?_
 refine wiT (fun h1=>?_) (fun h1=>?_)
 ·have hi':i<n:=by omega
  have hx:(ZbD n)[i]'(by omega)=(i:Int):=by simp[ZbD]
  refine wkT ?_
  refine Zal o5.sl rfl ?_
  refine wkT ?_
  refine Zax (α:=Hp×Value×List Value×Option Nat) us.length (fun k s H'=>Inc H s.1∧Inc s.1 H'∧Own s.1 H' 34 s.2.1 s.2.2.1 s.2.2.2∧LLAt s.1 s.2.2.1 (subL i++((subL i).take k).map (·++[(i:Int)]))) (fun k s=>[(0,lv),(1,vi n),(5,s.2.1),(6,vi i),(7,vi us.length),(8,vi k)]) (fun _ _=>[]) (G,v5,us,b5) ⟨g1,g2,o5,by simpa using l5⟩ ⟨rfl,rfl,rfl,rfl,rfl,rfl,trivial⟩ trivial ?_
  rintro k ⟨G1,v6,ws,b6⟩ H3 hk ⟨q1,q2,o6,l6⟩
  simp only at q1 q2 o6 l6
  have hl6:=l6.len
  rw[List.length_append,List.length_map,List.length_take]at hl6
  refine wkT ?_
  refine wiT (fun h2=>?_) (fun h2=>?_)
  ·have hk':k<(subL i).length:=by omega
   have hkw:k<ws.length:=by omega
   have hst:=sub_take hk'
   have hA:Asc i (subL i)[k]:=Zgo.1 (List.getElem_mem hk')
   have hal:=ZeM hA
   have hsk:=l6.at_ k hkw (by rw[List.length_append];omega)
   rw[List.getElem_append_left hk']at hsk
   generalize (subL i)[k]=l at *
   generalize (subL i++((subL i).take k).map (·++[(i:Int)]))=L at *
   have hsk3:=hsk.inc q2
   refine wkT ?_
   refine Zar o6.sl rfl rfl rfl (i:=k) hkw fun a ha=>?_
   refine wkT ?_
   refine Zaf (hs _) rfl ha ?_
   refine wkT ?_
   refine Zal hsk3 rfl ?_
   refine wkT ?_
   refine wiT (fun h3=>?_) (fun h3=>?_)
   ·refine wkT ?_
    refine Zar o6.sl rfl rfl rfl (i:=k) hkw fun a ha=>?_
    refine wkT ?_
    refine Zaf (hs _) rfl ha ?_
    refine wkT ?_
    refine Zar (hl.inc (q1.trans q2)) rfl rfl rfl (i:=i) (by omega) fun a ha=>?_
    rw[hx]at ha
    refine wkT ?_
    refine Zaf (hs _) rfl ha ?_
    refine wkT ?_
    refine ZbU (und u34) (tif t3) (hs _) fun r1 hr1=>?_
    refine Zoh hs (Zah hr1) ?_
    refine wkT ?_
    refine om_app0 (l:=l) (und u34) (tif t3) rfl (by decide) hr1 rfl (hsk3.inc (Zah hr1)) (ZiO l) (by omega) (by omega) rfl rfl (hs _) fun v8 H5 b8 i5 o8=>?_
    refine Zoh hs i5 ?_
    have i5':=(Zah (o:=.cells #[] 3) hr1).trans i5
    refine wkT ?_
    refine Zao (cs:=[vi i]) (hs _) rfl fun r2 hr2=>?_
    refine Zoh hs (Zah hr2) ?_
    refine wkT ?_
    refine ZaR (l':=[(i:Int)]) (und u34) (und u34) (tif t3) rfl (by decide) (i5'.trans (Zah hr2)) (o8.ins hr2) ZjP rfl (by simp;omega) (by omega) rfl rfl (hs _) fun v9 H6 b9 q5 o9 _=>?_
    obtain⟨G2,w1,w2,w3,w4⟩:=Ziu q2 o6 q5 o9
    obtain⟨A9,c9,rfl,_⟩:=id w4
    refine kp_l hs ?_
    refine wkT ?_
    refine Zao (cs:=[.slice A9 (l++[(i:Int)]).length c9]) (hs _) rfl fun r3 hr3=>?_
    refine kp_l hs ?_
    refine wkT ?_
    refine ZaR (l':=[Value.slice A9 (l++[(i:Int)]).length c9]) (und u157) (und u157) (tif t34) rfl (by decide) (w2.trans (Zah hr3)) (w3.ins hr3) Zkl rfl (by simp;omega) (by omega) rfl rfl (hs _) fun v10 H7 b10 q6 o10 _=>?_
    refine wkT ?_
    exact⟨(⟨k+1,by omega⟩,(G2,v10,ws++[.slice A9 (l++[(i:Int)]).length c9],b10)),slt (by omega),⟨q1.trans w1,q6,o10,by rw[hst];exact(l6.inc w1).snoc w4⟩,⟨rfl,rfl,rfl,rfl,rfl,rfl,trivial⟩,trivial,rfl⟩
   ·exact absurd h3 (by omega)
  ·have:k=us.length:=by omega
   subst this
   rw[List.take_of_length_le (by omega)]at l6
   refine wkT ?_
   exact⟨(⟨i+1,by omega⟩,(G1,v6,ws,b6)),slt (by omega),⟨q1,q2,o6,l6⟩,⟨rfl,rfl,rfl,rfl,trivial⟩,trivial,rfl⟩
 ·have:i=n:=by omega
  subst this
  refine wkT ?_
  exact⟨g1.trans g2,us,o5.sl,l5.inc g2⟩
theorem Zo7 {bv:Value}{b:Bk}(hb:BkAt H bv b)(hl:b.pts.length<=1000000)(hl2:b.cks.length<=1000000) :
  LL.Zai P 38 #[bv] H fun v H'=>Inc H H'∧∃ w,v=.tuple #[w,vi (snag b)]∧SlAt H' w (if snag b=0∧Zbg b=false then Zea b else []):=by
 have hs:=Loud.loud (P:=P)
 have hb0:=hb
 obtain⟨pv,cv,rfl,hp,hc⟩:=hb
 refine IsN.m (isn c38) (args:=[.agg #[vi b.op,vi b.sl,pv,cv]]) rfl ?_
 unfold n38
 refine wkT ?_
 refine Zab (vs:=[_]) rfl (Zbs hb0 hl hl2) ?_
 rintro v _ ⟨rfl,rfl⟩
 refine wkT ?_
 refine wiT (fun h1=>?_) (fun h1=>?_)
 ·refine wkT ?_
  exact⟨.refl _,_,rfl,by rw[if_neg fun h=>h1 h.1];exact .nil _⟩
 have val:=ZaH h1
 have hck:=val.ckn
 refine wkT ?_
 refine Zab (vs:=[_]) rfl (Zd2 hb0 val) ?_
 rintro v H1 ⟨i1,rows,s1,r1⟩
 have hrl:=r1.len
 refine wkT ?_
 refine Zal s1 rfl ?_
 refine wkT ?_
 refine wiT (fun h2=>?_) (fun h2=>?_)
 ·have hso:Zbg b=true:=ZdQ.2 (by omega)
  refine wkT ?_
  exact⟨i1,_,by rw[h1];rfl,by rw[if_neg fun h=>by rw[hso]at h;simp at h];exact .nil _⟩
 have hso:Zbg b=false:=by
  rw[Bool.eq_false_iff]
  intro e
  have:=ZdQ.1 e
  omega
 have hcl:=ZoF hso
 refine wkT ?_
 refine Zal (hc.inc i1) rfl ?_
 refine wkT ?_
 refine Zab (vs:=[vi b.cks.length]) rfl (Zkc (n:=b.cks.length) hl2) ?_
 rintro v5 H2 ⟨i2,b5,o5⟩
 have o5:Own H1 H2 3 v5 (ZbD b.cks.length) b5:=o5
 have s5:=o5.sl
 have hrl2:(ZbD b.cks.length).length=b.cks.length:=by simp[ZbD]
 refine wkT ?_
 refine Zal s5 rfl ?_
 rw[hrl2]
 refine wkT ?_
 refine Zab (vs:=[v5,vi b.cks.length]) rfl (ZmO (n:=b.cks.length) (by omega) s5) ?_
 rintro v6 H3 ⟨i3,vs,s6,l6⟩
 have i03:=(i1.trans i2).trans i3
 have hl6:=l6.len
 have hsl:=Zkj b.cks.length
 have h16:2 ^ b.cks.length<=2 ^ 4:=Nat.pow_le_pow_right (by decide) (by omega)
 refine wkT ?_
 refine Zax (α:=Value) vs.length (fun j s H'=>Inc H3 H'∧SlAt H' s (clB b ((subL b.cks.length).take j) (ZbD b.cks.length))∧Asc b.cks.length (clB b ((subL b.cks.length).take j) (ZbD b.cks.length))) (fun j s=>[(1,vi 0),(5,s),(6,v6),(7,vi j)]) (fun _ _=>[(1,[vi b.op,vi b.sl,pv,cv])]) v5 ⟨.refl _,s5.inc i3,Zjs _⟩ ⟨rfl,rfl,rfl,rfl,trivial⟩ ⟨rfl,trivial⟩ ?_
 rintro j bs H4 hj ⟨i4,s4,a4⟩
 have hbl:=ZeM a4
 have s64:=s6.inc i4
 refine wkT ?_
 refine Zal s64 rfl ?_
 refine wkT ?_
 refine wiT (fun h3=>?_) (fun h3=>?_)
 ·have hj':j<vs.length:=by omega
  have hjs:j<(subL b.cks.length).length:=by omega
  have hct:=clB_take (b:=b) (f:=ZbD b.cks.length) hjs
  have hA:Asc b.cks.length (subL b.cks.length)[j]:=Zgo.1 (List.getElem_mem hjs)
  have hal:=ZeM hA
  have hsj:=(l6.at_ j hj' hjs).inc i4
  generalize (subL b.cks.length)[j]=l at *
  generalize clB b ((subL b.cks.length).take j) (ZbD b.cks.length)=r at *
  refine wkT ?_
  refine Zar s64 rfl rfl rfl (i:=j) hj' fun a ha=>?_
  refine wkT ?_
  refine Zaf (hs _) rfl ha ?_
  refine wkT ?_
  refine Zab (vs:=[vs[j],bs]) rfl (Fewer_ok hsj s4 (by omega) (by omega)) ?_
  rintro v _ ⟨rfl,rfl⟩
  refine wkT ?_
  refine wiT (fun h4=>?_) (fun h4=>?_)
  ·refine wkT ?_
   refine Zar s64 rfl rfl rfl (i:=j) hj' fun a ha=>?_
   refine wkT ?_
   refine Zaf (hs _) rfl ha ?_
   refine wkT ?_
   refine Zab (vs:=[_,_]) rfl (Only_ok val (hb0.inc (i03.trans i4)) hsj hA (by omega)) ?_
   rintro v H5 ⟨i5,hb5⟩
   refine wkT ?_
   refine Zab (vs:=[v]) rfl (Zd2 hb5 (ZlY val hA)) ?_
   rintro v H6 ⟨i6,rows6,s66,r66⟩
   have hr66:=r66.len
   refine wkT ?_
   refine Zal s66 rfl ?_
   refine wkT ?_
   refine wiT (fun h5=>?_) (fun h5=>?_)
   ·have hso5:Zbg (Zd3 b l)=false:=by
     rw[Bool.eq_false_iff]
     intro e
     have:=ZdQ.1 e
     omega
    rw[ZeJ,if_pos ⟨h4,hso5⟩]at hct
    refine wkT ?_
    refine Zar ((s64.inc i5).inc i6) rfl rfl rfl (i:=j) hj' fun a ha=>?_
    refine wkT ?_
    refine Zaf (hs _) rfl ha ?_
    refine wkT ?_
    exact⟨(⟨j+1,by omega⟩,vs[j]),slt (by omega),⟨(i4.trans i5).trans i6,by rw[hct];exact(hsj.inc i5).inc i6,by rw[hct];exact hA⟩,⟨rfl,rfl,rfl,rfl,trivial⟩,⟨rfl,trivial⟩,rfl⟩
   ·have hso5:Zbg (Zd3 b l)=true:=ZdQ.2 (by omega)
    rw[ZeJ,if_neg fun h=>by rw[hso5]at h;simp at h]at hct
    refine wkT ?_
    exact⟨(⟨j+1,by omega⟩,bs),slt (by omega),⟨(i4.trans i5).trans i6,by rw[hct];exact(s4.inc i5).inc i6,by rw[hct];exact a4⟩,⟨rfl,rfl,rfl,rfl,trivial⟩,⟨rfl,trivial⟩,rfl⟩
  ·rw[ZeJ,if_neg fun h=>by rw[h4]at h;simp at h]at hct
   refine wkT ?_
   exact⟨(⟨j+1,by omega⟩,bs),slt (by omega),⟨i4,by rw[hct];exact s4,by rw[hct];exact a4⟩,⟨rfl,rfl,rfl,rfl,trivial⟩,⟨rfl,trivial⟩,rfl⟩
 ·have:j=vs.length:=by omega
  subst this
  rw[List.take_of_length_le (by omega),hcl]at s4
  refine wkT ?_
  exact⟨i03.trans i4,bs,by rw[h1];rfl,by rw[if_pos ⟨h1,hso⟩];exact s4⟩
theorem ZiS {s:Int}{b:Bk}(h1:b.pts.length<=1000000)(h2:b.cks.length<=1000000):(if s=0 then b else bk0).pts.length<=1000000∧(if s=0 then b else bk0).cks.length<=1000000:=by
 split
 ·exact⟨h1,h2⟩
 ·exact⟨by simp[bk0],by simp[bk0]⟩
theorem Zjg (hPP:P=PP){bv:Value}{b:Bk}{c:SCk}{n xl xh m:Int}(hb:BkAt H bv b)(hg:Zba H):n5.m P (MFin P r5 fun v _=>v=vb true) (env0 [bv,.agg #[vi c.p,vi c.gl,vi c.gh],vi n,.agg #[vi xl,vi xh],vi m]) H:=by
 have hs:=Loud.loud (P:=P)
 have hb0:=hb
 obtain⟨pv,cv,rfl,hp,hc⟩:=hb
 unfold n5
 refine wkT ?_
 refine Zab (vs:=[_]) rfl (Great_ok hb0) ?_
 rintro v _ ⟨rfl,rfl⟩
 refine wkT ?_
 refine wiT (fun h0=>?_) (fun h0=>?_)
 ·refine wkT ?_
  refine Zab (vs:=[]) rfl (Zhr hPP hg) ?_
  rintro v H1 ⟨_,rfl⟩
  refine wkT ?_
  rfl
 simp only[Bool.or_eq_false_iff,decide_eq_false_iff_not]at h0
 have hl:b.pts.length<=1000000:=by omega
 have hl2:b.cks.length<=1000000:=by omega
 refine wkT ?_
 refine Zab (vs:=[_]) rfl (ZlU hb0 hg hl hl2) ?_
 rintro v H1 ⟨i1,w1,rfl,s1⟩
 refine wkT ?_
 refine Zab (vs:=[_]) rfl (Zo7 (hb0.inc i1) hl hl2) ?_
 rintro v H2 ⟨j2,w2,rfl,s2⟩
 have i2:=i1.trans j2
 have hcl:(if snag b=0∧Zbg b=false then Zea b else []).length<=1000000:=by
  split
  ·rename_i h
   have:=ZeM (Zh0 h.2).1
   omega
  ·simp
 refine wkT ?_
 refine Zab (vs:=[_,_]) rfl (Zg9 (s1.inc j2) s2 hcl) ?_
 rintro v _ ⟨rfl,rfl⟩
 refine wkT ?_
 refine wiT (fun h1=>?_) (fun h1=>?_)
 ·exact absurd rfl h1
 refine wkT ?_
 refine Zab (vs:=[_]) rfl (Ask_ok (hb0.inc i2) (CellsAt.inc hg i2) hl hl2) ?_
 rintro v H3 ⟨j3,rfl⟩
 have i3:=i2.trans j3
 refine wkT ?_
 refine Zab (vs:=[_]) rfl (AskR_ok (hb0.inc i3) hl hl2) ?_
 rintro v H4 ⟨j4,rfl⟩
 have i4:=i3.trans j4
 refine wkT ?_
 refine wiT (fun h1=>?_) (fun h1=>?_)
 ·exact absurd rfl h1
 refine wkT ?_
 refine wiT (fun h1=>?_) (fun h1=>?_)
 ·exact absurd rfl h1
 refine wkT ?_
 refine wiT (fun h1=>?_) (fun h1=>?_)
 ·exact absurd rfl h1
 refine wkT ?_
 refine Zab (vs:=[_,_]) rfl (ZlV (hb0.inc i4) (CellsAt.inc hg i4) hl hl2) ?_
 rintro v H5 ⟨j5,f5⟩
 have i5:=i4.trans j5
 obtain⟨_,_,_,_,_,_,_,_,rfl,k5⟩:=ZdZ f5
 refine wkT ?_
 refine Zab (vs:=[_,_]) rfl (Zo8 (hb0.inc i5) hl (by omega)) ?_
 rintro v H6 ⟨j6,f6⟩
 have i6:=i5.trans j6
 obtain⟨_,_,_,_,_,_,_,_,rfl,k6⟩:=ZdZ f6
 obtain⟨e1,e2⟩:=ZiS (s:=ZfH b c) (b:=ckBk b c) hl (by simp[ckBk];omega)
 refine wkT ?_
 refine Zab (vs:=[_,_]) rfl (Zg4 (k5.inc j6) k6 e1 e2 rfl) ?_
 rintro v _ ⟨rfl,rfl⟩
 refine wkT ?_
 refine wiT (fun h1=>?_) (fun h1=>?_)
 ·exact absurd rfl h1
 refine wkT ?_
 refine Zab (vs:=[_,_,_]) rfl (Zo0 (hb0.inc i6) (CellsAt.inc hg i6) hl hl2) ?_
 rintro v H7 ⟨j7,f7⟩
 have i7:=i6.trans j7
 obtain⟨_,_,_,_,_,_,_,_,rfl,k7⟩:=ZdZ f7
 refine wkT ?_
 refine Zab (vs:=[_,_,_]) rfl (ReadR_ok (hb0.inc i7) hl hl2) ?_
 rintro v H8 ⟨j8,f8⟩
 have i8:=i7.trans j8
 obtain⟨_,_,_,_,_,_,_,_,rfl,k8⟩:=ZdZ f8
 obtain⟨e3,e4⟩:=ZiS (s:=Zco b n xl xh) (b:=rdBk b n.toNat (max (ptAt b n.toNat).ml xl) (min (ptAt b n.toNat).mh xh)) (by simp[rdBk];omega) hl2
 refine wkT ?_
 refine Zab (vs:=[_,_]) rfl (Zg4 (k7.inc j8) k8 e3 e4 rfl) ?_
 rintro v _ ⟨rfl,rfl⟩
 refine wkT ?_
 refine wiT (fun h1=>?_) (fun h1=>?_)
 ·exact absurd rfl h1
 refine wkT ?_
 refine Zab (vs:=[_,_]) rfl (Zo4 (hb0.inc i8) (CellsAt.inc hg i8) hl hl2) ?_
 rintro v H9 ⟨j9,f9⟩
 have i9:=i8.trans j9
 obtain⟨_,_,_,_,_,_,_,_,rfl,k9⟩:=ZdZ f9
 refine wkT ?_
 refine Zab (vs:=[_,_]) rfl (FirmR_ok (hb0.inc i9) hl hl2) ?_
 rintro v H10 ⟨j10,f10⟩
 have i10:=i9.trans j10
 obtain⟨_,_,_,_,_,_,_,_,rfl,k10⟩:=ZdZ f10
 obtain⟨e5,e6⟩:=ZiS (s:=Zdn b m) (b:=fmBk b m) hl hl2
 refine wkT ?_
 refine Zab (vs:=[_,_]) rfl (Zg4 (k9.inc j10) k10 e5 e6 rfl) ?_
 rintro v _ ⟨rfl,rfl⟩
 refine wkT ?_
 refine wiT (fun h1=>?_) (fun h1=>?_)
 ·refine wkT ?_
  refine Zab (vs:=[]) rfl (Zhr hPP (CellsAt.inc hg i10)) ?_
  rintro v H11 ⟨_,rfl⟩
  refine wkT ?_
  rfl
 ·exact absurd rfl h1
end
end Go.Proofs
end
section
open Go Go.LL Go.Conc Go.ConcM
namespace Go.Proofs.YtamdhefhhdgjbaaGreatDoor
open Go.ChangeShapes Go.WideShapes Go.ChangeAt Go.RowKit
set_option maxRecDepth 100000 in
theorem ZfJ (os:Os)(started:os.Started)(H:Type)(enc:TypeId×Value->H)(F:Stop.Interp) :
  ReturnsInLeavingWide { calm:=true } Tryz.checked os 5 .any (fun w args=>(Rows.spileNewsSpec.pre enc Tryz.prog Tryz.f5 [] false w args∧laidMetH Tryz.prog [("ribband/spile.checks",Rows.laid_ribband_spile_checks)] w)∧sizedMet enc Tryz.prog Tryz.f5 (OpenSpec.ofChange Rows.spileNewsSpec) false w args)
   ((OpenSpec.ofChange Rows.spileNewsSpec).postWith enc Tryz.prog Tryz.f5 F (outsideKept [.timePasses]) false true false):=by
 refine Zmo os started F rfl Tryz.func5 Tryz.results5 (by kernel_rfl) (by kernel_rfl) ?_ ?_ ?_ #[.agg #[vi 0,vi 0,.slice none 0 0,.slice none 0 0],.agg #[vi 0,vi 0,vi 0],vi 0,.agg #[vi 0,vi 0],vi 0] (by kernel_rfl) (by kernel_rfl) (by kernel_rfl)
 ·intro ds hl
  rw[Tryz.params5]at hl
  match ds,hl with
  | [d0,d1,d2,d3,d4],_=>rfl
 ·have h:(Tryz.f5.params.toList.all fun t=>Tryz.prog.readableRec t && decide (t<Tryz.prog.types.size))=true:=by kernel_rfl
  intro t ht
  simpa using List.all_eq_true.1 h t ht
 ·intro W base args ds p hval hA hg
  rw[Tryz.params5]at hA hval
  obtain⟨v0,_,_,_,_,_,ha,rfl,rfl,h0,r0⟩:=trodAll_cons hA
  obtain⟨v1,_,_,_,_,_,rfl,rfl,rfl,h1,r1⟩:=trodAll_cons r0
  obtain⟨v2,_,_,_,_,_,rfl,rfl,rfl,h2,r2⟩:=trodAll_cons r1
  obtain⟨v3,_,_,_,_,_,rfl,rfl,rfl,h3,r3⟩:=trodAll_cons r2
  obtain⟨v4,_,_,_,_,_,rfl,rfl,rfl,h4,r4⟩:=trodAll_cons r3
  obtain⟨rfl,rfl,rfl⟩:=trodAll_nil r4
  obtain rfl:args=#[v0,v1,v2,v3,v4]:=by cases args;simp_all
  obtain⟨b0,k0⟩:=bk_open (hval 0 25 v0 rfl rfl) h0
  obtain⟨c1,rfl⟩:=ZmC (hval 1 51 v1 rfl rfl) h1
  obtain⟨n2,rfl⟩:=ZlC (hval 2 3 v2 rfl rfl) h2
  obtain⟨xa3,xb3,rfl⟩:=Znd (hval 3 49 v3 rfl rfl) h3
  obtain⟨n4,rfl⟩:=ZlC (hval 4 3 v4 rfl rfl) h4
  exact Znq (args:=[v0,.agg #[vi c1.p,vi c1.gl,vi c1.gh],vi n2,.agg #[vi xa3,vi xb3],vi n4]) (isn c5) Tryz.func5 Tryz.results5 rfl (Zjg rfl k0 hg)
theorem spileNews_holds:Rows.SpileNewsSaid:=
 OpenClaim.holds_of_wide_leaving_time 5 Tryz.f5 rfl rfl rfl rfl rfl rfl rfl ⟨rfl,rfl,rfl,rfl,rfl⟩ rfl rfl rfl rfl rfl Zjf Tryz.func5 Zje Zjd Zjc
  (fun os started H enc _ F=>ZfJ os started H enc F)
theorem spileNews_card:Rows.SpileNewsCardSaid:=
 ZgR .later [.funcs] true (true,"7d20c1c653d3570dc0b3adced23199ecfee38ebbf859018ae9f3ecca83f03cb8") false
  spileNews_holds (by kernel_rfl) spileNews_row_tie rfl ⟨rfl,rfl⟩ (by kernel_rfl) rfl
  (fun f fn hf hfn=>by
   obtain rfl:f=5:=Option.some.inj (Zjf.symm.trans hf) |>.symm
   obtain rfl:fn=Tryz.f5:=(Option.some.inj (Tryz.func5.symm.trans hfn)).symm
   exact⟨by kernel_rfl,fun j t ht=>by
    have hall:(Tryz.f5.params.all fun u=>!Tryz.prog.wantsStandIn u)=true:=by kernel_rfl
    have hm:=Array.mem_of_getElem? ht
    exact(show Tryz.prog.wantsStandIn t=false by simpa using (Array.all_eq_true_iff_forall_mem.1 hall) t hm)⟩)
  (by kernel_rfl)
end Go.Proofs.YtamdhefhhdgjbaaGreatDoor
end
