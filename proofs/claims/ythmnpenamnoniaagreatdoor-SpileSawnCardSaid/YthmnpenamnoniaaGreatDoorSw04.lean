import Derived.Test.YthmnpenamnoniaaGreatDoorSw03
set_option linter.all false
section
open Go Go.LL
namespace Go.Proofs
section
variable  {P:Prg}[Tz P][Loud P]{H:Hp}
set_option maxHeartbeats 8000000
set_option maxRecDepth 20000
theorem Wbk {x:MBd}{bv:Value}{l:List MBd}(hl:SlAt H bv l)(hn:l.length<=1000000)(hk:SlAt H (.slice x.A x.kn.length x.c) x.kn)(h:BdOk l x):LL.Zag P 184 #[bdV x,bv] H fun v H'=>Inc H H'∧v=vi 0:=by
 have hs:=Loud.loud (P:=P)
 obtain⟨o1,o2,o3,o4,o5,o6⟩:=h
 refine IsN.m (isn c1184) (args:=[bdV x,bv]) rfl ?_
 unfold n1184
 refine wkT ?_
 refine ZbW rfl (hs _) fun r hr=>?_
 have i2:=Zai (o:=.cells (bdV x).cells 132) hr
 have b2:CellsAt (H.ins r (.cells (bdV x).cells 132)) ⟨r,0,none⟩ [.string x.nm,vi x.lg,.slice x.A x.kn.length x.c]:=Zar
 generalize H.ins r (.cells (bdV x).cells 132)=H2 at *
 refine wkT ?_
 refine Zaf (hs _) rfl (by rw[add_zero];exact ZbK (cs:=[.string x.nm]) (ds:=[vi x.lg,.slice x.A x.kn.length x.c]) b2) ?_
 refine wkT ?_
 refine Zab (vs:=[.string x.nm]) rfl (Was o1) ?_
 rintro v H3 ⟨s3,rfl⟩
 have b3:=b2.sub s3
 have i3:=i2.trans s3.inc
 refine wkT ?_
 refine Zci rfl rfl ?_
 refine wkT ?_
 refine Zab (vs:=[bv,.func (.func 219) #[] #[.pointer (some ⟨r,0,none⟩)]]) rfl (WaB (l:=l) (fun q hq=>ZcY (by kernel_rfl) (LL.Zag.mono (bd1_ok b3) fun v H' hh=>⟨hh.1,by
  obtain⟨k,hk,rfl⟩:=List.mem_iff_getElem.1 hq
  rw[hh.2,o2 k hk]⟩)) (hl.inc i3) hn) ?_
 rintro v _ ⟨rfl,rfl⟩
 refine wkT ?_
 refine Zaf (hs _) rfl (ZbK (cs:=[vi x.lg]) (ds:=[.slice x.A x.kn.length x.c]) (Zlf b3 rfl)) ?_
 refine wkT ?_
 refine Zab (vs:=[vi x.lg,vi 1,vi 40]) rfl (Waa _ _ _) ?_
 rintro w _ ⟨rfl,rfl⟩
 rw[decide_eq_true o3]
 refine wkT ?_
 refine Zaf (hs _) rfl (Zlf b3 rfl) ?_
 refine wkT ?_
 refine wiT (fun h4=>?_) (fun h4=>?_)
 ·exact absurd h4 (by omega)
 refine wkT ?_
 refine Zaf (hs _) rfl (Zlf b3 rfl) ?_
 refine wkT ?_
 refine ZaW x.kn.length (fun j H'=>H3=H') (fun j=>[(2,.pointer (some ⟨r,0,none⟩)),(5,vi (if h:0<j∧j<=x.kn.length then (x.kn[j-1]'(by omega)).hi else -1)),(28,.slice x.A x.kn.length x.c),(29,vi x.kn.length),(30,vi j)]) (fun _=>[]) rfl ⟨rfl,rfl,rfl,rfl,rfl,trivial⟩ trivial ?_
 rintro j _ hj rfl
 refine wkT ?_
 refine wiT (fun h5=>?_) (fun h5=>?_)
 ·have hj':j<x.kn.length:=by omega
  obtain⟨r1,r2,r3⟩:=o5 j hj'
  have up:(if h:0<j∧j<=x.kn.length then (x.kn[j-1]'(by omega)).hi else -1)<x.kn[j].lo:=by
   split
   ·rename_i hh
    have:=o6 (j-1) (by omega)
    simp only[show j-1+1=j by omega]at this
    exact this
   ·omega
  have nx:(if h:0<j+1∧j+1<=x.kn.length then (x.kn[j+1-1]'(by omega)).hi else -1)=x.kn[j].hi:=by
   rw[dif_pos ⟨by omega,by omega⟩];rfl
  generalize (if h:0<j∧j<=x.kn.length then (x.kn[j-1]'(by omega)).hi else -1)=last at *
  refine wkT ?_
  refine ZaE (hk.inc i3) rfl rfl rfl (i:=j) hj' fun a ha=>?_
  refine wkT ?_
  refine Zao (cs:=[vi x.kn[j].lo,vi x.kn[j].hi]) (hs _) rfl ha rfl ?_
  refine wkT ?_
  refine Zaf (hs _) rfl (ZbK (cs:=[vi x.lg]) (ds:=[.slice x.A x.kn.length x.c]) (Zlf b3 rfl)) ?_
  refine wkT ?_
  refine Zaf (hs _) rfl (ZbK (cs:=[vi x.lg]) (ds:=[.slice x.A x.kn.length x.c]) (Zlf b3 rfl)) ?_
  refine wkT ?_
  refine Zab (vs:=[.agg #[vi x.kn[j].lo,vi x.kn[j].hi],vi 0,vi (x.lg-1),vi x.lg]) rfl (Wag ⟨r1,r2,r3⟩ (by omega) ⟨by omega,by omega⟩) ?_
  rintro v _ ⟨rfl,rfl⟩
  refine wkT ?_
  refine wiT (fun h6=>?_) (fun h6=>?_)
  ·exact absurd h6 (by omega)
  refine wkT ?_
  exact⟨⟨j+1,by omega⟩,slt (by omega),rfl,⟨rfl,by rw[nx];rfl,rfl,rfl,rfl,trivial⟩,trivial,rfl⟩
 ·refine wkT ?_
  exact⟨i3,rfl⟩
theorem Wa5 {m:MBk}(hm:MbAt H m)(h:MOk m):LL.Zag P 132 #[m.v] H fun v H'=>Inc H H'∧v=vi 0:=by
 have hs:=Loud.loud (P:=P)
 have hn:=h.n2
 refine IsN.m (isn c1132) (args:=[m.v]) rfl ?_
 unfold n1132 MBk.v
 refine wkT ?_
 refine wiT (fun h4=>?_) (fun h4=>?_)
 ·exact absurd h4 (by omega)
 refine wkT ?_
 refine ZaW m.bd.length (fun j H'=>Inc H H') (fun j=>[(1,vi 0),(13,.slice m.A2 m.bd.length m.c2),(14,vi m.bd.length),(15,vi j)]) (fun _=>[(1,[vi m.saw,.slice m.A1 m.pc.length m.c1,.slice m.A2 m.bd.length m.c2,.slice m.A3 m.tp.length m.c3])]) (.refl _) ⟨rfl,rfl,rfl,rfl,trivial⟩ ⟨rfl,trivial⟩ ?_
 rintro j H1 hj i1
 refine wkT ?_
 refine wiT (fun h1=>?_) (fun h1=>?_)
 ·have hj':j<m.bd.length:=by omega
  have hB:=h.bd j hj'
  have hkn:=(hm.kn _ (List.getElem_mem hj')).inc i1
  refine wkT ?_
  refine ZaE (hm.bd.inc i1) rfl rfl rfl (i:=j) hj' fun a ha=>?_
  generalize m.bd[j]=x at *
  refine wkT ?_
  refine Zao (cs:=[.string x.nm,vi x.lg,.slice x.A x.kn.length x.c]) (hs _) rfl ha rfl ?_
  refine wkT ?_
  refine ZkW (k:=.i64) (lo:=0) (hi:=j) (und u45) (tif t132) rfl (.inl ⟨rfl,rfl⟩) ⟨_,rfl,rfl⟩ (Nat.zero_le _) (by have:=hm.q2;omega) ?_
  rw[cut0,Nat.sub_zero,Nat.sub_zero]
  refine wkT ?_
  refine Zab (vs:=[bdV x,.slice m.A2 j m.c2]) rfl (Wbk (WaO (hm.bd.inc i1) (Nat.le_of_lt hj')) (by rw[List.length_take];omega) hkn hB) ?_
  rintro v H2 ⟨i2,rfl⟩
  refine wkT ?_
  exact⟨⟨j+1,by omega⟩,slt (by omega),i1.trans i2,⟨rfl,rfl,rfl,rfl,trivial⟩,⟨rfl,trivial⟩,rfl⟩
 ·refine wkT ?_
  exact⟨i1,rfl⟩
theorem Wbj {m:MBk}(hm:MbAt H m)(h:MOk m)(h3:∀ t∈m.tp,t.pl.length<=1000000):LL.Zag P 133 #[m.v] H fun v H'=>H=H'∧v=vi 0:=by
 have hs:=Loud.loud (P:=P)
 have hn:=h.n3
 have hn1:=h.n1
 refine IsN.m (isn c1133) (args:=[m.v]) rfl ?_
 unfold n1133 MBk.v
 refine wkT ?_
 refine wiT (fun h4=>?_) (fun h4=>?_)
 ·exact absurd h4 (by omega)
 refine wkT ?_
 refine ZaW m.tp.length (fun j H'=>H=H') (fun j=>[(1,vi 0),(14,.slice m.A3 m.tp.length m.c3),(15,vi m.tp.length),(16,vi j)]) (fun _=>[(1,[vi m.saw,.slice m.A1 m.pc.length m.c1,.slice m.A2 m.bd.length m.c2,.slice m.A3 m.tp.length m.c3])]) rfl ⟨rfl,rfl,rfl,rfl,trivial⟩ ⟨rfl,trivial⟩ ?_
 rintro j _ hj rfl
 refine wkT ?_
 refine wiT (fun h1=>?_) (fun h1=>?_)
 ·have hj':j<m.tp.length:=by omega
  obtain⟨o1,o2,o3,o4⟩:=h.tp j hj'
  have hpl:=hm.pl _ (List.getElem_mem hj')
  have hp3:=h3 _ (List.getElem_mem hj')
  refine wkT ?_
  refine ZaE hm.tp rfl rfl rfl (i:=j) hj' fun a ha=>?_
  generalize m.tp[j]=t at *
  have hpos:0<t.pl.length:=List.length_pos_iff.2 o1
  refine wkT ?_
  refine Zao (cs:=[.slice t.A t.pl.length t.c,vi t.lo,vi t.hi]) (hs _) rfl ha rfl ?_
  refine wkT ?_
  refine wiT (fun h5=>?_) (fun h5=>?_)
  ·exact absurd h5 (by omega)
  refine wkT ?_
  refine ZaW t.pl.length (fun k H'=>H=H') (fun k=>[(1,vi 0),(4,vi 0),(14,.slice m.A3 m.tp.length m.c3),(15,vi m.tp.length),(16,vi j),(25,.slice t.A t.pl.length t.c),(26,vi t.pl.length),(27,vi k)]) (fun _=>[(1,[vi m.saw,.slice m.A1 m.pc.length m.c1,.slice m.A2 m.bd.length m.c2,.slice m.A3 m.tp.length m.c3]),(4,[.slice t.A t.pl.length t.c,vi t.lo,vi t.hi])]) rfl ⟨rfl,rfl,rfl,rfl,rfl,rfl,rfl,rfl,trivial⟩ ⟨rfl,rfl,trivial⟩ ?_
  rintro k _ hk rfl
  refine wkT ?_
  refine wiT (fun h6=>?_) (fun h6=>?_)
  ·have hk':k<t.pl.length:=by omega
   have rg:=o2 k hk'
   refine wkT ?_
   refine ZaE hpl rfl rfl rfl (i:=k) hk' fun a ha=>?_
   refine wkT ?_
   refine Zaf (hs _) rfl ha ?_
   refine wkT ?_
   refine Zab (vs:=[vi t.pl[k],vi 0,vi (m.pc.length-1)]) rfl (Waa _ _ _) ?_
   rintro w _ ⟨rfl,rfl⟩
   rw[decide_eq_true rg]
   refine wkT ?_
   refine wiT (fun h7=>?_) (fun h7=>?_)
   ·obtain⟨q,rfl⟩:∃ q,k=q+1:=⟨k-1,by omega⟩
    have et:((q+1:Nat):Int)-1=(q:Int):=by omega
    have up:=o3 q hk'
    refine wkT ?_
    rw[et]
    refine ZaE hpl rfl rfl rfl (i:=q) (by omega) fun a ha=>?_
    refine wkT ?_
    refine Zaf (hs _) rfl ha ?_
    refine wkT ?_
    refine wiT (fun h8=>?_) (fun h8=>?_)
    ·exact absurd h8 (by omega)
    refine wkT ?_
    exact⟨⟨q+1+1,by omega⟩,Nat.sub_lt_sub_left (by omega) (Nat.lt_succ_self (q+1)),rfl,⟨rfl,rfl,rfl,rfl,rfl,rfl,rfl,rfl,trivial⟩,⟨rfl,rfl,trivial⟩,rfl⟩
   ·refine wkT ?_
    exact⟨⟨k+1,by omega⟩,slt (by omega),rfl,⟨rfl,rfl,rfl,rfl,rfl,rfl,rfl,rfl,trivial⟩,⟨rfl,rfl,trivial⟩,rfl⟩
  ·refine wkT ?_
   refine Zab (vs:=[.agg #[vi t.lo,vi t.hi],vi 0,vi 120,vi 121]) rfl (Wag o4 (by omega) ⟨by omega,by omega⟩) ?_
   rintro v _ ⟨rfl,rfl⟩
   refine wkT ?_
   exact⟨⟨j+1,by omega⟩,slt (by omega),rfl,⟨rfl,rfl,rfl,rfl,trivial⟩,⟨rfl,trivial⟩,rfl⟩
 ·refine wkT ?_
  exact⟨rfl,rfl⟩
end
def metF (kn:List Spn)(a b:Int):Nat:=(kn.filter fun k=>decide (k.lo<=b∧a<=k.hi)).length
section
variable  {P:Prg}[Tz P][Loud P]{H:Hp}
set_option maxHeartbeats 8000000
set_option maxRecDepth 20000
theorem Wae {m:MBk}(hm:MbAt H m)(h:MOk m)(h3:∀ t∈m.tp,t.pl.length<=1000000):LL.Zag P 59 #[m.v] H fun v H'=>Inc H H'∧v=vi 0:=by
 have hs:=Loud.loud (P:=P)
 refine IsN.m (isn c1059) (args:=[m.v]) rfl ?_
 have e0:m.v=.agg #[vi m.saw,.slice m.A1 m.pc.length m.c1,.slice m.A2 m.bd.length m.c2,.slice m.A3 m.tp.length m.c3]:=rfl
 rw[e0]
 unfold n1059
 refine wkT ?_
 refine Zci rfl rfl ?_
 refine wkT ?_
 refine Zci rfl rfl ?_
 refine wkT ?_
 refine Zci rfl rfl ?_
 refine wkT ?_
 refine Zci rfl rfl ?_
 refine wkT ?_
 refine Zat (cs:=[.func (.func 130) #[m.v] #[],.func (.func 131) #[m.v] #[],.func (.func 132) #[m.v] #[],.func (.func 133) #[m.v] #[]]) (hs _) rfl fun r hr=>?_
 have i1:=Zai (o:=.cells [.func (.func 130) #[m.v] #[],.func (.func 131) #[m.v] #[],.func (.func 132) #[m.v] #[],.func (.func 133) #[m.v] #[]].toArray 222) hr
 have s1:SlAt (H.ins r (.cells [.func (.func 130) #[m.v] #[],.func (.func 131) #[m.v] #[],.func (.func 132) #[m.v] #[],.func (.func 133) #[m.v] #[]].toArray 222)) (.slice (some ⟨r,0,none⟩) 4 4) [Value.func (.func 130) #[m.v] #[],.func (.func 131) #[m.v] #[],.func (.func 132) #[m.v] #[],.func (.func 133) #[m.v] #[]]:=
  Za3 (l:=[Value.func (.func 130) #[m.v] #[],.func (.func 131) #[m.v] #[],.func (.func 132) #[m.v] #[],.func (.func 133) #[m.v] #[]])
 generalize H.ins r (.cells [.func (.func 130) #[m.v] #[],.func (.func 131) #[m.v] #[],.func (.func 132) #[m.v] #[],.func (.func 133) #[m.v] #[]].toArray 222)=H1 at *
 refine wkT ?_
 refine ZaW 4 (fun j H'=>Inc H1 H') (fun j=>[(17,.slice (some ⟨r,0,none⟩) 4 4),(18,vi 4),(19,vi j)]) (fun _=>[]) (.refl _) ⟨rfl,rfl,rfl,trivial⟩ trivial ?_
 rintro j H2 hj i2
 have i12:=i1.trans i2
 refine wkT ?_
 refine wiT (fun h1=>?_) (fun h1=>?_)
 ·have hj3:j=0∨j=1∨j=2∨j=3:=by omega
  refine wkT ?_
  rcases hj3 with rfl | rfl | rfl | rfl
  ·refine ZaE (s1.inc i2) rfl rfl rfl (i:=0) (show 0<4 by decide) fun a ha=>?_
   refine wkT ?_
   refine Zaf (hs _) rfl ha ?_
   refine wkT ?_
   refine ZaP rfl rfl (ZcY (by kernel_rfl) (saw_ok h)) ?_
   rintro v _ ⟨rfl,rfl⟩
   refine wkT ?_
   exact⟨⟨1,by omega⟩,(by show 4-1<4-0;omega),i2,⟨rfl,rfl,rfl,trivial⟩,trivial,rfl⟩
  ·refine ZaE (s1.inc i2) rfl rfl rfl (i:=1) (show 1<4 by decide) fun a ha=>?_
   refine wkT ?_
   refine Zaf (hs _) rfl ha ?_
   refine wkT ?_
   refine ZaP rfl rfl (ZcY (by kernel_rfl) (Wa3 (hm.inc i12) h)) ?_
   rintro v H3 ⟨i3,rfl⟩
   refine wkT ?_
   exact⟨⟨2,by omega⟩,(by show 4-2<4-1;omega),i2.trans i3,⟨rfl,rfl,rfl,trivial⟩,trivial,rfl⟩
  ·refine ZaE (s1.inc i2) rfl rfl rfl (i:=2) (show 2<4 by decide) fun a ha=>?_
   refine wkT ?_
   refine Zaf (hs _) rfl ha ?_
   refine wkT ?_
   refine ZaP rfl rfl (ZcY (by kernel_rfl) (Wa5 (hm.inc i12) h)) ?_
   rintro v H3 ⟨i3,rfl⟩
   refine wkT ?_
   exact⟨⟨3,by omega⟩,(by show 4-3<4-2;omega),i2.trans i3,⟨rfl,rfl,rfl,trivial⟩,trivial,rfl⟩
  ·refine ZaE (s1.inc i2) rfl rfl rfl (i:=3) (show 3<4 by decide) fun a ha=>?_
   refine wkT ?_
   refine Zaf (hs _) rfl ha ?_
   refine wkT ?_
   refine ZaP rfl rfl (ZcY (by kernel_rfl) (Wbj (hm.inc i12) h h3)) ?_
   rintro v _ ⟨rfl,rfl⟩
   refine wkT ?_
   exact⟨⟨4,by omega⟩,(by show 4-4<4-3;omega),i2,⟨rfl,rfl,rfl,trivial⟩,trivial,rfl⟩
 ·refine wkT ?_
  exact⟨i12,rfl⟩
theorem WaT {k:Int}{n:Nat}(h:0<=k∧k<n)(hn:n<=1000000):LL.Zag P 60 #[vi k,vi n] H fun v H'=>H=H'∧v=vi 0:=by
 refine IsN.m (isn c1060) (args:=[vi k,vi n]) rfl ?_
 unfold n1060
 refine wkT ?_
 refine Zab (vs:=[vi k,vi 0,vi (n-1)]) rfl (Waa _ _ _) ?_
 rintro w _ ⟨rfl,rfl⟩
 rw[decide_eq_true (show (0:Int)<=k∧k<=(n:Int)-1 from ⟨by omega,by omega⟩)]
 refine wkT ?_
 exact⟨rfl,rfl⟩
theorem met_ok {x:MBd}{a b:Int}(hk:SlAt H (.slice x.A x.kn.length x.c) x.kn)(hn:x.kn.length<=3):LL.Zag P 61 #[bdV x,.agg #[vi a,vi b]] H fun v H'=>H=H'∧v=vi (metF x.kn a b):=by
 have hs:=Loud.loud (P:=P)
 refine IsN.m (isn c1061) (args:=[bdV x,.agg #[vi a,vi b]]) rfl ?_
 unfold n1061
 refine wkT ?_
 refine ZaW x.kn.length (fun j H'=>H=H') (fun j=>[(3,vi 0),(5,vi (metF (x.kn.take j) a b)),(9,.slice x.A x.kn.length x.c),(10,vi x.kn.length),(11,vi j)]) (fun _=>[(3,[vi a,vi b])]) rfl ⟨rfl,rfl,rfl,rfl,rfl,trivial⟩ ⟨rfl,trivial⟩ ?_
 rintro j _ hj rfl
 refine wkT ?_
 refine wiT (fun h1=>?_) (fun h1=>?_)
 ·have hj':j<x.kn.length:=by omega
  have hc:=Zjt (f:=fun k:Spn=>decide (k.lo<=b∧a<=k.hi)) hj'
  have hle:metF (x.kn.take j) a b<=3:=Nat.le_trans (List.length_filter_le _ _) (by rw[List.length_take];omega)
  have hc':metF (x.kn.take (j+1)) a b=metF (x.kn.take j) a b+if decide (x.kn[j].lo<=b∧a<=x.kn[j].hi)=true then 1 else 0:=hc
  refine wkT ?_
  refine ZaE hk rfl rfl rfl (i:=j) hj' fun a2 ha=>?_
  refine wkT ?_
  refine Zao (cs:=[vi x.kn[j].lo,vi x.kn[j].hi]) (hs _) rfl ha rfl ?_
  generalize x.kn[j].lo=lo at *
  generalize x.kn[j].hi=hi at *
  generalize metF (x.kn.take j) a b=c at *
  refine wkT ?_
  refine wiT (fun h2=>?_) (fun h2=>?_)
  ·refine wkT ?_
   refine wiT (fun h3=>?_) (fun h3=>?_)
   ·refine wkT ?_
    rw[if_pos (decide_eq_true ⟨h2,h3⟩)]at hc'
    exact⟨⟨j+1,by omega⟩,slt (by omega),rfl,⟨rfl,by rw[hc'];rfl,rfl,rfl,rfl,trivial⟩,⟨rfl,trivial⟩,rfl⟩
   ·refine wkT ?_
    rw[if_neg (by rw[decide_eq_false (fun e=>h3 e.2)];decide)]at hc'
    exact⟨⟨j+1,by omega⟩,slt (by omega),rfl,⟨rfl,by rw[hc'];rfl,rfl,rfl,rfl,trivial⟩,⟨rfl,trivial⟩,rfl⟩
  ·refine wkT ?_
   rw[if_neg (by rw[decide_eq_false (fun e=>h2 e.1)];decide)]at hc'
   exact⟨⟨j+1,by omega⟩,slt (by omega),rfl,⟨rfl,by rw[hc'];rfl,rfl,rfl,rfl,trivial⟩,⟨rfl,trivial⟩,rfl⟩
 ·have:j=x.kn.length:=by omega
  subst this
  refine wkT ?_
  exact⟨rfl,by rw[List.take_length];rfl⟩
end
theorem Wap:Tryz.prog.underlying 37=some (.slice 56):=by kernel_rfl
theorem tSpan:tiOf Tryz.prog 56=some (2,some (.agg #[vi 0,vi 0]),16):=by kernel_rfl
theorem Wbe {G:Prop} (h:G:=by
  refine wkT ?_
  exact⟨(⟨j+1,by omega⟩,(v7,b7)),slt (by omega),⟨k1,by show Own _ _ 56 _ (joinL (l.take (j+1))) _;rw[ht];exact k2⟩,⟨rfl,rfl,rfl,rfl,rfl,trivial⟩,trivial,rfl⟩):G:=h
def Wan (out:List Spn)(x:Spn):List Spn:=match out.getLast? with
 | some s=>if s.hi+1=x.lo then out.dropLast++[⟨s.lo,x.hi⟩] else out++[x]
 | none=>[x]
def joinL (l:List Spn):List Spn:=l.foldl Wan []
theorem Wah {l:List Spn}{j:Nat}(hj:j<l.length):joinL (l.take (j+1))=Wan (joinL (l.take j)) l[j]:=by
 unfold joinL
 rw[List.take_succ_eq_append_getElem hj,List.foldl_append];rfl
theorem Waf (x:Spn):Wan [] x=[x]:=rfl
theorem Wav {o:List Spn}{s x:Spn}(h:s.hi+1=x.lo):Wan (o++[s]) x=o++[⟨s.lo,x.hi⟩]:=by
 simp[Wan,h]
theorem Waw {o:List Spn}{s x:Spn}(h:¬ s.hi+1=x.lo):Wan (o++[s]) x=o++[s]++[x]:=by
 simp[Wan,h]
theorem joinS_hi {out:List Spn}{x:Spn}{P:Int->Prop}(h1:∀ z∈out,P z.hi)(h2:P x.hi):∀ z∈Wan out x,P z.hi:=by
 rcases List.eq_nil_or_concat out with rfl | ⟨o,s,rfl⟩
 ·rw[Waf];intro z hz;rw[List.mem_singleton.1 hz];exact h2
 ·rw[List.concat_eq_append]at h1 ⊢
  by_cases h:s.hi+1=x.lo
  ·rw[Wav h]
   intro z hz
   rcases List.mem_append.1 hz with hz | hz
   ·exact h1 z (List.mem_append_left _ hz)
   ·rw[List.mem_singleton.1 hz];exact h2
  ·rw[Waw h]
   intro z hz
   rcases List.mem_append.1 hz with hz | hz
   ·exact h1 z hz
   ·rw[List.mem_singleton.1 hz];exact h2
theorem WaX {P:Int->Prop}{l:List Spn}(h:∀ z∈l,P z.hi):∀ j,j<=l.length->∀ z∈joinL (l.take j),P z.hi
 | 0,_,z,hz=>by simp[joinL]at hz
 | j+1,hj,z,hz=>by
  rw[Wah (by omega)]at hz
  exact joinS_hi (WaX h j (by omega)) (h _ (List.getElem_mem _)) z hz
theorem Wbp (out:List Spn)(x:Spn):(Wan out x).length<=out.length+1:=by
 rcases List.eq_nil_or_concat out with rfl | ⟨o,s,rfl⟩
 ·simp[Waf]
 ·rw[List.concat_eq_append]
  by_cases h:s.hi+1=x.lo
  ·rw[Wav h];simp
  ·rw[Waw h];simp
theorem Wal {l:List Spn}:∀ j,j<=l.length->(joinL (l.take j)).length<=j
 | 0,_=>by simp[joinL]
 | j+1,hj=>by
  rw[Wah (by omega)]
  have:=Wbp (joinL (l.take j)) l[j]
  have:=Wal j (l:=l) (by omega)
  omega
theorem own_ne {α:Type}[Enc α]{H0 H:Hp}{E:TypeId}{v:Value}{l:List α}{b:Option Nat}(h:Own H0 H E v l b)(hne:l≠[]):∃ r cap rest,b=some r∧v=.slice (some ⟨r,0,none⟩) l.length cap∧H r=some (.cells (encs l++rest).toArray E (0,0),true)∧(encs l++rest).length=cap * Enc.sz α∧l.length<=cap∧H0 r=none:=by
 obtain⟨h0,⟨_,h2,_⟩ | ⟨r,cap,rest,h1,h2,h3,h4,h5⟩⟩:=h.own
 ·exact absurd (List.length_eq_zero_iff.1 h2) hne
 ·exact⟨r,cap,rest,h1,h2,h3,h4,h5,h.fresh r h1⟩
theorem Wat (l:List Spn):((encs l).all Value.isOne)=true:=ZhY (fun _=>rfl) l
section
variable  {P:Prg}[Tz P][Loud P]{H:Hp}
theorem addr21 (r k:Nat):(((⟨r,0,none⟩:Addr).add (k * 2)).add 1)=⟨r,k * 2+1,none⟩:=by
 rw[ZmV,ZmV,Nat.zero_add]
theorem om_stHi {H0:Hp}{d:Option Nat}{next:NSt->Hp->Prop}{σ:NSt}{x y:Operand}{ty r cap:Nat}{o:List Spn}{s:Spn}{n:Int}{rest:List Value}(i0:Inc H0 H)(h3:H r=some (.cells (encs (o++[s])++rest).toArray 56 (0,0),true))(h4:(encs (o++[s])++rest).length=cap * 2)(h5:(o++[s]).length<=cap)(h6:H0 r=none)
  (e1:σ.get x=some (.pointer (some ⟨r,o.length * 2+1,none⟩))) (e2:σ.get y=some (vi n))
  (h:∀ H',Inc H0 H'->Own H0 H' 56 (.slice (some ⟨r,0,none⟩) (o++[(⟨s.lo,n⟩:Spn)]).length cap) (o++[(⟨s.lo,n⟩:Spn)]) (some r)->next (σ.set d undef) H'):(NOp.raw (.store 3 x y) ty).m P d next σ H:=by
 have hs:=Loud.loud (P:=P)
 have el:(encs o).length=o.length * 2:=Zck o
 have e0:encs (o++[s])=encs o++[vi s.lo,vi s.hi]:=by rw[Zcd,WaZ];rfl
 have e3:encs (o++[(⟨s.lo,n⟩:Spn)])=encs o++[vi s.lo,vi n]:=by rw[Zcd,WaZ];rfl
 refine Zd5 (tif t3) e1 e2 h3 rfl (by rw[e0];simp only[List.length_append,el,List.length_cons,List.length_nil];omega) rfl (hs _) ?_
 have e4:ZaM (encs (o++[s])++rest) (o.length * 2+1) (vi n).cells.toList=encs (o++[(⟨s.lo,n⟩:Spn)])++rest:=by
  rw[e0,e3,<-el]
  show ZaM _ _ [vi n]=_
  unfold ZaM
  have a1:(encs o++[vi s.lo,vi s.hi]++rest).take ((encs o).length+1)=encs o++[vi s.lo]:=by
   rw[show encs o++[vi s.lo,vi s.hi]++rest=(encs o++[vi s.lo])++([vi s.hi]++rest) by simp]
   exact List.take_left' (by simp)
  have a2:(encs o++[vi s.lo,vi s.hi]++rest).drop ((encs o).length+1+[vi n].length)=rest:=by
   exact List.drop_left' (by simp)
  rw[a1,a2];simp
 rw[e4]
 have hl:(encs (o++[(⟨s.lo,n⟩:Spn)])++rest).length=cap * 2:=by rw[<-h4,e0,e3];simp
 refine h _ (Za6 i0 h6) ⟨⟨Zck _,.inr ⟨r,cap,rest,rfl,rfl,Hp.ins_same _ _ _,hl,?_⟩⟩,fun q e=>by obtain rfl:=Option.some.inj e;exact h6⟩
 simp only[List.length_append,List.length_singleton]at h5 ⊢
 exact h5
set_option maxHeartbeats 8000000
set_option maxRecDepth 20000
theorem join_ok {v:Value}{l:List Spn}(hl:SlAt H v l)(hn:l.length<=100)(hr:∀ z∈l,-1000<=z.hi∧z.hi<=1000):LL.Zag P 62 #[v] H fun v H'=>Inc H H'∧∃ bb,Own H H' 56 v (joinL l) bb:=by
 have hs:=Loud.loud (P:=P)
 refine IsN.m (isn c1062) (args:=[v]) rfl ?_
 unfold n1062
 refine wkT ?_
 refine Zau hl rfl ?_
 refine wkT ?_
 refine ZaO (α:=Value×Option Nat) l.length (fun j s H'=>Inc H H'∧Own H H' 56 s.1 (joinL (l.take j)) s.2) (fun j s=>[(2,.slice none 0 0),(3,s.1),(7,v),(8,vi l.length),(9,vi j)]) (fun _ _=>[]) (.slice none 0 0,none) ⟨.refl _,.nil _ _ _⟩ ⟨rfl,rfl,rfl,rfl,rfl,trivial⟩ trivial ?_
 rintro j ⟨v3,b3⟩ H2 hj ⟨i2,o3⟩
 simp only at o3
 have hjl:=Wal j (l:=l) hj
 refine wkT ?_
 refine wiT (fun h1=>?_) (fun h1=>?_)
 ·have hj':j<l.length:=by omega
  have ht:=Wah hj'
  have hhi:=WaX (P:=fun z=>-1000<=z∧z<=1000) hr j hj
  refine wkT ?_
  refine ZaE (hl.inc i2) rfl rfl rfl (i:=j) hj' fun a ha=>?_
  generalize l[j]=x at *
  generalize joinL (l.take j)=out at *
  refine wkT ?_
  refine Zao (cs:=[vi x.lo,vi x.hi]) (hs _) rfl ha rfl ?_
  refine wkT ?_
  refine Zau o3.sl rfl ?_
  refine wkT ?_
  rcases List.eq_nil_or_concat out with rfl | ⟨o,s,rfl⟩
  ·rw[Waf]at ht
   refine wkT ?_
   refine Zat (cs:=[vi x.lo,vi x.hi]) (hs _) rfl fun r5 hr5=>?_
   refine wkT ?_
   refine ZbU (l':=[x]) (und Wap) (und Wap) (tif tSpan) rfl (by decide) (i2.trans (Zai hr5)) (o3.ins hr5) (Za3 (l:=[x])) (Wat _) (by simp) (by omega) rfl rfl (hs _) fun v7 H4 b7 k1 k2 k3=>?_
   exact Wbe
  ·rw[List.concat_eq_append]at *
   obtain⟨r,cap,rest,rfl,rfl,q3,q4,q5,q6⟩:=own_ne o3 (by simp)
   have hsl:=o3.sl
   have hlen:(o++[s]).length=o.length+1:=by simp
   have hgt:(0:Int)<((o++[s]).length:Nat):=by rw[hlen];omega
   have et:(((o++[s]).length:Nat):Int)-1=(o.length:Int):=by rw[hlen];omega
   have hb:=hhi s (by simp)
   rw[decide_eq_true hgt]
   refine wkT ?_
   rw[et]
   refine ZaE hsl rfl rfl rfl (i:=o.length) (by omega) fun a2 ha2=>?_
   rw[show (o++[s])[o.length]'(by omega)=s by simp]at ha2
   refine wkT ?_
   refine Zaf (hs _) rfl (Zlf (cs:=[vi s.lo,vi s.hi]) ha2 rfl) ?_
   refine wkT ?_
   refine wiT (fun h5=>?_) (fun h5=>?_)
   ·rw[Wav h5]at ht
    refine wkT ?_
    rw[et]
    refine ZcV rfl rfl (n:=o.length) (by omega) ?_
    refine wkT ?_
    refine om_stHi i2 q3 q4 q5 q6 (by rw[<-addr21];rfl) rfl fun H4 k1 k2=>?_
    rw[show (o++[(⟨s.lo,x.hi⟩:Spn)]).length=(o++[s]).length by simp]at k2
    refine wkT ?_
    exact⟨(⟨j+1,by omega⟩,(_,_)),slt (by omega),⟨k1,by show Own _ _ 56 _ (joinL (l.take (j+1))) _;rw[ht];exact k2⟩,⟨rfl,rfl,rfl,rfl,rfl,trivial⟩,trivial,rfl⟩
   ·rw[Waw h5]at ht
    refine wkT ?_
    refine Zat (cs:=[vi x.lo,vi x.hi]) (hs _) rfl fun r5 hr5=>?_
    refine wkT ?_
    refine ZbU (l':=[x]) (und Wap) (und Wap) (tif tSpan) rfl (by decide) (i2.trans (Zai hr5)) (o3.ins hr5) (Za3 (l:=[x])) (Wat _) (by simp only[List.length_append,List.length_singleton]at hjl ⊢;omega) (by omega) rfl rfl (hs _) fun v7 H4 b7 k1 k2 k3=>?_
    exact Wbe
 ·have:j=l.length:=by omega
  subst this
  rw[List.take_length]at o3
  refine wkT ?_
  exact⟨i2,b3,o3⟩
end
def freeL (kn:List Spn):Nat->List Spn
 | 0=>[]
 | j+1=>freeL kn j++if metF kn j j=0 then [⟨j,j⟩] else []
theorem Wam (kn:List Spn):∀ j,(freeL kn j).length<=j
 | 0=>Nat.le_refl _
 | j+1=>by
  have:=Wam kn j
  rw[freeL,List.length_append]
  split<;>simp<;>omega
theorem WaY (kn:List Spn):∀ j,∀ z∈freeL kn j,0<=z.hi∧z.hi<j
 | 0,z,h=>by simp[freeL]at h
 | j+1,z,h=>by
  rw[freeL]at h
  rcases List.mem_append.1 h with h | h
  ·have:=WaY kn j z h;omega
  ·split at h
   ·rw[List.mem_singleton.1 h];exact⟨by show (0:Int)<=(j:Int);omega,by show (j:Int)<((j+1:Nat):Int);omega⟩
   ·simp at h
theorem Wac {kn:List Spn}{a b:Int}:metF kn a b=0↔∀ k∈kn,¬ (k.lo<=b∧a<=k.hi):=by
 unfold metF
 rw[List.length_eq_zero_iff,List.filter_eq_nil_iff]
 simp
theorem Wad {kn:List Spn}{a b a' b':Int}(h:metF kn a b=0)(h1:a<=a')(h2:b'<=b):metF kn a' b'=0:=Wac.2 fun k hk ⟨x,y⟩=>Wac.1 h k hk ⟨by omega,by omega⟩
structure LongP (kn:List Spn)(n:Nat)(w:Int):Prop where
 rg:0<=w∧w<=n
 up:∀ a b:Nat,a<=b->b<n->metF kn a b=0->(b:Int)-a+1<=w
 at_:w=0∨∃ a b:Nat,a<=b∧b<n∧metF kn a b=0∧w=(b:Int)-a+1
section
variable  {P:Prg}[Tz P][Loud P]{H:Hp}
set_option maxHeartbeats 8000000
set_option maxRecDepth 20000
theorem Wbm {m:MBk}{k:Nat}(hm:MbAt H m)(h:MOk m)(h3:∀ t∈m.tp,t.pl.length<=1000000)(hk:k<m.bd.length):LL.Zag P 13 #[m.v,vi k] H fun v H'=>Inc H H'∧∃ A c,v=.tuple #[.slice A (joinL (freeL m.bd[k].kn m.bd[k].lg.toNat)).length c,vi 0]∧SlAt H' (.slice A (joinL (freeL m.bd[k].kn m.bd[k].lg.toNat)).length c) (joinL (freeL m.bd[k].kn m.bd[k].lg.toNat)):=by
 have hs:=Loud.loud (P:=P)
 have hn2:=h.n2
 obtain⟨o1,o2,o3,o4,o5,o6⟩:=h.bd k hk
 have hkn:=hm.kn _ (List.getElem_mem hk)
 have e0:m.v=.agg #[vi m.saw,.slice m.A1 m.pc.length m.c1,.slice m.A2 m.bd.length m.c2,.slice m.A3 m.tp.length m.c3]:=rfl
 refine IsN.m (isn c1013) (args:=[m.v,vi k]) rfl ?_
 rw[e0]
 unfold n1013
 refine wkT ?_
 refine Zab (vs:=[m.v]) rfl (Wae hm h h3) ?_
 rintro v H1 ⟨i1,rfl⟩
 refine wkT ?_
 refine Zab (vs:=[vi k,vi m.bd.length]) rfl (WaT ⟨by omega,by omega⟩ (by omega)) ?_
 rintro v _ ⟨rfl,rfl⟩
 refine wkT ?_
 refine ZaE (hm.bd.inc i1) rfl rfl rfl (i:=k) hk fun a ha=>?_
 generalize m.bd[k]=x at *
 obtain⟨n,hn⟩:∃ n:Nat,x.lg=n:=⟨x.lg.toNat,by omega⟩
 rw[hn,Int.toNat_natCast]
 have hx:bdV x=.agg #[.string x.nm,vi n,.slice x.A x.kn.length x.c]:=by rw[<-hn]
 refine wkT ?_
 refine Zao (cs:=[.string x.nm,vi n,.slice x.A x.kn.length x.c]) (hs _) rfl (by rw[<-hn];exact ha) rfl ?_
 refine wkT ?_
 refine ZaO (α:=Value×Option Nat) n (fun j s H'=>Inc H1 H'∧Own H1 H' 56 s.1 (freeL x.kn j) s.2) (fun j s=>[(8,vi 0),(9,s.1),(31,vi n),(32,vi j)]) (fun _ _=>[(8,[.string x.nm,vi n,.slice x.A x.kn.length x.c])]) (.slice none 0 0,none) ⟨.refl _,.nil _ _ _⟩ ⟨rfl,rfl,rfl,rfl,trivial⟩ ⟨rfl,trivial⟩ ?_
 rintro j ⟨v9,b9⟩ H2 hj ⟨i2,ow9⟩
 simp only at ow9
 have hfl:=Wam x.kn j
 refine wkT ?_
 refine wiT (fun h1=>?_) (fun h1=>?_)
 ·have hj':j<n:=by omega
  have hf:freeL x.kn (j+1)=freeL x.kn j++if metF x.kn j j=0 then [⟨j,j⟩] else []:=rfl
  refine wkT ?_
  refine Zab (vs:=[.agg #[.string x.nm,vi n,.slice x.A x.kn.length x.c],.agg #[vi j,vi j]]) rfl (by rw[<-hx];exact met_ok (hkn.inc (i1.trans i2)) o4) ?_
  rintro v _ ⟨rfl,rfl⟩
  refine wkT ?_
  refine wiT (fun h5=>?_) (fun h5=>?_)
  ·rw[if_pos (by omega)]at hf
   refine wkT ?_
   refine Zat (cs:=[vi j,vi j]) (hs _) rfl fun r5 hr5=>?_
   refine wkT ?_
   refine ZbU (l':=[(⟨j,j⟩:Spn)]) (und Wap) (und Wap) (tif tSpan) rfl (by decide) (i2.trans (Zai hr5)) (ow9.ins hr5) (Za3 (l:=[(⟨j,j⟩:Spn)])) (Wat _) (by simp only[List.length_singleton];omega) (by omega) rfl rfl (hs _) fun v7 H4 b7 k1 k2 k3=>?_
   rw[<-hf]at k2
   refine wkT ?_
   exact⟨(⟨j+1,by omega⟩,(v7,b7)),slt (by omega),⟨k1,k2⟩,⟨rfl,rfl,rfl,rfl,trivial⟩,⟨rfl,trivial⟩,rfl⟩
  ·rw[if_neg (by omega),List.append_nil]at hf
   refine wkT ?_
   exact⟨(⟨j+1,by omega⟩,(v9,b9)),slt (by omega),⟨i2,by show Own _ _ 56 _ (freeL x.kn (j+1)) _;rw[hf];exact ow9⟩,⟨rfl,rfl,rfl,rfl,trivial⟩,⟨rfl,trivial⟩,rfl⟩
 ·have:j=n:=by omega
  subst this
  refine wkT ?_
  refine Zab (vs:=[v9]) rfl (join_ok ow9.sl (by omega) (fun z hz=>by have:=WaY x.kn j z hz;omega)) ?_
  rintro v H3 ⟨i3,bb,o⟩
  obtain⟨A,c,rfl⟩:=own_len o
  refine wkT ?_
  exact⟨(i1.trans i2).trans i3,A,c,rfl,o.sl⟩
theorem WaQ {m:MBk}{k:Nat}(hm:MbAt H m)(h:MOk m)(h3:∀ t∈m.tp,t.pl.length<=1000000)(hk:k<m.bd.length):LL.Zag P 14 #[m.v,vi k,vi 0] H fun v H'=>Inc H H'∧∃ w,v=.tuple #[vi w,vi 0]∧LongP m.bd[k].kn m.bd[k].lg.toNat w:=by
 have hs:=Loud.loud (P:=P)
 have hn2:=h.n2
 obtain⟨o1,o2,o3,o4,o5,o6⟩:=h.bd k hk
 have hkn:=hm.kn _ (List.getElem_mem hk)
 have e0:m.v=.agg #[vi m.saw,.slice m.A1 m.pc.length m.c1,.slice m.A2 m.bd.length m.c2,.slice m.A3 m.tp.length m.c3]:=rfl
 refine IsN.m (isn c1014) (args:=[m.v,vi k,vi 0]) rfl ?_
 rw[e0]
 unfold n1014
 refine wkT ?_
 refine Zab (vs:=[m.v]) rfl (Wae hm h h3) ?_
 rintro v H1 ⟨i1,rfl⟩
 refine wkT ?_
 refine Zab (vs:=[vi k,vi m.bd.length]) rfl (WaT ⟨by omega,by omega⟩ (by omega)) ?_
 rintro v _ ⟨rfl,rfl⟩
 refine wkT ?_
 refine Zab (vs:=[vi 0,vi 0,vi 2]) rfl (Waa _ _ _) ?_
 rintro v _ ⟨rfl,rfl⟩
 refine wkT ?_
 refine ZaE (hm.bd.inc i1) rfl rfl rfl (i:=k) hk fun a ha=>?_
 generalize m.bd[k]=x at *
 obtain⟨n,hn⟩:∃ n:Nat,x.lg=n:=⟨x.lg.toNat,by omega⟩
 rw[hn,Int.toNat_natCast]
 have hx:bdV x=.agg #[.string x.nm,vi n,.slice x.A x.kn.length x.c]:=by rw[<-hn]
 have hkn1:=hkn.inc i1
 refine wkT ?_
 refine Zao (cs:=[.string x.nm,vi n,.slice x.A x.kn.length x.c]) (hs _) rfl (by rw[<-hn];exact ha) rfl ?_
 refine wkT ?_
 refine ZaO (α:=Int) n (fun j w H'=>H1=H'∧(0<=w∧w<=n)∧(∀ a b:Nat,a<j->a<=b->b<n->metF x.kn a b=0->(b:Int)-a+1<=w)∧(w=0∨∃ a b:Nat,a<=b∧b<n∧metF x.kn a b=0∧w=(b:Int)-a+1)) (fun j w=>[(2,vi 0),(10,vi 0),(11,vi w),(36,vi n),(37,vi j)]) (fun _ _=>[(10,[.string x.nm,vi n,.slice x.A x.kn.length x.c])]) 0 ⟨rfl,⟨by omega,by omega⟩,by omega,.inl rfl⟩ ⟨rfl,rfl,rfl,rfl,rfl,trivial⟩ ⟨rfl,trivial⟩ ?_
 rintro j w _ hj ⟨rfl,hw,hI,hat⟩
 refine wkT ?_
 refine wiT (fun h1=>?_) (fun h1=>?_)
 ·have hj':j<n:=by omega
  refine wkT ?_
  refine ZaO (α:=Int) (n-j) (fun q w H'=>H1=H'∧(0<=w∧w<=n)∧(∀ a b:Nat,a<j->a<=b->b<n->metF x.kn a b=0->(b:Int)-a+1<=w)∧(∀ b:Nat,j<=b->b<j+q->metF x.kn j b=0->(b:Int)-j+1<=w)∧(w=0∨∃ a b:Nat,a<=b∧b<n∧metF x.kn a b=0∧w=(b:Int)-a+1)) (fun q w=>[(2,vi 0),(10,vi 0),(11,vi w),(12,vi j),(13,vi ((j+q:Nat):Int)),(36,vi n),(37,vi j)]) (fun _ _=>[(10,[.string x.nm,vi n,.slice x.A x.kn.length x.c])]) w ⟨rfl,hw,hI,by omega,hat⟩ ⟨rfl,rfl,rfl,rfl,rfl,rfl,rfl,trivial⟩ ⟨rfl,trivial⟩ ?_
  rintro q w2 _ hq ⟨rfl,hw2,hI2,hJ,hat2⟩
  refine wkT ?_
  refine wiT (fun h4=>?_) (fun h4=>?_)
  ·refine wkT ?_
   refine Zab (vs:=[.agg #[.string x.nm,vi n,.slice x.A x.kn.length x.c],.agg #[vi j,vi ((j+q:Nat):Int)]]) rfl (by rw[<-hx];exact met_ok hkn1 o4) ?_
   rintro v _ ⟨rfl,rfl⟩
   refine wkT ?_
   refine wiT (fun h5=>?_) (fun h5=>?_)
   ·refine wkT ?_
    exact⟨(⟨j+1,by omega⟩,w2),slt (by omega),⟨rfl,hw2,fun a b h1 h2 g3 g4=>by
     rcases Nat.lt_succ_iff_lt_or_eq.1 h1 with h' | rfl
     ·exact hI2 a b h' h2 g3 g4
     ·by_cases hb:b<a+q
      ·exact hJ b h2 hb g4
      ·have:=Wad (a':=(a:Int)) (b':=((a+q:Nat):Int)) g4 (Int.le_refl _) (by omega)
       omega,hat2⟩,⟨rfl,rfl,rfl,rfl,rfl,trivial⟩,⟨rfl,trivial⟩,rfl⟩
   ·have hz:metF x.kn j ((j+q:Nat):Int)=0:=by omega
    refine wkT ?_
    refine om_max rfl rfl ?_
    have ew:(((j+q:Nat):Int)-j+1)=q+1:=by omega
    rw[ew]
    refine wkT ?_
    refine⟨(⟨q+1,by omega⟩,max w2 (q+1)),slt (by omega),⟨rfl,⟨by omega,by omega⟩,fun a b h1 h2 h3 h4=>by have:=hI2 a b h1 h2 h3 h4;show _<=max w2 ((q:Int)+1);omega,fun b h1 h2 h4=>?_,?_⟩,⟨rfl,rfl,rfl,rfl,rfl,rfl,rfl,trivial⟩,⟨rfl,trivial⟩,rfl⟩
    ·have h2:b<j+(q+1):=h2
     show _<=max w2 ((q:Int)+1)
     by_cases hb:b<j+q
     ·have:=hJ b h1 hb h4;omega
     ·omega
    ·show max w2 ((q:Int)+1)=0∨_
     by_cases hc:w2<=(q:Int)+1
     ·right
      refine⟨j,j+q,by omega,by omega,hz,?_⟩
      show max w2 ((q:Int)+1)=_
      omega
     ·show max w2 ((q:Int)+1)=0∨∃ a b:Nat,a<=b∧b<n∧metF x.kn a b=0∧max w2 ((q:Int)+1)=(b:Int)-a+1
      rw[show max w2 ((q:Int)+1)=w2 by omega];exact hat2
  ·refine wkT ?_
   exact⟨(⟨j+1,by omega⟩,w2),slt (by omega),⟨rfl,hw2,fun a b h1 h2 g3 g4=>by
    rcases Nat.lt_succ_iff_lt_or_eq.1 h1 with h' | rfl
    ·exact hI2 a b h' h2 g3 g4
    ·exact hJ b h2 (by omega) g4,hat2⟩,⟨rfl,rfl,rfl,rfl,rfl,trivial⟩,⟨rfl,trivial⟩,rfl⟩
 ·have:j=n:=by omega
  subst this
  refine wkT ?_
  exact⟨i1,w,rfl,hw,fun a b h1 h2 h3=>hI a b (by omega) h1 h2 h3,hat⟩
end
end Go.Proofs
end
