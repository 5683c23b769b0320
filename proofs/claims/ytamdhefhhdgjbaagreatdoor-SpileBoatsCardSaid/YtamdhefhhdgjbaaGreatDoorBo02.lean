/- proofs about Leango given: part Bo2; made by a program out of the longer texts in wip -/
import Derived.Test.YtamdhefhhdgjbaaGreatDoorBo01
set_option linter.all false
section
open Go Go.LL
namespace Go.Proofs
def opL (b:Bk)(there:Bool):List Boat:=if Zah b there=0 then Zae b else []
theorem Waa {b:Bk}{there:Bool}(h:Zah b there=0):Zeo b:=by
 cases there
 ·unfold Zah at h
  split at h
  ·exact absurd h (by assumption)
  ·simp at h
 ·exact ZaS (Zit h).1
theorem Waq {b:Bk}{there:Bool}:(opL b there).length<=1782:=by
 rw[opL]
 split
 ·exact Zbp (Waa (by assumption))
 ·simp
theorem opL_mem {b:Bk}{there:Bool}{x:Boat}(h:x∈opL b there):Zeo b∧x∈Zae b:=by
 rw[opL]at h
 split at h
 ·exact⟨Waa (by assumption),h⟩
 ·simp at h
theorem Wam {H:Hp}{a:Addr}{q:Q4}(h:CellsAt H a (Enc.enc q)):CellsAt H (a.add 1) [vi q.bf,vi q.by_]:=ZbK (ds:=[q.g]) (Zlk (n:=1) h rfl)
section
variable  {P:Prg}[Tz P][Loud P]{H:Hp}
set_option maxHeartbeats 4000000
set_option maxRecDepth 20000
theorem Wan {bv:Value}{b:Bk}{there:Bool}(hb:BkAt H bv b)(hl:b.pts.length<=1000000)(hl2:b.cks.length<=1000000) :
  LL.Zag P 93 #[bv,vb there] H fun v H'=>Inc H H'∧∃ A c,v=.tuple #[.slice A (opL b there).length c,vi (Zah b there)]∧WaN b H' (.slice A (opL b there).length c) (opL b there):=by
 have hs:∀ g,P.still g=false:=Loud.loud
 have hb0:=hb
 obtain⟨pv,cv,rfl,hp,hc⟩:=hb
 have hno:∀ {H':Hp},Zah b there≠0->∃ A c,(Value.tuple #[.slice none 0 0,vi (Zah b there)])=.tuple #[.slice A (opL b there).length c,vi (Zah b there)]∧WaN b H' (.slice A (opL b there).length c) (opL b there):=by
  intro H' h
  have:opL b there=[]:=if_neg h
  rw[this]
  exact⟨none,0,rfl,[],.nil _,.nil _ _⟩
 refine IsN.m (isn c93) (args:=[.agg #[vi b.op,vi b.sl,pv,cv],vb there]) rfl ?_
 unfold n93
 refine wkT ?_
 refine Zab (vs:=[.agg #[vi b.op,vi b.sl,pv,cv]]) rfl (Zic hb0 hl hl2) ?_
 rintro v _ ⟨rfl,rfl⟩
 refine wkT ?_
 refine wiT (fun h1=>?_) (fun h1=>?_)
 ·have e:Zah b there=snag b:=by rw[Zah,if_pos h1]
  refine wkT ?_
  have:=hno (H':=H) (by rw[e];exact h1)
  rw[e]at this ⊢
  exact⟨.refl _,this⟩
 ·have val:=ZaS h1
  refine wkT ?_
  refine wiT (fun h2=>?_) (fun h2=>?_)
  ·have e:Zah b there=6:=by rw[Zah,if_neg (by simpa using h1),if_pos h2]
   refine wkT ?_
   have:=hno (H':=H) (by rw[e];decide)
   rw[e]at this ⊢
   exact⟨.refl _,this⟩
  ·refine wkT ?_
   refine Zab (vs:=[.agg #[vi b.op,vi b.sl,pv,cv]]) rfl (Wax hb0 val) ?_
   rintro w H1 ⟨i1,rows,s1,r1⟩
   have hrl:=r1.len
   obtain⟨A,c,rfl,hA⟩:=id s1
   refine wkT ?_
   refine wiT (fun h3=>?_) (fun h3=>?_)
   ·have e:Zah b there=9:=by rw[Zah,if_neg (by simpa using h1),if_neg (by simp[h2]),if_pos (by omega)]
    refine wkT ?_
    have:=hno (H':=H1) (by rw[e];decide)
    rw[e]at this ⊢
    exact⟨i1,this⟩
   ·have e:Zah b there=0:=by rw[Zah,if_neg (by simpa using h1),if_neg (by simp[h2]),if_neg (by omega)]
    have e2:opL b there=Zae b:=if_pos e
    refine wkT ?_
    rw[e2,e]
    refine⟨i1,A,c,?_,rows,?_,r1⟩
    ·rw[<-hrl];rfl
    ·rw[<-hrl];exact s1
theorem Wbd {bv:Value}{b:Bk}(hb:BkAt H bv b)(hl:b.pts.length<=1000000)(hl2:b.cks.length<=1000000) :
  LL.Zag P 20 #[bv] H fun v H'=>Inc H H'∧v=.tuple #[vi (if snag b=0 then (Zae b).length else 0),vi (snag b)]:=by
 have hs:∀ g,P.still g=false:=Loud.loud
 have hb0:=hb
 obtain⟨pv,cv,rfl,hp,hc⟩:=hb
 refine IsN.m (isn c20) (args:=[.agg #[vi b.op,vi b.sl,pv,cv]]) rfl ?_
 unfold n20
 refine wkT ?_
 refine Zab (vs:=[.agg #[vi b.op,vi b.sl,pv,cv]]) rfl (Zic hb0 hl hl2) ?_
 rintro v _ ⟨rfl,rfl⟩
 refine wkT ?_
 refine wiT (fun h1=>?_) (fun h1=>?_)
 ·refine wkT ?_
  exact⟨.refl _,by rw[if_neg h1];rfl⟩
 ·have val:=ZaS h1
  refine wkT ?_
  refine Zab (vs:=[.agg #[vi b.op,vi b.sl,pv,cv]]) rfl (Wax hb0 val) ?_
  rintro w H1 ⟨i1,rows,s1,r1⟩
  refine wkT ?_
  refine Zav s1 rfl ?_
  refine wkT ?_
  exact⟨i1,by rw[if_pos h1,h1,<-r1.len];rfl⟩
def byN (x:Boat):Bool:=!decide (x.by_=0)
theorem WaM {bv:Value}{b:Bk}(hb:BkAt H bv b)(hl:b.pts.length<=1000000)(hl2:b.cks.length<=1000000) :
  LL.Zag P 22 #[bv] H fun v H'=>Inc H H'∧v=.tuple #[vi (if Zah b true=0 then Zhu ((Zae b).filter byN).length (Zae b).length else 0),vi (Zah b true)]:=by
 have hs:∀ g,P.still g=false:=Loud.loud
 have hb0:=hb
 obtain⟨pv,cv,rfl,hp,hc⟩:=hb
 refine IsN.m (isn c22) (args:=[.agg #[vi b.op,vi b.sl,pv,cv]]) rfl ?_
 unfold n22
 refine wkT ?_
 refine Zab (vs:=[.agg #[vi b.op,vi b.sl,pv,cv],vb true]) rfl (Wan (there:=true) hb0 hl hl2) ?_
 rintro v H1 ⟨i1,A,c,rfl,rows,s1,r1⟩
 have hrl:=r1.len
 refine wkT ?_
 refine wiT (fun h1=>?_) (fun h1=>?_)
 ·refine wkT ?_
  exact⟨i1,by rw[if_neg h1];rfl⟩
 ·have e2:opL b true=Zae b:=if_pos h1
  have hll:=Waq (b:=b) (there:=true)
  refine wkT ?_
  refine ZaX (opL b true).length (fun j H'=>H1=H') (fun j=>[(1,vi 0),(4,.slice A (opL b true).length c),(5,vi (Zah b true)),(6,vi (((opL b true).take j).filter byN).length),(7,vi j)]) (fun _=>[]) rfl ⟨rfl,rfl,rfl,rfl,rfl,trivial⟩ trivial ?_
  rintro j _ hj rfl
  have hfl:(((opL b true).take j).filter byN).length<=1782:=Nat.le_trans (List.length_filter_le _ _) (by rw[List.length_take];omega)
  refine wkT ?_
  refine wiT (fun h2=>?_) (fun h2=>?_)
  ·have hj':j<(opL b true).length:=by omega
   have hft:=Zjx (f:=byN) hj'
   obtain⟨q1,q2,q3⟩:=r1.at_ j (by omega) hj'
   refine wkT ?_
   refine ZaE s1 rfl rfl rfl (i:=j) (by omega) fun a ha=>?_
   refine wkT ?_
   have hcell:=ZbA (j:=1) (Wam ha) rfl
   rw[q2]at hcell
   refine Zaf (hs _) rfl hcell ?_
   refine wkT ?_
   refine wiT (fun h3=>?_) (fun h3=>?_)
   ·refine wkT ?_
    exact⟨⟨j+1,by omega⟩,Nat.sub_lt_sub_left (by omega) (Nat.lt_succ_self j),rfl,⟨rfl,rfl,rfl,by rw[hft];simp[byN,h3];rfl,rfl,trivial⟩,trivial,rfl⟩
   ·refine wkT ?_
    exact⟨⟨j+1,by omega⟩,Nat.sub_lt_sub_left (by omega) (Nat.lt_succ_self j),rfl,⟨rfl,rfl,rfl,by rw[hft];simp[byN,h3];rfl,rfl,trivial⟩,trivial,rfl⟩
  ·have:j=(opL b true).length:=by omega
   subst this
   rw[List.take_length]
   refine wkT ?_
   refine Zab (vs:=[vi ((opL b true).filter byN).length,vi (opL b true).length]) rfl (Told_ok _ _) ?_
   rintro v _ ⟨rfl,rfl⟩
   refine wkT ?_
   exact⟨i1,by rw[if_pos h1,h1,e2];rfl⟩
def WaL (b:Bk):List Int:=((opL b true).filter byN).map Boat.bf
theorem WhenR_ok {bv:Value}{b:Bk}(hb:BkAt H bv b)(hl:b.pts.length<=1000000)(hl2:b.cks.length<=1000000) :
  LL.Zag P 24 #[bv] H fun v H'=>Inc H H'∧∃ w bb,v=.tuple #[w,vi (Zah b true)]∧Own H H' 3 w (ordF (WaL b)) bb:=by
 have hs:∀ g,P.still g=false:=Loud.loud
 have hb0:=hb
 obtain⟨pv,cv,rfl,hp,hc⟩:=hb
 refine IsN.m (isn c24) (args:=[.agg #[vi b.op,vi b.sl,pv,cv]]) rfl ?_
 unfold n24
 refine wkT ?_
 refine Zab (vs:=[.agg #[vi b.op,vi b.sl,pv,cv],vb true]) rfl (Wan (there:=true) hb0 hl hl2) ?_
 rintro v H1 ⟨i1,A,c,rfl,rows,s1,r1⟩
 have hrl:=r1.len
 have hll:=Waq (b:=b) (there:=true)
 refine wkT ?_
 refine ZaP (α:=Value×Option Nat) (opL b true).length (fun j s H'=>Inc H1 H'∧Own H1 H' 3 s.1 ((((opL b true).take j).filter byN).map Boat.bf) s.2) (fun j s=>[(1,vi 0),(4,.slice A (opL b true).length c),(5,vi (Zah b true)),(6,s.1),(7,vi j)]) (fun _ _=>[]) (.slice none 0 0,none) ⟨.refl _,.nil _ _ _⟩ ⟨rfl,rfl,rfl,rfl,rfl,trivial⟩ trivial ?_
 rintro j ⟨v6,b6⟩ H2 hj ⟨i2,o6⟩
 simp only at o6
 have hfl:((((opL b true).take j).filter byN).map Boat.bf).length<=1782:=by rw[List.length_map];exact Nat.le_trans (List.length_filter_le _ _) (by rw[List.length_take];omega)
 refine wkT ?_
 refine wiT (fun h2=>?_) (fun h2=>?_)
 ·have hj':j<(opL b true).length:=by omega
  obtain⟨q1,q2,q3⟩:=r1.at_ j (by omega) hj'
  have hft:(((opL b true).take (j+1)).filter byN).map Boat.bf=(((opL b true).take j).filter byN).map Boat.bf++if byN (opL b true)[j] then [(opL b true)[j].bf] else []:=by
   rw[List.take_succ_eq_append_getElem hj',List.filter_append,List.map_append]
   congr 1
   cases h:byN (opL b true)[j]<;>simp[h]
  generalize (opL b true)[j]=x at *
  refine wkT ?_
  refine ZaE (s1.inc i2) rfl rfl rfl (i:=j) (by omega) fun a ha=>?_
  refine wkT ?_
  have hcell:=ZbA (j:=1) (Wam ha) rfl
  rw[q2]at hcell
  refine Zaf (hs _) rfl hcell ?_
  refine wkT ?_
  refine wiT (fun h3=>?_) (fun h3=>?_)
  ·rw[show byN x=true by simp[byN,h3],if_pos rfl]at hft
   refine wkT ?_
   refine ZaE (s1.inc i2) rfl rfl rfl (i:=j) (by omega) fun a ha=>?_
   refine wkT ?_
   have hcell:=ZbA (j:=0) (Wam ha) rfl
   rw[q1]at hcell
   refine Zaf (hs _) rfl hcell ?_
   refine wkT ?_
   refine Zat (cs:=[vi x.bf]) (hs _) rfl fun r5 hr5=>?_
   refine wkT ?_
   refine ZbW (l':=[x.bf]) (und u34) (und u34) (tif t3) rfl (by decide) (i2.trans (Zaj hr5)) (o6.ins hr5) WaH rfl (by simp only[List.length_singleton];omega) (by omega) rfl rfl (hs _) fun v7 H4 b7 k1 k2 k3=>?_
   rw[<-hft]at k2
   refine wkT ?_
   exact⟨(⟨j+1,by omega⟩,(v7,b7)),Nat.sub_lt_sub_left (by omega) (Nat.lt_succ_self j),⟨k1,k2⟩,⟨rfl,rfl,rfl,rfl,rfl,trivial⟩,trivial,rfl⟩
  ·rw[show byN x=false by simp[byN,h3]]at hft
   simp only[Bool.false_eq_true,if_false,List.append_nil]at hft
   refine wkT ?_
   exact⟨(⟨j+1,by omega⟩,(v6,b6)),Nat.sub_lt_sub_left (by omega) (Nat.lt_succ_self j),⟨i2,by rw[hft];exact o6⟩,⟨rfl,rfl,rfl,rfl,rfl,trivial⟩,trivial,rfl⟩
 ·have:j=(opL b true).length:=by omega
  subst this
  rw[List.take_length]at o6 hfl
  refine wkT ?_
  refine Zab (vs:=[v6]) rfl (Waw o6.sl (by omega)) ?_
  rintro v H3 ⟨i3,b3,o3⟩
  refine wkT ?_
  exact⟨(i1.trans i2).trans i3,v,b3,rfl,⟨o3.own,fun r hr=>Zba (i1.trans i2) (o3.fresh r hr)⟩⟩
def gapR (b:Bk)(n:Int)(there:Bool):List Int:=(opL b there).map fun x=>(Zas b x).get n.toNat
theorem GapR_ok {bv:Value}{b:Bk}{n:Int}(hb:BkAt H bv b)(hl:b.pts.length<=1000000)(hl2:b.cks.length<=1000000) :
  LL.Zag P 30 #[bv,vi n] H fun v H'=>Inc H H'∧∃ w bb,v=.tuple #[w,vi (Zah b (decide (0<=n∧n<b.pts.length)))]∧Own H H' 3 w (ordF (gapR b n (decide (0<=n∧n<b.pts.length)))) bb:=by
 have hs:∀ g,P.still g=false:=Loud.loud
 have hb0:=hb
 obtain⟨pv,cv,rfl,hp,hc⟩:=hb
 refine IsN.m (isn c30) (args:=[.agg #[vi b.op,vi b.sl,pv,cv],vi n]) rfl ?_
 unfold n30
 refine wkT ?_
 refine Zab (vs:=[.agg #[vi b.op,vi b.sl,pv,cv],vi n]) rfl (Zjq hb0 n hl) ?_
 rintro v _ ⟨rfl,rfl⟩
 refine kp_r ?_
 refine wkT ?_
 refine Zab (vs:=[.agg #[vi b.op,vi b.sl,pv,cv],vb (decide (0<=n∧n<b.pts.length))]) rfl (Wan hb0 hl hl2) ?_
 have hthere:Zah b (decide (0<=n∧n<b.pts.length))=0->0<=n∧n<b.pts.length:=by
  intro h
  refine Classical.byContradiction fun hn=>?_
  rw[decide_eq_false hn]at h
  unfold Zah at h
  split at h
  ·exact absurd h (by assumption)
  ·simp at h
 generalize decide (0<=n∧n<b.pts.length)=th at *
 rintro v H1 ⟨i1,A,c,rfl,rows,s1,r1⟩
 have hrl:=r1.len
 have hll:=Waq (b:=b) (there:=th)
 refine wkT ?_
 refine ZaP (α:=Value×Option Nat) (opL b th).length (fun j s H'=>Inc H1 H'∧Own H1 H' 3 s.1 ((gapR b n th).take j) s.2) (fun j s=>[(1,vi n),(2,vi 0),(6,.slice A (opL b th).length c),(7,vi (Zah b th)),(8,s.1),(9,vi j)]) (fun _ _=>[]) (.slice none 0 0,none) ⟨.refl _,.nil _ _ _⟩ ⟨rfl,rfl,rfl,rfl,rfl,rfl,trivial⟩ trivial ?_
 rintro j ⟨v8,b8⟩ H2 hj ⟨i2,o8⟩
 simp only at o8
 have hgl:(gapR b n th).length=(opL b th).length:=by rw[gapR,List.length_map]
 refine wkT ?_
 refine wiT (fun h2=>?_) (fun h2=>?_)
 ·have hj':j<(opL b th).length:=by omega
  obtain⟨q1,q2,q3⟩:=r1.at_ j (by omega) hj'
  have hz:Zah b th=0:=by
   refine Classical.byContradiction fun h=>?_
   have:opL b th=[]:=if_neg h
   rw[this]at hj';simp at hj'
  obtain⟨n1,n2⟩:=hthere hz
  obtain⟨p,rfl⟩:∃ p:Nat,n=p:=⟨n.toNat,by omega⟩
  have val:=(opL_mem (List.getElem_mem hj')).1
  have htk:(gapR b p th).take (j+1)=(gapR b p th).take j++[(Zas b (opL b th)[j]).get p]:=by
   rw[List.take_succ_eq_append_getElem (by omega)]
   simp[gapR]
  have htl:((gapR b p th).take j).length<=1782:=by rw[List.length_take];omega
  have hpl:p<(gapLs b (opL b th)[j]).length:=by rw[gapLs,List.length_take];show p<min _ 4;have:=val.n;omega
  have hgg:(gapLs b (opL b th)[j])[p]=(Zas b (opL b th)[j]).get p:=by rw[<-Wa8 val _ (by omega),Zbd hpl]
  generalize (opL b th)[j]=x at *
  obtain⟨Ag,cg,hag,_⟩:=id q3
  refine wkT ?_
  refine ZaE (s1.inc i2) rfl rfl rfl (i:=j) (by omega) fun a ha=>?_
  refine wkT ?_
  have hcell:CellsAt H2 (a.add 3) [rows[j].g]:=ZbA (j:=3) ha rfl
  refine Zaf (hs _) rfl hcell ?_
  refine wkT ?_
  refine ZaE (q3.inc i2) rfl rfl rfl (i:=p) hpl fun a2 ha2=>?_
  have ha3:CellsAt H2 a2 [vi ((Zas b x).get p)]:=by rw[<-hgg];exact ha2
  refine wkT ?_
  refine Zaf (hs _) rfl ha3 ?_
  refine wkT ?_
  refine Zat (cs:=[vi ((Zas b x).get p)]) (hs _) rfl fun r5 hr5=>?_
  refine wkT ?_
  refine ZbW (l':=[(Zas b x).get p]) (und u34) (und u34) (tif t3) rfl (by decide) (i2.trans (Zaj hr5)) (o8.ins hr5) WaH rfl (by simp only[List.length_singleton];omega) (by omega) rfl rfl (hs _) fun v9 H4 b9 k1 k2 k3=>?_
  rw[<-htk]at k2
  refine wkT ?_
  exact⟨(⟨j+1,by omega⟩,(v9,b9)),Nat.sub_lt_sub_left (by omega) (Nat.lt_succ_self j),⟨k1,k2⟩,⟨rfl,rfl,rfl,rfl,rfl,rfl,trivial⟩,trivial,rfl⟩
 ·have:j=(opL b th).length:=by omega
  subst this
  rw[List.take_of_length_le (by omega)]at o8
  refine wkT ?_
  refine Zab (vs:=[v8]) rfl (Waw o8.sl (by omega)) ?_
  rintro v H3 ⟨i3,b3,o3⟩
  refine wkT ?_
  exact⟨(i1.trans i2).trans i3,v,b3,rfl,⟨o3.own,fun r hr=>Zba (i1.trans i2) (o3.fresh r hr)⟩⟩
end
end Go.Proofs
end
section
open Go Go.LL
namespace Go.Proofs
def slEq (k:Slip)(x:Boat):Bool:=decide (x.bf=k.bf∧x.by_=k.by_)
def Wag (b:Bk):List Slip:=((ZaC b).drop 1).filter fun k=>(Zae b).any (slEq k)
theorem any_take {α:Type}{f:α->Bool}{l:List α}{j:Nat}(hj:j<l.length):(l.take (j+1)).any f=((l.take j).any f || f l[j]):=by
 rw[List.take_succ_eq_append_getElem hj,List.any_append];simp
section
variable  {P:Prg}[Tz P][Loud P]{H:Hp}
set_option maxHeartbeats 4000000
set_option maxRecDepth 20000
theorem Wbb {bv:Value}{b:Bk}(hb:BkAt H bv b)(hl:b.pts.length<=1000000)(hl2:b.cks.length<=1000000) :
  LL.Zag P 27 #[bv] H fun v H'=>Inc H H'∧∃ w bb,v=.tuple #[w,vi (Zah b true)]∧Own H H' 70 w (if Zah b true=0 then Wag b else []) bb:=by
 have hs:∀ g,P.still g=false:=Loud.loud
 have hb0:=hb
 obtain⟨pv,cv,rfl,hp,hc⟩:=hb
 refine IsN.m (isn c27) (args:=[.agg #[vi b.op,vi b.sl,pv,cv]]) rfl ?_
 unfold n27
 refine wkT ?_
 refine Zab (vs:=[.agg #[vi b.op,vi b.sl,pv,cv],vb true]) rfl (Wan (there:=true) hb0 hl hl2) ?_
 rintro v H1 ⟨i1,A,c,rfl,rows,s1,r1⟩
 have hrl:=r1.len
 refine wkT ?_
 refine wiT (fun h1=>?_) (fun h1=>?_)
 ·refine wkT ?_
  exact⟨i1,_,none,rfl,by rw[if_neg h1];exact .nil _ _ _⟩
 ·have e2:opL b true=Zae b:=if_pos h1
  have val:=Waa h1
  have hn:=val.n
  have hll:=Zbp val
  have hsl:=ZfM val
  rw[e2]at s1 r1 hrl ⊢
  refine wkT ?_
  refine Zab (vs:=[.agg #[vi b.op,vi b.sl,pv,cv]]) rfl (Wav (hb0.inc i1) val.sl.1 (by have:=val.sl;omega) (by omega) (by omega)) ?_
  rintro v7 H2 ⟨i2,b7,o7⟩
  have s7:=o7.sl
  have hs1:=s1.inc i2
  have hdl:((ZaC b).drop 1).length<=22:=by rw[List.length_drop];omega
  refine wkT ?_
  refine ZaP (α:=Value×Option Nat) ((ZaC b).drop 1).length (fun j s H'=>Inc H2 H'∧Own H2 H' 70 s.1 ((((ZaC b).drop 1).take j).filter fun k=>(Zae b).any (slEq k)) s.2) (fun j s=>[(1,vi 0),(4,.slice A (Zae b).length c),(6,s.1),(7,v7),(8,vi j)]) (fun _ _=>[]) (.slice none 0 0,none) ⟨.refl _,.nil _ _ _⟩ ⟨rfl,rfl,rfl,rfl,rfl,trivial⟩ trivial ?_
  rintro j ⟨v6,b6⟩ H3 hj ⟨i3,o6⟩
  simp only at o6
  have hfl:((((ZaC b).drop 1).take j).filter fun k=>(Zae b).any (slEq k)).length<=22:=Nat.le_trans (List.length_filter_le _ _) (by rw[List.length_take];omega)
  refine wkT ?_
  refine Zav (s7.inc i3) rfl ?_
  refine wkT ?_
  refine wiT (fun h2=>?_) (fun h2=>?_)
  ·have hj':j<((ZaC b).drop 1).length:=by omega
   obtain⟨ks,hks⟩:∃ ks,ks=((ZaC b).drop 1)[j]:=⟨_,rfl⟩
   have hft:(((ZaC b).drop 1).take (j+1)).filter (fun k=>(Zae b).any (slEq k))=(((ZaC b).drop 1).take j).filter (fun k=>(Zae b).any (slEq k))++if (Zae b).any (slEq ks) then [ks] else []:=by
    rw[List.take_succ_eq_append_getElem hj',List.filter_append,<-hks]
    congr 1
    cases h:(Zae b).any (slEq ks)<;>simp[h]
   refine wkT ?_
   refine ZaX (Zae b).length (fun k H'=>H3=H') (fun k=>[(1,vi 0),(4,.slice A (Zae b).length c),(6,v6),(7,v7),(8,vi j),(9,vb (((Zae b).take k).any (slEq ks))),(10,vi k)]) (fun _=>[]) rfl ⟨rfl,rfl,rfl,rfl,rfl,rfl,rfl,trivial⟩ trivial ?_
   rintro k _ hk rfl
   refine wkT ?_
   refine wiT (fun h3=>?_) (fun h3=>?_)
   ·have hk':k<(Zae b).length:=by omega
    obtain⟨q1,q2,q3⟩:=r1.at_ k (by omega) hk'
    have hat:=any_take (f:=slEq ks) hk'
    generalize (Zae b)[k]=x at *
    refine wkT ?_
    refine wiT (fun h4=>?_) (fun h4=>?_)
    ·rw[h4,Bool.true_or]at hat
     refine wkT ?_
     exact⟨⟨k+1,by omega⟩,Nat.sub_lt_sub_left (by omega) (Nat.lt_succ_self k),rfl,⟨rfl,rfl,rfl,rfl,rfl,by rw[hat];rfl,rfl,trivial⟩,trivial,rfl⟩
    ·rw[h4,Bool.false_or]at hat
     refine wkT ?_
     refine ZaE (hs1.inc i3) rfl rfl rfl (i:=k) (by omega) fun a ha=>?_
     refine wkT ?_
     have hcell:=Wam ha
     rw[q1,q2]at hcell
     refine Zao (hs _) rfl hcell rfl ?_
     refine wkT ?_
     refine ZaE (s7.inc i3) rfl rfl rfl (i:=j) hj' fun a2 ha2=>?_
     have ha3:CellsAt H3 a2 [vi ks.bf,vi ks.by_]:=by rw[hks];exact ha2
     refine wkT ?_
     refine Zao (hs _) rfl ha3 rfl ?_
     refine wkT ?_
     refine om_eqS (b:=slEq ks x) (xs:=#[vi x.bf,vi x.by_]) (ys:=#[vi ks.bf,vi ks.by_]) g70 (fun Q g H hq=>eqP (.inl s70) Q hq) rfl rfl ?_
     refine wkT ?_
     exact⟨⟨k+1,by omega⟩,Nat.sub_lt_sub_left (by omega) (Nat.lt_succ_self k),rfl,⟨rfl,rfl,rfl,rfl,rfl,by rw[hat];rfl,rfl,trivial⟩,trivial,rfl⟩
   ·have:k=(Zae b).length:=by omega
    subst this
    rw[List.take_length]
    refine wkT ?_
    refine wiT (fun h4=>?_) (fun h4=>?_)
    ·rw[h4,if_pos rfl]at hft
     refine wkT ?_
     refine ZaE (s7.inc i3) rfl rfl rfl (i:=j) hj' fun a2 ha2=>?_
     have ha3:CellsAt H3 a2 [vi ks.bf,vi ks.by_]:=by rw[hks];exact ha2
     refine wkT ?_
     refine Zao (hs _) rfl ha3 rfl ?_
     refine wkT ?_
     refine Zat (cs:=[vi ks.bf,vi ks.by_]) (hs _) rfl fun r5 hr5=>?_
     refine wkT ?_
     refine ZbW (l':=[ks]) (und t38e) (und t38e) (tif t70) rfl (by decide) (i3.trans (Zaj hr5)) (o6.ins hr5) (WaF (k:=ks)) rfl (by simp only[List.length_singleton];omega) (by omega) rfl rfl (hs _) fun v9 H4 b9 k1 k2 k3=>?_
     rw[<-hft]at k2
     refine wkT ?_
     exact⟨(⟨j+1,by omega⟩,(v9,b9)),Nat.sub_lt_sub_left (by omega) (Nat.lt_succ_self j),⟨k1,k2⟩,⟨rfl,rfl,rfl,rfl,rfl,trivial⟩,trivial,rfl⟩
    ·rw[h4]at hft
     simp only[Bool.false_eq_true,if_false,List.append_nil]at hft
     refine wkT ?_
     exact⟨(⟨j+1,by omega⟩,(v6,b6)),Nat.sub_lt_sub_left (by omega) (Nat.lt_succ_self j),⟨i3,by rw[hft];exact o6⟩,⟨rfl,rfl,rfl,rfl,rfl,trivial⟩,trivial,rfl⟩
  ·have:j=((ZaC b).drop 1).length:=by omega
   subst this
   rw[List.take_length]at o6
   refine wkT ?_
   refine⟨(i1.trans i2).trans i3,v6,b6,by rw[h1];rfl,?_⟩
   rw[if_pos h1]
   exact⟨o6.own,fun r hr=>Zba (i1.trans i2) (o6.fresh r hr)⟩
end
end Go.Proofs
end
section
open Go Go.LL
namespace Go.Proofs
theorem WaC:∀ {l m:List Int},l.Pairwise (·<·)->m.Pairwise (·<·)->(∀ x,x∈l↔x∈m)->l=m
 | [],[],_,_,_=>rfl
 | [],y :: m,_,_,h=>by have:=(h y).2 (List.mem_cons_self ..);simp at this
 | x :: l,[],_,_,h=>by have:=(h x).1 (List.mem_cons_self ..);simp at this
 | x :: l,y :: m,hl,hm,h=>by
  obtain⟨l1,l2⟩:=List.pairwise_cons.1 hl
  obtain⟨m1,m2⟩:=List.pairwise_cons.1 hm
  have exy:x=y:=by
   have h1:=(h x).1 (List.mem_cons_self ..)
   have h2:=(h y).2 (List.mem_cons_self ..)
   rcases List.mem_cons.1 h1 with rfl | h1
   ·rfl
   ·rcases List.mem_cons.1 h2 with rfl | h2
    ·rfl
    ·have:=l1 y h2;have:=m1 x h1;omega
  subst exy
  congr 1
  refine WaC l2 m2 fun z=>⟨fun hz=>?_,fun hz=>?_⟩
  ·rcases List.mem_cons.1 ((h z).1 (List.mem_cons_of_mem _ hz)) with rfl | hz'
   ·have:=l1 z hz;omega
   ·exact hz'
  ·rcases List.mem_cons.1 ((h z).2 (List.mem_cons_of_mem _ hz)) with rfl | hz'
   ·have:=m1 z hz;omega
   ·exact hz'
theorem WaB (x:Int):∀ (l:List Int) (z:Int),z∈insD x l↔z=x∨z∈l
 | [],z=>by simp[insD]
 | y :: r,z=>by
  rw[insD]
  have ih:=WaB x r z
  split
  ·rw[List.mem_cons,ih,List.mem_cons]
   constructor
   ·rintro(h | h | h)
    ·exact .inr (.inl h)
    ·exact .inl h
    ·exact .inr (.inr h)
   ·rintro(h | h | h)
    ·exact .inr (.inl h)
    ·exact .inl h
    ·exact .inr (.inr h)
  ·split
   ·rename_i h;subst h;rw[List.mem_cons]
    constructor
    ·exact .inr
    ·rintro(h | h)
     ·exact .inl h
     ·exact h
   ·rw[List.mem_cons]
theorem Wa7 (x:Int):∀ {l:List Int},l.Pairwise (·<·)->(insD x l).Pairwise (·<·)
 | [],_=>by simp[insD]
 | y :: r,h=>by
  obtain⟨h1,h2⟩:=List.pairwise_cons.1 h
  rw[insD]
  split
  ·rename_i hy
   refine List.pairwise_cons.2 ⟨fun z hz=>?_,Wa7 x h2⟩
   rcases(WaB x r z).1 hz with rfl | hz
   ·exact hy
   ·exact h1 z hz
  ·split
   ·exact h
   ·refine List.pairwise_cons.2 ⟨fun z hz=>?_,h⟩
    rcases List.mem_cons.1 hz with rfl | hz
    ·omega
    ·have:=h1 z hz;omega
theorem ord_spec:∀ l:List Int,(ordF l).Pairwise (·<·)∧∀ z,z∈ordF l↔z∈l:=by
 refine Zfm ⟨.nil,fun z=>Iff.rfl⟩ fun l x ih=>?_
 have e:ordF (l++[x])=insD x (ordF l):=by rw[ordF,List.foldl_append];rfl
 rw[e]
 refine⟨Wa7 x ih.1,fun z=>?_⟩
 rw[WaB,ih.2 z,List.mem_append,List.mem_singleton]
 exact Or.comm
theorem WaS {l:List Int}(h:l.Pairwise (·<=·)):∀ n,n<=l.length->(cmpP l n).Pairwise (·<·)∧(∀ z,z∈cmpP l n↔z∈l.take n)∧(∀ z∈cmpP l n,z<=el l (n-1))
 | 0,_=>⟨.nil,fun z=>by simp[cmpP],fun z hz=>by simp[cmpP]at hz⟩
 | n+1,hn=>by
  obtain⟨h1,h2,h3⟩:=WaS h n (by omega)
  have hmono:∀ i j,i<=j->j<l.length->el l i<=el l j:=by
   intro i j hij hj
   rw[Zhf (by omega),Zhf hj]
   rcases Nat.lt_or_ge i j with h' | h'
   ·exact List.pairwise_iff_getElem.1 h i j (by omega) hj h'
   ·have:i=j:=by omega
    subst this;exact Int.le_refl _
  rw[Zi7 (by omega)]
  by_cases h0:n=0
  ·subst h0
   rw[cmp_one]
   exact⟨List.pairwise_singleton _ _,fun z=>by simp,fun z hz=>by rw[List.mem_singleton.1 hz];exact Int.le_refl _⟩
  ·by_cases he:el l n=el l (n-1)
   ·rw[cmp_eq h0 he]
    refine⟨h1,fun z=>?_,fun z hz=>?_⟩
    ·rw[h2,List.mem_append,List.mem_singleton]
     constructor
     ·exact .inl
     ·rintro(hz | rfl)
      ·exact hz
      ·rw[he]
       have e2:n=(n-1)+1:=by omega
       rw[e2,Zi7 (by omega)]
       simp
    ·have:=h3 z hz;rw[Nat.add_sub_cancel,he];exact this
   ·rw[cmp_ne he]
    refine⟨?_,fun z=>?_,fun z hz=>?_⟩
    ·rw[List.pairwise_append]
     refine⟨h1,List.pairwise_singleton _ _,fun a ha c hc=>?_⟩
     rw[List.mem_singleton.1 hc]
     have g1:=h3 a ha
     have g2:=hmono (n-1) n (by omega) (by omega)
     omega
    ·rw[List.mem_append,h2,List.mem_append]
    ·rw[Nat.add_sub_cancel]
     rcases List.mem_append.1 hz with hz | hz
     ·have g1:=h3 z hz
      have g2:=hmono (n-1) n (by omega) (by omega)
      omega
     ·rw[List.mem_singleton.1 hz];exact Int.le_refl _
theorem Wa9 {l m:List Int}(h:l.Pairwise (·<=·))(hm:∀ z,z∈l↔z∈m):cmpF l=ordF m:=by
 obtain⟨h1,h2,_⟩:=WaS h l.length (Nat.le_refl _)
 obtain⟨h3,h4⟩:=ord_spec m
 exact WaC h1 h3 fun z=>by rw[cmpF,h2,h4,List.take_length];exact hm z
theorem WaK {b:Bk}(v:Zeo b){x:Boat}(h:x∈Zae b):(⟨x.bf,x.by_⟩:Slip)∈ZaC b:=by
 rw[WaU v]at h
 obtain⟨l,_,h⟩:=List.mem_flatMap.1 h
 obtain⟨k,hk,rfl⟩:=List.mem_map.1 (List.mem_filter.1 h).1
 exact hk
theorem Wap {b:Bk}(v:Zeo b){k:Slip}(h:k∈(ZaC b).drop 1):(1<=k.bf∧k.bf<b.pts.length)∧-b.sl<=k.by_∧k.by_<=b.sl∧k.by_≠0:=by
 have:=v.sl
 have:=v.n
 have h:=Zj7 (n:=b.pts.length) (sl:=b.sl.toNat) _ (by omega) k h
 omega
theorem Wau {b:Bk}{k:Slip}(h:k∈ZaC b):k=⟨0,0⟩∨k∈(ZaC b).drop 1:=List.mem_cons.1 h
theorem WaX {b:Bk}(v:Zeo b){x:Boat}(h:x∈Zae b):x.slipped=byN x:=by
 rcases Wau (WaK v h) with h1 | h1
 ·simp only[Slip.mk.injEq]at h1
  simp[Boat.slipped,byN,h1]
 ·have:=(Wap v h1).2.2.2
  simp only at this
  simp[Boat.slipped,byN,this]
theorem War {b:Bk}(v:Zeo b):(Zae b).filter Boat.slipped=(Zae b).filter byN:=List.filter_congr fun x hx=>WaX v hx
theorem WaO {b:Bk}(v:Zeo b):ZjU b=Wag b:=by
 have h0:ZaC b=⟨0,0⟩ :: (ZaC b).drop 1:=rfl
 rw[ZjU,h0,List.filter_cons,Wag]
 have hno:((Zae b).any (ZfN ⟨0,0⟩))=false:=by
  rw[List.any_eq_false]
  intro x _
  simp only[ZfN,Boat.slipped]
  by_cases h:x.bf=0∧x.by_=0<;>simp[h]
 rw[hno,if_neg (by simp)]
 refine List.filter_congr fun k hk=>?_
 have hk0:=(Wap v hk).2.2.2
 rw[Bool.eq_iff_iff,List.any_eq_true,List.any_eq_true]
 constructor
 ·rintro⟨x,hx,h⟩
  exact⟨x,hx,by simp only[ZfN,Bool.and_eq_true]at h;exact h.2⟩
 ·rintro⟨x,hx,h⟩
  refine⟨x,hx,?_⟩
  have h:=of_decide_eq_true h
  simp only[ZfN,Boat.slipped,h,Bool.and_eq_true]
  simp[hk0]
theorem Wah {bf:Int}{sl:Nat}:∀ r,∀ k∈innerR bf sl r,k.bf=bf
 | 0,k,h=>by simp[innerR]at h
 | r+1,k,h=>by
  rw[innerR]at h
  split at h
  ·exact Wah r k h
  ·rcases List.mem_cons.1 h with rfl | h
   ·rfl
   ·exact Wah r k h
theorem WaP {n sl:Nat}:∀ r,∀ k∈outerR n sl r,(n:Int)-r<=k.bf
 | 0,k,h=>by simp[outerR]at h
 | r+1,k,h=>by
  rw[outerR]at h
  rcases List.mem_append.1 h with h | h
  ·have:=Wah _ k h;omega
  ·have:=WaP r k h;omega
theorem pw_const {l:List Slip}{c:Int}(h:∀ k∈l,k.bf=c):l.Pairwise fun a d=>a.bf<=d.bf:=by
 induction l with
 | nil=>exact .nil
 | cons a l ih=>
  refine List.pairwise_cons.2 ⟨fun d hd=>?_,ih fun k hk=>h k (List.mem_cons_of_mem _ hk)⟩
  rw[h a (List.mem_cons_self ..),h d (List.mem_cons_of_mem _ hd)];exact Int.le_refl _
theorem Wak {n sl:Nat}:∀ r,(outerR n sl r).Pairwise fun a d=>a.bf<=d.bf
 | 0=>.nil
 | r+1=>by
  rw[outerR,List.pairwise_append]
  refine⟨pw_const fun k hk=>Wah _ k hk,Wak r,fun a ha d hd=>?_⟩
  have h1:=Wah _ a ha
  have h2:=WaP r d hd
  omega
theorem when_eq {b:Bk}(v:Zeo b):whenL b=ordF (((Zae b).filter byN).map Boat.bf):=by
 rw[whenL,WaO v]
 refine Wa9 ?_ fun z=>?_
 ·rw[List.pairwise_map]
  exact(Wak _).sublist List.filter_sublist
 ·rw[List.mem_map,List.mem_map]
  constructor
  ·rintro⟨k,hk,rfl⟩
   obtain⟨h1,h2⟩:=List.mem_filter.1 hk
   obtain⟨x,hx,h3⟩:=List.any_eq_true.1 h2
   have h3:=of_decide_eq_true h3
   refine⟨x,List.mem_filter.2 ⟨hx,?_⟩,h3.1⟩
   have:=(Wap v h1).2.2.2
   simp[byN,h3.2,this]
  ·rintro⟨x,hx,rfl⟩
   obtain⟨h1,h2⟩:=List.mem_filter.1 hx
   refine⟨⟨x.bf,x.by_⟩,List.mem_filter.2 ⟨?_,List.any_eq_true.2 ⟨x,h1,by simp[slEq]⟩⟩,rfl⟩
   rcases Wau (WaK v h1) with h | h
   ·simp only[Slip.mk.injEq]at h
    simp[byN,h.2]at h2
   ·exact h
theorem gap_eq {b:Bk}{p:Nat}{m:List Int}(hm:m=(Zae b).map fun x=>(Zas b x).get p):gapL b p=ordF m:=by
 rw[gapL]
 exact Wa9 (srt_le _) fun z=>by rw[(Zfk _).mem_iff,hm]
end Go.Proofs
end
section
open Go Go.LL
namespace Go.Proofs
theorem WaW {b:Bk}:(if Zah b true=0 then Zhu ((Zae b).filter Boat.slipped).length (Zae b).length else 0)=if Zah b true=0 then Zhu ((Zae b).filter byN).length (Zae b).length else 0:=by
 by_cases h:Zah b true=0
 ·rw[if_pos h,if_pos h,War (Waa h)]
 ·rw[if_neg h,if_neg h]
theorem whenA {b:Bk}:(if Zah b true=0 then whenL b else [])=ordF (WaL b):=by
 rw[WaL,opL]
 by_cases h:Zah b true=0
 ·rw[if_pos h,if_pos h,when_eq (Waa h)]
 ·rw[if_neg h,if_neg h];rfl
theorem slipsA {b:Bk}(h:Zah b true=0):ZjU b=Wag b:=WaO (Waa h)
theorem gapA {b:Bk}{n:Int}{th:Bool}:(if Zah b th=0 then gapL b n.toNat else [])=ordF (gapR b n th):=by
 rw[gapR,opL]
 by_cases h:Zah b th=0
 ·rw[if_pos h,if_pos h,gap_eq rfl]
 ·rw[if_neg h,if_neg h];rfl
theorem Waj {α:Type}[Enc α]{H0 H:Hp}{E:TypeId}{v:Value}{l:List α}{b:Option Nat}(h:Own H0 H E v l b):∃ A c,v=.slice A l.length c:=by
 obtain⟨A,c,h1,_⟩:=h.sl
 exact⟨A,c,h1⟩
theorem when_len {b:Bk}:(ordF (WaL b)).length<=1000000:=by
 have h1:=Waz (WaL b)
 have h2:(WaL b).length<=(opL b true).length:=by rw[WaL,List.length_map];exact List.length_filter_le _ _
 have:=Waq (b:=b) (there:=true)
 omega
theorem gap_len {b:Bk}{n:Int}{th:Bool}:(ordF (gapR b n th)).length<=1000000:=by
 have h1:=Waz (gapR b n th)
 have h2:(gapR b n th).length=(opL b th).length:=by rw[gapR,List.length_map]
 have:=Waq (b:=b) (there:=th)
 omega
theorem WaV {b:Bk}(v:Zeo b):(Wag b).length<=1000000:=by
 have h1:=List.length_filter_le (fun k=>(Zae b).any (slEq k)) ((ZaC b).drop 1)
 have h2:=ZfM v
 rw[List.length_drop]at h1
 rw[Wag];omega
section
variable  {P:Prg}[Tz P][Loud P]{H:Hp}
set_option maxHeartbeats 8000000
set_option maxRecDepth 40000
theorem Wae {u w:Value}{a:List Int}(ha:SlAt H u a)(hb:SlAt H w a)(hl:a.length<=1000000):LL.Zag P 25 #[u,w] H fun v H'=>H=H'∧v=vb true:=
 LL.Zag.mono (Zia ha hb hl hl) fun v H' h=>⟨h.1,h.2.trans (by rw[decide_eq_true rfl])⟩
theorem Way (hPP:P=PP){bv:Value}{b:Bk}{n:Int}(hb:BkAt H bv b)(hg:Za8 H):n3.m P (MFin P r3 fun v _=>v=vb true) (env0 [bv,vi n]) H:=by
 have hs:∀ g,P.still g=false:=Loud.loud
 have hb0:=hb
 obtain⟨pv,cv,rfl,hp,hc⟩:=hb
 unfold n3
 refine wkT ?_
 refine Zab (vs:=[.agg #[vi b.op,vi b.sl,pv,cv]]) rfl (Great_ok hb0) ?_
 rintro v _ ⟨rfl,rfl⟩
 refine wkT ?_
 refine wiT (fun h0=>?_) (fun h0=>?_)
 ·refine wkT ?_
  refine Zab (vs:=[]) rfl (spiled_okP hPP hg) ?_
  rintro v H1 ⟨_,rfl⟩
  refine wkT ?_
  rfl
 simp only[Bool.or_eq_false_iff,decide_eq_false_iff_not]at h0
 have hl:b.pts.length<=1000000:=by omega
 have hl2:b.cks.length<=1000000:=by omega
 refine wkT ?_
 refine Zab (vs:=[.agg #[vi b.op,vi b.sl,pv,cv]]) rfl (ZfC hb0 hg hl hl2) ?_
 rintro v H1 ⟨i1,rfl⟩
 refine wkT ?_
 refine Zab (vs:=[.agg #[vi b.op,vi b.sl,pv,cv]]) rfl (Wbd (hb0.inc i1) hl hl2) ?_
 rintro v H2 ⟨j2,rfl⟩
 have i2:=i1.trans j2
 refine wkT ?_
 refine wiT (fun h1=>?_) (fun h1=>?_)
 ·exact absurd rfl h1
 refine wkT ?_
 refine wiT (fun h1=>?_) (fun h1=>?_)
 ·exact absurd rfl h1
 refine wkT ?_
 refine Zab (vs:=[.agg #[vi b.op,vi b.sl,pv,cv]]) rfl (Zhi (hb0.inc i2) (CellsAt.inc hg i2) hl hl2) ?_
 rintro v H3 ⟨j3,rfl⟩
 have i3:=i2.trans j3
 refine wkT ?_
 refine Zab (vs:=[.agg #[vi b.op,vi b.sl,pv,cv]]) rfl (WaM (hb0.inc i3) hl hl2) ?_
 rintro v H4 ⟨j4,rfl⟩
 have i4:=i3.trans j4
 refine wkT ?_
 refine wiT (fun h1=>?_) (fun h1=>?_)
 ·exact absurd WaW h1
 refine wkT ?_
 refine wiT (fun h1=>?_) (fun h1=>?_)
 ·exact absurd rfl h1
 refine wkT ?_
 refine Zab (vs:=[.agg #[vi b.op,vi b.sl,pv,cv]]) rfl (When_ok (hb0.inc i4) (CellsAt.inc hg i4) hl hl2) ?_
 rintro v H5 ⟨j5,w5,b5,rfl,o5⟩
 rw[whenA]at o5
 have i5:=i4.trans j5
 obtain⟨A5,c5,rfl⟩:=Waj o5
 refine wkT ?_
 refine Zab (vs:=[.agg #[vi b.op,vi b.sl,pv,cv]]) rfl (WhenR_ok (hb0.inc i5) hl hl2) ?_
 rintro v H6 ⟨j6,w6,b6,rfl,o6⟩
 have i6:=i5.trans j6
 obtain⟨A6,c6,rfl⟩:=Waj o6
 refine wkT ?_
 refine Zab (vs:=[_,_]) rfl (Wae (o5.sl.inc j6) o6.sl when_len) ?_
 rintro v _ ⟨rfl,rfl⟩
 refine wkT ?_
 refine wiT (fun h1=>?_) (fun h1=>?_)
 ·exact absurd rfl h1
 refine wkT ?_
 refine Zab (vs:=[.agg #[vi b.op,vi b.sl,pv,cv]]) rfl (ZkF (hb0.inc i6) (CellsAt.inc hg i6) hl hl2) ?_
 rintro v H7 ⟨j7,hsl⟩
 have i7:=i6.trans j7
 have hsl':∃ A c,v=.tuple #[.slice A (if Zah b true=0 then Wag b else []).length c,vi (Zah b true)]∧SlAt H7 (.slice A (if Zah b true=0 then Wag b else []).length c) (if Zah b true=0 then Wag b else []):=by
  rcases hsl with ⟨hz,rfl⟩ | ⟨hz,w,bb,rfl,o⟩
  ·rw[if_neg hz];exact⟨none,0,rfl,.nil _⟩
  ·rw[slipsA hz]at o
   obtain⟨A,c,rfl⟩:=Waj o
   rw[if_pos hz,hz];exact⟨A,c,rfl,o.sl⟩
 have hsll:(if Zah b true=0 then Wag b else []).length<=1000000:=by
  by_cases hz:Zah b true=0
  ·rw[if_pos hz];exact WaV (Waa hz)
  ·rw[if_neg hz];simp
 obtain⟨A7,c7,rfl,s7⟩:=hsl'
 clear hsl
 refine wkT ?_
 refine Zab (vs:=[.agg #[vi b.op,vi b.sl,pv,cv]]) rfl (Wbb (hb0.inc i7) hl hl2) ?_
 rintro v H8 ⟨j8,w8,b8,rfl,o8⟩
 have i8:=i7.trans j8
 obtain⟨A8,c8,rfl⟩:=Waj o8
 refine wkT ?_
 refine Zab (vs:=[_,_]) rfl (Zi3 (s7.inc j8) o8.sl hsll hsll) ?_
 rintro v _ ⟨rfl,hv,_⟩
 obtain rfl:=hv rfl
 refine wkT ?_
 refine wiT (fun h1=>?_) (fun h1=>?_)
 ·exact absurd rfl h1
 refine wkT ?_
 refine Zab (vs:=[.agg #[vi b.op,vi b.sl,pv,cv],vi n]) rfl (Gap_ok (n:=n) (hb0.inc i8) (CellsAt.inc hg i8) hl hl2) ?_
 rintro v H9 ⟨j9,w9,b9,rfl,o9⟩
 rw[gapA]at o9
 have i9:=i8.trans j9
 obtain⟨A9,c9,rfl⟩:=Waj o9
 refine wkT ?_
 refine Zab (vs:=[.agg #[vi b.op,vi b.sl,pv,cv],vi n]) rfl (GapR_ok (n:=n) (hb0.inc i9) hl hl2) ?_
 rintro v H10 ⟨j10,w10,b10,rfl,o10⟩
 have i10:=i9.trans j10
 obtain⟨A10,c10,rfl⟩:=Waj o10
 refine wkT ?_
 refine Zab (vs:=[_,_]) rfl (Wae (o9.sl.inc j10) o10.sl gap_len) ?_
 rintro v _ ⟨rfl,rfl⟩
 refine wkT ?_
 refine wiT (fun h1=>?_) (fun h1=>?_)
 ·refine wkT ?_
  refine Zab (vs:=[]) rfl (spiled_okP hPP (CellsAt.inc hg i10)) ?_
  rintro v H11 ⟨_,rfl⟩
  refine wkT ?_
  rfl
 ·exact absurd rfl h1
end
end Go.Proofs
end
