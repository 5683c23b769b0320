/- proofs about Leango given: part Rl2; made by a program out of the longer texts in wip -/
import Derived.Test.YtamdhefhhdgjbaaGreatDoorRl01
set_option linter.all false
section
open Go Go.LL
namespace Go.Proofs
theorem el_eq {l:List Int}{i:Nat}(h:i<l.length):l.getD i 0=l[i]:=Zbd h _
theorem Wbk {α:Type}{p:α->Prop}{l:List α}{j:Nat}(hj:j<l.length)(h:∀ x∈l.take j,p x)(h2:p l[j]):∀ x∈l.take (j+1),p x:=by
 intro x hx
 rw[List.take_succ_eq_append_getElem hj]at hx
 rcases List.mem_append.1 hx with hx | hx
 ·exact h x hx
 ·rw[List.mem_singleton.1 hx];exact h2
section
variable  {P:Prg}[Tz P][Loud P]{H:Hp}
set_option maxHeartbeats 4000000
set_option maxRecDepth 20000
theorem Has_ok {lv:Value}{l:List Int}{n:Int}(hl:SlAt H lv l)(hln:l.length<=1000000):LL.Zag P 50 #[lv,vi n] H fun v H'=>H=H'∧v=vb (decide (n∈l)):=by
 have hs:∀ g,P.still g=false:=Loud.loud
 refine IsN.m (isn c50) (args:=[lv,vi n]) rfl ?_
 unfold n50
 refine wkT ?_
 refine ZaX l.length (fun j H'=>H=H'∧∀ x∈l.take j,x≠n) (fun j=>[(0,lv),(1,vi n),(5,vi j)]) (fun _=>[]) ⟨rfl,by simp⟩ ⟨rfl,rfl,rfl,trivial⟩ trivial ?_
 rintro j _ hj ⟨rfl,hI⟩
 refine wkT ?_
 refine Zav hl rfl ?_
 refine wkT ?_
 refine wiT (fun h1=>?_) (fun h1=>?_)
 ·have hj':j<l.length:=by omega
  refine wkT ?_
  refine ZaE hl rfl rfl rfl (i:=j) hj' fun a ha=>?_
  refine wkT ?_
  refine Zaf (hs _) rfl ha ?_
  refine wkT ?_
  refine wiT (fun h2=>?_) (fun h2=>?_)
  ·refine wkT ?_
   exact⟨rfl,by rw[decide_eq_true (show n∈l by rw[<-h2];exact List.getElem_mem hj')];rfl⟩
  ·refine wkT ?_
   exact Wbu (I:=fun j H'=>H=H'∧∀ x∈l.take j,x≠n) (env:=fun j=>[(0,lv),(1,vi n),(5,vi j)]) (box:=fun _=>[]) hj' ⟨rfl,Wbk hj' hI h2⟩ ⟨rfl,rfl,rfl,trivial⟩ trivial rfl
 ·have:j=l.length:=by omega
  subst this
  rw[List.take_length]at hI
  refine wkT ?_
  exact⟨rfl,by rw[decide_eq_false (show ¬ n∈l from fun h=>hI n h rfl)];rfl⟩
theorem WbG {lv:Value}{l:List Slip}{k:Slip}(hl:SlAt H lv l)(hln:l.length<=1000000):LL.Zag P 55 #[lv,ZbG k] H fun v H'=>H=H'∧∃ x,v=vb x∧(x=true↔k∈l):=by
 have hs:∀ g,P.still g=false:=Loud.loud
 refine IsN.m (isn c55) (args:=[lv,ZbG k]) rfl ?_
 unfold n55
 refine wkT ?_
 refine ZaX l.length (fun j H'=>H=H'∧∀ x∈l.take j,x≠k) (fun j=>[(0,lv),(3,vi 0),(5,vi j)]) (fun _=>[(3,[vi k.bf,vi k.by_])]) ⟨rfl,by simp⟩ ⟨rfl,rfl,rfl,trivial⟩ ⟨rfl,trivial⟩ ?_
 rintro j _ hj ⟨rfl,hI⟩
 refine wkT ?_
 refine Zav hl rfl ?_
 refine wkT ?_
 refine wiT (fun h1=>?_) (fun h1=>?_)
 ·have hj':j<l.length:=by omega
  refine wkT ?_
  refine ZaE hl rfl rfl rfl (i:=j) hj' fun a ha=>?_
  refine wkT ?_
  refine Zao (hs _) rfl ha rfl ?_
  refine wkT ?_
  refine om_eqS (b:=decide (l[j].bf=k.bf∧l[j].by_=k.by_)) (xs:=#[vi l[j].bf,vi l[j].by_]) (ys:=#[vi k.bf,vi k.by_]) g70 (fun Q g H hq=>eqP (.inl s70) Q hq) rfl rfl ?_
  refine wkT ?_
  have hk:l[j]=k↔l[j].bf=k.bf∧l[j].by_=k.by_:=by
   cases l[j];cases k;simp
  refine wiT (fun h2=>?_) (fun h2=>?_)
  ·refine wkT ?_
   exact⟨rfl,true,rfl,fun _=>by rw[<-hk.2 h2];exact List.getElem_mem hj',fun _=>rfl⟩
  ·refine wkT ?_
   exact Wbu (I:=fun j H'=>H=H'∧∀ x∈l.take j,x≠k) (env:=fun j=>[(0,lv),(3,vi 0),(5,vi j)]) (box:=fun _=>[(3,[vi k.bf,vi k.by_])]) hj' ⟨rfl,Wbk hj' hI fun e=>h2 (hk.1 e)⟩ ⟨rfl,rfl,rfl,trivial⟩ ⟨rfl,trivial⟩ rfl
 ·have:j=l.length:=by omega
  subst this
  rw[List.take_length]at hI
  refine wkT ?_
  exact⟨rfl,false,rfl,fun h=>by simp at h,fun h=>absurd rfl (hI k h)⟩
theorem Wbv (s:Int)(t:Bool):LL.Zag P 84 #[vi s,vb t] H fun v H'=>H=H'∧v=vb ((!decide (s=1) || t) && (!decide (s=2) || !t)):=by
 have hs:∀ g,P.still g=false:=Loud.loud
 refine IsN.m (isn c84) (args:=[vi s,vb t]) rfl ?_
 unfold n84
 refine wkT ?_
 refine wiT (fun h1=>?_) (fun h1=>?_)
 ·refine wkT ?_
  refine wiT (fun h2=>?_) (fun h2=>?_)
  ·refine wkT ?_
   exact⟨rfl,by simp[Zbe,h1,h2]⟩
  ·refine wkT ?_
   exact⟨rfl,by simp[Zbe,h2]⟩
 ·refine wkT ?_
  subst h1
  refine wiT (fun h2=>?_) (fun h2=>?_)
  ·refine wkT ?_
   exact⟨rfl,by simp[Zbe,h2]⟩
  ·refine wkT ?_
   exact⟨rfl,by simp[Zbe,h2]⟩
end
end Go.Proofs
end
section
open Go Go.LL
namespace Go.Proofs
def nB (b:Bk):Nat:=(Zae b).length
def oS (b:Bk):Int:=if 0<nB b then 0 else 9
theorem Waj {b:Bk}(v:Zeo b):Zah b true=oS b:=open_eq v
theorem Waf {b:Bk}(h:0<nB b):oS b=0:=if_pos h
theorem WaD {b:Bk}(h:¬ 0<nB b):oS b=9:=if_neg h
theorem War {b:Bk}(h:¬ 0<nB b):Zae b=[]:=List.length_eq_zero_iff.1 (by unfold nB at h;omega)
theorem Wbe {b:Bk}(v:Zeo b)(h:¬ 0<nB b):Wab b=[]:=(WbA v).2 fun x hx=>by rw[War h]at hx;simp at hx
theorem Wbz {b:Bk}(v:Zeo b)(h:¬ 0<nB b):whenL b=[]:=(WbK v).2 fun x hx=>by rw[War h]at hx;simp at hx
theorem Wb3 {b:Bk}(h:¬ 0<nB b)(i:Nat):gapL b i=[]:=List.eq_nil_iff_forall_not_mem.2 fun z hz=>by
 obtain⟨x,hx,_⟩:=Wbt.1 hz
 rw[War h]at hx;simp at hx
theorem Wa7 {b:Bk}(v:Zeo b)(h:¬ 0<nB b):(ZiE b).s=0∧(ZiE b).k=0:=by
 obtain⟨_,h2⟩:=Wal v
 have:=WbV v
 unfold nB at h
 rcases h2 with ⟨h3,h4⟩ | ⟨h3,_⟩
 ·exact⟨h4,h3⟩
 ·omega
theorem WbQ {b:Bk}(v:Zeo b):(Wab b).length<=22:=by
 have h1:=List.length_filter_le (fun k=>(Zae b).any (slEq k)) ((ZaC b).drop 1)
 have h2:=ZfM v
 rw[List.length_drop]at h1
 rw[Wab];omega
theorem whenL_le {b:Bk}(v:Zeo b):(whenL b).length<=1782:=by
 rw[Wbd v]
 have h1:=Wbp (((Zae b).filter byN).map Boat.bf)
 rw[List.length_map]at h1
 have h2:=List.length_filter_le byN (Zae b)
 have h3:=Zbp v
 omega
theorem gapL_le {b:Bk}(v:Zeo b)(i:Nat):(gapL b i).length<=1782:=by
 rw[gap_eq rfl]
 have h1:=Wbp ((Zae b).map fun x=>(Zas b x).get i)
 rw[List.length_map]at h1
 have h3:=Zbp v
 omega
def slpF (b:Bk):Int:=if 0<nB b then Zhu ((Zae b).filter byN).length (nB b) else 0
def hadF (b:Bk):Int:=if 0<nB b then Zhu ((Zae b).filter (ZgD b)).length (nB b) else 0
def WbP (b:Bk):Bool:=decide (0<nB b∧sLow b<=sHigh b)
def WaT (b:Bk):Int:=if 0<nB b∧sLow b<=sHigh b then sLow b else 0
section
variable  {P:Prg}[Tz P][Loud P]{H:Hp}{bv:Value}{b:Bk}
theorem Boats_v (v:Zeo b)(hb:BkAt H bv b)(hg:Za8 H):LL.Zag P 19 #[bv] H fun u H'=>Inc H H'∧u=.tuple #[vi (nB b),vi 0]:=
 LL.Zag.mono (ZfC hb hg (by have:=v.n;omega) (by have:=v.ckn;omega)) fun u H' h=>⟨h.1,by rw[h.2,Wao v];rfl⟩
theorem Wb9 (v:Zeo b)(hb:BkAt H bv b)(hg:Za8 H):LL.Zag P 21 #[bv] H fun u H'=>Inc H H'∧u=.tuple #[vi (slpF b),vi (oS b)]:=
 LL.Zag.mono (Zhi hb hg (by have:=v.n;omega) (by have:=v.ckn;omega)) fun u H' h=>⟨h.1,by
  rw[h.2,Waj v,WaL v]
  have:(if oS b=0 then Zhu ((Zae b).filter byN).length (Zae b).length else 0)=slpF b:=by
   unfold slpF
   by_cases h0:0<nB b
   ·rw[if_pos (Waf h0),if_pos h0];rfl
   ·rw[if_neg (by rw[WaD h0];decide),if_neg h0]
  rw[this]⟩
theorem Had_v (v:Zeo b)(hb:BkAt H bv b)(hg:Za8 H):LL.Zag P 31 #[bv] H fun u H'=>Inc H H'∧u=.tuple #[vi (hadF b),vi (oS b)]:=
 LL.Zag.mono (Had_ok hb hg (by have:=v.n;omega) (by have:=v.ckn;omega)) fun u H' h=>⟨h.1,by
  rw[h.2,Waj v]
  have:(if oS b=0 then Zhu ((Zae b).filter (ZgD b)).length (Zae b).length else 0)=hadF b:=by
   unfold hadF
   by_cases h0:0<nB b
   ·rw[if_pos (Waf h0),if_pos h0];rfl
   ·rw[if_neg (by rw[WaD h0];decide),if_neg h0]
  rw[this]⟩
theorem Slips_v (v:Zeo b)(hb:BkAt H bv b)(hg:Za8 H):LL.Zag P 26 #[bv] H fun u H'=>Inc H H'∧∃ A c,u=.tuple #[.slice A (Wab b).length c,vi (oS b)]∧SlAt H' (.slice A (Wab b).length c) (Wab b):=
 LL.Zag.mono (ZkF hb hg (by have:=v.n;omega) (by have:=v.ckn;omega)) fun u H' h=>⟨h.1,by
  rw[Waj v]at h
  rcases h.2 with ⟨hz,rfl⟩ | ⟨hz,w,bb,rfl,o⟩
  ·have h0:¬ 0<nB b:=fun e=>hz (Waf e)
   rw[Wbe v h0]
   exact⟨none,0,rfl,.nil _⟩
  ·rw[Wbm v]at o
   obtain⟨A,c,rfl⟩:=WaB o
   rw[hz]
   exact⟨A,c,rfl,o.sl⟩⟩
theorem When_v (v:Zeo b)(hb:BkAt H bv b)(hg:Za8 H):LL.Zag P 23 #[bv] H fun u H'=>Inc H H'∧∃ A c,u=.tuple #[.slice A (whenL b).length c,vi (oS b)]∧SlAt H' (.slice A (whenL b).length c) (whenL b):=
 LL.Zag.mono (When_ok hb hg (by have:=v.n;omega) (by have:=v.ckn;omega)) fun u H' h=>⟨h.1,by
  rw[Waj v]at h
  obtain⟨w,bb,rfl,o⟩:=h.2
  have:(if oS b=0 then whenL b else [])=whenL b:=by
   split
   ·rfl
   ·rename_i h0
    rw[Wbz v fun e=>h0 (Waf e)]
  rw[this]at o
  obtain⟨A,c,rfl⟩:=WaB o
  exact⟨A,c,rfl,o.sl⟩⟩
theorem Gap_v {i:Nat}(hi:i<b.pts.length)(v:Zeo b)(hb:BkAt H bv b)(hg:Za8 H):LL.Zag P 29 #[bv,vi i] H fun u H'=>Inc H H'∧∃ A c,u=.tuple #[.slice A (gapL b i).length c,vi (oS b)]∧SlAt H' (.slice A (gapL b i).length c) (gapL b i):=
 LL.Zag.mono (Gap_ok hb hg (by have:=v.n;omega) (by have:=v.ckn;omega)) fun u H' h=>⟨h.1,by
  rw[there_eq hi,Waj v]at h
  obtain⟨w,bb,rfl,o⟩:=h.2
  have:(if oS b=0 then gapL b (i:Int).toNat else [])=gapL b i:=by
   split
   ·rfl
   ·rename_i h0
    rw[Wb3 fun e=>h0 (Waf e)]
  rw[this]at o
  obtain⟨A,c,rfl⟩:=WaB o
  exact⟨A,c,rfl,o.sl⟩⟩
theorem Surely_v (v:Zeo b)(hb:BkAt H bv b)(hg:Za8 H):LL.Zag P 33 #[bv] H fun u H'=>Inc H H'∧u=.tuple #[vi (WaT b),vb (WbP b),vi (oS b)]:=
 LL.Zag.mono (Zm2 hb hg (by have:=v.n;omega) (by have:=v.ckn;omega)) fun u H' h=>⟨h.1,by
  rw[h.2,ZfI,Waj v,WaT,WbP]
  by_cases h0:0<nB b
  ·rw[if_pos (Waf h0)]
   by_cases h1:sLow b<=sHigh b
   ·rw[if_neg (by omega),if_pos ⟨h0,h1⟩,decide_eq_true (show 0<nB b∧sLow b<=sHigh b from ⟨h0,h1⟩),Waf h0]
   ·rw[if_pos (by omega),if_neg (fun e=>h1 e.2),decide_eq_false (fun e=>h1 e.2),Waf h0]
  ·rw[if_neg (by rw[WaD h0];decide),if_neg (fun e=>h0 e.1),decide_eq_false (fun e=>h0 e.1)]⟩
theorem Most_v (hPP:P=PP)(v:Zeo b)(hb:BkAt H bv b)(hg:Za8 H):LL.Zag P 35 #[bv] H fun u H'=>Inc H H'∧u=.tuple #[vi (ZiE b).s,vi (ZiE b).k,vi (oS b)]:=
 LL.Zag.mono (Most_okP hPP hb hg (by have:=v.n;omega) (by have:=v.ckn;omega)) fun u H' h=>⟨h.1,by
  rw[h.2,Waj v]
  by_cases h0:0<nB b
  ·rw[if_pos (Waf h0),if_pos (Waf h0)]
  ·rw[if_neg (by rw[WaD h0];decide),if_neg (by rw[WaD h0];decide),(Wa7 v h0).1,(Wa7 v h0).2]⟩
end
end Go.Proofs
end
section
open Go Go.LL
namespace Go.Proofs
theorem Wai {a m:Int}(h:0<=a)(hm:0<m):0<=a.tmod m∧a.tmod m<m:=⟨Int.tmod_nonneg _ h,Int.tmod_lt_of_pos _ hm⟩
theorem WaN {f:Nat->Int}{j:Nat}:(List.range (j+1)).map f=(List.range j).map f++[f j]:=by rw[List.range_succ,List.map_append];rfl
theorem WbU {f:Nat->Int}{n i:Nat}(h:i<n):((List.range n).map f).getD i 0=f i:=by
 rw[List.getD_eq_getElem?_getD,List.getElem?_map,List.getElem?_range h];rfl
theorem Wbq {b:Bk}{l:List Int}{lo hi:Int}(h:l.length=b.pts.length)(h2:∀ z∈l,lo<=z∧z<=hi):Zbw b l lo hi=0:=by
 rw[Zbw,if_neg (by simpa using h),if_pos]
 rw[List.all_eq_true]
 exact fun z hz=>decide_eq_true (h2 z hz)
theorem WbC {b:Bk}{l:List Int}(v:Zeo b)(h:l.length=b.pts.length)(h2:∀ z∈l,-199<=z∧z<=199) :
  ∃ x y f,Zhw b l=.tuple #[.agg #[vi x,vi y],vb f,vi 0]∧(f=true->x=lowF b (n4of l)∧y=Zfc b (n4of l)∧x<=y)∧(f=false->x=0∧y=0∧Zfc b (n4of l)<lowF b (n4of l)):=by
 have e:Zb8 b l=0:=by rw[Zb8,if_neg (by simp[Wao v]),Wbq h h2]
 by_cases hh:lowF b (n4of l) > Zfc b (n4of l)
 ·exact⟨0,0,false,by rw[Zhw,if_neg (by simp[e]),if_pos hh],fun h=>by simp at h,fun _=>⟨rfl,rfl,hh⟩⟩
 ·exact⟨_,_,true,by rw[Zhw,if_neg (by simp[e]),if_neg hh],fun _=>⟨rfl,rfl,by omega⟩,fun h=>by simp at h⟩
theorem Wb4 {b:Bk}(h:fitB b=true):Zeo b:=by
 simp only[fitB,Bool.and_eq_true,decide_eq_true_eq]at h
 exact ZaS h.2
section
variable  {P:Prg}[Tz P][Loud P]{H:Hp}
set_option maxHeartbeats 16000000
set_option maxRecDepth 40000
end
end Go.Proofs
end
section
open Go Go.LL
namespace Go.Proofs
theorem pt_rg {b:Bk}(v:Zeo b){i:Nat}(hi:i<b.pts.length):(0<=(ptAt b i).ml∧(ptAt b i).ml<=(ptAt b i).mh∧(ptAt b i).mh<=99)∧(ptAt b i).mh-(ptAt b i).ml<3∧(0<=(ptAt b i).bl∧(ptAt b i).bl<=(ptAt b i).bh∧(ptAt b i).bh<=199)∧(0<=(ptAt b i).w∧(ptAt b i).w<=199):=by
 have:=v.pts i hi
 rwa [show b.pts[i]=ptAt b i from (Zbd hi _).symm]at this
section
variable  {P:Prg}[Tz P][Loud P]{H:Hp}
set_option maxHeartbeats 8000000
set_option maxRecDepth 20000
end
end Go.Proofs
end
section
open Go Go.LL
namespace Go.Proofs
def WaM (b:Bk)(l:List U16)(n:Nat):List Int:=(List.range n).map fun (i:Nat)=>(ptAt b i).ml+(Zgj l i).tmod ((ptAt b i).mh-(ptAt b i).ml+1)
def Wau (b:Bk)(l:List U16):Int:=(Zgj l 5).tmod (2 * b.sl+1)-b.sl
def WbE (b:Bk)(l:List U16):Slip:=⟨if Wau b l=0 then 0 else 1+(Zgj l 4).tmod (b.pts.length-1),Wau b l⟩
theorem WaA (b:Bk)(l:List U16)(n:Nat):(WaM b l n).length=n:=by simp[WaM]
theorem Wbn {b:Bk}(v:Zeo b)(l:List U16){i:Nat}(hi:i<b.pts.length):(ptAt b i).ml<=(ptAt b i).ml+(Zgj l i).tmod ((ptAt b i).mh-(ptAt b i).ml+1)∧(ptAt b i).ml+(Zgj l i).tmod ((ptAt b i).mh-(ptAt b i).ml+1)<=(ptAt b i).mh:=by
 obtain⟨h1,_⟩:=pt_rg v hi
 have:=Wai (m:=(ptAt b i).mh-(ptAt b i).ml+1) (Wae l i).1 (by omega)
 omega
theorem realM_mk {b:Bk}(v:Zeo b)(l:List U16):WaM b l b.pts.length∈mkL b b.pts.length:=by
 refine Wah.2 ⟨WaA b l _,fun j hj=>?_⟩
 rw[WaM,WbU hj]
 exact Wbn v l hj
theorem realM_99 {b:Bk}(v:Zeo b)(l:List U16):∀ z∈WaM b l b.pts.length,0<=z∧z<=99:=by
 intro z hz
 obtain⟨i,hi,rfl⟩:=List.mem_map.1 hz
 rw[List.mem_range]at hi
 have:=Wbn v l hi
 obtain⟨h1,_⟩:=pt_rg v hi
 omega
theorem realY_rg {b:Bk}(v:Zeo b)(l:List U16):-b.sl<=Wau b l∧Wau b l<=b.sl:=by
 have:=v.sl
 have:=Wai (m:=2 * b.sl+1) (Wae l 5).1 (by omega)
 rw[Wau];omega
theorem WbT {b:Bk}(v:Zeo b)(l:List U16):WbE b l∈ZaC b:=by
 have hn:=v.n
 have h1:=realY_rg v l
 have h2:=Wai (m:=(b.pts.length:Int)-1) (Wae l 4).1 (by omega)
 refine(Wa6 v).2 ?_
 by_cases h:Wau b l=0
 ·left;rw[WbE,if_pos h,h]
 ·right
  rw[WbE,if_neg h]
  show (1<=1+(Zgj l 4).tmod (b.pts.length-1)∧1+(Zgj l 4).tmod (b.pts.length-1)<b.pts.length)∧-b.sl<=Wau b l∧Wau b l<=b.sl∧Wau b l≠0
  omega
theorem WbD (b:Bk)(l:List U16)(j:Nat):WaM b l (j+1)=WaM b l j++[(ptAt b j).ml+(Zgj l j).tmod ((ptAt b j).mh-(ptAt b j).ml+1)]:=WaN
section
variable  {P:Prg}[Tz P][Loud P]{H:Hp}
set_option maxHeartbeats 8000000
set_option maxRecDepth 20000
theorem Wca {a c n:Int}(h:0<=a∧a<=c∧c<=99)(hn:0<=n):LL.Zag P 136 #[.agg #[vi a,vi c],vi n] H fun v H'=>H=H'∧v=vi (a+n.tmod (c-a+1)):=by
 have hs:∀ g,P.still g=false:=Loud.loud
 refine IsN.m (isn c136) (args:=[.agg #[vi a,vi c],vi n]) rfl ?_
 unfold n136
 refine wkT ?_
 refine Wbr rfl rfl (by omega) ?_
 have:=Wai (m:=c-a+1) hn (by omega)
 refine wkT ?_
 exact⟨rfl,rfl⟩
theorem Real_ok {bv lv:Value}{b:Bk}{l:List U16}(val:Zeo b)(hb:BkAt H bv b)(hl:SlAt H lv l):LL.Zag P 73 #[bv,lv] H fun v H'=>Inc H H'∧∃ A c,v=.tuple #[.slice A b.pts.length c,ZbG (WbE b l)]∧SlAt H' (.slice A b.pts.length c) (WaM b l b.pts.length):=by
 have hs:∀ g,P.still g=false:=Loud.loud
 have hn:=val.n
 have hsl:=val.sl
 obtain⟨pv,cv,rfl,hp,hc⟩:=hb
 obtain⟨Ap,cp,rfl,hp'⟩:=id hp
 refine IsN.m (isn c73) (args:=[.agg #[vi b.op,vi b.sl,.slice Ap b.pts.length cp,cv],lv]) rfl ?_
 unfold n73
 refine wkT ?_
 refine ZaP (α:=Value×Option Nat) b.pts.length (fun j s H'=>Inc H H'∧Own H H' 3 s.1 (WaM b l j) s.2) (fun j s=>[(1,lv),(2,vi 0),(5,vi 0),(6,s.1),(7,vi j)]) (fun _ _=>[(2,[vi b.op,vi b.sl,.slice Ap b.pts.length cp,cv]),(5,[vi 0,vi 0])]) (.slice none 0 0,none) ⟨.refl _,.nil _ _ _⟩ ⟨rfl,rfl,rfl,rfl,rfl,trivial⟩ ⟨rfl,rfl,trivial⟩ ?_
 rintro j ⟨v6,b6⟩ H2 hj ⟨i2,o6⟩
 simp only at o6
 have hrl:=WaA b l j
 refine wkT ?_
 refine wiT (fun h1=>?_) (fun h1=>?_)
 ·have hj':j<b.pts.length:=by omega
  obtain⟨g1,_⟩:=pt_rg val hj'
  have row:Enc.enc b.pts[j]=[vi (ptAt b j).ml,vi (ptAt b j).mh,vi (ptAt b j).bl,vi (ptAt b j).bh,vi (ptAt b j).w]:=by
   rw[show b.pts[j]=ptAt b j from (Zbd hj' _).symm];rfl
  have hsn:=WbD b l j
  refine wkT ?_
  refine ZaE (hp.inc i2) rfl rfl rfl (i:=j) hj' fun a ha=>?_
  rw[row]at ha
  refine wkT ?_
  refine Zao (cs:=[vi (ptAt b j).ml,vi (ptAt b j).mh]) (hs _) rfl (by rw[add_zero];exact ZbK (ds:=[vi (ptAt b j).bl,vi (ptAt b j).bh,vi (ptAt b j).w]) ha) rfl ?_
  refine wkT ?_
  refine Zab (vs:=[lv,vi j]) rfl (Choice_ok (hl.inc i2)) ?_
  rintro v _ ⟨rfl,rfl⟩
  refine wkT ?_
  refine Zab (vs:=[.agg #[vi (ptAt b j).ml,vi (ptAt b j).mh],vi (Zgj l j)]) rfl (Wca g1 (Wae l j).1) ?_
  rintro v _ ⟨rfl,rfl⟩
  generalize (ptAt b j).ml+(Zgj l j).tmod ((ptAt b j).mh-(ptAt b j).ml+1)=x at *
  refine wkT ?_
  refine Zat (cs:=[vi x]) (hs _) rfl fun r5 hr5=>?_
  refine kp_l hs ?_
  refine wkT ?_
  refine ZbW (l':=[x]) (und u34) (und u34) (tif t3) rfl (by decide) (i2.trans (Zaj hr5)) (o6.ins hr5) WbX rfl (by simp only[List.length_singleton];omega) (by omega) rfl rfl (hs _) fun v7 H4 b7 k1 k2 k3=>?_
  rw[<-hsn]at k2
  refine wkT ?_
  exact⟨(⟨j+1,by omega⟩,(v7,b7)),Nat.sub_lt_sub_left (by omega) (Nat.lt_succ_self j),⟨k1,k2⟩,⟨rfl,rfl,rfl,rfl,rfl,trivial⟩,⟨rfl,rfl,trivial⟩,rfl⟩
 have:j=b.pts.length:=by omega
 subst this
 obtain⟨A6,c6,rfl⟩:=WaB o6
 have s6:=o6.sl
 rw[hrl]at s6
 have r4:=Wai (m:=(b.pts.length:Int)-1) (Wae l 4).1 (by omega)
 have r5:=Wai (m:=2 * b.sl+1) (Wae l 5).1 (by omega)
 have ry:Wau b l=(Zgj l 5).tmod (2 * b.sl+1)-b.sl:=rfl
 have rk:WbE b l=⟨if Wau b l=0 then 0 else 1+(Zgj l 4).tmod (b.pts.length-1),Wau b l⟩:=rfl
 refine wkT ?_
 refine ZgX rfl rfl ⟨by omega,by omega⟩ ?_
 refine wkT ?_
 refine Zab (vs:=[lv,vi 4]) rfl (Choice_ok (hl.inc i2)) ?_
 rintro v _ ⟨rfl,rfl⟩
 refine wkT ?_
 refine Wbr rfl rfl (by omega) ?_
 refine wkT ?_
 refine Zab (vs:=[lv,vi 5]) rfl (Choice_ok (hl.inc i2)) ?_
 rintro v _ ⟨rfl,rfl⟩
 refine wkT ?_
 refine Wbr rfl rfl (by omega) ?_
 refine wkT ?_
 rw[<-ry]
 refine wiT (fun h2=>?_) (fun h2=>?_)
 ·refine wkT ?_
  refine⟨i2,A6,c6,?_,s6⟩
  rw[rk,if_pos h2,hrl];rfl
 ·refine wkT ?_
  refine⟨i2,A6,c6,?_,s6⟩
  rw[rk,if_neg h2,hrl];rfl
end
end Go.Proofs
end
section
open Go Go.LL
namespace Go.Proofs
theorem WbO {k n:Nat}(hn:0<n):Zhu k n=1↔k=n:=by
 rw[Zhu]
 split
 ·simp;omega
 ·split<;>simp[*]
theorem Wb0 {b:Bk}(h:0<nB b):hadF b=Zhu ((Zae b).filter (ZgD b)).length (nB b):=if_pos h
theorem slp_pos {b:Bk}(h:0<nB b):slpF b=Zhu ((Zae b).filter byN).length (nB b):=if_pos h
structure BrN (p q n m i few many all:Int)(su st:Bool):Prop where
 p3:p=0∨p=1∨p=2
 a1:p=1->q=1
 a2:p≠2->q≠2
 a3:su=true->st=true∧m<=n
 a4:few<=many
 a5:many<=all
 a6:su=true->few=all∧i=n∧p=1
 a7:su=false->few<all
 a8:few=0↔p=2
section
variable  {P:Prg}[Tz P][Loud P]{H:Hp}
set_option maxHeartbeats 16000000
set_option maxRecDepth 40000
end
end Go.Proofs
end
section
open Go Go.LL
namespace Go.Proofs
section
variable  {P:Prg}[Tz P][Loud P]{H:Hp}
set_option maxHeartbeats 16000000
set_option maxRecDepth 40000
end
end Go.Proofs
end
section
open Go Go.LL
namespace Go.Proofs
section
variable  {P:Prg}[Tz P][Loud P]{H:Hp}
set_option maxHeartbeats 16000000
set_option maxRecDepth 40000
end
end Go.Proofs
end
section
open Go Go.LL
namespace Go.Proofs
theorem tmod_nat {m:Int}{n:Nat}(h:0<=m)(hn:0<n):∃ i:Nat,i<n∧m.tmod n=i:=by
 have:=Wai (m:=(n:Int)) h (by omega)
 exact⟨(m.tmod n).toNat,by omega,by omega⟩
section
variable  {P:Prg}[Tz P][Loud P]{H:Hp}
set_option maxHeartbeats 16000000
set_option maxRecDepth 40000
end
end Go.Proofs
end
section
open Go Go.LL
namespace Go.Proofs
theorem WbZ {b:Bk}{l:List Int}{k:Slip}(v:Zeo b)(h:l.length=b.pts.length)(h2:∀ z∈l,0<=z∧z<=99)(hk:k∈ZaC b):ZaA b l k=0:=by
 rw[ZaA,if_neg (by simp[Wao v]),if_neg (by rw[Wbq h h2];decide),if_pos hk]
theorem gapsL_v {b:Bk}{l:List Int}{k:Slip}(v:Zeo b)(h:l.length=b.pts.length)(h2:∀ z∈l,0<=z∧z<=99)(hk:k∈ZaC b):gapsL b l k=gapLs b (Zgk l k):=by
 rw[gapsL,if_pos (WbZ v h h2 hk)];rfl
section
variable  {P:Prg}[Tz P][Loud P]{H:Hp}
set_option maxHeartbeats 16000000
set_option maxRecDepth 40000
end
end Go.Proofs
end
section
open Go Go.LL
namespace Go.Proofs
theorem Wbg {b:Bk}(v:Zeo b){x:Boat}(hx:x∈Zae b):WaG b x=true:=by
 obtain⟨h1,h2⟩:=(Wbc v).1 hx
 have h3:=((Wbx v).1 h1).1
 have e:Wac b x b.pts.length=x.m:=by
  refine N4.ext' fun j hj=>?_
  rw[Wac,N4.of_get _ hj]
  split
  ·have:=h3 j (by assumption)
   omega
  ·rfl
 rw[WaG,e,h2,n4Eq]
 simp
theorem trC_map {l:List SCk}{g:List Int}{j:Nat}(h:j<l.length):(l.take (j+1)).map (trC g)=(l.take j).map (trC g)++[trC g l[j]]:=by
 rw[List.take_succ_eq_append_getElem h,List.map_append];rfl
theorem ckE (c:SCk):Enc.enc c=[vi c.p,vi c.gl,vi c.gh]:=rfl
section
variable  {P:Prg}[Tz P][Loud P]{H:Hp}
set_option maxHeartbeats 8000000
set_option maxRecDepth 20000
theorem Truly_ok {bv gv:Value}{b:Bk}{g:List Int}(val:Zeo b)(hb:BkAt H bv b)(hgv:SlAt H gv g)(hl:g.length=b.pts.length):LL.Zag P 83 #[bv,gv] H fun v H'=>Inc H H'∧BkAt H' v (trB b g):=by
 have hs:∀ g,P.still g=false:=Loud.loud
 have hn:=val.n
 have hck:=val.ckn
 obtain⟨pv,cv,rfl,hp,hc⟩:=hb
 obtain⟨Ap,cp,rfl,hp'⟩:=id hp
 obtain⟨Ac,cc,rfl,hc'⟩:=id hc
 refine IsN.m (isn c83) (args:=[.agg #[vi b.op,vi b.sl,.slice Ap b.pts.length cp,.slice Ac b.cks.length cc],gv]) rfl ?_
 unfold n83
 refine wkT ?_
 refine ZaP (α:=(Option Addr×Nat×Nat)×Option Nat) b.cks.length (fun j s H'=>Inc H H'∧Own H H' 51 (.slice s.1.1 s.1.2.1 s.1.2.2) ((b.cks.take j).map (trC g)) s.2)
  (fun j s=>[(1,gv),(2,vi 0),(4,vi 0),(5,vi 0),(6,vi j)]) (fun _ s=>[(2,[vi b.op,vi b.sl,.slice Ap b.pts.length cp,.slice Ac b.cks.length cc]),(4,[vi 0,vi 0,.slice none 0 0,.slice none 0 0]),(5,[vi b.op,vi b.sl,.slice Ap b.pts.length cp,.slice s.1.1 s.1.2.1 s.1.2.2])]) ((none,0,0),none) ⟨.refl _,.nil _ _ _⟩ ⟨rfl,rfl,rfl,rfl,rfl,trivial⟩ ⟨rfl,rfl,rfl,trivial⟩ ?_
 rintro j ⟨⟨A5,l5,c5⟩,b5⟩ H2 hj ⟨i2,o5⟩
 simp only at o5
 refine wkT ?_
 refine wiT (fun h1=>?_) (fun h1=>?_)
 ·have hj':j<b.cks.length:=by omega
  obtain⟨hp1,hg1⟩:=val.cks _ (List.getElem_mem hj')
  have hts:=trC_map (g:=g) hj'
  have htl:((b.cks.take j).map (trC g)).length=j:=by rw[List.length_map,List.length_take];omega
  obtain⟨n,en⟩:∃ n:Nat,b.cks[j].p=n:=⟨b.cks[j].p.toNat,by omega⟩
  have hng:n<g.length:=by omega
  have etr:trC g b.cks[j]=⟨n,min g[n] b.cks[j].gl,max g[n] b.cks[j].gh⟩:=by
   rw[trC,en,Int.toNat_natCast,Zbd hng]
  rw[etr]at hts
  refine wkT ?_
  refine ZaE (hc.inc i2) rfl rfl rfl (i:=j) hj' fun a ha=>?_
  rw[ckE,en]at ha
  refine wkT ?_
  refine Zao (hs _) rfl ha rfl ?_
  refine wkT ?_
  refine ZaE (hgv.inc i2) rfl rfl rfl (i:=n) hng fun a2 ha2=>?_
  refine wkT ?_
  refine Zaf (hs _) rfl ha2 ?_
  generalize g[n]=x at *
  generalize b.cks[j].gl=y at *
  generalize b.cks[j].gh=z at *
  refine wkT ?_
  refine om_min rfl rfl ?_
  refine wkT ?_
  refine om_max rfl rfl ?_
  refine wkT ?_
  refine Zab (vs:=[vi (min x y),vi (max x z)]) rfl (Zi6 _ _) ?_
  rintro v _ ⟨rfl,rfl⟩
  refine wkT ?_
  refine Zat (cs:=[vi n,vi (min x y),vi (max x z)]) (hs _) rfl fun r5 hr5=>?_
  refine wkT ?_
  refine ZbW (l':=[(⟨n,min x y,max x z⟩:SCk)]) (und u23) (und u23) (tif t51) rfl (by decide) (i2.trans (Zaj hr5)) (o5.ins hr5) Zjc rfl (by rw[htl];simp only[List.length_singleton];omega) (by omega) rfl rfl (hs _) fun v7 H4 b7 k1 k2 k3=>?_
  rw[<-hts]at k2
  obtain⟨A7,c7,rfl⟩:=WaB k2
  refine wkT ?_
  exact⟨(⟨j+1,by omega⟩,((A7,_,c7),b7)),Nat.sub_lt_sub_left (by omega) (Nat.lt_succ_self j),⟨k1,k2⟩,⟨rfl,rfl,rfl,rfl,rfl,trivial⟩,⟨rfl,rfl,rfl,trivial⟩,rfl⟩
 have:j=b.cks.length:=by omega
 subst this
 rw[List.take_length]at o5
 refine wkT ?_
 exact⟨i2,_,_,rfl,hp.inc i2,o5.sl⟩
theorem Clash_v {bv:Value}{b:Bk}(v:Zeo b)(hb:BkAt H bv b)(hg:Za8 H):LL.Zag P 37 #[bv] H fun u H'=>Inc H H'∧∃ w,u=.tuple #[w,vi 0]∧SlAt H' w (if 0<nB b then [] else ZmQ b):=
 LL.Zag.mono (Clash_ok hb hg (by have:=v.n;omega) (by have:=v.ckn;omega)) fun u H' h=>⟨h.1,by
  obtain⟨w,e,hs⟩:=h.2
  rw[Wao v]at e
  refine⟨w,e,?_⟩
  by_cases h0:0<nB b
  ·rw[if_neg (fun hh=>by rw[Wbl.2 h0]at hh;simp at hh)]at hs
   rw[if_pos h0];exact hs
  ·have hf:Zc9 b=false:=by rw[Bool.eq_false_iff];exact fun e=>h0 (Wbl.1 e)
   rw[if_pos ⟨Wao v,hf⟩]at hs
   rw[if_neg h0];exact hs⟩
end
end Go.Proofs
end
section
open Go Go.LL
namespace Go.Proofs
theorem Wbf {G:Prop} (h:G:=by
  refine wkT ?_
  refine Zab (vs:=[]) rfl (spiled_okP hPP hg15) ?_
  rintro v H16 ⟨_,rfl⟩
  refine wkT ?_
  rfl):G:=h
theorem WbS {T:Bk}(v:Zeo T){x:Boat}(hx:x∈Zae T):0<nB T∧((hadF T=1->ZgD T x=true)∧(hadF T=2->ZgD T x=false))∧((slpF T=1->byN x=true)∧(slpF T=2->byN x=false))∧(ZiE T).k<=nB T∧(ZgD T x=true->1<=(ZiE T).k) ∧
  (WbP T=true->ZgD T x=true∧(lowF T (Zas T x)<=WaT T∧WaT T<=Zfc T (Zas T x))∧hadF T=1∧(ZiE T).k=nB T):=by
 have hp:0<nB T:=List.length_pos_of_mem hx
 have hn:=v.n
 refine⟨hp,by rw[Wb0 hp];exact Wba hx,by rw[slp_pos hp];exact Wba hx,(WbV v).2,fun h=>?_,fun h=>?_⟩
 ·have h1:=(Wal v).1 (lowF T (Zas T x))
  have:0<cntF T (lowF T (Zas T x)):=List.length_pos_of_mem (List.mem_filter.2 ⟨hx,Wak.2 ⟨Int.le_refl _,Wax.1 h⟩⟩)
  omega
 ·obtain⟨_,h2⟩:=of_decide_eq_true h
  obtain⟨g1,g2,g3⟩:=WbN v hp h2
  have e:WaT T=sLow T:=if_pos ⟨hp,h2⟩
  have a1:=(Waz hp).1 x hx
  have a2:=(Waq hp).1 x hx
  rw[e]
  exact⟨Wax.2 (by omega),⟨by omega,by omega⟩,by rw[Wb0 hp];exact(WbO hp).2 g3,g1⟩
section
variable  {P:Prg}[Tz P][Loud P]{H:Hp}
set_option maxHeartbeats 16000000
set_option maxRecDepth 40000
theorem Wa1 (hPP:P=PP){bv lv:Value}{b:Bk}{l:List U16}{m:Int}(hb:BkAt H bv b)(hl:SlAt H lv l)(hm:0<=m∧m<256)(hg:Za8 H) :
  n16.m P (MFin P r16 fun v _=>v=vb true) (env0 [bv,lv,.int .u8 m]) H:=by
 have hs:∀ g,P.still g=false:=Loud.loud
 have hb0:=hb
 obtain⟨pv,cv,rfl,hp,hc⟩:=hb
 obtain⟨Ap,cp,rfl,hp'⟩:=id hp
 obtain⟨Ac,cc,rfl,hc'⟩:=id hc
 unfold n16
 refine wkT ?_
 refine Zab (vs:=[.agg #[vi b.op,vi b.sl,.slice Ap b.pts.length cp,.slice Ac b.cks.length cc]]) rfl (Fit_ok hb0) ?_
 rintro v _ ⟨rfl,rfl⟩
 refine wkT ?_
 refine wiT (fun h0=>?_) (fun h0=>?_)
 ·refine wkT ?_
  refine Zab (vs:=[]) rfl (spiled_okP hPP hg) ?_
  rintro v H1 ⟨_,rfl⟩
  refine wkT ?_
  rfl
 have val:=Wb4 h0
 have hn:=val.n
 have hsl:=val.sl
 have hop:=val.op
 have hck:=val.ckn
 have hK:=WbT val l
 have hM:=realM_mk val l
 have hM9:=realM_99 val l
 have hMl:=WaA b l b.pts.length
 have hKs:=ZjT val _ hK
 refine wkT ?_
 refine Zab (vs:=[.agg #[vi b.op,vi b.sl,.slice Ap b.pts.length cp,.slice Ac b.cks.length cc],lv]) rfl (Real_ok val hb0 hl) ?_
 rintro v H1 ⟨i1,A1,c1,rfl,s1⟩
 generalize WbE b l=K at *
 generalize WaM b l b.pts.length=M at *
 refine wkT ?_
 refine Zab (vs:=[.agg #[vi b.op,vi b.sl,.slice Ap b.pts.length cp,.slice Ac b.cks.length cc],.slice A1 b.pts.length c1,.agg #[vi K.bf,vi K.by_]]) rfl (Wcc (hb0.inc i1) s1 (by omega) ⟨by omega,by omega⟩ (fun z hz=>by have:=hM9 z hz;exact⟨by omega,by omega⟩) ⟨by omega,by omega⟩) ?_
 rintro gv H2 ⟨j2,bb2,o2⟩
 have i2:=i1.trans j2
 have sg:=o2.sl
 have hgl:(gapsOfL b M K).length=b.pts.length:=by simp[gapsOfL,hMl]
 have hgr:=fun i=>WbR val hM hK (i:=i)
 refine wkT ?_
 refine Zab (vs:=[.agg #[vi b.op,vi b.sl,.slice Ap b.pts.length cp,.slice Ac b.cks.length cc],gv]) rfl (Truly_ok val (hb0.inc i2) sg hgl) ?_
 rintro v H3 ⟨i3,hT0⟩
 have vT:=Wbj val hgr
 have hbt:=tr_boat val hM hK
 have hTo:(trB b (gapsOfL b M K)).op=b.op∧(trB b (gapsOfL b M K)).sl=b.sl∧(trB b (gapsOfL b M K)).pts.length=b.pts.length:=⟨rfl,rfl,rfl⟩
 have hgT:∀ x,Zas (trB b (gapsOfL b M K)) x=Zas b x:=fun x=>Wb1 rfl rfl x
 have hKT:K∈ZaC (trB b (gapsOfL b M K)):=by
  have:ZaC (trB b (gapsOfL b M K))=ZaC b:=rfl
  rw[this];exact hK
 have hn4:=gaps_n4 (k:=K) val hM
 have hgi:=fun i (hi:i<b.pts.length)=>WaH (k:=K) val hM hi
 have hgeq:gapLs b (Zgk M K)=gapsOfL b M K:=(Wb2 val hMl K).symm
 have hgT2:gapLs (trB b (gapsOfL b M K)) (Zgk M K)=gapLs b (Zgk M K):=by rw[gapLs,gapLs,hgT];rfl
 rw[<-hgT]at hn4
 have hT:=hT0
 obtain⟨_,_,rfl,⟨Tp,tp,rfl,_⟩,⟨Tc,tc,rfl,_⟩⟩:=hT0
 have iT:=i2.trans i3
 have hg3:=CellsAt.inc hg iT
 have s3:=(s1.inc j2).inc i3
 have sg3:=sg.inc i3
 generalize trB b (gapsOfL b M K)=T at *
 have hMT:M.length=T.pts.length:=by omega
 have y1:=WbZ vT hMT hM9 hKT
 have y3:=gapsL_v vT hMT hM9 hKT
 rw[hgT2,hgeq]at y3
 have y5:WaF T M K=.tuple #[vb true,vi 0]:=by rw[WaF,if_pos y1,Wbg vT hbt]
 obtain⟨hz,n1,n2,n3,n4,n5⟩:=WbS vT hbt
 have hTn:=vT.n
 have hTck:=vT.ckn
 obtain⟨x1,x2,fx,ex,hx1,hx2⟩:=WbC (b:=T) (l:=gapsOfL b M K) vT (by omega) (fun z hz=>by
  obtain⟨i,hi,rfl⟩:=List.mem_iff_getElem.1 hz
  rw[<-el_eq hi];exact hgr i)
 rw[hn4]at hx1 hx2
 have hf:ZgD T (Zgk M K)=fx:=by
  cases fx with
  | true=>have:=hx1 rfl;exact Wax.2 (by omega)
  | false=>have:=hx2 rfl;rw[ZgD,decide_eq_false (by omega)]
 rw[hf]at n1 n4 n5
 refine wkT ?_
 refine Zb3 (und Tryz.underlying5) (und Tryz.underlying3) rfl ?_
 rw[ZbO (show InR m from ⟨by omega,by omega⟩)]
 refine wkT ?_
 refine Wbr rfl rfl (by omega) ?_
 obtain⟨i,hi,ei⟩:=tmod_nat (n:=T.pts.length) hm.1 (by omega)
 rw[ei]
 have hib:i<b.pts.length:=by omega
 have hhas:(gapsOfL b M K)[i]'(by omega)∈gapL T i:=by
  refine Wbt.2 ⟨Zgk M K,hbt,?_⟩
  rw[hgT,hgi i hib,el_eq (by omega)]
 have gl:=gapL_le vT i
 have wl:=whenL_le vT
 have sl:=WbQ vT
 refine wkT ?_
 refine Zab (vs:=[.agg #[vi T.op,vi T.sl,.slice Tp T.pts.length tp,.slice Tc T.cks.length tc],.slice A1 b.pts.length c1,ZbG K]) rfl (Gaps_ok hT s3 hg3 (by omega) (by omega) (by omega)) ?_
 rintro v H4 ⟨i4,w4,rfl,s4⟩
 rw[y3]at s4
 rw[y1]
 refine wkT ?_
 refine Zab (vs:=[.agg #[vi T.op,vi T.sl,.slice Tp T.pts.length tp,.slice Tc T.cks.length tc],.slice A1 b.pts.length c1,ZbG K]) rfl (Wcb (hT.inc i4) (s3.inc i4) (CellsAt.inc hg3 i4) (by omega) (by omega) (by omega)) ?_
 rintro v H5 ⟨j5,rfl⟩
 rw[y5]
 have i5:=i4.trans j5
 refine wkT ?_
 refine Zab (vs:=[.agg #[vi T.op,vi T.sl,.slice Tp T.pts.length tp,.slice Tc T.cks.length tc]]) rfl (Boats_v vT (hT.inc i5) (CellsAt.inc hg3 i5)) ?_
 rintro v H6 ⟨j6,rfl⟩
 have i6:=i5.trans j6
 refine wkT ?_
 refine Zab (vs:=[.agg #[vi T.op,vi T.sl,.slice Tp T.pts.length tp,.slice Tc T.cks.length tc]]) rfl (Clash_v vT (hT.inc i6) (CellsAt.inc hg3 i6)) ?_
 rintro v H7 ⟨j7,w7,rfl,s7⟩
 rw[if_pos hz]at s7
 have i7:=i6.trans j7
 refine wkT ?_
 refine Zab (vs:=[.agg #[vi T.op,vi T.sl,.slice Tp T.pts.length tp,.slice Tc T.cks.length tc]]) rfl (Wb9 vT (hT.inc i7) (CellsAt.inc hg3 i7)) ?_
 rintro v H8 ⟨j8,rfl⟩
 have i8:=i7.trans j8
 refine wkT ?_
 refine Zab (vs:=[.agg #[vi T.op,vi T.sl,.slice Tp T.pts.length tp,.slice Tc T.cks.length tc]]) rfl (When_v vT (hT.inc i8) (CellsAt.inc hg3 i8)) ?_
 rintro v H9 ⟨j9,A9,c9,rfl,s9⟩
 have i9:=i8.trans j9
 refine wkT ?_
 refine Zab (vs:=[.agg #[vi T.op,vi T.sl,.slice Tp T.pts.length tp,.slice Tc T.cks.length tc]]) rfl (Slips_v vT (hT.inc i9) (CellsAt.inc hg3 i9)) ?_
 rintro v H10 ⟨j10,A10,c10,rfl,s10⟩
 have i10:=i9.trans j10
 refine wkT ?_
 refine Zab (vs:=[.agg #[vi T.op,vi T.sl,.slice Tp T.pts.length tp,.slice Tc T.cks.length tc],vi i]) rfl (Gap_v hi vT (hT.inc i10) (CellsAt.inc hg3 i10)) ?_
 rintro v H11 ⟨j11,A11,c11,rfl,s11⟩
 have i11:=i10.trans j11
 refine wkT ?_
 refine Zab (vs:=[.agg #[vi T.op,vi T.sl,.slice Tp T.pts.length tp,.slice Tc T.cks.length tc],gv]) rfl (Zm5 (hT.inc i11) (sg3.inc i11) (CellsAt.inc hg3 i11) (by omega) (by omega) (by omega)) ?_
 rintro v H12 ⟨j12,rfl⟩
 rw[ex]
 have i12:=i11.trans j12
 refine wkT ?_
 refine Zab (vs:=[.agg #[vi T.op,vi T.sl,.slice Tp T.pts.length tp,.slice Tc T.cks.length tc]]) rfl (Had_v vT (hT.inc i12) (CellsAt.inc hg3 i12)) ?_
 rintro v H13 ⟨j13,rfl⟩
 have i13:=i12.trans j13
 refine wkT ?_
 refine Zab (vs:=[.agg #[vi T.op,vi T.sl,.slice Tp T.pts.length tp,.slice Tc T.cks.length tc]]) rfl (Surely_v vT (hT.inc i13) (CellsAt.inc hg3 i13)) ?_
 rintro v H14 ⟨j14,rfl⟩
 have i14:=i13.trans j14
 refine wkT ?_
 refine Zab (vs:=[.agg #[vi T.op,vi T.sl,.slice Tp T.pts.length tp,.slice Tc T.cks.length tc]]) rfl (Most_v hPP vT (hT.inc i14) (CellsAt.inc hg3 i14)) ?_
 rintro v H15 ⟨j15,rfl⟩
 have i15:=i14.trans j15
 have hg15:=CellsAt.inc hg3 i15
 have t4:SlAt H15 w4 (gapsOfL b M K):=s4.inc ((((((((((j5.trans j6).trans j7).trans j8).trans j9).trans j10).trans j11).trans j12).trans j13).trans j14) |>.trans j15)
 have t7:=s7.inc (((((((j8.trans j9).trans j10).trans j11).trans j12).trans j13).trans j14).trans j15)
 have t9:=s9.inc (((((j10.trans j11).trans j12).trans j13).trans j14).trans j15)
 have t10:=s10.inc ((((j11.trans j12).trans j13).trans j14).trans j15)
 have t11:=s11.inc (((j12.trans j13).trans j14).trans j15)
 have tg:=sg3.inc i15
 rw[Waf hz]
 refine wbT ?_
 refine Zbn ?_
 refine wbT ?_
 refine ZbZ (ι:=Unit) (fun _ H'=>H15=H') (fun _=>[(15,vi (nB T)),(27,vi 0),(28,vb fx),(30,vi (hadF T)),(32,vi (WaT T)),(33,vb (WbP T)),(36,vi (ZiE T).k)]) (fun _=>[(27,[vi x1,vi x2])]) ?_ ?_
 ·refine wkT ?_
  refine Zab (vs:=[w4,gv]) rfl (WaK t4 tg (by omega)) ?_
  rintro v _ ⟨rfl,rfl⟩
  refine wkT ?_
  refine wiT (fun h3=>?_) (fun h3=>?_)
  ·exact absurd h3 (by omega)
  refine wkT ?_
  refine Zav t7 rfl ?_
  simp only[List.length_nil]
  refine wkT ?_
  refine ZaE tg rfl rfl rfl (i:=i) (by omega) fun a ha=>?_
  refine wkT ?_
  refine Zaf (hs _) rfl ha ?_
  refine wkT ?_
  refine Zab (vs:=[.slice A11 (gapL T i).length c11,vi (gapsOfL b M K)[i]]) rfl (Has_ok t11 (by omega)) ?_
  rintro v _ ⟨rfl,rfl⟩
  rw[decide_eq_true hhas]
  refine wkT ?_
  refine Zab (vs:=[vi (slpF T),vb (!decide (K.by_=0))]) rfl (Wbv _ _) ?_
  rintro v _ ⟨rfl,rfl⟩
  have ef:((!decide (slpF T=1) || !decide (K.by_=0)) && (!decide (slpF T=2) || !!decide (K.by_=0)))=true:=by
   have a1:slpF T=1->(!decide (K.by_=0))=true:=n2.1
   have a2:slpF T=2->(!decide (K.by_=0))=false:=n2.2
   by_cases c1:slpF T=1
   ·rw[a1 c1,decide_eq_true c1,decide_eq_false (by omega)];rfl
   ·by_cases c2:slpF T=2
    ·rw[a2 c2,decide_eq_false c1,decide_eq_true c2];rfl
    ·rw[decide_eq_false c1,decide_eq_false c2];rfl
  rw[ef]
  refine wkT ?_
  refine wiT (fun h4=>?_) (fun h4=>?_)
  ·have hy:K.by_≠0:=h4
   have hkw:K.bf∈whenL T:=(WbL vT).2 ⟨Zgk M K,hbt,hy,rfl⟩
   have hkr:K∈Wab T:=WaU vT hbt hy
   refine wkT ?_
   refine Zab (vs:=[.slice A9 (whenL T).length c9,vi K.bf]) rfl (Has_ok t9 (by omega)) ?_
   rintro v _ ⟨rfl,rfl⟩
   rw[decide_eq_true hkw]
   refine wkT ?_
   refine Zab (vs:=[.slice A10 (Wab T).length c10,ZbG K]) rfl (WbG t10 (by omega)) ?_
   rintro v _ ⟨rfl,x,rfl,hx⟩
   obtain rfl:x=true:=hx.2 hkr
   refine wkT ?_
   exact⟨(),rfl,⟨rfl,rfl,rfl,rfl,rfl,rfl,rfl,trivial⟩,⟨rfl,trivial⟩,rfl⟩
  ·refine wkT ?_
   exact⟨(),rfl,⟨rfl,rfl,rfl,rfl,rfl,rfl,rfl,trivial⟩,⟨rfl,trivial⟩,rfl⟩
 rintro _ _ rfl
 have ef2:((!decide (hadF T=1) || fx) && (!decide (hadF T=2) || !fx))=true:=by
  by_cases c1:hadF T=1
  ·rw[n1.1 c1,decide_eq_true c1,decide_eq_false (by omega)];rfl
  ·by_cases c2:hadF T=2
   ·rw[n1.2 c2,decide_eq_false c1,decide_eq_true c2];rfl
   ·rw[decide_eq_false c1,decide_eq_false c2];rfl
 refine wkT ?_
 refine Zab (vs:=[vi (hadF T),vb fx]) rfl (Wbv _ _) ?_
 rintro v _ ⟨rfl,rfl⟩
 rw[ef2]
 generalize WbP T=su at *
 cases su with
 | true=>
  obtain⟨rfl,k1,k2,k3⟩:=n5 rfl
  obtain⟨e1,e2,_⟩:=hx1 rfl
  rw[k2,k3]
  refine wkT ?_
  refine Zab (vs:=[vi (WaT T),vi x1,vi x2]) rfl (Zm6 _ _ _) ?_
  rintro v _ ⟨rfl,rfl⟩
  rw[decide_eq_true (show x1<=WaT T∧WaT T<=x2 from ⟨by omega,by omega⟩)]
  refine wkT ?_
  refine wiT (fun h5=>?_) (fun h5=>?_)
  ·refine wkT ?_
   refine wiT (fun h6=>?_) (fun h6=>?_)
   ·refine wkT ?_
    refine wiT (fun h7=>?_) (fun h7=>?_)
    ·exact Wbf
    ·exact absurd h7 (by omega)
   ·exact absurd h6 (by omega)
  ·exact absurd rfl h5
 | false=>
  refine wkT ?_
  refine wiT (fun h6=>?_) (fun h6=>?_)
  ·cases fx with
   | true=>
    refine wkT ?_
    refine wiT (fun h7=>?_) (fun h7=>?_)
    ·exact Wbf
    ·exact absurd (n4 rfl) h7
   | false=>
    exact Wbf
  ·exact absurd n3 h6
end
end Go.Proofs
end
