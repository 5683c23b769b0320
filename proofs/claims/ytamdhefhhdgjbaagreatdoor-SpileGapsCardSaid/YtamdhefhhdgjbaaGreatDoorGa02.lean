/- proofs about Leango given: part Ga2; made by a program out of the longer texts in wip -/
import Derived.Test.YtamdhefhhdgjbaaGreatDoorGa01
set_option linter.all false
section
open Go Go.LL Go.Conc Go.ConcM
namespace Go.Proofs.YtamdhefhhdgjbaaGreatDoor
theorem Wap:Tryz.pinned.checked.prog.funcNamed Rows.spileGapsRow.func=some 15:=by kernel_rfl
theorem Wao:joinedFacts Tryz.pinned.checked.prog 15 Tryz.f15 Rows.spileGapsSpec Rows.spileGapsRow=true:=by kernel_rfl
theorem Wan:Tryz.f15.isInstance Tryz.pinned.checked.prog Rows.spileGapsRow.origin Rows.spileGapsRow.targs:=of_decide_eq_true (by kernel_rfl)
theorem Wam:Tryz.f15.isWrapper Tryz.pinned.checked.prog Rows.spileGapsRow.wrapper Rows.spileGapsRow.mainSum:=by unfold Func.isWrapper;first | (rw[if_pos (by decide +kernel)];kernel_rfl) | (rw[if_neg (by decide +kernel)];exact⟨rfl,rfl⟩)
end Go.Proofs.YtamdhefhhdgjbaaGreatDoor
end
section
open Go Go.LL
namespace Go.Proofs
end Go.Proofs
end
section
open Go Go.LL
namespace Go.Proofs
section
variable  {P:Prg}[Tz P][Loud P]{H:Hp}
set_option maxHeartbeats 4000000
set_option maxRecDepth 20000
end
end Go.Proofs
end
section
open Go Go.LL
namespace Go.Proofs
theorem Wav:∀ (l:List Int) (f:Int),(Zbq gtB f l=f∨Zbq gtB f l∈l)∧f<=Zbq gtB f l∧∀ x∈l,x<=Zbq gtB f l
 | [],f=>⟨.inl rfl,Int.le_refl _,by simp⟩
 | x :: l,f=>by
  have e:Zbq gtB f (x :: l)=Zbq gtB (if gtB x f then x else f) l:=rfl
  rw[e]
  by_cases hx:gtB x f=true
  ·rw[if_pos hx]
   obtain⟨h1,h2,h3⟩:=Wav l x
   have hx':f<x:=of_decide_eq_true hx
   refine⟨.inr (List.mem_cons.2 h1),by omega,fun y hy=>?_⟩
   rcases List.mem_cons.1 hy with rfl | hy
   ·exact h2
   ·exact h3 y hy
  ·rw[if_neg hx]
   obtain⟨h1,h2,h3⟩:=Wav l f
   have hx':¬ f<x:=fun h=>hx (decide_eq_true h)
   refine⟨h1.imp id (List.mem_cons_of_mem _),h2,fun y hy=>?_⟩
   rcases List.mem_cons.1 hy with rfl | hy
   ·omega
   ·exact h3 y hy
theorem Wau:∀ (l:List Int) (f:Int),(Zbq ltB f l=f∨Zbq ltB f l∈l)∧Zbq ltB f l<=f∧∀ x∈l,Zbq ltB f l<=x
 | [],f=>⟨.inl rfl,Int.le_refl _,by simp⟩
 | x :: l,f=>by
  have e:Zbq ltB f (x :: l)=Zbq ltB (if ltB x f then x else f) l:=rfl
  rw[e]
  by_cases hx:ltB x f=true
  ·rw[if_pos hx]
   obtain⟨h1,h2,h3⟩:=Wau l x
   have hx':x<f:=of_decide_eq_true hx
   refine⟨.inr (List.mem_cons.2 h1),by omega,fun y hy=>?_⟩
   rcases List.mem_cons.1 hy with rfl | hy
   ·exact h2
   ·exact h3 y hy
  ·rw[if_neg hx]
   obtain⟨h1,h2,h3⟩:=Wau l f
   have hx':¬ x<f:=fun h=>hx (decide_eq_true h)
   refine⟨h1.imp id (List.mem_cons_of_mem _),h2,fun y hy=>?_⟩
   rcases List.mem_cons.1 hy with rfl | hy
   ·omega
   ·exact h3 y hy
theorem max_of {L:List Int}(h:L≠[]):Zbq gtB (L.getD 0 0) (L.drop 1)∈L∧∀ x∈L,x<=Zbq gtB (L.getD 0 0) (L.drop 1):=by
 cases L with
 | nil=>exact absurd rfl h
 | cons a l=>
  obtain⟨h1,h2,h3⟩:=Wav l a
  refine⟨List.mem_cons.2 h1,fun y hy=>?_⟩
  rcases List.mem_cons.1 hy with rfl | hy
  ·exact h2
  ·exact h3 y hy
theorem min_of {L:List Int}(h:L≠[]):Zbq ltB (L.getD 0 0) (L.drop 1)∈L∧∀ x∈L,Zbq ltB (L.getD 0 0) (L.drop 1)<=x:=by
 cases L with
 | nil=>exact absurd rfl h
 | cons a l=>
  obtain⟨h1,h2,h3⟩:=Wau l a
  refine⟨List.mem_cons.2 h1,fun y hy=>?_⟩
  rcases List.mem_cons.1 hy with rfl | hy
  ·exact h2
  ·exact h3 y hy
theorem WaO {b:Bk}(g:N4)(h:1<=b.pts.length):(∀ i,i<b.pts.length->(ptAt b i).bl-g.get i<=lowF b g)∧∃ i,i<b.pts.length∧lowF b g=(ptAt b i).bl-g.get i:=by
 have hne:ZgC b g≠[]:=by
  intro e
  have:(ZgC b g).length=b.pts.length:=by simp[ZgC]
  rw[e]at this;simp at this;omega
 obtain⟨h1,h2⟩:=max_of hne
 refine⟨fun i hi=>h2 _ (List.mem_map.2 ⟨i,List.mem_range.2 hi,rfl⟩),?_⟩
 obtain⟨i,hi,e⟩:=List.mem_map.1 h1
 exact⟨i,List.mem_range.1 hi,e.symm⟩
theorem WaB {b:Bk}(g:N4)(h:1<=b.pts.length):(∀ i,i<b.pts.length->Zfc b g<=(ptAt b i).bh-(ptAt b i).w-g.get i)∧∃ i,i<b.pts.length∧Zfc b g=(ptAt b i).bh-(ptAt b i).w-g.get i:=by
 have hne:ZdK b g≠[]:=by
  intro e
  have:(ZdK b g).length=b.pts.length:=by simp[ZdK]
  rw[e]at this;simp at this;omega
 obtain⟨h1,h2⟩:=min_of hne
 refine⟨fun i hi=>h2 _ (List.mem_map.2 ⟨i,List.mem_range.2 hi,rfl⟩),?_⟩
 obtain⟨i,hi,e⟩:=List.mem_map.1 h1
 exact⟨i,List.mem_range.1 hi,e.symm⟩
end Go.Proofs
end
section
open Go Go.LL
namespace Go.Proofs
end Go.Proofs
end
section
open Go Go.LL
namespace Go.Proofs
end Go.Proofs
end
section
open Go Go.LL
namespace Go.Proofs
structure Wider (b o:Bk):Prop where
 op:o.op=b.op
 sl:o.sl=b.sl
 cks:o.cks=b.cks
 n:o.pts.length=b.pts.length
 ml:∀ i,i<b.pts.length->(ptAt o i).ml=(ptAt b i).ml∧(ptAt o i).mh=(ptAt b i).mh
 w:∀ i,i<b.pts.length->(ptAt o i).w=(ptAt b i).w
 b:∀ i,i<b.pts.length->(ptAt o i).bl<=(ptAt b i).bl∧(ptAt b i).bh<=(ptAt o i).bh
end Go.Proofs
end
section
open Go Go.LL
namespace Go.Proofs
structure Learn (b o:Bk):Prop where
 op:o.op=b.op
 n:o.pts.length=b.pts.length
 bd:∀ i,i<b.pts.length->(ptAt o i).bl=(ptAt b i).bl∧(ptAt o i).bh=(ptAt b i).bh∧(ptAt o i).w=(ptAt b i).w
 sub:∀ x∈Zae o,x∈Zae b
theorem Learn.pos {b o:Bk}(h:Learn b o)(h0:0<(Zae o).length):0<(Zae b).length:=by
 obtain⟨x,hx⟩:=List.exists_mem_of_length_pos h0
 exact List.length_pos_of_mem (h.sub x hx)
end Go.Proofs
end
section
open Go Go.LL
namespace Go.Proofs
end Go.Proofs
end
section
open Go Go.LL
namespace Go.Proofs
end Go.Proofs
end
section
open Go Go.LL
namespace Go.Proofs
theorem el_eq {l:List Int}{i:Nat}(h:i<l.length):l.getD i 0=l[i]:=Zbd h _
theorem take_all {α:Type}{p:α->Prop}{l:List α}{j:Nat}(hj:j<l.length)(h:∀ x∈l.take j,p x)(h2:p l[j]):∀ x∈l.take (j+1),p x:=by
 intro x hx
 rw[List.take_succ_eq_append_getElem hj]at hx
 rcases List.mem_append.1 hx with hx | hx
 ·exact h x hx
 ·rw[List.mem_singleton.1 hx];exact h2
section
variable  {P:Prg}[Tz P][Loud P]{H:Hp}
set_option maxHeartbeats 4000000
set_option maxRecDepth 20000
theorem Meet_ok (a b c d:Int):LL.Zag P 67 #[.agg #[vi a,vi b],.agg #[vi c,vi d]] H fun v H'=>H=H'∧v=.agg #[vi (max a c),vi (min b d)]:=by
 have hs:∀ g,P.still g=false:=Loud.loud
 refine IsN.m (isn c67) (args:=[.agg #[vi a,vi b],.agg #[vi c,vi d]]) rfl ?_
 unfold n67
 refine wkT ?_
 refine om_max rfl rfl ?_
 refine wkT ?_
 refine om_min rfl rfl ?_
 refine wkT ?_
 exact⟨rfl,rfl⟩
end
end Go.Proofs
end
section
open Go Go.LL
namespace Go.Proofs
section
variable  {P:Prg}[Tz P][Loud P]{H:Hp}{bv:Value}{b:Bk}
end
end Go.Proofs
end
section
open Go Go.LL
namespace Go.Proofs
section
variable  {P:Prg}[Tz P][Loud P]{H:Hp}
set_option maxHeartbeats 16000000
set_option maxRecDepth 40000
end
end Go.Proofs
end
section
open Go Go.LL
namespace Go.Proofs
theorem pt_rg {b:Bk}(v:Zeo b){i:Nat}(hi:i<b.pts.length):(0<=(ptAt b i).ml∧(ptAt b i).ml<=(ptAt b i).mh∧(ptAt b i).mh<=99)∧(ptAt b i).mh-(ptAt b i).ml<3∧(0<=(ptAt b i).bl∧(ptAt b i).bl<=(ptAt b i).bh∧(ptAt b i).bh<=199)∧(0<=(ptAt b i).w∧(ptAt b i).w<=199):=by
 have:=v.pts i hi
 rwa [show b.pts[i]=ptAt b i from (Zbd hi _).symm]at this
section
variable  {P:Prg}[Tz P][Loud P]{H:Hp}
set_option maxHeartbeats 8000000
set_option maxRecDepth 20000
end
end Go.Proofs
end
section
open Go Go.LL
namespace Go.Proofs
section
variable  {P:Prg}[Tz P][Loud P]{H:Hp}
set_option maxHeartbeats 8000000
set_option maxRecDepth 20000
end
end Go.Proofs
end
section
open Go Go.LL
namespace Go.Proofs
structure BrN (p q n m i few many all:Int)(su st:Bool):Prop where
 p3:p=0∨p=1∨p=2
 a1:p=1->q=1
 a2:p≠2->q≠2
 a3:su=true->st=true∧m<=n
 a4:few<=many
 a5:many<=all
 a6:su=true->few=all∧i=n∧p=1
 a7:su=false->few<all
 a8:few=0↔p=2
section
variable  {P:Prg}[Tz P][Loud P]{H:Hp}
set_option maxHeartbeats 16000000
set_option maxRecDepth 40000
end
end Go.Proofs
end
section
open Go Go.LL
namespace Go.Proofs
section
variable  {P:Prg}[Tz P][Loud P]{H:Hp}
set_option maxHeartbeats 16000000
set_option maxRecDepth 40000
end
end Go.Proofs
end
section
open Go Go.LL
namespace Go.Proofs
section
variable  {P:Prg}[Tz P][Loud P]{H:Hp}
set_option maxHeartbeats 16000000
set_option maxRecDepth 40000
end
end Go.Proofs
end
section
open Go Go.LL
namespace Go.Proofs
section
variable  {P:Prg}[Tz P][Loud P]{H:Hp}
set_option maxHeartbeats 16000000
set_option maxRecDepth 40000
end
end Go.Proofs
end
section
open Go Go.LL
namespace Go.Proofs
section
variable  {P:Prg}[Tz P][Loud P]{H:Hp}
set_option maxHeartbeats 16000000
set_option maxRecDepth 40000
end
end Go.Proofs
end
section
open Go Go.LL
namespace Go.Proofs
section
variable  {P:Prg}[Tz P][Loud P]{H:Hp}
set_option maxHeartbeats 8000000
set_option maxRecDepth 20000
end
end Go.Proofs
end
section
open Go Go.LL
namespace Go.Proofs
section
variable  {P:Prg}[Tz P][Loud P]{H:Hp}
set_option maxHeartbeats 16000000
set_option maxRecDepth 40000
end
end Go.Proofs
end
section
open Go Go.LL
namespace Go.Proofs
def sloF (b:Bk)(l:List Int):Nat->Int
 | 0=>-999
 | j+1=>max (sloF b l j) ((ptAt b j).bl-l.getD j 0)
def shiF (b:Bk)(l:List Int):Nat->Int
 | 0=>999
 | j+1=>min (shiF b l j) ((ptAt b j).bh-(ptAt b j).w-l.getD j 0)
theorem Way (b:Bk)(l:List Int):∀ j,(∀ i,i<j->(ptAt b i).bl-l.getD i 0<=sloF b l j)∧-999<=sloF b l j∧(sloF b l j=-999∨∃ i,i<j∧sloF b l j=(ptAt b i).bl-l.getD i 0)
 | 0=>⟨fun i h=>by omega,Int.le_refl _,.inl rfl⟩
 | j+1=>by
  obtain⟨h1,h2,h3⟩:=Way b l j
  have e:sloF b l (j+1)=max (sloF b l j) ((ptAt b j).bl-l.getD j 0):=rfl
  refine⟨fun i hi=>?_,by omega,?_⟩
  ·by_cases h:i<j
   ·have:=h1 i h;omega
   ·obtain rfl:i=j:=by omega
    omega
  ·by_cases h:sloF b l j<=(ptAt b j).bl-l.getD j 0
   ·exact .inr ⟨j,by omega,by omega⟩
   ·rcases h3 with h3 | ⟨i,hi,h3⟩
    ·exact .inl (by omega)
    ·exact .inr ⟨i,by omega,by omega⟩
theorem Waz (b:Bk)(l:List Int):∀ j,(∀ i,i<j->shiF b l j<=(ptAt b i).bh-(ptAt b i).w-l.getD i 0)∧shiF b l j<=999∧(shiF b l j=999∨∃ i,i<j∧shiF b l j=(ptAt b i).bh-(ptAt b i).w-l.getD i 0)
 | 0=>⟨fun i h=>by omega,Int.le_refl _,.inl rfl⟩
 | j+1=>by
  obtain⟨h1,h2,h3⟩:=Waz b l j
  have e:shiF b l (j+1)=min (shiF b l j) ((ptAt b j).bh-(ptAt b j).w-l.getD j 0):=rfl
  refine⟨fun i hi=>?_,by omega,?_⟩
  ·by_cases h:i<j
   ·have:=h1 i h;omega
   ·obtain rfl:i=j:=by omega
    omega
  ·by_cases h:(ptAt b j).bh-(ptAt b j).w-l.getD j 0<=shiF b l j
   ·exact .inr ⟨j,by omega,by omega⟩
   ·rcases h3 with h3 | ⟨i,hi,h3⟩
    ·exact .inl (by omega)
    ·exact .inr ⟨i,by omega,by omega⟩
theorem slo_low {b:Bk}{l:List Int}(v:Zeo b)(hl:l.length=b.pts.length)(hr:∀ z∈l,-199<=z∧z<=199):sloF b l b.pts.length=lowF b (n4of l)∧shiF b l b.pts.length=Zfc b (n4of l):=by
 have hn:=v.n
 have hg:∀ i,i<b.pts.length->(n4of l).get i=l.getD i 0∧-199<=l.getD i 0∧l.getD i 0<=199:=fun i hi=>by
  have:=hr _ (List.getElem_mem (show i<l.length by omega))
  rw[Wae (by omega),el_eq (by omega)]
  exact⟨rfl,this⟩
 obtain⟨a1,a2,a3⟩:=Way b l b.pts.length
 obtain⟨c1,c2,c3⟩:=Waz b l b.pts.length
 obtain⟨l1,i,hi,l2⟩:=WaO (b:=b) (n4of l) (by omega)
 obtain⟨h1,j,hj,h2⟩:=WaB (b:=b) (n4of l) (by omega)
 have p0:=pt_rg v (i:=0) (by omega)
 have g0:=hg 0 (by omega)
 have gi:=hg i hi
 have gj:=hg j hj
 have x1:=a1 i hi
 have x2:=c1 j hj
 have x3:=a1 0 (by omega)
 have x4:=c1 0 (by omega)
 constructor
 ·rcases a3 with a3 | ⟨t,ht,a3⟩
  ·omega
  ·have:=l1 t ht
   have:=hg t ht
   omega
 ·rcases c3 with c3 | ⟨t,ht,c3⟩
  ·omega
  ·have:=h1 t ht
   have:=hg t ht
   omega
section
variable  {P:Prg}[Tz P][Loud P]{H:Hp}
set_option maxHeartbeats 8000000
set_option maxRecDepth 20000
theorem Wax {bv lv:Value}{b:Bk}{l:List Int}(val:Zeo b)(hb:BkAt H bv b)(hlv:SlAt H lv l)(hl:l.length=b.pts.length)(hr:∀ z∈l,-199<=z∧z<=199):LL.Zag P 104 #[bv,lv] H fun v H'=>H=H'∧v=.agg #[vi (lowF b (n4of l)),vi (Zfc b (n4of l))]:=by
 have hs:∀ g,P.still g=false:=Loud.loud
 have hn:=val.n
 obtain⟨h9,h10⟩:=slo_low val hl hr
 obtain⟨pv,cv,rfl,hp,hc⟩:=hb
 obtain⟨Ap,cp,rfl,hp'⟩:=id hp
 refine IsN.m (isn c104) (args:=[.agg #[vi b.op,vi b.sl,.slice Ap b.pts.length cp,cv],lv]) rfl ?_
 unfold n104
 refine wkT ?_
 refine ZaX l.length (fun j H'=>H=H') (fun j=>[(1,lv),(2,vi 0),(4,vi 0),(5,vi 0),(6,vi j)]) (fun j=>[(2,[vi b.op,vi b.sl,.slice Ap b.pts.length cp,cv]),(4,[vi 0,vi 0]),(5,[vi (sloF b l j),vi (shiF b l j)])]) rfl ⟨rfl,rfl,rfl,rfl,rfl,trivial⟩ ⟨rfl,rfl,rfl,trivial⟩ ?_
 rintro j _ hj rfl
 refine wkT ?_
 refine Zav hlv rfl ?_
 refine wkT ?_
 refine wiT (fun h1=>?_) (fun h1=>?_)
 ·have hj':j<l.length:=by omega
  have hjp:j<b.pts.length:=by omega
  have row:Enc.enc b.pts[j]=[vi (ptAt b j).ml,vi (ptAt b j).mh,vi (ptAt b j).bl,vi (ptAt b j).bh,vi (ptAt b j).w]:=by
   rw[show b.pts[j]=ptAt b j from (Zbd hjp _).symm];rfl
  have p0:=pt_rg val hjp
  have hz:=hr _ (List.getElem_mem hj')
  have el:=(el_eq hj').symm
  rw[el]at hz
  refine wkT ?_
  refine ZaE hp rfl rfl rfl (i:=j) hjp fun a ha=>?_
  rw[row]at ha
  refine wkT ?_
  refine Zao (hs _) rfl ha rfl ?_
  refine wkT ?_
  refine ZaE hlv rfl rfl rfl (i:=j) hj' fun a2 ha2=>?_
  rw[el]at ha2
  refine wkT ?_
  refine Zaf (hs _) rfl ha2 ?_
  refine wkT ?_
  refine ZaE hlv rfl rfl rfl (i:=j) hj' fun a3 ha3=>?_
  rw[el]at ha3
  refine wkT ?_
  refine Zaf (hs _) rfl ha3 ?_
  refine wkT ?_
  refine Zab (vs:=[.agg #[vi (sloF b l j),vi (shiF b l j)],.agg #[vi ((ptAt b j).bl-l.getD j 0),vi ((ptAt b j).bh-(ptAt b j).w-l.getD j 0)]]) rfl (Meet_ok _ _ _ _) ?_
  rintro v _ ⟨rfl,rfl⟩
  refine wkT ?_
  exact WaA (I:=fun j H'=>H=H') (env:=fun j=>[(1,lv),(2,vi 0),(4,vi 0),(5,vi 0),(6,vi j)]) (box:=fun j=>[(2,[vi b.op,vi b.sl,.slice Ap b.pts.length cp,cv]),(4,[vi 0,vi 0]),(5,[vi (sloF b l j),vi (shiF b l j)])]) hj' rfl ⟨rfl,rfl,rfl,rfl,rfl,trivial⟩ ⟨rfl,rfl,rfl,trivial⟩ rfl
 have:j=l.length:=by omega
 subst this
 rw[hl,h9,h10]
 refine wkT ?_
 exact⟨rfl,rfl⟩
end
end Go.Proofs
end
section
open Go Go.LL
namespace Go.Proofs
section
variable  {P:Prg}[Tz P][Loud P]{H:Hp}
set_option maxHeartbeats 8000000
set_option maxRecDepth 20000
end
end Go.Proofs
end
section
open Go Go.LL
namespace Go.Proofs
theorem WaN {G:Prop} (h:G:=by
  obtain⟨q1,q2⟩:=Prod.mk.inj hrs
  refine wkT ?_
  exact⟨⟨j+1,by omega⟩,Nat.sub_lt_sub_left (by omega) (Nat.lt_succ_self j),rfl,⟨rfl,by rw[<-q1];rfl,by rw[<-q2];rfl,rfl,trivial⟩,⟨rfl,trivial⟩,rfl⟩):G:=h
theorem one_go {b:Bk}{l:List Int}{lo hi:Int}(h:l.length=b.pts.length):Zbw b l lo hi=if l.all (fun n=>decide (lo<=n∧n<=hi)) then 0 else 1:=by rw[Zbw,if_neg (by omega)]
theorem WaR {b:Bk}(v:Zeo b)(x:Boat):n4Eq (Wab b x b.pts.length) x.m=decide (∀ i,i<b.pts.length->(ptAt b i).ml<=x.m.get i∧x.m.get i<=(ptAt b i).mh):=by
 have hn:=v.n
 rw[Bool.eq_iff_iff,Zfu,decide_eq_true_eq]
 constructor
 ·intro e i hi
  have h1:(Wab b x b.pts.length).get i=x.m.get i:=by rw[e]
  rw[Wab,N4.of_get _ (by omega),if_pos hi]at h1
  have:=pt_rg v hi
  omega
 ·intro h
  refine N4.ext' fun i hi=>?_
  rw[Wab,N4.of_get _ hi]
  by_cases hj:i<b.pts.length
  ·rw[if_pos hj]
   have:=h i hj
   omega
  ·rw[if_neg hj]
def Waf (b:Bk)(l:List Int):Bool:=decide (∀ i,i<b.pts.length->(ptAt b i).ml<=l.getD i 0∧l.getD i 0<=(ptAt b i).mh)
theorem WaP {b:Bk}(v:Zeo b){l:List Int}(hl:l.length=b.pts.length)(k:Slip):Wag b (Zgk l k)=(Waf b l && Wak b (Waa b l k)):=by
 have hn:=v.n
 rw[Wag,WaR v,WaQ v hl k,right_eq v]
 congr 1
 rw[Waf]
 refine decide_eq_decide.2 ⟨fun h i hi=>?_,fun h i hi=>?_⟩
 ·have:=h i hi
  rwa [show (Zgk l k).m=n4of l from rfl,Wae (by omega)]at this
 ·rw[show (Zgk l k).m=n4of l from rfl,Wae (by omega)]
  exact h i hi
def Wai (b:Bk):Nat->Int
 | 0=>999
 | j+1=>ZfF b (roomB b (j+1))
theorem WaL {b:Bk}{j:Nat}(hw:ZfF b j<999):(if ZfF b j<Wai b j then ((j:Int),ZfF b j) else ((roomB b j:Int),Wai b j))=((roomB b (j+1):Int),Wai b (j+1)):=by
 match j with
 | 0=>
  rw[if_pos (by exact hw)]
  have:roomB b 1=0:=by rw[roomB];split<;>rfl
  rw[Wai,this]
 | i+1=>
  have e:roomB b (i+1+1)=if ZfF b (i+1)<ZfF b (roomB b (i+1)) then i+1 else roomB b (i+1):=rfl
  rw[Wai,Wai,e]
  by_cases h:ZfF b (i+1)<ZfF b (roomB b (i+1))
  ·rw[if_pos h,if_pos h]
  ·rw[if_neg h,if_neg h]
section
variable  {P:Prg}[Tz P][Loud P]{H:Hp}
set_option maxHeartbeats 8000000
set_option maxRecDepth 20000
theorem Waj (lo hi:Int){bv lv:Value}{b:Bk}{l:List Int}(hb:BkAt H bv b)(hlv:SlAt H lv l)(hl3:l.length<=1000000) :
  LL.Zag P 143 #[bv,lv,vi lo,vi hi] H fun v H'=>H=H'∧v=vi (Zbw b l lo hi):=by
 have hs:∀ g,P.still g=false:=Loud.loud
 obtain⟨pv,cv,rfl,hp,hc⟩:=hb
 refine IsN.m (isn c143) (args:=[.agg #[vi b.op,vi b.sl,pv,cv],lv,vi lo,vi hi]) rfl ?_
 unfold n143
 refine wkT ?_
 refine Zav hlv rfl ?_
 refine wkT ?_
 refine Zav hp rfl ?_
 refine wkT ?_
 refine wiT (fun h1=>?_) (fun h1=>?_)
 ·refine wkT ?_
  exact⟨rfl,by rw[Zbw,if_pos (by omega)];rfl⟩
 have hll:l.length=b.pts.length:=by omega
 rw[one_go hll]
 refine wkT ?_
 refine ZaX l.length (fun j H'=>H=H'∧(l.take j).all (fun n=>decide (lo<=n∧n<=hi))=true) (fun j=>[(1,lv),(2,vi lo),(3,vi hi),(9,vi j)]) (fun _=>[]) ⟨rfl,by simp⟩ ⟨rfl,rfl,rfl,rfl,trivial⟩ trivial ?_
 rintro j _ hj ⟨rfl,hall⟩
 refine wkT ?_
 refine Zav hlv rfl ?_
 refine wkT ?_
 refine wiT (fun h2=>?_) (fun h2=>?_)
 ·have hj':j<l.length:=by omega
  refine wkT ?_
  refine ZaE hlv rfl rfl rfl (i:=j) hj' fun a ha=>?_
  refine wkT ?_
  refine Zaf (hs _) rfl ha ?_
  refine wkT ?_
  refine Zab (vs:=[vi l[j],vi lo,vi hi]) rfl (Zm6 _ _ _) ?_
  rintro v _ ⟨rfl,rfl⟩
  refine wkT ?_
  refine wiT (fun h3=>?_) (fun h3=>?_)
  ·refine wkT ?_
   exact⟨rfl,by rw[all_no hj' (by simpa using h3)];rfl⟩
  ·refine wkT ?_
   exact⟨⟨j+1,by omega⟩,Nat.sub_lt_sub_left (by omega) (Nat.lt_succ_self j),⟨rfl,by rw[ZkE hj',hall];simpa using h3⟩,⟨rfl,rfl,rfl,rfl,trivial⟩,trivial,rfl⟩
 ·have:j=l.length:=by omega
  subst this
  rw[List.take_length]at hall
  refine wkT ?_
  exact⟨rfl,by rw[hall];rfl⟩
theorem Waw {bv:Value}{b:Bk}{k:Slip}(val:Zeo b)(hb:BkAt H bv b) :
  LL.Zag P 175 #[bv,ZbG k] H fun v H'=>Inc H H'∧v=vi (if k∈ZaC b then 0 else 6):=by
 have hs:∀ g,P.still g=false:=Loud.loud
 have hn:=val.n
 have hb0:=hb
 obtain⟨pv,cv,rfl,hp,hc⟩:=hb
 refine IsN.m (isn c175) (args:=[.agg #[vi b.op,vi b.sl,pv,cv],.agg #[vi k.bf,vi k.by_]]) rfl ?_
 unfold n175
 refine wkT ?_
 refine Zat (cs:=[vi 0,vi 0]) (hs _) rfl fun r2 hr2=>?_
 have o2:Own H (H.ins r2 (.cells (encs [(⟨0,0⟩:Slip)]).toArray 70)) 70 (.slice (some ⟨r2,0,none⟩) 1 1) [(⟨0,0⟩:Slip)] (some r2):=own_new hr2
 have i2:Inc H (H.ins r2 (.cells (encs [(⟨0,0⟩:Slip)]).toArray 70)):=Zaj hr2
 show MOps P _ _ _ (H.ins r2 (.cells (encs [(⟨0,0⟩:Slip)]).toArray 70))
 generalize H.ins r2 (.cells (encs [(⟨0,0⟩:Slip)]).toArray 70)=H2 at *
 refine wkT ?_
 refine Zab (vs:=[.agg #[vi b.op,vi b.sl,pv,cv]]) rfl (WaD (hb0.inc i2) val.sl.1 (by have:=val.sl;omega) (by omega) (by omega)) ?_
 rintro sv H3 ⟨i3,bb3,o3⟩
 have hsl:=ZfM val
 refine wkT ?_
 refine ZbW (l':=(ZaC b).drop 1) (und t38e) (und t38e) (tif t70) rfl (by decide) (i2.trans i3) (o2.inc i3) o3.sl (WaH _) (by simp;omega) (by omega) rfl rfl (hs _) fun v5 H4 b5 i4 o5 _=>?_
 have hsc:[(⟨0,0⟩:Slip)]++(ZaC b).drop 1=ZaC b:=rfl
 rw[hsc]at o5
 have s5:=o5.sl
 generalize ZaC b=L at *
 refine wkT ?_
 refine ZaX L.length (fun j H'=>H4=H'∧∀ x∈L.take j,x≠k) (fun j=>[(3,vi 0),(5,v5),(6,vi j)]) (fun _=>[(3,[vi k.bf,vi k.by_])]) ⟨rfl,by simp⟩ ⟨rfl,rfl,rfl,trivial⟩ ⟨rfl,trivial⟩ ?_
 rintro j _ hj ⟨rfl,hI⟩
 refine wkT ?_
 refine Zav s5 rfl ?_
 refine wkT ?_
 refine wiT (fun h1=>?_) (fun h1=>?_)
 ·have hj':j<L.length:=by omega
  refine wkT ?_
  refine ZaE s5 rfl rfl rfl (i:=j) hj' fun a ha=>?_
  refine wkT ?_
  refine Zao (hs _) rfl ha rfl ?_
  refine wkT ?_
  refine om_eqS (b:=decide (L[j].bf=k.bf∧L[j].by_=k.by_)) (xs:=#[vi L[j].bf,vi L[j].by_]) (ys:=#[vi k.bf,vi k.by_]) g70 (fun Q g H hq=>eqP (.inl s70) Q hq) rfl rfl ?_
  refine wkT ?_
  have hk:L[j]=k↔L[j].bf=k.bf∧L[j].by_=k.by_:=by
   cases L[j];cases k;simp
  refine wiT (fun h2=>?_) (fun h2=>?_)
  ·refine wkT ?_
   exact⟨i4,by rw[if_pos (by rw[<-hk.2 h2];exact List.getElem_mem hj')];rfl⟩
  ·refine wkT ?_
   exact WaA (I:=fun j H'=>H4=H'∧∀ x∈L.take j,x≠k) (env:=fun j=>[(3,vi 0),(5,v5),(6,vi j)]) (box:=fun _=>[(3,[vi k.bf,vi k.by_])]) hj' ⟨rfl,take_all hj' hI fun e=>h2 (hk.1 e)⟩ ⟨rfl,rfl,rfl,trivial⟩ ⟨rfl,trivial⟩ rfl
 ·have:j=L.length:=by omega
  subst this
  rw[List.take_length]at hI
  refine wkT ?_
  exact⟨i4,by rw[if_neg fun h=>hI k h rfl];rfl⟩
theorem Wal {bv lv:Value}{b:Bk}{l:List Int}{k:Slip}(hb:BkAt H bv b)(hlv:SlAt H lv l)(hl:b.pts.length<=1000000)(hl2:b.cks.length<=1000000)(hl3:l.length<=1000000) :
  LL.Zag P 139 #[bv,lv,ZbG k] H fun v H'=>Inc H H'∧v=vi (ZaA b l k):=by
 have hs:∀ g,P.still g=false:=Loud.loud
 have hb0:=hb
 obtain⟨pv,cv,rfl,hp,hc⟩:=hb
 refine IsN.m (isn c139) (args:=[.agg #[vi b.op,vi b.sl,pv,cv],lv,.agg #[vi k.bf,vi k.by_]]) rfl ?_
 unfold n139
 refine wkT ?_
 refine Zab (vs:=[.agg #[vi b.op,vi b.sl,pv,cv]]) rfl (Zic hb0 hl hl2) ?_
 rintro v _ ⟨rfl,rfl⟩
 refine wkT ?_
 refine wiT (fun h1=>?_) (fun h1=>?_)
 ·refine wkT ?_
  exact⟨.refl _,by rw[ZaA,if_pos h1];rfl⟩
 have val:=ZaS h1
 refine wkT ?_
 refine Zab (vs:=[.agg #[vi b.op,vi b.sl,pv,cv],lv,vi 0,vi 99]) rfl (Waj 0 99 hb0 hlv hl3) ?_
 rintro v _ ⟨rfl,rfl⟩
 refine wkT ?_
 refine wiT (fun h2=>?_) (fun h2=>?_)
 ·refine wkT ?_
  exact⟨.refl _,by rw[ZaA,if_neg (by omega),if_pos h2];rfl⟩
 refine wkT ?_
 refine Zab (vs:=[.agg #[vi b.op,vi b.sl,pv,cv],ZbG k]) rfl (Waw val hb0) ?_
 rintro v H1 ⟨i1,rfl⟩
 refine wkT ?_
 have e:ZaA b l k=if k∈ZaC b then 0 else 6:=by rw[ZaA,if_neg (by omega),if_neg (by omega)]
 exact⟨i1,by rw[e];rfl⟩
theorem GapsR_ok {bv lv:Value}{b:Bk}{l:List Int}{k:Slip}(hb:BkAt H bv b)(hlv:SlAt H lv l)(hl:b.pts.length<=1000000)(hl2:b.cks.length<=1000000)(hl3:l.length<=1000000) :
  LL.Zag P 77 #[bv,lv,ZbG k] H fun v H'=>Inc H H'∧∃ w,v=.tuple #[w,vi (ZaA b l k)]∧SlAt H' w (gapsL b l k):=by
 have hs:∀ g,P.still g=false:=Loud.loud
 have hb0:=hb
 obtain⟨pv,cv,rfl,hp,hc⟩:=hb
 refine IsN.m (isn c77) (args:=[.agg #[vi b.op,vi b.sl,pv,cv],lv,.agg #[vi k.bf,vi k.by_]]) rfl ?_
 unfold n77
 refine wkT ?_
 refine Zab (vs:=[.agg #[vi b.op,vi b.sl,pv,cv],lv,ZbG k]) rfl (Wal hb0 hlv hl hl2 hl3) ?_
 rintro v H1 ⟨i1,rfl⟩
 refine wkT ?_
 refine wiT (fun h1=>?_) (fun h1=>?_)
 ·refine wkT ?_
  refine⟨i1,_,rfl,?_⟩
  rw[gapsL,if_neg h1]
  exact .nil _
 ·obtain⟨val,e1,i99,hby⟩:=handed0 h1
  have hop:=val.op
  have h99:=(Zl5 (b:=b) (l:=l) (lo:=0) (hi:=99) (by
   unfold ZaA at h1
   split at h1
   ·contradiction
   ·split at h1
    ·contradiction
    ·rename_i h;exact Classical.byContradiction h)).2
  refine wkT ?_
  refine Zab (vs:=[.agg #[vi b.op,vi b.sl,pv,cv],lv,.agg #[vi k.bf,vi k.by_]]) rfl (Was (k:=k) (hb0.inc i1) (hlv.inc i1) hl3 ⟨by omega,by omega⟩ (fun x hx=>by have:=h99 x hx;exact⟨by omega,by omega⟩) ⟨by omega,by omega⟩) ?_
  rintro v H2 ⟨i2,bb,o2⟩
  refine wkT ?_
  refine⟨i1.trans i2,v,by rw[h1];rfl,?_⟩
  rw[gapsL,if_pos h1]
  have:=WaQ val e1 k
  rw[this]at o2
  exact o2.sl
theorem WaG {bv lv:Value}{b:Bk}{l:List Int}(hb:BkAt H bv b)(hlv:SlAt H lv l)(hll:l.length=b.pts.length)(hl:b.pts.length<=1000000) :
  LL.Zag P 141 #[bv,lv] H fun v H'=>H=H'∧v=vb (Waf b l):=by
 have hs:∀ g,P.still g=false:=Loud.loud
 obtain⟨pv,cv,rfl,hp,hc⟩:=hb
 refine IsN.m (isn c141) (args:=[.agg #[vi b.op,vi b.sl,pv,cv],lv]) rfl ?_
 unfold n141
 refine wkT ?_
 refine ZaX l.length (fun j H'=>H=H'∧∀ i,i<j->(ptAt b i).ml<=l.getD i 0∧l.getD i 0<=(ptAt b i).mh) (fun j=>[(1,lv),(2,vi 0),(5,vi j)]) (fun _=>[(2,[vi b.op,vi b.sl,pv,cv])]) ⟨rfl,fun i hi=>absurd hi (by omega)⟩ ⟨rfl,rfl,rfl,trivial⟩ ⟨rfl,trivial⟩ ?_
 rintro j _ hj ⟨rfl,hI⟩
 refine wkT ?_
 refine Zav hlv rfl ?_
 refine wkT ?_
 refine wiT (fun h1=>?_) (fun h1=>?_)
 ·have hj':j<l.length:=by omega
  have hjp:j<b.pts.length:=by omega
  have row:Enc.enc b.pts[j]=[vi (ptAt b j).ml,vi (ptAt b j).mh,vi (ptAt b j).bl,vi (ptAt b j).bh,vi (ptAt b j).w]:=by
   rw[show b.pts[j]=ptAt b j from (Zbd hjp _).symm];rfl
  have el:=(el_eq hj').symm
  refine wkT ?_
  refine ZaE hlv rfl rfl rfl (i:=j) hj' fun a2 ha2=>?_
  rw[el]at ha2
  refine wkT ?_
  refine Zaf (hs _) rfl ha2 ?_
  refine wkT ?_
  refine ZaE hp rfl rfl rfl (i:=j) hjp fun a ha=>?_
  rw[row]at ha
  refine wkT ?_
  refine Zaf (hs _) rfl (ZbA ha (j:=0) rfl) ?_
  refine wkT ?_
  refine ZaE hp rfl rfl rfl (i:=j) hjp fun a ha=>?_
  rw[row]at ha
  refine wkT ?_
  refine Zaf (hs _) rfl (ZbA ha (j:=1) rfl) ?_
  refine wkT ?_
  refine Zab (vs:=[vi (l.getD j 0),vi (ptAt b j).ml,vi (ptAt b j).mh]) rfl (Zm6 _ _ _) ?_
  rintro v _ ⟨rfl,rfl⟩
  refine wkT ?_
  refine wiT (fun h3=>?_) (fun h3=>?_)
  ·refine wkT ?_
   exact⟨rfl,by rw[Waf,decide_eq_false fun h=>h3 (h j hjp)];rfl⟩
  ·refine wkT ?_
   exact⟨⟨j+1,by omega⟩,Nat.sub_lt_sub_left (by omega) (Nat.lt_succ_self j),⟨rfl,fun i hi=>by
    have hi:i<j+1:=hi
    by_cases e:i=j
    ·subst e;exact h3
    ·exact hI i (by omega)⟩,⟨rfl,rfl,rfl,trivial⟩,⟨rfl,trivial⟩,rfl⟩
 ·have:j=l.length:=by omega
  subst this
  refine wkT ?_
  exact⟨rfl,by rw[Waf,decide_eq_true fun i hi=>hI i (by omega)];rfl⟩
theorem WaE {bv lv:Value}{b:Bk}{l:List Int}(hb:BkAt H bv b)(hlv:SlAt H lv l)(hl:b.pts.length<=1000000)(hl2:b.cks.length<=1000000)(hl3:l.length<=1000000) :
  LL.Zag P 81 #[bv,lv] H fun v H'=>H=H'∧v=Zhw b l:=by
 have hs:∀ g,P.still g=false:=Loud.loud
 have hb0:=hb
 obtain⟨pv,cv,rfl,hp,hc⟩:=hb
 refine IsN.m (isn c81) (args:=[.agg #[vi b.op,vi b.sl,pv,cv],lv]) rfl ?_
 unfold n81
 refine wkT ?_
 refine Zab (vs:=[.agg #[vi b.op,vi b.sl,pv,cv]]) rfl (Zic hb0 hl hl2) ?_
 rintro v _ ⟨rfl,rfl⟩
 refine wkT ?_
 refine wiT (fun h1=>?_) (fun h1=>?_)
 ·refine wkT ?_
  have e:Zb8 b l=snag b:=by rw[Zb8,if_pos h1]
  exact⟨rfl,by rw[Zhw,e,if_pos h1];rfl⟩
 have val:=ZaS h1
 have e:Zb8 b l=Zbw b l (-199) 199:=by rw[Zb8,if_neg (by omega)]
 rw[Zhw,e]
 refine wkT ?_
 refine Zab (vs:=[.agg #[vi b.op,vi b.sl,pv,cv],lv,vi (-199),vi 199]) rfl (Waj (-199) 199 hb0 hlv hl3) ?_
 rintro v _ ⟨rfl,rfl⟩
 refine wkT ?_
 refine wiT (fun h2=>?_) (fun h2=>?_)
 ·refine wkT ?_
  exact⟨rfl,by rw[if_pos h2];rfl⟩
 obtain⟨e1,hin⟩:=Zl5 h2
 rw[if_neg (by omega)]
 refine wkT ?_
 refine Zab (vs:=[.agg #[vi b.op,vi b.sl,pv,cv],lv]) rfl (Wax val hb0 hlv e1 hin) ?_
 rintro v _ ⟨rfl,rfl⟩
 refine wkT ?_
 refine wiT (fun h3=>?_) (fun h3=>?_)
 ·refine wkT ?_
  exact⟨rfl,by rw[if_pos (by exact h3)];rfl⟩
 ·refine wkT ?_
  exact⟨rfl,by rw[if_neg (by exact h3)];rfl⟩
theorem RoomR_ok {bv:Value}{b:Bk}(hb:BkAt H bv b)(hl:b.pts.length<=1000000)(hl2:b.cks.length<=1000000) :
  LL.Zag P 82 #[bv] H fun v H'=>H=H'∧v=roomV b:=by
 have hs:∀ g,P.still g=false:=Loud.loud
 have hb0:=hb
 obtain⟨pv,cv,rfl,hp,hc⟩:=hb
 refine IsN.m (isn c82) (args:=[.agg #[vi b.op,vi b.sl,pv,cv]]) rfl ?_
 unfold n82
 refine wkT ?_
 refine Zab (vs:=[.agg #[vi b.op,vi b.sl,pv,cv]]) rfl (Zic hb0 hl hl2) ?_
 rintro v _ ⟨rfl,rfl⟩
 refine wkT ?_
 refine wiT (fun h1=>?_) (fun h1=>?_)
 ·refine wkT ?_
  exact⟨rfl,by rw[roomV,if_pos h1];rfl⟩
 have val:=ZaS h1
 have hn:=val.n
 refine wkT ?_
 refine ZaX b.pts.length (fun j H'=>H=H') (fun j=>[(1,vi 0),(6,vi (roomB b j)),(7,vi (Wai b j)),(8,vi j)]) (fun _=>[(1,[vi b.op,vi b.sl,pv,cv])]) rfl ⟨rfl,rfl,rfl,rfl,trivial⟩ ⟨rfl,trivial⟩ ?_
 rintro j _ hj rfl
 refine wkT ?_
 refine Zav hp rfl ?_
 refine wkT ?_
 refine wiT (fun h2=>?_) (fun h2=>?_)
 ·have hj':j<b.pts.length:=by omega
  have row:Enc.enc b.pts[j]=[vi (ptAt b j).ml,vi (ptAt b j).mh,vi (ptAt b j).bl,vi (ptAt b j).bh,vi (ptAt b j).w]:=by
   rw[show b.pts[j]=ptAt b j from (Zbd hj' _).symm];rfl
  have p0:=pt_rg val hj'
  have hrs:=WaL (b:=b) (j:=j) (by rw[ZfF];omega)
  refine wkT ?_
  refine ZaE hp rfl rfl rfl (i:=j) hj' fun a ha=>?_
  rw[row]at ha
  refine wkT ?_
  refine Zao (hs _) rfl ha rfl ?_
  refine wkT ?_
  refine wiT (fun h3=>?_) (fun h3=>?_)
  ·have h3:ZfF b j<Wai b j:=h3
   rw[if_pos h3]at hrs
   exact WaN
  ·have h3:¬ ZfF b j<Wai b j:=h3
   rw[if_neg h3]at hrs
   exact WaN
 ·have:j=b.pts.length:=by omega
  subst this
  have hc:Wai b b.pts.length=ZfF b (roomB b b.pts.length):=by
   obtain⟨m,hm⟩:∃ m,b.pts.length=m+1:=⟨b.pts.length-1,by omega⟩
   rw[hm];rfl
  rw[hc]
  refine wkT ?_
  exact⟨rfl,by rw[roomV,if_neg (by omega)];rfl⟩
end
end Go.Proofs
end
section
open Go Go.LL
namespace Go.Proofs
theorem Wat {G:Prop} (h:G:=by
  refine wkT ?_
  refine Zab (vs:=[]) rfl (spiled_okP hPP (CellsAt.inc hg (.refl _))) ?_
  rintro v H9 ⟨_,rfl⟩
  refine wkT ?_
  rfl):G:=h
section
variable  {P:Prg}[Tz P][Loud P]{H:Hp}
set_option maxHeartbeats 8000000
set_option maxRecDepth 40000
theorem WaF {bv lv:Value}{b:Bk}{l:List Int}{k:Slip}(hb:BkAt H bv b)(hlv:SlAt H lv l)(hl:b.pts.length<=1000000)(hl2:b.cks.length<=1000000)(hl3:l.length<=1000000) :
  LL.Zag P 80 #[bv,lv,ZbG k] H fun v H'=>Inc H H'∧v=Wac b l k:=by
 have hs:∀ g,P.still g=false:=Loud.loud
 have hb0:=hb
 obtain⟨pv,cv,rfl,hp,hc⟩:=hb
 refine IsN.m (isn c80) (args:=[.agg #[vi b.op,vi b.sl,pv,cv],lv,.agg #[vi k.bf,vi k.by_]]) rfl ?_
 unfold n80
 refine wkT ?_
 refine Zab (vs:=[.agg #[vi b.op,vi b.sl,pv,cv],lv,ZbG k]) rfl (Wal hb0 hlv hl hl2 hl3) ?_
 rintro v H1 ⟨i1,rfl⟩
 refine wkT ?_
 refine wiT (fun h1=>?_) (fun h1=>?_)
 ·refine wkT ?_
  exact⟨i1,by rw[Wac,if_neg h1];rfl⟩
 obtain⟨val,e1,i99,hby⟩:=handed0 h1
 have hop:=val.op
 have h99:=(Zl5 (b:=b) (l:=l) (lo:=0) (hi:=99) (by
  unfold ZaA at h1
  split at h1
  ·contradiction
  ·split at h1
   ·contradiction
   ·rename_i h;exact Classical.byContradiction h)).2
 rw[Wac,if_pos h1,WaP val e1]
 refine wkT ?_
 refine Zab (vs:=[.agg #[vi b.op,vi b.sl,pv,cv],lv]) rfl (WaG (hb0.inc i1) (hlv.inc i1) e1 hl) ?_
 rintro v _ ⟨rfl,rfl⟩
 refine wkT ?_
 refine wiT (fun h2=>?_) (fun h2=>?_)
 ·refine wkT ?_
  refine Zab (vs:=[.agg #[vi b.op,vi b.sl,pv,cv],lv,.agg #[vi k.bf,vi k.by_]]) rfl (Was (k:=k) (hb0.inc i1) (hlv.inc i1) hl3 ⟨by omega,by omega⟩ (fun x hx=>by have:=h99 x hx;exact⟨by omega,by omega⟩) ⟨by omega,by omega⟩) ?_
  rintro v H2 ⟨i2,bb,o2⟩
  have hlg:(Waa b l k).length=b.pts.length:=by simp[Waa,e1]
  refine kp_l hs ?_
  refine wkT ?_
  refine Zab (vs:=[.agg #[vi b.op,vi b.sl,pv,cv],v]) rfl (WaM (hb0.inc (i1.trans i2)) o2.sl hl2 fun c hc=>by have:=(val.cks c hc).1;rw[hlg];exact this) ?_
  rintro v _ ⟨rfl,rfl⟩
  refine wkT ?_
  have h2:Waf b l=true:=decide_eq_true h2
  exact⟨i1.trans i2,by rw[h2];rfl⟩
 ·refine wkT ?_
  have h2:Waf b l=false:=decide_eq_false h2
  exact⟨i1,by rw[h2];rfl⟩
theorem Waq (hPP:P=PP){bv mv gv:Value}{b:Bk}{k:Slip}{m g:List Int}(hb:BkAt H bv b)(hm:SlAt H mv m)(hgv:SlAt H gv g)(hg:Za8 H):n15.m P (MFin P r15 fun v _=>v=vb true) (env0 [bv,mv,ZbG k,gv]) H:=by
 have hs:∀ g,P.still g=false:=Loud.loud
 have hb0:=hb
 obtain⟨pv,cv,rfl,hp,hc⟩:=hb
 unfold n15
 refine wkT ?_
 refine Zab (vs:=[.agg #[vi b.op,vi b.sl,pv,cv]]) rfl (Great_ok hb0) ?_
 rintro v _ ⟨rfl,rfl⟩
 refine wkT ?_
 refine wiT (fun h0=>?_) (fun h0=>?_)
 ·exact Wat
 refine wkT ?_
 refine Zav hm rfl ?_
 refine wkT ?_
 refine wiT (fun h1=>?_) (fun h1=>?_)
 ·exact Wat
 refine wkT ?_
 refine Zav hgv rfl ?_
 refine wkT ?_
 refine wiT (fun h2=>?_) (fun h2=>?_)
 ·exact Wat
 simp only[Bool.or_eq_false_iff,decide_eq_false_iff_not]at h0
 have hl:b.pts.length<=1000000:=by omega
 have hl2:b.cks.length<=1000000:=by omega
 have hl3:m.length<=1000000:=by omega
 have hl4:g.length<=1000000:=by omega
 refine wkT ?_
 refine Zab (vs:=[.agg #[vi b.op,vi b.sl,pv,cv],mv,ZbG k]) rfl (Gaps_ok hb0 hm hg hl hl2 hl3) ?_
 rintro v H1 ⟨i1,w1,rfl,s1⟩
 refine wkT ?_
 refine Zab (vs:=[.agg #[vi b.op,vi b.sl,pv,cv],mv,ZbG k]) rfl (GapsR_ok (hb0.inc i1) (hm.inc i1) hl hl2 hl3) ?_
 rintro v H2 ⟨j2,w2,rfl,s2⟩
 have i2:=i1.trans j2
 have hgl:(gapsL b m k).length<=1000000:=by
  rw[gapsL];split
  ·rw[List.length_take];omega
  ·simp
 refine wkT ?_
 refine Zab (vs:=[_,_]) rfl (Wah (s1.inc j2) s2 hgl) ?_
 rintro v _ ⟨rfl,rfl⟩
 refine wkT ?_
 refine wiT (fun h3=>?_) (fun h3=>?_)
 ·exact absurd h3 (by simp)
 refine wkT ?_
 refine Zab (vs:=[.agg #[vi b.op,vi b.sl,pv,cv]]) rfl (ZaL (hb0.inc i2) (CellsAt.inc hg i2) hl hl2 (hs _)) ?_
 rintro v _ ⟨rfl,rfl⟩
 refine kp_l hs ?_
 refine wkT ?_
 refine Zab (vs:=[.agg #[vi b.op,vi b.sl,pv,cv]]) rfl (Zic (hb0.inc i2) hl hl2) ?_
 rintro v _ ⟨rfl,rfl⟩
 refine wkT ?_
 refine wiT (fun h3=>?_) (fun h3=>?_)
 ·exact absurd rfl h3
 refine wkT ?_
 refine Zab (vs:=[.agg #[vi b.op,vi b.sl,pv,cv],mv,ZbG k]) rfl (WaS (hb0.inc i2) (hm.inc i2) (CellsAt.inc hg i2) hl hl2 hl3) ?_
 rintro v H3 ⟨j3,rfl⟩
 have i3:=i2.trans j3
 obtain⟨y,z,hy⟩:∃ (y:Bool) (z:Int),Wac b m k=.tuple #[vb y,vi z]:=by
  rw[Wac]
  split
  ·exact⟨_,_,rfl⟩
  ·exact⟨_,_,rfl⟩
 have hy':=hy
 rw[hy]
 refine wkT ?_
 refine Zab (vs:=[.agg #[vi b.op,vi b.sl,pv,cv],mv,ZbG k]) rfl (WaF (hb0.inc i3) (hm.inc i3) hl hl2 hl3) ?_
 rintro v H4 ⟨j4,rfl⟩
 have i4:=i3.trans j4
 rw[hy']
 refine wkT ?_
 refine om_neb rfl rfl ?_
 have hyy:(y != y)=false:=by cases y<;>rfl
 rw[hyy]
 refine wkT ?_
 refine wiT (fun h3=>?_) (fun h3=>?_)
 ·exact absurd rfl h3
 refine wkT ?_
 refine Zab (vs:=[.agg #[vi b.op,vi b.sl,pv,cv],gv]) rfl (Zm5 (hb0.inc i4) (hgv.inc i4) (CellsAt.inc hg i4) hl hl2 hl4) ?_
 rintro v H5 ⟨j5,rfl⟩
 have i5:=i4.trans j5
 obtain⟨xa,xb,y,z,hy⟩:∃ (xa xb:Int) (y:Bool) (z:Int),Zhw b g=.tuple #[.agg #[vi xa,vi xb],vb y,vi z]:=by
  rw[Zhw]
  split
  ·exact⟨_,_,_,_,rfl⟩
  ·split
   ·exact⟨_,_,_,_,rfl⟩
   ·exact⟨_,_,_,_,rfl⟩
 have hy':=hy
 rw[hy]
 refine wkT ?_
 refine Zab (vs:=[.agg #[vi b.op,vi b.sl,pv,cv],gv]) rfl (WaE (hb0.inc i5) (hgv.inc i5) hl hl2 hl4) ?_
 rintro v _ ⟨rfl,rfl⟩
 rw[hy']
 refine wkT ?_
 refine Zl8 (b:=decide (xa=xa∧xb=xb)) (xs:=#[vi xa,vi xb]) (ys:=#[vi xa,vi xb]) g49 (fun Q g H hq=>eqP (.inr s49) Q hq) rfl rfl ?_
 rw[decide_eq_true (show xa=xa∧xb=xb from ⟨rfl,rfl⟩)]
 refine wkT ?_
 refine om_neb rfl rfl ?_
 have hyy:(y != y)=false:=by cases y<;>rfl
 rw[hyy]
 refine wkT ?_
 refine wiT (fun h3=>?_) (fun h3=>?_)
 ·exact absurd rfl h3
 refine wkT ?_
 refine Zab (vs:=[.agg #[vi b.op,vi b.sl,pv,cv]]) rfl (Room_ok (hb0.inc i5) (CellsAt.inc hg i5) hl hl2) ?_
 rintro v H6 ⟨j6,rfl⟩
 have i6:=i5.trans j6
 obtain⟨xa,xb,z,hy⟩:∃ (xa xb z:Int),roomV b=.tuple #[vi xa,vi xb,vi z]:=by
  rw[roomV]
  split
  ·exact⟨_,_,_,rfl⟩
  ·exact⟨_,_,_,rfl⟩
 have hy':=hy
 rw[hy]
 refine wkT ?_
 refine Zab (vs:=[.agg #[vi b.op,vi b.sl,pv,cv]]) rfl (RoomR_ok (hb0.inc i6) hl hl2) ?_
 rintro v _ ⟨rfl,rfl⟩
 rw[hy']
 refine wkT ?_
 refine wiT (fun h3=>?_) (fun h3=>?_)
 ·refine wkT ?_
  refine wiT (fun h4=>?_) (fun h4=>?_)
  ·refine wkT ?_
   refine wiT (fun h5=>?_) (fun h5=>?_)
   ·refine wkT ?_
    refine Zab (vs:=[]) rfl (spiled_okP hPP (CellsAt.inc hg i6)) ?_
    rintro v H11 ⟨_,rfl⟩
    refine wkT ?_
    rfl
   ·exact absurd rfl h5
  ·exact absurd rfl h4
 ·exact absurd rfl h3
end
end Go.Proofs
end
