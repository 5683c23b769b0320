/- proofs about Leango given: part Bd3; made by a program out of the longer texts in wip -/
import Derived.Test.YtamdhefhhdgjbaaGreatDoorBd02
set_option linter.all false
section
open Go Go.LL Go.Conc Go.ConcM
namespace Go.Proofs.YtamdhefhhdgjbaaGreatDoor
theorem WaA:Tryz.pinned.checked.prog.funcNamed Rows.spileBoardsRow.func=some 4:=by kernel_rfl
theorem Waz:joinedFacts Tryz.pinned.checked.prog 4 Tryz.f4 Rows.spileBoardsSpec Rows.spileBoardsRow=true:=by kernel_rfl
theorem Way:Tryz.f4.isInstance Tryz.pinned.checked.prog Rows.spileBoardsRow.origin Rows.spileBoardsRow.targs:=of_decide_eq_true (by kernel_rfl)
theorem Wax:Tryz.f4.isWrapper Tryz.pinned.checked.prog Rows.spileBoardsRow.wrapper Rows.spileBoardsRow.mainSum:=by unfold Func.isWrapper;first | (rw[if_pos (by decide +kernel)];kernel_rfl) | (rw[if_neg (by decide +kernel)];exact⟨rfl,rfl⟩)
end Go.Proofs.YtamdhefhhdgjbaaGreatDoor
end
section
open Go Go.LL
namespace Go.Proofs
end Go.Proofs
end
section
open Go Go.LL
namespace Go.Proofs
def lieB (b:Bk)(l:List Int)(k:Int)(i:Nat):Bool:=!(decide (l.getD i 0+k<(ptAt b i).bl) || decide (l.getD i 0+k+(ptAt b i).w > (ptAt b i).bh))
def WaF (b:Bk)(l:List Int)(k:Int):Bool:=(List.range l.length).all (lieB b l k)
section
variable  {P:Prg}[Tz P][Loud P]{H:Hp}
set_option maxHeartbeats 4000000
set_option maxRecDepth 20000
end
end Go.Proofs
end
section
open Go Go.LL
namespace Go.Proofs
theorem WaS:∀ (l:List Int) (f:Int),(Zbq gtB f l=f∨Zbq gtB f l∈l)∧f<=Zbq gtB f l∧∀ x∈l,x<=Zbq gtB f l
 | [],f=>⟨.inl rfl,Int.le_refl _,by simp⟩
 | x :: l,f=>by
  have e:Zbq gtB f (x :: l)=Zbq gtB (if gtB x f then x else f) l:=rfl
  rw[e]
  by_cases hx:gtB x f=true
  ·rw[if_pos hx]
   obtain⟨h1,h2,h3⟩:=WaS l x
   have hx':f<x:=of_decide_eq_true hx
   refine⟨.inr (List.mem_cons.2 h1),by omega,fun y hy=>?_⟩
   rcases List.mem_cons.1 hy with rfl | hy
   ·exact h2
   ·exact h3 y hy
  ·rw[if_neg hx]
   obtain⟨h1,h2,h3⟩:=WaS l f
   have hx':¬ f<x:=fun h=>hx (decide_eq_true h)
   refine⟨h1.imp id (List.mem_cons_of_mem _),h2,fun y hy=>?_⟩
   rcases List.mem_cons.1 hy with rfl | hy
   ·omega
   ·exact h3 y hy
theorem WaR:∀ (l:List Int) (f:Int),(Zbq ltB f l=f∨Zbq ltB f l∈l)∧Zbq ltB f l<=f∧∀ x∈l,Zbq ltB f l<=x
 | [],f=>⟨.inl rfl,Int.le_refl _,by simp⟩
 | x :: l,f=>by
  have e:Zbq ltB f (x :: l)=Zbq ltB (if ltB x f then x else f) l:=rfl
  rw[e]
  by_cases hx:ltB x f=true
  ·rw[if_pos hx]
   obtain⟨h1,h2,h3⟩:=WaR l x
   have hx':x<f:=of_decide_eq_true hx
   refine⟨.inr (List.mem_cons.2 h1),by omega,fun y hy=>?_⟩
   rcases List.mem_cons.1 hy with rfl | hy
   ·exact h2
   ·exact h3 y hy
  ·rw[if_neg hx]
   obtain⟨h1,h2,h3⟩:=WaR l f
   have hx':¬ x<f:=fun h=>hx (decide_eq_true h)
   refine⟨h1.imp id (List.mem_cons_of_mem _),h2,fun y hy=>?_⟩
   rcases List.mem_cons.1 hy with rfl | hy
   ·omega
   ·exact h3 y hy
theorem max_of {L:List Int}(h:L≠[]):Zbq gtB (L.getD 0 0) (L.drop 1)∈L∧∀ x∈L,x<=Zbq gtB (L.getD 0 0) (L.drop 1):=by
 cases L with
 | nil=>exact absurd rfl h
 | cons a l=>
  obtain⟨h1,h2,h3⟩:=WaS l a
  refine⟨List.mem_cons.2 h1,fun y hy=>?_⟩
  rcases List.mem_cons.1 hy with rfl | hy
  ·exact h2
  ·exact h3 y hy
theorem min_of {L:List Int}(h:L≠[]):Zbq ltB (L.getD 0 0) (L.drop 1)∈L∧∀ x∈L,Zbq ltB (L.getD 0 0) (L.drop 1)<=x:=by
 cases L with
 | nil=>exact absurd rfl h
 | cons a l=>
  obtain⟨h1,h2,h3⟩:=WaR l a
  refine⟨List.mem_cons.2 h1,fun y hy=>?_⟩
  rcases List.mem_cons.1 hy with rfl | hy
  ·exact h2
  ·exact h3 y hy
theorem Wam {b:Bk}(g:N4)(h:1<=b.pts.length):(∀ i,i<b.pts.length->(ptAt b i).bl-g.get i<=lowF b g)∧∃ i,i<b.pts.length∧lowF b g=(ptAt b i).bl-g.get i:=by
 have hne:ZgC b g≠[]:=by
  intro e
  have:(ZgC b g).length=b.pts.length:=by simp[ZgC]
  rw[e]at this;simp at this;omega
 obtain⟨h1,h2⟩:=max_of hne
 refine⟨fun i hi=>h2 _ (List.mem_map.2 ⟨i,List.mem_range.2 hi,rfl⟩),?_⟩
 obtain⟨i,hi,e⟩:=List.mem_map.1 h1
 exact⟨i,List.mem_range.1 hi,e.symm⟩
theorem Waq {b:Bk}(g:N4)(h:1<=b.pts.length):(∀ i,i<b.pts.length->Zfc b g<=(ptAt b i).bh-(ptAt b i).w-g.get i)∧∃ i,i<b.pts.length∧Zfc b g=(ptAt b i).bh-(ptAt b i).w-g.get i:=by
 have hne:ZdK b g≠[]:=by
  intro e
  have:(ZdK b g).length=b.pts.length:=by simp[ZdK]
  rw[e]at this;simp at this;omega
 obtain⟨h1,h2⟩:=min_of hne
 refine⟨fun i hi=>h2 _ (List.mem_map.2 ⟨i,List.mem_range.2 hi,rfl⟩),?_⟩
 obtain⟨i,hi,e⟩:=List.mem_map.1 h1
 exact⟨i,List.mem_range.1 hi,e.symm⟩
theorem WaY {b:Bk}{l:List Int}{k:Int}{i:Nat}:lieB b l k i=true↔(ptAt b i).bl<=l.getD i 0+k∧l.getD i 0+k+(ptAt b i).w<=(ptAt b i).bh:=by
 simp only[lieB,Bool.not_eq_true',Bool.or_eq_false_iff,decide_eq_false_iff_not]
 omega
theorem lies_iff {b:Bk}{l:List Int}{k:Int}:WaF b l k=true↔∀ i,i<l.length->(ptAt b i).bl<=l.getD i 0+k∧l.getD i 0+k+(ptAt b i).w<=(ptAt b i).bh:=by
 rw[WaF,List.all_eq_true]
 exact⟨fun h i hi=>WaY.1 (h i (List.mem_range.2 hi)),fun h i hi=>WaY.2 (h i (List.mem_range.1 hi))⟩
theorem Wbk {b:Bk}{l:List Int}{k:Int}(hl:l.length=b.pts.length)(h1:1<=b.pts.length)(h4:b.pts.length<=4):WaF b l k=true↔lowF b (n4of l)<=k∧k<=Zfc b (n4of l):=by
 obtain⟨a1,i,hi,a2⟩:=Wam (b:=b) (n4of l) h1
 obtain⟨c1,j,hj,c2⟩:=Waq (b:=b) (n4of l) h1
 rw[lies_iff]
 constructor
 ·intro h
  have e1:=h i (by omega)
  have e2:=h j (by omega)
  rw[Waf (by omega)]at a2 c2
  omega
 ·rintro⟨e1,e2⟩ t ht
  have f1:=a1 t (by omega)
  have f2:=c1 t (by omega)
  rw[Waf (by omega)]at f1 f2
  omega
end Go.Proofs
end
section
open Go Go.LL
namespace Go.Proofs
theorem Waw {α:Type}{L:List α}{p q:α->Bool}(h:∀ x∈L,p x=true->q x=true):(L.filter p).length<=(L.filter q).length:=by
 induction L with
 | nil=>exact Nat.le_refl _
 | cons a L ih=>
  have ih:=ih fun x hx=>h x (List.mem_cons_of_mem _ hx)
  have ha:=h a (List.mem_cons_self ..)
  simp only[List.filter_cons]
  cases hp:p a with
  | true=>rw[ha hp];simpa using ih
  | false=>
   cases hq:q a with
   | true=>simp;omega
   | false=>simpa using ih
end Go.Proofs
end
section
open Go Go.LL
namespace Go.Proofs
end Go.Proofs
end
section
open Go Go.LL
namespace Go.Proofs
theorem Wai {b:Bk}{g:N4}{s:Int}:Zcx b g s=true↔lowF b g<=s∧s<=Zfc b g:=by rw[Zcx,decide_eq_true_eq]
theorem span_rg {b:Bk}(v:Zeo b){x:Boat}(hx:x∈Zae b){s:Int}(h:Zcx b (Zas b x) s=true):-597<=s∧s<598:=by
 have hn:=v.n
 obtain⟨h1,h2⟩:=Wai.1 h
 have a1:=(Wam (b:=b) (Zas b x) (by omega)).1 0 (by omega)
 have a2:=(Waq (b:=b) (Zas b x) (by omega)).1 0 (by omega)
 have a3:=gap_in v (Zc2 v x hx) 0 (by omega)
 have e:ptAt b 0=b.pts[0]:=Zbd (by omega) _
 have:=v.pts 0 (by omega)
 rw[e]at a1 a2
 omega
theorem cnt_pos {b:Bk}(v:Zeo b){s:Int}(h:0<cntF b s):-597<=s∧s<598:=by
 obtain⟨x,hx⟩:=List.exists_mem_of_length_pos h
 obtain⟨h1,h2⟩:=List.mem_filter.1 hx
 exact span_rg v h1 h2
theorem cnt_le (b:Bk)(s:Int):cntF b s<=(Zae b).length:=List.length_filter_le _ _
theorem Wav {b:Bk}(v:Zeo b){q:Pl}:q∈mostL b↔q.k=cntF b q.s∧0<q.k:=by
 rw[Zmj]
 constructor
 ·rintro⟨n,hn,rfl,h⟩
  have e:(Zbr b 0 n).s=(n:Int)-597:=by simp[Zbr]
  have e2:(Zbr b 0 n).k=cntF b ((n:Int)-597):=by simp[Zbr]
  rw[e,e2]
  exact⟨rfl,by omega⟩
 ·rintro⟨h1,h2⟩
  obtain⟨r1,r2⟩:=cnt_pos v (s:=q.s) (by omega)
  refine⟨(q.s+597).toNat,by omega,?_,?_⟩
  ·have e:(((q.s+597).toNat:Nat):Int)-597=q.s:=by omega
   obtain⟨s,k⟩:=q
   simp only[Zbr,Nat.sub_zero]at *
   rw[e,<-h1]
  ·have e:(((q.s+597).toNat:Nat):Int)-597=q.s:=by omega
   rw[e];omega
theorem Wau {b:Bk}(v:Zeo b):(∀ s,(cntF b s:Int)<=(ZiE b).k)∧((ZiE b).k=0∧(ZiE b).s=0∨0<(ZiE b).k∧(ZiE b).k=cntF b (ZiE b).s∧∀ s,(cntF b s:Int)=(ZiE b).k->(ZiE b).s<=s):=by
 by_cases hL:mostL b=[]
 ·have hz:∀ s,cntF b s=0:=by
   intro s
   refine Classical.byContradiction fun h=>?_
   have:(⟨s,cntF b s⟩:Pl)∈mostL b:=(Wav v).2 ⟨rfl,by show (0:Int)<(cntF b s:Int);omega⟩
   rw[hL]at this;simp at this
  have hm:ZiE b=pl0:=by rw[ZiE,hL];rfl
  rw[hm]
  refine⟨fun s=>?_,.inl ⟨rfl,rfl⟩⟩
  rw[hz s];exact Int.le_refl _
 ·obtain⟨h1,h2⟩:=Ziq hL
  obtain⟨h3,h4⟩:=(Wav v).1 h1
  have hb:∀ s,0<cntF b s->¬ betP ⟨s,cntF b s⟩ (ZiE b)=true:=fun s hs=>h2 _ ((Wav v).2 ⟨rfl,by show (0:Int)<(cntF b s:Int);omega⟩)
  have h3:(ZiE b).k=cntF b (ZiE b).s:=h3
  have h4:0<(ZiE b).k:=h4
  refine⟨fun s=>?_,.inr ⟨h4,h3,fun s hs=>?_⟩⟩
  ·by_cases h0:0<cntF b s
   ·have:=hb s h0
    rw[Zfy]at this
    simp only at this
    omega
   ·omega
  ·have:=hb s (by omega)
   rw[Zfy]at this
   simp only at this
   omega
theorem Wao {b:Bk}{x:Boat}:ZgD b x=true↔lowF b (Zas b x)<=Zfc b (Zas b x):=by rw[ZgD,decide_eq_true_eq]
theorem most_le {b:Bk}(v:Zeo b):0<=(ZiE b).k∧(ZiE b).k<=(Zae b).length:=by
 obtain⟨_,h2⟩:=Wau v
 rcases h2 with ⟨h3,_⟩ | ⟨h4,h3,_⟩
 ·omega
 ·have:=cnt_le b (ZiE b).s;omega
structure Wider (b o:Bk):Prop where
 op:o.op=b.op
 sl:o.sl=b.sl
 cks:o.cks=b.cks
 n:o.pts.length=b.pts.length
 ml:∀ i,i<b.pts.length->(ptAt o i).ml=(ptAt b i).ml∧(ptAt o i).mh=(ptAt b i).mh
 w:∀ i,i<b.pts.length->(ptAt o i).w=(ptAt b i).w
 b:∀ i,i<b.pts.length->(ptAt o i).bl<=(ptAt b i).bl∧(ptAt b i).bh<=(ptAt o i).bh
end Go.Proofs
end
section
open Go Go.LL
namespace Go.Proofs
structure Learn (b o:Bk):Prop where
 op:o.op=b.op
 n:o.pts.length=b.pts.length
 bd:∀ i,i<b.pts.length->(ptAt o i).bl=(ptAt b i).bl∧(ptAt o i).bh=(ptAt b i).bh∧(ptAt o i).w=(ptAt b i).w
 sub:∀ x∈Zae o,x∈Zae b
theorem Learn.pos {b o:Bk}(h:Learn b o)(h0:0<(Zae o).length):0<(Zae b).length:=by
 obtain⟨x,hx⟩:=List.exists_mem_of_length_pos h0
 exact List.length_pos_of_mem (h.sub x hx)
end Go.Proofs
end
section
open Go Go.LL
namespace Go.Proofs
end Go.Proofs
end
section
open Go Go.LL
namespace Go.Proofs
end Go.Proofs
end
section
open Go Go.LL
namespace Go.Proofs
theorem el_eq {l:List Int}{i:Nat}(h:i<l.length):l.getD i 0=l[i]:=Zbd h _
section
variable  {P:Prg}[Tz P][Loud P]{H:Hp}
set_option maxHeartbeats 4000000
set_option maxRecDepth 20000
theorem Wbo (a b c d:Int):LL.Zag P 67 #[.agg #[vi a,vi b],.agg #[vi c,vi d]] H fun v H'=>H=H'∧v=.agg #[vi (max a c),vi (min b d)]:=by
 have hs:∀ g,P.still g=false:=Loud.loud
 refine IsN.m (isn c67) (args:=[.agg #[vi a,vi b],.agg #[vi c,vi d]]) rfl ?_
 unfold n67
 refine wkT ?_
 refine om_max rfl rfl ?_
 refine wkT ?_
 refine om_min rfl rfl ?_
 refine wkT ?_
 exact⟨rfl,rfl⟩
end
end Go.Proofs
end
section
open Go Go.LL
namespace Go.Proofs
section
variable  {P:Prg}[Tz P][Loud P]{H:Hp}{bv:Value}{b:Bk}
end
end Go.Proofs
end
section
open Go Go.LL
namespace Go.Proofs
section
variable  {P:Prg}[Tz P][Loud P]{H:Hp}
set_option maxHeartbeats 16000000
set_option maxRecDepth 40000
end
end Go.Proofs
end
section
open Go Go.LL
namespace Go.Proofs
theorem pt_rg {b:Bk}(v:Zeo b){i:Nat}(hi:i<b.pts.length):(0<=(ptAt b i).ml∧(ptAt b i).ml<=(ptAt b i).mh∧(ptAt b i).mh<=99)∧(ptAt b i).mh-(ptAt b i).ml<3∧(0<=(ptAt b i).bl∧(ptAt b i).bl<=(ptAt b i).bh∧(ptAt b i).bh<=199)∧(0<=(ptAt b i).w∧(ptAt b i).w<=199):=by
 have:=v.pts i hi
 rwa [show b.pts[i]=ptAt b i from (Zbd hi _).symm]at this
section
variable  {P:Prg}[Tz P][Loud P]{H:Hp}
set_option maxHeartbeats 8000000
set_option maxRecDepth 20000
end
end Go.Proofs
end
section
open Go Go.LL
namespace Go.Proofs
section
variable  {P:Prg}[Tz P][Loud P]{H:Hp}
set_option maxHeartbeats 8000000
set_option maxRecDepth 20000
end
end Go.Proofs
end
section
open Go Go.LL
namespace Go.Proofs
structure BrN (p q n m i few many all:Int)(su st:Bool):Prop where
 p3:p=0∨p=1∨p=2
 a1:p=1->q=1
 a2:p≠2->q≠2
 a3:su=true->st=true∧m<=n
 a4:few<=many
 a5:many<=all
 a6:su=true->few=all∧i=n∧p=1
 a7:su=false->few<all
 a8:few=0↔p=2
section
variable  {P:Prg}[Tz P][Loud P]{H:Hp}
set_option maxHeartbeats 16000000
set_option maxRecDepth 40000
end
end Go.Proofs
end
section
open Go Go.LL
namespace Go.Proofs
section
variable  {P:Prg}[Tz P][Loud P]{H:Hp}
set_option maxHeartbeats 16000000
set_option maxRecDepth 40000
end
end Go.Proofs
end
section
open Go Go.LL
namespace Go.Proofs
section
variable  {P:Prg}[Tz P][Loud P]{H:Hp}
set_option maxHeartbeats 16000000
set_option maxRecDepth 40000
end
end Go.Proofs
end
section
open Go Go.LL
namespace Go.Proofs
section
variable  {P:Prg}[Tz P][Loud P]{H:Hp}
set_option maxHeartbeats 16000000
set_option maxRecDepth 40000
end
end Go.Proofs
end
section
open Go Go.LL
namespace Go.Proofs
section
variable  {P:Prg}[Tz P][Loud P]{H:Hp}
set_option maxHeartbeats 16000000
set_option maxRecDepth 40000
end
end Go.Proofs
end
section
open Go Go.LL
namespace Go.Proofs
section
variable  {P:Prg}[Tz P][Loud P]{H:Hp}
set_option maxHeartbeats 8000000
set_option maxRecDepth 20000
end
end Go.Proofs
end
section
open Go Go.LL
namespace Go.Proofs
section
variable  {P:Prg}[Tz P][Loud P]{H:Hp}
set_option maxHeartbeats 16000000
set_option maxRecDepth 40000
end
end Go.Proofs
end
section
open Go Go.LL
namespace Go.Proofs
theorem Wbg {G:Prop} (h:G:=by
  refine wkT ?_
  exact WaH (I:=fun j H'=>H=H') (env:=fun j=>[(1,w),(2,vi s),(3,vi 0),(7,vi (((Zae b).take j).filter fun x=>Zcx b (Zas b x) s).length),(8,vi j)]) (box:=fun _=>[(3,[vi b.op,vi b.sl,.slice Ap b.pts.length cp,.slice Ac b.cks.length cc])]) hj' rfl ⟨rfl,rfl,rfl,by rw[hsc];rfl,rfl,trivial⟩ ⟨rfl,trivial⟩ rfl):G:=h
def sloF (b:Bk)(l:List Int):Nat->Int
 | 0=>-999
 | j+1=>max (sloF b l j) ((ptAt b j).bl-l.getD j 0)
def shiF (b:Bk)(l:List Int):Nat->Int
 | 0=>999
 | j+1=>min (shiF b l j) ((ptAt b j).bh-(ptAt b j).w-l.getD j 0)
theorem WaT (b:Bk)(l:List Int):∀ j,(∀ i,i<j->(ptAt b i).bl-l.getD i 0<=sloF b l j)∧-999<=sloF b l j∧(sloF b l j=-999∨∃ i,i<j∧sloF b l j=(ptAt b i).bl-l.getD i 0)
 | 0=>⟨fun i h=>by omega,Int.le_refl _,.inl rfl⟩
 | j+1=>by
  obtain⟨h1,h2,h3⟩:=WaT b l j
  have e:sloF b l (j+1)=max (sloF b l j) ((ptAt b j).bl-l.getD j 0):=rfl
  refine⟨fun i hi=>?_,by omega,?_⟩
  ·by_cases h:i<j
   ·have:=h1 i h;omega
   ·obtain rfl:i=j:=by omega
    omega
  ·by_cases h:sloF b l j<=(ptAt b j).bl-l.getD j 0
   ·exact .inr ⟨j,by omega,by omega⟩
   ·rcases h3 with h3 | ⟨i,hi,h3⟩
    ·exact .inl (by omega)
    ·exact .inr ⟨i,by omega,by omega⟩
theorem WaU (b:Bk)(l:List Int):∀ j,(∀ i,i<j->shiF b l j<=(ptAt b i).bh-(ptAt b i).w-l.getD i 0)∧shiF b l j<=999∧(shiF b l j=999∨∃ i,i<j∧shiF b l j=(ptAt b i).bh-(ptAt b i).w-l.getD i 0)
 | 0=>⟨fun i h=>by omega,Int.le_refl _,.inl rfl⟩
 | j+1=>by
  obtain⟨h1,h2,h3⟩:=WaU b l j
  have e:shiF b l (j+1)=min (shiF b l j) ((ptAt b j).bh-(ptAt b j).w-l.getD j 0):=rfl
  refine⟨fun i hi=>?_,by omega,?_⟩
  ·by_cases h:i<j
   ·have:=h1 i h;omega
   ·obtain rfl:i=j:=by omega
    omega
  ·by_cases h:(ptAt b j).bh-(ptAt b j).w-l.getD j 0<=shiF b l j
   ·exact .inr ⟨j,by omega,by omega⟩
   ·rcases h3 with h3 | ⟨i,hi,h3⟩
    ·exact .inl (by omega)
    ·exact .inr ⟨i,by omega,by omega⟩
theorem slo_low {b:Bk}{l:List Int}(v:Zeo b)(hl:l.length=b.pts.length)(hr:∀ z∈l,-199<=z∧z<=199):sloF b l b.pts.length=lowF b (n4of l)∧shiF b l b.pts.length=Zfc b (n4of l):=by
 have hn:=v.n
 have hg:∀ i,i<b.pts.length->(n4of l).get i=l.getD i 0∧-199<=l.getD i 0∧l.getD i 0<=199:=fun i hi=>by
  have:=hr _ (List.getElem_mem (show i<l.length by omega))
  rw[Waf (by omega),el_eq (by omega)]
  exact⟨rfl,this⟩
 obtain⟨a1,a2,a3⟩:=WaT b l b.pts.length
 obtain⟨c1,c2,c3⟩:=WaU b l b.pts.length
 obtain⟨l1,i,hi,l2⟩:=Wam (b:=b) (n4of l) (by omega)
 obtain⟨h1,j,hj,h2⟩:=Waq (b:=b) (n4of l) (by omega)
 have p0:=pt_rg v (i:=0) (by omega)
 have g0:=hg 0 (by omega)
 have gi:=hg i hi
 have gj:=hg j hj
 have x1:=a1 i hi
 have x2:=c1 j hj
 have x3:=a1 0 (by omega)
 have x4:=c1 0 (by omega)
 constructor
 ·rcases a3 with a3 | ⟨t,ht,a3⟩
  ·omega
  ·have:=l1 t ht
   have:=hg t ht
   omega
 ·rcases c3 with c3 | ⟨t,ht,c3⟩
  ·omega
  ·have:=h1 t ht
   have:=hg t ht
   omega
theorem Waa {b:Bk}(v:Zeo b)(x:Boat):(gapLs b x).length=b.pts.length:=by
 have:=v.n
 rw[gapLs,List.length_take];show min _ 4=_;omega
theorem Wal {b:Bk}(v:Zeo b)(x:Boat):n4of (gapLs b x)=Zas b x:=by
 refine N4.ext' fun j hj=>?_
 rw[Waf hj]
 by_cases h:j<b.pts.length
 ·exact WaQ v x h
 ·rw[List.getD_eq_getElem?_getD,List.getElem?_eq_none (by rw[Waa v];omega),Zas,N4.of_get _ hj,if_neg h];rfl
theorem Wan {b:Bk}(v:Zeo b){x:Boat}(hx:x∈Zae b):∀ z∈gapLs b x,-199<=z∧z<=199:=by
 intro z hz
 obtain⟨i,hi,rfl⟩:=List.mem_iff_getElem.1 hz
 have hi':=hi
 rw[Waa v]at hi'
 rw[<-el_eq hi,WaQ v x hi']
 have:=gap_in v (Zc2 v x hx) i (by have:=v.n;omega)
 omega
theorem Wbl {b:Bk}(v:Zeo b){x:Boat}(s:Int):WaF b (gapLs b x) s=Zcx b (Zas b x) s:=by
 have hn:=v.n
 rw[Bool.eq_iff_iff,Wbk (Waa v x) (by omega) (by omega),Wal v,Wai]
section
variable  {P:Prg}[Tz P][Loud P]{H:Hp}
set_option maxHeartbeats 8000000
set_option maxRecDepth 20000
theorem LiesR_ok {bv lv:Value}{b:Bk}{l:List Int}{k:Int}(hb:BkAt H bv b)(hlv:SlAt H lv l)(hle:l.length<=b.pts.length)(hl3:l.length<=1000000)(okp:PtsOk b)(okl:∀ n∈l,Sm n)(hk:Sm k) :
  LL.Zag P 170 #[bv,lv,vi k] H fun v H'=>H=H'∧v=vb (WaF b l k):=by
 have hs:∀ g,P.still g=false:=Loud.loud
 obtain⟨pv,cv,rfl,hp,hc⟩:=hb
 refine IsN.m (isn c170) (args:=[.agg #[vi b.op,vi b.sl,pv,cv],lv,vi k]) rfl ?_
 unfold n170
 refine wkT ?_
 refine ZaX l.length (fun j H'=>H=H'∧∀ i,i<j->lieB b l k i=true) (fun j=>[(1,lv),(2,vi k),(3,vi 0),(7,vi j)]) (fun _=>[(3,[vi b.op,vi b.sl,pv,cv])]) ⟨rfl,fun _ h=>by omega⟩ ⟨rfl,rfl,rfl,rfl,trivial⟩ ⟨rfl,trivial⟩ ?_
 rintro j _ hj ⟨rfl,hI⟩
 refine wkT ?_
 refine Zav hlv rfl ?_
 refine wkT ?_
 refine wiT (fun h1=>?_) (fun h1=>?_)
 ·have hj':j<l.length:=by omega
  have hjp:j<b.pts.length:=by omega
  have ept:ptAt b j=b.pts[j]:=Zbd hjp _
  have el:l.getD j 0=l[j]:=Zbd hj' _
  have s1:=okp.bl j hjp
  have s2:=okp.bh j hjp
  have s3:=okp.w j hjp
  have s4:=okl _ (List.getElem_mem hj')
  rw[<-ept]at s1 s2 s3
  rw[<-el]at s4
  obtain⟨a1,a2⟩:=s1
  obtain⟨a3,a4⟩:=s2
  obtain⟨a5,a6⟩:=s3
  obtain⟨a7,a8⟩:=s4
  obtain⟨a9,a10⟩:=hk
  refine wkT ?_
  refine ZaE hp rfl rfl rfl (i:=j) hjp fun a ha=>?_
  rw[<-ept]at ha
  refine wkT ?_
  refine Zao (hs _) rfl ha rfl ?_
  refine wkT ?_
  refine ZaE hlv rfl rfl rfl (i:=j) hj' fun a2 ha2=>?_
  rw[<-el]at ha2
  refine wkT ?_
  refine Zaf (hs _) rfl ha2 ?_
  refine wkT ?_
  have hfin:lieB b l k j=false->WaF b l k=false:=fun h=>by
   rw[Bool.eq_false_iff]
   intro e
   rw[WaF,List.all_eq_true]at e
   rw[e j (by simpa using hj')]at h
   exact absurd h (by simp)
  refine wiT (fun h2=>?_) (fun h2=>?_)
  ·refine wkT ?_
   refine⟨rfl,?_⟩
   rw[hfin (by simp only[lieB,h2];simp)]
   rfl
  ·refine wkT ?_
   refine ZaE hlv rfl rfl rfl (i:=j) hj' fun a3 ha3=>?_
   rw[<-el]at ha3
   refine wkT ?_
   refine Zaf (hs _) rfl ha3 ?_
   refine wkT ?_
   refine wiT (fun h3=>?_) (fun h3=>?_)
   ·refine wkT ?_
    refine⟨rfl,?_⟩
    rw[hfin (by simp only[lieB,h3];simp)]
    rfl
   ·refine wkT ?_
    have hI':∀ i,i<j+1->lieB b l k i=true:=fun i hi=>by
     rcases Nat.lt_or_ge i j with h | h
     ·exact hI i h
     ·obtain rfl:i=j:=by omega
      simp only[lieB,h2,h3];simp
    exact WaH (I:=fun j H'=>H=H'∧∀ i,i<j->lieB b l k i=true) (env:=fun j=>[(1,lv),(2,vi k),(3,vi 0),(7,vi j)]) (box:=fun _=>[(3,[vi b.op,vi b.sl,pv,cv])]) hj' ⟨rfl,hI'⟩ ⟨rfl,rfl,rfl,rfl,trivial⟩ ⟨rfl,trivial⟩ rfl
 ·refine wkT ?_
  have:WaF b l k=true:=by
   rw[WaF,List.all_eq_true]
   intro i hi
   exact hI i (by have:=List.mem_range.1 hi;omega)
  rw[this]
  exact⟨rfl,rfl⟩
theorem Wag {bv lv:Value}{b:Bk}{l:List Int}(val:Zeo b)(hb:BkAt H bv b)(hlv:SlAt H lv l)(hl:l.length=b.pts.length)(hr:∀ z∈l,-199<=z∧z<=199):LL.Zag P 104 #[bv,lv] H fun v H'=>H=H'∧v=.agg #[vi (lowF b (n4of l)),vi (Zfc b (n4of l))]:=by
 have hs:∀ g,P.still g=false:=Loud.loud
 have hn:=val.n
 obtain⟨h9,h10⟩:=slo_low val hl hr
 obtain⟨pv,cv,rfl,hp,hc⟩:=hb
 obtain⟨Ap,cp,rfl,hp'⟩:=id hp
 refine IsN.m (isn c104) (args:=[.agg #[vi b.op,vi b.sl,.slice Ap b.pts.length cp,cv],lv]) rfl ?_
 unfold n104
 refine wkT ?_
 refine ZaX l.length (fun j H'=>H=H') (fun j=>[(1,lv),(2,vi 0),(4,vi 0),(5,vi 0),(6,vi j)]) (fun j=>[(2,[vi b.op,vi b.sl,.slice Ap b.pts.length cp,cv]),(4,[vi 0,vi 0]),(5,[vi (sloF b l j),vi (shiF b l j)])]) rfl ⟨rfl,rfl,rfl,rfl,rfl,trivial⟩ ⟨rfl,rfl,rfl,trivial⟩ ?_
 rintro j _ hj rfl
 refine wkT ?_
 refine Zav hlv rfl ?_
 refine wkT ?_
 refine wiT (fun h1=>?_) (fun h1=>?_)
 ·have hj':j<l.length:=by omega
  have hjp:j<b.pts.length:=by omega
  have row:Enc.enc b.pts[j]=[vi (ptAt b j).ml,vi (ptAt b j).mh,vi (ptAt b j).bl,vi (ptAt b j).bh,vi (ptAt b j).w]:=by
   rw[show b.pts[j]=ptAt b j from (Zbd hjp _).symm];rfl
  have p0:=pt_rg val hjp
  have hz:=hr _ (List.getElem_mem hj')
  have el:=(el_eq hj').symm
  rw[el]at hz
  refine wkT ?_
  refine ZaE hp rfl rfl rfl (i:=j) hjp fun a ha=>?_
  rw[row]at ha
  refine wkT ?_
  refine Zao (hs _) rfl ha rfl ?_
  refine wkT ?_
  refine ZaE hlv rfl rfl rfl (i:=j) hj' fun a2 ha2=>?_
  rw[el]at ha2
  refine wkT ?_
  refine Zaf (hs _) rfl ha2 ?_
  refine wkT ?_
  refine ZaE hlv rfl rfl rfl (i:=j) hj' fun a3 ha3=>?_
  rw[el]at ha3
  refine wkT ?_
  refine Zaf (hs _) rfl ha3 ?_
  refine wkT ?_
  refine Zab (vs:=[.agg #[vi (sloF b l j),vi (shiF b l j)],.agg #[vi ((ptAt b j).bl-l.getD j 0),vi ((ptAt b j).bh-(ptAt b j).w-l.getD j 0)]]) rfl (Wbo _ _ _ _) ?_
  rintro v _ ⟨rfl,rfl⟩
  refine wkT ?_
  exact WaH (I:=fun j H'=>H=H') (env:=fun j=>[(1,lv),(2,vi 0),(4,vi 0),(5,vi 0),(6,vi j)]) (box:=fun j=>[(2,[vi b.op,vi b.sl,.slice Ap b.pts.length cp,cv]),(4,[vi 0,vi 0]),(5,[vi (sloF b l j),vi (shiF b l j)])]) hj' rfl ⟨rfl,rfl,rfl,rfl,rfl,trivial⟩ ⟨rfl,rfl,rfl,trivial⟩ rfl
 have:j=l.length:=by omega
 subst this
 rw[hl,h9,h10]
 refine wkT ?_
 exact⟨rfl,rfl⟩
theorem WaI {b:Bk}{s:Int}{j:Nat}(hj:j<(Zae b).length):(((Zae b).take (j+1)).filter fun x=>Zcx b (Zas b x) s).length=(((Zae b).take j).filter fun x=>Zcx b (Zas b x) s).length+if Zcx b (Zas b (Zae b)[j]) s then 1 else 0:=by
 rw[List.take_succ_eq_append_getElem hj,List.filter_append,List.length_append]
 cases h:Zcx b (Zas b (Zae b)[j]) s<;>simp[h]
theorem Does_ok {bv w:Value}{b:Bk}{s:Int}(val:Zeo b)(hb:BkAt H bv b)(hw:War b H w (Zae b))(hsm:Sm s):LL.Zag P 118 #[bv,w,vi s] H fun v H'=>H=H'∧v=vi (cntF b s):=by
 have hs:∀ g,P.still g=false:=Loud.loud
 have hn:=val.n
 have hN:=Zbp val
 have hb0:=hb
 obtain⟨pv,cv,rfl,hp,hc⟩:=hb
 obtain⟨Ap,cp,rfl,hp'⟩:=id hp
 obtain⟨Ac,cc,rfl,hc'⟩:=id hc
 obtain⟨rows,s1,r1⟩:=hw
 have hrl:=r1.len
 refine IsN.m (isn c118) (args:=[.agg #[vi b.op,vi b.sl,.slice Ap b.pts.length cp,.slice Ac b.cks.length cc],w,vi s]) rfl ?_
 unfold n118
 refine wkT ?_
 refine ZaX (Zae b).length (fun j H'=>H=H') (fun j=>[(1,w),(2,vi s),(3,vi 0),(7,vi (((Zae b).take j).filter fun x=>Zcx b (Zas b x) s).length),(8,vi j)]) (fun _=>[(3,[vi b.op,vi b.sl,.slice Ap b.pts.length cp,.slice Ac b.cks.length cc])]) rfl ⟨rfl,rfl,rfl,rfl,rfl,trivial⟩ ⟨rfl,trivial⟩ ?_
 rintro j _ hj rfl
 refine wkT ?_
 refine Zav s1 rfl ?_
 refine wkT ?_
 refine wiT (fun h1=>?_) (fun h1=>?_)
 ·have hj':j<(Zae b).length:=by omega
  have hsc:=WaI (s:=s) hj'
  have hfl:(((Zae b).take j).filter fun x=>Zcx b (Zas b x) s).length<=1782:=Nat.le_trans (List.length_filter_le _ _) (by rw[List.length_take];omega)
  obtain⟨q1,q2,q3⟩:=r1.at_ j (by omega) hj'
  have hx:(Zae b)[j]∈Zae b:=List.getElem_mem hj'
  have hgr:=Wan val hx
  have hgl:=Waa val (Zae b)[j]
  have hlb:=Wbl val (x:=(Zae b)[j]) s
  refine wkT ?_
  refine ZaE s1 rfl rfl rfl (i:=j) (by omega) fun a ha=>?_
  refine wkT ?_
  have hcell:CellsAt H (a.add 3) [rows[j].g]:=ZbA (j:=3) ha rfl
  refine Zaf (hs _) rfl hcell ?_
  refine wkT ?_
  refine Zab (vs:=[.agg #[vi b.op,vi b.sl,.slice Ap b.pts.length cp,.slice Ac b.cks.length cc],rows[j].g,vi s]) rfl (LiesR_ok hb0 q3 (by omega) (by omega) val.good.pts (fun z hz=>by have:=hgr z hz;exact⟨by omega,by omega⟩) hsm) ?_
  rintro v _ ⟨rfl,rfl⟩
  rw[hlb]
  refine wkT ?_
  refine wiT (fun h2=>?_) (fun h2=>?_)
  ·rw[Wai.2 h2,if_pos rfl]at hsc
   exact Wbg
  ·rw[show Zcx b (Zas b (Zae b)[j]) s=false by rw[Zcx,decide_eq_false h2],if_neg (by decide)]at hsc
   exact Wbg
 have:j=(Zae b).length:=by omega
 subst this
 rw[List.take_length]
 refine wkT ?_
 exact⟨rfl,rfl⟩
end
end Go.Proofs
end
