/- proofs about Leango given: part Sl1; made by a program out of the longer texts in wip -/
import Derived.Test.YtamdhefhhdgjbaaGreatDoorSl00
set_option linter.all false
section
open Go Go.LL
namespace Go.Proofs
theorem Wbv {G:Prop} (h:G:=by
  have hlen3:O.length<=j:=by omega
  refine wkT ?_
  refine Zk1 (k:=.i64) (lo:=0) (hi:=t) (und u34) (tif t3) rfl (.inl ⟨rfl,rfl⟩) ⟨_,rfl,rfl⟩ (Nat.zero_le _) tc ?_
  refine wkT ?_
  refine ZaE (hlv.inc i1) rfl rfl rfl (i:=j) hj' fun a ha=>?_
  refine wkT ?_
  refine Zaf (hs _) rfl (hrow (.refl _) a ha) ?_
  refine wkT ?_
  refine Zbu (lo:=t) (und u34) (tif t3) rfl rfl ht ?_
  refine wkT ?_
  refine Zat (cs:=[vi x]) (hs _) rfl fun r1 hr1=>?_
  refine kp_l hs ?_
  have o3:Own H1 (H1.ins r1 (.cells [vi x].toArray 3)) 3 (.slice (some ⟨r1,0,none⟩) 1 1) [x] (some r1):=own_new (l:=[x]) hr1
  have i3:Inc H1 (H1.ins r1 (.cells [vi x].toArray 3)):=Zaj hr1
  generalize H1.ins r1 (.cells [vi x].toArray 3)=H3 at *
  have hdl:(O.drop t).length<=O.length:=by rw[List.length_drop];omega
  have htl:(O.take t).length<=O.length:=by rw[List.length_take];omega
  refine wkT ?_
  refine ZbW (l':=O.drop t) (und u34) (und u34) (tif t3) rfl (by decide) i3 o3 (dt.inc i3) (ints_one _) (by simp only[List.length_singleton];omega) (by omega) rfl rfl (hs _) fun v4 H4 b4 i4 o4 _=>?_
  refine kp_l hs ?_
  refine wkT ?_
  have ot4:Own H H4 3 (.slice (if c=0 then A else A.map (·.add (0 * 1))) (t-0) (c-0)) (O.take t) bb:=⟨(ot.inc i4).own,ot.fresh⟩
  refine ZbW (l':=[x]++O.drop t) (und u34) (und u34) (tif t3) rfl (by decide) (i1.trans i4) ot4 o4.sl (ints_one _) (by simp only[List.length_append,List.length_singleton];omega) (by omega) rfl rfl (hs _) fun v5 H5 b5 i5 o5 _=>?_
  have e5:O.take t++([x]++O.drop t)=ordF (l.take (j+1)):=by rw[hot,h3];rfl
  rw[e5]at o5
  obtain⟨A5,c5,rfl,_⟩:=id o5.sl
  refine wkT ?_
  exact⟨(⟨j+1,by omega⟩,((A5,c5),b5)),Nat.sub_lt_sub_left (by omega) (Nat.lt_succ_self j),⟨i5,o5⟩,⟨rfl,rfl,rfl,trivial⟩,trivial,rfl⟩):G:=h
def insD (x:Int):List Int->List Int
 | []=>[x]
 | y :: r=>if y<x then y :: insD x r else if y=x then y :: r else x :: y :: r
def ordF (l:List Int):List Int:=l.foldl (fun o x=>insD x o) []
theorem Wbx {l:List Int}{j:Nat}(hj:j<l.length):ordF (l.take (j+1))=insD l[j] (ordF (l.take j)):=by
 rw[ordF,List.take_succ_eq_append_getElem hj,List.foldl_append];rfl
theorem Wbf (x:Int):∀ l,(insD x l).length<=l.length+1
 | []=>by simp[insD]
 | y :: r=>by
  rw[insD]
  have:=Wbf x r
  split
  ·simp only[List.length_cons];omega
  ·split<;>simp
theorem Wbc:∀ l:List Int,(ordF l).length<=l.length:=by
 refine Zfm (by simp[ordF]) fun l x ih=>?_
 have:=Wbf x (ordF l)
 rw[ordF,List.foldl_append,List.length_append,List.length_singleton]
 show (insD x (ordF l)).length<=_
 omega
theorem Wa0 {x:Int}:∀ {l:List Int} {t:Nat},t<=l.length->(∀ i (h:i<l.length),i<t->l[i]<x)->insD x l=l.take t++insD x (l.drop t)
 | l,0,_,_=>by simp
 | [],t+1,h,_=>by simp at h
 | y :: r,t+1,h,hh=>by
  have h0:y<x:=hh 0 (by simp) (by omega)
  rw[insD,if_pos h0,Wa0 (l:=r) (t:=t) (by simpa using h) fun i h1 h2=>by
   have:=hh (i+1) (by simpa using h1) (by omega)
   simpa using this]
  simp
theorem Wbt {α:Type}[Enc α]{H0 H:Hp}{E:TypeId}{a:Option Addr}{n c t:Nat}{l:List α}{b:Option Nat}(h:Own H0 H E (.slice a n c) l b)(ht:t<=l.length):t<=c∧Own H0 H E (.slice (if c=0 then a else a.map (·.add (0 * Enc.sz α))) (t-0) (c-0)) (l.take t) b∧SlAt H (.slice (if c=t then a else a.map (·.add (t * Enc.sz α))) (n-t) (c-t)) (l.drop t):=by
 have e0:(if c=0 then a else a.map (·.add (0 * Enc.sz α)))=a:=by
  split
  ·rfl
  ·rw[Nat.zero_mul]
   cases a with
   | none=>rfl
   | some a=>rw[Option.map_some,add_zero]
 rw[e0,Nat.sub_zero,Nat.sub_zero]
 obtain⟨q0,⟨q1,q2,q3⟩ | ⟨r,cap,rest,q1,q2,q3,q4,q5⟩⟩:=h.own
 ·have:l=[]:=List.eq_nil_of_length_eq_zero q2
  subst this
  simp only[Value.slice.injEq]at q1
  obtain⟨rfl,rfl,rfl⟩:=q1
  have:t=0:=by simpa using ht
  subst this
  exact⟨Nat.le_refl _,⟨⟨by simp[encs],.inl ⟨rfl,rfl,q3⟩⟩,h.fresh⟩,_,_,rfl,fun hn=>absurd (by simp) hn⟩
 ·simp only[Value.slice.injEq]at q2
  obtain⟨rfl,rfl,rfl⟩:=q2
  have e1:encs l=encs (l.take t)++encs (l.drop t):=by rw[<-Zcf,List.take_append_drop]
  refine⟨by omega,⟨⟨Zcm _,.inr ⟨r,c,encs (l.drop t)++rest,q1,by rw[List.length_take,Nat.min_eq_left ht],by rw[q3,e1,List.append_assoc],by rw[<-List.append_assoc,<-e1];exact q4,by rw[List.length_take];omega⟩⟩,h.fresh⟩,?_⟩
  refine⟨_,c-t,by rw[List.length_drop],fun hn=>?_⟩
  have hlt:t<l.length:=by
   rcases Nat.lt_or_ge t l.length with h | h
   ·exact h
   ·exact absurd (List.drop_eq_nil_of_le h) hn
  rw[if_neg (by omega)]
  refine⟨_,rfl,Zds rfl _,_,_,by rw[ZbM];exact q3,fun j hj=>?_⟩
  rw[Zc3]
  simp only[Obj.at?,List.getElem?_toArray]
  have hlen:(encs (l.take t)).length=t * Enc.sz α:=by rw[Zcm,List.length_take,Nat.min_eq_left ht]
  rw[e1,List.append_assoc,List.getElem?_append_right (by omega),List.getElem?_append_left (by omega)]
  congr 1
  omega
section
variable  {P:Prg}[Tz P][Loud P]{H:Hp}
set_option maxHeartbeats 4000000
set_option maxRecDepth 20000
theorem Wbq {lv:Value}{l:List Int}(hlv:SlAt H lv l)(hl:l.length<=1000000) :
  LL.Zag P 57 #[lv] H fun v H'=>Inc H H'∧∃ bb,Own H H' 3 v (ordF l) bb:=by
 have hs:∀ g,P.still g=false:=Loud.loud
 refine IsN.m (isn c57) (args:=[lv]) rfl ?_
 unfold n57
 refine wkT ?_
 refine ZaP (α:=(Option Addr×Nat)×Option Nat) l.length (fun j s H'=>Inc H H'∧Own H H' 3 (.slice s.1.1 (ordF (l.take j)).length s.1.2) (ordF (l.take j)) s.2) (fun j s=>[(0,lv),(3,.slice s.1.1 (ordF (l.take j)).length s.1.2),(4,vi j)]) (fun _ _=>[]) ((none,0),none) ⟨.refl H,.nil _ _ _⟩ ⟨rfl,rfl,rfl,trivial⟩ trivial ?_
 rintro j ⟨⟨A,c⟩,bb⟩ H1 hj ⟨i1,o1⟩
 simp only at o1
 have hol:=Wbc (l.take j)
 have htl:(l.take j).length<=j:=by rw[List.length_take];omega
 refine wkT ?_
 refine Zav (hlv.inc i1) rfl ?_
 refine wkT ?_
 refine wiT (fun h1=>?_) (fun h1=>?_)
 ·have hj':j<l.length:=by omega
  have hot:=Wbx hj'
  have s1:=o1.sl
  generalize hO:ordF (l.take j)=O at *
  generalize hX:l[j]=x at *
  have hrow:∀ {H':Hp},Inc H1 H'->∀ a,CellsAt H' a (Enc.enc l[j])->CellsAt H' a [vi x]:=fun _ a ha=>by rw[<-hX];exact ha
  refine wbT ?_
  refine Zbn ?_
  refine wbT ?_
  refine ZbZ (fun (t:Nat) H'=>H1=H'∧t<=O.length∧(∀ i (h:i<O.length),i<t->O[i]<x)∧(∀ h:t<O.length,¬ O[t]<x)) (fun t=>[(0,lv),(3,.slice A O.length c),(4,vi j),(5,vi t)]) (fun _=>[]) ?_ ?_
  ·refine wkT ?_
   refine ZaX O.length (fun t H'=>H1=H'∧(∀ i (h:i<O.length),i<t->O[i]<x)) (fun t=>[(0,lv),(3,.slice A O.length c),(4,vi j),(5,vi t)]) (fun _=>[]) ⟨rfl,fun i h h2=>by omega⟩ ⟨rfl,rfl,rfl,rfl,trivial⟩ trivial ?_
   rintro t _ ht ⟨rfl,hlt⟩
   refine wkT ?_
   refine wiT (fun h2=>?_) (fun h2=>?_)
   ·have ht':t<O.length:=by omega
    refine wkT ?_
    refine ZaE s1 rfl rfl rfl (i:=t) ht' fun a ha=>?_
    refine wkT ?_
    refine Zaf (hs _) rfl ha ?_
    refine wkT ?_
    refine ZaE (hlv.inc i1) rfl rfl rfl (i:=j) hj' fun a ha=>?_
    refine wkT ?_
    refine Zaf (hs _) rfl (hrow (.refl _) a ha) ?_
    refine wkT ?_
    refine wiT (fun h3=>?_) (fun h3=>?_)
    ·refine wkT ?_
     exact⟨⟨t+1,by omega⟩,Nat.sub_lt_sub_left (by omega) (Nat.lt_succ_self t),⟨rfl,fun i h (h4:i<t+1)=>by
      by_cases e:i=t
      ·subst e;exact h3
      ·exact hlt i h (by omega)⟩,⟨rfl,rfl,rfl,rfl,trivial⟩,trivial,rfl⟩
    ·refine wkT ?_
     exact⟨t,⟨rfl,ht,hlt,fun _=>h3⟩,⟨rfl,rfl,rfl,rfl,trivial⟩,trivial,rfl⟩
   ·have:t=O.length:=by omega
    subst this
    refine wkT ?_
    exact⟨O.length,⟨rfl,Nat.le_refl _,hlt,fun h=>absurd h (Nat.lt_irrefl _)⟩,⟨rfl,rfl,rfl,rfl,trivial⟩,trivial,rfl⟩
  ·rintro t _ ⟨rfl,ht,hlt,hge⟩
   have hskip:=Wa0 ht hlt
   obtain⟨tc,ot,dt⟩:=Wbt o1 ht
   have ins:insD x (O.drop t)=x :: O.drop t->insD x O=O.take t++(x :: O.drop t):=fun h=>by rw[hskip,h]
   refine wkT ?_
   refine wiT (fun h2=>?_) (fun h2=>?_)
   ·have ht2:t=O.length:=by omega
    have h3:=ins (by rw[List.drop_eq_nil_of_le (by omega)];rfl)
    exact Wbv
   ·have ht':t<O.length:=by omega
    refine wkT ?_
    refine ZaE s1 rfl rfl rfl (i:=t) ht' fun a ha=>?_
    refine wkT ?_
    refine Zaf (hs _) rfl ha ?_
    refine wkT ?_
    refine ZaE (hlv.inc i1) rfl rfl rfl (i:=j) hj' fun a ha=>?_
    refine wkT ?_
    refine Zaf (hs _) rfl (hrow (.refl _) a ha) ?_
    refine wkT ?_
    have hd:=List.drop_eq_getElem_cons ht'
    have hg:=hge ht'
    refine wiT (fun h4=>?_) (fun h4=>?_)
    ·have h3:=ins (by rw[hd,insD,if_neg hg,if_neg h4])
     exact Wbv
    ·have h3:insD x O=O:=by
      rw[hskip,hd,insD,if_neg hg,if_pos h4,<-hd,List.take_append_drop]
     refine wkT ?_
     exact⟨(⟨j+1,by omega⟩,((A,c),bb)),Nat.sub_lt_sub_left (by omega) (Nat.lt_succ_self j),⟨i1,by rw[hot,h3];exact o1⟩,⟨rfl,by rw[hot,h3];rfl,rfl,trivial⟩,trivial,rfl⟩
 ·have:j=l.length:=by omega
  subst this
  rw[List.take_length]at o1
  refine wkT ?_
  exact⟨i1,bb,by rw[List.take_length];exact o1⟩
end
end Go.Proofs
end
section
open Go Go.LL
namespace Go.Proofs
section
variable  {P:Prg}[Tz P][Loud P]{H:Hp}
set_option maxHeartbeats 4000000
set_option maxRecDepth 20000
def byN (x:Boat):Bool:=!decide (x.by_=0)
end
end Go.Proofs
end
section
open Go Go.LL
namespace Go.Proofs
def slEq (k:Slip)(x:Boat):Bool:=decide (x.bf=k.bf∧x.by_=k.by_)
def Waa (b:Bk):List Slip:=((ZaC b).drop 1).filter fun k=>(Zae b).any (slEq k)
section
variable  {P:Prg}[Tz P][Loud P]{H:Hp}
set_option maxHeartbeats 4000000
set_option maxRecDepth 20000
end
end Go.Proofs
end
section
open Go Go.LL
namespace Go.Proofs
theorem WaU:∀ {l m:List Int},l.Pairwise (·<·)->m.Pairwise (·<·)->(∀ x,x∈l↔x∈m)->l=m
 | [],[],_,_,_=>rfl
 | [],y :: m,_,_,h=>by have:=(h y).2 (List.mem_cons_self ..);simp at this
 | x :: l,[],_,_,h=>by have:=(h x).1 (List.mem_cons_self ..);simp at this
 | x :: l,y :: m,hl,hm,h=>by
  obtain⟨l1,l2⟩:=List.pairwise_cons.1 hl
  obtain⟨m1,m2⟩:=List.pairwise_cons.1 hm
  have exy:x=y:=by
   have h1:=(h x).1 (List.mem_cons_self ..)
   have h2:=(h y).2 (List.mem_cons_self ..)
   rcases List.mem_cons.1 h1 with rfl | h1
   ·rfl
   ·rcases List.mem_cons.1 h2 with rfl | h2
    ·rfl
    ·have:=l1 y h2;have:=m1 x h1;omega
  subst exy
  congr 1
  refine WaU l2 m2 fun z=>⟨fun hz=>?_,fun hz=>?_⟩
  ·rcases List.mem_cons.1 ((h z).1 (List.mem_cons_of_mem _ hz)) with rfl | hz'
   ·have:=l1 z hz;omega
   ·exact hz'
  ·rcases List.mem_cons.1 ((h z).2 (List.mem_cons_of_mem _ hz)) with rfl | hz'
   ·have:=m1 z hz;omega
   ·exact hz'
theorem WaQ (x:Int):∀ (l:List Int) (z:Int),z∈insD x l↔z=x∨z∈l
 | [],z=>by simp[insD]
 | y :: r,z=>by
  rw[insD]
  have ih:=WaQ x r z
  split
  ·rw[List.mem_cons,ih,List.mem_cons]
   constructor
   ·rintro(h | h | h)
    ·exact .inr (.inl h)
    ·exact .inl h
    ·exact .inr (.inr h)
   ·rintro(h | h | h)
    ·exact .inr (.inl h)
    ·exact .inl h
    ·exact .inr (.inr h)
  ·split
   ·rename_i h;subst h;rw[List.mem_cons]
    constructor
    ·exact .inr
    ·rintro(h | h)
     ·exact .inl h
     ·exact h
   ·rw[List.mem_cons]
theorem Wbz (x:Int):∀ {l:List Int},l.Pairwise (·<·)->(insD x l).Pairwise (·<·)
 | [],_=>by simp[insD]
 | y :: r,h=>by
  obtain⟨h1,h2⟩:=List.pairwise_cons.1 h
  rw[insD]
  split
  ·rename_i hy
   refine List.pairwise_cons.2 ⟨fun z hz=>?_,Wbz x h2⟩
   rcases(WaQ x r z).1 hz with rfl | hz
   ·exact hy
   ·exact h1 z hz
  ·split
   ·exact h
   ·refine List.pairwise_cons.2 ⟨fun z hz=>?_,h⟩
    rcases List.mem_cons.1 hz with rfl | hz
    ·omega
    ·have:=h1 z hz;omega
theorem Wbb:∀ l:List Int,(ordF l).Pairwise (·<·)∧∀ z,z∈ordF l↔z∈l:=by
 refine Zfm ⟨.nil,fun z=>Iff.rfl⟩ fun l x ih=>?_
 have e:ordF (l++[x])=insD x (ordF l):=by rw[ordF,List.foldl_append];rfl
 rw[e]
 refine⟨Wbz x ih.1,fun z=>?_⟩
 rw[WaQ,ih.2 z,List.mem_append,List.mem_singleton]
 exact Or.comm
theorem Wbh {l:List Int}(h:l.Pairwise (·<=·)):∀ n,n<=l.length->(cmpP l n).Pairwise (·<·)∧(∀ z,z∈cmpP l n↔z∈l.take n)∧(∀ z∈cmpP l n,z<=el l (n-1))
 | 0,_=>⟨.nil,fun z=>by simp[cmpP],fun z hz=>by simp[cmpP]at hz⟩
 | n+1,hn=>by
  obtain⟨h1,h2,h3⟩:=Wbh h n (by omega)
  have hmono:∀ i j,i<=j->j<l.length->el l i<=el l j:=by
   intro i j hij hj
   rw[Zhf (by omega),Zhf hj]
   rcases Nat.lt_or_ge i j with h' | h'
   ·exact List.pairwise_iff_getElem.1 h i j (by omega) hj h'
   ·have:i=j:=by omega
    subst this;exact Int.le_refl _
  rw[Zi7 (by omega)]
  by_cases h0:n=0
  ·subst h0
   rw[cmp_one]
   exact⟨List.pairwise_singleton _ _,fun z=>by simp,fun z hz=>by rw[List.mem_singleton.1 hz];exact Int.le_refl _⟩
  ·by_cases he:el l n=el l (n-1)
   ·rw[cmp_eq h0 he]
    refine⟨h1,fun z=>?_,fun z hz=>?_⟩
    ·rw[h2,List.mem_append,List.mem_singleton]
     constructor
     ·exact .inl
     ·rintro(hz | rfl)
      ·exact hz
      ·rw[he]
       have e2:n=(n-1)+1:=by omega
       rw[e2,Zi7 (by omega)]
       simp
    ·have:=h3 z hz;rw[Nat.add_sub_cancel,he];exact this
   ·rw[cmp_ne he]
    refine⟨?_,fun z=>?_,fun z hz=>?_⟩
    ·rw[List.pairwise_append]
     refine⟨h1,List.pairwise_singleton _ _,fun a ha c hc=>?_⟩
     rw[List.mem_singleton.1 hc]
     have g1:=h3 a ha
     have g2:=hmono (n-1) n (by omega) (by omega)
     omega
    ·rw[List.mem_append,h2,List.mem_append]
    ·rw[Nat.add_sub_cancel]
     rcases List.mem_append.1 hz with hz | hz
     ·have g1:=h3 z hz
      have g2:=hmono (n-1) n (by omega) (by omega)
      omega
     ·rw[List.mem_singleton.1 hz];exact Int.le_refl _
theorem WbC {l m:List Int}(h:l.Pairwise (·<=·))(hm:∀ z,z∈l↔z∈m):cmpF l=ordF m:=by
 obtain⟨h1,h2,_⟩:=Wbh h l.length (Nat.le_refl _)
 obtain⟨h3,h4⟩:=Wbb m
 exact WaU h1 h3 fun z=>by rw[cmpF,h2,h4,List.take_length];exact hm z
theorem Wau {b:Bk}(v:Zeo b){x:Boat}(h:x∈Zae b):(⟨x.bf,x.by_⟩:Slip)∈ZaC b:=by
 rw[Wbj v]at h
 obtain⟨l,_,h⟩:=List.mem_flatMap.1 h
 obtain⟨k,hk,rfl⟩:=List.mem_map.1 (List.mem_filter.1 h).1
 exact hk
theorem Waq {b:Bk}(v:Zeo b){k:Slip}(h:k∈(ZaC b).drop 1):(1<=k.bf∧k.bf<b.pts.length)∧-b.sl<=k.by_∧k.by_<=b.sl∧k.by_≠0:=by
 have:=v.sl
 have:=v.n
 have h:=Zj7 (n:=b.pts.length) (sl:=b.sl.toNat) _ (by omega) k h
 omega
theorem WaF {b:Bk}{k:Slip}(h:k∈ZaC b):k=⟨0,0⟩∨k∈(ZaC b).drop 1:=List.mem_cons.1 h
theorem Wbl {b:Bk}(v:Zeo b){x:Boat}(h:x∈Zae b):x.slipped=byN x:=by
 rcases WaF (Wau v h) with h1 | h1
 ·simp only[Slip.mk.injEq]at h1
  simp[Boat.slipped,byN,h1]
 ·have:=(Waq v h1).2.2.2
  simp only at this
  simp[Boat.slipped,byN,this]
theorem Wax {b:Bk}(v:Zeo b):(Zae b).filter Boat.slipped=(Zae b).filter byN:=List.filter_congr fun x hx=>Wbl v hx
theorem WaP {b:Bk}(v:Zeo b):ZjU b=Waa b:=by
 have h0:ZaC b=⟨0,0⟩ :: (ZaC b).drop 1:=rfl
 rw[ZjU,h0,List.filter_cons,Waa]
 have hno:((Zae b).any (ZfN ⟨0,0⟩))=false:=by
  rw[List.any_eq_false]
  intro x _
  simp only[ZfN,Boat.slipped]
  by_cases h:x.bf=0∧x.by_=0<;>simp[h]
 rw[hno,if_neg (by simp)]
 refine List.filter_congr fun k hk=>?_
 have hk0:=(Waq v hk).2.2.2
 rw[Bool.eq_iff_iff,List.any_eq_true,List.any_eq_true]
 constructor
 ·rintro⟨x,hx,h⟩
  exact⟨x,hx,by simp only[ZfN,Bool.and_eq_true]at h;exact h.2⟩
 ·rintro⟨x,hx,h⟩
  refine⟨x,hx,?_⟩
  have h:=of_decide_eq_true h
  simp only[ZfN,Boat.slipped,h,Bool.and_eq_true]
  simp[hk0]
theorem Wad {bf:Int}{sl:Nat}:∀ r,∀ k∈innerR bf sl r,k.bf=bf
 | 0,k,h=>by simp[innerR]at h
 | r+1,k,h=>by
  rw[innerR]at h
  split at h
  ·exact Wad r k h
  ·rcases List.mem_cons.1 h with rfl | h
   ·rfl
   ·exact Wad r k h
theorem Wam {n sl:Nat}:∀ r,∀ k∈outerR n sl r,(n:Int)-r<=k.bf
 | 0,k,h=>by simp[outerR]at h
 | r+1,k,h=>by
  rw[outerR]at h
  rcases List.mem_append.1 h with h | h
  ·have:=Wad _ k h;omega
  ·have:=Wam r k h;omega
theorem pw_const {l:List Slip}{c:Int}(h:∀ k∈l,k.bf=c):l.Pairwise fun a d=>a.bf<=d.bf:=by
 induction l with
 | nil=>exact .nil
 | cons a l ih=>
  refine List.pairwise_cons.2 ⟨fun d hd=>?_,ih fun k hk=>h k (List.mem_cons_of_mem _ hk)⟩
  rw[h a (List.mem_cons_self ..),h d (List.mem_cons_of_mem _ hd)];exact Int.le_refl _
theorem Waj {n sl:Nat}:∀ r,(outerR n sl r).Pairwise fun a d=>a.bf<=d.bf
 | 0=>.nil
 | r+1=>by
  rw[outerR,List.pairwise_append]
  refine⟨pw_const fun k hk=>Wad _ k hk,Waj r,fun a ha d hd=>?_⟩
  have h1:=Wad _ a ha
  have h2:=Wam r d hd
  omega
theorem Wbr {b:Bk}(v:Zeo b):whenL b=ordF (((Zae b).filter byN).map Boat.bf):=by
 rw[whenL,WaP v]
 refine WbC ?_ fun z=>?_
 ·rw[List.pairwise_map]
  exact(Waj _).sublist List.filter_sublist
 ·rw[List.mem_map,List.mem_map]
  constructor
  ·rintro⟨k,hk,rfl⟩
   obtain⟨h1,h2⟩:=List.mem_filter.1 hk
   obtain⟨x,hx,h3⟩:=List.any_eq_true.1 h2
   have h3:=of_decide_eq_true h3
   refine⟨x,List.mem_filter.2 ⟨hx,?_⟩,h3.1⟩
   have:=(Waq v h1).2.2.2
   simp[byN,h3.2,this]
  ·rintro⟨x,hx,rfl⟩
   obtain⟨h1,h2⟩:=List.mem_filter.1 hx
   refine⟨⟨x.bf,x.by_⟩,List.mem_filter.2 ⟨?_,List.any_eq_true.2 ⟨x,h1,by simp[slEq]⟩⟩,rfl⟩
   rcases WaF (Wau v h1) with h | h
   ·simp only[Slip.mk.injEq]at h
    simp[byN,h.2]at h2
   ·exact h
end Go.Proofs
end
section
open Go Go.LL
namespace Go.Proofs
theorem Wbw {α:Type}[Enc α]{H0 H:Hp}{E:TypeId}{v:Value}{l:List α}{b:Option Nat}(h:Own H0 H E v l b):∃ A c,v=.slice A l.length c:=by
 obtain⟨A,c,h1,_⟩:=h.sl
 exact⟨A,c,h1⟩
section
variable  {P:Prg}[Tz P][Loud P]{H:Hp}
set_option maxHeartbeats 8000000
set_option maxRecDepth 40000
theorem Waw {u w:Value}{a:List Int}(ha:SlAt H u a)(hb:SlAt H w a)(hl:a.length<=1000000):LL.Zag P 25 #[u,w] H fun v H'=>H=H'∧v=vb true:=
 LL.Zag.mono (Zia ha hb hl hl) fun v H' h=>⟨h.1,h.2.trans (by rw[decide_eq_true rfl])⟩
end
end Go.Proofs
end
section
open Go Go.LL Go.Conc Go.ConcM
namespace Go.Proofs
open YtamdhefhhdgjbaaGreatDoor Go.ChangeShapes Go.WideShapes
section
set_option maxRecDepth 100000
variable  {H:Type}{enc:TypeId×Value->H}{W:World}{base:Nat}{sp:Nat->Bool}{held:Bool}{fuel:Nat}{cs:List Value}{y:DataW H×List MemPlace}{r:Reach}{b0:Nat}{v:Value}{d:DataW H}{ps:List MemPlace}
end
end Go.Proofs
end
section
open Go Go.LL Go.Conc Go.ConcM
namespace Go.Proofs.YtamdhefhhdgjbaaGreatDoor
theorem WaM:Tryz.pinned.checked.prog.funcNamed Rows.spileSlipsRow.func=some 7:=by kernel_rfl
theorem WaL:joinedFacts Tryz.pinned.checked.prog 7 Tryz.f7 Rows.spileSlipsSpec Rows.spileSlipsRow=true:=by kernel_rfl
theorem WaK:Tryz.f7.isInstance Tryz.pinned.checked.prog Rows.spileSlipsRow.origin Rows.spileSlipsRow.targs:=of_decide_eq_true (by kernel_rfl)
theorem WaJ:Tryz.f7.isWrapper Tryz.pinned.checked.prog Rows.spileSlipsRow.wrapper Rows.spileSlipsRow.mainSum:=by unfold Func.isWrapper;first | (rw[if_pos (by decide +kernel)];kernel_rfl) | (rw[if_neg (by decide +kernel)];exact⟨rfl,rfl⟩)
end Go.Proofs.YtamdhefhhdgjbaaGreatDoor
end
section
open Go Go.LL
namespace Go.Proofs
theorem WaX {b:Bk}{i:Nat}{n:Int}:n∈Wan b i↔(ptAt b i).ml<=n∧n<=(ptAt b i).mh:=by
 rw[Wan,List.mem_map]
 constructor
 ·rintro⟨t,ht,rfl⟩
  rw[List.mem_range]at ht
  omega
 ·rintro⟨h1,h2⟩
  exact⟨(n-(ptAt b i).ml).toNat,by rw[List.mem_range];omega,by omega⟩
theorem Wa4 (b:Bk)(i:Nat):(Wan b i).Nodup:=by
 rw[Wan,List.Nodup,List.pairwise_map]
 exact List.nodup_range.imp fun h e=>h (by omega)
theorem getD_app {l:List Int}{n:Int}{j:Nat}:(l++[n]).getD j 0=if j<l.length then l.getD j 0 else if j=l.length then n else 0:=by
 simp only[List.getD_eq_getElem?_getD]
 by_cases h:j<l.length
 ·rw[if_pos h,List.getElem?_append_left h]
 ·rw[if_neg h,List.getElem?_append_right (by omega)]
  by_cases h2:j=l.length
  ·subst h2;simp
  ·rw[if_neg h2,List.getElem?_eq_none (by simp;omega)];rfl
theorem Wa1 {l:List Int}{i j:Nat}(h:j<i):(l.take i).getD j 0=l.getD j 0:=by
 simp only[List.getD_eq_getElem?_getD,List.getElem?_take_of_lt h]
theorem WaH {b:Bk}:∀ {i:Nat} {l:List Int},l∈mkL b i↔l.length=i∧∀ j,j<i->(ptAt b j).ml<=l.getD j 0∧l.getD j 0<=(ptAt b j).mh
 | 0,l=>by
  rw[mkL,List.mem_singleton]
  constructor
  ·rintro rfl;exact⟨rfl,fun j h=>by omega⟩
  ·rintro⟨h,_⟩;exact List.length_eq_zero_iff.1 h
 | i+1,l=>by
  rw[mkL,List.mem_flatMap]
  constructor
  ·rintro⟨m,hm,hl⟩
   obtain⟨n,hn,rfl⟩:=List.mem_map.1 hl
   obtain⟨h1,h2⟩:=WaH.1 hm
   refine⟨by simp[h1],fun j hj=>?_⟩
   rw[getD_app]
   by_cases e:j<i
   ·rw[if_pos (by omega)];exact h2 j e
   ·rw[if_neg (by omega),if_pos (by omega)]
    obtain rfl:j=i:=by omega
    exact WaX.1 hn
  ·rintro⟨h1,h2⟩
   refine⟨l.take i,WaH.2 ⟨by rw[List.length_take];omega,fun j hj=>?_⟩,List.mem_map.2 ⟨l.getD i 0,WaX.2 (h2 i (by omega)),?_⟩⟩
   ·rw[Wa1 hj];exact h2 j (by omega)
   ·have:=Zi7 (l:=l) (n:=i) (by omega)
    rw[<-h1,List.take_length]at this
    exact this.symm
theorem Wbe {b:Bk}:∀ i:Nat,(mkL b i).Nodup
 | 0=>List.pairwise_singleton _ _
 | i+1=>by
  rw[mkL,List.Nodup,List.pairwise_flatMap]
  refine⟨fun l _=>?_,(Wbe i).imp fun hne x hx y hy e=>?_⟩
  ·rw[List.pairwise_map]
   exact(Wa4 b i).imp fun h e=>h (by simpa using e)
  ·obtain⟨n,_,rfl⟩:=List.mem_map.1 hx
   obtain⟨k,_,rfl⟩:=List.mem_map.1 hy
   exact hne (List.append_inj_left' e rfl)
theorem Wah {bf:Int}{sl:Nat}{k:Slip}:∀ {r:Nat},k∈innerR bf sl r↔k.bf=bf∧(sl:Int)-r<k.by_∧k.by_<=sl∧k.by_≠0
 | 0=>by rw[innerR];simp;omega
 | r+1=>by
  have ih:=@Wah bf sl k r
  rw[innerR]
  split
  ·rw[ih];constructor
   ·rintro⟨h1,h2,h3,h4⟩;exact⟨h1,by omega,h3,h4⟩
   ·rintro⟨h1,h2,h3,h4⟩;exact⟨h1,by omega,h3,h4⟩
  ·rw[List.mem_cons,ih]
   obtain⟨kf,ky⟩:=k
   simp only[Slip.mk.injEq]
   omega
theorem Wag {n sl:Nat}{k:Slip}:∀ {r:Nat},r+1<=n->(k∈outerR n sl r↔((n:Int)-r<=k.bf∧k.bf<n)∧-(sl:Int)<=k.by_∧k.by_<=sl∧k.by_≠0)
 | 0,_=>by rw[outerR];simp;omega
 | r+1,h=>by
  rw[outerR,List.mem_append,Wah,Wag (by omega)]
  omega
theorem Wao {b:Bk}(v:Zeo b){k:Slip}:k∈ZaC b↔k=⟨0,0⟩∨((1<=k.bf∧k.bf<b.pts.length)∧-b.sl<=k.by_∧k.by_<=b.sl∧k.by_≠0):=by
 have:=v.sl
 have:=v.n
 rw[ZaC,List.mem_cons,Wag (by omega)]
 have e:((b.sl.toNat:Nat):Int)=b.sl:=by omega
 have e2:((b.pts.length-1:Nat):Int)=b.pts.length-1:=by omega
 rw[e,e2]
 refine or_congr Iff.rfl ?_
 omega
theorem Waf {bf:Int}{sl:Nat}:∀ r:Nat,(innerR bf sl r).Nodup
 | 0=>List.nodup_nil
 | r+1=>by
  rw[innerR]
  split
  ·exact Waf r
  ·refine List.nodup_cons.2 ⟨fun h=>?_,Waf r⟩
   have:=Wah.1 h
   simp only at this
   omega
theorem War {n sl:Nat}:∀ r:Nat,(outerR n sl r).Nodup
 | 0=>List.nodup_nil
 | r+1=>by
  rw[outerR]
  refine List.nodup_append.2 ⟨Waf _,War r,fun x hx y hy e=>?_⟩
  have h1:=Wad _ x hx
  have h2:=Wam r y hy
  subst e
  omega
theorem Wa5 {b:Bk}(v:Zeo b):(ZaC b).Nodup:=by
 rw[ZaC]
 refine List.nodup_cons.2 ⟨fun h=>?_,War _⟩
 have:=v.n
 have:=(Wag (by omega)).1 h
 simp only at this
 omega
def Wa8 (b:Bk):List Boat:=(mkL b b.pts.length).flatMap fun l=>(ZaC b).map fun k=>(⟨n4of l,k.bf,k.by_⟩:Boat)
theorem Was {α β:Type}(l:List α)(f:α->List β)(p:β->Bool):(l.flatMap f).filter p=l.flatMap fun a=>(f a).filter p:=by
 induction l with
 | nil=>rfl
 | cons a l ih=>simp[List.flatMap_cons,ih]
theorem WaI {b:Bk}(v:Zeo b):Zae b=(Wa8 b).filter (ZgQ b):=by
 rw[Wbj v,Wa8,Was]
 rfl
theorem n4_inj {l m:List Int}(h:l.length=m.length)(h4:l.length<=4)(e:n4of l=n4of m):l=m:=by
 refine List.ext_getElem h fun i h1 h2=>?_
 have:(n4of l).get i=(n4of m).get i:=by rw[e]
 rw[Wac (by omega),Wac (by omega),List.getD_eq_getElem?_getD,List.getD_eq_getElem?_getD,List.getElem?_eq_getElem h1,List.getElem?_eq_getElem h2]at this
 simpa using this
theorem Wbi {b:Bk}(v:Zeo b){x:Boat}:x∈Wa8 b↔(∀ j,j<b.pts.length->(ptAt b j).ml<=x.m.get j∧x.m.get j<=(ptAt b j).mh)∧(∀ j,b.pts.length<=j->j<4->x.m.get j=0)∧(⟨x.bf,x.by_⟩:Slip)∈ZaC b:=by
 have hn:=v.n
 rw[Wa8,List.mem_flatMap]
 constructor
 ·rintro⟨l,hl,hx⟩
  obtain⟨k,hk,rfl⟩:=List.mem_map.1 hx
  obtain⟨h1,h2⟩:=WaH.1 hl
  refine⟨fun j hj=>?_,fun j hj h4=>?_,hk⟩
  ·show _<=(n4of l).get j∧(n4of l).get j<=_
   rw[Wac (by omega)];exact h2 j hj
  ·show (n4of l).get j=0
   rw[Wac h4,List.getD_eq_getElem?_getD,List.getElem?_eq_none (by omega)];rfl
 ·rintro⟨h1,h2,h3⟩
  have hL:∀ j,j<b.pts.length->(x.m.list.take b.pts.length).getD j 0=x.m.get j:=by
   intro j hj
   rw[Wa1 hj]
   match j,(by omega:j<4) with
   | 0,_=>rfl
   | 1,_=>rfl
   | 2,_=>rfl
   | 3,_=>rfl
  refine⟨x.m.list.take b.pts.length,WaH.2 ⟨by rw[List.length_take];show min _ 4=_;omega,fun j hj=>?_⟩,List.mem_map.2 ⟨⟨x.bf,x.by_⟩,h3,?_⟩⟩
  ·rw[hL j hj];exact h1 j hj
  ·have:n4of (x.m.list.take b.pts.length)=x.m:=by
    refine N4.ext' fun j h4=>?_
    rw[Wac h4]
    by_cases hj:j<b.pts.length
    ·exact hL j hj
    ·rw[h2 j (by omega) h4,List.getD_eq_getElem?_getD,List.getElem?_eq_none (by rw[List.length_take];omega)];rfl
   rw[this]
theorem Wbo {b:Bk}(v:Zeo b):(Wa8 b).Nodup:=by
 have hn:=v.n
 rw[Wa8,List.Nodup,List.pairwise_flatMap]
 refine⟨fun l _=>?_,?_⟩
 ·rw[List.pairwise_map]
  refine(Wa5 v).imp fun {s t} h e=>h ?_
  simp only[Boat.mk.injEq,true_and]at e
  obtain⟨s1,s2⟩:=s
  obtain⟨t1,t2⟩:=t
  simp only at e
  rw[e.1,e.2]
 ·refine List.Pairwise.imp_of_mem (fun {l m} hl hm hne x hx y hy e=>?_) (Wbe (b:=b) b.pts.length)
  obtain⟨k,_,rfl⟩:=List.mem_map.1 hx
  obtain⟨k',_,rfl⟩:=List.mem_map.1 hy
  simp only[Boat.mk.injEq]at e
  have h1:=(WaH.1 hl).1
  have h2:=(WaH.1 hm).1
  exact hne (n4_inj (by omega) (by omega) e.1)
theorem Wa3 {b:Bk}(v:Zeo b){x:Boat}:x∈Zae b↔x∈Wa8 b∧ZgQ b x=true:=by
 rw[WaI v,List.mem_filter]
theorem Wat {b:Bk}(v:Zeo b):(Zae b).Nodup:=by
 rw[WaI v];exact(Wbo v).filter _
theorem Wab {α:Type}[DecidableEq α]:∀ {l m:List α},l.Nodup->(∀ x∈l,x∈m)->l.length<=m.length
 | [],_,_,_=>Nat.zero_le _
 | a :: l,m,hn,hs=>by
  obtain⟨h1,h2⟩:=List.nodup_cons.1 hn
  have ha:=hs a (List.mem_cons_self ..)
  have:=Wab (l:=l) (m:=m.erase a) h2 fun x hx=>(List.mem_erase_of_ne (by rintro rfl;exact h1 hx)).2 (hs x (List.mem_cons_of_mem _ hx))
  rw[List.length_erase_of_mem ha]at this
  have:=List.length_pos_of_mem ha
  rw[List.length_cons];omega
theorem same_len {α:Type}[DecidableEq α]{l m:List α}(hl:l.Nodup)(hm:m.Nodup)(h:∀ x,x∈l↔x∈m):l.length=m.length:=
 Nat.le_antisymm (Wab hl fun x hx=>(h x).1 hx) (Wab hm fun x hx=>(h x).2 hx)
end Go.Proofs
end
section
open Go Go.LL
namespace Go.Proofs
section
variable  {P:Prg}[Tz P][Loud P]{H:Hp}
set_option maxHeartbeats 4000000
set_option maxRecDepth 20000
end
end Go.Proofs
end
section
open Go Go.LL
namespace Go.Proofs
end Go.Proofs
end
section
open Go Go.LL
namespace Go.Proofs
theorem ckS_of {n:Nat}:∀ {l:List SCk},(∀ c∈l,(0<=c.p∧c.p<n)∧(-199<=c.gl∧c.gl<=c.gh∧c.gh<=199))->ckS n l=0
 | [],_=>rfl
 | c :: l,h=>by
  have h1:=h c (List.mem_cons_self ..)
  rw[ckS,if_neg (by omega),if_neg (by omega)]
  exact ckS_of fun d hd=>h d (List.mem_cons_of_mem _ hd)
theorem WaO {b:Bk}(v:Zeo b):snag b=0:=by
 have h1:Zbj b=0:=by rw[Zbj,if_pos ⟨v.op,v.sl⟩]
 have h2:Zbk b=0:=by
  rw[Zbk,if_neg (by have:=v.n;omega),if_pos]
  rw[List.all_eq_true]
  intro p hp
  obtain⟨i,hi,rfl⟩:=List.mem_iff_getElem.1 hp
  obtain⟨a1,a2,a3,a4⟩:=v.pts i hi
  simp only[okP,Bool.and_eq_true,decide_eq_true_eq]
  exact⟨⟨⟨a1,a2⟩,a3⟩,a4⟩
 have h3:ckS b.pts.length b.cks=0:=ckS_of v.cks
 rw[snag,if_neg (by simp[h1]),if_neg (by simp[h2]),ZbJ,if_neg (by have:=v.ckn;omega),h3]
theorem Wa9 {b:Bk}:Zc9 b=true↔0<(Zae b).length:=by
 rw[Zc9]
 cases Zae b<;>simp
theorem open_eq {b:Bk}(v:Zeo b):Zah b true=if 0<(Zae b).length then 0 else 9:=by
 rw[Zah,if_neg (by simp[WaO v]),if_neg (by simp)]
 by_cases h:0<(Zae b).length
 ·rw[if_neg (by omega),if_pos h]
 ·rw[if_pos (by omega),if_neg h]
theorem ag_eq {b:Bk}(v:Zeo b):ZdL b=if 0<(Zae b).length then 0 else 9:=by
 rw[ZdL,if_neg (by simp[WaO v])]
 by_cases h:0<(Zae b).length
 ·rw[if_neg (by rw[Wa9.2 h];simp),if_pos h]
 ·have:Zc9 b=false:=by rw[Bool.eq_false_iff];exact fun e=>h (Wa9.1 e)
  rw[if_pos this,if_neg h]
theorem gaps_op {b b':Bk}(h:b.op=b'.op)(h2:b.pts.length=b'.pts.length)(x:Boat):Zas b x=Zas b' x:=by
 simp only[Zas,Zk9,h,h2]
theorem Wa2 {α:Type}{L:List α}{p:α->Bool}(h:∀ x∈L,p x=true):L.filter p=L:=List.filter_eq_self.2 h
theorem Way {α:Type}(L:List α)(p:α->Bool):(L.filter p).length+(L.filter fun x=>!p x).length=L.length:=by
 induction L with
 | nil=>rfl
 | cons a L ih=>
  simp only[List.filter_cons]
  cases h:p a<;>simp[h]<;>omega
theorem Waz {α:Type}{L:List α}{p:α->Bool}:(L.filter p).length=L.length↔∀ x∈L,p x=true:=by
 constructor
 ·intro h x hx
  rw[<-List.filter_eq_self.1 (List.filter_sublist.eq_of_length h) x hx]
 ·intro h;rw[Wa2 h]
theorem Wal {b:Bk}{k:Int}(v:Zeo b)(h:0<=k∧k<=b.sl):Zeo (fmBk b k) where
 op:=v.op
 sl:=⟨h.1,by have:=v.sl;show k<=3;omega⟩
 n:=v.n
 pts:=v.pts
 ckn:=v.ckn
 cks:=v.cks
theorem Wbm {b b':Bk}(h:b.op=b'.op)(h2:b.pts.length=b'.pts.length)(h3:b.cks=b'.cks)(x:Boat):ZgQ b x=ZgQ b' x:=by
 rw[ZgQ,ZgQ,gaps_op h h2 x,h3]
theorem boats_fm {b:Bk}{k:Int}(v:Zeo b)(h:0<=k∧k<=b.sl){x:Boat}:x∈Zae (fmBk b k)↔x∈Zae b∧-k<=x.by_∧x.by_<=k:=by
 have v':=Wal v h
 rw[Wa3 v',Wa3 v,Wbi v',Wbi v,Wao v',Wao v,Wbm (b:=fmBk b k) (b':=b) rfl rfl rfl]
 show ((∀ j,j<b.pts.length->(ptAt b j).ml<=_∧_<=(ptAt b j).mh)∧(∀ j,b.pts.length<=j->_)∧((_:Slip)=_∨((_∧_<(b.pts.length:Int))∧-k<=_∧_<=k∧_)))∧_↔_
 simp only[Slip.mk.injEq]
 constructor
 ·rintro⟨⟨h1,h2,h3⟩,h4⟩
  refine⟨⟨⟨h1,h2,?_⟩,h4⟩,?_⟩<;>omega
 ·rintro⟨⟨⟨h1,h2,h3⟩,h4⟩,h5⟩
  refine⟨⟨h1,h2,?_⟩,h4⟩;omega
end Go.Proofs
end
section
open Go Go.LL
namespace Go.Proofs
theorem drop_iff {b:Bk}(v:Zeo b){k:Slip}:k∈(ZaC b).drop 1↔(1<=k.bf∧k.bf<b.pts.length)∧-b.sl<=k.by_∧k.by_<=b.sl∧k.by_≠0:=by
 have:=v.sl
 have:=v.n
 show k∈outerR b.pts.length b.sl.toNat (b.pts.length-1)↔_
 rw[Wag (by omega)]
 have e:((b.sl.toNat:Nat):Int)=b.sl:=by omega
 have e2:((b.pts.length-1:Nat):Int)=b.pts.length-1:=by omega
 rw[e,e2]
 omega
theorem WaE {b:Bk}(v:Zeo b){k:Slip}:k∈Waa b↔((1<=k.bf∧k.bf<b.pts.length)∧-b.sl<=k.by_∧k.by_<=b.sl∧k.by_≠0)∧∃ x∈Zae b,x.bf=k.bf∧x.by_=k.by_:=by
 rw[Waa,List.mem_filter,drop_iff v,List.any_eq_true]
 refine and_congr Iff.rfl ⟨fun ⟨x,hx,h⟩=>⟨x,hx,of_decide_eq_true h⟩,fun ⟨x,hx,h⟩=>⟨x,hx,decide_eq_true h⟩⟩
theorem boat_sl {b:Bk}(v:Zeo b){x:Boat}(h:x∈Zae b):(x.bf=0∧x.by_=0)∨((1<=x.bf∧x.bf<b.pts.length)∧-b.sl<=x.by_∧x.by_<=b.sl∧x.by_≠0):=by
 have:=(Wao v).1 (Wau v h)
 simpa using this
theorem WaD {b:Bk}(v:Zeo b):Waa b=[]↔∀ x∈Zae b,x.by_=0:=by
 constructor
 ·intro h x hx
  rcases boat_sl v hx with h1 | h1
  ·exact h1.2
  ·have:(⟨x.bf,x.by_⟩:Slip)∈Waa b:=(WaE v).2 ⟨h1,x,hx,rfl,rfl⟩
   rw[h]at this;simp at this
 ·intro h
  refine List.eq_nil_iff_forall_not_mem.2 fun k hk=>?_
  obtain⟨h1,x,hx,_,h2⟩:=(WaE v).1 hk
  have:=h x hx
  omega
theorem ord_nil {l:List Int}:ordF l=[]↔l=[]:=by
 constructor
 ·intro h
  refine List.eq_nil_iff_forall_not_mem.2 fun x hx=>?_
  have:=((Wbb l).2 x).2 hx
  rw[h]at this;simp at this
 ·rintro rfl;rfl
theorem WaS {b:Bk}(v:Zeo b):whenL b=[]↔∀ x∈Zae b,x.by_=0:=by
 rw[Wbr v,ord_nil,List.map_eq_nil_iff,List.filter_eq_nil_iff]
 simp only[byN,Bool.not_eq_true',decide_eq_false_iff_not,Decidable.not_not]
theorem Wbg {b:Bk}(v:Zeo b):(Zae (fmBk b 0)).length=((Zae b).filter fun x=>!byN x).length:=by
 classical
 have v0:=v.sl
 have v':=Wal (k:=0) v ⟨by omega,v0.1⟩
 refine same_len (Wat v') ((Wat v).filter _) fun x=>?_
 rw[boats_fm v ⟨by omega,v0.1⟩,List.mem_filter]
 refine and_congr Iff.rfl ?_
 simp only[byN,Bool.not_not,decide_eq_true_eq]
 omega
theorem firm_sum {b:Bk}(v:Zeo b):((Zae b).filter byN).length+(Zae (fmBk b 0)).length=(Zae b).length:=by
 rw[Wbg v,Way]
theorem firm_all {b:Bk}(v:Zeo b):(Zae (fmBk b 0)).length=(Zae b).length↔∀ x∈Zae b,x.by_=0:=by
 rw[Wbg v,Waz]
 simp only[byN,Bool.not_not,decide_eq_true_eq]
def slLt (a c:Slip):Prop:=a.bf<c.bf∨a.bf=c.bf∧a.by_<c.by_
theorem WaR {bf:Int}{sl:Nat}:∀ r,(innerR bf sl r).Pairwise slLt
 | 0=>.nil
 | r+1=>by
  rw[innerR]
  split
  ·exact WaR r
  ·refine List.pairwise_cons.2 ⟨fun k hk=>?_,WaR r⟩
   obtain⟨h1,h2,_⟩:=Wah.1 hk
   exact .inr ⟨h1.symm,h2⟩
theorem Wba {n sl:Nat}:∀ r,(outerR n sl r).Pairwise slLt
 | 0=>.nil
 | r+1=>by
  rw[outerR,List.pairwise_append]
  refine⟨WaR _,Wba r,fun a ha d hd=>?_⟩
  have h1:=Wad _ a ha
  have h2:=Wam r d hd
  exact .inl (by omega)
theorem WaY (b:Bk):(Waa b).Pairwise slLt:=(Wba _).sublist List.filter_sublist
theorem Wbk {b:Bk}(v:Zeo b):ordF ((Waa b).map Slip.bf)=whenL b:=by
 rw[whenL,WaP v]
 refine(WbC ?_ fun z=>Iff.rfl).symm
 rw[List.pairwise_map]
 exact(WaY b).imp fun h=>by rcases h with h | h<;>omega
end Go.Proofs
end
section
open Go Go.LL
namespace Go.Proofs
structure Wider (b o:Bk):Prop where
 op:o.op=b.op
 sl:o.sl=b.sl
 cks:o.cks=b.cks
 n:o.pts.length=b.pts.length
 ml:∀ i,i<b.pts.length->(ptAt o i).ml=(ptAt b i).ml∧(ptAt o i).mh=(ptAt b i).mh
 w:∀ i,i<b.pts.length->(ptAt o i).w=(ptAt b i).w
 b:∀ i,i<b.pts.length->(ptAt o i).bl<=(ptAt b i).bl∧(ptAt b i).bh<=(ptAt o i).bh
end Go.Proofs
end
section
open Go Go.LL
namespace Go.Proofs
structure Learn (b o:Bk):Prop where
 op:o.op=b.op
 n:o.pts.length=b.pts.length
 bd:∀ i,i<b.pts.length->(ptAt o i).bl=(ptAt b i).bl∧(ptAt o i).bh=(ptAt b i).bh∧(ptAt o i).w=(ptAt b i).w
 sub:∀ x∈Zae o,x∈Zae b
theorem Learn.pos {b o:Bk}(h:Learn b o)(h0:0<(Zae o).length):0<(Zae b).length:=by
 obtain⟨x,hx⟩:=List.exists_mem_of_length_pos h0
 exact List.length_pos_of_mem (h.sub x hx)
end Go.Proofs
end
section
open Go Go.LL
namespace Go.Proofs
end Go.Proofs
end
section
open Go Go.LL
namespace Go.Proofs
end Go.Proofs
end
