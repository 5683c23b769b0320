import Derived.Test.YtamdhefhhdgjbaaGreatDoorN48
set_option linter.all false
section
open Go Go.LL
namespace Go.Proofs
def Lft (L:List Int)(i:Nat)(m:Int):Prop:=0<=m∧(∀ j,j<i->cntL L (L.getD j 0)<=m)∧(m=0∨∃ c,m=cntL L c)
theorem cnt_rg (L:List Int)(c:Int):0<=cntL L c∧cntL L c<=L.length:=by
 rw[cntL]
 have:=List.length_filter_le (fun z=>decide (z=c)) L
 omega
theorem cnt_take {L:List Int}{k:Nat}(hk:k<L.length)(c:Int):cntL (L.take (k+1)) c=cntL (L.take k) c+if c=L.getD k 0 then 1 else 0:=by
 rw[List.take_succ_eq_append_getElem hk,ZdL,Zmx hk]
theorem cntL_pos {L:List Int}{k:Nat}(hk:k<L.length):1<=cntL L (L.getD k 0):=by
 rw[cntL,Zmx hk]
 have:0<(L.filter fun z=>decide (z=L[k])).length:=List.length_pos_of_mem (List.mem_filter.2 ⟨List.getElem_mem hk,by simp⟩)
 omega
theorem cnt_none {L:List Int}{k:Nat}{c:Int}(hk:k<=L.length)(h:∀ j,j<k->L.getD j 0≠c):cntL (L.take k) c=0:=by
 rw[cntL]
 have:(L.take k).filter (fun z=>decide (z=c))=[]:=by
  rw[List.filter_eq_nil_iff]
  intro z hz
  obtain⟨j,hj,rfl⟩:=List.getElem_of_mem hz
  rw[List.length_take]at hj
  have:=h j (by omega)
  rw[Zmx (by omega)]at this
  rw[List.getElem_take]
  simpa using this
 rw[this];rfl
theorem lft_all {L:List Int}{i:Nat}{m:Int}(hi:i<L.length)(h:Lft L i m):Lft L (i+1) (max m (cntL L (L.getD i 0))):=by
 obtain⟨h1,h2,h3⟩:=h
 refine⟨by omega,fun j hj=>?_,?_⟩
 ·by_cases e:j=i
  ·subst e;omega
  ·have:=h2 j (by omega);omega
 ·by_cases e:m<=cntL L (L.getD i 0)
  ·exact .inr ⟨L.getD i 0,by omega⟩
  ·rw[show max m (cntL L (L.getD i 0))=m by omega];exact h3
theorem lft_one {L:List Int}{i k:Nat}{m:Int}(hi:i<L.length)(hk:k<i)(e:L.getD k 0=L.getD i 0)(h:Lft L i m):Lft L (i+1) (max m 1):=by
 obtain⟨h1,h2,h3⟩:=h
 have h4:=h2 k hk
 have h5:=cntL_pos hi
 rw[e]at h4
 rw[show max m 1=m by omega]
 refine⟨h1,fun j hj=>?_,h3⟩
 by_cases e:j=i
 ·subst e;exact h4
 ·exact h2 j (by omega)
theorem lft_end {b:Bk}{p:Nat}{m:Int}(h:Lft (ZaL b p) (ZaL b p).length m):m=askN b p:=by
 obtain⟨h1,h2,h3⟩:=h
 obtain⟨_,s2,s3⟩:=ZoQ (ZaL b p)
 have h0:=(askN_rg b p).1
 have hle:m<=askN b p:=by
  rcases h3 with h3 | ⟨c,h3⟩
  ·omega
  ·rw[h3];exact s2 c
 have hge:askN b p<=m:=by
  rcases s3 with s3 | ⟨c,hc,s3⟩
  ·rw[askN,s3];exact h1
  ·rw[askN,s3]
   obtain⟨j,hj,rfl⟩:=List.getElem_of_mem hc
   have:=h2 j hj
   rwa [Zmx hj]at this
 omega
section
variable  {P:Prg}[Tz P][Loud P]{H:Hp}
set_option maxHeartbeats 8000000
set_option maxRecDepth 20000
theorem Zo2 {v:Value}{b:Bk}{p:Nat}(val:ZbB b)(hp:p<b.pts.length)(hw:Zi8 b H v (Zae b)) :
  LL.Zai P 124 #[v,vi p] H fun w H'=>H=H'∧w=vi (askN b p):=by
 have hs:=Loud.loud (P:=P)
 obtain⟨rows,s1,r1⟩:=hw
 have hrl:=r1.len
 have hll:=Za8 val
 have hn:=val.n
 have hrow:∀ k (hk:k<rows.length),SlAt H rows[k].g (Zcs b ((Zae b)[k]'(by omega)))∧(Zcs b ((Zae b)[k]'(by omega))).getD p 0=(ZaL b p).getD k 0:=fun k hk=>by
  obtain⟨_,_,q3⟩:=r1.at_ k hk (by omega)
  have hLl:(ZaL b p).length=rows.length:=by rw[ZaL,List.length_map,hrl]
  refine⟨q3,?_⟩
  rw[Zor val _ hp,Zmx (by omega)]
  simp only[ZaL,List.getElem_map]
 have hLl:(ZaL b p).length=rows.length:=by rw[ZaL,List.length_map,hrl]
 have hgl:=Zos val
 have hend:∀ {m:Int},Lft (ZaL b p) rows.length m->m=askN b p:=fun h=>lft_end (by rw[hLl];exact h)
 generalize ZaL b p=L at *
 refine IsN.m (isn c124) (args:=[v,vi p]) rfl ?_
 unfold n124
 refine wkT ?_
 refine Zax (α:=Int) rows.length (fun i m H'=>H=H'∧Lft L i m) (fun i m=>[(0,v),(1,vi p),(5,vi m),(6,vi i)]) (fun _ _=>[]) 0 ⟨rfl,⟨Int.le_refl _,fun j hj=>absurd hj (by omega),.inl rfl⟩⟩ ⟨rfl,rfl,rfl,rfl,trivial⟩ trivial ?_
 rintro i m _ hi ⟨rfl,hm⟩
 refine wkT ?_
 refine Zal s1 rfl ?_
 refine wkT ?_
 refine wiT (fun h1=>?_) (fun h1=>?_)
 ·have hi':i<rows.length:=by omega
  refine wkT ?_
  refine ZaP rows.length (fun k H'=>H=H'∧∀ j,j<k->j<i->L.getD j 0≠L.getD i 0) (fun k=>[(0,v),(1,vi p),(5,vi m),(6,vi i),(7,vb true),(8,vi (cntL (L.take k) (L.getD i 0))),(9,vi k)]) (fun _=>[]) ⟨rfl,fun j hj=>absurd hj (by omega)⟩ ⟨rfl,rfl,rfl,rfl,rfl,rfl,rfl,trivial⟩ trivial ?_
  rintro k _ hk ⟨rfl,hI⟩
  have hcr:=cnt_rg (L.take k) (L.getD i 0)
  have htl:(L.take k).length<=1782:=by rw[List.length_take];omega
  refine wkT ?_
  refine Zal s1 rfl ?_
  refine wkT ?_
  refine wiT (fun h2=>?_) (fun h2=>?_)
  ·have hk':k<rows.length:=by omega
   obtain⟨g1,e1⟩:=hrow k hk'
   obtain⟨g2,e2⟩:=hrow i hi'
   have l1:=hgl ((Zae b)[k]'(by omega))
   have l2:=hgl ((Zae b)[i]'(by omega))
   have hct:=cnt_take (L:=L) (k:=k) (by omega) (L.getD i 0)
   rw[Zmx (by omega)]at e1 e2
   refine wkT ?_
   refine Zar s1 rfl rfl rfl (i:=k) hk' fun a ha=>?_
   refine wkT ?_
   refine Zaf (hs _) rfl (show CellsAt H (a.add 3) [rows[k].g] from Zbl (j:=3) ha rfl) ?_
   refine wkT ?_
   refine Zar g1 rfl rfl rfl (i:=p) (by omega) fun a ha=>?_
   rw[e1]at ha
   refine wkT ?_
   refine Zaf (hs _) rfl ha ?_
   refine wkT ?_
   refine Zar s1 rfl rfl rfl (i:=i) hi' fun a ha=>?_
   refine wkT ?_
   refine Zaf (hs _) rfl (show CellsAt H (a.add 3) [rows[i].g] from Zbl (j:=3) ha rfl) ?_
   refine wkT ?_
   refine Zar g2 rfl rfl rfl (i:=p) (by omega) fun a ha=>?_
   rw[e2]at ha
   refine wkT ?_
   refine Zaf (hs _) rfl ha ?_
   refine wkT ?_
   refine wiT (fun h3=>?_) (fun h3=>?_)
   ·rw[if_pos h3.symm]at hct
    refine wkT ?_
    refine wiT (fun h4=>?_) (fun h4=>?_)
    ·refine wkT ?_
     have hki:k<i:=by omega
     rw[cnt_none (by omega) fun j hj=>hI j hj (by omega)]
     refine ZjA rfl rfl ?_
     refine wkT ?_
     exact⟨(⟨i+1,by omega⟩,max m 1),slt (by omega),⟨rfl,lft_one (by omega) hki h3 hm⟩,⟨rfl,rfl,rfl,rfl,trivial⟩,trivial,rfl⟩
    ·refine wkT ?_
     exact⟨⟨k+1,by omega⟩,slt (by omega),⟨rfl,fun j hj hji=>hI j (by have hj:j<k+1:=hj;omega) hji⟩,⟨rfl,rfl,rfl,rfl,by show some (vb (decide ((i:Int)<=(k:Int))))=some (vb true);rw[decide_eq_true (by omega)],by rw[hct];rfl,rfl,trivial⟩,trivial,rfl⟩
   ·rw[if_neg fun e=>h3 e.symm,Int.add_zero]at hct
    refine wkT ?_
    exact⟨⟨k+1,by omega⟩,slt (by omega),⟨rfl,fun j hj hji=>by
     have hj:j<k+1:=hj
     by_cases e:j=k
     ·subst e;exact h3
     ·exact hI j (by omega) hji⟩,⟨rfl,rfl,rfl,rfl,rfl,by rw[hct];rfl,rfl,trivial⟩,trivial,rfl⟩
  ·have:k=rows.length:=by omega
   subst this
   rw[List.take_of_length_le (by omega)]
   refine wkT ?_
   refine ZjA rfl rfl ?_
   refine wkT ?_
   exact⟨(⟨i+1,by omega⟩,max m (cntL L (L.getD i 0))),slt (by omega),⟨rfl,lft_all (by omega) hm⟩,⟨rfl,rfl,rfl,rfl,trivial⟩,trivial,rfl⟩
 ·have:i=rows.length:=by omega
  subst this
  refine wkT ?_
  exact⟨rfl,by rw[<-hend hm];rfl⟩
theorem AskR_ok {bv:Value}{b:Bk}(hb:BkAt H bv b)(hl:b.pts.length<=1000000)(hl2:b.cks.length<=1000000) :
  LL.Zai P 40 #[bv] H fun v H'=>Inc H H'∧v=.tuple #[vi (if Zag b true=0 then (askF b).1 else 0),vi (if Zag b true=0 then (askF b).2 else 0),vi (Zag b true)]:=by
 have hs:=Loud.loud (P:=P)
 have hb0:=hb
 obtain⟨pv,cv,rfl,hp,hc⟩:=hb
 refine IsN.m (isn c40) (args:=[.agg #[vi b.op,vi b.sl,pv,cv]]) rfl ?_
 unfold n40
 refine wkT ?_
 refine Zab (vs:=[.agg #[vi b.op,vi b.sl,pv,cv],vb true]) rfl (openR_ok (there:=true) hb0 hl hl2) ?_
 rintro v H1 ⟨i1,A,c,rfl,hw⟩
 refine wkT ?_
 refine wiT (fun h1=>?_) (fun h1=>?_)
 ·refine wkT ?_
  exact⟨i1,by rw[if_neg h1,if_neg h1];rfl⟩
 have e2:opL b true=Zae b:=if_pos h1
 have val:=Zmh h1
 have hn:=val.n
 rw[e2]at hw ⊢
 have hll:=Za8 val
 refine wkT ?_
 refine ZaP b.pts.length (fun j H'=>H1=H') (fun j=>[(1,vi 0),(5,.slice A (Zae b).length c),(7,vi (askL b j).1),(8,vi (askL b j).2),(9,vi j)]) (fun _=>[(1,[vi b.op,vi b.sl,pv,cv])]) rfl ⟨rfl,rfl,rfl,rfl,rfl,trivial⟩ ⟨rfl,trivial⟩ ?_
 rintro j _ hj rfl
 refine wkT ?_
 refine Zal (hp.inc i1) rfl ?_
 refine wkT ?_
 refine wiT (fun h2=>?_) (fun h2=>?_)
 ·have hj':j<b.pts.length:=by omega
  have has:=Zj7 b j
  rw[show (askW (ZaL b j)).2=askN b j from rfl]at has
  refine wkT ?_
  refine Zab (vs:=[.slice A (Zae b).length c,vi j]) rfl (Zo2 val hj' hw) ?_
  rintro v _ ⟨rfl,rfl⟩
  refine wkT ?_
  refine wiT (fun h3=>?_) (fun h3=>?_)
  ·rw[if_pos h3]at has
   refine wkT ?_
   exact⟨⟨j+1,by omega⟩,slt (by omega),rfl,⟨rfl,rfl,by rw[has];rfl,by rw[has];rfl,rfl,trivial⟩,⟨rfl,trivial⟩,rfl⟩
  ·rw[if_neg h3]at has
   refine wkT ?_
   exact⟨⟨j+1,by omega⟩,slt (by omega),rfl,⟨rfl,rfl,by rw[has];rfl,by rw[has];rfl,rfl,trivial⟩,⟨rfl,trivial⟩,rfl⟩
 ·have:j=b.pts.length:=by omega
  subst this
  refine wkT ?_
  exact⟨i1,by rw[if_pos h1,if_pos h1,h1];rfl⟩
end
theorem ZcZ {x y:Int}{a c:List Int}:cmpL (x :: a) (y :: c)<0↔x<y∨(x=y∧cmpL a c<0):=by
 rw[cmpL,cmpI]
 by_cases h1:x<y
 ·simp[h1]
 ·by_cases h2:y<x
  ·simp[h1,h2];omega
  ·have:x=y:=by omega
   simp[this]
theorem Zj2:∀ a:List Int,¬ cmpL a a<0
 | []=>by simp[cmpL]
 | x :: a=>by rw[ZcZ];have:=Zj2 a;omega
theorem Zj3:∀ {a c:List Int},cmpL a c<0->¬ cmpL c a<0
 | [],[],h=>by simp[cmpL]at h
 | [],_ :: _,_=>by simp[cmpL]
 | _ :: _,[],h=>by simp[cmpL]at h
 | x :: a,y :: c,h=>by
  rw[ZcZ]at h ⊢
  rcases h with h | ⟨rfl,h⟩
  ·omega
  ·have:=Zj3 h;omega
theorem ZoE:∀ {a c:List Int} (d:List Int),cmpL a c<0->cmpL a d<0∨cmpL d c<0
 | [],[],_,h=>by simp[cmpL]at h
 | _ :: _,[],_,h=>by simp[cmpL]at h
 | [],_ :: _,[],_=>by simp[cmpL]
 | [],_ :: _,_ :: _,_=>by simp[cmpL]
 | _ :: _,_ :: _,[],_=>by simp[cmpL]
 | x :: a,y :: c,z :: d,h=>by
  rw[ZcZ]at h ⊢
  rw[ZcZ]
  rcases h with h | ⟨rfl,h⟩
  ·by_cases h2:x<z
   ·exact .inl (.inl h2)
   ·exact .inr (.inl (by omega))
  ·by_cases h2:x<z
   ·exact .inl (.inl h2)
   ·by_cases h3:z<x
    ·exact .inr (.inl h3)
    ·obtain rfl:x=z:=by omega
     rcases ZoE d h with h | h
     ·exact .inl (.inr ⟨rfl,h⟩)
     ·exact .inr (.inr ⟨rfl,h⟩)
theorem Zfj {a c:List Int}:fewF a c=true↔a.length<c.length∨(a.length=c.length∧cmpL a c<0):=by simp[fewF]
theorem ZlJ (a:List Int):¬ fewF a a=true:=by rw[Zfj];have:=Zj2 a;omega
theorem ZlK {a c:List Int}(h:fewF a c=true):¬ fewF c a=true:=by
 rw[Zfj]at h ⊢
 rcases h with h | ⟨h1,h2⟩
 ·omega
 ·have:=Zj3 h2;omega
theorem Zox {a c:List Int}(d:List Int)(h:fewF a c=true):fewF a d=true∨fewF d c=true:=by
 rw[Zfj,Zfj]
 rw[Zfj]at h
 rcases h with h | ⟨h1,h2⟩
 ·omega
 ·have:=ZoE d h2
  omega
theorem Zfr {α:Type}{bet:α->α->Bool}(irr:∀ a,¬ bet a a=true)(asym:∀ a c,bet a c=true->¬ bet c a=true)(co:∀ a c d,bet a c=true->bet a d=true∨bet d c=true) :
  ∀ (l:List α) (f:α),(Zbe bet f l=f∨Zbe bet f l∈l)∧∀ q,q=f∨q∈l->¬ bet q (Zbe bet f l)=true
 | [],f=>⟨.inl rfl,fun q hq=>by
  rcases hq with rfl | hq
  ·exact irr _
  ·simp at hq⟩
 | x :: l,f=>by
  have e:Zbe bet f (x :: l)=Zbe bet (if bet x f then x else f) l:=rfl
  rw[e]
  by_cases hx:bet x f=true
  ·rw[if_pos hx]
   obtain⟨h1,h2⟩:=Zfr irr asym co l x
   refine⟨.inr (List.mem_cons.2 h1),fun q hq=>?_⟩
   rcases hq with rfl | hq
   ·intro hb
    rcases co _ _ x hb with h | h
    ·exact asym _ _ hx h
    ·exact h2 x (.inl rfl) h
   ·exact h2 q (List.mem_cons.1 hq)
  ·rw[if_neg hx]
   obtain⟨h1,h2⟩:=Zfr irr asym co l f
   refine⟨h1.imp id (List.mem_cons_of_mem _),fun q hq=>?_⟩
   rcases hq with rfl | hq
   ·exact h2 _ (.inl rfl)
   ·rcases List.mem_cons.1 hq with rfl | hq
    ·intro hb
     rcases co _ _ f hb with h | h
     ·exact hx h
     ·exact h2 f (.inl rfl) h
    ·exact h2 q (.inr hq)
theorem best_few {L:List (List Int)}(h:L≠[]):Zbe fewF (L.getD 0 []) (L.drop 1)∈L∧∀ q∈L,¬ fewF q (Zbe fewF (L.getD 0 []) (L.drop 1))=true:=by
 cases L with
 | nil=>exact absurd rfl h
 | cons f l=>
  obtain⟨h1,h2⟩:=Zfr ZlJ (fun _ _=>ZlK) (fun _ _ d=>Zox d) l f
  exact⟨List.mem_cons.2 h1,fun q hq=>h2 q (List.mem_cons.1 hq)⟩
def Asc (n:Nat)(l:List Int):Prop:=l.Pairwise (·<·)∧∀ z∈l,0<=z∧z<n
theorem ZoT (m n:Nat):Asc n (Zbu m n):=by
 refine⟨?_,fun z hz=>?_⟩
 ·rw[Zbu,List.pairwise_map]
  refine List.Pairwise.imp (fun h=>?_) ((List.pairwise_lt_range (n:=n)).sublist (List.filter_sublist (p:=fun i=>m.testBit i)))
  omega
 ·obtain⟨i,hi,rfl⟩:=List.mem_map.1 hz
  have:=(List.mem_filter.1 hi).1
  rw[List.mem_range]at this
  omega
theorem Zi1:∀ {n:Nat} {l:List Int},Asc n l->∃ m,m<2 ^ n∧Zbu m n=l
 | 0,l,⟨_,h⟩=>by
  have:l=[]:=List.eq_nil_iff_forall_not_mem.2 fun z hz=>by have:=h z hz;omega
  exact⟨0,by decide,by rw[this];rfl⟩
 | n+1,l,⟨h1,h2⟩=>by
  have keep:Asc n l->∃ m,m<2 ^ (n+1)∧Zbu m (n+1)=l:=fun h=>by
   obtain⟨m,hm,e⟩:=Zi1 h
   refine⟨m,by rw[Nat.pow_succ];omega,?_⟩
   rw[Zbu,ZgI,Nat.testBit_lt_two_pow hm]
   simpa[Zbu]using e
  rcases List.eq_nil_or_concat l with rfl | ⟨l',z,rfl⟩
  ·exact keep ⟨.nil,by simp⟩
  ·rw[List.concat_eq_append]at *
   rw[List.pairwise_append]at h1
   obtain⟨a1,_,a3⟩:=h1
   have hz:=h2 z (by simp)
   have hl:∀ y∈l',y<z:=fun y hy=>a3 y hy z (by simp)
   by_cases e:z=n
   ·have hA:Asc n l':=⟨a1,fun y hy=>⟨(h2 y (by simp[hy])).1,by have:=hl y hy;omega⟩⟩
    obtain⟨m,hm,em⟩:=Zi1 hA
    refine⟨2 ^ n+m,by rw[Nat.pow_succ];omega,?_⟩
    have e1:ZfK (2 ^ n+m) n=ZfK m n:=List.filter_congr fun i hi=>Nat.testBit_two_pow_add_gt (List.mem_range.1 hi) m
    rw[Zbu,ZgI,e1,Nat.testBit_two_pow_add_eq,Nat.testBit_lt_two_pow hm]
    rw[Zbu]at em
    simp[em,e]
   ·refine keep ⟨List.pairwise_append.2 ⟨a1,List.pairwise_singleton _ _,a3⟩,fun y hy=>?_⟩
    have:=h2 y hy
    rcases List.mem_append.1 hy with hy | hy
    ·have:=hl y hy;omega
    ·rw[List.mem_singleton.1 hy];omega
def Zd3 (b:Bk)(l:List Int):Bk:={ b with cks:=l.map fun z=>ckAt b z.toNat }
theorem ZhC (b:Bk)(m:Nat):Zd3 b (Zcc b m)=Zdp b m:=by
 have:(Zcc b m).map (fun z=>ckAt b z.toNat)=Zcd b m b.cks.length:=by
  rw[Zcc,Zbu,Zcd,List.map_map]
  exact List.map_congr_left fun i _=>rfl
 rw[Zd3,Zdp,this]
theorem Zli {b:Bk}{l:List Int}(h:Asc b.cks.length l):∃ m,m<2 ^ b.cks.length∧Zcc b m=l∧Zd3 b l=Zdp b m:=by
 obtain⟨m,hm,e⟩:=Zi1 h
 exact⟨m,hm,e,by rw[<-ZhC,show Zcc b m=l from e]⟩
theorem ZlY {b:Bk}{l:List Int}(v:ZbB b)(h:Asc b.cks.length l):ZbB (Zd3 b l):=by
 obtain⟨m,_,_,e⟩:=Zli h
 rw[e];exact v.alone m
theorem ZnX {b:Bk}{l:List Int}:l∈oddF b (2 ^ b.cks.length)↔∃ m,m<2 ^ b.cks.length∧Zbg (Zdp b m)=false∧Zcc b m=l:=by
 rw[oddF,List.mem_map]
 constructor
 ·rintro⟨m,hm,e⟩
  obtain⟨h1,h2⟩:=List.mem_filter.1 hm
  exact⟨m,List.mem_range.1 h1,by simpa using h2,e⟩
 ·rintro⟨m,h1,h2,e⟩
  exact⟨m,List.mem_filter.2 ⟨List.mem_range.2 h1,by simp[h2]⟩,e⟩
theorem Zh0 {b:Bk}(h:Zbg b=false):Asc b.cks.length (Zea b)∧Zbg (Zd3 b (Zea b))=false∧∀ l,Asc b.cks.length l->Zbg (Zd3 b l)=false->¬ fewF l (Zea b)=true:=by
 have hne:oddF b (2 ^ b.cks.length)≠[]:=fun e=>by have:=ZnU h;rw[e]at this;simp at this
 obtain⟨h1,h2⟩:=best_few hne
 obtain⟨m,hm,h3,e⟩:=ZnX.1 h1
 have e:Zcc b m=Zea b:=e
 refine⟨by rw[<-e];exact ZoT _ _,by rw[<-e,ZhC];exact h3,fun l hl hs=>?_⟩
 obtain⟨m',hm',e',e2⟩:=Zli hl
 exact h2 l (ZnX.2 ⟨m',hm',by rw[<-e2];exact hs,e'⟩)
theorem asc_get {n:Nat}{l:List Int}(h:Asc n l){j:Nat}(hj:j<l.length):0<=l[j]∧l[j]<n:=h.2 _ (List.getElem_mem hj)
section
variable  {P:Prg}[Tz P][Loud P]{H:Hp}
set_option maxHeartbeats 8000000
set_option maxRecDepth 20000
theorem Zo9 {u w:Value}{a b:List Int}(ha:SlAt H u a)(hb:SlAt H w b)(hl:a.length<=1000000)(hl2:b.length<=1000000):LL.Zai P 135 #[u,w] H fun v H'=>H=H'∧v=vb (decide (cmpL a b<0)):=by
 have hs:=Loud.loud (P:=P)
 refine IsN.m (isn c135) (args:=[u,w]) rfl ?_
 unfold n135
 refine wkT ?_
 refine ZaP a.length (fun j H'=>H=H'∧j<=b.length∧cmpL a b=cmpL (a.drop j) (b.drop j)) (fun j=>[(0,u),(1,w),(5,vi j)]) (fun _=>[]) ⟨rfl,Nat.zero_le _,rfl⟩ ⟨rfl,rfl,rfl,trivial⟩ trivial ?_
 rintro j _ hj ⟨rfl,hjb,hall⟩
 refine wkT ?_
 refine Zal ha rfl ?_
 refine wkT ?_
 refine wiT (fun h1=>?_) (fun h1=>?_)
 ·have hj':j<a.length:=by omega
  rw[ZbL hj']at hall
  refine wkT ?_
  refine Zal hb rfl ?_
  refine wkT ?_
  refine wiT (fun h2=>?_) (fun h2=>?_)
  ·have hj2:j<b.length:=by omega
   rw[ZbL hj2]at hall
   refine wkT ?_
   refine Zar ha rfl rfl rfl (i:=j) hj' fun p hp=>?_
   refine wkT ?_
   refine Zaf (hs _) rfl hp ?_
   refine wkT ?_
   refine Zar hb rfl rfl rfl (i:=j) hj2 fun q hq=>?_
   refine wkT ?_
   refine Zaf (hs _) rfl hq ?_
   refine wkT ?_
   refine wiT (fun h3=>?_) (fun h3=>?_)
   ·refine wkT ?_
    refine Zar ha rfl rfl rfl (i:=j) hj' fun p hp=>?_
    refine wkT ?_
    refine Zaf (hs _) rfl hp ?_
    refine wkT ?_
    refine Zar hb rfl rfl rfl (i:=j) hj2 fun q hq=>?_
    refine wkT ?_
    refine Zaf (hs _) rfl hq ?_
    refine wkT ?_
    refine⟨rfl,?_⟩
    rw[hall]
    refine congrArg vb (decide_eq_decide.2 ?_)
    rw[ZcZ]
    omega
   ·refine wkT ?_
    refine for_next (I:=fun j H'=>H=H'∧j<=b.length∧cmpL a b=cmpL (a.drop j) (b.drop j)) (env:=fun j=>[(0,u),(1,w),(5,vi j)]) (box:=fun _=>[]) hj' ⟨rfl,hj2,?_⟩ ⟨rfl,rfl,rfl,trivial⟩ trivial rfl
    rw[hall,cmpL,cmpI,if_neg (by rw[if_neg (by omega),if_neg (by omega)];decide)]
  ·refine wkT ?_
   refine Zal ha rfl ?_
   refine wkT ?_
   refine Zal hb rfl ?_
   refine wkT ?_
   refine⟨rfl,?_⟩
   rw[List.drop_eq_nil_of_le (show b.length<=j by omega)]at hall
   rw[hall]
   refine congrArg vb (decide_eq_decide.2 ?_)
   rw[cmpL]
   omega
 ·have:j=a.length:=by omega
  subst this
  rw[List.drop_length]at hall
  refine wkT ?_
  refine Zal ha rfl ?_
  refine wkT ?_
  refine Zal hb rfl ?_
  refine wkT ?_
  refine⟨rfl,?_⟩
  rw[hall]
  refine congrArg vb (decide_eq_decide.2 ?_)
  rcases Nat.lt_or_ge a.length b.length with h | h
  ·rw[ZbL h,cmpL];omega
  ·rw[List.drop_eq_nil_of_le h,cmpL];omega
theorem Fewer_ok {u w:Value}{a b:List Int}(ha:SlAt H u a)(hb:SlAt H w b)(hl:a.length<=1000000)(hl2:b.length<=1000000):LL.Zai P 71 #[u,w] H fun v H'=>H=H'∧v=vb (fewF a b):=by
 have hs:=Loud.loud (P:=P)
 refine IsN.m (isn c71) (args:=[u,w]) rfl ?_
 unfold n71
 refine wkT ?_
 refine Zal ha rfl ?_
 refine wkT ?_
 refine Zal hb rfl ?_
 refine wkT ?_
 refine wiT (fun h1=>?_) (fun h1=>?_)
 ·refine wkT ?_
  exact⟨rfl,by rw[fewF,decide_eq_true (show a.length<b.length by omega)];rfl⟩
 ·refine wkT ?_
  refine Zal ha rfl ?_
  refine wkT ?_
  refine Zal hb rfl ?_
  refine wkT ?_
  refine wiT (fun h2=>?_) (fun h2=>?_)
  ·refine wkT ?_
   refine Zab (vs:=[u,w]) rfl (Zo9 ha hb hl hl2) ?_
   rintro v _ ⟨rfl,rfl⟩
   refine wkT ?_
   exact⟨rfl,by rw[fewF,decide_eq_false (show ¬ a.length<b.length by omega),decide_eq_true (show a.length=b.length by omega)];rfl⟩
  ·refine wkT ?_
   exact⟨rfl,by rw[fewF,decide_eq_false (show ¬ a.length<b.length by omega),decide_eq_false (show ¬ a.length=b.length by omega)];rfl⟩
theorem ZnM {b:Bk}{l:List Int}{j:Nat}(hj:j<l.length):(l.take (j+1)).map (fun z=>ckAt b z.toNat)=(l.take j).map (fun z=>ckAt b z.toNat)++[ckAt b l[j].toNat]:=by
 rw[List.take_succ_eq_append_getElem hj,List.map_append];rfl
theorem Only_ok {bv lv:Value}{b:Bk}{l:List Int}(val:ZbB b)(hb:BkAt H bv b)(hl:SlAt H lv l)(hA:Asc b.cks.length l)(hln:l.length<=1000000):LL.Zai P 69 #[bv,lv] H fun v H'=>Inc H H'∧BkAt H' v (Zd3 b l):=by
 have hs:=Loud.loud (P:=P)
 have hck:=val.ckn
 obtain⟨pv,cv,rfl,hp,hc⟩:=hb
 obtain⟨Ap,cp,rfl,hp'⟩:=id hp
 obtain⟨Ac,cc,rfl,hc'⟩:=id hc
 refine IsN.m (isn c69) (args:=[.agg #[vi b.op,vi b.sl,.slice Ap b.pts.length cp,.slice Ac b.cks.length cc],lv]) rfl ?_
 unfold n69
 refine wkT ?_
 refine Zax (α:=(Option Addr×Nat×Nat)×Option Nat) l.length (fun j s H'=>Inc H H'∧Own H H' 51 (.slice s.1.1 s.1.2.1 s.1.2.2) ((l.take j).map fun z=>ckAt b z.toNat) s.2)
  (fun j s=>[(1,lv),(2,vi 0),(4,vi 0),(5,vi 0),(6,vi j)]) (fun _ s=>[(2,[vi b.op,vi b.sl,.slice Ap b.pts.length cp,.slice Ac b.cks.length cc]),(4,[vi 0,vi 0,.slice none 0 0,.slice none 0 0]),(5,[vi b.op,vi b.sl,.slice Ap b.pts.length cp,.slice s.1.1 s.1.2.1 s.1.2.2])]) ((none,0,0),none) ⟨.refl _,.nil _ _ _⟩ ⟨rfl,rfl,rfl,rfl,rfl,trivial⟩ ⟨rfl,rfl,rfl,trivial⟩ ?_
 rintro j ⟨⟨A5,l5,c5⟩,b5⟩ H2 hj ⟨i2,o5⟩
 simp only at o5
 refine wkT ?_
 refine Zal (hl.inc i2) rfl ?_
 refine wkT ?_
 refine wiT (fun h1=>?_) (fun h1=>?_)
 ·have hj':j<l.length:=by omega
  have hsn:=ZnM (b:=b) hj'
  have htl:((l.take j).map fun z=>ckAt b z.toNat).length=j:=by rw[List.length_map,List.length_take];omega
  have hr:=asc_get hA hj'
  obtain⟨n,en⟩:∃ n:Nat,l[j]=n:=⟨l[j].toNat,by omega⟩
  have hnc:n<b.cks.length:=by omega
  have ec:ckAt b l[j].toNat=b.cks[n]:=by rw[en,Int.toNat_natCast];exact ZaG hnc _
  rw[ec]at hsn
  refine wkT ?_
  refine Zar (hl.inc i2) rfl rfl rfl (i:=j) hj' fun a ha=>?_
  rw[en]at ha
  refine wkT ?_
  refine Zaf (hs _) rfl ha ?_
  refine wkT ?_
  refine Zar (hc.inc i2) rfl rfl rfl (i:=n) hnc fun a2 ha2=>?_
  rw[ckE]at ha2
  refine wkT ?_
  refine Zam (hs _) rfl ha2 rfl ?_
  refine wkT ?_
  refine Zao (cs:=[vi b.cks[n].p,vi b.cks[n].gl,vi b.cks[n].gh]) (hs _) rfl fun r5 hr5=>?_
  refine kp_l hs ?_
  refine wkT ?_
  refine ZaR (l':=[b.cks[n]]) (und u23) (und u23) (tif t51) rfl (by decide) (i2.trans (Zah hr5)) (o5.ins hr5) Zig rfl (by rw[htl];simp only[List.length_singleton];omega) (by omega) rfl rfl (hs _) fun v7 H4 b7 k1 k2 k3=>?_
  rw[<-hsn]at k2
  obtain⟨A7,c7,rfl⟩:=own_len k2
  refine wkT ?_
  exact⟨(⟨j+1,by omega⟩,((A7,_,c7),b7)),slt (by omega),⟨k1,k2⟩,⟨rfl,rfl,rfl,rfl,rfl,trivial⟩,⟨rfl,rfl,rfl,trivial⟩,rfl⟩
 have:j=l.length:=by omega
 subst this
 rw[List.take_length]at o5
 refine wkT ?_
 exact⟨i2,_,_,rfl,hp.inc i2,o5.sl⟩
end
def subL:Nat->List (List Int)
 | 0=>[[]]
 | i+1=>subL i++(subL i).map (·++[(i:Int)])
theorem Zkj:∀ i,(subL i).length=2 ^ i
 | 0=>rfl
 | i+1=>by rw[subL,List.length_append,List.length_map,Zkj i,Nat.pow_succ];omega
theorem Zgo:∀ {n:Nat} {l:List Int},l∈subL n↔Asc n l
 | 0,l=>by
  rw[subL,List.mem_singleton]
  constructor
  ·rintro rfl;exact⟨.nil,by simp⟩
  ·intro ⟨_,h⟩
   exact List.eq_nil_iff_forall_not_mem.2 fun z hz=>by have:=h z hz;omega
 | n+1,l=>by
  have ih:=fun l=>Zgo (n:=n) (l:=l)
  rw[subL,List.mem_append,ih,List.mem_map]
  constructor
  ·rintro(h | ⟨a,ha,rfl⟩)
   ·exact⟨h.1,fun z hz=>by have:=h.2 z hz;omega⟩
   ·have ha:=(ih a).1 ha
    refine⟨List.pairwise_append.2 ⟨ha.1,List.pairwise_singleton _ _,fun y hy z hz=>?_⟩,fun z hz=>?_⟩
    ·rw[List.mem_singleton.1 hz];exact(ha.2 y hy).2
    ·rcases List.mem_append.1 hz with hz | hz
     ·have:=ha.2 z hz;omega
     ·rw[List.mem_singleton.1 hz];omega
  ·intro ⟨h1,h2⟩
   rcases List.eq_nil_or_concat l with rfl | ⟨l',z,rfl⟩
   ·exact .inl ⟨.nil,by simp⟩
   ·rw[List.concat_eq_append]at *
    rw[List.pairwise_append]at h1
    obtain⟨a1,_,a3⟩:=h1
    have hz:=h2 z (by simp)
    have hl:∀ y∈l',y<z:=fun y hy=>a3 y hy z (by simp)
    by_cases e:z=n
    ·refine .inr ⟨l',(ih l').2 ⟨a1,fun y hy=>⟨(h2 y (by simp[hy])).1,by have:=hl y hy;omega⟩⟩,by rw[e]⟩
    ·refine .inl ⟨List.pairwise_append.2 ⟨a1,List.pairwise_singleton _ _,a3⟩,fun y hy=>?_⟩
     have:=h2 y hy
     rcases List.mem_append.1 hy with hy | hy
     ·have:=hl y hy;omega
     ·rw[List.mem_singleton.1 hy];omega
theorem ZeM {n:Nat}{l:List Int}(h:Asc n l):l.length<=n:=asc_len (lo:=0) h.1 fun z hz=>by have:=h.2 z hz;omega
def ZbD (n:Nat):List Int:=(List.range n).map fun (i:Nat)=>(i:Int)
theorem Zjs (n:Nat):Asc n (ZbD n):=by
 refine⟨?_,fun z hz=>?_⟩
 ·rw[ZbD,List.pairwise_map]
  exact List.Pairwise.imp (fun h=>by omega) (List.pairwise_lt_range (n:=n))
 ·obtain⟨i,hi,rfl⟩:=List.mem_map.1 hz
  rw[List.mem_range]at hi
  omega
theorem Zmi (b:Bk):Zd3 b (ZbD b.cks.length)=b:=by
 have:(ZbD b.cks.length).map (fun z=>ckAt b z.toNat)=b.cks:=by
  refine List.ext_getElem (by simp[ZbD]) fun i h1 h2=>?_
  simp only[ZbD,List.map_map,List.getElem_map,List.getElem_range,Function.comp,Int.toNat_natCast]
  exact ZaG h2 _
 rw[Zd3,this]
theorem ZoD:∀ {a c:List Int},a.length=c.length->¬ cmpL a c<0->¬ cmpL c a<0->a=c
 | [],[],_,_,_=>rfl
 | [],_ :: _,h,_,_=>by simp at h
 | _ :: _,[],h,_,_=>by simp at h
 | x :: a,y :: c,h,h1,h2=>by
  rw[ZcZ]at h1 h2
  obtain rfl:x=y:=by omega
  rw[ZoD (a:=a) (c:=c) (by simpa using h) (fun e=>h1 (.inr ⟨rfl,e⟩)) (fun e=>h2 (.inr ⟨rfl,e⟩))]
theorem few_tri {a c:List Int}(h1:¬ fewF a c=true)(h2:¬ fewF c a=true):a=c:=by
 rw[Zfj]at h1 h2
 exact ZoD (by omega) (fun e=>h1 (.inr ⟨by omega,e⟩)) (fun e=>h2 (.inr ⟨by omega,e⟩))
def ZeJ (b:Bk)(r l:List Int):List Int:=if fewF l r=true∧Zbg (Zd3 b l)=false then l else r
def clB (b:Bk)(L:List (List Int))(f:List Int):List Int:=L.foldl (ZeJ b) f
theorem clB_snoc (b:Bk)(L:List (List Int))(f l:List Int):clB b (L++[l]) f=ZeJ b (clB b L f) l:=by rw[clB,List.foldl_append];rfl
theorem ZiX (b:Bk){n:Nat}:∀ (L:List (List Int)) (f:List Int),(∀ l∈L,Asc n l)->Asc n f->Zbg (Zd3 b f)=false->(Asc n (clB b L f)∧Zbg (Zd3 b (clB b L f))=false)∧(¬ fewF f (clB b L f)=true)∧∀ l∈L,Zbg (Zd3 b l)=false->¬ fewF l (clB b L f)=true
 | [],f,_,h1,h2=>⟨⟨h1,h2⟩,ZlJ f,by simp⟩
 | x :: L,f,hL,h1,h2=>by
  have e:clB b (x :: L) f=clB b L (ZeJ b f x):=rfl
  rw[e]
  have hL':∀ l∈L,Asc n l:=fun l hl=>hL l (List.mem_cons_of_mem _ hl)
  by_cases hx:fewF x f=true∧Zbg (Zd3 b x)=false
  ·rw[ZeJ,if_pos hx]
   obtain⟨q1,q2,q3⟩:=ZiX b L x hL' (hL x (by simp)) hx.2
   refine⟨q1,fun h=>?_,fun l hl ho=>?_⟩
   ·rcases Zox x h with h | h
    ·exact ZlK hx.1 h
    ·exact q2 h
   ·rcases List.mem_cons.1 hl with rfl | hl
    ·exact q2
    ·exact q3 l hl ho
  ·rw[ZeJ,if_neg hx]
   obtain⟨q1,q2,q3⟩:=ZiX b L f hL' h1 h2
   refine⟨q1,q2,fun l hl ho=>?_⟩
   rcases List.mem_cons.1 hl with rfl | hl
   ·intro h
    rcases Zox f h with h | h
    ·exact hx ⟨h,ho⟩
    ·exact q2 h
   ·exact q3 l hl ho
theorem ZoF {b:Bk}(h:Zbg b=false):clB b (subL b.cks.length) (ZbD b.cks.length)=Zea b:=by
 obtain⟨h1,h2,h3⟩:=Zh0 h
 obtain⟨⟨q1,q2⟩,_,q3⟩:=ZiX b (n:=b.cks.length) (subL b.cks.length) (ZbD b.cks.length) (fun l hl=>Zgo.1 hl) (Zjs _) (by rw[Zmi];exact h)
 exact few_tri (h3 _ q1 q2) (q3 _ (Zgo.2 h1) h2)
end Go.Proofs
end
