/- proofs about Leango given: part Le1; made by a program out of the longer texts in wip -/
import Derived.Test.YtamdhefhhdgjbaaGreatDoorLe00
set_option linter.all false
section
open Go Go.LL
namespace Go.Proofs
theorem Wa3 {b:Bk}{i:Nat}{n:Int}:n∈Wah b i↔(ptAt b i).ml<=n∧n<=(ptAt b i).mh:=by
 rw[Wah,List.mem_map]
 constructor
 ·rintro⟨t,ht,rfl⟩
  rw[List.mem_range]at ht
  omega
 ·rintro⟨h1,h2⟩
  exact⟨(n-(ptAt b i).ml).toNat,by rw[List.mem_range];omega,by omega⟩
theorem Wbd (b:Bk)(i:Nat):(Wah b i).Nodup:=by
 rw[Wah,List.Nodup,List.pairwise_map]
 exact List.nodup_range.imp fun h e=>h (by omega)
theorem getD_app {l:List Int}{n:Int}{j:Nat}:(l++[n]).getD j 0=if j<l.length then l.getD j 0 else if j=l.length then n else 0:=by
 simp only[List.getD_eq_getElem?_getD]
 by_cases h:j<l.length
 ·rw[if_pos h,List.getElem?_append_left h]
 ·rw[if_neg h,List.getElem?_append_right (by omega)]
  by_cases h2:j=l.length
  ·subst h2;simp
  ·rw[if_neg h2,List.getElem?_eq_none (by simp;omega)];rfl
theorem Wa7 {l:List Int}{i j:Nat}(h:j<i):(l.take i).getD j 0=l.getD j 0:=by
 simp only[List.getD_eq_getElem?_getD,List.getElem?_take_of_lt h]
theorem WaN {b:Bk}:∀ {i:Nat} {l:List Int},l∈mkL b i↔l.length=i∧∀ j,j<i->(ptAt b j).ml<=l.getD j 0∧l.getD j 0<=(ptAt b j).mh
 | 0,l=>by
  rw[mkL,List.mem_singleton]
  constructor
  ·rintro rfl;exact⟨rfl,fun j h=>by omega⟩
  ·rintro⟨h,_⟩;exact List.length_eq_zero_iff.1 h
 | i+1,l=>by
  rw[mkL,List.mem_flatMap]
  constructor
  ·rintro⟨m,hm,hl⟩
   obtain⟨n,hn,rfl⟩:=List.mem_map.1 hl
   obtain⟨h1,h2⟩:=WaN.1 hm
   refine⟨by simp[h1],fun j hj=>?_⟩
   rw[getD_app]
   by_cases e:j<i
   ·rw[if_pos (by omega)];exact h2 j e
   ·rw[if_neg (by omega),if_pos (by omega)]
    obtain rfl:j=i:=by omega
    exact Wa3.1 hn
  ·rintro⟨h1,h2⟩
   refine⟨l.take i,WaN.2 ⟨by rw[List.length_take];omega,fun j hj=>?_⟩,List.mem_map.2 ⟨l.getD i 0,Wa3.2 (h2 i (by omega)),?_⟩⟩
   ·rw[Wa7 hj];exact h2 j (by omega)
   ·have:=Zi7 (l:=l) (n:=i) (by omega)
    rw[<-h1,List.take_length]at this
    exact this.symm
theorem Wbo {b:Bk}:∀ i:Nat,(mkL b i).Nodup
 | 0=>List.pairwise_singleton _ _
 | i+1=>by
  rw[mkL,List.Nodup,List.pairwise_flatMap]
  refine⟨fun l _=>?_,(Wbo i).imp fun hne x hx y hy e=>?_⟩
  ·rw[List.pairwise_map]
   exact(Wbd b i).imp fun h e=>h (by simpa using e)
  ·obtain⟨n,_,rfl⟩:=List.mem_map.1 hx
   obtain⟨k,_,rfl⟩:=List.mem_map.1 hy
   exact hne (List.append_inj_left' e rfl)
theorem Waw {bf:Int}{sl:Nat}{k:Slip}:∀ {r:Nat},k∈innerR bf sl r↔k.bf=bf∧(sl:Int)-r<k.by_∧k.by_<=sl∧k.by_≠0
 | 0=>by rw[innerR];simp;omega
 | r+1=>by
  have ih:=@Waw bf sl k r
  rw[innerR]
  split
  ·rw[ih];constructor
   ·rintro⟨h1,h2,h3,h4⟩;exact⟨h1,by omega,h3,h4⟩
   ·rintro⟨h1,h2,h3,h4⟩;exact⟨h1,by omega,h3,h4⟩
  ·rw[List.mem_cons,ih]
   obtain⟨kf,ky⟩:=k
   simp only[Slip.mk.injEq]
   omega
theorem Wau {n sl:Nat}{k:Slip}:∀ {r:Nat},r+1<=n->(k∈outerR n sl r↔((n:Int)-r<=k.bf∧k.bf<n)∧-(sl:Int)<=k.by_∧k.by_<=sl∧k.by_≠0)
 | 0,_=>by rw[outerR];simp;omega
 | r+1,h=>by
  rw[outerR,List.mem_append,Waw,Wau (by omega)]
  omega
theorem Wa5 {b:Bk}(v:Zeo b){k:Slip}:k∈ZaC b↔k=⟨0,0⟩∨((1<=k.bf∧k.bf<b.pts.length)∧-b.sl<=k.by_∧k.by_<=b.sl∧k.by_≠0):=by
 have:=v.sl
 have:=v.n
 rw[ZaC,List.mem_cons,Wau (by omega)]
 have e:((b.sl.toNat:Nat):Int)=b.sl:=by omega
 have e2:((b.pts.length-1:Nat):Int)=b.pts.length-1:=by omega
 rw[e,e2]
 refine or_congr Iff.rfl ?_
 omega
theorem Waj {bf:Int}{sl:Nat}:∀ r:Nat,(innerR bf sl r).Nodup
 | 0=>List.nodup_nil
 | r+1=>by
  rw[innerR]
  split
  ·exact Waj r
  ·refine List.nodup_cons.2 ⟨fun h=>?_,Waj r⟩
   have:=Waw.1 h
   simp only at this
   omega
theorem Wat {n sl:Nat}:∀ r:Nat,(outerR n sl r).Nodup
 | 0=>List.nodup_nil
 | r+1=>by
  rw[outerR]
  refine List.nodup_append.2 ⟨Waj _,Wat r,fun x hx y hy e=>?_⟩
  have h1:=Wad _ x hx
  have h2:=WaS r y hy
  subst e
  omega
theorem Wbe {b:Bk}(v:Zeo b):(ZaC b).Nodup:=by
 rw[ZaC]
 refine List.nodup_cons.2 ⟨fun h=>?_,Wat _⟩
 have:=v.n
 have:=(Wau (by omega)).1 h
 simp only at this
 omega
def Way (b:Bk):List Boat:=(mkL b b.pts.length).flatMap fun l=>(ZaC b).map fun k=>(⟨n4of l,k.bf,k.by_⟩:Boat)
theorem Wax {α β:Type}(l:List α)(f:α->List β)(p:β->Bool):(l.flatMap f).filter p=l.flatMap fun a=>(f a).filter p:=by
 induction l with
 | nil=>rfl
 | cons a l ih=>simp[List.flatMap_cons,ih]
theorem Wae {b:Bk}(v:Zeo b):Zae b=(Way b).filter (ZgQ b):=by
 rw[Wbs v,Way,Wax]
 rfl
theorem n4_inj {l m:List Int}(h:l.length=m.length)(h4:l.length<=4)(e:n4of l=n4of m):l=m:=by
 refine List.ext_getElem h fun i h1 h2=>?_
 have:(n4of l).get i=(n4of m).get i:=by rw[e]
 rw[Wab (by omega),Wab (by omega),List.getD_eq_getElem?_getD,List.getD_eq_getElem?_getD,List.getElem?_eq_getElem h1,List.getElem?_eq_getElem h2]at this
 simpa using this
theorem War {b:Bk}(v:Zeo b){x:Boat}:x∈Way b↔(∀ j,j<b.pts.length->(ptAt b j).ml<=x.m.get j∧x.m.get j<=(ptAt b j).mh)∧(∀ j,b.pts.length<=j->j<4->x.m.get j=0)∧(⟨x.bf,x.by_⟩:Slip)∈ZaC b:=by
 have hn:=v.n
 rw[Way,List.mem_flatMap]
 constructor
 ·rintro⟨l,hl,hx⟩
  obtain⟨k,hk,rfl⟩:=List.mem_map.1 hx
  obtain⟨h1,h2⟩:=WaN.1 hl
  refine⟨fun j hj=>?_,fun j hj h4=>?_,hk⟩
  ·show _<=(n4of l).get j∧(n4of l).get j<=_
   rw[Wab (by omega)];exact h2 j hj
  ·show (n4of l).get j=0
   rw[Wab h4,List.getD_eq_getElem?_getD,List.getElem?_eq_none (by omega)];rfl
 ·rintro⟨h1,h2,h3⟩
  have hL:∀ j,j<b.pts.length->(x.m.list.take b.pts.length).getD j 0=x.m.get j:=by
   intro j hj
   rw[Wa7 hj]
   match j,(by omega:j<4) with
   | 0,_=>rfl
   | 1,_=>rfl
   | 2,_=>rfl
   | 3,_=>rfl
  refine⟨x.m.list.take b.pts.length,WaN.2 ⟨by rw[List.length_take];show min _ 4=_;omega,fun j hj=>?_⟩,List.mem_map.2 ⟨⟨x.bf,x.by_⟩,h3,?_⟩⟩
  ·rw[hL j hj];exact h1 j hj
  ·have:n4of (x.m.list.take b.pts.length)=x.m:=by
    refine N4.ext' fun j h4=>?_
    rw[Wab h4]
    by_cases hj:j<b.pts.length
    ·exact hL j hj
    ·rw[h2 j (by omega) h4,List.getD_eq_getElem?_getD,List.getElem?_eq_none (by rw[List.length_take];omega)];rfl
   rw[this]
theorem WbA {b:Bk}(v:Zeo b):(Way b).Nodup:=by
 have hn:=v.n
 rw[Way,List.Nodup,List.pairwise_flatMap]
 refine⟨fun l _=>?_,?_⟩
 ·rw[List.pairwise_map]
  refine(Wbe v).imp fun {s t} h e=>h ?_
  simp only[Boat.mk.injEq,true_and]at e
  obtain⟨s1,s2⟩:=s
  obtain⟨t1,t2⟩:=t
  simp only at e
  rw[e.1,e.2]
 ·refine List.Pairwise.imp_of_mem (fun {l m} hl hm hne x hx y hy e=>?_) (Wbo (b:=b) b.pts.length)
  obtain⟨k,_,rfl⟩:=List.mem_map.1 hx
  obtain⟨k',_,rfl⟩:=List.mem_map.1 hy
  simp only[Boat.mk.injEq]at e
  have h1:=(WaN.1 hl).1
  have h2:=(WaN.1 hm).1
  exact hne (n4_inj (by omega) (by omega) e.1)
theorem Wam {b:Bk}(v:Zeo b){x:Boat}:x∈Zae b↔x∈Way b∧ZgQ b x=true:=by
 rw[Wae v,List.mem_filter]
theorem Wbg {b:Bk}(v:Zeo b):(Zae b).Nodup:=by
 rw[Wae v];exact(WbA v).filter _
theorem Wal {α:Type}[DecidableEq α]:∀ {l m:List α},l.Nodup->(∀ x∈l,x∈m)->l.length<=m.length
 | [],_,_,_=>Nat.zero_le _
 | a :: l,m,hn,hs=>by
  obtain⟨h1,h2⟩:=List.nodup_cons.1 hn
  have ha:=hs a (List.mem_cons_self ..)
  have:=Wal (l:=l) (m:=m.erase a) h2 fun x hx=>(List.mem_erase_of_ne (by rintro rfl;exact h1 hx)).2 (hs x (List.mem_cons_of_mem _ hx))
  rw[List.length_erase_of_mem ha]at this
  have:=List.length_pos_of_mem ha
  rw[List.length_cons];omega
end Go.Proofs
end
section
open Go Go.LL
namespace Go.Proofs
section
variable  {P:Prg}[Tz P][Loud P]{H:Hp}
set_option maxHeartbeats 4000000
set_option maxRecDepth 20000
end
end Go.Proofs
end
section
open Go Go.LL
namespace Go.Proofs
theorem Wbi:∀ (l:List Int) (f:Int),(Zbq gtB f l=f∨Zbq gtB f l∈l)∧f<=Zbq gtB f l∧∀ x∈l,x<=Zbq gtB f l
 | [],f=>⟨.inl rfl,Int.le_refl _,by simp⟩
 | x :: l,f=>by
  have e:Zbq gtB f (x :: l)=Zbq gtB (if gtB x f then x else f) l:=rfl
  rw[e]
  by_cases hx:gtB x f=true
  ·rw[if_pos hx]
   obtain⟨h1,h2,h3⟩:=Wbi l x
   have hx':f<x:=of_decide_eq_true hx
   refine⟨.inr (List.mem_cons.2 h1),by omega,fun y hy=>?_⟩
   rcases List.mem_cons.1 hy with rfl | hy
   ·exact h2
   ·exact h3 y hy
  ·rw[if_neg hx]
   obtain⟨h1,h2,h3⟩:=Wbi l f
   have hx':¬ f<x:=fun h=>hx (decide_eq_true h)
   refine⟨h1.imp id (List.mem_cons_of_mem _),h2,fun y hy=>?_⟩
   rcases List.mem_cons.1 hy with rfl | hy
   ·omega
   ·exact h3 y hy
theorem Wbh:∀ (l:List Int) (f:Int),(Zbq ltB f l=f∨Zbq ltB f l∈l)∧Zbq ltB f l<=f∧∀ x∈l,Zbq ltB f l<=x
 | [],f=>⟨.inl rfl,Int.le_refl _,by simp⟩
 | x :: l,f=>by
  have e:Zbq ltB f (x :: l)=Zbq ltB (if ltB x f then x else f) l:=rfl
  rw[e]
  by_cases hx:ltB x f=true
  ·rw[if_pos hx]
   obtain⟨h1,h2,h3⟩:=Wbh l x
   have hx':x<f:=of_decide_eq_true hx
   refine⟨.inr (List.mem_cons.2 h1),by omega,fun y hy=>?_⟩
   rcases List.mem_cons.1 hy with rfl | hy
   ·exact h2
   ·exact h3 y hy
  ·rw[if_neg hx]
   obtain⟨h1,h2,h3⟩:=Wbh l f
   have hx':¬ x<f:=fun h=>hx (decide_eq_true h)
   refine⟨h1.imp id (List.mem_cons_of_mem _),h2,fun y hy=>?_⟩
   rcases List.mem_cons.1 hy with rfl | hy
   ·omega
   ·exact h3 y hy
theorem max_of {L:List Int}(h:L≠[]):Zbq gtB (L.getD 0 0) (L.drop 1)∈L∧∀ x∈L,x<=Zbq gtB (L.getD 0 0) (L.drop 1):=by
 cases L with
 | nil=>exact absurd rfl h
 | cons a l=>
  obtain⟨h1,h2,h3⟩:=Wbi l a
  refine⟨List.mem_cons.2 h1,fun y hy=>?_⟩
  rcases List.mem_cons.1 hy with rfl | hy
  ·exact h2
  ·exact h3 y hy
theorem min_of {L:List Int}(h:L≠[]):Zbq ltB (L.getD 0 0) (L.drop 1)∈L∧∀ x∈L,Zbq ltB (L.getD 0 0) (L.drop 1)<=x:=by
 cases L with
 | nil=>exact absurd rfl h
 | cons a l=>
  obtain⟨h1,h2,h3⟩:=Wbh l a
  refine⟨List.mem_cons.2 h1,fun y hy=>?_⟩
  rcases List.mem_cons.1 hy with rfl | hy
  ·exact h2
  ·exact h3 y hy
end Go.Proofs
end
section
open Go Go.LL
namespace Go.Proofs
theorem ckS_of {n:Nat}:∀ {l:List SCk},(∀ c∈l,(0<=c.p∧c.p<n)∧(-199<=c.gl∧c.gl<=c.gh∧c.gh<=199))->ckS n l=0
 | [],_=>rfl
 | c :: l,h=>by
  have h1:=h c (List.mem_cons_self ..)
  rw[ckS,if_neg (by omega),if_neg (by omega)]
  exact ckS_of fun d hd=>h d (List.mem_cons_of_mem _ hd)
theorem Wai {b:Bk}(v:Zeo b):snag b=0:=by
 have h1:Zbj b=0:=by rw[Zbj,if_pos ⟨v.op,v.sl⟩]
 have h2:Zbk b=0:=by
  rw[Zbk,if_neg (by have:=v.n;omega),if_pos]
  rw[List.all_eq_true]
  intro p hp
  obtain⟨i,hi,rfl⟩:=List.mem_iff_getElem.1 hp
  obtain⟨a1,a2,a3,a4⟩:=v.pts i hi
  simp only[okP,Bool.and_eq_true,decide_eq_true_eq]
  exact⟨⟨⟨a1,a2⟩,a3⟩,a4⟩
 have h3:ckS b.pts.length b.cks=0:=ckS_of v.cks
 rw[snag,if_neg (by simp[h1]),if_neg (by simp[h2]),ZbJ,if_neg (by have:=v.ckn;omega),h3]
theorem WaR {b:Bk}:Zc9 b=true↔0<(Zae b).length:=by
 rw[Zc9]
 cases Zae b<;>simp
theorem open_eq {b:Bk}(v:Zeo b):Zah b true=if 0<(Zae b).length then 0 else 9:=by
 rw[Zah,if_neg (by simp[Wai v]),if_neg (by simp)]
 by_cases h:0<(Zae b).length
 ·rw[if_neg (by omega),if_pos h]
 ·rw[if_pos (by omega),if_neg h]
theorem ag_eq {b:Bk}(v:Zeo b):ZdL b=if 0<(Zae b).length then 0 else 9:=by
 rw[ZdL,if_neg (by simp[Wai v])]
 by_cases h:0<(Zae b).length
 ·rw[if_neg (by rw[WaR.2 h];simp),if_pos h]
 ·have:Zc9 b=false:=by rw[Bool.eq_false_iff];exact fun e=>h (WaR.1 e)
  rw[if_pos this,if_neg h]
theorem there_eq {b:Bk}{i:Nat}(h:i<b.pts.length):decide (0<=(i:Int)∧(i:Int)<b.pts.length)=true:=decide_eq_true ⟨by omega,by omega⟩
theorem mk_pts {b b':Bk}(h:b.pts=b'.pts):∀ i,mkL b i=mkL b' i
 | 0=>rfl
 | i+1=>by
  have:Wah b i=Wah b' i:=by rw[Wah,Wah,ptAt,ptAt,h]
  rw[mkL,mkL,mk_pts h i,this]
theorem cand_pts {b b':Bk}(h:b.pts=b'.pts)(h2:b.sl=b'.sl):Way b=Way b':=by
 have:ZaC b=ZaC b':=by rw[ZaC,ZaC,h,h2]
 rw[Way,Way,mk_pts h,h,this]
theorem Wbf {b b':Bk}(h:b.op=b'.op)(h2:b.pts.length=b'.pts.length)(x:Boat):Zas b x=Zas b' x:=by
 simp only[Zas,Zk9,h,h2]
theorem right_ck (b:Bk)(c:SCk)(x:Boat):ZgQ (ckBk b c) x=(ZgQ b x && ckOk (Zas b x) c):=by
 have e:Zas (ckBk b c) x=Zas b x:=Wbf rfl rfl x
 rw[ZgQ,e]
 show (b.cks++[c]).all _=_
 rw[List.all_append,ZgQ]
 simp
theorem boats_ck {b:Bk}{c:SCk}(v:Zeo b)(v':Zeo (ckBk b c)):Zae (ckBk b c)=(Zae b).filter fun x=>ckOk (Zas b x) c:=by
 rw[Wae v',Wae v,List.filter_filter,cand_pts (b:=ckBk b c) (b':=b) rfl rfl]
 refine List.filter_congr fun x _=>?_
 rw[right_ck,Bool.and_comm]
theorem Wa8 {α:Type}{L:List α}{p:α->Bool}(h:∀ x∈L,p x=true):L.filter p=L:=List.filter_eq_self.2 h
theorem Wag {α:Type}{L:List α}{p:α->Bool}:(L.filter p).length=L.length↔∀ x∈L,p x=true:=by
 constructor
 ·intro h x hx
  rw[<-List.filter_eq_self.1 (List.filter_sublist.eq_of_length h) x hx]
 ·intro h;rw[Wa8 h]
theorem WaW {b:Bk}{p:Nat}{z:Int}:z∈gapL b p↔∃ x∈Zae b,(Zas b x).get p=z:=by
 rw[gap_eq rfl,(Waq _).2,List.mem_map]
theorem WaQ {b:Bk}{k:Int}(v:Zeo b)(h:0<=k∧k<=b.sl):Zeo (fmBk b k) where
 op:=v.op
 sl:=⟨h.1,by have:=v.sl;show k<=3;omega⟩
 n:=v.n
 pts:=v.pts
 ckn:=v.ckn
 cks:=v.cks
theorem WaL {b b':Bk}(h:b.op=b'.op)(h2:b.pts.length=b'.pts.length)(h3:b.cks=b'.cks)(x:Boat):ZgQ b x=ZgQ b' x:=by
 rw[ZgQ,ZgQ,Wbf h h2 x,h3]
theorem boats_fm {b:Bk}{k:Int}(v:Zeo b)(h:0<=k∧k<=b.sl){x:Boat}:x∈Zae (fmBk b k)↔x∈Zae b∧-k<=x.by_∧x.by_<=k:=by
 have v':=WaQ v h
 rw[Wam v',Wam v,War v',War v,Wa5 v',Wa5 v,WaL (b:=fmBk b k) (b':=b) rfl rfl rfl]
 show ((∀ j,j<b.pts.length->(ptAt b j).ml<=_∧_<=(ptAt b j).mh)∧(∀ j,b.pts.length<=j->_)∧((_:Slip)=_∨((_∧_<(b.pts.length:Int))∧-k<=_∧_<=k∧_)))∧_↔_
 simp only[Slip.mk.injEq]
 constructor
 ·rintro⟨⟨h1,h2,h3⟩,h4⟩
  refine⟨⟨⟨h1,h2,?_⟩,h4⟩,?_⟩<;>omega
 ·rintro⟨⟨⟨h1,h2,h3⟩,h4⟩,h5⟩
  refine⟨⟨h1,h2,?_⟩,h4⟩;omega
end Go.Proofs
end
section
open Go Go.LL
namespace Go.Proofs
theorem ord_nil {l:List Int}:ordF l=[]↔l=[]:=by
 constructor
 ·intro h
  refine List.eq_nil_iff_forall_not_mem.2 fun x hx=>?_
  have:=((Waq l).2 x).2 hx
  rw[h]at this;simp at this
 ·rintro rfl;rfl
theorem WbB {b:Bk}(v:Zeo b):whenL b=[]↔∀ x∈Zae b,x.by_=0:=by
 rw[Wbb v,ord_nil,List.map_eq_nil_iff,List.filter_eq_nil_iff]
 simp only[byN,Bool.not_eq_true',decide_eq_false_iff_not,Decidable.not_not]
end Go.Proofs
end
section
open Go Go.LL
namespace Go.Proofs
theorem Wa4 {b:Bk}{z:Int}:z∈Zgv b↔∃ x∈Zae b,lowF b (Zas b x)=z:=List.mem_map
theorem WaJ {b:Bk}{z:Int}:z∈ZdH b↔∃ x∈Zae b,Zfc b (Zas b x)=z:=List.mem_map
theorem Wa6 {b:Bk}(h:0<(Zae b).length):(∀ x∈Zae b,lowF b (Zas b x)<=sLow b)∧∃ x∈Zae b,lowF b (Zas b x)=sLow b:=by
 have hne:Zgv b≠[]:=by
  intro e
  have:(Zgv b).length=(Zae b).length:=List.length_map _
  rw[e]at this;simp at this;omega
 obtain⟨h1,h2⟩:=max_of hne
 exact⟨fun x hx=>h2 _ (Wa4.2 ⟨x,hx,rfl⟩),Wa4.1 h1⟩
theorem WaK {b:Bk}(h:0<(Zae b).length):(∀ x∈Zae b,sHigh b<=Zfc b (Zas b x))∧∃ x∈Zae b,Zfc b (Zas b x)=sHigh b:=by
 have hne:ZdH b≠[]:=by
  intro e
  have:(ZdH b).length=(Zae b).length:=List.length_map _
  rw[e]at this;simp at this;omega
 obtain⟨h1,h2⟩:=min_of hne
 exact⟨fun x hx=>h2 _ (WaJ.2 ⟨x,hx,rfl⟩),WaJ.1 h1⟩
structure Wider (b o:Bk):Prop where
 op:o.op=b.op
 sl:o.sl=b.sl
 cks:o.cks=b.cks
 n:o.pts.length=b.pts.length
 ml:∀ i,i<b.pts.length->(ptAt o i).ml=(ptAt b i).ml∧(ptAt o i).mh=(ptAt b i).mh
 w:∀ i,i<b.pts.length->(ptAt o i).w=(ptAt b i).w
 b:∀ i,i<b.pts.length->(ptAt o i).bl<=(ptAt b i).bl∧(ptAt b i).bh<=(ptAt o i).bh
end Go.Proofs
end
section
open Go Go.LL
namespace Go.Proofs
structure Wan (b o:Bk):Prop where
 op:o.op=b.op
 n:o.pts.length=b.pts.length
 bd:∀ i,i<b.pts.length->(ptAt o i).bl=(ptAt b i).bl∧(ptAt o i).bh=(ptAt b i).bh∧(ptAt o i).w=(ptAt b i).w
 sub:∀ x∈Zae o,x∈Zae b
theorem Wbm {α:Type}{L L':List α}{p:α->Bool}(hs:∀ x∈L',x∈L)(h0:0<L'.length):Zhu (L.filter p).length L.length=0∨Zhu (L.filter p).length L.length=Zhu (L'.filter p).length L'.length:=by
 by_cases h1:(L.filter p).length=0
 ·right
  have h2:(L'.filter p).length=0:=by
   rw[List.length_eq_zero_iff,List.filter_eq_nil_iff]at h1 ⊢
   exact fun x hx=>h1 x (hs x hx)
  rw[Zhu,if_pos h1,Zhu,if_pos h2]
 ·by_cases h2:(L.filter p).length=L.length
  ·right
   have h3:(L'.filter p).length=L'.length:=Wag.2 fun x hx=>Wag.1 h2 x (hs x hx)
   rw[Zhu,if_neg h1,if_pos h2,Zhu,if_neg (by omega),if_pos h3]
  ·left;rw[Zhu,if_neg h1,if_neg h2]
theorem Wan.len {b o:Bk}(h:Wan b o)(v':Zeo o):(Zae o).length<=(Zae b).length:=by
 classical
 exact Wal (Wbg v') h.sub
theorem Wan.gaps {b o:Bk}(h:Wan b o)(x:Boat):Zas o x=Zas b x:=Wbf h.op h.n x
theorem Wan.gapL {b o:Bk}(h:Wan b o){i:Nat}{z:Int}(hz:z∈gapL o i):z∈gapL b i:=by
 obtain⟨x,hx,e⟩:=WaW.1 hz
 rw[h.gaps]at e
 exact WaW.2 ⟨x,h.sub x hx,e⟩
theorem WaY {b:Bk}(v:Zeo b){z:Int}:z∈whenL b↔∃ x∈Zae b,x.by_≠0∧x.bf=z:=by
 rw[Wbb v,(Waq _).2,List.mem_map]
 constructor
 ·rintro⟨x,hx,e⟩
  obtain⟨h1,h2⟩:=List.mem_filter.1 hx
  exact⟨x,h1,by simpa[byN]using h2,e⟩
 ·rintro⟨x,hx,h1,e⟩
  exact⟨x,List.mem_filter.2 ⟨hx,by simpa[byN]using h1⟩,e⟩
theorem Wan.when {b o:Bk}(h:Wan b o)(v:Zeo b)(v':Zeo o){z:Int}(hz:z∈whenL o):z∈whenL b:=by
 obtain⟨x,hx,e⟩:=(WaY v').1 hz
 exact(WaY v).2 ⟨x,h.sub x hx,e⟩
theorem WaU {b o:Bk}(hn:o.pts.length=b.pts.length)(h:∀ i,i<b.pts.length->(ptAt o i).bl=(ptAt b i).bl∧(ptAt o i).bh=(ptAt b i).bh∧(ptAt o i).w=(ptAt b i).w)(g:N4):lowF o g=lowF b g∧Zfc o g=Zfc b g:=by
 have e1:ZgC o g=ZgC b g:=by
  rw[ZgC,ZgC,hn]
  exact List.map_congr_left fun i hi=>by
   have:=(h i (List.mem_range.1 hi)).1
   rw[ptAt,ptAt]at this
   rw[this]
 have e2:ZdK o g=ZdK b g:=by
  rw[ZdK,ZdK,hn]
  exact List.map_congr_left fun i hi=>by
   obtain⟨_,h2,h3⟩:=h i (List.mem_range.1 hi)
   rw[ptAt,ptAt]at h2 h3
   rw[h2,h3]
 rw[lowF,lowF,Zfc,Zfc,e1,e2]
 exact⟨rfl,rfl⟩
theorem Wan.fits {b o:Bk}(h:Wan b o)(x:Boat):ZgD o x=ZgD b x:=by
 obtain⟨e1,e2⟩:=WaU h.n h.bd (Zas b x)
 rw[ZgD,ZgD,h.gaps,e1,e2]
theorem Wan.had {b o:Bk}(h:Wan b o)(h0:0<(Zae o).length):Zhu ((Zae b).filter (ZgD b)).length (Zae b).length=0∨Zhu ((Zae b).filter (ZgD b)).length (Zae b).length=Zhu ((Zae o).filter (ZgD o)).length (Zae o).length:=by
 have:(Zae o).filter (ZgD o)=(Zae o).filter (ZgD b):=List.filter_congr fun x _=>h.fits x
 rw[this]
 exact Wbm h.sub h0
theorem Wan.pos {b o:Bk}(h:Wan b o)(h0:0<(Zae o).length):0<(Zae b).length:=by
 obtain⟨x,hx⟩:=List.exists_mem_of_length_pos h0
 exact List.length_pos_of_mem (h.sub x hx)
theorem Wan.surely {b o:Bk}(h:Wan b o)(h0:0<(Zae o).length)(hs:sLow b<=sHigh b):sLow o<=sLow b∧sLow o<=sHigh o:=by
 have h1:=h.pos h0
 obtain⟨_,x,hx,e1⟩:=Wa6 h0
 obtain⟨_,y,hy,e2⟩:=WaK h0
 have a1:=(Wa6 h1).1 x (h.sub x hx)
 have a2:=(WaK h1).1 y (h.sub y hy)
 rw[h.gaps,(WaU h.n h.bd _).1]at e1
 rw[h.gaps,(WaU h.n h.bd _).2]at e2
 omega
theorem learn_ck {b:Bk}{c:SCk}(v:Zeo b)(v':Zeo (ckBk b c)):Wan b (ckBk b c) where
 op:=rfl
 n:=rfl
 bd:=fun _ _=>⟨rfl,rfl,rfl⟩
 sub:=fun x hx=>by rw[boats_ck v v']at hx;exact(List.mem_filter.1 hx).1
theorem learn_fm {b:Bk}{k:Int}(v:Zeo b)(h:0<=k∧k<=b.sl):Wan b (fmBk b k) where
 op:=rfl
 n:=rfl
 bd:=fun _ _=>⟨rfl,rfl,rfl⟩
 sub:=fun x hx=>((boats_fm v h).1 hx).1
theorem rd_pt {b:Bk}{i:Nat}{xl xh:Int}(hi:i<b.pts.length)(j:Nat):ptAt (rdBk b i xl xh) j=if j=i then { ptAt b i with ml:=xl,mh:=xh } else ptAt b j:=by
 show (b.pts.set i _).getD j _=_
 rw[List.getD_eq_getElem?_getD,List.getElem?_set]
 by_cases e:j=i
 ·subst e
  rw[if_pos rfl,if_pos hi,if_pos rfl];rfl
 ·rw[if_neg (Ne.symm e),if_neg e,ptAt,List.getD_eq_getElem?_getD]
theorem WaP {b:Bk}{i:Nat}{xl xh:Int}(v:Zeo b)(hi:i<b.pts.length)(h1:(ptAt b i).ml<=xl)(h2:xl<=xh)(h3:xh<=(ptAt b i).mh):Zeo (rdBk b i xl xh) where
 op:=v.op
 sl:=v.sl
 n:=by show 2<=(b.pts.set i _).length∧(b.pts.set i _).length<=4;rw[List.length_set];exact v.n
 pts:=fun j hj=>by
  have hj':j<b.pts.length:=by rw[show (rdBk b i xl xh).pts=b.pts.set i _ from rfl,List.length_set]at hj;exact hj
  have e:(rdBk b i xl xh).pts[j]=ptAt (rdBk b i xl xh) j:=(Zbd hj _).symm
  have e2:b.pts[j]=ptAt b j:=(Zbd hj' _).symm
  have:=v.pts j hj'
  rw[e2]at this
  rw[e,rd_pt hi]
  by_cases ej:j=i
  ·subst ej
   rw[if_pos rfl]
   simp only
   omega
  ·rw[if_neg ej];exact this
 ckn:=v.ckn
 cks:=fun c hc=>by
  have:=v.cks c hc
  rw[show (rdBk b i xl xh).pts=b.pts.set i _ from rfl,List.length_set]
  exact this
theorem learn_rd {b:Bk}{i:Nat}{xl xh:Int}(v:Zeo b)(hi:i<b.pts.length)(h1:(ptAt b i).ml<=xl)(h2:xl<=xh)(h3:xh<=(ptAt b i).mh):Wan b (rdBk b i xl xh) where
 op:=rfl
 n:=List.length_set ..
 bd:=fun j _=>by
  rw[rd_pt hi]
  by_cases ej:j=i
  ·subst ej;rw[if_pos rfl];exact⟨rfl,rfl,rfl⟩
  ·rw[if_neg ej];exact⟨rfl,rfl,rfl⟩
 sub:=fun x hx=>by
  have v':=WaP v hi h1 h2 h3
  have hn:(rdBk b i xl xh).pts.length=b.pts.length:=List.length_set ..
  rw[Wam v',War v',hn]at hx
  obtain⟨⟨a1,a2,a3⟩,a4⟩:=hx
  rw[Wam v,War v]
  refine⟨⟨fun j hj=>?_,a2,?_⟩,?_⟩
  ·have:=a1 j hj
   rw[rd_pt hi]at this
   by_cases ej:j=i
   ·subst ej
    rw[if_pos rfl]at this
    simp only at this
    omega
   ·rw[if_neg ej]at this;exact this
  ·have e:ZaC (rdBk b i xl xh)=ZaC b:=by rw[ZaC,ZaC,hn];rfl
   rw[<-e];exact a3
  ·rw[<-WaL (b:=rdBk b i xl xh) (b':=b) rfl hn rfl x];exact a4
end Go.Proofs
end
section
open Go Go.LL
namespace Go.Proofs
end Go.Proofs
end
section
open Go Go.LL
namespace Go.Proofs
end Go.Proofs
end
section
open Go Go.LL
namespace Go.Proofs
theorem take_all {α:Type}{p:α->Prop}{l:List α}{j:Nat}(hj:j<l.length)(h:∀ x∈l.take j,p x)(h2:p l[j]):∀ x∈l.take (j+1),p x:=by
 intro x hx
 rw[List.take_succ_eq_append_getElem hj]at hx
 rcases List.mem_append.1 hx with hx | hx
 ·exact h x hx
 ·rw[List.mem_singleton.1 hx];exact h2
section
variable  {P:Prg}[Tz P][Loud P]{H:Hp}
set_option maxHeartbeats 4000000
set_option maxRecDepth 20000
theorem Has_ok {lv:Value}{l:List Int}{n:Int}(hl:SlAt H lv l)(hln:l.length<=1000000):LL.Zag P 50 #[lv,vi n] H fun v H'=>H=H'∧v=vb (decide (n∈l)):=by
 have hs:∀ g,P.still g=false:=Loud.loud
 refine IsN.m (isn c50) (args:=[lv,vi n]) rfl ?_
 unfold n50
 refine wkT ?_
 refine ZaX l.length (fun j H'=>H=H'∧∀ x∈l.take j,x≠n) (fun j=>[(0,lv),(1,vi n),(5,vi j)]) (fun _=>[]) ⟨rfl,by simp⟩ ⟨rfl,rfl,rfl,trivial⟩ trivial ?_
 rintro j _ hj ⟨rfl,hI⟩
 refine wkT ?_
 refine Zav hl rfl ?_
 refine wkT ?_
 refine wiT (fun h1=>?_) (fun h1=>?_)
 ·have hj':j<l.length:=by omega
  refine wkT ?_
  refine ZaE hl rfl rfl rfl (i:=j) hj' fun a ha=>?_
  refine wkT ?_
  refine Zaf (hs _) rfl ha ?_
  refine wkT ?_
  refine wiT (fun h2=>?_) (fun h2=>?_)
  ·refine wkT ?_
   exact⟨rfl,by rw[decide_eq_true (show n∈l by rw[<-h2];exact List.getElem_mem hj')];rfl⟩
  ·refine wkT ?_
   exact Wbq (I:=fun j H'=>H=H'∧∀ x∈l.take j,x≠n) (env:=fun j=>[(0,lv),(1,vi n),(5,vi j)]) (box:=fun _=>[]) hj' ⟨rfl,take_all hj' hI h2⟩ ⟨rfl,rfl,rfl,trivial⟩ trivial rfl
 ·have:j=l.length:=by omega
  subst this
  rw[List.take_length]at hI
  refine wkT ?_
  exact⟨rfl,by rw[decide_eq_false (show ¬ n∈l from fun h=>hI n h rfl)];rfl⟩
theorem Wbj {pv cv:Value}{b:Bk}{k:Int}(hp:SlAt H pv b.pts)(hc:SlAt H cv b.cks):LL.Zag P 52 #[.agg #[vi b.op,vi b.sl,pv,cv],vi k] H fun v H'=>H=H'∧v=.agg #[vi b.op,vi k,pv,cv]:=by
 have hs:∀ g,P.still g=false:=Loud.loud
 obtain⟨Ap,cp,rfl,hp'⟩:=id hp
 obtain⟨Ac,cc,rfl,hc'⟩:=id hc
 refine IsN.m (isn c52) (args:=[.agg #[vi b.op,vi b.sl,.slice Ap b.pts.length cp,.slice Ac b.cks.length cc],vi k]) rfl ?_
 unfold n52
 refine wkT ?_
 exact⟨rfl,rfl⟩
theorem Meet_ok (a b c d:Int):LL.Zag P 67 #[.agg #[vi a,vi b],.agg #[vi c,vi d]] H fun v H'=>H=H'∧v=.agg #[vi (max a c),vi (min b d)]:=by
 have hs:∀ g,P.still g=false:=Loud.loud
 refine IsN.m (isn c67) (args:=[.agg #[vi a,vi b],.agg #[vi c,vi d]]) rfl ?_
 unfold n67
 refine wkT ?_
 refine om_max rfl rfl ?_
 refine wkT ?_
 refine om_min rfl rfl ?_
 refine wkT ?_
 exact⟨rfl,rfl⟩
theorem ptEq_iff {p q:SPt}:ptEq p q=true↔p=q:=by
 cases p;cases q;simp[ptEq]
theorem ckEq_iff {p q:SCk}:ckEq p q=true↔p=q:=by
 cases p;cases q;simp[ckEq]
theorem WaZ {α:Type}{l m:List α}{j:Nat}(h1:j<l.length)(h2:j<m.length)(h:l.take j=m.take j)(e:l[j]=m[j]):l.take (j+1)=m.take (j+1):=by
 rw[List.take_succ_eq_append_getElem h1,List.take_succ_eq_append_getElem h2,h,e]
theorem Same_ok {av bv:Value}{a b:Bk}(ha:BkAt H av a)(hb:BkAt H bv b)(hl:a.pts.length<=1000000)(hl2:a.cks.length<=1000000):LL.Zag P 43 #[av,bv] H fun v H'=>H=H'∧(a=b->v=vb true)∧(v=vb true->a=b)∧∃ x,v=vb x:=by
 have hs:∀ g,P.still g=false:=Loud.loud
 obtain⟨pa,ca,rfl,hpa,hca⟩:=ha
 obtain⟨pb,cb,rfl,hpb,hcb⟩:=hb
 obtain⟨Ap,cp,rfl,_⟩:=id hpa
 obtain⟨Ac,cc,rfl,_⟩:=id hca
 obtain⟨Bp,dp,rfl,_⟩:=id hpb
 obtain⟨Bc,dc,rfl,_⟩:=id hcb
 refine IsN.m (isn c43) (args:=[.agg #[vi a.op,vi a.sl,.slice Ap a.pts.length cp,.slice Ac a.cks.length cc],.agg #[vi b.op,vi b.sl,.slice Bp b.pts.length dp,.slice Bc b.cks.length dc]]) rfl ?_
 unfold n43
 have no:a≠b->(a=b->vb false=vb true)∧(vb false=vb true->a=b)∧∃ x,vb false=vb x:=fun h=>⟨fun e=>absurd e h,fun e=>by simp at e,false,rfl⟩
 refine wkT ?_
 refine wiT (fun h1=>?_) (fun h1=>?_)
 ·refine wkT ?_
  exact⟨rfl,no fun e=>h1 (by rw[e])⟩
 refine wkT ?_
 refine wiT (fun h2=>?_) (fun h2=>?_)
 ·refine wkT ?_
  exact⟨rfl,no fun e=>h2 (by rw[e])⟩
 refine wkT ?_
 refine wiT (fun h3=>?_) (fun h3=>?_)
 ·refine wkT ?_
  exact⟨rfl,no fun e=>h3 (by rw[e])⟩
 refine wkT ?_
 refine wiT (fun h4=>?_) (fun h4=>?_)
 ·refine wkT ?_
  exact⟨rfl,no fun e=>h4 (by rw[e])⟩
 have hp:a.pts.length=b.pts.length:=by omega
 have hc:a.cks.length=b.cks.length:=by omega
 refine wkT ?_
 refine ZaX a.pts.length (fun j H'=>H=H'∧a.pts.take j=b.pts.take j) (fun j=>[(2,vi 0),(3,vi 0),(5,vi j)]) (fun _=>[(2,[vi a.op,vi a.sl,.slice Ap a.pts.length cp,.slice Ac a.cks.length cc]),(3,[vi b.op,vi b.sl,.slice Bp b.pts.length dp,.slice Bc b.cks.length dc])]) ⟨rfl,rfl⟩ ⟨rfl,rfl,rfl,trivial⟩ ⟨rfl,rfl,trivial⟩ ?_
 rintro j _ hj ⟨rfl,hI⟩
 refine wkT ?_
 refine wiT (fun h5=>?_) (fun h5=>?_)
 ·have hj':j<a.pts.length:=by omega
  refine wkT ?_
  refine ZaE hpa rfl rfl rfl (i:=j) hj' fun p hp=>?_
  refine wkT ?_
  refine Zao (hs _) rfl hp rfl ?_
  refine wkT ?_
  refine ZaE hpb rfl rfl rfl (i:=j) (by omega) fun q hq=>?_
  refine wkT ?_
  refine Zao (hs _) rfl hq rfl ?_
  refine wkT ?_
  refine Zl8 (b:=ptEq a.pts[j] b.pts[j]) (xs:=#[vi a.pts[j].ml,vi a.pts[j].mh,vi a.pts[j].bl,vi a.pts[j].bh,vi a.pts[j].w]) (ys:=#[vi b.pts[j].ml,vi b.pts[j].mh,vi b.pts[j].bl,vi b.pts[j].bh,vi b.pts[j].w]) g59 (fun Q g H hq=>eq59 Q hq) rfl rfl ?_
  refine wkT ?_
  refine wiT (fun h6=>?_) (fun h6=>?_)
  ·refine wkT ?_
   refine⟨rfl,no ?_⟩
   rintro rfl
   exact h6 ⟨rfl,rfl,rfl,rfl,rfl⟩
  ·have e:=ptEq_iff.1 (decide_eq_true h6)
   refine wkT ?_
   exact⟨⟨j+1,by omega⟩,Nat.sub_lt_sub_left (by omega) (Nat.lt_succ_self j),⟨rfl,WaZ hj' (by omega) hI e⟩,⟨rfl,rfl,rfl,trivial⟩,⟨rfl,rfl,trivial⟩,rfl⟩
 have:j=a.pts.length:=by omega
 subst this
 rw[List.take_length,List.take_of_length_le (by omega)]at hI
 refine wkT ?_
 refine ZaX a.cks.length (fun j H'=>H=H'∧a.cks.take j=b.cks.take j) (fun j=>[(2,vi 0),(3,vi 0),(6,vi j)]) (fun _=>[(2,[vi a.op,vi a.sl,.slice Ap a.pts.length cp,.slice Ac a.cks.length cc]),(3,[vi b.op,vi b.sl,.slice Bp b.pts.length dp,.slice Bc b.cks.length dc])]) ⟨rfl,rfl⟩ ⟨rfl,rfl,rfl,trivial⟩ ⟨rfl,rfl,trivial⟩ ?_
 rintro j _ hj ⟨rfl,hI2⟩
 refine wkT ?_
 refine wiT (fun h7=>?_) (fun h7=>?_)
 ·have hj':j<a.cks.length:=by omega
  refine wkT ?_
  refine ZaE hca rfl rfl rfl (i:=j) hj' fun p hp=>?_
  refine wkT ?_
  refine Zao (hs _) rfl hp rfl ?_
  refine wkT ?_
  refine ZaE hcb rfl rfl rfl (i:=j) (by omega) fun q hq=>?_
  refine wkT ?_
  refine Zao (hs _) rfl hq rfl ?_
  refine wkT ?_
  refine Zl8 (b:=ckEq a.cks[j] b.cks[j]) (xs:=#[vi a.cks[j].p,vi a.cks[j].gl,vi a.cks[j].gh]) (ys:=#[vi b.cks[j].p,vi b.cks[j].gl,vi b.cks[j].gh]) g51 (fun Q g H hq=>eq51 Q hq) rfl rfl ?_
  refine wkT ?_
  refine wiT (fun h8=>?_) (fun h8=>?_)
  ·refine wkT ?_
   refine⟨rfl,no ?_⟩
   rintro rfl
   exact h8 ⟨rfl,rfl,rfl⟩
  ·have e:=ckEq_iff.1 (decide_eq_true h8)
   refine wkT ?_
   exact⟨⟨j+1,by omega⟩,Nat.sub_lt_sub_left (by omega) (Nat.lt_succ_self j),⟨rfl,WaZ hj' (by omega) hI2 e⟩,⟨rfl,rfl,rfl,trivial⟩,⟨rfl,rfl,trivial⟩,rfl⟩
 have:j=a.cks.length:=by omega
 subst this
 rw[List.take_length,List.take_of_length_le (by omega)]at hI2
 refine wkT ?_
 refine⟨rfl,fun _=>rfl,fun _=>?_,true,rfl⟩
 obtain⟨a1,a2,a3,a4⟩:=a
 obtain⟨b1,b2,b3,b4⟩:=b
 simp only at h1 h2 hI hI2
 subst h1 h2 hI hI2
 rfl
theorem Waa {av bv:Value}{a b:Bk}(ha:BkAt H av a)(hb:BkAt H bv b)(hl:a.pts.length<=1000000)(hl2:a.cks.length<=1000000)(e:a=b):LL.Zag P 43 #[av,bv] H fun v H'=>H=H'∧v=vb true:=
 LL.Zag.mono (Same_ok ha hb hl hl2) fun _ _ h=>⟨h.1,h.2.1 e⟩
end
end Go.Proofs
end
section
open Go Go.LL
namespace Go.Proofs
def nB (b:Bk):Nat:=(Zae b).length
def oS (b:Bk):Int:=if 0<nB b then 0 else 9
theorem Wav {b:Bk}(v:Zeo b):Zah b true=oS b:=open_eq v
theorem Waf {b:Bk}(h:0<nB b):oS b=0:=if_pos h
theorem WaT {b:Bk}(h:¬ 0<nB b):oS b=9:=if_neg h
theorem oS_iff {b:Bk}:oS b=0↔0<nB b:=by
 unfold oS
 split
 ·simp[*]
 ·simp[*]
theorem WaM {b:Bk}(h:¬ 0<nB b):Zae b=[]:=List.length_eq_zero_iff.1 (by unfold nB at h;omega)
theorem Wbu {b:Bk}(v:Zeo b)(h:¬ 0<nB b):whenL b=[]:=(WbB v).2 fun x hx=>by rw[WaM h]at hx;simp at hx
theorem WbL {b:Bk}(h:¬ 0<nB b)(i:Nat):gapL b i=[]:=List.eq_nil_iff_forall_not_mem.2 fun z hz=>by
 obtain⟨x,hx,_⟩:=WaW.1 hz
 rw[WaM h]at hx;simp at hx
theorem Wbk {b:Bk}(v:Zeo b):(whenL b).length<=1782:=by
 rw[Wbb v]
 have h1:=Wbn (((Zae b).filter byN).map Boat.bf)
 rw[List.length_map]at h1
 have h2:=List.length_filter_le byN (Zae b)
 have h3:=Zbp v
 omega
theorem WbM {b:Bk}(v:Zeo b)(i:Nat):(gapL b i).length<=1782:=by
 rw[gap_eq rfl]
 have h1:=Wbn ((Zae b).map fun x=>(Zas b x).get i)
 rw[List.length_map]at h1
 have h3:=Zbp v
 omega
def slpF (b:Bk):Int:=if 0<nB b then Zhu ((Zae b).filter byN).length (nB b) else 0
def hadF (b:Bk):Int:=if 0<nB b then Zhu ((Zae b).filter (ZgD b)).length (nB b) else 0
def Wbw (b:Bk):Bool:=decide (0<nB b∧sLow b<=sHigh b)
def Wbv (b:Bk):Int:=if 0<nB b∧sLow b<=sHigh b then sLow b else 0
section
variable  {P:Prg}[Tz P][Loud P]{H:Hp}{bv:Value}{b:Bk}
theorem WbR (v:Zeo b)(hb:BkAt H bv b)(hg:Za8 H):LL.Zag P 19 #[bv] H fun u H'=>Inc H H'∧u=.tuple #[vi (nB b),vi 0]:=
 LL.Zag.mono (ZfC hb hg (by have:=v.n;omega) (by have:=v.ckn;omega)) fun u H' h=>⟨h.1,by rw[h.2,Wai v];rfl⟩
theorem Wba (v:Zeo b)(hb:BkAt H bv b)(hg:Za8 H):LL.Zag P 21 #[bv] H fun u H'=>Inc H H'∧u=.tuple #[vi (slpF b),vi (oS b)]:=
 LL.Zag.mono (Zhi hb hg (by have:=v.n;omega) (by have:=v.ckn;omega)) fun u H' h=>⟨h.1,by
  rw[h.2,Wav v,WaF v]
  have:(if oS b=0 then Zhu ((Zae b).filter byN).length (Zae b).length else 0)=slpF b:=by
   unfold slpF
   by_cases h0:0<nB b
   ·rw[if_pos (Waf h0),if_pos h0];rfl
   ·rw[if_neg (by rw[WaT h0];decide),if_neg h0]
  rw[this]⟩
theorem Had_v (v:Zeo b)(hb:BkAt H bv b)(hg:Za8 H):LL.Zag P 31 #[bv] H fun u H'=>Inc H H'∧u=.tuple #[vi (hadF b),vi (oS b)]:=
 LL.Zag.mono (Had_ok hb hg (by have:=v.n;omega) (by have:=v.ckn;omega)) fun u H' h=>⟨h.1,by
  rw[h.2,Wav v]
  have:(if oS b=0 then Zhu ((Zae b).filter (ZgD b)).length (Zae b).length else 0)=hadF b:=by
   unfold hadF
   by_cases h0:0<nB b
   ·rw[if_pos (Waf h0),if_pos h0];rfl
   ·rw[if_neg (by rw[WaT h0];decide),if_neg h0]
  rw[this]⟩
theorem When_v (v:Zeo b)(hb:BkAt H bv b)(hg:Za8 H):LL.Zag P 23 #[bv] H fun u H'=>Inc H H'∧∃ A c,u=.tuple #[.slice A (whenL b).length c,vi (oS b)]∧SlAt H' (.slice A (whenL b).length c) (whenL b):=
 LL.Zag.mono (When_ok hb hg (by have:=v.n;omega) (by have:=v.ckn;omega)) fun u H' h=>⟨h.1,by
  rw[Wav v]at h
  obtain⟨w,bb,rfl,o⟩:=h.2
  have:(if oS b=0 then whenL b else [])=whenL b:=by
   split
   ·rfl
   ·rename_i h0
    rw[Wbu v fun e=>h0 (Waf e)]
  rw[this]at o
  obtain⟨A,c,rfl⟩:=WbH o
  exact⟨A,c,rfl,o.sl⟩⟩
theorem Gap_v {i:Nat}(hi:i<b.pts.length)(v:Zeo b)(hb:BkAt H bv b)(hg:Za8 H):LL.Zag P 29 #[bv,vi i] H fun u H'=>Inc H H'∧∃ A c,u=.tuple #[.slice A (gapL b i).length c,vi (oS b)]∧SlAt H' (.slice A (gapL b i).length c) (gapL b i):=
 LL.Zag.mono (Gap_ok hb hg (by have:=v.n;omega) (by have:=v.ckn;omega)) fun u H' h=>⟨h.1,by
  rw[there_eq hi,Wav v]at h
  obtain⟨w,bb,rfl,o⟩:=h.2
  have:(if oS b=0 then gapL b (i:Int).toNat else [])=gapL b i:=by
   split
   ·rfl
   ·rename_i h0
    rw[WbL fun e=>h0 (Waf e)]
  rw[this]at o
  obtain⟨A,c,rfl⟩:=WbH o
  exact⟨A,c,rfl,o.sl⟩⟩
theorem Wbt (v:Zeo b)(hb:BkAt H bv b)(hg:Za8 H):LL.Zag P 33 #[bv] H fun u H'=>Inc H H'∧u=.tuple #[vi (Wbv b),vb (Wbw b),vi (oS b)]:=
 LL.Zag.mono (Zm2 hb hg (by have:=v.n;omega) (by have:=v.ckn;omega)) fun u H' h=>⟨h.1,by
  rw[h.2,ZfI,Wav v,Wbv,Wbw]
  by_cases h0:0<nB b
  ·rw[if_pos (Waf h0)]
   by_cases h1:sLow b<=sHigh b
   ·rw[if_neg (by omega),if_pos ⟨h0,h1⟩,decide_eq_true (show 0<nB b∧sLow b<=sHigh b from ⟨h0,h1⟩),Waf h0]
   ·rw[if_pos (by omega),if_neg (fun e=>h1 e.2),decide_eq_false (fun e=>h1 e.2),Waf h0]
  ·rw[if_neg (by rw[WaT h0];decide),if_neg (fun e=>h0 e.1),decide_eq_false (fun e=>h0 e.1)]⟩
end
end Go.Proofs
end
section
open Go Go.LL
namespace Go.Proofs
theorem WbC {a m:Int}(h:0<=a)(hm:0<m):0<=a.tmod m∧a.tmod m<m:=⟨Int.tmod_nonneg _ h,Int.tmod_lt_of_pos _ hm⟩
theorem WbN {b:Bk}(h:fitB b=true):Zeo b:=by
 simp only[fitB,Bool.and_eq_true,decide_eq_true_eq]at h
 exact ZaS h.2
section
variable  {P:Prg}[Tz P][Loud P]{H:Hp}
set_option maxHeartbeats 16000000
set_option maxRecDepth 40000
end
end Go.Proofs
end
section
open Go Go.LL
namespace Go.Proofs
theorem WbD (x y:Int)(l:List SPt)(i:Nat)(hi:i<l.length)(rest:List Value):ZaN (encs l++rest) (i * 5) [vi x,vi y]=encs (l.set i { l[i]with ml:=x,mh:=y })++rest:=by
 rw[Zif x y l i hi rest,Zbd hi]
theorem sl_at {α:Type}[Enc α]{H:Hp}{r cap:Nat}{l:List α}{rest:List Value}{E:TypeId}(h:H r=some (.cells (encs l++rest).toArray E (0,0),true)):SlAt H (.slice (some ⟨r,0,none⟩) l.length cap) l:=
 ⟨_,cap,rfl,fun _=>⟨_,rfl,ZbK (Zan h)⟩⟩
theorem own_at {H0 H:Hp}{v:Value}{l:List SPt}{bb:Option Nat}(h:Own H0 H 59 v l bb)(hne:0<l.length):∃ r cap rest,v=.slice (some ⟨r,0,none⟩) l.length cap∧H r=some (.cells (encs l++rest).toArray 59 (0,0),true)∧H0 r=none:=by
 obtain⟨q0,⟨q1,q2,q3⟩ | ⟨r,cap,rest,rfl,rfl,q3,q4,q5⟩⟩:=h.own
 ·omega
 ·exact⟨r,cap,rest,rfl,q3,h.fresh r rfl⟩
section
variable  {P:Prg}[Tz P][Loud P]{H:Hp}
set_option maxHeartbeats 8000000
set_option maxRecDepth 20000
end
end Go.Proofs
end
section
open Go Go.LL
namespace Go.Proofs
section
variable  {P:Prg}[Tz P][Loud P]{H:Hp}
set_option maxHeartbeats 8000000
set_option maxRecDepth 20000
end
end Go.Proofs
end
section
open Go Go.LL
namespace Go.Proofs
theorem WbK {b:Bk}(h:0<nB b):hadF b=Zhu ((Zae b).filter (ZgD b)).length (nB b):=if_pos h
theorem WbF {b:Bk}(h:0<nB b):slpF b=Zhu ((Zae b).filter byN).length (nB b):=if_pos h
structure BrN (p q n m i few many all:Int)(su st:Bool):Prop where
 p3:p=0∨p=1∨p=2
 a1:p=1->q=1
 a2:p≠2->q≠2
 a3:su=true->st=true∧m<=n
 a4:few<=many
 a5:many<=all
 a6:su=true->few=all∧i=n∧p=1
 a7:su=false->few<all
 a8:few=0↔p=2
section
variable  {P:Prg}[Tz P][Loud P]{H:Hp}
set_option maxHeartbeats 16000000
set_option maxRecDepth 40000
end
end Go.Proofs
end
section
open Go Go.LL
namespace Go.Proofs
section
variable  {P:Prg}[Tz P][Loud P]{H:Hp}
set_option maxHeartbeats 16000000
set_option maxRecDepth 40000
end
end Go.Proofs
end
section
open Go Go.LL
namespace Go.Proofs
theorem WaX {H:Hp}{v:Value}{s:Int}{b:Bk}(h:BkS H v s b):∃ Ap p cp Ac c cc x y,v=.tuple #[.agg #[vi x,vi y,.slice Ap p cp,.slice Ac c cc],vi s]∧BkAt H (.agg #[vi x,vi y,.slice Ap p cp,.slice Ac c cc]) (if s=0 then b else bk0):=by
 obtain⟨w,rfl,h⟩:=h
 obtain⟨pv,cv,rfl,hp,hc⟩:=id h
 obtain⟨Ap,cp,rfl,_⟩:=id hp
 obtain⟨Ac,cc,rfl,_⟩:=id hc
 exact⟨_,_,_,_,_,_,_,_,rfl,h⟩
section
variable  {P:Prg}[Tz P][Loud P]{H:Hp}
set_option maxHeartbeats 16000000
set_option maxRecDepth 40000
end
end Go.Proofs
end
