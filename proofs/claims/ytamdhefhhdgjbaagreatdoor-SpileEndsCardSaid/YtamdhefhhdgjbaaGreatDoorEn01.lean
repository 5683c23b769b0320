/- proofs about Leango given: part En1; made by a program out of the longer texts in wip -/
import Derived.Test.YtamdhefhhdgjbaaGreatDoorEn00
set_option linter.all false
section
open Go Go.LL
namespace Go.Proofs
theorem Wa4 {b:Bk}{i:Nat}{n:Int}:n∈Waz b i↔(ptAt b i).ml<=n∧n<=(ptAt b i).mh:=by
 rw[Waz,List.mem_map]
 constructor
 ·rintro⟨t,ht,rfl⟩
  rw[List.mem_range]at ht
  omega
 ·rintro⟨h1,h2⟩
  exact⟨(n-(ptAt b i).ml).toNat,by rw[List.mem_range];omega,by omega⟩
theorem Wa9 (b:Bk)(i:Nat):(Waz b i).Nodup:=by
 rw[Waz,List.Nodup,List.pairwise_map]
 exact List.nodup_range.imp fun h e=>h (by omega)
theorem getD_app {l:List Int}{n:Int}{j:Nat}:(l++[n]).getD j 0=if j<l.length then l.getD j 0 else if j=l.length then n else 0:=by
 simp only[List.getD_eq_getElem?_getD]
 by_cases h:j<l.length
 ·rw[if_pos h,List.getElem?_append_left h]
 ·rw[if_neg h,List.getElem?_append_right (by omega)]
  by_cases h2:j=l.length
  ·subst h2;simp
  ·rw[if_neg h2,List.getElem?_eq_none (by simp;omega)];rfl
theorem Wa6 {l:List Int}{i j:Nat}(h:j<i):(l.take i).getD j 0=l.getD j 0:=by
 simp only[List.getD_eq_getElem?_getD,List.getElem?_take_of_lt h]
theorem Wan {b:Bk}:∀ {i:Nat} {l:List Int},l∈mkL b i↔l.length=i∧∀ j,j<i->(ptAt b j).ml<=l.getD j 0∧l.getD j 0<=(ptAt b j).mh
 | 0,l=>by
  rw[mkL,List.mem_singleton]
  constructor
  ·rintro rfl;exact⟨rfl,fun j h=>by omega⟩
  ·rintro⟨h,_⟩;exact List.length_eq_zero_iff.1 h
 | i+1,l=>by
  rw[mkL,List.mem_flatMap]
  constructor
  ·rintro⟨m,hm,hl⟩
   obtain⟨n,hn,rfl⟩:=List.mem_map.1 hl
   obtain⟨h1,h2⟩:=Wan.1 hm
   refine⟨by simp[h1],fun j hj=>?_⟩
   rw[getD_app]
   by_cases e:j<i
   ·rw[if_pos (by omega)];exact h2 j e
   ·rw[if_neg (by omega),if_pos (by omega)]
    obtain rfl:j=i:=by omega
    exact Wa4.1 hn
  ·rintro⟨h1,h2⟩
   refine⟨l.take i,Wan.2 ⟨by rw[List.length_take];omega,fun j hj=>?_⟩,List.mem_map.2 ⟨l.getD i 0,Wa4.2 (h2 i (by omega)),?_⟩⟩
   ·rw[Wa6 hj];exact h2 j (by omega)
   ·have:=Zi7 (l:=l) (n:=i) (by omega)
    rw[<-h1,List.take_length]at this
    exact this.symm
theorem Wbm {b:Bk}:∀ i:Nat,(mkL b i).Nodup
 | 0=>List.pairwise_singleton _ _
 | i+1=>by
  rw[mkL,List.Nodup,List.pairwise_flatMap]
  refine⟨fun l _=>?_,(Wbm i).imp fun hne x hx y hy e=>?_⟩
  ·rw[List.pairwise_map]
   exact(Wa9 b i).imp fun h e=>h (by simpa using e)
  ·obtain⟨n,_,rfl⟩:=List.mem_map.1 hx
   obtain⟨k,_,rfl⟩:=List.mem_map.1 hy
   exact hne (List.append_inj_left' e rfl)
theorem Wao {bf:Int}{sl:Nat}{k:Slip}:∀ {r:Nat},k∈innerR bf sl r↔k.bf=bf∧(sl:Int)-r<k.by_∧k.by_<=sl∧k.by_≠0
 | 0=>by rw[innerR];simp;omega
 | r+1=>by
  have ih:=@Wao bf sl k r
  rw[innerR]
  split
  ·rw[ih];constructor
   ·rintro⟨h1,h2,h3,h4⟩;exact⟨h1,by omega,h3,h4⟩
   ·rintro⟨h1,h2,h3,h4⟩;exact⟨h1,by omega,h3,h4⟩
  ·rw[List.mem_cons,ih]
   obtain⟨kf,ky⟩:=k
   simp only[Slip.mk.injEq]
   omega
theorem Wam {n sl:Nat}{k:Slip}:∀ {r:Nat},r+1<=n->(k∈outerR n sl r↔((n:Int)-r<=k.bf∧k.bf<n)∧-(sl:Int)<=k.by_∧k.by_<=sl∧k.by_≠0)
 | 0,_=>by rw[outerR];simp;omega
 | r+1,h=>by
  rw[outerR,List.mem_append,Wao,Wam (by omega)]
  omega
theorem Wad {b:Bk}(v:Zeo b){k:Slip}:k∈ZaC b↔k=⟨0,0⟩∨((1<=k.bf∧k.bf<b.pts.length)∧-b.sl<=k.by_∧k.by_<=b.sl∧k.by_≠0):=by
 have:=v.sl
 have:=v.n
 rw[ZaC,List.mem_cons,Wam (by omega)]
 have e:((b.sl.toNat:Nat):Int)=b.sl:=by omega
 have e2:((b.pts.length-1:Nat):Int)=b.pts.length-1:=by omega
 rw[e,e2]
 refine or_congr Iff.rfl ?_
 omega
theorem Wal {bf:Int}{sl:Nat}:∀ r:Nat,(innerR bf sl r).Nodup
 | 0=>List.nodup_nil
 | r+1=>by
  rw[innerR]
  split
  ·exact Wal r
  ·refine List.nodup_cons.2 ⟨fun h=>?_,Wal r⟩
   have:=Wao.1 h
   simp only at this
   omega
theorem WaC {n sl:Nat}:∀ r:Nat,(outerR n sl r).Nodup
 | 0=>List.nodup_nil
 | r+1=>by
  rw[outerR]
  refine List.nodup_append.2 ⟨Wal _,WaC r,fun x hx y hy e=>?_⟩
  have h1:=Wai _ x hx
  have h2:=Waw r y hy
  subst e
  omega
theorem Wba {b:Bk}(v:Zeo b):(ZaC b).Nodup:=by
 rw[ZaC]
 refine List.nodup_cons.2 ⟨fun h=>?_,WaC _⟩
 have:=v.n
 have:=(Wam (by omega)).1 h
 simp only at this
 omega
def Wbg (b:Bk):List Boat:=(mkL b b.pts.length).flatMap fun l=>(ZaC b).map fun k=>(⟨n4of l,k.bf,k.by_⟩:Boat)
theorem WaD {α β:Type}(l:List α)(f:α->List β)(p:β->Bool):(l.flatMap f).filter p=l.flatMap fun a=>(f a).filter p:=by
 induction l with
 | nil=>rfl
 | cons a l ih=>simp[List.flatMap_cons,ih]
theorem WaQ {b:Bk}(v:Zeo b):Zae b=(Wbg b).filter (ZgQ b):=by
 rw[Wbs v,Wbg,WaD]
 rfl
theorem n4_inj {l m:List Int}(h:l.length=m.length)(h4:l.length<=4)(e:n4of l=n4of m):l=m:=by
 refine List.ext_getElem h fun i h1 h2=>?_
 have:(n4of l).get i=(n4of m).get i:=by rw[e]
 rw[Wac (by omega),Wac (by omega),List.getD_eq_getElem?_getD,List.getD_eq_getElem?_getD,List.getElem?_eq_getElem h1,List.getElem?_eq_getElem h2]at this
 simpa using this
theorem cand_iff {b:Bk}(v:Zeo b){x:Boat}:x∈Wbg b↔(∀ j,j<b.pts.length->(ptAt b j).ml<=x.m.get j∧x.m.get j<=(ptAt b j).mh)∧(∀ j,b.pts.length<=j->j<4->x.m.get j=0)∧(⟨x.bf,x.by_⟩:Slip)∈ZaC b:=by
 have hn:=v.n
 rw[Wbg,List.mem_flatMap]
 constructor
 ·rintro⟨l,hl,hx⟩
  obtain⟨k,hk,rfl⟩:=List.mem_map.1 hx
  obtain⟨h1,h2⟩:=Wan.1 hl
  refine⟨fun j hj=>?_,fun j hj h4=>?_,hk⟩
  ·show _<=(n4of l).get j∧(n4of l).get j<=_
   rw[Wac (by omega)];exact h2 j hj
  ·show (n4of l).get j=0
   rw[Wac h4,List.getD_eq_getElem?_getD,List.getElem?_eq_none (by omega)];rfl
 ·rintro⟨h1,h2,h3⟩
  have hL:∀ j,j<b.pts.length->(x.m.list.take b.pts.length).getD j 0=x.m.get j:=by
   intro j hj
   rw[Wa6 hj]
   match j,(by omega:j<4) with
   | 0,_=>rfl
   | 1,_=>rfl
   | 2,_=>rfl
   | 3,_=>rfl
  refine⟨x.m.list.take b.pts.length,Wan.2 ⟨by rw[List.length_take];show min _ 4=_;omega,fun j hj=>?_⟩,List.mem_map.2 ⟨⟨x.bf,x.by_⟩,h3,?_⟩⟩
  ·rw[hL j hj];exact h1 j hj
  ·have:n4of (x.m.list.take b.pts.length)=x.m:=by
    refine N4.ext' fun j h4=>?_
    rw[Wac h4]
    by_cases hj:j<b.pts.length
    ·exact hL j hj
    ·rw[h2 j (by omega) h4,List.getD_eq_getElem?_getD,List.getElem?_eq_none (by rw[List.length_take];omega)];rfl
   rw[this]
theorem Wbz {b:Bk}(v:Zeo b):(Wbg b).Nodup:=by
 have hn:=v.n
 rw[Wbg,List.Nodup,List.pairwise_flatMap]
 refine⟨fun l _=>?_,?_⟩
 ·rw[List.pairwise_map]
  refine(Wba v).imp fun {s t} h e=>h ?_
  simp only[Boat.mk.injEq,true_and]at e
  obtain⟨s1,s2⟩:=s
  obtain⟨t1,t2⟩:=t
  simp only at e
  rw[e.1,e.2]
 ·refine List.Pairwise.imp_of_mem (fun {l m} hl hm hne x hx y hy e=>?_) (Wbm (b:=b) b.pts.length)
  obtain⟨k,_,rfl⟩:=List.mem_map.1 hx
  obtain⟨k',_,rfl⟩:=List.mem_map.1 hy
  simp only[Boat.mk.injEq]at e
  have h1:=(Wan.1 hl).1
  have h2:=(Wan.1 hm).1
  exact hne (n4_inj (by omega) (by omega) e.1)
theorem WbQ {b:Bk}(v:Zeo b){x:Boat}:x∈Zae b↔x∈Wbg b∧ZgQ b x=true:=by
 rw[WaQ v,List.mem_filter]
theorem WaF {b:Bk}(v:Zeo b):(Zae b).Nodup:=by
 rw[WaQ v];exact(Wbz v).filter _
theorem Wah {α:Type}[DecidableEq α]:∀ {l m:List α},l.Nodup->(∀ x∈l,x∈m)->l.length<=m.length
 | [],_,_,_=>Nat.zero_le _
 | a :: l,m,hn,hs=>by
  obtain⟨h1,h2⟩:=List.nodup_cons.1 hn
  have ha:=hs a (List.mem_cons_self ..)
  have:=Wah (l:=l) (m:=m.erase a) h2 fun x hx=>(List.mem_erase_of_ne (by rintro rfl;exact h1 hx)).2 (hs x (List.mem_cons_of_mem _ hx))
  rw[List.length_erase_of_mem ha]at this
  have:=List.length_pos_of_mem ha
  rw[List.length_cons];omega
theorem Wbi {α:Type}[DecidableEq α]{l m:List α}(hl:l.Nodup)(hm:m.Nodup)(h:∀ x,x∈l↔x∈m):l.length=m.length:=
 Nat.le_antisymm (Wah hl fun x hx=>(h x).1 hx) (Wah hm fun x hx=>(h x).2 hx)
end Go.Proofs
end
section
open Go Go.LL
namespace Go.Proofs
section
variable  {P:Prg}[Tz P][Loud P]{H:Hp}
set_option maxHeartbeats 4000000
set_option maxRecDepth 20000
end
end Go.Proofs
end
section
open Go Go.LL
namespace Go.Proofs
end Go.Proofs
end
section
open Go Go.LL
namespace Go.Proofs
theorem ckS_of {n:Nat}:∀ {l:List SCk},(∀ c∈l,(0<=c.p∧c.p<n)∧(-199<=c.gl∧c.gl<=c.gh∧c.gh<=199))->ckS n l=0
 | [],_=>rfl
 | c :: l,h=>by
  have h1:=h c (List.mem_cons_self ..)
  rw[ckS,if_neg (by omega),if_neg (by omega)]
  exact ckS_of fun d hd=>h d (List.mem_cons_of_mem _ hd)
theorem WbF {b:Bk}(v:Zeo b):snag b=0:=by
 have h1:Zbj b=0:=by rw[Zbj,if_pos ⟨v.op,v.sl⟩]
 have h2:Zbk b=0:=by
  rw[Zbk,if_neg (by have:=v.n;omega),if_pos]
  rw[List.all_eq_true]
  intro p hp
  obtain⟨i,hi,rfl⟩:=List.mem_iff_getElem.1 hp
  obtain⟨a1,a2,a3,a4⟩:=v.pts i hi
  simp only[okP,Bool.and_eq_true,decide_eq_true_eq]
  exact⟨⟨⟨a1,a2⟩,a3⟩,a4⟩
 have h3:ckS b.pts.length b.cks=0:=ckS_of v.cks
 rw[snag,if_neg (by simp[h1]),if_neg (by simp[h2]),ZbJ,if_neg (by have:=v.ckn;omega),h3]
theorem open_eq {b:Bk}(v:Zeo b):Zah b true=if 0<(Zae b).length then 0 else 9:=by
 rw[Zah,if_neg (by simp[WbF v]),if_neg (by simp)]
 by_cases h:0<(Zae b).length
 ·rw[if_neg (by omega),if_pos h]
 ·rw[if_pos (by omega),if_neg h]
theorem Wbr {g:N4}{i:Nat}{k:Int}:ckOk g ⟨i,k,k⟩=decide (g.get i=k):=by
 rw[ckOk]
 refine decide_eq_decide.2 ?_
 show k<=g.get (i:Int).toNat∧g.get (i:Int).toNat<=k↔_
 rw[Int.toNat_natCast]
 omega
theorem Wbe {α:Type}{L:List α}{p:α->Bool}(h:∀ x∈L,p x=false):L.filter p=[]:=List.filter_eq_nil_iff.2 fun x hx=>by simp[h x hx]
theorem Wa7 {α:Type}{L:List α}{p:α->Bool}(h:∀ x∈L,p x=true):L.filter p=L:=List.filter_eq_self.2 h
end Go.Proofs
end
section
open Go Go.LL
namespace Go.Proofs
theorem drop_iff {b:Bk}(v:Zeo b){k:Slip}:k∈(ZaC b).drop 1↔(1<=k.bf∧k.bf<b.pts.length)∧-b.sl<=k.by_∧k.by_<=b.sl∧k.by_≠0:=by
 have:=v.sl
 have:=v.n
 show k∈outerR b.pts.length b.sl.toNat (b.pts.length-1)↔_
 rw[Wam (by omega)]
 have e:((b.sl.toNat:Nat):Int)=b.sl:=by omega
 have e2:((b.pts.length-1:Nat):Int)=b.pts.length-1:=by omega
 rw[e,e2]
 omega
theorem Waf {b:Bk}(v:Zeo b){k:Slip}:k∈Wab b↔((1<=k.bf∧k.bf<b.pts.length)∧-b.sl<=k.by_∧k.by_<=b.sl∧k.by_≠0)∧∃ x∈Zae b,x.bf=k.bf∧x.by_=k.by_:=by
 rw[Wab,List.mem_filter,drop_iff v,List.any_eq_true]
 refine and_congr Iff.rfl ⟨fun ⟨x,hx,h⟩=>⟨x,hx,of_decide_eq_true h⟩,fun ⟨x,hx,h⟩=>⟨x,hx,decide_eq_true h⟩⟩
theorem boat_sl {b:Bk}(v:Zeo b){x:Boat}(h:x∈Zae b):(x.bf=0∧x.by_=0)∨((1<=x.bf∧x.bf<b.pts.length)∧-b.sl<=x.by_∧x.by_<=b.sl∧x.by_≠0):=by
 have:=(Wad v).1 (WaG v h)
 simpa using this
theorem WaN {b:Bk}(v:Zeo b):Wab b=[]↔∀ x∈Zae b,x.by_=0:=by
 constructor
 ·intro h x hx
  rcases boat_sl v hx with h1 | h1
  ·exact h1.2
  ·have:(⟨x.bf,x.by_⟩:Slip)∈Wab b:=(Waf v).2 ⟨h1,x,hx,rfl,rfl⟩
   rw[h]at this;simp at this
 ·intro h
  refine List.eq_nil_iff_forall_not_mem.2 fun k hk=>?_
  obtain⟨h1,x,hx,_,h2⟩:=(Waf v).1 hk
  have:=h x hx
  omega
theorem ord_nil {l:List Int}:ordF l=[]↔l=[]:=by
 constructor
 ·intro h
  refine List.eq_nil_iff_forall_not_mem.2 fun x hx=>?_
  have:=((Wax l).2 x).2 hx
  rw[h]at this;simp at this
 ·rintro rfl;rfl
theorem WaW {b:Bk}(v:Zeo b):whenL b=[]↔∀ x∈Zae b,x.by_=0:=by
 rw[WbA v,ord_nil,List.map_eq_nil_iff,List.filter_eq_nil_iff]
 simp only[byN,Bool.not_eq_true',decide_eq_false_iff_not,Decidable.not_not]
def slLt (a c:Slip):Prop:=a.bf<c.bf∨a.bf=c.bf∧a.by_<c.by_
theorem WaV {bf:Int}{sl:Nat}:∀ r,(innerR bf sl r).Pairwise slLt
 | 0=>.nil
 | r+1=>by
  rw[innerR]
  split
  ·exact WaV r
  ·refine List.pairwise_cons.2 ⟨fun k hk=>?_,WaV r⟩
   obtain⟨h1,h2,_⟩:=Wao.1 hk
   exact .inr ⟨h1.symm,h2⟩
theorem Wbk {n sl:Nat}:∀ r,(outerR n sl r).Pairwise slLt
 | 0=>.nil
 | r+1=>by
  rw[outerR,List.pairwise_append]
  refine⟨WaV _,Wbk r,fun a ha d hd=>?_⟩
  have h1:=Wai _ a ha
  have h2:=Waw r d hd
  exact .inl (by omega)
theorem Wa5 (b:Bk):(Wab b).Pairwise slLt:=(Wbk _).sublist List.filter_sublist
theorem Wbt {b:Bk}(v:Zeo b):ordF ((Wab b).map Slip.bf)=whenL b:=by
 rw[whenL,WaS v]
 refine(WbP ?_ fun z=>Iff.rfl).symm
 rw[List.pairwise_map]
 exact(Wa5 b).imp fun h=>by rcases h with h | h<;>omega
end Go.Proofs
end
section
open Go Go.LL
namespace Go.Proofs
structure Wider (b o:Bk):Prop where
 op:o.op=b.op
 sl:o.sl=b.sl
 cks:o.cks=b.cks
 n:o.pts.length=b.pts.length
 ml:∀ i,i<b.pts.length->(ptAt o i).ml=(ptAt b i).ml∧(ptAt o i).mh=(ptAt b i).mh
 w:∀ i,i<b.pts.length->(ptAt o i).w=(ptAt b i).w
 b:∀ i,i<b.pts.length->(ptAt o i).bl<=(ptAt b i).bl∧(ptAt b i).bh<=(ptAt o i).bh
end Go.Proofs
end
section
open Go Go.LL
namespace Go.Proofs
structure Learn (b o:Bk):Prop where
 op:o.op=b.op
 n:o.pts.length=b.pts.length
 bd:∀ i,i<b.pts.length->(ptAt o i).bl=(ptAt b i).bl∧(ptAt o i).bh=(ptAt b i).bh∧(ptAt o i).w=(ptAt b i).w
 sub:∀ x∈Zae o,x∈Zae b
theorem Learn.pos {b o:Bk}(h:Learn b o)(h0:0<(Zae o).length):0<(Zae b).length:=by
 obtain⟨x,hx⟩:=List.exists_mem_of_length_pos h0
 exact List.length_pos_of_mem (h.sub x hx)
end Go.Proofs
end
section
open Go Go.LL
namespace Go.Proofs
def updP (b:Bk)(f:Nat->SPt)(j:Nat):List SPt:=(List.range b.pts.length).map fun i=>if i<j then f i else ptAt b i
def ptsB (b:Bk)(f:Nat->SPt):Bk:={ b with pts:=updP b f b.pts.length }
theorem Wae (b:Bk)(f:Nat->SPt)(j:Nat):(updP b f j).length=b.pts.length:=by simp[updP]
theorem upd_zero (b:Bk)(f:Nat->SPt):updP b f 0=b.pts:=by
 refine List.ext_getElem (Wae b f 0) fun i h1 h2=>?_
 simp only[updP,List.getElem_map,List.getElem_range]
 rw[if_neg (by omega)]
 exact Zbd h2 _
theorem WaR (b:Bk)(f:Nat->SPt){i j:Nat}(h:i<(updP b f j).length):(updP b f j)[i]=if i<j then f i else ptAt b i:=by
 simp only[updP,List.getElem_map,List.getElem_range]
theorem upd_set (b:Bk)(f:Nat->SPt){j:Nat}:(updP b f j).set j (f j)=updP b f (j+1):=by
 refine List.ext_getElem (by rw[List.length_set,Wae,Wae]) fun i h1 h2=>?_
 rw[List.getElem_set,WaR,WaR]
 by_cases e:j=i
 ·subst e;rw[if_pos rfl,if_pos (by omega)]
 ·rw[if_neg e]
  by_cases h:i<j
  ·rw[if_pos h,if_pos (by omega)]
  ·rw[if_neg h,if_neg (by omega)]
theorem WaT (b:Bk)(f:Nat->SPt):(ptsB b f).pts.length=b.pts.length:=Wae b f _
theorem WbJ {b:Bk}{f:Nat->SPt}{i:Nat}(hi:i<b.pts.length):ptAt (ptsB b f) i=f i:=by
 have h:i<(updP b f b.pts.length).length:=by rw[Wae];exact hi
 show (updP b f b.pts.length).getD i _=_
 rw[Zbd h,WaR,if_pos hi]
theorem Wby {b:Bk}{f:Nat->SPt}(v:Zeo b)(h:∀ i,i<b.pts.length->(0<=(f i).ml∧(f i).ml<=(f i).mh∧(f i).mh<=99)∧(f i).mh-(f i).ml<3∧(0<=(f i).bl∧(f i).bl<=(f i).bh∧(f i).bh<=199)∧(0<=(f i).w∧(f i).w<=199)):Zeo (ptsB b f) where
 op:=v.op
 sl:=v.sl
 n:=by rw[WaT];exact v.n
 pts:=fun i hi=>by
  have hi':i<b.pts.length:=by rw[WaT]at hi;exact hi
  have e:(ptsB b f).pts[i]=f i:=by rw[<-WbJ (f:=f) hi'];exact(Zbd hi _).symm
  rw[e];exact h i hi'
 ckn:=v.ckn
 cks:=fun c hc=>by rw[WaT];exact v.cks c hc
def shF (b:Bk)(l:List Int)(i:Nat):SPt:={ ptAt b i with ml:=l.getD i 0,mh:=l.getD i 0 }
def endB (b:Bk)(l:List Int)(k:Slip):Bk:={ ptsB b (shF b l) with cks:=[⟨0,(Waa b l k).getD 0 0,(Waa b l k).getD 0 0⟩,⟨((b.pts.length-1:Nat):Int),(Waa b l k).getD (b.pts.length-1) 0,(Waa b l k).getD (b.pts.length-1) 0⟩] }
theorem Waq {b:Bk}{l:List Int}{k:Slip}{i:Nat}(h:i<l.length):(Waa b l k).getD i 0=b.op-l.getD i 0+if k.bf<=i then k.by_ else 0:=by
 have:i<(Waa b l k).length:=by simp[Waa,h]
 rw[Zbd this]
 simp[Waa]
theorem Wak {b:Bk}{l:List Int}{k:Slip}(v:Zeo b)(hl:l∈mkL b b.pts.length)(hk:k∈ZaC b):Zeo (endB b l k):=by
 obtain⟨h1,h2⟩:=Wan.1 hl
 have hn:=v.n
 have hsl:=ZjT v k hk
 have vp:Zeo (ptsB b (shF b l)):=Wby v fun i hi=>by
  have:=v.pts i hi
  rw[show b.pts[i]=ptAt b i from (Zbd hi _).symm]at this
  have:=h2 i hi
  show (0<=l.getD i 0∧l.getD i 0<=l.getD i 0∧l.getD i 0<=99)∧l.getD i 0-l.getD i 0<3∧(0<=(ptAt b i).bl∧(ptAt b i).bl<=(ptAt b i).bh∧(ptAt b i).bh<=199)∧(0<=(ptAt b i).w∧(ptAt b i).w<=199)
  omega
 have hg:∀ i,i<b.pts.length->-199<=(Waa b l k).getD i 0∧(Waa b l k).getD i 0<=199:=fun i hi=>by
  rw[Waq (by omega)]
  have:=v.pts i hi
  rw[show b.pts[i]=ptAt b i from (Zbd hi _).symm]at this
  have:=h2 i hi
  have:=v.op
  split<;>omega
 refine⟨vp.op,vp.sl,vp.n,vp.pts,by show (2:Nat)<=3;omega,fun c hc=>?_⟩
 have hlen:(endB b l k).pts.length=b.pts.length:=Wae b _ _
 rw[hlen]
 rcases List.mem_cons.1 hc with rfl | hc
 ·have:=hg 0 (by omega)
  refine⟨⟨Int.le_refl _,by show (0:Int)<_;omega⟩,this.1,Int.le_refl _,this.2⟩
 ·rw[List.mem_singleton]at hc
  subst hc
  have:=hg (b.pts.length-1) (by omega)
  refine⟨⟨by show (0:Int)<=((b.pts.length-1:Nat):Int);omega,by show ((b.pts.length-1:Nat):Int)<_;omega⟩,this.1,Int.le_refl _,this.2⟩
theorem War {b:Bk}{l:List Int}{k:Slip}(v:Zeo b)(hl:l∈mkL b b.pts.length)(hk:k∈ZaC b){x:Boat}:x∈Zae (endB b l k)↔x.m=n4of l∧(⟨x.bf,x.by_⟩:Slip)∈ZaC b∧x.by_=k.by_:=by
 have v':=Wak v hl hk
 have hn:=v.n
 obtain⟨h1,h2⟩:=Wan.1 hl
 have hlen:(endB b l k).pts.length=b.pts.length:=Wae b _ _
 have hpt:∀ j,j<b.pts.length->ptAt (endB b l k) j=shF b l j:=fun j hj=>WbJ (f:=shF b l) hj
 have hsl:ZaC (endB b l k)=ZaC b:=by rw[ZaC,ZaC,hlen];rfl
 have hck:=(Wad v).1 hk
 rw[WbQ v',cand_iff v',hlen,hsl]
 have hm:((∀ j,j<b.pts.length->(ptAt (endB b l k) j).ml<=x.m.get j∧x.m.get j<=(ptAt (endB b l k) j).mh)∧∀ j,b.pts.length<=j->j<4->x.m.get j=0)↔x.m=n4of l:=by
  constructor
  ·rintro⟨a1,a2⟩
   refine N4.ext' fun j hj=>?_
   rw[Wac hj]
   by_cases h:j<b.pts.length
   ·have:=a1 j h
    rw[hpt j h]at this
    have e1:(shF b l j).ml=l.getD j 0:=rfl
    have e2:(shF b l j).mh=l.getD j 0:=rfl
    omega
   ·rw[a2 j (by omega) hj,List.getD_eq_getElem?_getD,List.getElem?_eq_none (by omega)];rfl
  ·intro e
   refine⟨fun j h=>?_,fun j h h4=>?_⟩
   ·rw[e,Wac (by omega),hpt j h]
    exact⟨Int.le_refl _,Int.le_refl _⟩
   ·rw[e,Wac h4,List.getD_eq_getElem?_getD,List.getElem?_eq_none (by omega)];rfl
 have hr:x.m=n4of l->(⟨x.bf,x.by_⟩:Slip)∈ZaC b->(ZgQ (endB b l k) x=true↔x.by_=k.by_):=by
  intro e hx
  have hxs:=(Wad v).1 hx
  simp only[Slip.mk.injEq]at hxs
  have hck':(k.bf=0∧k.by_=0)∨(1<=k.bf∧k.bf<b.pts.length):=by
   rcases hck with h | h
   ·left;rw[h];exact⟨rfl,rfl⟩
   ·exact .inr h.1
  have g0:(Zas (endB b l k) x).get 0=b.op-l.getD 0 0+if x.bf<=((0:Nat):Int) then x.by_ else 0:=by
   rw[Zas,N4.of_get _ (by omega),hlen,if_pos (by omega),Zk9,e,Wac (by omega)];rfl
  have gl:(Zas (endB b l k) x).get (b.pts.length-1)=b.op-l.getD (b.pts.length-1) 0+if x.bf<=((b.pts.length-1:Nat):Int) then x.by_ else 0:=by
   rw[Zas,N4.of_get _ (by omega),hlen,if_pos (by omega),Zk9,e,Wac (by omega)];rfl
  have k0:(Waa b l k).getD 0 0=b.op-l.getD 0 0+if k.bf<=((0:Nat):Int) then k.by_ else 0:=Waq (by omega)
  have kl:(Waa b l k).getD (b.pts.length-1) 0=b.op-l.getD (b.pts.length-1) 0+if k.bf<=((b.pts.length-1:Nat):Int) then k.by_ else 0:=Waq (by omega)
  have c0:=Wbr (g:=Zas (endB b l k) x) (i:=0) (k:=(Waa b l k).getD 0 0)
  have cl:=Wbr (g:=Zas (endB b l k) x) (i:=b.pts.length-1) (k:=(Waa b l k).getD (b.pts.length-1) 0)
  have er:ZgQ (endB b l k) x=(decide ((Zas (endB b l k) x).get 0=(Waa b l k).getD 0 0) && decide ((Zas (endB b l k) x).get (b.pts.length-1)=(Waa b l k).getD (b.pts.length-1) 0)):=by
   rw[<-c0,<-cl,ZgQ]
   show (ckOk _ _ && (ckOk _ _ && true))=_
   rw[Bool.and_true];rfl
  rw[er,Bool.and_eq_true,decide_eq_true_eq,decide_eq_true_eq,g0,gl,k0,kl]
  have f1:(if x.bf<=((0:Nat):Int) then x.by_ else 0)=0:=by split<;>omega
  have f2:(if k.bf<=((0:Nat):Int) then k.by_ else 0)=0:=by split<;>omega
  have f3:(if x.bf<=((b.pts.length-1:Nat):Int) then x.by_ else 0)=x.by_:=by split<;>omega
  have f4:(if k.bf<=((b.pts.length-1:Nat):Int) then k.by_ else 0)=k.by_:=by split<;>omega
  rw[f1,f2,f3,f4]
  omega
 constructor
 ·rintro⟨⟨a1,a2,a3⟩,a4⟩
  have e:=hm.1 ⟨a1,a2⟩
  exact⟨e,a3,(hr e a3).1 a4⟩
 ·rintro⟨e,a3,a4⟩
  exact⟨⟨(hm.2 e).1,(hm.2 e).2,a3⟩,(hr e a3).2 a4⟩
def endL (n:Nat)(y:Int):List Slip:=(List.range n).map fun i=>⟨((i+1:Nat):Int),y⟩
theorem Wbh (a:Slip):¬ slLt a a:=by unfold slLt;omega
theorem sl_eq:∀ {l m:List Slip},l.Pairwise slLt->m.Pairwise slLt->(∀ x,x∈l↔x∈m)->l=m
 | [],[],_,_,_=>rfl
 | [],y :: m,_,_,h=>by have:=(h y).2 (List.mem_cons_self ..);simp at this
 | x :: l,[],_,_,h=>by have:=(h x).1 (List.mem_cons_self ..);simp at this
 | x :: l,y :: m,hl,hm,h=>by
  obtain⟨l1,l2⟩:=List.pairwise_cons.1 hl
  obtain⟨m1,m2⟩:=List.pairwise_cons.1 hm
  have exy:x=y:=by
   rcases List.mem_cons.1 ((h x).1 (List.mem_cons_self ..)) with e | h1
   ·exact e
   ·rcases List.mem_cons.1 ((h y).2 (List.mem_cons_self ..)) with e | h2
    ·exact e.symm
    ·have a:=l1 y h2
     have c:=m1 x h1
     unfold slLt at a c
     omega
  subst exy
  congr 1
  refine sl_eq l2 m2 fun z=>⟨fun hz=>?_,fun hz=>?_⟩
  ·rcases List.mem_cons.1 ((h z).1 (List.mem_cons_of_mem _ hz)) with rfl | hz'
   ·exact absurd (l1 z hz) (Wbh z)
   ·exact hz'
  ·rcases List.mem_cons.1 ((h z).2 (List.mem_cons_of_mem _ hz)) with rfl | hz'
   ·exact absurd (m1 z hz) (Wbh z)
   ·exact hz'
theorem WaE {b:Bk}{l:List Int}{k:Slip}(v:Zeo b)(hl:l∈mkL b b.pts.length)(hk:k∈ZaC b)(hy:k.by_≠0):Wab (endB b l k)=endL (b.pts.length-1) k.by_:=by
 have v':=Wak v hl hk
 have hlen:(endB b l k).pts.length=b.pts.length:=Wae b _ _
 have hck:=(Wad v).1 hk
 have hn:=v.n
 refine sl_eq (Wa5 _) ?_ fun x=>?_
 ·rw[endL,List.pairwise_map]
  exact List.pairwise_lt_range.imp fun h=>.inl (by show ((_+1:Nat):Int)<((_+1:Nat):Int);omega)
 ·rw[Waf v',hlen,endL,List.mem_map]
  have hb:k.by_=0∨(-b.sl<=k.by_∧k.by_<=b.sl):=by
   rcases hck with h | h
   ·left;rw[h]
   ·right;omega
  constructor
  ·rintro⟨⟨h1,_⟩,y,hy',e1,e2⟩
   obtain⟨_,_,h3⟩:=(War v hl hk).1 hy'
   refine⟨(x.bf-1).toNat,List.mem_range.2 (by omega),?_⟩
   obtain⟨xf,xy⟩:=x
   simp only[Slip.mk.injEq]at *
   omega
  ·rintro⟨i,hi,rfl⟩
   rw[List.mem_range]at hi
   have hs:(⟨((i+1:Nat):Int),k.by_⟩:Slip)∈ZaC b:=(Wad v).2 (.inr ⟨⟨by show (1:Int)<=((i+1:Nat):Int);omega,by show ((i+1:Nat):Int)<_;omega⟩,by show -b.sl<=k.by_;omega,by show k.by_<=b.sl;omega,hy⟩)
   refine⟨⟨⟨by show (1:Int)<=((i+1:Nat):Int);omega,by show ((i+1:Nat):Int)<_;omega⟩,by show -b.sl<=k.by_;omega,by show k.by_<=b.sl;omega,hy⟩,⟨n4of l,((i+1:Nat):Int),k.by_⟩,(War v hl hk).2 ⟨rfl,hs,rfl⟩,rfl,rfl⟩
theorem Wbf {b:Bk}{l:List Int}{k:Slip}(v:Zeo b)(hl:l∈mkL b b.pts.length)(hk:k∈ZaC b):∀ x∈Zae (endB b l k),x.by_=k.by_:=fun _ hx=>((War v hl hk).1 hx).2.2
theorem WbO {b:Bk}{l:List Int}{k:Slip}(v:Zeo b)(hl:l∈mkL b b.pts.length)(hk:k∈ZaC b):(Zae (endB b l k)).length=if k.by_=0 then 1 else b.pts.length-1:=by
 classical
 have v':=Wak v hl hk
 have hn:=v.n
 by_cases hy:k.by_=0
 ·rw[if_pos hy]
  have:(Zae (endB b l k)).length=[(⟨n4of l,0,0⟩:Boat)].length:=by
   refine Wbi (WaF v') (List.pairwise_singleton _ _) fun x=>?_
   rw[War v hl hk,List.mem_singleton,hy,Wad v]
   obtain⟨m,f,y⟩:=x
   simp only[Boat.mk.injEq,Slip.mk.injEq]
   constructor
   ·rintro⟨h1,h2,h3⟩;exact⟨h1,by omega,h3⟩
   ·rintro⟨h1,h2,h3⟩;exact⟨h1,.inl ⟨h2,h3⟩,h3⟩
  exact this
 ·rw[if_neg hy]
  have e:=WaE v hl hk hy
  have hnd:(endL (b.pts.length-1) k.by_).Nodup:=by
   rw[endL,List.Nodup,List.pairwise_map]
   exact List.nodup_range.imp fun h e=>h (by simp only[Slip.mk.injEq]at e;omega)
  have:(Zae (endB b l k)).length=((endL (b.pts.length-1) k.by_).map fun s=>(⟨n4of l,s.bf,s.by_⟩:Boat)).length:=by
   refine Wbi (WaF v') ?_ fun x=>?_
   ·rw[List.Nodup,List.pairwise_map]
    exact hnd.imp fun {a c} h e=>h (by
     obtain⟨a1,a2⟩:=a
     obtain⟨c1,c2⟩:=c
     simp only[Boat.mk.injEq,true_and]at e
     simp only[Slip.mk.injEq]
     exact e)
   ·rw[<-e,List.mem_map]
    constructor
    ·intro hx
     obtain⟨h1,h2,h3⟩:=(War v hl hk).1 hx
     have h4:=(Wad v).1 h2
     simp only[Slip.mk.injEq]at h4
     have hlen:(endB b l k).pts.length=b.pts.length:=Wae b _ _
     refine⟨⟨x.bf,x.by_⟩,(Waf v').2 ⟨?_,x,hx,rfl,rfl⟩,?_⟩
     ·rw[hlen]
      show (1<=x.bf∧x.bf<_)∧-b.sl<=x.by_∧x.by_<=b.sl∧x.by_≠0
      omega
     ·rw[<-h1]
    ·rintro⟨s,hs,rfl⟩
     obtain⟨_,y,hy',e1,e2⟩:=(Waf v').1 hs
     obtain⟨h1,h2,h3⟩:=(War v hl hk).1 hy'
     have:y=⟨n4of l,s.bf,s.by_⟩:=by rw[<-h1,<-e1,<-e2]
     rw[<-this];exact hy'
  rw[this,List.length_map,endL,List.length_map,List.length_range]
end Go.Proofs
end
section
open Go Go.LL
namespace Go.Proofs
end Go.Proofs
end
section
open Go Go.LL
namespace Go.Proofs
theorem el_eq {l:List Int}{i:Nat}(h:i<l.length):l.getD i 0=l[i]:=Zbd h _
section
variable  {P:Prg}[Tz P][Loud P]{H:Hp}
set_option maxHeartbeats 4000000
set_option maxRecDepth 20000
theorem Wa8 {n:Nat}(hn:n<=1000000):LL.Zag P 76 #[vi n] H fun v H'=>Inc H H'∧∃ bb,Own H H' 3 v ((List.range n).map fun (i:Nat)=>(i:Int)) bb:=by
 have hs:∀ g,P.still g=false:=Loud.loud
 refine IsN.m (isn c76) (args:=[vi n]) rfl ?_
 unfold n76
 refine wkT ?_
 refine ZaP (α:=Value×Option Nat) n (fun j s H'=>Inc H H'∧Own H H' 3 s.1 ((List.range j).map fun (i:Nat)=>(i:Int)) s.2) (fun j s=>[(0,vi n),(3,s.1),(4,vi j)]) (fun _ _=>[]) (.slice none 0 0,none) ⟨.refl _,.nil _ _ _⟩ ⟨rfl,rfl,rfl,trivial⟩ trivial ?_
 rintro j ⟨v3,b3⟩ H2 hj ⟨i2,o3⟩
 simp only at o3
 refine wkT ?_
 refine wiT (fun h1=>?_) (fun h1=>?_)
 ·refine wkT ?_
  refine Zat (cs:=[vi j]) (hs _) rfl fun r5 hr5=>?_
  refine wkT ?_
  refine ZbW (l':=[(j:Int)]) (und u34) (und u34) (tif t3) rfl (by decide) (i2.trans (Zaj hr5)) (o3.ins hr5) Wbn rfl (by simp only[List.length_singleton,List.length_map,List.length_range];omega) (by omega) rfl rfl (hs _) fun v7 H4 b7 k1 k2 k3=>?_
  refine wkT ?_
  exact⟨(⟨j+1,by omega⟩,(v7,b7)),Nat.sub_lt_sub_left (by omega) (Nat.lt_succ_self j),⟨k1,by rw[List.range_succ,List.map_append];exact k2⟩,⟨rfl,rfl,rfl,trivial⟩,trivial,rfl⟩
 ·have:j=n:=by omega
  subst this
  refine wkT ?_
  exact⟨i2,_,o3⟩
end
end Go.Proofs
end
section
open Go Go.LL
namespace Go.Proofs
def nB (b:Bk):Nat:=(Zae b).length
def oS (b:Bk):Int:=if 0<nB b then 0 else 9
theorem Wbd {b:Bk}(v:Zeo b):Zah b true=oS b:=open_eq v
theorem Wbl {b:Bk}(h:0<nB b):oS b=0:=if_pos h
theorem oS_zero {b:Bk}(h:¬ 0<nB b):oS b=9:=if_neg h
theorem WaP {b:Bk}(h:¬ 0<nB b):Zae b=[]:=List.length_eq_zero_iff.1 (by unfold nB at h;omega)
theorem Wbb {b:Bk}(v:Zeo b)(h:¬ 0<nB b):Wab b=[]:=(WaN v).2 fun x hx=>by rw[WaP h]at hx;simp at hx
theorem Wbu {b:Bk}(v:Zeo b)(h:¬ 0<nB b):whenL b=[]:=(WaW v).2 fun x hx=>by rw[WaP h]at hx;simp at hx
theorem WbG {b:Bk}(v:Zeo b):(Wab b).length<=22:=by
 have h1:=List.length_filter_le (fun k=>(Zae b).any (slEq k)) ((ZaC b).drop 1)
 have h2:=ZfM v
 rw[List.length_drop]at h1
 rw[Wab];omega
theorem whenL_le {b:Bk}(v:Zeo b):(whenL b).length<=1782:=by
 rw[WbA v]
 have h1:=ordF_len (((Zae b).filter byN).map Boat.bf)
 rw[List.length_map]at h1
 have h2:=List.length_filter_le byN (Zae b)
 have h3:=Zbp v
 omega
def slpF (b:Bk):Int:=if 0<nB b then Zhu ((Zae b).filter byN).length (nB b) else 0
section
variable  {P:Prg}[Tz P][Loud P]{H:Hp}{bv:Value}{b:Bk}
theorem Boats_v (v:Zeo b)(hb:BkAt H bv b)(hg:Za8 H):LL.Zag P 19 #[bv] H fun u H'=>Inc H H'∧u=.tuple #[vi (nB b),vi 0]:=
 LL.Zag.mono (ZfC hb hg (by have:=v.n;omega) (by have:=v.ckn;omega)) fun u H' h=>⟨h.1,by rw[h.2,WbF v];rfl⟩
theorem WbR (v:Zeo b)(hb:BkAt H bv b)(hg:Za8 H):LL.Zag P 21 #[bv] H fun u H'=>Inc H H'∧u=.tuple #[vi (slpF b),vi (oS b)]:=
 LL.Zag.mono (Zhi hb hg (by have:=v.n;omega) (by have:=v.ckn;omega)) fun u H' h=>⟨h.1,by
  rw[h.2,Wbd v,WaI v]
  have:(if oS b=0 then Zhu ((Zae b).filter byN).length (Zae b).length else 0)=slpF b:=by
   unfold slpF
   by_cases h0:0<nB b
   ·rw[if_pos (Wbl h0),if_pos h0];rfl
   ·rw[if_neg (by rw[oS_zero h0];decide),if_neg h0]
  rw[this]⟩
theorem Slips_v (v:Zeo b)(hb:BkAt H bv b)(hg:Za8 H):LL.Zag P 26 #[bv] H fun u H'=>Inc H H'∧∃ A c,u=.tuple #[.slice A (Wab b).length c,vi (oS b)]∧SlAt H' (.slice A (Wab b).length c) (Wab b):=
 LL.Zag.mono (ZkF hb hg (by have:=v.n;omega) (by have:=v.ckn;omega)) fun u H' h=>⟨h.1,by
  rw[Wbd v]at h
  rcases h.2 with ⟨hz,rfl⟩ | ⟨hz,w,bb,rfl,o⟩
  ·have h0:¬ 0<nB b:=fun e=>hz (Wbl e)
   rw[Wbb v h0]
   exact⟨none,0,rfl,.nil _⟩
  ·rw[WaS v]at o
   obtain⟨A,c,rfl⟩:=Wbc o
   rw[hz]
   exact⟨A,c,rfl,o.sl⟩⟩
theorem When_v (v:Zeo b)(hb:BkAt H bv b)(hg:Za8 H):LL.Zag P 23 #[bv] H fun u H'=>Inc H H'∧∃ A c,u=.tuple #[.slice A (whenL b).length c,vi (oS b)]∧SlAt H' (.slice A (whenL b).length c) (whenL b):=
 LL.Zag.mono (When_ok hb hg (by have:=v.n;omega) (by have:=v.ckn;omega)) fun u H' h=>⟨h.1,by
  rw[Wbd v]at h
  obtain⟨w,bb,rfl,o⟩:=h.2
  have:(if oS b=0 then whenL b else [])=whenL b:=by
   split
   ·rfl
   ·rename_i h0
    rw[Wbu v fun e=>h0 (Wbl e)]
  rw[this]at o
  obtain⟨A,c,rfl⟩:=Wbc o
  exact⟨A,c,rfl,o.sl⟩⟩
end
end Go.Proofs
end
section
open Go Go.LL
namespace Go.Proofs
theorem Wap {a m:Int}(h:0<=a)(hm:0<m):0<=a.tmod m∧a.tmod m<m:=⟨Int.tmod_nonneg _ h,Int.tmod_lt_of_pos _ hm⟩
theorem WaK {f:Nat->Int}{j:Nat}:(List.range (j+1)).map f=(List.range j).map f++[f j]:=by rw[List.range_succ,List.map_append];rfl
theorem WbI {f:Nat->Int}{n i:Nat}(h:i<n):((List.range n).map f).getD i 0=f i:=by
 rw[List.getD_eq_getElem?_getD,List.getElem?_map,List.getElem?_range h];rfl
theorem WbM {b:Bk}(h:fitB b=true):Zeo b:=by
 simp only[fitB,Bool.and_eq_true,decide_eq_true_eq]at h
 exact ZaS h.2
section
variable  {P:Prg}[Tz P][Loud P]{H:Hp}
set_option maxHeartbeats 16000000
set_option maxRecDepth 40000
end
end Go.Proofs
end
section
open Go Go.LL
namespace Go.Proofs
theorem WbE (x y:Int)(l:List SPt)(i:Nat)(hi:i<l.length)(rest:List Value):ZaN (encs l++rest) (i * 5) [vi x,vi y]=encs (l.set i { l[i]with ml:=x,mh:=y })++rest:=by
 rw[Zif x y l i hi rest,Zbd hi]
theorem sl_at {α:Type}[Enc α]{H:Hp}{r cap:Nat}{l:List α}{rest:List Value}{E:TypeId}(h:H r=some (.cells (encs l++rest).toArray E (0,0),true)):SlAt H (.slice (some ⟨r,0,none⟩) l.length cap) l:=
 ⟨_,cap,rfl,fun _=>⟨_,rfl,ZbK (Zan h)⟩⟩
theorem own_at {H0 H:Hp}{v:Value}{l:List SPt}{bb:Option Nat}(h:Own H0 H 59 v l bb)(hne:0<l.length):∃ r cap rest,v=.slice (some ⟨r,0,none⟩) l.length cap∧H r=some (.cells (encs l++rest).toArray 59 (0,0),true)∧H0 r=none:=by
 obtain⟨q0,⟨q1,q2,q3⟩ | ⟨r,cap,rest,rfl,rfl,q3,q4,q5⟩⟩:=h.own
 ·omega
 ·exact⟨r,cap,rest,rfl,q3,h.fresh r rfl⟩
theorem pt_rg {b:Bk}(v:Zeo b){i:Nat}(hi:i<b.pts.length):(0<=(ptAt b i).ml∧(ptAt b i).ml<=(ptAt b i).mh∧(ptAt b i).mh<=99)∧(ptAt b i).mh-(ptAt b i).ml<3∧(0<=(ptAt b i).bl∧(ptAt b i).bl<=(ptAt b i).bh∧(ptAt b i).bh<=199)∧(0<=(ptAt b i).w∧(ptAt b i).w<=199):=by
 have:=v.pts i hi
 rwa [show b.pts[i]=ptAt b i from (Zbd hi _).symm]at this
section
variable  {P:Prg}[Tz P][Loud P]{H:Hp}
set_option maxHeartbeats 8000000
set_option maxRecDepth 20000
end
end Go.Proofs
end
