/- proofs about Leango given: part Rl1; made by a program out of the longer texts in wip -/
import Derived.Test.YtamdhefhhdgjbaaGreatDoorRl00
set_option linter.all false
section
open Go Go.LL
namespace Go.Proofs
theorem WaW:∀ {l m:List Int},l.Pairwise (·<·)->m.Pairwise (·<·)->(∀ x,x∈l↔x∈m)->l=m
 | [],[],_,_,_=>rfl
 | [],y :: m,_,_,h=>by have:=(h y).2 (List.mem_cons_self ..);simp at this
 | x :: l,[],_,_,h=>by have:=(h x).1 (List.mem_cons_self ..);simp at this
 | x :: l,y :: m,hl,hm,h=>by
  obtain⟨l1,l2⟩:=List.pairwise_cons.1 hl
  obtain⟨m1,m2⟩:=List.pairwise_cons.1 hm
  have exy:x=y:=by
   have h1:=(h x).1 (List.mem_cons_self ..)
   have h2:=(h y).2 (List.mem_cons_self ..)
   rcases List.mem_cons.1 h1 with rfl | h1
   ·rfl
   ·rcases List.mem_cons.1 h2 with rfl | h2
    ·rfl
    ·have:=l1 y h2;have:=m1 x h1;omega
  subst exy
  congr 1
  refine WaW l2 m2 fun z=>⟨fun hz=>?_,fun hz=>?_⟩
  ·rcases List.mem_cons.1 ((h z).1 (List.mem_cons_of_mem _ hz)) with rfl | hz'
   ·have:=l1 z hz;omega
   ·exact hz'
  ·rcases List.mem_cons.1 ((h z).2 (List.mem_cons_of_mem _ hz)) with rfl | hz'
   ·have:=m1 z hz;omega
   ·exact hz'
theorem WaV (x:Int):∀ (l:List Int) (z:Int),z∈insD x l↔z=x∨z∈l
 | [],z=>by simp[insD]
 | y :: r,z=>by
  rw[insD]
  have ih:=WaV x r z
  split
  ·rw[List.mem_cons,ih,List.mem_cons]
   constructor
   ·rintro(h | h | h)
    ·exact .inr (.inl h)
    ·exact .inl h
    ·exact .inr (.inr h)
   ·rintro(h | h | h)
    ·exact .inr (.inl h)
    ·exact .inl h
    ·exact .inr (.inr h)
  ·split
   ·rename_i h;subst h;rw[List.mem_cons]
    constructor
    ·exact .inr
    ·rintro(h | h)
     ·exact .inl h
     ·exact h
   ·rw[List.mem_cons]
theorem WbY (x:Int):∀ {l:List Int},l.Pairwise (·<·)->(insD x l).Pairwise (·<·)
 | [],_=>by simp[insD]
 | y :: r,h=>by
  obtain⟨h1,h2⟩:=List.pairwise_cons.1 h
  rw[insD]
  split
  ·rename_i hy
   refine List.pairwise_cons.2 ⟨fun z hz=>?_,WbY x h2⟩
   rcases(WaV x r z).1 hz with rfl | hz
   ·exact hy
   ·exact h1 z hz
  ·split
   ·exact h
   ·refine List.pairwise_cons.2 ⟨fun z hz=>?_,h⟩
    rcases List.mem_cons.1 hz with rfl | hz
    ·omega
    ·have:=h1 z hz;omega
theorem Waw:∀ l:List Int,(ordF l).Pairwise (·<·)∧∀ z,z∈ordF l↔z∈l:=by
 refine Zfm ⟨.nil,fun z=>Iff.rfl⟩ fun l x ih=>?_
 have e:ordF (l++[x])=insD x (ordF l):=by rw[ordF,List.foldl_append];rfl
 rw[e]
 refine⟨WbY x ih.1,fun z=>?_⟩
 rw[WaV,ih.2 z,List.mem_append,List.mem_singleton]
 exact Or.comm
theorem Wbw {l:List Int}(h:l.Pairwise (·<=·)):∀ n,n<=l.length->(cmpP l n).Pairwise (·<·)∧(∀ z,z∈cmpP l n↔z∈l.take n)∧(∀ z∈cmpP l n,z<=el l (n-1))
 | 0,_=>⟨.nil,fun z=>by simp[cmpP],fun z hz=>by simp[cmpP]at hz⟩
 | n+1,hn=>by
  obtain⟨h1,h2,h3⟩:=Wbw h n (by omega)
  have hmono:∀ i j,i<=j->j<l.length->el l i<=el l j:=by
   intro i j hij hj
   rw[Zhf (by omega),Zhf hj]
   rcases Nat.lt_or_ge i j with h' | h'
   ·exact List.pairwise_iff_getElem.1 h i j (by omega) hj h'
   ·have:i=j:=by omega
    subst this;exact Int.le_refl _
  rw[Zi7 (by omega)]
  by_cases h0:n=0
  ·subst h0
   rw[cmp_one]
   exact⟨List.pairwise_singleton _ _,fun z=>by simp,fun z hz=>by rw[List.mem_singleton.1 hz];exact Int.le_refl _⟩
  ·by_cases he:el l n=el l (n-1)
   ·rw[cmp_eq h0 he]
    refine⟨h1,fun z=>?_,fun z hz=>?_⟩
    ·rw[h2,List.mem_append,List.mem_singleton]
     constructor
     ·exact .inl
     ·rintro(hz | rfl)
      ·exact hz
      ·rw[he]
       have e2:n=(n-1)+1:=by omega
       rw[e2,Zi7 (by omega)]
       simp
    ·have:=h3 z hz;rw[Nat.add_sub_cancel,he];exact this
   ·rw[cmp_ne he]
    refine⟨?_,fun z=>?_,fun z hz=>?_⟩
    ·rw[List.pairwise_append]
     refine⟨h1,List.pairwise_singleton _ _,fun a ha c hc=>?_⟩
     rw[List.mem_singleton.1 hc]
     have g1:=h3 a ha
     have g2:=hmono (n-1) n (by omega) (by omega)
     omega
    ·rw[List.mem_append,h2,List.mem_append]
    ·rw[Nat.add_sub_cancel]
     rcases List.mem_append.1 hz with hz | hz
     ·have g1:=h3 z hz
      have g2:=hmono (n-1) n (by omega) (by omega)
      omega
     ·rw[List.mem_singleton.1 hz];exact Int.le_refl _
theorem Wb6 {l m:List Int}(h:l.Pairwise (·<=·))(hm:∀ z,z∈l↔z∈m):cmpF l=ordF m:=by
 obtain⟨h1,h2,_⟩:=Wbw h l.length (Nat.le_refl _)
 obtain⟨h3,h4⟩:=Waw m
 exact WaW h1 h3 fun z=>by rw[cmpF,h2,h4,List.take_length];exact hm z
theorem WaJ {b:Bk}(v:Zeo b){x:Boat}(h:x∈Zae b):(⟨x.bf,x.by_⟩:Slip)∈ZaC b:=by
 rw[Wby v]at h
 obtain⟨l,_,h⟩:=List.mem_flatMap.1 h
 obtain⟨k,hk,rfl⟩:=List.mem_map.1 (List.mem_filter.1 h).1
 exact hk
theorem Way {b:Bk}(v:Zeo b){k:Slip}(h:k∈(ZaC b).drop 1):(1<=k.bf∧k.bf<b.pts.length)∧-b.sl<=k.by_∧k.by_<=b.sl∧k.by_≠0:=by
 have:=v.sl
 have:=v.n
 have h:=Zj7 (n:=b.pts.length) (sl:=b.sl.toNat) _ (by omega) k h
 omega
theorem WaR {b:Bk}{k:Slip}(h:k∈ZaC b):k=⟨0,0⟩∨k∈(ZaC b).drop 1:=List.mem_cons.1 h
theorem WbB {b:Bk}(v:Zeo b){x:Boat}(h:x∈Zae b):x.slipped=byN x:=by
 rcases WaR (WaJ v h) with h1 | h1
 ·simp only[Slip.mk.injEq]at h1
  simp[Boat.slipped,byN,h1]
 ·have:=(Way v h1).2.2.2
  simp only at this
  simp[Boat.slipped,byN,this]
theorem WaL {b:Bk}(v:Zeo b):(Zae b).filter Boat.slipped=(Zae b).filter byN:=List.filter_congr fun x hx=>WbB v hx
theorem Wbm {b:Bk}(v:Zeo b):ZjU b=Wab b:=by
 have h0:ZaC b=⟨0,0⟩ :: (ZaC b).drop 1:=rfl
 rw[ZjU,h0,List.filter_cons,Wab]
 have hno:((Zae b).any (ZfN ⟨0,0⟩))=false:=by
  rw[List.any_eq_false]
  intro x _
  simp only[ZfN,Boat.slipped]
  by_cases h:x.bf=0∧x.by_=0<;>simp[h]
 rw[hno,if_neg (by simp)]
 refine List.filter_congr fun k hk=>?_
 have hk0:=(Way v hk).2.2.2
 rw[Bool.eq_iff_iff,List.any_eq_true,List.any_eq_true]
 constructor
 ·rintro⟨x,hx,h⟩
  exact⟨x,hx,by simp only[ZfN,Bool.and_eq_true]at h;exact h.2⟩
 ·rintro⟨x,hx,h⟩
  refine⟨x,hx,?_⟩
  have h:=of_decide_eq_true h
  simp only[ZfN,Boat.slipped,h,Bool.and_eq_true]
  simp[hk0]
theorem Wam {bf:Int}{sl:Nat}:∀ r,∀ k∈innerR bf sl r,k.bf=bf
 | 0,k,h=>by simp[innerR]at h
 | r+1,k,h=>by
  rw[innerR]at h
  split at h
  ·exact Wam r k h
  ·rcases List.mem_cons.1 h with rfl | h
   ·rfl
   ·exact Wam r k h
theorem Wbo {n sl:Nat}:∀ r,∀ k∈outerR n sl r,(n:Int)-r<=k.bf
 | 0,k,h=>by simp[outerR]at h
 | r+1,k,h=>by
  rw[outerR]at h
  rcases List.mem_append.1 h with h | h
  ·have:=Wam _ k h;omega
  ·have:=Wbo r k h;omega
theorem pw_const {l:List Slip}{c:Int}(h:∀ k∈l,k.bf=c):l.Pairwise fun a d=>a.bf<=d.bf:=by
 induction l with
 | nil=>exact .nil
 | cons a l ih=>
  refine List.pairwise_cons.2 ⟨fun d hd=>?_,ih fun k hk=>h k (List.mem_cons_of_mem _ hk)⟩
  rw[h a (List.mem_cons_self ..),h d (List.mem_cons_of_mem _ hd)];exact Int.le_refl _
theorem Was {n sl:Nat}:∀ r,(outerR n sl r).Pairwise fun a d=>a.bf<=d.bf
 | 0=>.nil
 | r+1=>by
  rw[outerR,List.pairwise_append]
  refine⟨pw_const fun k hk=>Wam _ k hk,Was r,fun a ha d hd=>?_⟩
  have h1:=Wam _ a ha
  have h2:=Wbo r d hd
  omega
theorem Wbd {b:Bk}(v:Zeo b):whenL b=ordF (((Zae b).filter byN).map Boat.bf):=by
 rw[whenL,Wbm v]
 refine Wb6 ?_ fun z=>?_
 ·rw[List.pairwise_map]
  exact(Was _).sublist List.filter_sublist
 ·rw[List.mem_map,List.mem_map]
  constructor
  ·rintro⟨k,hk,rfl⟩
   obtain⟨h1,h2⟩:=List.mem_filter.1 hk
   obtain⟨x,hx,h3⟩:=List.any_eq_true.1 h2
   have h3:=of_decide_eq_true h3
   refine⟨x,List.mem_filter.2 ⟨hx,?_⟩,h3.1⟩
   have:=(Way v h1).2.2.2
   simp[byN,h3.2,this]
  ·rintro⟨x,hx,rfl⟩
   obtain⟨h1,h2⟩:=List.mem_filter.1 hx
   refine⟨⟨x.bf,x.by_⟩,List.mem_filter.2 ⟨?_,List.any_eq_true.2 ⟨x,h1,by simp[slEq]⟩⟩,rfl⟩
   rcases WaR (WaJ v h1) with h | h
   ·simp only[Slip.mk.injEq]at h
    simp[byN,h.2]at h2
   ·exact h
theorem gap_eq {b:Bk}{p:Nat}{m:List Int}(hm:m=(Zae b).map fun x=>(Zas b x).get p):gapL b p=ordF m:=by
 rw[gapL]
 exact Wb6 (srt_le _) fun z=>by rw[(Zfk _).mem_iff,hm]
end Go.Proofs
end
section
open Go Go.LL
namespace Go.Proofs
theorem WaB {α:Type}[Enc α]{H0 H:Hp}{E:TypeId}{v:Value}{l:List α}{b:Option Nat}(h:Own H0 H E v l b):∃ A c,v=.slice A l.length c:=by
 obtain⟨A,c,h1,_⟩:=h.sl
 exact⟨A,c,h1⟩
section
variable  {P:Prg}[Tz P][Loud P]{H:Hp}
set_option maxHeartbeats 8000000
set_option maxRecDepth 40000
theorem WaK {u w:Value}{a:List Int}(ha:SlAt H u a)(hb:SlAt H w a)(hl:a.length<=1000000):LL.Zag P 25 #[u,w] H fun v H'=>H=H'∧v=vb true:=
 LL.Zag.mono (Zia ha hb hl hl) fun v H' h=>⟨h.1,h.2.trans (by rw[decide_eq_true rfl])⟩
end
end Go.Proofs
end
section
open Go Go.LL
namespace Go.Proofs
theorem Wae (l:List U16)(i:Int):0<=Zgj l i∧Zgj l i<65536:=by
 unfold Zgj
 split
 ·exact⟨l[i.toNat].lo,l[i.toNat].hi⟩
 ·omega
section
variable  {P:Prg}[Tz P][Loud P]{H:Hp}
set_option maxHeartbeats 4000000
set_option maxRecDepth 20000
end
end Go.Proofs
end
section
open Go Go.LL Go.Conc Go.ConcM
namespace Go.Proofs
open YtamdhefhhdgjbaaGreatDoor Go.ChangeShapes Go.WideShapes
section
set_option maxRecDepth 100000
variable  {H:Type}{enc:TypeId×Value->H}{W:World}{base:Nat}{sp:Nat->Bool}{held:Bool}{fuel:Nat}{cs:List Value}{y:DataW H×List MemPlace}{r:Reach}{b0:Nat}{v:Value}{d:DataW H}{ps:List MemPlace}
theorem u16_trod (h:DataW.trod enc Tryz.prog W base sp held fuel 168 cs=some y):∃ u:U16,cs=Enc.enc u:=by
 obtain⟨n,rfl,_,hw⟩:=DataW.trod_int Tryz.underlying168 h
 simp only[Lit.wf,Bool.and_eq_true,decide_eq_true_eq]at hw
 have h1:IntKind.u16.min=0:=rfl
 have h2:IntKind.u16.max=65535:=rfl
 exact⟨⟨n,by omega,by omega⟩,rfl⟩
theorem cells168:Tryz.prog.cellsOf 168=1:=by kernel_rfl
theorem under72:Tryz.prog.underlying 72=some (.slice 168):=by kernel_rfl
theorem open_sl {α:Type}[Enc α]{t e:TypeId}(ht:Tryz.prog.underlying t=some (.slice e))(hc:Tryz.prog.cellsOf e=Enc.sz α)(hpos:0<Enc.sz α)
  (hel:∀ {n:Nat} {cs:List Value} {y:DataW H×List MemPlace},DataW.trod enc Tryz.prog W base sp held n e cs=some y->∃ x:α,cs=Enc.enc x)
  (hval:Value.okWide Tryz.prog W r b0 t v) (hd:DataW.Trod enc Tryz.prog W base sp held t v d ps):∃ l:List α,SlAt (roW W) v l:=by
 obtain⟨fuel,hf⟩:=hd
 obtain⟨a,len,cap,rfl⟩:=okWide_slice ht hval
 obtain⟨v,hv,l,hl⟩:=ZlR ht hc hpos hel hf
 have:Value.slice a len cap=v:=by simpa[Value.cells]using hv
 exact⟨l,this ▸ hl⟩
theorem WbM (hval:Value.okWide Tryz.prog W r b0 72 v)(hd:DataW.Trod enc Tryz.prog W base sp held 72 v d ps):∃ l:List U16,SlAt (roW W) v l:=
 open_sl under72 cells168 (by decide) u16_trod hval hd
theorem u8_open (hval:Value.okWide Tryz.prog W r b0 5 v)(hd:DataW.Trod enc Tryz.prog W base sp held 5 v d ps):∃ n,v=.int .u8 n∧0<=n∧n<256:=by
 obtain⟨n,rfl,_,_,hw⟩:=open_int Tryz.underlying5 hval hd
 simp only[Lit.wf,Bool.and_eq_true,decide_eq_true_eq]at hw
 have h1:IntKind.u8.min=0:=rfl
 have h2:IntKind.u8.max=255:=rfl
 exact⟨n,rfl,by omega,by omega⟩
end
end Go.Proofs
end
section
open Go Go.LL Go.Conc Go.ConcM
namespace Go.Proofs.YtamdhefhhdgjbaaGreatDoor
theorem Wa0:Tryz.pinned.checked.prog.funcNamed Rows.spileRealRow.func=some 16:=by kernel_rfl
theorem WaZ:joinedFacts Tryz.pinned.checked.prog 16 Tryz.f16 Rows.spileRealSpec Rows.spileRealRow=true:=by kernel_rfl
theorem WaY:Tryz.f16.isInstance Tryz.pinned.checked.prog Rows.spileRealRow.origin Rows.spileRealRow.targs:=of_decide_eq_true (by kernel_rfl)
theorem WaX:Tryz.f16.isWrapper Tryz.pinned.checked.prog Rows.spileRealRow.wrapper Rows.spileRealRow.mainSum:=by unfold Func.isWrapper;first | (rw[if_pos (by decide +kernel)];kernel_rfl) | (rw[if_neg (by decide +kernel)];exact⟨rfl,rfl⟩)
end Go.Proofs.YtamdhefhhdgjbaaGreatDoor
end
section
open Go Go.LL
namespace Go.Proofs
theorem Wa4 {b:Bk}{i:Nat}{n:Int}:n∈Wan b i↔(ptAt b i).ml<=n∧n<=(ptAt b i).mh:=by
 rw[Wan,List.mem_map]
 constructor
 ·rintro⟨t,ht,rfl⟩
  rw[List.mem_range]at ht
  omega
 ·rintro⟨h1,h2⟩
  exact⟨(n-(ptAt b i).ml).toNat,by rw[List.mem_range];omega,by omega⟩
theorem getD_app {l:List Int}{n:Int}{j:Nat}:(l++[n]).getD j 0=if j<l.length then l.getD j 0 else if j=l.length then n else 0:=by
 simp only[List.getD_eq_getElem?_getD]
 by_cases h:j<l.length
 ·rw[if_pos h,List.getElem?_append_left h]
 ·rw[if_neg h,List.getElem?_append_right (by omega)]
  by_cases h2:j=l.length
  ·subst h2;simp
  ·rw[if_neg h2,List.getElem?_eq_none (by simp;omega)];rfl
theorem Wa9 {l:List Int}{i j:Nat}(h:j<i):(l.take i).getD j 0=l.getD j 0:=by
 simp only[List.getD_eq_getElem?_getD,List.getElem?_take_of_lt h]
theorem Wah {b:Bk}:∀ {i:Nat} {l:List Int},l∈mkL b i↔l.length=i∧∀ j,j<i->(ptAt b j).ml<=l.getD j 0∧l.getD j 0<=(ptAt b j).mh
 | 0,l=>by
  rw[mkL,List.mem_singleton]
  constructor
  ·rintro rfl;exact⟨rfl,fun j h=>by omega⟩
  ·rintro⟨h,_⟩;exact List.length_eq_zero_iff.1 h
 | i+1,l=>by
  rw[mkL,List.mem_flatMap]
  constructor
  ·rintro⟨m,hm,hl⟩
   obtain⟨n,hn,rfl⟩:=List.mem_map.1 hl
   obtain⟨h1,h2⟩:=Wah.1 hm
   refine⟨by simp[h1],fun j hj=>?_⟩
   rw[getD_app]
   by_cases e:j<i
   ·rw[if_pos (by omega)];exact h2 j e
   ·rw[if_neg (by omega),if_pos (by omega)]
    obtain rfl:j=i:=by omega
    exact Wa4.1 hn
  ·rintro⟨h1,h2⟩
   refine⟨l.take i,Wah.2 ⟨by rw[List.length_take];omega,fun j hj=>?_⟩,List.mem_map.2 ⟨l.getD i 0,Wa4.2 (h2 i (by omega)),?_⟩⟩
   ·rw[Wa9 hj];exact h2 j (by omega)
   ·have:=Zi7 (l:=l) (n:=i) (by omega)
    rw[<-h1,List.take_length]at this
    exact this.symm
theorem Wa8 {bf:Int}{sl:Nat}{k:Slip}:∀ {r:Nat},k∈innerR bf sl r↔k.bf=bf∧(sl:Int)-r<k.by_∧k.by_<=sl∧k.by_≠0
 | 0=>by rw[innerR];simp;omega
 | r+1=>by
  have ih:=@Wa8 bf sl k r
  rw[innerR]
  split
  ·rw[ih];constructor
   ·rintro⟨h1,h2,h3,h4⟩;exact⟨h1,by omega,h3,h4⟩
   ·rintro⟨h1,h2,h3,h4⟩;exact⟨h1,by omega,h3,h4⟩
  ·rw[List.mem_cons,ih]
   obtain⟨kf,ky⟩:=k
   simp only[Slip.mk.injEq]
   omega
theorem WaC {n sl:Nat}{k:Slip}:∀ {r:Nat},r+1<=n->(k∈outerR n sl r↔((n:Int)-r<=k.bf∧k.bf<n)∧-(sl:Int)<=k.by_∧k.by_<=sl∧k.by_≠0)
 | 0,_=>by rw[outerR];simp;omega
 | r+1,h=>by
  rw[outerR,List.mem_append,Wa8,WaC (by omega)]
  omega
theorem Wa6 {b:Bk}(v:Zeo b){k:Slip}:k∈ZaC b↔k=⟨0,0⟩∨((1<=k.bf∧k.bf<b.pts.length)∧-b.sl<=k.by_∧k.by_<=b.sl∧k.by_≠0):=by
 have:=v.sl
 have:=v.n
 rw[ZaC,List.mem_cons,WaC (by omega)]
 have e:((b.sl.toNat:Nat):Int)=b.sl:=by omega
 have e2:((b.pts.length-1:Nat):Int)=b.pts.length-1:=by omega
 rw[e,e2]
 refine or_congr Iff.rfl ?_
 omega
def WaP (b:Bk):List Boat:=(mkL b b.pts.length).flatMap fun l=>(ZaC b).map fun k=>(⟨n4of l,k.bf,k.by_⟩:Boat)
theorem WaI {α β:Type}(l:List α)(f:α->List β)(p:β->Bool):(l.flatMap f).filter p=l.flatMap fun a=>(f a).filter p:=by
 induction l with
 | nil=>rfl
 | cons a l ih=>simp[List.flatMap_cons,ih]
theorem WbJ {b:Bk}(v:Zeo b):Zae b=(WaP b).filter (ZgQ b):=by
 rw[Wby v,WaP,WaI]
 rfl
theorem Wbx {b:Bk}(v:Zeo b){x:Boat}:x∈WaP b↔(∀ j,j<b.pts.length->(ptAt b j).ml<=x.m.get j∧x.m.get j<=(ptAt b j).mh)∧(∀ j,b.pts.length<=j->j<4->x.m.get j=0)∧(⟨x.bf,x.by_⟩:Slip)∈ZaC b:=by
 have hn:=v.n
 rw[WaP,List.mem_flatMap]
 constructor
 ·rintro⟨l,hl,hx⟩
  obtain⟨k,hk,rfl⟩:=List.mem_map.1 hx
  obtain⟨h1,h2⟩:=Wah.1 hl
  refine⟨fun j hj=>?_,fun j hj h4=>?_,hk⟩
  ·show _<=(n4of l).get j∧(n4of l).get j<=_
   rw[Waa (by omega)];exact h2 j hj
  ·show (n4of l).get j=0
   rw[Waa h4,List.getD_eq_getElem?_getD,List.getElem?_eq_none (by omega)];rfl
 ·rintro⟨h1,h2,h3⟩
  have hL:∀ j,j<b.pts.length->(x.m.list.take b.pts.length).getD j 0=x.m.get j:=by
   intro j hj
   rw[Wa9 hj]
   match j,(by omega:j<4) with
   | 0,_=>rfl
   | 1,_=>rfl
   | 2,_=>rfl
   | 3,_=>rfl
  refine⟨x.m.list.take b.pts.length,Wah.2 ⟨by rw[List.length_take];show min _ 4=_;omega,fun j hj=>?_⟩,List.mem_map.2 ⟨⟨x.bf,x.by_⟩,h3,?_⟩⟩
  ·rw[hL j hj];exact h1 j hj
  ·have:n4of (x.m.list.take b.pts.length)=x.m:=by
    refine N4.ext' fun j h4=>?_
    rw[Waa h4]
    by_cases hj:j<b.pts.length
    ·exact hL j hj
    ·rw[h2 j (by omega) h4,List.getD_eq_getElem?_getD,List.getElem?_eq_none (by rw[List.length_take];omega)];rfl
   rw[this]
theorem Wbc {b:Bk}(v:Zeo b){x:Boat}:x∈Zae b↔x∈WaP b∧ZgQ b x=true:=by
 rw[WbJ v,List.mem_filter]
end Go.Proofs
end
section
open Go Go.LL
namespace Go.Proofs
section
variable  {P:Prg}[Tz P][Loud P]{H:Hp}
set_option maxHeartbeats 4000000
set_option maxRecDepth 20000
end
end Go.Proofs
end
section
open Go Go.LL
namespace Go.Proofs
theorem Wbi:∀ (l:List Int) (f:Int),(Zbq gtB f l=f∨Zbq gtB f l∈l)∧f<=Zbq gtB f l∧∀ x∈l,x<=Zbq gtB f l
 | [],f=>⟨.inl rfl,Int.le_refl _,by simp⟩
 | x :: l,f=>by
  have e:Zbq gtB f (x :: l)=Zbq gtB (if gtB x f then x else f) l:=rfl
  rw[e]
  by_cases hx:gtB x f=true
  ·rw[if_pos hx]
   obtain⟨h1,h2,h3⟩:=Wbi l x
   have hx':f<x:=of_decide_eq_true hx
   refine⟨.inr (List.mem_cons.2 h1),by omega,fun y hy=>?_⟩
   rcases List.mem_cons.1 hy with rfl | hy
   ·exact h2
   ·exact h3 y hy
  ·rw[if_neg hx]
   obtain⟨h1,h2,h3⟩:=Wbi l f
   have hx':¬ f<x:=fun h=>hx (decide_eq_true h)
   refine⟨h1.imp id (List.mem_cons_of_mem _),h2,fun y hy=>?_⟩
   rcases List.mem_cons.1 hy with rfl | hy
   ·omega
   ·exact h3 y hy
theorem Wbh:∀ (l:List Int) (f:Int),(Zbq ltB f l=f∨Zbq ltB f l∈l)∧Zbq ltB f l<=f∧∀ x∈l,Zbq ltB f l<=x
 | [],f=>⟨.inl rfl,Int.le_refl _,by simp⟩
 | x :: l,f=>by
  have e:Zbq ltB f (x :: l)=Zbq ltB (if ltB x f then x else f) l:=rfl
  rw[e]
  by_cases hx:ltB x f=true
  ·rw[if_pos hx]
   obtain⟨h1,h2,h3⟩:=Wbh l x
   have hx':x<f:=of_decide_eq_true hx
   refine⟨.inr (List.mem_cons.2 h1),by omega,fun y hy=>?_⟩
   rcases List.mem_cons.1 hy with rfl | hy
   ·exact h2
   ·exact h3 y hy
  ·rw[if_neg hx]
   obtain⟨h1,h2,h3⟩:=Wbh l f
   have hx':¬ x<f:=fun h=>hx (decide_eq_true h)
   refine⟨h1.imp id (List.mem_cons_of_mem _),h2,fun y hy=>?_⟩
   rcases List.mem_cons.1 hy with rfl | hy
   ·omega
   ·exact h3 y hy
theorem max_of {L:List Int}(h:L≠[]):Zbq gtB (L.getD 0 0) (L.drop 1)∈L∧∀ x∈L,x<=Zbq gtB (L.getD 0 0) (L.drop 1):=by
 cases L with
 | nil=>exact absurd rfl h
 | cons a l=>
  obtain⟨h1,h2,h3⟩:=Wbi l a
  refine⟨List.mem_cons.2 h1,fun y hy=>?_⟩
  rcases List.mem_cons.1 hy with rfl | hy
  ·exact h2
  ·exact h3 y hy
theorem min_of {L:List Int}(h:L≠[]):Zbq ltB (L.getD 0 0) (L.drop 1)∈L∧∀ x∈L,Zbq ltB (L.getD 0 0) (L.drop 1)<=x:=by
 cases L with
 | nil=>exact absurd rfl h
 | cons a l=>
  obtain⟨h1,h2,h3⟩:=Wbh l a
  refine⟨List.mem_cons.2 h1,fun y hy=>?_⟩
  rcases List.mem_cons.1 hy with rfl | hy
  ·exact h2
  ·exact h3 y hy
theorem WbW {b:Bk}(g:N4)(h:1<=b.pts.length):(∀ i,i<b.pts.length->(ptAt b i).bl-g.get i<=lowF b g)∧∃ i,i<b.pts.length∧lowF b g=(ptAt b i).bl-g.get i:=by
 have hne:ZgC b g≠[]:=by
  intro e
  have:(ZgC b g).length=b.pts.length:=by simp[ZgC]
  rw[e]at this;simp at this;omega
 obtain⟨h1,h2⟩:=max_of hne
 refine⟨fun i hi=>h2 _ (List.mem_map.2 ⟨i,List.mem_range.2 hi,rfl⟩),?_⟩
 obtain⟨i,hi,e⟩:=List.mem_map.1 h1
 exact⟨i,List.mem_range.1 hi,e.symm⟩
theorem WbF {b:Bk}(g:N4)(h:1<=b.pts.length):(∀ i,i<b.pts.length->Zfc b g<=(ptAt b i).bh-(ptAt b i).w-g.get i)∧∃ i,i<b.pts.length∧Zfc b g=(ptAt b i).bh-(ptAt b i).w-g.get i:=by
 have hne:ZdK b g≠[]:=by
  intro e
  have:(ZdK b g).length=b.pts.length:=by simp[ZdK]
  rw[e]at this;simp at this;omega
 obtain⟨h1,h2⟩:=min_of hne
 refine⟨fun i hi=>h2 _ (List.mem_map.2 ⟨i,List.mem_range.2 hi,rfl⟩),?_⟩
 obtain⟨i,hi,e⟩:=List.mem_map.1 h1
 exact⟨i,List.mem_range.1 hi,e.symm⟩
end Go.Proofs
end
section
open Go Go.LL
namespace Go.Proofs
theorem ckS_of {n:Nat}:∀ {l:List SCk},(∀ c∈l,(0<=c.p∧c.p<n)∧(-199<=c.gl∧c.gl<=c.gh∧c.gh<=199))->ckS n l=0
 | [],_=>rfl
 | c :: l,h=>by
  have h1:=h c (List.mem_cons_self ..)
  rw[ckS,if_neg (by omega),if_neg (by omega)]
  exact ckS_of fun d hd=>h d (List.mem_cons_of_mem _ hd)
theorem Wao {b:Bk}(v:Zeo b):snag b=0:=by
 have h1:Zbj b=0:=by rw[Zbj,if_pos ⟨v.op,v.sl⟩]
 have h2:Zbk b=0:=by
  rw[Zbk,if_neg (by have:=v.n;omega),if_pos]
  rw[List.all_eq_true]
  intro p hp
  obtain⟨i,hi,rfl⟩:=List.mem_iff_getElem.1 hp
  obtain⟨a1,a2,a3,a4⟩:=v.pts i hi
  simp only[okP,Bool.and_eq_true,decide_eq_true_eq]
  exact⟨⟨⟨a1,a2⟩,a3⟩,a4⟩
 have h3:ckS b.pts.length b.cks=0:=ckS_of v.cks
 rw[snag,if_neg (by simp[h1]),if_neg (by simp[h2]),ZbJ,if_neg (by have:=v.ckn;omega),h3]
theorem Wbl {b:Bk}:Zc9 b=true↔0<(Zae b).length:=by
 rw[Zc9]
 cases Zae b<;>simp
theorem open_eq {b:Bk}(v:Zeo b):Zah b true=if 0<(Zae b).length then 0 else 9:=by
 rw[Zah,if_neg (by simp[Wao v]),if_neg (by simp)]
 by_cases h:0<(Zae b).length
 ·rw[if_neg (by omega),if_pos h]
 ·rw[if_pos (by omega),if_neg h]
theorem there_eq {b:Bk}{i:Nat}(h:i<b.pts.length):decide (0<=(i:Int)∧(i:Int)<b.pts.length)=true:=decide_eq_true ⟨by omega,by omega⟩
theorem mk_pts {b b':Bk}(h:b.pts=b'.pts):∀ i,mkL b i=mkL b' i
 | 0=>rfl
 | i+1=>by
  have:Wan b i=Wan b' i:=by rw[Wan,Wan,ptAt,ptAt,h]
  rw[mkL,mkL,mk_pts h i,this]
theorem cand_pts {b b':Bk}(h:b.pts=b'.pts)(h2:b.sl=b'.sl):WaP b=WaP b':=by
 have:ZaC b=ZaC b':=by rw[ZaC,ZaC,h,h2]
 rw[WaP,WaP,mk_pts h,h,this]
theorem Wb1 {b b':Bk}(h:b.op=b'.op)(h2:b.pts.length=b'.pts.length)(x:Boat):Zas b x=Zas b' x:=by
 simp only[Zas,Zk9,h,h2]
theorem Wbb {α:Type}{L:List α}{p:α->Bool}(h:∀ x∈L,p x=true):L.filter p=L:=List.filter_eq_self.2 h
theorem Wad {α:Type}{L:List α}{p:α->Bool}:(L.filter p).length=L.length↔∀ x∈L,p x=true:=by
 constructor
 ·intro h x hx
  rw[<-List.filter_eq_self.1 (List.filter_sublist.eq_of_length h) x hx]
 ·intro h;rw[Wbb h]
theorem Wbt {b:Bk}{p:Nat}{z:Int}:z∈gapL b p↔∃ x∈Zae b,(Zas b x).get p=z:=by
 rw[gap_eq rfl,(Waw _).2,List.mem_map]
end Go.Proofs
end
section
open Go Go.LL
namespace Go.Proofs
theorem drop_iff {b:Bk}(v:Zeo b){k:Slip}:k∈(ZaC b).drop 1↔(1<=k.bf∧k.bf<b.pts.length)∧-b.sl<=k.by_∧k.by_<=b.sl∧k.by_≠0:=by
 have:=v.sl
 have:=v.n
 show k∈outerR b.pts.length b.sl.toNat (b.pts.length-1)↔_
 rw[WaC (by omega)]
 have e:((b.sl.toNat:Nat):Int)=b.sl:=by omega
 have e2:((b.pts.length-1:Nat):Int)=b.pts.length-1:=by omega
 rw[e,e2]
 omega
theorem Wap {b:Bk}(v:Zeo b){k:Slip}:k∈Wab b↔((1<=k.bf∧k.bf<b.pts.length)∧-b.sl<=k.by_∧k.by_<=b.sl∧k.by_≠0)∧∃ x∈Zae b,x.bf=k.bf∧x.by_=k.by_:=by
 rw[Wab,List.mem_filter,drop_iff v,List.any_eq_true]
 refine and_congr Iff.rfl ⟨fun ⟨x,hx,h⟩=>⟨x,hx,of_decide_eq_true h⟩,fun ⟨x,hx,h⟩=>⟨x,hx,decide_eq_true h⟩⟩
theorem Wb7 {b:Bk}(v:Zeo b){x:Boat}(h:x∈Zae b):(x.bf=0∧x.by_=0)∨((1<=x.bf∧x.bf<b.pts.length)∧-b.sl<=x.by_∧x.by_<=b.sl∧x.by_≠0):=by
 have:=(Wa6 v).1 (WaJ v h)
 simpa using this
theorem WbA {b:Bk}(v:Zeo b):Wab b=[]↔∀ x∈Zae b,x.by_=0:=by
 constructor
 ·intro h x hx
  rcases Wb7 v hx with h1 | h1
  ·exact h1.2
  ·have:(⟨x.bf,x.by_⟩:Slip)∈Wab b:=(Wap v).2 ⟨h1,x,hx,rfl,rfl⟩
   rw[h]at this;simp at this
 ·intro h
  refine List.eq_nil_iff_forall_not_mem.2 fun k hk=>?_
  obtain⟨h1,x,hx,_,h2⟩:=(Wap v).1 hk
  have:=h x hx
  omega
theorem ord_nil {l:List Int}:ordF l=[]↔l=[]:=by
 constructor
 ·intro h
  refine List.eq_nil_iff_forall_not_mem.2 fun x hx=>?_
  have:=((Waw l).2 x).2 hx
  rw[h]at this;simp at this
 ·rintro rfl;rfl
theorem WbK {b:Bk}(v:Zeo b):whenL b=[]↔∀ x∈Zae b,x.by_=0:=by
 rw[Wbd v,ord_nil,List.map_eq_nil_iff,List.filter_eq_nil_iff]
 simp only[byN,Bool.not_eq_true',decide_eq_false_iff_not,Decidable.not_not]
end Go.Proofs
end
section
open Go Go.LL
namespace Go.Proofs
theorem Wak {b:Bk}{g:N4}{s:Int}:Zcx b g s=true↔lowF b g<=s∧s<=Zfc b g:=by rw[Zcx,decide_eq_true_eq]
theorem span_rg {b:Bk}(v:Zeo b){x:Boat}(hx:x∈Zae b){s:Int}(h:Zcx b (Zas b x) s=true):-597<=s∧s<598:=by
 have hn:=v.n
 obtain⟨h1,h2⟩:=Wak.1 h
 have a1:=(WbW (b:=b) (Zas b x) (by omega)).1 0 (by omega)
 have a2:=(WbF (b:=b) (Zas b x) (by omega)).1 0 (by omega)
 have a3:=gap_in v (Zc2 v x hx) 0 (by omega)
 have e:ptAt b 0=b.pts[0]:=Zbd (by omega) _
 have:=v.pts 0 (by omega)
 rw[e]at a1 a2
 omega
theorem cnt_pos {b:Bk}(v:Zeo b){s:Int}(h:0<cntF b s):-597<=s∧s<598:=by
 obtain⟨x,hx⟩:=List.exists_mem_of_length_pos h
 obtain⟨h1,h2⟩:=List.mem_filter.1 hx
 exact span_rg v h1 h2
theorem cnt_le (b:Bk)(s:Int):cntF b s<=(Zae b).length:=List.length_filter_le _ _
theorem WaE {b:Bk}(v:Zeo b){q:Pl}:q∈mostL b↔q.k=cntF b q.s∧0<q.k:=by
 rw[Zmj]
 constructor
 ·rintro⟨n,hn,rfl,h⟩
  have e:(Zbr b 0 n).s=(n:Int)-597:=by simp[Zbr]
  have e2:(Zbr b 0 n).k=cntF b ((n:Int)-597):=by simp[Zbr]
  rw[e,e2]
  exact⟨rfl,by omega⟩
 ·rintro⟨h1,h2⟩
  obtain⟨r1,r2⟩:=cnt_pos v (s:=q.s) (by omega)
  refine⟨(q.s+597).toNat,by omega,?_,?_⟩
  ·have e:(((q.s+597).toNat:Nat):Int)-597=q.s:=by omega
   obtain⟨s,k⟩:=q
   simp only[Zbr,Nat.sub_zero]at *
   rw[e,<-h1]
  ·have e:(((q.s+597).toNat:Nat):Int)-597=q.s:=by omega
   rw[e];omega
theorem Wal {b:Bk}(v:Zeo b):(∀ s,(cntF b s:Int)<=(ZiE b).k)∧((ZiE b).k=0∧(ZiE b).s=0∨0<(ZiE b).k∧(ZiE b).k=cntF b (ZiE b).s∧∀ s,(cntF b s:Int)=(ZiE b).k->(ZiE b).s<=s):=by
 by_cases hL:mostL b=[]
 ·have hz:∀ s,cntF b s=0:=by
   intro s
   refine Classical.byContradiction fun h=>?_
   have:(⟨s,cntF b s⟩:Pl)∈mostL b:=(WaE v).2 ⟨rfl,by show (0:Int)<(cntF b s:Int);omega⟩
   rw[hL]at this;simp at this
  have hm:ZiE b=pl0:=by rw[ZiE,hL];rfl
  rw[hm]
  refine⟨fun s=>?_,.inl ⟨rfl,rfl⟩⟩
  rw[hz s];exact Int.le_refl _
 ·obtain⟨h1,h2⟩:=Ziq hL
  obtain⟨h3,h4⟩:=(WaE v).1 h1
  have hb:∀ s,0<cntF b s->¬ betP ⟨s,cntF b s⟩ (ZiE b)=true:=fun s hs=>h2 _ ((WaE v).2 ⟨rfl,by show (0:Int)<(cntF b s:Int);omega⟩)
  have h3:(ZiE b).k=cntF b (ZiE b).s:=h3
  have h4:0<(ZiE b).k:=h4
  refine⟨fun s=>?_,.inr ⟨h4,h3,fun s hs=>?_⟩⟩
  ·by_cases h0:0<cntF b s
   ·have:=hb s h0
    rw[Zfy]at this
    simp only at this
    omega
   ·omega
  ·have:=hb s (by omega)
   rw[Zfy]at this
   simp only at this
   omega
theorem Wa5 {b:Bk}{z:Int}:z∈Zgv b↔∃ x∈Zae b,lowF b (Zas b x)=z:=List.mem_map
theorem WaS {b:Bk}{z:Int}:z∈ZdH b↔∃ x∈Zae b,Zfc b (Zas b x)=z:=List.mem_map
theorem Waz {b:Bk}(h:0<(Zae b).length):(∀ x∈Zae b,lowF b (Zas b x)<=sLow b)∧∃ x∈Zae b,lowF b (Zas b x)=sLow b:=by
 have hne:Zgv b≠[]:=by
  intro e
  have:(Zgv b).length=(Zae b).length:=List.length_map _
  rw[e]at this;simp at this;omega
 obtain⟨h1,h2⟩:=max_of hne
 exact⟨fun x hx=>h2 _ (Wa5.2 ⟨x,hx,rfl⟩),Wa5.1 h1⟩
theorem Waq {b:Bk}(h:0<(Zae b).length):(∀ x∈Zae b,sHigh b<=Zfc b (Zas b x))∧∃ x∈Zae b,Zfc b (Zas b x)=sHigh b:=by
 have hne:ZdH b≠[]:=by
  intro e
  have:(ZdH b).length=(Zae b).length:=List.length_map _
  rw[e]at this;simp at this;omega
 obtain⟨h1,h2⟩:=min_of hne
 exact⟨fun x hx=>h2 _ (WaS.2 ⟨x,hx,rfl⟩),WaS.1 h1⟩
theorem sure_iff {b:Bk}(h:0<(Zae b).length){s:Int}:(∀ x∈Zae b,Zcx b (Zas b x) s=true)↔sLow b<=s∧s<=sHigh b:=by
 obtain⟨a1,x,hx,a2⟩:=Waz h
 obtain⟨c1,y,hy,c2⟩:=Waq h
 constructor
 ·intro hh
  have:=Wak.1 (hh x hx)
  have:=Wak.1 (hh y hy)
  omega
 ·rintro⟨h1,h2⟩ z hz
  have:=a1 z hz
  have:=c1 z hz
  exact Wak.2 ⟨by omega,by omega⟩
theorem Wb5 {b:Bk}(h:0<(Zae b).length){s:Int}:cntF b s=(Zae b).length↔sLow b<=s∧s<=sHigh b:=by
 rw[cntF,Wad,sure_iff h]
theorem Wax {b:Bk}{x:Boat}:ZgD b x=true↔lowF b (Zas b x)<=Zfc b (Zas b x):=by rw[ZgD,decide_eq_true_eq]
theorem WbN {b:Bk}(v:Zeo b)(h:0<(Zae b).length)(hs:sLow b<=sHigh b):(ZiE b).k=(Zae b).length∧(ZiE b).s=sLow b∧((Zae b).filter (ZgD b)).length=(Zae b).length:=by
 obtain⟨h1,h2⟩:=Wal v
 have c0:=(Wb5 h (s:=sLow b)).2 ⟨Int.le_refl _,hs⟩
 have g0:=h1 (sLow b)
 have hk:(ZiE b).k=(Zae b).length:=by
  rcases h2 with ⟨h3,_⟩ | ⟨_,h3,_⟩
  ·omega
  ·have:=cnt_le b (ZiE b).s;omega
 refine⟨hk,?_,Wad.2 fun x hx=>?_⟩
 ·rcases h2 with ⟨h3,_⟩ | ⟨_,h3,h4⟩
  ·omega
  ·have h5:=h4 (sLow b) (by omega)
   have h6:=(Wb5 h (s:=(ZiE b).s)).1 (by omega)
   omega
 ·have:=(Waz h).1 x hx
  have:=(Waq h).1 x hx
  exact Wax.2 (by omega)
theorem WbV {b:Bk}(v:Zeo b):0<=(ZiE b).k∧(ZiE b).k<=(Zae b).length:=by
 obtain⟨_,h2⟩:=Wal v
 rcases h2 with ⟨h3,_⟩ | ⟨h4,h3,_⟩
 ·omega
 ·have:=cnt_le b (ZiE b).s;omega
structure Wider (b o:Bk):Prop where
 op:o.op=b.op
 sl:o.sl=b.sl
 cks:o.cks=b.cks
 n:o.pts.length=b.pts.length
 ml:∀ i,i<b.pts.length->(ptAt o i).ml=(ptAt b i).ml∧(ptAt o i).mh=(ptAt b i).mh
 w:∀ i,i<b.pts.length->(ptAt o i).w=(ptAt b i).w
 b:∀ i,i<b.pts.length->(ptAt o i).bl<=(ptAt b i).bl∧(ptAt b i).bh<=(ptAt o i).bh
end Go.Proofs
end
section
open Go Go.LL
namespace Go.Proofs
structure Learn (b o:Bk):Prop where
 op:o.op=b.op
 n:o.pts.length=b.pts.length
 bd:∀ i,i<b.pts.length->(ptAt o i).bl=(ptAt b i).bl∧(ptAt o i).bh=(ptAt b i).bh∧(ptAt o i).w=(ptAt b i).w
 sub:∀ x∈Zae o,x∈Zae b
theorem WbL {b:Bk}(v:Zeo b){z:Int}:z∈whenL b↔∃ x∈Zae b,x.by_≠0∧x.bf=z:=by
 rw[Wbd v,(Waw _).2,List.mem_map]
 constructor
 ·rintro⟨x,hx,e⟩
  obtain⟨h1,h2⟩:=List.mem_filter.1 hx
  exact⟨x,h1,by simpa[byN]using h2,e⟩
 ·rintro⟨x,hx,h1,e⟩
  exact⟨x,List.mem_filter.2 ⟨hx,by simpa[byN]using h1⟩,e⟩
theorem Learn.pos {b o:Bk}(h:Learn b o)(h0:0<(Zae o).length):0<(Zae b).length:=by
 obtain⟨x,hx⟩:=List.exists_mem_of_length_pos h0
 exact List.length_pos_of_mem (h.sub x hx)
end Go.Proofs
end
section
open Go Go.LL
namespace Go.Proofs
theorem WbH {b:Bk}{l:List Int}{k:Slip}{i:Nat}(h:i<l.length):(gapsOfL b l k).getD i 0=b.op-l.getD i 0+if k.bf<=i then k.by_ else 0:=by
 have:i<(gapsOfL b l k).length:=by simp[gapsOfL,h]
 rw[Zbd this]
 simp[gapsOfL]
end Go.Proofs
end
section
open Go Go.LL
namespace Go.Proofs
theorem Wb8 {b:Bk}(v:Zeo b){l:List Int}{k:Slip}(hl:l∈mkL b b.pts.length)(hk:k∈ZaC b):Zgk l k∈WaP b:=by
 obtain⟨h1,h2⟩:=Wah.1 hl
 have hn:=v.n
 refine(Wbx v).2 ⟨fun j hj=>?_,fun j hj h4=>?_,hk⟩
 ·show _<=(n4of l).get j∧(n4of l).get j<=_
  rw[Waa (by omega)];exact h2 j hj
 ·show (n4of l).get j=0
  rw[Waa h4,List.getD_eq_getElem?_getD,List.getElem?_eq_none (by omega)];rfl
theorem WaH {b:Bk}(v:Zeo b){l:List Int}{k:Slip}(hl:l∈mkL b b.pts.length){i:Nat}(hi:i<b.pts.length):(Zas b (Zgk l k)).get i=(gapsOfL b l k).getD i 0:=by
 rw[Wb2 v (Wah.1 hl).1 k,gap_get v _ hi];rfl
theorem gaps_n4 {b:Bk}(v:Zeo b){l:List Int}{k:Slip}(hl:l∈mkL b b.pts.length):n4of (gapsOfL b l k)=Zas b (Zgk l k):=by
 refine N4.ext' fun j hj=>?_
 rw[Waa hj]
 by_cases h:j<b.pts.length
 ·rw[WaH v hl h]
 ·have:(gapsOfL b l k).length=b.pts.length:=by simp[gapsOfL,(Wah.1 hl).1]
  rw[List.getD_eq_getElem?_getD,List.getElem?_eq_none (by omega),Zas,N4.of_get _ hj,if_neg h];rfl
theorem WbR {b:Bk}(v:Zeo b){l:List Int}{k:Slip}(hl:l∈mkL b b.pts.length)(hk:k∈ZaC b){i:Nat}:-199<=(gapsOfL b l k).getD i 0∧(gapsOfL b l k).getD i 0<=199:=by
 by_cases hi:i<b.pts.length
 ·obtain⟨h1,h2⟩:=Wah.1 hl
  rw[WbH (by omega)]
  have:=v.pts i hi
  rw[show b.pts[i]=ptAt b i from (Zbd hi _).symm]at this
  have:=h2 i hi
  have:=v.op
  have:=ZjT v k hk
  split<;>omega
 ·have:(gapsOfL b l k).length=b.pts.length:=by simp[gapsOfL,(Wah.1 hl).1]
  rw[List.getD_eq_getElem?_getD,List.getElem?_eq_none (by omega)]
  show (-199:Int)<=0∧(0:Int)<=199
  omega
def trC (g:List Int)(c:SCk):SCk:={ c with gl:=min (g.getD c.p.toNat 0) c.gl,gh:=max (g.getD c.p.toNat 0) c.gh }
def trB (b:Bk)(g:List Int):Bk:={ b with cks:=b.cks.map (trC g) }
theorem Wbj {b:Bk}{g:List Int}(v:Zeo b)(hg:∀ i,-199<=g.getD i 0∧g.getD i 0<=199):Zeo (trB b g) where
 op:=v.op
 sl:=v.sl
 n:=v.n
 pts:=v.pts
 ckn:=by show (b.cks.map _).length<=3;rw[List.length_map];exact v.ckn
 cks:=fun c hc=>by
  obtain⟨d,hd,rfl⟩:=List.mem_map.1 hc
  have h1:=v.cks d hd
  have h2:=hg d.p.toNat
  refine⟨h1.1,?_⟩
  show -199<=min (g.getD d.p.toNat 0) d.gl∧min (g.getD d.p.toNat 0) d.gl<=max (g.getD d.p.toNat 0) d.gh∧max (g.getD d.p.toNat 0) d.gh<=199
  omega
theorem tr_boat {b:Bk}(v:Zeo b){l:List Int}{k:Slip}(hl:l∈mkL b b.pts.length)(hk:k∈ZaC b):Zgk l k∈Zae (trB b (gapsOfL b l k)):=by
 have v':=Wbj v fun i=>WbR v hl hk (i:=i)
 rw[Wbc v',cand_pts (b:=trB b (gapsOfL b l k)) (b':=b) rfl rfl]
 refine⟨Wb8 v hl hk,?_⟩
 rw[ZgQ,List.all_eq_true]
 intro c hc
 obtain⟨d,hd,rfl⟩:=List.mem_map.1 hc
 have h1:=(v.cks d hd).1
 rw[ckOk,Wb1 (b:=trB b (gapsOfL b l k)) (b':=b) rfl rfl]
 have e:(Zas b (Zgk l k)).get (trC (gapsOfL b l k) d).p.toNat=(gapsOfL b l k).getD d.p.toNat 0:=WaH v hl (by show d.p.toNat<_;omega)
 rw[e,decide_eq_true_eq]
 show min _ _<=_∧_<=max _ _
 omega
theorem Wba {α:Type}{L:List α}{p:α->Bool}{x:α}(hx:x∈L):(Zhu (L.filter p).length L.length=1->p x=true)∧(Zhu (L.filter p).length L.length=2->p x=false):=by
 rw[Zhu]
 constructor
 ·intro h
  split at h
  ·simp at h
  ·split at h
   ·exact Wad.1 (by assumption) x hx
   ·simp at h
 ·intro h
  split at h
  ·rename_i h0
   rw[List.length_eq_zero_iff,List.filter_eq_nil_iff]at h0
   simpa using h0 x hx
  ·split at h<;>simp at h
theorem WaU {b:Bk}(v:Zeo b){x:Boat}(hx:x∈Zae b)(h:x.by_≠0):(⟨x.bf,x.by_⟩:Slip)∈Wab b:=by
 rcases Wb7 v hx with h1 | h1
 ·exact absurd h1.2 h
 ·exact(Wap v).2 ⟨h1,x,hx,rfl,rfl⟩
end Go.Proofs
end
