import Derived.Test.YthmnpenamnoniaaGreatDoorBn00
set_option linter.all false
section
open Go Go.LL Go.Conc Go.ConcM
namespace Go.Proofs.YthmnpenamnoniaaGreatDoor
theorem WaB:Tryz.pinned.checked.prog.funcNamed Rows.spileBentRow.func=some 3:=by kernel_rfl
theorem WaA:joinedFacts Tryz.pinned.checked.prog 3 Tryz.f3 Rows.spileBentSpec Rows.spileBentRow=true:=by kernel_rfl
theorem Waz:Tryz.f3.isInstance Tryz.pinned.checked.prog Rows.spileBentRow.origin Rows.spileBentRow.targs:=of_decide_eq_true (by kernel_rfl)
theorem Way:Tryz.f3.isWrapper Tryz.pinned.checked.prog Rows.spileBentRow.wrapper Rows.spileBentRow.mainSum:=by unfold Func.isWrapper;first | (rw[if_pos (by decide +kernel)];kernel_rfl) | (rw[if_neg (by decide +kernel)];exact⟨rfl,rfl⟩)
end Go.Proofs.YthmnpenamnoniaaGreatDoor
end
section
open Go Go.LL
namespace Go.Proofs
theorem WaD {b:Bk}{i:Nat}{n:Int}:n∈spanI b i↔(ptAt b i).ml<=n∧n<=(ptAt b i).mh:=by
 rw[spanI,List.mem_map]
 constructor
 ·rintro⟨t,ht,rfl⟩
  rw[List.mem_range]at ht
  omega
 ·rintro⟨h1,h2⟩
  exact⟨(n-(ptAt b i).ml).toNat,by rw[List.mem_range];omega,by omega⟩
theorem getD_app {l:List Int}{n:Int}{j:Nat}:(l++[n]).getD j 0=if j<l.length then l.getD j 0 else if j=l.length then n else 0:=by
 simp only[List.getD_eq_getElem?_getD]
 by_cases h:j<l.length
 ·rw[if_pos h,List.getElem?_append_left h]
 ·rw[if_neg h,List.getElem?_append_right (by omega)]
  by_cases h2:j=l.length
  ·subst h2;simp
  ·rw[if_neg h2,List.getElem?_eq_none (by simp;omega)];rfl
theorem Wa4 {l:List Int}{i j:Nat}(h:j<i):(l.take i).getD j 0=l.getD j 0:=by
 simp only[List.getD_eq_getElem?_getD,List.getElem?_take_of_lt h]
theorem WaG {b:Bk}:∀ {i:Nat} {l:List Int},l∈mkL b i↔l.length=i∧∀ j,j<i->(ptAt b j).ml<=l.getD j 0∧l.getD j 0<=(ptAt b j).mh
 | 0,l=>by
  rw[mkL,List.mem_singleton]
  constructor
  ·rintro rfl;exact⟨rfl,fun j h=>by omega⟩
  ·rintro⟨h,_⟩;exact List.length_eq_zero_iff.1 h
 | i+1,l=>by
  rw[mkL,List.mem_flatMap]
  constructor
  ·rintro⟨m,hm,hl⟩
   obtain⟨n,hn,rfl⟩:=List.mem_map.1 hl
   obtain⟨h1,h2⟩:=WaG.1 hm
   refine⟨by simp[h1],fun j hj=>?_⟩
   rw[getD_app]
   by_cases e:j<i
   ·rw[if_pos (by omega)];exact h2 j e
   ·rw[if_neg (by omega),if_pos (by omega)]
    obtain rfl:j=i:=by omega
    exact WaD.1 hn
  ·rintro⟨h1,h2⟩
   refine⟨l.take i,WaG.2 ⟨by rw[List.length_take];omega,fun j hj=>?_⟩,List.mem_map.2 ⟨l.getD i 0,WaD.2 (h2 i (by omega)),?_⟩⟩
   ·rw[Wa4 hj];exact h2 j (by omega)
   ·have:=Zi3 (l:=l) (n:=i) (by omega)
    rw[<-h1,List.take_length]at this
    exact this.symm
theorem WaH {bf:Int}{sl:Nat}{k:Slip}:∀ {r:Nat},k∈innerR bf sl r↔k.bf=bf∧(sl:Int)-r<k.by_∧k.by_<=sl∧k.by_≠0
 | 0=>by rw[innerR];simp;omega
 | r+1=>by
  have ih:=@WaH bf sl k r
  rw[innerR]
  split
  ·rw[ih];constructor
   ·rintro⟨h1,h2,h3,h4⟩;exact⟨h1,by omega,h3,h4⟩
   ·rintro⟨h1,h2,h3,h4⟩;exact⟨h1,by omega,h3,h4⟩
  ·rw[List.mem_cons,ih]
   obtain⟨kf,ky⟩:=k
   simp only[Slip.mk.injEq]
   omega
theorem WaE {n sl:Nat}{k:Slip}:∀ {r:Nat},r+1<=n->(k∈outerR n sl r↔((n:Int)-r<=k.bf∧k.bf<n)∧-(sl:Int)<=k.by_∧k.by_<=sl∧k.by_≠0)
 | 0,_=>by rw[outerR];simp;omega
 | r+1,h=>by
  rw[outerR,List.mem_append,WaH,WaE (by omega)]
  omega
theorem WaU {b:Bk}(v:Zen b){k:Slip}:k∈ZaB b↔k=⟨0,0⟩∨((1<=k.bf∧k.bf<b.pts.length)∧-b.sl<=k.by_∧k.by_<=b.sl∧k.by_≠0):=by
 have:=v.sl
 have:=v.n
 rw[ZaB,List.mem_cons,WaE (by omega)]
 have e:((b.sl.toNat:Nat):Int)=b.sl:=by omega
 have e2:((b.pts.length-1:Nat):Int)=b.pts.length-1:=by omega
 rw[e,e2]
 refine or_congr Iff.rfl ?_
 omega
end Go.Proofs
end
section
open Go Go.LL
namespace Go.Proofs
end Go.Proofs
end
section
open Go Go.LL
namespace Go.Proofs
theorem ckS_of {n:Nat}:∀ {l:List SCk},(∀ c∈l,(0<=c.p∧c.p<n)∧(-199<=c.gl∧c.gl<=c.gh∧c.gh<=199))->ckS n l=0
 | [],_=>rfl
 | c :: l,h=>by
  have h1:=h c (List.mem_cons_self ..)
  rw[ckS,if_neg (by omega),if_neg (by omega)]
  exact ckS_of fun d hd=>h d (List.mem_cons_of_mem _ hd)
theorem snag_of {b:Bk}(v:Zen b):snag b=0:=by
 have h1:Zbj b=0:=by rw[Zbj,if_pos ⟨v.op,v.sl⟩]
 have h2:Zbk b=0:=by
  rw[Zbk,if_neg (by have:=v.n;omega),if_pos]
  rw[List.all_eq_true]
  intro p hp
  obtain⟨i,hi,rfl⟩:=List.mem_iff_getElem.1 hp
  obtain⟨a1,a2,a3,a4⟩:=v.pts i hi
  simp only[okP,Bool.and_eq_true,decide_eq_true_eq]
  exact⟨⟨⟨a1,a2⟩,a3⟩,a4⟩
 have h3:ckS b.pts.length b.cks=0:=ckS_of v.cks
 rw[snag,if_neg (by simp[h1]),if_neg (by simp[h2]),ZbJ,if_neg (by have:=v.ckn;omega),h3]
end Go.Proofs
end
section
open Go Go.LL
namespace Go.Proofs
end Go.Proofs
end
section
open Go Go.LL
namespace Go.Proofs
structure Wider (b o:Bk):Prop where
 op:o.op=b.op
 sl:o.sl=b.sl
 cks:o.cks=b.cks
 n:o.pts.length=b.pts.length
 ml:∀ i,i<b.pts.length->(ptAt o i).ml=(ptAt b i).ml∧(ptAt o i).mh=(ptAt b i).mh
 w:∀ i,i<b.pts.length->(ptAt o i).w=(ptAt b i).w
 b:∀ i,i<b.pts.length->(ptAt o i).bl<=(ptAt b i).bl∧(ptAt b i).bh<=(ptAt o i).bh
structure Learn (b o:Bk):Prop where
 op:o.op=b.op
 n:o.pts.length=b.pts.length
 bd:∀ i,i<b.pts.length->(ptAt o i).bl=(ptAt b i).bl∧(ptAt o i).bh=(ptAt b i).bh∧(ptAt o i).w=(ptAt b i).w
 sub:∀ x∈Zae o,x∈Zae b
theorem Learn.pos {b o:Bk}(h:Learn b o)(h0:0<(Zae o).length):0<(Zae b).length:=by
 obtain⟨x,hx⟩:=List.exists_mem_of_length_pos h0
 exact List.length_pos_of_mem (h.sub x hx)
theorem Waf {b:Bk}{l:List Int}{k:Slip}{i:Nat}(h:i<l.length):(Waa b l k).getD i 0=b.op-l.getD i 0+if k.bf<=i then k.by_ else 0:=by
 have:i<(Waa b l k).length:=by simp[Waa,h]
 rw[Zbc this]
 simp[Waa]
theorem real_rg {b:Bk}(v:Zen b){l:List Int}{k:Slip}(hl:l∈mkL b b.pts.length)(hk:k∈ZaB b){i:Nat}:-199<=(Waa b l k).getD i 0∧(Waa b l k).getD i 0<=199:=by
 by_cases hi:i<b.pts.length
 ·obtain⟨h1,h2⟩:=WaG.1 hl
  rw[Waf (by omega)]
  have:=v.pts i hi
  rw[show b.pts[i]=ptAt b i from (Zbc hi _).symm]at this
  have:=h2 i hi
  have:=v.op
  have:=ZjR v k hk
  split<;>omega
 ·have:(Waa b l k).length=b.pts.length:=by simp[Waa,(WaG.1 hl).1]
  rw[List.getD_eq_getElem?_getD,List.getElem?_eq_none (by omega)]
  show (-199:Int)<=0∧(0:Int)<=199
  omega
theorem Waj {a m:Int}(h:0<=a)(hm:0<m):0<=a.tmod m∧a.tmod m<m:=⟨Int.tmod_nonneg _ h,Int.tmod_lt_of_pos _ hm⟩
theorem Waq {f:Nat->Int}{j:Nat}:(List.range (j+1)).map f=(List.range j).map f++[f j]:=by rw[List.range_succ,List.map_append];rfl
theorem WaX {f:Nat->Int}{n i:Nat}(h:i<n):((List.range n).map f).getD i 0=f i:=by
 rw[List.getD_eq_getElem?_getD,List.getElem?_map,List.getElem?_range h];rfl
theorem one_zero {b:Bk}{l:List Int}{lo hi:Int}(h:l.length=b.pts.length)(h2:∀ z∈l,lo<=z∧z<=hi):Zbw b l lo hi=0:=by
 rw[Zbw,if_neg (by simpa using h),if_pos]
 rw[List.all_eq_true]
 exact fun z hz=>decide_eq_true (h2 z hz)
theorem Wa5 {b:Bk}(h:fitB b=true):Zen b:=by
 simp only[fitB,Bool.and_eq_true,decide_eq_true_eq]at h
 exact ZaR h.2
theorem pt_rg {b:Bk}(v:Zen b){i:Nat}(hi:i<b.pts.length):(0<=(ptAt b i).ml∧(ptAt b i).ml<=(ptAt b i).mh∧(ptAt b i).mh<=99)∧(ptAt b i).mh-(ptAt b i).ml<3∧(0<=(ptAt b i).bl∧(ptAt b i).bl<=(ptAt b i).bh∧(ptAt b i).bh<=199)∧(0<=(ptAt b i).w∧(ptAt b i).w<=199):=by
 have:=v.pts i hi
 rwa [show b.pts[i]=ptAt b i from (Zbc hi _).symm]at this
def Wap (b:Bk)(l:List U16)(n:Nat):List Int:=(List.range n).map fun (i:Nat)=>(ptAt b i).ml+(Wab l i).tmod ((ptAt b i).mh-(ptAt b i).ml+1)
def Wal (b:Bk)(l:List U16):Int:=(Wab l 5).tmod (2 * b.sl+1)-b.sl
def WaO (b:Bk)(l:List U16):Slip:=⟨if Wal b l=0 then 0 else 1+(Wab l 4).tmod (b.pts.length-1),Wal b l⟩
theorem Wam (b:Bk)(l:List U16)(n:Nat):(Wap b l n).length=n:=by simp[Wap]
theorem WaK {b:Bk}(v:Zen b)(l:List U16){i:Nat}(hi:i<b.pts.length):(ptAt b i).ml<=(ptAt b i).ml+(Wab l i).tmod ((ptAt b i).mh-(ptAt b i).ml+1)∧(ptAt b i).ml+(Wab l i).tmod ((ptAt b i).mh-(ptAt b i).ml+1)<=(ptAt b i).mh:=by
 obtain⟨h1,_⟩:=pt_rg v hi
 have:=Waj (m:=(ptAt b i).mh-(ptAt b i).ml+1) (Wac l i).1 (by omega)
 omega
theorem realM_mk {b:Bk}(v:Zen b)(l:List U16):Wap b l b.pts.length∈mkL b b.pts.length:=by
 refine WaG.2 ⟨Wam b l _,fun j hj=>?_⟩
 rw[Wap,WaX hj]
 exact WaK v l hj
theorem realM_99 {b:Bk}(v:Zen b)(l:List U16):∀ z∈Wap b l b.pts.length,0<=z∧z<=99:=by
 intro z hz
 obtain⟨i,hi,rfl⟩:=List.mem_map.1 hz
 rw[List.mem_range]at hi
 have:=WaK v l hi
 obtain⟨h1,_⟩:=pt_rg v hi
 omega
theorem realY_rg {b:Bk}(v:Zen b)(l:List U16):-b.sl<=Wal b l∧Wal b l<=b.sl:=by
 have:=v.sl
 have:=Waj (m:=2 * b.sl+1) (Wac l 5).1 (by omega)
 rw[Wal];omega
theorem WaV {b:Bk}(v:Zen b)(l:List U16):WaO b l∈ZaB b:=by
 have hn:=v.n
 have h1:=realY_rg v l
 have h2:=Waj (m:=(b.pts.length:Int)-1) (Wac l 4).1 (by omega)
 refine(WaU v).2 ?_
 by_cases h:Wal b l=0
 ·left;rw[WaO,if_pos h,h]
 ·right
  rw[WaO,if_neg h]
  show (1<=1+(Wab l 4).tmod (b.pts.length-1)∧1+(Wab l 4).tmod (b.pts.length-1)<b.pts.length)∧-b.sl<=Wal b l∧Wal b l<=b.sl∧Wal b l≠0
  omega
theorem WaN (b:Bk)(l:List U16)(j:Nat):Wap b l (j+1)=Wap b l j++[(ptAt b j).ml+(Wab l j).tmod ((ptAt b j).mh-(ptAt b j).ml+1)]:=Waq
section
variable  {P:Prg}[Tz P][Loud P]{H:Hp}
set_option maxHeartbeats 8000000
set_option maxRecDepth 20000
theorem Wbb {a c n:Int}(h:0<=a∧a<=c∧c<=99)(hn:0<=n):LL.Zag P 50 #[.agg #[vi a,vi c],vi n] H fun v H'=>H=H'∧v=vi (a+n.tmod (c-a+1)):=by
 have hs:=Loud.loud (P:=P)
 refine IsN.m (isn c136) (args:=[.agg #[vi a,vi c],vi n]) rfl ?_
 unfold n136
 refine wkT ?_
 refine WaZ rfl rfl (by omega) ?_
 have:=Waj (m:=c-a+1) hn (by omega)
 refine wkT ?_
 exact⟨rfl,rfl⟩
theorem Real_ok {bv lv:Value}{b:Bk}{l:List U16}(val:Zen b)(hb:BkAt H bv b)(hl:SlAt H lv l):LL.Zag P 8 #[bv,lv] H fun v H'=>Inc H H'∧∃ A c,v=.tuple #[.slice A b.pts.length c,ZbG (WaO b l)]∧SlAt H' (.slice A b.pts.length c) (Wap b l b.pts.length):=by
 have hs:=Loud.loud (P:=P)
 have hn:=val.n
 have hsl:=val.sl
 obtain⟨pv,cv,rfl,hp,hc⟩:=hb
 obtain⟨Ap,cp,rfl,hp'⟩:=id hp
 refine IsN.m (isn c73) (args:=[.agg #[vi b.op,vi b.sl,.slice Ap b.pts.length cp,cv],lv]) rfl ?_
 unfold n73
 refine wkT ?_
 refine ZaO (α:=Value×Option Nat) b.pts.length (fun j s H'=>Inc H H'∧Own H H' 3 s.1 (Wap b l j) s.2) (fun j s=>[(1,lv),(2,vi 0),(5,vi 0),(6,s.1),(7,vi j)]) (fun _ _=>[(2,[vi b.op,vi b.sl,.slice Ap b.pts.length cp,cv]),(5,[vi 0,vi 0])]) (.slice none 0 0,none) ⟨.refl _,.nil _ _ _⟩ ⟨rfl,rfl,rfl,rfl,rfl,trivial⟩ ⟨rfl,rfl,trivial⟩ ?_
 rintro j ⟨v6,b6⟩ H2 hj ⟨i2,o6⟩
 simp only at o6
 have hrl:=Wam b l j
 refine wkT ?_
 refine wiT (fun h1=>?_) (fun h1=>?_)
 ·have hj':j<b.pts.length:=by omega
  obtain⟨g1,_⟩:=pt_rg val hj'
  have row:Enc.enc b.pts[j]=[vi (ptAt b j).ml,vi (ptAt b j).mh,vi (ptAt b j).bl,vi (ptAt b j).bh,vi (ptAt b j).w]:=by
   rw[show b.pts[j]=ptAt b j from (Zbc hj' _).symm];rfl
  have hsn:=WaN b l j
  refine wkT ?_
  refine ZaE (hp.inc i2) rfl rfl rfl (i:=j) hj' fun a ha=>?_
  rw[row]at ha
  refine wkT ?_
  refine Zao (cs:=[vi (ptAt b j).ml,vi (ptAt b j).mh]) (hs _) rfl (by rw[add_zero];exact ZbK (ds:=[vi (ptAt b j).bl,vi (ptAt b j).bh,vi (ptAt b j).w]) ha) rfl ?_
  refine wkT ?_
  refine Zab (vs:=[lv,vi j]) rfl (Wao (hl.inc i2)) ?_
  rintro v _ ⟨rfl,rfl⟩
  refine wkT ?_
  refine Zab (vs:=[.agg #[vi (ptAt b j).ml,vi (ptAt b j).mh],vi (Wab l j)]) rfl (Wbb g1 (Wac l j).1) ?_
  rintro v _ ⟨rfl,rfl⟩
  generalize (ptAt b j).ml+(Wab l j).tmod ((ptAt b j).mh-(ptAt b j).ml+1)=x at *
  refine wkT ?_
  refine Zat (cs:=[vi x]) (hs _) rfl fun r5 hr5=>?_
  refine kp_l hs ?_
  refine wkT ?_
  refine ZbU (l':=[x]) (und u34) (und u34) (tif t3) rfl (by decide) (i2.trans (Zai hr5)) (o6.ins hr5) Wa1 rfl (by simp only[List.length_singleton];omega) (by omega) rfl rfl (hs _) fun v7 H4 b7 k1 k2 k3=>?_
  rw[<-hsn]at k2
  refine wkT ?_
  exact⟨(⟨j+1,by omega⟩,(v7,b7)),slt (by omega),⟨k1,k2⟩,⟨rfl,rfl,rfl,rfl,rfl,trivial⟩,⟨rfl,rfl,trivial⟩,rfl⟩
 have:j=b.pts.length:=by omega
 subst this
 obtain⟨A6,c6,rfl⟩:=WaJ o6
 have s6:=o6.sl
 rw[hrl]at s6
 have r4:=Waj (m:=(b.pts.length:Int)-1) (Wac l 4).1 (by omega)
 have r5:=Waj (m:=2 * b.sl+1) (Wac l 5).1 (by omega)
 have ry:Wal b l=(Wab l 5).tmod (2 * b.sl+1)-b.sl:=rfl
 have rk:WaO b l=⟨if Wal b l=0 then 0 else 1+(Wab l 4).tmod (b.pts.length-1),Wal b l⟩:=rfl
 refine wkT ?_
 refine ZgS rfl rfl ⟨by omega,by omega⟩ ?_
 refine wkT ?_
 refine Zab (vs:=[lv,vi 4]) rfl (Wao (hl.inc i2)) ?_
 rintro v _ ⟨rfl,rfl⟩
 refine wkT ?_
 refine WaZ rfl rfl (by omega) ?_
 refine wkT ?_
 refine Zab (vs:=[lv,vi 5]) rfl (Wao (hl.inc i2)) ?_
 rintro v _ ⟨rfl,rfl⟩
 refine wkT ?_
 refine WaZ rfl rfl (by omega) ?_
 refine wkT ?_
 rw[<-ry]
 refine wiT (fun h2=>?_) (fun h2=>?_)
 ·refine wkT ?_
  refine⟨i2,A6,c6,?_,s6⟩
  rw[rk,if_pos h2,hrl];rfl
 ·refine wkT ?_
  refine⟨i2,A6,c6,?_,s6⟩
  rw[rk,if_neg h2,hrl];rfl
end
structure BrN (p q n m i few many all:Int)(su st:Bool):Prop where
 p3:p=0∨p=1∨p=2
 a1:p=1->q=1
 a2:p≠2->q≠2
 a3:su=true->st=true∧m<=n
 a4:few<=many
 a5:many<=all
 a6:su=true->few=all∧i=n∧p=1
 a7:su=false->few<all
 a8:few=0↔p=2
theorem Wa2 {b:Bk}{l:List Int}{k:Slip}(v:Zen b)(h:l.length=b.pts.length)(h2:∀ z∈l,0<=z∧z<=99)(hk:k∈ZaB b):Zaz b l k=0:=by
 rw[Zaz,if_neg (by simp[snag_of v]),if_neg (by rw[one_zero h h2];decide),if_pos hk]
theorem gapsL_v {b:Bk}{l:List Int}{k:Slip}(v:Zen b)(h:l.length=b.pts.length)(h2:∀ z∈l,0<=z∧z<=99)(hk:k∈ZaB b):gapsL b l k=gapLs b (Zgh l k):=by
 rw[gapsL,if_pos (Wa2 v h h2 hk)];rfl
section
variable  {P:Prg}{H:Hp}{d:Option Nat}{next:NSt->Hp->Prop}{σ:NSt}{x:Operand}{ty:TypeId}
theorem WaF {T E:TypeId}{sz by_ n:Nat}{zv:Value}(hu:P.toProgram.underlying T=some (.slice E))(ti:TI P.toProgram E sz zv by_)(hn:1<=n∧n<=1000)(hb:by_<=1000)(hz:1<=sz)(e:σ.get x=some (vi n))(hst:P.still H.gh=false)
  (h:∀ r,H r=none->next (σ.set d (.slice (some ⟨r,0,none⟩) n n)) (H.ins r (.cells ((Array.range (n * sz)).map (zv.cells[· % zv.cells.size]!)) E))):(NOp.raw (.makeSlice T x x) ty).m P d next σ H:=by
 obtain⟨inf,i1,i2,i3,i4⟩:=ti.ex
 refine Zbe (by simp[Op.operands,e]) (s:=Instr.makeSlice T (vi n) (vi n)) (by simp[execOp,bare,e]) ?_
 have hw:IntKind.i64.wrap (n:Int)=n:=ZbZ ⟨by omega,by omega⟩
 have hle:by_ * n<=1000 * 1000:=Nat.mul_le_mul hb hn.2
 have ht:decide ((by_:Int) * (n:Int) > 2 ^ 48)=false:=by
  have h1:((by_ * n:Nat):Int)<=((1000 * 1000:Nat):Int):=Int.ofNat_le.2 hle
  rw[Int.natCast_mul]at h1
  exact decide_eq_false (by omega)
 have hl:decide ((n:Int)<0)=false:=decide_eq_false (by omega)
 have hg:decide ((n:Int) > n)=false:=decide_eq_false (by omega)
 have hne:¬ n * sz=0:=by
  have:=Nat.mul_le_mul hn.1 hz
  omega
 simp only[Instr.makeSlice,Zaa,Zad hu,asInt,asIntOf,Zac,ZbP i1,i4,hw,Zap i1,i2,ht,hl,hg,Bool.or_self,Bool.false_eq_true,if_false]
 have hask:∀ (Q:Unit->Bool->Hp->Prop),Q () false H->wpL P.toPQ (askRoom ((n:Int).toNat * by_)) Q false H:=by
  intro Q hq
  unfold askRoom
  split
  ·exact⟨.inr ⟨rfl,hst⟩,hq⟩
  ·exact hq
 refine hask _ ?_
 simp only[Int.toNat_natCast,if_neg hne,Zb0 i1 i3,newRow,Zaa,newObj,Zac]
 exact⟨hst,fun r hr=>h r hr⟩
end
structure Spn where
 (lo hi:Int)
instance:Enc Spn:=⟨2,fun p=>[vi p.lo,vi p.hi],fun _=>rfl⟩
abbrev batV (sv:Value):Value:=.agg #[vi 0,vi 0,vi 0,sv,.slice none 0 0]
def h7 (f:Nat->Int):List Value:=[vi (f 0),vi (f 1),vi (f 2),vi (f 3),vi (f 4),vi (f 5),vi (f 6)]
def difL (l:List Int):List Int:=(List.range (l.length-1)).map fun i=>l.getD (i+1) 0-l.getD i 0
theorem Wae (l:List Int):(difL l).length=l.length-1:=by simp[difL]
theorem Wah {l:List Int}{i:Nat}(h:i<l.length-1):(difL l).getD i 0=l.getD (i+1) 0-l.getD i 0:=by
 rw[difL,List.getD_eq_getElem?_getD,List.getElem?_map,List.getElem?_range h];rfl
theorem u260:Tryz.prog.underlying 260=some (.array 3 259):=by kernel_rfl
theorem t259:tiOf Tryz.prog 259=some (1,some .nilFunc,8):=by kernel_rfl
theorem a259:Zb5 Tryz.prog 259=some none:=by kernel_rfl
theorem u125:Tryz.prog.underlying 125=some (.array 7 3):=by kernel_rfl
theorem t125h:tiOf Tryz.prog 125=some (7,some (.agg #[vi 0,vi 0,vi 0,vi 0,vi 0,vi 0,vi 0]),56):=by kernel_rfl
section
variable  {P:Prg}[Tz P][Loud P]{H:Hp}
set_option maxHeartbeats 4000000
set_option maxRecDepth 20000
theorem Wad (n lo hi:Int):LL.Zag P 177 #[vi n,vi lo,vi hi] H fun v H'=>H=H'∧v=vb (decide (lo<=n∧n<=hi)):=by
 refine IsN.m (isn c1177) (args:=[vi n,vi lo,vi hi]) rfl ?_
 unfold n1177
 refine wkT ?_
 refine wiT (fun h1=>?_) (fun h1=>?_)<;>refine wkT ?_<;>exact⟨rfl,by simp[Zbd,h1]⟩
theorem Wat {A:Option Addr}{n c:Nat}:LL.Zag P 125 #[batV (.slice A n c)] H fun v H'=>H=H'∧v=vi n:=by
 have hs:=Loud.loud (P:=P)
 refine IsN.m (isn c1125) (args:=[batV (.slice A n c)]) rfl ?_
 unfold n1125
 refine wkT ?_
 exact⟨rfl,rfl⟩
theorem Wax {A:Option Addr}{n c:Nat}:LL.Zag P 270 #[batV (.slice A n c)] H fun v H'=>H=H'∧v=vi 0:=by
 have hs:=Loud.loud (P:=P)
 refine IsN.m (isn c1270) (args:=[batV (.slice A n c)]) rfl ?_
 unfold n1270
 refine wkT ?_
 refine Zab (vs:=[vi 0,vi 0,vi 99]) rfl (Wad _ _ _) ?_
 rintro v _ ⟨rfl,rfl⟩
 refine wkT ?_
 refine Zab (vs:=[vi 0,vi 0,vi 99]) rfl (Wad _ _ _) ?_
 rintro v _ ⟨rfl,rfl⟩
 refine wkT ?_
 refine Zab (vs:=[vi 0,vi 0,vi 5]) rfl (Wad _ _ _) ?_
 rintro v _ ⟨rfl,rfl⟩
 refine wkT ?_
 exact⟨rfl,rfl⟩
theorem WaP:LL.Zag P 275 #[.agg #[vi 0,vi 0],vi 0,vi 959,vi 3] H fun v H'=>H=H'∧v=vb true:=by
 have hs:=Loud.loud (P:=P)
 refine IsN.m (isn c1275) (args:=[.agg #[vi 0,vi 0],vi 0,vi 959,vi 3]) rfl ?_
 unfold n1275
 refine wkT ?_
 exact⟨rfl,rfl⟩
theorem Wa0:LL.Zag P 274 #[.agg #[vi 0,vi 0]] H fun v H'=>H=H'∧v=vb false:=by
 have hs:=Loud.loud (P:=P)
 refine IsN.m (isn c1274) (args:=[.agg #[vi 0,vi 0]]) rfl ?_
 unfold n1274
 refine wkT ?_
 refine Zab (vs:=[.agg #[vi 0,vi 0],vi 0,vi 959,vi 3]) rfl WaP ?_
 rintro v _ ⟨rfl,rfl⟩
 refine wkT ?_
 exact⟨rfl,rfl⟩
theorem Wan {fv v:Value}{n:Nat}(hf:CallV P fv #[.agg #[vi 0,vi 0]] H fun v H'=>H=H'∧v=vb false)(hl:SlAt H v (List.replicate n (⟨0,0⟩:Spn)))(hn:n<=1000000) :
  LL.Zag P 277 #[v,fv] H fun v H'=>H=H'∧v=vi (-1):=by
 have hs:=Loud.loud (P:=P)
 refine IsN.m (isn c1277) (args:=[v,fv]) rfl ?_
 unfold n1277
 refine wkT ?_
 refine Zau hl rfl ?_
 rw[List.length_replicate]
 refine wkT ?_
 refine ZaW n (fun j H'=>H=H') (fun j=>[(0,v),(1,fv),(7,vi n),(8,vi j)]) (fun j=>[]) rfl ⟨rfl,rfl,rfl,rfl,trivial⟩ trivial ?_
 rintro j _ hj rfl
 refine wkT ?_
 refine wiT (fun h1=>?_) (fun h1=>?_)
 ·have hj':j<n:=by omega
  refine wkT ?_
  refine ZaE hl rfl rfl rfl (i:=j) (by rw[List.length_replicate];exact hj') fun a ha=>?_
  rw[List.getElem_replicate]at ha
  refine wkT ?_
  refine Zao (hs _) rfl ha rfl ?_
  refine wkT ?_
  refine ZaP rfl rfl hf ?_
  rintro w _ ⟨rfl,rfl⟩
  refine wkT ?_
  exact⟨⟨j+1,by omega⟩,slt (by omega),rfl,⟨rfl,rfl,rfl,rfl,trivial⟩,trivial,rfl⟩
 ·refine wkT ?_
  exact⟨rfl,rfl⟩
theorem Wai {fv v:Value}{n:Nat}(hf:CallV P fv #[.agg #[vi 0,vi 0]] H fun v H'=>H=H'∧v=vb false)(hl:SlAt H v (List.replicate n (⟨0,0⟩:Spn)))(hn:n<=1000000) :
  LL.Zag P 273 #[v,fv] H fun v H'=>H=H'∧v=vb false:=by
 refine IsN.m (isn c1273) (args:=[v,fv]) rfl ?_
 unfold n1273
 refine wkT ?_
 refine Zab (vs:=[v,fv]) rfl (Wan hf hl hn) ?_
 rintro w _ ⟨rfl,rfl⟩
 refine wkT ?_
 exact⟨rfl,rfl⟩
theorem marks_ok {A:Option Addr}{n c:Nat}(hl:SlAt H (.slice A n c) (List.replicate n (⟨0,0⟩:Spn)))(hn:3<=n∧n<=7):LL.Zag P 271 #[batV (.slice A n c)] H fun v H'=>H=H'∧v=vi 0:=by
 have hs:=Loud.loud (P:=P)
 refine IsN.m (isn c1271) (args:=[batV (.slice A n c)]) rfl ?_
 unfold n1271
 refine wkT ?_
 refine Zab (vs:=[batV (.slice A n c)]) rfl Wat ?_
 rintro v _ ⟨rfl,rfl⟩
 refine wkT ?_
 refine Zab (vs:=[vi n,vi 3,vi 7]) rfl (Wad _ _ _) ?_
 rintro v _ ⟨rfl,rfl⟩
 rw[decide_eq_true (show (3:Int)<=n∧(n:Int)<=7 by omega)]
 refine wkT ?_
 refine Zab (vs:=[.slice A n c,vf 274]) rfl (Wai (ZcY (by kernel_rfl) Wa0) hl (by omega)) ?_
 rintro v _ ⟨rfl,rfl⟩
 refine wkT ?_
 exact⟨rfl,rfl⟩
theorem rules_ok {A:Option Addr}{n c:Nat}:LL.Zag P 272 #[batV (.slice A n c)] H fun v H'=>H=H'∧v=vi 0:=by
 have hs:=Loud.loud (P:=P)
 refine IsN.m (isn c1272) (args:=[batV (.slice A n c)]) rfl ?_
 unfold n1272
 refine wkT ?_
 refine ZaW 0 (fun j H'=>H=H') (fun j=>[(13,vi 0),(14,vi 0)]) (fun j=>[]) rfl ⟨rfl,rfl,trivial⟩ trivial ?_
 rintro j _ hj rfl
 refine wkT ?_
 exact⟨rfl,rfl⟩
theorem Waw {A:Option Addr}{n c:Nat}(hg:WaS H)(hl:SlAt H (.slice A n c) (List.replicate n (⟨0,0⟩:Spn)))(hn:3<=n∧n<=7):LL.Zag P 121 #[batV (.slice A n c)] H fun v H'=>H=H'∧v=vi 0:=by
 have hs:=Loud.loud (P:=P)
 refine IsN.m (isn c1121) (args:=[batV (.slice A n c)]) rfl ?_
 unfold n1121
 refine wkT ?_
 refine Zao (hs _) rfl hg rfl ?_
 refine wkT ?_
 refine ZaW 3 (fun j H'=>H=H') (fun j=>[(1,vi 0),(6,.agg #[vf 270,vf 271,vf 272]),(7,vi j)]) (fun _=>[(1,[vi 0,vi 0,vi 0,.slice A n c,.slice none 0 0])]) rfl ⟨rfl,rfl,rfl,trivial⟩ ⟨rfl,trivial⟩ ?_
 rintro j _ hj rfl
 refine wkT ?_
 refine wiT (fun h1=>?_) (fun h1=>?_)
 ·have hj3:j=0∨j=1∨j=2:=by omega
  refine wkT ?_
  rcases hj3 with rfl | rfl | rfl
  ·refine Zde (und u260) (tif t259) (agf a259) rfl rfl (i:=0) (by omega) rfl ?_
   refine wkT ?_
   refine ZaP rfl rfl (ZcY (by kernel_rfl) Wax) ?_
   rintro v _ ⟨rfl,rfl⟩
   refine wkT ?_
   exact⟨⟨1,by omega⟩,(by show 3-1<3-0;omega),rfl,⟨rfl,rfl,rfl,trivial⟩,⟨rfl,trivial⟩,rfl⟩
  ·refine Zde (und u260) (tif t259) (agf a259) rfl rfl (i:=1) (by omega) rfl ?_
   refine wkT ?_
   refine ZaP rfl rfl (ZcY (by kernel_rfl) (marks_ok hl hn)) ?_
   rintro v _ ⟨rfl,rfl⟩
   refine wkT ?_
   exact⟨⟨2,by omega⟩,(by show 3-2<3-1;omega),rfl,⟨rfl,rfl,rfl,trivial⟩,⟨rfl,trivial⟩,rfl⟩
  ·refine Zde (und u260) (tif t259) (agf a259) rfl rfl (i:=2) (by omega) rfl ?_
   refine wkT ?_
   refine ZaP rfl rfl (ZcY (by kernel_rfl) rules_ok) ?_
   rintro v _ ⟨rfl,rfl⟩
   refine wkT ?_
   exact⟨⟨3,by omega⟩,(by show 3-3<3-2;omega),rfl,⟨rfl,rfl,rfl,trivial⟩,⟨rfl,trivial⟩,rfl⟩
 ·refine wkT ?_
  exact⟨rfl,rfl⟩
theorem line1_ok (n:Int):LL.Zag P 176 #[vi n] H fun v H'=>H=H'∧v=vb (!decide (0<=n∧n<=959)):=by
 refine IsN.m (isn c1176) (args:=[vi n]) rfl ?_
 unfold n1176
 refine wkT ?_
 refine Zab (vs:=[vi n,vi 0,vi 959]) rfl (Wad _ _ _) ?_
 rintro v _ ⟨rfl,rfl⟩
 refine wkT ?_
 exact⟨rfl,rfl⟩
theorem line_ok {A:Option Addr}{n c:Nat}{lv:Value}{l:List Int}(hl:SlAt H lv l)(hn:l.length=n)(h7:n<=7)(hr:∀ z∈l,0<=z∧z<=959):LL.Zag P 122 #[batV (.slice A n c),lv] H fun v H'=>H=H'∧v=vi 0:=by
 have hs:=Loud.loud (P:=P)
 refine IsN.m (isn c1122) (args:=[batV (.slice A n c),lv]) rfl ?_
 unfold n1122
 refine wkT ?_
 refine Zau hl rfl ?_
 refine wkT ?_
 refine Zab (vs:=[batV (.slice A n c)]) rfl Wat ?_
 rintro v _ ⟨rfl,rfl⟩
 refine wkT ?_
 refine wiT (fun h1=>?_) (fun h1=>?_)
 ·exact absurd hn (by omega)
 refine wkT ?_
 refine Zab (vs:=[lv,vf 176]) rfl (Zes (f:=fun n=>!decide (0<=n∧n<=959)) (fun c hc=>ZcY (by kernel_rfl) (line1_ok c)) hl (by omega) (hs _)) ?_
 rintro v _ ⟨rfl,rfl⟩
 have e:(l.any fun n=>!decide (0<=n∧n<=959))=false:=List.any_eq_false.2 fun z hz=>by simpa using hr z hz
 rw[e]
 refine wkT ?_
 exact⟨rfl,rfl⟩
theorem WaI {v:Value}{l:List Int}(hl:SlAt H v l)(hn:l.length<=7):LL.Zag P 123 #[v] H fun v H'=>H.Sub H'∧v=.agg (h7 fun i=>l.getD i 0).toArray:=by
 have hs:=Loud.loud (P:=P)
 refine IsN.m (isn c1123) (args:=[v]) rfl ?_
 unfold n1123
 refine wkT ?_
 refine Zav (tif t125h) (hs _) fun r hr=>?_
 refine wkT ?_
 refine Zis (hi:=7) (k:=.i64) (und u125) (tif t3) (by omega) rfl (.inl ⟨rfl,rfl⟩) (by omega) ?_
 refine wkT ?_
 refine om_copy (cs:=[vi 0,vi 0,vi 0,vi 0,vi 0,vi 0,vi 0]) (und u34) (tif t3) rfl rfl (hl.sub (ZaL hr)) hn rfl (Hp.ins_same _ _ _) (hs _) ?_
 rw[Zbb]
 have e:l.map vi++[vi 0,vi 0,vi 0,vi 0,vi 0,vi 0,vi 0].drop l.length=h7 fun i=>l.getD i 0:=by
  match l,hn with
  | [],_=>rfl
  | [a],_=>rfl
  | [a,b],_=>rfl
  | [a,b,c],_=>rfl
  | [a,b,c,d],_=>rfl
  | [a,b,c,d,x],_=>rfl
  | [a,b,c,d,x,y],_=>rfl
  | [a,b,c,d,x,y,z],_=>rfl
  | a :: b :: c :: d :: e :: f :: g :: h :: l,h'=>simp at h'
 rw[e]
 generalize (fun i=>l.getD i 0)=f
 refine wkT ?_
 refine Zao (hs _) rfl (Zar (cs:=h7 f)) rfl ?_
 unfold h7
 refine wkT ?_
 exact⟨ZaL hr,rfl⟩
theorem Wag {v:Value}{l:List Int}(hl:SlAt H v l)(hn:l.length<=1000000)(hr:∀ z∈l,-1000000<=z∧z<=1000000):LL.Zag P 124 #[v] H fun v H'=>Inc H H'∧∃ bb,Own H H' 3 v (difL l) bb:=by
 have hs:=Loud.loud (P:=P)
 refine IsN.m (isn c1124) (args:=[v]) rfl ?_
 unfold n1124
 refine wkT ?_
 refine ZaO (α:=Value×Option Nat) (l.length-1) (fun j s H'=>Inc H H'∧Own H H' 3 s.1 ((difL l).take j) s.2) (fun j s=>[(0,v),(2,.slice none 0 0),(3,s.1),(4,vi ((j+1:Nat):Int))]) (fun _ _=>[]) (.slice none 0 0,none) ⟨.refl _,.nil _ _ _⟩ ⟨rfl,rfl,rfl,rfl,trivial⟩ trivial ?_
 rintro j ⟨v3,b3⟩ H2 hj ⟨i2,o3⟩
 simp only at o3
 have hlen:=Wae l
 refine wkT ?_
 refine Zau (hl.inc i2) rfl ?_
 refine wkT ?_
 refine wiT (fun h1=>?_) (fun h1=>?_)
 ·have hj':j<l.length-1:=by omega
  have ht:(difL l).take (j+1)=(difL l).take j++[(difL l)[j]'(by omega)]:=List.take_succ_eq_append_getElem (by omega)
  have hd:(difL l)[j]'(by omega)=l[j+1]'(by omega)-l[j]'(by omega):=by
   rw[<-Zbc (by omega) 0,Wah hj',Zbc (by omega),Zbc (by omega)]
  have a1:=hr _ (List.getElem_mem (show j+1<l.length by omega))
  have a2:=hr _ (List.getElem_mem (show j<l.length by omega))
  refine wkT ?_
  refine ZaE (hl.inc i2) rfl rfl rfl (i:=j+1) (by omega) fun a ha=>?_
  refine wkT ?_
  refine Zaf (hs _) rfl ha ?_
  refine wkT ?_
  refine ZaE (hl.inc i2) rfl (by rw[show (((j+1:Nat):Int)-1)=(j:Int) by omega];rfl) rfl (i:=j) (by omega) fun a ha=>?_
  refine wkT ?_
  refine Zaf (hs _) rfl ha ?_
  refine wkT ?_
  refine Zat (cs:=[vi (l[j+1]-l[j])]) (hs _) rfl fun r5 hr5=>?_
  refine kp_l hs ?_
  refine wkT ?_
  refine ZbU (l':=[l[j+1]-l[j]]) (und u34) (und u34) (tif t3) rfl (by decide) (i2.trans (Zai hr5)) (o3.ins hr5) Wa1 rfl (by simp only[List.length_take,List.length_singleton];omega) (by omega) rfl rfl (hs _) fun v7 H4 b7 k1 k2 k3=>?_
  rw[<-hd,<-ht]at k2
  refine wkT ?_
  exact⟨(⟨j+1,by omega⟩,(v7,b7)),slt (by omega),⟨k1,k2⟩,⟨rfl,rfl,rfl,rfl,trivial⟩,trivial,rfl⟩
 ·have:j=l.length-1:=by omega
  subst this
  rw[List.take_of_length_le (by omega)]at o3
  refine wkT ?_
  exact⟨i2,b3,o3⟩
def benL (l:List Int):List Int:=difL (difL l)
theorem Wau (l:List Int):(benL l).length=l.length-2:=by rw[benL,Wae,Wae];omega
theorem Wav {l:List Int}{i:Nat}(h:i<l.length-2):(benL l).getD i 0=l.getD (i+2) 0-2 * l.getD (i+1) 0+l.getD i 0:=by
 have h1:=Wae l
 rw[benL,Wah (by omega),Wah (by omega),Wah (by omega)]
 show _=l.getD (i+1+1) 0-2 * l.getD (i+1) 0+l.getD i 0
 omega
theorem h7_sl {H:Hp}{r:Nat}{E:TypeId}{l:List Int}{c:Nat}(hn:l.length<=7)(h:H r=some (.cells (h7 fun i=>l.getD i 0).toArray E (0,0),true)):SlAt H (.slice (some ⟨r,0,none⟩) l.length c) l:=by
 refine⟨_,_,rfl,fun _=>⟨_,rfl,rfl,_,_,h,fun j hj=>?_⟩⟩
 rw[Zbz]at hj ⊢
 rw[List.length_map]at hj
 have e:(l.map vi)[j]? = some (vi (l.getD j 0)):=by rw[List.getElem?_map,List.getElem?_eq_getElem hj,Zbc hj];rfl
 rw[e]
 show (h7 fun i=>l.getD i 0).toArray[0+j]? = _
 match j,(show j<7 by omega) with
 | 0,_=>rfl
 | 1,_=>rfl
 | 2,_=>rfl
 | 3,_=>rfl
 | 4,_=>rfl
 | 5,_=>rfl
 | 6,_=>rfl
theorem bends_ok {A:Option Addr}{n c:Nat}{l:List Int}(hl:l.length=n)(hn:n<=7)(hr:∀ z∈l,-1000<=z∧z<=1000):LL.Zag P 56 #[batV (.slice A n c),.agg (h7 fun i=>l.getD i 0).toArray] H fun v H'=>Inc H H'∧∃ bb,Own H H' 3 v (benL l) bb:=by
 have hs:=Loud.loud (P:=P)
 refine IsN.m (isn c1056) (args:=[batV (.slice A n c),.agg (h7 fun i=>l.getD i 0).toArray]) rfl ?_
 unfold n1056
 refine wkT ?_
 refine ZbW rfl (hs _) fun r hr1=>?_
 have i1:=Zai (o:=.cells (h7 fun i=>l.getD i 0).toArray 125) hr1
 refine wkT ?_
 refine Zab (vs:=[batV (.slice A n c)]) rfl Wat ?_
 rintro v _ ⟨rfl,rfl⟩
 refine wkT ?_
 refine Zis (hi:=n) (k:=.i64) (und u125) (tif t3) (by omega) rfl (.inr ⟨_,rfl,rfl⟩) (by omega) ?_
 refine wkT ?_
 refine Zab (vs:=[.slice (some ⟨r,0,none⟩) n 7]) rfl (Wag (l:=l) (by rw[<-hl];exact h7_sl (by omega) (Hp.ins_same _ _ _)) (by omega) (fun z hz=>by have:=hr z hz;exact⟨by omega,by omega⟩)) ?_
 rintro v H2 ⟨i2,b2,o2⟩
 have hd:∀ z∈difL l,-2000<=z∧z<=2000:=by
  intro z hz
  obtain⟨i,hi,rfl⟩:=List.mem_iff_getElem.1 hz
  rw[Wae]at hi
  rw[<-Zbc (by rw[Wae];exact hi) 0,Wah hi,Zbc (by omega),Zbc (by omega)]
  have a1:=hr _ (List.getElem_mem (show i+1<l.length by omega))
  have a2:=hr _ (List.getElem_mem (show i<l.length by omega))
  exact⟨by omega,by omega⟩
 have hdl:=Wae l
 refine wkT ?_
 refine Zab (vs:=[v]) rfl (Wag o2.sl (by omega) (fun z hz=>by have:=hd z hz;exact⟨by omega,by omega⟩)) ?_
 rintro v H3 ⟨i3,b3,o3⟩
 refine wkT ?_
 exact⟨(i1.trans i2).trans i3,b3,o3.own,fun q e=>Za9 ((i1.trans i2)) (o3.fresh q e)⟩
theorem WaR {A:Option Addr}{n c:Nat}{lv:Value}{l:List Int}(hg:WaS H)(hm:SlAt H (.slice A n c) (List.replicate n (⟨0,0⟩:Spn)))(hl:SlAt H lv l)(hn:l.length=n)(h3:3<=n∧n<=7)(hr:∀ z∈l,0<=z∧z<=959) :
  LL.Zag P 55 #[batV (.slice A n c),lv] H fun v H'=>Inc H H'∧v=.tuple #[batV (.slice A n c),.agg (h7 fun i=>l.getD i 0).toArray,vi 0]:=by
 have hs:=Loud.loud (P:=P)
 refine IsN.m (isn c1055) (args:=[batV (.slice A n c),lv]) rfl ?_
 unfold n1055
 refine wkT ?_
 refine Zab (vs:=[batV (.slice A n c)]) rfl (Waw hg hm h3) ?_
 rintro v _ ⟨rfl,rfl⟩
 refine wkT ?_
 refine Zab (vs:=[batV (.slice A n c),lv]) rfl (line_ok hl hn h3.2 hr) ?_
 rintro v _ ⟨rfl,rfl⟩
 refine wkT ?_
 refine Zab (vs:=[lv]) rfl (WaI hl (by omega)) ?_
 rintro v H2 ⟨s2,rfl⟩
 refine kp_l hs ?_
 generalize (fun i=>l.getD i 0)=f
 unfold h7
 refine wkT ?_
 exact⟨s2.inc,rfl⟩
theorem WaL {A:Option Addr}{n c:Nat}{lv:Value}{l:List Int}(hg:WaS H)(hm:SlAt H (.slice A n c) (List.replicate n (⟨0,0⟩:Spn)))(hl:SlAt H lv l)(hn:l.length=n)(h3:3<=n∧n<=7)(hr:∀ z∈l,0<=z∧z<=959) :
  LL.Zag P 11 #[batV (.slice A n c),lv] H fun v H'=>Inc H H'∧∃ A2 c2,v=.tuple #[.slice A2 (n-2) c2,vi 0]∧SlAt H' (.slice A2 (n-2) c2) (benL l):=by
 have hs:=Loud.loud (P:=P)
 refine IsN.m (isn c1011) (args:=[batV (.slice A n c),lv]) rfl ?_
 unfold n1011
 refine wkT ?_
 refine Zab (vs:=[batV (.slice A n c),lv]) rfl (WaR hg hm hl hn h3 hr) ?_
 rintro v H2 ⟨i2,rfl⟩
 have hbl:=Wau l
 have key:=fun H=>bends_ok (P:=P) (H:=H) (A:=A) (c:=c) (l:=l) hn h3.2 (fun z hz=>by have:=hr z hz;exact⟨by omega,by omega⟩)
 generalize (fun i=>l.getD i 0)=f at *
 unfold h7 at *
 refine wkT ?_
 refine Zab (vs:=[batV (.slice A n c),.agg [vi (f 0),vi (f 1),vi (f 2),vi (f 3),vi (f 4),vi (f 5),vi (f 6)].toArray]) rfl (key H2) ?_
 rintro v H3 ⟨i3,b3,o3⟩
 obtain⟨A2,c2,rfl⟩:=WaJ o3
 have s3:=o3.sl
 rw[hbl,hn]at s3
 refine wkT ?_
 exact⟨i2.trans i3,A2,c2,by rw[hbl,hn];rfl,s3⟩
end
end Go.Proofs
end
