/- proofs about Leango given: part Op1; made by a program out of the longer texts in wip -/
import Derived.Test.YtamdhefhhdgjbaaGreatDoorOp00
set_option linter.all false
section
open Go Go.LL
namespace Go.Proofs
def nB (b:Bk):Nat:=(Zae b).length
def oS (b:Bk):Int:=if 0<nB b then 0 else 9
theorem WaN {b:Bk}(v:Zeo b):Zah b true=oS b:=open_eq v
theorem WaJ {b:Bk}(h:0<nB b):oS b=0:=if_pos h
theorem Wbc {b:Bk}(h:¬ 0<nB b):oS b=9:=if_neg h
theorem WaZ {b:Bk}(h:¬ 0<nB b):Zae b=[]:=List.length_eq_zero_iff.1 (by unfold nB at h;omega)
theorem Wbg {b:Bk}(h:¬ 0<nB b)(i:Nat):gapL b i=[]:=List.eq_nil_iff_forall_not_mem.2 fun z hz=>by
 obtain⟨x,hx,_⟩:=gapL_mem.1 hz
 rw[WaZ h]at hx;simp at hx
theorem gapL_le {b:Bk}(v:Zeo b)(i:Nat):(gapL b i).length<=1782:=by
 rw[gap_eq rfl]
 have h1:=ordF_len ((Zae b).map fun x=>(Zas b x).get i)
 rw[List.length_map]at h1
 have h3:=Zbp v
 omega
def hadF (b:Bk):Int:=if 0<nB b then Zhu ((Zae b).filter (ZgD b)).length (nB b) else 0
def WaC (b:Bk):Bool:=decide (0<nB b∧sLow b<=sHigh b)
def WaW (b:Bk):Int:=if 0<nB b∧sLow b<=sHigh b then sLow b else 0
section
variable  {P:Prg}[Tz P][Loud P]{H:Hp}{bv:Value}{b:Bk}
theorem Wbj (v:Zeo b)(hb:BkAt H bv b)(hg:Za8 H):LL.Zag P 19 #[bv] H fun u H'=>Inc H H'∧u=.tuple #[vi (nB b),vi 0]:=
 LL.Zag.mono (ZfC hb hg (by have:=v.n;omega) (by have:=v.ckn;omega)) fun u H' h=>⟨h.1,by rw[h.2,WaM v];rfl⟩
theorem Had_v (v:Zeo b)(hb:BkAt H bv b)(hg:Za8 H):LL.Zag P 31 #[bv] H fun u H'=>Inc H H'∧u=.tuple #[vi (hadF b),vi (oS b)]:=
 LL.Zag.mono (Had_ok hb hg (by have:=v.n;omega) (by have:=v.ckn;omega)) fun u H' h=>⟨h.1,by
  rw[h.2,WaN v]
  have:(if oS b=0 then Zhu ((Zae b).filter (ZgD b)).length (Zae b).length else 0)=hadF b:=by
   unfold hadF
   by_cases h0:0<nB b
   ·rw[if_pos (WaJ h0),if_pos h0];rfl
   ·rw[if_neg (by rw[Wbc h0];decide),if_neg h0]
  rw[this]⟩
theorem Gap_v {i:Nat}(hi:i<b.pts.length)(v:Zeo b)(hb:BkAt H bv b)(hg:Za8 H):LL.Zag P 29 #[bv,vi i] H fun u H'=>Inc H H'∧∃ A c,u=.tuple #[.slice A (gapL b i).length c,vi (oS b)]∧SlAt H' (.slice A (gapL b i).length c) (gapL b i):=
 LL.Zag.mono (Gap_ok hb hg (by have:=v.n;omega) (by have:=v.ckn;omega)) fun u H' h=>⟨h.1,by
  rw[there_eq hi,WaN v]at h
  obtain⟨w,bb,rfl,o⟩:=h.2
  have:(if oS b=0 then gapL b (i:Int).toNat else [])=gapL b i:=by
   split
   ·rfl
   ·rename_i h0
    rw[Wbg fun e=>h0 (WaJ e)]
  rw[this]at o
  obtain⟨A,c,rfl⟩:=Wa8 o
  exact⟨A,c,rfl,o.sl⟩⟩
theorem WaV (v:Zeo b)(hb:BkAt H bv b)(hg:Za8 H):LL.Zag P 33 #[bv] H fun u H'=>Inc H H'∧u=.tuple #[vi (WaW b),vb (WaC b),vi (oS b)]:=
 LL.Zag.mono (Zm2 hb hg (by have:=v.n;omega) (by have:=v.ckn;omega)) fun u H' h=>⟨h.1,by
  rw[h.2,ZfI,WaN v,WaW,WaC]
  by_cases h0:0<nB b
  ·rw[if_pos (WaJ h0)]
   by_cases h1:sLow b<=sHigh b
   ·rw[if_neg (by omega),if_pos ⟨h0,h1⟩,decide_eq_true (show 0<nB b∧sLow b<=sHigh b from ⟨h0,h1⟩),WaJ h0]
   ·rw[if_pos (by omega),if_neg (fun e=>h1 e.2),decide_eq_false (fun e=>h1 e.2),WaJ h0]
  ·rw[if_neg (by rw[Wbc h0];decide),if_neg (fun e=>h0 e.1),decide_eq_false (fun e=>h0 e.1)]⟩
end
end Go.Proofs
end
section
open Go Go.LL
namespace Go.Proofs
theorem Wae {a m:Int}(h:0<=a)(hm:0<m):0<=a.tmod m∧a.tmod m<m:=⟨Int.tmod_nonneg _ h,Int.tmod_lt_of_pos _ hm⟩
theorem Wau {f:Nat->Int}{j:Nat}:(List.range (j+1)).map f=(List.range j).map f++[f j]:=by rw[List.range_succ,List.map_append];rfl
theorem Wa6 {f:Nat->Int}{n i:Nat}(h:i<n):((List.range n).map f).getD i 0=f i:=by
 rw[List.getD_eq_getElem?_getD,List.getElem?_map,List.getElem?_range h];rfl
theorem one_zero {b:Bk}{l:List Int}{lo hi:Int}(h:l.length=b.pts.length)(h2:∀ z∈l,lo<=z∧z<=hi):Zbw b l lo hi=0:=by
 rw[Zbw,if_neg (by simpa using h),if_pos]
 rw[List.all_eq_true]
 exact fun z hz=>decide_eq_true (h2 z hz)
theorem Wbh {b:Bk}(h:fitB b=true):Zeo b:=by
 simp only[fitB,Bool.and_eq_true,decide_eq_true_eq]at h
 exact ZaS h.2
section
variable  {P:Prg}[Tz P][Loud P]{H:Hp}
set_option maxHeartbeats 16000000
set_option maxRecDepth 40000
end
end Go.Proofs
end
section
open Go Go.LL
namespace Go.Proofs
theorem Wa3 (x y:Int)(l:List SPt)(i:Nat)(hi:i<l.length)(rest:List Value):ZaN (encs l++rest) (i * 5) [vi x,vi y]=encs (l.set i { l[i]with ml:=x,mh:=y })++rest:=by
 rw[Zif x y l i hi rest,Zbd hi]
theorem sl_at {α:Type}[Enc α]{H:Hp}{r cap:Nat}{l:List α}{rest:List Value}{E:TypeId}(h:H r=some (.cells (encs l++rest).toArray E (0,0),true)):SlAt H (.slice (some ⟨r,0,none⟩) l.length cap) l:=
 ⟨_,cap,rfl,fun _=>⟨_,rfl,ZbK (Zan h)⟩⟩
theorem own_at {H0 H:Hp}{v:Value}{l:List SPt}{bb:Option Nat}(h:Own H0 H 59 v l bb)(hne:0<l.length):∃ r cap rest,v=.slice (some ⟨r,0,none⟩) l.length cap∧H r=some (.cells (encs l++rest).toArray 59 (0,0),true)∧H0 r=none:=by
 obtain⟨q0,⟨q1,q2,q3⟩ | ⟨r,cap,rest,rfl,rfl,q3,q4,q5⟩⟩:=h.own
 ·omega
 ·exact⟨r,cap,rest,rfl,q3,h.fresh r rfl⟩
theorem Wa7 {b:Bk}(v:Zeo b){i:Nat}(hi:i<b.pts.length):(0<=(ptAt b i).ml∧(ptAt b i).ml<=(ptAt b i).mh∧(ptAt b i).mh<=99)∧(ptAt b i).mh-(ptAt b i).ml<3∧(0<=(ptAt b i).bl∧(ptAt b i).bl<=(ptAt b i).bh∧(ptAt b i).bh<=199)∧(0<=(ptAt b i).w∧(ptAt b i).w<=199):=by
 have:=v.pts i hi
 rwa [show b.pts[i]=ptAt b i from (Zbd hi _).symm]at this
section
variable  {P:Prg}[Tz P][Loud P]{H:Hp}
set_option maxHeartbeats 8000000
set_option maxRecDepth 20000
end
end Go.Proofs
end
section
open Go Go.LL
namespace Go.Proofs
def Wat (b:Bk)(l:List U16)(n:Nat):List Int:=(List.range n).map fun (i:Nat)=>(ptAt b i).ml+(Zgj l i).tmod ((ptAt b i).mh-(ptAt b i).ml+1)
def Waj (b:Bk)(l:List U16):Int:=(Zgj l 5).tmod (2 * b.sl+1)-b.sl
def WaY (b:Bk)(l:List U16):Slip:=⟨if Waj b l=0 then 0 else 1+(Zgj l 4).tmod (b.pts.length-1),Waj b l⟩
theorem Wam (b:Bk)(l:List U16)(n:Nat):(Wat b l n).length=n:=by simp[Wat]
theorem WaP {b:Bk}(v:Zeo b)(l:List U16){i:Nat}(hi:i<b.pts.length):(ptAt b i).ml<=(ptAt b i).ml+(Zgj l i).tmod ((ptAt b i).mh-(ptAt b i).ml+1)∧(ptAt b i).ml+(Zgj l i).tmod ((ptAt b i).mh-(ptAt b i).ml+1)<=(ptAt b i).mh:=by
 obtain⟨h1,_⟩:=Wa7 v hi
 have:=Wae (m:=(ptAt b i).mh-(ptAt b i).ml+1) (Wac l i).1 (by omega)
 omega
theorem realM_mk {b:Bk}(v:Zeo b)(l:List U16):Wat b l b.pts.length∈mkL b b.pts.length:=by
 refine WaK.2 ⟨Wam b l _,fun j hj=>?_⟩
 rw[Wat,Wa6 hj]
 exact WaP v l hj
theorem realM_99 {b:Bk}(v:Zeo b)(l:List U16):∀ z∈Wat b l b.pts.length,0<=z∧z<=99:=by
 intro z hz
 obtain⟨i,hi,rfl⟩:=List.mem_map.1 hz
 rw[List.mem_range]at hi
 have:=WaP v l hi
 obtain⟨h1,_⟩:=Wa7 v hi
 omega
theorem realY_rg {b:Bk}(v:Zeo b)(l:List U16):-b.sl<=Waj b l∧Waj b l<=b.sl:=by
 have:=v.sl
 have:=Wae (m:=2 * b.sl+1) (Wac l 5).1 (by omega)
 rw[Waj];omega
theorem Wa5 {b:Bk}(v:Zeo b)(l:List U16):WaY b l∈ZaC b:=by
 have hn:=v.n
 have h1:=realY_rg v l
 have h2:=Wae (m:=(b.pts.length:Int)-1) (Wac l 4).1 (by omega)
 refine(Wa4 v).2 ?_
 by_cases h:Waj b l=0
 ·left;rw[WaY,if_pos h,h]
 ·right
  rw[WaY,if_neg h]
  show (1<=1+(Zgj l 4).tmod (b.pts.length-1)∧1+(Zgj l 4).tmod (b.pts.length-1)<b.pts.length)∧-b.sl<=Waj b l∧Waj b l<=b.sl∧Waj b l≠0
  omega
theorem WaX (b:Bk)(l:List U16)(j:Nat):Wat b l (j+1)=Wat b l j++[(ptAt b j).ml+(Zgj l j).tmod ((ptAt b j).mh-(ptAt b j).ml+1)]:=Wau
section
variable  {P:Prg}[Tz P][Loud P]{H:Hp}
set_option maxHeartbeats 8000000
set_option maxRecDepth 20000
theorem Wbi {a c n:Int}(h:0<=a∧a<=c∧c<=99)(hn:0<=n):LL.Zag P 136 #[.agg #[vi a,vi c],vi n] H fun v H'=>H=H'∧v=vi (a+n.tmod (c-a+1)):=by
 have hs:∀ g,P.still g=false:=Loud.loud
 refine IsN.m (isn c136) (args:=[.agg #[vi a,vi c],vi n]) rfl ?_
 unfold n136
 refine wkT ?_
 refine WaI rfl rfl (by omega) ?_
 have:=Wae (m:=c-a+1) hn (by omega)
 refine wkT ?_
 exact⟨rfl,rfl⟩
theorem Real_ok {bv lv:Value}{b:Bk}{l:List U16}(val:Zeo b)(hb:BkAt H bv b)(hl:SlAt H lv l):LL.Zag P 73 #[bv,lv] H fun v H'=>Inc H H'∧∃ A c,v=.tuple #[.slice A b.pts.length c,ZbG (WaY b l)]∧SlAt H' (.slice A b.pts.length c) (Wat b l b.pts.length):=by
 have hs:∀ g,P.still g=false:=Loud.loud
 have hn:=val.n
 have hsl:=val.sl
 obtain⟨pv,cv,rfl,hp,hc⟩:=hb
 obtain⟨Ap,cp,rfl,hp'⟩:=id hp
 refine IsN.m (isn c73) (args:=[.agg #[vi b.op,vi b.sl,.slice Ap b.pts.length cp,cv],lv]) rfl ?_
 unfold n73
 refine wkT ?_
 refine ZaP (α:=Value×Option Nat) b.pts.length (fun j s H'=>Inc H H'∧Own H H' 3 s.1 (Wat b l j) s.2) (fun j s=>[(1,lv),(2,vi 0),(5,vi 0),(6,s.1),(7,vi j)]) (fun _ _=>[(2,[vi b.op,vi b.sl,.slice Ap b.pts.length cp,cv]),(5,[vi 0,vi 0])]) (.slice none 0 0,none) ⟨.refl _,.nil _ _ _⟩ ⟨rfl,rfl,rfl,rfl,rfl,trivial⟩ ⟨rfl,rfl,trivial⟩ ?_
 rintro j ⟨v6,b6⟩ H2 hj ⟨i2,o6⟩
 simp only at o6
 have hrl:=Wam b l j
 refine wkT ?_
 refine wiT (fun h1=>?_) (fun h1=>?_)
 ·have hj':j<b.pts.length:=by omega
  obtain⟨g1,_⟩:=Wa7 val hj'
  have row:Enc.enc b.pts[j]=[vi (ptAt b j).ml,vi (ptAt b j).mh,vi (ptAt b j).bl,vi (ptAt b j).bh,vi (ptAt b j).w]:=by
   rw[show b.pts[j]=ptAt b j from (Zbd hj' _).symm];rfl
  have hsn:=WaX b l j
  refine wkT ?_
  refine ZaE (hp.inc i2) rfl rfl rfl (i:=j) hj' fun a ha=>?_
  rw[row]at ha
  refine wkT ?_
  refine Zao (cs:=[vi (ptAt b j).ml,vi (ptAt b j).mh]) (hs _) rfl (by rw[add_zero];exact ZbK (ds:=[vi (ptAt b j).bl,vi (ptAt b j).bh,vi (ptAt b j).w]) ha) rfl ?_
  refine wkT ?_
  refine Zab (vs:=[lv,vi j]) rfl (Choice_ok (hl.inc i2)) ?_
  rintro v _ ⟨rfl,rfl⟩
  refine wkT ?_
  refine Zab (vs:=[.agg #[vi (ptAt b j).ml,vi (ptAt b j).mh],vi (Zgj l j)]) rfl (Wbi g1 (Wac l j).1) ?_
  rintro v _ ⟨rfl,rfl⟩
  generalize (ptAt b j).ml+(Zgj l j).tmod ((ptAt b j).mh-(ptAt b j).ml+1)=x at *
  refine wkT ?_
  refine Zat (cs:=[vi x]) (hs _) rfl fun r5 hr5=>?_
  refine kp_l hs ?_
  refine wkT ?_
  refine ZbW (l':=[x]) (und u34) (und u34) (tif t3) rfl (by decide) (i2.trans (Zaj hr5)) (o6.ins hr5) ints_1 rfl (by simp only[List.length_singleton];omega) (by omega) rfl rfl (hs _) fun v7 H4 b7 k1 k2 k3=>?_
  rw[<-hsn]at k2
  refine wkT ?_
  exact⟨(⟨j+1,by omega⟩,(v7,b7)),Nat.sub_lt_sub_left (by omega) (Nat.lt_succ_self j),⟨k1,k2⟩,⟨rfl,rfl,rfl,rfl,rfl,trivial⟩,⟨rfl,rfl,trivial⟩,rfl⟩
 have:j=b.pts.length:=by omega
 subst this
 obtain⟨A6,c6,rfl⟩:=Wa8 o6
 have s6:=o6.sl
 rw[hrl]at s6
 have r4:=Wae (m:=(b.pts.length:Int)-1) (Wac l 4).1 (by omega)
 have r5:=Wae (m:=2 * b.sl+1) (Wac l 5).1 (by omega)
 have ry:Waj b l=(Zgj l 5).tmod (2 * b.sl+1)-b.sl:=rfl
 have rk:WaY b l=⟨if Waj b l=0 then 0 else 1+(Zgj l 4).tmod (b.pts.length-1),Waj b l⟩:=rfl
 refine wkT ?_
 refine ZgX rfl rfl ⟨by omega,by omega⟩ ?_
 refine wkT ?_
 refine Zab (vs:=[lv,vi 4]) rfl (Choice_ok (hl.inc i2)) ?_
 rintro v _ ⟨rfl,rfl⟩
 refine wkT ?_
 refine WaI rfl rfl (by omega) ?_
 refine wkT ?_
 refine Zab (vs:=[lv,vi 5]) rfl (Choice_ok (hl.inc i2)) ?_
 rintro v _ ⟨rfl,rfl⟩
 refine wkT ?_
 refine WaI rfl rfl (by omega) ?_
 refine wkT ?_
 rw[<-ry]
 refine wiT (fun h2=>?_) (fun h2=>?_)
 ·refine wkT ?_
  refine⟨i2,A6,c6,?_,s6⟩
  rw[rk,if_pos h2,hrl];rfl
 ·refine wkT ?_
  refine⟨i2,A6,c6,?_,s6⟩
  rw[rk,if_neg h2,hrl];rfl
end
end Go.Proofs
end
section
open Go Go.LL
namespace Go.Proofs
structure BrN (p q n m i few many all:Int)(su st:Bool):Prop where
 p3:p=0∨p=1∨p=2
 a1:p=1->q=1
 a2:p≠2->q≠2
 a3:su=true->st=true∧m<=n
 a4:few<=many
 a5:many<=all
 a6:su=true->few=all∧i=n∧p=1
 a7:su=false->few<all
 a8:few=0↔p=2
section
variable  {P:Prg}[Tz P][Loud P]{H:Hp}
set_option maxHeartbeats 16000000
set_option maxRecDepth 40000
end
end Go.Proofs
end
section
open Go Go.LL
namespace Go.Proofs
section
variable  {P:Prg}[Tz P][Loud P]{H:Hp}
set_option maxHeartbeats 16000000
set_option maxRecDepth 40000
end
end Go.Proofs
end
section
open Go Go.LL
namespace Go.Proofs
section
variable  {P:Prg}[Tz P][Loud P]{H:Hp}
set_option maxHeartbeats 16000000
set_option maxRecDepth 40000
end
end Go.Proofs
end
section
open Go Go.LL
namespace Go.Proofs
theorem tmod_nat {m:Int}{n:Nat}(h:0<=m)(hn:0<n):∃ i:Nat,i<n∧m.tmod n=i:=by
 have:=Wae (m:=(n:Int)) h (by omega)
 exact⟨(m.tmod n).toNat,by omega,by omega⟩
section
variable  {P:Prg}[Tz P][Loud P]{H:Hp}
set_option maxHeartbeats 16000000
set_option maxRecDepth 40000
end
end Go.Proofs
end
section
open Go Go.LL
namespace Go.Proofs
theorem WaO {b:Bk}{l:List Int}{k:Slip}(v:Zeo b)(h:l.length=b.pts.length)(h2:∀ z∈l,0<=z∧z<=99)(hk:k∈ZaC b):ZaA b l k=0:=by
 rw[ZaA,if_neg (by simp[WaM v]),if_neg (by rw[one_zero h h2];decide),if_pos hk]
theorem Wbf {b:Bk}{l:List Int}{k:Slip}(v:Zeo b)(h:l.length=b.pts.length)(h2:∀ z∈l,0<=z∧z<=99)(hk:k∈ZaC b):gapsL b l k=gapLs b (Zgk l k):=by
 rw[gapsL,if_pos (WaO v h h2 hk)];rfl
theorem op_gapLs {b:Bk}{n:Int}{l:List Int}{k:Slip}(h:l.length=b.pts.length):gapLs (opB b n) (Zgk (l.map (·+n)) k)=gapLs b (Zgk l k):=by
 have e:Zgk (l.map (·+n)) k=shB n b.pts.length (Zgk l k):=by
  show (⟨n4of (l.map (·+n)),k.bf,k.by_⟩:Boat)=⟨N4.of fun j=>if j<b.pts.length then (n4of l).get j+n else (n4of l).get j,k.bf,k.by_⟩
  rw[sh_n4,h]
 rw[gapLs,gapLs,e,Waz,Wai]
theorem op_nums {b:Bk}{n:Int}(v:Zeo b)(v':Zeo (opB b n)):nB (opB b n)=nB b∧oS (opB b n)=oS b∧hadF (opB b n)=hadF b∧WaW (opB b n)=WaW b∧WaC (opB b n)=WaC b:=by
 have e1:nB (opB b n)=nB b:=op_len v v'
 obtain⟨e2,e3⟩:=Wa9 v v'
 have e4:=op_fits v v'
 refine⟨e1,?_,?_,?_,?_⟩
 ·rw[oS,oS,e1]
 ·rw[hadF,hadF,e1,e4]
 ·rw[WaW,WaW,e1,e2,e3]
 ·rw[WaC,WaC,e1,e2,e3]
theorem Way {l:List Int}{n:Int}{j:Nat}(h:j<l.length):(l.take (j+1)).map (·+n)=(l.take j).map (·+n)++[l.getD j 0+n]:=by
 rw[List.take_succ_eq_append_getElem h,List.map_append,el_eq h];rfl
section
variable  {P:Prg}[Tz P][Loud P]{H:Hp}
set_option maxHeartbeats 16000000
set_option maxRecDepth 40000
theorem Was (hPP:P=PP){bv lv:Value}{b:Bk}{l:List U16}{m1 m2:Int}(hb:BkAt H bv b)(hl:SlAt H lv l)(hm1:0<=m1∧m1<256)(hm2:0<=m2∧m2<256)(hg:Za8 H) :
  n13.m P (MFin P r13 fun v _=>v=vb true) (env0 [bv,lv,.int .u8 m1,.int .u8 m2]) H:=by
 have hs:∀ g,P.still g=false:=Loud.loud
 have hb0:=hb
 obtain⟨pv,cv,rfl,hp,hc⟩:=hb
 obtain⟨Ap,cp,rfl,hp'⟩:=id hp
 obtain⟨Ac,cc,rfl,hc'⟩:=id hc
 unfold n13
 refine wkT ?_
 refine Zab (vs:=[.agg #[vi b.op,vi b.sl,.slice Ap b.pts.length cp,.slice Ac b.cks.length cc]]) rfl (Fit_ok hb0) ?_
 rintro v _ ⟨rfl,rfl⟩
 refine wkT ?_
 refine wiT (fun h0=>?_) (fun h0=>?_)
 ·refine wkT ?_
  refine Zab (vs:=[]) rfl (spiled_okP hPP hg) ?_
  rintro v H1 ⟨_,rfl⟩
  refine wkT ?_
  rfl
 have val:=Wbh h0
 have hn:=val.n
 have hsl:=val.sl
 have hop:=val.op
 have hck:=val.ckn
 have hK:=Wa5 val l
 have hM:=realM_mk val l
 have hM9:=realM_99 val l
 have hMl:=Wam b l b.pts.length
 refine wkT ?_
 refine Zab (vs:=[.agg #[vi b.op,vi b.sl,.slice Ap b.pts.length cp,.slice Ac b.cks.length cc],lv]) rfl (Real_ok val hb0 hl) ?_
 rintro v H1 ⟨i1,A1,c1,rfl,s1⟩
 generalize WaY b l=K at *
 generalize Wat b l b.pts.length=M at *
 refine wkT ?_
 refine Zb3 (und Tryz.underlying5) (und Tryz.underlying3) rfl ?_
 rw[ZbO (show InR m1 from ⟨by omega,by omega⟩)]
 refine wkT ?_
 refine WaI rfl rfl (by decide) ?_
 have hN:=Wae (m:=100) hm1.1 (by decide)
 generalize m1.tmod 100=N at *
 refine wkT ?_
 refine Zb3 (und Tryz.underlying5) (und Tryz.underlying3) rfl ?_
 rw[ZbO (show InR m2 from ⟨by omega,by omega⟩)]
 refine wkT ?_
 refine WaI rfl rfl (by omega) ?_
 obtain⟨i,hi,ei⟩:=tmod_nat (n:=b.pts.length) hm2.1 (by omega)
 rw[ei]
 refine wkT ?_
 refine Zdw (und u22) (tif t59) (hs _) fun r3 hr3=>?_
 have o3:Own H1 (H1.ins r3 (.cells #[] 59)) 59 (.slice (some ⟨r3,0,none⟩) 0 0) ([]:List SPt) (some r3):=own_nil0 hr3
 have i3:Inc H1 (H1.ins r3 (.cells #[] 59)):=Zaj hr3
 generalize H1.ins r3 (.cells #[] 59)=H3 at *
 refine wkT ?_
 refine ZbW (l':=b.pts) (und u22) (und u22) (tif t59) rfl (by decide) i3 o3 ((hp.inc i1).inc i3) (pts_one _) (by simp;omega) (by omega) rfl rfl (hs _) fun v4 H4 b4 i4 o4 _=>?_
 rw[List.nil_append]at o4
 obtain⟨r,cap,rest,rfl,q3,q0⟩:=own_at o4 (by omega)
 refine wkT ?_
 refine ZaP (α:=Value×Option Nat) b.pts.length (fun j s H'=>Inc H1 H'∧H' r=some (.cells (encs (updP b (opF b N) j)++rest).toArray 59 (0,0),true)∧Own H1 H' 3 s.1 ((M.take j).map (·+N)) s.2∧s.2≠some r)
  (fun j s=>[(4,vi 0),(9,.slice A1 b.pts.length c1),(10,vi 0),(11,vi N),(12,vi i),(13,vi 0),(14,s.1),(15,vi j)]) (fun _ _=>[(4,[vi b.op,vi b.sl,.slice Ap b.pts.length cp,.slice Ac b.cks.length cc]),(10,[vi K.bf,vi K.by_]),(13,[vi (b.op+N),vi b.sl,.slice (some ⟨r,0,none⟩) b.pts.length cap,.slice Ac b.cks.length cc])]) (.slice none 0 0,none) ⟨i4,by rw[upd_zero];exact q3,.nil _ _ _,by simp⟩ ⟨rfl,rfl,rfl,rfl,rfl,rfl,rfl,rfl,trivial⟩ ⟨rfl,rfl,rfl,trivial⟩ ?_
 rintro j ⟨v14,b14⟩ H5 hj ⟨i5,q,o14,hne⟩
 simp only at o14 hne
 refine wkT ?_
 refine wiT (fun h1=>?_) (fun h1=>?_)
 ·have hj':j<b.pts.length:=by omega
  have hju:j<(updP b (opF b N) j).length:=by rw[Wad];exact hj'
  have hrow:(updP b (opF b N) j)[j]=ptAt b j:=by rw[Wax,if_neg (by omega)]
  have hstep:=upd_set b (opF b N) (j:=j)
  have hsp:=fun x y=>Wa3 x y (updP b (opF b N) j) j hju rest
  have hll:(encs (updP b (opF b N) j)).length=b.pts.length * 5:=by rw[Zcm,Wad];rfl
  have hjM:j<M.length:=by omega
  have eM:M[j]=M.getD j 0:=(el_eq hjM).symm
  have hM2:=hM9 _ (List.getElem_mem hjM)
  rw[eM]at hM2
  have hts:=Way (n:=N) hjM
  have htl:((M.take j).map (·+N)).length=j:=by rw[List.length_map,List.length_take];omega
  obtain⟨g1,_⟩:=Wa7 val hj'
  have row:Enc.enc b.pts[j]=[vi (ptAt b j).ml,vi (ptAt b j).mh,vi (ptAt b j).bl,vi (ptAt b j).bh,vi (ptAt b j).w]:=by
   rw[show b.pts[j]=ptAt b j from (Zbd hj' _).symm];rfl
  have hp5:=(hp.inc i1).inc i5
  refine wkT ?_
  refine ZaE hp5 rfl rfl rfl (i:=j) hj' fun a ha=>?_
  rw[row]at ha
  refine wkT ?_
  refine Zaf (hs _) rfl (by rw[add_zero,add_zero];exact ZbK (ds:=[vi (ptAt b j).mh,vi (ptAt b j).bl,vi (ptAt b j).bh,vi (ptAt b j).w]) ha) ?_
  refine wkT ?_
  refine ZaE hp5 rfl rfl rfl (i:=j) hj' fun a2 ha2=>?_
  rw[row]at ha2
  refine wkT ?_
  refine Zaf (hs _) rfl (by rw[add_zero];exact ZbA (j:=1) ha2 rfl) ?_
  refine wkT ?_
  refine Zab (vs:=[vi ((ptAt b j).ml+N),vi ((ptAt b j).mh+N)]) rfl (Zi6 _ _) ?_
  rintro v _ ⟨rfl,rfl⟩
  refine wkT ?_
  refine ZcY rfl rfl hj' ?_
  refine wkT ?_
  have hadd:((⟨r,0,none⟩:Addr).add (j * 5)).add 0=⟨r,j * 5,none⟩:=by rw[Zm0,Zm0,Nat.zero_add];rfl
  rw[hadd]
  refine Zd6 (v:=.agg #[vi ((ptAt b j).ml+N),vi ((ptAt b j).mh+N)]) (cs:=encs (updP b (opF b N) j)++rest) (tif t49) rfl rfl q rfl (by rw[List.length_append,hll];omega) rfl (hs _) ?_
  have e5:ZaN (encs (updP b (opF b N) j)++rest) (j * 5) (Value.cells (.agg #[vi ((ptAt b j).ml+N),vi ((ptAt b j).mh+N)])).toList=encs (updP b (opF b N) (j+1))++rest:=by
   rw[<-hstep]
   show ZaN _ _ [vi _,vi _]=_
   rw[hsp,hrow];rfl
  rw[e5]
  have i6:Inc H1 (H5.ins r (.cells (encs (updP b (opF b N) (j+1))++rest).toArray 59)):=Za6 i5 q0
  have q6:(H5.ins r (.cells (encs (updP b (opF b N) (j+1))++rest).toArray 59)) r=some (.cells (encs (updP b (opF b N) (j+1))++rest).toArray 59 (0,0),true):=Hp.ins_same _ _ _
  have o6:Own H1 (H5.ins r (.cells (encs (updP b (opF b N) (j+1))++rest).toArray 59)) 3 v14 ((M.take j).map (·+N)) b14:=
   ⟨o14.own.sub fun c z e hcz=>by rw[Hp.ins_other _ _ (by rintro rfl;exact hne e)];exact hcz,o14.fresh⟩
  generalize H5.ins r (.cells (encs (updP b (opF b N) (j+1))++rest).toArray 59)=H6 at *
  refine wkT ?_
  have s6:=s1.inc i6
  rw[<-hMl]at s6
  refine ZaE s6 (by rw[hMl];rfl) rfl rfl (i:=j) hjM fun a3 ha3=>?_
  rw[eM]at ha3
  refine wkT ?_
  refine Zaf (hs _) rfl ha3 ?_
  refine wkT ?_
  refine Zat (cs:=[vi (M.getD j 0+N)]) (hs _) rfl fun r5 hr5=>?_
  refine wkT ?_
  refine ZbW (l':=[M.getD j 0+N]) (und u34) (und u34) (tif t3) rfl (by decide) (i6.trans (Zaj hr5)) (o6.ins hr5) ints_1 rfl (by rw[htl];simp only[List.length_singleton];omega) (by omega) rfl rfl (hs _) fun v7 H7 b7 k1 k2 k3=>?_
  have q7:H7 r=some (.cells (encs (updP b (opF b N) (j+1))++rest).toArray 59 (0,0),true):=k3.keep r _ (Zaj hr5 _ _ q6) fun e=>hne e
  have hne7:b7≠some r:=by
   rcases k3.new with rfl | ⟨w,rfl,hw⟩
   ·exact hne
   ·rintro e
    obtain rfl:=Option.some.inj e
    rw[Zaj hr5 _ _ q6]at hw;simp at hw
  rw[<-hts]at k2
  refine wkT ?_
  exact⟨(⟨j+1,by omega⟩,(v7,b7)),Nat.sub_lt_sub_left (by omega) (Nat.lt_succ_self j),⟨k1,q7,k2,hne7⟩,⟨rfl,rfl,rfl,rfl,rfl,rfl,rfl,rfl,trivial⟩,⟨rfl,rfl,rfl,trivial⟩,rfl⟩
 have:j=b.pts.length:=by omega
 subst this
 rw[List.take_of_length_le (by omega)]at o14
 have hsl5:SlAt H5 (.slice (some ⟨r,0,none⟩) b.pts.length cap) (updP b (opF b N) b.pts.length):=by
  have:=sl_at (cap:=cap) q
  rwa [Wad]at this
 have hOe:(opB b N).op=b.op+N∧(opB b N).sl=b.sl∧(opB b N).pts=updP b (opF b N) b.pts.length∧(opB b N).cks=b.cks:=⟨rfl,rfl,rfl,rfl⟩
 have hOl:=Wai b N
 have ii:=i1.trans i5
 have hO:BkAt H5 (.agg #[vi (b.op+N),vi b.sl,.slice (some ⟨r,0,none⟩) b.pts.length cap,.slice Ac b.cks.length cc]) (opB b N):=⟨_,_,by rw[hOe.1,hOe.2.1],by rw[hOe.2.2.1];exact hsl5,by rw[hOe.2.2.2];exact hc.inc ii⟩
 have hb5:=hb0.inc ii
 have hg5:=CellsAt.inc hg ii
 have s5:=s1.inc i5
 have s14:=o14.sl
 refine wkT ?_
 refine Zab (vs:=[.agg #[vi (b.op+N),vi b.sl,.slice (some ⟨r,0,none⟩) b.pts.length cap,.slice Ac b.cks.length cc]]) rfl (Zic hO (by omega) (by rw[hOe.2.2.2];omega)) ?_
 rintro v _ ⟨rfl,rfl⟩
 refine wkT ?_
 refine wiT (fun h2=>?_) (fun h2=>?_)
 ·refine wkT ?_
  refine Zab (vs:=[]) rfl (spiled_okP hPP hg5) ?_
  rintro v H6 ⟨_,rfl⟩
  refine wkT ?_
  rfl
 have vO:=ZaS (b:=opB b N) h2
 obtain⟨z1,z2,z3,z4,z5⟩:=op_nums val vO
 have z6:=op_gapL val vO i
 have hMN:∀ z∈M.map (·+N),0<=z∧z<=99:=by
  intro z hz
  obtain⟨y,hy,rfl⟩:=List.mem_map.1 hz
  obtain⟨j,hj,rfl⟩:=List.mem_iff_getElem.1 hy
  have h3:=(WaK.1 hM).2 j (by omega)
  rw[el_eq hj]at h3
  obtain⟨h4,_⟩:=Wa7 vO (i:=j) (by omega)
  rw[Wbb (by omega)]at h4
  have e1:(opF b N j).mh=(ptAt b j).mh+N:=rfl
  have:=hM9 _ hy
  show 0<=M[j]+N∧M[j]+N<=99
  omega
 have hMNl:(M.map (·+N)).length=(opB b N).pts.length:=by rw[List.length_map,hOl,hMl]
 have hKO:K∈ZaC (opB b N):=by rw[WaR];exact hK
 have y1:=WaO val hMl hM9 hK
 have y2:=WaO vO hMNl hMN hKO
 have y3:=Wbf val hMl hM9 hK
 have y4:=Wbf vO hMNl hMN hKO
 have y5:=op_gapLs (n:=N) (k:=K) hMl
 have hOck:(opB b N).cks.length<=3:=by rw[hOe.2.2.2];exact hck
 have hiO:i<(opB b N).pts.length:=by omega
 generalize opB b N=O at *
 refine wkT ?_
 refine Zab (vs:=[.agg #[vi b.op,vi b.sl,.slice Ap b.pts.length cp,.slice Ac b.cks.length cc],.slice A1 b.pts.length c1,ZbG K]) rfl (Gaps_ok hb5 s5 hg5 (by omega) (by omega) (by omega)) ?_
 rintro v H6 ⟨i6,w6,rfl,s6⟩
 rw[y3]at s6
 rw[y1]
 refine wkT ?_
 refine Zab (vs:=[.agg #[vi (b.op+N),vi b.sl,.slice (some ⟨r,0,none⟩) b.pts.length cap,.slice Ac b.cks.length cc],v14,ZbG K]) rfl (Gaps_ok (hO.inc i6) (s14.inc i6) (CellsAt.inc hg5 i6) (by omega) (by omega) (by omega)) ?_
 rintro v H7 ⟨j7,w7,rfl,s7⟩
 rw[y4,y5]at s7
 rw[y2]
 have i7:=i6.trans j7
 refine wkT ?_
 refine Zab (vs:=[.agg #[vi b.op,vi b.sl,.slice Ap b.pts.length cp,.slice Ac b.cks.length cc]]) rfl (Wbj val (hb5.inc i7) (CellsAt.inc hg5 i7)) ?_
 rintro v H8 ⟨j8,rfl⟩
 have i8:=i7.trans j8
 refine wkT ?_
 refine Zab (vs:=[.agg #[vi (b.op+N),vi b.sl,.slice (some ⟨r,0,none⟩) b.pts.length cap,.slice Ac b.cks.length cc]]) rfl (Wbj vO (hO.inc i8) (CellsAt.inc hg5 i8)) ?_
 rintro v H9 ⟨j9,rfl⟩
 have i9:=i8.trans j9
 refine wkT ?_
 refine Zab (vs:=[.agg #[vi b.op,vi b.sl,.slice Ap b.pts.length cp,.slice Ac b.cks.length cc],vi i]) rfl (Gap_v hi val (hb5.inc i9) (CellsAt.inc hg5 i9)) ?_
 rintro v H10 ⟨j10,A10,c10,rfl,s10⟩
 have i10:=i9.trans j10
 refine wkT ?_
 refine Zab (vs:=[.agg #[vi (b.op+N),vi b.sl,.slice (some ⟨r,0,none⟩) b.pts.length cap,.slice Ac b.cks.length cc],vi i]) rfl (Gap_v hiO vO (hO.inc i10) (CellsAt.inc hg5 i10)) ?_
 rintro v H11 ⟨j11,A11,c11,rfl,s11⟩
 rw[z6]at s11
 have i11:=i10.trans j11
 refine wkT ?_
 refine Zab (vs:=[.agg #[vi b.op,vi b.sl,.slice Ap b.pts.length cp,.slice Ac b.cks.length cc]]) rfl (Had_v val (hb5.inc i11) (CellsAt.inc hg5 i11)) ?_
 rintro v H12 ⟨j12,rfl⟩
 have i12:=i11.trans j12
 refine wkT ?_
 refine Zab (vs:=[.agg #[vi (b.op+N),vi b.sl,.slice (some ⟨r,0,none⟩) b.pts.length cap,.slice Ac b.cks.length cc]]) rfl (Had_v vO (hO.inc i12) (CellsAt.inc hg5 i12)) ?_
 rintro v H13 ⟨j13,rfl⟩
 have i13:=i12.trans j13
 refine wkT ?_
 refine Zab (vs:=[.agg #[vi b.op,vi b.sl,.slice Ap b.pts.length cp,.slice Ac b.cks.length cc]]) rfl (WaV val (hb5.inc i13) (CellsAt.inc hg5 i13)) ?_
 rintro v H14 ⟨j14,rfl⟩
 have i14:=i13.trans j14
 refine wkT ?_
 refine Zab (vs:=[.agg #[vi (b.op+N),vi b.sl,.slice (some ⟨r,0,none⟩) b.pts.length cap,.slice Ac b.cks.length cc]]) rfl (WaV vO (hO.inc i14) (CellsAt.inc hg5 i14)) ?_
 rintro v H15 ⟨j15,rfl⟩
 have i15:=i14.trans j15
 rw[z1,z2,z3,z4,z5,z6]
 have gl:=gapL_le val i
 have gll:(gapLs b (Zgk M K)).length<=4:=by rw[gapLs,List.length_take];show min _ 4<=4;omega
 refine wkT ?_
 refine wiT (fun h3=>?_) (fun h3=>?_)
 ·refine wkT ?_
  refine wiT (fun h3=>?_) (fun h3=>?_)
  ·refine wkT ?_
   refine wiT (fun h3=>?_) (fun h3=>?_)
   ·refine wkT ?_
    refine Zab (vs:=[w6,w7]) rfl (Waf (s6.inc ((((((((j7.trans j8).trans j9).trans j10).trans j11).trans j12).trans j13).trans j14).trans j15)) (s7.inc (((((((j8.trans j9).trans j10).trans j11).trans j12).trans j13).trans j14).trans j15)) (by omega)) ?_
    rintro v _ ⟨rfl,rfl⟩
    refine wkT ?_
    refine wiT (fun h3=>?_) (fun h3=>?_)
    ·refine wkT ?_
     refine Zab (vs:=[.slice A10 (gapL b i).length c10,.slice A11 (gapL b i).length c11]) rfl (Waf (s10.inc ((((j11.trans j12).trans j13).trans j14).trans j15)) (s11.inc (((j12.trans j13).trans j14).trans j15)) (by omega)) ?_
     rintro v _ ⟨rfl,rfl⟩
     refine wkT ?_
     refine wiT (fun h3=>?_) (fun h3=>?_)
     ·refine wkT ?_
      refine wiT (fun h3=>?_) (fun h3=>?_)
      ·refine wkT ?_
       refine om_eqb rfl rfl ?_
       rw[show (WaC b == WaC b)=true by simp]
       refine wkT ?_
       refine Zab (vs:=[]) rfl (spiled_okP hPP (CellsAt.inc hg5 i15)) ?_
       rintro v H16 ⟨_,rfl⟩
       refine wkT ?_
       rfl
      ·exact absurd rfl h3
     ·exact absurd rfl h3
    ·exact absurd rfl h3
   ·exact absurd rfl h3
  ·exact absurd rfl h3
 ·exact absurd rfl h3
end
end Go.Proofs
end
section
open Go Go.LL Go.Conc Go.ConcM
namespace Go.Proofs.YtamdhefhhdgjbaaGreatDoor
open Go.ChangeShapes Go.WideShapes Go.ChangeAt Go.RowKit
set_option maxRecDepth 100000 in
theorem Wag (os:Os)(started:os.Started)(H:Type)(enc:TypeId×Value->H)(F:Stop.Interp) :
  ReturnsInLeavingWide { calm:=true } Tryz.checked os 13 .any (fun w args=>(Rows.spileOpenedSpec.pre enc Tryz.prog Tryz.f13 [] false w args∧laidMetH Tryz.prog [("ribband/spile.checks",Rows.laid_ribband_spile_checks)] w)∧sizedMet enc Tryz.prog Tryz.f13 (OpenSpec.ofChange Rows.spileOpenedSpec) false w args)
   ((OpenSpec.ofChange Rows.spileOpenedSpec).postWith enc Tryz.prog Tryz.f13 F (outsideKept [.timePasses]) false true false):=by
 refine law_lifted os started F rfl Tryz.func13 Tryz.results13 (by kernel_rfl) (by kernel_rfl) ?_ ?_ ?_ #[.agg #[.int .i64 0,.int .i64 0,.slice none 0 0,.slice none 0 0],.slice none 0 0,.int .u8 0,.int .u8 0] (by kernel_rfl) (by kernel_rfl) (by kernel_rfl)
 ·intro ds hl
  rw[Tryz.params13]at hl
  match ds,hl with
  | [d0,d1,d2,d3],_=>rfl
 ·have h:(Tryz.f13.params.toList.all fun t=>Tryz.prog.readableRec t && decide (t<Tryz.prog.types.size))=true:=by kernel_rfl
  intro t ht
  simpa using List.all_eq_true.1 h t ht
 ·intro W base args ds p hval hA hg
  rw[Tryz.params13]at hA hval
  obtain⟨v0,w0,d0,e0,p0,q0,ha,rfl,rfl,h0,r0⟩:=trodAll_cons hA
  obtain⟨v1,w1,d1,e1,p1,q1,rfl,rfl,rfl,h1,r1⟩:=trodAll_cons r0
  obtain⟨v2,w2,d2,e2,p2,q2,rfl,rfl,rfl,h2,r2⟩:=trodAll_cons r1
  obtain⟨v3,w3,d3,e3,p3,q3,rfl,rfl,rfl,h3,r3⟩:=trodAll_cons r2
  obtain⟨rfl,rfl,rfl⟩:=trodAll_nil r3
  obtain rfl:args=#[v0,v1,v2,v3]:=by cases args;simp_all
  obtain⟨b0,k0⟩:=bk_open (hval 0 25 v0 rfl rfl) h0
  obtain⟨l1,k1⟩:=Wa2 (hval 1 72 v1 rfl rfl) h1
  obtain⟨n2,rfl,k2a,k2b⟩:=Wa1 (hval 2 5 v2 rfl rfl) h2
  obtain⟨n3,rfl,k3a,k3b⟩:=Wa1 (hval 3 5 v3 rfl rfl) h3
  exact reach_top (args:=[v0,v1,.int .u8 n2,.int .u8 n3]) (isn c13) Tryz.func13 Tryz.results13 rfl (Was rfl k0 k1 ⟨k2a,k2b⟩ ⟨k3a,k3b⟩ hg)
theorem spileOpened_holds:Rows.SpileOpenedSaid:=
 OpenClaim.holds_of_wide_leaving_time 13 Tryz.f13 rfl rfl rfl rfl rfl rfl rfl ⟨rfl,rfl,rfl,rfl,rfl⟩ rfl rfl rfl rfl rfl War Tryz.func13 Waq Wap Wao
  (fun os started H enc _ F=>Wag os started H enc F)
theorem spileOpened_card:Rows.SpileOpenedCardSaid:=
 ZmC .later [.funcs] true (true,"7d20c1c653d3570dc0b3adced23199ecfee38ebbf859018ae9f3ecca83f03cb8") false
  spileOpened_holds (by kernel_rfl) spileOpened_row_tie rfl ⟨rfl,rfl⟩ (by kernel_rfl) rfl
  (fun f fn hf hfn=>by
   obtain rfl:f=13:=Option.some.inj (War.symm.trans hf) |>.symm
   obtain rfl:fn=Tryz.f13:=(Option.some.inj (Tryz.func13.symm.trans hfn)).symm
   exact⟨by kernel_rfl,fun j t ht=>by
    have hall:(Tryz.f13.params.all fun u=>!Tryz.prog.wantsStandIn u)=true:=by kernel_rfl
    have hm:=Array.mem_of_getElem? ht
    exact(show Tryz.prog.wantsStandIn t=false by simpa using (Array.all_eq_true_iff_forall_mem.1 hall) t hm)⟩)
  (by kernel_rfl)
end Go.Proofs.YtamdhefhhdgjbaaGreatDoor
end
