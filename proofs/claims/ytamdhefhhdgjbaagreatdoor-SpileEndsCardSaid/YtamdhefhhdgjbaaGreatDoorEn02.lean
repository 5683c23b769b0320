/- proofs about Leango given: part En2; made by a program out of the longer texts in wip -/
import Derived.Test.YtamdhefhhdgjbaaGreatDoorEn01
set_option linter.all false
section
open Go Go.LL
namespace Go.Proofs
def WaJ (b:Bk)(l:List U16)(n:Nat):List Int:=(List.range n).map fun (i:Nat)=>(ptAt b i).ml+(Zgj l i).tmod ((ptAt b i).mh-(ptAt b i).ml+1)
def Wau (b:Bk)(l:List U16):Int:=(Zgj l 5).tmod (2 * b.sl+1)-b.sl
def Wbx (b:Bk)(l:List U16):Slip:=⟨if Wau b l=0 then 0 else 1+(Zgj l 4).tmod (b.pts.length-1),Wau b l⟩
theorem WaB (b:Bk)(l:List U16)(n:Nat):(WaJ b l n).length=n:=by simp[WaJ]
theorem Wbj {b:Bk}(v:Zeo b)(l:List U16){i:Nat}(hi:i<b.pts.length):(ptAt b i).ml<=(ptAt b i).ml+(Zgj l i).tmod ((ptAt b i).mh-(ptAt b i).ml+1)∧(ptAt b i).ml+(Zgj l i).tmod ((ptAt b i).mh-(ptAt b i).ml+1)<=(ptAt b i).mh:=by
 obtain⟨h1,_⟩:=pt_rg v hi
 have:=Wap (m:=(ptAt b i).mh-(ptAt b i).ml+1) (Wag l i).1 (by omega)
 omega
theorem realM_mk {b:Bk}(v:Zeo b)(l:List U16):WaJ b l b.pts.length∈mkL b b.pts.length:=by
 refine Wan.2 ⟨WaB b l _,fun j hj=>?_⟩
 rw[WaJ,WbI hj]
 exact Wbj v l hj
theorem realM_99 {b:Bk}(v:Zeo b)(l:List U16):∀ z∈WaJ b l b.pts.length,0<=z∧z<=99:=by
 intro z hz
 obtain⟨i,hi,rfl⟩:=List.mem_map.1 hz
 rw[List.mem_range]at hi
 have:=Wbj v l hi
 obtain⟨h1,_⟩:=pt_rg v hi
 omega
theorem realY_rg {b:Bk}(v:Zeo b)(l:List U16):-b.sl<=Wau b l∧Wau b l<=b.sl:=by
 have:=v.sl
 have:=Wap (m:=2 * b.sl+1) (Wag l 5).1 (by omega)
 rw[Wau];omega
theorem WbH {b:Bk}(v:Zeo b)(l:List U16):Wbx b l∈ZaC b:=by
 have hn:=v.n
 have h1:=realY_rg v l
 have h2:=Wap (m:=(b.pts.length:Int)-1) (Wag l 4).1 (by omega)
 refine(Wad v).2 ?_
 by_cases h:Wau b l=0
 ·left;rw[Wbx,if_pos h,h]
 ·right
  rw[Wbx,if_neg h]
  show (1<=1+(Zgj l 4).tmod (b.pts.length-1)∧1+(Zgj l 4).tmod (b.pts.length-1)<b.pts.length)∧-b.sl<=Wau b l∧Wau b l<=b.sl∧Wau b l≠0
  omega
theorem Wbw (b:Bk)(l:List U16)(j:Nat):WaJ b l (j+1)=WaJ b l j++[(ptAt b j).ml+(Zgj l j).tmod ((ptAt b j).mh-(ptAt b j).ml+1)]:=WaK
section
variable  {P:Prg}[Tz P][Loud P]{H:Hp}
set_option maxHeartbeats 8000000
set_option maxRecDepth 20000
theorem WbS {a c n:Int}(h:0<=a∧a<=c∧c<=99)(hn:0<=n):LL.Zag P 136 #[.agg #[vi a,vi c],vi n] H fun v H'=>H=H'∧v=vi (a+n.tmod (c-a+1)):=by
 have hs:∀ g,P.still g=false:=Loud.loud
 refine IsN.m (isn c136) (args:=[.agg #[vi a,vi c],vi n]) rfl ?_
 unfold n136
 refine wkT ?_
 refine WbK rfl rfl (by omega) ?_
 have:=Wap (m:=c-a+1) hn (by omega)
 refine wkT ?_
 exact⟨rfl,rfl⟩
theorem Real_ok {bv lv:Value}{b:Bk}{l:List U16}(val:Zeo b)(hb:BkAt H bv b)(hl:SlAt H lv l):LL.Zag P 73 #[bv,lv] H fun v H'=>Inc H H'∧∃ A c,v=.tuple #[.slice A b.pts.length c,ZbG (Wbx b l)]∧SlAt H' (.slice A b.pts.length c) (WaJ b l b.pts.length):=by
 have hs:∀ g,P.still g=false:=Loud.loud
 have hn:=val.n
 have hsl:=val.sl
 obtain⟨pv,cv,rfl,hp,hc⟩:=hb
 obtain⟨Ap,cp,rfl,hp'⟩:=id hp
 refine IsN.m (isn c73) (args:=[.agg #[vi b.op,vi b.sl,.slice Ap b.pts.length cp,cv],lv]) rfl ?_
 unfold n73
 refine wkT ?_
 refine ZaP (α:=Value×Option Nat) b.pts.length (fun j s H'=>Inc H H'∧Own H H' 3 s.1 (WaJ b l j) s.2) (fun j s=>[(1,lv),(2,vi 0),(5,vi 0),(6,s.1),(7,vi j)]) (fun _ _=>[(2,[vi b.op,vi b.sl,.slice Ap b.pts.length cp,cv]),(5,[vi 0,vi 0])]) (.slice none 0 0,none) ⟨.refl _,.nil _ _ _⟩ ⟨rfl,rfl,rfl,rfl,rfl,trivial⟩ ⟨rfl,rfl,trivial⟩ ?_
 rintro j ⟨v6,b6⟩ H2 hj ⟨i2,o6⟩
 simp only at o6
 have hrl:=WaB b l j
 refine wkT ?_
 refine wiT (fun h1=>?_) (fun h1=>?_)
 ·have hj':j<b.pts.length:=by omega
  obtain⟨g1,_⟩:=pt_rg val hj'
  have row:Enc.enc b.pts[j]=[vi (ptAt b j).ml,vi (ptAt b j).mh,vi (ptAt b j).bl,vi (ptAt b j).bh,vi (ptAt b j).w]:=by
   rw[show b.pts[j]=ptAt b j from (Zbd hj' _).symm];rfl
  have hsn:=Wbw b l j
  refine wkT ?_
  refine ZaE (hp.inc i2) rfl rfl rfl (i:=j) hj' fun a ha=>?_
  rw[row]at ha
  refine wkT ?_
  refine Zao (cs:=[vi (ptAt b j).ml,vi (ptAt b j).mh]) (hs _) rfl (by rw[add_zero];exact ZbK (ds:=[vi (ptAt b j).bl,vi (ptAt b j).bh,vi (ptAt b j).w]) ha) rfl ?_
  refine wkT ?_
  refine Zab (vs:=[lv,vi j]) rfl (Choice_ok (hl.inc i2)) ?_
  rintro v _ ⟨rfl,rfl⟩
  refine wkT ?_
  refine Zab (vs:=[.agg #[vi (ptAt b j).ml,vi (ptAt b j).mh],vi (Zgj l j)]) rfl (WbS g1 (Wag l j).1) ?_
  rintro v _ ⟨rfl,rfl⟩
  generalize (ptAt b j).ml+(Zgj l j).tmod ((ptAt b j).mh-(ptAt b j).ml+1)=x at *
  refine wkT ?_
  refine Zat (cs:=[vi x]) (hs _) rfl fun r5 hr5=>?_
  refine kp_l hs ?_
  refine wkT ?_
  refine ZbW (l':=[x]) (und u34) (und u34) (tif t3) rfl (by decide) (i2.trans (Zaj hr5)) (o6.ins hr5) Wbn rfl (by simp only[List.length_singleton];omega) (by omega) rfl rfl (hs _) fun v7 H4 b7 k1 k2 k3=>?_
  rw[<-hsn]at k2
  refine wkT ?_
  exact⟨(⟨j+1,by omega⟩,(v7,b7)),Nat.sub_lt_sub_left (by omega) (Nat.lt_succ_self j),⟨k1,k2⟩,⟨rfl,rfl,rfl,rfl,rfl,trivial⟩,⟨rfl,rfl,trivial⟩,rfl⟩
 have:j=b.pts.length:=by omega
 subst this
 obtain⟨A6,c6,rfl⟩:=Wbc o6
 have s6:=o6.sl
 rw[hrl]at s6
 have r4:=Wap (m:=(b.pts.length:Int)-1) (Wag l 4).1 (by omega)
 have r5:=Wap (m:=2 * b.sl+1) (Wag l 5).1 (by omega)
 have ry:Wau b l=(Zgj l 5).tmod (2 * b.sl+1)-b.sl:=rfl
 have rk:Wbx b l=⟨if Wau b l=0 then 0 else 1+(Zgj l 4).tmod (b.pts.length-1),Wau b l⟩:=rfl
 refine wkT ?_
 refine ZgX rfl rfl ⟨by omega,by omega⟩ ?_
 refine wkT ?_
 refine Zab (vs:=[lv,vi 4]) rfl (Choice_ok (hl.inc i2)) ?_
 rintro v _ ⟨rfl,rfl⟩
 refine wkT ?_
 refine WbK rfl rfl (by omega) ?_
 refine wkT ?_
 refine Zab (vs:=[lv,vi 5]) rfl (Choice_ok (hl.inc i2)) ?_
 rintro v _ ⟨rfl,rfl⟩
 refine wkT ?_
 refine WbK rfl rfl (by omega) ?_
 refine wkT ?_
 rw[<-ry]
 refine wiT (fun h2=>?_) (fun h2=>?_)
 ·refine wkT ?_
  refine⟨i2,A6,c6,?_,s6⟩
  rw[rk,if_pos h2,hrl];rfl
 ·refine wkT ?_
  refine⟨i2,A6,c6,?_,s6⟩
  rw[rk,if_neg h2,hrl];rfl
end
end Go.Proofs
end
section
open Go Go.LL
namespace Go.Proofs
theorem WbD {k n:Nat}(hn:0<n):Zhu k n=1↔k=n:=by
 rw[Zhu]
 split
 ·simp;omega
 ·split<;>simp[*]
theorem WbC {k n:Nat}:Zhu k n=2↔k=0:=by
 rw[Zhu]
 split
 ·simp[*]
 ·split
  ·simp;omega
  ·simp;omega
theorem slp_pos {b:Bk}(h:0<nB b):slpF b=Zhu ((Zae b).filter byN).length (nB b):=if_pos h
structure BrN (p q n m i few many all:Int)(su st:Bool):Prop where
 p3:p=0∨p=1∨p=2
 a1:p=1->q=1
 a2:p≠2->q≠2
 a3:su=true->st=true∧m<=n
 a4:few<=many
 a5:many<=all
 a6:su=true->few=all∧i=n∧p=1
 a7:su=false->few<all
 a8:few=0↔p=2
section
variable  {P:Prg}[Tz P][Loud P]{H:Hp}
set_option maxHeartbeats 16000000
set_option maxRecDepth 40000
end
end Go.Proofs
end
section
open Go Go.LL
namespace Go.Proofs
theorem WbN {b:Bk}{l:List Int}{k:Slip}(v:Zeo b)(hl:l∈mkL b b.pts.length)(hk:k∈ZaC b)(hy:k.by_≠0):whenL (endB b l k)=((List.range b.pts.length).map fun (i:Nat)=>(i:Int)).drop 1:=by
 have hn:=v.n
 rw[<-Wbt (Wak v hl hk),WaE v hl hk hy,endL,List.map_map]
 obtain⟨n,hn'⟩:∃ n,b.pts.length=n+1:=⟨b.pts.length-1,by omega⟩
 rw[hn',Nat.add_sub_cancel,List.range_succ_eq_map,List.map_cons,List.drop_succ_cons,List.drop_zero,List.map_map]
 refine Way (Wax _).1 ?_ fun x=>(Wax _).2 x
 rw[List.pairwise_map]
 exact List.pairwise_lt_range.imp fun h=>by
  show ((_+1:Nat):Int)<((_+1:Nat):Int)
  omega
theorem ends_slp {b:Bk}{l:List Int}{k:Slip}(v:Zeo b)(hl:l∈mkL b b.pts.length)(hk:k∈ZaC b):0<nB (endB b l k)∧slpF (endB b l k)=if k.by_=0 then 2 else 1:=by
 have hn:=v.n
 have hlen:=WbO v hl hk
 have hp:0<nB (endB b l k):=by rw[nB,hlen];split<;>omega
 refine⟨hp,?_⟩
 rw[slp_pos hp]
 have ha:=Wbf v hl hk
 by_cases hy:k.by_=0
 ·rw[if_pos hy,WbC,Wbe fun x hx=>?_]
  ·rfl
  ·rw[byN,ha x hx,hy];rfl
 ·rw[if_neg hy,WbD hp,Wa7 fun x hx=>?_]
  ·rfl
  ·rw[byN,ha x hx,decide_eq_false hy];rfl
section
variable  {P:Prg}[Tz P][Loud P]{H:Hp}
set_option maxHeartbeats 16000000
set_option maxRecDepth 40000
theorem Wa1 (hPP:P=PP){bv lv:Value}{b:Bk}{l:List U16}(hb:BkAt H bv b)(hl:SlAt H lv l)(hg:Za8 H) :
  n14.m P (MFin P r14 fun v _=>v=vb true) (env0 [bv,lv]) H:=by
 have hs:∀ g,P.still g=false:=Loud.loud
 have hb0:=hb
 obtain⟨pv,cv,rfl,hp,hc⟩:=hb
 obtain⟨Ap,cp,rfl,hp'⟩:=id hp
 obtain⟨Ac,cc,rfl,hc'⟩:=id hc
 unfold n14
 refine wkT ?_
 refine Zab (vs:=[.agg #[vi b.op,vi b.sl,.slice Ap b.pts.length cp,.slice Ac b.cks.length cc]]) rfl (Fit_ok hb0) ?_
 rintro v _ ⟨rfl,rfl⟩
 refine wkT ?_
 refine wiT (fun h0=>?_) (fun h0=>?_)
 ·refine wkT ?_
  refine Zab (vs:=[]) rfl (spiled_okP hPP hg) ?_
  rintro v H1 ⟨_,rfl⟩
  refine wkT ?_
  rfl
 have val:=WbM h0
 have hn:=val.n
 have hsl:=val.sl
 have hop:=val.op
 have hK:=WbH val l
 have hM:=realM_mk val l
 have hM9:=realM_99 val l
 have hKs:=ZjT val _ hK
 have hMl:=WaB b l b.pts.length
 refine wkT ?_
 refine Zab (vs:=[.agg #[vi b.op,vi b.sl,.slice Ap b.pts.length cp,.slice Ac b.cks.length cc],lv]) rfl (Real_ok val hb0 hl) ?_
 rintro v H1 ⟨i1,A1,c1,rfl,s1⟩
 generalize Wbx b l=K at *
 generalize WaJ b l b.pts.length=M at *
 refine wkT ?_
 refine Zab (vs:=[.agg #[vi b.op,vi b.sl,.slice Ap b.pts.length cp,.slice Ac b.cks.length cc],.slice A1 b.pts.length c1,.agg #[vi K.bf,vi K.by_]]) rfl (WbT (hb0.inc i1) s1 (by omega) ⟨by omega,by omega⟩ (fun z hz=>by have:=hM9 z hz;exact⟨by omega,by omega⟩) ⟨by omega,by omega⟩) ?_
 rintro gv H2 ⟨j2,bb2,o2⟩
 have i2:=i1.trans j2
 have sg:=o2.sl
 refine wkT ?_
 refine Zdw (und u22) (tif t59) (hs _) fun r3 hr3=>?_
 have o3:Own H2 (H2.ins r3 (.cells #[] 59)) 59 (.slice (some ⟨r3,0,none⟩) 0 0) ([]:List SPt) (some r3):=own_nil0 hr3
 have i3:Inc H2 (H2.ins r3 (.cells #[] 59)):=Zaj hr3
 generalize H2.ins r3 (.cells #[] 59)=H3 at *
 refine wkT ?_
 refine ZbW (l':=b.pts) (und u22) (und u22) (tif t59) rfl (by decide) i3 o3 ((hp.inc i2).inc i3) (pts_one _) (by simp;omega) (by omega) rfl rfl (hs _) fun v4 H4 b4 i4 o4 _=>?_
 rw[List.nil_append]at o4
 obtain⟨r,cap,rest,rfl,q3,q0⟩:=own_at o4 (by omega)
 refine wkT ?_
 refine ZaX b.pts.length (fun j H'=>Inc H2 H'∧H' r=some (.cells (encs (updP b (shF b M) j)++rest).toArray 59 (0,0),true)) (fun j=>[(5,.slice A1 b.pts.length c1),(6,vi 0),(7,vi (b.pts.length-1)),(8,gv),(9,vi 0),(10,vi j)]) (fun _=>[(6,[vi K.bf,vi K.by_]),(9,[vi b.op,vi b.sl,.slice (some ⟨r,0,none⟩) b.pts.length cap,.slice Ac b.cks.length cc])]) ⟨i4,by rw[upd_zero];exact q3⟩ ⟨rfl,rfl,rfl,rfl,rfl,rfl,trivial⟩ ⟨rfl,rfl,trivial⟩ ?_
 rintro j H5 hj ⟨i5,q⟩
 refine wkT ?_
 refine wiT (fun h1=>?_) (fun h1=>?_)
 ·have hj':j<b.pts.length:=by omega
  have hju:j<(updP b (shF b M) j).length:=by rw[Wae];exact hj'
  have hrow:(updP b (shF b M) j)[j]=ptAt b j:=by rw[WaR,if_neg (by omega)]
  have hstep:=upd_set b (shF b M) (j:=j)
  have hsp:=fun x y=>WbE x y (updP b (shF b M) j) j hju rest
  have hll:(encs (updP b (shF b M) j)).length=b.pts.length * 5:=by rw[Zcm,Wae];rfl
  have hjM:j<M.length:=by omega
  have eM:M[j]=M.getD j 0:=(el_eq hjM).symm
  refine wkT ?_
  have s5:=(s1.inc j2).inc i5
  rw[<-hMl]at s5
  refine ZaE s5 (by rw[hMl];rfl) rfl rfl (i:=j) hjM fun a ha=>?_
  rw[eM]at ha
  refine wkT ?_
  refine Zaf (hs _) rfl ha ?_
  refine wkT ?_
  refine Zab (vs:=[vi (M.getD j 0)]) rfl (ZeE _) ?_
  rintro v _ ⟨rfl,rfl⟩
  refine wkT ?_
  refine ZcY rfl rfl hj' ?_
  refine wkT ?_
  have hadd:((⟨r,0,none⟩:Addr).add (j * 5)).add 0=⟨r,j * 5,none⟩:=by rw[Zm0,Zm0,Nat.zero_add];rfl
  rw[hadd]
  refine Zd6 (v:=.agg #[vi (M.getD j 0),vi (M.getD j 0)]) (cs:=encs (updP b (shF b M) j)++rest) (tif t49) rfl rfl q rfl (by rw[List.length_append,hll];omega) rfl (hs _) ?_
  have e5:ZaN (encs (updP b (shF b M) j)++rest) (j * 5) (Value.cells (.agg #[vi (M.getD j 0),vi (M.getD j 0)])).toList=encs (updP b (shF b M) (j+1))++rest:=by
   rw[<-hstep]
   show ZaN _ _ [vi _,vi _]=_
   rw[hsp,hrow];rfl
  rw[e5]
  refine wkT ?_
  exact Wbp (I:=fun j H'=>Inc H2 H'∧H' r=some (.cells (encs (updP b (shF b M) j)++rest).toArray 59 (0,0),true)) (env:=fun j=>[(5,.slice A1 b.pts.length c1),(6,vi 0),(7,vi (b.pts.length-1)),(8,gv),(9,vi 0),(10,vi j)]) (box:=fun _=>[(6,[vi K.bf,vi K.by_]),(9,[vi b.op,vi b.sl,.slice (some ⟨r,0,none⟩) b.pts.length cap,.slice Ac b.cks.length cc])]) hj' ⟨Za6 i5 q0,Hp.ins_same _ _ _⟩ ⟨rfl,rfl,rfl,rfl,rfl,rfl,trivial⟩ ⟨rfl,rfl,trivial⟩ rfl
 have:j=b.pts.length:=by omega
 subst this
 have hsl5:SlAt H5 (.slice (some ⟨r,0,none⟩) b.pts.length cap) (updP b (shF b M) b.pts.length):=by
  have:=sl_at (cap:=cap) q
  rwa [Wae]at this
 have hgl:(Waa b M K).length=b.pts.length:=by simp[Waa,hMl]
 have e7:(b.pts.length:Int)-1=((b.pts.length-1:Nat):Int):=by omega
 rw[e7]
 have eg0:(Waa b M K)[0]'(by omega)=(Waa b M K).getD 0 0:=(el_eq (by omega)).symm
 have eg1:(Waa b M K)[b.pts.length-1]'(by omega)=(Waa b M K).getD (b.pts.length-1) 0:=(el_eq (by omega)).symm
 have sg5:=sg.inc i5
 refine wkT ?_
 refine ZaE sg5 rfl rfl rfl (i:=0) (by omega) fun a ha=>?_
 rw[eg0]at ha
 refine wkT ?_
 refine Zaf (hs _) rfl ha ?_
 refine wkT ?_
 refine ZaE sg5 rfl rfl rfl (i:=b.pts.length-1) (by omega) fun a2 ha2=>?_
 rw[eg1]at ha2
 refine wkT ?_
 refine Zaf (hs _) rfl ha2 ?_
 have vE:=Wak val hM hK
 have hEl:(endB b M K).pts=updP b (shF b M) b.pts.length:=rfl
 have hEc:(endB b M K).cks=[⟨0,(Waa b M K).getD 0 0,(Waa b M K).getD 0 0⟩,⟨((b.pts.length-1:Nat):Int),(Waa b M K).getD (b.pts.length-1) 0,(Waa b M K).getD (b.pts.length-1) 0⟩]:=rfl
 have hEo:(endB b M K).op=b.op∧(endB b M K).sl=b.sl:=⟨rfl,rfl⟩
 have hlenE:=WbO val hM hK
 obtain⟨hpE,hslE⟩:=ends_slp val hM hK
 have hosE:=Wbl hpE
 have hsn:K.by_=0->Wab (endB b M K)=[]∧whenL (endB b M K)=[]:=fun hy=>⟨(WaN vE).2 fun x hx=>by rw[Wbf val hM hK x hx];exact hy,(WaW vE).2 fun x hx=>by rw[Wbf val hM hK x hx];exact hy⟩
 have hsy:K.by_≠0->Wab (endB b M K)=endL (b.pts.length-1) K.by_∧whenL (endB b M K)=((List.range b.pts.length).map fun (i:Nat)=>(i:Int)).drop 1:=fun hy=>⟨WaE val hM hK hy,WbN val hM hK hy⟩
 generalize (Waa b M K).getD 0 0=g0 at *
 generalize (Waa b M K).getD (b.pts.length-1) 0=g1 at *
 refine wkT ?_
 refine Zab (vs:=[vi g0]) rfl (ZeE _) ?_
 rintro v _ ⟨rfl,rfl⟩
 refine wkT ?_
 refine Zab (vs:=[vi g1]) rfl (ZeE _) ?_
 rintro v _ ⟨rfl,rfl⟩
 refine wkT ?_
 refine Zat (cs:=[vi 0,vi g0,vi g0,vi ((b.pts.length-1:Nat):Int),vi g1,vi g1]) (hs _) rfl fun r6 hr6=>?_
 have i6:Inc H5 (H5.ins r6 (.cells [vi 0,vi g0,vi g0,vi ((b.pts.length-1:Nat):Int),vi g1,vi g1].toArray 51)):=Zaj hr6
 have hc6:SlAt (H5.ins r6 (.cells [vi 0,vi g0,vi g0,vi ((b.pts.length-1:Nat):Int),vi g1,vi g1].toArray 51)) (.slice (some ⟨r6,0,none⟩) 2 2) (endB b M K).cks:=by
  rw[hEc];exact Za4 (l:=[(⟨0,g0,g0⟩:SCk),⟨((b.pts.length-1:Nat):Int),g1,g1⟩])
 generalize H5.ins r6 (.cells [vi 0,vi g0,vi g0,vi ((b.pts.length-1:Nat):Int),vi g1,vi g1].toArray 51)=H6 at *
 have hE:BkAt H6 (.agg #[vi b.op,vi b.sl,.slice (some ⟨r,0,none⟩) b.pts.length cap,.slice (some ⟨r6,0,none⟩) 2 2]) (endB b M K):=⟨_,_,by rw[hEo.1,hEo.2],by rw[hEl];exact hsl5.inc i6,hc6⟩
 have hg6:=CellsAt.inc hg ((i2.trans i5).trans i6)
 generalize endB b M K=E at *
 refine wkT ?_
 refine Zab (vs:=[.agg #[vi b.op,vi b.sl,.slice (some ⟨r,0,none⟩) b.pts.length cap,.slice (some ⟨r6,0,none⟩) 2 2]]) rfl (Boats_v vE hE hg6) ?_
 rintro v H7 ⟨i7,rfl⟩
 refine wkT ?_
 refine Zab (vs:=[.agg #[vi b.op,vi b.sl,.slice (some ⟨r,0,none⟩) b.pts.length cap,.slice (some ⟨r6,0,none⟩) 2 2]]) rfl (WbR vE (hE.inc i7) (CellsAt.inc hg6 i7)) ?_
 rintro v H8 ⟨j8,rfl⟩
 have i8:=i7.trans j8
 refine wkT ?_
 refine Zab (vs:=[.agg #[vi b.op,vi b.sl,.slice (some ⟨r,0,none⟩) b.pts.length cap,.slice (some ⟨r6,0,none⟩) 2 2]]) rfl (Slips_v vE (hE.inc i8) (CellsAt.inc hg6 i8)) ?_
 rintro v H9 ⟨j9,A9,c9,rfl,s9⟩
 have i9:=i8.trans j9
 refine wkT ?_
 refine Zab (vs:=[.agg #[vi b.op,vi b.sl,.slice (some ⟨r,0,none⟩) b.pts.length cap,.slice (some ⟨r6,0,none⟩) 2 2]]) rfl (When_v vE (hE.inc i9) (CellsAt.inc hg6 i9)) ?_
 rintro v H10 ⟨j10,A10,c10,rfl,s10⟩
 have hg10:=CellsAt.inc hg6 (i9.trans j10)
 have s9':=s9.inc j10
 have l9:=WbG vE
 have hnE:nB E=if K.by_=0 then 1 else b.pts.length-1:=hlenE
 rw[hosE]
 refine wkT ?_
 refine wiT (fun h2=>?_) (fun h2=>?_)
 ·exact absurd h2 (by omega)
 refine wkT ?_
 refine wiT (fun h3=>?_) (fun h3=>?_)
 ·rw[(hsn h3).1,(hsn h3).2,hslE,if_pos h3,hnE,if_pos h3]
  simp only[List.length_nil]
  refine wkT ?_
  refine Zab (vs:=[]) rfl (spiled_okP hPP hg10) ?_
  rintro v H11 ⟨_,rfl⟩
  refine wkT ?_
  rfl
 obtain⟨f1,f2⟩:=hsy h3
 rw[if_neg h3]at hnE hslE
 have l9':(Wab E).length=b.pts.length-1:=by rw[f1,endL,List.length_map,List.length_range]
 rw[hslE,hnE]
 refine wkT ?_
 refine wiT (fun h4=>?_) (fun h4=>?_)
 ·exact absurd rfl h4
 refine wkT ?_
 refine wiT (fun h5=>?_) (fun h5=>?_)
 ·exact absurd h5 (by rw[l9'];simp)
 refine wkT ?_
 have e8:((b.pts.length-1:Nat):Int)+1=(b.pts.length:Int):=by omega
 rw[e8]
 refine Zab (vs:=[vi b.pts.length]) rfl (Wa8 (by omega)) ?_
 rintro v H11 ⟨i11,bb11,o11⟩
 obtain⟨a5,c5,rfl,f5⟩:=Zex o11.own (by simp;omega)
 refine wkT ?_
 refine Zbu (lo:=1) (und u34) (tif t3) rfl rfl (by simp;omega) ?_
 refine wkT ?_
 have l10:=whenL_le vE
 refine Zab (vs:=[.slice A10 (whenL E).length c10,_]) rfl (WaH (a:=whenL E) (s10.inc i11) (by rw[f2];exact f5) (by omega)) ?_
 rintro v _ ⟨rfl,rfl⟩
 refine wkT ?_
 refine ZaX (Wab E).length (fun j H'=>H11=H') (fun j=>[(6,vi 0),(15,.slice A9 (Wab E).length c9),(19,vi j)]) (fun _=>[(6,[vi K.bf,vi K.by_])]) rfl ⟨rfl,rfl,rfl,trivial⟩ ⟨rfl,trivial⟩ ?_
 rintro j _ hj9 rfl
 refine wkT ?_
 refine wiT (fun h6=>?_) (fun h6=>?_)
 ·have hj':j<(Wab E).length:=by omega
  have ej:(Wab E)[j]=⟨((j+1:Nat):Int),K.by_⟩:=by
   simp only[f1,endL,List.getElem_map,List.getElem_range]
  refine wkT ?_
  refine ZaE (s9'.inc i11) rfl rfl rfl (i:=j) hj' fun a ha=>?_
  rw[ej]at ha
  refine wkT ?_
  refine Zao (hs _) rfl ha rfl ?_
  refine wkT ?_
  refine Zl8 (b:=decide (((j+1:Nat):Int)=(j:Int)+1∧K.by_=K.by_)) (xs:=#[vi ((j+1:Nat):Int),vi K.by_]) (ys:=#[vi ((j:Int)+1),vi K.by_]) g70 (fun Q g H hq=>eqP (.inl s70) Q hq) rfl rfl ?_
  rw[decide_eq_true (show ((j+1:Nat):Int)=(j:Int)+1∧K.by_=K.by_ from ⟨by omega,rfl⟩)]
  refine wkT ?_
  exact Wbp (I:=fun j H'=>H11=H') (env:=fun j=>[(6,vi 0),(15,.slice A9 (Wab E).length c9),(19,vi j)]) (box:=fun _=>[(6,[vi K.bf,vi K.by_])]) hj' rfl ⟨rfl,rfl,rfl,trivial⟩ ⟨rfl,trivial⟩ rfl
 refine wkT ?_
 refine Zab (vs:=[]) rfl (spiled_okP hPP (CellsAt.inc hg10 i11)) ?_
 rintro v H12 ⟨_,rfl⟩
 refine wkT ?_
 rfl
end
end Go.Proofs
end
section
open Go Go.LL Go.Conc Go.ConcM
namespace Go.Proofs.YtamdhefhhdgjbaaGreatDoor
open Go.ChangeShapes Go.WideShapes Go.ChangeAt Go.RowKit
set_option maxRecDepth 100000 in
theorem Wat (os:Os)(started:os.Started)(H:Type)(enc:TypeId×Value->H)(F:Stop.Interp) :
  ReturnsInLeavingWide { calm:=true } Tryz.checked os 14 .any (fun w args=>(Rows.spileEndsSpec.pre enc Tryz.prog Tryz.f14 [] false w args∧laidMetH Tryz.prog [("ribband/spile.checks",Rows.laid_ribband_spile_checks)] w)∧sizedMet enc Tryz.prog Tryz.f14 (OpenSpec.ofChange Rows.spileEndsSpec) false w args)
   ((OpenSpec.ofChange Rows.spileEndsSpec).postWith enc Tryz.prog Tryz.f14 F (outsideKept [.timePasses]) false true false):=by
 refine law_lifted os started F rfl Tryz.func14 Tryz.results14 (by kernel_rfl) (by kernel_rfl) ?_ ?_ ?_ #[.agg #[.int .i64 0,.int .i64 0,.slice none 0 0,.slice none 0 0],.slice none 0 0] (by kernel_rfl) (by kernel_rfl) (by kernel_rfl)
 ·intro ds hl
  rw[Tryz.params14]at hl
  match ds,hl with
  | [d0,d1],_=>rfl
 ·have h:(Tryz.f14.params.toList.all fun t=>Tryz.prog.readableRec t && decide (t<Tryz.prog.types.size))=true:=by kernel_rfl
  intro t ht
  simpa using List.all_eq_true.1 h t ht
 ·intro W base args ds p hval hA hg
  rw[Tryz.params14]at hA hval
  obtain⟨v0,w0,d0,e0,p0,q0,ha,rfl,rfl,h0,r0⟩:=trodAll_cons hA
  obtain⟨v1,w1,d1,e1,p1,q1,rfl,rfl,rfl,h1,r1⟩:=trodAll_cons r0
  obtain⟨rfl,rfl,rfl⟩:=trodAll_nil r1
  obtain rfl:args=#[v0,v1]:=by cases args;simp_all
  obtain⟨b0,k0⟩:=bk_open (hval 0 25 v0 rfl rfl) h0
  obtain⟨l1,k1⟩:=WbB (hval 1 72 v1 rfl rfl) h1
  exact reach_top (args:=[v0,v1]) (isn c14) Tryz.func14 Tryz.results14 rfl (Wa1 rfl k0 k1 hg)
theorem spileEnds_holds:Rows.SpileEndsSaid:=
 OpenClaim.holds_of_wide_leaving_time 14 Tryz.f14 rfl rfl rfl rfl rfl rfl rfl ⟨rfl,rfl,rfl,rfl,rfl⟩ rfl rfl rfl rfl rfl Wa0 Tryz.func14 WaZ WaY WaX
  (fun os started H enc _ F=>Wat os started H enc F)
theorem spileEnds_card:Rows.SpileEndsCardSaid:=
 ZmC .later [.funcs] true (true,"7d20c1c653d3570dc0b3adced23199ecfee38ebbf859018ae9f3ecca83f03cb8") false
  spileEnds_holds (by kernel_rfl) spileEnds_row_tie rfl ⟨rfl,rfl⟩ (by kernel_rfl) rfl
  (fun f fn hf hfn=>by
   obtain rfl:f=14:=Option.some.inj (Wa0.symm.trans hf) |>.symm
   obtain rfl:fn=Tryz.f14:=(Option.some.inj (Tryz.func14.symm.trans hfn)).symm
   exact⟨by kernel_rfl,fun j t ht=>by
    have hall:(Tryz.f14.params.all fun u=>!Tryz.prog.wantsStandIn u)=true:=by kernel_rfl
    have hm:=Array.mem_of_getElem? ht
    exact(show Tryz.prog.wantsStandIn t=false by simpa using (Array.all_eq_true_iff_forall_mem.1 hall) t hm)⟩)
  (by kernel_rfl)
end Go.Proofs.YtamdhefhhdgjbaaGreatDoor
end
