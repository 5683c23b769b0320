/- proofs about Leango given: part Sh1; made by a program out of the longer texts in wip -/
import Derived.Test.YtamdhefhhdgjbaaGreatDoorSh00
set_option linter.all false
section
open Go Go.LL
namespace Go.Proofs
theorem Waz {G:Prop} (h:G:=by
  refine wkT ?_
  exact Waw (I:=fun j H'=>H5=H') (env:=fun j=>[(2,.int .i16 s),(4,vi 0),(9,v9),(11,vi M),(14,vi 0),(15,vb fx),(17,vi 0),(20,vi p),(21,vi (ZfF b p)),(24,vi j)]) (box:=fun _=>[(4,[vi b.op,vi b.sl,.slice Ap b.pts.length cp,cv]),(14,[vi x1,vi x2]),(17,[vi y1,vi y2])]) hjl rfl ⟨rfl,rfl,rfl,rfl,rfl,rfl,rfl,rfl,rfl,rfl,trivial⟩ ⟨rfl,rfl,rfl,trivial⟩ rfl):G:=h
def Wan (l:List U16)(n:Nat):List Int:=(List.range n).map fun (i:Nat)=>(Zgj l i).tmod 199-99
def Waq (l:List U16)(n:Nat)(m:Int):List Int:=(List.range n).map fun (i:Nat)=>(Zgj l i).tmod 199-99+m
theorem Wap {a m:Int}(h:0<=a)(hm:0<m):0<=a.tmod m∧a.tmod m<m:=⟨Int.tmod_nonneg _ h,Int.tmod_lt_of_pos _ hm⟩
theorem gapsC_rg {l:List U16}{n:Nat}:∀ z∈Wan l n,-99<=z∧z<=99:=by
 intro z hz
 obtain⟨i,_,rfl⟩:=List.mem_map.1 hz
 have:=Wap (m:=199) (Wah l i).1 (by decide)
 omega
theorem gapsM_rg {l:List U16}{n:Nat}{m:Int}(hm:0<=m∧m<100):∀ z∈Waq l n m,-199<=z∧z<=199:=by
 intro z hz
 obtain⟨i,_,rfl⟩:=List.mem_map.1 hz
 have:=Wap (m:=199) (Wah l i).1 (by decide)
 omega
theorem Wab {f:Nat->Int}{j:Nat}:(List.range (j+1)).map f=(List.range j).map f++[f j]:=by rw[List.range_succ,List.map_append];rfl
theorem Was {f:Nat->Int}{n i:Nat}(h:i<n):((List.range n).map f).getD i 0=f i:=by
 rw[List.getD_eq_getElem?_getD,List.getElem?_map,List.getElem?_range h];rfl
theorem one_zero {b:Bk}{l:List Int}{lo hi:Int}(h:l.length=b.pts.length)(h2:∀ z∈l,lo<=z∧z<=hi):Zbw b l lo hi=0:=by
 rw[Zbw,if_neg (by simpa using h),if_pos]
 rw[List.all_eq_true]
 exact fun z hz=>decide_eq_true (h2 z hz)
theorem Wao {b:Bk}{l:List Int}(v:Zeo b)(h:l.length=b.pts.length)(h2:∀ z∈l,-199<=z∧z<=199) :
  ∃ x y f,Zhw b l=.tuple #[.agg #[vi x,vi y],vb f,vi 0]∧(f=true->x=lowF b (n4of l)∧y=Zfc b (n4of l)∧x<=y)∧(f=false->x=0∧y=0∧Zfc b (n4of l)<lowF b (n4of l)):=by
 have e:Zb8 b l=0:=by rw[Zb8,if_neg (by simp[Way v]),one_zero h h2]
 by_cases hh:lowF b (n4of l) > Zfc b (n4of l)
 ·exact⟨0,0,false,by rw[Zhw,if_neg (by simp[e]),if_pos hh],fun h=>by simp at h,fun _=>⟨rfl,rfl,hh⟩⟩
 ·exact⟨_,_,true,by rw[Zhw,if_neg (by simp[e]),if_neg hh],fun _=>⟨rfl,rfl,by omega⟩,fun h=>by simp at h⟩
theorem WaD {b:Bk}(h:fitB b=true):Zeo b:=by
 simp only[fitB,Bool.and_eq_true,decide_eq_true_eq]at h
 exact ZaS h.2
section
variable  {P:Prg}[Tz P][Loud P]{H:Hp}
set_option maxHeartbeats 16000000
set_option maxRecDepth 40000
theorem Wam (hPP:P=PP){bv lv:Value}{b:Bk}{l:List U16}{s m:Int}(hb:BkAt H bv b)(hl:SlAt H lv l)(hsr:-32768<=s∧s<32768)(hmr:0<=m∧m<256)(hg:Za8 H) :
  n8.m P (MFin P r8 fun v _=>v=vb true) (env0 [bv,lv,.int .i16 s,.int .u8 m]) H:=by
 have hs:∀ g,P.still g=false:=Loud.loud
 have hb0:=hb
 obtain⟨pv,cv,rfl,hp,hc⟩:=hb
 obtain⟨Ap,cp,rfl,hp'⟩:=id hp
 unfold n8
 refine wkT ?_
 refine Zab (vs:=[.agg #[vi b.op,vi b.sl,.slice Ap b.pts.length cp,cv]]) rfl (Fit_ok hb0) ?_
 rintro v _ ⟨rfl,rfl⟩
 refine wkT ?_
 refine wiT (fun h0=>?_) (fun h0=>?_)
 ·refine wkT ?_
  refine Zab (vs:=[]) rfl (spiled_okP hPP hg) ?_
  rintro v H1 ⟨_,rfl⟩
  refine wkT ?_
  rfl
 have val:=WaD h0
 have hn:=val.n
 refine wkT ?_
 refine Zb3 (und Tryz.underlying5) (und Tryz.underlying3) rfl ?_
 rw[ZbO (show InR m from ⟨by omega,by omega⟩)]
 refine wkT ?_
 refine om_rem rfl rfl (by decide) ?_
 have hM:=Wap (m:=100) hmr.1 (by decide)
 generalize m.tmod 100=M at *
 refine wkT ?_
 refine ZaP (α:=(Value×Option Nat)×(Value×Option Nat)) b.pts.length (fun j s H'=>Inc H H'∧Own H H' 3 s.1.1 (Wan l j) s.1.2∧Own H H' 3 s.2.1 (Waq l j M) s.2.2∧Apart s.1.2 s.2.2)
  (fun j t=>[(1,lv),(2,.int .i16 s),(4,vi 0),(9,t.1.1),(10,t.2.1),(11,vi M),(12,vi j)]) (fun _ _=>[(4,[vi b.op,vi b.sl,.slice Ap b.pts.length cp,cv])]) ((.slice none 0 0,none),(.slice none 0 0,none)) ⟨.refl _,.nil _ _ _,.nil _ _ _,.none _⟩ ⟨rfl,rfl,rfl,rfl,rfl,rfl,rfl,trivial⟩ ⟨rfl,trivial⟩ ?_
 rintro j ⟨⟨v9,b9⟩,⟨v10,b10⟩⟩ H2 hj ⟨i2,o9,o10,hap⟩
 simp only at o9 o10 hap
 have l9:(Wan l j).length=j:=by simp[Wan]
 have l10:(Waq l j M).length=j:=by simp[Waq]
 refine wkT ?_
 refine wiT (fun h1=>?_) (fun h1=>?_)
 ·have hj':j<b.pts.length:=by omega
  refine wkT ?_
  refine Zab (vs:=[lv,vi j]) rfl (Choice_ok (hl.inc i2)) ?_
  rintro v _ ⟨rfl,rfl⟩
  refine wkT ?_
  have hc0:=Wah l j
  refine om_rem rfl rfl (by decide) ?_
  have hC:=Wap (m:=199) hc0.1 (by decide)
  have e9:Wan l (j+1)=Wan l j++[(Zgj l j).tmod 199-99]:=Wab
  have e10:Waq l (j+1) M=Waq l j M++[(Zgj l j).tmod 199-99+M]:=Wab
  generalize (Zgj l j).tmod 199=C at *
  refine wkT ?_
  refine Zat (cs:=[vi (C-99)]) (hs _) rfl fun r1 hr1=>?_
  refine wkT ?_
  refine ZbW (l':=[C-99]) (und u34) (und u34) (tif t3) rfl (by decide) (i2.trans (Zaj hr1)) (o9.ins hr1) ZcR rfl (by rw[l9];simp;omega) (by omega) rfl rfl (hs _) fun v9' H4 b9' hs4 o9' c2=>?_
  obtain⟨o10',hap'⟩:=(o9.ins hr1).other (o10.ins hr1) hap c2
  refine wkT ?_
  refine Zat (cs:=[vi (C-99+M)]) (hs _) rfl fun r2 hr2=>?_
  refine wkT ?_
  refine ZbW (l':=[C-99+M]) (und u34) (und u34) (tif t3) rfl (by decide) (hs4.trans (Zaj hr2)) (o10'.ins hr2) ZcR rfl (by rw[l10];simp;omega) (by omega) rfl rfl (hs _) fun v10' H5 b10' hs5 o10'' c3=>?_
  obtain⟨o9'',hap''⟩:=(o10'.ins hr2).other (o9'.ins hr2) hap'.symm c3
  refine wkT ?_
  rw[<-e9]at o9''
  rw[<-e10]at o10''
  exact⟨(⟨j+1,by omega⟩,((v9',b9'),(v10',b10'))),Nat.sub_lt_sub_left (by omega) (Nat.lt_succ_self j),⟨hs5,o9'',o10'',hap''.symm⟩,⟨rfl,rfl,rfl,rfl,rfl,rfl,rfl,trivial⟩,⟨rfl,trivial⟩,rfl⟩
 have:j=b.pts.length:=by omega
 subst this
 have rC:=gapsC_rg (l:=l) (n:=b.pts.length)
 have rM:=gapsM_rg (l:=l) (n:=b.pts.length) hM
 have hsh:∀ i,i<b.pts.length->(Waq l b.pts.length M).getD i 0=(Wan l b.pts.length).getD i 0+M:=fun i hi=>by rw[Waq,Wan,Was hi,Was hi]
 obtain⟨x1,x2,fx,ex,hx1,hx2⟩:=Wao val l9 fun z hz=>by have:=rC z hz;omega
 obtain⟨y1,y2,fy,ey,hy1,hy2⟩:=Wao val l10 rM
 have hlow:=WaB (b:=b) (by omega) (by omega) hsh
 have hspan:=fun k=>WaC (b:=b) (k:=k) l9 (by omega) (by omega)
 have okl:∀ n∈Wan l b.pts.length,Sm n:=fun z hz=>by have:=rC z hz;exact⟨by omega,by omega⟩
 generalize Wan l b.pts.length=G at *
 generalize Waq l b.pts.length M=K at *
 have s9:=o9.sl
 have s10:=o10.sl
 refine wkT ?_
 refine Zab (vs:=[.agg #[vi b.op,vi b.sl,.slice Ap b.pts.length cp,cv],v9]) rfl (Zm5 (hb0.inc i2) s9 (CellsAt.inc hg i2) (by omega) (by have:=val.ckn;omega) (by omega)) ?_
 rintro v H3 ⟨i3,rfl⟩
 rw[ex]
 refine wkT ?_
 refine Zab (vs:=[.agg #[vi b.op,vi b.sl,.slice Ap b.pts.length cp,cv],v10]) rfl (Zm5 (hb0.inc (i2.trans i3)) (s10.inc i3) (CellsAt.inc hg (i2.trans i3)) (by omega) (by have:=val.ckn;omega) (by omega)) ?_
 rintro v H4 ⟨i4,rfl⟩
 rw[ey]
 refine wkT ?_
 have ii:=(i2.trans i3).trans i4
 refine Zab (vs:=[.agg #[vi b.op,vi b.sl,.slice Ap b.pts.length cp,cv]]) rfl (Room_ok (hb0.inc ii) (CellsAt.inc hg ii) (by omega) (by have:=val.ckn;omega)) ?_
 rintro v H5 ⟨i5,rfl⟩
 rw[roomV,if_neg (by simp[Way val])]
 obtain⟨q1,q2,q3⟩:=War b b.pts.length (by omega)
 generalize roomB b b.pts.length=p at *
 have jj:=ii.trans i5
 have hf:fx=fy:=by
  cases fx<;>cases fy
  ·rfl
  ·have:=(hx2 rfl).2.2;have:=(hy1 rfl).2.2;have:=(hy1 rfl).1;have:=(hy1 rfl).2.1;omega
  ·have:=(hx1 rfl).2.2;have:=(hx1 rfl).1;have:=(hx1 rfl).2.1;have:=(hy2 rfl).2.2;omega
  ·rfl
 subst hf
 have wd:∀ j,ZfF b j=(ptAt b j).bh-(ptAt b j).bl-(ptAt b j).w:=fun _=>rfl
 have rg:∀ j,j<b.pts.length->(0<=(ptAt b j).bl∧(ptAt b j).bl<=(ptAt b j).bh∧(ptAt b j).bh<=199)∧0<=(ptAt b j).w∧(ptAt b j).w<=199:=fun j hj=>by
  have:=val.pts j hj
  rw[show b.pts[j]=ptAt b j from (Zbd hj _).symm]at this
  exact⟨this.2.2.1,this.2.2.2⟩
 have row:∀ j (hj:j<b.pts.length),Enc.enc b.pts[j]=[vi (ptAt b j).ml,vi (ptAt b j).mh,vi (ptAt b j).bl,vi (ptAt b j).bh,vi (ptAt b j).w]:=fun j hj=>by
  rw[show b.pts[j]=ptAt b j from (Zbd hj _).symm];rfl
 have hp5:=hp.inc jj
 refine wkT ?_
 refine WaA rfl rfl ?_
 rw[show (fx != fx)=false by simp]
 refine wkT ?_
 refine Zab (vs:=[vi p,vi 0,vi (b.pts.length-1)]) rfl (Zm6 _ _ _) ?_
 rintro v _ ⟨rfl,rfl⟩
 rw[decide_eq_true (show (0:Int)<=p∧(p:Int)<=b.pts.length-1 from ⟨by omega,by omega⟩)]
 refine wkT ?_
 refine ZaE hp5 rfl rfl rfl (i:=p) q1 fun a ha=>?_
 rw[row p q1]at ha
 have rp:=rg p q1
 refine wkT ?_
 refine Zao (hs _) rfl ha rfl ?_
 refine wkT ?_
 refine wiT (fun h2=>?_) (fun h2=>?_)
 ·exact absurd rfl h2
 refine wkT ?_
 refine ZaX b.pts.length (fun j H'=>H5=H') (fun j=>[(2,.int .i16 s),(4,vi 0),(9,v9),(11,vi M),(14,vi 0),(15,vb fx),(17,vi 0),(20,vi p),(21,vi (ZfF b p)),(24,vi j)]) (fun _=>[(4,[vi b.op,vi b.sl,.slice Ap b.pts.length cp,cv]),(14,[vi x1,vi x2]),(17,[vi y1,vi y2])]) rfl ⟨rfl,rfl,rfl,rfl,rfl,rfl,rfl,rfl,rfl,rfl,trivial⟩ ⟨rfl,rfl,rfl,trivial⟩ ?_
 rintro j _ hj' rfl
 refine wkT ?_
 refine wiT (fun h3=>?_) (fun h3=>?_)
 ·have hjl:j<b.pts.length:=by omega
  have rj:=rg j hjl
  refine wkT ?_
  refine ZaE hp5 rfl rfl rfl (i:=j) hjl fun a ha=>?_
  rw[row j hjl]at ha
  refine wkT ?_
  refine Zao (hs _) rfl ha rfl ?_
  refine wkT ?_
  have g1:=q2 j hjl
  have g2:=q3 j
  refine wiT (fun h4=>?_) (fun h4=>?_)
  ·exact absurd h4 (by rw[wd j]at g1;omega)
  refine wkT ?_
  refine wiT (fun h5=>?_) (fun h5=>?_)
  ·refine wkT ?_
   refine wiT (fun h6=>?_) (fun h6=>?_)
   ·exfalso
    have:=g2 (by omega)
    rw[wd j]at this
    omega
   ·exact Waz
  ·exact Waz
 refine wkT ?_
 refine Zb3 (und Tryz.underlying73) (und Tryz.underlying3) rfl ?_
 rw[ZbO (show InR s from ⟨by omega,by omega⟩)]
 refine wkT ?_
 have hg5:=CellsAt.inc hg jj
 have hb5:=hb0.inc jj
 have s5:=(s9.inc i3).inc (i4.trans i5)
 have okp:=val.good.pts
 refine Zab (vs:=[.agg #[vi b.op,vi b.sl,.slice Ap b.pts.length cp,cv],v9,vi s]) rfl (Wag hb5 s5 (by omega) (by omega) okp okl ⟨by omega,by omega⟩) ?_
 rintro v _ ⟨rfl,rfl⟩
 cases fx with
 | false=>
  obtain⟨rfl,rfl,hlt⟩:=hx2 rfl
  obtain⟨rfl,rfl,_⟩:=hy2 rfl
  have e:Waf b G s=false:=by
   rw[Bool.eq_false_iff]
   intro e
   have:=(hspan s).1 e
   omega
  rw[e]
  refine wkT ?_
  refine WaA rfl rfl ?_
  refine wkT ?_
  refine Zab (vs:=[vi 0,vi 0]) rfl (Zi6 0 0) ?_
  rintro v _ ⟨rfl,rfl⟩
  refine wkT ?_
  refine om_eqS (b:=decide ((0:Int)=0∧(0:Int)=0)) (xs:=#[vi 0,vi 0]) (ys:=#[vi 0,vi 0]) g49 (fun Q g H hq=>eqP (.inr s49) Q hq) rfl rfl ?_
  refine wkT ?_
  refine Zab (vs:=[vi 0,vi 0]) rfl (Zi6 0 0) ?_
  rintro v _ ⟨rfl,rfl⟩
  refine wkT ?_
  refine om_eqS (b:=decide ((0:Int)=0∧(0:Int)=0)) (xs:=#[vi 0,vi 0]) (ys:=#[vi 0,vi 0]) g49 (fun Q g H hq=>eqP (.inr s49) Q hq) rfl rfl ?_
  refine wkT ?_
  refine Zab (vs:=[]) rfl (spiled_okP hPP hg5) ?_
  rintro v H6 ⟨_,rfl⟩
  refine wkT ?_
  rfl
 | true=>
  obtain⟨ea,eb,hle⟩:=hx1 rfl
  obtain⟨ec,ed,_⟩:=hy1 rfl
  have a0:=(Wae (b:=b) (n4of G) (by omega)).1
  have c0:=(Waa (b:=b) (n4of G) (by omega)).1
  have gg:∀ i,i<b.pts.length->-99<=(n4of G).get i∧(n4of G).get i<=99:=fun i hi=>by
   rw[Wad (by omega),Zbd (by omega)]
   exact rC _ (List.getElem_mem _)
  have r1:=gg p q1
  have r2:=a0 p q1
  have r3:=c0 p q1
  have e0:Waf b G s=decide (x1<=s∧s<=x2):=by
   rw[Bool.eq_iff_iff,decide_eq_true_eq,hspan,ea,eb]
  have e1:Waf b G x1=true:=(hspan _).2 (by omega)
  have e2:Waf b G x2=true:=(hspan _).2 (by omega)
  have e3:Waf b G (x1-1)=false:=by
   rw[Bool.eq_false_iff]
   intro e
   have:=(hspan _).1 e
   omega
  have e4:Waf b G (x2+1)=false:=by
   rw[Bool.eq_false_iff]
   intro e
   have:=(hspan _).1 e
   omega
  have wp:=wd p
  rw[e0]
  refine wkT ?_
  refine Zab (vs:=[vi s,vi x1,vi x2]) rfl (Zm6 _ _ _) ?_
  rintro v _ ⟨rfl,rfl⟩
  refine wkT ?_
  refine WaA rfl rfl ?_
  rw[show (decide (x1<=s∧s<=x2) != decide (x1<=s∧s<=x2))=false by simp]
  refine wkT ?_
  refine Zab (vs:=[.agg #[vi b.op,vi b.sl,.slice Ap b.pts.length cp,cv],v9,vi x1]) rfl (Wag hb5 s5 (by omega) (by omega) okp okl ⟨by omega,by omega⟩) ?_
  rintro v _ ⟨rfl,rfl⟩
  rw[e1]
  refine wkT ?_
  refine Zab (vs:=[.agg #[vi b.op,vi b.sl,.slice Ap b.pts.length cp,cv],v9,vi x2]) rfl (Wag hb5 s5 (by omega) (by omega) okp okl ⟨by omega,by omega⟩) ?_
  rintro v _ ⟨rfl,rfl⟩
  rw[e2]
  refine wkT ?_
  refine Zab (vs:=[.agg #[vi b.op,vi b.sl,.slice Ap b.pts.length cp,cv],v9,vi (x1-1)]) rfl (Wag hb5 s5 (by omega) (by omega) okp okl ⟨by omega,by omega⟩) ?_
  rintro v _ ⟨rfl,rfl⟩
  rw[e3]
  refine wkT ?_
  refine Zab (vs:=[.agg #[vi b.op,vi b.sl,.slice Ap b.pts.length cp,cv],v9,vi (x2+1)]) rfl (Wag hb5 s5 (by omega) (by omega) okp okl ⟨by omega,by omega⟩) ?_
  rintro v _ ⟨rfl,rfl⟩
  rw[e4]
  refine wkT ?_
  refine Zab (vs:=[vi (x1-M),vi (x2-M)]) rfl (Zi6 _ _) ?_
  rintro v _ ⟨rfl,rfl⟩
  refine wkT ?_
  refine om_eqS (b:=decide (y1=x1-M∧y2=x2-M)) (xs:=#[vi y1,vi y2]) (ys:=#[vi (x1-M),vi (x2-M)]) g49 (fun Q g H hq=>eqP (.inr s49) Q hq) rfl rfl ?_
  rw[decide_eq_true (show y1=x1-M∧y2=x2-M from ⟨by omega,by omega⟩)]
  refine wkT ?_
  refine wiT (fun h7=>?_) (fun h7=>?_)
  ·refine wkT ?_
   refine Zab (vs:=[]) rfl (spiled_okP hPP hg5) ?_
   rintro v H6 ⟨_,rfl⟩
   refine wkT ?_
   rfl
  ·exact absurd h7 (by omega)
end
end Go.Proofs
end
section
open Go Go.LL Go.Conc Go.ConcM
namespace Go.Proofs.YtamdhefhhdgjbaaGreatDoor
open Go.ChangeShapes Go.WideShapes Go.ChangeAt Go.RowKit
set_option maxRecDepth 100000 in
theorem Wac (os:Os)(started:os.Started)(H:Type)(enc:TypeId×Value->H)(F:Stop.Interp) :
  ReturnsInLeavingWide { calm:=true } Tryz.checked os 8 .any (fun w args=>(Rows.spileShiftsSpec.pre enc Tryz.prog Tryz.f8 [] false w args∧laidMetH Tryz.prog [("ribband/spile.checks",Rows.laid_ribband_spile_checks)] w)∧sizedMet enc Tryz.prog Tryz.f8 (OpenSpec.ofChange Rows.spileShiftsSpec) false w args)
   ((OpenSpec.ofChange Rows.spileShiftsSpec).postWith enc Tryz.prog Tryz.f8 F (outsideKept [.timePasses]) false true false):=by
 refine law_lifted os started F rfl Tryz.func8 Tryz.results8 (by kernel_rfl) (by kernel_rfl) ?_ ?_ ?_ #[.agg #[.int .i64 0,.int .i64 0,.slice none 0 0,.slice none 0 0],.slice none 0 0,.int .i16 0,.int .u8 0] (by kernel_rfl) (by kernel_rfl) (by kernel_rfl)
 ·intro ds hl
  rw[Tryz.params8]at hl
  match ds,hl with
  | [d0,d1,d2,d3],_=>rfl
 ·have h:(Tryz.f8.params.toList.all fun t=>Tryz.prog.readableRec t && decide (t<Tryz.prog.types.size))=true:=by kernel_rfl
  intro t ht
  simpa using List.all_eq_true.1 h t ht
 ·intro W base args ds p hval hA hg
  rw[Tryz.params8]at hA hval
  obtain⟨v0,w0,d0,e0,p0,q0,ha,rfl,rfl,h0,r0⟩:=trodAll_cons hA
  obtain⟨v1,w1,d1,e1,p1,q1,rfl,rfl,rfl,h1,r1⟩:=trodAll_cons r0
  obtain⟨v2,w2,d2,e2,p2,q2,rfl,rfl,rfl,h2,r2⟩:=trodAll_cons r1
  obtain⟨v3,w3,d3,e3,p3,q3,rfl,rfl,rfl,h3,r3⟩:=trodAll_cons r2
  obtain⟨rfl,rfl,rfl⟩:=trodAll_nil r3
  obtain rfl:args=#[v0,v1,v2,v3]:=by cases args;simp_all
  obtain⟨b0,k0⟩:=bk_open (hval 0 25 v0 rfl rfl) h0
  obtain⟨l1,k1⟩:=Wax (hval 1 72 v1 rfl rfl) h1
  obtain⟨n2,rfl,k2a,k2b⟩:=i16_open (hval 2 73 v2 rfl rfl) h2
  obtain⟨n3,rfl,k3a,k3b⟩:=u8_open (hval 3 5 v3 rfl rfl) h3
  exact reach_top (args:=[v0,v1,.int .i16 n2,.int .u8 n3]) (isn c8) Tryz.func8 Tryz.results8 rfl (Wam rfl k0 k1 ⟨k2a,k2b⟩ ⟨k3a,k3b⟩ hg)
theorem spileShifts_holds:Rows.SpileShiftsSaid:=
 OpenClaim.holds_of_wide_leaving_time 8 Tryz.f8 rfl rfl rfl rfl rfl rfl rfl ⟨rfl,rfl,rfl,rfl,rfl⟩ rfl rfl rfl rfl rfl Wal Tryz.func8 Wak Waj Wai
  (fun os started H enc _ F=>Wac os started H enc F)
theorem spileShifts_card:Rows.SpileShiftsCardSaid:=
 ZmC .later [.funcs] true (true,"7d20c1c653d3570dc0b3adced23199ecfee38ebbf859018ae9f3ecca83f03cb8") false
  spileShifts_holds (by kernel_rfl) spileShifts_row_tie rfl ⟨rfl,rfl⟩ (by kernel_rfl) rfl
  (fun f fn hf hfn=>by
   obtain rfl:f=8:=Option.some.inj (Wal.symm.trans hf) |>.symm
   obtain rfl:fn=Tryz.f8:=(Option.some.inj (Tryz.func8.symm.trans hfn)).symm
   exact⟨by kernel_rfl,fun j t ht=>by
    have hall:(Tryz.f8.params.all fun u=>!Tryz.prog.wantsStandIn u)=true:=by kernel_rfl
    have hm:=Array.mem_of_getElem? ht
    exact(show Tryz.prog.wantsStandIn t=false by simpa using (Array.all_eq_true_iff_forall_mem.1 hall) t hm)⟩)
  (by kernel_rfl)
end Go.Proofs.YtamdhefhhdgjbaaGreatDoor
end
