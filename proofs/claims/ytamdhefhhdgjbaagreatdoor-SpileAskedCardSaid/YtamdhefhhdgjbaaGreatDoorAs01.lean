/- proofs about Leango given: part As1; made by a program out of the longer texts in wip -/
import Derived.Test.YtamdhefhhdgjbaaGreatDoorAs00
set_option linter.all false
section
open Go Go.LL
namespace Go.LL
section
variable  {P:Prg}{H:Hp}{d:Option Nat}{next:NSt->Hp->Prop}{σ:NSt}{x y:Operand}
theorem Wa0 {sT E T:TypeId}{esz by_ m:Nat}{zv w:Value}{xs:List Value}{a:Addr}(hu:P.toProgram.underlying sT=some (.slice E))(ti:TI P.toProgram E esz zv by_)(hz:zv.cells.size=esz)(he:0<esz)
  (hw:(m=0∧∃ A c,w=.slice A 0 c)∨∃ a c,w=.slice (some a) m c∧CellsAt H a xs) (hl:xs.length=m * esz) (h1:(xs.all Value.isOne)=true) (hb1:m<=1000000000) (hb2:by_<=1000) (hst:P.still H.gh=false)
  {K:Value->Hp->Prop} (k0:m=0->K (.slice (some a) 0 0) H) (k1:∀ r nc rest,H r=none->m<=nc->(xs++rest).length=nc * esz->K (.slice (some ⟨r,0,none⟩) m nc) (H.ins r (.cells (xs++rest).toArray E))):wpL P.toPQ (Builtin.append_ #[sT,sT] T #[.slice (some a) 0 0,w]) (fun v _ H'=>K v H') false H:=by
 obtain⟨inf,i1,i2,i3,i4⟩:=ti.ex
 have hlen:∀ Q g,Q m g H->wpL P.toPQ (Builtin.lenOf w) Q g H:=by
  intro Q g hq
  rcases hw with ⟨rfl,A,c,rfl⟩ | ⟨a,c,rfl,_⟩<;>simpa[Builtin.lenOf,Zac]using hq
 have hfirst:∀ (Q:Array Value->Bool->Hp->Prop) g,Q xs.toArray g H->wpL P.toPQ (Builtin.firstCells esz m w) Q g H:=by
  intro Q g hq
  rcases hw with ⟨rfl,A,c,rfl⟩ | ⟨a,c,rfl,hc⟩
  ·have:xs=[]:=List.eq_nil_of_length_eq_zero (by simpa using hl)
   subst this
   cases A<;>simpa[Builtin.firstCells,Zac,loadCells,loadCellsFrom]using hq
  ·simp only[Builtin.firstCells]
   exact ZdR hst hc hq hl
 have hold:∀ (Q:Array Value->Bool->Hp->Prop) g,Q #[] g H->wpL P.toPQ (Builtin.firstCells esz 0 (.slice (some a) 0 0)) Q g H:=by
  intro Q g hq
  simpa[Builtin.firstCells,Zac,loadCells,loadCellsFrom]using hq
 simp only[Builtin.append_,List.getElem?_toArray,List.getElem?_cons_zero,List.getElem?_cons_succ,Zaa,Zad hu,Zap i1,i2,Zac,Bool.false_eq_true,if_false]
 refine hlen _ _ ?_
 simp only[Bool.not_false,if_true]
 by_cases hle:0+m<=0
 ·rw[if_pos hle]
  have hm:m=0:=by omega
  subst hm
  have hxs:xs=[]:=List.eq_nil_of_length_eq_zero (by simpa using hl)
  subst hxs
  simp only[Zaa,Zac]
  refine hfirst _ _ ?_
  simpa[storeCells,Zac]using k0 rfl
 ·rw[if_neg hle]
  simp only[Zaa,ZbQ i1,i4]
  rw[if_neg (by rintro⟨h,_⟩;simp[IntKind.max,IntKind.bits,IntKind.signed]at h;omega)]
  simp only[Zaa,Zac,ZbQ i1,i4]
  have hcap:¬ Builtin.nextslicecap (0+m) 0 * by_ > 2 ^ 48:=by
   have h1:=Zk2 (need:=0+m) (old:=0) (by omega)
   have h2:Builtin.nextslicecap (0+m) 0 * by_<=(2 * (0+m)+200) * 1000:=Nat.mul_le_mul h1 hb2
   omega
  rw[if_neg hcap]
  simp only[Zaa,Zac,choose]
  rw[wpL]
  simp only[Question.forced,Bool.false_eq_true,if_false]
  refine⟨hst,fun t=>?_⟩
  have hcut:0+m<=(Question.appendCap (0+m) 0 E).cut t:=by simp only[Question.cut];omega
  generalize (Question.appendCap (0+m) 0 E).cut t=nc at hcut
  rw[wpL]
  have hask:∀ (Q:Unit->Bool->Hp->Prop),Q () false H->wpL P.toPQ (askRoom (nc * by_)) Q false H:=by
   intro Q hq
   unfold askRoom
   split
   ·exact⟨.inr ⟨rfl,hst⟩,hq⟩
   ·exact hq
  rw[ZbQ i1,i4]
  refine hask _ ?_
  refine hold _ _ ?_
  refine hfirst _ _ ?_
  simp only[Zb1 i1 i3,newRow,Zaa,newObj,Zac]
  refine⟨hst,fun r hr=>?_⟩
  have hk:=k1 r nc (Builtin.zeroCells zv.cells (nc-(0+m))).toList hr (by omega) (by
   simp only[List.length_append,hl,Array.length_toList,Zhn,hz]
   rw[<-Nat.add_mul]
   congr 1
   omega)
  have e:(#[]++xs.toArray++Builtin.zeroCells zv.cells (nc-(0+m)))=(xs++(Builtin.zeroCells zv.cells (nc-(0+m))).toList).toArray:=by simp
  rw[Nat.zero_add]at e hk
  rw[Nat.zero_add,e]
  exact hk
theorem Wan {sT E T:TypeId}{esz by_ m:Nat}{zv w:Value}{xs:List Value}{a:Addr}(hu:P.toProgram.underlying sT=some (.slice E))(ti:TI P.toProgram E esz zv by_)(hz:zv.cells.size=esz)(he:0<esz)(e1:σ.get x=some (.slice (some a) 0 0))(e2:σ.get y=some w)
  (hw:(m=0∧∃ A c,w=.slice A 0 c)∨∃ a c,w=.slice (some a) m c∧CellsAt H a xs) (hl:xs.length=m * esz) (h1:(xs.all Value.isOne)=true) (hb1:m<=1000000000) (hb2:by_<=1000) (hst:P.still H.gh=false)
  (k0:m=0->next (σ.set d (.slice (some a) 0 0)) H) (k1:∀ r nc rest,H r=none->m<=nc->(xs++rest).length=nc * esz->next (σ.set d (.slice (some ⟨r,0,none⟩) m nc)) (H.ins r (.cells (xs++rest).toArray E))):(NOp.raw (.call { callee:=.builtin .append,args:=#[x,y],argTypes:=#[sT,sT] }) T).m P d next σ H:=by
 refine Zbf (s:=Builtin.append_ #[sT,sT] T #[.slice (some a) 0 0,w]) (by simp[Op.operands,Call.operands,e1,e2]) (by simp[execOp,bare,resolve,invoke,builtin,e1,e2]) ?_
 exact Wa0 (T:=T) hu ti hz he hw hl h1 hb1 hb2 hst k0 k1
end
end Go.LL
namespace Go.Proofs
theorem WaQ {α:Type}[Enc α]{H0 H:Hp}{r nc:Nat}{E:TypeId}{l:List α}{rest:List Value}(hi:Inc H0 H)(hr:H r=none)(h2:l.length<=nc)(h3:(encs l++rest).length=nc * Enc.sz α):Own H0 (H.ins r (.cells (encs l++rest).toArray E)) E (.slice (some ⟨r,0,none⟩) l.length nc) l (some r):=
 ⟨⟨Zcm l,.inr ⟨r,nc,rest,rfl,rfl,Hp.ins_same _ _ _,h3,h2⟩⟩,fun r' e=>by obtain rfl:=Option.some.inj e;exact Zba hi hr⟩
section
variable  {P:Prg}[Tz P]{H:Hp}{d:Option Nat}{next:NSt->Hp->Prop}{σ:NSt}{x y:Operand}
theorem om_app0 {α:Type}[Enc α]{H0:Hp}{r:Nat}{sT E T:TypeId}{by_:Nat}{zv w:Value}{l:List α}(hu:P.toProgram.underlying sT=some (.slice E))(ti:TI P.toProgram E (Enc.sz α) zv by_)(hz:zv.cells.size=Enc.sz α)(he:0<Enc.sz α)
  (hr:H0 r=none) (hH:H=H0.ins r (.cells #[] E)) (hw:SlAt H w l) (h1:((encs l).all Value.isOne)=true) (hb1:l.length<=1000000000) (hb2:by_<=1000) (e1:σ.get x=some (.slice (some ⟨r,0,none⟩) 0 0)) (e2:σ.get y=some w) (hst:P.still H.gh=false)
  (h:∀ v' H' b',Inc H H'->Own H0 H' E v' l b'->next (σ.set d v') H'):(NOp.raw (.call { callee:=.builtin .append,args:=#[x,y],argTypes:=#[sT,sT] }) T).m P d next σ H:=by
 have hi:Inc H0 H:=by rw[hH];exact Zaj hr
 obtain⟨A,c,rfl,h2⟩:=hw
 by_cases hn:l=[]
 ·subst hn
  refine Wan hu ti hz he e1 e2 (m:=0) (xs:=[]) (.inl ⟨rfl,A,c,rfl⟩) (by simp) rfl (by omega) hb2 hst (fun _=>?_) fun r' nc rest hr' hnc hl'=>?_
  ·exact h _ _ (some r) (.refl _) (by rw[hH];exact own_nil0 hr)
  ·exact h _ _ (some r') (Zaj hr') (WaQ (l:=([]:List α)) hi hr' hnc hl')
 ·obtain⟨a,rfl,hc⟩:=h2 hn
  refine Wan hu ti hz he e1 e2 (m:=l.length) (xs:=encs l) (.inr ⟨a,c,rfl,hc⟩) (Zcm l) h1 hb1 hb2 hst (fun h0=>absurd (List.eq_nil_of_length_eq_zero h0) hn) fun r' nc rest hr' hnc hl'=>?_
  exact h _ _ (some r') (Zaj hr') (WaQ hi hr' hnc hl')
end
end Go.Proofs
end
section
open Go Go.LL
namespace Go.Proofs
theorem asc_len {l:List Int}{lo:Int}{k:Nat}(h:l.Pairwise (·<·))(h2:∀ z∈l,lo<=z∧z<lo+k):l.length<=k:=by
 have hm:∀ z∈l,z∈(List.range k).map fun (i:Nat)=>lo+(i:Int):=fun z hz=>by
  have:=h2 z hz
  exact List.mem_map.2 ⟨(z-lo).toNat,List.mem_range.2 (by omega),by omega⟩
 have:=Wab (l:=l) (h.imp fun h e=>by subst e;omega) hm
 rwa [List.length_map,List.length_range]at this
theorem gapL_50 {b:Bk}(v:Zeo b){i:Nat}(hi:i<b.pts.length):(gapL b i).length<=50:=by
 have h2:=(v.pts i hi).2.1
 rw[show b.pts[i]=ptAt b i from (Zbd hi _).symm]at h2
 have hsl:=v.sl
 refine asc_len (lo:=b.op-(ptAt b i).mh-b.sl) gapL_lt fun z hz=>?_
 obtain⟨x,hx,rfl⟩:=Wai.1 hz
 have:=gap_rg v hx hi
 omega
def mxF (b:Bk)(i:Nat)(l:List Int):Int:=l.foldl (fun m z=>max m (cntL (Zbm b i) z)) 0
theorem WaT (b:Bk)(i:Nat)(l:List Int)(z:Int):mxF b i (l++[z])=max (mxF b i l) (cntL (Zbm b i) z):=by rw[mxF,List.foldl_append];rfl
theorem WaS (b:Bk)(i:Nat):∀ l:List Int,0<=mxF b i l∧(∀ z∈l,cntL (Zbm b i) z<=mxF b i l)∧mxF b i l<=askN b i:=by
 refine Zfm ⟨Int.le_refl _,by simp,(WaH b i).1⟩ fun l z ⟨h1,h2,h3⟩=>?_
 rw[WaT]
 have:=WaZ (b:=b) (i:=i) (z:=z)
 refine⟨by omega,fun y hy=>?_,by omega⟩
 rcases List.mem_append.1 hy with hy | hy
 ·have:=h2 y hy;omega
 ·rw[List.mem_singleton.1 hy];omega
theorem mx_all {b:Bk}{i:Nat}(h:0<nB b):mxF b i (gapL b i)=askN b i:=by
 obtain⟨_,h2,h3⟩:=WaS b i (gapL b i)
 obtain⟨z,hz,e⟩:=askN_at (b:=b) (i:=i) h
 have:=h2 z (pt_gapL.1 hz)
 omega
section
variable  {P:Prg}[Tz P][Loud P]{H:Hp}
set_option maxHeartbeats 8000000
set_option maxRecDepth 20000
theorem WaC {bv:Value}{b:Bk}{i:Nat}(val:Zeo b)(hck:b.cks.length<3)(hi:i<b.pts.length)(hN:0<nB b)(hb:BkAt H bv b)(hg:Za8 H):LL.Zag P 72 #[bv,vi i] H fun v H'=>Inc H H'∧v=.tuple #[vi (askN b i),vb true]:=by
 have hs:∀ g,P.still g=false:=Loud.loud
 have hn:=val.n
 have hb0:=hb
 obtain⟨pv,cv,rfl,hp,hc⟩:=hb
 obtain⟨Ap,cp,rfl,hp'⟩:=id hp
 obtain⟨Ac,cc,rfl,hc'⟩:=id hc
 refine IsN.m (isn c72) (args:=[.agg #[vi b.op,vi b.sl,.slice Ap b.pts.length cp,.slice Ac b.cks.length cc],vi i]) rfl ?_
 unfold n72
 have g50:=gapL_50 val hi
 refine wkT ?_
 refine Zab (vs:=[.agg #[vi b.op,vi b.sl,.slice Ap b.pts.length cp,.slice Ac b.cks.length cc],vi i]) rfl (Gap_v hi val hb0 hg) ?_
 rintro v H1 ⟨i1,A1,c1,rfl,s1⟩
 rw[WaB hN]
 refine wkT ?_
 refine wiT (fun h1=>?_) (fun h1=>?_)
 ·exact absurd h1 (by omega)
 refine wkT ?_
 refine ZaP (α:=Option Addr×Nat×Nat) (gapL b i).length (fun j _ H'=>Inc H1 H') (fun j _=>[(1,vi i),(2,vi 0),(6,vi 0),(7,.slice A1 (gapL b i).length c1),(9,vi (mxF b i ((gapL b i).take j))),(10,vi j)])
  (fun _ s=>[(2,[vi b.op,vi b.sl,.slice Ap b.pts.length cp,.slice Ac b.cks.length cc]),(6,[vi b.op,vi b.sl,.slice Ap b.pts.length cp,.slice s.1 s.2.1 s.2.2])]) (Ac,b.cks.length,cc) (.refl _) ⟨rfl,rfl,rfl,rfl,rfl,rfl,trivial⟩ ⟨rfl,rfl,trivial⟩ ?_
 rintro j ⟨A6,l6,c6⟩ H3 hj i3
 refine wkT ?_
 refine wiT (fun h2=>?_) (fun h2=>?_)
 ·have hj':j<(gapL b i).length:=by omega
  have hmx:=WaT b i ((gapL b i).take j) (gapL b i)[j]
  rw[<-List.take_succ_eq_append_getElem hj']at hmx
  have hz:-199<=(gapL b i)[j]∧(gapL b i)[j]<=199:=by
   obtain⟨x,hx,e⟩:=Wai.1 (List.getElem_mem hj')
   have:=gap_in val (Zc2 val x hx) i (by omega)
   omega
  have hmr:=WaS b i ((gapL b i).take j)
  have har:=WaH b i
  have hNl:(Zae b).length<=1782:=Zbp val
  refine wkT ?_
  refine ZaE (s1.inc i3) rfl rfl rfl (i:=j) hj' fun a ha=>?_
  refine wkT ?_
  refine Zaf (hs _) rfl ha ?_
  generalize (gapL b i)[j]=z at *
  have vc:=valid_ck (c:=⟨i,z,z⟩) val hck ⟨by show (0:Int)<=i;omega,by show (i:Int)<_;omega⟩ ⟨by show -199<=z;omega,Int.le_refl _,by show z<=199;omega⟩
  have hcnt:(nB (ckBk b ⟨i,z,z⟩):Int)=cntL (Zbm b i) z:=cnt_ck val vc
  have hC:(ckBk b ⟨i,z,z⟩).op=b.op∧(ckBk b ⟨i,z,z⟩).sl=b.sl∧(ckBk b ⟨i,z,z⟩).pts=b.pts∧(ckBk b ⟨i,z,z⟩).cks=b.cks++[⟨i,z,z⟩]:=⟨rfl,rfl,rfl,rfl⟩
  have ii:=i1.trans i3
  refine wkT ?_
  refine Zdw (und u23) (tif t51) (hs _) fun r1 hr1=>?_
  refine kp_lt hs (Zaj hr1) ?_
  refine wkT ?_
  refine om_app0 (l:=b.cks) (und u23) (tif t51) rfl (by decide) hr1 rfl ((hc.inc ii).inc (Zaj hr1)) (ZmR _) (by omega) (by omega) rfl rfl (hs _) fun v2 H5 b2 i5 o5=>?_
  refine kp_lt hs i5 ?_
  have i5':=(Zaj (o:=.cells #[] 51) hr1).trans i5
  refine wkT ?_
  refine Zab (vs:=[vi z]) rfl (ZeE z) ?_
  rintro v _ ⟨rfl,rfl⟩
  refine wkT ?_
  refine Zat (cs:=[vi i,vi z,vi z]) (hs _) rfl fun r5 hr5=>?_
  refine wkT ?_
  refine ZbW (l':=[(⟨i,z,z⟩:SCk)]) (und u23) (und u23) (tif t51) rfl (by decide) (i5'.trans (Zaj hr5)) (o5.ins hr5) Zjc rfl (by simp only[List.length_singleton];omega) (by omega) rfl rfl (hs _) fun v7 H7 b7 k1 k2 k3=>?_
  obtain⟨A7,c7,rfl⟩:=WaP k2
  have s7:=k2.sl
  have hB:BkAt H7 (.agg #[vi b.op,vi b.sl,.slice Ap b.pts.length cp,.slice A7 (b.cks++[(⟨i,z,z⟩:SCk)]).length c7]) (ckBk b ⟨i,z,z⟩):=⟨_,_,by rw[hC.1,hC.2.1],by rw[hC.2.2.1];exact(hp.inc ii).inc k1,by rw[hC.2.2.2];exact s7⟩
  refine wkT ?_
  refine Zab (vs:=[.agg #[vi b.op,vi b.sl,.slice Ap b.pts.length cp,.slice A7 (b.cks++[(⟨i,z,z⟩:SCk)]).length c7]]) rfl (Wa1 vc hB (CellsAt.inc hg (ii.trans k1))) ?_
  rintro v H8 ⟨i8,rfl⟩
  rw[hcnt]
  refine wkT ?_
  refine om_max rfl rfl ?_
  rw[<-hmx]
  refine wkT ?_
  exact⟨(⟨j+1,by omega⟩,(A7,_,c7)),Nat.sub_lt_sub_left (by omega) (Nat.lt_succ_self j),(i3.trans k1).trans i8,⟨rfl,rfl,rfl,rfl,rfl,rfl,trivial⟩,⟨rfl,rfl,trivial⟩,rfl⟩
 have:j=(gapL b i).length:=by omega
 subst this
 rw[List.take_length,mx_all hN]
 refine wkT ?_
 exact⟨i1.trans i3,rfl⟩
end
end Go.Proofs
end
section
open Go Go.LL
namespace Go.Proofs
section
variable  {P:Prg}[Tz P][Loud P]{H:Hp}
set_option maxHeartbeats 8000000
set_option maxRecDepth 20000
end
end Go.Proofs
end
section
open Go Go.LL
namespace Go.Proofs
structure BrN (p q n m i few many all:Int)(su st:Bool):Prop where
 p3:p=0∨p=1∨p=2
 a1:p=1->q=1
 a2:p≠2->q≠2
 a3:su=true->st=true∧m<=n
 a4:few<=many
 a5:many<=all
 a6:su=true->few=all∧i=n∧p=1
 a7:su=false->few<all
 a8:few=0↔p=2
section
variable  {P:Prg}[Tz P][Loud P]{H:Hp}
set_option maxHeartbeats 16000000
set_option maxRecDepth 40000
end
end Go.Proofs
end
section
open Go Go.LL
namespace Go.Proofs
theorem Waj {G:Prop} (h:G:=by
  refine wkT ?_
  exact⟨(),rfl,⟨rfl,rfl,rfl,rfl,rfl,trivial⟩,⟨rfl,trivial⟩,rfl⟩):G:=h
theorem ask_nums {b:Bk}:((askF b).1=-1∧(askF b).2=nB b∨∃ j:Nat,j<b.pts.length∧(askF b).1=j∧(askF b).2=askN b j∧(askF b).2<nB b)∧(∀ i,i<b.pts.length->(askF b).2<=askN b i)∧∀ i:Nat,i<b.pts.length->(i:Int)<(askF b).1->(askF b).2<askN b i:=WaL b b.pts.length
section
variable  {P:Prg}[Tz P][Loud P]{H:Hp}
set_option maxHeartbeats 16000000
set_option maxRecDepth 40000
theorem Was (hPP:P=PP){bv:Value}{b:Bk}{m:Int}(hb:BkAt H bv b)(hm:0<=m∧m<256)(hg:Za8 H) :
  n12.m P (MFin P r12 fun v _=>v=vb true) (env0 [bv,.int .u8 m]) H:=by
 have hs:∀ g,P.still g=false:=Loud.loud
 have hb0:=hb
 obtain⟨pv,cv,rfl,hp,hc⟩:=hb
 obtain⟨Ap,cp,rfl,hp'⟩:=id hp
 obtain⟨Ac,cc,rfl,hc'⟩:=id hc
 unfold n12
 refine wkT ?_
 refine Zab (vs:=[.agg #[vi b.op,vi b.sl,.slice Ap b.pts.length cp,.slice Ac b.cks.length cc]]) rfl (Fit_ok hb0) ?_
 rintro v _ ⟨rfl,rfl⟩
 refine wkT ?_
 refine wiT (fun h0=>?_) (fun h0=>?_)
 ·refine wkT ?_
  refine Zab (vs:=[]) rfl (spiled_okP hPP hg) ?_
  rintro v H1 ⟨_,rfl⟩
  refine wkT ?_
  rfl
 refine wkT ?_
 refine wiT (fun h1=>?_) (fun h1=>?_)
 ·refine wkT ?_
  refine Zab (vs:=[]) rfl (spiled_okP hPP hg) ?_
  rintro v H1 ⟨_,rfl⟩
  refine wkT ?_
  rfl
 have val:=WaW h0
 have hn:=val.n
 have hck:b.cks.length<3:=by omega
 refine wkT ?_
 refine Zab (vs:=[.agg #[vi b.op,vi b.sl,.slice Ap b.pts.length cp,.slice Ac b.cks.length cc]]) rfl (Ask_v val hb0 hg) ?_
 rintro v H1 ⟨i1,rfl⟩
 refine wkT ?_
 refine Zab (vs:=[.agg #[vi b.op,vi b.sl,.slice Ap b.pts.length cp,.slice Ac b.cks.length cc]]) rfl (Wa1 val (hb0.inc i1) (CellsAt.inc hg i1)) ?_
 rintro v H2 ⟨j2,rfl⟩
 have i2:=i1.trans j2
 have hg2:=CellsAt.inc hg i2
 refine wkT ?_
 refine om_neb rfl rfl ?_
 rw[ne_no (show oS b=0↔(0:Int)<(nB b:Int) by rw[oS_iff];omega)]
 refine wkT ?_
 refine wiT (fun h2=>?_) (fun h2=>?_)
 ·have hz:¬ 0<nB b:=fun e=>h2 (WaB e)
  rw[if_neg hz,if_neg hz,WaG hz]
  refine wkT ?_
  refine Zab (vs:=[]) rfl (spiled_okP hPP hg2) ?_
  rintro v H3 ⟨_,rfl⟩
  refine wkT ?_
  rfl
 have hz:0<nB b:=oS_iff.1 h2
 rw[if_pos hz,if_pos hz]
 obtain⟨a1,a2,a3⟩:=ask_nums (b:=b)
 generalize (askF b).1=k at *
 generalize (askF b).2=left at *
 have hk:-1<=k∧k<=b.pts.length-1:=by
  rcases a1 with ⟨h,_⟩ | ⟨j,hj,h,_⟩<;>omega
 refine wbT ?_
 refine ZbZ (ι:=Unit) (fun _ H'=>H2=H') (fun _=>[(1,.int .u8 m),(2,vi 0),(5,vi k),(6,vi left),(8,vi (nB b))]) (fun _=>[(2,[vi b.op,vi b.sl,.slice Ap b.pts.length cp,.slice Ac b.cks.length cc])]) ?_ ?_
 ·refine wkT ?_
  refine Zab (vs:=[vi k,vi (-1),vi (b.pts.length-1)]) rfl (Zm6 _ _ _) ?_
  rintro v _ ⟨rfl,rfl⟩
  rw[decide_eq_true (show -1<=k∧k<=(b.pts.length:Int)-1 from hk)]
  refine wkT ?_
  refine wiT (fun h3=>?_) (fun h3=>?_)
  ·refine wkT ?_
   refine wiT (fun h4=>?_) (fun h4=>?_)
   ·exact absurd h4 (by rcases a1 with ⟨h,e⟩ | ⟨j,hj,h,_⟩<;>simp<;>omega)
   refine wkT ?_
   refine wiT (fun h5=>?_) (fun h5=>?_)
   ·exact absurd h5 (by omega)
   exact Waj
  ·refine wkT ?_
   refine wiT (fun h5=>?_) (fun h5=>?_)
   ·refine wkT ?_
    refine wiT (fun h6=>?_) (fun h6=>?_)
    ·exact absurd h6 (by rcases a1 with ⟨h,e⟩ | ⟨j,hj,h,e,e2⟩<;>omega)
    exact Waj
   ·exact absurd h5 (by omega)
 rintro _ _ rfl
 have hb2:=hb0.inc i2
 refine wkT ?_
 refine Zb3 (und Tryz.underlying5) (und Tryz.underlying3) rfl ?_
 rw[ZbO (show InR m from ⟨by omega,by omega⟩)]
 refine wkT ?_
 refine om_rem rfl rfl (by omega) ?_
 obtain⟨i,hi,ei⟩:=tmod_nat (n:=b.pts.length) hm.1 (by omega)
 rw[ei]
 refine wkT ?_
 refine Zab (vs:=[.agg #[vi b.op,vi b.sl,.slice Ap b.pts.length cp,.slice Ac b.cks.length cc],vi i]) rfl (WaC val hck hi hz hb2 hg2) ?_
 rintro v H3 ⟨i3,rfl⟩
 have b2:=a2 i hi
 have b3:=a3 i hi
 refine wbT ?_
 refine ZbZ (ι:=Unit) (fun _ H'=>H3=H') (fun _=>[(2,vi 0),(5,vi k),(6,vi left),(11,vi (askN b i)),(12,vb true)]) (fun _=>[(2,[vi b.op,vi b.sl,.slice Ap b.pts.length cp,.slice Ac b.cks.length cc])]) ?_ ?_
 ·refine wkT ?_
  refine wiT (fun h3=>?_) (fun h3=>?_)
  ·exact absurd h3 (by omega)
  refine wkT ?_
  refine wiT (fun h4=>?_) (fun h4=>?_)
  ·refine wkT ?_
   refine wiT (fun h5=>?_) (fun h5=>?_)
   ·refine wkT ?_
    refine wiT (fun h6=>?_) (fun h6=>?_)
    ·exact absurd h6 (by omega)
    exact Waj
   ·exact Waj
  ·exact Waj
 rintro _ _ rfl
 have hg3:=CellsAt.inc hg2 i3
 refine wkT ?_
 refine wiT (fun h7=>?_) (fun h7=>?_)
 ·rcases a1 with ⟨h,_⟩ | ⟨j,hj,rfl,e,e2⟩
  ·exact absurd h7 (by omega)
  refine wkT ?_
  refine Zab (vs:=[.agg #[vi b.op,vi b.sl,.slice Ap b.pts.length cp,.slice Ac b.cks.length cc],vi j]) rfl (WaC val hck hj hz (hb2.inc i3) hg3) ?_
  rintro v H4 ⟨i4,rfl⟩
  refine wkT ?_
  refine wiT (fun h8=>?_) (fun h8=>?_)
  ·refine wkT ?_
   refine Zab (vs:=[]) rfl (spiled_okP hPP (CellsAt.inc hg3 i4)) ?_
   rintro v H5 ⟨_,rfl⟩
   refine wkT ?_
   rfl
  ·exact absurd e.symm h8
 ·refine wkT ?_
  refine wiT (fun h8=>?_) (fun h8=>?_)
  ·refine wkT ?_
   refine Zab (vs:=[]) rfl (spiled_okP hPP hg3) ?_
   rintro v H5 ⟨_,rfl⟩
   refine wkT ?_
   rfl
  ·exact absurd h8 (by omega)
end
end Go.Proofs
end
section
open Go Go.LL Go.Conc Go.ConcM
namespace Go.Proofs.YtamdhefhhdgjbaaGreatDoor
open Go.ChangeShapes Go.WideShapes Go.ChangeAt Go.RowKit
set_option maxRecDepth 100000 in
theorem Wae (os:Os)(started:os.Started)(H:Type)(enc:TypeId×Value->H)(F:Stop.Interp) :
  ReturnsInLeavingWide { calm:=true } Tryz.checked os 12 .any (fun w args=>(Rows.spileAskedSpec.pre enc Tryz.prog Tryz.f12 [] false w args∧laidMetH Tryz.prog [("ribband/spile.checks",Rows.laid_ribband_spile_checks)] w)∧sizedMet enc Tryz.prog Tryz.f12 (OpenSpec.ofChange Rows.spileAskedSpec) false w args)
   ((OpenSpec.ofChange Rows.spileAskedSpec).postWith enc Tryz.prog Tryz.f12 F (outsideKept [.timePasses]) false true false):=by
 refine law_lifted os started F rfl Tryz.func12 Tryz.results12 (by kernel_rfl) (by kernel_rfl) ?_ ?_ ?_ #[.agg #[.int .i64 0,.int .i64 0,.slice none 0 0,.slice none 0 0],.int .u8 0] (by kernel_rfl) (by kernel_rfl) (by kernel_rfl)
 ·intro ds hl
  rw[Tryz.params12]at hl
  match ds,hl with
  | [d0,d1],_=>rfl
 ·have h:(Tryz.f12.params.toList.all fun t=>Tryz.prog.readableRec t && decide (t<Tryz.prog.types.size))=true:=by kernel_rfl
  intro t ht
  simpa using List.all_eq_true.1 h t ht
 ·intro W base args ds p hval hA hg
  rw[Tryz.params12]at hA hval
  obtain⟨v0,w0,d0,e0,p0,q0,ha,rfl,rfl,h0,r0⟩:=trodAll_cons hA
  obtain⟨v1,w1,d1,e1,p1,q1,rfl,rfl,rfl,h1,r1⟩:=trodAll_cons r0
  obtain⟨rfl,rfl,rfl⟩:=trodAll_nil r1
  obtain rfl:args=#[v0,v1]:=by cases args;simp_all
  obtain⟨b0,k0⟩:=bk_open (hval 0 25 v0 rfl rfl) h0
  obtain⟨n1,rfl,k1a,k1b⟩:=u8_open (hval 1 5 v1 rfl rfl) h1
  exact reach_top (args:=[v0,.int .u8 n1]) (isn c12) Tryz.func12 Tryz.results12 rfl (Was rfl k0 ⟨k1a,k1b⟩ hg)
theorem spileAsked_holds:Rows.SpileAskedSaid:=
 OpenClaim.holds_of_wide_leaving_time 12 Tryz.f12 rfl rfl rfl rfl rfl rfl rfl ⟨rfl,rfl,rfl,rfl,rfl⟩ rfl rfl rfl rfl rfl War Tryz.func12 Waq Wap Wao
  (fun os started H enc _ F=>Wae os started H enc F)
theorem spileAsked_card:Rows.SpileAskedCardSaid:=
 ZmC .later [.funcs] true (true,"7d20c1c653d3570dc0b3adced23199ecfee38ebbf859018ae9f3ecca83f03cb8") false
  spileAsked_holds (by kernel_rfl) spileAsked_row_tie rfl ⟨rfl,rfl⟩ (by kernel_rfl) rfl
  (fun f fn hf hfn=>by
   obtain rfl:f=12:=Option.some.inj (War.symm.trans hf) |>.symm
   obtain rfl:fn=Tryz.f12:=(Option.some.inj (Tryz.func12.symm.trans hfn)).symm
   exact⟨by kernel_rfl,fun j t ht=>by
    have hall:(Tryz.f12.params.all fun u=>!Tryz.prog.wantsStandIn u)=true:=by kernel_rfl
    have hm:=Array.mem_of_getElem? ht
    exact(show Tryz.prog.wantsStandIn t=false by simpa using (Array.all_eq_true_iff_forall_mem.1 hall) t hm)⟩)
  (by kernel_rfl)
end Go.Proofs.YtamdhefhhdgjbaaGreatDoor
end
