import Derived.Test.YthmnpenamnoniaaGreatDoorP28
set_option linter.all false
section
open Go Go.LL
namespace Go.Proofs
theorem t181:tiOf Tryz.prog 235=some (1,some .nilFunc,8):=by kernel_rfl
theorem zero_sm:(⟨0,0,0,0⟩:N4).Sm:=by
 intro j hj
 match j,hj with
 | 0,_=>exact⟨by decide,by decide⟩
 | 1,_=>exact⟨by decide,by decide⟩
 | 2,_=>exact⟨by decide,by decide⟩
 | 3,_=>exact⟨by decide,by decide⟩
section
variable  {P:Prg}[Tz P][Loud P]
set_option maxHeartbeats 1000000
theorem boats_iter {b:Bk}{pv cv:Value}(gd:Good b) :
  Iter P (.func (.func 90) #[.agg #[vi b.op,vi b.sl,pv,cv]] #[]) (fun H=>BkAt H (.agg #[vi b.op,vi b.sl,pv,cv]) b) ((Zae b).map Zfe):=by
 rintro y I S H ⟨yf,ya,yb,hyv⟩ hI hS hN hy hst0
 have hyc:y.cells=#[y]:=by rw[hyv];rfl
 have hs:=Loud.loud (P:=P)
 refine ZcY (by kernel_rfl) ?_
 refine IsN.m (isn c87) (args:=[.agg #[vi b.op,vi b.sl,pv,cv],y]) rfl ?_
 unfold n87
 generalize hxs:(Zae b).map Zfe=xs at *
 have hj0:JG .nil (Seq xs I ((Zae b).map Zfe++[])) H:=⟨H,.nil,(Hp.join_nil H).symm,Hp.comp_nil H,fun b x h=>by simp[Hp.nil]at h,by rw[List.append_nil,hxs];exact .start hst0⟩
 refine wkT ?_
 refine ZbW rfl (hs _) fun rb hrb=>?_
 have hj1:=hj0.new (.cells (Value.agg #[vi b.op,vi b.sl,pv,cv]).cells 113) hrb
 refine wkT ?_
 refine ZbW rfl (hs _) fun ry hry=>?_
 have hj2:=hj1.new (.cells y.cells 142) hry
 refine wkT ?_
 refine Zav (tif t181) (hs _) fun rn hrn=>?_
 have hj3:=hj2.new (.cells (Value.nilFunc).cells 235) hrn
 have n1:ry≠rb:=by rintro rfl;rw[Hp.ins_same]at hry;simp at hry
 have n2:rn≠ry:=by rintro rfl;rw[Hp.ins_same]at hrn;simp at hrn
 have n3:rn≠rb:=by rintro rfl;rw[Hp.ins_other _ _ (Ne.symm n1),Hp.ins_same]at hrn;simp at hrn
 refine wkT ?_
 refine Zci rfl rfl ?_
 refine wkT ?_
 refine Zaw (v:=nextV rb rn ry) (tif t181) rfl rfl (Hp.ins_same _ _ _) rfl rfl (hs _) ?_
 have hj4:=hj3.put (.cells #[nextV rb rn ry] 235) (Hp.ins_same _ _ _)
 have hf:Frm ((((Hp.nil.ins rb (.cells (Value.agg #[vi b.op,vi b.sl,pv,cv]).cells 113)).ins ry (.cells y.cells 142)).ins rn (.cells (Value.nilFunc).cells 235)).ins rn (.cells #[nextV rb rn ry] 235)) [vi b.op,vi b.sl,pv,cv] rb rn ry y 113 235 142:=by
  refine⟨?_,Hp.ins_same _ _ _,?_⟩
  ·rw[Hp.ins_other _ _ (Ne.symm n3),Hp.ins_other _ _ (Ne.symm n3),Hp.ins_other _ _ (Ne.symm n1)]
   exact Hp.ins_same _ _ _
  ·rw[Hp.ins_other _ _ (Ne.symm n2),Hp.ins_other _ _ (Ne.symm n2),<-hyc]
   exact Hp.ins_same _ _ _
 refine wkT ?_
 refine Zaf (hs _) rfl (Zan (hj4.inc _ _ hf.n)) ?_
 refine wkT ?_
 have hcall:=next_ok gd hI hS hN hy rb rn ry b.pts.length ⟨0,0,0,0⟩ [] _ _ (Nat.le_refl _) zero_sm hf hj4
 rw[Nat.sub_self]at hcall
 refine ZaP rfl rfl (ZcY (by kernel_rfl) hcall) ?_
 rintro v H7 (⟨rfl,h7⟩ | ⟨rfl,h7⟩)
 ·refine wkT ?_
  exact .inl (h7.up (ZjJ hI)).stop
 ·refine wkT ?_
  exact .inr (h7.up hS)
theorem ZjD {l:List Boat}{n:Nat}(hn:n<(l.map Zfe).length):(l.map Zfe)[n]=[ZaH (l[n]'(by simpa using hn))]:=by rw[List.getElem_map];rfl
def Zc6 (b:Bk):Bool:=!(Zae b).isEmpty
theorem Zi7 {H:Hp}{bv:Value}{b:Bk}(hb:BkAt H bv b)(gd:Good b):LL.Zag P 115 #[bv] H fun v H'=>Inc H H'∧v=vb (Zc6 b):=by
 have hs:=Loud.loud (P:=P)
 have hb0:=hb
 obtain⟨pv,cv,rfl,hp,hc⟩:=hb
 refine IsN.m (isn c119) (args:=[.agg #[vi b.op,vi b.sl,pv,cv]]) rfl ?_
 unfold n119
 refine wkT ?_
 refine ZbW rfl (hs _) fun r1 hr1=>?_
 refine wkT ?_
 refine Zav (tif t4) (hs _) fun r2 hr2=>?_
 have hi2:Inc H ((H.ins r1 (.cells (Value.agg #[vi b.op,vi b.sl,pv,cv]).cells 113)).ins r2 (.cells (vb false).cells 4)):=(Zai hr1).trans (Zai hr2)
 have h0:H r2=none:=Za9 (Zai hr1) hr2
 refine wkT ?_
 refine Zao (cs:=[vi b.op,vi b.sl,pv,cv]) (hs _) rfl (CellsAt.inc (Zar (cs:=[vi b.op,vi b.sl,pv,cv])) (Zai hr2)) rfl ?_
 refine wkT ?_
 refine Zci rfl rfl ?_
 refine wkT ?_
 refine ZeI hs rfl (boats_iter gd) (fun x hx=>by obtain⟨k,_,rfl⟩:=List.mem_map.1 hx;rfl)
  (fun n H'=>n=0∧Inc H H'∧H' r2=some (.cells #[vb false] 4,true)) (fun e H'=>e=.ret∧Inc H H'∧CellsAt H' ⟨r2,0,none⟩ [vb true]∧Zc6 b=true) ⟨rfl,hi2,Hp.ins_same _ _ _⟩
  (fun n H' J hc ⟨h1,h2,h3⟩=>⟨h1,h2.trans (ZaX _ _),Hp.join_left h3⟩) (fun e H' J hc ⟨h1,h2,h3,h4⟩=>⟨h1,h2.trans (ZaX _ _),h3.inc (ZaX _ _),h4⟩) (fun n H' h=>hb0.inc h.2.1) ?_ ?_ ?_
 ·rintro n hn H3 ⟨rfl,g1,g2⟩
  have hsome:Zc6 b=true:=by
   rw[List.length_map]at hn
   cases hh:Zae b with
   | nil=>rw[hh]at hn;simp at hn
   | cons x l=>rw[Zc6,hh];rfl
  rw[ZjD hn]
  refine wkT ?_
  refine Zaw (tif t4) rfl rfl g2 rfl rfl (hs _) ?_
  refine wkT ?_
  exact⟨rfl,Za6 g1 h0,Zar,hsome⟩
 ·rintro H3 ⟨g0,g1,g2⟩
  have hno:Zc6 b=false:=by
   rw[List.length_map]at g0
   rw[Zc6,List.eq_nil_of_length_eq_zero g0];rfl
  refine wkT ?_
  refine Zaw (tif t4) rfl rfl g2 rfl rfl (hs _) ?_
  refine wkT ?_
  refine Zct (vs:=[vb false]) rfl (hs _) ⟨⟨_,rfl,Zar⟩,trivial⟩ ?_
  exact⟨Za6 g1 h0,by rw[hno];rfl⟩
 ·rintro e H3 he ⟨rfl,g1,g2,g3⟩
  refine wkT ?_
  refine Zct (vs:=[vb true]) rfl (hs _) ⟨⟨_,rfl,g2⟩,trivial⟩ ?_
  exact⟨g1,by rw[g3];rfl⟩
end
theorem Zkw {n:Nat}:∀ {l:List SCk},ckS n l=0->∀ c∈l,(0<=c.p∧c.p<n)∧(-199<=c.gl∧c.gl<=c.gh∧c.gh<=199)
 | [],_,c,h=>by simp at h
 | a :: l,h,c,hc=>by
  rw[ckS]at h
  split at h
  ·simp at h
  ·split at h
   ·simp at h
   ·rcases List.mem_cons.1 hc with rfl | hc
    ·exact⟨by omega,by omega⟩
    ·exact Zkw h c hc
structure Zen (b:Bk):Prop where
 op:0<=b.op∧b.op<=99
 sl:0<=b.sl∧b.sl<=3
 n:2<=b.pts.length∧b.pts.length<=4
 pts:∀ i (h:i<b.pts.length),(0<=b.pts[i].ml∧b.pts[i].ml<=b.pts[i].mh∧b.pts[i].mh<=99)∧b.pts[i].mh-b.pts[i].ml<3∧(0<=b.pts[i].bl∧b.pts[i].bl<=b.pts[i].bh∧b.pts[i].bh<=199)∧(0<=b.pts[i].w∧b.pts[i].w<=199)
 ckn:b.cks.length<=3
 cks:∀ c∈b.cks,(0<=c.p∧c.p<b.pts.length)∧(-199<=c.gl∧c.gl<=c.gh∧c.gh<=199)
theorem ZaR {b:Bk}(h:snag b=0):Zen b:=by
 unfold snag at h
 split at h
 ·rename_i h1;exact absurd h h1
 rename_i h1
 split at h
 ·rename_i h2;exact absurd h h2
 rename_i h2
 have h1:Zbj b=0:=Classical.byContradiction h1
 have h2:Zbk b=0:=Classical.byContradiction h2
 have g1:(0<=b.op∧b.op<=99)∧(0<=b.sl∧b.sl<=3):=by
  unfold Zbj at h1
  split at h1
  ·assumption
  ·simp at h1
 unfold Zbk at h2
 split at h2
 ·simp at h2
 rename_i g2
 have g3:b.pts.all okP=true:=by
  split at h2
  ·assumption
  ·simp at h2
 have g2':2<=b.pts.length∧b.pts.length<=4:=Classical.byContradiction g2
 unfold ZbJ at h
 split at h
 ·simp at h
 refine⟨g1.1,g1.2,g2',fun i hi=>?_,by omega,Zkw h⟩
 have:=List.all_eq_true.1 g3 b.pts[i] (List.getElem_mem hi)
 simp only[okP,Bool.and_eq_true,decide_eq_true_eq]at this
 exact⟨this.1.1.1,this.1.1.2,this.1.2,this.2⟩
theorem Zen.good {b:Bk}(v:Zen b):Good b where
 bk:=⟨⟨by have:=v.op;omega,by have:=v.op;omega⟩,v.n.2⟩
 pts:=⟨fun i h=>by obtain⟨_,_,h3,_⟩:=v.pts i h;exact⟨by omega,by omega⟩,fun i h=>by obtain⟨_,_,h3,_⟩:=v.pts i h;exact⟨by omega,by omega⟩,fun i h=>by obtain⟨_,_,_,h4⟩:=v.pts i h;exact⟨by omega,by omega⟩⟩
 cks:=fun c hc=>by have h1:=(v.cks c hc).1;have h2:=v.n.2;exact⟨h1.1,by omega⟩
 ckl:=by have:=v.ckn;omega
 two:=v.n.1
 sl0:=v.sl.1
 sl3:=v.sl.2
 wide:=fun i h=>(v.pts i h).2.1
 ml:=fun i h=>by obtain⟨h1,_⟩:=v.pts i h;exact⟨by omega,by omega⟩
 mh:=fun i h=>by obtain⟨h1,_⟩:=v.pts i h;exact⟨by omega,by omega⟩
theorem ZiI (bf:Int)(sl:Nat):∀ r,(innerR bf sl r).length<=r
 | 0=>by simp[innerR]
 | r+1=>by
  rw[innerR]
  have:=ZiI bf sl r
  split
  ·omega
  ·simp;omega
theorem Zio (n sl:Nat):∀ r,(outerR n sl r).length<=r * (2 * sl+1)
 | 0=>by simp[outerR]
 | r+1=>by
  rw[outerR,List.length_append]
  have h1:=ZiI ((n:Int)-(r+1:Nat)) sl (2 * sl+1)
  have h2:=Zio n sl r
  have h3:=Nat.succ_mul r (2 * sl+1)
  rw[Nat.succ_eq_add_one]at h3
  omega
theorem ZfK {b:Bk}(v:Zen b):(ZaB b).length<=22:=by
 obtain⟨h1,h2⟩:=v.sl
 obtain⟨h3,h4⟩:=v.n
 have:=Zio b.pts.length b.sl.toNat (b.pts.length-1)
 have e:(b.pts.length-1) * (2 * b.sl.toNat+1)<=3 * 7:=Nat.mul_le_mul (by omega) (by omega)
 simp only[ZaB,List.length_cons]
 omega
theorem ZjQ {f:Int->List Boat}{hi:Int}{k:Nat}(hf:∀ v,(f v).length<=k):∀ c,(spanR f hi c).length<=c * k
 | 0=>by simp[spanR]
 | c+1=>by
  rw[spanR,List.length_append,Nat.succ_mul]
  have:=hf (hi-c)
  have:=ZjQ (hi:=hi) hf c
  omega
theorem Zkp {b:Bk}(v:Zen b):∀ r,r<=b.pts.length->∀ m,(boatsFrom b r m).length<=3 ^ r * 22
 | 0,_,m=>by
  rw[boatsFrom]
  have h1:=List.length_filter_le (ZgM b) ((ZaB b).map fun k=>(⟨m,k.bf,k.by_⟩:Boat))
  have h2:=ZfK v
  rw[List.length_map]at h1
  omega
 | r+1,hr,m=>by
  rw[boatsFrom]
  have h1:=ZjQ (f:=fun v=>boatsFrom b r (m.put (b.pts.length-(r+1)) v)) (hi:=(ptAt b (b.pts.length-(r+1))).mh) (fun w=>Zkp v r (by omega) _) ((ptAt b (b.pts.length-(r+1))).mh-(ptAt b (b.pts.length-(r+1))).ml+1).toNat
  have hi:b.pts.length-(r+1)<b.pts.length:=by omega
  have e:ptAt b (b.pts.length-(r+1))=b.pts[b.pts.length-(r+1)]:=Zbc hi _
  obtain⟨_,h3,_⟩:=v.pts _ hi
  rw[e]at h1 ⊢
  refine Nat.le_trans h1 ?_
  rw[Nat.pow_succ,Nat.mul_comm (3 ^ r) 3,Nat.mul_assoc]
  exact Nat.mul_le_mul_right _ (by omega)
theorem Zbp {b:Bk}(v:Zen b):(Zae b).length<=1782:=by
 have h1:=Zkp v b.pts.length (Nat.le_refl _) ⟨0,0,0,0⟩
 have h2:3 ^ b.pts.length<=3 ^ 4:=Nat.pow_le_pow_right (by omega) v.n.2
 unfold Zae
 omega
theorem ZmP {H0 H H':Hp}{b b':Option Nat}(hs:Inc H0 H)(hf:∀ r,b=some r->H0 r=none)(c:Chg H H' b b'):Inc H0 H':=
 fun d y hd=>c.keep d y (hs d y hd) (fun e=>by rw[hf d e]at hd;simp at hd)
theorem Own.freshI {α:Type}[Enc α]{H0 H H':Hp}{E:TypeId}{v:Value}{l:List α}{b b':Option Nat}(hs:Inc H0 H)(h:Own H0 H E v l b)(c:Chg H H' b b'):∀ r,b'=some r->H0 r=none:=by
 rcases c.new with rfl | ⟨r,rfl,hr⟩
 ·exact h.fresh
 ·intro r' e
  obtain rfl:=Option.some.inj e
  exact Za9 hs hr
theorem Own.inc {α:Type}[Enc α]{H0 H H':Hp}{E:TypeId}{v:Value}{l:List α}{b:Option Nat}(h:Own H0 H E v l b)(hi:Inc H H'):Own H0 H' E v l b:=⟨h.own.sub fun c y _ hc=>hi c y hc,h.fresh⟩
section
variable  {P:Prg}{H:Hp}{d:Option Nat}{next:NSt->Hp->Prop}{σ:NSt}{x y:Operand}
theorem ZbU {α:Type}[Enc α]{H0:Hp}{sT sT' E T:TypeId}{by_:Nat}{zv s w:Value}{l l':List α}{b:Option Nat}(hu:P.toProgram.underlying sT=some (.slice E))(hu':P.toProgram.underlying sT'=some (.slice E))(ti:TI P.toProgram E (Enc.sz α) zv by_)(hz:zv.cells.size=Enc.sz α)(he:0<Enc.sz α)
  (hs:Inc H0 H) (ho:Own H0 H E s l b) (hw:SlAt H w l') (h1:((encs l').all Value.isOne)=true) (hb1:l.length+l'.length<=1000000000) (hb2:by_<=1000) (e1:σ.get x=some s) (e2:σ.get y=some w) (hst:P.still H.gh=false)
  (h:∀ v' H' b',Inc H0 H'->Own H0 H' E v' (l++l') b'->Chg H H' b b'->next (σ.set d v') H'):(NOp.raw (.call { callee:=.builtin .append,args:=#[x,y],argTypes:=#[sT,sT'] }) T).m P d next σ H:=by
 obtain⟨A,c,rfl,h2⟩:=hw
 by_cases hn:l'=[]
 ·subst hn
  refine Zdf hu hu' ti hz he e1 e2 ho.own (m:=0) (xs:=[]) (.inl ⟨rfl,A,c,rfl⟩) (by simp) rfl hb1 hb2 hst fun v' H' b' g1 g2=>?_
  exact h v' H' b' (ZmP hs ho.fresh g2) ⟨by simpa using g1,ho.freshI hs g2⟩ g2
 ·obtain⟨a,rfl,hc⟩:=h2 hn
  refine Zdf hu hu' ti hz he e1 e2 ho.own (m:=l'.length) (xs:=encs l') (.inr ⟨a,c,rfl,hc⟩) (Zck l') h1 hb1 hb2 hst fun v' H' b' g1 g2=>?_
  refine h v' H' b' (ZmP hs ho.fresh g2) ⟨?_,ho.freshI hs g2⟩ g2
  rw[Zcd,List.length_append]
  exact g1
end
theorem u110:Tryz.prog.underlying 135=some (.slice 117):=by kernel_rfl
theorem t110:tiOf Tryz.prog 135=some (1,some (.slice none 0 0),24):=by kernel_rfl
section
variable  {P:Prg}[Tz P][Loud P]{H:Hp}
set_option maxHeartbeats 1000000
theorem ZfA {bv:Value}{b:Bk}(hb:BkAt H bv b)(hg:Zbh H)(hl:b.pts.length<=1000000)(hl2:b.cks.length<=1000000):LL.Zag P 32 #[bv] H fun v H'=>Inc H H'∧v=.tuple #[vi (if snag b=0 then (Zae b).length else 0),vi (snag b)]:=by
 have hs:=Loud.loud (P:=P)
 have hb0:=hb
 obtain⟨pv,cv,rfl,hp,hc⟩:=hb
 refine IsN.m (isn c19) (args:=[.agg #[vi b.op,vi b.sl,pv,cv]]) rfl ?_
 unfold n19
 refine wkT ?_
 refine ZbW rfl (hs _) fun r1 hr1=>?_
 have hi1:=Zai (o:=.cells (Value.agg #[vi b.op,vi b.sl,pv,cv]).cells 25) hr1
 have c1:CellsAt (H.ins r1 (.cells (Value.agg #[vi b.op,vi b.sl,pv,cv]).cells 25)) ⟨r1,0,none⟩ [vi b.op,vi b.sl,pv,cv]:=Zar
 generalize H.ins r1 (.cells (Value.agg #[vi b.op,vi b.sl,pv,cv]).cells 25)=H1 at *
 refine wkT ?_
 refine Zao (hs _) rfl c1 rfl ?_
 refine wkT ?_
 refine Zab (vs:=[.agg #[vi b.op,vi b.sl,pv,cv]]) rfl (ZaJ (hb0.inc hi1) (CellsAt.inc hg hi1) hl hl2 (hs _)) ?_
 rintro v _ ⟨rfl,rfl⟩
 refine wkT ?_
 refine wiT (fun h1=>?_) (fun h1=>?_)
 ·refine wkT ?_
  exact⟨hi1,by rw[if_neg h1];rfl⟩
 ·have val:=ZaR h1
  have hlen:=Zbp val
  refine wkT ?_
  refine Zav (tif t3) (hs _) fun r5 hr5=>?_
  have hi5:=Zai (o:=.cells (vi 0).cells 3) hr5
  refine wkT ?_
  refine Zaw (tif t3) rfl rfl (Hp.ins_same _ _ _) rfl rfl (hs _) ?_
  rw[Zbb]
  refine wkT ?_
  refine Zao (hs _) rfl (c1.inc (Zai hr5)) rfl ?_
  refine wkT ?_
  refine Zci rfl rfl ?_
  refine wkT ?_
  refine ZeI hs rfl (boats_iter (pv:=pv) (cv:=cv) val.good) (fun x hx=>by obtain⟨k,_,rfl⟩:=List.mem_map.1 hx;rfl)
   (fun n H'=>n<=(Zae b).length∧Inc H1 H'∧H' r5=some (.cells #[vi n] 3,true)) (fun e H'=>False) ⟨Nat.zero_le _,Zai hr5,Hp.ins_same _ _ _⟩
   (fun n H' J hc ⟨h1,h2,h3⟩=>⟨h1,h2.trans (ZaX _ _),Hp.join_left h3⟩) (fun e H' J hc h=>h) (fun n H' h=>(hb0.inc hi1).inc h.2.1) ?_ ?_ ?_
  ·rintro n hn H3 ⟨g0,g1,g2⟩
   rw[ZjD hn]
   rw[List.length_map]at hn
   refine wkT ?_
   refine Zaf (hs _) rfl (Zan (cs:=[vi n]) g2) ?_
   refine wkT ?_
   refine Zaw (tif t3) rfl rfl g2 rfl rfl (hs _) ?_
   refine wkT ?_
   exact⟨hn,Za6 g1 hr5,Hp.ins_same _ _ _⟩
  ·rintro H3 ⟨g0,g1,g2⟩
   rw[List.length_map]at g2
   refine wkT ?_
   refine Zaf (hs _) rfl (Zan (cs:=[vi (Zae b).length]) g2) ?_
   refine wkT ?_
   exact⟨hi1.trans g1,by rw[if_pos h1,h1];rfl⟩
  ·rintro e H3 he h
   exact h.elim
end
def ZhB (b:Bk)(pv cv w:Value):Value:=.agg #[vi b.op,vi b.sl,pv,cv,w]
def Zmc:Value:=.agg #[vi 0,vi 0,.slice none 0 0,.slice none 0 0,.slice none 0 0]
def Zah (b:Bk)(there:Bool):Int:=if snag b≠0 then snag b else if there=false then 6 else if (Zae b).length=0 then 9 else 0
section
variable  {P:Prg}[Tz P][Loud P]{H:Hp}
set_option maxHeartbeats 1000000
theorem Zi0 {fv:Value}{l:List Boat}{N:Hp->Prop}(hit:Iter P fv N (l.map Zfe))(hN:∀ H',Inc H H'->N H')(hl:l.length<=1000000):LL.Zag P 185 #[.slice none 0 0,fv] H fun v H'=>Inc H H'∧∃ bb,Own H H' 117 v l bb:=by
 have hs:=Loud.loud (P:=P)
 refine IsN.m (isn c178) (args:=[.slice none 0 0,fv]) rfl ?_
 unfold n178
 refine wkT ?_
 refine ZbW rfl (hs _) fun r2 hr2=>?_
 refine wkT ?_
 refine ZeI hs rfl hit (fun x hx=>by obtain⟨k,_,rfl⟩:=List.mem_map.1 hx;rfl)
  (fun n H'=>Inc H H'∧∃ v bb,H' r2=some (.cells #[v] 135,true)∧Own H H' 117 v (l.take n) bb∧bb≠some r2) (fun e H'=>False) ⟨Zai hr2,_,none,Hp.ins_same _ _ _,.nil H _ 117,by simp⟩
  (fun n H' J hc ⟨h1,v,bb,h2,h3,h4⟩=>⟨h1.trans (ZaX _ _),v,bb,Hp.join_left h2,h3.inc (ZaX _ _),h4⟩) (fun e H' J hc h=>h) (fun n H' h=>hN _ h.1) ?_ ?_ ?_
 ·rintro n hn H3 ⟨g1,v,bb,g2,g3,g4⟩
  rw[ZjD hn]
  rw[List.length_map]at hn
  have htake:l.take (n+1)=l.take n++[l[n]]:=by rw[List.take_succ_eq_append_getElem hn]
  generalize l[n]=x at *
  have h2:H r2=none:=hr2
  refine wkT ?_
  refine Zav (tif t121) (hs _) fun r5 hr5=>?_
  refine wkT ?_
  refine Zay (v:=ZaH x) (tif t121) (cs:=[vi 0,vi 0,vi 0,vi 0,vi 0,vi 0]) rfl rfl (Hp.ins_same _ _ _) rfl rfl rfl (hs _) ?_
  rw[Zbb]
  have g1':=g1.trans (Zai (o:=.cells (ZaH x).cells 117) hr5)
  have g2':=Zai (o:=.cells (ZaH x).cells 117) hr5 _ _ g2
  have g3':=g3.ins (o:=.cells (ZaH x).cells 117) hr5
  have c5:CellsAt (H3.ins r5 (.cells (ZaH x).cells 117)) ⟨r5,0,none⟩ x.cells:=Zar
  generalize H3.ins r5 (.cells (ZaH x).cells 117)=H4 at *
  refine wkT ?_
  refine Zaf (hs _) rfl (Zan (cs:=[v]) g2') ?_
  refine wkT ?_
  refine Zao (hs _) rfl c5 rfl ?_
  refine wkT ?_
  refine Zat (cs:=x.cells) (hs _) rfl fun r6 hr6=>?_
  refine wkT ?_
  have hv1:v.cells=#[v]∧Value.isOne v=true:=by
   obtain⟨_,⟨e,_⟩ | ⟨_,_,_,_,e,_⟩⟩:=g3.own<;>(subst e;exact⟨rfl,rfl⟩)
  refine ZbU (l':=[x]) (und u110) (und u110) (tif t121) rfl (by decide) (g1'.trans (Zai hr6)) (g3'.ins hr6) (Za3 (l:=[x])) rfl (by simp;omega) (by omega) rfl rfl (hs _) fun v' H6 b' k1 k2 k3=>?_
  have g6:H6 r2=some (.cells #[v] 135,true):=k3.keep r2 _ (Zai hr6 _ _ g2') (fun e=>g4 e)
  have hv':v'.cells=#[v']∧Value.isOne v'=true:=by
   obtain⟨_,⟨e,_⟩ | ⟨_,_,_,_,e,_⟩⟩:=k2.own<;>(subst e;exact⟨rfl,rfl⟩)
  have hb':b'≠some r2:=by
   rcases k3.new with rfl | ⟨q,rfl,hq⟩
   ·exact g4
   ·rintro e
    obtain rfl:=Option.some.inj e
    rw[Zai hr6 _ _ g2']at hq;simp at hq
  refine wkT ?_
  refine Zaw (v:=v') (tif t110) rfl rfl g6 hv'.1 hv'.2 (hs _) ?_
  refine wkT ?_
  refine⟨Za6 k1 h2,v',b',Hp.ins_same _ _ _,?_,hb'⟩
  rw[htake]
  refine⟨k2.own.sub fun c z e hc=>?_,k2.fresh⟩
  rw[Hp.ins_other _ _ (by rintro rfl;exact hb' e)];exact hc
 ·rintro H3 ⟨g1,v,bb,g2,g3,g4⟩
  rw[List.length_map,List.take_length]at g3
  refine wkT ?_
  refine Zaf (hs _) rfl (Zan (cs:=[v]) g2) ?_
  refine wkT ?_
  exact⟨g1,bb,g3⟩
 ·rintro e H3 he h
  exact h.elim
theorem Zlu {fv:Value}{l:List Boat}{N:Hp->Prop}(hit:Iter P fv N (l.map Zfe))(hN:∀ H',Inc H H'->N H')(hl:l.length<=1000000):LL.Zag P 134 #[fv] H fun v H'=>Inc H H'∧∃ bb,Own H H' 117 v l bb:=by
 have hs:=Loud.loud (P:=P)
 refine IsN.m (isn c146) (args:=[fv]) rfl ?_
 unfold n146
 refine wkT ?_
 refine Zab (vs:=[.slice none 0 0,fv]) rfl (Zi0 hit hN hl) ?_
 rintro v H' h
 refine wkT ?_
 exact h
theorem ZdO {bv fv:Value}{b:Bk}{there:Bool}(hb:BkAt H bv b)(hg:Zbh H)(hl:b.pts.length<=1000000)(hl2:b.cks.length<=1000000)(hf:CallV P fv #[bv] H fun v H'=>H=H'∧v=vb there) :
  LL.Zag P 64 #[bv,fv] H fun v H'=>Inc H H'∧((Zah b there≠0∧v=.tuple #[Zmc,vi (Zah b there)])∨(Zah b there=0∧∃ pv cv w bb,bv=.agg #[vi b.op,vi b.sl,pv,cv]∧v=.tuple #[ZhB b pv cv w,vi 0]∧Own H H' 117 w (Zae b) bb)):=by
 have hs:=Loud.loud (P:=P)
 have hb0:=hb
 obtain⟨pv,cv,rfl,hp,hc⟩:=hb
 have one:∀ {α:Type} [Enc α] {v:Value} {l:List α},SlAt H v l->v.cells=#[v]∧Value.isOne v=true:=fun h=>by
  obtain⟨A,c,rfl,_⟩:=h;exact⟨rfl,rfl⟩
 obtain⟨o1,o2⟩:=one hp
 obtain⟨o3,o4⟩:=one hc
 obtain⟨Ap,cp,rfl,hp'⟩:=hp
 obtain⟨Ac,cc,rfl,hc'⟩:=hc
 refine IsN.m (isn c89) (args:=[.agg #[vi b.op,vi b.sl,.slice Ap b.pts.length cp,.slice Ac b.cks.length cc],fv]) rfl ?_
 unfold n89
 refine wkT ?_
 refine Zab (vs:=[.agg #[vi b.op,vi b.sl,.slice Ap b.pts.length cp,.slice Ac b.cks.length cc]]) rfl (ZaJ hb0 hg hl hl2 (hs _)) ?_
 rintro v _ ⟨rfl,rfl⟩
 refine wkT ?_
 refine wiT (fun h1=>?_) (fun h1=>?_)
 ·refine wkT ?_
  exact⟨.refl H,.inl ⟨by rw[Zah,if_pos h1];exact h1,by rw[Zah,if_pos h1];rfl⟩⟩
 ·have val:=ZaR h1
  refine wkT ?_
  refine ZaP (vs:=[.agg #[vi b.op,vi b.sl,.slice Ap b.pts.length cp,.slice Ac b.cks.length cc]]) rfl rfl hf ?_
  rintro v _ ⟨rfl,rfl⟩
  refine wkT ?_
  cases there with
  | false=>
   refine wkT ?_
   have e:Zah b false=6:=by rw[Zah,if_neg (by omega),if_pos rfl]
   exact⟨.refl H,.inl ⟨by rw[e];decide,by rw[e];rfl⟩⟩
  | true=>
   refine wkT ?_
   refine Zci rfl rfl ?_
   refine wkT ?_
   refine Zab (vs:=[.func (.func 90) #[.agg #[vi b.op,vi b.sl,.slice Ap b.pts.length cp,.slice Ac b.cks.length cc]] #[]]) rfl (Zlu (boats_iter val.good) (fun H' hi=>hb0.inc hi) (by have:=Zbp val;omega)) ?_
   rintro v H1 ⟨hi1,bb,ow⟩
   obtain⟨Aw,cw,rfl,_⟩:=ow.sl
   refine wkT ?_
   refine wiT (fun h2=>?_) (fun h2=>?_)
   ·have e:Zah b true=9:=by rw[Zah,if_neg (by omega),if_neg (by simp),if_pos (by omega)]
    refine wkT ?_
    exact⟨hi1,.inl ⟨by rw[e];decide,by rw[e];rfl⟩⟩
   ·have e:Zah b true=0:=by rw[Zah,if_neg (by omega),if_neg (by simp),if_neg (by omega)]
    refine wkT ?_
    exact⟨hi1,.inr ⟨e,_,_,_,bb,rfl,rfl,ow⟩⟩
end
def In99 (m:N4):Prop:=∀ j,j<4->0<=m.get j∧m.get j<=99
theorem ZhV {bf:Int}{sl:Nat}:∀ r,r<=2 * sl+1->∀ k∈innerR bf sl r,k.bf=bf∧-(sl:Int)<=k.by_∧k.by_<=sl∧k.by_≠0
 | 0,_,k,h=>by simp[innerR]at h
 | r+1,hr,k,h=>by
  rw[innerR]at h
  split at h
  ·exact ZhV r (by omega) k h
  ·rename_i hn
   rcases List.mem_cons.1 h with rfl | h
   ·exact⟨rfl,by show -(sl:Int)<=(sl:Int)-r;omega,by show (sl:Int)-r<=sl;omega,hn⟩
   ·exact ZhV r (by omega) k h
theorem Zj4 {n sl:Nat}:∀ r,r+1<=n->∀ k∈outerR n sl r,(1<=k.bf∧k.bf<n)∧-(sl:Int)<=k.by_∧k.by_<=sl∧k.by_≠0
 | 0,_,k,h=>by simp[outerR]at h
 | r+1,hr,k,h=>by
  rw[outerR]at h
  rcases List.mem_append.1 h with h | h
  ·obtain⟨h1,h2⟩:=ZhV _ (Nat.le_refl _) k h
   exact⟨⟨by omega,by omega⟩,h2⟩
  ·exact Zj4 r (by omega) k h
theorem ZjR {b:Bk}(v:Zen b):∀ k∈ZaB b,-3<=k.by_∧k.by_<=3:=by
 intro k h
 have:=v.sl;have:=v.n
 rcases List.mem_cons.1 h with rfl | h
 ·exact⟨by show (-3:Int)<=0;omega,by show (0:Int)<=3;omega⟩
 ·have:=Zj4 _ (by omega) k h
  omega
theorem ZjP {f:Int->List Boat}{hi:Int}{x:Boat}:∀ {c:Nat},x∈spanR f hi c->∃ v,hi-c<v∧v<=hi∧x∈f v
 | 0,h=>by simp[spanR]at h
 | c+1,h=>by
  rw[spanR]at h
  rcases List.mem_append.1 h with h | h
  ·exact⟨hi-c,by omega,by omega,h⟩
  ·obtain⟨v,h1,h2,h3⟩:=ZjP h
   exact⟨v,by omega,h2,h3⟩
theorem ZmD {b:Bk}(v:Zen b):∀ r,r<=b.pts.length->∀ m,In99 m->∀ x∈boatsFrom b r m,In99 x.m∧-3<=x.by_∧x.by_<=3
 | 0,_,m,hm,x,h=>by
  rw[boatsFrom]at h
  obtain⟨k,hk,rfl⟩:=List.mem_map.1 (List.mem_filter.1 h).1
  exact⟨hm,ZjR v k hk⟩
 | r+1,hr,m,hm,x,h=>by
  rw[boatsFrom]at h
  have hi:b.pts.length-(r+1)<b.pts.length:=by omega
  rw[show ptAt b (b.pts.length-(r+1))=b.pts[b.pts.length-(r+1)] from Zbc hi _]at h
  obtain⟨p1,_⟩:=v.pts _ hi
  obtain⟨w,h1,h2,h3⟩:=ZjP h
  refine ZmD v r (by omega) _ (fun j hj=>?_) x h3
  rw[N4.put_get _ _ hj]
  split
  ·omega
  ·exact hm j hj
theorem zero_99:In99 ⟨0,0,0,0⟩:=by
 intro j hj
 match j,hj with
 | 0,_=>exact⟨by decide,by decide⟩
 | 1,_=>exact⟨by decide,by decide⟩
 | 2,_=>exact⟨by decide,by decide⟩
 | 3,_=>exact⟨by decide,by decide⟩
theorem ZcZ {b:Bk}(v:Zen b):∀ x∈Zae b,In99 x.m∧-3<=x.by_∧x.by_<=3:=ZmD v _ (Nat.le_refl _) _ zero_99
theorem Zdo {x:Boat}(h:In99 x.m∧-3<=x.by_∧x.by_<=3):BtOk x:=⟨fun j hj=>by have:=h.1 j hj;exact⟨by omega,by omega⟩,⟨by omega,by omega⟩⟩
theorem gap_in {b:Bk}{x:Boat}(v:Zen b)(h:In99 x.m∧-3<=x.by_∧x.by_<=3):∀ j,j<4->-102<=(Zas b x).get j∧(Zas b x).get j<=102:=by
 intro j hj
 have:=h.1 j hj;have:=v.op
 rw[Zas,N4.of_get _ hj]
 split
 ·unfold Zk4
  split<;>omega
 ·omega
theorem Zko {b:Bk}{x:Boat}(v:Zen b)(h:In99 x.m∧-3<=x.by_∧x.by_<=3):(Zas b x).Sm:=fun j hj=>by have:=gap_in v h j hj;exact⟨by omega,by omega⟩
def Zhp (k n:Nat):Int:=if k=0 then 2 else if k=n then 1 else 0
theorem Zjt {α:Type}{f:α->Bool}{l:List α}{j:Nat}(hj:j<l.length):((l.take (j+1)).filter f).length=((l.take j).filter f).length+if f l[j] then 1 else 0:=by
 rw[List.take_succ_eq_append_getElem hj,List.filter_append,List.length_append]
 cases h:f l[j]<;>simp[List.filter_cons,h]
section
variable  {P:Prg}[Tz P][Loud P]{H:Hp}
set_option maxHeartbeats 1000000
theorem ZlJ {b:Bk}{pv cv w fv:Value}{l:List Boat}{f:Boat->Bool}(hw:SlAt H w l)(hl:l.length<=1000000)(hpc:(pv.cells=#[pv]∧Value.isOne pv=true)∧(cv.cells=#[cv]∧Value.isOne cv=true))(hf:∀ x∈l,∀ H',Inc H H'->CallV P fv #[ZaH x] H' fun v H''=>Inc H' H''∧v=vb (f x)) :
  LL.Zag P 66 #[ZhB b pv cv w,fv] H fun v H'=>Inc H H'∧v=vi (Zhp (l.filter f).length l.length):=by
 have hs:=Loud.loud (P:=P)
 refine IsN.m (isn c91) (args:=[ZhB b pv cv w,fv]) rfl ?_
 unfold n91
 refine wkT ?_
 refine Zau hw rfl ?_
 refine wkT ?_
 refine ZaW l.length (fun j H'=>Inc H H') (fun j=>[(1,fv),(2,vi 0),(5,vi ((l.take j).filter f).length),(9,w),(10,vi l.length),(11,vi j)]) (fun j=>[(2,[vi b.op,vi b.sl,pv,cv,w])]) (.refl H) ⟨rfl,rfl,rfl,rfl,rfl,rfl,trivial⟩ ⟨rfl,trivial⟩ ?_
 intro j H1 hj hi1
 refine wkT ?_
 refine wiT (fun h1=>?_) (fun h1=>?_)
 ·have hj':j<l.length:=by omega
  have hc:=Zjt (f:=f) hj'
  have hle:((l.take j).filter f).length<=l.length:=Nat.le_trans (List.length_filter_le _ _) (by rw[List.length_take];omega)
  refine wkT ?_
  refine ZaE (hw.inc hi1) rfl rfl rfl (i:=j) hj' fun a ha=>?_
  refine wkT ?_
  refine Zao (hs _) rfl ha rfl ?_
  refine wkT ?_
  refine ZaP (vs:=[ZaH l[j]]) rfl rfl (hf l[j] (List.getElem_mem hj') H1 hi1) ?_
  rintro v H2 ⟨hi2,rfl⟩
  refine wkT ?_
  refine wiT (fun h2=>?_) (fun h2=>?_)
  ·rw[if_pos h2]at hc
   refine wkT ?_
   exact⟨⟨j+1,by omega⟩,slt (by omega),hi1.trans hi2,⟨rfl,rfl,by rw[hc];rfl,rfl,rfl,rfl,trivial⟩,⟨rfl,trivial⟩,rfl⟩
  ·rw[if_neg (by simp[h2])]at hc
   refine wkT ?_
   exact⟨⟨j+1,by omega⟩,slt (by omega),hi1.trans hi2,⟨rfl,rfl,by rw[hc];rfl,rfl,rfl,rfl,trivial⟩,⟨rfl,trivial⟩,rfl⟩
 ·have:j=l.length:=by omega
  subst this
  rw[List.take_length]
  refine wkT ?_
  refine wiT (fun h2=>?_) (fun h2=>?_)
  ·refine wkT ?_
   exact⟨hi1,by rw[Zhp,if_pos (by omega)];rfl⟩
  ·refine wkT ?_
   refine Zau (hw.inc hi1) rfl ?_
   refine wkT ?_
   refine wiT (fun h3=>?_) (fun h3=>?_)
   ·refine wkT ?_
    exact⟨hi1,by rw[Zhp,if_neg (by omega),if_pos (by omega)];rfl⟩
   ·refine wkT ?_
    exact⟨hi1,by rw[Zhp,if_neg (by omega),if_neg (by omega)];rfl⟩
theorem Zeu {bv:Value}:CallV P (vf 65) #[bv] H fun v H'=>H=H'∧v=vb true:=ZcY (by kernel_rfl) (whole_ok (Loud.loud _))
theorem Zip {b:Bk}(h:Zah b true=0):snag b=0∧1<=(Zae b).length:=by
 unfold Zah at h
 split at h
 ·exact absurd h (by assumption)
 ·split at h
  ·simp at h
  ·split at h
   ·simp at h
   ·exact⟨by omega,by omega⟩
theorem one_of {α:Type}[Enc α]{H:Hp}{v:Value}{l:List α}(h:SlAt H v l):v.cells=#[v]∧Value.isOne v=true:=by
 obtain⟨A,c,rfl,_⟩:=h;exact⟨rfl,rfl⟩
theorem Zhd {bv:Value}{b:Bk}(hb:BkAt H bv b)(hg:Zbh H)(hl:b.pts.length<=1000000)(hl2:b.cks.length<=1000000) :
  LL.Zag P 33 #[bv] H fun v H'=>Inc H H'∧v=.tuple #[vi (if Zah b true=0 then Zhp ((Zae b).filter Boat.slipped).length (Zae b).length else 0),vi (Zah b true)]:=by
 have hs:=Loud.loud (P:=P)
 have hb0:=hb
 obtain⟨pv,cv,rfl,hp,hc⟩:=hb
 refine IsN.m (isn c21) (args:=[.agg #[vi b.op,vi b.sl,pv,cv]]) rfl ?_
 unfold n21
 refine wkT ?_
 refine Zab (vs:=[.agg #[vi b.op,vi b.sl,pv,cv],vf 65]) rfl (ZdO (there:=true) hb0 hg hl hl2 Zeu) ?_
 rintro v H1 ⟨hi1,⟨hz,rfl⟩ | ⟨hz,pv',cv',w,bb,e,rfl,ow⟩⟩
 ·refine wkT ?_
  refine wiT (fun h1=>?_) (fun h1=>?_)
  ·refine wkT ?_
   exact⟨hi1,by rw[if_neg hz];rfl⟩
  ·exact absurd h1 hz
 ·simp only[Value.agg.injEq,Array.mk.injEq,List.cons.injEq,and_true]at e
  obtain⟨_,_,rfl,rfl⟩:=e
  have:=Zbp (ZaR (Zip hz).1)
  obtain⟨Ap,cp,rfl,hp'⟩:=hp
  obtain⟨Ac,cc,rfl,hc'⟩:=hc
  have hw:=ow.sl
  obtain⟨Aw,cw,rfl,_⟩:=ow.sl
  refine wkT ?_
  refine Zab (vs:=[ZhB b _ _ _,vf 91]) rfl (ZlJ (l:=Zae b) (f:=Boat.slipped) hw (by omega) ⟨⟨rfl,rfl⟩,⟨rfl,rfl⟩⟩ (fun x hx H' hi=>(ZcY (by kernel_rfl) (ZgG (hs _))).mono fun v H'' ⟨h1,h2⟩=>⟨h1 ▸ .refl _,h2⟩)) ?_
  rintro v H2 ⟨hi2,rfl⟩
  refine wkT ?_
  exact⟨hi1.trans hi2,by rw[if_pos hz,hz];rfl⟩
theorem Had_ok {bv:Value}{b:Bk}(hb:BkAt H bv b)(hg:Zbh H)(hl:b.pts.length<=1000000)(hl2:b.cks.length<=1000000) :
  LL.Zag P 16 #[bv] H fun v H'=>Inc H H'∧v=.tuple #[vi (if Zah b true=0 then Zhp ((Zae b).filter (ZgA b)).length (Zae b).length else 0),vi (Zah b true)]:=by
 have hs:=Loud.loud (P:=P)
 have hb0:=hb
 obtain⟨pv,cv,rfl,hp,hc⟩:=hb
 refine IsN.m (isn c31) (args:=[.agg #[vi b.op,vi b.sl,pv,cv]]) rfl ?_
 unfold n31
 refine wkT ?_
 refine Zab (vs:=[.agg #[vi b.op,vi b.sl,pv,cv],vf 65]) rfl (ZdO (there:=true) hb0 hg hl hl2 Zeu) ?_
 rintro v H1 ⟨hi1,⟨hz,rfl⟩ | ⟨hz,pv',cv',w,bb,e,rfl,ow⟩⟩
 ·refine wkT ?_
  refine wiT (fun h1=>?_) (fun h1=>?_)
  ·refine wkT ?_
   exact⟨hi1,by rw[if_neg hz];rfl⟩
  ·exact absurd h1 hz
 ·simp only[Value.agg.injEq,Array.mk.injEq,List.cons.injEq,and_true]at e
  obtain⟨_,_,rfl,rfl⟩:=e
  have val:=ZaR (Zip hz).1
  have:=Zbp val
  obtain⟨Ap,cp,rfl,hp'⟩:=hp
  obtain⟨Ac,cc,rfl,hc'⟩:=hc
  have hw:=ow.sl
  obtain⟨Aw,cw,rfl,_⟩:=ow.sl
  refine wkT ?_
  refine Zci rfl rfl ?_
  refine wkT ?_
  refine Zab (vs:=[ZhB b _ _ _,.func (.func 67) #[.agg #[vi b.op,vi b.sl,.slice Ap b.pts.length cp,.slice Ac b.cks.length cc]] #[]]) rfl (ZlJ (l:=Zae b) (f:=ZgA b) hw (by omega) ⟨⟨rfl,rfl⟩,⟨rfl,rfl⟩⟩
   (fun x hx H' hi=>(ZcY (by kernel_rfl) (ZmE ((hb0.inc hi1).inc hi) val.good.bk (Zdo (ZcZ val x hx)) (by have:=val.n;omega) val.good.pts (Zko val (ZcZ val x hx)) (hs _))).mono fun v H'' ⟨h1,h2⟩=>⟨h1.inc,h2⟩)) ?_
  rintro v H2 ⟨hi2,rfl⟩
  refine wkT ?_
  exact⟨hi1.trans hi2,by rw[if_pos hz,hz];rfl⟩
end
end Go.Proofs
end
