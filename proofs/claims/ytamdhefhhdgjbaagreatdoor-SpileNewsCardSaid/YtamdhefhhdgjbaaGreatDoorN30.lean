import Derived.Test.YtamdhefhhdgjbaaGreatDoorN29
set_option linter.all false
section
open Go Go.LL
namespace Go.Proofs
theorem t4:tiOf Tryz.prog 4=some (1,some (vb false),1):=by kernel_rfl
theorem t70:tiOf Tryz.prog 70=some (2,some (.agg #[vi 0,vi 0]),16):=by kernel_rfl
theorem t121:tiOf Tryz.prog 121=some (6,some (.agg #[vi 0,vi 0,vi 0,vi 0,vi 0,vi 0]),48):=by kernel_rfl
abbrev pt (r:Nat):Value:=.pointer (some ⟨r,0,none⟩)
structure Good (b:Bk):Prop where
 bk:BkOk b
 pts:PtsOk b
 cks:CksIn b
 ckl:b.cks.length<=1000000
 two:2<=b.pts.length
 sl0:0<=b.sl
 sl3:b.sl<=3
 wide:∀ i (h:i<b.pts.length),b.pts[i].mh-b.pts[i].ml<3
 ml:∀ i (h:i<b.pts.length),Sm b.pts[i].ml
 mh:∀ i (h:i<b.pts.length),Sm b.pts[i].mh
def nextV (rb rn ry:Nat):Value:=.func (.func 144) #[] #[pt rb,pt rn,pt ry]
structure Frm (G:Hp)(bc:List Value)(rb rn ry:Nat)(y:Value)(E1 E2 E3:TypeId):Prop where
 b:G rb=some (.cells bc.toArray E1,true)
 n:G rn=some (.cells #[nextV rb rn ry] E2,true)
 y:G ry=some (.cells #[y] E3,true)
theorem Frm.inc {G G':Hp}{bc:List Value}{rb rn ry:Nat}{y:Value}{E1 E2 E3:TypeId}(h:Frm G bc rb rn ry y E1 E2 E3)(hi:Inc G G'):Frm G' bc rb rn ry y E1 E2 E3:=⟨hi _ _ h.b,hi _ _ h.n,hi _ _ h.y⟩
theorem Zbd {G H:Hp}(hi:Inc G H){r:Nat}(hr:H r=none):G r=none:=by
 cases hh:G r with
 | none=>rfl
 | some x=>rw[hi r x hh]at hr;simp at hr
theorem Za5 {G G':Hp}(hi:Inc G G'){r:Nat}{o:Obj}(hr:G r=none):Inc G (G'.ins r o):=fun b x hb=>by
 rw[Hp.ins_other _ _ (by rintro rfl;rw[hr]at hb;simp at hb)];exact hi b x hb
theorem Zap {H:Hp}{r:Nat}{cs:List Value}{E:TypeId}{p:Bool}(h:H r=some (.cells cs.toArray E,p)):CellsAt H ⟨r,0,none⟩ cs:=⟨rfl,_,_,h,fun j hj=>by simp[Obj.at?]⟩
theorem ZiQ {bf:Int}{sl:Nat}(hl:sl<=1000):∀ r,r<=2 * sl+1->∀ k∈innerR bf sl r,Sm k.by_
 | 0,_,k,h=>by simp[innerR]at h
 | r+1,hr,k,h=>by
  rw[innerR]at h
  split at h
  ·exact ZiQ hl r (by omega) k h
  ·rcases List.mem_cons.1 h with rfl | h
   ·exact⟨by show -100000<=(sl:Int)-r;omega,by show (sl:Int)-r<=100000;omega⟩
   ·exact ZiQ hl r (by omega) k h
theorem Zlf {n sl:Nat}(hl:sl<=1000):∀ r,∀ k∈outerR n sl r,Sm k.by_
 | 0,k,h=>by simp[outerR]at h
 | r+1,k,h=>by
  rw[outerR]at h
  rcases List.mem_append.1 h with h | h
  ·exact ZiQ hl _ (Nat.le_refl _) k h
  ·exact Zlf hl r k h
theorem slips_sm {b:Bk}(h0:0<=b.sl)(h1:b.sl<=1000):∀ k∈Zat b,Sm k.by_:=by
 intro k h
 rcases List.mem_cons.1 h with rfl | h
 ·exact⟨by show (-100000:Int)<=0;omega,by show (0:Int)<=100000;omega⟩
 ·exact Zlf (by omega) _ k h
section
variable  {P:Prg}[Tz P][Loud P]
set_option maxHeartbeats 1000000
theorem next_ok {b:Bk}{pv cv y:Value}{E1 E2 E3:TypeId}{xs:List (List Value)}{I:Nat->Hp->Prop}{S:Hp->Prop}(gd:Good b)(hI:∀ n,Up (I n))(hS:Up S)(hN:∀ n H,I n H->BkAt H (.agg #[vi b.op,vi b.sl,pv,cv]) b)
  (hy:∀ n (hn:n<xs.length) H,I n H->CallV P y (xs[n]).toArray H (fun v H'=>(v=.bool true∧I (n+1) H')∨(v=.bool false∧S H'))) (rb rn ry:Nat) :
  ∀ (r:Nat) (m:N4) (rest:List (List Value)) (H G:Hp),r<=b.pts.length->m.Sm->Frm G [vi b.op,vi b.sl,pv,cv] rb rn ry y E1 E2 E3->JG G (Seq xs I ((boatsFrom b r m).map ZfQ++rest)) H ->
   LL.Zai P 144 #[numV m,vi (b.pts.length-r:Nat),pt rb,pt rn,pt ry] H fun v H'=>(v=vb true∧JG G (Seq xs I rest) H')∨(v=vb false∧JG G S H'):=by
 have hs:=Loud.loud (P:=P)
 have hbk:∀ rest H,Seq xs I rest H->BkAt H (.agg #[vi b.op,vi b.sl,pv,cv]) b:=fun rest H ⟨p,_,_,h⟩=>hN p H h
 have hle:=gd.bk.le
 intro r
 induction r with
 | zero=>
  intro m rest H G hr hm hf hj
  rw[boatsFrom]at hj
  refine IsN.m (isn c144) (args:=[numV m,vi (b.pts.length-0:Nat),pt rb,pt rn,pt ry]) rfl ?_
  unfold n144
  refine wkT ?_
  refine Zca rfl (hs _) fun r5 hr5=>?_
  have hj1:=hj.new (.cells (numV m).cells 119) hr5
  have g5:=Zbd hj.inc hr5
  refine wkT ?_
  refine Zaz (tif t4) (hs _) fun r7 hr7=>?_
  have hj2:=hj1.new (.cells (vb false).cells 4) hr7
  have g7:G r7=none:=Zbd ((Zah g5).trans hj1.inc) hr7
  have hne:r5≠r7:=by rintro rfl;rw[Hp.ins_same]at hr7;simp at hr7
  obtain⟨G2,hG2,a5,a7,hj2⟩:∃ G2:Hp,Inc G G2∧G2 r5=some (.cells m.cells.toArray 119,true)∧G2 r7=some (.cells #[vb false] 4,true)∧JG G2 (Seq xs I ((((Zat b).map fun k=>(⟨m,k.bf,k.by_⟩:Boat)).filter (Zdl b)).map ZfQ++rest)) ((H.ins r5 (.cells (numV m).cells 119)).ins r7 (.cells (vb false).cells 4)):=
   ⟨_,Za5 (Zah g5) g7,by rw[Hp.ins_other _ _ hne];exact Hp.ins_same _ _ _,Hp.ins_same _ _ _,hj2⟩
  generalize (H.ins r5 (.cells (numV m).cells 119)).ins r7 (.cells (vb false).cells 4)=H2 at *
  have bk2:∀ {rest' H'},JG G2 (Seq xs I rest') H'->CellsAt H' (⟨rb,0,none⟩:Addr) [vi b.op,vi b.sl,pv,cv]∧SlAt H' pv b.pts:=by
   intro rest' H' hj'
   obtain⟨pv',cv',e,hp,hc⟩:=hbk _ _ (hj'.up (Zk0 hI))
   simp only[Value.agg.injEq,Array.mk.injEq,List.cons.injEq,and_true]at e
   obtain⟨_,_,rfl,rfl⟩:=e
   exact⟨Zap ((hf.inc (hG2.trans hj'.inc)).b),hp⟩
  have hf2:=hf.inc hG2
  obtain⟨c1,p1⟩:=bk2 hj2
  refine wkT ?_
  refine Zaf (hs _) rfl (Zbl (j:=2) c1 rfl) ?_
  refine wkT ?_
  refine Zal p1 rfl ?_
  refine wkT ?_
  refine wiT (fun h1=>?_) (fun h1=>?_)
  ·exact absurd h1 (by omega)
  refine wkT ?_
  refine Zam (hs _) rfl c1 rfl ?_
  refine wkT ?_
  refine ZcB rfl rfl ?_
  refine wkT ?_
  obtain⟨A,cp,hA,_⟩:=p1
  subst hA
  refine Zfe hs rfl (slips_iter gd.sl0 (by have:=gd.sl3;omega) (by omega)) (fun x hx=>by obtain⟨k,_,rfl⟩:=List.mem_map.1 hx;rfl)
   (fun n H'=>JG G2 (Seq xs I (((((Zat b).drop n).map fun k=>(⟨m,k.bf,k.by_⟩:Boat)).filter (Zdl b)).map ZfQ++rest)) H')
   (fun e H'=>e=.ret∧JG G S H'∧CellsAt H' ⟨r7,0,none⟩ [vb false]) hj2 (fun n=>JG.closed) (fun e H' J hc ⟨h1,h2,h3⟩=>⟨h1,JG.closed _ _ hc h2,h3.inc (Za2 _ _)⟩) (fun _ _ _=>trivial) ?_ ?_ ?_
  ·intro n hn H3 hj3
   have hn':n<(Zat b).length:=by simpa using hn
   obtain⟨k,hk⟩:∃ k,k=(Zat b)[n]:=⟨_,rfl⟩
   have hxn:((Zat b).map Zhe)[n]=[ZbS k]:=by rw[List.getElem_map,hk];rfl
   rw[hxn]
   rw[ZbL hn',<-hk,List.map_cons]at hj3
   obtain⟨x,hx⟩:∃ x:Boat,x=⟨m,k.bf,k.by_⟩:=⟨_,rfl⟩
   rw[<-hx]at hj3
   have okx:BtOk x:=by
    subst hx
    refine⟨hm,?_⟩
    have:=slips_sm gd.sl0 (by have:=gd.sl3;omega) k (by rw[hk];exact List.getElem_mem hn')
    exact this
   refine wkT ?_
   refine Zaz (tif t70) (hs _) fun r9 hr9=>?_
   refine wkT ?_
   refine ZaD (v:=ZbS k) (tif t70) (cs:=[vi 0,vi 0]) rfl rfl (Hp.ins_same _ _ _) rfl rfl rfl (hs _) ?_
   rw[Zbk]
   have hj4:=(hj3.new (.cells (ZbS k).cells 70) hr9).of (fun _ h=>h) (G':=G2) (Zah (Zbd hj3.inc hr9))
   refine wkT ?_
   refine Zam (cs:=m.cells) (hs _) rfl (Zap (hj4.inc _ _ a5)) rfl ?_
   refine wkT ?_
   refine Zam (cs:=[vi k.bf,vi k.by_]) (hs _) rfl Zaw rfl ?_
   refine wkT ?_
   refine Zaz (tif t121) (hs _) fun r10 hr10=>?_
   refine wkT ?_
   refine ZaD (v:=ZaS x) (tif t121) (cs:=[vi 0,vi 0,vi 0,vi 0,vi 0,vi 0]) rfl (by rw[hx];rfl) (Hp.ins_same _ _ _) rfl rfl rfl (hs _) ?_
   rw[Zbk]
   have hj5:=(hj4.new (.cells (ZaS x).cells 121) hr10).of (fun _ h=>h) (G':=G2) (Zah (Zbd hj4.inc hr10))
   have c10:CellsAt ((H3.ins r9 (.cells (ZbS k).cells 70)).ins r10 (.cells (ZaS x).cells 121)) ⟨r10,0,none⟩ x.cells:=Zaw
   generalize (H3.ins r9 (.cells (ZbS k).cells 70)).ins r10 (.cells (ZaS x).cells 121)=H5 at *
   refine wkT ?_
   refine Zam (hs _) rfl (bk2 hj5).1 rfl ?_
   refine wkT ?_
   refine Zam (hs _) rfl c10 rfl ?_
   refine wkT ?_
   refine Zab (vs:=[.agg #[vi b.op,vi b.sl,.slice A b.pts.length cp,cv],ZaS x]) rfl (right_ok (hbk _ _ (hj5.up (Zk0 hI))) gd.bk okx gd.cks gd.ckl (hs _)) ?_
   rintro v H6 ⟨hs6,rfl⟩
   have hj6:=hj5.sub hs6
   have c10':=c10.sub hs6
   refine wkT ?_
   refine wiT (fun h2=>?_) (fun h2=>?_)
   ·rw[List.filter_cons,if_pos h2,List.map_cons,List.cons_append]at hj6
    refine wkT ?_
    refine Zaf (hs _) rfl (Zap (hj6.inc _ _ hf2.y)) ?_
    refine wkT ?_
    refine Zam (hs _) rfl c10' rfl ?_
    refine wkT ?_
    refine ZaX (vs:=[ZaS x]) rfl rfl (JG.call (fun H h=>Seq.call (S:=S) hy h) hj6) ?_
    rintro v H7 ⟨Hc,F,rfl,q1,q2,(⟨rfl,q3⟩ | ⟨rfl,q3⟩)⟩
    ·refine wkT ?_
     exact⟨Hc,F,rfl,q1,q2,q3⟩
    ·have hj7:JG G2 S (Hc.join F):=⟨Hc,F,rfl,q1,q2,q3⟩
     refine wkT ?_
     refine ZaA (tif t4) rfl rfl (hj7.inc _ _ a7) rfl rfl (hs _) ?_
     refine wkT ?_
     exact⟨rfl,(hj7.put _ a7).of (fun _ h=>h) (Za5 hG2 g7),Zaw⟩
   ·rw[List.filter_cons,if_neg (by simp[h2])]at hj6
    refine wkT ?_
    exact hj6
  ·intro H3 hj3
   rw[List.length_map,List.drop_length,List.map_nil,List.filter_nil,List.map_nil,List.nil_append]at hj3
   refine wkT ?_
   refine ZaA (tif t4) rfl rfl (hj3.inc _ _ a7) rfl rfl (hs _) ?_
   refine wkT ?_
   refine ZcM (vs:=[vb true]) rfl (hs _) ⟨⟨_,rfl,Zaw⟩,trivial⟩ ?_
   exact .inl ⟨rfl,(hj3.put _ a7).of (fun _ h=>h) (Za5 hG2 g7)⟩
  ·rintro e H3 he ⟨rfl,hj3,hc3⟩
   refine wkT ?_
   refine ZcM (vs:=[vb false]) rfl (hs _) ⟨⟨_,rfl,hc3⟩,trivial⟩ ?_
   exact .inr ⟨rfl,hj3⟩
 | succ r ih=>
  intro m rest H G hr hm hf hj
  rw[boatsFrom]at hj
  have hi:b.pts.length-(r+1)<b.pts.length:=by omega
  have hi1:((b.pts.length-(r+1):Nat):Int)+1=(b.pts.length-r:Nat):=by omega
  generalize b.pts.length-(r+1)=i at *
  have hi4:i<4:=by omega
  have hpt:ptAt b i=b.pts[i]:=ZaG hi _
  rw[hpt]at hj
  obtain⟨q1,q2⟩:=gd.ml i hi
  obtain⟨q3,q4⟩:=gd.mh i hi
  refine IsN.m (isn c144) (args:=[numV m,vi i,pt rb,pt rn,pt ry]) rfl ?_
  unfold n144
  refine wkT ?_
  refine Zca rfl (hs _) fun r5 hr5=>?_
  have hj1:=hj.new (.cells (numV m).cells 119) hr5
  have g5:=Zbd hj.inc hr5
  refine wkT ?_
  refine Zaz (tif t4) (hs _) fun r7 hr7=>?_
  have hj2:=hj1.new (.cells (vb false).cells 4) hr7
  have g7:G r7=none:=Zbd ((Zah g5).trans hj1.inc) hr7
  have hne:r5≠r7:=by rintro rfl;rw[Hp.ins_same]at hr7;simp at hr7
  obtain⟨G2,hG2,a5,a7,hj2⟩:∃ G2:Hp,Inc G G2∧G2 r5=some (.cells m.cells.toArray 119,true)∧G2 r7=some (.cells #[vb false] 4,true)∧JG G2 (Seq xs I ((spanR (fun v=>boatsFrom b r (m.put i v)) b.pts[i].mh (b.pts[i].mh-b.pts[i].ml+1).toNat).map ZfQ++rest)) ((H.ins r5 (.cells (numV m).cells 119)).ins r7 (.cells (vb false).cells 4)):=
   ⟨_,Za5 (Zah g5) g7,by rw[Hp.ins_other _ _ hne];exact Hp.ins_same _ _ _,Hp.ins_same _ _ _,hj2⟩
  generalize (H.ins r5 (.cells (numV m).cells 119)).ins r7 (.cells (vb false).cells 4)=H2 at *
  have bk2:∀ {G' H' rest'},Inc G G'->JG G' (Seq xs I rest') H'->CellsAt H' ((⟨rb,0,none⟩:Addr).add 2) [pv]∧SlAt H' pv b.pts:=by
   intro G' H' rest' hG' hj'
   obtain⟨pv',cv',e,hp,hc⟩:=hbk _ _ (hj'.up (Zk0 hI))
   simp only[Value.agg.injEq,Array.mk.injEq,List.cons.injEq,and_true]at e
   obtain⟨_,_,rfl,rfl⟩:=e
   exact⟨Zbl (Zap ((hf.inc (hG'.trans hj'.inc)).b)) rfl,hp⟩
  obtain⟨c1,p1⟩:=bk2 hG2 hj2
  refine wkT ?_
  refine Zaf (hs _) rfl c1 ?_
  refine wkT ?_
  refine Zal p1 rfl ?_
  refine wkT ?_
  refine wiT (fun h1=>?_) (fun h1=>?_)
  rotate_left
  ·exact absurd (by omega) h1
  refine wkT ?_
  refine Zaf (hs _) rfl c1 ?_
  refine wkT ?_
  refine Zar p1 rfl rfl rfl (i:=i) hi fun a ha=>?_
  refine wkT ?_
  refine Zaf (hs _) rfl (Zbl (j:=0) ha rfl) ?_
  refine wkT ?_
  generalize hcnt:(b.pts[i].mh-b.pts[i].ml+1).toNat=cnt at hj2
  refine Zax (α:=N4×Hp) cnt (fun k s H'=>Inc G s.2∧s.2 r5=some (.cells s.1.cells.toArray 119,true)∧s.2 r7=some (.cells #[vb false] 4,true)∧(∀ v,s.1.put i v=m.put i v) ∧
    JG s.2 (Seq xs I ((spanR (fun v=>boatsFrom b r (m.put i v)) b.pts[i].mh (cnt-k)).map ZfQ++rest)) H')
   (fun k s=>[(1,vi i),(2,pt rb),(3,pt rn),(4,pt ry),(5,pt r5),(7,pt r7),(8,vi (b.pts[i].ml+k))]) (fun _ _=>[]) (m,G2) ⟨hG2,a5,a7,fun _=>rfl,hj2⟩ ⟨rfl,rfl,rfl,rfl,rfl,rfl,by simp[NSt.set],trivial⟩ trivial ?_
  rintro k ⟨m',G3⟩ H3 hk ⟨hG3,a5',a7',hput,hj3⟩
  simp only at hG3 a5' a7' hput hj3
  obtain⟨c3,p3⟩:=bk2 hG3 hj3
  refine wkT ?_
  refine Zaf (hs _) rfl c3 ?_
  refine wkT ?_
  refine Zar p3 rfl rfl rfl (i:=i) hi fun a ha=>?_
  refine wkT ?_
  refine Zaf (hs _) rfl (Zbl (j:=1) ha rfl) ?_
  refine wkT ?_
  refine wiT (fun h2=>?_) (fun h2=>?_)
  ·refine wkT ?_
   refine ZnR (und u119) (tif t3) rfl rfl hi4 ?_
   refine wkT ?_
   have hs5:ZaO m'.cells (0+i * 1) [vi (b.pts[i].ml+k)]=(m.put i (b.pts[i].ml+k)).cells:=by rw[Ze2 _ _ hi4,hput]
   have hadd:(⟨r5,0,none⟩:Addr).add (i * 1)=⟨r5,i * 1,none⟩:=by rw[Zd1 rfl,Nat.zero_add]
   rw[hadd]
   have hj4:=hj3.put (.cells (m.put i (b.pts[i].ml+k)).cells.toArray 119) a5'
   have hG4:Inc G (G3.ins r5 (.cells (m.put i (b.pts[i].ml+k)).cells.toArray 119)):=Za5 hG3 g5
   have hm4:(m.put i (b.pts[i].ml+k)).Sm:=by
    intro j hj
    rw[N4.put_get _ _ hj]
    split
    ·exact⟨by omega,by omega⟩
    ·exact hm j hj
   refine ZdS (cs:=m'.cells) (tif t3) rfl rfl (hj3.inc _ _ a5') rfl (by show i * 1+1<=4;omega) rfl (hs _) ?_
   have e5:ZaO m'.cells (i * 1) (Value.cells (vi (b.pts[i].ml+k))).toList=(m.put i (b.pts[i].ml+k)).cells:=by rw[<-hs5,Nat.zero_add];rfl
   rw[e5]
   have a54:(G3.ins r5 (.cells (m.put i (b.pts[i].ml+k)).cells.toArray 119)) r5=some (.cells (m.put i (b.pts[i].ml+k)).cells.toArray 119,true):=Hp.ins_same _ _ _
   have a74:(G3.ins r5 (.cells (m.put i (b.pts[i].ml+k)).cells.toArray 119)) r7=some (.cells #[vb false] 4,true):=by rw[Hp.ins_other _ _ (Ne.symm hne)];exact a7'
   generalize G3.ins r5 (.cells (m.put i (b.pts[i].ml+k)).cells.toArray 119)=G4 at *
   generalize H3.ins r5 (.cells (m.put i (b.pts[i].ml+k)).cells.toArray 119)=H4 at *
   have hf4:=hf.inc hG4
   have e6:cnt-k=(cnt-(k+1))+1:=by omega
   have e7:b.pts[i].mh-((cnt-(k+1):Nat):Int)=b.pts[i].ml+k:=by omega
   rw[e6,spanR,List.map_append,List.append_assoc,e7]at hj4
   refine wkT ?_
   refine Zaf (hs _) rfl (Zap (hj4.inc _ _ hf4.n)) ?_
   refine wkT ?_
   refine Zam (hs _) rfl (Zap (hj4.inc _ _ a54)) rfl ?_
   refine wkT ?_
   rw[hi1]
   refine ZaX rfl rfl (Zdh (by kernel_rfl) (ih (m.put i (b.pts[i].ml+k)) _ H4 G4 (by omega) hm4 hf4 hj4)) ?_
   rintro v H5 (⟨rfl,hj5⟩ | ⟨rfl,hj5⟩)
   ·refine wkT ?_
    refine⟨(⟨k+1,by omega⟩,(m.put i (b.pts[i].ml+k),G4)),slt (by omega),⟨hG4,a54,a74,fun v=>N4.put_put _ _ _,hj5⟩,⟨rfl,rfl,rfl,rfl,rfl,rfl,?_,trivial⟩,trivial,rfl⟩
    show some (vi (b.pts[i].ml+k+1))=some (vi (b.pts[i].ml+(k+1:Nat)))
    congr 2
    omega
   ·refine wkT ?_
    refine ZaA (tif t4) rfl rfl (hj5.inc _ _ a74) rfl rfl (hs _) ?_
    refine wkT ?_
    refine ZcM (vs:=[vb false]) rfl (hs _) ⟨⟨_,rfl,Zaw⟩,trivial⟩ ?_
    exact .inr ⟨rfl,(hj5.put _ a74).of (fun _ h=>h) (Za5 hG4 g7)⟩
  ·have e6:cnt-k=0:=by omega
   rw[e6,spanR,List.map_nil,List.nil_append]at hj3
   refine wkT ?_
   refine ZaA (tif t4) rfl rfl (hj3.inc _ _ a7') rfl rfl (hs _) ?_
   refine wkT ?_
   refine ZcM (vs:=[vb true]) rfl (hs _) ⟨⟨_,rfl,Zaw⟩,trivial⟩ ?_
   exact .inl ⟨rfl,(hj3.put _ a7').of (fun _ h=>h) (Za5 hG3 g7)⟩
end
theorem t181:tiOf Tryz.prog 181=some (1,some .nilFunc,8):=by kernel_rfl
theorem zero_sm:(⟨0,0,0,0⟩:N4).Sm:=by
 intro j hj
 match j,hj with
 | 0,_=>exact⟨by decide,by decide⟩
 | 1,_=>exact⟨by decide,by decide⟩
 | 2,_=>exact⟨by decide,by decide⟩
 | 3,_=>exact⟨by decide,by decide⟩
section
variable  {P:Prg}[Tz P][Loud P]
set_option maxHeartbeats 1000000
theorem boats_iter {b:Bk}{pv cv:Value}(gd:Good b) :
  Iter P (.func (.func 87) #[.agg #[vi b.op,vi b.sl,pv,cv]] #[]) (fun H=>BkAt H (.agg #[vi b.op,vi b.sl,pv,cv]) b) ((Zae b).map ZfQ):=by
 rintro y I S H ⟨yf,ya,yb,hyv⟩ hI hS hN hy hst0
 have hyc:y.cells=#[y]:=by rw[hyv];rfl
 have hs:=Loud.loud (P:=P)
 refine Zdh (by kernel_rfl) ?_
 refine IsN.m (isn c87) (args:=[.agg #[vi b.op,vi b.sl,pv,cv],y]) rfl ?_
 unfold n87
 generalize hxs:(Zae b).map ZfQ=xs at *
 have hj0:JG .nil (Seq xs I ((Zae b).map ZfQ++[])) H:=⟨H,.nil,(Hp.join_nil H).symm,Hp.comp_nil H,fun b x h=>by simp[Hp.nil]at h,by rw[List.append_nil,hxs];exact .start hst0⟩
 refine wkT ?_
 refine Zca rfl (hs _) fun rb hrb=>?_
 have hj1:=hj0.new (.cells (Value.agg #[vi b.op,vi b.sl,pv,cv]).cells 107) hrb
 refine wkT ?_
 refine Zca rfl (hs _) fun ry hry=>?_
 have hj2:=hj1.new (.cells y.cells 117) hry
 refine wkT ?_
 refine Zaz (tif t181) (hs _) fun rn hrn=>?_
 have hj3:=hj2.new (.cells (Value.nilFunc).cells 181) hrn
 have n1:ry≠rb:=by rintro rfl;rw[Hp.ins_same]at hry;simp at hry
 have n2:rn≠ry:=by rintro rfl;rw[Hp.ins_same]at hrn;simp at hrn
 have n3:rn≠rb:=by rintro rfl;rw[Hp.ins_other _ _ (Ne.symm n1),Hp.ins_same]at hrn;simp at hrn
 refine wkT ?_
 refine ZcB rfl rfl ?_
 refine wkT ?_
 refine ZaA (v:=nextV rb rn ry) (tif t181) rfl rfl (Hp.ins_same _ _ _) rfl rfl (hs _) ?_
 have hj4:=hj3.put (.cells #[nextV rb rn ry] 181) (Hp.ins_same _ _ _)
 have hf:Frm ((((Hp.nil.ins rb (.cells (Value.agg #[vi b.op,vi b.sl,pv,cv]).cells 107)).ins ry (.cells y.cells 117)).ins rn (.cells (Value.nilFunc).cells 181)).ins rn (.cells #[nextV rb rn ry] 181)) [vi b.op,vi b.sl,pv,cv] rb rn ry y 107 181 117:=by
  refine⟨?_,Hp.ins_same _ _ _,?_⟩
  ·rw[Hp.ins_other _ _ (Ne.symm n3),Hp.ins_other _ _ (Ne.symm n3),Hp.ins_other _ _ (Ne.symm n1)]
   exact Hp.ins_same _ _ _
  ·rw[Hp.ins_other _ _ (Ne.symm n2),Hp.ins_other _ _ (Ne.symm n2),<-hyc]
   exact Hp.ins_same _ _ _
 refine wkT ?_
 refine Zaf (hs _) rfl (Zap (hj4.inc _ _ hf.n)) ?_
 refine wkT ?_
 have hcall:=next_ok gd hI hS hN hy rb rn ry b.pts.length ⟨0,0,0,0⟩ [] _ _ (Nat.le_refl _) zero_sm hf hj4
 rw[Nat.sub_self]at hcall
 refine ZaX rfl rfl (Zdh (by kernel_rfl) hcall) ?_
 rintro v H7 (⟨rfl,h7⟩ | ⟨rfl,h7⟩)
 ·refine wkT ?_
  exact .inl (h7.up (Zk0 hI)).stop
 ·refine wkT ?_
  exact .inr (h7.up hS)
theorem ZkT {l:List Boat}{n:Nat}(hn:n<(l.map ZfQ).length):(l.map ZfQ)[n]=[ZaS (l[n]'(by simpa using hn))]:=by rw[List.getElem_map];rfl
def Zbg (b:Bk):Bool:=!(Zae b).isEmpty
theorem Zkk {H:Hp}{bv:Value}{b:Bk}(hb:BkAt H bv b)(gd:Good b):LL.Zai P 119 #[bv] H fun v H'=>Inc H H'∧v=vb (Zbg b):=by
 have hs:=Loud.loud (P:=P)
 have hb0:=hb
 obtain⟨pv,cv,rfl,hp,hc⟩:=hb
 refine IsN.m (isn c119) (args:=[.agg #[vi b.op,vi b.sl,pv,cv]]) rfl ?_
 unfold n119
 refine wkT ?_
 refine Zca rfl (hs _) fun r1 hr1=>?_
 refine wkT ?_
 refine Zaz (tif t4) (hs _) fun r2 hr2=>?_
 have hi2:Inc H ((H.ins r1 (.cells (Value.agg #[vi b.op,vi b.sl,pv,cv]).cells 107)).ins r2 (.cells (vb false).cells 4)):=(Zah hr1).trans (Zah hr2)
 have h0:H r2=none:=Zbd (Zah hr1) hr2
 refine wkT ?_
 refine Zam (cs:=[vi b.op,vi b.sl,pv,cv]) (hs _) rfl (CellsAt.inc (Zaw (cs:=[vi b.op,vi b.sl,pv,cv])) (Zah hr2)) rfl ?_
 refine wkT ?_
 refine ZcB rfl rfl ?_
 refine wkT ?_
 refine Zfe hs rfl (boats_iter gd) (fun x hx=>by obtain⟨k,_,rfl⟩:=List.mem_map.1 hx;rfl)
  (fun n H'=>n=0∧Inc H H'∧H' r2=some (.cells #[vb false] 4,true)) (fun e H'=>e=.ret∧Inc H H'∧CellsAt H' ⟨r2,0,none⟩ [vb true]∧Zbg b=true) ⟨rfl,hi2,Hp.ins_same _ _ _⟩
  (fun n H' J hc ⟨h1,h2,h3⟩=>⟨h1,h2.trans (Za2 _ _),Hp.join_left h3⟩) (fun e H' J hc ⟨h1,h2,h3,h4⟩=>⟨h1,h2.trans (Za2 _ _),h3.inc (Za2 _ _),h4⟩) (fun n H' h=>hb0.inc h.2.1) ?_ ?_ ?_
 ·rintro n hn H3 ⟨rfl,g1,g2⟩
  have hsome:Zbg b=true:=by
   rw[List.length_map]at hn
   cases hh:Zae b with
   | nil=>rw[hh]at hn;simp at hn
   | cons x l=>rw[Zbg,hh];rfl
  rw[ZkT hn]
  refine wkT ?_
  refine ZaA (tif t4) rfl rfl g2 rfl rfl (hs _) ?_
  refine wkT ?_
  exact⟨rfl,Za5 g1 h0,Zaw,hsome⟩
 ·rintro H3 ⟨g0,g1,g2⟩
  have hno:Zbg b=false:=by
   rw[List.length_map]at g0
   rw[Zbg,List.eq_nil_of_length_eq_zero g0];rfl
  refine wkT ?_
  refine ZaA (tif t4) rfl rfl g2 rfl rfl (hs _) ?_
  refine wkT ?_
  refine ZcM (vs:=[vb false]) rfl (hs _) ⟨⟨_,rfl,Zaw⟩,trivial⟩ ?_
  exact⟨Za5 g1 h0,by rw[hno];rfl⟩
 ·rintro e H3 he ⟨rfl,g1,g2,g3⟩
  refine wkT ?_
  refine ZcM (vs:=[vb true]) rfl (hs _) ⟨⟨_,rfl,g2⟩,trivial⟩ ?_
  exact⟨g1,by rw[g3];rfl⟩
end
theorem ZlO {n:Nat}:∀ {l:List SCk},ckS n l=0->∀ c∈l,(0<=c.p∧c.p<n)∧(-199<=c.gl∧c.gl<=c.gh∧c.gh<=199)
 | [],_,c,h=>by simp at h
 | a :: l,h,c,hc=>by
  rw[ckS]at h
  split at h
  ·simp at h
  ·split at h
   ·simp at h
   ·rcases List.mem_cons.1 hc with rfl | hc
    ·exact⟨by omega,by omega⟩
    ·exact ZlO h c hc
structure ZbB (b:Bk):Prop where
 op:0<=b.op∧b.op<=99
 sl:0<=b.sl∧b.sl<=3
 n:2<=b.pts.length∧b.pts.length<=4
 pts:∀ i (h:i<b.pts.length),(0<=b.pts[i].ml∧b.pts[i].ml<=b.pts[i].mh∧b.pts[i].mh<=99)∧b.pts[i].mh-b.pts[i].ml<3∧(0<=b.pts[i].bl∧b.pts[i].bl<=b.pts[i].bh∧b.pts[i].bh<=199)∧(0<=b.pts[i].w∧b.pts[i].w<=199)
 ckn:b.cks.length<=3
 cks:∀ c∈b.cks,(0<=c.p∧c.p<b.pts.length)∧(-199<=c.gl∧c.gl<=c.gh∧c.gh<=199)
theorem ZaH {b:Bk}(h:snag b=0):ZbB b:=by
 unfold snag at h
 split at h
 ·rename_i h1;exact absurd h h1
 rename_i h1
 split at h
 ·rename_i h2;exact absurd h h2
 rename_i h2
 have h1:Zbq b=0:=Classical.byContradiction h1
 have h2:Zbv b=0:=Classical.byContradiction h2
 have g1:(0<=b.op∧b.op<=99)∧(0<=b.sl∧b.sl<=3):=by
  unfold Zbq at h1
  split at h1
  ·assumption
  ·simp at h1
 unfold Zbv at h2
 split at h2
 ·simp at h2
 rename_i g2
 have g3:b.pts.all okP=true:=by
  split at h2
  ·assumption
  ·simp at h2
 have g2':2<=b.pts.length∧b.pts.length<=4:=Classical.byContradiction g2
 unfold ZbW at h
 split at h
 ·simp at h
 refine⟨g1.1,g1.2,g2',fun i hi=>?_,by omega,ZlO h⟩
 have:=List.all_eq_true.1 g3 b.pts[i] (List.getElem_mem hi)
 simp only[okP,Bool.and_eq_true,decide_eq_true_eq]at this
 exact⟨this.1.1.1,this.1.1.2,this.1.2,this.2⟩
theorem ZbB.good {b:Bk}(v:ZbB b):Good b where
 bk:=⟨⟨by have:=v.op;omega,by have:=v.op;omega⟩,v.n.2⟩
 pts:=⟨fun i h=>by obtain⟨_,_,h3,_⟩:=v.pts i h;exact⟨by omega,by omega⟩,fun i h=>by obtain⟨_,_,h3,_⟩:=v.pts i h;exact⟨by omega,by omega⟩,fun i h=>by obtain⟨_,_,_,h4⟩:=v.pts i h;exact⟨by omega,by omega⟩⟩
 cks:=fun c hc=>by have h1:=(v.cks c hc).1;have h2:=v.n.2;exact⟨h1.1,by omega⟩
 ckl:=by have:=v.ckn;omega
 two:=v.n.1
 sl0:=v.sl.1
 sl3:=v.sl.2
 wide:=fun i h=>(v.pts i h).2.1
 ml:=fun i h=>by obtain⟨h1,_⟩:=v.pts i h;exact⟨by omega,by omega⟩
 mh:=fun i h=>by obtain⟨h1,_⟩:=v.pts i h;exact⟨by omega,by omega⟩
theorem ZjR (bf:Int)(sl:Nat):∀ r,(innerR bf sl r).length<=r
 | 0=>by simp[innerR]
 | r+1=>by
  rw[innerR]
  have:=ZjR bf sl r
  split
  ·omega
  ·simp;omega
theorem Zgx (n sl:Nat):∀ r,(outerR n sl r).length<=r * (2 * sl+1)
 | 0=>by simp[outerR]
 | r+1=>by
  rw[outerR,List.length_append]
  have h1:=ZjR ((n:Int)-(r+1:Nat)) sl (2 * sl+1)
  have h2:=Zgx n sl r
  have h3:=Nat.succ_mul r (2 * sl+1)
  rw[Nat.succ_eq_add_one]at h3
  omega
theorem Zeq {b:Bk}(v:ZbB b):(Zat b).length<=22:=by
 obtain⟨h1,h2⟩:=v.sl
 obtain⟨h3,h4⟩:=v.n
 have:=Zgx b.pts.length b.sl.toNat (b.pts.length-1)
 have e:(b.pts.length-1) * (2 * b.sl.toNat+1)<=3 * 7:=Nat.mul_le_mul (by omega) (by omega)
 simp only[Zat,List.length_cons]
 omega
theorem Zk5 {f:Int->List Boat}{hi:Int}{k:Nat}(hf:∀ v,(f v).length<=k):∀ c,(spanR f hi c).length<=c * k
 | 0=>by simp[spanR]
 | c+1=>by
  rw[spanR,List.length_append,Nat.succ_mul]
  have:=hf (hi-c)
  have:=Zk5 (hi:=hi) hf c
  omega
theorem ZlE {b:Bk}(v:ZbB b):∀ r,r<=b.pts.length->∀ m,(boatsFrom b r m).length<=3 ^ r * 22
 | 0,_,m=>by
  rw[boatsFrom]
  have h1:=List.length_filter_le (Zdl b) ((Zat b).map fun k=>(⟨m,k.bf,k.by_⟩:Boat))
  have h2:=Zeq v
  rw[List.length_map]at h1
  omega
 | r+1,hr,m=>by
  rw[boatsFrom]
  have h1:=Zk5 (f:=fun v=>boatsFrom b r (m.put (b.pts.length-(r+1)) v)) (hi:=(ptAt b (b.pts.length-(r+1))).mh) (fun w=>ZlE v r (by omega) _) ((ptAt b (b.pts.length-(r+1))).mh-(ptAt b (b.pts.length-(r+1))).ml+1).toNat
  have hi:b.pts.length-(r+1)<b.pts.length:=by omega
  have e:ptAt b (b.pts.length-(r+1))=b.pts[b.pts.length-(r+1)]:=ZaG hi _
  obtain⟨_,h3,_⟩:=v.pts _ hi
  rw[e]at h1 ⊢
  refine Nat.le_trans h1 ?_
  rw[Nat.pow_succ,Nat.mul_comm (3 ^ r) 3,Nat.mul_assoc]
  exact Nat.mul_le_mul_right _ (by omega)
theorem Za8 {b:Bk}(v:ZbB b):(Zae b).length<=1782:=by
 have h1:=ZlE v b.pts.length (Nat.le_refl _) ⟨0,0,0,0⟩
 have h2:3 ^ b.pts.length<=3 ^ 4:=Nat.pow_le_pow_right (by omega) v.n.2
 unfold Zae
 omega
theorem ZoK {H0 H H':Hp}{b b':Option Nat}(hs:Inc H0 H)(hf:∀ r,b=some r->H0 r=none)(c:Chg H H' b b'):Inc H0 H':=
 fun d y hd=>c.keep d y (hs d y hd) (fun e=>by rw[hf d e]at hd;simp at hd)
theorem Own.freshI {α:Type}[Enc α]{H0 H H':Hp}{E:TypeId}{v:Value}{l:List α}{b b':Option Nat}(hs:Inc H0 H)(h:Own H0 H E v l b)(c:Chg H H' b b'):∀ r,b'=some r->H0 r=none:=by
 rcases c.new with rfl | ⟨r,rfl,hr⟩
 ·exact h.fresh
 ·intro r' e
  obtain rfl:=Option.some.inj e
  exact Zbd hs hr
theorem Own.inc {α:Type}[Enc α]{H0 H H':Hp}{E:TypeId}{v:Value}{l:List α}{b:Option Nat}(h:Own H0 H E v l b)(hi:Inc H H'):Own H0 H' E v l b:=⟨h.own.sub fun c y _ hc=>hi c y hc,h.fresh⟩
section
variable  {P:Prg}{H:Hp}{d:Option Nat}{next:NSt->Hp->Prop}{σ:NSt}{x y:Operand}
theorem ZaR {α:Type}[Enc α]{H0:Hp}{sT sT' E T:TypeId}{by_:Nat}{zv s w:Value}{l l':List α}{b:Option Nat}(hu:P.toProgram.underlying sT=some (.slice E))(hu':P.toProgram.underlying sT'=some (.slice E))(ti:TI P.toProgram E (Enc.sz α) zv by_)(hz:zv.cells.size=Enc.sz α)(he:0<Enc.sz α)
  (hs:Inc H0 H) (ho:Own H0 H E s l b) (hw:SlAt H w l') (h1:((encs l').all Value.isOne)=true) (hb1:l.length+l'.length<=1000000000) (hb2:by_<=1000) (e1:σ.get x=some s) (e2:σ.get y=some w) (hst:P.still H.gh=false)
  (h:∀ v' H' b',Inc H0 H'->Own H0 H' E v' (l++l') b'->Chg H H' b b'->next (σ.set d v') H'):(NOp.raw (.call { callee:=.builtin .append,args:=#[x,y],argTypes:=#[sT,sT'] }) T).m P d next σ H:=by
 obtain⟨A,c,rfl,h2⟩:=hw
 by_cases hn:l'=[]
 ·subst hn
  refine ZdB hu hu' ti hz he e1 e2 ho.own (m:=0) (xs:=[]) (.inl ⟨rfl,A,c,rfl⟩) (by simp) rfl hb1 hb2 hst fun v' H' b' g1 g2=>?_
  exact h v' H' b' (ZoK hs ho.fresh g2) ⟨by simpa using g1,ho.freshI hs g2⟩ g2
 ·obtain⟨a,rfl,hc⟩:=h2 hn
  refine ZdB hu hu' ti hz he e1 e2 ho.own (m:=l'.length) (xs:=encs l') (.inr ⟨a,c,rfl,hc⟩) (ZbJ l') h1 hb1 hb2 hst fun v' H' b' g1 g2=>?_
  refine h v' H' b' (ZoK hs ho.fresh g2) ⟨?_,ho.freshI hs g2⟩ g2
  rw[Zcu,List.length_append]
  exact g1
end
theorem u110:Tryz.prog.underlying 110=some (.slice 121):=by kernel_rfl
theorem t110:tiOf Tryz.prog 110=some (1,some (.slice none 0 0),24):=by kernel_rfl
section
variable  {P:Prg}[Tz P][Loud P]{H:Hp}
set_option maxHeartbeats 1000000
theorem Zgf {bv:Value}{b:Bk}(hb:BkAt H bv b)(hg:Zba H)(hl:b.pts.length<=1000000)(hl2:b.cks.length<=1000000):LL.Zai P 19 #[bv] H fun v H'=>Inc H H'∧v=.tuple #[vi (if snag b=0 then (Zae b).length else 0),vi (snag b)]:=by
 have hs:=Loud.loud (P:=P)
 have hb0:=hb
 obtain⟨pv,cv,rfl,hp,hc⟩:=hb
 refine IsN.m (isn c19) (args:=[.agg #[vi b.op,vi b.sl,pv,cv]]) rfl ?_
 unfold n19
 refine wkT ?_
 refine Zca rfl (hs _) fun r1 hr1=>?_
 have hi1:=Zah (o:=.cells (Value.agg #[vi b.op,vi b.sl,pv,cv]).cells 25) hr1
 have c1:CellsAt (H.ins r1 (.cells (Value.agg #[vi b.op,vi b.sl,pv,cv]).cells 25)) ⟨r1,0,none⟩ [vi b.op,vi b.sl,pv,cv]:=Zaw
 generalize H.ins r1 (.cells (Value.agg #[vi b.op,vi b.sl,pv,cv]).cells 25)=H1 at *
 refine wkT ?_
 refine Zam (hs _) rfl c1 rfl ?_
 refine wkT ?_
 refine Zab (vs:=[.agg #[vi b.op,vi b.sl,pv,cv]]) rfl (ZaU (hb0.inc hi1) (CellsAt.inc hg hi1) hl hl2 (hs _)) ?_
 rintro v _ ⟨rfl,rfl⟩
 refine wkT ?_
 refine wiT (fun h1=>?_) (fun h1=>?_)
 ·refine wkT ?_
  exact⟨hi1,by rw[if_neg h1];rfl⟩
 ·have val:=ZaH h1
  have hlen:=Za8 val
  refine wkT ?_
  refine Zaz (tif t3) (hs _) fun r5 hr5=>?_
  have hi5:=Zah (o:=.cells (vi 0).cells 3) hr5
  refine wkT ?_
  refine ZaA (tif t3) rfl rfl (Hp.ins_same _ _ _) rfl rfl (hs _) ?_
  rw[Zbk]
  refine wkT ?_
  refine Zam (hs _) rfl (c1.inc (Zah hr5)) rfl ?_
  refine wkT ?_
  refine ZcB rfl rfl ?_
  refine wkT ?_
  refine Zfe hs rfl (boats_iter (pv:=pv) (cv:=cv) val.good) (fun x hx=>by obtain⟨k,_,rfl⟩:=List.mem_map.1 hx;rfl)
   (fun n H'=>n<=(Zae b).length∧Inc H1 H'∧H' r5=some (.cells #[vi n] 3,true)) (fun e H'=>False) ⟨Nat.zero_le _,Zah hr5,Hp.ins_same _ _ _⟩
   (fun n H' J hc ⟨h1,h2,h3⟩=>⟨h1,h2.trans (Za2 _ _),Hp.join_left h3⟩) (fun e H' J hc h=>h) (fun n H' h=>(hb0.inc hi1).inc h.2.1) ?_ ?_ ?_
  ·rintro n hn H3 ⟨g0,g1,g2⟩
   rw[ZkT hn]
   rw[List.length_map]at hn
   refine wkT ?_
   refine Zaf (hs _) rfl (Zap (cs:=[vi n]) g2) ?_
   refine wkT ?_
   refine ZaA (tif t3) rfl rfl g2 rfl rfl (hs _) ?_
   refine wkT ?_
   exact⟨hn,Za5 g1 hr5,Hp.ins_same _ _ _⟩
  ·rintro H3 ⟨g0,g1,g2⟩
   rw[List.length_map]at g2
   refine wkT ?_
   refine Zaf (hs _) rfl (Zap (cs:=[vi (Zae b).length]) g2) ?_
   refine wkT ?_
   exact⟨hi1.trans g1,by rw[if_pos h1,h1];rfl⟩
  ·rintro e H3 he h
   exact h.elim
end
def Ziv (b:Bk)(pv cv w:Value):Value:=.agg #[vi b.op,vi b.sl,pv,cv,w]
def ZnZ:Value:=.agg #[vi 0,vi 0,.slice none 0 0,.slice none 0 0,.slice none 0 0]
def Zag (b:Bk)(there:Bool):Int:=if snag b≠0 then snag b else if there=false then 6 else if (Zae b).length=0 then 9 else 0
section
variable  {P:Prg}[Tz P][Loud P]{H:Hp}
set_option maxHeartbeats 1000000
theorem Zkd {fv:Value}{l:List Boat}{N:Hp->Prop}(hit:Iter P fv N (l.map ZfQ))(hN:∀ H',Inc H H'->N H')(hl:l.length<=1000000):LL.Zai P 178 #[.slice none 0 0,fv] H fun v H'=>Inc H H'∧∃ bb,Own H H' 121 v l bb:=by
 have hs:=Loud.loud (P:=P)
 refine IsN.m (isn c178) (args:=[.slice none 0 0,fv]) rfl ?_
 unfold n178
 refine wkT ?_
 refine Zca rfl (hs _) fun r2 hr2=>?_
 refine wkT ?_
 refine Zfe hs rfl hit (fun x hx=>by obtain⟨k,_,rfl⟩:=List.mem_map.1 hx;rfl)
  (fun n H'=>Inc H H'∧∃ v bb,H' r2=some (.cells #[v] 110,true)∧Own H H' 121 v (l.take n) bb∧bb≠some r2) (fun e H'=>False) ⟨Zah hr2,_,none,Hp.ins_same _ _ _,.nil H _ 121,by simp⟩
  (fun n H' J hc ⟨h1,v,bb,h2,h3,h4⟩=>⟨h1.trans (Za2 _ _),v,bb,Hp.join_left h2,h3.inc (Za2 _ _),h4⟩) (fun e H' J hc h=>h) (fun n H' h=>hN _ h.1) ?_ ?_ ?_
 ·rintro n hn H3 ⟨g1,v,bb,g2,g3,g4⟩
  rw[ZkT hn]
  rw[List.length_map]at hn
  have htake:l.take (n+1)=l.take n++[l[n]]:=by rw[List.take_succ_eq_append_getElem hn]
  generalize l[n]=x at *
  have h2:H r2=none:=hr2
  refine wkT ?_
  refine Zaz (tif t121) (hs _) fun r5 hr5=>?_
  refine wkT ?_
  refine ZaD (v:=ZaS x) (tif t121) (cs:=[vi 0,vi 0,vi 0,vi 0,vi 0,vi 0]) rfl rfl (Hp.ins_same _ _ _) rfl rfl rfl (hs _) ?_
  rw[Zbk]
  have g1':=g1.trans (Zah (o:=.cells (ZaS x).cells 121) hr5)
  have g2':=Zah (o:=.cells (ZaS x).cells 121) hr5 _ _ g2
  have g3':=g3.ins (o:=.cells (ZaS x).cells 121) hr5
  have c5:CellsAt (H3.ins r5 (.cells (ZaS x).cells 121)) ⟨r5,0,none⟩ x.cells:=Zaw
  generalize H3.ins r5 (.cells (ZaS x).cells 121)=H4 at *
  refine wkT ?_
  refine Zaf (hs _) rfl (Zap (cs:=[v]) g2') ?_
  refine wkT ?_
  refine Zam (hs _) rfl c5 rfl ?_
  refine wkT ?_
  refine Zao (cs:=x.cells) (hs _) rfl fun r6 hr6=>?_
  refine wkT ?_
  have hv1:v.cells=#[v]∧Value.isOne v=true:=by
   obtain⟨_,⟨e,_⟩ | ⟨_,_,_,_,e,_⟩⟩:=g3.own<;>(subst e;exact⟨rfl,rfl⟩)
  refine ZaR (l':=[x]) (und u110) (und u110) (tif t121) rfl (by decide) (g1'.trans (Zah hr6)) (g3'.ins hr6) (ZaT (l:=[x])) rfl (by simp;omega) (by omega) rfl rfl (hs _) fun v' H6 b' k1 k2 k3=>?_
  have g6:H6 r2=some (.cells #[v] 110,true):=k3.keep r2 _ (Zah hr6 _ _ g2') (fun e=>g4 e)
  have hv':v'.cells=#[v']∧Value.isOne v'=true:=by
   obtain⟨_,⟨e,_⟩ | ⟨_,_,_,_,e,_⟩⟩:=k2.own<;>(subst e;exact⟨rfl,rfl⟩)
  have hb':b'≠some r2:=by
   rcases k3.new with rfl | ⟨q,rfl,hq⟩
   ·exact g4
   ·rintro e
    obtain rfl:=Option.some.inj e
    rw[Zah hr6 _ _ g2']at hq;simp at hq
  refine wkT ?_
  refine ZaA (v:=v') (tif t110) rfl rfl g6 hv'.1 hv'.2 (hs _) ?_
  refine wkT ?_
  refine⟨Za5 k1 h2,v',b',Hp.ins_same _ _ _,?_,hb'⟩
  rw[htake]
  refine⟨k2.own.sub fun c z e hc=>?_,k2.fresh⟩
  rw[Hp.ins_other _ _ (by rintro rfl;exact hb' e)];exact hc
 ·rintro H3 ⟨g1,v,bb,g2,g3,g4⟩
  rw[List.length_map,List.take_length]at g3
  refine wkT ?_
  refine Zaf (hs _) rfl (Zap (cs:=[v]) g2) ?_
  refine wkT ?_
  exact⟨g1,bb,g3⟩
 ·rintro e H3 he h
  exact h.elim
theorem ZmV {fv:Value}{l:List Boat}{N:Hp->Prop}(hit:Iter P fv N (l.map ZfQ))(hN:∀ H',Inc H H'->N H')(hl:l.length<=1000000):LL.Zai P 146 #[fv] H fun v H'=>Inc H H'∧∃ bb,Own H H' 121 v l bb:=by
 have hs:=Loud.loud (P:=P)
 refine IsN.m (isn c146) (args:=[fv]) rfl ?_
 unfold n146
 refine wkT ?_
 refine Zab (vs:=[.slice none 0 0,fv]) rfl (Zkd hit hN hl) ?_
 rintro v H' h
 refine wkT ?_
 exact h
theorem Zeg {bv fv:Value}{b:Bk}{there:Bool}(hb:BkAt H bv b)(hg:Zba H)(hl:b.pts.length<=1000000)(hl2:b.cks.length<=1000000)(hf:CallV P fv #[bv] H fun v H'=>H=H'∧v=vb there) :
  LL.Zai P 89 #[bv,fv] H fun v H'=>Inc H H'∧((Zag b there≠0∧v=.tuple #[ZnZ,vi (Zag b there)])∨(Zag b there=0∧∃ pv cv w bb,bv=.agg #[vi b.op,vi b.sl,pv,cv]∧v=.tuple #[Ziv b pv cv w,vi 0]∧Own H H' 121 w (Zae b) bb)):=by
 have hs:=Loud.loud (P:=P)
 have hb0:=hb
 obtain⟨pv,cv,rfl,hp,hc⟩:=hb
 have one:∀ {α:Type} [Enc α] {v:Value} {l:List α},SlAt H v l->v.cells=#[v]∧Value.isOne v=true:=fun h=>by
  obtain⟨A,c,rfl,_⟩:=h;exact⟨rfl,rfl⟩
 obtain⟨o1,o2⟩:=one hp
 obtain⟨o3,o4⟩:=one hc
 obtain⟨Ap,cp,rfl,hp'⟩:=hp
 obtain⟨Ac,cc,rfl,hc'⟩:=hc
 refine IsN.m (isn c89) (args:=[.agg #[vi b.op,vi b.sl,.slice Ap b.pts.length cp,.slice Ac b.cks.length cc],fv]) rfl ?_
 unfold n89
 refine wkT ?_
 refine Zab (vs:=[.agg #[vi b.op,vi b.sl,.slice Ap b.pts.length cp,.slice Ac b.cks.length cc]]) rfl (ZaU hb0 hg hl hl2 (hs _)) ?_
 rintro v _ ⟨rfl,rfl⟩
 refine wkT ?_
 refine wiT (fun h1=>?_) (fun h1=>?_)
 ·refine wkT ?_
  exact⟨.refl H,.inl ⟨by rw[Zag,if_pos h1];exact h1,by rw[Zag,if_pos h1];rfl⟩⟩
 ·have val:=ZaH h1
  refine wkT ?_
  refine ZaX (vs:=[.agg #[vi b.op,vi b.sl,.slice Ap b.pts.length cp,.slice Ac b.cks.length cc]]) rfl rfl hf ?_
  rintro v _ ⟨rfl,rfl⟩
  refine wkT ?_
  cases there with
  | false=>
   refine wkT ?_
   have e:Zag b false=6:=by rw[Zag,if_neg (by omega),if_pos rfl]
   exact⟨.refl H,.inl ⟨by rw[e];decide,by rw[e];rfl⟩⟩
  | true=>
   refine wkT ?_
   refine ZcB rfl rfl ?_
   refine wkT ?_
   refine Zab (vs:=[.func (.func 87) #[.agg #[vi b.op,vi b.sl,.slice Ap b.pts.length cp,.slice Ac b.cks.length cc]] #[]]) rfl (ZmV (boats_iter val.good) (fun H' hi=>hb0.inc hi) (by have:=Za8 val;omega)) ?_
   rintro v H1 ⟨hi1,bb,ow⟩
   obtain⟨Aw,cw,rfl,_⟩:=ow.sl
   refine wkT ?_
   refine wiT (fun h2=>?_) (fun h2=>?_)
   ·have e:Zag b true=9:=by rw[Zag,if_neg (by omega),if_neg (by simp),if_pos (by omega)]
    refine wkT ?_
    exact⟨hi1,.inl ⟨by rw[e];decide,by rw[e];rfl⟩⟩
   ·have e:Zag b true=0:=by rw[Zag,if_neg (by omega),if_neg (by simp),if_neg (by omega)]
    refine wkT ?_
    exact⟨hi1,.inr ⟨e,_,_,_,bb,rfl,rfl,ow⟩⟩
end
end Go.Proofs
end
