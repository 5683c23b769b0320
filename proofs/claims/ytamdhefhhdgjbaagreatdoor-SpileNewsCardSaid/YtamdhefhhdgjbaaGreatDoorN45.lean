import Derived.Test.YtamdhefhhdgjbaaGreatDoorN44
set_option linter.all false
section
open Go Go.LL
namespace Go.Proofs
def Zcs (b:Bk)(x:Boat):List Int:=(Zav b x).list.take b.pts.length
def Zd5 (b:Bk)(l:List Int)(ks:List Slip):List Boat:=(ks.map fun k=>(⟨n4of l,k.bf,k.by_⟩:Boat)).filter (Zdl b)
def Zji (hi:Int):Nat->List Int
 | 0=>[]
 | c+1=>(hi-c) :: Zji hi c
theorem Zhs (f:Int->List Boat)(hi:Int):∀ c,spanR f hi c=(Zji hi c).flatMap f
 | 0=>rfl
 | c+1=>by rw[spanR,Zji,List.flatMap_cons,Zhs f hi c]
theorem Zjh {hi:Int}:∀ {c:Nat},(Zji hi c).length=c∧∀ t,t<c->(Zji hi c)[t]? = some (hi-(c-1-t:Nat))
 | 0=>⟨rfl,fun t h=>by omega⟩
 | c+1=>by
  obtain⟨h1,h2⟩:=@Zjh hi c
  refine⟨by rw[Zji,List.length_cons,h1],fun t ht=>?_⟩
  rw[Zji]
  cases t with
  | zero=>simp
  | succ t=>rw[List.getElem?_cons_succ,h2 t (by omega)];congr 2;omega
theorem spanL_eq {b:Bk}{i:Nat}:Zji (ptAt b i).mh ((ptAt b i).mh-(ptAt b i).ml+1).toNat=Zcz b i:=by
 obtain⟨h1,h2⟩:=@Zjh (ptAt b i).mh ((ptAt b i).mh-(ptAt b i).ml+1).toNat
 have hl:(Zcz b i).length=((ptAt b i).mh-(ptAt b i).ml+1).toNat:=by simp[Zcz]
 refine List.ext_getElem? fun t=>?_
 by_cases ht:t<((ptAt b i).mh-(ptAt b i).ml+1).toNat
 ·rw[h2 t ht,Zcz,List.getElem?_map,List.getElem?_range ht]
  show some ((ptAt b i).mh-((((ptAt b i).mh-(ptAt b i).ml+1).toNat-1-t:Nat):Int))=some ((ptAt b i).ml+(t:Int))
  congr 1;omega
 ·rw[List.getElem?_eq_none (by omega),List.getElem?_eq_none (by omega)]
def lvN (b:Bk):Nat->List N4
 | 0=>[⟨0,0,0,0⟩]
 | i+1=>(lvN b i).flatMap fun m=>(Zcz b i).map fun n=>m.put i n
theorem ZfN {α β γ:Type}(l:List α)(f:α->List β)(g:β->List γ):(l.flatMap f).flatMap g=l.flatMap fun a=>(f a).flatMap g:=by
 induction l with
 | nil=>rfl
 | cons a l ih=>simp[List.flatMap_cons,List.flatMap_append,ih]
theorem ZdH {α β γ:Type}(l:List α)(f:α->β)(g:β->List γ):(l.map f).flatMap g=l.flatMap fun a=>g (f a):=by
 induction l with
 | nil=>rfl
 | cons a l ih=>simp[List.flatMap_cons,ih]
theorem Zhj {α β:Type}{l:List α}{f g:α->List β}(h:∀ a∈l,f a=g a):l.flatMap f=l.flatMap g:=by
 induction l with
 | nil=>rfl
 | cons a l ih=>rw[List.flatMap_cons,List.flatMap_cons,h a (List.mem_cons_self ..),ih fun x hx=>h x (List.mem_cons_of_mem _ hx)]
theorem lv_step {b:Bk}{r i:Nat}(h:b.pts.length=i+(r+1)):(lvN b (i+1)).flatMap (boatsFrom b r)=(lvN b i).flatMap (boatsFrom b (r+1)):=by
 rw[lvN,ZfN]
 congr 1
 funext m
 rw[ZdH,boatsFrom,Zhs]
 have e:b.pts.length-(r+1)=i:=by omega
 rw[e,spanL_eq]
theorem lv_all {b:Bk}:∀ (r i:Nat),b.pts.length=i+r->(lvN b i).flatMap (boatsFrom b r)=(lvN b b.pts.length).flatMap (boatsFrom b 0)
 | 0,i,h=>by rw[h,Nat.add_zero]
 | r+1,i,h=>by rw[<-lv_step h];exact lv_all r (i+1) (by omega)
theorem boats_lv (b:Bk):Zae b=(lvN b b.pts.length).flatMap (boatsFrom b 0):=by
 rw[<-lv_all b.pts.length 0 (by omega)]
 simp[lvN,Zae]
theorem ZiI {l:List Int}{j:Nat}(hj:j<4):(n4of l).get j=l.getD j 0:=N4.of_get _ hj
theorem lv_mk {b:Bk}(v:ZbB b):∀ i,i<=b.pts.length->lvN b i=(mkL b i).map n4of
 | 0,_=>rfl
 | i+1,hi=>by
  have hi4:i<4:=by have:=v.n;omega
  rw[lvN,lv_mk v i (by omega),mkL,ZdH,List.map_flatMap]
  refine Zhj fun l hl=>?_
  rw[List.map_map]
  refine List.map_congr_left fun n _=>?_
  obtain⟨h1,_⟩:=Zlw v i (by omega) l hl
  refine N4.ext' fun j hj=>?_
  rw[N4.put_get _ _ hj,ZiI hj]
  show _=(n4of (l++[n])).get j
  rw[ZiI hj]
  simp only[List.getD_eq_getElem?_getD]
  by_cases e:j=i
  ·subst e
   rw[if_pos rfl,List.getElem?_append_right (by omega),h1]
   simp
  ·rw[if_neg e]
   by_cases e2:j<i
   ·rw[List.getElem?_append_left (by omega)]
   ·rw[List.getElem?_eq_none (by omega),List.getElem?_eq_none (by rw[List.length_append,List.length_singleton];omega)]
theorem boats_mk {b:Bk}(v:ZbB b):Zae b=(mkL b b.pts.length).flatMap fun l=>Zd5 b l (Zat b):=by
 rw[boats_lv,lv_mk v _ (Nat.le_refl _),ZdH]
 rfl
theorem gaps_eq {b:Bk}(v:ZbB b){l:List Int}(hl:l.length=b.pts.length)(k:Slip):Zb8 b l k=Zcs b ⟨n4of l,k.bf,k.by_⟩:=by
 have h4:=v.n
 have hlen:(Zcs b ⟨n4of l,k.bf,k.by_⟩).length=b.pts.length:=by
  rw[Zcs,List.length_take];show min _ 4=_;omega
 have hl2:(Zb8 b l k).length=b.pts.length:=by simp[Zb8,hl]
 refine List.ext_getElem? fun i=>?_
 by_cases hi:i<b.pts.length
 ·have h44:i<4:=by omega
  rw[Zb8,List.getElem?_map,List.getElem?_range (by omega)]
  rw[Zcs,List.getElem?_take_of_lt hi]
  have:(Zav b ⟨n4of l,k.bf,k.by_⟩).list[i]? = some ((Zav b ⟨n4of l,k.bf,k.by_⟩).get i):=by
   match i,h44 with
   | 0,_=>rfl
   | 1,_=>rfl
   | 2,_=>rfl
   | 3,_=>rfl
  rw[this,Zav,N4.of_get _ h44,if_pos hi,ZkH]
  show some _=some _
  rw[ZiI h44]
 ·rw[List.getElem?_eq_none (by omega),List.getElem?_eq_none (by omega)]
theorem Zor {b:Bk}(v:ZbB b)(x:Boat){i:Nat}(hi:i<b.pts.length):(Zcs b x).getD i 0=(Zav b x).get i:=by
 have h4:=v.n
 have h44:i<4:=by omega
 rw[Zcs,List.getD_eq_getElem?_getD,List.getElem?_take_of_lt hi]
 match i,h44 with
 | 0,_=>rfl
 | 1,_=>rfl
 | 2,_=>rfl
 | 3,_=>rfl
theorem right_eq {b:Bk}(v:ZbB b)(x:Boat):Zjn b (Zcs b x)=Zdl b x:=by
 rw[Zjn,Zdl]
 have:∀ c∈b.cks,decide (c.gl<=(Zcs b x).getD c.p.toNat 0∧(Zcs b x).getD c.p.toNat 0<=c.gh)=ckOk (Zav b x) c:=by
  intro c hc
  obtain⟨⟨h1,h2⟩,_⟩:=v.cks c hc
  rw[ckOk,Zor v x (by omega)]
 rw[Bool.eq_iff_iff,List.all_eq_true,List.all_eq_true]
 exact⟨fun h c hc=>by rw[<-this c hc];exact h c hc,fun h c hc=>by rw[this c hc];exact h c hc⟩
structure Q4 where
 m:Value
 (bf by_:Int)
 g:Value
instance:Enc Q4:=⟨4,fun q=>[q.m,vi q.bf,vi q.by_,q.g],fun _=>rfl⟩
structure RbAt (b:Bk)(H:Hp)(rows:List Q4)(xs:List Boat):Prop where
 len:rows.length=xs.length
 at_:∀ i (h:i<rows.length) (h':i<xs.length),rows[i].bf=xs[i].bf∧rows[i].by_=xs[i].by_∧SlAt H rows[i].g (Zcs b xs[i])
theorem RbAt.nil (b:Bk)(H:Hp):RbAt b H [] []:=⟨rfl,fun i h=>by simp at h⟩
theorem RbAt.inc {b:Bk}{H H':Hp}{rows:List Q4}{xs:List Boat}(h:RbAt b H rows xs)(hi:Inc H H'):RbAt b H' rows xs:=⟨h.len,fun i a c=>by obtain⟨h1,h2,h3⟩:=h.at_ i a c;exact⟨h1,h2,h3.inc hi⟩⟩
theorem RbAt.snoc {b:Bk}{H:Hp}{rows:List Q4}{xs:List Boat}{q:Q4}{x:Boat}(h:RbAt b H rows xs)(h1:q.bf=x.bf)(h2:q.by_=x.by_)(h3:SlAt H q.g (Zcs b x)):RbAt b H (rows++[q]) (xs++[x]):=by
 have hl:=h.len
 refine⟨by simp[hl],fun i a c=>?_⟩
 by_cases hi:i<rows.length
 ·rw[List.getElem_append_left hi,List.getElem_append_left (by omega)];exact h.at_ i hi (by omega)
 ·simp only[List.length_append,List.length_singleton]at a
  have e:i=rows.length:=by omega
  subst e
  rw[List.getElem_append_right (Nat.le_refl _),List.getElem_append_right (by omega)]
  simp[hl]
  exact⟨h1,h2,h3⟩
def Zi8 (b:Bk)(H:Hp)(v:Value)(xs:List Boat):Prop:=∃ rows,SlAt H v rows∧RbAt b H rows xs
theorem ZoN (b:Bk)(l:List Int)(ks:List Slip)(k:Slip):Zd5 b l (ks++[k])=Zd5 b l ks++if Zdl b ⟨n4of l,k.bf,k.by_⟩ then [⟨n4of l,k.bf,k.by_⟩] else []:=by
 rw[Zd5,List.map_append,List.filter_append,Zd5]
 congr 1
 rw[List.map_singleton,List.filter_cons]
 rfl
theorem t125:tiOf Tryz.prog 125=some (4,some (.agg #[.slice none 0 0,vi 0,vi 0,.slice none 0 0]),64):=by kernel_rfl
theorem u108:Tryz.prog.underlying 108=some (.slice 125):=by kernel_rfl
section
variable  {P:Prg}[Tz P][Loud P]{H:Hp}
set_option maxHeartbeats 4000000
set_option maxRecDepth 20000
theorem Zd2 {bv:Value}{b:Bk}(hb:BkAt H bv b)(v:ZbB b) :
  LL.Zai P 88 #[bv] H fun w H'=>Inc H H'∧Zi8 b H' w (Zae b):=by
 have hs:=Loud.loud (P:=P)
 have hn:=v.n
 have hb0:=hb
 obtain⟨pv,cv,rfl,hp,hc⟩:=hb
 have hlen:=Za8 v
 refine IsN.m (isn c88) (args:=[.agg #[vi b.op,vi b.sl,pv,cv]]) rfl ?_
 unfold n88
 refine wkT ?_
 refine Zab (vs:=[.agg #[vi b.op,vi b.sl,pv,cv]]) rfl (ZmR hb0 v) ?_
 rintro mv H1 ⟨i1,vs,s1,l1⟩
 refine wkT ?_
 refine Zao (cs:=[vi 0,vi 0]) (hs _) rfl fun r2 hr2=>?_
 have o2:Own H1 (H1.ins r2 (.cells (encs [(⟨0,0⟩:Slip)]).toArray 70)) 70 (.slice (some ⟨r2,0,none⟩) 1 1) [(⟨0,0⟩:Slip)] (some r2):=Zkt hr2
 have i2:Inc H1 (H1.ins r2 (.cells (encs [(⟨0,0⟩:Slip)]).toArray 70)):=Zah hr2
 show MOps P _ _ _ (H1.ins r2 (.cells (encs [(⟨0,0⟩:Slip)]).toArray 70))
 generalize H1.ins r2 (.cells (encs [(⟨0,0⟩:Slip)]).toArray 70)=H2 at *
 refine wkT ?_
 refine Zab (vs:=[.agg #[vi b.op,vi b.sl,pv,cv]]) rfl (ZmQ ((hb0.inc i1).inc i2) v.sl.1 (by have:=v.sl;omega) (by omega) (by omega)) ?_
 rintro sv H3 ⟨i3,bb3,o3⟩
 have hsl:=Zeq v
 refine wkT ?_
 refine ZaR (l':=(Zat b).drop 1) (und t38e) (und t38e) (tif t70) rfl (by decide) (i2.trans i3) (o2.inc i3) o3.sl (Zng _) (by simp;omega) (by omega) rfl rfl (hs _) fun v5 H4 b5 i4 o5 _=>?_
 have hsc:[(⟨0,0⟩:Slip)]++(Zat b).drop 1=Zat b:=rfl
 rw[hsc]at o5
 have s5:=o5.sl
 have s14:=s1.inc i4
 have l14:=l1.inc i4
 have hb4:=(hb0.inc i1).inc i4
 have i04:=i1.trans i4
 refine wkT ?_
 have hl1:=l1.len
 have hmk:=Zn3 v _ (Nat.le_refl _)
 have h81:3 ^ b.pts.length<=3 ^ 4:=Nat.pow_le_pow_right (by decide) hn.2
 have hboats:=boats_mk v
 refine Zax (α:=Hp×Value×List Q4×Option Nat) vs.length (fun j s H'=>Inc H4 s.1∧Inc s.1 H'∧Own s.1 H' 125 s.2.1 s.2.2.1 s.2.2.2∧RbAt b s.1 s.2.2.1 (((mkL b b.pts.length).take j).flatMap fun l=>Zd5 b l (Zat b)))
  (fun j s=>[(1,vi 0),(3,s.2.1),(4,mv),(5,v5),(6,vi j)]) (fun _ _=>[(1,[vi b.op,vi b.sl,pv,cv])]) (H4,.slice none 0 0,[],none) ⟨.refl H4,.refl H4,.nil _ _ _,.nil _ _⟩ ⟨rfl,rfl,rfl,rfl,rfl,trivial⟩ ⟨rfl,trivial⟩ ?_
 rintro j ⟨G,v3,rows,b3⟩ H5 hj ⟨g1,g2,o6,r6⟩
 simp only at g1 g2 o6 r6
 refine wkT ?_
 refine Zal (s14.inc (g1.trans g2)) rfl ?_
 refine wkT ?_
 refine wiT (fun h1=>?_) (fun h1=>?_)
 ·have hj':j<vs.length:=by omega
  have hjm:j<(mkL b b.pts.length).length:=by omega
  have hft:=ZjX (f:=fun l=>Zd5 b l (Zat b)) hjm
  obtain⟨hml1,hml2⟩:=Zlw v _ (Nat.le_refl _) (mkL b b.pts.length)[j] (List.getElem_mem hjm)
  have hsk:=l14.at_ j hj' hjm
  have hsub:∀ k,((((mkL b b.pts.length).take j).flatMap fun l=>Zd5 b l (Zat b))++Zd5 b (mkL b b.pts.length)[j] ((Zat b).take k)).length<=81 * 22+22:=by
   intro k
   rw[List.length_append]
   have a1:=Zf7 (f:=fun l=>Zd5 b l (Zat b)) (k:=22) (l:=(mkL b b.pts.length).take j) fun l _=>by
    have:=List.length_filter_le (Zdl b) ((Zat b).map fun k=>(⟨n4of l,k.bf,k.by_⟩:Boat))
    rw[List.length_map]at this
    rw[Zd5];omega
   have a2:(Zd5 b (mkL b b.pts.length)[j] ((Zat b).take k)).length<=22:=by
    have:=List.length_filter_le (Zdl b) (((Zat b).take k).map fun k=>(⟨n4of (mkL b b.pts.length)[j],k.bf,k.by_⟩:Boat))
    rw[List.length_map,List.length_take]at this
    rw[Zd5];omega
   have a3:((mkL b b.pts.length).take j).length<=81:=by rw[List.length_take];omega
   have a4:((mkL b b.pts.length).take j).length * 22<=81 * 22:=Nat.mul_le_mul_right _ a3
   omega
  generalize (mkL b b.pts.length)[j]=l at *
  generalize (List.flatMap (fun l=>Zd5 b l (Zat b)) ((mkL b b.pts.length).take j))=L at *
  refine wkT ?_
  refine Zax (α:=Hp×Value×List Q4×Option Nat) (Zat b).length (fun k s H'=>Inc H4 s.1∧Inc s.1 H'∧Own s.1 H' 125 s.2.1 s.2.2.1 s.2.2.2∧RbAt b s.1 s.2.2.1 (L++Zd5 b l ((Zat b).take k)))
   (fun k s=>[(1,vi 0),(3,s.2.1),(4,mv),(5,v5),(6,vi j),(7,vi k)]) (fun _ _=>[(1,[vi b.op,vi b.sl,pv,cv])]) (G,v3,rows,b3) ⟨g1,g2,o6,by simpa[Zd5]using r6⟩ ⟨rfl,rfl,rfl,rfl,rfl,rfl,trivial⟩ ⟨rfl,trivial⟩ ?_
  rintro k ⟨G1,v4,rws,b4⟩ H6 hk ⟨q1,q2,o7,r7⟩
  simp only at q1 q2 o7 r7
  have hrl:=r7.len
  have hsk':=hsub k
  refine wkT ?_
  refine Zal (s5.inc (q1.trans q2)) rfl ?_
  refine wkT ?_
  refine wiT (fun h2=>?_) (fun h2=>?_)
  ·have hk':k<(Zat b).length:=by omega
   have htk:(Zat b).take (k+1)=(Zat b).take k++[(Zat b)[k]]:=List.take_succ_eq_append_getElem hk'
   have hbs:=ZoN b l ((Zat b).take k) (Zat b)[k]
   rw[<-htk]at hbs
   have hsi:=Zif v _ (List.getElem_mem hk')
   obtain⟨ks,hks⟩:∃ ks,ks=(Zat b)[k]:=⟨_,rfl⟩
   rw[<-hks]at hbs hsi
   obtain⟨Av,cv2,hvs,hsk2⟩:=id hsk
   have hskc:SlAt H4 (.slice Av l.length cv2) l:=by rw[<-hvs];exact hsk
   refine wkT ?_
   refine Zar (s14.inc (q1.trans q2)) rfl rfl rfl (i:=j) hj' fun a ha=>?_
   have ha':CellsAt H6 a [.slice Av l.length cv2]:=by rw[<-hvs];exact ha
   refine wkT ?_
   refine Zaf (hs _) rfl ha' ?_
   refine wkT ?_
   refine Zar (s5.inc (q1.trans q2)) rfl rfl rfl (i:=k) hk' fun a2 ha2=>?_
   have ha2':CellsAt H6 a2 [vi ks.bf,vi ks.by_]:=by rw[hks];exact ha2
   refine wkT ?_
   refine Zam (hs _) rfl ha2' rfl ?_
   refine wkT ?_
   refine Zab (vs:=[.agg #[vi b.op,vi b.sl,pv,cv],.slice Av l.length cv2,.agg #[vi ks.bf,vi ks.by_]]) rfl (Zo3 (hb4.inc (q1.trans q2)) (hskc.inc (q1.trans q2)) (by omega) ⟨by have:=v.op;omega,by have:=v.op;omega⟩ (fun x hx=>by have:=hml2 x hx;exact⟨by omega,by omega⟩) ⟨by omega,by omega⟩) ?_
   rintro gv H7 ⟨i7,b7,o8⟩
   rw[gaps_eq v hml1]at o8
   obtain⟨A8,c8,rfl,_⟩:=id o8.sl
   refine wkT ?_
   refine Zab (vs:=[.agg #[vi b.op,vi b.sl,pv,cv],.slice A8 (Zcs b ⟨n4of l,ks.bf,ks.by_⟩).length c8]) rfl (Zno ((hb4.inc (q1.trans q2)).inc i7) o8.sl (by have:=v.ckn;omega) (fun c hc=>⟨(v.cks c hc).1.1,by
    have h2:=(v.cks c hc).1.2
    have:(Zcs b ⟨n4of l,ks.bf,ks.by_⟩).length=b.pts.length:=by rw[Zcs,List.length_take];show min _ 4=_;omega
    rw[this];exact h2⟩)) ?_
   rintro v9 _ ⟨rfl,rfl⟩
   rw[right_eq v]
   refine wkT ?_
   refine wiT (fun h3=>?_) (fun h3=>?_)
   ·rw[h3,if_pos rfl]at hbs
    obtain⟨G2,w1,w2,w3,w4⟩:=Ziu q2 o7 i7 o8
    have w12:=(q1.trans q2).trans i7
    refine wkT ?_
    refine Zar (s14.inc w12) rfl rfl rfl (i:=j) hj' fun a ha=>?_
    have ha':CellsAt H7 a [.slice Av l.length cv2]:=by rw[<-hvs];exact ha
    refine wkT ?_
    refine Zaf (hs _) rfl ha' ?_
    refine wkT ?_
    refine Zar (s5.inc w12) rfl rfl rfl (i:=k) hk' fun a2 ha2=>?_
    have ha2':CellsAt H7 a2 [vi ks.bf,vi ks.by_]:=by rw[hks];exact ha2
    refine wkT ?_
    refine Zam (hs _) rfl ha2' rfl ?_
    refine wkT ?_
    refine Zao (cs:=[.slice Av l.length cv2,vi ks.bf,vi ks.by_,.slice A8 (Zcs b ⟨n4of l,ks.bf,ks.by_⟩).length c8]) (hs _) rfl fun rq hrq=>?_
    refine kp_l hs ?_
    have hq:=ZaT (H:=H7) (r:=rq) (E:=125) (c:=1) (l:=[(⟨.slice Av l.length cv2,ks.bf,ks.by_,.slice A8 (Zcs b ⟨n4of l,ks.bf,ks.by_⟩).length c8⟩:Q4)])
    have hq1:((encs [(⟨.slice Av l.length cv2,ks.bf,ks.by_,.slice A8 (Zcs b ⟨n4of l,ks.bf,ks.by_⟩).length c8⟩:Q4)]).all Value.isOne)=true:=rfl
    have hsn:=(r7.inc w1).snoc (q:=⟨.slice Av l.length cv2,ks.bf,ks.by_,.slice A8 (Zcs b ⟨n4of l,ks.bf,ks.by_⟩).length c8⟩) (x:=⟨n4of l,ks.bf,ks.by_⟩) rfl rfl w4
    generalize hqq:(⟨.slice Av l.length cv2,ks.bf,ks.by_,.slice A8 (Zcs b ⟨n4of l,ks.bf,ks.by_⟩).length c8⟩:Q4)=q at *
    refine wkT ?_
    refine ZaR (l':=[q]) (und u108) (und u108) (tif t125) rfl (by decide) (w2.trans (Zah hrq)) (w3.ins hrq) (by subst hqq;exact hq) hq1 (by simp;omega) (by omega) rfl rfl (hs _) fun v10 H8 b10 g3 o10 _=>?_
    refine wkT ?_
    exact⟨(⟨k+1,by omega⟩,(G2,v10,rws++[q],b10)),slt (by omega),⟨q1.trans w1,g3,o10,by rw[hbs,<-List.append_assoc];exact hsn⟩,⟨rfl,rfl,rfl,rfl,rfl,rfl,trivial⟩,⟨rfl,trivial⟩,rfl⟩
   ·rw[h3]at hbs
    simp only[Bool.false_eq_true,if_false,List.append_nil]at hbs
    refine wkT ?_
    exact⟨(⟨k+1,by omega⟩,(G1,v4,rws,b4)),slt (by omega),⟨q1,q2.trans i7,o7.inc i7,by rw[hbs];exact r7⟩,⟨rfl,rfl,rfl,rfl,rfl,rfl,trivial⟩,⟨rfl,trivial⟩,rfl⟩
  ·have:k=(Zat b).length:=by omega
   subst this
   rw[List.take_length]at r7
   refine wkT ?_
   exact⟨(⟨j+1,by omega⟩,(G1,v4,rws,b4)),slt (by omega),⟨q1,q2,o7,by rw[hft];exact r7⟩,⟨rfl,rfl,rfl,rfl,rfl,trivial⟩,⟨rfl,trivial⟩,rfl⟩
 ·have:j=vs.length:=by omega
  subst this
  rw[List.take_of_length_le (by omega),<-hboats]at r6
  refine wkT ?_
  exact⟨(i04.trans g1).trans g2,rows,o6.sl,r6.inc g2⟩
end
def opL (b:Bk)(there:Bool):List Boat:=if Zag b there=0 then Zae b else []
theorem Zmh {b:Bk}{there:Bool}(h:Zag b there=0):ZbB b:=by
 cases there
 ·unfold Zag at h
  split at h
  ·exact absurd h (by assumption)
  ·simp at h
 ·exact ZaH (Ziw h).1
section
variable  {P:Prg}[Tz P][Loud P]{H:Hp}
set_option maxHeartbeats 4000000
set_option maxRecDepth 20000
theorem openR_ok {bv:Value}{b:Bk}{there:Bool}(hb:BkAt H bv b)(hl:b.pts.length<=1000000)(hl2:b.cks.length<=1000000) :
  LL.Zai P 93 #[bv,vb there] H fun v H'=>Inc H H'∧∃ A c,v=.tuple #[.slice A (opL b there).length c,vi (Zag b there)]∧Zi8 b H' (.slice A (opL b there).length c) (opL b there):=by
 have hs:=Loud.loud (P:=P)
 have hb0:=hb
 obtain⟨pv,cv,rfl,hp,hc⟩:=hb
 have hno:∀ {H':Hp},Zag b there≠0->∃ A c,(Value.tuple #[.slice none 0 0,vi (Zag b there)])=.tuple #[.slice A (opL b there).length c,vi (Zag b there)]∧Zi8 b H' (.slice A (opL b there).length c) (opL b there):=by
  intro H' h
  have:opL b there=[]:=if_neg h
  rw[this]
  exact⟨none,0,rfl,[],.nil _,.nil _ _⟩
 refine IsN.m (isn c93) (args:=[.agg #[vi b.op,vi b.sl,pv,cv],vb there]) rfl ?_
 unfold n93
 refine wkT ?_
 refine Zab (vs:=[.agg #[vi b.op,vi b.sl,pv,cv]]) rfl (Zbs hb0 hl hl2) ?_
 rintro v _ ⟨rfl,rfl⟩
 refine wkT ?_
 refine wiT (fun h1=>?_) (fun h1=>?_)
 ·have e:Zag b there=snag b:=by rw[Zag,if_pos h1]
  refine wkT ?_
  have:=hno (H':=H) (by rw[e];exact h1)
  rw[e]at this ⊢
  exact⟨.refl _,this⟩
 ·have val:=ZaH h1
  refine wkT ?_
  refine wiT (fun h2=>?_) (fun h2=>?_)
  ·have e:Zag b there=6:=by rw[Zag,if_neg (by simpa using h1),if_pos h2]
   refine wkT ?_
   have:=hno (H':=H) (by rw[e];decide)
   rw[e]at this ⊢
   exact⟨.refl _,this⟩
  ·refine wkT ?_
   refine Zab (vs:=[.agg #[vi b.op,vi b.sl,pv,cv]]) rfl (Zd2 hb0 val) ?_
   rintro w H1 ⟨i1,rows,s1,r1⟩
   have hrl:=r1.len
   obtain⟨A,c,rfl,hA⟩:=id s1
   refine wkT ?_
   refine wiT (fun h3=>?_) (fun h3=>?_)
   ·have e:Zag b there=9:=by rw[Zag,if_neg (by simpa using h1),if_neg (by simp[h2]),if_pos (by omega)]
    refine wkT ?_
    have:=hno (H':=H1) (by rw[e];decide)
    rw[e]at this ⊢
    exact⟨i1,this⟩
   ·have e:Zag b there=0:=by rw[Zag,if_neg (by simpa using h1),if_neg (by simp[h2]),if_neg (by omega)]
    have e2:opL b there=Zae b:=if_pos e
    refine wkT ?_
    rw[e2,e]
    refine⟨i1,A,c,?_,rows,?_,r1⟩
    ·rw[<-hrl];rfl
    ·rw[<-hrl];exact s1
end
def exB:Bk:=⟨10,1,[⟨4,4,0,12,4⟩,⟨5,6,1,12,4⟩,⟨4,4,0,10,4⟩],[⟨2,6,7⟩]⟩
theorem ex1:snag exB=0:=by kernel_rfl
theorem ex2:ZaE exB [4,6,4] ⟨2,1⟩=0:=by
 rw[ZaE,if_neg (by rw[ex1];decide),if_neg (by show ¬ (ZbG exB [4,6,4] 0 99≠0);exact fun h=>h (by kernel_rfl)),if_pos]
 show (⟨2,1⟩:Slip)∈Zat exB
 rw[show Zat exB=[⟨0,0⟩,⟨1,-1⟩,⟨1,1⟩,⟨2,-1⟩,⟨2,1⟩] by kernel_rfl]
 simp
theorem ex3:(Zav exB (Zg0 [4,6,4] ⟨2,1⟩)).list.take exB.pts.length=[6,4,7]:=by kernel_rfl
theorem ex4:(Zae exB).length=6:=by kernel_rfl
theorem ex5:((Zae exB).filter Boat.slipped).length=4:=by kernel_rfl
theorem ex6:Zag exB true=0:=by kernel_rfl
theorem ex7:whenL exB=[1,2]:=by kernel_rfl
theorem ex8:Zk6 exB=[⟨1,1⟩,⟨2,1⟩]:=by kernel_rfl
theorem ex9:gapL exB 1=[4,5,6]:=by kernel_rfl
theorem ex10:gapL exB 2=[6,7]:=by kernel_rfl
theorem ex11:Zih exB [6,5,6]=.tuple #[.agg #[vi (-4),vi 0],vb true,vi 0]:=by kernel_rfl
theorem ex12:roomV exB=.tuple #[vi 2,vi 6,vi 0]:=by kernel_rfl
theorem ex13:((Zae exB).filter (Zhk exB)).length=6:=by kernel_rfl
theorem ex14:Zgl exB=.tuple #[vi (-3),vb true,vi 0]:=by kernel_rfl
theorem ex15:ZjI exB=⟨-3,6⟩:=by kernel_rfl
theorem ex16:askF exB=(1,3):=by kernel_rfl
theorem ex17:ZfH exB ⟨2,6,6⟩=0:=by kernel_rfl
theorem ex18:(Zae (ckBk exB ⟨2,6,6⟩)).length=2∧snag (ckBk exB ⟨2,6,6⟩)=0:=by constructor<;>kernel_rfl
theorem ex19:((Zae (ckBk exB ⟨2,6,6⟩)).filter Boat.slipped).length=0∧Zag (ckBk exB ⟨2,6,6⟩) true=0:=by constructor<;>kernel_rfl
theorem ex20:Zco exB 1 6 6=0:=by kernel_rfl
theorem ex21:(Zae (rdBk exB 1 6 6)).length=3∧snag (rdBk exB 1 6 6)=0:=by constructor<;>kernel_rfl
theorem ex22:Zdn exB 0=0:=by kernel_rfl
theorem ex23:(Zae (fmBk exB 0)).length=2∧snag (fmBk exB 0)=0:=by constructor<;>kernel_rfl
def exC:Bk:=ckBk (ckBk exB ⟨0,6,6⟩) ⟨0,5,5⟩
theorem ex24:snag exC=0∧Zbg exC=false∧Zea exC=[2]:=by refine⟨?_,?_,?_⟩<;>kernel_rfl
theorem exSl:Value.tuple #[vi (if Zag exB true=0 then Zic ((Zae exB).filter Boat.slipped).length (Zae exB).length else 0),vi (Zag exB true)]=.tuple #[vi 0,vi 0]:=by rw[ex6,if_pos rfl,ex5,ex4];rfl
theorem exHad:Value.tuple #[vi (if Zag exB true=0 then Zic ((Zae exB).filter (Zhk exB)).length (Zae exB).length else 0),vi (Zag exB true)]=.tuple #[vi 1,vi 0]:=by rw[ex6,if_pos rfl,ex13,ex4];rfl
theorem exMost:Value.tuple #[vi (if Zag exB true=0 then (ZjI exB).s else 0),vi (if Zag exB true=0 then (ZjI exB).k else 0),vi (Zag exB true)]=.tuple #[vi (-3),vi 6,vi 0]:=by rw[ex6,if_pos rfl,if_pos rfl,ex15]
theorem exAsk:Value.tuple #[vi (if Zag exB true=0 then (askF exB).1 else 0),vi (if Zag exB true=0 then (askF exB).2 else 0),vi (Zag exB true)]=.tuple #[vi 1,vi 3,vi 0]:=by rw[ex6,if_pos rfl,if_pos rfl,ex16]
theorem exBt {b:Bk}{n:Nat}(h1:(Zae b).length=n)(h2:snag b=0):Value.tuple #[vi (if snag b=0 then (Zae b).length else 0),vi (snag b)]=.tuple #[vi n,vi 0]:=by rw[h2,if_pos rfl,h1]
theorem exSl2:Value.tuple #[vi (if Zag (ckBk exB ⟨2,6,6⟩) true=0 then Zic ((Zae (ckBk exB ⟨2,6,6⟩)).filter Boat.slipped).length (Zae (ckBk exB ⟨2,6,6⟩)).length else 0),vi (Zag (ckBk exB ⟨2,6,6⟩) true)]=.tuple #[vi 2,vi 0]:=by
 rw[ex19.2,if_pos rfl,ex19.1,ex18.1];rfl
theorem bkS0 {H:Hp}{v:Value}{s:Int}{b:Bk}(h:BkS H v s b)(hs:s=0):∃ pa pc ca cc,v=.tuple #[.agg #[vi b.op,vi b.sl,.slice pa b.pts.length pc,.slice ca b.cks.length cc],vi 0]∧BkAt H (.agg #[vi b.op,vi b.sl,.slice pa b.pts.length pc,.slice ca b.cks.length cc]) b:=by
 subst hs
 obtain⟨w,rfl,hw⟩:=h
 rw[if_pos rfl]at hw
 obtain⟨_,_,rfl,⟨pa,pc,rfl,h1⟩,⟨ca,cc,rfl,h2⟩⟩:=hw
 exact⟨pa,pc,ca,cc,rfl,_,_,rfl,⟨_,_,rfl,h1⟩,⟨_,_,rfl,h2⟩⟩
section
variable  {P:Prg}[Tz P][Loud P]{H:Hp}
set_option maxHeartbeats 4000000
set_option maxRecDepth 20000
theorem Zkf (a b:Int):LL.Zai P 62 #[vi a,vi b] H fun v H'=>H=H'∧v=.agg #[vi a,vi b]:=by
 have hs:=Loud.loud (P:=P)
 refine IsN.m (isn c62) (args:=[vi a,vi b]) rfl ?_
 unfold n62
 refine wkT ?_
 exact⟨rfl,rfl⟩
theorem Ze9 (a:Int):LL.Zai P 49 #[vi a] H fun v H'=>H=H'∧v=.agg #[vi a,vi a]:=by
 have hs:=Loud.loud (P:=P)
 refine IsN.m (isn c49) (args:=[vi a]) rfl ?_
 unfold n49
 refine wkT ?_
 refine Zab (vs:=[vi a,vi a]) rfl (Zkf a a) ?_
 rintro v _ ⟨rfl,rfl⟩
 refine wkT ?_
 exact⟨rfl,rfl⟩
theorem listR_ok {u w:Value}{a b:List Int}(ha:SlAt H u a)(hb:SlAt H w b)(hl:a.length<=1000000)(hl2:b.length<=1000000):LL.Zai P 86 #[u,w] H fun v H'=>H=H'∧v=vb (decide (a=b)):=by
 refine IsN.m (isn c86) (args:=[u,w]) rfl ?_
 unfold n86
 refine wkT ?_
 refine Zab (vs:=[u,w]) rfl (ZeV ha hb hl hl2) ?_
 rintro v _ ⟨rfl,rfl⟩
 refine wkT ?_
 exact⟨rfl,rfl⟩
theorem Zfw {bv:Value}{b:Bk}{c:SCk}(hb:BkAt H bv b)(hl2:b.cks.length<=1000000) :
  LL.Zai P 51 #[bv,.agg #[vi c.p,vi c.gl,vi c.gh]] H fun v H'=>Inc H H'∧BkAt H' v (ckBk b c):=by
 have hs:=Loud.loud (P:=P)
 obtain⟨pv,cv,rfl,hp,hc⟩:=hb
 obtain⟨Ap,cp,rfl,hp'⟩:=id hp
 obtain⟨Ac,cc,rfl,hc'⟩:=id hc
 refine IsN.m (isn c51) (args:=[.agg #[vi b.op,vi b.sl,.slice Ap b.pts.length cp,.slice Ac b.cks.length cc],.agg #[vi c.p,vi c.gl,vi c.gh]]) rfl ?_
 unfold n51
 refine wkT ?_
 refine ZbU (und u23) (tif t51) (hs _) fun r1 hr1=>?_
 have o1:Own H (H.ins r1 (.cells #[] 51)) 51 (.slice (some ⟨r1,0,none⟩) 0 0) ([]:List SCk) (some r1):=ZfY hr1
 have i1:Inc H (H.ins r1 (.cells #[] 51)):=Zah hr1
 generalize H.ins r1 (.cells #[] 51)=H1 at *
 refine kp_l hs ?_
 refine wkT ?_
 refine ZaR (l':=b.cks) (und u23) (und u23) (tif t51) rfl (by decide) i1 o1 (hc.inc i1) (ZoG _) (by simp;omega) (by omega) rfl rfl (hs _) fun v2 H2 b2 i2 o2 _=>?_
 refine kp_l hs ?_
 refine wkT ?_
 refine Zao (cs:=[vi c.p,vi c.gl,vi c.gh]) (hs _) rfl fun r5 hr5=>?_
 refine kp_l hs ?_
 refine wkT ?_
 refine ZaR (l':=[c]) (und u23) (und u23) (tif t51) rfl (by decide) (i2.trans (Zah hr5)) (o2.ins hr5) Zig rfl (by simp;omega) (by omega) rfl rfl (hs _) fun v4 H4 b4 k1 k2 k3=>?_
 rw[List.nil_append]at k2
 have s4:=k2.sl
 obtain⟨A4,c4,rfl,_⟩:=id s4
 refine wkT ?_
 exact⟨k1,_,_,rfl,hp.inc k1,s4⟩
theorem ZmS:LL.Zai P 85 #[] H fun v H'=>Inc H H'∧∃ r1 r2,v=.agg #[vi 10,vi 1,.slice (some ⟨r1,0,none⟩) 3 3,.slice (some ⟨r2,0,none⟩) 1 1]∧BkAt H' v exB:=by
 have hs:=Loud.loud (P:=P)
 refine IsN.m (isn c85) (args:=[]) rfl ?_
 unfold n85
 refine wkT ?_
 refine Zab (vs:=[vi 4]) rfl (Ze9 4) ?_
 rintro v _ ⟨rfl,rfl⟩
 refine wkT ?_
 refine Zab (vs:=[vi 0,vi 12]) rfl (Zkf 0 12) ?_
 rintro v _ ⟨rfl,rfl⟩
 refine wkT ?_
 refine Zab (vs:=[vi 5,vi 6]) rfl (Zkf 5 6) ?_
 rintro v _ ⟨rfl,rfl⟩
 refine wkT ?_
 refine Zab (vs:=[vi 1,vi 12]) rfl (Zkf 1 12) ?_
 rintro v _ ⟨rfl,rfl⟩
 refine wkT ?_
 refine Zab (vs:=[vi 4]) rfl (Ze9 4) ?_
 rintro v _ ⟨rfl,rfl⟩
 refine wkT ?_
 refine Zab (vs:=[vi 0,vi 10]) rfl (Zkf 0 10) ?_
 rintro v _ ⟨rfl,rfl⟩
 refine wkT ?_
 refine Zao (cs:=encs exB.pts) (hs _) rfl fun r1 hr1=>?_
 have s1:SlAt (H.ins r1 (.cells (encs exB.pts).toArray 59)) (.slice (some ⟨r1,0,none⟩) 3 3) exB.pts:=ZaT (l:=exB.pts)
 have i1:Inc H (H.ins r1 (.cells (encs exB.pts).toArray 59)):=Zah hr1
 generalize H.ins r1 (.cells (encs exB.pts).toArray 59)=H1 at *
 refine wkT ?_
 refine Zab (vs:=[vi 6,vi 7]) rfl (Zkf 6 7) ?_
 rintro v _ ⟨rfl,rfl⟩
 refine wkT ?_
 refine Zao (cs:=encs exB.cks) (hs _) rfl fun r2 hr2=>?_
 have s2:SlAt (H1.ins r2 (.cells (encs exB.cks).toArray 51)) (.slice (some ⟨r2,0,none⟩) 1 1) exB.cks:=ZaT (l:=exB.cks)
 have i2:Inc H1 (H1.ins r2 (.cells (encs exB.cks).toArray 51)):=Zah hr2
 generalize H1.ins r2 (.cells (encs exB.cks).toArray 51)=H2 at *
 refine wkT ?_
 exact⟨i1.trans i2,r1,r2,rfl,_,_,rfl,s1.inc i2,s2⟩
end
end Go.Proofs
end
