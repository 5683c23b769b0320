/- proofs about Leango given: part Bd1; made by a program out of the longer texts in wip -/
import Derived.Test.YtamdhefhhdgjbaaGreatDoorBd00
set_option linter.all false
section
open Go Go.LL
namespace Go.Proofs
def Wad (b:Bk)(i:Nat):List Int:=(List.range ((ptAt b i).mh-(ptAt b i).ml+1).toNat).map fun (t:Nat)=>(ptAt b i).ml+t
def mkL (b:Bk):Nat->List (List Int)
 | 0=>[[]]
 | i+1=>(mkL b i).flatMap fun l=>(Wad b i).map fun n=>l++[n]
theorem WaP {α β:Type}{f:α->List β}{l:List α}{j:Nat}(hj:j<l.length):(l.take (j+1)).flatMap f=(l.take j).flatMap f++f l[j]:=by
 rw[List.take_succ_eq_append_getElem hj,List.flatMap_append];simp
theorem Wa7 {b:Bk}(v:Zeo b){i:Nat}(hi:i<b.pts.length):(Wad b i).length<=3:=by
 rw[Wad,List.length_map,List.length_range,show ptAt b i=b.pts[i] from Zbd hi _]
 have:=v.pts i hi
 omega
theorem Wat {α β:Type}{f:α->List β}{k:Nat}:∀ {l:List α},(∀ x∈l,(f x).length<=k)->(l.flatMap f).length<=l.length * k
 | [],_=>by simp
 | a :: l,h=>by
  have h1:=h a (List.mem_cons_self ..)
  have h2:=Wat (f:=f) (k:=k) (l:=l) fun x hx=>h x (List.mem_cons_of_mem _ hx)
  rw[List.flatMap_cons,List.length_append,List.length_cons,Nat.succ_mul]
  omega
theorem Wbj {b:Bk}(v:Zeo b):∀ i,i<=b.pts.length->(mkL b i).length<=3 ^ i
 | 0,_=>by simp[mkL]
 | i+1,hi=>by
  rw[mkL,Nat.pow_succ]
  exact Nat.le_trans (Wat fun l hl=>by rw[List.length_map];exact Wa7 v (by omega)) (Nat.mul_le_mul_right _ (Wbj v i (by omega)))
theorem WaX {b:Bk}(v:Zeo b):∀ i,i<=b.pts.length->∀ l∈mkL b i,l.length=i∧∀ x∈l,0<=x∧x<=99
 | 0,_,l,hl=>by
  rw[mkL,List.mem_singleton]at hl
  subst hl;simp
 | i+1,hi,l,hl=>by
  rw[mkL,List.mem_flatMap]at hl
  obtain⟨m,hm,hl⟩:=hl
  obtain⟨n,hn,rfl⟩:=List.mem_map.1 hl
  obtain⟨h1,h2⟩:=WaX v i (by omega) m hm
  refine⟨by simp[h1],fun x hx=>?_⟩
  rcases List.mem_append.1 hx with hx | hx
  ·exact h2 x hx
  ·rw[List.mem_singleton.1 hx]
   rw[Wad,List.mem_map]at hn
   obtain⟨t,ht,rfl⟩:=hn
   rw[List.mem_range]at ht
   rw[show ptAt b i=b.pts[i] from Zbd (by omega) _]at ht ⊢
   have:=v.pts i (by omega)
   omega
theorem Wa1 {H:Hp}{a:Addr}{cs:List Value}(h:CellsAt H a cs):CellsAt H (a.add 0) cs:=by rw[add_zero];exact h
section
variable  {P:Prg}[Tz P][Loud P]{H:Hp}
set_option maxHeartbeats 4000000
set_option maxRecDepth 20000
theorem Wa5 {bv:Value}{b:Bk}(hb:BkAt H bv b)(v:Zeo b) :
  LL.Zag P 145 #[bv] H fun v H'=>Inc H H'∧∃ vs,SlAt H' v vs∧LLAt H' vs (mkL b b.pts.length):=by
 have hs:∀ g,P.still g=false:=Loud.loud
 have hn:=v.n
 obtain⟨pv,cv,rfl,hp,hc⟩:=hb
 refine IsN.m (isn c145) (args:=[.agg #[vi b.op,vi b.sl,pv,cv]]) rfl ?_
 unfold n145
 refine wkT ?_
 refine Zat (cs:=[.slice none 0 0]) (hs _) rfl fun r0 hr0=>?_
 have s0:SlAt (H.ins r0 (.cells [Value.slice none 0 0].toArray 34)) (.slice (some ⟨r0,0,none⟩) 1 1) [Value.slice none 0 0]:=Wbc
 have l0:LLAt (H.ins r0 (.cells [Value.slice none 0 0].toArray 34)) [Value.slice none 0 0] (mkL b 0):=(LLAt.nil _).snoc (.nil _)
 have i0:Inc H (H.ins r0 (.cells [Value.slice none 0 0].toArray 34)):=Zaj hr0
 generalize H.ins r0 (.cells [Value.slice none 0 0].toArray 34)=H0 at *
 refine wkT ?_
 refine ZaP (α:=Value×List Value) b.pts.length (fun i s H'=>Inc H H'∧SlAt H' s.1 s.2∧LLAt H' s.2 (mkL b i)) (fun i s=>[(1,vi 0),(3,s.1),(4,vi i)]) (fun _ _=>[(1,[vi b.op,vi b.sl,pv,cv])]) (.slice (some ⟨r0,0,none⟩) 1 1,[.slice none 0 0]) ⟨i0,s0,l0⟩ ⟨rfl,rfl,rfl,trivial⟩ ⟨rfl,trivial⟩ ?_
 rintro i ⟨v3,vs⟩ H1 hi ⟨i1,s3,l3⟩
 simp only at s3 l3
 have hl3:=l3.len
 have hml:=Wbj v i hi
 have h81:3 ^ i<=3 ^ 4:=Nat.pow_le_pow_right (by decide) (by omega)
 refine wkT ?_
 refine Zav (hp.inc i1) rfl ?_
 refine wkT ?_
 refine wiT (fun h1=>?_) (fun h1=>?_)
 ·have hi':i<b.pts.length:=by omega
  have hsp:=Wa7 v hi'
  have hpt:ptAt b i=b.pts[i]:=Zbd hi' _
  obtain⟨p1,p2,_⟩:=v.pts i hi'
  refine wkT ?_
  refine ZaP (α:=Hp×Value×List Value×Option Nat) vs.length (fun k s H'=>Inc H1 s.1∧Inc s.1 H'∧Own s.1 H' 34 s.2.1 s.2.2.1 s.2.2.2∧LLAt s.1 s.2.2.1 (((mkL b i).take k).flatMap fun l=>(Wad b i).map fun n=>l++[n]))
   (fun k s=>[(1,vi 0),(3,v3),(4,vi i),(5,s.2.1),(6,vi k)]) (fun _ _=>[(1,[vi b.op,vi b.sl,pv,cv])]) (H1,.slice none 0 0,[],none) ⟨.refl H1,.refl H1,.nil _ _ _,.nil _⟩ ⟨rfl,rfl,rfl,rfl,rfl,trivial⟩ ⟨rfl,trivial⟩ ?_
  rintro k ⟨G,v5,ws,b5⟩ H2 hk ⟨g1,g2,o5,l5⟩
  simp only at g1 g2 o5 l5
  have hl5:=l5.len
  have hwl:ws.length<=k * 3:=by
   rw[hl5]
   refine Nat.le_trans (Wat (k:=3) fun l hl=>by rw[List.length_map];exact hsp) (Nat.mul_le_mul_right _ (by rw[List.length_take];omega))
  refine wkT ?_
  refine Zav (s3.inc (g1.trans g2)) rfl ?_
  refine wkT ?_
  refine wiT (fun h2=>?_) (fun h2=>?_)
  ·have hk':k<vs.length:=by omega
   have hkm:k<(mkL b i).length:=by omega
   have hft:=WaP (f:=fun l=>(Wad b i).map fun n=>l++[n]) hkm
   obtain⟨hml1,hml2⟩:=WaX v i (by omega) (mkL b i)[k] (List.getElem_mem hkm)
   have hsk:=l3.at_ k hk' hkm
   generalize (mkL b i)[k]=l at *
   generalize (List.flatMap (fun l=>(Wad b i).map fun n=>l++[n]) ((mkL b i).take k))=L at *
   refine wkT ?_
   refine ZaE ((hp.inc i1).inc (g1.trans g2)) rfl rfl rfl (i:=i) hi' fun a ha=>?_
   refine wkT ?_
   refine Zaf (hs _) rfl (ZbA (j:=0) (Wa1 ha) rfl) ?_
   refine wkT ?_
   have hcnt:(Wad b i).length=(b.pts[i].mh-b.pts[i].ml+1).toNat:=by rw[Wad,List.length_map,List.length_range,hpt]
   refine ZaP (α:=Hp×Value×List Value×Option Nat) (Wad b i).length (fun t s H'=>Inc H1 s.1∧Inc s.1 H'∧Own s.1 H' 34 s.2.1 s.2.2.1 s.2.2.2∧LLAt s.1 s.2.2.1 (L++((Wad b i).take t).map fun n=>l++[n]))
    (fun t s=>[(1,vi 0),(3,v3),(4,vi i),(5,s.2.1),(6,vi k),(7,vi (b.pts[i].ml+t))]) (fun _ _=>[(1,[vi b.op,vi b.sl,pv,cv])]) (G,v5,ws,b5) ⟨g1,g2,o5,by simpa using l5⟩ ⟨rfl,rfl,rfl,rfl,rfl,by simp[NSt.set],trivial⟩ ⟨rfl,trivial⟩ ?_
   rintro t ⟨G1,v6,us,b6⟩ H3 ht ⟨q1,q2,o6,l6⟩
   simp only at q1 q2 o6 l6
   have hl6:=l6.len
   refine wkT ?_
   refine ZaE ((hp.inc i1).inc (q1.trans q2)) rfl rfl rfl (i:=i) hi' fun a ha=>?_
   refine wkT ?_
   refine Zaf (hs _) rfl (ZbA (j:=1) (Wa1 ha) rfl) ?_
   refine wkT ?_
   refine wiT (fun h3=>?_) (fun h3=>?_)
   ·have ht':t<(Wad b i).length:=by omega
    have hsv:(Wad b i)[t]=b.pts[i].ml+t:=by simp[Wad,hpt]
    have hts:(L++((Wad b i).take (t+1)).map fun n=>l++[n])=(L++((Wad b i).take t).map fun n=>l++[n])++[l++[b.pts[i].ml+t]]:=by
     rw[List.take_succ_eq_append_getElem ht',List.map_append,hsv,List.append_assoc];rfl
    have hul:us.length<=300:=by
     rw[hl6,List.length_append,List.length_map,List.length_take]
     omega
    refine wkT ?_
    refine Zdw (und u34) (tif t3) (hs _) fun r1 hr1=>?_
    have o7:Own H3 (H3.ins r1 (.cells #[] 3)) 3 (.slice (some ⟨r1,0,none⟩) 0 0) ([]:List Int) (some r1):=own_nil0 hr1
    have q3:Inc H3 (H3.ins r1 (.cells #[] 3)):=Zaj hr1
    generalize H3.ins r1 (.cells #[] 3)=H4 at *
    refine wkT ?_
    refine ZaE ((s3.inc (q1.trans q2)).inc q3) rfl rfl rfl (i:=k) hk' fun a ha=>?_
    refine wkT ?_
    refine Zaf (hs _) rfl ha ?_
    refine wkT ?_
    refine ZbW (l':=l) (und u34) (und u34) (tif t3) rfl (by decide) q3 o7 (hsk.inc ((q1.trans q2).trans q3)) (ints_one l) (by simp;omega) (by omega) rfl rfl (hs _) fun v8 H5 b8 q4 o8 _=>?_
    refine wkT ?_
    refine Zat (cs:=[vi (b.pts[i].ml+t)]) (hs _) rfl fun r2 hr2=>?_
    refine wkT ?_
    refine ZbW (l':=[b.pts[i].ml+t]) (und u34) (und u34) (tif t3) rfl (by decide) (q4.trans (Zaj hr2)) (o8.ins hr2) WaZ rfl (by simp;omega) (by omega) rfl rfl (hs _) fun v9 H6 b9 q5 o9 _=>?_
    rw[List.nil_append]at o9
    obtain⟨G2,w1,w2,w3,w4⟩:=own_add q2 o6 q5 o9
    obtain⟨A9,c9,rfl,_⟩:=id w4
    refine wkT ?_
    refine Zat (cs:=[.slice A9 (l++[b.pts[i].ml+↑t]).length c9]) (hs _) rfl fun r3 hr3=>?_
    refine wkT ?_
    refine ZbW (l':=[Value.slice A9 (l++[b.pts[i].ml+↑t]).length c9]) (und u157) (und u157) (tif t34) rfl (by decide) (w2.trans (Zaj hr3)) (w3.ins hr3) Wbc rfl (by simp;omega) (by omega) rfl rfl (hs _) fun v10 H7 b10 q6 o10 _=>?_
    refine wkT ?_
    refine⟨(⟨t+1,by omega⟩,(G2,v10,us++[.slice A9 (l++[b.pts[i].ml+↑t]).length c9],b10)),Nat.sub_lt_sub_left (by omega) (Nat.lt_succ_self t),⟨q1.trans w1,q6,o10,by rw[hts];exact(l6.inc w1).snoc w4⟩,⟨rfl,rfl,rfl,rfl,rfl,?_,trivial⟩,⟨rfl,trivial⟩,rfl⟩
    show some (vi (b.pts[i].ml+t+1))=some (vi (b.pts[i].ml+(t+1:Nat)))
    congr 2;omega
   ·have:t=(Wad b i).length:=by omega
    subst this
    rw[List.take_length]at l6
    refine wkT ?_
    exact⟨(⟨k+1,by omega⟩,(G1,v6,us,b6)),Nat.sub_lt_sub_left (by omega) (Nat.lt_succ_self k),⟨q1,q2,o6,by rw[hft];exact l6⟩,⟨rfl,rfl,rfl,rfl,rfl,trivial⟩,⟨rfl,trivial⟩,rfl⟩
  ·have:k=vs.length:=by omega
   subst this
   rw[List.take_of_length_le (by omega)]at l5
   refine wkT ?_
   exact⟨(⟨i+1,by omega⟩,(v5,ws)),Nat.sub_lt_sub_left (by omega) (Nat.lt_succ_self i),⟨(i1.trans g1).trans g2,o5.sl,l5.inc g2⟩,⟨rfl,rfl,rfl,trivial⟩,⟨rfl,trivial⟩,rfl⟩
 ·have:i=b.pts.length:=by omega
  subst this
  refine wkT ?_
  exact⟨i1,vs,s3,l3⟩
end
end Go.Proofs
end
section
open Go Go.LL
namespace Go.Proofs
def Waj (b:Bk)(l:List Int)(ks:List Slip):List Boat:=(ks.map fun k=>(⟨n4of l,k.bf,k.by_⟩:Boat)).filter (ZgQ b)
def WaK (hi:Int):Nat->List Int
 | 0=>[]
 | c+1=>(hi-c) :: WaK hi c
theorem WaD (f:Int->List Boat)(hi:Int):∀ c,spanR f hi c=(WaK hi c).flatMap f
 | 0=>rfl
 | c+1=>by rw[spanR,WaK,List.flatMap_cons,WaD f hi c]
theorem WaJ {hi:Int}:∀ {c:Nat},(WaK hi c).length=c∧∀ t,t<c->(WaK hi c)[t]? = some (hi-(c-1-t:Nat))
 | 0=>⟨rfl,fun t h=>by omega⟩
 | c+1=>by
  obtain⟨h1,h2⟩:=@WaJ hi c
  refine⟨by rw[WaK,List.length_cons,h1],fun t ht=>?_⟩
  rw[WaK]
  cases t with
  | zero=>simp
  | succ t=>rw[List.getElem?_cons_succ,h2 t (by omega)];congr 2;omega
theorem spanL_eq {b:Bk}{i:Nat}:WaK (ptAt b i).mh ((ptAt b i).mh-(ptAt b i).ml+1).toNat=Wad b i:=by
 obtain⟨h1,h2⟩:=@WaJ (ptAt b i).mh ((ptAt b i).mh-(ptAt b i).ml+1).toNat
 have hl:(Wad b i).length=((ptAt b i).mh-(ptAt b i).ml+1).toNat:=by simp[Wad]
 refine List.ext_getElem? fun t=>?_
 by_cases ht:t<((ptAt b i).mh-(ptAt b i).ml+1).toNat
 ·rw[h2 t ht,Wad,List.getElem?_map,List.getElem?_range ht]
  show some ((ptAt b i).mh-((((ptAt b i).mh-(ptAt b i).ml+1).toNat-1-t:Nat):Int))=some ((ptAt b i).ml+(t:Int))
  congr 1;omega
 ·rw[List.getElem?_eq_none (by omega),List.getElem?_eq_none (by omega)]
def lvN (b:Bk):Nat->List N4
 | 0=>[⟨0,0,0,0⟩]
 | i+1=>(lvN b i).flatMap fun m=>(Wad b i).map fun n=>m.put i n
theorem Was {α β γ:Type}(l:List α)(f:α->List β)(g:β->List γ):(l.flatMap f).flatMap g=l.flatMap fun a=>(f a).flatMap g:=by
 induction l with
 | nil=>rfl
 | cons a l ih=>simp[List.flatMap_cons,List.flatMap_append,ih]
theorem Wah {α β γ:Type}(l:List α)(f:α->β)(g:β->List γ):(l.map f).flatMap g=l.flatMap fun a=>g (f a):=by
 induction l with
 | nil=>rfl
 | cons a l ih=>simp[List.flatMap_cons,ih]
theorem WaC {α β:Type}{l:List α}{f g:α->List β}(h:∀ a∈l,f a=g a):l.flatMap f=l.flatMap g:=by
 induction l with
 | nil=>rfl
 | cons a l ih=>rw[List.flatMap_cons,List.flatMap_cons,h a (List.mem_cons_self ..),ih fun x hx=>h x (List.mem_cons_of_mem _ hx)]
theorem lv_step {b:Bk}{r i:Nat}(h:b.pts.length=i+(r+1)):(lvN b (i+1)).flatMap (boatsFrom b r)=(lvN b i).flatMap (boatsFrom b (r+1)):=by
 rw[lvN,Was]
 congr 1
 funext m
 rw[Wah,boatsFrom,WaD]
 have e:b.pts.length-(r+1)=i:=by omega
 rw[e,spanL_eq]
theorem lv_all {b:Bk}:∀ (r i:Nat),b.pts.length=i+r->(lvN b i).flatMap (boatsFrom b r)=(lvN b b.pts.length).flatMap (boatsFrom b 0)
 | 0,i,h=>by rw[h,Nat.add_zero]
 | r+1,i,h=>by rw[<-lv_step h];exact lv_all r (i+1) (by omega)
theorem boats_lv (b:Bk):Zae b=(lvN b b.pts.length).flatMap (boatsFrom b 0):=by
 rw[<-lv_all b.pts.length 0 (by omega)]
 simp[lvN,Zae]
theorem Waf {l:List Int}{j:Nat}(hj:j<4):(n4of l).get j=l.getD j 0:=N4.of_get _ hj
theorem lv_mk {b:Bk}(v:Zeo b):∀ i,i<=b.pts.length->lvN b i=(mkL b i).map n4of
 | 0,_=>rfl
 | i+1,hi=>by
  have hi4:i<4:=by have:=v.n;omega
  rw[lvN,lv_mk v i (by omega),mkL,Wah,List.map_flatMap]
  refine WaC fun l hl=>?_
  rw[List.map_map]
  refine List.map_congr_left fun n _=>?_
  obtain⟨h1,_⟩:=WaX v i (by omega) l hl
  refine N4.ext' fun j hj=>?_
  rw[N4.put_get _ _ hj,Waf hj]
  show _=(n4of (l++[n])).get j
  rw[Waf hj]
  simp only[List.getD_eq_getElem?_getD]
  by_cases e:j=i
  ·subst e
   rw[if_pos rfl,List.getElem?_append_right (by omega),h1]
   simp
  ·rw[if_neg e]
   by_cases e2:j<i
   ·rw[List.getElem?_append_left (by omega)]
   ·rw[List.getElem?_eq_none (by omega),List.getElem?_eq_none (by rw[List.length_append,List.length_singleton];omega)]
theorem boats_mk {b:Bk}(v:Zeo b):Zae b=(mkL b b.pts.length).flatMap fun l=>Waj b l (ZaC b):=by
 rw[boats_lv,lv_mk v _ (Nat.le_refl _),Wah]
 rfl
theorem gaps_eq {b:Bk}(v:Zeo b){l:List Int}(hl:l.length=b.pts.length)(k:Slip):Wab b l k=gapLs b ⟨n4of l,k.bf,k.by_⟩:=by
 have h4:=v.n
 have hlen:(gapLs b ⟨n4of l,k.bf,k.by_⟩).length=b.pts.length:=by
  rw[gapLs,List.length_take];show min _ 4=_;omega
 have hl2:(Wab b l k).length=b.pts.length:=by simp[Wab,hl]
 refine List.ext_getElem? fun i=>?_
 by_cases hi:i<b.pts.length
 ·have h44:i<4:=by omega
  rw[Wab,List.getElem?_map,List.getElem?_range (by omega)]
  rw[gapLs,List.getElem?_take_of_lt hi]
  have:(Zas b ⟨n4of l,k.bf,k.by_⟩).list[i]? = some ((Zas b ⟨n4of l,k.bf,k.by_⟩).get i):=by
   match i,h44 with
   | 0,_=>rfl
   | 1,_=>rfl
   | 2,_=>rfl
   | 3,_=>rfl
  rw[this,Zas,N4.of_get _ h44,if_pos hi,Zk9]
  show some _=some _
  rw[Waf h44]
 ·rw[List.getElem?_eq_none (by omega),List.getElem?_eq_none (by omega)]
theorem WaQ {b:Bk}(v:Zeo b)(x:Boat){i:Nat}(hi:i<b.pts.length):(gapLs b x).getD i 0=(Zas b x).get i:=by
 have h4:=v.n
 have h44:i<4:=by omega
 rw[gapLs,List.getD_eq_getElem?_getD,List.getElem?_take_of_lt hi]
 match i,h44 with
 | 0,_=>rfl
 | 1,_=>rfl
 | 2,_=>rfl
 | 3,_=>rfl
theorem right_eq {b:Bk}(v:Zeo b)(x:Boat):WaN b (gapLs b x)=ZgQ b x:=by
 rw[WaN,ZgQ]
 have:∀ c∈b.cks,decide (c.gl<=(gapLs b x).getD c.p.toNat 0∧(gapLs b x).getD c.p.toNat 0<=c.gh)=ckOk (Zas b x) c:=by
  intro c hc
  obtain⟨⟨h1,h2⟩,_⟩:=v.cks c hc
  rw[ckOk,WaQ v x (by omega)]
 rw[Bool.eq_iff_iff,List.all_eq_true,List.all_eq_true]
 exact⟨fun h c hc=>by rw[<-this c hc];exact h c hc,fun h c hc=>by rw[this c hc];exact h c hc⟩
theorem RbAt.nil (b:Bk)(H:Hp):RbAt b H [] []:=⟨rfl,fun i h=>by simp at h⟩
theorem RbAt.inc {b:Bk}{H H':Hp}{rows:List Q4}{xs:List Boat}(h:RbAt b H rows xs)(hi:Inc H H'):RbAt b H' rows xs:=⟨h.len,fun i a c=>by obtain⟨h1,h2,h3⟩:=h.at_ i a c;exact⟨h1,h2,h3.inc hi⟩⟩
theorem RbAt.snoc {b:Bk}{H:Hp}{rows:List Q4}{xs:List Boat}{q:Q4}{x:Boat}(h:RbAt b H rows xs)(h1:q.bf=x.bf)(h2:q.by_=x.by_)(h3:SlAt H q.g (gapLs b x)):RbAt b H (rows++[q]) (xs++[x]):=by
 have hl:=h.len
 refine⟨by simp[hl],fun i a c=>?_⟩
 by_cases hi:i<rows.length
 ·rw[List.getElem_append_left hi,List.getElem_append_left (by omega)];exact h.at_ i hi (by omega)
 ·simp only[List.length_append,List.length_singleton]at a
  have e:i=rows.length:=by omega
  subst e
  rw[List.getElem_append_right (Nat.le_refl _),List.getElem_append_right (by omega)]
  simp[hl]
  exact⟨h1,h2,h3⟩
def War (b:Bk)(H:Hp)(v:Value)(xs:List Boat):Prop:=∃ rows,SlAt H v rows∧RbAt b H rows xs
theorem War.inc {b:Bk}{H H':Hp}{v:Value}{xs:List Boat}(h:War b H v xs)(hi:Inc H H'):War b H' v xs:=by
 obtain⟨rows,h1,h2⟩:=h
 exact⟨rows,h1.inc hi,h2.inc hi⟩
theorem Wbn (b:Bk)(l:List Int)(ks:List Slip)(k:Slip):Waj b l (ks++[k])=Waj b l ks++if ZgQ b ⟨n4of l,k.bf,k.by_⟩ then [⟨n4of l,k.bf,k.by_⟩] else []:=by
 rw[Waj,List.map_append,List.filter_append,Waj]
 congr 1
 rw[List.map_singleton,List.filter_cons]
 rfl
theorem t125:tiOf Tryz.prog 125=some (4,some (.agg #[.slice none 0 0,vi 0,vi 0,.slice none 0 0]),64):=by kernel_rfl
theorem u108:Tryz.prog.underlying 108=some (.slice 125):=by kernel_rfl
section
variable  {P:Prg}[Tz P][Loud P]{H:Hp}
set_option maxHeartbeats 4000000
set_option maxRecDepth 20000
theorem Wa6 {bv:Value}{b:Bk}(hb:BkAt H bv b)(v:Zeo b) :
  LL.Zag P 88 #[bv] H fun w H'=>Inc H H'∧War b H' w (Zae b):=by
 have hs:∀ g,P.still g=false:=Loud.loud
 have hn:=v.n
 have hb0:=hb
 obtain⟨pv,cv,rfl,hp,hc⟩:=hb
 have hlen:=Zbp v
 refine IsN.m (isn c88) (args:=[.agg #[vi b.op,vi b.sl,pv,cv]]) rfl ?_
 unfold n88
 refine wkT ?_
 refine Zab (vs:=[.agg #[vi b.op,vi b.sl,pv,cv]]) rfl (Wa5 hb0 v) ?_
 rintro mv H1 ⟨i1,vs,s1,l1⟩
 refine wkT ?_
 refine Zat (cs:=[vi 0,vi 0]) (hs _) rfl fun r2 hr2=>?_
 have o2:Own H1 (H1.ins r2 (.cells (encs [(⟨0,0⟩:Slip)]).toArray 70)) 70 (.slice (some ⟨r2,0,none⟩) 1 1) [(⟨0,0⟩:Slip)] (some r2):=own_new hr2
 have i2:Inc H1 (H1.ins r2 (.cells (encs [(⟨0,0⟩:Slip)]).toArray 70)):=Zaj hr2
 show MOps P _ _ _ (H1.ins r2 (.cells (encs [(⟨0,0⟩:Slip)]).toArray 70))
 generalize H1.ins r2 (.cells (encs [(⟨0,0⟩:Slip)]).toArray 70)=H2 at *
 refine wkT ?_
 refine Zab (vs:=[.agg #[vi b.op,vi b.sl,pv,cv]]) rfl (Wa3 ((hb0.inc i1).inc i2) v.sl.1 (by have:=v.sl;omega) (by omega) (by omega)) ?_
 rintro sv H3 ⟨i3,bb3,o3⟩
 have hsl:=ZfM v
 refine wkT ?_
 refine ZbW (l':=(ZaC b).drop 1) (und t38e) (und t38e) (tif t70) rfl (by decide) (i2.trans i3) (o2.inc i3) o3.sl (Wa9 _) (by simp;omega) (by omega) rfl rfl (hs _) fun v5 H4 b5 i4 o5 _=>?_
 have hsc:[(⟨0,0⟩:Slip)]++(ZaC b).drop 1=ZaC b:=rfl
 rw[hsc]at o5
 have s5:=o5.sl
 have s14:=s1.inc i4
 have l14:=l1.inc i4
 have hb4:=(hb0.inc i1).inc i4
 have i04:=i1.trans i4
 refine wkT ?_
 have hl1:=l1.len
 have hmk:=Wbj v _ (Nat.le_refl _)
 have h81:3 ^ b.pts.length<=3 ^ 4:=Nat.pow_le_pow_right (by decide) hn.2
 have hboats:=boats_mk v
 refine ZaP (α:=Hp×Value×List Q4×Option Nat) vs.length (fun j s H'=>Inc H4 s.1∧Inc s.1 H'∧Own s.1 H' 125 s.2.1 s.2.2.1 s.2.2.2∧RbAt b s.1 s.2.2.1 (((mkL b b.pts.length).take j).flatMap fun l=>Waj b l (ZaC b)))
  (fun j s=>[(1,vi 0),(3,s.2.1),(4,mv),(5,v5),(6,vi j)]) (fun _ _=>[(1,[vi b.op,vi b.sl,pv,cv])]) (H4,.slice none 0 0,[],none) ⟨.refl H4,.refl H4,.nil _ _ _,.nil _ _⟩ ⟨rfl,rfl,rfl,rfl,rfl,trivial⟩ ⟨rfl,trivial⟩ ?_
 rintro j ⟨G,v3,rows,b3⟩ H5 hj ⟨g1,g2,o6,r6⟩
 simp only at g1 g2 o6 r6
 refine wkT ?_
 refine Zav (s14.inc (g1.trans g2)) rfl ?_
 refine wkT ?_
 refine wiT (fun h1=>?_) (fun h1=>?_)
 ·have hj':j<vs.length:=by omega
  have hjm:j<(mkL b b.pts.length).length:=by omega
  have hft:=WaP (f:=fun l=>Waj b l (ZaC b)) hjm
  obtain⟨hml1,hml2⟩:=WaX v _ (Nat.le_refl _) (mkL b b.pts.length)[j] (List.getElem_mem hjm)
  have hsk:=l14.at_ j hj' hjm
  have hsub:∀ k,((((mkL b b.pts.length).take j).flatMap fun l=>Waj b l (ZaC b))++Waj b (mkL b b.pts.length)[j] ((ZaC b).take k)).length<=81 * 22+22:=by
   intro k
   rw[List.length_append]
   have a1:=Wat (f:=fun l=>Waj b l (ZaC b)) (k:=22) (l:=(mkL b b.pts.length).take j) fun l _=>by
    have:=List.length_filter_le (ZgQ b) ((ZaC b).map fun k=>(⟨n4of l,k.bf,k.by_⟩:Boat))
    rw[List.length_map]at this
    rw[Waj];omega
   have a2:(Waj b (mkL b b.pts.length)[j] ((ZaC b).take k)).length<=22:=by
    have:=List.length_filter_le (ZgQ b) (((ZaC b).take k).map fun k=>(⟨n4of (mkL b b.pts.length)[j],k.bf,k.by_⟩:Boat))
    rw[List.length_map,List.length_take]at this
    rw[Waj];omega
   have a3:((mkL b b.pts.length).take j).length<=81:=by rw[List.length_take];omega
   have a4:((mkL b b.pts.length).take j).length * 22<=81 * 22:=Nat.mul_le_mul_right _ a3
   omega
  generalize (mkL b b.pts.length)[j]=l at *
  generalize (List.flatMap (fun l=>Waj b l (ZaC b)) ((mkL b b.pts.length).take j))=L at *
  refine wkT ?_
  refine ZaP (α:=Hp×Value×List Q4×Option Nat) (ZaC b).length (fun k s H'=>Inc H4 s.1∧Inc s.1 H'∧Own s.1 H' 125 s.2.1 s.2.2.1 s.2.2.2∧RbAt b s.1 s.2.2.1 (L++Waj b l ((ZaC b).take k)))
   (fun k s=>[(1,vi 0),(3,s.2.1),(4,mv),(5,v5),(6,vi j),(7,vi k)]) (fun _ _=>[(1,[vi b.op,vi b.sl,pv,cv])]) (G,v3,rows,b3) ⟨g1,g2,o6,by simpa[Waj]using r6⟩ ⟨rfl,rfl,rfl,rfl,rfl,rfl,trivial⟩ ⟨rfl,trivial⟩ ?_
  rintro k ⟨G1,v4,rws,b4⟩ H6 hk ⟨q1,q2,o7,r7⟩
  simp only at q1 q2 o7 r7
  have hrl:=r7.len
  have hsk':=hsub k
  refine wkT ?_
  refine Zav (s5.inc (q1.trans q2)) rfl ?_
  refine wkT ?_
  refine wiT (fun h2=>?_) (fun h2=>?_)
  ·have hk':k<(ZaC b).length:=by omega
   have htk:(ZaC b).take (k+1)=(ZaC b).take k++[(ZaC b)[k]]:=List.take_succ_eq_append_getElem hk'
   have hbs:=Wbn b l ((ZaC b).take k) (ZaC b)[k]
   rw[<-htk]at hbs
   have hsi:=ZjT v _ (List.getElem_mem hk')
   obtain⟨ks,hks⟩:∃ ks,ks=(ZaC b)[k]:=⟨_,rfl⟩
   rw[<-hks]at hbs hsi
   obtain⟨Av,cv2,hvs,hsk2⟩:=id hsk
   have hskc:SlAt H4 (.slice Av l.length cv2) l:=by rw[<-hvs];exact hsk
   refine wkT ?_
   refine ZaE (s14.inc (q1.trans q2)) rfl rfl rfl (i:=j) hj' fun a ha=>?_
   have ha':CellsAt H6 a [.slice Av l.length cv2]:=by rw[<-hvs];exact ha
   refine wkT ?_
   refine Zaf (hs _) rfl ha' ?_
   refine wkT ?_
   refine ZaE (s5.inc (q1.trans q2)) rfl rfl rfl (i:=k) hk' fun a2 ha2=>?_
   have ha2':CellsAt H6 a2 [vi ks.bf,vi ks.by_]:=by rw[hks];exact ha2
   refine wkT ?_
   refine Zao (hs _) rfl ha2' rfl ?_
   refine wkT ?_
   refine Zab (vs:=[.agg #[vi b.op,vi b.sl,pv,cv],.slice Av l.length cv2,.agg #[vi ks.bf,vi ks.by_]]) rfl (Wbp (hb4.inc (q1.trans q2)) (hskc.inc (q1.trans q2)) (by omega) ⟨by have:=v.op;omega,by have:=v.op;omega⟩ (fun x hx=>by have:=hml2 x hx;exact⟨by omega,by omega⟩) ⟨by omega,by omega⟩) ?_
   rintro gv H7 ⟨i7,b7,o8⟩
   rw[gaps_eq v hml1]at o8
   obtain⟨A8,c8,rfl,_⟩:=id o8.sl
   refine wkT ?_
   refine Zab (vs:=[.agg #[vi b.op,vi b.sl,pv,cv],.slice A8 (gapLs b ⟨n4of l,ks.bf,ks.by_⟩).length c8]) rfl (Wbf ((hb4.inc (q1.trans q2)).inc i7) o8.sl (by have:=v.ckn;omega) (fun c hc=>⟨(v.cks c hc).1.1,by
    have h2:=(v.cks c hc).1.2
    have:(gapLs b ⟨n4of l,ks.bf,ks.by_⟩).length=b.pts.length:=by rw[gapLs,List.length_take];show min _ 4=_;omega
    rw[this];exact h2⟩)) ?_
   rintro v9 _ ⟨rfl,rfl⟩
   rw[right_eq v]
   refine wkT ?_
   refine wiT (fun h3=>?_) (fun h3=>?_)
   ·rw[h3,if_pos rfl]at hbs
    obtain⟨G2,w1,w2,w3,w4⟩:=own_add q2 o7 i7 o8
    have w12:=(q1.trans q2).trans i7
    refine wkT ?_
    refine ZaE (s14.inc w12) rfl rfl rfl (i:=j) hj' fun a ha=>?_
    have ha':CellsAt H7 a [.slice Av l.length cv2]:=by rw[<-hvs];exact ha
    refine wkT ?_
    refine Zaf (hs _) rfl ha' ?_
    refine wkT ?_
    refine ZaE (s5.inc w12) rfl rfl rfl (i:=k) hk' fun a2 ha2=>?_
    have ha2':CellsAt H7 a2 [vi ks.bf,vi ks.by_]:=by rw[hks];exact ha2
    refine wkT ?_
    refine Zao (hs _) rfl ha2' rfl ?_
    refine wkT ?_
    refine Zat (cs:=[.slice Av l.length cv2,vi ks.bf,vi ks.by_,.slice A8 (gapLs b ⟨n4of l,ks.bf,ks.by_⟩).length c8]) (hs _) rfl fun rq hrq=>?_
    refine kp_l hs ?_
    have hq:=Za4 (H:=H7) (r:=rq) (E:=125) (c:=1) (l:=[(⟨.slice Av l.length cv2,ks.bf,ks.by_,.slice A8 (gapLs b ⟨n4of l,ks.bf,ks.by_⟩).length c8⟩:Q4)])
    have hq1:((encs [(⟨.slice Av l.length cv2,ks.bf,ks.by_,.slice A8 (gapLs b ⟨n4of l,ks.bf,ks.by_⟩).length c8⟩:Q4)]).all Value.isOne)=true:=rfl
    have hsn:=(r7.inc w1).snoc (q:=⟨.slice Av l.length cv2,ks.bf,ks.by_,.slice A8 (gapLs b ⟨n4of l,ks.bf,ks.by_⟩).length c8⟩) (x:=⟨n4of l,ks.bf,ks.by_⟩) rfl rfl w4
    generalize hqq:(⟨.slice Av l.length cv2,ks.bf,ks.by_,.slice A8 (gapLs b ⟨n4of l,ks.bf,ks.by_⟩).length c8⟩:Q4)=q at *
    refine wkT ?_
    refine ZbW (l':=[q]) (und u108) (und u108) (tif t125) rfl (by decide) (w2.trans (Zaj hrq)) (w3.ins hrq) (by subst hqq;exact hq) hq1 (by simp;omega) (by omega) rfl rfl (hs _) fun v10 H8 b10 g3 o10 _=>?_
    refine wkT ?_
    exact⟨(⟨k+1,by omega⟩,(G2,v10,rws++[q],b10)),Nat.sub_lt_sub_left (by omega) (Nat.lt_succ_self k),⟨q1.trans w1,g3,o10,by rw[hbs,<-List.append_assoc];exact hsn⟩,⟨rfl,rfl,rfl,rfl,rfl,rfl,trivial⟩,⟨rfl,trivial⟩,rfl⟩
   ·rw[h3]at hbs
    simp only[Bool.false_eq_true,if_false,List.append_nil]at hbs
    refine wkT ?_
    exact⟨(⟨k+1,by omega⟩,(G1,v4,rws,b4)),Nat.sub_lt_sub_left (by omega) (Nat.lt_succ_self k),⟨q1,q2.trans i7,o7.inc i7,by rw[hbs];exact r7⟩,⟨rfl,rfl,rfl,rfl,rfl,rfl,trivial⟩,⟨rfl,trivial⟩,rfl⟩
  ·have:k=(ZaC b).length:=by omega
   subst this
   rw[List.take_length]at r7
   refine wkT ?_
   exact⟨(⟨j+1,by omega⟩,(G1,v4,rws,b4)),Nat.sub_lt_sub_left (by omega) (Nat.lt_succ_self j),⟨q1,q2,o7,by rw[hft];exact r7⟩,⟨rfl,rfl,rfl,rfl,rfl,trivial⟩,⟨rfl,trivial⟩,rfl⟩
 ·have:j=vs.length:=by omega
  subst this
  rw[List.take_of_length_le (by omega),<-hboats]at r6
  refine wkT ?_
  exact⟨(i04.trans g1).trans g2,rows,o6.sl,r6.inc g2⟩
end
end Go.Proofs
end
section
open Go Go.LL
namespace Go.Proofs
theorem Wbh {G:Prop} (h:G:=by
  have hlen3:O.length<=j:=by omega
  refine wkT ?_
  refine Zk1 (k:=.i64) (lo:=0) (hi:=t) (und u34) (tif t3) rfl (.inl ⟨rfl,rfl⟩) ⟨_,rfl,rfl⟩ (Nat.zero_le _) tc ?_
  refine wkT ?_
  refine ZaE (hlv.inc i1) rfl rfl rfl (i:=j) hj' fun a ha=>?_
  refine wkT ?_
  refine Zaf (hs _) rfl (hrow (.refl _) a ha) ?_
  refine wkT ?_
  refine Zbu (lo:=t) (und u34) (tif t3) rfl rfl ht ?_
  refine wkT ?_
  refine Zat (cs:=[vi x]) (hs _) rfl fun r1 hr1=>?_
  refine kp_l hs ?_
  have o3:Own H1 (H1.ins r1 (.cells [vi x].toArray 3)) 3 (.slice (some ⟨r1,0,none⟩) 1 1) [x] (some r1):=own_new (l:=[x]) hr1
  have i3:Inc H1 (H1.ins r1 (.cells [vi x].toArray 3)):=Zaj hr1
  generalize H1.ins r1 (.cells [vi x].toArray 3)=H3 at *
  have hdl:(O.drop t).length<=O.length:=by rw[List.length_drop];omega
  have htl:(O.take t).length<=O.length:=by rw[List.length_take];omega
  refine wkT ?_
  refine ZbW (l':=O.drop t) (und u34) (und u34) (tif t3) rfl (by decide) i3 o3 (dt.inc i3) (ints_one _) (by simp only[List.length_singleton];omega) (by omega) rfl rfl (hs _) fun v4 H4 b4 i4 o4 _=>?_
  refine kp_l hs ?_
  refine wkT ?_
  have ot4:Own H H4 3 (.slice (if c=0 then A else A.map (·.add (0 * 1))) (t-0) (c-0)) (O.take t) bb:=⟨(ot.inc i4).own,ot.fresh⟩
  refine ZbW (l':=[x]++O.drop t) (und u34) (und u34) (tif t3) rfl (by decide) (i1.trans i4) ot4 o4.sl (ints_one _) (by simp only[List.length_append,List.length_singleton];omega) (by omega) rfl rfl (hs _) fun v5 H5 b5 i5 o5 _=>?_
  have e5:O.take t++([x]++O.drop t)=ordF (l.take (j+1)):=by rw[hot,h3];rfl
  rw[e5]at o5
  obtain⟨A5,c5,rfl,_⟩:=id o5.sl
  refine wkT ?_
  exact⟨(⟨j+1,by omega⟩,((A5,c5),b5)),Nat.sub_lt_sub_left (by omega) (Nat.lt_succ_self j),⟨i5,o5⟩,⟨rfl,rfl,rfl,trivial⟩,trivial,rfl⟩):G:=h
def insD (x:Int):List Int->List Int
 | []=>[x]
 | y :: r=>if y<x then y :: insD x r else if y=x then y :: r else x :: y :: r
def ordF (l:List Int):List Int:=l.foldl (fun o x=>insD x o) []
theorem Wbi {l:List Int}{j:Nat}(hj:j<l.length):ordF (l.take (j+1))=insD l[j] (ordF (l.take j)):=by
 rw[ordF,List.take_succ_eq_append_getElem hj,List.foldl_append];rfl
theorem Wa0 (x:Int):∀ l,(insD x l).length<=l.length+1
 | []=>by simp[insD]
 | y :: r=>by
  rw[insD]
  have:=Wa0 x r
  split
  ·simp only[List.length_cons];omega
  ·split<;>simp
theorem WaW:∀ l:List Int,(ordF l).length<=l.length:=by
 refine Zfm (by simp[ordF]) fun l x ih=>?_
 have:=Wa0 x (ordF l)
 rw[ordF,List.foldl_append,List.length_append,List.length_singleton]
 show (insD x (ordF l)).length<=_
 omega
theorem WaO {x:Int}:∀ {l:List Int} {t:Nat},t<=l.length->(∀ i (h:i<l.length),i<t->l[i]<x)->insD x l=l.take t++insD x (l.drop t)
 | l,0,_,_=>by simp
 | [],t+1,h,_=>by simp at h
 | y :: r,t+1,h,hh=>by
  have h0:y<x:=hh 0 (by simp) (by omega)
  rw[insD,if_pos h0,WaO (l:=r) (t:=t) (by simpa using h) fun i h1 h2=>by
   have:=hh (i+1) (by simpa using h1) (by omega)
   simpa using this]
  simp
theorem Wba {α:Type}[Enc α]{H0 H:Hp}{E:TypeId}{a:Option Addr}{n c t:Nat}{l:List α}{b:Option Nat}(h:Own H0 H E (.slice a n c) l b)(ht:t<=l.length):t<=c∧Own H0 H E (.slice (if c=0 then a else a.map (·.add (0 * Enc.sz α))) (t-0) (c-0)) (l.take t) b∧SlAt H (.slice (if c=t then a else a.map (·.add (t * Enc.sz α))) (n-t) (c-t)) (l.drop t):=by
 have e0:(if c=0 then a else a.map (·.add (0 * Enc.sz α)))=a:=by
  split
  ·rfl
  ·rw[Nat.zero_mul]
   cases a with
   | none=>rfl
   | some a=>rw[Option.map_some,add_zero]
 rw[e0,Nat.sub_zero,Nat.sub_zero]
 obtain⟨q0,⟨q1,q2,q3⟩ | ⟨r,cap,rest,q1,q2,q3,q4,q5⟩⟩:=h.own
 ·have:l=[]:=List.eq_nil_of_length_eq_zero q2
  subst this
  simp only[Value.slice.injEq]at q1
  obtain⟨rfl,rfl,rfl⟩:=q1
  have:t=0:=by simpa using ht
  subst this
  exact⟨Nat.le_refl _,⟨⟨by simp[encs],.inl ⟨rfl,rfl,q3⟩⟩,h.fresh⟩,_,_,rfl,fun hn=>absurd (by simp) hn⟩
 ·simp only[Value.slice.injEq]at q2
  obtain⟨rfl,rfl,rfl⟩:=q2
  have e1:encs l=encs (l.take t)++encs (l.drop t):=by rw[<-Zcf,List.take_append_drop]
  refine⟨by omega,⟨⟨Zcm _,.inr ⟨r,c,encs (l.drop t)++rest,q1,by rw[List.length_take,Nat.min_eq_left ht],by rw[q3,e1,List.append_assoc],by rw[<-List.append_assoc,<-e1];exact q4,by rw[List.length_take];omega⟩⟩,h.fresh⟩,?_⟩
  refine⟨_,c-t,by rw[List.length_drop],fun hn=>?_⟩
  have hlt:t<l.length:=by
   rcases Nat.lt_or_ge t l.length with h | h
   ·exact h
   ·exact absurd (List.drop_eq_nil_of_le h) hn
  rw[if_neg (by omega)]
  refine⟨_,rfl,Zds rfl _,_,_,by rw[ZbM];exact q3,fun j hj=>?_⟩
  rw[Zc3]
  simp only[Obj.at?,List.getElem?_toArray]
  have hlen:(encs (l.take t)).length=t * Enc.sz α:=by rw[Zcm,List.length_take,Nat.min_eq_left ht]
  rw[e1,List.append_assoc,List.getElem?_append_right (by omega),List.getElem?_append_left (by omega)]
  congr 1
  omega
section
variable  {P:Prg}[Tz P][Loud P]{H:Hp}
set_option maxHeartbeats 4000000
set_option maxRecDepth 20000
theorem Wa4 {lv:Value}{l:List Int}(hlv:SlAt H lv l)(hl:l.length<=1000000) :
  LL.Zag P 57 #[lv] H fun v H'=>Inc H H'∧∃ bb,Own H H' 3 v (ordF l) bb:=by
 have hs:∀ g,P.still g=false:=Loud.loud
 refine IsN.m (isn c57) (args:=[lv]) rfl ?_
 unfold n57
 refine wkT ?_
 refine ZaP (α:=(Option Addr×Nat)×Option Nat) l.length (fun j s H'=>Inc H H'∧Own H H' 3 (.slice s.1.1 (ordF (l.take j)).length s.1.2) (ordF (l.take j)) s.2) (fun j s=>[(0,lv),(3,.slice s.1.1 (ordF (l.take j)).length s.1.2),(4,vi j)]) (fun _ _=>[]) ((none,0),none) ⟨.refl H,.nil _ _ _⟩ ⟨rfl,rfl,rfl,trivial⟩ trivial ?_
 rintro j ⟨⟨A,c⟩,bb⟩ H1 hj ⟨i1,o1⟩
 simp only at o1
 have hol:=WaW (l.take j)
 have htl:(l.take j).length<=j:=by rw[List.length_take];omega
 refine wkT ?_
 refine Zav (hlv.inc i1) rfl ?_
 refine wkT ?_
 refine wiT (fun h1=>?_) (fun h1=>?_)
 ·have hj':j<l.length:=by omega
  have hot:=Wbi hj'
  have s1:=o1.sl
  generalize hO:ordF (l.take j)=O at *
  generalize hX:l[j]=x at *
  have hrow:∀ {H':Hp},Inc H1 H'->∀ a,CellsAt H' a (Enc.enc l[j])->CellsAt H' a [vi x]:=fun _ a ha=>by rw[<-hX];exact ha
  refine wbT ?_
  refine Zbn ?_
  refine wbT ?_
  refine ZbZ (fun (t:Nat) H'=>H1=H'∧t<=O.length∧(∀ i (h:i<O.length),i<t->O[i]<x)∧(∀ h:t<O.length,¬ O[t]<x)) (fun t=>[(0,lv),(3,.slice A O.length c),(4,vi j),(5,vi t)]) (fun _=>[]) ?_ ?_
  ·refine wkT ?_
   refine ZaX O.length (fun t H'=>H1=H'∧(∀ i (h:i<O.length),i<t->O[i]<x)) (fun t=>[(0,lv),(3,.slice A O.length c),(4,vi j),(5,vi t)]) (fun _=>[]) ⟨rfl,fun i h h2=>by omega⟩ ⟨rfl,rfl,rfl,rfl,trivial⟩ trivial ?_
   rintro t _ ht ⟨rfl,hlt⟩
   refine wkT ?_
   refine wiT (fun h2=>?_) (fun h2=>?_)
   ·have ht':t<O.length:=by omega
    refine wkT ?_
    refine ZaE s1 rfl rfl rfl (i:=t) ht' fun a ha=>?_
    refine wkT ?_
    refine Zaf (hs _) rfl ha ?_
    refine wkT ?_
    refine ZaE (hlv.inc i1) rfl rfl rfl (i:=j) hj' fun a ha=>?_
    refine wkT ?_
    refine Zaf (hs _) rfl (hrow (.refl _) a ha) ?_
    refine wkT ?_
    refine wiT (fun h3=>?_) (fun h3=>?_)
    ·refine wkT ?_
     exact⟨⟨t+1,by omega⟩,Nat.sub_lt_sub_left (by omega) (Nat.lt_succ_self t),⟨rfl,fun i h (h4:i<t+1)=>by
      by_cases e:i=t
      ·subst e;exact h3
      ·exact hlt i h (by omega)⟩,⟨rfl,rfl,rfl,rfl,trivial⟩,trivial,rfl⟩
    ·refine wkT ?_
     exact⟨t,⟨rfl,ht,hlt,fun _=>h3⟩,⟨rfl,rfl,rfl,rfl,trivial⟩,trivial,rfl⟩
   ·have:t=O.length:=by omega
    subst this
    refine wkT ?_
    exact⟨O.length,⟨rfl,Nat.le_refl _,hlt,fun h=>absurd h (Nat.lt_irrefl _)⟩,⟨rfl,rfl,rfl,rfl,trivial⟩,trivial,rfl⟩
  ·rintro t _ ⟨rfl,ht,hlt,hge⟩
   have hskip:=WaO ht hlt
   obtain⟨tc,ot,dt⟩:=Wba o1 ht
   have ins:insD x (O.drop t)=x :: O.drop t->insD x O=O.take t++(x :: O.drop t):=fun h=>by rw[hskip,h]
   refine wkT ?_
   refine wiT (fun h2=>?_) (fun h2=>?_)
   ·have ht2:t=O.length:=by omega
    have h3:=ins (by rw[List.drop_eq_nil_of_le (by omega)];rfl)
    exact Wbh
   ·have ht':t<O.length:=by omega
    refine wkT ?_
    refine ZaE s1 rfl rfl rfl (i:=t) ht' fun a ha=>?_
    refine wkT ?_
    refine Zaf (hs _) rfl ha ?_
    refine wkT ?_
    refine ZaE (hlv.inc i1) rfl rfl rfl (i:=j) hj' fun a ha=>?_
    refine wkT ?_
    refine Zaf (hs _) rfl (hrow (.refl _) a ha) ?_
    refine wkT ?_
    have hd:=List.drop_eq_getElem_cons ht'
    have hg:=hge ht'
    refine wiT (fun h4=>?_) (fun h4=>?_)
    ·have h3:=ins (by rw[hd,insD,if_neg hg,if_neg h4])
     exact Wbh
    ·have h3:insD x O=O:=by
      rw[hskip,hd,insD,if_neg hg,if_pos h4,<-hd,List.take_append_drop]
     refine wkT ?_
     exact⟨(⟨j+1,by omega⟩,((A,c),bb)),Nat.sub_lt_sub_left (by omega) (Nat.lt_succ_self j),⟨i1,by rw[hot,h3];exact o1⟩,⟨rfl,by rw[hot,h3];rfl,rfl,trivial⟩,trivial,rfl⟩
 ·have:j=l.length:=by omega
  subst this
  rw[List.take_length]at o1
  refine wkT ?_
  exact⟨i1,bb,by rw[List.take_length];exact o1⟩
end
end Go.Proofs
end
section
open Go Go.LL
namespace Go.Proofs
def opL (b:Bk)(there:Bool):List Boat:=if Zah b there=0 then Zae b else []
theorem Wap {b:Bk}{there:Bool}(h:Zah b there=0):Zeo b:=by
 cases there
 ·unfold Zah at h
  split at h
  ·exact absurd h (by assumption)
  ·simp at h
 ·exact ZaS (Zit h).1
section
variable  {P:Prg}[Tz P][Loud P]{H:Hp}
set_option maxHeartbeats 4000000
set_option maxRecDepth 20000
theorem WaE {bv:Value}{b:Bk}{there:Bool}(hb:BkAt H bv b)(hl:b.pts.length<=1000000)(hl2:b.cks.length<=1000000) :
  LL.Zag P 93 #[bv,vb there] H fun v H'=>Inc H H'∧∃ A c,v=.tuple #[.slice A (opL b there).length c,vi (Zah b there)]∧War b H' (.slice A (opL b there).length c) (opL b there):=by
 have hs:∀ g,P.still g=false:=Loud.loud
 have hb0:=hb
 obtain⟨pv,cv,rfl,hp,hc⟩:=hb
 have hno:∀ {H':Hp},Zah b there≠0->∃ A c,(Value.tuple #[.slice none 0 0,vi (Zah b there)])=.tuple #[.slice A (opL b there).length c,vi (Zah b there)]∧War b H' (.slice A (opL b there).length c) (opL b there):=by
  intro H' h
  have:opL b there=[]:=if_neg h
  rw[this]
  exact⟨none,0,rfl,[],.nil _,.nil _ _⟩
 refine IsN.m (isn c93) (args:=[.agg #[vi b.op,vi b.sl,pv,cv],vb there]) rfl ?_
 unfold n93
 refine wkT ?_
 refine Zab (vs:=[.agg #[vi b.op,vi b.sl,pv,cv]]) rfl (Zic hb0 hl hl2) ?_
 rintro v _ ⟨rfl,rfl⟩
 refine wkT ?_
 refine wiT (fun h1=>?_) (fun h1=>?_)
 ·have e:Zah b there=snag b:=by rw[Zah,if_pos h1]
  refine wkT ?_
  have:=hno (H':=H) (by rw[e];exact h1)
  rw[e]at this ⊢
  exact⟨.refl _,this⟩
 ·have val:=ZaS h1
  refine wkT ?_
  refine wiT (fun h2=>?_) (fun h2=>?_)
  ·have e:Zah b there=6:=by rw[Zah,if_neg (by simpa using h1),if_pos h2]
   refine wkT ?_
   have:=hno (H':=H) (by rw[e];decide)
   rw[e]at this ⊢
   exact⟨.refl _,this⟩
  ·refine wkT ?_
   refine Zab (vs:=[.agg #[vi b.op,vi b.sl,pv,cv]]) rfl (Wa6 hb0 val) ?_
   rintro w H1 ⟨i1,rows,s1,r1⟩
   have hrl:=r1.len
   obtain⟨A,c,rfl,hA⟩:=id s1
   refine wkT ?_
   refine wiT (fun h3=>?_) (fun h3=>?_)
   ·have e:Zah b there=9:=by rw[Zah,if_neg (by simpa using h1),if_neg (by simp[h2]),if_pos (by omega)]
    refine wkT ?_
    have:=hno (H':=H1) (by rw[e];decide)
    rw[e]at this ⊢
    exact⟨i1,this⟩
   ·have e:Zah b there=0:=by rw[Zah,if_neg (by simpa using h1),if_neg (by simp[h2]),if_neg (by omega)]
    have e2:opL b there=Zae b:=if_pos e
    refine wkT ?_
    rw[e2,e]
    refine⟨i1,A,c,?_,rows,?_,r1⟩
    ·rw[<-hrl];rfl
    ·rw[<-hrl];exact s1
end
end Go.Proofs
end
