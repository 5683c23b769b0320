import Derived.Test.YthmnpenamnoniaaGreatDoorP34
set_option linter.all false
section
open Go Go.LL
namespace Go.Proofs
def insI (x:Int):List Int->List Int
 | []=>[x]
 | y :: r=>if x<=y then x :: y :: r else y :: insI x r
def srt:List Int->List Int
 | []=>[]
 | x :: r=>insI x (srt r)
theorem Zf8 (x:Int):∀ l,(insI x l).Perm (x :: l)
 | []=>.refl _
 | y :: r=>by
  rw[insI]
  split
  ·exact .refl _
  ·exact((Zf8 x r).cons y).trans (.swap x y r)
theorem Zfi:∀ l,(srt l).Perm l
 | []=>.refl _
 | x :: r=>(Zf8 x (srt r)).trans ((Zfi r).cons x)
theorem Zmw (x:Int):∀ {l:List Int},l.Pairwise (·<=·)->(insI x l).Pairwise (·<=·)
 | [],_=>by simp[insI]
 | y :: r,h=>by
  rw[insI]
  split
  ·rename_i hxy
   refine List.pairwise_cons.2 ⟨fun z hz=>?_,h⟩
   rcases List.mem_cons.1 hz with rfl | hz
   ·exact hxy
   ·exact Int.le_trans hxy ((List.pairwise_cons.1 h).1 z hz)
  ·rename_i hxy
   obtain⟨h1,h2⟩:=List.pairwise_cons.1 h
   refine List.pairwise_cons.2 ⟨fun z hz=>?_,Zmw x h2⟩
   rcases List.mem_cons.1 ((Zf8 x r).mem_iff.1 hz) with rfl | hz
   ·omega
   ·exact h1 z hz
theorem srt_le:∀ l,(srt l).Pairwise (·<=·)
 | []=>.nil
 | x :: r=>Zmw x (srt_le r)
theorem ZlL {l l':List Int}(h:l.Perm l')(h1:l.Pairwise (·<=·))(h2:l'.Pairwise (·<=·)):l=l':=
 h.eq_of_pairwise (le:=(·<=·)) (fun a b _ _ x y=>Int.le_antisymm x y) h1 h2
theorem so_pw {l:List Int}(h:So 0 l.length l):l.Pairwise (·<=·):=by
 rw[List.pairwise_iff_getElem]
 intro i j hi hj hij
 have:=h i j (Nat.zero_le _) (by omega) hj
 rwa [Zha hi,Zha hj]at this
section
variable  {P:Prg}[Tz P][Loud P]{H:Hp}
set_option maxHeartbeats 1000000
theorem Sort_ok {H0:Hp}{v:Value}{l:List Int}{bb:Option Nat}(hi:Inc H0 H)(ho:Own H0 H 3 v l bb)(hne:l≠[])(hl:l.length<=60000) :
  LL.Zag P 98 #[v] H fun _ H'=>Inc H0 H'∧Own H0 H' 3 v (srt l) bb:=by
 have hs:=Loud.loud (P:=P)
 have hfr:=ho.fresh
 obtain⟨h0,⟨h1,h2,h3⟩ | ⟨r,cap,rest,rfl,rfl,h3,h4,h5⟩⟩:=ho.own
 ·exact absurd (List.eq_nil_of_length_eq_zero h2) hne
 have hr0:=hfr r rfl
 have hll:=Zkm (m:=l.length) (by omega)
 refine IsN.m (isn c101) (args:=[.slice (some ⟨r,0,none⟩) l.length cap]) rfl ?_
 unfold n101
 refine wkT ?_
 refine Zch (und ui3) (und u188) rfl ?_
 rw[ZgE (m:=l.length) (by omega)]
 refine wkT ?_
 refine Zab (vs:=[.int .u64 l.length]) rfl (Len_ok (by omega)) ?_
 rintro w _ ⟨rfl,rfl⟩
 refine wkT ?_
 refine Zab (vs:=[.slice (some ⟨r,0,none⟩) l.length cap,vi (0:Nat),vi l.length,vi (len64 l.length:Nat)]) rfl (pdq_ok (rest:=rest) hl l.length 0 l.length (len64 l.length) l H (by omega) h3 rfl (Nat.zero_le _) (Nat.le_refl _) (by omega) (.inl rfl)) ?_
 rintro w H1 ⟨l',ar,rg,so⟩
 have hln:=rg.len
 have hsr:l'=srt l:=ZlL ((rg.perm (Nat.le_refl _)).trans (Zfi l).symm) (so_pw (by rw[hln];exact so)) (srt_le l)
 have e:(srt l).length=l.length:=(Zfi l).length_eq
 subst hsr
 refine wkT ?_
 refine⟨ar.inc hi hr0,⟨by rw[ZbI];show _=(srt l).length * 1;omega,.inr ⟨r,cap,rest,rfl,by rw[e],ar.at_,?_,by rw[e];exact h5⟩⟩,hfr⟩
 rw[List.length_append,ZbI,e]
 rw[List.length_append,ZbI]at h4
 exact h4
def gapL (b:Bk)(p:Nat):List Int:=cmpF (srt ((Zae b).map fun x=>(Zas b x).get p))
theorem Gap1_ok {bv:Value}{b:Bk}{r:Nat}{n:Int}(hb:BkAt H bv b)(hn:b.pts.length<=1000000)(hr:CellsAt H ⟨r,0,none⟩ [vi n]):LL.Zag P 96 #[bv,pt r] H fun v H'=>H=H'∧v=vb (decide (0<=n∧n<b.pts.length)):=by
 have hs:=Loud.loud (P:=P)
 have hb0:=hb
 obtain⟨pv,cv,rfl,hp,hc⟩:=hb
 refine IsN.m (isn c98) (args:=[.agg #[vi b.op,vi b.sl,pv,cv],pt r]) rfl ?_
 unfold n98
 refine wkT ?_
 refine Zaf (hs _) rfl hr ?_
 refine wkT ?_
 refine Zab (vs:=[.agg #[vi b.op,vi b.sl,pv,cv],vi n]) rfl (ZeM hb0 n hn (hs _)) ?_
 rintro v _ ⟨rfl,rfl⟩
 refine wkT ?_
 exact⟨rfl,rfl⟩
theorem Gap_ok {bv:Value}{b:Bk}{n:Int}(hb:BkAt H bv b)(hg:Zbh H)(hl:b.pts.length<=1000000)(hl2:b.cks.length<=1000000) :
  LL.Zag P 36 #[bv,vi n] H fun v H'=>Inc H H'∧∃ w bb,v=.tuple #[w,vi (Zah b (decide (0<=n∧n<b.pts.length)))]∧Own H H' 3 w (if Zah b (decide (0<=n∧n<b.pts.length))=0 then gapL b n.toNat else []) bb:=by
 have hs:=Loud.loud (P:=P)
 have hb0:=hb
 obtain⟨pv,cv,rfl,hp,hc⟩:=hb
 refine IsN.m (isn c29) (args:=[.agg #[vi b.op,vi b.sl,pv,cv],vi n]) rfl ?_
 unfold n29
 refine wkT ?_
 refine ZbW rfl (hs _) fun r1 hr1=>?_
 have hi1:=Zai (o:=.cells (vi n).cells 3) hr1
 have c1:CellsAt (H.ins r1 (.cells (vi n).cells 3)) ⟨r1,0,none⟩ [vi n]:=Zar
 generalize H.ins r1 (.cells (vi n).cells 3)=H1 at *
 refine wkT ?_
 refine Zci rfl rfl ?_
 refine wkT ?_
 refine Zab (vs:=[.agg #[vi b.op,vi b.sl,pv,cv],.func (.func 96) #[] #[pt r1]]) rfl (ZdO (hb0.inc hi1) (CellsAt.inc hg hi1) hl hl2 (ZcY (by kernel_rfl) (Gap1_ok (n:=n) (hb0.inc hi1) hl c1))) ?_
 generalize hth:decide (0<=n∧n<b.pts.length)=th
 rintro v H2 ⟨hi2,⟨hz,rfl⟩ | ⟨hz,pv',cv',w,bb,e,rfl,ow⟩⟩
 ·refine wkT ?_
  refine wiT (fun h1=>?_) (fun h1=>?_)
  ·refine wkT ?_
   exact⟨hi1.trans hi2,_,none,rfl,by rw[if_neg hz];exact .nil _ _ _⟩
  ·exact absurd h1 hz
 ·have hth':th=true:=by
   cases th
   ·rw[Zah]at hz
    split at hz
    ·contradiction
    ·simp at hz
   ·rfl
  have hnn:=of_decide_eq_true (hth.trans hth')
  subst hth'
  obtain⟨p,rfl⟩:∃ p:Nat,n=p:=⟨n.toNat,by omega⟩
  simp only[Value.agg.injEq,Array.mk.injEq,List.cons.injEq,and_true]at e
  obtain⟨_,_,rfl,rfl⟩:=e
  obtain⟨hz0,hne⟩:=Zip hz
  have val:=ZaR hz0
  have hlen:=Zbp val
  obtain⟨Ap,cp,rfl,hp'⟩:=hp
  obtain⟨Ac,cc,rfl,hc'⟩:=hc
  have hw:=ow.sl
  obtain⟨Aw,cw,rfl,_⟩:=ow.sl
  refine wkT ?_
  refine ZaO (α:=Value×Option Nat) (Zae b).length (fun j s H'=>Inc H H'∧Inc H2 H'∧Own H2 H' 3 s.1 (((Zae b).take j).map fun x=>(Zas b x).get p) s.2)
   (fun j s=>[(3,pt r1),(4,.slice none 0 0),(5,vi 0),(6,vi 0),(8,s.1),(21,.slice Aw (Zae b).length cw),(22,vi (Zae b).length),(23,vi j)]) (fun j s=>[(6,[vi b.op,vi b.sl,.slice Ap b.pts.length cp,.slice Ac b.cks.length cc,.slice Aw (Zae b).length cw])]) (.slice none 0 0,none) ⟨hi1.trans hi2,.refl H2,.nil H2 H2 3⟩ ⟨rfl,rfl,rfl,rfl,rfl,rfl,rfl,rfl,trivial⟩ ⟨rfl,trivial⟩ ?_
  rintro j ⟨v8,b8⟩ H3 hj ⟨hs1,hs2,o8⟩
  simp only at o8
  refine wkT ?_
  refine wiT (fun h1=>?_) (fun h1=>?_)
  ·have hj':j<(Zae b).length:=by omega
   have hx:=ZcZ val _ (List.getElem_mem hj')
   refine wkT ?_
   refine ZaE (hw.inc hs2) rfl rfl rfl (i:=j) hj' fun a ha=>?_
   refine wkT ?_
   refine Zao (hs _) rfl ha rfl ?_
   refine wkT ?_
   refine Zaf (hs _) rfl (c1.inc (hi2.trans hs2)) ?_
   refine wkT ?_
   refine Zab (vs:=[.agg #[vi b.op,vi b.sl,.slice Ap b.pts.length cp,.slice Ac b.cks.length cc],ZaH (Zae b)[j]]) rfl (Zdk (hb0.inc hs1) val.good.bk (Zdo hx) (hs _)) ?_
   rintro v _ ⟨rfl,rfl⟩
   refine Zmt ?_
   have hp4:p<4:=by have:=val.n;omega
   have htk:(((Zae b).take (j+1)).map fun x=>(Zas b x).get p)=(((Zae b).take j).map fun x=>(Zas b x).get p)++[(Zas b (Zae b)[j]).get p]:=by
    rw[List.take_succ_eq_append_getElem hj',List.map_append];rfl
   generalize (Zae b)[j]=x at *
   refine wkT ?_
   refine Zde (und u119) (tif t3) (agf a3) rfl rfl (i:=p) hp4 (v:=vi ((Zas b x).get p)) (by have:=ZcH (Zas b x) hp4;rw[Nat.zero_add]at this;simpa[N4.cells]using this) ?_
   refine wkT ?_
   refine Zat (cs:=[vi ((Zas b x).get p)]) (hs _) rfl fun r5 hr5=>?_
   refine kp_l hs ?_
   refine wkT ?_
   refine ZbU (l':=[(Zas b x).get p]) (und u34) (und u34) (tif t3) rfl (by decide) (hs2.trans (Zai hr5)) (o8.ins hr5) ZcO rfl (by simp;omega) (by omega) rfl rfl (hs _) fun v8' H4 b8' k1 k2 k3=>?_
   refine wkT ?_
   refine⟨(⟨j+1,by omega⟩,(v8',b8')),slt (by omega),⟨(hi1.trans hi2).trans k1,k1,?_⟩,⟨rfl,rfl,rfl,rfl,rfl,rfl,rfl,rfl,trivial⟩,⟨rfl,trivial⟩,rfl⟩
   show Own H2 H4 3 v8' (((Zae b).take (j+1)).map fun x=>(Zas b x).get p) b8'
   rw[htk]
   exact k2
  ·have:j=(Zae b).length:=by omega
   subst this
   rw[List.take_length]at o8
   have o8':Own H H3 3 v8 ((Zae b).map fun x=>(Zas b x).get p) b8:=⟨o8.own,fun r hr=>Za9 (hi1.trans hi2) (o8.fresh r hr)⟩
   refine wkT ?_
   refine Zab (vs:=[v8]) rfl (Sort_ok hs1 o8' (fun e=>by rw[List.map_eq_nil_iff]at e;rw[e]at hne;simp at hne) (by simp;omega)) ?_
   rintro w H4 ⟨hi4,o9⟩
   refine wkT ?_
   refine Zab (vs:=[v8]) rfl (Zhf hi4 o9 (by rw[(Zfi _).length_eq];simp;omega)) ?_
   rintro v H5 ⟨hi5,bb,ow5⟩
   refine wkT ?_
   refine⟨hi5,v,bb,by rw[hz];rfl,?_⟩
   rw[if_pos hz]
   exact ow5
end
def bk0:Bk:=⟨0,0,[],[]⟩
def ZdJ (b:Bk):Int:=if snag b≠0 then snag b else if Zc6 b=false then 9 else 0
abbrev bookV0:Value:=.agg #[vi 0,vi 0,.slice none 0 0,.slice none 0 0]
theorem bk0_at (H:Hp):BkAt H bookV0 bk0:=⟨_,_,rfl,.nil H,.nil H⟩
def BkS (H:Hp)(v:Value)(s:Int)(b:Bk):Prop:=∃ w,v=.tuple #[w,vi s]∧BkAt H w (if s=0 then b else bk0)
theorem Zj2 {α:Type}[Enc α]{H H':Hp}{E:TypeId}{v':Value}{l:List α}(h:(l=[]∧v'=.slice none 0 0)∨∃ b,Own H H' E v' l b):∃ b,Own H H' E v' l b:=by
 rcases h with ⟨rfl,rfl⟩ | h
 ·exact⟨none,.nil _ _ _⟩
 ·exact h
theorem Zef {H:Hp}{s:Int}{b:Bk}(h:s≠0):BkS H (.tuple #[bookV0,vi s]) s b:=⟨_,rfl,by rw[if_neg h];exact bk0_at H⟩
section
variable  {P:Prg}[Tz P][Loud P]{H:Hp}
set_option maxHeartbeats 1000000
theorem Zgj {bv:Value}{b:Bk}(hb:BkAt H bv b)(hg:Zbh H)(hl:b.pts.length<=1000000)(hl2:b.cks.length<=1000000) :
  LL.Zag P 112 #[bv] H fun v H'=>Inc H H'∧BkS H' v (ZdJ b) b:=by
 have hs:=Loud.loud (P:=P)
 have hb0:=hb
 obtain⟨pv,cv,rfl,hp,hc⟩:=hb
 refine IsN.m (isn c126) (args:=[.agg #[vi b.op,vi b.sl,pv,cv]]) rfl ?_
 unfold n126
 obtain⟨Ap,cp,rfl,hp'⟩:=id hp
 obtain⟨Ac,cc,rfl,hc'⟩:=id hc
 refine wkT ?_
 refine Zab (vs:=[.agg #[vi b.op,vi b.sl,.slice Ap b.pts.length cp,.slice Ac b.cks.length cc]]) rfl (ZaJ hb0 hg hl hl2 (hs _)) ?_
 rintro v _ ⟨rfl,rfl⟩
 refine wkT ?_
 refine wiT (fun h1=>?_) (fun h1=>?_)
 ·refine wkT ?_
  exact⟨.refl _,by rw[ZdJ,if_pos h1];exact Zef h1⟩
 ·have val:=ZaR h1
  refine wkT ?_
  refine Zab (vs:=[.agg #[vi b.op,vi b.sl,.slice Ap b.pts.length cp,.slice Ac b.cks.length cc]]) rfl (Zi7 hb0 val.good) ?_
  rintro v H1 ⟨hi1,rfl⟩
  refine wkT ?_
  refine wiT (fun h2=>?_) (fun h2=>?_)
  ·refine wkT ?_
   exact⟨hi1,by rw[ZdJ,if_neg (by simpa using h1),if_pos h2];exact Zef (by decide)⟩
  ·refine wkT ?_
   refine Zab (vs:=[.slice Ap b.pts.length cp]) rfl (Zgp (hp.inc hi1) hl (hs _)) ?_
   rintro v H2 ⟨hi2,h⟩
   obtain⟨b2,o2⟩:=Zj2 h
   obtain⟨A2,c2,rfl,_⟩:=id o2.sl
   refine kp_l hs ?_
   refine wkT ?_
   refine Zab (vs:=[.slice Ac b.cks.length cc]) rfl (Zgq ((hc.inc hi1).inc hi2.inc) hl2 (hs _)) ?_
   rintro v H3 ⟨hi3,h⟩
   obtain⟨b3,o3⟩:=Zj2 h
   obtain⟨A3,c3,rfl,_⟩:=id o3.sl
   refine kp_l hs ?_
   refine wkT ?_
   refine⟨(hi1.trans hi2.inc).trans hi3.inc,?_⟩
   rw[ZdJ,if_neg (by simpa using h1),if_neg (by simp[h2])]
   exact⟨_,rfl,by rw[if_pos rfl];exact⟨_,_,rfl,o2.sl.inc hi3.inc,o3.sl⟩⟩
def ckBk (b:Bk)(c:SCk):Bk:={ b with cks:=b.cks++[c] }
def Zkv (b:Bk)(c:SCk):Int:=if snag b≠0 then snag b else ZdJ (ckBk b c)
theorem Zi8 {H:Hp}{r:Nat}{c:SCk}:SlAt (H.ins r (.cells [vi c.p,vi c.gl,vi c.gh].toArray 101)) (.slice (some ⟨r,0,none⟩) 1 1) [c]:=Za3 (l:=[c])
theorem Check_ok {bv:Value}{b:Bk}{c:SCk}(hb:BkAt H bv b)(hg:Zbh H)(hl:b.pts.length<=1000000)(hl2:b.cks.length<=1000000) :
  LL.Zag P 41 #[bv,.agg #[vi c.p,vi c.gl,vi c.gh]] H fun v H'=>Inc H H'∧BkS H' v (Zkv b c) (ckBk b c):=by
 have hs:=Loud.loud (P:=P)
 have hb0:=hb
 obtain⟨pv,cv,rfl,hp,hc⟩:=hb
 refine IsN.m (isn c41) (args:=[.agg #[vi b.op,vi b.sl,pv,cv],.agg #[vi c.p,vi c.gl,vi c.gh]]) rfl ?_
 unfold n41
 obtain⟨Ap,cp,rfl,hp'⟩:=id hp
 obtain⟨Ac,cc,rfl,hc'⟩:=id hc
 refine wkT ?_
 refine Zab (vs:=[.agg #[vi b.op,vi b.sl,.slice Ap b.pts.length cp,.slice Ac b.cks.length cc]]) rfl (ZaJ hb0 hg hl hl2 (hs _)) ?_
 rintro v _ ⟨rfl,rfl⟩
 refine wkT ?_
 refine wiT (fun h1=>?_) (fun h1=>?_)
 ·refine wkT ?_
  exact⟨.refl _,by rw[Zkv,if_pos h1];exact Zef h1⟩
 ·have val:=ZaR h1
  have:=val.ckn
  refine wkT ?_
  refine Zab (vs:=[.slice Ac b.cks.length cc]) rfl (Zgq hc hl2 (hs _)) ?_
  rintro v H3 ⟨hi3,h⟩
  obtain⟨b3,o3⟩:=Zj2 h
  refine kp_l hs ?_
  refine wkT ?_
  refine Zat (cs:=[vi c.p,vi c.gl,vi c.gh]) (hs _) rfl fun r5 hr5=>?_
  refine kp_l hs ?_
  refine wkT ?_
  refine ZbU (l':=[c]) (und u23) (und u23) (tif t51) rfl (by decide) (hi3.inc.trans (Zai hr5)) (o3.ins hr5) Zi8 rfl (by simp;omega) (by omega) rfl rfl (hs _) fun v4 H4 b4 k1 k2 k3=>?_
  have s4:=k2.sl
  obtain⟨A4,c4,rfl,_⟩:=id s4
  refine wkT ?_
  refine Zab (vs:=[.agg #[vi b.op,vi b.sl,.slice Ap b.pts.length cp,.slice A4 (b.cks++[c]).length c4]]) rfl (Zgj (b:=ckBk b c) ⟨_,_,rfl,hp.inc k1,s4⟩ (CellsAt.inc hg k1) hl (by simp[ckBk];omega)) ?_
  rintro v H5 ⟨hi5,w,rfl,hw⟩
  obtain⟨_,_,rfl,⟨_,_,rfl,_⟩,⟨_,_,rfl,_⟩⟩:=id hw
  refine wkT ?_
  have ek:Zkv b c=ZdJ (ckBk b c):=if_neg (by simpa using h1)
  refine⟨k1.trans hi5,?_⟩
  rw[ek]
  exact⟨_,rfl,hw⟩
def fmBk (b:Bk)(n:Int):Bk:={ b with sl:=n }
def Zg7 (b:Bk)(n:Int):Int:=if snag b≠0 then snag b else if ¬ (0<=n∧n<=b.sl) then 1 else ZdJ (fmBk b n)
theorem Firm_ok {bv:Value}{b:Bk}{n:Int}(hb:BkAt H bv b)(hg:Zbh H)(hl:b.pts.length<=1000000)(hl2:b.cks.length<=1000000) :
  LL.Zag P 44 #[bv,vi n] H fun v H'=>Inc H H'∧BkS H' v (Zg7 b n) (fmBk b n):=by
 have hs:=Loud.loud (P:=P)
 have hb0:=hb
 obtain⟨pv,cv,rfl,hp,hc⟩:=hb
 refine IsN.m (isn c46) (args:=[.agg #[vi b.op,vi b.sl,pv,cv],vi n]) rfl ?_
 unfold n46
 obtain⟨Ap,cp,rfl,hp'⟩:=id hp
 obtain⟨Ac,cc,rfl,hc'⟩:=id hc
 refine wkT ?_
 refine Zab (vs:=[.agg #[vi b.op,vi b.sl,.slice Ap b.pts.length cp,.slice Ac b.cks.length cc]]) rfl (ZaJ hb0 hg hl hl2 (hs _)) ?_
 rintro v _ ⟨rfl,rfl⟩
 refine wkT ?_
 refine wiT (fun h1=>?_) (fun h1=>?_)
 ·refine wkT ?_
  exact⟨.refl _,by rw[Zg7,if_pos h1];exact Zef h1⟩
 ·refine wkT ?_
  refine Zab (vs:=[vi n,vi 0,vi b.sl]) rfl (Zby n 0 b.sl) ?_
  rintro v _ ⟨rfl,rfl⟩
  refine wkT ?_
  refine wiT (fun h2=>?_) (fun h2=>?_)
  ·refine wkT ?_
   exact⟨.refl _,by rw[Zg7,if_neg (by simpa using h1),if_pos h2];exact Zef (by decide)⟩
  ·refine wkT ?_
   refine Zab (vs:=[.agg #[vi b.op,vi n,.slice Ap b.pts.length cp,.slice Ac b.cks.length cc]]) rfl (Zgj (b:=fmBk b n) ⟨_,_,rfl,hp,hc⟩ hg hl hl2) ?_
   rintro v H5 ⟨hi5,w,rfl,hw⟩
   obtain⟨_,_,rfl,⟨_,_,rfl,_⟩,⟨_,_,rfl,_⟩⟩:=id hw
   refine wkT ?_
   have ek:Zg7 b n=ZdJ (fmBk b n):=by rw[Zg7,if_neg (by simpa using h1),if_neg (by simpa using h2)]
   refine⟨hi5,?_⟩
   rw[ek]
   exact⟨_,rfl,hw⟩
def rdBk (b:Bk)(i:Nat)(xl xh:Int):Bk:={ b with pts:=b.pts.set i { ptAt b i with ml:=xl,mh:=xh } }
def ZfP (b:Bk)(n xl xh:Int):Int:=
 if snag b≠0 then snag b else if ¬ (0<=n∧n<b.pts.length) then 6 else if ¬ (0<=xl∧xl<=xh∧xh<=99) then 1
 else if min (ptAt b n.toNat).mh xh<max (ptAt b n.toNat).ml xl then 9 else ZdJ (rdBk b n.toNat (max (ptAt b n.toNat).ml xl) (min (ptAt b n.toNat).mh xh))
theorem ZkJ {a b:List Value}{off n:Nat}{vs:List Value}(h:a.length=n):ZaM (a++b) (n+off) vs=a++ZaM b off vs:=by
 subst h
 unfold ZaM
 rw[List.take_append,List.drop_append,List.take_of_length_le (by omega),List.drop_eq_nil_of_le (by omega)]
 simp only[List.append_assoc,List.nil_append]
 congr 3
 ·congr 1;omega
 ·congr 1;omega
theorem Zia (xl xh:Int):∀ (l:List SPt) (i:Nat) (hi:i<l.length) (rest:List Value),ZaM (encs l++rest) (i * 5) [vi xl,vi xh]=encs (l.set i { l.getD i ⟨0,0,0,0,0⟩ with ml:=xl,mh:=xh })++rest
 | [],i,hi,_=>by simp at hi
 | p :: l,0,hi,rest=>by simp[encs,Enc.enc,ZaM]
 | p :: l,i+1,hi,rest=>by
  have ih:=Zia xl xh l i (by simpa using hi) rest
  have e:encs (p :: l)++rest=Enc.enc p++(encs l++rest):=by simp[encs]
  rw[e,show (i+1) * 5=5+i * 5 by omega,ZkJ (n:=5) (Enc.len p),ih]
  simp[encs]
theorem ZbK {H:Hp}{a:Addr}{cs ds:List Value}(h:CellsAt H a (cs++ds)):CellsAt H a cs:=by
 obtain⟨h1,o,p,h2,h3⟩:=h
 refine⟨h1,o,p,h2,fun j hj=>?_⟩
 rw[h3 j (by rw[List.length_append];omega),List.getElem?_append_left hj]
theorem add_zero (a:Addr):a.add 0=a:=by unfold Addr.add;simp
theorem t49:tiOf Tryz.prog 56=some (2,some (.agg #[vi 0,vi 0]),16):=by kernel_rfl
theorem Read_ok {bv:Value}{b:Bk}{n xl xh:Int}(hb:BkAt H bv b)(hg:Zbh H)(hl:b.pts.length<=1000000)(hl2:b.cks.length<=1000000) :
  LL.Zag P 43 #[bv,vi n,.agg #[vi xl,vi xh]] H fun v H'=>Inc H H'∧BkS H' v (ZfP b n xl xh) (rdBk b n.toNat (max (ptAt b n.toNat).ml xl) (min (ptAt b n.toNat).mh xh)):=by
 have hs:=Loud.loud (P:=P)
 have hb0:=hb
 obtain⟨pv,cv,rfl,hp,hc⟩:=hb
 refine IsN.m (isn c44) (args:=[.agg #[vi b.op,vi b.sl,pv,cv],vi n,.agg #[vi xl,vi xh]]) rfl ?_
 unfold n44
 obtain⟨Ap,cp,rfl,hp'⟩:=id hp
 obtain⟨Ac,cc,rfl,hc'⟩:=id hc
 refine wkT ?_
 refine Zab (vs:=[.agg #[vi b.op,vi b.sl,.slice Ap b.pts.length cp,.slice Ac b.cks.length cc]]) rfl (ZaJ hb0 hg hl hl2 (hs _)) ?_
 rintro v _ ⟨rfl,rfl⟩
 refine wkT ?_
 refine wiT (fun h1=>?_) (fun h1=>?_)
 ·refine wkT ?_
  exact⟨.refl _,by rw[ZfP,if_pos h1];exact Zef h1⟩
 ·refine wkT ?_
  refine Zab (vs:=[.agg #[vi b.op,vi b.sl,.slice Ap b.pts.length cp,.slice Ac b.cks.length cc],vi n]) rfl (ZeM hb0 n hl (hs _)) ?_
  rintro v _ ⟨rfl,rfl⟩
  refine wkT ?_
  refine wiT (fun h2=>?_) (fun h2=>?_)
  ·refine wkT ?_
   exact⟨.refl _,by rw[ZfP,if_neg (by simpa using h1),if_pos h2];exact Zef (by decide)⟩
  ·refine wkT ?_
   refine Zab (vs:=[.agg #[vi xl,vi xh],vi 0,vi 99]) rfl (Zfj _ _ _ _ (hs _)) ?_
   rintro v _ ⟨rfl,rfl⟩
   refine wkT ?_
   refine wiT (fun h3=>?_) (fun h3=>?_)
   ·refine wkT ?_
    exact⟨.refl _,by rw[ZfP,if_neg (by simpa using h1),if_neg (by simpa using h2),if_pos h3];exact Zef (by decide)⟩
   ·obtain⟨i,rfl⟩:∃ i:Nat,n=i:=⟨n.toNat,by omega⟩
    have hi:i<b.pts.length:=by omega
    have ept:ptAt b i=b.pts[i]:=Zbc hi _
    have e2:¬ ¬ (0<=(i:Int)∧(i:Int)<b.pts.length):=by simpa using h2
    have e3:¬ ¬ (0<=xl∧xl<=xh∧xh<=99):=by simpa using h3
    have e1:¬ snag b≠0:=by simpa using h1
    have hrd:ZfP b i xl xh=if min b.pts[i].mh xh<max b.pts[i].ml xl then 9 else ZdJ (rdBk b i (max b.pts[i].ml xl) (min b.pts[i].mh xh)):=by
     rw[ZfP,if_neg e1,if_neg e2,if_neg e3,Int.toNat_natCast,ept]
    rw[hrd,Int.toNat_natCast,ept]
    refine wkT ?_
    refine ZaE hp rfl rfl rfl (i:=i) hi fun a ha=>?_
    refine wkT ?_
    refine Zao (cs:=[vi b.pts[i].ml,vi b.pts[i].mh]) (hs _) rfl (by rw[add_zero];exact ZbK (ds:=[vi b.pts[i].bl,vi b.pts[i].bh,vi b.pts[i].w]) ha) rfl ?_
    refine wkT ?_
    refine om_max rfl rfl ?_
    refine wkT ?_
    refine om_min rfl rfl ?_
    refine wkT ?_
    refine wiT (fun h4=>?_) (fun h4=>?_)
    ·refine wkT ?_
     exact⟨.refl _,by rw[if_pos h4];exact Zef (by decide)⟩
    ·refine wkT ?_
     refine Zab (vs:=[.slice Ap b.pts.length cp]) rfl (Zgp hp hl (hs _)) ?_
     rintro v H2 ⟨hi2,h⟩
     obtain⟨b2,o2⟩:=Zj2 h
     obtain⟨q0,⟨q1,q2,q3⟩ | ⟨r,cap,rest,rfl,rfl,q3,q4,q5⟩⟩:=o2.own
     ·omega
     have hr0:=o2.fresh r rfl
     refine wkT ?_
     refine ZcV rfl rfl hi ?_
     refine wkT ?_
     have hadd:((⟨r,0,none⟩:Addr).add (i * 5)).add 0=⟨r,i * 5,none⟩:=by rw[add_zero,ZdC rfl,Nat.zero_add]
     rw[hadd]
     have hll:(encs b.pts).length=b.pts.length * 5:=Zck b.pts
     refine Zd5 (v:=.agg #[vi (max b.pts[i].ml xl),vi (min b.pts[i].mh xh)]) (cs:=encs b.pts++rest) (tif t49) rfl rfl q3 rfl (by rw[List.length_append,hll];omega) rfl (hs _) ?_
     have hsp:=Zia (max b.pts[i].ml xl) (min b.pts[i].mh xh) b.pts i hi rest
     rw[Zbc hi]at hsp
     have e5:ZaM (encs b.pts++rest) (i * 5) (Value.cells (.agg #[vi (max b.pts[i].ml xl),vi (min b.pts[i].mh xh)])).toList=encs (rdBk b i (max b.pts[i].ml xl) (min b.pts[i].mh xh)).pts++rest:=by
      rw[rdBk,ept];exact hsp
     rw[e5]
     have hlen:(rdBk b i (max b.pts[i].ml xl) (min b.pts[i].mh xh)).pts.length=b.pts.length:=by simp[rdBk]
     have hi3:Inc H (H2.ins r (.cells (encs (rdBk b i (max b.pts[i].ml xl) (min b.pts[i].mh xh)).pts++rest).toArray 110)):=Za6 hi2.inc hr0
     have hsl:SlAt (H2.ins r (.cells (encs (rdBk b i (max b.pts[i].ml xl) (min b.pts[i].mh xh)).pts++rest).toArray 110)) (.slice (some ⟨r,0,none⟩) b.pts.length cap) (rdBk b i (max b.pts[i].ml xl) (min b.pts[i].mh xh)).pts:=
      ⟨_,cap,by rw[hlen],fun _=>⟨_,rfl,ZbK Zar⟩⟩
     have hcs:(rdBk b i (max b.pts[i].ml xl) (min b.pts[i].mh xh)).cks=b.cks:=rfl
     have hop:(rdBk b i (max b.pts[i].ml xl) (min b.pts[i].mh xh)).op=b.op:=rfl
     have hslp:(rdBk b i (max b.pts[i].ml xl) (min b.pts[i].mh xh)).sl=b.sl:=rfl
     generalize rdBk b i (max b.pts[i].ml xl) (min b.pts[i].mh xh)=b' at *
     generalize H2.ins r (.cells (encs b'.pts++rest).toArray 110)=H3 at *
     refine wkT ?_
     refine Zab (vs:=[.agg #[vi b.op,vi b.sl,.slice (some ⟨r,0,none⟩) b.pts.length cap,.slice Ac b.cks.length cc]]) rfl (Zgj (b:=b') ⟨_,_,by rw[hop,hslp],hsl,by rw[hcs];exact hc.inc hi3⟩ (CellsAt.inc hg hi3) (by omega) (by rw[hcs];exact hl2)) ?_
     rintro v H5 ⟨hi5,w,rfl,hw⟩
     obtain⟨_,_,rfl,⟨_,_,rfl,_⟩,⟨_,_,rfl,_⟩⟩:=id hw
     refine wkT ?_
     refine⟨hi3.trans hi5,?_⟩
     rw[if_neg h4]
     exact⟨_,rfl,hw⟩
end
def cmpI (a b:Int):Int:=if a<b then -1 else if b<a then 1 else 0
def cmpL:List Int->List Int->Int
 | [],[]=>0
 | [],_ :: _=>-1
 | _ :: _,[]=>1
 | x :: a,y :: b=>if cmpI x y≠0 then cmpI x y else cmpL a b
def fewF (a b:List Int):Bool:=decide (a.length<b.length) || (decide (a.length=b.length) && decide (cmpL a b<0))
section
variable  {P:Prg}[Tz P][Loud P]{H:Hp}
set_option maxHeartbeats 1000000
theorem cmp_ok (m n:Int):LL.Zag P 215 #[vi m,vi n] H fun v H'=>H=H'∧v=vi (cmpI m n):=by
 refine IsN.m (isn c199) (args:=[vi m,vi n]) rfl ?_
 unfold n199
 refine wkT ?_
 refine Zab (vs:=[vi m]) rfl (ZhS m) ?_
 rintro v _ ⟨rfl,rfl⟩
 refine wkT ?_
 refine Zab (vs:=[vi n]) rfl (ZhS n) ?_
 rintro v _ ⟨rfl,rfl⟩
 refine wkT ?_
 refine wiT (fun h1=>?_) (fun h1=>?_)
 ·refine wkT ?_
  exact⟨rfl,by rw[cmpI,if_pos h1];rfl⟩
 ·refine wkT ?_
  refine wiT (fun h2=>?_) (fun h2=>?_)
  ·refine wkT ?_
   exact⟨rfl,by rw[cmpI,if_neg h1,if_pos h2];rfl⟩
  ·refine wkT ?_
   exact⟨rfl,by rw[cmpI,if_neg h1,if_neg h2];rfl⟩
theorem Zlt {u w:Value}{a b:List Int}(ha:SlAt H u a)(hb:SlAt H w b)(hl:a.length<=1000000)(hl2:b.length<=1000000)(hst:P.still H.gh=false):LL.Zag P 175 #[u,w] H fun v H'=>H=H'∧v=vi (cmpL a b):=by
 refine IsN.m (isn c171) (args:=[u,w]) rfl ?_
 unfold n171
 refine wkT ?_
 refine Zau ha rfl ?_
 refine wkT ?_
 refine ZaW a.length (fun j H'=>H=H'∧j<=b.length∧cmpL a b=cmpL (a.drop j) (b.drop j)) (fun j=>[(0,u),(1,w),(9,u),(10,vi a.length),(11,vi j)]) (fun _=>[]) ⟨rfl,Nat.zero_le _,rfl⟩ ⟨rfl,rfl,rfl,rfl,rfl,trivial⟩ trivial ?_
 rintro j _ hj ⟨rfl,hjb,hall⟩
 refine wkT ?_
 refine wiT (fun h1=>?_) (fun h1=>?_)
 ·have hj':j<a.length:=by omega
  rw[ZcG hj']at hall
  refine wkT ?_
  refine ZaE ha rfl rfl rfl (i:=j) hj' fun p hp=>?_
  refine wkT ?_
  refine Zaf hst rfl hp ?_
  refine wkT ?_
  refine Zau hb rfl ?_
  refine wkT ?_
  refine wiT (fun h2=>?_) (fun h2=>?_)
  ·refine wkT ?_
   have:b.drop j=[]:=List.drop_eq_nil_of_le (by omega)
   rw[this]at hall
   exact⟨rfl,by rw[hall];rfl⟩
  ·have hj2:j<b.length:=by omega
   rw[ZcG hj2,cmpL]at hall
   refine wkT ?_
   refine ZaE hb rfl rfl rfl (i:=j) hj2 fun q hq=>?_
   refine wkT ?_
   refine Zaf hst rfl hq ?_
   refine wkT ?_
   refine Zab (vs:=[vi a[j],vi b[j]]) rfl (cmp_ok _ _) ?_
   rintro v _ ⟨rfl,rfl⟩
   refine wkT ?_
   refine wiT (fun h3=>?_) (fun h3=>?_)
   ·refine wkT ?_
    rw[if_pos h3]at hall
    exact⟨rfl,by rw[hall];rfl⟩
   ·refine wkT ?_
    rw[if_neg (by simpa using h3)]at hall
    exact⟨⟨j+1,by omega⟩,slt (by omega),⟨rfl,hj2,hall⟩,⟨rfl,rfl,rfl,rfl,rfl,trivial⟩,trivial,rfl⟩
 ·have:j=a.length:=by omega
  subst this
  rw[List.drop_length]at hall
  refine wkT ?_
  refine Zau ha rfl ?_
  refine wkT ?_
  refine Zau hb rfl ?_
  refine wkT ?_
  refine wiT (fun h2=>?_) (fun h2=>?_)
  ·refine wkT ?_
   rw[ZcG (l:=b) (j:=a.length) (by omega)]at hall
   exact⟨rfl,by rw[hall];rfl⟩
  ·refine wkT ?_
   rw[List.drop_eq_nil_of_le (by omega)]at hall
   exact⟨rfl,by rw[hall];rfl⟩
theorem fewer_ok {u w:Value}{a b:List Int}(ha:SlAt H u a)(hb:SlAt H w b)(hl:a.length<=1000000)(hl2:b.length<=1000000)(hst:P.still H.gh=false):LL.Zag P 118 #[u,w] H fun v H'=>H=H'∧v=vb (fewF a b):=by
 refine IsN.m (isn c122) (args:=[u,w]) rfl ?_
 unfold n122
 refine wkT ?_
 refine Zau ha rfl ?_
 refine wkT ?_
 refine Zau hb rfl ?_
 refine wkT ?_
 refine wiT (fun h1=>?_) (fun h1=>?_)
 ·refine wkT ?_
  exact⟨rfl,by rw[fewF,decide_eq_true (show a.length<b.length by omega)];rfl⟩
 ·have h1':¬ a.length<b.length:=by omega
  refine wkT ?_
  refine Zau ha rfl ?_
  refine wkT ?_
  refine Zau hb rfl ?_
  refine wkT ?_
  refine wiT (fun h2=>?_) (fun h2=>?_)
  ·refine wkT ?_
   refine Zab (vs:=[u,w]) rfl (Zlt ha hb hl hl2 hst) ?_
   rintro v _ ⟨rfl,rfl⟩
   refine wkT ?_
   exact⟨rfl,by rw[fewF,decide_eq_false h1',decide_eq_true (show a.length=b.length by omega)];rfl⟩
  ·refine wkT ?_
   exact⟨rfl,by rw[fewF,decide_eq_false h1',decide_eq_false (show ¬ a.length=b.length by omega)];rfl⟩
structure LLAt (H:Hp)(vs:List Value)(ls:List (List Int)):Prop where
 len:vs.length=ls.length
 at_:∀ i (h:i<vs.length) (h':i<ls.length),SlAt H vs[i] ls[i]
theorem LLAt.nil (H:Hp):LLAt H [] []:=⟨rfl,fun i h=>by simp at h⟩
theorem LLAt.inc {H H':Hp}{vs:List Value}{ls:List (List Int)}(h:LLAt H vs ls)(hi:Inc H H'):LLAt H' vs ls:=⟨h.len,fun i a b=>(h.at_ i a b).inc hi⟩
theorem LLAt.snoc {H:Hp}{vs:List Value}{ls:List (List Int)}{v:Value}{l:List Int}(h:LLAt H vs ls)(hv:SlAt H v l):LLAt H (vs++[v]) (ls++[l]):=by
 refine⟨by simp[h.len],fun i a b=>?_⟩
 have:=h.len
 by_cases hi:i<vs.length
 ·rw[List.getElem_append_left hi,List.getElem_append_left (by omega)];exact h.at_ i hi (by omega)
 ·simp only[List.length_append,List.length_singleton]at a
  have e:i=vs.length:=by omega
  subst e
  rw[List.getElem_append_right (Nat.le_refl _),List.getElem_append_right (by omega)]
  simp[this]
  exact hv
theorem LLAt.drop {H:Hp}{vs:List Value}{ls:List (List Int)}(h:LLAt H vs ls)(n:Nat):LLAt H (vs.drop n) (ls.drop n):=by
 refine⟨by simp[h.len],fun i a b=>?_⟩
 rw[List.getElem_drop,List.getElem_drop]
 exact h.at_ _ _ _
theorem bestL_ok {f:Value}{v:Value}{fl:List Int}{vs:List Value}{ls:List (List Int)}(hf:SlAt H f fl)(hw:SlAt H v vs)(hls:LLAt H vs ls)(hl:vs.length<=1000000)(h1:fl.length<=1000000)(h2:∀ l∈ls,l.length<=1000000)(hst:P.still H.gh=false) :
  LL.Zag P 117 #[vf 118,f,v] H fun v H'=>H=H'∧SlAt H v (Zbq fewF fl ls):=by
 have hle:=hls.len
 have hbl:∀ j,j<=ls.length->(Zbq fewF fl (ls.take j)).length<=1000000:=by
  intro j
  induction j with
  | zero=>intro _;exact h1
  | succ j ih=>
   intro hj
   rw[ZdB _ _ hj]
   split
   ·exact h2 _ (List.getElem_mem _)
   ·exact ih (by omega)
 refine IsN.m (isn c121) (args:=[vf 118,f,v]) rfl ?_
 unfold n121
 refine wkT ?_
 refine Zau hw rfl ?_
 refine wkT ?_
 refine ZaO (α:=Value) vs.length (fun j w H'=>H=H'∧SlAt H w (Zbq fewF fl (ls.take j))) (fun j w=>[(0,vf 118),(1,w),(9,v),(10,vi vs.length),(11,vi j)]) (fun _ _=>[]) f ⟨rfl,hf⟩ ⟨rfl,rfl,rfl,rfl,rfl,trivial⟩ trivial ?_
 rintro j w _ hj ⟨rfl,hw1⟩
 refine wkT ?_
 refine wiT (fun h3=>?_) (fun h3=>?_)
 ·have hj':j<vs.length:=by omega
  have hb:=ZdB fewF fl (l:=ls) (j:=j) (by omega)
  refine wkT ?_
  refine ZaE hw rfl rfl rfl (i:=j) hj' fun a ha=>?_
  refine wkT ?_
  refine Zaf hst rfl ha ?_
  refine wkT ?_
  refine ZaP (vs:=[vs[j],w]) rfl rfl (ZcY (by kernel_rfl) (fewer_ok (hls.at_ j hj' (by omega)) hw1 (h2 _ (List.getElem_mem _)) (hbl j (by omega)) hst)) ?_
  rintro v _ ⟨rfl,rfl⟩
  refine wkT ?_
  refine wiT (fun h4=>?_) (fun h4=>?_)
  ·refine wkT ?_
   rw[if_pos h4]at hb
   exact⟨(⟨j+1,by omega⟩,vs[j]),slt (by omega),⟨rfl,by rw[hb];exact hls.at_ j hj' (by omega)⟩,⟨rfl,rfl,rfl,rfl,rfl,trivial⟩,trivial,rfl⟩
  ·refine wkT ?_
   rw[if_neg (by simp[h4])]at hb
   exact⟨(⟨j+1,by omega⟩,w),slt (by omega),⟨rfl,by rw[hb];exact hw1⟩,⟨rfl,rfl,rfl,rfl,rfl,trivial⟩,trivial,rfl⟩
 ·have:j=vs.length:=by omega
  subst this
  refine wkT ?_
  rw[List.take_of_length_le (by omega)]at hw1
  exact⟨rfl,hw1⟩
end
def esFrom {α:Type}(kv:α->Value):Nat->List (α×Int)->List MapEntry
 | _,[]=>[]
 | b,(k,v) :: r=>⟨kv k,vi v,b⟩ :: esFrom kv (b+1) r
def mapO {α:Type}(kv:α->Value)(m:List (α×Int)):Obj:=.map (esFrom kv 0 m).toArray m.length
def Zcc {α:Type}[DecidableEq α]:List (α×Int)->α->Nat->Option (Nat×Value)
 | [],_,_=>none
 | (k,v) :: r,a,i=>if a=k then some (i,vi v) else Zcc r a (i+1)
def getM {α:Type}[DecidableEq α]:List (α×Int)->α->Int
 | [],_=>0
 | (k,v) :: r,a=>if a=k then v else getM r a
def putM {α:Type}[DecidableEq α]:List (α×Int)->α->Int->List (α×Int)
 | [],a,w=>[(a,w)]
 | (k,v) :: r,a,w=>if a=k then (k,w) :: r else (k,v) :: putM r a w
section
variable  {α:Type}[DecidableEq α]{kv:α->Value}
theorem Zju:∀ (b:Nat) (m:List (α×Int)) (a:α) (w:Int),esFrom kv b (m++[(a,w)])=esFrom kv b m++[⟨kv a,vi w,b+m.length⟩]
 | b,[],a,w=>by simp[esFrom]
 | b,(k,v) :: r,a,w=>by
  simp only[List.cons_append,esFrom,Zju (b+1) r a w,List.length_cons]
  congr 4;omega
theorem Zkt:∀ (m:List (α×Int)) (a:α) (i:Nat),(match Zcc m a i with | some (_,v)=>v | none=>vi 0)=vi (getM m a)
 | [],a,i=>rfl
 | (k,v) :: r,a,i=>by
  simp only[Zcc,getM]
  by_cases h:a=k
  ·rw[if_pos h,if_pos h]
  ·rw[if_neg h,if_neg h];exact Zkt r a (i+1)
theorem Zgb:∀ (m:List (α×Int)) (a:α) (b i j:Nat) (v:Value) (w:Int),Zcc m a i=some (j,v) ->
  i<=j∧∃ e,(esFrom kv b m)[j-i]? = some e∧e.key=kv a∧v=vi (getM m a)∧e.born=b+(j-i)∧(esFrom kv b m).modify (j-i) (fun e=>{ e with key:=kv a,val:=vi w })=esFrom kv b (putM m a w)∧(putM m a w).length=m.length
 | [],a,b,i,j,v,w,h=>by simp[Zcc]at h
 | (k,u) :: r,a,b,i,j,v,w,h=>by
  rw[Zcc]at h
  by_cases hk:a=k
  ·subst hk
   rw[if_pos rfl]at h
   simp only[Option.some.injEq,Prod.mk.injEq]at h
   obtain⟨rfl,rfl⟩:=h
   refine⟨Nat.le_refl _,_,by rw[Nat.sub_self,esFrom,List.getElem?_cons_zero],rfl,by rw[getM,if_pos rfl],by simp,?_,by rw[putM,if_pos rfl];rfl⟩
   rw[Nat.sub_self,putM,if_pos rfl,esFrom,esFrom];rfl
  ·rw[if_neg hk]at h
   obtain⟨h1,e,h2,h3,h4,h5,h6,h7⟩:=Zgb r a (b+1) (i+1) j v w h
   have e1:j-i=(j-(i+1))+1:=by omega
   refine⟨by omega,e,?_,h3,by rw[getM,if_neg hk];exact h4,by omega,?_,by rw[putM,if_neg hk,List.length_cons,List.length_cons,h7]⟩
   ·rw[e1,esFrom,List.getElem?_cons_succ];exact h2
   ·rw[e1,putM,if_neg hk,esFrom,esFrom,<-h6];rfl
theorem Zgc:∀ (m:List (α×Int)) (a:α) (i:Nat) (w:Int),Zcc m a i=none->putM m a w=m++[(a,w)]∧getM m a=0
 | [],a,i,w,h=>⟨rfl,rfl⟩
 | (k,u) :: r,a,i,w,h=>by
  rw[Zcc]at h
  split at h
  ·simp at h
  ·rename_i hk
   obtain⟨h1,h2⟩:=Zgc r a (i+1) w h
   exact⟨by rw[putM,if_neg hk,h1];rfl,by rw[getM,if_neg hk];exact h2⟩
end
structure KeyT {α:Type}[DecidableEq α](P:PQ)(T:TypeId)(kv:α->Value):Prop where
 chk:∀ (b:Bool) (a:α) {Q:Unit->Bool->Hp->Prop} {g:Bool} {H:Hp},Q () g H->wpL P (Instr.checkKey b 10000 T (kv a)) Q g H
 fnd:∀ (m:List (α×Int)) (a:α) {Q:Option (Nat×Value)->Bool->Hp->Prop} {g:Bool} {H:Hp},Q (Zcc m a 0) g H->wpL P (Instr.findKey T (kv a) (esFrom kv 0 m)) Q g H
 same:∀ a:α,Instr.sameBits 10000 (kv a) (kv a)=true
section
variable  {P:Prg}{d:Option Nat}{next:NSt->Hp->Prop}{σ:NSt}{H:Hp}{x y z:Operand}{v:Value}{ty:TypeId}{α:Type}[DecidableEq α]{kv:α->Value}{T K E:TypeId}
theorem ZgU (hst:P.still H.gh=false)(h:∀ r,H r=none->next (σ.set d (.map (some r))) (H.ins r (mapO kv []))):(NOp.raw (.makeMap T none) ty).m P d next σ H:=by
 refine Zbe (by simp[Op.operands]) (s:=Instr.makeMap T none) (by simp[execOp,bare]) ?_
 simp only[Instr.makeMap,newObj,Zaa,Zac]
 exact⟨hst,fun r hr=>h r hr⟩
theorem Zd6 {m:List (α×Int)}{a:α}{r:Nat}{pm:Bool}{by_:Nat}(hu:P.toProgram.underlying T=some (.map K E))(hk:KeyT P.toPQ K kv)(ti:TI P.toProgram E 1 (vi 0) by_)(e1:σ.get x=some (.map (some r)))(e2:σ.get y=some (kv a))(hr:H r=some (mapO kv m,pm))(hst:P.still H.gh=false)
  (h:next (σ.set d (vi (getM m a))) H):(NOp.raw (.lookup T x y false) ty).m P d next σ H:=by
 obtain⟨inf,i1,i2,i3,i4⟩:=ti.ex
 refine Zbe (by simp[Op.operands,e1,e2]) (s:=Instr.lookup T (.map (some r)) (kv a) false) (by simp[execOp,bare,e1,e2]) ?_
 simp only[Instr.lookup,Zaa,Zad hu]
 refine⟨_,_,⟨hst,hr⟩,rfl,rfl,?_⟩
 rw[mapO,wpL]
 simp only[Zaa,Zac]
 refine hk.chk _ _ ?_
 refine hk.fnd m a ?_
 have:=Zkt m a 0
 cases hf:Zcc m a 0 with
 | none=>
  rw[hf]at this
  simp only at this ⊢
  simp only[Zaa,Zb0 i1 i3,Zac,Bool.false_eq_true,if_false]
  rw[this];exact h
 | some p=>
  rw[hf]at this
  simp only at this ⊢
  simp only[Zaa,Zac,Bool.false_eq_true,if_false]
  rw[this];exact h
theorem mapUpd_w {m:List (α×Int)}{a:α}{r:Nat}{w:Int}(hu:P.toProgram.underlying T=some (.map K E))(hk:KeyT P.toPQ K kv)(hr:H r=some (mapO kv m,true))(hst:P.still H.gh=false){Q:Unit->Bool->Hp->Prop}{g:Bool}(h:Q () g (H.ins r (mapO kv (putM m a w)))) :
  wpL P.toPQ (Instr.mapUpdate T (.map (some r)) (kv a) (vi w)) Q g H:=by
 simp only[Instr.mapUpdate,Zaa,Zad hu]
 refine⟨_,_,⟨hst,hr⟩,rfl,rfl,?_⟩
 rw[mapO,wpL]
 simp only[Zaa,Zac]
 refine hk.chk _ _ ?_
 refine hk.fnd m a ?_
 cases hf:Zcc m a 0 with
 | none=>
  obtain⟨h1,h2⟩:=Zgc m a 0 w hf
  simp only
  refine⟨_,⟨hst,hr⟩,rfl,rfl,rfl,?_⟩
  have:Obj.map ((esFrom kv 0 m).toArray.push { key:=kv a,val:=vi w,born:=m.length }) (m.length+1)=mapO kv (putM m a w):=by
   rw[h1,mapO,Zju,Nat.zero_add]
   simp
  rw[this];exact h
 | some p=>
  obtain⟨j,u⟩:=p
  obtain⟨h1,e,h2,h3,h4,h5,h6,h7⟩:=Zgb (kv:=kv) m a 0 0 j u w hf
  rw[Nat.sub_zero]at h2 h6
  simp only[List.getElem?_toArray,h2,Option.map_some,Option.getD_some,Instr.keyThatStays,Zaa,h3,hk.same,if_true,Zac]
  refine⟨_,⟨hst,hr⟩,rfl,rfl,rfl,?_⟩
  have:Obj.map ((esFrom kv 0 m).toArray.modify j fun e=>{ e with key:=kv a,val:=vi w }) m.length=mapO kv (putM m a w):=by
   rw[mapO,h7,<-h6]
   simp
  rw[this];exact h
theorem Zl5 {m:List (α×Int)}{a:α}{r:Nat}{w:Int}(hu:P.toProgram.underlying T=some (.map K E))(hk:KeyT P.toPQ K kv)(e1:σ.get x=some (.map (some r)))(e2:σ.get y=some (kv a))(e3:σ.get z=some (vi w))(hr:H r=some (mapO kv m,true))(hst:P.still H.gh=false)
  (h:next (σ.set d undef) (H.ins r (mapO kv (putM m a w)))):(NOp.raw (.mapUpdate T x y z) ty).m P d next σ H:=by
 refine Zje (by simp[Op.operands,e1,e2,e3]) (s:=Instr.mapUpdate T (.map (some r)) (kv a) (vi w)) (by simp[execOp,bare,e1,e2,e3]) ?_
 exact mapUpd_w hu hk hr hst h
end
theorem Zgd {k:Int}:∀ (m:List (Int×Int)) (b i:Nat),Instr.findNow (.int .i64) (vi k) (esFrom vi b m) i=some (Zcc m k i)
 | [],b,i=>rfl
 | (k',v) :: r,b,i=>by
  simp only[esFrom,Instr.findNow,Instr.sameNow,if_true,Zcc]
  by_cases h:k=k'
  ·subst h;simp
  ·rw[if_neg h,show (k == k')=false by simpa using h]
   exact Zgd r (b+1) (i+1)
theorem Zmv {P:PQ}{T:TypeId}(hu:P.toProgram.underlying T=some (.int .i64)):KeyT (α:=Int) P T vi where
 chk:=fun b a Q g H h=>by
  rw[show (10000:Nat)=9999+1 from rfl,Instr.checkKey]
  simp only[Zaa,Zad hu,Zac]
  exact h
 fnd:=fun m a Q g H h=>by
  simp only[Instr.findKey,Zaa,Zad hu,Zgd,Zac]
  exact h
 same:=fun a=>by simp[Instr.sameBits]
end Go.Proofs
end
