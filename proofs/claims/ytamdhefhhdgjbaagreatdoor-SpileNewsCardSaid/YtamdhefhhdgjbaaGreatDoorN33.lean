import Derived.Test.YtamdhefhhdgjbaaGreatDoorN32
set_option linter.all false
section
open Go Go.LL
namespace Go.Proofs
def cmpP (l:List Int):Nat->List Int
 | 0=>[]
 | n+1=>if n≠0∧el l n=el l (n-1) then cmpP l n else cmpP l n++[el l n]
def cmpF (l:List Int):List Int:=cmpP l l.length
theorem cmp_eq {l:List Int}{n:Nat}(h0:n≠0)(h:el l n=el l (n-1)):cmpP l (n+1)=cmpP l n:=by rw[cmpP,if_pos ⟨h0,h⟩]
theorem cmp_ne {l:List Int}{n:Nat}(h:¬ el l n=el l (n-1)):cmpP l (n+1)=cmpP l n++[el l n]:=by rw[cmpP,if_neg (fun h'=>h h'.2)]
theorem cmp_one (l:List Int):cmpP l 1=[el l 0]:=by rw[cmpP,if_neg (by simp)];rfl
theorem Zkg {l:List Int}{n:Nat}(h:n<l.length):l.take (n+1)=l.take n++[el l n]:=by rw[List.take_succ_eq_append_getElem h,ZhY h]
theorem set_take {l:List Int}{n:Nat}(x:Int)(h:n<l.length):(l.set n x).take (n+1)=l.take n++[x]:=by
 rw[Zkg (by simpa using h),ZlN _ _ h,if_pos rfl,List.take_set_of_le (Nat.le_refl n)]
section
variable  {P:Prg}[Tz P][Loud P]{H:Hp}
set_option maxHeartbeats 1000000
theorem Zh4 {H0:Hp}{v:Value}{l:List Int}{bb:Option Nat}(hi:Inc H0 H)(ho:Own H0 H 3 v l bb)(hl:l.length<=1000000) :
  LL.Zai P 94 #[v] H fun w H'=>Inc H0 H'∧∃ bb',Own H0 H' 3 w (cmpF l) bb':=by
 have hs:=Loud.loud (P:=P)
 refine IsN.m (isn c94) (args:=[v]) rfl ?_
 unfold n94
 obtain⟨hlen,⟨rfl,h2,h3⟩ | ⟨r,cap,rest,h1,rfl,h3,h4,h5⟩⟩:=id ho.own
 ·have:l=[]:=List.eq_nil_of_length_eq_zero h2
  subst this
  refine wkT ?_
  exact⟨hi,bb,ho⟩
 ·have hr0:H0 r=none:=ho.fresh r h1
  rw[List.length_append,ZbV]at h4
  have h4':l.length+rest.length=cap * 1:=h4
  refine wkT ?_
  refine wiT (fun g1=>?_) (fun g1=>?_)
  ·refine wkT ?_
   refine⟨hi,bb,?_⟩
   have:cmpF l=l:=by
    match l,g1 with
    | [],_=>rfl
    | [x],_=>rfl
    | x :: y :: t,h=>simp at h;omega
   rw[this]
   exact ho
  ·have g1:2<=l.length:=by omega
   refine wkT ?_
   refine ZaP (l.length-1) (fun j H'=>H=H'∧cmpP l (j+1)=l.take (j+1)) (fun j=>[(0,.slice (some ⟨r,0,none⟩) l.length cap),(3,vi ((j+1:Nat):Int))]) (fun j=>[]) ⟨rfl,by rw[cmp_one,Zkg (by omega)];rfl⟩ ⟨rfl,rfl,trivial⟩ trivial ?_
   rintro j _ hj ⟨rfl,hcj⟩
   have ar0:=AR.of h3
   refine wkT ?_
   refine wiT (fun g2=>?_) (fun g2=>?_)
   ·have g2:j+1<l.length:=by omega
    refine wkT ?_
    refine ZcC rfl rfl g2 ?_
    refine wkT ?_
    refine Zaf (hs _) rfl (ar0.cA g2 rfl) ?_
    refine wkT ?_
    refine Zak j rfl rfl (by omega) (by omega) ?_
    refine wkT ?_
    refine Zaf (hs _) rfl (ar0.cA (by omega) rfl) ?_
    refine wkT ?_
    refine wiT (fun g3=>?_) (fun g3=>?_)
    ·have hcap:¬ cap=j+1:=by omega
     refine wkT ?_
     refine ZbE (lo:=j+1) (und u34) (tif t3) rfl rfl (by omega) ?_
     rw[if_neg hcap]
     have hc2:cmpP l (j+2)=l.take (j+1):=by rw[cmp_eq (by omega) (by simpa using g3),hcj]
     refine wkT ?_
     refine Zax (α:=List Int) (l.length-(j+1)-1) (fun i c H'=>AR H H' r c rest∧c.length=l.length∧c.take (cmpP l (j+1+i+1)).length=cmpP l (j+1+i+1)∧(∀ x,j+1+i<=x->el c x=el l x)∧(cmpP l (j+1+i+1)).length<=j+1+i∧1<=(cmpP l (j+1+i+1)).length)
      (fun i c=>[(0,.slice (some ⟨r,0,none⟩) l.length cap),(3,vi ((cmpP l (j+1+i+1)).length:Nat)),(4,.slice (some ((⟨r,0,none⟩:Addr).add ((j+1) * 1))) (l.length-(j+1)) (cap-(j+1))),(5,vi ((i+1:Nat):Int))]) (fun i c=>[]) l ?_ ⟨rfl,?_,rfl,rfl,trivial⟩ trivial ?_
     ·have e2:(cmpP l (j+1+0+1)).length=j+1:=by rw[show j+1+0+1=j+2 from rfl,hc2,List.length_take];omega
      exact⟨ar0,rfl,by rw[e2];exact hc2.symm,fun _ _=>rfl,by omega,by omega⟩
     ·show some (vi _)=some (vi _)
      rw[show j+1+0+1=j+2 from rfl,hc2,List.length_take,Nat.min_eq_left (by omega)]
     rintro i c H2 hi2 ⟨ar,hcl,hct,hce,hk1,hk2⟩
     generalize hkk:(cmpP l (j+1+i+1)).length=k at *
     have hlen2:l.length-(j+1)<=1000000:=by omega
     refine wkT ?_
     refine wiT (fun g4=>?_) (fun g4=>?_)
     ·have g4:i+1<l.length-(j+1):=by omega
      refine wkT ?_
      refine ZcC rfl rfl g4 ?_
      refine wkT ?_
      refine Zaf (hs _) rfl (ar.cAA (j:=j+1+(i+1)) (by omega) rfl) ?_
      refine wkT ?_
      refine Zak i rfl rfl (by omega) (by omega) ?_
      refine wkT ?_
      refine Zaf (hs _) rfl (ar.cAA (j:=j+1+i) (by omega) rfl) ?_
      rw[hce _ (by omega),hce _ (by omega)]
      refine wkT ?_
      refine wiT (fun g5=>?_) (fun g5=>?_)
      ·refine wkT ?_
       refine ZcC rfl rfl g4 ?_
       refine wkT ?_
       refine Zaf (hs _) rfl (ar.cAA (j:=j+1+(i+1)) (by omega) rfl) ?_
       rw[hce _ (by omega)]
       refine wkT ?_
       refine ZcC rfl rfl (show k<l.length by omega) ?_
       refine wkT ?_
       refine ZaW (j:=k) ar (by omega) (Zbo _ _) rfl rfl fun H3 ar3=>?_
       have em:cmpP l (j+1+(i+1)+1)=cmpP l (j+1+i+1)++[el l (j+1+(i+1))]:=cmp_ne (n:=j+1+(i+1)) g5
       have ek:(cmpP l (j+1+(i+1)+1)).length=k+1:=by rw[em,List.length_append,hkk];rfl
       refine wkT ?_
       refine⟨(⟨i+1,by omega⟩,c.set k (el l (j+1+(i+1)))),slt (by omega),⟨ar3,by simpa using hcl,?_,fun x hx=>?_,by rw[ek];show k+1<=j+1+(i+1);omega,by rw[ek];omega⟩,⟨rfl,?_,rfl,rfl,trivial⟩,trivial,rfl⟩
       ·rw[ek,set_take _ (by omega),hct,em]
       ·have hx:j+1+(i+1)<=x:=hx
        rw[ZlN _ _ (by omega),if_neg (by omega)];exact hce x (by omega)
       ·show _=some (vi ((cmpP l (j+1+(i+1)+1)).length:Nat))
        rw[ek];rfl
      ·have em:cmpP l (j+1+(i+1)+1)=cmpP l (j+1+i+1):=cmp_eq (n:=j+1+(i+1)) (by omega) g5
       refine wkT ?_
       refine⟨(⟨i+1,by omega⟩,c),slt (by omega),⟨ar,hcl,?_,fun x hx=>hce x (by have hx:j+1+(i+1)<=x:=hx;omega),by rw[em,hkk];show k<=j+1+(i+1);omega,by rw[em,hkk];omega⟩,⟨rfl,?_,rfl,rfl,trivial⟩,trivial,rfl⟩
       ·rw[em,hkk,hct]
       ·show _=some (vi ((cmpP l (j+1+(i+1)+1)).length:Nat))
        rw[em,hkk];rfl
     ·have hm:j+1+i+1=l.length:=by omega
      rw[hm]at hct hkk
      refine wkT ?_
      refine ZbE (lo:=k) (und u34) (tif t3) rfl rfl (by omega) ?_
      rw[if_neg (by omega)]
      refine wkT ?_
      refine om_clear ar (by omega) (Zbo _ _) (by rw[hcl]) rfl fun H3 ar3=>?_
      refine wkT ?_
      refine Zmj (k:=.i64) (lo:=0) (hi:=k) (und u34) (tif t3) rfl (.inl ⟨rfl,rfl⟩) ⟨_,rfl,rfl⟩ (Nat.zero_le _) (by omega) ?_
      refine wkT ?_
      have hz:¬ cap=0:=by omega
      refine⟨(ar3.inc hi hr0),some r,⟨⟨?_,.inr ⟨r,cap,List.replicate (c.length-k) (vi 0)++rest,rfl,?_,?_,?_,?_⟩⟩,fun r' e=>by obtain rfl:=Option.some.inj e;exact hr0⟩⟩
      ·rw[ZbV];show _=(cmpF l).length * 1;omega
      ·rw[if_neg hz]
       show Value.slice (some ((⟨r,0,none⟩:Addr).add (0 * 1))) (k-0) (cap-0)=_
       rw[Zbo,Nat.sub_zero,Nat.sub_zero,<-hkk];rfl
      ·have h:=ar3.at_
       rw[hct,Zcu,show encs (List.replicate (c.length-k) (0:Int))=List.replicate (c.length-k) (vi 0) by rw[ZbK,List.map_replicate],List.append_assoc]at h
       exact h
      ·rw[List.length_append,List.length_append,ZbV,List.length_replicate,hcl]
       show (cmpP l l.length).length+_=cap * 1
       rw[hkk];omega
      ·show (cmpP l l.length).length<=cap
       omega
    ·refine wkT ?_
     refine⟨⟨j+1,by omega⟩,slt (by omega),⟨rfl,?_⟩,⟨rfl,rfl,trivial⟩,trivial,rfl⟩
     rw[cmp_ne (by simpa using g3),hcj,Zkg g2]
   ·have:j+1=l.length:=by omega
    refine wkT ?_
    refine⟨hi,bb,?_⟩
    have:cmpF l=l:=by rw[cmpF,<-this,hcj,this,List.take_length]
    rw[this]
    exact ho
end
def whenL (b:Bk):List Int:=cmpF ((Zk6 b).map (·.bf))
section
variable  {P:Prg}[Tz P][Loud P]{H:Hp}
set_option maxHeartbeats 1000000
theorem When_ok {bv:Value}{b:Bk}(hb:BkAt H bv b)(hg:Zba H)(hl:b.pts.length<=1000000)(hl2:b.cks.length<=1000000) :
  LL.Zai P 23 #[bv] H fun v H'=>Inc H H'∧∃ w bb,v=.tuple #[w,vi (Zag b true)]∧Own H H' 3 w (if Zag b true=0 then whenL b else []) bb:=by
 have hs:=Loud.loud (P:=P)
 have hb0:=hb
 obtain⟨pv,cv,rfl,hp,hc⟩:=hb
 refine IsN.m (isn c23) (args:=[.agg #[vi b.op,vi b.sl,pv,cv]]) rfl ?_
 unfold n23
 refine wkT ?_
 refine Zab (vs:=[.agg #[vi b.op,vi b.sl,pv,cv]]) rfl (ZlS hb0 hg hl hl2) ?_
 rintro v H1 ⟨hi1,hv⟩
 obtain⟨w,L,rfl,hw,hLl,hL⟩:∃ (w:Value) (L:List Slip),v=.tuple #[w,vi (Zag b true)]∧SlAt H1 w L∧L.length<=1000∧cmpF (L.map (·.bf))=(if Zag b true=0 then whenL b else []):=by
  rcases hv with ⟨hz,rfl⟩ | ⟨hz,w,bb,rfl,ow⟩
  ·exact⟨_,([]:List Slip),rfl,.nil _,by simp,by rw[if_neg hz];rfl⟩
  ·refine⟨w,Zk6 b,by rw[hz],ow.sl,?_,by rw[if_pos hz];rfl⟩
   have:=Zeq (ZaH (Ziw hz).1)
   exact Nat.le_trans (List.length_filter_le _ _) (by omega)
 rw[<-hL]
 clear hL hv
 have hw0:=hw
 obtain⟨Aw,cw,rfl,_⟩:=hw
 refine wkT ?_
 refine Zax (α:=Value×Option Nat) L.length (fun j s H'=>Inc H H'∧Inc H1 H'∧Own H1 H' 3 s.1 ((L.take j).map (·.bf)) s.2) (fun j s=>[(5,vi (Zag b true)),(6,s.1),(14,.slice Aw L.length cw),(15,vi L.length),(16,vi j)]) (fun j s=>[]) (.slice none 0 0,none) ⟨hi1,.refl H1,.nil H1 H1 3⟩ ⟨rfl,rfl,rfl,rfl,rfl,trivial⟩ trivial ?_
 rintro j ⟨v6,b6⟩ H2 hj ⟨hs1,hs2,o6⟩
 simp only at o6
 refine wkT ?_
 refine wiT (fun h1=>?_) (fun h1=>?_)
 ·have hj':j<L.length:=by omega
  refine wkT ?_
  refine Zar (hw0.inc hs2) rfl rfl rfl (i:=j) hj' fun a ha=>?_
  refine wkT ?_
  refine Zam (cs:=[vi L[j].bf,vi L[j].by_]) (hs _) rfl ha rfl ?_
  refine wkT ?_
  refine Zao (cs:=[vi L[j].bf]) (hs _) rfl fun r1 hr1=>?_
  refine wkT ?_
  refine ZaR (l':=[L[j].bf]) (und u34) (und u34) (tif t3) rfl (by decide) (hs2.trans (Zah hr1)) (o6.ins hr1) Zc6 rfl (by simp;omega) (by omega) rfl rfl (hs _) fun v6' H4 b6' hs4 o6' c2=>?_
  refine wkT ?_
  refine⟨(⟨j+1,by omega⟩,(v6',b6')),slt (by omega),⟨hi1.trans hs4,hs4,?_⟩,⟨rfl,rfl,rfl,rfl,rfl,trivial⟩,trivial,rfl⟩
  show Own H1 H4 3 v6' ((L.take (j+1)).map (·.bf)) b6'
  rw[List.take_succ_eq_append_getElem hj',List.map_append]
  exact o6'
 ·have:j=L.length:=by omega
  subst this
  rw[List.take_length]at o6
  have o6':Own H H2 3 v6 (L.map (·.bf)) b6:=⟨o6.own,fun r hr=>Zbd hi1 (o6.fresh r hr)⟩
  refine wkT ?_
  refine Zab (vs:=[v6]) rfl (Zh4 hs1 o6' (by simp;omega)) ?_
  rintro v H3 ⟨hi3,bb,ow⟩
  refine wkT ?_
  exact⟨hi3,v,bb,rfl,ow⟩
end
def swp (l:List Int)(i j:Nat):List Int:=(l.set i (el l j)).set j (el l i)
theorem Zkh (l:List Int)(i j:Nat):(swp l i j).length=l.length:=by simp[swp]
theorem Zcv {l:List Int}{i j:Nat}(k:Nat)(hi:i<l.length)(hj:j<l.length):el (swp l i j) k=if k=j then el l i else if k=i then el l j else el l k:=by
 unfold swp
 rw[ZlN _ _ (by simpa using hj),ZlN _ _ hi]
inductive Rg (a b:Nat):List Int->List Int->Prop
 | refl (l:List Int):Rg a b l l
 | step {l l':List Int} (i j:Nat):Rg a b l l'->a<=i->i<b->a<=j->j<b->Rg a b l (swp l' i j)
theorem Rg.len {a b:Nat}{l l':List Int}(h:Rg a b l l'):l'.length=l.length:=by
 induction h with
 | refl=>rfl
 | step i j _ _ _ _ _ ih=>rw[Zkh,ih]
theorem Rg.trans {a b:Nat}{l l' l'':List Int}(h:Rg a b l l')(h':Rg a b l' l''):Rg a b l l'':=by
 induction h' with
 | refl=>exact h
 | step i j _ h1 h2 h3 h4 ih=>exact .step i j ih h1 h2 h3 h4
theorem Rg.mono {a b a' b':Nat}{l l':List Int}(h:Rg a b l l')(ha:a'<=a)(hb:b<=b'):Rg a' b' l l':=by
 induction h with
 | refl=>exact .refl _
 | step i j _ h1 h2 h3 h4 ih=>exact .step i j ih (by omega) (by omega) (by omega) (by omega)
theorem Rg.out {a b:Nat}{l l':List Int}(h:Rg a b l l')(hb:b<=l.length){k:Nat}(hk:k<a∨b<=k):el l' k=el l k:=by
 induction h with
 | refl=>rfl
 | step i j h' h1 h2 h3 h4 ih=>
  have:=h'.len
  rw[Zcv _ (by omega) (by omega),if_neg (by omega),if_neg (by omega),ih]
theorem Rg.all {a b:Nat}{l l':List Int}(h:Rg a b l l')(hb:b<=l.length){p:Int->Prop}(hp:∀ k,a<=k->k<b->p (el l k)):∀ k,a<=k->k<b->p (el l' k):=by
 induction h with
 | refl=>exact hp
 | step i j h' h1 h2 h3 h4 ih=>
  intro k hk1 hk2
  have:=h'.len
  rw[Zcv _ (by omega) (by omega)]
  split
  ·exact ih i h1 h2
  ·split
   ·exact ih j h3 h4
   ·exact ih k hk1 hk2
theorem swp_perm {l:List Int}{i j:Nat}(hi:i<l.length)(hj:j<l.length):(swp l i j).Perm l:=by
 unfold swp
 rw[ZhY hi,ZhY hj]
 exact List.set_set_perm hi hj
theorem Rg.perm {a b:Nat}{l l':List Int}(h:Rg a b l l')(hb:b<=l.length):l'.Perm l:=by
 induction h with
 | refl=>exact .refl _
 | step i j h' h1 h2 h3 h4 ih=>
  have:=h'.len
  exact(swp_perm (by omega) (by omega)).trans ih
def So (a b:Nat)(l:List Int):Prop:=∀ i j,a<=i->i<=j->j<b->el l i<=el l j
theorem Ze3 {a b:Nat}(l:List Int)(h:b<=a+1):So a b l:=fun i j h1 h2 h3=>by
 have:i=j:=by omega
 subst this;exact Int.le_refl _
theorem Zjj {a b:Nat}{l:List Int}(h:∀ i,a<=i->i+1<b->el l i<=el l (i+1)):So a b l:=by
 intro i j hi hij hj
 obtain⟨d,rfl⟩:=Nat.exists_eq_add_of_le hij
 clear hij
 induction d with
 | zero=>exact Int.le_refl _
 | succ d ih=>exact Int.le_trans (ih (by omega)) (h (i+d) (by omega) (by omega))
section
variable  {P:Prg}[Tz P][Loud P]{H:Hp}
set_option maxHeartbeats 1000000
theorem ZiN (n:Int):LL.Zai P 207 #[vi n] H fun v H'=>H=H'∧v=vb false:=by
 refine IsN.m (isn c207) (args:=[vi n]) rfl ?_
 unfold n207
 refine wkT ?_
 exact⟨rfl,by simp[Zbt]⟩
theorem ZbM (m n:Int):LL.Zai P 185 #[vi m,vi n] H fun v H'=>H=H'∧v=vb (decide (m<n)):=by
 refine IsN.m (isn c185) (args:=[vi m,vi n]) rfl ?_
 unfold n185
 refine wkT ?_
 refine Zab (vs:=[vi m]) rfl (ZiN _) ?_
 rintro v _ ⟨rfl,rfl⟩
 refine wkT ?_
 exact⟨rfl,rfl⟩
def SortC (P:Prg)(f:Nat)(H:Hp)(r cap:Nat)(l:List Int)(rest:List Value)(a b:Nat)(more:List Value)(Q:Value->List Int->Prop):Prop:=
 LL.Zai P f (.slice (some ⟨r,0,none⟩) l.length cap :: vi a :: vi b :: more).toArray H fun v H'=>∃ l',AR H H' r l' rest∧Rg a b l l'∧Q v l'
theorem ZjQ {r cap a b:Nat}{l:List Int}{rest:List Value}(hA:H r=some (.cells (encs l++rest).toArray 3 (0,0),true))(hab:a<=b)(hb:b<=l.length)(hl:l.length<=1000000) :
  SortC P 179 H r cap l rest a b [] fun _ l'=>So a b l':=by
 have hs:=Loud.loud (P:=P)
 refine IsN.m (isn c179) (args:=[.slice (some ⟨r,0,none⟩) l.length cap,vi a,vi b]) rfl ?_
 unfold n179
 refine wkT ?_
 refine Zax (α:=List Int) (b-(a+1)) (fun j c H'=>AR H H' r c rest∧Rg a b l c∧So a (a+1+j) c) (fun j c=>[(0,.slice (some ⟨r,0,none⟩) l.length cap),(1,vi a),(2,vi b),(6,vi ((a+1+j:Nat):Int))]) (fun j c=>[]) l ⟨AR.of hA,.refl l,Ze3 l (by omega)⟩ ⟨rfl,rfl,rfl,rfl,trivial⟩ trivial ?_
 rintro i c H1 hi ⟨ar,rg,so⟩
 have hcl:=rg.len
 refine wkT ?_
 refine wiT (fun g1=>?_) (fun g1=>?_)
 ·have g1:a+1+i<b:=by omega
  refine wkT ?_
  refine Zax (α:=List Int) (i+1) (fun k c' H'=>AR H H' r c' rest∧Rg a b l c'∧(∀ x y,a<=x->x<=y->y<=a+1+i->x≠a+1+i-k->y≠a+1+i-k->el c' x<=el c' y)∧(∀ y,a+1+i-k<y->y<=a+1+i->el c' (a+1+i-k)<=el c' y))
   (fun k c'=>[(0,.slice (some ⟨r,0,none⟩) l.length cap),(1,vi a),(2,vi b),(6,vi ((a+1+i:Nat):Int)),(7,vi ((a+1+i-k:Nat):Int))]) (fun k c'=>[]) c ⟨ar,rg,fun x y h1 h2 h3 h4 h5=>so x y h1 h2 (by omega),fun y h1 h2=>by omega⟩ ⟨rfl,rfl,rfl,rfl,rfl,trivial⟩ trivial ?_
  rintro k c' H2 hk ⟨ar',rg',so',lo'⟩
  have hcl':=rg'.len
  have hjb:a+1+i-k<l.length:=by omega
  obtain⟨j,hj⟩:∃ j,a+1+i-k=j:=⟨_,rfl⟩
  rw[hj]at so' lo' ⊢
  refine wkT ?_
  refine wiT (fun ha=>?_) (fun ha=>?_)
  ·have ha:a<j:=by omega
   refine wkT ?_
   refine Zak j rfl rfl rfl (by omega) ?_
   refine wkT ?_
   refine Zaf (hs _) rfl (ar'.cA (by omega) rfl) ?_
   refine wkT ?_
   refine Zak (j-1) rfl rfl (by omega) (by omega) ?_
   refine wkT ?_
   refine Zaf (hs _) rfl (ar'.cA (by omega) rfl) ?_
   refine wkT ?_
   refine Zab (vs:=[vi (el c' j),vi (el c' (j-1))]) rfl (ZbM _ _) ?_
   rintro v _ ⟨rfl,rfl⟩
   refine wkT ?_
   refine wiT (fun hl1=>?_) (fun hl1=>?_)
   ·refine wkT ?_
    refine Zak (j-1) rfl rfl (by omega) (by omega) ?_
    refine wkT ?_
    refine Zaf (Loud.loud _) rfl (AR.cA ar' (by omega) rfl) ?_
    refine wkT ?_
    refine Zak j rfl rfl (by omega) (by omega) ?_
    refine wkT ?_
    refine Zaf (Loud.loud _) rfl (AR.cA ar' (by omega) rfl) ?_
    refine wkT ?_
    refine Zak j rfl rfl (by omega) (by omega) ?_
    refine wkT ?_
    refine ZaW ar' (by omega) (Zbo _ _) rfl rfl fun HW arW=>?_
    refine kp_l Loud.loud ?_
    refine wkT ?_
    refine Zak (j-1) rfl rfl (by omega) (by omega) ?_
    refine wkT ?_
    refine ZaW arW (by rw[List.length_set];omega) (Zbo _ _) rfl rfl fun H4 ar4=>?_
    refine wkT ?_
    have esw:(c'.set j (el c' (j-1))).set (j-1) (el c' j)=swp c' j (j-1):=rfl
    rw[esw]at ar4
    have hel:∀ x,el (swp c' j (j-1)) x=if x=j-1 then el c' j else if x=j then el c' (j-1) else el c' x:=fun x=>Zcv x (by omega) (by omega)
    have hel1:∀ x,x≠j-1->el (swp c' j (j-1)) x=if x=j then el c' (j-1) else el c' x:=fun x hx=>by rw[hel,if_neg hx]
    have hel0:el (swp c' j (j-1)) (j-1)=el c' j:=by rw[hel,if_pos rfl]
    have hjk:a+1+i-(k+1)=j-1:=by omega
    refine⟨(⟨k+1,by omega⟩,swp c' j (j-1)),slt (by omega),⟨ar4,.step _ _ rg' (by omega) (by omega) (by omega) (by omega),?_,?_⟩,⟨rfl,rfl,rfl,rfl,?_,trivial⟩,trivial,rfl⟩
    ·show ∀ x y,a<=x->x<=y->y<=a+1+i->x≠a+1+i-(k+1)->y≠a+1+i-(k+1)->_
     intro x y h1 h2 h3 h4 h5
     rw[hjk]at h4 h5
     rw[hel1 x h4,hel1 y h5]
     by_cases hx:x=j
     ·rw[if_pos hx]
      by_cases hy:y=j
      ·rw[if_pos hy];exact Int.le_refl _
      ·rw[if_neg hy];exact so' _ _ (by omega) (by omega) h3 (by omega) hy
     ·rw[if_neg hx]
      by_cases hy:y=j
      ·rw[if_pos hy];exact so' _ _ h1 (by omega) (by omega) hx (by omega)
      ·rw[if_neg hy];exact so' _ _ h1 h2 h3 hx hy
    ·show ∀ y,a+1+i-(k+1)<y->y<=a+1+i->el (swp c' j (j-1)) (a+1+i-(k+1))<=_
     intro y h1 h2
     rw[hjk]at h1 ⊢
     rw[hel0,hel1 y (by omega)]
     by_cases hy:y=j
     ·rw[if_pos hy];omega
     ·rw[if_neg hy];exact lo' _ (by omega) h2
    ·show some (vi ((j:Int)-1))=some (vi ((a+1+i-(k+1):Nat):Int))
     rw[show (a+1+i-(k+1):Nat)=j-1 by omega,show ((j-1:Nat):Int)=(j:Int)-1 by omega]
   ·refine wkT ?_
    refine⟨(⟨i+1,by omega⟩,c'),slt (by omega),⟨ar',rg',?_⟩,⟨rfl,rfl,rfl,rfl,trivial⟩,trivial,rfl⟩
    show So a (a+1+(i+1)) c'
    refine Zjj fun x h1 h2=>?_
    by_cases e1:x=j
    ·subst e1;exact lo' _ (by omega) (by omega)
    ·by_cases e2:x+1=j
     ·subst e2
      rw[Nat.add_sub_cancel]at hl1
      omega
     ·exact so' _ _ h1 (by omega) (by omega) e1 e2
  ·have ha:j=a:=by omega
   subst ha
   refine wkT ?_
   refine⟨(⟨i+1,by omega⟩,c'),slt (by omega),⟨ar',rg',?_⟩,⟨rfl,rfl,rfl,rfl,trivial⟩,trivial,rfl⟩
   refine Zjj fun x h1 h2=>?_
   have h2:x+1<j+1+(i+1):=h2
   by_cases e1:x=j
   ·subst e1;exact lo' _ (by omega) (by omega)
   ·exact so' _ _ h1 (by omega) (by omega) e1 (by omega)
 ·refine wkT ?_
  refine⟨c,ar,rg,?_⟩
  intro x y h1 h2 h3
  exact so x y h1 h2 (by omega)
end
theorem Znt {G:Prop} (h:G:=by
  have hmh:m<hi:=by omega
  refine wkT ?_
  refine Zak (f+p) rfl rfl (by omega) (by omega) ?_
  refine wkT ?_
  refine Zaf (hs _) rfl (ar.cA (by omega) rfl) ?_
  refine wkT ?_
  refine Zak (f+m) rfl rfl (by omega) (by omega) ?_
  refine wkT ?_
  refine Zaf (hs _) rfl (ar.cA (by omega) rfl) ?_
  refine wkT ?_
  refine Zab (vs:=[vi (el c (f+p)),vi (el c (f+m))]) rfl (ZbM _ _) ?_
  rintro v _ ⟨rfl,rfl⟩
  refine wkT ?_
  refine wiT (fun g4=>?_) (fun g4=>?_)
  ·refine wkT ?_
   refine⟨c,ar,rg,hp.fin fun m' h1 h2=>?_⟩
   have:=hmax m' h1 h2
   omega
  ·refine wkT ?_
   refine Zak (f+m) rfl rfl (by omega) (by omega) ?_
   refine wkT ?_
   refine Zaf (Loud.loud _) rfl (AR.cA ar (by omega) rfl) ?_
   refine wkT ?_
   refine Zak (f+p) rfl rfl (by omega) (by omega) ?_
   refine wkT ?_
   refine Zaf (Loud.loud _) rfl (AR.cA ar (by omega) rfl) ?_
   refine wkT ?_
   refine Zak (f+p) rfl rfl (by omega) (by omega) ?_
   refine wkT ?_
   refine ZaW ar (by omega) (Zbo _ _) rfl rfl fun HW arW=>?_
   refine kp_l Loud.loud ?_
   refine wkT ?_
   refine Zak (f+m) rfl rfl (by omega) (by omega) ?_
   refine wkT ?_
   refine ZaW arW (by rw[List.length_set];omega) (Zbo _ _) rfl rfl fun H4 ar4=>?_
   refine wkT ?_
   have esw:(c.set (f+p) (el c (f+m))).set (f+m) (el c (f+p))=swp c (f+p) (f+m):=rfl
   rw[esw]at ar4
   have hpm:p<m:=by omega
   refine⟨(⟨m-lo,by omega⟩,swp c (f+p) (f+m)),?_,⟨ar4,.step _ _ rg (by omega) (by omega) (by omega) (by omega),?_⟩,⟨rfl,rfl,rfl,rfl,?_,trivial⟩,trivial,rfl⟩
   ·show hi-lo-(m-lo)<hi-lo-j
    omega
   ·show HpI f lo hi _ (lo+(m-lo))
    rw[show lo+(m-lo)=m by omega]
    exact hp.step hmp hmh hmax g4 (by omega) (by omega)
   ·show some (vi _)=some (vi ((lo+(m-lo):Nat):Int))
    congr 2
    omega):G:=h
def Par (k m:Nat):Prop:=m=2 * k+1∨m=2 * k+2
def HpX (f lo hi:Nat)(l:List Int):Prop:=∀ k m,lo<=k->Par k m->m<hi->el l (f+m)<=el l (f+k)
structure HpI (f lo hi:Nat)(l:List Int)(p:Nat):Prop where
 h1:∀ k m,lo<=k->k≠p->Par k m->m<hi->el l (f+m)<=el l (f+k)
 h2:∀ k m,lo<=k->Par k p->Par p m->m<hi->el l (f+m)<=el l (f+k)
theorem HpI.of {f lo hi:Nat}{l:List Int}(h:HpX f (lo+1) hi l):HpI f lo hi l lo:=
 ⟨fun k m h1 h2 h3 h4=>h k m (by omega) h3 h4,fun k m h1 h2=>by rcases h2 with h2 | h2<;>omega⟩
theorem HpI.fin {f lo hi:Nat}{l:List Int}{p:Nat}(h:HpI f lo hi l p)(hp:∀ m,Par p m->m<hi->el l (f+m)<=el l (f+p)):HpX f lo hi l:=by
 intro k m h1 h2 h3
 by_cases e:k=p
 ·subst e;exact hp m h2 h3
 ·exact h.h1 k m h1 e h2 h3
theorem HpI.step {f lo hi:Nat}{c:List Int}{p m:Nat}(h:HpI f lo hi c p)(hm:Par p m)(hmh:m<hi)(hmax:∀ m',Par p m'->m'<hi->el c (f+m')<=el c (f+m))(hlt:el c (f+p)<el c (f+m))(hlen:f+hi<=c.length)(hp:lo<=p) :
  HpI f lo hi (swp c (f+p) (f+m)) m:=by
 have hpm:p<m:=by rcases hm with h | h<;>omega
 have es:∀ x,el (swp c (f+p) (f+m)) x=if x=f+m then el c (f+p) else if x=f+p then el c (f+m) else el c x:=fun x=>Zcv x (by omega) (by omega)
 have e1:el (swp c (f+p) (f+m)) (f+m)=el c (f+p):=by rw[es,if_pos rfl]
 have e2:el (swp c (f+p) (f+m)) (f+p)=el c (f+m):=by rw[es,if_neg (by omega),if_pos rfl]
 have e3:∀ x,x≠m->x≠p->el (swp c (f+p) (f+m)) (f+x)=el c (f+x):=fun x h1 h2=>by rw[es,if_neg (by omega),if_neg (by omega)]
 refine⟨fun k m' g1 g2 g3 g4=>?_,fun k m' g1 g2 g3 g4=>?_⟩
 ·by_cases ek:k=p
  ·subst ek
   rw[e2]
   by_cases em:m'=m
   ·subst em;rw[e1];omega
   ·rw[e3 m' em (by rcases g3 with h | h<;>omega)]
    exact hmax m' g3 g4
  ·rw[e3 k g2 ek]
   by_cases em:m'=m
   ·exfalso;subst em;unfold Par at hm g3;omega
   ·by_cases em2:m'=p
    ·subst em2;rw[e2];exact h.h2 k m g1 g3 hm hmh
    ·rw[e3 m' em em2];exact h.h1 k m' g1 ek g3 g4
 ·have ek:k=p:=by unfold Par at hm g2;omega
  subst ek
  have:m'≠m∧m'≠k:=by unfold Par at hm g3;omega
  rw[e2,e3 m' this.1 this.2]
  exact h.h1 m m' (by omega) (by omega) g3 g4
section
variable  {P:Prg}[Tz P][Loud P]{H:Hp}
set_option maxHeartbeats 1000000
theorem sift_ok {r cap f lo hi:Nat}{l:List Int}{rest:List Value}(hA:H r=some (.cells (encs l++rest).toArray 3 (0,0),true))(hb:f+hi<=l.length)(hlo:lo<=l.length)(hl:l.length<=1000000)(hx:HpX f (lo+1) hi l) :
  LL.Zai P 202 #[.slice (some ⟨r,0,none⟩) l.length cap,vi lo,vi hi,vi f] H fun v H'=>∃ l',AR H H' r l' rest∧Rg f (f+hi) l l'∧HpX f lo hi l':=by
 have hs:=Loud.loud (P:=P)
 refine IsN.m (isn c202) (args:=[.slice (some ⟨r,0,none⟩) l.length cap,vi lo,vi hi,vi f]) rfl ?_
 unfold n202
 refine wkT ?_
 refine Zax (α:=List Int) (hi-lo) (fun j c H'=>AR H H' r c rest∧Rg f (f+hi) l c∧HpI f lo hi c (lo+j)) (fun j c=>[(0,.slice (some ⟨r,0,none⟩) l.length cap),(1,vi lo),(2,vi hi),(3,vi f),(8,vi ((lo+j:Nat):Int))]) (fun j c=>[]) l ⟨AR.of hA,.refl l,.of hx⟩ ⟨rfl,rfl,rfl,rfl,rfl,trivial⟩ trivial ?_
 rintro j c H1 hj ⟨ar,rg,hp⟩
 have hcl:=rg.len
 have hplo:lo<=lo+j:=by omega
 have hpl:lo+j<=l.length:=by omega
 generalize hpe:lo+j=p at *
 refine wkT ?_
 refine ZhF rfl rfl ⟨by omega,by omega⟩ ?_
 refine wkT ?_
 refine wiT (fun g1=>?_) (fun g1=>?_)
 ·refine wkT ?_
  refine⟨c,ar,rg,hp.fin fun m hm hmh=>?_⟩
  rcases hm with h | h<;>omega
 ·have g1:2 * p+1<hi:=by omega
  refine wkT ?_
  refine wiT (fun g2=>?_) (fun g2=>?_)
  ·have g2:2 * p+1+1<hi:=by omega
   refine wkT ?_
   refine Zak (f+(2 * p+1)) rfl rfl (by omega) (by omega) ?_
   refine wkT ?_
   refine Zaf (hs _) rfl (ar.cA (by omega) rfl) ?_
   refine wkT ?_
   refine Zak (f+(2 * p+2)) rfl rfl (by omega) (by omega) ?_
   refine wkT ?_
   refine Zaf (hs _) rfl (ar.cA (by omega) rfl) ?_
   refine wkT ?_
   refine Zab (vs:=[vi (el c (f+(2 * p+1))),vi (el c (f+(2 * p+2)))]) rfl (ZbM _ _) ?_
   rintro v _ ⟨rfl,rfl⟩
   refine wkT ?_
   refine wiT (fun g3=>?_) (fun g3=>?_)
   ·obtain⟨m,hm⟩:∃ m,m=2 * p+2:=⟨_,rfl⟩
    have hmax:∀ m',Par p m'->m'<hi->el c (f+m')<=el c (f+m):=fun m' h1 h2=>by
     rcases h1 with h | h
     ·subst h hm;omega
     ·subst h hm;exact Int.le_refl _
    have hmp:Par p m:=.inr hm
    exact Znt
   ·obtain⟨m,hm⟩:∃ m,m=2 * p+1:=⟨_,rfl⟩
    have hmax:∀ m',Par p m'->m'<hi->el c (f+m')<=el c (f+m):=fun m' h1 h2=>by
     rcases h1 with h | h
     ·subst h hm;exact Int.le_refl _
     ·subst h hm;omega
    have hmp:Par p m:=.inl hm
    exact Znt
  ·obtain⟨m,hm⟩:∃ m,m=2 * p+1:=⟨_,rfl⟩
   have hmax:∀ m',Par p m'->m'<hi->el c (f+m')<=el c (f+m):=fun m' h1 h2=>by
    rcases h1 with h | h
    ·subst h hm;exact Int.le_refl _
    ·omega
   have hmp:Par p m:=.inl hm
   exact Znt
end
theorem heap_max {f q:Nat}{c:List Int}(h:HpX f 0 q c):∀ k,k<q->el c (f+k)<=el c f:=by
 intro k
 induction k using Nat.strongRecOn with
 | _ k ih=>
  intro hk
  by_cases e:k=0
  ·subst e;exact Int.le_refl _
  ·have hp:Par ((k-1) / 2) k:=by unfold Par;omega
   exact Int.le_trans (h _ k (Nat.zero_le _) hp hk) (ih _ (by omega) (by omega))
theorem Zon (hi:Nat):((hi:Int)-1).tdiv 2=(((hi-1) / 2:Nat):Int):=by
 by_cases h:hi=0
 ·subst h;rfl
 ·rw[Int.tdiv_eq_ediv_of_nonneg (by omega)];omega
section
variable  {P:Prg}[Tz P][Loud P]{H:Hp}
set_option maxHeartbeats 1000000
theorem Zk7 {r cap f lo hi n:Nat}{l:List Int}{rest:List Value}(hA:H r=some (.cells (encs l++rest).toArray 3 (0,0),true))(hn:l.length=n)(hb:f+hi<=n)(hlo:lo<=n)(hl:n<=1000000)(hx:HpX f (lo+1) hi l) :
  LL.Zai P 202 #[.slice (some ⟨r,0,none⟩) n cap,vi lo,vi hi,vi f] H fun v H'=>∃ l',AR H H' r l' rest∧Rg f (f+hi) l l'∧HpX f lo hi l':=by
 subst hn;exact sift_ok hA hb hlo hl hx
theorem ZkF {r cap a hi:Nat}{l:List Int}{rest:List Value}(hA:H r=some (.cells (encs l++rest).toArray 3 (0,0),true))(hb:a+hi<=l.length)(hl:l.length<=1000000) :
  SortC P 180 H r cap l rest a (a+hi) [] fun _ l'=>So a (a+hi) l':=by
 have hs:=Loud.loud (P:=P)
 have ehi:(((a+hi:Nat):Int)-(a:Int))=(hi:Int):=by omega
 refine IsN.m (isn c180) (args:=[.slice (some ⟨r,0,none⟩) l.length cap,vi a,vi (a+hi:Nat)]) rfl ?_
 unfold n180
 refine wkT ?_
 rw[ehi]
 refine wkT ?_
 refine ZgB rfl rfl (by decide) (by rw[Zon];exact⟨by omega,by omega⟩) ?_
 rw[Zon]
 refine wkT ?_
 refine Zax (α:=List Int) ((hi-1) / 2+1) (fun j c H'=>AR H H' r c rest∧Rg a (a+hi) l c∧HpX a ((hi-1) / 2+1-j) hi c)
  (fun j c=>[(0,.slice (some ⟨r,0,none⟩) l.length cap),(6,vi a),(7,vi 0),(8,vi hi),(9,vi (((hi-1) / 2+1-j:Nat)-1:Int))]) (fun j c=>[]) l ⟨AR.of hA,.refl l,fun k m h1 h2 h3=>by unfold Par at h2;omega⟩ ⟨rfl,rfl,rfl,rfl,?_,trivial⟩ trivial ?_
 ·show some (vi _)=some (vi _)
  congr 2;omega
 rintro j c H1 hj ⟨ar,rg,hp⟩
 have hcl:=rg.len
 refine wkT ?_
 refine wiT (fun g1=>?_) (fun g1=>?_)
 ·obtain⟨i,hi'⟩:∃ i,(hi-1) / 2+1-j=i+1:=⟨(hi-1) / 2+1-j-1,by omega⟩
  have ei:((((hi-1) / 2+1-j:Nat)-1:Int))=(i:Int):=by omega
  rw[hi']at hp
  rw[ei]
  refine wkT ?_
  refine Zab (vs:=[.slice (some ⟨r,0,none⟩) l.length cap,vi i,vi hi,vi a]) rfl (Zk7 ar.at_ hcl hb (by omega) hl hp) ?_
  rintro v H2 ⟨c2,ar2,rg2,hp2⟩
  refine wkT ?_
  refine⟨(⟨j+1,by omega⟩,c2),slt (by omega),⟨ar.trans ar2,rg.trans rg2,?_⟩,⟨rfl,rfl,rfl,rfl,?_,trivial⟩,trivial,rfl⟩
  ·show HpX a ((hi-1) / 2+1-(j+1)) hi c2
   rw[show (hi-1) / 2+1-(j+1)=i by omega]
   exact hp2
  ·show some (vi _)=some (vi _)
   congr 2
   show (i:Int)-1=(((hi-1) / 2+1-(j+1):Nat):Int)-1
   omega
 ·have hj0:(hi-1) / 2+1-j=0:=by omega
  rw[hj0]at hp
  refine wkT ?_
  refine Zax (α:=List Int) hi (fun j c H'=>AR H H' r c rest∧Rg a (a+hi) l c∧HpX a 0 (hi-j) c∧So (a+(hi-j)) (a+hi) c∧∀ x y,a<=x->x<a+(hi-j)->a+(hi-j)<=y->y<a+hi->el c x<=el c y)
   (fun j c=>[(0,.slice (some ⟨r,0,none⟩) l.length cap),(6,vi a),(7,vi 0),(10,vi ((hi-j:Nat)-1:Int))]) (fun j c=>[]) c ⟨ar,rg,hp,Ze3 c (by omega),fun x y h1 h2 h3 h4=>by omega⟩ ⟨rfl,rfl,rfl,rfl,trivial⟩ trivial ?_
  rintro j' c' H2 hj' ⟨ar',rg',hp',so',lo'⟩
  have hcl':=rg'.len
  refine wkT ?_
  refine wiT (fun g2=>?_) (fun g2=>?_)
  ·obtain⟨i,hi'⟩:∃ i,hi-j'=i+1:=⟨hi-j'-1,by omega⟩
   have ei:(((hi-j':Nat)-1:Int))=(i:Int):=by omega
   rw[hi']at hp' so' lo'
   rw[ei]
   have hmx:=heap_max hp'
   refine wkT ?_
   refine Zak (a+i) rfl rfl (by omega) (by omega) ?_
   refine wkT ?_
   refine Zaf (Loud.loud _) rfl (AR.cA ar' (by omega) rfl) ?_
   refine wkT ?_
   refine Zak a rfl rfl (by omega) (by omega) ?_
   refine wkT ?_
   refine Zaf (Loud.loud _) rfl (AR.cA ar' (by omega) rfl) ?_
   refine wkT ?_
   refine Zak a rfl rfl (by omega) (by omega) ?_
   refine wkT ?_
   refine ZaW ar' (by omega) (Zbo _ _) rfl rfl fun HW arW=>?_
   refine kp_l Loud.loud ?_
   refine wkT ?_
   refine Zak (a+i) rfl rfl (by omega) (by omega) ?_
   refine wkT ?_
   refine ZaW arW (by rw[List.length_set];omega) (Zbo _ _) rfl rfl fun H4 ar4=>?_
   refine wkT ?_
   have esw:(c'.set a (el c' (a+i))).set (a+i) (el c' a)=swp c' a (a+i):=rfl
   rw[esw]at ar4
   have es:∀ x,el (swp c' a (a+i)) x=if x=a+i then el c' a else if x=a then el c' (a+i) else el c' x:=fun x=>Zcv x (by omega) (by omega)
   have hle:∀ x,a<=x->x<a+i->∃ x',a<=x'∧x'<a+(i+1)∧el (swp c' a (a+i)) x=el c' x':=fun x h1 h2=>by
    rw[es,if_neg (by omega)]
    by_cases e:x=a
    ·rw[if_pos e];exact⟨a+i,by omega,by omega,rfl⟩
    ·rw[if_neg e];exact⟨x,by omega,by omega,rfl⟩
   have hpx:HpX a 1 i (swp c' a (a+i)):=fun k m h1 h2 h3=>by
    have:m≠0∧k<i:=by unfold Par at h2;omega
    rw[es,es,if_neg (by omega),if_neg (by omega),if_neg (by omega),if_neg (by omega)]
    exact hp' k m (Nat.zero_le _) h2 (by omega)
   refine Zab (vs:=[.slice (some ⟨r,0,none⟩) l.length cap,vi (0:Nat),vi i,vi a]) rfl (Zk7 ar4.at_ (by rw[Zkh,hcl']) (by omega) (by omega) hl hpx) ?_
   rintro v H5 ⟨c2,ar2,rg2,hp2⟩
   have hcb:a+i<=(swp c' a (a+i)).length:=by rw[Zkh];omega
   have out2:∀ k,a+i<=k->el c2 k=el (swp c' a (a+i)) k:=fun k hk=>rg2.out hcb (.inr hk)
   have outT:∀ k,a+i<k->el c2 k=el c' k:=fun k hk=>by rw[out2 k (by omega),es,if_neg (by omega),if_neg (by omega)]
   have outI:el c2 (a+i)=el c' a:=by rw[out2 _ (Nat.le_refl _),es,if_pos rfl]
   have hall:∀ (p:Int->Prop),(∀ x',a<=x'->x'<a+(i+1)->p (el c' x'))->∀ k,a<=k->k<a+i->p (el c2 k):=fun p hp k h1 h2=>
    rg2.all hcb (p:=p) (fun k h1 h2=>by obtain⟨x',g1,g2,g3⟩:=hle k h1 h2;rw[g3];exact hp x' g1 g2) k h1 h2
   have ejj:hi-(j'+1)=i:=by omega
   refine wkT ?_
   refine⟨(⟨j'+1,by omega⟩,c2),Nat.sub_lt_sub_left (by omega) (Nat.lt_succ_self j'),⟨ar4.trans ar2,(Rg.step _ _ rg' (by omega) (by omega) (by omega) (by omega)).trans (rg2.mono (Nat.le_refl _) (by omega)),?_,?_,?_⟩,⟨rfl,rfl,rfl,?_,trivial⟩,trivial,rfl⟩
   ·show HpX a 0 (hi-(j'+1)) c2
    rw[ejj];exact hp2
   ·show So (a+(hi-(j'+1))) (a+hi) c2
    rw[ejj]
    refine Zjj fun x h1 h2=>?_
    by_cases e:x=a+i
    ·subst e
     rw[outI,outT _ (by omega)]
     exact lo' a _ (Nat.le_refl _) (by omega) (by omega) h2
    ·rw[outT _ (by omega),outT _ (by omega)]
     exact so' x (x+1) (by omega) (by omega) h2
   ·show ∀ x y,a<=x->x<a+(hi-(j'+1))->a+(hi-(j'+1))<=y->y<a+hi->el c2 x<=el c2 y
    rw[ejj]
    intro x y h1 h2 h3 h4
    by_cases e:y=a+i
    ·subst e
     rw[outI]
     refine hall (·<=el c' a) (fun x' g1 g2=>?_) x h1 h2
     have:=hmx (x'-a) (by omega)
     rwa [show a+(x'-a)=x' by omega]at this
    ·rw[outT y (by omega)]
     exact hall (·<=el c' y) (fun x' g1 g2=>lo' x' y g1 g2 (by omega) h4) x h1 h2
   ·show some (vi _)=some (vi _)
    congr 2
    show (i:Int)-1=((hi-(j'+1):Nat):Int)-1
    omega
  ·have:hi-j'=0:=by omega
   rw[this]at so'
   refine wkT ?_
   exact⟨c',ar',rg',so'⟩
end
end Go.Proofs
end
