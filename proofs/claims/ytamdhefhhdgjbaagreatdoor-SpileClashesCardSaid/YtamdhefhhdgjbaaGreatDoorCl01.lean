/- proofs about Leango given: part Cl1; made by a program out of the longer texts in wip -/
import Derived.Test.YtamdhefhhdgjbaaGreatDoorCl00
set_option linter.all false
section
open Go Go.LL
namespace Go.Proofs
def WaA (v:Value):Prop:=∃ A n c,v=.slice A n c∧n<=c
theorem own_cap {α:Type}[Enc α]{H0 H:Hp}{E:TypeId}{v:Value}{l:List α}{bb:Option Nat}(h:Own H0 H E v l bb):WaA v:=by
 obtain⟨q0,⟨q1,q2,q3⟩ | ⟨r,cap,rest,q1,q2,q3,q4,q5⟩⟩:=h.own
 ·exact⟨_,_,_,q1,Nat.le_refl _⟩
 ·exact⟨_,_,_,q2,q5⟩
section
variable  {P:Prg}[Tz P][Loud P]{H:Hp}
set_option maxHeartbeats 2000000
theorem WaZ {f:Value}{v:Value}{fl:List Int}{vs:List Value}{ls:List (List Int)}(hf:SlAt H f fl)(hw:SlAt H v vs)(hls:LLAt H vs ls)(hcf:WaA f)(hcv:∀ x∈vs,WaA x)(hl:vs.length<=1000000)(h1:fl.length<=1000000)(h2:∀ l∈ls,l.length<=1000000)(hst:P.still H.gh=false) :
  LL.Zag P 121 #[vf 122,f,v] H fun v H'=>H=H'∧SlAt H v (Zbq fewF fl ls)∧WaA v:=by
 have hle:=hls.len
 have hbl:∀ j,j<=ls.length->(Zbq fewF fl (ls.take j)).length<=1000000:=by
  intro j
  induction j with
  | zero=>intro _;exact h1
  | succ j ih=>
   intro hj
   rw[ZdD _ _ hj]
   split
   ·exact h2 _ (List.getElem_mem _)
   ·exact ih (by omega)
 refine IsN.m (isn c121) (args:=[vf 122,f,v]) rfl ?_
 unfold n121
 refine wkT ?_
 refine Zav hw rfl ?_
 refine wkT ?_
 refine ZaP (α:=Value) vs.length (fun j w H'=>H=H'∧SlAt H w (Zbq fewF fl (ls.take j))∧WaA w) (fun j w=>[(0,vf 122),(1,w),(9,v),(10,vi vs.length),(11,vi j)]) (fun _ _=>[]) f ⟨rfl,hf,hcf⟩ ⟨rfl,rfl,rfl,rfl,rfl,trivial⟩ trivial ?_
 rintro j w _ hj ⟨rfl,hw1,hw2⟩
 refine wkT ?_
 refine wiT (fun h3=>?_) (fun h3=>?_)
 ·have hj':j<vs.length:=by omega
  have hb:=ZdD fewF fl (l:=ls) (j:=j) (by omega)
  refine wkT ?_
  refine ZaE hw rfl rfl rfl (i:=j) hj' fun a ha=>?_
  refine wkT ?_
  refine Zaf hst rfl ha ?_
  refine wkT ?_
  refine ZaQ (vs:=[vs[j],w]) rfl rfl (Zc1 (by kernel_rfl) (fewer_ok (hls.at_ j hj' (by omega)) hw1 (h2 _ (List.getElem_mem _)) (hbl j (by omega)) hst)) ?_
  rintro v _ ⟨rfl,rfl⟩
  refine wkT ?_
  refine wiT (fun h4=>?_) (fun h4=>?_)
  ·refine wkT ?_
   rw[if_pos h4]at hb
   exact⟨(⟨j+1,by omega⟩,vs[j]),Nat.sub_lt_sub_left (by omega) (Nat.lt_succ_self j),⟨rfl,by rw[hb];exact hls.at_ j hj' (by omega),hcv _ (List.getElem_mem hj')⟩,⟨rfl,rfl,rfl,rfl,rfl,trivial⟩,trivial,rfl⟩
  ·refine wkT ?_
   rw[if_neg (by simp[h4])]at hb
   exact⟨(⟨j+1,by omega⟩,w),Nat.sub_lt_sub_left (by omega) (Nat.lt_succ_self j),⟨rfl,by rw[hb];exact hw1,hw2⟩,⟨rfl,rfl,rfl,rfl,rfl,trivial⟩,trivial,rfl⟩
 ·have:j=vs.length:=by omega
  subst this
  refine wkT ?_
  rw[List.take_of_length_le (by omega)]at hw1
  exact⟨rfl,hw1,hw2⟩
theorem Wa2 {bv:Value}{b:Bk}(hb:BkAt H bv b)(hg:Za8 H)(hl:b.pts.length<=1000000)(hl2:b.cks.length<=1000000) :
  LL.Zag P 37 #[bv] H fun v H'=>Inc H H'∧∃ w,v=.tuple #[w,vi (snag b)]∧SlAt H' w (if snag b=0∧Zc9 b=false then ZmQ b else [])∧WaA w:=by
 have hs:∀ g,P.still g=false:=Loud.loud
 have hb0:=hb
 obtain⟨pv,cv,rfl,hp,hc⟩:=hb
 refine IsN.m (isn c37) (args:=[.agg #[vi b.op,vi b.sl,pv,cv]]) rfl ?_
 unfold n37
 obtain⟨Ap,cp,rfl,hp'⟩:=id hp
 obtain⟨Ac,cc,rfl,hc'⟩:=id hc
 refine wkT ?_
 refine Zab (vs:=[.agg #[vi b.op,vi b.sl,.slice Ap b.pts.length cp,.slice Ac b.cks.length cc]]) rfl (ZaL hb0 hg hl hl2 (hs _)) ?_
 rintro v _ ⟨rfl,rfl⟩
 refine wkT ?_
 refine wiT (fun h1=>?_) (fun h1=>?_)
 ·refine wkT ?_
  exact⟨.refl _,_,rfl,by rw[if_neg (by rintro⟨h,_⟩;exact h1 h)];exact .nil _,_,_,_,rfl,Nat.le_refl _⟩
 ·have val:=ZaS h1
  have hck:=val.ckn
  refine wkT ?_
  refine Zab (vs:=[.agg #[vi b.op,vi b.sl,.slice Ap b.pts.length cp,.slice Ac b.cks.length cc]]) rfl (Zjb hb0 val.good) ?_
  rintro v H1 ⟨hi1,rfl⟩
  refine wkT ?_
  refine wiT (fun h2=>?_) (fun h2=>?_)
  ·refine wkT ?_
   exact⟨hi1,_,by rw[h1];rfl,by rw[if_neg (by simp[Zc9,h2])];exact .nil _,_,_,_,rfl,Nat.le_refl _⟩
  ·have h2:Zc9 b=false:=by rw[Zc9,h2];rfl
   refine wkT ?_
   refine Zcc rfl rfl (.inr rfl) (by omega) (shl_v hck) ?_
   refine wkT ?_
   have hpw:2 ^ b.cks.length<=2 ^ 3:=Nat.pow_le_pow_right (by decide) hck
   refine ZaP (α:=Hp×Value×List Value×Option Nat) (2 ^ b.cks.length) (fun j s H'=>Inc H s.1∧Inc s.1 H'∧Own s.1 H' 34 s.2.1 s.2.2.1 s.2.2.2∧LLAt s.1 s.2.2.1 (oddF b j)∧∀ x∈s.2.2.1,WaA x)
    (fun j s=>[(1,vi 0),(2,.slice none 0 0),(3,vi 0),(5,vi 0),(6,s.2.1),(22,vi (2 ^ b.cks.length:Nat)),(23,vi j)])
    (fun j s=>[(1,[vi b.op,vi b.sl,.slice Ap b.pts.length cp,.slice Ac b.cks.length cc]),(5,[vi b.op,vi b.sl,.slice Ap b.pts.length cp,.slice Ac b.cks.length cc])])
    (H1,.slice none 0 0,[],none) ⟨hi1,.refl H1,.nil _ _ _,.nil _,by simp⟩ ⟨rfl,rfl,rfl,rfl,rfl,rfl,rfl,trivial⟩ ⟨rfl,rfl,trivial⟩ ?_
   rintro j ⟨G,v6,vs,b6⟩ H2 hj ⟨hG,hG2,o6,hls,hcp⟩
   simp only at hG hG2 o6 hls hcp
   have hln:=hls.len
   have hol:=Zme b j
   refine wkT ?_
   refine wiT (fun h3=>?_) (fun h3=>?_)
   ·have hj':j<2 ^ b.cks.length:=by omega
    have hos:=Zki b j
    refine wkT ?_
    refine Zab (vs:=[.agg #[vi b.op,vi b.sl,.slice Ap b.pts.length cp,.slice Ac b.cks.length cc],vi j]) rfl (alone_ok (m:=j) (hb0.inc (hG.trans hG2)) (by omega) (by omega)) ?_
    rintro v H3 ⟨hi3,w,lv,bb,rfl,hw,ow⟩
    obtain⟨_,_,rfl,⟨_,_,rfl,_⟩,⟨_,_,rfl,_⟩⟩:=id hw
    refine wkT ?_
    refine Zab (vs:=[_]) rfl (Zjb hw (val.alone j).good) ?_
    rintro v H4 ⟨hi4,rfl⟩
    refine wkT ?_
    refine wiT (fun h4=>?_) (fun h4=>?_)
    ·obtain⟨G',g1,g2,g3,g4⟩:=own_add hG2 o6 (hi3.trans hi4) ⟨(ow.inc hi4).own,ow.fresh⟩
     rw[h4,if_neg (by decide)]at hos
     have hcl:=own_cap ow
     obtain⟨A9,c9,rfl,_⟩:=id g4
     refine wkT ?_
     refine Zat (cs:=[.slice A9 (Zej b j).length c9]) (hs _) rfl fun r5 hr5=>?_
     refine wkT ?_
     refine ZbW (l':=[Value.slice A9 (Zej b j).length c9]) (und u157) (und u157) (tif t34) rfl (by decide) (g2.trans (Zaj hr5)) (g3.ins hr5) (Za4 (l:=[Value.slice A9 (Zej b j).length c9])) rfl (by simp;omega) (by omega) rfl rfl (hs _) fun v6' H5 b6' k1 k2 k3=>?_
     refine wkT ?_
     exact⟨(⟨j+1,by omega⟩,(G',v6',vs++[.slice A9 (Zej b j).length c9],b6')),Nat.sub_lt_sub_left (by omega) (Nat.lt_succ_self j),⟨hG.trans g1,k1,k2,by rw[hos];exact(hls.inc g1).snoc g4,fun x hx=>by
      rcases List.mem_append.1 hx with hx | hx
      ·exact hcp x hx
      ·rw[List.mem_singleton.1 hx];exact hcl⟩,⟨rfl,rfl,rfl,rfl,rfl,rfl,rfl,trivial⟩,⟨rfl,rfl,trivial⟩,rfl⟩
    ·rw[h4,if_pos rfl,List.append_nil]at hos
     refine wkT ?_
     exact⟨(⟨j+1,by omega⟩,(G,v6,vs,b6)),Nat.sub_lt_sub_left (by omega) (Nat.lt_succ_self j),⟨hG,(hG2.trans hi3).trans hi4,(o6.inc hi3).inc hi4,by rw[hos];exact hls,hcp⟩,⟨rfl,rfl,rfl,rfl,rfl,rfl,rfl,trivial⟩,⟨rfl,rfl,trivial⟩,rfl⟩
   ·have:j=2 ^ b.cks.length:=by omega
    subst this
    have hpos:=odd_pos (b:=b) h2
    have hle2:=Zme b (2 ^ b.cks.length)
    obtain⟨A6,c6,f1,f2⟩:=Zex o6.own (by omega)
    have s6:=o6.sl
    subst f1
    have hd:=hls.at_ 0 (by omega) (by omega)
    refine wkT ?_
    refine ZaE s6 rfl rfl rfl (i:=0) (by omega) fun a ha=>?_
    refine wkT ?_
    refine Zaf (hs _) rfl ha ?_
    refine wkT ?_
    refine Zbu (lo:=1) (und u157) (tif t34) rfl rfl (by omega) ?_
    refine wkT ?_
    refine Zab (vs:=[vf 122,vs[0],_]) rfl (WaZ (hd.inc hG2) f2 ((hls.inc hG2).drop 1) (hcp _ (List.getElem_mem (by omega))) (fun x hx=>hcp x (List.mem_of_mem_drop hx)) (by simp;omega) (by have:=Zmd (b:=b) (j:=2 ^ b.cks.length) (List.getElem_mem (show 0<_ by omega));omega) (fun l hl=>by have:=Zmd (List.mem_of_mem_drop hl);omega) (hs _)) ?_
    rintro v _ ⟨rfl,hv,hvc⟩
    refine wkT ?_
    refine⟨hG.trans hG2,v,by rw[h1];rfl,?_,hvc⟩
    rw[if_pos ⟨h1,h2⟩,ZmQ,Zbd (by omega)]
    exact hv
end
end Go.Proofs
end
section
open Go Go.LL
namespace Go.Proofs
theorem sl_take {α:Type}[Enc α]{H:Hp}{A:Option Addr}{n c i:Nat}{l:List α}(h:SlAt H (.slice A n c) l)(hi:i<=l.length):SlAt H (.slice (if c=0 then A else A.map (·.add (0 * Enc.sz α))) (i-0) (c-0)) (l.take i):=by
 obtain⟨A',c',e,h2⟩:=h
 simp only[Value.slice.injEq]at e
 obtain⟨rfl,rfl,rfl⟩:=e
 refine⟨_,_,by rw[List.length_take,Nat.min_eq_left hi,Nat.sub_zero],fun hne=>?_⟩
 obtain⟨a,rfl,hc⟩:=h2 (by rintro rfl;simp at hne)
 have e1:encs l=encs (l.take i)++encs (l.drop i):=by rw[<-Zcf,List.take_append_drop]
 rw[e1]at hc
 refine⟨a,?_,ZbK hc⟩
 split
 ·rfl
 ·rw[Nat.zero_mul,Option.map_some,add_zero]
theorem sl_drop {α:Type}[Enc α]{H:Hp}{A:Option Addr}{n c i:Nat}{l:List α}(h:SlAt H (.slice A n c) l)(hc:n<=c)(hi:i<=l.length):SlAt H (.slice (if c=i then A else A.map (·.add (i * Enc.sz α))) (n-i) (c-i)) (l.drop i):=by
 obtain⟨A',c',e,h2⟩:=h
 simp only[Value.slice.injEq]at e
 obtain⟨rfl,rfl,rfl⟩:=e
 refine⟨_,_,by rw[List.length_drop],fun hne=>?_⟩
 have hlt:i<l.length:=by
  rcases Nat.lt_or_ge i l.length with h | h
  ·exact h
  ·exact absurd (List.drop_eq_nil_of_le h) hne
 obtain⟨a,rfl,hca⟩:=h2 (by rintro rfl;simp at hlt)
 have e1:encs l=encs (l.take i)++encs (l.drop i):=by rw[<-Zcf,List.take_append_drop]
 have e2:(encs (l.take i)).length=i * Enc.sz α:=by rw[Zcm,List.length_take,Nat.min_eq_left hi]
 rw[if_neg (by omega)]
 refine⟨_,rfl,Zlk (n:=i * Enc.sz α) hca ?_⟩
 rw[e1,List.drop_append,List.drop_eq_nil_of_le (by omega),e2]
 simp
theorem Wa0 {n:Nat}{l:List Int}(h:Asc n l){j:Nat}(hj:j<l.length):0<=l[j]∧l[j]<n:=h.2 _ (List.getElem_mem hj)
section
variable  {P:Prg}[Tz P][Loud P]{H:Hp}
set_option maxHeartbeats 8000000
set_option maxRecDepth 20000
theorem Wa3 {u w:Value}{a b:List Int}(ha:SlAt H u a)(hb:SlAt H w b)(hl:a.length<=1000000)(hl2:b.length<=1000000):LL.Zag P 135 #[u,w] H fun v H'=>H=H'∧v=vb (decide (cmpL a b<0)):=by
 have hs:∀ g,P.still g=false:=Loud.loud
 refine IsN.m (isn c135) (args:=[u,w]) rfl ?_
 unfold n135
 refine wkT ?_
 refine ZaX a.length (fun j H'=>H=H'∧j<=b.length∧cmpL a b=cmpL (a.drop j) (b.drop j)) (fun j=>[(0,u),(1,w),(5,vi j)]) (fun _=>[]) ⟨rfl,Nat.zero_le _,rfl⟩ ⟨rfl,rfl,rfl,trivial⟩ trivial ?_
 rintro j _ hj ⟨rfl,hjb,hall⟩
 refine wkT ?_
 refine Zav ha rfl ?_
 refine wkT ?_
 refine wiT (fun h1=>?_) (fun h1=>?_)
 ·have hj':j<a.length:=by omega
  rw[ZcI hj']at hall
  refine wkT ?_
  refine Zav hb rfl ?_
  refine wkT ?_
  refine wiT (fun h2=>?_) (fun h2=>?_)
  ·have hj2:j<b.length:=by omega
   rw[ZcI hj2]at hall
   refine wkT ?_
   refine ZaE ha rfl rfl rfl (i:=j) hj' fun p hp=>?_
   refine wkT ?_
   refine Zaf (hs _) rfl hp ?_
   refine wkT ?_
   refine ZaE hb rfl rfl rfl (i:=j) hj2 fun q hq=>?_
   refine wkT ?_
   refine Zaf (hs _) rfl hq ?_
   refine wkT ?_
   refine wiT (fun h3=>?_) (fun h3=>?_)
   ·refine wkT ?_
    refine ZaE ha rfl rfl rfl (i:=j) hj' fun p hp=>?_
    refine wkT ?_
    refine Zaf (hs _) rfl hp ?_
    refine wkT ?_
    refine ZaE hb rfl rfl rfl (i:=j) hj2 fun q hq=>?_
    refine wkT ?_
    refine Zaf (hs _) rfl hq ?_
    refine wkT ?_
    refine⟨rfl,?_⟩
    rw[hall]
    refine congrArg vb (decide_eq_decide.2 ?_)
    rw[Wab]
    omega
   ·refine wkT ?_
    refine Wam (I:=fun j H'=>H=H'∧j<=b.length∧cmpL a b=cmpL (a.drop j) (b.drop j)) (env:=fun j=>[(0,u),(1,w),(5,vi j)]) (box:=fun _=>[]) hj' ⟨rfl,hj2,?_⟩ ⟨rfl,rfl,rfl,trivial⟩ trivial rfl
    rw[hall,cmpL,cmpI,if_neg (by rw[if_neg (by omega),if_neg (by omega)];decide)]
  ·refine wkT ?_
   refine Zav ha rfl ?_
   refine wkT ?_
   refine Zav hb rfl ?_
   refine wkT ?_
   refine⟨rfl,?_⟩
   rw[List.drop_eq_nil_of_le (show b.length<=j by omega)]at hall
   rw[hall]
   refine congrArg vb (decide_eq_decide.2 ?_)
   rw[cmpL]
   omega
 ·have:j=a.length:=by omega
  subst this
  rw[List.drop_length]at hall
  refine wkT ?_
  refine Zav ha rfl ?_
  refine wkT ?_
  refine Zav hb rfl ?_
  refine wkT ?_
  refine⟨rfl,?_⟩
  rw[hall]
  refine congrArg vb (decide_eq_decide.2 ?_)
  rcases Nat.lt_or_ge a.length b.length with h | h
  ·rw[ZcI h,cmpL];omega
  ·rw[List.drop_eq_nil_of_le h,cmpL];omega
theorem Fewer_ok {u w:Value}{a b:List Int}(ha:SlAt H u a)(hb:SlAt H w b)(hl:a.length<=1000000)(hl2:b.length<=1000000):LL.Zag P 71 #[u,w] H fun v H'=>H=H'∧v=vb (fewF a b):=by
 have hs:∀ g,P.still g=false:=Loud.loud
 refine IsN.m (isn c71) (args:=[u,w]) rfl ?_
 unfold n71
 refine wkT ?_
 refine Zav ha rfl ?_
 refine wkT ?_
 refine Zav hb rfl ?_
 refine wkT ?_
 refine wiT (fun h1=>?_) (fun h1=>?_)
 ·refine wkT ?_
  exact⟨rfl,by rw[fewF,decide_eq_true (show a.length<b.length by omega)];rfl⟩
 ·refine wkT ?_
  refine Zav ha rfl ?_
  refine wkT ?_
  refine Zav hb rfl ?_
  refine wkT ?_
  refine wiT (fun h2=>?_) (fun h2=>?_)
  ·refine wkT ?_
   refine Zab (vs:=[u,w]) rfl (Wa3 ha hb hl hl2) ?_
   rintro v _ ⟨rfl,rfl⟩
   refine wkT ?_
   exact⟨rfl,by rw[fewF,decide_eq_false (show ¬ a.length<b.length by omega),decide_eq_true (show a.length=b.length by omega)];rfl⟩
  ·refine wkT ?_
   exact⟨rfl,by rw[fewF,decide_eq_false (show ¬ a.length<b.length by omega),decide_eq_false (show ¬ a.length=b.length by omega)];rfl⟩
theorem Wa1 {lv:Value}{l:List Int}{n:Nat}(hl:SlAt H lv l)(hA:Asc n l)(hn:n<=1000000)(hln:l.length<=1000000):LL.Zag P 68 #[lv,vi n] H fun v H'=>H=H'∧v=vi 0:=by
 have hs:∀ g,P.still g=false:=Loud.loud
 refine IsN.m (isn c68) (args:=[lv,vi n]) rfl ?_
 unfold n68
 refine wkT ?_
 refine ZaX l.length (fun j H'=>H=H') (fun j=>[(0,lv),(1,vi n),(5,vi j)]) (fun _=>[]) rfl ⟨rfl,rfl,rfl,trivial⟩ trivial ?_
 rintro j _ hj rfl
 refine wkT ?_
 refine Zav hl rfl ?_
 refine wkT ?_
 refine wiT (fun h1=>?_) (fun h1=>?_)
 ·have hj':j<l.length:=by omega
  have hr:=Wa0 hA hj'
  refine wkT ?_
  refine ZaE hl rfl rfl rfl (i:=j) hj' fun a ha=>?_
  refine wkT ?_
  refine Zaf (hs _) rfl ha ?_
  refine wkT ?_
  refine Zab (vs:=[vi l[j],vi 0,vi (n-1)]) rfl (Zm6 _ _ _) ?_
  rintro v _ ⟨rfl,rfl⟩
  rw[decide_eq_true (show (0:Int)<=l[j]∧l[j]<=(n:Int)-1 from ⟨by omega,by omega⟩)]
  refine wkT ?_
  refine wiT (fun h2=>?_) (fun h2=>?_)
  ·obtain⟨t,rfl⟩:∃ t,j=t+1:=⟨j-1,by omega⟩
   have et:((t+1:Nat):Int)-1=(t:Int):=by omega
   have hlt:=List.pairwise_iff_getElem.1 hA.1 t (t+1) (by omega) hj' (by omega)
   refine wkT ?_
   refine ZaE hl rfl rfl rfl (i:=t+1) hj' fun a ha=>?_
   refine wkT ?_
   refine Zaf (hs _) rfl ha ?_
   refine wkT ?_
   rw[et]
   refine ZaE hl rfl rfl rfl (i:=t) (by omega) fun a ha=>?_
   refine wkT ?_
   refine Zaf (hs _) rfl ha ?_
   refine wkT ?_
   refine wiT (fun h3=>?_) (fun h3=>?_)
   ·exact absurd h3 (by omega)
   refine wkT ?_
   exact Wam (I:=fun j H'=>H=H') (env:=fun j=>[(0,lv),(1,vi n),(5,vi j)]) (box:=fun _=>[]) hj' rfl ⟨rfl,rfl,rfl,trivial⟩ trivial rfl
  ·refine wkT ?_
   exact Wam (I:=fun j H'=>H=H') (env:=fun j=>[(0,lv),(1,vi n),(5,vi j)]) (box:=fun _=>[]) hj' rfl ⟨rfl,rfl,rfl,trivial⟩ trivial rfl
 ·refine wkT ?_
  exact⟨rfl,rfl⟩
theorem WaT {b:Bk}{l:List Int}{j:Nat}(hj:j<l.length):(l.take (j+1)).map (fun z=>ckAt b z.toNat)=(l.take j).map (fun z=>ckAt b z.toNat)++[ckAt b l[j].toNat]:=by
 rw[List.take_succ_eq_append_getElem hj,List.map_append];rfl
theorem WaM {bv lv:Value}{b:Bk}{l:List Int}(val:Zeo b)(hb:BkAt H bv b)(hl:SlAt H lv l)(hA:Asc b.cks.length l)(hln:l.length<=1000000):LL.Zag P 69 #[bv,lv] H fun v H'=>Inc H H'∧BkAt H' v (Wag b l):=by
 have hs:∀ g,P.still g=false:=Loud.loud
 have hck:=val.ckn
 obtain⟨pv,cv,rfl,hp,hc⟩:=hb
 obtain⟨Ap,cp,rfl,hp'⟩:=id hp
 obtain⟨Ac,cc,rfl,hc'⟩:=id hc
 refine IsN.m (isn c69) (args:=[.agg #[vi b.op,vi b.sl,.slice Ap b.pts.length cp,.slice Ac b.cks.length cc],lv]) rfl ?_
 unfold n69
 refine wkT ?_
 refine ZaP (α:=(Option Addr×Nat×Nat)×Option Nat) l.length (fun j s H'=>Inc H H'∧Own H H' 51 (.slice s.1.1 s.1.2.1 s.1.2.2) ((l.take j).map fun z=>ckAt b z.toNat) s.2)
  (fun j s=>[(1,lv),(2,vi 0),(4,vi 0),(5,vi 0),(6,vi j)]) (fun _ s=>[(2,[vi b.op,vi b.sl,.slice Ap b.pts.length cp,.slice Ac b.cks.length cc]),(4,[vi 0,vi 0,.slice none 0 0,.slice none 0 0]),(5,[vi b.op,vi b.sl,.slice Ap b.pts.length cp,.slice s.1.1 s.1.2.1 s.1.2.2])]) ((none,0,0),none) ⟨.refl _,.nil _ _ _⟩ ⟨rfl,rfl,rfl,rfl,rfl,trivial⟩ ⟨rfl,rfl,rfl,trivial⟩ ?_
 rintro j ⟨⟨A5,l5,c5⟩,b5⟩ H2 hj ⟨i2,o5⟩
 simp only at o5
 refine wkT ?_
 refine Zav (hl.inc i2) rfl ?_
 refine wkT ?_
 refine wiT (fun h1=>?_) (fun h1=>?_)
 ·have hj':j<l.length:=by omega
  have hsn:=WaT (b:=b) hj'
  have htl:((l.take j).map fun z=>ckAt b z.toNat).length=j:=by rw[List.length_map,List.length_take];omega
  have hr:=Wa0 hA hj'
  obtain⟨n,en⟩:∃ n:Nat,l[j]=n:=⟨l[j].toNat,by omega⟩
  have hnc:n<b.cks.length:=by omega
  have ec:ckAt b l[j].toNat=b.cks[n]:=by rw[en,Int.toNat_natCast];exact Zbd hnc _
  rw[ec]at hsn
  refine wkT ?_
  refine ZaE (hl.inc i2) rfl rfl rfl (i:=j) hj' fun a ha=>?_
  rw[en]at ha
  refine wkT ?_
  refine Zaf (hs _) rfl ha ?_
  refine wkT ?_
  refine ZaE (hc.inc i2) rfl rfl rfl (i:=n) hnc fun a2 ha2=>?_
  rw[ckE]at ha2
  refine wkT ?_
  refine Zao (hs _) rfl ha2 rfl ?_
  refine wkT ?_
  refine Zat (cs:=[vi b.cks[n].p,vi b.cks[n].gl,vi b.cks[n].gh]) (hs _) rfl fun r5 hr5=>?_
  refine kp_l hs ?_
  refine wkT ?_
  refine ZbW (l':=[b.cks[n]]) (und u23) (und u23) (tif t51) rfl (by decide) (i2.trans (Zaj hr5)) (o5.ins hr5) Zjc rfl (by rw[htl];simp only[List.length_singleton];omega) (by omega) rfl rfl (hs _) fun v7 H4 b7 k1 k2 k3=>?_
  rw[<-hsn]at k2
  obtain⟨A7,c7,rfl⟩:=own_len k2
  refine wkT ?_
  exact⟨(⟨j+1,by omega⟩,((A7,_,c7),b7)),Nat.sub_lt_sub_left (by omega) (Nat.lt_succ_self j),⟨k1,k2⟩,⟨rfl,rfl,rfl,rfl,rfl,trivial⟩,⟨rfl,rfl,rfl,trivial⟩,rfl⟩
 have:j=l.length:=by omega
 subst this
 rw[List.take_length]at o5
 refine wkT ?_
 exact⟨i2,_,_,rfl,hp.inc i2,o5.sl⟩
theorem WaR {lv:Value}{l:List Int}{i:Nat}(hl:SlAt H lv l)(hcap:WaA lv)(hi:i<l.length)(hln:l.length<=1000000):LL.Zag P 70 #[lv,vi i] H fun v H'=>Inc H H'∧∃ bb,Own H H' 3 v (l.take i++l.drop (i+1)) bb:=by
 have hs:∀ g,P.still g=false:=Loud.loud
 obtain⟨A,n,c,rfl,hcap⟩:=hcap
 have hnl:n=l.length:=by
  obtain⟨_,_,e,_⟩:=id hl
  simp only[Value.slice.injEq]at e
  exact e.2.1
 refine IsN.m (isn c70) (args:=[.slice A n c,vi i]) rfl ?_
 unfold n70
 have s1:=sl_take hl (i:=i) (by omega)
 have s2:=sl_drop hl hcap (i:=i+1) (by omega)
 have ei:(i:Int)+1=((i+1:Nat):Int):=by omega
 refine wkT ?_
 refine Zk1 (k:=.i64) (lo:=0) (hi:=i) (und u34) (tif t3) rfl (.inl ⟨rfl,rfl⟩) ⟨_,rfl,rfl⟩ (Nat.zero_le _) (by omega) ?_
 refine wkT ?_
 rw[ei]
 refine Zbu (lo:=i+1) (und u34) (tif t3) rfl rfl (by omega) ?_
 refine wkT ?_
 refine Zdw (und u34) (tif t3) (hs _) fun r1 hr1=>?_
 have o1:Own H (H.ins r1 (.cells #[] 3)) 3 (.slice (some ⟨r1,0,none⟩) 0 0) ([]:List Int) (some r1):=own_nil0 hr1
 have i1:Inc H (H.ins r1 (.cells #[] 3)):=Zaj hr1
 generalize H.ins r1 (.cells #[] 3)=H1 at *
 refine kp_l hs ?_
 refine wkT ?_
 refine ZbW (l':=l.take i) (und u34) (und u34) (tif t3) rfl (by decide) i1 o1 (s1.inc i1) (ints_one _) (by simp;omega) (by omega) rfl rfl (hs _) fun v2 H2 b2 i2 o2 _=>?_
 rw[List.nil_append]at o2
 refine kp_l hs ?_
 refine wkT ?_
 refine ZbW (l':=l.drop (i+1)) (und u34) (und u34) (tif t3) rfl (by decide) i2 o2 (s2.inc i2) (ints_one _) (by simp;omega) (by omega) rfl rfl (hs _) fun v3 H3 b3 i3 o3 _=>?_
 refine wkT ?_
 exact⟨i3,_,o3⟩
end
end Go.Proofs
end
section
open Go Go.LL
namespace Go.Proofs
end Go.Proofs
end
section
open Go Go.LL
namespace Go.LL
section
variable  {P:Prg}{H:Hp}{d:Option Nat}{next:NSt->Hp->Prop}{σ:NSt}{x y:Operand}
end
end Go.LL
namespace Go.Proofs
section
variable  {P:Prg}[Tz P]{H:Hp}{d:Option Nat}{next:NSt->Hp->Prop}{σ:NSt}{x y:Operand}
end
end Go.Proofs
end
section
open Go Go.LL
namespace Go.Proofs
theorem asc_len {l:List Int}{lo:Int}{k:Nat}(h:l.Pairwise (·<·))(h2:∀ z∈l,lo<=z∧z<lo+k):l.length<=k:=by
 have hm:∀ z∈l,z∈(List.range k).map fun (i:Nat)=>lo+(i:Int):=fun z hz=>by
  have:=h2 z hz
  exact List.mem_map.2 ⟨(z-lo).toNat,List.mem_range.2 (by omega),by omega⟩
 have:=Wah (l:=l) (h.imp fun h e=>by subst e;omega) hm
 rwa [List.length_map,List.length_range]at this
section
variable  {P:Prg}[Tz P][Loud P]{H:Hp}
set_option maxHeartbeats 8000000
set_option maxRecDepth 20000
end
end Go.Proofs
end
section
open Go Go.LL
namespace Go.Proofs
theorem shr8_v {m j:Nat}(hj:j<=8):bitV .shr .u8 (m:Int) (j:Int)=.int .u8 ((m / 2 ^ j:Nat):Int):=by
 show Value.int .u8 (Int.fdiv (m:Int) (2 ^ min (j:Int).toNat 8))=_
 have e:min (j:Int).toNat 8=j:=by omega
 rw[e]
 congr 1
 rw[Int.fdiv_eq_ediv_of_nonneg _ (by exact Int.le_of_lt (Int.pow_pos (by decide)))]
 simp
theorem and8_v {x:Nat}(hx:x<256):bitV .and .u8 (x:Int) 1=.int .u8 ((x % 2:Nat):Int):=by
 have h1:(BitVec.ofInt 8 (x:Nat)).toNat=x:=by simp[BitVec.toNat_ofInt];omega
 have h2:(BitVec.ofInt 8 (1:Int)).toNat=1:=rfl
 have h3:(BitVec.ofInt 8 (x:Nat) &&& BitVec.ofInt 8 1).toNat=x % 2:=by rw[BitVec.toNat_and,h1,h2,Nat.and_one_is_mod]
 show Value.int .u8 (IntKind.u8.wrap ((BitVec.ofInt 8 (x:Nat) &&& BitVec.ofInt 8 1).toNat:Nat))=_
 rw[h3]
 have:x % 2=0∨x % 2=1:=by omega
 rcases this with h | h<;>rw[h]<;>rfl
theorem Was {b:Bk}{l:List Int}:Zc9 (Wag b l)=true↔0<nB (Wag b l):=Wad
section
variable  {P:Prg}[Tz P][Loud P]{H:Hp}
set_option maxHeartbeats 16000000
set_option maxRecDepth 40000
theorem Clash2_v {bv:Value}{b:Bk}(v:Zeo b)(hb:BkAt H bv b)(hg:Za8 H):LL.Zag P 37 #[bv] H fun u H'=>Inc H H'∧∃ w,u=.tuple #[w,vi 0]∧SlAt H' w (if 0<nB b then [] else ZmQ b)∧WaA w:=
 LL.Zag.mono (Wa2 hb hg (by have:=v.n;omega) (by have:=v.ckn;omega)) fun u H' h=>⟨h.1,by
  obtain⟨w,e,hs,hc⟩:=h.2
  rw[WaL v]at e
  refine⟨w,e,?_,hc⟩
  by_cases h0:0<nB b
  ·rw[if_neg (fun hh=>by rw[Wad.2 h0]at hh;simp at hh)]at hs
   rw[if_pos h0];exact hs
  ·have hf:Zc9 b=false:=by rw[Bool.eq_false_iff];exact fun e=>h0 (Wad.1 e)
   rw[if_pos ⟨WaL v,hf⟩]at hs
   rw[if_neg h0];exact hs⟩
theorem War (hPP:P=PP){bv:Value}{b:Bk}{mi:Int}(hb:BkAt H bv b)(hm:0<=mi∧mi<256)(hg:Za8 H) :
  n11.m P (MFin P r11 fun v _=>v=vb true) (env0 [bv,.int .u8 mi]) H:=by
 have hs:∀ g,P.still g=false:=Loud.loud
 obtain⟨m,rfl⟩:∃ m:Nat,mi=m:=⟨mi.toNat,by omega⟩
 have hb0:=hb
 obtain⟨pv,cv,rfl,hp,hc⟩:=hb
 obtain⟨Ap,cp,rfl,hp'⟩:=id hp
 obtain⟨Ac,cc,rfl,hc'⟩:=id hc
 unfold n11
 refine wkT ?_
 refine Zab (vs:=[.agg #[vi b.op,vi b.sl,.slice Ap b.pts.length cp,.slice Ac b.cks.length cc]]) rfl (Fit_ok hb0) ?_
 rintro v _ ⟨rfl,rfl⟩
 refine wkT ?_
 refine wiT (fun h0=>?_) (fun h0=>?_)
 ·refine wkT ?_
  refine Zab (vs:=[]) rfl (spiled_okP hPP hg) ?_
  rintro v H1 ⟨_,rfl⟩
  refine wkT ?_
  rfl
 have val:=WaV h0
 have hn:=val.n
 have hck:=val.ckn
 refine wkT ?_
 refine Zab (vs:=[.agg #[vi b.op,vi b.sl,.slice Ap b.pts.length cp,.slice Ac b.cks.length cc]]) rfl (Clash2_v val hb0 hg) ?_
 rintro v H1 ⟨i1,w1,rfl,s1,hcap⟩
 refine wkT ?_
 refine Zab (vs:=[.agg #[vi b.op,vi b.sl,.slice Ap b.pts.length cp,.slice Ac b.cks.length cc]]) rfl (WaB val (hb0.inc i1) (CellsAt.inc hg i1)) ?_
 rintro v H2 ⟨j2,rfl⟩
 have i2:=i1.trans j2
 have hg2:=CellsAt.inc hg i2
 have hb2:=hb0.inc i2
 have s2:=s1.inc j2
 have hcl:¬ 0<nB b->Asc b.cks.length (ZmQ b)∧nB (Wag b (ZmQ b))=0∧0<(ZmQ b).length∧(ZmQ b).length<=3:=fun h=>by
  have hf:Zc9 b=false:=by rw[Bool.eq_false_iff];exact fun e=>h (Wad.1 e)
  obtain⟨g1,g2,_⟩:=Wae hf
  refine⟨g1,?_,List.length_pos_iff.2 (clash_ne val hf),?_⟩
  ·refine Classical.byContradiction fun e=>?_
   rw[Was.2 (by omega)]at g2;simp at g2
  ·have:=asc_len (lo:=0) (k:=b.cks.length) g1.1 fun z hz=>by have:=g1.2 z hz;omega
   omega
 have hL:Asc b.cks.length (if 0<nB b then [] else ZmQ b)∧(if 0<nB b then [] else ZmQ b).length<=3:=by
  by_cases h:0<nB b
  ·rw[if_pos h];exact⟨⟨.nil,by simp⟩,by simp⟩
  ·rw[if_neg h];exact⟨(hcl h).1,(hcl h).2.2.2⟩
 have hLn:(nB b:Int)=0↔((if 0<nB b then [] else ZmQ b).length:Int) > 0:=by
  by_cases h:0<nB b
  ·rw[if_pos h];simp;omega
  ·rw[if_neg h];have:=(hcl h).2.2.1;omega
 refine wkT ?_
 refine Zab (vs:=[w1,vi b.cks.length]) rfl (Wa1 s2 hL.1 (by omega) (by omega)) ?_
 rintro v _ ⟨rfl,rfl⟩
 refine wkT ?_
 refine Zav s2 rfl ?_
 refine wkT ?_
 refine om_neb rfl rfl ?_
 rw[ne_no hLn]
 refine wkT ?_
 refine wiT (fun h1=>?_) (fun h1=>?_)
 ·refine wkT ?_
  refine Zab (vs:=[]) rfl (spiled_okP hPP hg2) ?_
  rintro v H3 ⟨_,rfl⟩
  refine wkT ?_
  rfl
 have hz:¬ 0<nB b:=by omega
 rw[if_neg hz]at s2
 clear hL hLn s1
 obtain⟨c1,c2,c3,c4⟩:=hcl hz
 have hf:Zc9 b=false:=by rw[Bool.eq_false_iff];exact fun e=>hz (Wad.1 e)
 have hwo:=fun i (hi:i<(ZmQ b).length)=>Way hf hi
 have hmin:=(Wae hf).2.2
 have v1:=Wac val c1
 generalize ZmQ b=L at *
 refine wkT ?_
 refine Zab (vs:=[.agg #[vi b.op,vi b.sl,.slice Ap b.pts.length cp,.slice Ac b.cks.length cc],w1]) rfl (WaM val hb2 s2 c1 (by omega)) ?_
 rintro u3 H3 ⟨i3,hb3⟩
 refine wkT ?_
 refine Zab (vs:=[u3]) rfl (WaB v1 hb3 (CellsAt.inc hg2 i3)) ?_
 rintro v H4 ⟨j4,rfl⟩
 have i4:=i3.trans j4
 rw[c2]
 refine wkT ?_
 refine ZaX L.length (fun j H'=>Inc H2 H') (fun j=>[(1,.int .u8 m),(2,vi 0),(5,w1),(11,vi j)]) (fun _=>[(2,[vi b.op,vi b.sl,.slice Ap b.pts.length cp,.slice Ac b.cks.length cc])]) i4 ⟨rfl,rfl,rfl,rfl,trivial⟩ ⟨rfl,trivial⟩ ?_
 rintro j H5 hj i5
 refine wkT ?_
 refine Zav (s2.inc i5) rfl ?_
 refine wkT ?_
 refine wiT (fun h2=>?_) (fun h2=>?_)
 ·have hj':j<L.length:=by omega
  obtain⟨a1,a2⟩:=hwo j hj'
  have a3:=Was.1 a2
  have v5:=Wac val a1
  have al:(L.take j++L.drop (j+1)).length<=1000000:=by rw[List.length_append,List.length_take,List.length_drop];omega
  refine wkT ?_
  refine Zab (vs:=[w1,vi j]) rfl (WaR (s2.inc i5) hcap hj' (by omega)) ?_
  rintro u6 H6 ⟨i6,b6,o6⟩
  refine kp_l hs ?_
  refine wkT ?_
  refine Zab (vs:=[.agg #[vi b.op,vi b.sl,.slice Ap b.pts.length cp,.slice Ac b.cks.length cc],u6]) rfl (WaM val (hb2.inc (i5.trans i6)) o6.sl a1 al) ?_
  rintro u7 H7 ⟨i7,hb7⟩
  refine wkT ?_
  refine Zab (vs:=[u7]) rfl (WaB v5 hb7 (CellsAt.inc hg2 ((i5.trans i6).trans i7))) ?_
  rintro v H8 ⟨i8,rfl⟩
  refine wkT ?_
  refine wiT (fun h3=>?_) (fun h3=>?_)
  ·exact absurd h3 (by omega)
  refine wkT ?_
  exact Wam (I:=fun j H'=>Inc H2 H') (env:=fun j=>[(1,.int .u8 m),(2,vi 0),(5,w1),(11,vi j)]) (box:=fun _=>[(2,[vi b.op,vi b.sl,.slice Ap b.pts.length cp,.slice Ac b.cks.length cc])]) hj' (((i5.trans i6).trans i7).trans i8) ⟨rfl,rfl,rfl,rfl,trivial⟩ ⟨rfl,trivial⟩ rfl
 refine wkT ?_
 refine ZaP (α:=Value×Option Nat) b.cks.length (fun j s H'=>Inc H2 H'∧Own H2 H' 3 s.1 (ZcL m j) s.2) (fun j s=>[(1,.int .u8 m),(2,vi 0),(5,w1),(14,s.1),(15,vi j)]) (fun _ _=>[(2,[vi b.op,vi b.sl,.slice Ap b.pts.length cp,.slice Ac b.cks.length cc])]) (.slice none 0 0,none) ⟨i5,.nil _ _ _⟩ ⟨rfl,rfl,rfl,rfl,rfl,trivial⟩ ⟨rfl,trivial⟩ ?_
 rintro t ⟨v14,b14⟩ H6 ht ⟨i6,o14⟩
 simp only at o14
 refine wkT ?_
 refine wiT (fun h3=>?_) (fun h3=>?_)
 ·have ht':t<b.cks.length:=by omega
  have hms:=Zmm m t
  have lN:(ZcL m t).length<=t:=by rw[ZcL,List.length_map];exact Zfv m t
  refine wkT ?_
  refine Zcc rfl rfl (.inl rfl) (by omega) (shr8_v (by omega)) ?_
  refine wkT ?_
  refine ZfY (v:=.int .u8 ((m / 2 ^ t % 2:Nat):Int)) rfl rfl (.inl rfl) (and8_v (Nat.lt_of_le_of_lt (Nat.div_le_self _ _) (by omega))) ?_
  refine wkT ?_
  refine wiT (fun h4=>?_) (fun h4=>?_)
  ·have hb1:m.testBit t=true:=(bit_of m t).1 (by omega)
   rw[hb1,if_pos rfl]at hms
   have eN:ZcL m (t+1)=ZcL m t++[(t:Int)]:=by rw[ZcL,hms,List.map_append];rfl
   refine wkT ?_
   refine Zat (cs:=[vi t]) (hs _) rfl fun r5 hr5=>?_
   refine wkT ?_
   refine ZbW (l':=[(t:Int)]) (und u34) (und u34) (tif t3) rfl (by decide) (i6.trans (Zaj hr5)) (o14.ins hr5) ints_1 rfl (by simp only[List.length_singleton];omega) (by omega) rfl rfl (hs _) fun v7 H7 b7 k1 k2 k3=>?_
   rw[<-eN]at k2
   refine wkT ?_
   exact⟨(⟨t+1,by omega⟩,(v7,b7)),Nat.sub_lt_sub_left (by omega) (Nat.lt_succ_self t),⟨k1,k2⟩,⟨rfl,rfl,rfl,rfl,rfl,trivial⟩,⟨rfl,trivial⟩,rfl⟩
  ·have hb1:m.testBit t=false:=by
    rw[Bool.eq_false_iff]
    exact fun e=>h4 (by rw[(bit_of m t).2 e];rfl)
   rw[hb1]at hms
   simp only[Bool.false_eq_true,if_false,List.append_nil]at hms
   have eN:ZcL m (t+1)=ZcL m t:=by rw[ZcL,hms];rfl
   refine wkT ?_
   exact⟨(⟨t+1,by omega⟩,(v14,b14)),Nat.sub_lt_sub_left (by omega) (Nat.lt_succ_self t),⟨i6,by rw[eN];exact o14⟩,⟨rfl,rfl,rfl,rfl,rfl,trivial⟩,⟨rfl,trivial⟩,rfl⟩
 have:t=b.cks.length:=by omega
 subst this
 have hA:=WaK m b.cks.length
 have lN:(ZcL m b.cks.length).length<=b.cks.length:=by rw[ZcL,List.length_map];exact Zfv m _
 have v6:=Wac val hA
 have hmn:=hmin _ hA
 refine wkT ?_
 refine Zab (vs:=[.agg #[vi b.op,vi b.sl,.slice Ap b.pts.length cp,.slice Ac b.cks.length cc],v14]) rfl (WaM val (hb2.inc i6) o14.sl hA (by omega)) ?_
 rintro u7 H7 ⟨i7,hb7⟩
 refine wkT ?_
 refine Zab (vs:=[u7]) rfl (WaB v6 hb7 (CellsAt.inc hg2 (i6.trans i7))) ?_
 rintro v H8 ⟨i8,rfl⟩
 have i9:=(i6.trans i7).trans i8
 refine wkT ?_
 refine wiT (fun h5=>?_) (fun h5=>?_)
 ·refine wkT ?_
  refine Zab (vs:=[]) rfl (spiled_okP hPP (CellsAt.inc hg2 i9)) ?_
  rintro v H9 ⟨_,rfl⟩
  refine wkT ?_
  rfl
 ·have hno:Zc9 (Wag b (ZcL m b.cks.length))=false:=by
   rw[Bool.eq_false_iff]
   exact fun e=>h5 (by have:=Was.1 e;omega)
  have hfw:fewF (ZcL m b.cks.length) L=false:=by
   rw[Bool.eq_false_iff]
   exact hmn hno
  refine wkT ?_
  refine Zab (vs:=[v14,w1]) rfl (Fewer_ok (o14.sl.inc (i7.trans i8)) (s2.inc i9) (by omega) (by omega)) ?_
  rintro v _ ⟨rfl,rfl⟩
  rw[hfw]
  refine wkT ?_
  refine Zab (vs:=[]) rfl (spiled_okP hPP (CellsAt.inc hg2 i9)) ?_
  rintro v H9 ⟨_,rfl⟩
  refine wkT ?_
  rfl
end
end Go.Proofs
end
section
open Go Go.LL Go.Conc Go.ConcM
namespace Go.Proofs.YtamdhefhhdgjbaaGreatDoor
open Go.ChangeShapes Go.WideShapes Go.ChangeAt Go.RowKit
set_option maxRecDepth 100000 in
theorem Waf (os:Os)(started:os.Started)(H:Type)(enc:TypeId×Value->H)(F:Stop.Interp) :
  ReturnsInLeavingWide { calm:=true } Tryz.checked os 11 .any (fun w args=>(Rows.spileClashesSpec.pre enc Tryz.prog Tryz.f11 [] false w args∧laidMetH Tryz.prog [("ribband/spile.checks",Rows.laid_ribband_spile_checks)] w)∧sizedMet enc Tryz.prog Tryz.f11 (OpenSpec.ofChange Rows.spileClashesSpec) false w args)
   ((OpenSpec.ofChange Rows.spileClashesSpec).postWith enc Tryz.prog Tryz.f11 F (outsideKept [.timePasses]) false true false):=by
 refine law_lifted os started F rfl Tryz.func11 Tryz.results11 (by kernel_rfl) (by kernel_rfl) ?_ ?_ ?_ #[.agg #[.int .i64 0,.int .i64 0,.slice none 0 0,.slice none 0 0],.int .u8 0] (by kernel_rfl) (by kernel_rfl) (by kernel_rfl)
 ·intro ds hl
  rw[Tryz.params11]at hl
  match ds,hl with
  | [d0,d1],_=>rfl
 ·have h:(Tryz.f11.params.toList.all fun t=>Tryz.prog.readableRec t && decide (t<Tryz.prog.types.size))=true:=by kernel_rfl
  intro t ht
  simpa using List.all_eq_true.1 h t ht
 ·intro W base args ds p hval hA hg
  rw[Tryz.params11]at hA hval
  obtain⟨v0,w0,d0,e0,p0,q0,ha,rfl,rfl,h0,r0⟩:=trodAll_cons hA
  obtain⟨v1,w1,d1,e1,p1,q1,rfl,rfl,rfl,h1,r1⟩:=trodAll_cons r0
  obtain⟨rfl,rfl,rfl⟩:=trodAll_nil r1
  obtain rfl:args=#[v0,v1]:=by cases args;simp_all
  obtain⟨b0,k0⟩:=bk_open (hval 0 25 v0 rfl rfl) h0
  obtain⟨n1,rfl,k1a,k1b⟩:=u8_open (hval 1 5 v1 rfl rfl) h1
  exact reach_top (args:=[v0,.int .u8 n1]) (isn c11) Tryz.func11 Tryz.results11 rfl (War rfl k0 ⟨k1a,k1b⟩ hg)
theorem spileClashes_holds:Rows.SpileClashesSaid:=
 OpenClaim.holds_of_wide_leaving_time 11 Tryz.f11 rfl rfl rfl rfl rfl rfl rfl ⟨rfl,rfl,rfl,rfl,rfl⟩ rfl rfl rfl rfl rfl Waq Tryz.func11 Wap Wao Wan
  (fun os started H enc _ F=>Waf os started H enc F)
theorem spileClashes_card:Rows.SpileClashesCardSaid:=
 ZmC .later [.funcs] true (true,"7d20c1c653d3570dc0b3adced23199ecfee38ebbf859018ae9f3ecca83f03cb8") false
  spileClashes_holds (by kernel_rfl) spileClashes_row_tie rfl ⟨rfl,rfl⟩ (by kernel_rfl) rfl
  (fun f fn hf hfn=>by
   obtain rfl:f=11:=Option.some.inj (Waq.symm.trans hf) |>.symm
   obtain rfl:fn=Tryz.f11:=(Option.some.inj (Tryz.func11.symm.trans hfn)).symm
   exact⟨by kernel_rfl,fun j t ht=>by
    have hall:(Tryz.f11.params.all fun u=>!Tryz.prog.wantsStandIn u)=true:=by kernel_rfl
    have hm:=Array.mem_of_getElem? ht
    exact(show Tryz.prog.wantsStandIn t=false by simpa using (Array.all_eq_true_iff_forall_mem.1 hall) t hm)⟩)
  (by kernel_rfl)
end Go.Proofs.YtamdhefhhdgjbaaGreatDoor
end
