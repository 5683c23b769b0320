import Derived.Test.YthmnpenamnoniaaGreatDoorSw02
set_option linter.all false
section
open Go Go.LL
namespace Go.Proofs
abbrev bdV (x:MBd):Value:=.agg #[.string x.nm,vi x.lg,.slice x.A x.kn.length x.c]
section
variable  {P:Prg}[Tz P][Loud P]{H:Hp}
set_option maxHeartbeats 8000000
set_option maxRecDepth 20000
theorem Waz {bv:Value}{l:List MBd}{x:MBd}(hl:SlAt H bv l)(hn:l.length<=20)(hk:SlAt H (.slice x.A x.kn.length x.c) x.kn):LL.Zag P 128 #[bv,bdV x] H fun v H'=>H=H'∧∃ s,v=vi s∧(s=0->BdOk l x):=by
 have hs:=Loud.loud (P:=P)
 have no:∀ n:Int,n≠0->∃ s,vi n=vi s∧(s=0->BdOk l x):=fun n h=>⟨n,rfl,fun e=>absurd e h⟩
 refine IsN.m (isn c1128) (args:=[bv,bdV x]) rfl ?_
 unfold n1128
 refine wkT ?_
 refine Zab (vs:=[.string x.nm]) rfl (WaN _) ?_
 rintro v _ ⟨rfl,b,rfl,hb⟩
 refine wkT ?_
 refine wiT (fun h1=>?_) (fun h1=>?_)
 ·refine wkT ?_
  exact⟨rfl,no 4 (by decide)⟩
 have hnm:=hb h1
 refine wkT ?_
 refine ZaW l.length (fun k H'=>H=H'∧∀ i (hi:i<k) (h:i<l.length),(l[i].nm.toList == x.nm.toList)=false) (fun k=>[(0,bv),(3,vi 0),(5,vi k)]) (fun _=>[(3,[.string x.nm,vi x.lg,.slice x.A x.kn.length x.c])]) ⟨rfl,by omega⟩ ⟨rfl,rfl,rfl,trivial⟩ ⟨rfl,trivial⟩ ?_
 rintro k _ hk2 ⟨rfl,hU⟩
 refine wkT ?_
 refine Zau hl rfl ?_
 refine wkT ?_
 refine wiT (fun h2=>?_) (fun h2=>?_)
 ·have hk':k<l.length:=by omega
  have rowK:Enc.enc l[k]=[.string l[k].nm,vi l[k].lg,.slice l[k].A l[k].kn.length l[k].c]:=rfl
  refine wkT ?_
  refine ZaE hl rfl rfl rfl (i:=k) hk' fun a2 ha2=>?_
  rw[rowK]at ha2
  refine wkT ?_
  refine Zaf (hs _) rfl (by rw[add_zero];exact ZbK (ds:=[vi l[k].lg,.slice l[k].A l[k].kn.length l[k].c]) ha2) ?_
  refine wkT ?_
  refine Waj rfl rfl ?_
  refine wkT ?_
  refine wiT (fun h5=>?_) (fun h5=>?_)
  ·refine wkT ?_
   exact⟨rfl,no 5 (by decide)⟩
  refine wkT ?_
  exact⟨⟨k+1,by omega⟩,slt (by omega),⟨rfl,fun i hi h=>by
   rcases Nat.lt_succ_iff_lt_or_eq.1 hi with h' | rfl
   ·exact hU i h' h
   ·exact h5⟩,⟨rfl,rfl,rfl,trivial⟩,⟨rfl,trivial⟩,rfl⟩
 refine wkT ?_
 refine Zab (vs:=[vi x.lg,vi 1,vi 40]) rfl (Zm1 _ _ _) ?_
 rintro v _ ⟨rfl,rfl⟩
 refine wkT ?_
 refine wiT (fun h3=>?_) (fun h3=>?_)
 ·refine wkT ?_
  exact⟨rfl,no 1 (by decide)⟩
 refine wkT ?_
 refine wiT (fun h4=>?_) (fun h4=>?_)
 ·refine wkT ?_
  exact⟨rfl,no 2 (by decide)⟩
 refine wkT ?_
 refine ZaW x.kn.length (fun j H'=>H=H'∧(∀ i (hi:i<j) (h:i<x.kn.length),0<=x.kn[i].lo∧x.kn[i].lo<=x.kn[i].hi∧x.kn[i].hi<=x.lg-1)∧∀ i (hi:i+1<j) (h:i+1<x.kn.length),x.kn[i].hi<x.kn[i+1].lo) (fun j=>[(3,vi 0),(6,vi j)]) (fun _=>[(3,[.string x.nm,vi x.lg,.slice x.A x.kn.length x.c])]) ⟨rfl,by omega,by omega⟩ ⟨rfl,rfl,trivial⟩ ⟨rfl,trivial⟩ ?_
 rintro j _ hj ⟨rfl,hI,hR⟩
 refine wkT ?_
 refine wiT (fun h6=>?_) (fun h6=>?_)
 ·have hj':j<x.kn.length:=by omega
  have rowJ:Enc.enc x.kn[j]=[vi x.kn[j].lo,vi x.kn[j].hi]:=rfl
  refine wkT ?_
  refine ZaE hk rfl rfl rfl (i:=j) hj' fun a ha=>?_
  refine wkT ?_
  refine Zao (cs:=[vi x.kn[j].lo,vi x.kn[j].hi]) (hs _) rfl ha rfl ?_
  refine wkT ?_
  refine Zab (vs:=[.agg #[vi x.kn[j].lo,vi x.kn[j].hi],vi 0,vi (x.lg-1)]) rfl (Zgk _ _ _ _) ?_
  rintro v _ ⟨rfl,rfl⟩
  refine wkT ?_
  refine wiT (fun h7=>?_) (fun h7=>?_)
  ·refine wkT ?_
   exact⟨rfl,no 1 (by decide)⟩
  have nextI:∀ i (hi:i<j+1) (h:i<x.kn.length),0<=x.kn[i].lo∧x.kn[i].lo<=x.kn[i].hi∧x.kn[i].hi<=x.lg-1:=fun i hi h=>by
   rcases Nat.lt_succ_iff_lt_or_eq.1 hi with h' | rfl
   ·exact hI i h' h
   ·exact h7
  refine wkT ?_
  refine wiT (fun h8=>?_) (fun h8=>?_)
  ·obtain⟨t,rfl⟩:∃ t,j=t+1:=⟨j-1,by omega⟩
   have et:((t+1:Nat):Int)-1=(t:Int):=by omega
   refine wkT ?_
   refine ZaE hk rfl rfl rfl (i:=t+1) hj' fun a ha=>?_
   refine wkT ?_
   refine Zaf (hs _) rfl (by rw[add_zero];exact ZbK (ds:=[vi x.kn[t+1].hi]) ha) ?_
   refine wkT ?_
   rw[et]
   refine ZaE hk rfl rfl rfl (i:=t) (by omega) fun a ha=>?_
   refine wkT ?_
   refine Zaf (hs _) rfl (Zlf (cs:=[vi (x.kn[t]'(by omega)).lo,vi (x.kn[t]'(by omega)).hi]) ha rfl) ?_
   refine wkT ?_
   refine wiT (fun h9=>?_) (fun h9=>?_)
   ·refine wkT ?_
    exact⟨rfl,no 7 (by decide)⟩
   refine wkT ?_
   exact⟨⟨t+1+1,by omega⟩,Nat.sub_lt_sub_left (by omega) (Nat.lt_succ_self (t+1)),⟨rfl,nextI,fun i hi h=>by
    rcases Nat.lt_succ_iff_lt_or_eq.1 hi with h' | h'
    ·exact hR i h' h
    ·obtain rfl:i=t:=by omega
     omega⟩,⟨rfl,rfl,trivial⟩,⟨rfl,trivial⟩,rfl⟩
  ·refine wkT ?_
   exact⟨⟨j+1,by omega⟩,slt (by omega),⟨rfl,nextI,fun i hi h=>by have hi2:i+1<j+1:=hi;omega⟩,⟨rfl,rfl,trivial⟩,⟨rfl,trivial⟩,rfl⟩
 ·refine wkT ?_
  exact⟨rfl,0,rfl,fun _=>⟨hnm,fun q hq=>hU q (by omega) hq,h3,by omega,fun i hi=>hI i (by omega) hi,fun i hi=>hR i (by omega) hi⟩⟩
theorem Wa6 {lv:Value}{l:List Int}{n:Nat}(hl:SlAt H lv l)(hn:n<=1000000)(hln:l.length<=1000000):LL.Zag P 179 #[lv,vi n] H fun v H'=>H=H'∧∃ s,v=vi s∧(s=0->(∀ j (hj:j<l.length),0<=l[j]∧l[j]<=(n:Int)-1)∧∀ j (hj:j+1<l.length),l[j]<l[j+1]):=by
 have hs:=Loud.loud (P:=P)
 have no:∀ m:Int,m≠0->∃ s,vi m=vi s∧(s=0->(∀ j (hj:j<l.length),0<=l[j]∧l[j]<=(n:Int)-1)∧∀ j (hj:j+1<l.length),l[j]<l[j+1]):=fun n h=>⟨n,rfl,fun e=>absurd e h⟩
 refine IsN.m (isn c68) (args:=[lv,vi n]) rfl ?_
 unfold n68
 refine wkT ?_
 refine ZaW l.length (fun j H'=>H=H'∧(∀ i (hi:i<j) (h:i<l.length),0<=l[i]∧l[i]<=(n:Int)-1)∧∀ i (hi:i+1<j) (h:i+1<l.length),l[i]<l[i+1]) (fun j=>[(0,lv),(1,vi n),(5,vi j)]) (fun _=>[]) ⟨rfl,by omega,by omega⟩ ⟨rfl,rfl,rfl,trivial⟩ trivial ?_
 rintro j _ hj ⟨rfl,hI,hR⟩
 refine wkT ?_
 refine Zau hl rfl ?_
 refine wkT ?_
 refine wiT (fun h1=>?_) (fun h1=>?_)
 ·have hj':j<l.length:=by omega
  refine wkT ?_
  refine ZaE hl rfl rfl rfl (i:=j) hj' fun a ha=>?_
  refine wkT ?_
  refine Zaf (hs _) rfl ha ?_
  refine wkT ?_
  refine Zab (vs:=[vi l[j],vi 0,vi (n-1)]) rfl (Zm1 _ _ _) ?_
  rintro v _ ⟨rfl,rfl⟩
  refine wkT ?_
  refine wiT (fun h3=>?_) (fun h3=>?_)
  ·refine wkT ?_
   exact⟨rfl,no 6 (by decide)⟩
  have nextI:∀ i (hi:i<j+1) (h:i<l.length),0<=l[i]∧l[i]<=(n:Int)-1:=fun i hi h=>by
   rcases Nat.lt_succ_iff_lt_or_eq.1 hi with h' | rfl
   ·exact hI i h' h
   ·exact h3
  refine wkT ?_
  refine wiT (fun h2=>?_) (fun h2=>?_)
  ·obtain⟨t,rfl⟩:∃ t,j=t+1:=⟨j-1,by omega⟩
   have et:((t+1:Nat):Int)-1=(t:Int):=by omega
   refine wkT ?_
   refine ZaE hl rfl rfl rfl (i:=t+1) hj' fun a ha=>?_
   refine wkT ?_
   refine Zaf (hs _) rfl ha ?_
   refine wkT ?_
   rw[et]
   refine ZaE hl rfl rfl rfl (i:=t) (by omega) fun a ha=>?_
   refine wkT ?_
   refine Zaf (hs _) rfl ha ?_
   refine wkT ?_
   refine wiT (fun h4=>?_) (fun h4=>?_)
   ·refine wkT ?_
    exact⟨rfl,no 7 (by decide)⟩
   refine wkT ?_
   exact⟨⟨t+1+1,by omega⟩,Nat.sub_lt_sub_left (by omega) (Nat.lt_succ_self (t+1)),⟨rfl,nextI,fun i hi h=>by
    rcases Nat.lt_succ_iff_lt_or_eq.1 hi with h' | h'
    ·exact hR i h' h
    ·obtain rfl:i=t:=by omega
     omega⟩,⟨rfl,rfl,rfl,trivial⟩,trivial,rfl⟩
  ·refine wkT ?_
   exact⟨⟨j+1,by omega⟩,slt (by omega),⟨rfl,nextI,fun i hi h=>by have hi2:i+1<j+1:=hi;omega⟩,⟨rfl,rfl,rfl,trivial⟩,trivial,rfl⟩
 ·refine wkT ?_
  exact⟨rfl,0,rfl,fun _=>⟨fun i hi=>hI i (by omega) hi,fun i hi=>hR i (by omega) hi⟩⟩
theorem Way {m:MBk}(hm:MbAt H m)(h1:m.pc.length<=20)(h3:∀ t∈m.tp,t.pl.length<=20):LL.Zag P 129 #[m.v] H fun v H'=>H=H'∧∃ s,v=vi s∧(s=0->m.tp.length<=4∧∀ i (hi:i<m.tp.length),TpOk m.pc.length m.tp[i]):=by
 have hs:=Loud.loud (P:=P)
 have no:∀ n:Int,n≠0->∃ s,vi n=vi s∧(s=0->m.tp.length<=4∧∀ i (hi:i<m.tp.length),TpOk m.pc.length m.tp[i]):=fun n h=>⟨n,rfl,fun e=>absurd e h⟩
 refine IsN.m (isn c1129) (args:=[m.v]) rfl ?_
 unfold n1129 MBk.v
 refine wkT ?_
 refine wiT (fun h4=>?_) (fun h4=>?_)
 ·refine wkT ?_
  exact⟨rfl,no 2 (by decide)⟩
 refine wkT ?_
 refine ZaW m.tp.length (fun j H'=>H=H'∧∀ i (hi:i<j) (h:i<m.tp.length),TpOk m.pc.length m.tp[i]) (fun j=>[(1,vi 0),(3,vi j)]) (fun _=>[(1,[vi m.saw,.slice m.A1 m.pc.length m.c1,.slice m.A2 m.bd.length m.c2,.slice m.A3 m.tp.length m.c3])]) ⟨rfl,by omega⟩ ⟨rfl,rfl,trivial⟩ ⟨rfl,trivial⟩ ?_
 rintro j _ hj ⟨rfl,hI⟩
 refine wkT ?_
 refine wiT (fun h5=>?_) (fun h5=>?_)
 ·have hj':j<m.tp.length:=by omega
  have hmem:=List.getElem_mem hj'
  have hpl:=hm.pl _ hmem
  have hp20:=h3 _ hmem
  refine wkT ?_
  refine ZaE hm.tp rfl rfl rfl (i:=j) hj' fun a ha=>?_
  generalize ht:m.tp[j]=t at *
  refine wkT ?_
  refine Zao (cs:=[.slice t.A t.pl.length t.c,vi t.lo,vi t.hi]) (hs _) rfl ha rfl ?_
  refine wkT ?_
  refine wiT (fun h6=>?_) (fun h6=>?_)
  ·refine wkT ?_
   exact⟨rfl,no 2 (by decide)⟩
  refine wkT ?_
  refine Zab (vs:=[.slice t.A t.pl.length t.c,vi m.pc.length]) rfl (Wa6 hpl (by omega) (by omega)) ?_
  rintro v _ ⟨rfl,s,rfl,hR⟩
  refine wkT ?_
  refine wiT (fun h7=>?_) (fun h7=>?_)
  ·refine wkT ?_
   exact⟨rfl,no s h7⟩
  obtain⟨r1,r2⟩:=hR h7
  refine wkT ?_
  refine Zab (vs:=[.agg #[vi t.lo,vi t.hi],vi 0,vi 120]) rfl (Zgk _ _ _ _) ?_
  rintro v _ ⟨rfl,rfl⟩
  refine wkT ?_
  refine wiT (fun h8=>?_) (fun h8=>?_)
  ·refine wkT ?_
   exact⟨rfl,no 1 (by decide)⟩
  refine wkT ?_
  exact⟨⟨j+1,by omega⟩,slt (by omega),⟨rfl,fun i hi h=>by
   rcases Nat.lt_succ_iff_lt_or_eq.1 hi with h' | rfl
   ·exact hI i h' h
   ·rw[ht];exact⟨fun e=>h6 (by rw[e];rfl),r1,r2,h8⟩⟩,⟨rfl,rfl,trivial⟩,⟨rfl,trivial⟩,rfl⟩
 ·refine wkT ?_
  exact⟨rfl,0,rfl,fun _=>⟨by omega,fun i hi=>hI i (by omega) hi⟩⟩
theorem WaO {α:Type}[Enc α]{A:Option Addr}{l:List α}{n c i:Nat}(h:SlAt H (.slice A n c) l)(hi:i<=l.length):SlAt H (.slice A i c) (l.take i):=by
 obtain⟨A',c',e,h2⟩:=h
 simp only[Value.slice.injEq]at e
 obtain⟨rfl,rfl,rfl⟩:=e
 refine⟨A,c,by rw[List.length_take,Nat.min_eq_left hi],fun hn=>?_⟩
 obtain⟨a,ha,hc⟩:=h2 (by rintro rfl;simp at hn)
 refine⟨a,ha,ZbK (ds:=encs (l.drop i)) ?_⟩
 rw[<-Zcd,List.take_append_drop];exact hc
theorem cut0 {A:Option Addr}{c s:Nat}:(if c=0 then A else A.map (·.add (0 * s)))=A:=by
 split
 ·rfl
 ·rw[Nat.zero_mul]
  cases A with
  | none=>rfl
  | some a=>exact congrArg some (add_zero a)
theorem u45:Tryz.prog.underlying 45=some (.slice 132):=by kernel_rfl
theorem u44:Tryz.prog.underlying 44=some (.slice 214):=by kernel_rfl
theorem t132:tiOf Tryz.prog 132=some (3,some (.agg #[.string ⟨#[]⟩,vi 0,.slice none 0 0]),48):=by kernel_rfl
theorem t214:tiOf Tryz.prog 214=some (4,some (.agg #[.string ⟨#[]⟩,vi 0,vi 0,vi 0]),40):=by kernel_rfl
theorem WaP {m:MBk}(hm:MbAt H m)(h1:m.pc.length<=20)(h2:m.bd.length<=20)(h3:∀ t∈m.tp,t.pl.length<=20):LL.Zag P 58 #[m.v] H fun v H'=>H=H'∧∃ s,v=vi s∧(s=0->MOk m):=by
 have hs:=Loud.loud (P:=P)
 have no:∀ n:Int,n≠0->∃ s,vi n=vi s∧(s=0->MOk m):=fun n h=>⟨n,rfl,fun e=>absurd e h⟩
 refine IsN.m (isn c1058) (args:=[m.v]) rfl ?_
 unfold n1058 MBk.v
 refine wkT ?_
 refine Zab (vs:=[vi m.saw,vi 0,vi 3]) rfl (Zm1 _ _ _) ?_
 rintro v _ ⟨rfl,rfl⟩
 refine wkT ?_
 refine wiT (fun h4=>?_) (fun h4=>?_)
 ·refine wkT ?_
  exact⟨rfl,no 1 (by decide)⟩
 refine wkT ?_
 refine Zab (vs:=[.slice m.A1 m.pc.length m.c1]) rfl (Wao hm.pc h1) ?_
 rintro v _ ⟨rfl,s,rfl,hP⟩
 refine wkT ?_
 refine wiT (fun h5=>?_) (fun h5=>?_)
 ·refine wkT ?_
  exact⟨rfl,no s h5⟩
 obtain⟨p1,p2⟩:=hP h5
 refine wkT ?_
 refine wiT (fun h6=>?_) (fun h6=>?_)
 ·refine wkT ?_
  exact⟨rfl,no 2 (by decide)⟩
 refine wkT ?_
 refine ZaW m.bd.length (fun j H'=>H=H'∧∀ i (hi:i<j) (h:i<m.bd.length),BdOk (m.bd.take i) m.bd[i]) (fun j=>[(1,vi 0),(4,vi j)]) (fun _=>[(1,[vi m.saw,.slice m.A1 m.pc.length m.c1,.slice m.A2 m.bd.length m.c2,.slice m.A3 m.tp.length m.c3])]) ⟨rfl,by omega⟩ ⟨rfl,rfl,trivial⟩ ⟨rfl,trivial⟩ ?_
 rintro j _ hj ⟨rfl,hI⟩
 refine wkT ?_
 refine wiT (fun h7=>?_) (fun h7=>?_)
 ·have hj':j<m.bd.length:=by omega
  have hkn:=hm.kn _ (List.getElem_mem hj')
  refine wkT ?_
  refine ZkW (k:=.i64) (lo:=0) (hi:=j) (und u45) (tif t132) rfl (.inl ⟨rfl,rfl⟩) ⟨_,rfl,rfl⟩ (Nat.zero_le _) (by have:=hm.q2;omega) ?_
  rw[cut0,Nat.sub_zero,Nat.sub_zero]
  refine wkT ?_
  refine ZaE hm.bd rfl rfl rfl (i:=j) hj' fun a ha=>?_
  refine wkT ?_
  refine Zao (cs:=[.string m.bd[j].nm,vi m.bd[j].lg,.slice m.bd[j].A m.bd[j].kn.length m.bd[j].c]) (hs _) rfl ha rfl ?_
  refine wkT ?_
  refine Zab (vs:=[.slice m.A2 j m.c2,bdV m.bd[j]]) rfl (Waz (WaO hm.bd (Nat.le_of_lt hj')) (by rw[List.length_take];omega) hkn) ?_
  rintro v _ ⟨rfl,s2,rfl,hB⟩
  refine wkT ?_
  refine wiT (fun h8=>?_) (fun h8=>?_)
  ·refine wkT ?_
   exact⟨rfl,no s2 h8⟩
  refine wkT ?_
  exact⟨⟨j+1,by omega⟩,slt (by omega),⟨rfl,fun i hi h=>by
   rcases Nat.lt_succ_iff_lt_or_eq.1 hi with h' | rfl
   ·exact hI i h' h
   ·exact hB h8⟩,⟨rfl,rfl,trivial⟩,⟨rfl,trivial⟩,rfl⟩
 ·refine wkT ?_
  refine Zab (vs:=[m.v]) rfl (Way hm h1 h3) ?_
  rintro v _ ⟨rfl,s2,rfl,hT⟩
  refine wkT ?_
  exact⟨rfl,s2,rfl,fun e=>⟨h4,p1,p2,by omega,fun i hi=>hI i (by omega) hi,(hT e).1,(hT e).2⟩⟩
theorem Wax (x:MBd):LL.Zag P 126 #[bdV x] H fun v H'=>H=H'∧∃ b,v=vb b:=by
 have hs:=Loud.loud (P:=P)
 refine IsN.m (isn c1126) (args:=[bdV x]) rfl ?_
 unfold n1126
 refine wkT ?_
 refine Wab rfl ?_
 refine wkT ?_
 refine wiT (fun h1=>?_) (fun h1=>?_)<;>refine wkT ?_<;>exact⟨rfl,_,rfl⟩
theorem Wbl {m:MBk}(hm:MbAt H m):LL.Zag P 57 #[m.v] H fun v H'=>H=H'∧∃ b,v=vb b∧(b=false->m.pc.length<=20∧m.bd.length<=20∧∀ t∈m.tp,t.pl.length<=20):=by
 have hs:=Loud.loud (P:=P)
 have no:∃ b,vb true=vb b∧(b=false->m.pc.length<=20∧m.bd.length<=20∧∀ t∈m.tp,t.pl.length<=20):=⟨true,rfl,fun e=>by simp at e⟩
 refine IsN.m (isn c1057) (args:=[m.v]) rfl ?_
 unfold n1057 MBk.v
 refine wkT ?_
 refine wiT (fun h1=>?_) (fun h1=>?_)
 ·refine wkT ?_
  exact⟨rfl,no⟩
 refine wkT ?_
 refine wiT (fun h2=>?_) (fun h2=>?_)
 ·refine wkT ?_
  exact⟨rfl,no⟩
 refine wkT ?_
 refine wiT (fun h3=>?_) (fun h3=>?_)
 ·refine wkT ?_
  exact⟨rfl,no⟩
 refine wkT ?_
 refine ZaW m.pc.length (fun j H'=>H=H') (fun j=>[(1,vi 0),(3,vi j)]) (fun _=>[(1,[vi m.saw,.slice m.A1 m.pc.length m.c1,.slice m.A2 m.bd.length m.c2,.slice m.A3 m.tp.length m.c3])]) rfl ⟨rfl,rfl,trivial⟩ ⟨rfl,trivial⟩ ?_
 rintro j _ hj rfl
 refine wkT ?_
 refine wiT (fun h4=>?_) (fun h4=>?_)
 ·have hj':j<m.pc.length:=by omega
  refine wkT ?_
  refine ZaE hm.pc rfl rfl rfl (i:=j) hj' fun a ha=>?_
  refine wkT ?_
  refine Zaf (hs _) rfl (by rw[add_zero];exact ZbK (cs:=[.string m.pc[j].nm]) (ds:=[vi m.pc[j].lo,vi m.pc[j].hi,vi m.pc[j].br]) ha) ?_
  refine wkT ?_
  refine Wab rfl ?_
  refine wkT ?_
  refine wiT (fun h5=>?_) (fun h5=>?_)
  ·refine wkT ?_
   exact⟨rfl,no⟩
  refine wkT ?_
  exact⟨⟨j+1,by omega⟩,slt (by omega),rfl,⟨rfl,rfl,trivial⟩,⟨rfl,trivial⟩,rfl⟩
 refine wkT ?_
 refine ZaW m.bd.length (fun j H'=>H=H') (fun j=>[(1,vi 0),(4,vi j)]) (fun _=>[(1,[vi m.saw,.slice m.A1 m.pc.length m.c1,.slice m.A2 m.bd.length m.c2,.slice m.A3 m.tp.length m.c3])]) rfl ⟨rfl,rfl,trivial⟩ ⟨rfl,trivial⟩ ?_
 rintro j2 _ hj2 rfl
 refine wkT ?_
 refine wiT (fun h6=>?_) (fun h6=>?_)
 ·have hj':j2<m.bd.length:=by omega
  refine wkT ?_
  refine ZaE hm.bd rfl rfl rfl (i:=j2) hj' fun a ha=>?_
  refine wkT ?_
  refine Zao (cs:=[.string m.bd[j2].nm,vi m.bd[j2].lg,.slice m.bd[j2].A m.bd[j2].kn.length m.bd[j2].c]) (hs _) rfl ha rfl ?_
  refine wkT ?_
  refine Zab (vs:=[bdV m.bd[j2]]) rfl (Wax _) ?_
  rintro v _ ⟨rfl,b,rfl⟩
  refine wkT ?_
  refine wiT (fun h7=>?_) (fun h7=>?_)
  ·refine wkT ?_
   exact⟨rfl,no⟩
  refine wkT ?_
  exact⟨⟨j2+1,by omega⟩,slt (by omega),rfl,⟨rfl,rfl,trivial⟩,⟨rfl,trivial⟩,rfl⟩
 refine wkT ?_
 refine ZaW m.tp.length (fun j H'=>H=H'∧∀ i (hi:i<j) (h:i<m.tp.length),m.tp[i].pl.length<=20) (fun j=>[(1,vi 0),(5,vi j)]) (fun _=>[(1,[vi m.saw,.slice m.A1 m.pc.length m.c1,.slice m.A2 m.bd.length m.c2,.slice m.A3 m.tp.length m.c3])]) ⟨rfl,by omega⟩ ⟨rfl,rfl,trivial⟩ ⟨rfl,trivial⟩ ?_
 rintro j3 _ hj3 ⟨rfl,hI⟩
 refine wkT ?_
 refine wiT (fun h8=>?_) (fun h8=>?_)
 ·have hj':j3<m.tp.length:=by omega
  refine wkT ?_
  refine ZaE hm.tp rfl rfl rfl (i:=j3) hj' fun a ha=>?_
  refine wkT ?_
  refine Zaf (hs _) rfl (by rw[add_zero];exact ZbK (cs:=[.slice m.tp[j3].A m.tp[j3].pl.length m.tp[j3].c]) (ds:=[vi m.tp[j3].lo,vi m.tp[j3].hi]) ha) ?_
  refine wkT ?_
  refine wiT (fun h9=>?_) (fun h9=>?_)
  ·refine wkT ?_
   exact⟨rfl,no⟩
  refine wkT ?_
  exact⟨⟨j3+1,by omega⟩,slt (by omega),⟨rfl,fun i hi h=>by
   rcases Nat.lt_succ_iff_lt_or_eq.1 hi with h' | rfl
   ·exact hI i h' h
   ·omega⟩,⟨rfl,rfl,trivial⟩,⟨rfl,trivial⟩,rfl⟩
 refine wkT ?_
 refine⟨rfl,false,rfl,fun _=>⟨by omega,by omega,fun t ht=>?_⟩⟩
 obtain⟨i,hi,rfl⟩:=List.mem_iff_getElem.1 ht
 exact hI i (by omega) hi
theorem mFit_ok {m:MBk}(hm:MbAt H m):LL.Zag P 12 #[m.v] H fun v H'=>H=H'∧∃ b,v=vb b∧(b=true->MOk m∧∀ t∈m.tp,t.pl.length<=20):=by
 have hs:=Loud.loud (P:=P)
 refine IsN.m (isn c1012) (args:=[m.v]) rfl ?_
 unfold n1012 MBk.v
 refine wkT ?_
 refine Zab (vs:=[m.v]) rfl (Wbl hm) ?_
 rintro v _ ⟨rfl,b,rfl,hb⟩
 cases b with
 | true=>
  refine wkT ?_
  exact⟨rfl,false,rfl,fun e=>by simp at e⟩
 | false=>
  obtain⟨h1,h2,h3⟩:=hb rfl
  refine wkT ?_
  refine Zab (vs:=[m.v]) rfl (WaP hm h1 h2 h3) ?_
  rintro v _ ⟨rfl,s,rfl,hM⟩
  refine wkT ?_
  exact⟨rfl,_,rfl,fun e=>⟨hM (by simpa using e),h3⟩⟩
end
theorem Wbf {G:Prop} (h:G:=by
  refine wkT ?_
  rw[decide_eq_true e1]
  refine wkT ?_
  rw[decide_eq_true e2]
  refine wkT ?_
  exact⟨⟨j+1,by omega⟩,slt (by omega),rfl,⟨rfl,rfl,rfl,rfl,trivial⟩,trivial,rfl⟩):G:=h
theorem Wbg {G:Prop} (h:G:=by
  refine wkT ?_
  refine Zau hl rfl ?_
  refine wkT ?_
  refine ZaW l.length (fun j H'=>H=H') (fun j=>[(0,v),(1,fv),(7,vi l.length),(8,vi j)]) (fun j=>[]) rfl ⟨rfl,rfl,rfl,rfl,trivial⟩ trivial ?_
  rintro j _ hj rfl
  refine wkT ?_
  refine wiT (fun h1=>?_) (fun h1=>?_)
  ·have hj':j<l.length:=by omega
   refine wkT ?_
   refine ZaE hl rfl rfl rfl (i:=j) hj' fun a ha=>?_
   refine wkT ?_
   refine Zao (hs _) rfl ha rfl ?_
   refine wkT ?_
   refine ZaP rfl rfl (hf _ (List.getElem_mem hj')) ?_
   rintro w _ ⟨rfl,rfl⟩
   refine wkT ?_
   exact⟨⟨j+1,by omega⟩,slt (by omega),rfl,⟨rfl,rfl,rfl,rfl,trivial⟩,trivial,rfl⟩
  ·refine wkT ?_
   exact⟨rfl,rfl⟩):G:=h
abbrev pcV (x:MPc):Value:=.agg #[.string x.nm,vi x.lo,vi x.hi,vi x.br]
theorem MbAt.inc {H H':Hp}{m:MBk}(h:MbAt H m)(i:Inc H H'):MbAt H' m:=⟨h.pc.inc i,h.bd.inc i,h.tp.inc i,fun x hx=>(h.kn x hx).inc i,fun x hx=>(h.pl x hx).inc i,h.q1,h.q2⟩
section
variable  {P:Prg}[Tz P][Loud P]{H:Hp}
set_option maxHeartbeats 8000000
set_option maxRecDepth 20000
theorem Waa (n lo hi:Int):LL.Zag P 63 #[vi n,vi lo,vi hi] H fun v H'=>H=H'∧v=vb (decide (lo<=n∧n<=hi)):=by
 refine IsN.m (isn c1063) (args:=[vi n,vi lo,vi hi]) rfl ?_
 unfold n1063
 refine wkT ?_
 refine wiT (fun h1=>?_) (fun h1=>?_)<;>refine wkT ?_<;>exact⟨rfl,by simp[Zbd,h1]⟩
theorem Wag {a b lo hi n:Int}(h:lo<=a∧a<=b∧b<=hi)(h2:b-a<n)(h3:-10000<=lo∧hi<=10000):LL.Zag P 183 #[.agg #[vi a,vi b],vi lo,vi hi,vi n] H fun v H'=>H=H'∧v=vb true:=by
 have hs:=Loud.loud (P:=P)
 refine IsN.m (isn c1183) (args:=[.agg #[vi a,vi b],vi lo,vi hi,vi n]) rfl ?_
 unfold n1183
 refine wkT ?_
 rw[decide_eq_true h.1]
 refine wkT ?_
 rw[decide_eq_true h.2.1]
 refine wkT ?_
 rw[decide_eq_true h.2.2]
 refine wkT ?_
 rw[decide_eq_true h2]
 refine wkT ?_
 exact⟨rfl,rfl⟩
theorem Was {s:ByteArray}(h:WaM s):LL.Zag P 180 #[.string s] H fun v H'=>H.Sub H'∧v=vb true:=by
 have hs:=Loud.loud (P:=P)
 obtain⟨h1,h2,h3,h4⟩:=h
 refine IsN.m (isn c1180) (args:=[.string s]) rfl ?_
 unfold n1180
 refine wkT ?_
 refine om_s2b rfl (hs _) fun v H1 l k1 k2 k3 k4=>?_
 refine wkT ?_
 refine Zau k2 rfl ?_
 refine wkT ?_
 refine ZaW s.size (fun j H'=>H1=H') (fun j=>[(0,.string s),(6,v),(7,vi s.size),(8,vi j)]) (fun _=>[]) rfl ⟨rfl,rfl,by rw[k3];rfl,rfl,trivial⟩ trivial ?_
 rintro j _ hj rfl
 refine wkT ?_
 refine wiT (fun h5=>?_) (fun h5=>?_)
 ·have hj':j<s.size:=by omega
  have hb:=h4 j hj'
  have hv:=k4 j (by omega)
  have hE:Enc.enc (l[j]'(by omega))=[.int .u8 (byt s j)]:=by show [Value.int .u8 (l[j]'(by omega)).v]=_;rw[hv]
  have key:(97<=byt s j∧byt s j<=122)∨(0<j∧48<=byt s j∧byt s j<=57):=by
   rcases hb with hb | hb
   ·right
    have:=of_decide_eq_true hb
    refine⟨?_,this⟩
    rcases Nat.eq_zero_or_pos j with rfl | h0
    ·rw[h3]at hb;simp at hb
    ·exact h0
   ·exact .inl hb
  refine wkT ?_
  refine ZaE k2 rfl rfl rfl (i:=j) (by omega) fun a ha=>?_
  rw[hE]at ha
  refine wkT ?_
  refine Zaf (hs _) rfl ha ?_
  generalize byt s j=b at *
  rcases key with ⟨e1,e2⟩ | ⟨e0,e1,e2⟩
  ·exact Wbf
  ·refine wkT ?_
   rw[decide_eq_false (show ¬ 97<=b by omega)]
   refine wkT ?_
   rw[decide_eq_true (show (0:Int)<j by omega)]
   exact Wbf
 ·refine wkT ?_
  refine Wab rfl ?_
  refine wkT ?_
  refine Zab (vs:=[vi s.size,vi 1,vi 10]) rfl (Waa _ _ _) ?_
  rintro w _ ⟨rfl,rfl⟩
  refine wkT ?_
  exact⟨k1,by rw[decide_eq_true ⟨by omega,by omega⟩];rfl⟩
theorem Wa7 {fv v:Value}{l:List MPc}(hf:∀ x∈l,CallV P fv #[pcV x] H fun v H'=>H=H'∧v=vb false)(hl:SlAt H v l)(hn:l.length<=1000000) :
  LL.Zag P 217 #[v,fv] H fun v H'=>H=H'∧v=vi (-1):=by
 have hs:=Loud.loud (P:=P)
 refine IsN.m (isn c1217) (args:=[v,fv]) rfl ?_
 unfold n1217
 exact Wbg
theorem WaA {fv v:Value}{l:List MPc}(hf:∀ x∈l,CallV P fv #[pcV x] H fun v H'=>H=H'∧v=vb false)(hl:SlAt H v l)(hn:l.length<=1000000) :
  LL.Zag P 181 #[v,fv] H fun v H'=>H=H'∧v=vb false:=by
 refine IsN.m (isn c1181) (args:=[v,fv]) rfl ?_
 unfold n1181
 refine wkT ?_
 refine Zab (vs:=[v,fv]) rfl (Wa7 hf hl hn) ?_
 rintro w _ ⟨rfl,rfl⟩
 refine wkT ?_
 exact⟨rfl,rfl⟩
theorem Wa8 {fv v:Value}{l:List MBd}(hf:∀ x∈l,CallV P fv #[bdV x] H fun v H'=>H=H'∧v=vb false)(hl:SlAt H v l)(hn:l.length<=1000000) :
  LL.Zag P 238 #[v,fv] H fun v H'=>H=H'∧v=vi (-1):=by
 have hs:=Loud.loud (P:=P)
 refine IsN.m (isn c1238) (args:=[v,fv]) rfl ?_
 unfold n1238
 exact Wbg
theorem WaB {fv v:Value}{l:List MBd}(hf:∀ x∈l,CallV P fv #[bdV x] H fun v H'=>H=H'∧v=vb false)(hl:SlAt H v l)(hn:l.length<=1000000) :
  LL.Zag P 218 #[v,fv] H fun v H'=>H=H'∧v=vb false:=by
 refine IsN.m (isn c1218) (args:=[v,fv]) rfl ?_
 unfold n1218
 refine wkT ?_
 refine Zab (vs:=[v,fv]) rfl (Wa8 hf hl hn) ?_
 rintro w _ ⟨rfl,rfl⟩
 refine wkT ?_
 exact⟨rfl,rfl⟩
theorem saw_ok {m:MBk}(h:MOk m):LL.Zag P 130 #[m.v] H fun v H'=>H=H'∧v=vi 0:=by
 have hs:=Loud.loud (P:=P)
 refine IsN.m (isn c1130) (args:=[m.v]) rfl ?_
 unfold n1130 MBk.v
 refine wkT ?_
 refine Zab (vs:=[vi m.saw,vi 0,vi 3]) rfl (Waa _ _ _) ?_
 rintro w _ ⟨rfl,rfl⟩
 rw[decide_eq_true h.saw]
 refine wkT ?_
 exact⟨rfl,rfl⟩
theorem pc1_ok {q x:MPc}{r:Nat}(h:CellsAt H ⟨r,0,none⟩ [.string x.nm,vi x.lo,vi x.hi,vi x.br]):LL.Zag P 182 #[pcV q,.pointer (some ⟨r,0,none⟩)] H fun v H'=>H=H'∧v=vb (q.nm.toList == x.nm.toList):=by
 have hs:=Loud.loud (P:=P)
 refine IsN.m (isn c1182) (args:=[pcV q,.pointer (some ⟨r,0,none⟩)]) rfl ?_
 unfold n1182
 refine wkT ?_
 refine Zaf (hs _) rfl (by rw[add_zero];exact ZbK (cs:=[.string x.nm]) (ds:=[vi x.lo,vi x.hi,vi x.br]) h) ?_
 refine wkT ?_
 refine Waj rfl rfl ?_
 refine wkT ?_
 exact⟨rfl,rfl⟩
theorem bd1_ok {q x:MBd}{r:Nat}(h:CellsAt H ⟨r,0,none⟩ [.string x.nm,vi x.lg,.slice x.A x.kn.length x.c]):LL.Zag P 219 #[bdV q,.pointer (some ⟨r,0,none⟩)] H fun v H'=>H=H'∧v=vb (q.nm.toList == x.nm.toList):=by
 have hs:=Loud.loud (P:=P)
 refine IsN.m (isn c1219) (args:=[bdV q,.pointer (some ⟨r,0,none⟩)]) rfl ?_
 unfold n1219
 refine wkT ?_
 refine Zaf (hs _) rfl (by rw[add_zero];exact ZbK (cs:=[.string x.nm]) (ds:=[vi x.lg,.slice x.A x.kn.length x.c]) h) ?_
 refine wkT ?_
 refine Waj rfl rfl ?_
 refine wkT ?_
 exact⟨rfl,rfl⟩
theorem Wa3 {m:MBk}(hm:MbAt H m)(h:MOk m):LL.Zag P 131 #[m.v] H fun v H'=>Inc H H'∧v=vi 0:=by
 have hs:=Loud.loud (P:=P)
 have hn:=h.n1
 refine IsN.m (isn c1131) (args:=[m.v]) rfl ?_
 unfold n1131 MBk.v
 refine wkT ?_
 refine Zab (vs:=[vi m.pc.length,vi 1,vi 3]) rfl (Waa _ _ _) ?_
 rintro w _ ⟨rfl,rfl⟩
 rw[decide_eq_true ⟨by omega,by omega⟩]
 refine wkT ?_
 refine ZaW m.pc.length (fun j H'=>Inc H H') (fun j=>[(1,vi 0),(13,.slice m.A1 m.pc.length m.c1),(14,vi m.pc.length),(15,vi j)]) (fun _=>[(1,[vi m.saw,.slice m.A1 m.pc.length m.c1,.slice m.A2 m.bd.length m.c2,.slice m.A3 m.tp.length m.c3])]) (.refl _) ⟨rfl,rfl,rfl,rfl,trivial⟩ ⟨rfl,trivial⟩ ?_
 rintro j H1 hj i1
 refine wkT ?_
 refine wiT (fun h1=>?_) (fun h1=>?_)
 ·have hj':j<m.pc.length:=by omega
  obtain⟨o1,o2,o3,o4,o5⟩:=h.pc j hj'
  refine wkT ?_
  refine ZaE (hm.pc.inc i1) rfl rfl rfl (i:=j) hj' fun a ha=>?_
  have hmem:∀ k (hk:k<j),m.pc[k]'(by omega)∈m.pc.take j:=fun k hk=>by
   rw[List.mem_take_iff_getElem];exact⟨k,by omega,rfl⟩
  have hall:∀ q∈m.pc.take j,(q.nm.toList == m.pc[j].nm.toList)=false:=fun q hq=>by
   obtain⟨k,hk,rfl⟩:=List.mem_take_iff_getElem.1 hq
   exact o2 k (by omega)
  generalize m.pc[j]=x at *
  refine wkT ?_
  refine Zao (cs:=[.string x.nm,vi x.lo,vi x.hi,vi x.br]) (hs _) rfl ha rfl ?_
  refine wkT ?_
  refine Zav (tif t214) (hs _) fun r hr=>?_
  refine wkT ?_
  refine Zay (v:=pcV x) (tif t214) (cs:=[.string ⟨#[]⟩,vi 0,vi 0,vi 0]) rfl rfl (Hp.ins_same _ _ _) rfl rfl rfl (hs _) ?_
  rw[Zbb]
  have i2:=Zai (o:=.cells (pcV x).cells 214) hr
  have b2:CellsAt (H1.ins r (.cells (pcV x).cells 214)) ⟨r,0,none⟩ [.string x.nm,vi x.lo,vi x.hi,vi x.br]:=Zar
  generalize H1.ins r (.cells (pcV x).cells 214)=H2 at *
  refine wkT ?_
  refine Zaf (hs _) rfl (by rw[add_zero];exact ZbK (cs:=[.string x.nm]) (ds:=[vi x.lo,vi x.hi,vi x.br]) b2) ?_
  refine wkT ?_
  refine Zab (vs:=[.string x.nm]) rfl (Was o1) ?_
  rintro v H3 ⟨s3,rfl⟩
  have b3:=b2.sub s3
  have i3:=(i1.trans i2).trans s3.inc
  refine wkT ?_
  refine ZkW (k:=.i64) (lo:=0) (hi:=j) (und u44) (tif t214) rfl (.inl ⟨rfl,rfl⟩) ⟨_,rfl,rfl⟩ (Nat.zero_le _) (by have:=hm.q1;omega) ?_
  rw[cut0,Nat.sub_zero,Nat.sub_zero]
  refine wkT ?_
  refine Zci rfl rfl ?_
  refine wkT ?_
  refine Zab (vs:=[.slice m.A1 j m.c1,.func (.func 182) #[] #[.pointer (some ⟨r,0,none⟩)]]) rfl (WaA (l:=m.pc.take j) (fun q hq=>ZcY (by kernel_rfl) (LL.Zag.mono (pc1_ok b3) fun v H' hh=>⟨hh.1,by rw[hh.2,hall q hq]⟩)) (WaO (hm.pc.inc i3) (Nat.le_of_lt hj')) (by rw[List.length_take];omega)) ?_
  rintro v _ ⟨rfl,rfl⟩
  refine wkT ?_
  refine Zao (cs:=[vi x.lo,vi x.hi]) (hs _) rfl (by exact ZbK (ds:=[vi x.br]) (Zlf b3 rfl)) rfl ?_
  refine wkT ?_
  refine Zab (vs:=[.agg #[vi x.lo,vi x.hi],vi 1,vi 40,vi 3]) rfl (Wag o3 o4 ⟨by omega,by omega⟩) ?_
  rintro v _ ⟨rfl,rfl⟩
  refine wkT ?_
  refine Zaf (hs _) rfl (Zlf b3 rfl) ?_
  refine wkT ?_
  refine Zab (vs:=[vi x.br,vi 0,vi 2]) rfl (Waa _ _ _) ?_
  rintro w _ ⟨rfl,rfl⟩
  rw[decide_eq_true o5]
  refine wkT ?_
  exact⟨⟨j+1,by omega⟩,slt (by omega),i3,⟨rfl,rfl,rfl,rfl,trivial⟩,⟨rfl,trivial⟩,rfl⟩
 ·refine wkT ?_
  exact⟨i1,rfl⟩
end
end Go.Proofs
end
