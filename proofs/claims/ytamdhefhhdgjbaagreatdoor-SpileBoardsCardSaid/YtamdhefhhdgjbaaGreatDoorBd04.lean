/- proofs about Leango given: part Bd4; made by a program out of the longer texts in wip -/
import Derived.Test.YtamdhefhhdgjbaaGreatDoorBd03
set_option linter.all false
section
open Go Go.LL
namespace Go.Proofs
theorem max_in {α:Type}(f:α->Int):∀ {l:List α},l≠[]->∃ x∈l,∀ y∈l,f y<=f x
 | [],h=>absurd rfl h
 | [a],_=>⟨a,by simp,fun y hy=>by rw[List.mem_singleton.1 hy];exact Int.le_refl _⟩
 | a :: c :: l,_=>by
  obtain⟨x,hx,h⟩:=max_in f (l:=c :: l) (by simp)
  by_cases ha:f x<=f a
  ·refine⟨a,by simp,fun y hy=>?_⟩
   rcases List.mem_cons.1 hy with rfl | hy
   ·exact Int.le_refl _
   ·have:=h y hy;omega
  ·refine⟨x,List.mem_cons_of_mem _ hx,fun y hy=>?_⟩
   rcases List.mem_cons.1 hy with rfl | hy
   ·omega
   ·exact h y hy
def Wac (b:Bk):List Int:=((Zae b).filter (ZgD b)).map fun x=>lowF b (Zas b x)
theorem most_low {b:Bk}(v:Zeo b)(h:0<(ZiE b).k):(ZiE b).s∈Wac b:=by
 obtain⟨h1,h2⟩:=Wau v
 rcases h2 with ⟨h3,_⟩ | ⟨_,h3,h4⟩
 ·omega
 generalize (ZiE b).s=s at *
 generalize (ZiE b).k=k at *
 have hne:(Zae b).filter (fun x=>Zcx b (Zas b x) s)≠[]:=by
  intro e
  have:cntF b s=0:=by rw[cntF,e];rfl
  omega
 obtain⟨x,hx,hm⟩:=max_in (fun x=>lowF b (Zas b x)) hne
 obtain⟨hx1,hx2⟩:=List.mem_filter.1 hx
 have hx3:=Wai.1 hx2
 have hc:cntF b s<=cntF b (lowF b (Zas b x)):=by
  refine Waw fun y hy hys=>?_
  have:=hm y (List.mem_filter.2 ⟨hy,hys⟩)
  have:=Wai.1 hys
  exact Wai.2 ⟨by omega,by omega⟩
 have hle:=h1 (lowF b (Zas b x))
 have:=h4 (lowF b (Zas b x)) (by omega)
 have e:s=lowF b (Zas b x):=by omega
 rw[e]
 exact List.mem_map.2 ⟨x,List.mem_filter.2 ⟨hx1,Wao.2 (by omega)⟩,rfl⟩
def Wae (f:Int->Nat)(l:List Int):Int×Int:=l.foldl (fun s z=>if s.2<(f z:Int) then (z,(f z:Int)) else s) (0,0)
theorem WaM (f:Int->Nat)(l:List Int)(z:Int):Wae f (l++[z])=if (Wae f l).2<(f z:Int) then (z,(f z:Int)) else Wae f l:=by rw[Wae,List.foldl_append];rfl
theorem Wbd (f:Int->Nat):∀ l:List Int,l.Pairwise (·<·)->((Wae f l).1=0∧(Wae f l).2=0∧∀ z∈l,f z=0)∨(0<(Wae f l).2∧(Wae f l).1∈l∧(f (Wae f l).1:Int)=(Wae f l).2∧(∀ z∈l,(f z:Int)<=(Wae f l).2)∧∀ z∈l,(f z:Int)=(Wae f l).2->(Wae f l).1<=z):=by
 refine Zfm (fun _=>.inl ⟨rfl,rfl,by simp⟩) fun l z ih hp=>?_
 rw[List.pairwise_append]at hp
 obtain⟨p1,_,p3⟩:=hp
 have hz:∀ y∈l,y<z:=fun y hy=>p3 y hy z (by simp)
 have ih:=ih p1
 rw[WaM]
 by_cases h:(Wae f l).2<(f z:Int)
 ·rw[if_pos h]
  right
  refine⟨?_,by simp,rfl,fun y hy=>?_,fun y hy e=>?_⟩
  ·show (0:Int)<(f z:Int)
   rcases ih with ⟨_,h2,_⟩ | ⟨h2,_⟩<;>omega
  ·show (f y:Int)<=(f z:Int)
   rcases List.mem_append.1 hy with hy | hy
   ·rcases ih with ⟨_,_,h2⟩ | ⟨_,_,_,h2,_⟩
    ·rw[h2 y hy];omega
    ·have:=h2 y hy;omega
   ·rw[List.mem_singleton.1 hy];exact Int.le_refl _
  ·show z<=y
   have e:(f y:Int)=(f z:Int):=e
   rcases List.mem_append.1 hy with hy | hy
   ·exfalso
    rcases ih with ⟨_,h1,h2⟩ | ⟨_,_,_,h2,_⟩
    ·rw[h2 y hy]at e;omega
    ·have:=h2 y hy;omega
   ·rw[List.mem_singleton.1 hy];exact Int.le_refl _
 ·rw[if_neg h]
  rcases ih with ⟨h1,h2,h3⟩ | ⟨h1,h2,h3,h4,h5⟩
  ·left
   refine⟨h1,h2,fun y hy=>?_⟩
   rcases List.mem_append.1 hy with hy | hy
   ·exact h3 y hy
   ·rw[List.mem_singleton.1 hy];omega
  ·right
   refine⟨h1,by simp[h2],h3,fun y hy=>?_,fun y hy e=>?_⟩
   ·rcases List.mem_append.1 hy with hy | hy
    ·exact h4 y hy
    ·rw[List.mem_singleton.1 hy];omega
   ·rcases List.mem_append.1 hy with hy | hy
    ·exact h5 y hy e
    ·rw[List.mem_singleton.1 hy]
     have:=hz _ h2
     omega
theorem Wbe {b:Bk}(v:Zeo b):Wae (cntF b) (ordF (Wac b))=((ZiE b).s,(ZiE b).k):=by
 obtain⟨o1,o2⟩:=WaV (Wac b)
 obtain⟨h1,h2⟩:=Wau v
 have hml:=most_le v
 have hlow:=most_low v
 have e:∀ p:Int×Int,p.1=(ZiE b).s->p.2=(ZiE b).k->p=((ZiE b).s,(ZiE b).k):=fun p h h'=>by cases p;simp only at h h';rw[h,h']
 rcases Wbd (cntF b) _ o1 with ⟨s1,s2,s3⟩ | ⟨s1,s2,s3,s4,s5⟩
 ·by_cases hk:0<(ZiE b).k
  ·exfalso
   have:=s3 _ ((o2 _).2 (hlow hk))
   rcases h2 with ⟨h3,_⟩ | ⟨_,h3,_⟩<;>omega
  ·rcases h2 with ⟨h3,h4⟩ | ⟨h3,_⟩
   ·exact e _ (by omega) (by omega)
   ·omega
 ·have hk:0<(ZiE b).k:=by have:=h1 (Wae (cntF b) (ordF (Wac b))).1;omega
  rcases h2 with ⟨h3,_⟩ | ⟨_,h3,h4⟩
  ·omega
  have m1:=(o2 _).2 (hlow hk)
  have m2:=s4 _ m1
  have m3:=h1 (Wae (cntF b) (ordF (Wac b))).1
  have m4:=h4 (Wae (cntF b) (ordF (Wac b))).1 (by omega)
  have m5:=s5 _ m1 (by omega)
  exact e _ (by omega) (by omega)
theorem fit_take {b:Bk}{j:Nat}(hj:j<(Zae b).length):(((Zae b).take (j+1)).filter (ZgD b)).map (fun x=>lowF b (Zas b x))=(((Zae b).take j).filter (ZgD b)).map (fun x=>lowF b (Zas b x))++if ZgD b (Zae b)[j] then [lowF b (Zas b (Zae b)[j])] else []:=by
 rw[List.take_succ_eq_append_getElem hj,List.filter_append,List.map_append]
 congr 1
 cases h:ZgD b (Zae b)[j]<;>simp[h]
def sloB (b:Bk)(j:Nat):Int:=Zbq gtB ((Zgv b).getD 0 0) (((Zgv b).drop 1).take j)
def shiB (b:Bk)(j:Nat):Int:=Zbq ltB ((ZdH b).getD 0 0) (((ZdH b).drop 1).take j)
theorem WaL {b:Bk}{j:Nat}(h:j<(Zae b).length):(Zgv b).getD j 0=lowF b (Zas b (Zae b)[j])∧(ZdH b).getD j 0=Zfc b (Zas b (Zae b)[j]):=by
 have h1:j<(Zgv b).length:=by rw[Zgv,List.length_map];exact h
 have h2:j<(ZdH b).length:=by rw[ZdH,List.length_map];exact h
 rw[Zbd h1,Zbd h2]
 exact⟨List.getElem_map ..,List.getElem_map ..⟩
theorem Wa8 {b:Bk}{j:Nat}(h:j+1<(Zae b).length):sloB b (j+1)=max (sloB b j) (lowF b (Zas b (Zae b)[j+1]))∧shiB b (j+1)=min (shiB b j) (Zfc b (Zas b (Zae b)[j+1])):=by
 obtain⟨e1,e2⟩:=WaL h
 have h1:j<((Zgv b).drop 1).length:=by rw[List.length_drop,Zgv,List.length_map];omega
 have h2:j<((ZdH b).drop 1).length:=by rw[List.length_drop,ZdH,List.length_map];omega
 have h1':1+j<(Zgv b).length:=by rw[Zgv,List.length_map];omega
 have h2':1+j<(ZdH b).length:=by rw[ZdH,List.length_map];omega
 rw[sloB,sloB,shiB,shiB,ZdD _ _ h1,ZdD _ _ h2]
 have f1:((Zgv b).drop 1)[j]=lowF b (Zas b (Zae b)[j+1]):=by
  rw[List.getElem_drop,<-e1,Nat.add_comm j 1,Zbd h1']
 have f2:((ZdH b).drop 1)[j]=Zfc b (Zas b (Zae b)[j+1]):=by
  rw[List.getElem_drop,<-e2,Nat.add_comm j 1,Zbd h2']
 rw[f1,f2]
 constructor
 ·by_cases h:gtB (lowF b (Zas b (Zae b)[j+1])) (Zbq gtB ((Zgv b).getD 0 0) (((Zgv b).drop 1).take j))=true
  ·rw[if_pos h];have:=of_decide_eq_true h;omega
  ·rw[if_neg h]
   have:¬ (Zbq gtB ((Zgv b).getD 0 0) (((Zgv b).drop 1).take j)<lowF b (Zas b (Zae b)[j+1])):=fun e=>h (decide_eq_true e)
   omega
 ·by_cases h:ltB (Zfc b (Zas b (Zae b)[j+1])) (Zbq ltB ((ZdH b).getD 0 0) (((ZdH b).drop 1).take j))=true
  ·rw[if_pos h];have:=of_decide_eq_true h;omega
  ·rw[if_neg h]
   have:¬ (Zfc b (Zas b (Zae b)[j+1])<Zbq ltB ((ZdH b).getD 0 0) (((ZdH b).drop 1).take j)):=fun e=>h (decide_eq_true e)
   omega
theorem sloB_all {b:Bk}:sloB b ((Zae b).length-1)=sLow b∧shiB b ((Zae b).length-1)=sHigh b:=by
 have h1:((Zgv b).drop 1).length=(Zae b).length-1:=by rw[List.length_drop,Zgv,List.length_map]
 have h2:((ZdH b).drop 1).length=(Zae b).length-1:=by rw[List.length_drop,ZdH,List.length_map]
 rw[sloB,shiB,<-h1,List.take_length]
 refine⟨rfl,?_⟩
 rw[h1,<-h2,List.take_length]
 rfl
section
variable  {P:Prg}[Tz P][Loud P]{H:Hp}
set_option maxHeartbeats 8000000
set_option maxRecDepth 20000
theorem HadR_ok {bv:Value}{b:Bk}(hb:BkAt H bv b)(hl:b.pts.length<=1000000)(hl2:b.cks.length<=1000000) :
  LL.Zag P 32 #[bv] H fun v H'=>Inc H H'∧v=.tuple #[vi (if Zah b true=0 then Zhu ((Zae b).filter (ZgD b)).length (Zae b).length else 0),vi (Zah b true)]:=by
 have hs:∀ g,P.still g=false:=Loud.loud
 have hb0:=hb
 obtain⟨pv,cv,rfl,hp,hc⟩:=hb
 refine IsN.m (isn c32) (args:=[.agg #[vi b.op,vi b.sl,pv,cv]]) rfl ?_
 unfold n32
 refine wkT ?_
 refine Zab (vs:=[.agg #[vi b.op,vi b.sl,pv,cv],vb true]) rfl (WaE (there:=true) hb0 hl hl2) ?_
 rintro v H1 ⟨i1,A,c,rfl,rows,s1,r1⟩
 have hrl:=r1.len
 refine wkT ?_
 refine wiT (fun h1=>?_) (fun h1=>?_)
 ·refine wkT ?_
  exact⟨i1,by rw[if_neg h1];rfl⟩
 ·have e2:opL b true=Zae b:=if_pos h1
  have val:=Wap h1
  have hn:=val.n
  rw[e2]at hrl s1 r1 ⊢
  have hll:=Zbp val
  refine wkT ?_
  refine ZaX (Zae b).length (fun j H'=>H1=H') (fun j=>[(1,vi 0),(4,.slice A (Zae b).length c),(6,vi (((Zae b).take j).filter (ZgD b)).length),(7,vi j)]) (fun _=>[(1,[vi b.op,vi b.sl,pv,cv])]) rfl ⟨rfl,rfl,rfl,rfl,trivial⟩ ⟨rfl,trivial⟩ ?_
  rintro j _ hj rfl
  have hfl:(((Zae b).take j).filter (ZgD b)).length<=1782:=Nat.le_trans (List.length_filter_le _ _) (by rw[List.length_take];omega)
  refine wkT ?_
  refine wiT (fun h2=>?_) (fun h2=>?_)
  ·have hj':j<(Zae b).length:=by omega
   have hft:=Zjx (f:=ZgD b) hj'
   obtain⟨q1,q2,q3⟩:=r1.at_ j (by omega) hj'
   have hx:(Zae b)[j]∈Zae b:=List.getElem_mem hj'
   have hg4:=Wal val (Zae b)[j]
   refine wkT ?_
   refine ZaE s1 rfl rfl rfl (i:=j) (by omega) fun a ha=>?_
   refine wkT ?_
   have hcell:CellsAt H1 (a.add 3) [rows[j].g]:=ZbA (j:=3) ha rfl
   refine Zaf (hs _) rfl hcell ?_
   refine wkT ?_
   refine Zab (vs:=[.agg #[vi b.op,vi b.sl,pv,cv],rows[j].g]) rfl (Wag val (hb0.inc i1) q3 (Waa val _) (Wan val hx)) ?_
   rintro v _ ⟨rfl,rfl⟩
   rw[hg4]
   refine wkT ?_
   refine wiT (fun h3=>?_) (fun h3=>?_)
   ·have hf:ZgD b (Zae b)[j]=true:=Wao.2 h3
    refine wkT ?_
    exact⟨⟨j+1,by omega⟩,Nat.sub_lt_sub_left (by omega) (Nat.lt_succ_self j),rfl,⟨rfl,rfl,by rw[hft,hf];rfl,rfl,trivial⟩,⟨rfl,trivial⟩,rfl⟩
   ·have hf:ZgD b (Zae b)[j]=false:=by rw[Bool.eq_false_iff];exact fun e=>h3 (Wao.1 e)
    refine wkT ?_
    exact⟨⟨j+1,by omega⟩,Nat.sub_lt_sub_left (by omega) (Nat.lt_succ_self j),rfl,⟨rfl,rfl,by rw[hft,hf];rfl,rfl,trivial⟩,⟨rfl,trivial⟩,rfl⟩
  ·have:j=(Zae b).length:=by omega
   subst this
   rw[List.take_length]
   refine wkT ?_
   refine Zab (vs:=[vi ((Zae b).filter (ZgD b)).length,vi (Zae b).length]) rfl (Told_ok _ _) ?_
   rintro v _ ⟨rfl,rfl⟩
   refine wkT ?_
   exact⟨i1,by rw[if_pos h1,h1];rfl⟩
theorem Wa2 {bv:Value}{b:Bk}(hb:BkAt H bv b)(hl:b.pts.length<=1000000)(hl2:b.cks.length<=1000000) :
  LL.Zag P 34 #[bv] H fun v H'=>Inc H H'∧v=ZfI b:=by
 have hs:∀ g,P.still g=false:=Loud.loud
 have hb0:=hb
 obtain⟨pv,cv,rfl,hp,hc⟩:=hb
 refine IsN.m (isn c34) (args:=[.agg #[vi b.op,vi b.sl,pv,cv]]) rfl ?_
 unfold n34
 refine wkT ?_
 refine Zab (vs:=[.agg #[vi b.op,vi b.sl,pv,cv],vb true]) rfl (WaE (there:=true) hb0 hl hl2) ?_
 rintro v H1 ⟨i1,A,c,rfl,rows,s1,r1⟩
 have hrl:=r1.len
 refine wkT ?_
 refine wiT (fun h1=>?_) (fun h1=>?_)
 ·refine wkT ?_
  exact⟨i1,by rw[ZfI,if_neg h1];rfl⟩
 ·have e2:opL b true=Zae b:=if_pos h1
  have val:=Wap h1
  have hn:=val.n
  rw[e2]at hrl s1 r1 ⊢
  have hll:=Zbp val
  have hpos:0<(Zae b).length:=by
   obtain⟨_,h⟩:=Zit h1
   omega
  obtain⟨q1,q2,q3⟩:=r1.at_ 0 (by omega) hpos
  have hx0:(Zae b)[0]∈Zae b:=List.getElem_mem hpos
  have hg0:=Wal val (Zae b)[0]
  obtain⟨z1,z2⟩:=WaL hpos
  have w1:sloB b 0=lowF b (Zas b (Zae b)[0]):=z1
  have w2:shiB b 0=Zfc b (Zas b (Zae b)[0]):=z2
  refine wkT ?_
  refine ZaE s1 rfl rfl rfl (i:=0) (by omega) fun a ha=>?_
  refine wkT ?_
  have hcell:CellsAt H1 (a.add 3) [rows[0].g]:=ZbA (j:=3) ha rfl
  refine Zaf (hs _) rfl hcell ?_
  refine wkT ?_
  refine Zab (vs:=[.agg #[vi b.op,vi b.sl,pv,cv],rows[0].g]) rfl (Wag val (hb0.inc i1) q3 (Waa val _) (Wan val hx0)) ?_
  rintro v _ ⟨rfl,rfl⟩
  rw[hg0,<-w1,<-w2]
  refine wkT ?_
  refine ZaX ((Zae b).length-1) (fun j H'=>H1=H') (fun j=>[(1,vi 0),(5,.slice A (Zae b).length c),(7,vi 0),(8,vi (j+1:Nat))]) (fun j=>[(1,[vi b.op,vi b.sl,pv,cv]),(7,[vi (sloB b j),vi (shiB b j)])]) rfl ⟨rfl,rfl,rfl,rfl,trivial⟩ ⟨rfl,rfl,trivial⟩ ?_
  rintro j _ hj rfl
  refine wkT ?_
  refine wiT (fun h2=>?_) (fun h2=>?_)
  ·have hj':j+1<(Zae b).length:=by omega
   obtain⟨p1,p2⟩:=Wa8 hj'
   obtain⟨q1,q2,q3⟩:=r1.at_ (j+1) (by omega) hj'
   have hx:(Zae b)[j+1]∈Zae b:=List.getElem_mem hj'
   have hg4:=Wal val (Zae b)[j+1]
   refine wkT ?_
   refine ZaE s1 rfl rfl rfl (i:=j+1) (by omega) fun a ha=>?_
   refine wkT ?_
   have hcell:CellsAt H1 (a.add 3) [rows[j+1].g]:=ZbA (j:=3) ha rfl
   refine Zaf (hs _) rfl hcell ?_
   refine wkT ?_
   refine Zab (vs:=[.agg #[vi b.op,vi b.sl,pv,cv],rows[j+1].g]) rfl (Wag val (hb0.inc i1) q3 (Waa val _) (Wan val hx)) ?_
   rintro v _ ⟨rfl,rfl⟩
   rw[hg4]
   refine wkT ?_
   refine Zab (vs:=[.agg #[vi (sloB b j),vi (shiB b j)],.agg #[_,_]]) rfl (Wbo _ _ _ _) ?_
   rintro v _ ⟨rfl,rfl⟩
   rw[<-p1,<-p2]
   refine wkT ?_
   refine⟨⟨j+1,by omega⟩,Nat.sub_lt_sub_left (by omega) (Nat.lt_succ_self j),rfl,⟨rfl,rfl,rfl,?_,trivial⟩,⟨rfl,rfl,trivial⟩,rfl⟩
   show some (vi ((j+1:Nat)+1))=some (vi (j+1+1:Nat))
   congr 2
  ·have:j=(Zae b).length-1:=by omega
   subst this
   obtain⟨p1,p2⟩:=sloB_all (b:=b)
   rw[p1,p2]
   refine wkT ?_
   refine wiT (fun h3=>?_) (fun h3=>?_)
   ·refine wkT ?_
    exact⟨i1,by rw[ZfI,if_pos h1,if_pos (by exact h3)];rfl⟩
   ·refine wkT ?_
    exact⟨i1,by rw[ZfI,if_pos h1,if_neg (by exact h3)];rfl⟩
theorem MostR_ok {bv:Value}{b:Bk}(hb:BkAt H bv b)(hl:b.pts.length<=1000000)(hl2:b.cks.length<=1000000) :
  LL.Zag P 36 #[bv] H fun v H'=>Inc H H'∧v=.tuple #[vi (if Zah b true=0 then (ZiE b).s else 0),vi (if Zah b true=0 then (ZiE b).k else 0),vi (Zah b true)]:=by
 have hs:∀ g,P.still g=false:=Loud.loud
 have hb0:=hb
 obtain⟨pv,cv,rfl,hp,hc⟩:=hb
 obtain⟨Ap,cp,rfl,hp'⟩:=id hp
 obtain⟨Ac,cc,rfl,hc'⟩:=id hc
 refine IsN.m (isn c36) (args:=[.agg #[vi b.op,vi b.sl,.slice Ap b.pts.length cp,.slice Ac b.cks.length cc]]) rfl ?_
 unfold n36
 refine wkT ?_
 refine Zab (vs:=[.agg #[vi b.op,vi b.sl,.slice Ap b.pts.length cp,.slice Ac b.cks.length cc],vb true]) rfl (WaE (there:=true) hb0 hl hl2) ?_
 rintro v H1 ⟨i1,A,c,rfl,hw⟩
 refine wkT ?_
 refine wiT (fun h1=>?_) (fun h1=>?_)
 ·refine wkT ?_
  exact⟨i1,by rw[if_neg h1,if_neg h1];rfl⟩
 ·have e2:opL b true=Zae b:=if_pos h1
  have val:=Wap h1
  have hn:=val.n
  rw[e2]at hw ⊢
  obtain⟨rows,s1,r1⟩:=id hw
  have hrl:=r1.len
  have hll:=Zbp val
  refine wkT ?_
  refine ZaP (α:=Value×Option Nat) (Zae b).length (fun j s H'=>Inc H1 H'∧Own H1 H' 3 s.1 ((((Zae b).take j).filter (ZgD b)).map fun x=>lowF b (Zas b x)) s.2) (fun j s=>[(1,vi 0),(5,.slice A (Zae b).length c),(7,s.1),(8,vi j)]) (fun _ _=>[(1,[vi b.op,vi b.sl,.slice Ap b.pts.length cp,.slice Ac b.cks.length cc])]) (.slice none 0 0,none) ⟨.refl _,.nil _ _ _⟩ ⟨rfl,rfl,rfl,rfl,trivial⟩ ⟨rfl,trivial⟩ ?_
  rintro j ⟨v7,b7⟩ H2 hj ⟨i2,o7⟩
  simp only at o7
  have hfl:((((Zae b).take j).filter (ZgD b)).map fun x=>lowF b (Zas b x)).length<=1782:=by rw[List.length_map];exact Nat.le_trans (List.length_filter_le _ _) (by rw[List.length_take];omega)
  refine wkT ?_
  refine wiT (fun h2=>?_) (fun h2=>?_)
  ·have hj':j<(Zae b).length:=by omega
   have hft:=fit_take hj'
   obtain⟨q1,q2,q3⟩:=r1.at_ j (by omega) hj'
   have hx:(Zae b)[j]∈Zae b:=List.getElem_mem hj'
   have hg4:=Wal val (Zae b)[j]
   refine wkT ?_
   refine ZaE (s1.inc i2) rfl rfl rfl (i:=j) (by omega) fun a ha=>?_
   refine wkT ?_
   have hcell:CellsAt H2 (a.add 3) [rows[j].g]:=ZbA (j:=3) ha rfl
   refine Zaf (hs _) rfl hcell ?_
   refine wkT ?_
   refine Zab (vs:=[.agg #[vi b.op,vi b.sl,.slice Ap b.pts.length cp,.slice Ac b.cks.length cc],rows[j].g]) rfl (Wag val (hb0.inc (i1.trans i2)) (q3.inc i2) (Waa val _) (Wan val hx)) ?_
   rintro v _ ⟨rfl,rfl⟩
   rw[hg4]
   refine wkT ?_
   refine wiT (fun h3=>?_) (fun h3=>?_)
   ·have hf:ZgD b (Zae b)[j]=true:=Wao.2 h3
    rw[hf,if_pos rfl]at hft
    generalize lowF b (Zas b (Zae b)[j])=z at *
    refine wkT ?_
    refine Zat (cs:=[vi z]) (hs _) rfl fun r5 hr5=>?_
    refine wkT ?_
    refine ZbW (l':=[z]) (und u34) (und u34) (tif t3) rfl (by decide) (i2.trans (Zaj hr5)) (o7.ins hr5) WaZ rfl (by simp only[List.length_singleton];omega) (by omega) rfl rfl (hs _) fun v8 H4 b8 k1 k2 k3=>?_
    rw[<-hft]at k2
    refine wkT ?_
    exact⟨(⟨j+1,by omega⟩,(v8,b8)),Nat.sub_lt_sub_left (by omega) (Nat.lt_succ_self j),⟨k1,k2⟩,⟨rfl,rfl,rfl,rfl,trivial⟩,⟨rfl,trivial⟩,rfl⟩
   ·have hf:ZgD b (Zae b)[j]=false:=by rw[Bool.eq_false_iff];exact fun e=>h3 (Wao.1 e)
    rw[hf,if_neg (by decide),List.append_nil]at hft
    refine wkT ?_
    exact⟨(⟨j+1,by omega⟩,(v7,b7)),Nat.sub_lt_sub_left (by omega) (Nat.lt_succ_self j),⟨i2,by rw[hft];exact o7⟩,⟨rfl,rfl,rfl,rfl,trivial⟩,⟨rfl,trivial⟩,rfl⟩
  have:j=(Zae b).length:=by omega
  subst this
  rw[List.take_length]at o7 hfl
  refine wkT ?_
  refine Zab (vs:=[v7]) rfl (Wa4 o7.sl (by omega)) ?_
  rintro v8 H3 ⟨i3,b3,o3⟩
  have hsm:=Wbe val
  have hol:=WaW (Wac b)
  have hlow:∀ z∈ordF (Wac b),-199<=z∧z<=999:=fun z hz=>by
   obtain⟨x,hx,rfl⟩:=List.mem_map.1 (((WaV _).2 z).1 hz)
   have hx:=(List.mem_filter.1 hx).1
   obtain⟨_,i,hi,e⟩:=Wam (b:=b) (Zas b x) (by omega)
   have:=gap_in val (Zc2 val x hx) i (by omega)
   have:=(pt_rg val hi).2.2.1
   omega
  have hfl':(Wac b).length<=1782:=hfl
  have o3:Own H2 H3 3 v8 (ordF (Wac b)) b3:=o3
  generalize ordF (Wac b)=L at *
  have s8:=o3.sl
  have ii:=i2.trans i3
  have hcl:∀ s,cntF b s<=1782:=fun s=>Nat.le_trans (cnt_le b s) hll
  refine wkT ?_
  refine ZaX L.length (fun j H'=>H3=H') (fun j=>[(1,vi 0),(5,.slice A (Zae b).length c),(7,v8),(10,vi (Wae (cntF b) (L.take j)).1),(11,vi (Wae (cntF b) (L.take j)).2),(12,vi j)]) (fun _=>[(1,[vi b.op,vi b.sl,.slice Ap b.pts.length cp,.slice Ac b.cks.length cc])]) rfl ⟨rfl,rfl,rfl,rfl,rfl,rfl,trivial⟩ ⟨rfl,trivial⟩ ?_
  rintro j _ hj rfl
  refine wkT ?_
  refine Zav s8 rfl ?_
  refine wkT ?_
  refine wiT (fun h2=>?_) (fun h2=>?_)
  ·have hj':j<L.length:=by omega
   have hsc:=WaM (cntF b) (L.take j) L[j]
   rw[<-List.take_succ_eq_append_getElem hj']at hsc
   have hz:=hlow _ (List.getElem_mem hj')
   refine wkT ?_
   refine ZaE s8 rfl rfl rfl (i:=j) hj' fun a ha=>?_
   refine wkT ?_
   refine Zaf (hs _) rfl ha ?_
   refine wkT ?_
   refine Zab (vs:=[.agg #[vi b.op,vi b.sl,.slice Ap b.pts.length cp,.slice Ac b.cks.length cc],.slice A (Zae b).length c,vi L[j]]) rfl (Does_ok val (hb0.inc (i1.trans ii)) (hw.inc ii) ⟨by omega,by omega⟩) ?_
   rintro v _ ⟨rfl,rfl⟩
   refine wkT ?_
   refine wiT (fun h3=>?_) (fun h3=>?_)
   ·rw[if_pos h3]at hsc
    refine wkT ?_
    refine ZaE s8 rfl rfl rfl (i:=j) hj' fun a ha=>?_
    refine wkT ?_
    refine Zaf (hs _) rfl ha ?_
    refine wkT ?_
    exact⟨⟨j+1,by omega⟩,Nat.sub_lt_sub_left (by omega) (Nat.lt_succ_self j),rfl,⟨rfl,rfl,rfl,by rw[hsc];rfl,by rw[hsc];rfl,rfl,trivial⟩,⟨rfl,trivial⟩,rfl⟩
   ·rw[if_neg h3]at hsc
    refine wkT ?_
    exact⟨⟨j+1,by omega⟩,Nat.sub_lt_sub_left (by omega) (Nat.lt_succ_self j),rfl,⟨rfl,rfl,rfl,by rw[hsc];rfl,by rw[hsc];rfl,rfl,trivial⟩,⟨rfl,trivial⟩,rfl⟩
  ·have:j=L.length:=by omega
   subst this
   rw[List.take_length,hsm]
   refine wkT ?_
   exact⟨i1.trans ii,by rw[if_pos h1,if_pos h1,h1];rfl⟩
end
end Go.Proofs
end
section
open Go Go.LL
namespace Go.Proofs
section
variable  {P:Prg}[Tz P][Loud P]{H:Hp}
set_option maxHeartbeats 8000000
set_option maxRecDepth 40000
theorem WaB (hPP:P=PP){bv:Value}{b:Bk}(hb:BkAt H bv b)(hg:Za8 H):n4.m P (MFin P r4 fun v _=>v=vb true) (env0 [bv]) H:=by
 have hs:∀ g,P.still g=false:=Loud.loud
 have hb0:=hb
 obtain⟨pv,cv,rfl,hp,hc⟩:=hb
 unfold n4
 refine wkT ?_
 refine Zab (vs:=[.agg #[vi b.op,vi b.sl,pv,cv]]) rfl (Great_ok hb0) ?_
 rintro v _ ⟨rfl,rfl⟩
 refine wkT ?_
 refine wiT (fun h0=>?_) (fun h0=>?_)
 ·refine wkT ?_
  refine Zab (vs:=[]) rfl (spiled_okP hPP hg) ?_
  rintro v H1 ⟨_,rfl⟩
  refine wkT ?_
  rfl
 simp only[Bool.or_eq_false_iff,decide_eq_false_iff_not]at h0
 have hl:b.pts.length<=1000000:=by omega
 have hl2:b.cks.length<=1000000:=by omega
 refine wkT ?_
 refine Zab (vs:=[.agg #[vi b.op,vi b.sl,pv,cv]]) rfl (Had_ok hb0 hg hl hl2) ?_
 rintro v H1 ⟨i1,rfl⟩
 refine wkT ?_
 refine Zab (vs:=[.agg #[vi b.op,vi b.sl,pv,cv]]) rfl (HadR_ok (hb0.inc i1) hl hl2) ?_
 rintro v H2 ⟨j2,rfl⟩
 have i2:=i1.trans j2
 refine wkT ?_
 refine wiT (fun h1=>?_) (fun h1=>?_)
 ·exact absurd rfl h1
 refine wkT ?_
 refine wiT (fun h1=>?_) (fun h1=>?_)
 ·exact absurd rfl h1
 refine wkT ?_
 refine Zab (vs:=[.agg #[vi b.op,vi b.sl,pv,cv]]) rfl (Zm2 (hb0.inc i2) (CellsAt.inc hg i2) hl hl2) ?_
 rintro v H3 ⟨j3,rfl⟩
 have i3:=i2.trans j3
 obtain⟨x,y,hy⟩:∃ (x:Int) (y:Bool),ZfI b=.tuple #[vi x,vb y,vi (Zah b true)]:=by
  rw[ZfI]
  split
  ·rename_i e
   rw[e]
   split
   ·exact⟨_,_,rfl⟩
   ·exact⟨_,_,rfl⟩
  ·exact⟨_,_,rfl⟩
 have hy':=hy
 rw[hy]
 refine wkT ?_
 refine Zab (vs:=[.agg #[vi b.op,vi b.sl,pv,cv]]) rfl (Wa2 (hb0.inc i3) hl hl2) ?_
 rintro v H4 ⟨j4,rfl⟩
 have i4:=i3.trans j4
 rw[hy']
 refine wkT ?_
 refine wiT (fun h1=>?_) (fun h1=>?_)
 ·exact absurd rfl h1
 refine wkT ?_
 refine om_neb rfl rfl ?_
 have hyy:(y != y)=false:=by cases y<;>rfl
 rw[hyy]
 refine wkT ?_
 refine wiT (fun h1=>?_) (fun h1=>?_)
 ·exact absurd rfl h1
 refine wkT ?_
 refine Zab (vs:=[.agg #[vi b.op,vi b.sl,pv,cv]]) rfl (Most_okP hPP (hb0.inc i4) (CellsAt.inc hg i4) hl hl2) ?_
 rintro v H5 ⟨j5,rfl⟩
 have i5:=i4.trans j5
 refine wkT ?_
 refine Zab (vs:=[.agg #[vi b.op,vi b.sl,pv,cv]]) rfl (MostR_ok (hb0.inc i5) hl hl2) ?_
 rintro v H6 ⟨j6,rfl⟩
 have i6:=i5.trans j6
 refine wkT ?_
 refine wiT (fun h1=>?_) (fun h1=>?_)
 ·refine wkT ?_
  refine wiT (fun h2=>?_) (fun h2=>?_)
  ·refine wkT ?_
   refine wiT (fun h3=>?_) (fun h3=>?_)
   ·refine wkT ?_
    refine Zab (vs:=[]) rfl (spiled_okP hPP (CellsAt.inc hg i6)) ?_
    rintro v H11 ⟨_,rfl⟩
    refine wkT ?_
    rfl
   ·exact absurd rfl h3
  ·exact absurd rfl h2
 ·exact absurd rfl h1
end
end Go.Proofs
end
section
open Go Go.LL Go.Conc Go.ConcM
namespace Go.Proofs.YtamdhefhhdgjbaaGreatDoor
open Go.ChangeShapes Go.WideShapes Go.ChangeAt Go.RowKit
set_option maxRecDepth 100000 in
theorem Wak (os:Os)(started:os.Started)(H:Type)(enc:TypeId×Value->H)(F:Stop.Interp) :
  ReturnsInLeavingWide { calm:=true } Tryz.checked os 4 .any (fun w args=>(Rows.spileBoardsSpec.pre enc Tryz.prog Tryz.f4 [] false w args∧laidMetH Tryz.prog [("ribband/spile.checks",Rows.laid_ribband_spile_checks)] w)∧sizedMet enc Tryz.prog Tryz.f4 (OpenSpec.ofChange Rows.spileBoardsSpec) false w args)
   ((OpenSpec.ofChange Rows.spileBoardsSpec).postWith enc Tryz.prog Tryz.f4 F (outsideKept [.timePasses]) false true false):=by
 refine law_lifted os started F rfl Tryz.func4 Tryz.results4 (by kernel_rfl) (by kernel_rfl) ?_ ?_ ?_ #[.agg #[.int .i64 0,.int .i64 0,.slice none 0 0,.slice none 0 0]] (by kernel_rfl) (by kernel_rfl) (by kernel_rfl)
 ·intro ds hl
  rw[Tryz.params4]at hl
  match ds,hl with
  | [d0],_=>rfl
 ·have h:(Tryz.f4.params.toList.all fun t=>Tryz.prog.readableRec t && decide (t<Tryz.prog.types.size))=true:=by kernel_rfl
  intro t ht
  simpa using List.all_eq_true.1 h t ht
 ·intro W base args ds p hval hA hg
  rw[Tryz.params4]at hA hval
  obtain⟨v0,w0,d0,e0,p0,q0,ha,rfl,rfl,h0,r0⟩:=trodAll_cons hA
  obtain⟨rfl,rfl,rfl⟩:=trodAll_nil r0
  obtain rfl:args=#[v0]:=by cases args;simp_all
  obtain⟨b0,k0⟩:=bk_open (hval 0 25 v0 rfl rfl) h0
  exact reach_top (args:=[v0]) (isn c4) Tryz.func4 Tryz.results4 rfl (WaB rfl k0 hg)
theorem spileBoards_holds:Rows.SpileBoardsSaid:=
 OpenClaim.holds_of_wide_leaving_time 4 Tryz.f4 rfl rfl rfl rfl rfl rfl rfl ⟨rfl,rfl,rfl,rfl,rfl⟩ rfl rfl rfl rfl rfl WaA Tryz.func4 Waz Way Wax
  (fun os started H enc _ F=>Wak os started H enc F)
theorem spileBoards_card:Rows.SpileBoardsCardSaid:=
 ZmC .later [.funcs] true (true,"7d20c1c653d3570dc0b3adced23199ecfee38ebbf859018ae9f3ecca83f03cb8") false
  spileBoards_holds (by kernel_rfl) spileBoards_row_tie rfl ⟨rfl,rfl⟩ (by kernel_rfl) rfl
  (fun f fn hf hfn=>by
   obtain rfl:f=4:=Option.some.inj (WaA.symm.trans hf) |>.symm
   obtain rfl:fn=Tryz.f4:=(Option.some.inj (Tryz.func4.symm.trans hfn)).symm
   exact⟨by kernel_rfl,fun j t ht=>by
    have hall:(Tryz.f4.params.all fun u=>!Tryz.prog.wantsStandIn u)=true:=by kernel_rfl
    have hm:=Array.mem_of_getElem? ht
    exact(show Tryz.prog.wantsStandIn t=false by simpa using (Array.all_eq_true_iff_forall_mem.1 hall) t hm)⟩)
  (by kernel_rfl)
end Go.Proofs.YtamdhefhhdgjbaaGreatDoor
end
