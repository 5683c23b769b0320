/- proofs about Leango given: part P27; made by a program out of the longer texts in wip -/
import Derived.Test.YtamdhefhhdgjbaaGreatDoorP26
set_option linter.all false
section
open Go Go.LL
namespace Go.Proofs
section
variable  {P:Prg}[Tz P]{H:Hp}
set_option maxHeartbeats 400000
theorem ZeN {bv:Value}{b:Bk}(hb:BkAt H bv b)(n:Int)(hn:b.pts.length<=1000000)(hst:P.still H.gh=false):LL.Zag P 99 #[bv,vi n] H fun v H'=>H=H'∧v=vb (decide (0<=n∧n<b.pts.length)):=by
 obtain⟨pv,cv,rfl,hp,hc⟩:=hb
 refine IsN.m (isn c99) (args:=[.agg #[vi b.op,vi b.sl,pv,cv],vi n]) rfl ?_
 unfold n99
 refine wkT ?_
 refine Zav hp rfl ?_
 refine wkT ?_
 refine Zab (vs:=[vi n,vi 0,vi (b.pts.length-1)]) rfl (Zby _ _ _) ?_
 rintro v _ ⟨rfl,rfl⟩
 refine wkT ?_
 exact⟨rfl,congrArg vb (decide_eq_decide.2 (by omega))⟩
def Zbj (b:Bk):Int:=if (0<=b.op∧b.op<=99)∧(0<=b.sl∧b.sl<=3) then 0 else 1
theorem Zli {bv:Value}{b:Bk}(hb:BkAt H bv b)(hst:P.still H.gh=false):LL.Zag P 232 #[bv] H fun v H'=>H=H'∧v=vi (Zbj b):=by
 obtain⟨pv,cv,rfl,hp,hc⟩:=hb
 refine IsN.m (isn c232) (args:=[.agg #[vi b.op,vi b.sl,pv,cv]]) rfl ?_
 unfold n232
 refine wkT ?_
 refine Zab (vs:=[vi b.op,vi 0,vi 99]) rfl (Zby _ _ _) ?_
 rintro v _ ⟨rfl,rfl⟩
 refine wkT ?_
 refine wiT (fun h1=>?_) (fun h1=>?_)
 ·refine wkT ?_
  exact⟨rfl,by simp[Zbe,Zbj];omega⟩
 ·refine wkT ?_
  refine Zab (vs:=[vi b.sl,vi 0,vi 3]) rfl (Zby _ _ _) ?_
  rintro v _ ⟨rfl,rfl⟩
  refine wkT ?_
  refine wiT (fun h2=>?_) (fun h2=>?_)
  ·refine wkT ?_
   exact⟨rfl,by simp[Zbe,Zbj];omega⟩
  ·refine wkT ?_
   exact⟨rfl,by simp[Zbe,Zbj];omega⟩
def okP (p:SPt):Bool:=decide (0<=p.ml∧p.ml<=p.mh∧p.mh<=99) && decide (p.mh-p.ml<3) && decide (0<=p.bl∧p.bl<=p.bh∧p.bh<=199) && decide (0<=p.w∧p.w<=199)
def Zbk (b:Bk):Int:=if ¬ (2<=b.pts.length∧b.pts.length<=4) then 2 else if b.pts.all okP then 0 else 1
theorem ZkE {α:Type}{f:α->Bool}{l:List α}{j:Nat}(hj:j<l.length):(l.take (j+1)).all f=((l.take j).all f && f l[j]):=by
 rw[List.take_succ_eq_append_getElem hj,List.all_append];simp only[List.all_cons,List.all_nil,Bool.and_true]
theorem all_no {α:Type}{f:α->Bool}{l:List α}{j:Nat}(hj:j<l.length)(h:f l[j]=false):l.all f=false:=by
 rw[List.all_eq_false];exact⟨l[j],List.getElem_mem hj,by simp[h]⟩
theorem Zl2 {bv:Value}{b:Bk}(hb:BkAt H bv b)(hl:b.pts.length<=1000000)(hst:P.still H.gh=false):LL.Zag P 233 #[bv] H fun v H'=>H=H'∧v=vi (Zbk b):=by
 obtain⟨pv,cv,rfl,hp,hc⟩:=hb
 refine IsN.m (isn c233) (args:=[.agg #[vi b.op,vi b.sl,pv,cv]]) rfl ?_
 unfold n233
 refine wkT ?_
 refine Zav hp rfl ?_
 refine wkT ?_
 refine Zab (vs:=[vi b.pts.length,vi 2,vi 4]) rfl (Zby _ _ _) ?_
 rintro v _ ⟨rfl,rfl⟩
 refine wkT ?_
 refine wiT (fun h1=>?_) (fun h1=>?_)
 ·refine wkT ?_
  exact⟨rfl,by simp[Zbe,Zbk];omega⟩
 ·refine wkT ?_
  refine Zav hp rfl ?_
  refine wkT ?_
  refine ZaX b.pts.length (fun j H'=>H=H'∧(b.pts.take j).all okP=true) (fun j=>[(13,pv),(14,vi b.pts.length),(15,vi j)]) (fun _=>[]) ⟨rfl,by simp⟩ ⟨rfl,rfl,rfl,trivial⟩ trivial ?_
  rintro j _ hj ⟨rfl,hall⟩
  refine wkT ?_
  refine wiT (fun h2=>?_) (fun h2=>?_)
  ·refine wkT ?_
   refine ZaE hp rfl rfl rfl (i:=j) (by omega) fun a ha=>?_
   refine wkT ?_
   refine Zao hst rfl ha rfl ?_
   refine wkT ?_
   refine Zab (vs:=[.agg #[vi b.pts[j].ml,vi b.pts[j].mh],vi 0,vi 99]) rfl (Zfl _ _ _ _ hst) ?_
   rintro v _ ⟨rfl,rfl⟩
   refine wkT ?_
   have next:okP b.pts[j]=true->(b.pts.take (j+1)).all okP=true:=fun h=>by rw[ZkE (by omega),hall,h];rfl
   have stop:okP b.pts[j]=false->Zbk b=1:=fun h=>by rw[Zbk,if_neg (by omega),all_no (by omega) h];rfl
   unfold okP at next stop
   refine wiT (fun h3=>?_) (fun h3=>?_)
   ·refine wkT ?_
    exact⟨rfl,by rw[stop (by simp[h3])];rfl⟩
   ·refine wkT ?_
    refine wiT (fun h4=>?_) (fun h4=>?_)
    ·refine wkT ?_
     exact⟨rfl,by rw[stop (by simp;omega)];rfl⟩
    ·refine wkT ?_
     refine Zab (vs:=[.agg #[vi b.pts[j].bl,vi b.pts[j].bh],vi 0,vi 199]) rfl (Zfl _ _ _ _ hst) ?_
     rintro v _ ⟨rfl,rfl⟩
     refine wkT ?_
     refine wiT (fun h5=>?_) (fun h5=>?_)
     ·refine wkT ?_
      exact⟨rfl,by rw[stop (by simp;omega)];rfl⟩
     ·refine wkT ?_
      refine Zab (vs:=[vi b.pts[j].w,vi 0,vi 199]) rfl (Zby _ _ _) ?_
      rintro v _ ⟨rfl,rfl⟩
      refine wkT ?_
      refine wiT (fun h6=>?_) (fun h6=>?_)
      ·refine wkT ?_
       exact⟨rfl,by rw[stop (by simp;omega)];rfl⟩
      ·refine wkT ?_
       exact⟨⟨j+1,by omega⟩,Nat.sub_lt_sub_left (by omega) (Nat.lt_succ_self j),⟨rfl,next (by simp;omega)⟩,⟨rfl,rfl,rfl,trivial⟩,trivial,rfl⟩
  ·refine wkT ?_
   have:j=b.pts.length:=by omega
   subst this
   exact⟨rfl,by rw[Zbk,if_neg (by omega),if_pos (by simpa using hall)];rfl⟩
end
end Go.Proofs
end
section
open Go Go.LL
namespace Go.Proofs
def ckS (n:Nat):List SCk->Int
 | []=>0
 | c :: l=>if ¬ (0<=c.p∧c.p<n) then 6 else if ¬ (-199<=c.gl∧c.gl<=c.gh∧c.gh<=199) then 1 else ckS n l
def ZbJ (b:Bk):Int:=if 3<b.cks.length then 2 else ckS b.pts.length b.cks
def snag (b:Bk):Int:=if Zbj b≠0 then Zbj b else if Zbk b≠0 then Zbk b else ZbJ b
def Za8 (H:Hp):Prop:=CellsAt H ⟨0,0,none⟩ [vf 232,vf 233,vf 234]
theorem ZcI {α:Type}{l:List α}{j:Nat}(hj:j<l.length):l.drop j=l[j] :: l.drop (j+1):=List.drop_eq_getElem_cons hj
section
variable  {P:Prg}[Tz P]{H:Hp}
set_option maxHeartbeats 400000
theorem Zlj {bv:Value}{b:Bk}(hb:BkAt H bv b)(hl:b.pts.length<=1000000)(hl2:b.cks.length<=1000000)(hst:P.still H.gh=false):LL.Zag P 234 #[bv] H fun v H'=>H=H'∧v=vi (ZbJ b):=by
 have hb0:=hb
 obtain⟨pv,cv,rfl,hp,hc⟩:=hb
 refine IsN.m (isn c234) (args:=[.agg #[vi b.op,vi b.sl,pv,cv]]) rfl ?_
 unfold n234
 refine wkT ?_
 refine Zav hc rfl ?_
 refine wkT ?_
 refine wiT (fun h1=>?_) (fun h1=>?_)
 ·refine wkT ?_
  exact⟨rfl,by rw[ZbJ,if_pos (by omega)];rfl⟩
 ·refine wkT ?_
  refine Zav hc rfl ?_
  refine wkT ?_
  refine ZaX b.cks.length (fun j H'=>H=H'∧ckS b.pts.length b.cks=ckS b.pts.length (b.cks.drop j)) (fun j=>[(1,vi 0),(12,cv),(13,vi b.cks.length),(14,vi j)]) (fun _=>[(1,[vi b.op,vi b.sl,pv,cv])]) ⟨rfl,rfl⟩ ⟨rfl,rfl,rfl,rfl,trivial⟩ ⟨rfl,trivial⟩ ?_
  rintro j _ hj ⟨rfl,hall⟩
  refine wkT ?_
  refine wiT (fun h2=>?_) (fun h2=>?_)
  ·have hj':j<b.cks.length:=by omega
   rw[ZcI hj',ckS]at hall
   refine wkT ?_
   refine ZaE hc rfl rfl rfl (i:=j) hj' fun a ha=>?_
   refine wkT ?_
   refine Zao hst rfl ha rfl ?_
   refine wkT ?_
   refine Zab (vs:=[.agg #[vi b.op,vi b.sl,pv,cv],vi b.cks[j].p]) rfl (ZeN hb0 _ hl hst) ?_
   rintro v _ ⟨rfl,rfl⟩
   refine wkT ?_
   refine wiT (fun h3=>?_) (fun h3=>?_)
   ·refine wkT ?_
    exact⟨rfl,by rw[ZbJ,if_neg (by omega),hall,if_pos h3];rfl⟩
   ·refine wkT ?_
    refine Zab (vs:=[.agg #[vi b.cks[j].gl,vi b.cks[j].gh],vi (-199),vi 199]) rfl (Zfl _ _ _ _ hst) ?_
    rintro v _ ⟨rfl,rfl⟩
    refine wkT ?_
    refine wiT (fun h4=>?_) (fun h4=>?_)
    ·refine wkT ?_
     exact⟨rfl,by rw[ZbJ,if_neg (by omega),hall,if_neg (by omega),if_pos h4];rfl⟩
    ·refine wkT ?_
     rw[if_neg (by omega),if_neg (by omega)]at hall
     exact⟨⟨j+1,by omega⟩,Nat.sub_lt_sub_left (by omega) (Nat.lt_succ_self j),⟨rfl,hall⟩,⟨rfl,rfl,rfl,rfl,trivial⟩,⟨rfl,trivial⟩,rfl⟩
  ·refine wkT ?_
   have:j=b.cks.length:=by omega
   subst this
   rw[List.drop_length]at hall
   exact⟨rfl,by rw[ZbJ,if_neg (by omega),hall];rfl⟩
theorem ZaL {bv:Value}{b:Bk}(hb:BkAt H bv b)(hg:Za8 H)(hl:b.pts.length<=1000000)(hl2:b.cks.length<=1000000)(hst:P.still H.gh=false):LL.Zag P 78 #[bv] H fun v H'=>H=H'∧v=vi (snag b):=by
 have hb0:=hb
 obtain⟨pv,cv,rfl,hp,hc⟩:=hb
 refine IsN.m (isn c78) (args:=[.agg #[vi b.op,vi b.sl,pv,cv]]) rfl ?_
 unfold n78
 refine wkT ?_
 refine Zao hst rfl hg rfl ?_
 refine wkT ?_
 refine ZaX 3 (fun j H'=>H=H'∧(1<=j->Zbj b=0)∧(2<=j->Zbk b=0)∧(3<=j->ZbJ b=0)) (fun j=>[(1,vi 0),(6,.agg #[vf 232,vf 233,vf 234]),(7,vi j)]) (fun _=>[(1,[vi b.op,vi b.sl,pv,cv])]) ⟨rfl,by omega,by omega,by omega⟩ ⟨rfl,rfl,rfl,trivial⟩ ⟨rfl,trivial⟩ ?_
 rintro j _ hj ⟨rfl,g1,g2,g3⟩
 refine wkT ?_
 refine wiT (fun h1=>?_) (fun h1=>?_)
 ·have hj3:j=0∨j=1∨j=2:=by omega
  refine wkT ?_
  rcases hj3 with rfl | rfl | rfl
  ·refine Zdh (und u178) (tif t177) (agf a177) rfl rfl (i:=0) (by omega) rfl ?_
   refine wkT ?_
   refine ZaQ rfl rfl (Zc1 (by kernel_rfl) (Zli hb0 hst)) ?_
   rintro v _ ⟨rfl,rfl⟩
   refine wkT ?_
   refine wiT (fun h2=>?_) (fun h2=>?_)
   ·refine wkT ?_
    exact⟨rfl,by rw[snag,if_pos (by exact h2)];rfl⟩
   ·refine wkT ?_
    exact⟨⟨1,by omega⟩,(by show 3-1<3-0;omega),⟨rfl,fun _=>h2,fun h=>absurd (show 2<=1 from h) (by omega),fun h=>absurd (show 3<=1 from h) (by omega)⟩,⟨rfl,rfl,rfl,trivial⟩,⟨rfl,trivial⟩,rfl⟩
  ·refine Zdh (und u178) (tif t177) (agf a177) rfl rfl (i:=1) (by omega) rfl ?_
   refine wkT ?_
   refine ZaQ rfl rfl (Zc1 (by kernel_rfl) (Zl2 hb0 hl hst)) ?_
   rintro v _ ⟨rfl,rfl⟩
   refine wkT ?_
   refine wiT (fun h2=>?_) (fun h2=>?_)
   ·refine wkT ?_
    exact⟨rfl,by rw[snag,if_neg (by rw[g1 (by omega)];simp),if_pos h2];rfl⟩
   ·refine wkT ?_
    exact⟨⟨2,by omega⟩,(by show 3-2<3-1;omega),⟨rfl,fun _=>g1 (by omega),fun _=>h2,fun h=>absurd (show 3<=2 from h) (by omega)⟩,⟨rfl,rfl,rfl,trivial⟩,⟨rfl,trivial⟩,rfl⟩
  ·refine Zdh (und u178) (tif t177) (agf a177) rfl rfl (i:=2) (by omega) rfl ?_
   refine wkT ?_
   refine ZaQ rfl rfl (Zc1 (by kernel_rfl) (Zlj hb0 hl hl2 hst)) ?_
   rintro v _ ⟨rfl,rfl⟩
   refine wkT ?_
   refine wiT (fun h2=>?_) (fun h2=>?_)
   ·refine wkT ?_
    exact⟨rfl,by rw[snag,if_neg (by rw[g1 (by omega)];simp),if_neg (by rw[g2 (by omega)];simp)];rfl⟩
   ·refine wkT ?_
    exact⟨⟨3,by omega⟩,(by show 3-3<3-2;omega),⟨rfl,fun _=>g1 (by omega),fun _=>g2 (by omega),fun _=>h2⟩,⟨rfl,rfl,rfl,trivial⟩,⟨rfl,trivial⟩,rfl⟩
 ·have:j=3:=by omega
  subst this
  refine wkT ?_
  exact⟨rfl,by rw[snag,if_neg (by rw[g1 (by omega)];simp),if_neg (by rw[g2 (by omega)];simp),g3 (by omega)];rfl⟩
end
end Go.Proofs
end
section
open Go Go.LL
namespace Go.Proofs
structure N4 where
 (a b c d:Int)
def N4.get (n:N4):Nat->Int
 | 0=>n.a
 | 1=>n.b
 | 2=>n.c
 | _=>n.d
def N4.of (f:Nat->Int):N4:=⟨f 0,f 1,f 2,f 3⟩
theorem N4.of_get (f:Nat->Int){j:Nat}(hj:j<4):(N4.of f).get j=f j:=by
 match j,hj with
 | 0,_=>rfl
 | 1,_=>rfl
 | 2,_=>rfl
 | 3,_=>rfl
theorem N4.ext' {m n:N4}(h:∀ j,j<4->m.get j=n.get j):m=n:=by
 cases m;cases n
 have h0:=h 0 (by omega);have h1:=h 1 (by omega);have h2:=h 2 (by omega);have h3:=h 3 (by omega)
 simp only[N4.get]at h0 h1 h2 h3
 subst h0 h1 h2 h3
 rfl
def N4.cells (n:N4):List Value:=[vi n.a,vi n.b,vi n.c,vi n.d]
def N4.list (n:N4):List Int:=[n.a,n.b,n.c,n.d]
def numV (n:N4):Value:=.agg #[vi n.a,vi n.b,vi n.c,vi n.d]
theorem ZcJ (n:N4){j:Nat}(hj:j<4):n.cells[0+j * 1]? = some (vi (n.get j)):=by
 match j,hj with
 | 0,_=>rfl
 | 1,_=>rfl
 | 2,_=>rfl
 | 3,_=>rfl
def N4.put (n:N4)(j:Nat)(v:Int):N4:=N4.of fun i=>if i=j then v else n.get i
theorem Zey (n:N4){j:Nat}(v:Int)(hj:j<4):ZaN n.cells (0+j * 1) [vi v]=(n.put j v).cells:=by
 match j,hj with
 | 0,_=>rfl
 | 1,_=>rfl
 | 2,_=>rfl
 | 3,_=>rfl
theorem N4.put_get (n:N4){i j:Nat}(v:Int)(hi:i<4):(n.put j v).get i=if i=j then v else n.get i:=N4.of_get _ hi
structure Boat where
 m:N4
 (bf by_:Int)
def Boat.cells (x:Boat):List Value:=[vi x.m.a,vi x.m.b,vi x.m.c,vi x.m.d,vi x.bf,vi x.by_]
def ZaJ (x:Boat):Value:=.agg #[vi x.m.a,vi x.m.b,vi x.m.c,vi x.m.d,vi x.bf,vi x.by_]
theorem boat_get (x:Boat){j:Nat}(hj:j<4):x.cells[0+j * 1]? = some (vi (x.m.get j)):=by
 match j,hj with
 | 0,_=>rfl
 | 1,_=>rfl
 | 2,_=>rfl
 | 3,_=>rfl
instance:Enc Boat:=⟨6,fun x=>x.cells,fun _=>rfl⟩
def Zk9 (b:Bk)(x:Boat)(i:Nat):Int:=b.op-x.m.get i+if x.bf<=i then x.by_ else 0
def Zas (b:Bk)(x:Boat):N4:=.of fun i=>if i<b.pts.length then Zk9 b x i else 0
def Sm (n:Int):Prop:=-100000<=n∧n<=100000
def N4.Sm (n:N4):Prop:=∀ j,j<4->Proofs.Sm (n.get j)
structure BtOk (x:Boat):Prop where
 m:x.m.Sm
 by_:Sm x.by_
structure BkOk (b:Bk):Prop where
 op:Sm b.op
 le:b.pts.length<=4
def upTo (b:Bk)(x:Boat)(j:Nat):N4:=.of fun i=>if i<j then Zk9 b x i else 0
theorem ZlI {b:Bk}{x:Boat}{j:Nat}(_hj:j<4):(upTo b x j).put j (Zk9 b x j)=upTo b x (j+1):=by
 refine N4.ext' fun i hi=>?_
 rw[N4.put_get _ _ hi,upTo,N4.of_get _ hi,upTo,N4.of_get _ hi]
 by_cases e:i=j
 ·subst e;simp
 ·rw[if_neg e]
  by_cases h:i<j
  ·rw[if_pos h,if_pos (by omega)]
  ·rw[if_neg h,if_neg (by omega)]
theorem N4.put_put (n:N4){j:Nat}(v w:Int):(n.put j v).put j w=n.put j w:=by
 refine N4.ext' fun i hi=>?_
 rw[N4.put_get _ _ hi,N4.put_get _ _ hi,N4.put_get _ _ hi]
 split<;>rfl
section
variable  {P:Prg}[Tz P]{H:Hp}
set_option maxHeartbeats 400000
theorem Zdn {bv:Value}{b:Bk}{x:Boat}(hb:BkAt H bv b)(ok:BkOk b)(okx:BtOk x)(hst:P.still H.gh=false):LL.Zag P 100 #[bv,ZaJ x] H fun v H'=>H=H'∧v=numV (Zas b x):=by
 obtain⟨pv,cv,rfl,hp,hc⟩:=hb
 have hle:=ok.le
 obtain⟨ho1,ho2⟩:=ok.op
 obtain⟨hy1,hy2⟩:=okx.by_
 refine IsN.m (isn c100) (args:=[.agg #[vi b.op,vi b.sl,pv,cv],ZaJ x]) rfl ?_
 unfold n100
 refine wkT ?_
 refine Zav hp rfl ?_
 refine wkT ?_
 refine ZaX b.pts.length (fun j H'=>H=H') (fun j=>[(2,vi 0),(3,vi 0),(4,vi 0),(5,vi 0),(10,vi b.pts.length),(11,vi j)]) (fun j=>[(2,[vi b.op,vi b.sl,pv,cv]),(3,x.cells),(4,[vi 0,vi 0,vi 0,vi 0]),(5,(upTo b x j).cells)]) rfl ⟨rfl,rfl,rfl,rfl,rfl,rfl,trivial⟩ ⟨rfl,rfl,rfl,rfl,trivial⟩ ?_
 rintro j _ hj rfl
 refine wkT ?_
 refine wiT (fun h1=>?_) (fun h1=>?_)
 ·have hj4:j<4:=by omega
  obtain⟨hm1,hm2⟩:=okx.m j hj4
  refine wkT ?_
  refine ZcB rfl rfl hj4 ?_
  refine wkT ?_
  refine Zdg hst rfl rfl (boat_get x hj4) ?_
  refine wkT ?_
  refine ZcB rfl rfl hj4 ?_
  refine wkT ?_
  refine Zkb hst rfl rfl rfl rfl (by show 0+j * 1+1<=4;omega) rfl ?_
  refine wkT ?_
  refine wiT (fun h2=>?_) (fun h2=>?_)
  ·refine wkT ?_
   refine ZcB rfl rfl hj4 ?_
   refine wkT ?_
   refine Zdg (v:=vi (b.op-x.m.get j)) hst rfl rfl (by show (ZaN (upTo b x j).cells (0+j * 1) [vi (b.op-x.m.get j)])[0+j * 1]? = _;rw[Zey _ _ hj4,ZcJ _ hj4,N4.put_get _ _ hj4,if_pos rfl]) ?_
   refine wkT ?_
   refine ZcB rfl rfl hj4 ?_
   refine wkT ?_
   refine Zkb hst rfl rfl rfl rfl (by show 0+j * 1+1<=(ZaN (upTo b x j).cells (0+j * 1) [vi (b.op-x.m.get j)]).length;rw[Zey _ _ hj4];show _<=4;omega) rfl ?_
   refine wkT ?_
   refine⟨⟨j+1,by omega⟩,Nat.sub_lt_sub_left (by omega) (Nat.lt_succ_self j),rfl,⟨rfl,rfl,rfl,rfl,rfl,rfl,trivial⟩,⟨rfl,rfl,rfl,?_,trivial⟩,rfl⟩
   show some (ZaN (ZaN (upTo b x j).cells (0+j * 1) [vi (b.op-x.m.get j)]) (0+j * 1) [vi (b.op-x.m.get j+x.by_)])=some (upTo b x (j+1)).cells
   rw[Zey _ _ hj4,Zey _ _ hj4,N4.put_put,<-ZlI hj4,Zk9,if_pos h2]
  ·refine wkT ?_
   refine⟨⟨j+1,by omega⟩,Nat.sub_lt_sub_left (by omega) (Nat.lt_succ_self j),rfl,⟨rfl,rfl,rfl,rfl,rfl,rfl,trivial⟩,⟨rfl,rfl,rfl,?_,trivial⟩,rfl⟩
   show some (ZaN (upTo b x j).cells (0+j * 1) [vi (b.op-x.m.get j)])=some (upTo b x (j+1)).cells
   rw[Zey _ _ hj4,<-ZlI hj4,Zk9,if_neg h2,Int.add_zero]
 ·have:j=b.pts.length:=by omega
  subst this
  refine wkT ?_
  exact⟨rfl,rfl⟩
end
end Go.Proofs
end
section
open Go Go.LL
namespace Go.Proofs
theorem Zcf {α:Type}[Enc α](l l':List α):encs (l++l')=encs l++encs l':=by simp[encs]
structure Own {α:Type}[Enc α](H0 H:Hp)(E:TypeId)(v:Value)(l:List α)(b:Option Nat):Prop where
 own:OwnS H E (Enc.sz α) v (encs l) l.length b
 fresh:∀ r,b=some r->H0 r=none
theorem Own.nil {α:Type}[Enc α](H0 H:Hp)(E:TypeId):Own H0 H E (.slice none 0 0) ([]:List α) none:=⟨.nil H E _,fun r h=>by simp at h⟩
theorem Own.sl {α:Type}[Enc α]{H0 H:Hp}{E:TypeId}{v:Value}{l:List α}{b:Option Nat}(h:Own H0 H E v l b):SlAt H v l:=by
 obtain⟨A,c,h1,h2⟩:=h.own.cells
 exact⟨A,c,h1,fun hn=>h2 (by simpa using hn)⟩
theorem Own.ins {α:Type}[Enc α]{H0 H:Hp}{E:TypeId}{v:Value}{l:List α}{b:Option Nat}(h:Own H0 H E v l b){r:Nat}{o:Obj}(hr:H r=none):Own H0 (H.ins r o) E v l b:=
 ⟨h.own.sub fun c y _ hc=>(ZaM hr).mem c y hc,h.fresh⟩
def Apart (b b2:Option Nat):Prop:=∀ r,b=some r->b2≠some r
theorem Apart.none (b:Option Nat):Apart none b:=fun r h=>by simp at h
theorem Apart.symm {b b2:Option Nat}(h:Apart b b2):Apart b2 b:=fun r h1 h2=>h r h2 h1
theorem ZmT {H0 H H':Hp}{b b':Option Nat}(hs:H0.Sub H)(hf:∀ r,b=some r->H0 r=none)(c:Chg H H' b b'):H0.Sub H':=
 ⟨fun d y hd=>c.keep d y (hs.mem d y hd) (fun e=>by rw[hf d e]at hd;simp at hd),c.gh.trans hs.gh⟩
theorem Own.other {α β:Type}[Enc α][Enc β]{H0 H H':Hp}{E E2:TypeId}{v v2:Value}{l:List α}{l2:List β}{b b' b2:Option Nat}(_h:Own H0 H E v l b)(h2:Own H0 H E2 v2 l2 b2)(ha:Apart b b2)(c:Chg H H' b b'):Own H0 H' E2 v2 l2 b2∧Apart b' b2:=by
 have hk:∀ d y,b2=some d->H d=some y->H' d=some y:=fun d y e hd=>c.keep d y hd (fun e2=>ha d e2 e)
 refine⟨⟨h2.own.sub hk,h2.fresh⟩,?_⟩
 rcases c.new with rfl | ⟨r,rfl,hr⟩
 ·exact ha
 ·intro r' e e2
  obtain rfl:=Option.some.inj e
  obtain⟨_,⟨_,_,e3⟩ | ⟨r2,_,_,e3,_,e4,_⟩⟩:=h2.own
  ·rw[e3]at e2;simp at e2
  ·rw[e3]at e2
   obtain rfl:=Option.some.inj e2
   rw[hr]at e4;simp at e4
theorem Own.fresh' {α:Type}[Enc α]{H0 H H':Hp}{E:TypeId}{v:Value}{l:List α}{b b':Option Nat}(hs:H0.Sub H)(h:Own H0 H E v l b)(c:Chg H H' b b'):∀ r,b'=some r->H0 r=none:=by
 rcases c.new with rfl | ⟨r,rfl,hr⟩
 ·exact h.fresh
 ·intro r' e
  obtain rfl:=Option.some.inj e
  cases hh:H0 r with
  | none=>rfl
  | some y=>rw[hs.mem r y hh]at hr;simp at hr
theorem Za4 {α:Type}[Enc α]{H:Hp}{r:Nat}{E:TypeId}{l:List α}{c:Nat}:SlAt (H.ins r (.cells (encs l).toArray E)) (.slice (some ⟨r,0,none⟩) l.length c) l:=
 ⟨_,_,rfl,fun _=>⟨_,rfl,rfl,_,_,Hp.ins_same _ _ _,fun j hj=>by simp[Obj.at?]⟩⟩
section
variable  {P:Prg}[Tz P]{H:Hp}{d:Option Nat}{next:NSt->Hp->Prop}{σ:NSt}{x y:Operand}
theorem Ziz {α:Type}[Enc α]{H0:Hp}{sT sT' E T:TypeId}{by_:Nat}{zv s w:Value}{l l':List α}{b:Option Nat}(hu:P.toProgram.underlying sT=some (.slice E))(hu':P.toProgram.underlying sT'=some (.slice E))(ti:TI P.toProgram E (Enc.sz α) zv by_)(hz:zv.cells.size=Enc.sz α)(he:0<Enc.sz α)
  (hs:H0.Sub H) (ho:Own H0 H E s l b) (hw:SlAt H w l') (h1:((encs l').all Value.isOne)=true) (hb1:l.length+l'.length<=1000000000) (hb2:by_<=1000) (e1:σ.get x=some s) (e2:σ.get y=some w) (hst:P.still H.gh=false)
  (h:∀ v' H' b',H0.Sub H'->Own H0 H' E v' (l++l') b'->Chg H H' b b'->next (σ.set d v') H'):(NOp.raw (.call { callee:=.builtin .append,args:=#[x,y],argTypes:=#[sT,sT'] }) T).m P d next σ H:=by
 obtain⟨A,c,rfl,h2⟩:=hw
 by_cases hn:l'=[]
 ·subst hn
  refine Zdi hu hu' ti hz he e1 e2 ho.own (m:=0) (xs:=[]) (.inl ⟨rfl,A,c,rfl⟩) (by simp) rfl hb1 hb2 hst fun v' H' b' g1 g2=>?_
  exact h v' H' b' (ZmT hs ho.fresh g2) ⟨by simpa using g1,ho.fresh' hs g2⟩ g2
 ·obtain⟨a,rfl,hc⟩:=h2 hn
  refine Zdi hu hu' ti hz he e1 e2 ho.own (m:=l'.length) (xs:=encs l') (.inr ⟨a,c,rfl,hc⟩) (Zcm l') h1 hb1 hb2 hst fun v' H' b' g1 g2=>?_
  refine h v' H' b' (ZmT hs ho.fresh g2) ⟨?_,ho.fresh' hs g2⟩ g2
  rw[Zcf,List.length_append]
  exact g1
end
end Go.Proofs
end
section
open Go Go.LL
namespace Go.Proofs
theorem Zbz (l:List Int):encs l=l.map vi:=by
 induction l with
 | nil=>rfl
 | cons a l ih=>simp only[encs,List.flatMap_cons,List.map_cons]at ih ⊢;rw[ih];rfl
theorem ints_one (l:List Int):((encs l).all Value.isOne)=true:=by rw[Zbz];simp[Value.isOne]
theorem Zex {α:Type}[Enc α]{H:Hp}{E:TypeId}{s:Value}{l:List α}{b:Option Nat}(ho:OwnS H E (Enc.sz α) s (encs l) l.length b)(hl:1<=l.length) :
  ∃ a c,s=.slice a l.length c∧SlAt H (.slice (if c=1 then a else a.map (·.add (1 * Enc.sz α))) (l.length-1) (c-1)) (l.drop 1):=by
 obtain⟨h0,⟨h1,h2,h3⟩ | ⟨r,cap,rest,h1,h2,h3,h4,h5⟩⟩:=ho
 ·omega
 ·refine⟨_,cap,h2,_,cap-1,by rw[List.length_drop],fun hn=>?_⟩
  have hl2:1<l.length:=by
   rcases Nat.lt_or_ge 1 l.length with h | h
   ·exact h
   ·exact absurd (List.drop_eq_nil_of_le h) hn
  rw[if_neg (by omega)]
  refine⟨_,rfl,Zds rfl _,_,_,by rw[ZbM];exact h3,fun j hj=>?_⟩
  have e:encs l=Enc.enc l[0]++encs (l.drop 1):=by
   cases l with
   | nil=>simp at hl
   | cons x l=>simp[encs]
  rw[Zc3]
  simp only[Obj.at?,List.getElem?_toArray]
  have hlen:(encs (l.drop 1)).length+Enc.sz α=(encs l).length:=by rw[e,List.length_append,Enc.len];omega
  rw[List.getElem?_append_left (by omega),e,List.getElem?_append_right (by rw[Enc.len];omega),Enc.len]
  congr 1
  omega
theorem ZcR {H:Hp}{r:Nat}{E:TypeId}{x:Int}:SlAt (H.ins r (.cells [vi x].toArray E)) (.slice (some ⟨r,0,none⟩) 1 1) [x]:=Za4 (l:=[x])
theorem Zbd {α:Type}{l:List α}{i:Nat}(h:i<l.length)(x:α):l.getD i x=l[i]:=by rw[List.getD_eq_getElem?_getD,List.getElem?_eq_getElem h];rfl
def Zbq {α:Type}(bet:α->α->Bool)(f:α)(l:List α):α:=l.foldl (fun f x=>if bet x f then x else f) f
theorem ZdD {α:Type}(bet:α->α->Bool)(f:α){l:List α}{j:Nat}(hj:j<l.length):Zbq bet f (l.take (j+1))=if bet l[j] (Zbq bet f (l.take j)) then l[j] else Zbq bet f (l.take j):=by
 unfold Zbq
 rw[List.take_succ_eq_append_getElem hj,List.foldl_append]
 rfl
section
variable  {P:Prg}[Tz P]{H:Hp}
set_option maxHeartbeats 400000
theorem Zh6 {fv:Value}{bet:Int->Int->Bool}(hf:∀ a b,CallV P fv #[vi a,vi b] H fun v H'=>H=H'∧v=vb (bet a b))(f:Int){v:Value}{l:List Int}(hs:SlAt H v l)(hl:l.length<=1000000)(hst:P.still H.gh=false):LL.Zag P 106 #[fv,vi f,v] H fun v H'=>H=H'∧v=vi (Zbq bet f l):=by
 refine IsN.m (isn c106) (args:=[fv,vi f,v]) rfl ?_
 unfold n106
 refine wkT ?_
 refine Zav hs rfl ?_
 refine wkT ?_
 refine ZaX l.length (fun j H'=>H=H') (fun j=>[(0,fv),(1,vi (Zbq bet f (l.take j))),(9,v),(10,vi l.length),(11,vi j)]) (fun j=>[]) rfl ⟨rfl,rfl,rfl,rfl,rfl,trivial⟩ trivial ?_
 rintro j _ hj rfl
 refine wkT ?_
 refine wiT (fun h1=>?_) (fun h1=>?_)
 ·have hj':j<l.length:=by omega
  have hb:=ZdD bet f hj'
  refine wkT ?_
  refine ZaE hs rfl rfl rfl (i:=j) hj' fun a ha=>?_
  refine wkT ?_
  refine Zaf hst rfl ha ?_
  refine wkT ?_
  refine ZaQ rfl rfl (hf l[j] (Zbq bet f (l.take j))) ?_
  rintro v _ ⟨rfl,rfl⟩
  refine wkT ?_
  refine wiT (fun h2=>?_) (fun h2=>?_)
  ·refine wkT ?_
   rw[if_pos h2]at hb
   exact⟨⟨j+1,by omega⟩,Nat.sub_lt_sub_left (by omega) (Nat.lt_succ_self j),rfl,⟨rfl,by rw[hb];rfl,rfl,rfl,rfl,trivial⟩,trivial,rfl⟩
  ·refine wkT ?_
   rw[if_neg (by simp[h2])]at hb
   exact⟨⟨j+1,by omega⟩,Nat.sub_lt_sub_left (by omega) (Nat.lt_succ_self j),rfl,⟨rfl,by rw[hb];rfl,rfl,rfl,rfl,trivial⟩,trivial,rfl⟩
 ·have:j=l.length:=by omega
  subst this
  refine wkT ?_
  exact⟨rfl,by rw[List.take_length];rfl⟩
def gtB (a b:Int):Bool:=decide (b<a)
def ltB (a b:Int):Bool:=decide (a<b)
theorem ZiP:∀ a b,CallV P (vf 107) #[vi a,vi b] H fun v H'=>H=H'∧v=vb (gtB a b):=fun a b=>Zc1 (by kernel_rfl) (Zk8 a b)
theorem Zko:∀ a b,CallV P (vf 108) #[vi a,vi b] H fun v H'=>H=H'∧v=vb (ltB a b):=fun a b=>Zc1 (by kernel_rfl) (Zmt a b)
def ZgC (b:Bk)(g:N4):List Int:=(List.range b.pts.length).map fun i=>(b.pts.getD i ⟨0,0,0,0,0⟩).bl-g.get i
def ZdK (b:Bk)(g:N4):List Int:=(List.range b.pts.length).map fun i=>(b.pts.getD i ⟨0,0,0,0,0⟩).bh-(b.pts.getD i ⟨0,0,0,0,0⟩).w-g.get i
def lowF (b:Bk)(g:N4):Int:=Zbq gtB ((ZgC b g).getD 0 0) ((ZgC b g).drop 1)
def Zfc (b:Bk)(g:N4):Int:=Zbq ltB ((ZdK b g).getD 0 0) ((ZdK b g).drop 1)
theorem ZdJ (f:Nat->Int){n j:Nat}(h:j<n):((List.range n).map f).take (j+1)=((List.range n).map f).take j++[f j]:=by
 rw[List.take_succ_eq_append_getElem (by simpa using h)]
 simp
structure PtsOk (b:Bk):Prop where
 bl:∀ i (h:i<b.pts.length),Sm b.pts[i].bl
 bh:∀ i (h:i<b.pts.length),Sm b.pts[i].bh
 w:∀ i (h:i<b.pts.length),Sm b.pts[i].w
theorem Zd0 {bv:Value}{b:Bk}{g:N4}(hb:BkAt H bv b)(hle:b.pts.length<=4)(hne:1<=b.pts.length)(okp:PtsOk b)(okg:g.Sm)(hst:P.still H.gh=false):LL.Zag P 105 #[bv,numV g] H fun v H'=>H.Sub H'∧v=.agg #[vi (lowF b g),vi (Zfc b g)]:=by
 obtain⟨pv,cv,rfl,hp,hc⟩:=hb
 refine IsN.m (isn c105) (args:=[.agg #[vi b.op,vi b.sl,pv,cv],numV g]) rfl ?_
 unfold n105
 refine wkT ?_
 refine Zav hp rfl ?_
 refine wkT ?_
 refine ZaP (α:=Value×Value×Option Nat×Option Nat) b.pts.length (fun j s H'=>H.Sub H'∧Own H H' 3 s.1 ((ZgC b g).take j) s.2.2.1∧Own H H' 3 s.2.1 ((ZdK b g).take j) s.2.2.2∧Apart s.2.2.1 s.2.2.2)
  (fun j s=>[(3,vi 0),(4,vi 0),(5,s.1),(6,s.2.1),(11,pv),(12,vi b.pts.length),(13,vi j)]) (fun j s=>[(3,g.cells),(4,[vi 0,vi 0])]) (.slice none 0 0,.slice none 0 0,none,none) ⟨.refl H,.nil H H 3,.nil H H 3,.none _⟩ ⟨rfl,rfl,rfl,rfl,rfl,rfl,rfl,trivial⟩ ⟨rfl,rfl,trivial⟩ ?_
 rintro j ⟨v5,v6,b5,b6⟩ H1 hj ⟨hs,o5,o6,hap⟩
 simp only at o5 o6 hap
 have hst1:P.still H1.gh=false:=by rw[hs.gh];exact hst
 refine wkT ?_
 refine wiT (fun h1=>?_) (fun h1=>?_)
 ·have hj':j<b.pts.length:=by omega
  have hj4:j<4:=by omega
  obtain⟨q1,q2⟩:=okp.bl j hj'
  obtain⟨q3,q4⟩:=okp.bh j hj'
  obtain⟨q5,q6⟩:=okp.w j hj'
  obtain⟨q7,q8⟩:=okg j hj4
  refine wkT ?_
  refine ZaE (hp.sub hs) rfl rfl rfl (i:=j) hj' fun a ha=>?_
  refine wkT ?_
  refine Zao hst1 rfl ha rfl ?_
  refine wkT ?_
  refine ZcB rfl rfl hj4 ?_
  refine wkT ?_
  refine Zdg hst1 rfl rfl (ZcJ g hj4) ?_
  refine wkT ?_
  refine ZcB rfl rfl hj4 ?_
  refine wkT ?_
  refine Zdg hst1 rfl rfl (ZcJ g hj4) ?_
  refine wkT ?_
  have e5:=ZdJ (fun i=>(b.pts.getD i ⟨0,0,0,0,0⟩).bl-g.get i) hj'
  have e6:=ZdJ (fun i=>(b.pts.getD i ⟨0,0,0,0,0⟩).bh-(b.pts.getD i ⟨0,0,0,0,0⟩).w-g.get i) hj'
  have ed:b.pts.getD j ⟨0,0,0,0,0⟩=b.pts[j]:=by simp[List.getD_eq_getElem?_getD,hj']
  simp only[ed]at e5 e6
  have l5:((ZgC b g).take j).length=j:=by simp[ZgC];omega
  have l6:((ZdK b g).take j).length=j:=by simp[ZdK];omega
  refine Zat (cs:=[vi (b.pts[j].bl-g.get j)]) hst1 rfl fun r1 hr1=>?_
  refine kp_w rfl ?_
  refine wkT ?_
  refine Ziz (l':=[b.pts[j].bl-g.get j]) (und u34) (und u34) (tif t3) rfl (by decide) (hs.trans (ZaM hr1)) (o5.ins hr1) ZcR rfl (by rw[l5];simp;omega) (by omega) rfl rfl hst1 fun v5' H2 b5' hs2 o5' c2=>?_
  obtain⟨o6',hap'⟩:=(o5.ins hr1).other (o6.ins hr1) hap c2
  have hst2:P.still H2.gh=false:=by rw[hs2.gh];exact hst
  refine kp_w c2.gh ?_
  refine wkT ?_
  refine Zat (cs:=[vi (b.pts[j].bh-b.pts[j].w-g.get j)]) hst2 rfl fun r2 hr2=>?_
  refine kp_w rfl ?_
  refine wkT ?_
  refine Ziz (l':=[b.pts[j].bh-b.pts[j].w-g.get j]) (und u34) (und u34) (tif t3) rfl (by decide) (hs2.trans (ZaM hr2)) (o6'.ins hr2) ZcR rfl (by rw[l6];simp;omega) (by omega) rfl rfl hst2 fun v6' H3 b6' hs3 o6'' c3=>?_
  obtain⟨o5'',hap''⟩:=(o6'.ins hr2).other (o5'.ins hr2) hap'.symm c3
  have hst3:P.still H3.gh=false:=by rw[hs3.gh];exact hst
  refine wkT ?_
  refine⟨(⟨j+1,by omega⟩,(v5',v6',b5',b6')),Nat.sub_lt_sub_left (by omega) (Nat.lt_succ_self j),⟨hs3,?_,?_,hap''.symm⟩,⟨rfl,rfl,rfl,rfl,rfl,rfl,rfl,trivial⟩,⟨rfl,rfl,trivial⟩,rfl⟩
  ·show Own H H3 3 v5' (((List.range b.pts.length).map fun i=>(b.pts.getD i ⟨0,0,0,0,0⟩).bl-g.get i).take (j+1)) b5'
   rw[e5];exact o5''
  ·show Own H H3 3 v6' (((List.range b.pts.length).map fun i=>(b.pts.getD i ⟨0,0,0,0,0⟩).bh-(b.pts.getD i ⟨0,0,0,0,0⟩).w-g.get i).take (j+1)) b6'
   rw[e6];exact o6''
 ·have:j=b.pts.length:=by omega
  subst this
  have l5:(ZgC b g).length=b.pts.length:=by simp[ZgC]
  have l6:(ZdK b g).length=b.pts.length:=by simp[ZdK]
  rw[List.take_of_length_le (by omega)]at o5 o6
  obtain⟨a5,c5,f1,f2⟩:=Zex o5.own (by omega)
  obtain⟨a6,c6,f3,f4⟩:=Zex o6.own (by omega)
  have s5:=o5.sl
  have s6:=o6.sl
  have n5:(ZgC b g).getD 0 0=(ZgC b g)[0]:=Zbd (by omega) 0
  have n6:(ZdK b g).getD 0 0=(ZdK b g)[0]:=Zbd (by omega) 0
  subst f1 f3
  refine wkT ?_
  refine ZaE s5 rfl rfl rfl (i:=0) (by omega) fun a ha=>?_
  refine wkT ?_
  refine Zaf hst1 rfl ha ?_
  refine wkT ?_
  refine Zbu (lo:=1) (und u34) (tif t3) rfl rfl (by omega) ?_
  refine wkT ?_
  refine ZaE s6 rfl rfl rfl (i:=0) (by omega) fun a ha=>?_
  refine wkT ?_
  refine Zaf hst1 rfl ha ?_
  refine wkT ?_
  refine Zbu (lo:=1) (und u34) (tif t3) rfl rfl (by omega) ?_
  refine wkT ?_
  refine Zab (vs:=[vf 107,vi (ZgC b g)[0],_]) rfl (Zh6 ZiP _ f2 (by simp;omega) hst1) ?_
  rintro v _ ⟨rfl,rfl⟩
  refine wkT ?_
  refine Zab (vs:=[vf 108,vi (ZdK b g)[0],_]) rfl (Zh6 Zko _ f4 (by simp;omega) hst1) ?_
  rintro v _ ⟨rfl,rfl⟩
  refine wkT ?_
  exact⟨hs,by rw[lowF,Zfc,n5,n6];rfl⟩
end
end Go.Proofs
end
section
open Go Go.LL
namespace Go.Proofs
def Inc (H H':Hp):Prop:=∀ b x,H b=some x->H' b=some x
theorem Inc.refl (H:Hp):Inc H H:=fun _ _ h=>h
theorem Inc.trans {H H' H'':Hp}(h:Inc H H')(h':Inc H' H''):Inc H H'':=fun b x hx=>h' b x (h b x hx)
theorem _root_.Go.LL.Hp.Sub.inc {H H':Hp}(h:H.Sub H'):Inc H H':=h.mem
theorem Zaj {H:Hp}{r:Nat}{o:Obj}(hr:H r=none):Inc H (H.ins r o):=(ZaM hr).mem
theorem ZaY (H J:Hp):Inc H (H.join J):=fun _ _ h=>Hp.join_left h
theorem _root_.Go.LL.CellsAt.inc {H H':Hp}{a:Addr}{cs:List Value}(h:CellsAt H a cs)(hs:Inc H H'):CellsAt H' a cs:=by
 obtain⟨h1,o,p,h2,h3⟩:=h
 exact⟨h1,o,p,hs _ _ h2,h3⟩
theorem SlAt.inc {α:Type}[Enc α]{H H':Hp}{v:Value}{l:List α}(h:SlAt H v l)(hs:Inc H H'):SlAt H' v l:=by
 obtain⟨A,c,h1,h2⟩:=h
 refine⟨A,c,h1,fun hn=>?_⟩
 obtain⟨a,h3,h4⟩:=h2 hn
 exact⟨a,h3,h4.inc hs⟩
theorem BkAt.inc {H H':Hp}{v:Value}{b:Bk}(h:BkAt H v b)(hs:Inc H H'):BkAt H' v b:=by
 obtain⟨pv,cv,h1,h2,h3⟩:=h
 exact⟨pv,cv,h1,h2.inc hs,h3.inc hs⟩
def Seq (xs:List (List Value))(I:Nat->Hp->Prop)(rest:List (List Value))(H:Hp):Prop:=∃ p,p+rest.length=xs.length∧xs.drop p=rest∧I p H
theorem Seq.start {xs:List (List Value)}{I:Nat->Hp->Prop}{H:Hp}(h:I 0 H):Seq xs I xs H:=⟨0,by simp,rfl,h⟩
theorem Seq.start' {xs l:List (List Value)}{I:Nat->Hp->Prop}{H:Hp}(h:I 0 H)(e:xs=l):Seq xs I l H:=by subst e;exact .start h
theorem Seq.stop {xs:List (List Value)}{I:Nat->Hp->Prop}{H:Hp}(h:Seq xs I [] H):I xs.length H:=by
 obtain⟨p,h1,_,h3⟩:=h
 simp at h1
 rw[<-h1];exact h3
theorem Seq.call {P:Prg}{y:Value}{xs:List (List Value)}{I:Nat->Hp->Prop}{S:Hp->Prop}{x:List Value}{r:List (List Value)}{H:Hp}
  (hy:∀ n (hn:n<xs.length) H,I n H->CallV P y (xs[n]).toArray H (fun v H'=>(v=.bool true∧I (n+1) H')∨(v=.bool false∧S H'))) (h:Seq xs I (x :: r) H) :
  CallV P y x.toArray H (fun v H'=>(v=.bool true∧Seq xs I r H')∨(v=.bool false∧S H')):=by
 obtain⟨p,h1,h2,h3⟩:=h
 have hp:p<xs.length:=by simp at h1;omega
 have e:=List.drop_eq_getElem_cons hp
 rw[h2]at e
 have e1:x=xs[p]:=by injection e
 have e2:xs.drop (p+1)=r:=by injection e with _ e;exact e.symm
 rw[e1]
 refine(hy p hp H h3).mono ?_
 rintro v H' (⟨rfl,h⟩ | ⟨rfl,h⟩)
 ·exact .inl ⟨rfl,p+1,by simp at h1;omega,e2,h⟩
 ·exact .inr ⟨rfl,h⟩
structure Slip where
 (bf by_:Int)
def ZbG (k:Slip):Value:=.agg #[vi k.bf,vi k.by_]
instance:Enc Slip:=⟨2,fun k=>[vi k.bf,vi k.by_],fun _=>rfl⟩
def innerR (bf:Int)(sl:Nat):Nat->List Slip
 | 0=>[]
 | r+1=>if (sl:Int)-r=0 then innerR bf sl r else ⟨bf,sl-r⟩ :: innerR bf sl r
def outerR (n sl:Nat):Nat->List Slip
 | 0=>[]
 | r+1=>innerR ((n:Int)-(r+1:Nat)) sl (2 * sl+1)++outerR n sl r
def ZaC (b:Bk):List Slip:=⟨0,0⟩ :: outerR b.pts.length b.sl.toNat (b.pts.length-1)
def Zgw (k:Slip):List Value:=[ZbG k]
theorem om_neg {P:Prg}{d:Option Nat}{next:NSt->Hp->Prop}{σ:NSt}{H:Hp}{x:Operand}{t ty:TypeId}{n:Int}(e:σ.get x=some (vi n))(hr:InR (-n))(h:next (σ.set d (vi (-n))) H):(NOp.raw (.unOp .neg t x) ty).m P d next σ H:=by
 refine Zbf (by simp[Op.operands,e]) (s:=Op.unary .neg (vi n)) (by simp[execOp,bare,e]) ?_
 have:(0:Int)-n=-n:=by omega
 simp only[Op.unary,Op.intArith,Zac,this,ZbO hr]
 exact h
section
variable  {P:Prg}[Tz P][Loud P]
set_option maxHeartbeats 400000
theorem slips_iter {b:Bk}{A:Option Addr}{c:Nat}{cv:Value}(h0:0<=b.sl)(h1:b.sl<=1000)(h2:b.pts.length<=1000) :
  Iter P (.func (.func 95) #[.agg #[vi b.op,vi b.sl,.slice A b.pts.length c,cv]] #[]) (fun _=>True) ((ZaC b).map Zgw):=by
 intro y I S H _ hI hS _ hy hst0
 have hs:∀ g,P.still g=false:=Loud.loud
 obtain⟨sl,hsl⟩:∃ sl:Nat,b.sl=sl:=⟨b.sl.toNat,by omega⟩
 have hsl':b.sl.toNat=sl:=by omega
 obtain⟨xs,hxs⟩:∃ xs,xs=(ZaC b).map Zgw:=⟨_,rfl⟩
 have hx2:xs=Zgw ⟨0,0⟩ :: (outerR b.pts.length sl (b.pts.length-1)).map Zgw:=by rw[hxs,ZaC,hsl',List.map_cons]
 rw[<-hxs]
 have seq0:=Seq.start' hst0 hx2
 rw[<-hxs]at hy
 refine Zc1 (by kernel_rfl) ?_
 refine IsN.m (isn c95) (args:=[.agg #[vi b.op,vi b.sl,.slice A b.pts.length c,cv],y]) rfl ?_
 unfold n95
 refine wkT ?_
 have:=hs H.gh
 refine wkT ?_
 refine ZaQ rfl rfl (Seq.call (S:=S) hy seq0) ?_
 rintro v H1 (⟨rfl,seq1⟩ | ⟨rfl,hS1⟩)
 rotate_left
 ·refine wkT ?_
  exact .inr hS1
 refine wkT ?_
 refine ZaX (b.pts.length-1) (fun j H'=>Seq xs I ((outerR b.pts.length sl (b.pts.length-1-j)).map Zgw) H') (fun j=>[(1,y),(2,vi 0),(4,vi (j+1:Nat))]) (fun _=>[(2,[vi b.op,vi b.sl,.slice A b.pts.length c,cv])]) seq1 ⟨rfl,rfl,rfl,trivial⟩ ⟨rfl,trivial⟩ ?_
 intro j H2 hj seq2
 have hst2:=hs H2.gh
 refine wkT ?_
 refine wiT (fun h3=>?_) (fun h3=>?_)
 ·refine wkT ?_
  refine om_neg rfl ⟨by omega,by omega⟩ ?_
  refine wkT ?_
  have e1:b.pts.length-1-j=(b.pts.length-1-(j+1))+1:=by omega
  rw[e1,outerR,List.map_append]at seq2
  have e2:((b.pts.length:Int)-((b.pts.length-1-(j+1))+1:Nat))=(j+1:Nat):=by omega
  rw[e2]at seq2
  refine ZaX (2 * sl+1) (fun k H'=>Seq xs I ((innerR (j+1:Nat) sl (2 * sl+1-k)).map Zgw++(outerR b.pts.length sl (b.pts.length-1-(j+1))).map Zgw) H') (fun k=>[(1,y),(2,vi 0),(4,vi (j+1:Nat)),(5,vi (-b.sl+k))]) (fun _=>[(2,[vi b.op,vi b.sl,.slice A b.pts.length c,cv])]) seq2 ⟨rfl,rfl,rfl,by simp[NSt.set],trivial⟩ ⟨rfl,trivial⟩ ?_
  intro k H3 hk seq3
  have hst3:=hs H3.gh
  refine wkT ?_
  refine wiT (fun h4=>?_) (fun h4=>?_)
  ·have e3:2 * sl+1-k=(2 * sl+1-(k+1))+1:=by omega
   have e4:(sl:Int)-(2 * sl+1-(k+1):Nat)=-b.sl+k:=by omega
   rw[e3,innerR,e4]at seq3
   refine wkT ?_
   refine wiT (fun h5=>?_) (fun h5=>?_)
   ·rw[if_pos h5]at seq3
    refine wkT ?_
    refine⟨⟨k+1,by omega⟩,Nat.sub_lt_sub_left (by omega) (Nat.lt_succ_self k),seq3,⟨rfl,rfl,rfl,?_,trivial⟩,⟨rfl,trivial⟩,rfl⟩
    show some (vi (-b.sl+k+1))=some (vi (-b.sl+(k+1:Nat)))
    congr 2;omega
   ·rw[if_neg h5,List.map_cons,List.cons_append]at seq3
    refine wkT ?_
    refine ZaQ rfl rfl (Seq.call (S:=S) hy seq3) ?_
    rintro v H4 (⟨rfl,seq4⟩ | ⟨rfl,hS4⟩)
    ·refine wkT ?_
     refine⟨⟨k+1,by omega⟩,Nat.sub_lt_sub_left (by omega) (Nat.lt_succ_self k),seq4,⟨rfl,rfl,rfl,?_,trivial⟩,⟨rfl,trivial⟩,rfl⟩
     show some (vi (-b.sl+k+1))=some (vi (-b.sl+(k+1:Nat)))
     congr 2;omega
    ·refine wkT ?_
     exact .inr hS4
  ·have e3:2 * sl+1-k=0:=by omega
   rw[e3,innerR,List.map_nil,List.nil_append]at seq3
   refine wkT ?_
   refine⟨⟨j+1,by omega⟩,Nat.sub_lt_sub_left (by omega) (Nat.lt_succ_self j),seq3,⟨rfl,rfl,?_,trivial⟩,⟨rfl,trivial⟩,rfl⟩
   show some (vi ((j+1:Nat)+1))=some (vi (j+1+1:Nat))
   congr 2
 ·have e1:b.pts.length-1-j=0:=by omega
  rw[e1,outerR,List.map_nil]at seq2
  refine wkT ?_
  exact .inl seq2.stop
end
end Go.Proofs
end
