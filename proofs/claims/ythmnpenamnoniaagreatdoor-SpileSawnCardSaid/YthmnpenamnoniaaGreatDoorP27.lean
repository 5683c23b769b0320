import Derived.Test.YthmnpenamnoniaaGreatDoorP26
set_option linter.all false
section
open Go Go.LL
namespace Go.Proofs
theorem Zcd {α:Type}[Enc α](l l':List α):encs (l++l')=encs l++encs l':=by simp[encs]
structure Own {α:Type}[Enc α](H0 H:Hp)(E:TypeId)(v:Value)(l:List α)(b:Option Nat):Prop where
 own:OwnS H E (Enc.sz α) v (encs l) l.length b
 fresh:∀ r,b=some r->H0 r=none
theorem Own.nil {α:Type}[Enc α](H0 H:Hp)(E:TypeId):Own H0 H E (.slice none 0 0) ([]:List α) none:=⟨.nil H E _,fun r h=>by simp at h⟩
theorem Own.sl {α:Type}[Enc α]{H0 H:Hp}{E:TypeId}{v:Value}{l:List α}{b:Option Nat}(h:Own H0 H E v l b):SlAt H v l:=by
 obtain⟨A,c,h1,h2⟩:=h.own.cells
 exact⟨A,c,h1,fun hn=>h2 (by simpa using hn)⟩
theorem Own.ins {α:Type}[Enc α]{H0 H:Hp}{E:TypeId}{v:Value}{l:List α}{b:Option Nat}(h:Own H0 H E v l b){r:Nat}{o:Obj}(hr:H r=none):Own H0 (H.ins r o) E v l b:=
 ⟨h.own.sub fun c y _ hc=>(ZaL hr).mem c y hc,h.fresh⟩
def Apart (b b2:Option Nat):Prop:=∀ r,b=some r->b2≠some r
theorem Apart.none (b:Option Nat):Apart none b:=fun r h=>by simp at h
theorem Apart.symm {b b2:Option Nat}(h:Apart b b2):Apart b2 b:=fun r h1 h2=>h r h2 h1
theorem ZmO {H0 H H':Hp}{b b':Option Nat}(hs:H0.Sub H)(hf:∀ r,b=some r->H0 r=none)(c:Chg H H' b b'):H0.Sub H':=
 ⟨fun d y hd=>c.keep d y (hs.mem d y hd) (fun e=>by rw[hf d e]at hd;simp at hd),c.gh.trans hs.gh⟩
theorem Own.other {α β:Type}[Enc α][Enc β]{H0 H H':Hp}{E E2:TypeId}{v v2:Value}{l:List α}{l2:List β}{b b' b2:Option Nat}(_h:Own H0 H E v l b)(h2:Own H0 H E2 v2 l2 b2)(ha:Apart b b2)(c:Chg H H' b b'):Own H0 H' E2 v2 l2 b2∧Apart b' b2:=by
 have hk:∀ d y,b2=some d->H d=some y->H' d=some y:=fun d y e hd=>c.keep d y hd (fun e2=>ha d e2 e)
 refine⟨⟨h2.own.sub hk,h2.fresh⟩,?_⟩
 rcases c.new with rfl | ⟨r,rfl,hr⟩
 ·exact ha
 ·intro r' e e2
  obtain rfl:=Option.some.inj e
  obtain⟨_,⟨_,_,e3⟩ | ⟨r2,_,_,e3,_,e4,_⟩⟩:=h2.own
  ·rw[e3]at e2;simp at e2
  ·rw[e3]at e2
   obtain rfl:=Option.some.inj e2
   rw[hr]at e4;simp at e4
theorem Own.fresh' {α:Type}[Enc α]{H0 H H':Hp}{E:TypeId}{v:Value}{l:List α}{b b':Option Nat}(hs:H0.Sub H)(h:Own H0 H E v l b)(c:Chg H H' b b'):∀ r,b'=some r->H0 r=none:=by
 rcases c.new with rfl | ⟨r,rfl,hr⟩
 ·exact h.fresh
 ·intro r' e
  obtain rfl:=Option.some.inj e
  cases hh:H0 r with
  | none=>rfl
  | some y=>rw[hs.mem r y hh]at hr;simp at hr
theorem Za3 {α:Type}[Enc α]{H:Hp}{r:Nat}{E:TypeId}{l:List α}{c:Nat}:SlAt (H.ins r (.cells (encs l).toArray E)) (.slice (some ⟨r,0,none⟩) l.length c) l:=
 ⟨_,_,rfl,fun _=>⟨_,rfl,rfl,_,_,Hp.ins_same _ _ _,fun j hj=>by simp[Obj.at?]⟩⟩
section
variable  {P:Prg}[Tz P]{H:Hp}{d:Option Nat}{next:NSt->Hp->Prop}{σ:NSt}{x y:Operand}
theorem Ziv {α:Type}[Enc α]{H0:Hp}{sT sT' E T:TypeId}{by_:Nat}{zv s w:Value}{l l':List α}{b:Option Nat}(hu:P.toProgram.underlying sT=some (.slice E))(hu':P.toProgram.underlying sT'=some (.slice E))(ti:TI P.toProgram E (Enc.sz α) zv by_)(hz:zv.cells.size=Enc.sz α)(he:0<Enc.sz α)
  (hs:H0.Sub H) (ho:Own H0 H E s l b) (hw:SlAt H w l') (h1:((encs l').all Value.isOne)=true) (hb1:l.length+l'.length<=1000000000) (hb2:by_<=1000) (e1:σ.get x=some s) (e2:σ.get y=some w) (hst:P.still H.gh=false)
  (h:∀ v' H' b',H0.Sub H'->Own H0 H' E v' (l++l') b'->Chg H H' b b'->next (σ.set d v') H'):(NOp.raw (.call { callee:=.builtin .append,args:=#[x,y],argTypes:=#[sT,sT'] }) T).m P d next σ H:=by
 obtain⟨A,c,rfl,h2⟩:=hw
 by_cases hn:l'=[]
 ·subst hn
  refine Zdf hu hu' ti hz he e1 e2 ho.own (m:=0) (xs:=[]) (.inl ⟨rfl,A,c,rfl⟩) (by simp) rfl hb1 hb2 hst fun v' H' b' g1 g2=>?_
  exact h v' H' b' (ZmO hs ho.fresh g2) ⟨by simpa using g1,ho.fresh' hs g2⟩ g2
 ·obtain⟨a,rfl,hc⟩:=h2 hn
  refine Zdf hu hu' ti hz he e1 e2 ho.own (m:=l'.length) (xs:=encs l') (.inr ⟨a,c,rfl,hc⟩) (Zck l') h1 hb1 hb2 hst fun v' H' b' g1 g2=>?_
  refine h v' H' b' (ZmO hs ho.fresh g2) ⟨?_,ho.fresh' hs g2⟩ g2
  rw[Zcd,List.length_append]
  exact g1
end
theorem Zbz (l:List Int):encs l=l.map vi:=by
 induction l with
 | nil=>rfl
 | cons a l ih=>simp only[encs,List.flatMap_cons,List.map_cons]at ih ⊢;rw[ih];rfl
theorem ints_one (l:List Int):((encs l).all Value.isOne)=true:=by rw[Zbz];simp[Value.isOne]
theorem Zew {α:Type}[Enc α]{H:Hp}{E:TypeId}{s:Value}{l:List α}{b:Option Nat}(ho:OwnS H E (Enc.sz α) s (encs l) l.length b)(hl:1<=l.length) :
  ∃ a c,s=.slice a l.length c∧SlAt H (.slice (if c=1 then a else a.map (·.add (1 * Enc.sz α))) (l.length-1) (c-1)) (l.drop 1):=by
 obtain⟨h0,⟨h1,h2,h3⟩ | ⟨r,cap,rest,h1,h2,h3,h4,h5⟩⟩:=ho
 ·omega
 ·refine⟨_,cap,h2,_,cap-1,by rw[List.length_drop],fun hn=>?_⟩
  have hl2:1<l.length:=by
   rcases Nat.lt_or_ge 1 l.length with h | h
   ·exact h
   ·exact absurd (List.drop_eq_nil_of_le h) hn
  rw[if_neg (by omega)]
  refine⟨_,rfl,Zdp rfl _,_,_,by rw[ZbM];exact h3,fun j hj=>?_⟩
  have e:encs l=Enc.enc l[0]++encs (l.drop 1):=by
   cases l with
   | nil=>simp at hl
   | cons x l=>simp[encs]
  rw[Zc0]
  simp only[Obj.at?,List.getElem?_toArray]
  have hlen:(encs (l.drop 1)).length+Enc.sz α=(encs l).length:=by rw[e,List.length_append,Enc.len];omega
  rw[List.getElem?_append_left (by omega),e,List.getElem?_append_right (by rw[Enc.len];omega),Enc.len]
  congr 1
  omega
theorem ZcO {H:Hp}{r:Nat}{E:TypeId}{x:Int}:SlAt (H.ins r (.cells [vi x].toArray E)) (.slice (some ⟨r,0,none⟩) 1 1) [x]:=Za3 (l:=[x])
theorem Zbc {α:Type}{l:List α}{i:Nat}(h:i<l.length)(x:α):l.getD i x=l[i]:=by rw[List.getD_eq_getElem?_getD,List.getElem?_eq_getElem h];rfl
def Zbq {α:Type}(bet:α->α->Bool)(f:α)(l:List α):α:=l.foldl (fun f x=>if bet x f then x else f) f
theorem ZdB {α:Type}(bet:α->α->Bool)(f:α){l:List α}{j:Nat}(hj:j<l.length):Zbq bet f (l.take (j+1))=if bet l[j] (Zbq bet f (l.take j)) then l[j] else Zbq bet f (l.take j):=by
 unfold Zbq
 rw[List.take_succ_eq_append_getElem hj,List.foldl_append]
 rfl
section
variable  {P:Prg}[Tz P]{H:Hp}
set_option maxHeartbeats 400000
theorem Zh1 {fv:Value}{bet:Int->Int->Bool}(hf:∀ a b,CallV P fv #[vi a,vi b] H fun v H'=>H=H'∧v=vb (bet a b))(f:Int){v:Value}{l:List Int}(hs:SlAt H v l)(hl:l.length<=1000000)(hst:P.still H.gh=false):LL.Zag P 69 #[fv,vi f,v] H fun v H'=>H=H'∧v=vi (Zbq bet f l):=by
 refine IsN.m (isn c106) (args:=[fv,vi f,v]) rfl ?_
 unfold n106
 refine wkT ?_
 refine Zau hs rfl ?_
 refine wkT ?_
 refine ZaW l.length (fun j H'=>H=H') (fun j=>[(0,fv),(1,vi (Zbq bet f (l.take j))),(9,v),(10,vi l.length),(11,vi j)]) (fun j=>[]) rfl ⟨rfl,rfl,rfl,rfl,rfl,trivial⟩ trivial ?_
 rintro j _ hj rfl
 refine wkT ?_
 refine wiT (fun h1=>?_) (fun h1=>?_)
 ·have hj':j<l.length:=by omega
  have hb:=ZdB bet f hj'
  refine wkT ?_
  refine ZaE hs rfl rfl rfl (i:=j) hj' fun a ha=>?_
  refine wkT ?_
  refine Zaf hst rfl ha ?_
  refine wkT ?_
  refine ZaP rfl rfl (hf l[j] (Zbq bet f (l.take j))) ?_
  rintro v _ ⟨rfl,rfl⟩
  refine wkT ?_
  refine wiT (fun h2=>?_) (fun h2=>?_)
  ·refine wkT ?_
   rw[if_pos h2]at hb
   exact⟨⟨j+1,by omega⟩,slt (by omega),rfl,⟨rfl,by rw[hb];rfl,rfl,rfl,rfl,trivial⟩,trivial,rfl⟩
  ·refine wkT ?_
   rw[if_neg (by simp[h2])]at hb
   exact⟨⟨j+1,by omega⟩,slt (by omega),rfl,⟨rfl,by rw[hb];rfl,rfl,rfl,rfl,trivial⟩,trivial,rfl⟩
 ·have:j=l.length:=by omega
  subst this
  refine wkT ?_
  exact⟨rfl,by rw[List.take_length];rfl⟩
def gtB (a b:Int):Bool:=decide (b<a)
def ltB (a b:Int):Bool:=decide (a<b)
theorem ZiL:∀ a b,CallV P (vf 70) #[vi a,vi b] H fun v H'=>H=H'∧v=vb (gtB a b):=fun a b=>ZcY (by kernel_rfl) (Zk3 a b)
theorem Zkl:∀ a b,CallV P (vf 71) #[vi a,vi b] H fun v H'=>H=H'∧v=vb (ltB a b):=fun a b=>ZcY (by kernel_rfl) (Zmp a b)
def Zgz (b:Bk)(g:N4):List Int:=(List.range b.pts.length).map fun i=>(b.pts.getD i ⟨0,0,0,0,0⟩).bl-g.get i
def ZdI (b:Bk)(g:N4):List Int:=(List.range b.pts.length).map fun i=>(b.pts.getD i ⟨0,0,0,0,0⟩).bh-(b.pts.getD i ⟨0,0,0,0,0⟩).w-g.get i
def lowF (b:Bk)(g:N4):Int:=Zbq gtB ((Zgz b g).getD 0 0) ((Zgz b g).drop 1)
def Zfb (b:Bk)(g:N4):Int:=Zbq ltB ((ZdI b g).getD 0 0) ((ZdI b g).drop 1)
theorem ZdH (f:Nat->Int){n j:Nat}(h:j<n):((List.range n).map f).take (j+1)=((List.range n).map f).take j++[f j]:=by
 rw[List.take_succ_eq_append_getElem (by simpa using h)]
 simp
structure PtsOk (b:Bk):Prop where
 bl:∀ i (h:i<b.pts.length),Sm b.pts[i].bl
 bh:∀ i (h:i<b.pts.length),Sm b.pts[i].bh
 w:∀ i (h:i<b.pts.length),Sm b.pts[i].w
theorem ZdZ {bv:Value}{b:Bk}{g:N4}(hb:BkAt H bv b)(hle:b.pts.length<=4)(hne:1<=b.pts.length)(okp:PtsOk b)(okg:g.Sm)(hst:P.still H.gh=false):LL.Zag P 68 #[bv,numV g] H fun v H'=>H.Sub H'∧v=.agg #[vi (lowF b g),vi (Zfb b g)]:=by
 obtain⟨pv,cv,rfl,hp,hc⟩:=hb
 refine IsN.m (isn c105) (args:=[.agg #[vi b.op,vi b.sl,pv,cv],numV g]) rfl ?_
 unfold n105
 refine wkT ?_
 refine Zau hp rfl ?_
 refine wkT ?_
 refine ZaO (α:=Value×Value×Option Nat×Option Nat) b.pts.length (fun j s H'=>H.Sub H'∧Own H H' 3 s.1 ((Zgz b g).take j) s.2.2.1∧Own H H' 3 s.2.1 ((ZdI b g).take j) s.2.2.2∧Apart s.2.2.1 s.2.2.2)
  (fun j s=>[(3,vi 0),(4,vi 0),(5,s.1),(6,s.2.1),(11,pv),(12,vi b.pts.length),(13,vi j)]) (fun j s=>[(3,g.cells),(4,[vi 0,vi 0])]) (.slice none 0 0,.slice none 0 0,none,none) ⟨.refl H,.nil H H 3,.nil H H 3,.none _⟩ ⟨rfl,rfl,rfl,rfl,rfl,rfl,rfl,trivial⟩ ⟨rfl,rfl,trivial⟩ ?_
 rintro j ⟨v5,v6,b5,b6⟩ H1 hj ⟨hs,o5,o6,hap⟩
 simp only at o5 o6 hap
 have hst1:P.still H1.gh=false:=by rw[hs.gh];exact hst
 refine wkT ?_
 refine wiT (fun h1=>?_) (fun h1=>?_)
 ·have hj':j<b.pts.length:=by omega
  have hj4:j<4:=by omega
  obtain⟨q1,q2⟩:=okp.bl j hj'
  obtain⟨q3,q4⟩:=okp.bh j hj'
  obtain⟨q5,q6⟩:=okp.w j hj'
  obtain⟨q7,q8⟩:=okg j hj4
  refine wkT ?_
  refine ZaE (hp.sub hs) rfl rfl rfl (i:=j) hj' fun a ha=>?_
  refine wkT ?_
  refine Zao hst1 rfl ha rfl ?_
  refine wkT ?_
  refine Zcz rfl rfl hj4 ?_
  refine wkT ?_
  refine Zdd hst1 rfl rfl (ZcH g hj4) ?_
  refine wkT ?_
  refine Zcz rfl rfl hj4 ?_
  refine wkT ?_
  refine Zdd hst1 rfl rfl (ZcH g hj4) ?_
  refine wkT ?_
  have e5:=ZdH (fun i=>(b.pts.getD i ⟨0,0,0,0,0⟩).bl-g.get i) hj'
  have e6:=ZdH (fun i=>(b.pts.getD i ⟨0,0,0,0,0⟩).bh-(b.pts.getD i ⟨0,0,0,0,0⟩).w-g.get i) hj'
  have ed:b.pts.getD j ⟨0,0,0,0,0⟩=b.pts[j]:=by simp[List.getD_eq_getElem?_getD,hj']
  simp only[ed]at e5 e6
  have l5:((Zgz b g).take j).length=j:=by simp[Zgz];omega
  have l6:((ZdI b g).take j).length=j:=by simp[ZdI];omega
  refine Zat (cs:=[vi (b.pts[j].bl-g.get j)]) hst1 rfl fun r1 hr1=>?_
  refine kp_w rfl ?_
  refine wkT ?_
  refine Ziv (l':=[b.pts[j].bl-g.get j]) (und u34) (und u34) (tif t3) rfl (by decide) (hs.trans (ZaL hr1)) (o5.ins hr1) ZcO rfl (by rw[l5];simp;omega) (by omega) rfl rfl hst1 fun v5' H2 b5' hs2 o5' c2=>?_
  obtain⟨o6',hap'⟩:=(o5.ins hr1).other (o6.ins hr1) hap c2
  have hst2:P.still H2.gh=false:=by rw[hs2.gh];exact hst
  refine kp_w c2.gh ?_
  refine wkT ?_
  refine Zat (cs:=[vi (b.pts[j].bh-b.pts[j].w-g.get j)]) hst2 rfl fun r2 hr2=>?_
  refine kp_w rfl ?_
  refine wkT ?_
  refine Ziv (l':=[b.pts[j].bh-b.pts[j].w-g.get j]) (und u34) (und u34) (tif t3) rfl (by decide) (hs2.trans (ZaL hr2)) (o6'.ins hr2) ZcO rfl (by rw[l6];simp;omega) (by omega) rfl rfl hst2 fun v6' H3 b6' hs3 o6'' c3=>?_
  obtain⟨o5'',hap''⟩:=(o6'.ins hr2).other (o5'.ins hr2) hap'.symm c3
  have hst3:P.still H3.gh=false:=by rw[hs3.gh];exact hst
  refine wkT ?_
  refine⟨(⟨j+1,by omega⟩,(v5',v6',b5',b6')),slt (by omega),⟨hs3,?_,?_,hap''.symm⟩,⟨rfl,rfl,rfl,rfl,rfl,rfl,rfl,trivial⟩,⟨rfl,rfl,trivial⟩,rfl⟩
  ·show Own H H3 3 v5' (((List.range b.pts.length).map fun i=>(b.pts.getD i ⟨0,0,0,0,0⟩).bl-g.get i).take (j+1)) b5'
   rw[e5];exact o5''
  ·show Own H H3 3 v6' (((List.range b.pts.length).map fun i=>(b.pts.getD i ⟨0,0,0,0,0⟩).bh-(b.pts.getD i ⟨0,0,0,0,0⟩).w-g.get i).take (j+1)) b6'
   rw[e6];exact o6''
 ·have:j=b.pts.length:=by omega
  subst this
  have l5:(Zgz b g).length=b.pts.length:=by simp[Zgz]
  have l6:(ZdI b g).length=b.pts.length:=by simp[ZdI]
  rw[List.take_of_length_le (by omega)]at o5 o6
  obtain⟨a5,c5,f1,f2⟩:=Zew o5.own (by omega)
  obtain⟨a6,c6,f3,f4⟩:=Zew o6.own (by omega)
  have s5:=o5.sl
  have s6:=o6.sl
  have n5:(Zgz b g).getD 0 0=(Zgz b g)[0]:=Zbc (by omega) 0
  have n6:(ZdI b g).getD 0 0=(ZdI b g)[0]:=Zbc (by omega) 0
  subst f1 f3
  refine wkT ?_
  refine ZaE s5 rfl rfl rfl (i:=0) (by omega) fun a ha=>?_
  refine wkT ?_
  refine Zaf hst1 rfl ha ?_
  refine wkT ?_
  refine Zbu (lo:=1) (und u34) (tif t3) rfl rfl (by omega) ?_
  refine wkT ?_
  refine ZaE s6 rfl rfl rfl (i:=0) (by omega) fun a ha=>?_
  refine wkT ?_
  refine Zaf hst1 rfl ha ?_
  refine wkT ?_
  refine Zbu (lo:=1) (und u34) (tif t3) rfl rfl (by omega) ?_
  refine wkT ?_
  refine Zab (vs:=[vf 70,vi (Zgz b g)[0],_]) rfl (Zh1 ZiL _ f2 (by simp;omega) hst1) ?_
  rintro v _ ⟨rfl,rfl⟩
  refine wkT ?_
  refine Zab (vs:=[vf 71,vi (ZdI b g)[0],_]) rfl (Zh1 Zkl _ f4 (by simp;omega) hst1) ?_
  rintro v _ ⟨rfl,rfl⟩
  refine wkT ?_
  exact⟨hs,by rw[lowF,Zfb,n5,n6];rfl⟩
end
def Inc (H H':Hp):Prop:=∀ b x,H b=some x->H' b=some x
theorem Inc.refl (H:Hp):Inc H H:=fun _ _ h=>h
theorem Inc.trans {H H' H'':Hp}(h:Inc H H')(h':Inc H' H''):Inc H H'':=fun b x hx=>h' b x (h b x hx)
theorem _root_.Go.LL.Hp.Sub.inc {H H':Hp}(h:H.Sub H'):Inc H H':=h.mem
theorem Zai {H:Hp}{r:Nat}{o:Obj}(hr:H r=none):Inc H (H.ins r o):=(ZaL hr).mem
theorem ZaX (H J:Hp):Inc H (H.join J):=fun _ _ h=>Hp.join_left h
theorem _root_.Go.LL.CellsAt.inc {H H':Hp}{a:Addr}{cs:List Value}(h:CellsAt H a cs)(hs:Inc H H'):CellsAt H' a cs:=by
 obtain⟨h1,o,p,h2,h3⟩:=h
 exact⟨h1,o,p,hs _ _ h2,h3⟩
theorem SlAt.inc {α:Type}[Enc α]{H H':Hp}{v:Value}{l:List α}(h:SlAt H v l)(hs:Inc H H'):SlAt H' v l:=by
 obtain⟨A,c,h1,h2⟩:=h
 refine⟨A,c,h1,fun hn=>?_⟩
 obtain⟨a,h3,h4⟩:=h2 hn
 exact⟨a,h3,h4.inc hs⟩
theorem BkAt.inc {H H':Hp}{v:Value}{b:Bk}(h:BkAt H v b)(hs:Inc H H'):BkAt H' v b:=by
 obtain⟨pv,cv,h1,h2,h3⟩:=h
 exact⟨pv,cv,h1,h2.inc hs,h3.inc hs⟩
def Seq (xs:List (List Value))(I:Nat->Hp->Prop)(rest:List (List Value))(H:Hp):Prop:=∃ p,p+rest.length=xs.length∧xs.drop p=rest∧I p H
theorem Seq.start {xs:List (List Value)}{I:Nat->Hp->Prop}{H:Hp}(h:I 0 H):Seq xs I xs H:=⟨0,by simp,rfl,h⟩
theorem Seq.start' {xs l:List (List Value)}{I:Nat->Hp->Prop}{H:Hp}(h:I 0 H)(e:xs=l):Seq xs I l H:=by subst e;exact .start h
theorem Seq.stop {xs:List (List Value)}{I:Nat->Hp->Prop}{H:Hp}(h:Seq xs I [] H):I xs.length H:=by
 obtain⟨p,h1,_,h3⟩:=h
 simp at h1
 rw[<-h1];exact h3
theorem Seq.call {P:Prg}{y:Value}{xs:List (List Value)}{I:Nat->Hp->Prop}{S:Hp->Prop}{x:List Value}{r:List (List Value)}{H:Hp}
  (hy:∀ n (hn:n<xs.length) H,I n H->CallV P y (xs[n]).toArray H (fun v H'=>(v=.bool true∧I (n+1) H')∨(v=.bool false∧S H'))) (h:Seq xs I (x :: r) H) :
  CallV P y x.toArray H (fun v H'=>(v=.bool true∧Seq xs I r H')∨(v=.bool false∧S H')):=by
 obtain⟨p,h1,h2,h3⟩:=h
 have hp:p<xs.length:=by simp at h1;omega
 have e:=List.drop_eq_getElem_cons hp
 rw[h2]at e
 have e1:x=xs[p]:=by injection e
 have e2:xs.drop (p+1)=r:=by injection e with _ e;exact e.symm
 rw[e1]
 refine(hy p hp H h3).mono ?_
 rintro v H' (⟨rfl,h⟩ | ⟨rfl,h⟩)
 ·exact .inl ⟨rfl,p+1,by simp at h1;omega,e2,h⟩
 ·exact .inr ⟨rfl,h⟩
structure Slip where
 (bf by_:Int)
def ZbG (k:Slip):Value:=.agg #[vi k.bf,vi k.by_]
instance:Enc Slip:=⟨2,fun k=>[vi k.bf,vi k.by_],fun _=>rfl⟩
def innerR (bf:Int)(sl:Nat):Nat->List Slip
 | 0=>[]
 | r+1=>if (sl:Int)-r=0 then innerR bf sl r else ⟨bf,sl-r⟩ :: innerR bf sl r
def outerR (n sl:Nat):Nat->List Slip
 | 0=>[]
 | r+1=>innerR ((n:Int)-(r+1:Nat)) sl (2 * sl+1)++outerR n sl r
def ZaB (b:Bk):List Slip:=⟨0,0⟩ :: outerR b.pts.length b.sl.toNat (b.pts.length-1)
def Zgt (k:Slip):List Value:=[ZbG k]
theorem om_neg {P:Prg}{d:Option Nat}{next:NSt->Hp->Prop}{σ:NSt}{H:Hp}{x:Operand}{t ty:TypeId}{n:Int}(e:σ.get x=some (vi n))(hr:InR (-n))(h:next (σ.set d (vi (-n))) H):(NOp.raw (.unOp .neg t x) ty).m P d next σ H:=by
 refine Zbe (by simp[Op.operands,e]) (s:=Op.unary .neg (vi n)) (by simp[execOp,bare,e]) ?_
 have:(0:Int)-n=-n:=by omega
 simp only[Op.unary,Op.intArith,Zac,this,ZbZ hr]
 exact h
section
variable  {P:Prg}[Tz P][Loud P]
set_option maxHeartbeats 400000
theorem slips_iter {b:Bk}{A:Option Addr}{c:Nat}{cv:Value}(h0:0<=b.sl)(h1:b.sl<=1000)(h2:b.pts.length<=1000) :
  Iter P (.func (.func 93) #[.agg #[vi b.op,vi b.sl,.slice A b.pts.length c,cv]] #[]) (fun _=>True) ((ZaB b).map Zgt):=by
 intro y I S H _ hI hS _ hy hst0
 have hs:=Loud.loud (P:=P)
 obtain⟨sl,hsl⟩:∃ sl:Nat,b.sl=sl:=⟨b.sl.toNat,by omega⟩
 have hsl':b.sl.toNat=sl:=by omega
 obtain⟨xs,hxs⟩:∃ xs,xs=(ZaB b).map Zgt:=⟨_,rfl⟩
 have hx2:xs=Zgt ⟨0,0⟩ :: (outerR b.pts.length sl (b.pts.length-1)).map Zgt:=by rw[hxs,ZaB,hsl',List.map_cons]
 rw[<-hxs]
 have seq0:=Seq.start' hst0 hx2
 rw[<-hxs]at hy
 refine ZcY (by kernel_rfl) ?_
 refine IsN.m (isn c95) (args:=[.agg #[vi b.op,vi b.sl,.slice A b.pts.length c,cv],y]) rfl ?_
 unfold n95
 refine wkT ?_
 have:=hs H.gh
 refine wkT ?_
 refine ZaP rfl rfl (Seq.call (S:=S) hy seq0) ?_
 rintro v H1 (⟨rfl,seq1⟩ | ⟨rfl,hS1⟩)
 rotate_left
 ·refine wkT ?_
  exact .inr hS1
 refine wkT ?_
 refine ZaW (b.pts.length-1) (fun j H'=>Seq xs I ((outerR b.pts.length sl (b.pts.length-1-j)).map Zgt) H') (fun j=>[(1,y),(2,vi 0),(4,vi (j+1:Nat))]) (fun _=>[(2,[vi b.op,vi b.sl,.slice A b.pts.length c,cv])]) seq1 ⟨rfl,rfl,rfl,trivial⟩ ⟨rfl,trivial⟩ ?_
 intro j H2 hj seq2
 have hst2:=hs H2.gh
 refine wkT ?_
 refine wiT (fun h3=>?_) (fun h3=>?_)
 ·refine wkT ?_
  refine om_neg rfl ⟨by omega,by omega⟩ ?_
  refine wkT ?_
  have e1:b.pts.length-1-j=(b.pts.length-1-(j+1))+1:=by omega
  rw[e1,outerR,List.map_append]at seq2
  have e2:((b.pts.length:Int)-((b.pts.length-1-(j+1))+1:Nat))=(j+1:Nat):=by omega
  rw[e2]at seq2
  refine ZaW (2 * sl+1) (fun k H'=>Seq xs I ((innerR (j+1:Nat) sl (2 * sl+1-k)).map Zgt++(outerR b.pts.length sl (b.pts.length-1-(j+1))).map Zgt) H') (fun k=>[(1,y),(2,vi 0),(4,vi (j+1:Nat)),(5,vi (-b.sl+k))]) (fun _=>[(2,[vi b.op,vi b.sl,.slice A b.pts.length c,cv])]) seq2 ⟨rfl,rfl,rfl,by simp[NSt.set],trivial⟩ ⟨rfl,trivial⟩ ?_
  intro k H3 hk seq3
  have hst3:=hs H3.gh
  refine wkT ?_
  refine wiT (fun h4=>?_) (fun h4=>?_)
  ·have e3:2 * sl+1-k=(2 * sl+1-(k+1))+1:=by omega
   have e4:(sl:Int)-(2 * sl+1-(k+1):Nat)=-b.sl+k:=by omega
   rw[e3,innerR,e4]at seq3
   refine wkT ?_
   refine wiT (fun h5=>?_) (fun h5=>?_)
   ·rw[if_pos h5]at seq3
    refine wkT ?_
    refine⟨⟨k+1,by omega⟩,slt (by omega),seq3,⟨rfl,rfl,rfl,?_,trivial⟩,⟨rfl,trivial⟩,rfl⟩
    show some (vi (-b.sl+k+1))=some (vi (-b.sl+(k+1:Nat)))
    congr 2;omega
   ·rw[if_neg h5,List.map_cons,List.cons_append]at seq3
    refine wkT ?_
    refine ZaP rfl rfl (Seq.call (S:=S) hy seq3) ?_
    rintro v H4 (⟨rfl,seq4⟩ | ⟨rfl,hS4⟩)
    ·refine wkT ?_
     refine⟨⟨k+1,by omega⟩,slt (by omega),seq4,⟨rfl,rfl,rfl,?_,trivial⟩,⟨rfl,trivial⟩,rfl⟩
     show some (vi (-b.sl+k+1))=some (vi (-b.sl+(k+1:Nat)))
     congr 2;omega
    ·refine wkT ?_
     exact .inr hS4
  ·have e3:2 * sl+1-k=0:=by omega
   rw[e3,innerR,List.map_nil,List.nil_append]at seq3
   refine wkT ?_
   refine⟨⟨j+1,by omega⟩,slt (by omega),seq3,⟨rfl,rfl,?_,trivial⟩,⟨rfl,trivial⟩,rfl⟩
   show some (vi ((j+1:Nat)+1))=some (vi (j+1+1:Nat))
   congr 2
 ·have e1:b.pts.length-1-j=0:=by omega
  rw[e1,outerR,List.map_nil]at seq2
  refine wkT ?_
  exact .inl seq2.stop
end
theorem qLsI2 {G:Prop} (h:G:=by
  refine wkT ?_
  refine⟨.refl H,.inl ⟨?_,rfl⟩⟩
  refine Classical.byContradiction fun hn=>?_
  obtain⟨a,rfl,_⟩:=hh hn
  simp at h1):G:=h
theorem qLsI1 {G:Prop} (h:G:=by
  rintro w _ ⟨rfl,r,rfl,hr⟩
  refine wkT ?_
  refine⟨rfl,?_⟩
  show vb (decide (0<=r))=vb _
  congr 1
  rw[Bool.eq_iff_iff,decide_eq_true_eq]
  exact hr):G:=h
theorem qLsI0 {G:Prop} (h:G:=by
  refine wkT ?_
  refine Zau hs rfl ?_
  refine wkT ?_
  refine ZaW l.length (fun j H'=>H=H'∧(l.take j).any f=false) (fun j=>[(0,v),(1,fv),(7,vi l.length),(8,vi j)]) (fun j=>[]) ⟨rfl,rfl⟩ ⟨rfl,rfl,rfl,rfl,trivial⟩ trivial ?_
  rintro j _ hj ⟨rfl,hany⟩
  refine wkT ?_
  refine wiT (fun h1=>?_) (fun h1=>?_)
  ·have hj':j<l.length:=by omega
   refine wkT ?_
   refine ZaE hs rfl rfl rfl (i:=j) hj' fun a ha=>?_
   refine wkT ?_
   refine Zao hst rfl ha rfl ?_
   refine wkT ?_
   refine ZaP rfl rfl (hf l[j] (List.getElem_mem hj')) ?_
   rintro w _ ⟨rfl,rfl⟩
   refine wkT ?_
   refine wiT (fun h2=>?_) (fun h2=>?_)
   ·refine wkT ?_
    exact⟨rfl,j,rfl,by simp only[Int.natCast_nonneg,true_iff];rw[List.any_eq_true];exact⟨l[j],List.getElem_mem hj',h2⟩⟩
   ·refine wkT ?_
    refine⟨⟨j+1,by omega⟩,slt (by omega),⟨rfl,?_⟩,⟨rfl,rfl,rfl,rfl,trivial⟩,trivial,rfl⟩
    show (l.take (j+1)).any f=false
    rw[List.take_succ_eq_append_getElem hj',List.any_append,hany]
    simp[h2]
  ·have:j=l.length:=by omega
   subst this
   rw[List.take_length]at hany
   refine wkT ?_
   exact⟨rfl,-1,rfl,by simp[hany]⟩):G:=h
theorem u23:Tryz.prog.underlying 23=some (.slice 101):=by kernel_rfl
theorem u22:Tryz.prog.underlying 22=some (.slice 110):=by kernel_rfl
theorem t51:tiOf Tryz.prog 101=some (3,some (.agg #[vi 0,vi 0,vi 0]),24):=by kernel_rfl
theorem t59:tiOf Tryz.prog 110=some (5,some (.agg #[vi 0,vi 0,vi 0,vi 0,vi 0]),40):=by kernel_rfl
theorem u119:Tryz.prog.underlying 115=some (.array 4 3):=by kernel_rfl
theorem t119:tiOf Tryz.prog 115=some (4,some (.agg #[vi 0,vi 0,vi 0,vi 0]),32):=by kernel_rfl
theorem ZhY {α:Type}[Enc α](h:∀ a:α,((Enc.enc a).all Value.isOne)=true):∀ l:List α,((encs l).all Value.isOne)=true
 | []=>rfl
 | a :: l=>by
  have:=ZhY h l
  simp only[encs,List.flatMap_cons,List.all_append]at this ⊢
  rw[h,this];rfl
theorem ZmM (l:List SCk):((encs l).all Value.isOne)=true:=ZhY (fun _=>rfl) l
theorem pts_one (l:List SPt):((encs l).all Value.isOne)=true:=ZhY (fun _=>rfl) l
theorem Zjd {P:Prg}{d:Option Nat}{next:NSt->Hp->Prop}{σ:NSt}{H:Hp}{x:Operand}{t e t2 ty:TypeId}{A:Option Addr}{n c:Nat}(hu:P.toProgram.underlying t=some (.slice e))(e1:σ.get x=some (.slice A n c))(h:next (σ.set d (vb A.isNone)) H) :
  (NOp.pur (.binOp .eql t x (.const (.slice none 0 0)) t2) ty).m P d next σ H:=by
 have e0:∀ v,σ.get (.const v)=some v:=fun v=>rfl
 refine Zb9 (by simp[Op.operands,e1,e0]) ?_ h
 have:execOp (fun x=>(σ.get x).getD undef) (bare (.binOp .eql t x (.const (.slice none 0 0)) t2) ty)=(do let v <-(do eqGuard .eql t x (.const (.slice none 0 0)) (.slice A n c) (.slice none 0 0);binOp .eql t (.slice A n c) (.slice none 0 0));pure (.value v)):=by simp[execOp,bare,e1,e0]
 rw[this]
 refine Zgw fun Q g H hq=>?_
 simp only[eqGuard,Zaa,Zac]
 have key:∀ d,wpL P.toPQ (Op.equalIn (d+1) t (.slice A n c) (.slice none 0 0)) (fun b g H=>Q (vb b) g H) g H:=by
  intro d
  simp only[Op.equalIn,Zaa,Zad hu]
  cases A<;>exact hq
 have:=key 9999
 cases A<;>exact(Zaa.2 this)
section
variable  {P:Prg}[Tz P]{H:Hp}
set_option maxHeartbeats 400000
theorem Zgn {fv:Value}{f:Int->Bool}{v:Value}{l:List Int}(hf:∀ c∈l,CallV P fv #[vi c] H fun v H'=>H=H'∧v=vb (f c))(hs:SlAt H v l)(hl:l.length<=1000000)(hst:P.still H.gh=false) :
  LL.Zag P 205 #[v,fv] H fun v H'=>H=H'∧∃ r:Int,v=vi r∧(0<=r↔l.any f=true):=by
 refine IsN.m (isn c200) (args:=[v,fv]) rfl ?_
 unfold n200
 refine wkT ?_
 refine Zau hs rfl ?_
 refine wkT ?_
 refine ZaW l.length (fun j H'=>H=H'∧(l.take j).any f=false) (fun j=>[(0,v),(1,fv),(7,vi l.length),(8,vi j)]) (fun j=>[]) ⟨rfl,rfl⟩ ⟨rfl,rfl,rfl,rfl,trivial⟩ trivial ?_
 rintro j _ hj ⟨rfl,hany⟩
 refine wkT ?_
 refine wiT (fun h1=>?_) (fun h1=>?_)
 ·have hj':j<l.length:=by omega
  refine wkT ?_
  refine ZaE hs rfl rfl rfl (i:=j) hj' fun a ha=>?_
  refine wkT ?_
  refine Zaf hst rfl ha ?_
  refine wkT ?_
  refine ZaP rfl rfl (hf l[j] (List.getElem_mem hj')) ?_
  rintro w _ ⟨rfl,rfl⟩
  refine wkT ?_
  refine wiT (fun h2=>?_) (fun h2=>?_)
  ·refine wkT ?_
   exact⟨rfl,j,rfl,by simp only[Int.natCast_nonneg,true_iff];rw[List.any_eq_true];exact⟨l[j],List.getElem_mem hj',h2⟩⟩
  ·refine wkT ?_
   refine⟨⟨j+1,by omega⟩,slt (by omega),⟨rfl,?_⟩,⟨rfl,rfl,rfl,rfl,trivial⟩,trivial,rfl⟩
   show (l.take (j+1)).any f=false
   rw[List.take_succ_eq_append_getElem hj',List.any_append,hany]
   simp[h2]
 ·have:j=l.length:=by omega
  subst this
  rw[List.take_length]at hany
  refine wkT ?_
  exact⟨rfl,-1,rfl,by simp[hany]⟩
theorem Zes {fv:Value}{f:Int->Bool}{v:Value}{l:List Int}(hf:∀ c∈l,CallV P fv #[vi c] H fun v H'=>H=H'∧v=vb (f c))(hs:SlAt H v l)(hl:l.length<=1000000)(hst:P.still H.gh=false) :
  LL.Zag P 153 #[v,fv] H fun v H'=>H=H'∧v=vb (l.any f):=by
 refine IsN.m (isn c172) (args:=[v,fv]) rfl ?_
 unfold n172
 refine wkT ?_
 refine Zab (vs:=[v,fv]) rfl (Zgn hf hs hl hst) ?_
 exact qLsI1
theorem Zgm {fv:Value}{f:SCk->Bool}{v:Value}{l:List SCk}(hf:∀ c∈l,CallV P fv #[.agg #[vi c.p,vi c.gl,vi c.gh]] H fun v H'=>H=H'∧v=vb (f c))(hs:SlAt H v l)(hl:l.length<=1000000)(hst:P.still H.gh=false) :
  LL.Zag P 224 #[v,fv] H fun v H'=>H=H'∧∃ r:Int,v=vi r∧(0<=r↔l.any f=true):=by
 refine IsN.m (isn c201) (args:=[v,fv]) rfl ?_
 unfold n201
 exact qLsI0
theorem Zer {fv:Value}{f:SCk->Bool}{v:Value}{l:List SCk}(hf:∀ c∈l,CallV P fv #[.agg #[vi c.p,vi c.gl,vi c.gh]] H fun v H'=>H=H'∧v=vb (f c))(hs:SlAt H v l)(hl:l.length<=1000000)(hst:P.still H.gh=false) :
  LL.Zag P 192 #[v,fv] H fun v H'=>H=H'∧v=vb (l.any f):=by
 refine IsN.m (isn c176) (args:=[v,fv]) rfl ?_
 unfold n176
 refine wkT ?_
 refine Zab (vs:=[v,fv]) rfl (Zgm hf hs hl hst) ?_
 exact qLsI1
theorem Zgo {fv:Value}{f:Boat->Bool}{v:Value}{l:List Boat}(hf:∀ c∈l,CallV P fv #[ZaH c] H fun v H'=>H=H'∧v=vb (f c))(hs:SlAt H v l)(hl:l.length<=1000000)(hst:P.still H.gh=false) :
  LL.Zag P 150 #[v,fv] H fun v H'=>H=H'∧∃ r:Int,v=vi r∧(0<=r↔l.any f=true):=by
 refine IsN.m (isn c147) (args:=[v,fv]) rfl ?_
 unfold n147
 exact qLsI0
theorem ZeW {fv:Value}{f:Boat->Bool}{v:Value}{l:List Boat}(hf:∀ c∈l,CallV P fv #[ZaH c] H fun v H'=>H=H'∧v=vb (f c))(hs:SlAt H v l)(hl:l.length<=1000000)(hst:P.still H.gh=false) :
  LL.Zag P 94 #[v,fv] H fun v H'=>H=H'∧v=vb (l.any f):=by
 refine IsN.m (isn c96) (args:=[v,fv]) rfl ?_
 unfold n96
 refine wkT ?_
 refine Zab (vs:=[v,fv]) rfl (Zgo hf hs hl hst) ?_
 exact qLsI1
theorem ZjH {v:Value}{l:List Int}(hs:SlAt H v l)(hl:l.length<=1000000)(hst:P.still H.gh=false) :
  LL.Zag P 120 #[v] H fun v' H'=>H.Sub H'∧((l=[]∧v'=.slice none 0 0)∨∃ b,Own H H' 3 v' l b):=by
 obtain⟨A,c,rfl,hh⟩:=hs
 refine IsN.m (isn c174) (args:=[.slice A l.length c]) rfl ?_
 unfold n174
 refine wkT ?_
 refine Zjd (und u34) rfl ?_
 refine wkT ?_
 refine wiT (fun h1=>?_) (fun h1=>?_)
 ·exact qLsI2
 ·refine wkT ?_
  refine Zdu (und u34) (tif t3) hst fun r hr=>?_
  refine wkT ?_
  have hst1:P.still (H.ins r (.cells #[] 3)).gh=false:=hst
  refine Ziv (l:=([]:List Int)) (l':=l) (und u34) (und u34) (tif t3) rfl (by decide) (ZaL hr) (H0:=H) (b:=some r) ⟨own0,fun q e=>by obtain rfl:=Option.some.inj e;exact hr⟩ ⟨A,c,rfl,fun hn=>by obtain⟨a,e1,e2⟩:=hh hn;exact⟨a,e1,e2.sub (ZaL hr)⟩⟩ (ints_one l) (by simp;omega) (by omega) rfl rfl hst1 fun v' H' b' g1 g2 g3=>?_
  refine wkT ?_
  exact⟨g1,.inr ⟨b',by rw[List.nil_append]at g2;exact g2⟩⟩
theorem Zgq {v:Value}{l:List SCk}(hs:SlAt H v l)(hl:l.length<=1000000)(hst:P.still H.gh=false) :
  LL.Zag P 111 #[v] H fun v' H'=>H.Sub H'∧((l=[]∧v'=.slice none 0 0)∨∃ b,Own H H' 101 v' l b):=by
 obtain⟨A,c,rfl,hh⟩:=hs
 refine IsN.m (isn c125) (args:=[.slice A l.length c]) rfl ?_
 unfold n125
 refine wkT ?_
 refine Zjd (und u23) rfl ?_
 refine wkT ?_
 refine wiT (fun h1=>?_) (fun h1=>?_)
 ·exact qLsI2
 ·refine wkT ?_
  refine Zdu (und u23) (tif t51) hst fun r hr=>?_
  refine wkT ?_
  have hst1:P.still (H.ins r (.cells #[] 101)).gh=false:=hst
  refine Ziv (l:=([]:List SCk)) (l':=l) (und u23) (und u23) (tif t51) rfl (by decide) (ZaL hr) (H0:=H) (b:=some r) ⟨own0,fun q e=>by obtain rfl:=Option.some.inj e;exact hr⟩ ⟨A,c,rfl,fun hn=>by obtain⟨a,e1,e2⟩:=hh hn;exact⟨a,e1,e2.sub (ZaL hr)⟩⟩ (ZmM l) (by simp;omega) (by omega) rfl rfl hst1 fun v' H' b' g1 g2 g3=>?_
  refine wkT ?_
  exact⟨g1,.inr ⟨b',by rw[List.nil_append]at g2;exact g2⟩⟩
theorem Zgp {v:Value}{l:List SPt}(hs:SlAt H v l)(hl:l.length<=1000000)(hst:P.still H.gh=false) :
  LL.Zag P 114 #[v] H fun v' H'=>H.Sub H'∧((l=[]∧v'=.slice none 0 0)∨∃ b,Own H H' 110 v' l b):=by
 obtain⟨A,c,rfl,hh⟩:=hs
 refine IsN.m (isn c129) (args:=[.slice A l.length c]) rfl ?_
 unfold n129
 refine wkT ?_
 refine Zjd (und u22) rfl ?_
 refine wkT ?_
 refine wiT (fun h1=>?_) (fun h1=>?_)
 ·exact qLsI2
 ·refine wkT ?_
  refine Zdu (und u22) (tif t59) hst fun r hr=>?_
  refine wkT ?_
  have hst1:P.still (H.ins r (.cells #[] 110)).gh=false:=hst
  refine Ziv (l:=([]:List SPt)) (l':=l) (und u22) (und u22) (tif t59) rfl (by decide) (ZaL hr) (H0:=H) (b:=some r) ⟨own0,fun q e=>by obtain rfl:=Option.some.inj e;exact hr⟩ ⟨A,c,rfl,fun hn=>by obtain⟨a,e1,e2⟩:=hh hn;exact⟨a,e1,e2.sub (ZaL hr)⟩⟩ (pts_one l) (by simp;omega) (by omega) rfl rfl hst1 fun v' H' b' g1 g2 g3=>?_
  refine wkT ?_
  exact⟨g1,.inr ⟨b',by rw[List.nil_append]at g2;exact g2⟩⟩
end
def ckOk (g:N4)(c:SCk):Bool:=decide (c.gl<=g.get c.p.toNat∧g.get c.p.toNat<=c.gh)
def ZgM (b:Bk)(x:Boat):Bool:=b.cks.all (ckOk (Zas b x))
def CksIn (b:Bk):Prop:=∀ c∈b.cks,0<=c.p∧c.p<4
section
variable  {P:Prg}[Tz P]{H:Hp}
set_option maxHeartbeats 400000
theorem ZlT {c:SCk}{g:N4}{r:Nat}(hg:CellsAt H ⟨r,0,none⟩ g.cells)(hp:0<=c.p∧c.p<4)(hst:P.still H.gh=false):LL.Zag P 193 #[.agg #[vi c.p,vi c.gl,vi c.gh],.pointer (some ⟨r,0,none⟩)] H fun v H'=>H=H'∧v=vb (!ckOk g c):=by
 obtain⟨n,hn⟩:∃ n:Nat,c.p=n:=⟨c.p.toNat,by omega⟩
 have hn4:n<4:=by omega
 refine IsN.m (isn c177) (args:=[.agg #[vi c.p,vi c.gl,vi c.gh],.pointer (some ⟨r,0,none⟩)]) rfl ?_
 unfold n177
 rw[hn]
 refine wkT ?_
 refine Zl6 (und u119) (tif t3) rfl rfl hn4 ?_
 refine wkT ?_
 have hc:CellsAt H ((⟨r,0,none⟩:Addr).add (n * 1)) [vi (g.get n)]:=by
  obtain⟨h1,o,p,h2,h3⟩:=hg
  refine⟨Zdp rfl _,o,p,by rw[ZbM];exact h2,fun j hj=>?_⟩
  have:j=0:=by simpa using hj
  subst this
  rw[Zc0]
  have e:=h3 (0+n * 1) (by show 0+n * 1<4;omega)
  rw[ZcH _ hn4]at e
  simpa using e
 refine Zaf hst rfl hc ?_
 refine wkT ?_
 refine Zab (vs:=[vi (g.get n),vi c.gl,vi c.gh]) rfl (Zby _ _ _) ?_
 rintro v _ ⟨rfl,rfl⟩
 refine wkT ?_
 exact⟨rfl,by rw[ckOk,hn];rfl⟩
theorem right_ok {bv:Value}{b:Bk}{x:Boat}(hb:BkAt H bv b)(ok:BkOk b)(okx:BtOk x)(okc:CksIn b)(hl:b.cks.length<=1000000)(hst:P.still H.gh=false):LL.Zag P 149 #[bv,ZaH x] H fun v H'=>H.Sub H'∧v=vb (ZgM b x):=by
 have hb0:=hb
 obtain⟨pv,cv,rfl,hp,hc⟩:=hb
 refine IsN.m (isn c140) (args:=[.agg #[vi b.op,vi b.sl,pv,cv],ZaH x]) rfl ?_
 unfold n140
 refine wkT ?_
 refine Zab (vs:=[.agg #[vi b.op,vi b.sl,pv,cv],ZaH x]) rfl (Zdk hb0 ok okx hst) ?_
 rintro v _ ⟨rfl,rfl⟩
 refine wkT ?_
 refine Zav (tif t119) hst fun r hr=>?_
 have hst1:∀ o,P.still (H.ins r o).gh=false:=fun o=>hst
 refine wkT ?_
 refine Zay (tif t119) (cs:=[vi 0,vi 0,vi 0,vi 0]) rfl rfl (Hp.ins_same _ _ _) rfl rfl rfl (hst1 _) ?_
 have e1:(H.ins r (.cells (Value.agg #[vi 0,vi 0,vi 0,vi 0]).cells 115)).ins r (.cells (numV (Zas b x)).cells 115)=H.ins r (.cells (Zas b x).cells.toArray 115):=by
  refine Hp.ext' (fun c=>?_) rfl
  by_cases e:c=r
  ·subst e;rw[Hp.ins_same,Hp.ins_same];rfl
  ·rw[Hp.ins_other _ _ e,Hp.ins_other _ _ e,Hp.ins_other _ _ e]
 rw[e1]
 refine wkT ?_
 refine Zci rfl rfl ?_
 refine wkT ?_
 refine Zab (vs:=[cv,.func (.func 193) #[] #[.pointer (some ⟨r,0,none⟩)]]) rfl (Zer (f:=fun c=>!ckOk (Zas b x) c) (l:=b.cks) (fun c hcm=>?_) (hc.sub (ZaL hr)) hl (hst1 _)) ?_
 ·exact ZcY (by kernel_rfl) (ZlT ⟨rfl,_,_,Hp.ins_same _ _ _,fun j hj=>by simp[Obj.at?]⟩ (okc c hcm) (hst1 _))
 rintro v _ ⟨rfl,rfl⟩
 refine wkT ?_
 refine⟨ZaL hr,?_⟩
 show vb _=vb _
 congr 1
 rw[ZgM,List.all_eq_not_any_not]
end
end Go.Proofs
end
