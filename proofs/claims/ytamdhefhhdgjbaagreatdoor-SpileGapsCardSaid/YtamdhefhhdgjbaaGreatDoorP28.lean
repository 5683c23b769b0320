/- proofs about Leango given: part P28; made by a program out of the longer texts in wip -/
import Derived.Test.YtamdhefhhdgjbaaGreatDoorP27
set_option linter.all false
section
open Go Go.LL
namespace Go.Proofs
theorem qLsI2 {G:Prop} (h:G:=by
  refine wkT ?_
  refine⟨.refl H,.inl ⟨?_,rfl⟩⟩
  refine Classical.byContradiction fun hn=>?_
  obtain⟨a,rfl,_⟩:=hh hn
  simp at h1):G:=h
theorem qLsI1 {G:Prop} (h:G:=by
  rintro w _ ⟨rfl,r,rfl,hr⟩
  refine wkT ?_
  refine⟨rfl,?_⟩
  show vb (decide (0<=r))=vb _
  congr 1
  rw[Bool.eq_iff_iff,decide_eq_true_eq]
  exact hr):G:=h
theorem qLsI0 {G:Prop} (h:G:=by
  refine wkT ?_
  refine Zav hs rfl ?_
  refine wkT ?_
  refine ZaX l.length (fun j H'=>H=H'∧(l.take j).any f=false) (fun j=>[(0,v),(1,fv),(7,vi l.length),(8,vi j)]) (fun j=>[]) ⟨rfl,rfl⟩ ⟨rfl,rfl,rfl,rfl,trivial⟩ trivial ?_
  rintro j _ hj ⟨rfl,hany⟩
  refine wkT ?_
  refine wiT (fun h1=>?_) (fun h1=>?_)
  ·have hj':j<l.length:=by omega
   refine wkT ?_
   refine ZaE hs rfl rfl rfl (i:=j) hj' fun a ha=>?_
   refine wkT ?_
   refine Zao hst rfl ha rfl ?_
   refine wkT ?_
   refine ZaQ rfl rfl (hf l[j] (List.getElem_mem hj')) ?_
   rintro w _ ⟨rfl,rfl⟩
   refine wkT ?_
   refine wiT (fun h2=>?_) (fun h2=>?_)
   ·refine wkT ?_
    exact⟨rfl,j,rfl,by simp only[Int.natCast_nonneg,true_iff];rw[List.any_eq_true];exact⟨l[j],List.getElem_mem hj',h2⟩⟩
   ·refine wkT ?_
    refine⟨⟨j+1,by omega⟩,Nat.sub_lt_sub_left (by omega) (Nat.lt_succ_self j),⟨rfl,?_⟩,⟨rfl,rfl,rfl,rfl,trivial⟩,trivial,rfl⟩
    show (l.take (j+1)).any f=false
    rw[List.take_succ_eq_append_getElem hj',List.any_append,hany]
    simp[h2]
  ·have:j=l.length:=by omega
   subst this
   rw[List.take_length]at hany
   refine wkT ?_
   exact⟨rfl,-1,rfl,by simp[hany]⟩):G:=h
theorem u23:Tryz.prog.underlying 23=some (.slice 51):=by kernel_rfl
theorem u22:Tryz.prog.underlying 22=some (.slice 59):=by kernel_rfl
theorem t51:tiOf Tryz.prog 51=some (3,some (.agg #[vi 0,vi 0,vi 0]),24):=by kernel_rfl
theorem t59:tiOf Tryz.prog 59=some (5,some (.agg #[vi 0,vi 0,vi 0,vi 0,vi 0]),40):=by kernel_rfl
theorem u119:Tryz.prog.underlying 119=some (.array 4 3):=by kernel_rfl
theorem t119:tiOf Tryz.prog 119=some (4,some (.agg #[vi 0,vi 0,vi 0,vi 0]),32):=by kernel_rfl
theorem Zh3 {α:Type}[Enc α](h:∀ a:α,((Enc.enc a).all Value.isOne)=true):∀ l:List α,((encs l).all Value.isOne)=true
 | []=>rfl
 | a :: l=>by
  have:=Zh3 h l
  simp only[encs,List.flatMap_cons,List.all_append]at this ⊢
  rw[h,this];rfl
theorem ZmR (l:List SCk):((encs l).all Value.isOne)=true:=Zh3 (fun _=>rfl) l
theorem pts_one (l:List SPt):((encs l).all Value.isOne)=true:=Zh3 (fun _=>rfl) l
theorem Zjh {P:Prg}{d:Option Nat}{next:NSt->Hp->Prop}{σ:NSt}{H:Hp}{x:Operand}{t e t2 ty:TypeId}{A:Option Addr}{n c:Nat}(hu:P.toProgram.underlying t=some (.slice e))(e1:σ.get x=some (.slice A n c))(h:next (σ.set d (vb A.isNone)) H) :
  (NOp.pur (.binOp .eql t x (.const (.slice none 0 0)) t2) ty).m P d next σ H:=by
 have e0:∀ v,σ.get (.const v)=some v:=fun v=>rfl
 refine Zcb (by simp[Op.operands,e1,e0]) ?_ h
 have:execOp (fun x=>(σ.get x).getD undef) (bare (.binOp .eql t x (.const (.slice none 0 0)) t2) ty)=(do let v <-(do eqGuard .eql t x (.const (.slice none 0 0)) (.slice A n c) (.slice none 0 0);binOp .eql t (.slice A n c) (.slice none 0 0));pure (.value v)):=by simp[execOp,bare,e1,e0]
 rw[this]
 refine Zgz fun Q g H hq=>?_
 simp only[eqGuard,Zaa,Zac]
 have key:∀ d,wpL P.toPQ (Op.equalIn (d+1) t (.slice A n c) (.slice none 0 0)) (fun b g H=>Q (vb b) g H) g H:=by
  intro d
  simp only[Op.equalIn,Zaa,Zad hu]
  cases A<;>exact hq
 have:=key 9999
 cases A<;>exact(Zaa.2 this)
section
variable  {P:Prg}[Tz P]{H:Hp}
set_option maxHeartbeats 400000
theorem Zgq {fv:Value}{f:Int->Bool}{v:Value}{l:List Int}(hf:∀ c∈l,CallV P fv #[vi c] H fun v H'=>H=H'∧v=vb (f c))(hs:SlAt H v l)(hl:l.length<=1000000)(hst:P.still H.gh=false) :
  LL.Zag P 200 #[v,fv] H fun v H'=>H=H'∧∃ r:Int,v=vi r∧(0<=r↔l.any f=true):=by
 refine IsN.m (isn c200) (args:=[v,fv]) rfl ?_
 unfold n200
 refine wkT ?_
 refine Zav hs rfl ?_
 refine wkT ?_
 refine ZaX l.length (fun j H'=>H=H'∧(l.take j).any f=false) (fun j=>[(0,v),(1,fv),(7,vi l.length),(8,vi j)]) (fun j=>[]) ⟨rfl,rfl⟩ ⟨rfl,rfl,rfl,rfl,trivial⟩ trivial ?_
 rintro j _ hj ⟨rfl,hany⟩
 refine wkT ?_
 refine wiT (fun h1=>?_) (fun h1=>?_)
 ·have hj':j<l.length:=by omega
  refine wkT ?_
  refine ZaE hs rfl rfl rfl (i:=j) hj' fun a ha=>?_
  refine wkT ?_
  refine Zaf hst rfl ha ?_
  refine wkT ?_
  refine ZaQ rfl rfl (hf l[j] (List.getElem_mem hj')) ?_
  rintro w _ ⟨rfl,rfl⟩
  refine wkT ?_
  refine wiT (fun h2=>?_) (fun h2=>?_)
  ·refine wkT ?_
   exact⟨rfl,j,rfl,by simp only[Int.natCast_nonneg,true_iff];rw[List.any_eq_true];exact⟨l[j],List.getElem_mem hj',h2⟩⟩
  ·refine wkT ?_
   refine⟨⟨j+1,by omega⟩,Nat.sub_lt_sub_left (by omega) (Nat.lt_succ_self j),⟨rfl,?_⟩,⟨rfl,rfl,rfl,rfl,trivial⟩,trivial,rfl⟩
   show (l.take (j+1)).any f=false
   rw[List.take_succ_eq_append_getElem hj',List.any_append,hany]
   simp[h2]
 ·have:j=l.length:=by omega
  subst this
  rw[List.take_length]at hany
  refine wkT ?_
  exact⟨rfl,-1,rfl,by simp[hany]⟩
theorem Zet {fv:Value}{f:Int->Bool}{v:Value}{l:List Int}(hf:∀ c∈l,CallV P fv #[vi c] H fun v H'=>H=H'∧v=vb (f c))(hs:SlAt H v l)(hl:l.length<=1000000)(hst:P.still H.gh=false) :
  LL.Zag P 172 #[v,fv] H fun v H'=>H=H'∧v=vb (l.any f):=by
 refine IsN.m (isn c172) (args:=[v,fv]) rfl ?_
 unfold n172
 refine wkT ?_
 refine Zab (vs:=[v,fv]) rfl (Zgq hf hs hl hst) ?_
 exact qLsI1
theorem Zgp {fv:Value}{f:SCk->Bool}{v:Value}{l:List SCk}(hf:∀ c∈l,CallV P fv #[.agg #[vi c.p,vi c.gl,vi c.gh]] H fun v H'=>H=H'∧v=vb (f c))(hs:SlAt H v l)(hl:l.length<=1000000)(hst:P.still H.gh=false) :
  LL.Zag P 201 #[v,fv] H fun v H'=>H=H'∧∃ r:Int,v=vi r∧(0<=r↔l.any f=true):=by
 refine IsN.m (isn c201) (args:=[v,fv]) rfl ?_
 unfold n201
 exact qLsI0
theorem Zes {fv:Value}{f:SCk->Bool}{v:Value}{l:List SCk}(hf:∀ c∈l,CallV P fv #[.agg #[vi c.p,vi c.gl,vi c.gh]] H fun v H'=>H=H'∧v=vb (f c))(hs:SlAt H v l)(hl:l.length<=1000000)(hst:P.still H.gh=false) :
  LL.Zag P 176 #[v,fv] H fun v H'=>H=H'∧v=vb (l.any f):=by
 refine IsN.m (isn c176) (args:=[v,fv]) rfl ?_
 unfold n176
 refine wkT ?_
 refine Zab (vs:=[v,fv]) rfl (Zgp hf hs hl hst) ?_
 exact qLsI1
theorem Zgr {fv:Value}{f:Boat->Bool}{v:Value}{l:List Boat}(hf:∀ c∈l,CallV P fv #[ZaJ c] H fun v H'=>H=H'∧v=vb (f c))(hs:SlAt H v l)(hl:l.length<=1000000)(hst:P.still H.gh=false) :
  LL.Zag P 147 #[v,fv] H fun v H'=>H=H'∧∃ r:Int,v=vi r∧(0<=r↔l.any f=true):=by
 refine IsN.m (isn c147) (args:=[v,fv]) rfl ?_
 unfold n147
 exact qLsI0
theorem ZeX {fv:Value}{f:Boat->Bool}{v:Value}{l:List Boat}(hf:∀ c∈l,CallV P fv #[ZaJ c] H fun v H'=>H=H'∧v=vb (f c))(hs:SlAt H v l)(hl:l.length<=1000000)(hst:P.still H.gh=false) :
  LL.Zag P 96 #[v,fv] H fun v H'=>H=H'∧v=vb (l.any f):=by
 refine IsN.m (isn c96) (args:=[v,fv]) rfl ?_
 unfold n96
 refine wkT ?_
 refine Zab (vs:=[v,fv]) rfl (Zgr hf hs hl hst) ?_
 exact qLsI1
theorem ZjL {v:Value}{l:List Int}(hs:SlAt H v l)(hl:l.length<=1000000)(hst:P.still H.gh=false) :
  LL.Zag P 174 #[v] H fun v' H'=>H.Sub H'∧((l=[]∧v'=.slice none 0 0)∨∃ b,Own H H' 3 v' l b):=by
 obtain⟨A,c,rfl,hh⟩:=hs
 refine IsN.m (isn c174) (args:=[.slice A l.length c]) rfl ?_
 unfold n174
 refine wkT ?_
 refine Zjh (und u34) rfl ?_
 refine wkT ?_
 refine wiT (fun h1=>?_) (fun h1=>?_)
 ·exact qLsI2
 ·refine wkT ?_
  refine Zdw (und u34) (tif t3) hst fun r hr=>?_
  refine wkT ?_
  have hst1:P.still (H.ins r (.cells #[] 3)).gh=false:=hst
  refine Ziz (l:=([]:List Int)) (l':=l) (und u34) (und u34) (tif t3) rfl (by decide) (ZaM hr) (H0:=H) (b:=some r) ⟨own0,fun q e=>by obtain rfl:=Option.some.inj e;exact hr⟩ ⟨A,c,rfl,fun hn=>by obtain⟨a,e1,e2⟩:=hh hn;exact⟨a,e1,e2.sub (ZaM hr)⟩⟩ (ints_one l) (by simp;omega) (by omega) rfl rfl hst1 fun v' H' b' g1 g2 g3=>?_
  refine wkT ?_
  exact⟨g1,.inr ⟨b',by rw[List.nil_append]at g2;exact g2⟩⟩
theorem Zgt {v:Value}{l:List SCk}(hs:SlAt H v l)(hl:l.length<=1000000)(hst:P.still H.gh=false) :
  LL.Zag P 125 #[v] H fun v' H'=>H.Sub H'∧((l=[]∧v'=.slice none 0 0)∨∃ b,Own H H' 51 v' l b):=by
 obtain⟨A,c,rfl,hh⟩:=hs
 refine IsN.m (isn c125) (args:=[.slice A l.length c]) rfl ?_
 unfold n125
 refine wkT ?_
 refine Zjh (und u23) rfl ?_
 refine wkT ?_
 refine wiT (fun h1=>?_) (fun h1=>?_)
 ·exact qLsI2
 ·refine wkT ?_
  refine Zdw (und u23) (tif t51) hst fun r hr=>?_
  refine wkT ?_
  have hst1:P.still (H.ins r (.cells #[] 51)).gh=false:=hst
  refine Ziz (l:=([]:List SCk)) (l':=l) (und u23) (und u23) (tif t51) rfl (by decide) (ZaM hr) (H0:=H) (b:=some r) ⟨own0,fun q e=>by obtain rfl:=Option.some.inj e;exact hr⟩ ⟨A,c,rfl,fun hn=>by obtain⟨a,e1,e2⟩:=hh hn;exact⟨a,e1,e2.sub (ZaM hr)⟩⟩ (ZmR l) (by simp;omega) (by omega) rfl rfl hst1 fun v' H' b' g1 g2 g3=>?_
  refine wkT ?_
  exact⟨g1,.inr ⟨b',by rw[List.nil_append]at g2;exact g2⟩⟩
theorem Zgs {v:Value}{l:List SPt}(hs:SlAt H v l)(hl:l.length<=1000000)(hst:P.still H.gh=false) :
  LL.Zag P 129 #[v] H fun v' H'=>H.Sub H'∧((l=[]∧v'=.slice none 0 0)∨∃ b,Own H H' 59 v' l b):=by
 obtain⟨A,c,rfl,hh⟩:=hs
 refine IsN.m (isn c129) (args:=[.slice A l.length c]) rfl ?_
 unfold n129
 refine wkT ?_
 refine Zjh (und u22) rfl ?_
 refine wkT ?_
 refine wiT (fun h1=>?_) (fun h1=>?_)
 ·exact qLsI2
 ·refine wkT ?_
  refine Zdw (und u22) (tif t59) hst fun r hr=>?_
  refine wkT ?_
  have hst1:P.still (H.ins r (.cells #[] 59)).gh=false:=hst
  refine Ziz (l:=([]:List SPt)) (l':=l) (und u22) (und u22) (tif t59) rfl (by decide) (ZaM hr) (H0:=H) (b:=some r) ⟨own0,fun q e=>by obtain rfl:=Option.some.inj e;exact hr⟩ ⟨A,c,rfl,fun hn=>by obtain⟨a,e1,e2⟩:=hh hn;exact⟨a,e1,e2.sub (ZaM hr)⟩⟩ (pts_one l) (by simp;omega) (by omega) rfl rfl hst1 fun v' H' b' g1 g2 g3=>?_
  refine wkT ?_
  exact⟨g1,.inr ⟨b',by rw[List.nil_append]at g2;exact g2⟩⟩
end
end Go.Proofs
end
section
open Go Go.LL
namespace Go.Proofs
def ckOk (g:N4)(c:SCk):Bool:=decide (c.gl<=g.get c.p.toNat∧g.get c.p.toNat<=c.gh)
def ZgQ (b:Bk)(x:Boat):Bool:=b.cks.all (ckOk (Zas b x))
def CksIn (b:Bk):Prop:=∀ c∈b.cks,0<=c.p∧c.p<4
section
variable  {P:Prg}[Tz P]{H:Hp}
set_option maxHeartbeats 400000
theorem ZlX {c:SCk}{g:N4}{r:Nat}(hg:CellsAt H ⟨r,0,none⟩ g.cells)(hp:0<=c.p∧c.p<4)(hst:P.still H.gh=false):LL.Zag P 177 #[.agg #[vi c.p,vi c.gl,vi c.gh],.pointer (some ⟨r,0,none⟩)] H fun v H'=>H=H'∧v=vb (!ckOk g c):=by
 obtain⟨n,hn⟩:∃ n:Nat,c.p=n:=⟨c.p.toNat,by omega⟩
 have hn4:n<4:=by omega
 refine IsN.m (isn c177) (args:=[.agg #[vi c.p,vi c.gl,vi c.gh],.pointer (some ⟨r,0,none⟩)]) rfl ?_
 unfold n177
 rw[hn]
 refine wkT ?_
 refine Zma (und u119) (tif t3) rfl rfl hn4 ?_
 refine wkT ?_
 have hc:CellsAt H ((⟨r,0,none⟩:Addr).add (n * 1)) [vi (g.get n)]:=by
  obtain⟨h1,o,p,h2,h3⟩:=hg
  refine⟨Zds rfl _,o,p,by rw[ZbM];exact h2,fun j hj=>?_⟩
  have:j=0:=by simpa using hj
  subst this
  rw[Zc3]
  have e:=h3 (0+n * 1) (by show 0+n * 1<4;omega)
  rw[ZcJ _ hn4]at e
  simpa using e
 refine Zaf hst rfl hc ?_
 refine wkT ?_
 refine Zab (vs:=[vi (g.get n),vi c.gl,vi c.gh]) rfl (Zby _ _ _) ?_
 rintro v _ ⟨rfl,rfl⟩
 refine wkT ?_
 exact⟨rfl,by rw[ckOk,hn];rfl⟩
theorem right_ok {bv:Value}{b:Bk}{x:Boat}(hb:BkAt H bv b)(ok:BkOk b)(okx:BtOk x)(okc:CksIn b)(hl:b.cks.length<=1000000)(hst:P.still H.gh=false):LL.Zag P 140 #[bv,ZaJ x] H fun v H'=>H.Sub H'∧v=vb (ZgQ b x):=by
 have hb0:=hb
 obtain⟨pv,cv,rfl,hp,hc⟩:=hb
 refine IsN.m (isn c140) (args:=[.agg #[vi b.op,vi b.sl,pv,cv],ZaJ x]) rfl ?_
 unfold n140
 refine wkT ?_
 refine Zab (vs:=[.agg #[vi b.op,vi b.sl,pv,cv],ZaJ x]) rfl (Zdn hb0 ok okx hst) ?_
 rintro v _ ⟨rfl,rfl⟩
 refine wkT ?_
 refine Zaw (tif t119) hst fun r hr=>?_
 have hst1:∀ o,P.still (H.ins r o).gh=false:=fun o=>hst
 refine wkT ?_
 refine Zaz (tif t119) (cs:=[vi 0,vi 0,vi 0,vi 0]) rfl rfl (Hp.ins_same _ _ _) rfl rfl rfl (hst1 _) ?_
 have e1:(H.ins r (.cells (Value.agg #[vi 0,vi 0,vi 0,vi 0]).cells 119)).ins r (.cells (numV (Zas b x)).cells 119)=H.ins r (.cells (Zas b x).cells.toArray 119):=by
  refine Hp.ext' (fun c=>?_) rfl
  by_cases e:c=r
  ·subst e;rw[Hp.ins_same,Hp.ins_same];rfl
  ·rw[Hp.ins_other _ _ e,Hp.ins_other _ _ e,Hp.ins_other _ _ e]
 rw[e1]
 refine wkT ?_
 refine Zck rfl rfl ?_
 refine wkT ?_
 refine Zab (vs:=[cv,.func (.func 177) #[] #[.pointer (some ⟨r,0,none⟩)]]) rfl (Zes (f:=fun c=>!ckOk (Zas b x) c) (l:=b.cks) (fun c hcm=>?_) (hc.sub (ZaM hr)) hl (hst1 _)) ?_
 ·exact Zc1 (by kernel_rfl) (ZlX ⟨rfl,_,_,Hp.ins_same _ _ _,fun j hj=>by simp[Obj.at?]⟩ (okc c hcm) (hst1 _))
 rintro v _ ⟨rfl,rfl⟩
 refine wkT ?_
 refine⟨ZaM hr,?_⟩
 show vb _=vb _
 congr 1
 rw[ZgQ,List.all_eq_not_any_not]
end
end Go.Proofs
end
section
open Go Go.LL
namespace Go.Proofs
def spf (p:Program)(t:TypeId):Option (List (String×TypeId×Nat)×Bool):=match p.underlying t with | some (.struct fs)=>some (fs.toList.map (fun f=>(f.name,f.type,f.offset)),p.stoodInHeld t) | _=>none
theorem spf2 {p:Program}{t:TypeId}{n1 n2:String}{t1 t2 o1 o2:Nat}{b:Bool}(h:spf p t=some ([(n1,t1,o1),(n2,t2,o2)],b)):∃ f1 f2:Field,p.underlying t=some (.struct #[f1,f2])∧(f1.name=n1∧f1.type=t1∧f1.offset=o1)∧(f2.name=n2∧f2.type=t2∧f2.offset=o2)∧p.stoodInHeld t=b:=by
 unfold spf at h
 split at h
 ·rename_i fs hu
  obtain⟨fs⟩:=fs
  simp only[Option.some.injEq,Prod.mk.injEq]at h
  obtain⟨h,h2⟩:=h
  match fs,h with
  | [f1,f2],h=>
   simp only[List.map_cons,List.map_nil,List.cons.injEq,Prod.mk.injEq]at h
   exact⟨f1,f2,hu,h.1,h.2.1,h2⟩
 ·simp at h
theorem s70:spf Tryz.prog 70=some ([("Before",3,0),("By",3,1)],false):=by kernel_rfl
theorem s49:spf Tryz.prog 49=some ([("Low",3,0),("High",3,1)],false):=by kernel_rfl
theorem ui3:Tryz.prog.underlying 3=some (.int .i64):=by kernel_rfl
section
variable  {P:Prg}[Tz P]{H:Hp}{g:Bool}{d:Nat}
theorem ZgA {cs:Array Value}{off:Nat}{v:Value}(h:cs[off]? = some v)(Q:Value->Bool->Hp->Prop):wpL P.toPQ (part 3 cs off) Q g H↔Q v g H:=by
 simp only[part,Zaa,ZbL (agf (P:=P) a3),Bool.false_eq_true,if_false,h,Zac]
theorem eq3 {a b:Int}(Q:Bool->Bool->Hp->Prop):wpL P.toPQ (Op.equalIn (d+1) 3 (vi a) (vi b)) Q g H↔Q (decide (a=b)) g H:=by
 simp only[Op.equalIn,Zaa,Zad (und (P:=P) ui3),if_true,Zac]
 have:(a == b)=decide (a=b):=by rw[Bool.eq_iff_iff];simp
 rw[this]
theorem eqP {t:TypeId}(hs:spf Tryz.prog t=some ([("Before",3,0),("By",3,1)],false)∨spf Tryz.prog t=some ([("Low",3,0),("High",3,1)],false)){a b c e:Int}(Q:Bool->Bool->Hp->Prop)(hq:Q (decide (a=c∧b=e)) g H):wpL P.toPQ (Op.equalIn (d+1+1) t (.agg #[vi a,vi b]) (.agg #[vi c,vi e])) Q g H:=by
 have p1:∀ (x y:Int) (Q:Value->Bool->Hp->Prop) g H,wpL P.toPQ (part 3 #[vi x,vi y] 0) Q g H↔Q (vi x) g H:=fun x y Q g H=>ZgA rfl Q
 have p2:∀ (x y:Int) (Q:Value->Bool->Hp->Prop) g H,wpL P.toPQ (part 3 #[vi x,vi y] 1) Q g H↔Q (vi y) g H:=fun x y Q g H=>ZgA rfl Q
 rcases hs with hs | hs
 all_goals
  obtain⟨f1,f2,hu,⟨n1,t1,o1⟩,⟨n2,t2,o2⟩,hs⟩:=spf2 (p:=P.toProgram) (by rw[Tz.prog (P:=P)];exact hs)
  rw[Op.equalIn]
  simp only[Zaa,Zad hu,ZaU,hs,Bool.false_eq_true,if_false,Zac]
  simp only[n1,n2,t1,t2,o1,o2,Zaa,List.forIn_toArray,List.forIn_cons,List.forIn_nil]
  by_cases h1:a=c<;>by_cases h2:b=e<;>simp[p1,p2,eq3,Zaa,Zac,h1,h2]at hq ⊢<;>exact hq
def n4Eq (a b:N4):Bool:=decide (a.a=b.a∧a.b=b.b∧a.c=b.c∧a.d=b.d)
theorem eq119 {a b:N4}(Q:Bool->Bool->Hp->Prop)(hq:Q (n4Eq a b) g H):wpL P.toPQ (Op.equalIn (d+1+1) 119 (numV a) (numV b)) Q g H:=by
 have p1:∀ (x y z u:Int) (Q:Value->Bool->Hp->Prop) g H,wpL P.toPQ (part 3 #[vi x,vi y,vi z,vi u] 0) Q g H↔Q (vi x) g H:=fun x y z u Q g H=>ZgA rfl Q
 have p2:∀ (x y z u:Int) (Q:Value->Bool->Hp->Prop) g H,wpL P.toPQ (part 3 #[vi x,vi y,vi z,vi u] 1) Q g H↔Q (vi y) g H:=fun x y z u Q g H=>ZgA rfl Q
 have p3:∀ (x y z u:Int) (Q:Value->Bool->Hp->Prop) g H,wpL P.toPQ (part 3 #[vi x,vi y,vi z,vi u] 2) Q g H↔Q (vi z) g H:=fun x y z u Q g H=>ZgA rfl Q
 have p4:∀ (x y z u:Int) (Q:Value->Bool->Hp->Prop) g H,wpL P.toPQ (part 3 #[vi x,vi y,vi z,vi u] 3) Q g H↔Q (vi u) g H:=fun x y z u Q g H=>ZgA rfl Q
 obtain⟨inf,i1,i2,i3,i4⟩:=(tif (P:=P) t3).ex
 rw[Op.equalIn]
 simp only[numV,Zaa,Zad (und (P:=P) u119),Zap i1,i2,Zac]
 unfold n4Eq at hq
 have hr:List.range' 0 4=[0,1,2,3]:=rfl
 simp only[Std.Legacy.Range.forIn_eq_forIn_range',Std.Legacy.Range.size,Nat.sub_zero,Nat.add_sub_cancel,Nat.div_one,hr,List.forIn_cons,List.forIn_nil,Zaa]
 by_cases h1:a.a=b.a<;>by_cases h2:a.b=b.b<;>by_cases h3:a.c=b.c<;>by_cases h4:a.d=b.d<;>simp[p1,p2,p3,p4,eq3,Zaa,Zac,h1,h2,h3,h4]at hq ⊢<;>exact hq
end
end Go.Proofs
end
section
open Go Go.LL
namespace Go.Proofs
theorem qLsL0 {G:Prop} (h:G:=by
  rw[this]
  refine Zgz fun Q g H hq=>?_
  have hg':P.toProgram.eqGuardType P.toProgram.depth t=false:=by rw[Tz.prog (P:=P)];exact hg
  rw[Zaa]
  unfold eqGuard
  simp only[Zaa,Zac,Bool.not_true,Bool.false_eq_true,if_false]
  rw[ZaU,ZaU,hg']
  simp only[Bool.not_false,if_true,Zac]
  exact Zaa.2 (hE _ _ _ hq)):G:=h
def eqGB (p:Program)(t:TypeId):Bool:=p.eqGuardType p.depth t
theorem g70:eqGB Tryz.prog 70=false:=by kernel_rfl
theorem g49:eqGB Tryz.prog 49=false:=by kernel_rfl
section
variable  {P:Prg}[Tz P]{H:Hp}{d:Option Nat}{next:NSt->Hp->Prop}{σ:NSt}{x y:Operand}{ty t2:TypeId}{v:Value}
theorem om_eqS {t:TypeId}{xs ys:Array Value}{b:Bool}(hg:eqGB Tryz.prog t=false)(hE:∀ (Q:Bool->Bool->Hp->Prop) (g:Bool) (H:Hp),Q b g H->wpL P.toPQ (Op.equalIn (9998+1+1) t (.agg xs) (.agg ys)) Q g H)(e1:σ.get x=some (.agg xs))(e2:σ.get y=some (.agg ys))(h:next (σ.set d (vb b)) H) :
  (NOp.pur (.binOp .eql t x y t2) ty).m P d next σ H:=by
 refine Zcb (by simp[Op.operands,e1,e2]) ?_ h
 have:execOp (fun x=>(σ.get x).getD undef) (bare (.binOp .eql t x y t2) ty)=(do let v <-(do eqGuard .eql t x y (.agg xs) (.agg ys);binOp .eql t (.agg xs) (.agg ys));pure (.value v)):=by simp[execOp,bare,e1,e2]
 exact qLsL0
theorem Zl8 {t:TypeId}{xs ys:Array Value}{b:Bool}(hg:eqGB Tryz.prog t=false)(hE:∀ (Q:Bool->Bool->Hp->Prop) (g:Bool) (H:Hp),Q b g H->wpL P.toPQ (Op.equalIn (9998+1+1) t (.agg xs) (.agg ys)) Q g H)(e1:σ.get x=some (.agg xs))(e2:σ.get y=some (.agg ys))(h:next (σ.set d (vb !b)) H) :
  (NOp.pur (.binOp .neq t x y t2) ty).m P d next σ H:=by
 refine Zcb (by simp[Op.operands,e1,e2]) ?_ h
 have:execOp (fun x=>(σ.get x).getD undef) (bare (.binOp .neq t x y t2) ty)=(do let v <-(do eqGuard .neq t x y (.agg xs) (.agg ys);binOp .neq t (.agg xs) (.agg ys));pure (.value v)):=by simp[execOp,bare,e1,e2]
 exact qLsL0
theorem Ziw {t e:TypeId}{len sz by_ hi:Nat}{zv:Value}{a:Addr}{k:IntKind}{hx:Option Operand}(hu:P.toProgram.underlying t=some (.array len e))(ti:TI P.toProgram e sz zv by_)(hlen:0<len)(e1:σ.get x=some (.pointer (some a)))(e3:(hx=none∧hi=len)∨∃ z,hx=some z∧σ.get z=some (.int k (hi:Int)))(hhi:hi<=len)
  (h:next (σ.set d (.slice (some a) hi len)) H):(NOp.pur (.slice t x none hx none) ty).m P d next σ H:=by
 obtain⟨inf,i1,i2,i3,i4⟩:=ti.ex
 have hc2:(0:Int)<=(hi:Int)∧(hi:Int)<=(len:Nat):=⟨by omega,by omega⟩
 have ha:a.add (0 * sz)=a:=by rw[Nat.zero_mul];rfl
 have hne:¬ len=0:=by omega
 rcases e3 with ⟨rfl,rfl⟩ | ⟨z,rfl,e3⟩
 ·refine Zcb (by simp[Op.operands,e1]) ?_ h
  have:execOp (fun x=>(σ.get x).getD undef) (bare (.slice t x none none none) ty)=(do let v <-Instr.sliceAt t (.pointer (some a)) none none none;pure (.value v)):=by simp[execOp,bare,e1]
  rw[this]
  refine Zgz fun Q g H hq=>?_
  simp only[Instr.sliceAt,Zaa,Zad hu,Instr.sureAddr,Instr.sliceBounds,Zac,Zap i1,i2,ha,if_neg hne,Nat.sub_zero]
  exact hq
 ·refine Zcb (by simp[Op.operands,e1,e3]) ?_ h
  have:execOp (fun x=>(σ.get x).getD undef) (bare (.slice t x none (some z) none) ty)=(do let v <-Instr.sliceAt t (.pointer (some a)) none (some (.int k (hi:Int))) none;pure (.value v)):=by simp[execOp,bare,e1,e3]
  rw[this]
  refine Zgz fun Q g H hq=>?_
  simp only[Instr.sliceAt,Zaa,Zad hu,Instr.sureAddr,Instr.sliceBounds,Instr.sliceBound,asIntOf,Zac,if_pos hc2,Zap i1,i2,ha,if_neg hne,Nat.sub_zero,Int.toNat_natCast]
  exact hq
theorem om_copy {sT sT' E T E2:TypeId}{by_ r dl dc:Nat}{zv w:Value}{l:List Int}{cs:List Value}(hu:P.toProgram.underlying sT=some (.slice E))(ti:TI P.toProgram E 1 zv by_)(e1:σ.get x=some (.slice (some ⟨r,0,none⟩) dl dc))(e2:σ.get y=some w)(hw:SlAt H w l)(hl:l.length<=dl)(hc:dl=cs.length)(hb:H r=some (.cells cs.toArray E2 (0,0),true))(hst:P.still H.gh=false)
  (h:next (σ.set d (vi l.length)) (H.ins r (.cells (l.map vi++cs.drop l.length).toArray E2))):(NOp.raw (.call { callee:=.builtin .copy,args:=#[x,y],argTypes:=#[sT,sT'] }) T).m P d next σ H:=by
 obtain⟨inf,i1,i2,i3,i4⟩:=ti.ex
 refine Zbf (s:=Builtin.copy_ #[sT,sT'] T #[.slice (some ⟨r,0,none⟩) dl dc,w]) (by simp[Op.operands,Call.operands,e1,e2]) (by simp[execOp,bare,resolve,invoke,builtin,e1,e2]) ?_
 obtain⟨A,c,rfl,hh⟩:=hw
 have hmin:Nat.min l.length dl=l.length:=Nat.min_eq_left hl
 simp only[Builtin.copy_,List.getElem?_toArray,List.getElem?_cons_zero,List.getElem?_cons_succ,Zaa,Zad hu,Builtin.lenOf,Zac,hmin,Zap i1,i2]
 have hfirst:∀ (Q:Array Value->Bool->Hp->Prop),Q (l.map vi).toArray false H->wpL P.toPQ (Builtin.firstCells 1 l.length (.slice A l.length c)) Q false H:=by
  intro Q hq
  by_cases hn:l=[]
  ·subst hn
   cases A<;>simpa[Builtin.firstCells,Zac,loadCells,loadCellsFrom]using hq
  ·obtain⟨a,rfl,hca⟩:=hh hn
   rw[Zbz]at hca
   simp only[Builtin.firstCells]
   exact ZdR hst hca hq (by simp)
 refine hfirst _ ?_
 refine Zbt _ _ (l.map vi) 0 0 cs H hst hb (by simp[Value.isOne]) (by simp;omega) ?_
 simpa[goInt]using h
end
end Go.Proofs
end
section
open Go Go.LL
namespace Go.Proofs
theorem Zbc {H:Hp}{r:Nat}{o o':Obj}:(H.ins r o).ins r o'=H.ins r o':=by
 refine Hp.ext' (fun c=>?_) rfl
 by_cases e:c=r
 ·subst e;rw[Hp.ins_same,Hp.ins_same]
 ·rw[Hp.ins_other _ _ e,Hp.ins_other _ _ e,Hp.ins_other _ _ e]
theorem Zar {H:Hp}{r:Nat}{cs:List Value}{E:TypeId}:CellsAt (H.ins r (.cells cs.toArray E)) ⟨r,0,none⟩ cs:=⟨rfl,_,_,Hp.ins_same _ _ _,fun j hj=>by simp[Obj.at?]⟩
def n4of (l:List Int):N4:=.of fun i=>l.getD i 0
def Zbw (b:Bk)(l:List Int)(lo hi:Int):Int:=if l.length≠b.pts.length then 2 else if l.all (fun n=>decide (lo<=n∧n<=hi)) then 0 else 1
def ZgD (b:Bk)(x:Boat):Bool:=decide (lowF b (Zas b x)<=Zfc b (Zas b x))
def Boat.slipped (x:Boat):Bool:=!decide (x.bf=0∧x.by_=0)
section
variable  {P:Prg}[Tz P]{H:Hp}
set_option maxHeartbeats 400000
theorem one1_ok (n lo hi:Int){r1 r2:Nat}(h1:CellsAt H ⟨r1,0,none⟩ [vi lo])(h2:CellsAt H ⟨r2,0,none⟩ [vi hi])(hst:P.still H.gh=false):LL.Zag P 173 #[vi n,.pointer (some ⟨r1,0,none⟩),.pointer (some ⟨r2,0,none⟩)] H fun v H'=>H=H'∧v=vb (!decide (lo<=n∧n<=hi)):=by
 refine IsN.m (isn c173) (args:=[vi n,.pointer (some ⟨r1,0,none⟩),.pointer (some ⟨r2,0,none⟩)]) rfl ?_
 unfold n173
 refine wkT ?_
 refine Zaf hst rfl h1 ?_
 refine wkT ?_
 refine Zaf hst rfl h2 ?_
 refine wkT ?_
 refine Zab (vs:=[vi n,vi lo,vi hi]) rfl (Zby _ _ _) ?_
 rintro v _ ⟨rfl,rfl⟩
 refine wkT ?_
 exact⟨rfl,rfl⟩
theorem one_ok {bv v:Value}{b:Bk}{l:List Int}(lo hi:Int)(hb:BkAt H bv b)(hs:SlAt H v l)(hl:l.length<=1000000)(hst:P.still H.gh=false):LL.Zag P 131 #[bv,v,vi lo,vi hi] H fun v H'=>H.Sub H'∧v=vi (Zbw b l lo hi):=by
 obtain⟨pv,cv,rfl,hp,hc⟩:=hb
 refine IsN.m (isn c131) (args:=[.agg #[vi b.op,vi b.sl,pv,cv],v,vi lo,vi hi]) rfl ?_
 unfold n131
 refine wkT ?_
 refine ZbY rfl hst fun r1 hr1=>?_
 refine wkT ?_
 refine ZbY rfl hst fun r2 hr2=>?_
 have hst2:∀ o o',P.still ((H.ins r1 o).ins r2 o').gh=false:=fun _ _=>hst
 have hsub:H.Sub ((H.ins r1 (.cells (vi lo).cells 3)).ins r2 (.cells (vi hi).cells 3)):=(ZaM hr1).trans (ZaM hr2)
 refine wkT ?_
 refine Zav (hs.sub hsub) rfl ?_
 refine wkT ?_
 refine Zav (hp.sub hsub) rfl ?_
 refine wkT ?_
 refine wiT (fun h1=>?_) (fun h1=>?_)
 ·refine wkT ?_
  exact⟨hsub,by rw[Zbw,if_pos (by omega)];rfl⟩
 ·refine wkT ?_
  refine Zck rfl rfl ?_
  refine wkT ?_
  refine Zab (vs:=[v,.func (.func 173) #[] #[.pointer (some ⟨r1,0,none⟩),.pointer (some ⟨r2,0,none⟩)]]) rfl (Zet (f:=fun n=>!decide (lo<=n∧n<=hi)) (l:=l) (fun c hcm=>?_) (hs.sub hsub) hl (hst2 _ _)) ?_
  ·exact Zc1 (by kernel_rfl) (one1_ok c lo hi (Zar.inc (Zaj hr2)) Zar (hst2 _ _))
  rintro v _ ⟨rfl,rfl⟩
  refine wkT ?_
  have e:(l.any fun n=>!decide (lo<=n∧n<=hi))=!(l.all fun n=>decide (lo<=n∧n<=hi)):=by rw[List.any_eq_not_all_not];simp
  refine wiT (fun h2=>?_) (fun h2=>?_)
  ·refine wkT ?_
   refine⟨hsub,?_⟩
   rw[e]at h2
   rw[Zbw,if_neg (by omega),if_neg (by simpa using h2)]
   rfl
  ·refine wkT ?_
   refine⟨hsub,?_⟩
   rw[e]at h2
   rw[Zbw,if_neg (by omega),if_pos (by simpa using h2)]
   rfl
theorem Zdj {v:Value}{l:List Int}(hs:SlAt H v l)(hl:l.length<=4)(hst:P.still H.gh=false):LL.Zag P 132 #[v] H fun v H'=>H.Sub H'∧v=numV (n4of l):=by
 refine IsN.m (isn c132) (args:=[v]) rfl ?_
 unfold n132
 refine wkT ?_
 refine Zaw (tif t119) hst fun r hr=>?_
 have hst1:∀ o,P.still (H.ins r o).gh=false:=fun _=>hst
 refine wkT ?_
 refine Ziw (hi:=4) (k:=.i64) (und u119) (tif t3) (by omega) rfl (.inl ⟨rfl,rfl⟩) (by omega) ?_
 refine wkT ?_
 refine om_copy (cs:=[vi 0,vi 0,vi 0,vi 0]) (und u34) (tif t3) rfl rfl (hs.sub (ZaM hr)) hl rfl (Hp.ins_same _ _ _) (hst1 _) ?_
 rw[Zbc]
 have e:l.map vi++[vi 0,vi 0,vi 0,vi 0].drop l.length=(n4of l).cells:=by
  match l,hl with
  | [],_=>rfl
  | [a],_=>rfl
  | [a,b],_=>rfl
  | [a,b,c],_=>rfl
  | [a,b,c,d],_=>rfl
  | a :: b :: c :: d :: e :: l,h=>simp at h
 rw[e]
 refine wkT ?_
 refine Zao (hst1 _) rfl Zar rfl ?_
 refine wkT ?_
 exact⟨ZaM hr,rfl⟩
theorem list_ok {bv:Value}{b:Bk}{n:N4}(hb:BkAt H bv b)(hle:b.pts.length<=4)(h1:1<=b.pts.length)(hst:P.still H.gh=false):LL.Zag P 138 #[bv,numV n] H fun v H'=>H.Sub H'∧∃ bb,Own H H' 3 v (n.list.take b.pts.length) bb:=by
 obtain⟨pv,cv,rfl,hp,hc⟩:=hb
 refine IsN.m (isn c138) (args:=[.agg #[vi b.op,vi b.sl,pv,cv],numV n]) rfl ?_
 unfold n138
 refine wkT ?_
 refine ZbY rfl hst fun r hr=>?_
 have hst1:∀ o,P.still (H.ins r o).gh=false:=fun _=>hst
 refine wkT ?_
 refine Zav (hp.sub (ZaM hr)) rfl ?_
 refine wkT ?_
 refine Ziw (hi:=b.pts.length) (k:=.i64) (und u119) (tif t3) (by omega) rfl (.inr ⟨_,rfl,rfl⟩) (by omega) ?_
 refine wkT ?_
 have hlen:(n.list.take b.pts.length).length=b.pts.length:=by simp[N4.list];omega
 have hcl:CellsAt (H.ins r (.cells (numV n).cells 119)) ⟨r,0,none⟩ (encs (n.list.take b.pts.length)):=by
  refine⟨rfl,_,_,Hp.ins_same _ _ _,fun j hj=>?_⟩
  rw[Zbz]at hj ⊢
  simp only[List.length_map,hlen]at hj
  rw[List.getElem?_map,List.getElem?_take,if_pos hj]
  show (#[vi n.a,vi n.b,vi n.c,vi n.d]:Array Value)[0+j]? = Option.map vi [n.a,n.b,n.c,n.d][j]?
  match j,(show j<4 by omega) with
  | 0,_=>rfl
  | 1,_=>rfl
  | 2,_=>rfl
  | 3,_=>rfl
 refine Zab (vs:=[.slice (some ⟨r,0,none⟩) b.pts.length 4]) rfl (ZjL (l:=n.list.take b.pts.length) ⟨_,4,by rw[hlen],fun _=>⟨_,rfl,hcl⟩⟩ (by omega) (hst1 _)) ?_
 rintro v H2 ⟨hs2,h | ⟨bb,h⟩⟩
 ·rw[h.1]at hlen;simp at hlen;omega
 ·refine wkT ?_
  exact⟨(ZaM hr).trans hs2,bb,h.own,fun q e=>by
   have:=h.fresh q e
   cases hh:H q with
   | none=>rfl
   | some y=>rw[(ZaM hr).mem q y hh]at this;simp at this⟩
theorem ZmJ {bv:Value}{b:Bk}{x:Boat}(hb:BkAt H bv b)(ok:BkOk b)(okx:BtOk x)(h1:1<=b.pts.length)(okp:PtsOk b)(hg:(Zas b x).Sm)(hst:P.still H.gh=false):LL.Zag P 103 #[bv,ZaJ x] H fun v H'=>H.Sub H'∧v=vb (ZgD b x):=by
 have hb0:=hb
 obtain⟨pv,cv,rfl,hp,hc⟩:=hb
 refine IsN.m (isn c103) (args:=[.agg #[vi b.op,vi b.sl,pv,cv],ZaJ x]) rfl ?_
 unfold n103
 refine wkT ?_
 refine Zab (vs:=[.agg #[vi b.op,vi b.sl,pv,cv],ZaJ x]) rfl (Zdn hb0 ok okx hst) ?_
 rintro v _ ⟨rfl,rfl⟩
 refine wkT ?_
 refine Zab (vs:=[.agg #[vi b.op,vi b.sl,pv,cv],numV (Zas b x)]) rfl (Zd0 hb0 ok.le h1 okp hg hst) ?_
 rintro v H2 ⟨hs2,rfl⟩
 have hst2:P.still H2.gh=false:=by rw[hs2.gh];exact hst
 refine kp_w hs2.gh ?_
 refine wkT ?_
 exact⟨hs2,rfl⟩
theorem ZgK {x:Boat}(hst:P.still H.gh=false):LL.Zag P 92 #[ZaJ x] H fun v H'=>H=H'∧v=vb x.slipped:=by
 refine IsN.m (isn c92) (args:=[ZaJ x]) rfl ?_
 unfold n92
 refine wkT ?_
 refine Zl8 (xs:=#[vi x.bf,vi x.by_]) (ys:=#[vi 0,vi 0]) g70 (fun Q g H hq=>eqP (.inl s70) Q hq) rfl rfl ?_
 refine wkT ?_
 exact⟨rfl,rfl⟩
theorem whole_ok {bv:Value}(hst:P.still H.gh=false):LL.Zag P 90 #[bv] H fun v H'=>H=H'∧v=vb true:=by
 refine IsN.m (isn c90) (args:=[bv]) rfl ?_
 unfold n90
 refine wkT ?_
 exact⟨rfl,rfl⟩
end
end Go.Proofs
end
section
open Go Go.LL
namespace Go.Proofs
def JG (G:Hp)(A:Hp->Prop)(H:Hp):Prop:=∃ Hc F:Hp,H=Hc.join F∧Hc.Comp F∧Inc G F∧A Hc
theorem JG.up {G:Hp}{A:Hp->Prop}{H:Hp}(hA:Up A)(h:JG G A H):A H:=by
 obtain⟨Hc,F,rfl,h1,_,h3⟩:=h
 exact hA _ _ h1 h3
theorem JG.inc {G:Hp}{A:Hp->Prop}{H:Hp}(h:JG G A H):Inc G H:=by
 obtain⟨Hc,F,rfl,h1,h2,_⟩:=h
 exact fun b x hb=>Hp.join_right h1 (h2 b x hb)
theorem JG.of {G:Hp}{A B:Hp->Prop}{H:Hp}(h:JG G A H)(hB:∀ Hc,A Hc->B Hc){G':Hp}(hG:Inc G' G):JG G' B H:=by
 obtain⟨Hc,F,rfl,h1,h2,h3⟩:=h
 exact⟨Hc,F,rfl,h1,hG.trans h2,hB _ h3⟩
theorem JG.new {G:Hp}{A:Hp->Prop}{H:Hp}(h:JG G A H){r:Nat}(o:Obj)(hr:H r=none):JG (G.ins r o) A (H.ins r o):=by
 obtain⟨Hc,F,rfl,h1,h2,h3⟩:=h
 obtain⟨c1,c2⟩:=Hp.join_none.1 hr
 refine⟨Hc,F.ins r o,(Hp.join_ins c1).symm,⟨fun b x y hx hy=>?_,h1.gh⟩,fun b x hb=>?_,h3⟩
 ·by_cases e:b=r
  ·subst e;rw[c1]at hx;simp at hx
  ·rw[Hp.ins_other _ _ e]at hy;exact h1.mem b x y hx hy
 ·by_cases e:b=r
  ·subst e;rw[Hp.ins_same]at hb ⊢;exact hb
  ·rw[Hp.ins_other _ _ e]at hb ⊢;exact h2 b x hb
theorem JG.put {G:Hp}{A:Hp->Prop}{H:Hp}(h:JG G A H){r:Nat}{o:Obj}(o':Obj)(hr:G r=some (o,true)):JG (G.ins r o') A (H.ins r o'):=by
 obtain⟨Hc,F,rfl,h1,h2,h3⟩:=h
 have c2:=h2 r _ hr
 have c1:Hc r=none:=by
  cases hh:Hc r with
  | none=>rfl
  | some x=>have:=h1.mem r x _ hh c2;rw[this.1]at this;simp at this
 refine⟨Hc,F.ins r o',(Hp.join_ins c1).symm,⟨fun b x y hx hy=>?_,h1.gh⟩,fun b x hb=>?_,h3⟩
 ·by_cases e:b=r
  ·subst e;rw[c1]at hx;simp at hx
  ·rw[Hp.ins_other _ _ e]at hy;exact h1.mem b x y hx hy
 ·by_cases e:b=r
  ·subst e;rw[Hp.ins_same]at hb ⊢;exact hb
  ·rw[Hp.ins_other _ _ e]at hb ⊢;exact h2 b x hb
theorem JG.sub {G:Hp}{A:Hp->Prop}{H H':Hp}(h:JG G A H)(hs:H.Sub H'):JG G A H':=by
 classical
 obtain⟨Hc,F,rfl,h1,h2,h3⟩:=h
 refine⟨Hc,⟨fun b=>if F b=none then (if Hc b=none then H' b else none) else F b,F.gh⟩,Hp.ext' (fun b=>?_) ?_,⟨fun b x y hx hy=>?_,h1.gh⟩,fun b x hb=>?_,h3⟩
 ·show H' b=_
  simp only[Hp.join_at]
  cases hc:Hc b with
  | some x=>exact hs.mem b x (Hp.join_left hc)
  | none=>
   cases hf:F b with
   | none=>simp
   | some y=>simp;exact hs.mem b y (by simp[Hp.join_at,hc,hf])
 ·rw[hs.gh];rfl
 ·have hy:(if F b=none then (if Hc b=none then H' b else none) else F b)=some y:=hy
  rw[hx]at hy
  cases hf:F b with
  | none=>simp[hf]at hy
  | some z=>simp[hf]at hy;subst hy;exact h1.mem b x z hx hf
 ·show (if F b=none then (if Hc b=none then H' b else none) else F b)=some x
  rw[h2 b x hb];simp
theorem JG.call {P:Prg}{y:Value}{args:Array Value}{G:Hp}{A:Hp->Prop}{B:Value->Hp->Prop}{H:Hp}(hy:∀ H,A H->CallV P y args H B)(h:JG G A H):CallV P y args H (fun v H'=>JG G (B v) H'):=by
 obtain⟨Hc,F,rfl,h1,h2,h3⟩:=h
 refine((hy Hc h3).frame h1).mono ?_
 rintro v H' ⟨H'',rfl,h4,h5⟩
 exact⟨H'',F,rfl,h4,h2,h5⟩
theorem JG.closed {G:Hp}{A:Hp->Prop}:Up (JG G A):=by
 rintro H J hc ⟨Hc,F,rfl,h1,h2,h3⟩
 exact⟨Hc,F.join J,Hp.join_assoc _ _ _,h1.join_r hc.of_join_left,h2.trans (ZaY F J),h3⟩
theorem ZjN {xs rest:List (List Value)}{I:Nat->Hp->Prop}(hI:∀ n,Up (I n)):Up (Seq xs I rest):=by
 rintro H J hc ⟨p,h1,h2,h3⟩
 exact⟨p,h1,h2,hI p H J hc h3⟩
theorem ZbA {H:Hp}{a:Addr}{cs:List Value}(h:CellsAt H a cs){j:Nat}{v:Value}(hj:cs[j]? = some v):CellsAt H (a.add j) [v]:=by
 obtain⟨h1,o,p,h2,h3⟩:=h
 have hl:j<cs.length:=(List.getElem?_eq_some_iff.1 hj).1
 refine⟨Zds h1 _,o,p,by rw[ZbM];exact h2,fun k hk=>?_⟩
 have:k=0:=by simpa using hk
 subst this
 rw[Zc3,Nat.add_zero,h3 j hl,hj]
 rfl
def spanR (f:Int->List Boat)(hi:Int):Nat->List Boat
 | 0=>[]
 | c+1=>f (hi-c)++spanR f hi c
def ptAt (b:Bk)(i:Nat):SPt:=b.pts.getD i ⟨0,0,0,0,0⟩
def boatsFrom (b:Bk):Nat->N4->List Boat
 | 0,m=>((ZaC b).map fun k=>(⟨m,k.bf,k.by_⟩:Boat)).filter (ZgQ b)
 | r+1,m=>spanR (fun v=>boatsFrom b r (m.put (b.pts.length-(r+1)) v)) (ptAt b (b.pts.length-(r+1))).mh ((ptAt b (b.pts.length-(r+1))).mh-(ptAt b (b.pts.length-(r+1))).ml+1).toNat
def Zae (b:Bk):List Boat:=boatsFrom b b.pts.length ⟨0,0,0,0⟩
def Zff (x:Boat):List Value:=[ZaJ x]
end Go.Proofs
end
