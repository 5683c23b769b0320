import Derived.Test.YthmnpenamnoniaaGreatDoorP02
import Derived.Test.YthmnpenamnoniaaGreatDoorP07
import Derived.Test.YthmnpenamnoniaaGreatDoorP09
set_option linter.all false
section
namespace Go.LL
structure TI (p:Program)(t:TypeId)(sz:Nat)(z:Value)(by_:Nat):Prop where
 ex:∃ i,p.info? t=some i∧i.size=sz∧i.zero=some z∧i.bytes=by_
def tiOf (p:Program)(t:TypeId):Option (Nat×Option Value×Nat):=(p.info? t).map fun i=>(i.size,i.zero,i.bytes)
theorem ti_of {p:Program}{t:TypeId}{sz:Nat}{z:Value}{b:Nat}(h:tiOf p t=some (sz,some z,b)):TI p t sz z b:=by
 unfold tiOf at h
 rw[Option.map_eq_some_iff]at h
 obtain⟨i,h1,h2⟩:=h
 simp only[Prod.mk.injEq]at h2
 exact⟨i,h1,h2.1,h2.2.1,h2.2.2⟩
section
variable  {P:Prg}{d:Option Nat}{next:NSt->Hp->Prop}{σ:NSt}{H:Hp}{x y z:Operand}{v:Value}{ty:TypeId}
theorem Zbe {o:Op}(ha:(o.operands.all fun x=>(σ.get x).isSome)=true){s:Sem Value}(e:execOp (fun x=>(σ.get x).getD undef) (bare o ty)=(do let v <-s;pure (.value v)))(h:wpL P s (fun v _ H'=>next (σ.set d v) H') false H):(NOp.raw o ty).m P d next σ H:=by
 refine⟨ha,.inl ?_⟩
 rw[e,Zaa]
 exact Za2 (fun v g H h=>(.inr h:_∨_)) h
theorem Zje {o:Op}(ha:(o.operands.all fun x=>(σ.get x).isSome)=true){s:Sem Unit}(e:execOp (fun x=>(σ.get x).getD undef) (bare o ty)=(do s;pure .skip))(h:wpL P s (fun _ _ H'=>next (σ.set d undef) H') false H):(NOp.raw o ty).m P d next σ H:=by
 refine⟨ha,.inl ?_⟩
 rw[e,Zaa]
 exact Za2 (fun v g H h=>(.inr h:_∨_)) h
theorem ZkV {x:Operand}{xs:Array Operand}{ts:Array TypeId}{v:Value}{vs:List Value}(e:σ.get x=some v)(ha:σ.gets xs.toList=some vs):((Op.call { callee:=.value x,args:=xs,argTypes:=ts }).operands.all fun x=>(σ.get x).isSome)=true:=by
 have h2:=(Zb3 ha).2
 rw[Array.all_eq_true_iff_forall_mem]
 intro y hy
 simp only[Op.operands,Call.operands]at hy
 simp only[List.all_eq_true]at h2
 simp only[List.cons_append,List.nil_append,Array.mem_append,List.mem_toArray,List.mem_singleton,Array.mem_toList_iff]at hy h2
 rcases hy with rfl | hy
 ·rw[e];rfl
 ·exact h2 y hy
theorem ZaP {xs:Array Operand}{ts:Array TypeId}{fv:Value}{vs:List Value}{Post:Value->Hp->Prop}(e:σ.get x=some fv)(ha:σ.gets xs.toList=some vs)(h:CallV P fv vs.toArray H Post)(hn:∀ v H',Post v H'->next (σ.set d v) H') :
  (NOp.raw (.call { callee:=.value x,args:=xs,argTypes:=ts }) ty).m P d next σ H:=by
 refine⟨ZkV e ha,.inl ?_⟩
 have hm:xs.map (fun x=>(σ.get x).getD undef)=vs.toArray:=by
  obtain⟨xs⟩:=xs
  simp only[List.map_toArray]
  rw[(Zb3 ha).1]
 have he:execOp (fun x=>(σ.get x).getD undef) (bare (.call { callee:=.value x,args:=xs,argTypes:=ts }) ty)=ZiT fv vs.toArray:=by
  simp only[execOp,bare,resolve,hm,ZiT,e,Option.getD_some]
 rw[he]
 refine Za2 ?_ h
 rintro n g H' (hg | hh)
 ·exact .inl hg
 ·refine .inr ?_
  cases n with
  | value v=>exact hn _ _ hh
  | skip=>exact hn _ _ hh
  | enter f args=>exact Zag.mono hh hn
  | round l f tmps as bd=>exact ZdM.mono hh hn
  | _=>exact hh.elim
theorem Zde {t e:TypeId}{len esz:Nat}{zv:Value}{b:Nat}{k:IntKind}{i:Nat}{cs:Array Value}(hu:P.toProgram.underlying t=some (.array len e))(ti:TI P.toProgram e esz zv b)(hag:Zb5 P.toProgram e=some none)(e1:σ.get x=some (.agg cs))(e2:σ.get y=some (.int k (i:Int)))(hi:i<len)(he:cs[i * esz]? = some v)
  (h:next (σ.set d v) H):(NOp.raw (.index t x y) ty).m P d next σ H:=by
 obtain⟨inf,i1,i2,i3,i4⟩:=ti.ex
 refine Zbe (by simp[Op.operands,e1,e2]) (s:=Instr.index t (.agg cs) (.int k (i:Int))) (by simp[execOp,bare,e1,e2]) ?_
 have hc:(0:Int)<=(i:Int)∧(i:Int)<(len:Nat):=⟨by omega,by omega⟩
 simp only[Instr.index,Zaa,asIntOf,Zac,Zad hu,if_pos hc,Zap i1,part,ZbL hag,i2,Int.toNat_natCast,he,Bool.false_eq_true,if_false]
 exact h
def OwnS (H:Hp)(E:TypeId)(esz:Nat)(v:Value)(cs:List Value)(n:Nat)(b:Option Nat):Prop:=
 cs.length=n * esz∧((v=.slice none 0 0∧n=0∧b=none)∨∃ r cap rest,b=some r∧v=.slice (some ⟨r,0,none⟩) n cap∧H r=some (.cells (cs++rest).toArray E (0,0),true)∧(cs++rest).length=cap * esz∧n<=cap)
theorem OwnS.nil (H:Hp)(E:TypeId)(esz:Nat):OwnS H E esz (.slice none 0 0) [] 0 none:=⟨by simp,.inl ⟨rfl,rfl,rfl⟩⟩
structure Chg (H H':Hp)(b b':Option Nat):Prop where
 gh:H'.gh=H.gh
 keep:∀ c y,H c=some y->b≠some c->H' c=some y
 new:b'=b∨∃ r,b'=some r∧H r=none
theorem OwnS.sub {H H':Hp}{E:TypeId}{esz:Nat}{v:Value}{cs:List Value}{n:Nat}{b:Option Nat}(h:OwnS H E esz v cs n b)(hs:∀ c y,b=some c->H c=some y->H' c=some y):OwnS H' E esz v cs n b:=by
 obtain⟨h0,h⟩:=h
 refine⟨h0,h.imp id ?_⟩
 rintro⟨r,cap,rest,h1,h2,h3,h4⟩
 exact⟨r,cap,rest,h1,h2,hs r _ h1 h3,h4⟩
theorem OwnS.cells {H:Hp}{E:TypeId}{esz:Nat}{v:Value}{cs:List Value}{n:Nat}{b:Option Nat}(h:OwnS H E esz v cs n b):∃ A c,v=.slice A n c∧(n≠0->∃ a,A=some a∧CellsAt H a cs):=by
 obtain⟨h0,⟨h1,h2,h3⟩ | ⟨r,cap,rest,h1,h2,h3,h4,h5⟩⟩:=h
 ·subst h2
  exact⟨none,0,h1,fun h=>absurd rfl h⟩
 ·refine⟨some ⟨r,0,none⟩,cap,h2,fun _=>⟨_,rfl,rfl,_,_,h3,fun j hj=>?_⟩⟩
  simp only[Obj.at?,Nat.zero_add,List.getElem?_toArray]
  rw[List.getElem?_append_left hj]
theorem ZiK (n:Nat):∀ (r c:Nat),Builtin.growBy n r c<=max c (n+(n+768) / 4)
 | 0,c=>by unfold Builtin.growBy;omega
 | r+1,c=>by
  unfold Builtin.growBy
  split
  ·omega
  ·have:=ZiK n r (c+(c+768) / 4)
   omega
theorem ZkX {need old:Nat}(h:old<need):Builtin.nextslicecap need old<=2 * need+200:=by
 unfold Builtin.nextslicecap
 split
 ·omega
 ·split
  ·omega
  ·have:=ZiK need 4 old
   omega
theorem ZdP {P:PQ}{a:Addr}{cs:List Value}{H:Hp}(hst:P.still H.gh=false)(hc:CellsAt H a cs){Q:Array Value->Bool->Hp->Prop}{g:Bool}(hq:Q cs.toArray g H){n:Nat}(hn:cs.length=n):wpL P (loadCells a n) Q g H:=by
 obtain⟨h1,o,p,h2,h3⟩:=hc
 subst hn
 unfold loadCells
 exact ZaZ hst h2 h1 Q g cs 0 #[] (fun j hj=>by rw[Nat.zero_add];exact h3 j hj) (by simpa using hq)
theorem Zhi (zero:Array Value)(n:Nat):(Builtin.zeroCells zero n).size=n * zero.size:=by simp[Builtin.zeroCells]
theorem append_w {sT E T:TypeId}{esz by_ n m:Nat}{zv s w:Value}{cs xs:List Value}{b:Option Nat}(hu:P.toProgram.underlying sT=some (.slice E))(ti:TI P.toProgram E esz zv by_)(hz:zv.cells.size=esz)(he:0<esz)
  (ho:OwnS H E esz s cs n b) (hw:(m=0∧∃ A c,w=.slice A 0 c)∨∃ a c,w=.slice (some a) m c∧CellsAt H a xs) (hl:xs.length=m * esz) (h1:(xs.all Value.isOne)=true) (hb1:n+m<=1000000000) (hb2:by_<=1000) (hst:P.still H.gh=false)
  {K:Value->Hp->Prop} (h:∀ v' H' b',OwnS H' E esz v' (cs++xs) (n+m) b'->Chg H H' b b'->K v' H'):wpL P (Builtin.append_ #[sT,sT] T #[s,w]) (fun v _ H'=>K v H') false H:=by
 obtain⟨inf,i1,i2,i3,i4⟩:=ti.ex
 obtain⟨h0,hcase⟩:=ho
 have hlen:∀ Q g,Q m g H->wpL P (Builtin.lenOf w) Q g H:=by
  intro Q g hq
  rcases hw with ⟨rfl,A,c,rfl⟩ | ⟨a,c,rfl,_⟩<;>simpa[Builtin.lenOf,Zac]using hq
 have hfirst:∀ (Q:Array Value->Bool->Hp->Prop) g,Q xs.toArray g H->wpL P (Builtin.firstCells esz m w) Q g H:=by
  intro Q g hq
  rcases hw with ⟨rfl,A,c,rfl⟩ | ⟨a,c,rfl,hc⟩
  ·have:xs=[]:=List.eq_nil_of_length_eq_zero (by simpa using hl)
   subst this
   cases A<;>simpa[Builtin.firstCells,Zac,loadCells,loadCellsFrom]using hq
  ·simp only[Builtin.firstCells]
   exact ZdP hst hc hq hl
 have main:∀ (base:Option Addr) (cap:Nat),s=.slice base n cap->(n+m<=cap->wpL P (Builtin.firstCells esz m w) (fun new g H1=>match base with | some a=>wpL P (storeCells (a.add (n * esz)) new.toList) (fun _ _ H'=>K (.slice base (n+m) cap) H') g H1 | none=>K (.slice base (n+m) cap) H1) false H) ->
   (cap<n+m->∀ (Q:Array Value->Bool->Hp->Prop) g,Q cs.toArray g H->wpL P (Builtin.firstCells esz n s) Q g H)->(cap<n+m->b=none∨∃ r,b=some r)->wpL P (Builtin.append_ #[sT,sT] T #[s,w]) (fun v _ H'=>K v H') false H:=by
  intro base cap hs hroom hold hb
  have hzeros:((TypeDesc.slice E) matches .int _)=false:=rfl
  simp only[Builtin.append_,List.getElem?_toArray,List.getElem?_cons_zero,List.getElem?_cons_succ,Zaa,Zad hu,hs,Zap i1,i2,Zac,Bool.false_eq_true,if_false]
  refine hlen _ _ ?_
  simp only[Bool.not_false,if_true]
  by_cases hle:n+m<=cap
  ·rw[if_pos hle]
   have:=hroom hle
   cases base<;>simpa only[Zaa,Zac]using this
  ·rw[if_neg hle]
   simp only[Zaa,ZbP i1,i4]
   rw[if_neg (by rintro⟨h,_⟩;simp[IntKind.max,IntKind.bits,IntKind.signed]at h;omega)]
   simp only[Zaa,Zac,ZbP i1,i4]
   have hcap:¬ Builtin.nextslicecap (n+m) cap * by_ > 2 ^ 48:=by
    have h1:=ZkX (need:=n+m) (old:=cap) (by omega)
    have h2:Builtin.nextslicecap (n+m) cap * by_<=(2 * (n+m)+200) * 1000:=Nat.mul_le_mul h1 hb2
    omega
   rw[if_neg hcap]
   simp only[Zaa,Zac,choose]
   rw[wpL]
   simp only[Question.forced,Bool.false_eq_true,if_false]
   refine⟨hst,fun t=>?_⟩
   have hcut:n+m<=(Question.appendCap (n+m) cap E).cut t:=by simp only[Question.cut];omega
   generalize (Question.appendCap (n+m) cap E).cut t=nc at hcut
   rw[wpL]
   have hask:∀ (Q:Unit->Bool->Hp->Prop),Q () false H->wpL P (askRoom (nc * by_)) Q false H:=by
    intro Q hq
    unfold askRoom
    split
    ·exact⟨.inr ⟨rfl,hst⟩,hq⟩
    ·exact hq
   rw[ZbP i1,i4]
   refine hask _ ?_
   refine hs ▸ hold (by omega) _ _ ?_
   refine hfirst _ _ ?_
   simp only[Zb0 i1 i3,newRow,Zaa,newObj,Zac]
   refine⟨hst,fun r hr=>?_⟩
   have hcomp:Chg H (H.ins r (.cells (cs.toArray++xs.toArray++Builtin.zeroCells zv.cells (nc-(n+m))) E)) b (some r):=by
    refine⟨rfl,fun c y hc _=>?_,.inr ⟨r,rfl,hr⟩⟩
    rw[Hp.ins_other _ _ (by rintro rfl;rw[hr]at hc;simp at hc)]
    exact hc
   refine h _ _ _ ⟨by rw[List.length_append,h0,hl,Nat.add_mul],.inr ⟨r,nc,(Builtin.zeroCells zv.cells (nc-(n+m))).toList,rfl,rfl,?_,?_,hcut⟩⟩ hcomp
   ·rw[Hp.ins_same]
    simp
   ·simp only[List.length_append,h0,hl,Array.length_toList,Zhi,hz]
    rw[<-Nat.add_mul,<-Nat.add_mul]
    congr 1
    omega
 rcases hcase with ⟨rfl,rfl,rfl⟩ | ⟨r,cap,rest,rfl,rfl,h3,h4,h5⟩
 ·have hcs:cs=[]:=List.eq_nil_of_length_eq_zero (by simpa using h0)
  subst hcs
  refine main none 0 rfl (fun hle=>?_) (fun _ Q g hq=>by simpa[Builtin.firstCells,Zac]using hq) (fun _=>.inl rfl)
  have hm:m=0:=by omega
  subst hm
  have hxs:xs=[]:=List.eq_nil_of_length_eq_zero (by simpa using hl)
  subst hxs
  refine hfirst _ _ ?_
  exact h _ _ none ⟨by simp,.inl ⟨rfl,rfl,rfl⟩⟩ ⟨rfl,fun c y hc _=>hc,.inl rfl⟩
 ·refine main (some ⟨r,0,none⟩) cap rfl (fun hle=>?_) (fun _ Q g hq=>?_) (fun _=>.inr ⟨r,rfl⟩)
  ·refine hfirst _ _ ?_
   show wpL _ _ _ _ _
   have ha:(⟨r,0,none⟩:Addr).add (n * esz)=⟨r,n * esz,none⟩:=by rw[ZdC rfl,Nat.zero_add]
   rw[ha]
   have hfit:n * esz+m * esz<=cap * esz:=by rw[<-Nat.add_mul];exact Nat.mul_le_mul_right _ hle
   rw[List.length_append,h0]at h4
   refine Zbt _ _ xs (n * esz) 0 (cs++rest) H hst h3 h1 (by rw[List.length_append,h0,hl];omega) ?_
   refine h _ _ (some r) ⟨by rw[List.length_append,h0,hl,Nat.add_mul],.inr ⟨r,cap,rest.drop (m * esz),rfl,rfl,?_,?_,hle⟩⟩ ⟨rfl,fun c y hc hne=>?_,.inl rfl⟩
   ·rw[Hp.ins_same]
    have e1:(cs++rest).take (n * esz+0)=cs:=by rw[Nat.add_zero,List.take_append_of_le_length (by omega),List.take_of_length_le (by omega)]
    have e2:(cs++rest).drop (n * esz+0+xs.length)=rest.drop (m * esz):=by
     rw[Nat.add_zero,hl,List.drop_append,List.drop_eq_nil_of_le (by omega),List.nil_append,h0]
     congr 1
     omega
    rw[e1,e2]
   ·simp only[List.length_append,h0,hl,List.length_drop]
    omega
   ·rw[Hp.ins_other _ _ (by rintro rfl;exact hne rfl)]
    exact hc
  ·simp only[Builtin.firstCells]
   refine ZdP (cs:=cs) hst ⟨rfl,_,_,h3,fun j hj=>?_⟩ hq h0
   simp only[Obj.at?,Nat.zero_add,List.getElem?_toArray]
   rw[List.getElem?_append_left hj]
theorem Zdf {sT sT' E T:TypeId}{esz by_ n m:Nat}{zv s w:Value}{cs xs:List Value}{b:Option Nat}(hu:P.toProgram.underlying sT=some (.slice E))(hu':P.toProgram.underlying sT'=some (.slice E))(ti:TI P.toProgram E esz zv by_)(hz:zv.cells.size=esz)(he:0<esz)
  (e1:σ.get x=some s) (e2:σ.get y=some w)
  (ho:OwnS H E esz s cs n b) (hw:(m=0∧∃ A c,w=.slice A 0 c)∨∃ a c,w=.slice (some a) m c∧CellsAt H a xs) (hl:xs.length=m * esz) (h1:(xs.all Value.isOne)=true) (hb1:n+m<=1000000000) (hb2:by_<=1000) (hst:P.still H.gh=false)
  (h:∀ v' H' b',OwnS H' E esz v' (cs++xs) (n+m) b'->Chg H H' b b'->next (σ.set d v') H'):(NOp.raw (.call { callee:=.builtin .append,args:=#[x,y],argTypes:=#[sT,sT'] }) T).m P d next σ H:=by
 refine Zbe (s:=Builtin.append_ #[sT,sT'] T #[s,w]) (by simp[Op.operands,Call.operands,e1,e2]) (by simp[execOp,bare,resolve,invoke,builtin,e1,e2]) ?_
 have:Builtin.append_ #[sT,sT'] T #[s,w]=Builtin.append_ #[sT,sT'] T #[s,w]:=rfl
 have hh:=append_w (T:=T) hu ti hz he ho hw hl h1 hb1 hb2 hst h
 obtain⟨inf,i1,_⟩:=ti.ex
 by_cases e:sT'=sT
 ·rw[e];exact hh
 ·have key:wpL P.toPQ (Builtin.append_ #[sT,sT'] T #[s,w]) (fun v _ H'=>next (σ.set d v) H') false H↔wpL P.toPQ (Builtin.append_ #[sT,sT] T #[s,w]) (fun v _ H'=>next (σ.set d v) H') false H:=by
   simp only[Builtin.append_,List.getElem?_toArray,List.getElem?_cons_zero,List.getElem?_cons_succ,Zaa,Zad hu]
   cases s<;>simp only[Zaa,Zad hu',Zad hu,Zac]
  exact key.2 hh
theorem ZaL {H:Hp}{r:Nat}{o:Obj}(hr:H r=none):H.Sub (H.ins r o):=⟨fun c y hc=>by rw[Hp.ins_other _ _ (by rintro rfl;rw[hr]at hc;simp at hc)];exact hc,rfl⟩
theorem Zav {t:TypeId}{sz by_:Nat}{zv:Value}(ti:TI P.toProgram t sz zv by_)(hst:P.still H.gh=false)(h:∀ r,H r=none->next (σ.set d (.pointer (some ⟨r,0,none⟩))) (H.ins r (.cells zv.cells t))):(NOp.raw (.alloc t) ty).m P d next σ H:=by
 obtain⟨inf,i1,i2,i3,i4⟩:=ti.ex
 refine Zbe (by simp[Op.operands]) (s:=Instr.alloc t true (.tuple #[])) (by simp[execOp,bare]) ?_
 simp only[Instr.alloc,Zaa,Zb0 i1 i3,newVar,newRow,newObj,Zac]
 exact⟨hst,fun r hr=>h r hr⟩
theorem ZbW {t:TypeId}(e:σ.get x=some v)(hst:P.still H.gh=false)(h:∀ r,H r=none->next (σ.set d (.pointer (some ⟨r,0,none⟩))) (H.ins r (.cells v.cells t))):(NOp.raw (.box t x) ty).m P d next σ H:=by
 refine Zbe (by simp[Op.operands,e]) (s:=Instr.box t v) (by simp[execOp,bare,e]) ?_
 simp only[Instr.box,Zaa,newVar,newRow,newObj,Zac]
 exact⟨hst,fun r hr=>h r hr⟩
theorem Zd5 {t E:TypeId}{sz by_ b off:Nat}{zv:Value}{cs:List Value}(ti:TI P.toProgram t sz zv by_)(e1:σ.get x=some (.pointer (some ⟨b,off,none⟩)))(e2:σ.get y=some v)(hb:H b=some (.cells cs.toArray E (0,0),true))(h1:v.cells.size=sz)(h2:off+sz<=cs.length)(h3:(v.cells.toList.all Value.isOne)=true)
  (hst:P.still H.gh=false) (h:next (σ.set d undef) (H.ins b (.cells (ZaM cs off v.cells.toList).toArray E))):(NOp.raw (.store t x y) ty).m P d next σ H:=by
 obtain⟨inf,i1,i2,i3,i4⟩:=ti.ex
 refine Zje (by simp[Op.operands,e1,e2]) (s:=Instr.storeAt t (.pointer (some ⟨b,off,none⟩)) v) (by simp[execOp,bare,e1,e2]) ?_
 have hne:¬ v.cells.size≠sz:=by simp[h1]
 simp only[Instr.storeAt,Instr.sureAddr,storeVar,Zaa,Zac,Zap i1,i2,if_neg hne]
 refine Zbt _ _ v.cells.toList off 0 cs H hst hb h3 (by simp[h1];omega) ?_
 unfold ZaM at h
 exact h
theorem Zaw {t E:TypeId}{by_ b:Nat}{zv v0:Value}(ti:TI P.toProgram t 1 zv by_)(e1:σ.get x=some (.pointer (some ⟨b,0,none⟩)))(e2:σ.get y=some v)(hb:H b=some (.cells #[v0] E (0,0),true))(h1:v.cells=#[v])(h3:Value.isOne v=true)
  (hst:P.still H.gh=false) (h:next (σ.set d undef) (H.ins b (.cells #[v] E))):(NOp.raw (.store t x y) ty).m P d next σ H:=by
 refine Zd5 ti e1 e2 (cs:=[v0]) hb (by rw[h1];rfl) (by simp) (by rw[h1];simpa using h3) hst ?_
 rw[h1]
 exact h
theorem Zay {t E:TypeId}{sz by_ b:Nat}{zv:Value}{cs:List Value}(ti:TI P.toProgram t sz zv by_)(e1:σ.get x=some (.pointer (some ⟨b,0,none⟩)))(e2:σ.get y=some v)(hb:H b=some (.cells cs.toArray E (0,0),true))(h1:v.cells.size=sz)(h2:cs.length=sz)(h3:(v.cells.toList.all Value.isOne)=true)
  (hst:P.still H.gh=false) (h:next (σ.set d undef) (H.ins b (.cells v.cells E))):(NOp.raw (.store t x y) ty).m P d next σ H:=by
 refine Zd5 ti e1 e2 hb h1 (by omega) h3 hst ?_
 have:ZaM cs 0 v.cells.toList=v.cells.toList:=by
  unfold ZaM
  rw[List.take_zero,List.nil_append,List.drop_eq_nil_of_le (by simp;omega),List.append_nil]
 rw[this];exact h
theorem Zdu {t E:TypeId}{sz by_:Nat}{zv:Value}(hu:P.toProgram.underlying t=some (.slice E))(ti:TI P.toProgram E sz zv by_)(hst:P.still H.gh=false)(h:∀ r,H r=none->next (σ.set d (.slice (some ⟨r,0,none⟩) 0 0)) (H.ins r (.cells #[] E))):(NOp.raw (.buildSlice t 0 #[]) ty).m P d next σ H:=by
 obtain⟨inf,i1,i2,i3,i4⟩:=ti.ex
 refine Zbe (by simp[Op.operands]) (s:=Instr.buildSlice t 0 #[]) (by simp[execOp,bare]) ?_
 simp only[Instr.buildSlice,Zaa,Zad hu,Zap i1,Nat.zero_mul,Zac]
 simp only[Instr.fill,newRow,newObj,Zaa,Zac]
 simp
 refine⟨hst,fun r hr=>?_⟩
 have e:(Array.map (fun _=>(default:Value)) (Array.range 0))=#[]:=by simp
 rw[e]
 exact h r hr
theorem own0 {H:Hp}{r:Nat}{E:TypeId}{esz:Nat}:OwnS (H.ins r (.cells #[] E)) E esz (.slice (some ⟨r,0,none⟩) 0 0) [] 0 (some r):=⟨by simp,.inr ⟨r,0,[],rfl,rfl,Hp.ins_same _ _ _,by simp,Nat.le_refl _⟩⟩
theorem Zci {f:Fn}{fs cs:Array Operand}{f1 c1:List Value}(hf:σ.gets fs.toList=some f1)(hc:σ.gets cs.toList=some c1)(h:next (σ.set d (.func f f1.toArray c1.toArray)) H) :
  (NOp.raw (.makeFunc f fs cs) ty).m P d next σ H:=by
 obtain⟨a1,a2⟩:=Zb3 hf
 obtain⟨b1,b2⟩:=Zb3 hc
 have e1:fs.map (fun x=>(σ.get x).getD undef)=f1.toArray:=by
  obtain⟨fs⟩:=fs
  simp only[List.map_toArray]
  rw[a1]
 have e2:cs.map (fun x=>(σ.get x).getD undef)=c1.toArray:=by
  obtain⟨cs⟩:=cs
  simp only[List.map_toArray]
  rw[b1]
 refine Zbe ?_ (s:=Instr.makeFunc f f1.toArray c1.toArray) (by simp[execOp,bare,e1,e2]) h
 simp only[Op.operands,Array.all_append,Bool.and_eq_true]
 exact⟨by rw[<-Array.all_toList];exact a2,by rw[<-Array.all_toList];exact b2⟩
theorem Zgw {P:PQ}{s:Sem Value}{v:Value}(h:∀ (Q:Value->Bool->Hp->Prop) (g:Bool) (H:Hp),Q v g H->wpL P s Q g H):PureVal P (do let v <-s;pure (.value v)) v:=by
 intro Q g H hq
 rw[Zaa]
 exact h _ _ _ hq
theorem om_max {k:IntKind}{m n:Int}{ts:Array TypeId}(e1:σ.get x=some (.int k m))(e2:σ.get y=some (.int k n))(h:next (σ.set d (.int k (max m n))) H):(NOp.pur (.call { callee:=.builtin .max,args:=#[x,y],argTypes:=ts }) ty).m P d next σ H:=by
 have e:(if n > m then n else m)=max m n:=by omega
 refine Zb9 (by simp[Op.operands,Call.operands,e1,e2]) ?_ h
 have:execOp (fun x=>(σ.get x).getD undef) (bare (.call { callee:=.builtin .max,args:=#[x,y],argTypes:=ts }) ty)=(do let v <-Builtin.max_ ts ty #[.int k m,.int k n];pure (.value v)):=by simp[execOp,bare,resolve,invoke,builtin,e1,e2]
 rw[this]
 refine Zgw fun Q g H hq=>?_
 simp only[Builtin.max_,List.foldlM,Builtin.max2,Zaa,Zac,e]
 exact hq
theorem om_min {k:IntKind}{m n:Int}{ts:Array TypeId}(e1:σ.get x=some (.int k m))(e2:σ.get y=some (.int k n))(h:next (σ.set d (.int k (min m n))) H):(NOp.pur (.call { callee:=.builtin .min,args:=#[x,y],argTypes:=ts }) ty).m P d next σ H:=by
 have e:(if n<m then n else m)=min m n:=by omega
 refine Zb9 (by simp[Op.operands,Call.operands,e1,e2]) ?_ h
 have:execOp (fun x=>(σ.get x).getD undef) (bare (.call { callee:=.builtin .min,args:=#[x,y],argTypes:=ts }) ty)=(do let v <-Builtin.min_ ts ty #[.int k m,.int k n];pure (.value v)):=by simp[execOp,bare,resolve,invoke,builtin,e1,e2]
 rw[this]
 refine Zgw fun Q g H hq=>?_
 simp only[Builtin.min_,List.foldlM,Builtin.min2,Zaa,Zac,e]
 exact hq
theorem ZfV {m n:Int}{t t2:TypeId}(e1:σ.get x=some (.int .i64 m))(e2:σ.get y=some (.int .i64 n))(hn:n≠0)(hr:InR (m.tdiv n))(h:next (σ.set d (.int .i64 (m.tdiv n))) H):(NOp.pur (.binOp .quo t x y t2) ty).m P d next σ H:=by
 refine Zb9 (by simp[Op.operands,e1,e2]) ?_ h
 have:execOp (fun x=>(σ.get x).getD undef) (bare (.binOp .quo t x y t2) ty)=pure (.value (.int .i64 (m.tdiv n))):=by simp[execOp,bare,e1,e2,eqGuard,binOp,Op.intDiv,hn,ZbZ hr]
 rw[this]
 exact fun Q g H hq=>hq
theorem ZfW {o:BinOp}{t t2:TypeId}{k:IntKind}{m n:Int}(e1:σ.get x=some (.int k m))(e2:σ.get y=some (.int k n))(ho:o=.and∨o=.or∨o=.xor∨o=.andNot)(hv:(match o with | .xor=>.int k (k.wrap (BitVec.ofInt k.bits m ^^^ BitVec.ofInt k.bits n).toNat) | o=>bitV o k m n)=v)(h:next (σ.set d v) H) :
  (NOp.pur (.binOp o t x y t2) ty).m P d next σ H:=by
 refine Zb9 (by simp[Op.operands,e1,e2]) ?_ h
 subst hv
 rcases ho with rfl | rfl | rfl | rfl<;>(simp only[execOp,bare,e1,e2,Option.getD_some];exact fun Q g H hq=>by simpa[Zaa,Zac,eqGuard,binOp,Op.intBits,bitV]using hq)
theorem Zca {o:BinOp}{t t2:TypeId}{k k2:IntKind}{m n:Int}(e1:σ.get x=some (.int k m))(e2:σ.get y=some (.int k2 n))(ho:o=.shr∨o=.shl)(hn:0<=n)(hv:bitV o k m n=v)(h:next (σ.set d v) H) :
  (NOp.pur (.binOp o t x y t2) ty).m P d next σ H:=by
 refine Zb9 (by simp[Op.operands,e1,e2]) ?_ h
 subst hv
 have:¬ n<0:=by omega
 rcases ho with rfl | rfl<;>(simp only[execOp,bare,e1,e2,Option.getD_some];exact fun Q g H hq=>by simpa[Zaa,Zac,eqGuard,binOp,Op.shift,bitV,this]using hq)
theorem Zch {s t:TypeId}{k k0:IntKind}{m:Int}(hs:P.toProgram.underlying s=some (.int k0))(ht:P.toProgram.underlying t=some (.int k))(e1:σ.get x=some (.int k0 m))(h:next (σ.set d (.int k (k.wrap m))) H):(NOp.pur (.convert s t x) ty).m P d next σ H:=by
 refine Zb9 (by simp[Op.operands,e1]) ?_ h
 have:execOp (fun x=>(σ.get x).getD undef) (bare (.convert s t x) ty)=(do let v <-convert s t (.int k0 m);pure (.value v)):=by simp[execOp,bare,e1]
 rw[this]
 refine Zgw fun Q g H hq=>?_
 simp only[convert,Zaa,Zad hs,Zad ht,Conv.intToInt,Zac]
 exact hq
theorem ZbT {a:Addr}(e:σ.get x=some (.pointer (some a)))(h:next (σ.set d (.pointer (some a))) H):(NOp.pur (.nilCheck x) ty).m P d next σ H:=by
 refine Zb9 (by simp[Op.operands,e]) ?_ h
 have:execOp (fun x=>(σ.get x).getD undef) (bare (.nilCheck x) ty)=pure (.value (.pointer (some a))):=by simp[execOp,bare,e]
 rw[this]
 exact fun Q g H hq=>hq
theorem Zbu {t E:TypeId}{sz by_ len cap lo:Nat}{zv:Value}{a:Option Addr}{k:IntKind}(hu:P.toProgram.underlying t=some (.slice E))(ti:TI P.toProgram E sz zv by_)(e1:σ.get x=some (.slice a len cap))(e2:σ.get y=some (.int k (lo:Int)))(hlo:lo<=len)
  (h:next (σ.set d (.slice (if cap=lo then a else a.map (·.add (lo * sz))) (len-lo) (cap-lo))) H):(NOp.pur (.slice t x (some y) none none) ty).m P d next σ H:=by
 obtain⟨inf,i1,i2,i3,i4⟩:=ti.ex
 refine Zb9 (by simp[Op.operands,e1,e2]) ?_ h
 have:execOp (fun x=>(σ.get x).getD undef) (bare (.slice t x (some y) none none) ty)=(do let v <-Instr.sliceAt t (.slice a len cap) (some (.int k (lo:Int))) none none;pure (.value v)):=by simp[execOp,bare,e1,e2]
 rw[this]
 refine Zgw fun Q g H hq=>?_
 have hc:(0:Int)<=(lo:Int)∧(lo:Int)<=(len:Nat):=⟨by omega,by omega⟩
 simp only[Instr.sliceAt,Zaa,Zad hu,Instr.slice,Instr.sliceBounds,Instr.sliceBound,asIntOf,Zac,if_pos hc,Zap i1,i2,Int.toNat_natCast]
 exact hq
theorem ZkW {t E:TypeId}{sz by_ len cap lo hi:Nat}{zv:Value}{a:Option Addr}{k k2:IntKind}{lx hx:Option Operand}(hu:P.toProgram.underlying t=some (.slice E))(ti:TI P.toProgram E sz zv by_)(e1:σ.get x=some (.slice a len cap))(e2:(lx=none∧lo=0)∨∃ y,lx=some y∧σ.get y=some (.int k (lo:Int)))(e3:∃ z,hx=some z∧σ.get z=some (.int k2 (hi:Int)))(hlo:lo<=hi)(hhi:hi<=cap)
  (h:next (σ.set d (.slice (if cap=lo then a else a.map (·.add (lo * sz))) (hi-lo) (cap-lo))) H):(NOp.pur (.slice t x lx hx none) ty).m P d next σ H:=by
 obtain⟨inf,i1,i2,i3,i4⟩:=ti.ex
 obtain⟨z,rfl,e3⟩:=e3
 have hc:(0:Int)<=(lo:Int)∧(lo:Int)<=(hi:Nat):=⟨by omega,by omega⟩
 have hc2:(0:Int)<=(hi:Int)∧(hi:Int)<=(cap:Nat):=⟨by omega,by omega⟩
 rcases e2 with ⟨rfl,rfl⟩ | ⟨y,rfl,e2⟩
 ·refine Zb9 (by simp[Op.operands,e1,e3]) ?_ h
  have:execOp (fun x=>(σ.get x).getD undef) (bare (.slice t x none (some z) none) ty)=(do let v <-Instr.sliceAt t (.slice a len cap) none (some (.int k2 (hi:Int))) none;pure (.value v)):=by simp[execOp,bare,e1,e3]
  rw[this]
  refine Zgw fun Q g H hq=>?_
  simp only[Instr.sliceAt,Zaa,Zad hu,Instr.slice,Instr.sliceBounds,Instr.sliceBound,asIntOf,Zac,if_pos hc2,Zap i1,i2,Int.toNat_natCast]
  exact hq
 ·refine Zb9 (by simp[Op.operands,e1,e2,e3]) ?_ h
  have:execOp (fun x=>(σ.get x).getD undef) (bare (.slice t x (some y) (some z) none) ty)=(do let v <-Instr.sliceAt t (.slice a len cap) (some (.int k (lo:Int))) (some (.int k2 (hi:Int))) none;pure (.value v)):=by simp[execOp,bare,e1,e2,e3]
  rw[this]
  refine Zgw fun Q g H hq=>?_
  simp only[Instr.sliceAt,Zaa,Zad hu,Instr.slice,Instr.sliceBounds,Instr.sliceBound,asIntOf,Zac,if_pos hc,if_pos hc2,Zap i1,i2,Int.toNat_natCast]
  exact hq
theorem Zl6 {t e:TypeId}{len esz by_ i:Nat}{zv:Value}{k:IntKind}{a:Addr}(hu:P.toProgram.underlying t=some (.array len e))(ti:TI P.toProgram e esz zv by_)(e1:σ.get x=some (.pointer (some a)))(e2:σ.get y=some (.int k (i:Int)))(hi:i<len)
  (h:next (σ.set d (.pointer (some (a.add (i * esz))))) H):(NOp.raw (.indexAddr t x y) ty).m P d next σ H:=by
 obtain⟨inf,i1,i2,i3,i4⟩:=ti.ex
 refine Zbe (by simp[Op.operands,e1,e2]) (s:=Instr.indexAt t (.pointer (some a)) (.int k (i:Int))) (by simp[execOp,bare,e1,e2]) ?_
 have hc:(0:Int)<=(i:Int)∧(i:Int)<(len:Nat):=⟨by omega,by omega⟩
 simp only[Instr.indexAt,Zaa,asIntOf,Zac,Zad hu,Instr.sureAddr,if_pos hc,Zap i1,i2,Int.toNat_natCast]
 exact h
end
end Go.LL
end
section
namespace Go.LL
abbrev Nd:=Frame×List Frame×Hp
inductive Rk:Type
 | leaf
 | node (f:Nd->Rk)
def Rk.lt:Rk->Rk->Prop
 | _,.leaf=>False
 | y,.node f=>∃ x,y=f x
theorem Rk.acc:∀ x:Rk,Acc Rk.lt x
 | .leaf=>⟨_,fun _ h=>h.elim⟩
 | .node f=>⟨_,fun _ ⟨x,h⟩=>h ▸ Rk.acc (f x)⟩
def Rk.ofNat:Nat->Rk
 | 0=>.leaf
 | n+1=>.node fun _=>.ofNat n
theorem Rk.ofNat_lt (n:Nat):Rk.lt (.ofNat n) (.ofNat (n+1)):=⟨(default,[],.nil),rfl⟩
def Rank (Φ:(Nd->Prop)->Nd->Prop):Rk->Nd->Prop
 | .leaf,_=>False
 | .node f,x=>Φ (fun y=>Rank Φ (f y) y) x
theorem rank_of {Φ:(Nd->Prop)->Nd->Prop}(hm:∀ {R R':Nd->Prop},(∀ x,R x->R' x)->∀ x,Φ R x->Φ R' x){x:Nd}(h:∀ R:Nd->Prop,(∀ x,Φ R x->R x)->R x):∃ k,Rank Φ k x:=by
 refine h (fun x=>∃ k,Rank Φ k x) (fun x hx=>?_)
 classical
 refine⟨.node fun y=>if h:∃ k,Rank Φ k y then h.choose else .leaf,?_⟩
 refine hm (fun y hy=>?_) x hx
 simp only[dif_pos hy]
 exact hy.choose_spec
theorem Rank.step {Φ:(Nd->Prop)->Nd->Prop}(hm:∀ {R R':Nd->Prop},(∀ x,R x->R' x)->∀ x,Φ R x->Φ R' x){k:Rk}{x:Nd}(h:Rank Φ k x):Φ (fun y=>∃ k',Rk.lt k' k∧Rank Φ k' y) x:=by
 cases k with
 | leaf=>exact h.elim
 | node f=>exact hm (fun y hy=>⟨f y,⟨y,rfl⟩,hy⟩) x h
def PiLt (n:Nat)(ρ' ρ:Nat->Rk):Prop:=∃ j,j<n∧Rk.lt (ρ' j) (ρ j)∧∀ k,k≠j->ρ' k=ρ k
theorem ZlZ:∀ (n:Nat) (ρ:Nat->Rk),Acc (PiLt n) ρ
 | 0,ρ=>⟨_,fun _ ⟨_,h,_⟩=>absurd h (Nat.not_lt_zero _)⟩
 | n+1,ρ=>by
  have key:∀ x,Acc Rk.lt x->∀ ρ,Acc (PiLt n) ρ->ρ n=x->Acc (PiLt (n+1)) ρ:=by
   intro x hx
   induction hx with
   | intro x _ ihx=>
    intro ρ hρ
    induction hρ with
    | intro ρ _ ihρ=>
     intro e
     refine⟨_,fun ρ' ⟨j,hj,hlt,hk⟩=>?_⟩
     by_cases hjn:j=n
     ·subst hjn
      exact ihx (ρ' j) (e ▸ hlt) ρ' (ZlZ j ρ') rfl
     ·exact ihρ ρ' ⟨j,by omega,hlt,hk⟩ ((hk n (Ne.symm hjn)).trans e)
  exact key _ (Rk.acc _) ρ (ZlZ n ρ) rfl
abbrev Ms:=Nat×Nat×(Nat->Rk)×Nat
def MsLt (n:Nat):Ms->Ms->Prop:=Prod.Lex (·<·) (Prod.Lex (·<·) (Prod.Lex (PiLt n) (·<·)))
theorem ms_wf (n:Nat):WellFounded (MsLt n):=
 ⟨fun ⟨_,_,_,_⟩=>Prod.lexAccessible (Nat.lt_wfRel.wf.apply _) (fun x=>by
  obtain⟨_,_,_⟩:=x
  exact Prod.lexAccessible (Nat.lt_wfRel.wf.apply _) (fun x=>by
   obtain⟨_,_⟩:=x
   exact Prod.lexAccessible (ZlZ n _) (fun _=>Nat.lt_wfRel.wf.apply _) _) _) _⟩
end Go.LL
end
