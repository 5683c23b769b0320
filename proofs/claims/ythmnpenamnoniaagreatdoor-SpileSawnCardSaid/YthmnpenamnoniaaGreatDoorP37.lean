import Derived.Test.YthmnpenamnoniaaGreatDoorP21
import Derived.Test.YthmnpenamnoniaaGreatDoorP22
import Derived.Test.YthmnpenamnoniaaGreatDoorP36
set_option linter.all false
section
open Go Go.LL
namespace Go.Proofs
theorem Zfs (a b:N4):n4Eq a b=true↔a=b:=by
 obtain⟨a1,a2,a3,a4⟩:=a
 obtain⟨b1,b2,b3,b4⟩:=b
 simp[n4Eq]
instance:DecidableEq N4:=fun a b=>if h:n4Eq a b=true then .isTrue ((Zfs a b).1 h) else .isFalse fun e=>h ((Zfs a b).2 e)
theorem Zk9 {len:Nat}{E:TypeId}{k:N4}:∀ (m:List (N4×Int)) (b i:Nat),Instr.findNow (.array len E) (numV k) (esFrom numV b m) i=(if m=[] then some none else none)
 | [],b,i=>rfl
 | (k',v) :: r,b,i=>rfl
section
variable  {P:Prg}[Tz P]
theorem Zg9 {k:N4}{Q:Option (Nat×Value)->Bool->Hp->Prop}{g:Bool}{H:Hp}:∀ (m:List (N4×Int)) (b i:Nat),Q (Zcc m k i) g H->wpL P.toPQ (Instr.findAsking 115 (numV k) (esFrom numV b m) i) Q g H
 | [],b,i,h=>by simpa[esFrom,Instr.findAsking,Zcc,Zac]using h
 | (k',v) :: r,b,i,h=>by
  simp only[esFrom,Instr.findAsking,Zaa]
  show wpL P.toPQ (Op.equalIn (9998+1+1) 115 (numV k) (numV k')) _ g H
  refine eq119 _ ?_
  rw[Zcc]at h
  by_cases e:k=k'
  ·rw[if_pos e]at h
   rw[(Zfs k k').2 e]
   simpa[Zac]using h
  ·rw[if_neg e]at h
   have:n4Eq k k'=false:=by
    cases hh:n4Eq k k' with
    | false=>rfl
    | true=>exact absurd ((Zfs k k').1 hh) e
   rw[this]
   simp only[Bool.false_eq_true,if_false]
   exact Zg9 r (b+1) (i+1) h
theorem keyN4:KeyT (α:=N4) P.toPQ 115 numV where
 chk:=fun b a Q g H h=>by
  have p1:∀ (x y z u:Int) (Q:Value->Bool->Hp->Prop) g H,wpL P.toPQ (part 3 #[vi x,vi y,vi z,vi u] 0) Q g H↔Q (vi x) g H:=fun x y z u Q g H=>Zgx rfl Q
  have p2:∀ (x y z u:Int) (Q:Value->Bool->Hp->Prop) g H,wpL P.toPQ (part 3 #[vi x,vi y,vi z,vi u] 1) Q g H↔Q (vi y) g H:=fun x y z u Q g H=>Zgx rfl Q
  have p3:∀ (x y z u:Int) (Q:Value->Bool->Hp->Prop) g H,wpL P.toPQ (part 3 #[vi x,vi y,vi z,vi u] 2) Q g H↔Q (vi z) g H:=fun x y z u Q g H=>Zgx rfl Q
  have p4:∀ (x y z u:Int) (Q:Value->Bool->Hp->Prop) g H,wpL P.toPQ (part 3 #[vi x,vi y,vi z,vi u] 3) Q g H↔Q (vi u) g H:=fun x y z u Q g H=>Zgx rfl Q
  have pc:∀ (v:Int) (Q:Unit->Bool->Hp->Prop) g H,wpL P.toPQ (Instr.checkKey b 9999 3 (vi v)) Q g H↔Q () g H:=fun v Q g H=>by
   rw[show (9999:Nat)=9998+1 from rfl,Instr.checkKey]
   simp only[Zaa,Zad (und (P:=P) ui3),Zac]
  obtain⟨inf,i1,i2,i3,i4⟩:=(tif (P:=P) t3).ex
  have pS:∀ (Q:Nat->Bool->Hp->Prop) g H,wpL P.toPQ (sizeOf 3) Q g H↔Q 1 g H:=fun Q g H=>by rw[Zap i1,i2]
  rw[show (10000:Nat)=9999+1 from rfl,Instr.checkKey]
  simp only[numV,Zaa,Zad (und (P:=P) u119)]
  have hr:List.range' 0 4=[0,1,2,3]:=rfl
  simp only[Std.Legacy.Range.forIn_eq_forIn_range',Std.Legacy.Range.size,Nat.sub_zero,Nat.add_sub_cancel,Nat.div_one,hr,List.forIn_cons,List.forIn_nil,Zaa,Zap i1,i2]
  simpa[pS,p1,p2,p3,p4,pc,Zaa,Zac]using h
 fnd:=fun m a Q g H h=>by
  simp only[Instr.findKey,Zaa,Zad (und (P:=P) u119),Zk9]
  by_cases e:m=[]
  ·subst e
   simpa[Zcc,Zac]using h
  ·rw[if_neg e]
   exact Zg9 m 0 0 h
 same:=fun a=>by
  obtain⟨a,b,c,d⟩:=a
  simp[Instr.sameBits,numV]
end
section
variable  {α:Type}[DecidableEq α]
def idxM:List (α×Int)->α->Nat
 | [],_=>0
 | (k,_) :: r,a=>if a=k then 0 else idxM r a+1
theorem put_put (m:List (α×Int))(a:α)(u w:Int):putM (putM m a u) a w=putM m a w:=by
 induction m with
 | nil=>simp[putM]
 | cons p r ih=>
  obtain⟨k,v⟩:=p
  rw[putM,putM]
  by_cases h:a=k
  ·subst h
   rw[if_pos rfl,if_pos rfl,putM,if_pos rfl]
  ·rw[if_neg h,if_neg h,putM,if_neg h,ih]
theorem find_idx {m:List (α×Int)}{a:α}{i j:Nat}{v:Value}(h:Zcc m a i=some (j,v)):j=i+idxM m a∧idxM m a<m.length∧putM m a (getM m a)=m:=by
 induction m generalizing i with
 | nil=>simp[Zcc]at h
 | cons p r ih=>
  obtain⟨k,u⟩:=p
  rw[Zcc]at h
  rw[idxM,putM,getM]
  by_cases hk:a=k
  ·rw[if_pos hk]at h
   simp only[Option.some.injEq,Prod.mk.injEq]at h
   rw[if_pos hk,if_pos hk,if_pos hk]
   exact⟨by omega,by simp,rfl⟩
  ·rw[if_neg hk]at h
   obtain⟨h1,h2,h3⟩:=ih h
   rw[if_neg hk,if_neg hk,if_neg hk,h3]
   exact⟨by omega,by simp;omega,rfl⟩
theorem Zk8 {m:List (α×Int)}{a:α}{i:Nat}(h:Zcc m a i=none):idxM m a=m.length:=by
 induction m generalizing i with
 | nil=>rfl
 | cons p r ih=>
  obtain⟨k,u⟩:=p
  rw[Zcc]at h
  split at h
  ·simp at h
  ·rename_i hk
   rw[idxM,if_neg hk,ih h];simp
theorem Zjn (m:List (α×Int))(a:α)(w:Int):idxM (putM m a w) a=idxM m a∧idxM m a<(putM m a w).length:=by
 induction m with
 | nil=>simp[putM,idxM]
 | cons p r ih=>
  obtain⟨k,v⟩:=p
  rw[putM,idxM]
  by_cases h:a=k
  ·rw[if_pos h,if_pos h,idxM,if_pos h];simp
  ·rw[if_neg h,if_neg h,idxM,if_neg h];simp;exact ih
theorem stamp_at {kv:α->Value}(m:List (α×Int))(a:α)(b:Nat)(w:Int)(h:idxM m a<m.length):(esFrom kv b m).findIdx? (fun e=>(e.born:Int) == ((b+idxM m a:Nat):Int))=some (idxM m a)∧(esFrom kv b m).modify (idxM m a) (fun e=>{ e with val:=vi w })=esFrom kv b (putM m a w)∧(putM m a w).length=m.length:=by
 induction m generalizing b with
 | nil=>simp at h
 | cons p r ih=>
  obtain⟨k,v⟩:=p
  rw[idxM]at h ⊢
  rw[putM]
  by_cases hk:a=k
  ·subst hk
   rw[if_pos rfl,if_pos rfl,esFrom,List.findIdx?_cons,Nat.add_zero]
   refine⟨by simp,?_,by simp⟩
   rw[esFrom];rfl
  ·rw[if_neg hk]at h ⊢
   rw[if_neg hk]
   obtain⟨h1,h2,h3⟩:=ih (b+1) (by simpa using h)
   rw[show b+1+idxM r a=b+(idxM r a+1) by omega]at h1
   refine⟨?_,?_,by simp[h3]⟩
   ·rw[esFrom,List.findIdx?_cons,h1]
    have:(((⟨kv k,vi v,b⟩:MapEntry).born:Int) == ((b+(idxM r a+1):Nat):Int))=false:=by simp;omega
    simp only[this,Bool.false_eq_true,if_false,Option.map_some]
   ·rw[esFrom,esFrom,<-h2];rfl
end
section
variable  {P:Prg}{d:Option Nat}{next:NSt->Hp->Prop}{σ:NSt}{H:Hp}{x y z:Operand}{v:Value}{ty:TypeId}{α:Type}[DecidableEq α]{kv:α->Value}{T K E:TypeId}
theorem ZfX {m:List (α×Int)}{a:α}{r:Nat}{by_:Nat}(hu:P.toProgram.underlying T=some (.map K E))(hk:KeyT P.toPQ K kv)(ti:TI P.toProgram E 1 (vi 0) by_)(e1:σ.get x=some (.map (some r)))(e2:σ.get y=some (kv a))(hr:H r=some (mapO kv m,true))(hst:P.still H.gh=false)
  (h:next (σ.set d (.tuple #[vi (getM m a),vi (idxM m a)])) (H.ins r (mapO kv (putM m a (getM m a))))):(NOp.raw (.mapEntry T x y) ty).m P d next σ H:=by
 obtain⟨inf,i1,i2,i3,i4⟩:=ti.ex
 refine Zbe (by simp[Op.operands,e1,e2]) (s:=Instr.mapEntry T (.map (some r)) (kv a)) (by simp[execOp,bare,e1,e2]) ?_
 simp only[Instr.mapEntry,Zaa,Zad hu]
 refine⟨_,_,⟨hst,hr⟩,rfl,rfl,?_⟩
 rw[mapO,wpL]
 simp only[Zaa,Zac]
 refine hk.chk _ _ ?_
 refine hk.fnd m a ?_
 cases hf:Zcc m a 0 with
 | none=>
  obtain⟨h1,h2⟩:=Zgc m a 0 (getM m a) hf
  have h3:=Zk8 hf
  simp only[Zaa,Zb0 i1 i3]
  refine⟨_,⟨hst,hr⟩,rfl,rfl,rfl,?_⟩
  have:Obj.map ((esFrom kv 0 m).toArray.push { key:=kv a,val:=vi 0,born:=m.length }) (m.length+1)=mapO kv (putM m a (getM m a)):=by
   rw[h1,mapO,Zju,Nat.zero_add,h2]
   simp
  rw[this,wpL]
  simp only[Zac]
  rw[h2,h3]at h
  rw[h2]
  exact h
 | some p=>
  obtain⟨j,u⟩:=p
  obtain⟨h1,e,h2,h3,h4,h5,h6,h7⟩:=Zgb (kv:=kv) m a 0 0 j u (getM m a) hf
  obtain⟨g1,g2,g3⟩:=find_idx hf
  rw[Nat.sub_zero]at h2 h5 h6
  simp only[List.getElem?_toArray,h2,Option.map_some,Option.getD_some,Instr.keyThatStays,Zaa,h3,hk.same,if_true,Zac]
  refine⟨_,⟨hst,hr⟩,rfl,rfl,rfl,?_⟩
  have hm:Obj.map ((esFrom kv 0 m).toArray.modify j fun e=>{ e with key:=kv a }) m.length=mapO kv (putM m a (getM m a)):=by
   have:(esFrom kv 0 m).modify j (fun e=>{ e with key:=kv a })=esFrom kv 0 m:=by
    refine List.ext_getElem? fun i=>?_
    rw[List.getElem?_modify]
    by_cases e':j=i
    ·subst e'
     rw[h2]
     show some (if j=j then _ else _)=some e
     rw[if_pos rfl,<-h3]
    ·simp[e']
   rw[g3,mapO]
   congr 1
   rw[List.modify_toArray,this]
  rw[hm,wpL]
  rw[h4,h5]
  have:Value.int IntKind.i64 ((0+j:Nat):Int)=vi (idxM m a):=by rw[g1];simp
  show next (σ.set d (.tuple #[vi (getM m a),goInt ((0+j:Nat):Int)])) _
  rw[show goInt ((0+j:Nat):Int)=vi (idxM m a) from this]
  exact h
theorem ZhJ {m:List (α×Int)}{a:α}{r:Nat}{w:Int}(e1:σ.get x=some (.map (some r)))(e2:σ.get y=some (vi (idxM m a)))(e3:σ.get z=some (vi w))(hr:H r=some (mapO kv m,true))(hi:idxM m a<m.length)(hst:P.still H.gh=false)
  (h:next (σ.set d undef) (H.ins r (mapO kv (putM m a w)))):(NOp.raw (.entryStore T x y z) ty).m P d next σ H:=by
 refine Zje (by simp[Op.operands,e1,e2,e3]) (s:=Instr.entryStore T (.map (some r)) (vi (idxM m a)) (vi w)) (by simp[execOp,bare,e1,e2,e3]) ?_
 obtain⟨h1,h2,h3⟩:=stamp_at (kv:=kv) m a 0 w hi
 rw[Nat.zero_add]at h1
 simp only[Instr.entryStore,Zaa]
 refine⟨_,_,⟨hst,hr⟩,rfl,rfl,?_⟩
 rw[mapO,wpL]
 simp only[Zaa,asInt,asIntOf,Zac]
 have h1':(esFrom kv 0 m).toArray.findIdx? (fun e=>(e.born:Int) == (idxM m a:Int))=some (idxM m a):=by rw[List.findIdx?_toArray];exact h1
 rw[h1']
 simp only
 refine⟨_,⟨hst,hr⟩,rfl,rfl,rfl,?_⟩
 have:Obj.map ((esFrom kv 0 m).toArray.modify (idxM m a) fun e=>{ e with val:=vi w }) m.length=mapO kv (putM m a w):=by
  rw[mapO,h3,<-h2]
  simp
 rw[this];exact h
def itO (r n:Nat)(seen:Array Nat):Obj:=.mapIter (some r) n seen n
theorem om_range {m:List (α×Int)}{r:Nat}{pm:Bool}(hu:P.toProgram.underlying T=some (.map K E))(e1:σ.get x=some (.map (some r)))(hr:H r=some (mapO kv m,pm))(hst:P.still H.gh=false)
  (h:∀ i,H i=none->next (σ.set d (.pointer (some ⟨i,0,none⟩))) (H.ins i (itO r m.length #[]))):(NOp.raw (.range T x) ty).m P d next σ H:=by
 refine Zbe (by simp[Op.operands,e1]) (s:=Instr.range T (.map (some r))) (by simp[execOp,bare,e1]) ?_
 simp only[Instr.range,Zaa,Zad hu]
 refine⟨_,_,⟨hst,hr⟩,rfl,rfl,?_⟩
 rw[mapO,wpL]
 simp only[Zaa,newObj,Zac]
 exact⟨hst,fun i hi=>h i hi⟩
def Zbx (es:List MapEntry)(seen:Array Nat):List MapEntry:=es.filter fun e=>!seen.contains e.born
theorem Zh0 {m:List (α×Int)}{b:Nat}:∀ e∈esFrom kv b m,b<=e.born∧e.born<b+m.length:=by
 induction m generalizing b with
 | nil=>intro e he;simp[esFrom]at he
 | cons p r ih=>
  obtain⟨k,v⟩:=p
  intro e he
  rw[esFrom]at he
  rcases List.mem_cons.1 he with rfl | he
  ·exact⟨Nat.le_refl _,by simp⟩
  ·have:=ih e he
   simp only[List.length_cons]
   omega
theorem om_next {m:List (α×Int)}{r i:Nat}{seen:Array Nat}{pm:Bool}(e1:σ.get x=some (.pointer (some ⟨i,0,none⟩)))(hi:H i=some (itO r m.length seen,true))(hr:H r=some (mapO kv m,pm))(hst:P.still H.gh=false)
  (h0:Zbx (esFrom kv 0 m) seen=[]->next (σ.set d (.tuple #[.bool false])) H)
  (h1:∀ e∈Zbx (esFrom kv 0 m) seen,next (σ.set d (.tuple #[.bool true,e.key,e.val])) (H.ins i (itO r m.length (seen.push e.born)))):(NOp.raw (.next x false) ty).m P d next σ H:=by
 refine Zbe (by simp[Op.operands,e1]) (s:=Instr.next (.pointer (some ⟨i,0,none⟩)) false ty) (by simp[execOp,bare,e1]) ?_
 simp only[Instr.next,Zaa]
 refine⟨_,_,⟨hst,hi⟩,rfl,rfl,?_⟩
 rw[itO,wpL]
 simp only[Zaa]
 refine⟨_,_,⟨hst,hr⟩,rfl,rfl,?_⟩
 rw[mapO,wpL]
 have hold:(esFrom kv 0 m).toArray.isEmpty=false->(esFrom kv 0 m).toArray.all (fun e=>decide (e.born ≥ m.length))=false:=by
  intro he
  cases hm:esFrom kv 0 m with
  | nil=>rw[hm]at he;simp at he
  | cons e l=>
   have:=(Zh0 (kv:=kv) (m:=m) (b:=0) e (by rw[hm];simp)).2
   simp
   intro h';omega
 have hc:(!seen.isEmpty && !(esFrom kv 0 m).toArray.isEmpty && (esFrom kv 0 m).toArray.all (fun e=>decide (e.born ≥ m.length)))=false:=by
  cases he:(esFrom kv 0 m).toArray.isEmpty with
  | true=>simp
  | false=>rw[hold he];simp
 simp only[hc,Bool.false_eq_true,if_false]
 have hf1:((esFrom kv 0 m).toArray.filter fun e=>!seen.contains e.born)=(Zbx (esFrom kv 0 m) seen).toArray:=by simp[Zbx]
 have hf2:((Zbx (esFrom kv 0 m) seen).toArray.filter fun e=>decide (e.born<m.length))=(Zbx (esFrom kv 0 m) seen).toArray:=by
  simp only[List.filter_toArray',List.size_toArray]
  congr 1
  rw[List.filter_eq_self]
  intro e he
  have:=(Zh0 (kv:=kv) (m:=m) (b:=0) e (List.mem_filter.1 he).1).2
  simp;omega
 have hf3:((Zbx (esFrom kv 0 m) seen).toArray.filter fun e=>decide (e.born ≥ m.length))=#[]:=by
  simp only[List.filter_toArray',List.size_toArray]
  congr 1
  rw[List.filter_eq_nil_iff]
  intro e he
  have:=(Zh0 (kv:=kv) (m:=m) (b:=0) e (List.mem_filter.1 he).1).2
  simp;omega
 rw[hf1,hf2,hf3]
 generalize Zbx (esFrom kv 0 m) seen=L at *
 simp only[Zaa,choose]
 rw[wpL]
 cases L with
 | nil=>
  have:Question.forced (Question.mapNext ((if ([]:List MapEntry).toArray.isEmpty=true then #[none] else #[])++(([]:List MapEntry).toArray++#[]).map some:Array (Option MapEntry)).size)=true:=by simp[Question.forced]
  rw[if_pos this,wpL]
  simp
  exact h0 rfl
 | cons e l=>
  have hsz:((if (e :: l).toArray.isEmpty=true then #[none] else #[])++((e :: l).toArray++#[]).map some:Array (Option MapEntry))=((e :: l).map some).toArray:=by simp
  rw[hsz]
  have key:∀ t,t<(e :: l).length->wpL P.toPQ (match (((e :: l).map some).toArray)[t]? with
   | some (some e)=>do
    setObj i (.mapIter (some r) m.length (seen.push e.born) m.length)
    pure (.tuple #[.bool true,e.key,e.val])
   | some none=>(pure (.tuple #[.bool false]):Sem Value)
   | none=>stuck "Next: no such candidate") (fun v _ H'=>next (σ.set d v) H') false H:=by
   intro t ht
   have e2:(((e :: l).map some).toArray)[t]? = some (some (e :: l)[t]):=by
    simp only[List.getElem?_toArray,List.getElem?_map,List.getElem?_eq_getElem ht,Option.map_some]
   rw[e2]
   simp only[Zaa]
   refine⟨_,⟨hst,hi⟩,rfl,rfl,rfl,?_⟩
   rw[wpL]
   simp only[Zac]
   exact h1 _ (List.getElem_mem ht)
  split
  ·rw[wpL]
   exact key 0 (by simp)
  ·refine⟨hst,fun t=>?_⟩
   rw[wpL]
   refine key _ ?_
   simp only[Question.cut,List.size_toArray,List.length_map]
   exact Nat.mod_lt _ (by simp)
theorem ZmF {m:List (α×Int)}{b:Nat}{e:MapEntry}(he:e∈esFrom kv b m):(esFrom kv b m).find? (fun f=>f.born == e.born)=some e:=by
 induction m generalizing b with
 | nil=>simp[esFrom]at he
 | cons p r ih=>
  obtain⟨k,v⟩:=p
  rw[esFrom]at he ⊢
  rcases List.mem_cons.1 he with rfl | he
  ·simp
  ·have:=(Zh0 e he).1
   rw[List.find?_cons]
   have hne:((⟨kv k,vi v,b⟩:MapEntry).born == e.born)=false:=by simp;omega
   rw[hne]
   exact ih he
theorem om_entry {m:List (α×Int)}{r i:Nat}{seen:Array Nat}{pm:Bool}{e:MapEntry}(e1:σ.get x=some (.pointer (some ⟨i,0,none⟩)))(hi:H i=some (itO r m.length (seen.push e.born),true))(hr:H r=some (mapO kv m,pm))(he:e∈esFrom kv 0 m)(hst:P.still H.gh=false)
  (h:next (σ.set d (.tuple #[e.key,e.val])) H):(NOp.raw (.entry x) ty).m P d next σ H:=by
 refine Zbe (by simp[Op.operands,e1]) (s:=Instr.entry (.pointer (some ⟨i,0,none⟩))) (by simp[execOp,bare,e1]) ?_
 simp only[Instr.entry,Zaa]
 refine⟨_,_,⟨hst,hi⟩,rfl,rfl,?_⟩
 rw[itO,wpL]
 simp only[Array.back?_push,Zaa]
 refine⟨_,_,⟨hst,hr⟩,rfl,rfl,?_⟩
 rw[mapO,wpL]
 simp only[bne_self_eq_false,Bool.false_eq_true,if_false]
 have:(esFrom kv 0 m).toArray.find? (fun f=>f.born == e.born)=some e:=by rw[List.find?_toArray];exact ZmF he
 rw[this]
 exact h
end
end Go.Proofs
end
section
namespace Go.LL
theorem ZjW {G:Prop} (h:G:=by
  rw[h.mod,h.div]at this
  refine this.trans ?_
  congr 2
  rcases le1 h.L with e | e<;>rcases le1 h.W with e2 | e2<;>rcases le1 h.S with e3 | e3<;>rw[e,e2,e3]<;>(unfold stv;simp<;>omega)):G:=h
theorem ZgP {G:Prop} (h:G:=by
  rw[h.mod]at this
  refine this.trans ?_
  rcases le1 h.L with e | e<;>rcases le1 h.W with e2 | e2<;>rcases le1 h.S with e3 | e3<;>rw[e,e2,e3]<;>rfl):G:=h
theorem and_low (x k:Nat)(hk:k<8):x &&& k=(x % 8) &&& k:=by
 refine Nat.eq_of_testBit_eq fun i=>?_
 rw[Nat.testBit_and,Nat.testBit_and,show (8:Nat)=2 ^ 3 from rfl,Nat.testBit_mod_two_pow]
 by_cases h:i<3
 ·simp[h]
 ·have:k.testBit i=false:=Nat.testBit_lt_two_pow (Nat.lt_of_lt_of_le hk (by rw[show (8:Nat)=2 ^ 3 from rfl];exact Nat.pow_le_pow_right (by decide) (by omega)))
  simp[this]
theorem or_low (x k:Nat)(hk:k<8):x ||| k=8 * (x / 8)+((x % 8) ||| k):=by
 have hlt:(x % 8) ||| k<2 ^ 3:=Nat.or_lt_two_pow (Nat.mod_lt _ (by decide)) hk
 refine Nat.eq_of_testBit_eq fun i=>?_
 rw[show 8 * (x / 8)=2 ^ 3 * (x / 8) from rfl,Nat.testBit_two_pow_mul_add _ hlt,Nat.testBit_or,Nat.testBit_or,show (8:Nat)=2 ^ 3 from rfl,Nat.testBit_mod_two_pow,Nat.testBit_div_two_pow]
 by_cases h:i<3
 ·simp[h]
 ·have:k.testBit i=false:=Nat.testBit_lt_two_pow (Nat.lt_of_lt_of_le hk (by rw[show (8:Nat)=2 ^ 3 from rfl];exact Nat.pow_le_pow_right (by decide) (by omega)))
  have e:i-3+3=i:=by omega
  simp[h,this,e]
theorem Zlj (x k:Nat)(hk:k<8)(hx:x<4294967296):x &&& (4294967295-k)=8 * (x / 8)+((x % 8) &&& (7-k)):=by
 have hlt:(x % 8) &&& (7-k)<2 ^ 3:=Nat.and_lt_two_pow _ (by omega)
 have e0:4294967295-k=2 ^ 3 * 536870911+(7-k):=by omega
 have hk2:7-k<2 ^ 3:=by omega
 refine Nat.eq_of_testBit_eq fun i=>?_
 rw[show 8 * (x / 8)=2 ^ 3 * (x / 8) from rfl,Nat.testBit_two_pow_mul_add _ hlt,Nat.testBit_and,e0,Nat.testBit_two_pow_mul_add _ hk2,Nat.testBit_and,show (8:Nat)=2 ^ 3 from rfl,Nat.testBit_mod_two_pow,Nat.testBit_div_two_pow]
 by_cases h:i<3
 ·simp[h]
 ·have e:i-3+3=i:=by omega
  simp only[h,if_false,e]
  rw[show (536870911:Nat)=2 ^ 29-1 from rfl,Nat.testBit_two_pow_sub_one]
  by_cases h2:i-3<29
  ·simp[h2]
  ·have:x.testBit i=false:=Nat.testBit_lt_two_pow (Nat.lt_of_lt_of_le hx (by rw[show (4294967296:Nat)=2 ^ 32 from rfl];exact Nat.pow_le_pow_right (by decide) (by omega)))
   simp[this]
theorem ZdN {z:Int}(h1:0<=z)(h2:z<2147483648):IntKind.i32.wrap z=z:=by
 simp only[IntKind.wrap,IntKind.bits,IntKind.signed]
 simp
 omega
theorem ZcA (x:Nat)(hx:x<4294967296):(BitVec.ofInt 32 (x:Nat)).toNat=x:=by
 simp[BitVec.toNat_ofInt];omega
theorem ZeT {x k:Nat}(hx:x<2147483648)(hk:k<8):bitV .and .i32 (x:Nat) (k:Nat)=.int .i32 (((x % 8) &&& k:Nat):Int):=by
 have hx':x<4294967296:=by omega
 have hk':k<4294967296:=by omega
 have hle:x &&& k<=x:=Nat.and_le_left
 show Value.int .i32 (IntKind.i32.wrap ((BitVec.ofInt 32 (x:Nat) &&& BitVec.ofInt 32 (k:Nat)).toNat:Nat))=_
 rw[BitVec.toNat_and,ZcA x hx',ZcA k hk',ZdN (by omega) (by omega),and_low x k hk]
theorem ZmT {x k:Nat}(hx:x<2147483640)(hk:k<8):bitV .or .i32 (x:Nat) (k:Nat)=.int .i32 ((8 * (x / 8)+((x % 8) ||| k):Nat):Int):=by
 have hx':x<4294967296:=by omega
 have hk':k<4294967296:=by omega
 have hlt:(x % 8) ||| k<2 ^ 3:=Nat.or_lt_two_pow (Nat.mod_lt _ (by decide)) hk
 have e:=or_low x k hk
 show Value.int .i32 (IntKind.i32.wrap ((BitVec.ofInt 32 (x:Nat) ||| BitVec.ofInt 32 (k:Nat)).toNat:Nat))=_
 rw[BitVec.toNat_or,ZcA x hx',ZcA k hk',e,ZdN (by omega) (by omega)]
theorem Zlg {x k:Nat}(hx:x<2147483640)(hk:k<8):bitV .andNot .i32 (x:Nat) (k:Nat)=.int .i32 ((8 * (x / 8)+((x % 8) &&& (7-k)):Nat):Int):=by
 have hx':x<4294967296:=by omega
 have hk':k<4294967296:=by omega
 have hlt:(x % 8) &&& (7-k)<2 ^ 3:=Nat.and_lt_two_pow _ (by omega)
 have e:=Zlj x k hk hx'
 show Value.int .i32 (IntKind.i32.wrap ((BitVec.ofInt 32 (x:Nat) &&& ~~~ BitVec.ofInt 32 (k:Nat)).toNat:Nat))=_
 rw[BitVec.toNat_and,BitVec.toNat_not,ZcA x hx',ZcA k hk',show 2 ^ 32-1-k=4294967295-k from rfl,e,ZdN (by omega) (by omega)]
theorem bit_shr {x:Nat}:bitV .shr .i32 (x:Nat) (3:Nat)=.int .i32 ((x / 8:Nat):Int):=by
 show Value.int .i32 (Int.fdiv (x:Nat) (2 ^ min (Int.toNat ((3:Nat):Int)) 32))=_
 have:(2:Int) ^ min (Int.toNat ((3:Nat):Int)) 32=8:=rfl
 rw[this,Int.fdiv_eq_ediv_of_nonneg _ (by omega)]
 simp
section
variable  {L W S n:Nat}
structure Zc1 (L W S n:Nat):Prop where
 L:L<=1
 W:W<=1
 S:S<=1
 n:n<=260000000
theorem Bits.w (h:Bits L W S n):Zc1 L W S n:=⟨h.L,h.W,h.S,by have:=h.n;omega⟩
theorem Zc1.mod (h:Zc1 L W S n):stv L W S n % 8=L+2 * W+4 * S:=by
 obtain⟨a,b,c,d⟩:=h
 unfold stv;omega
theorem Zc1.div (h:Zc1 L W S n):stv L W S n / 8=n:=by
 obtain⟨a,b,c,d⟩:=h
 unfold stv;omega
theorem Zc1.lt (h:Zc1 L W S n):stv L W S n<2147483640:=by
 obtain⟨a,b,c,d⟩:=h
 unfold stv;omega
theorem le1 {x:Nat}(h:x<=1):x=0∨x=1:=by omega
theorem Zc1.and5 (h:Zc1 L W S n):bitV .and .i32 (stv L W S n:Nat) 5=.int .i32 ((L+4 * S:Nat):Int):=by
 have:=ZeT (x:=stv L W S n) (k:=5) (by have:=h.lt;omega) (by decide)
 exact ZgP
theorem Zc1.and1 (h:Zc1 L W S n):bitV .and .i32 (stv L W S n:Nat) 1=.int .i32 ((L:Nat):Int):=by
 have:=ZeT (x:=stv L W S n) (k:=1) (by have:=h.lt;omega) (by decide)
 exact ZgP
theorem Zc1.and2 (h:Zc1 L W S n):bitV .and .i32 (stv L W S n:Nat) 2=.int .i32 ((2 * W:Nat):Int):=by
 have:=ZeT (x:=stv L W S n) (k:=2) (by have:=h.lt;omega) (by decide)
 exact ZgP
theorem Zc1.and3 (h:Zc1 L W S n):bitV .and .i32 (stv L W S n:Nat) 3=.int .i32 ((L+2 * W:Nat):Int):=by
 have:=ZeT (x:=stv L W S n) (k:=3) (by have:=h.lt;omega) (by decide)
 exact ZgP
theorem Zc1.and4 (h:Zc1 L W S n):bitV .and .i32 (stv L W S n:Nat) 4=.int .i32 ((4 * S:Nat):Int):=by
 have:=ZeT (x:=stv L W S n) (k:=4) (by have:=h.lt;omega) (by decide)
 exact ZgP
theorem Zc1.and7 (h:Zc1 L W S n):bitV .and .i32 (stv L W S n:Nat) 7=.int .i32 ((L+2 * W+4 * S:Nat):Int):=by
 have:=ZeT (x:=stv L W S n) (k:=7) (by have:=h.lt;omega) (by decide)
 exact ZgP
theorem Zc1.or1 (h:Zc1 L W S n):bitV .or .i32 (stv L W S n:Nat) 1=.int .i32 ((stv 1 W S n:Nat):Int):=by
 have:=ZmT (x:=stv L W S n) (k:=1) h.lt (by decide)
 exact ZjW
theorem Zc1.or2 (h:Zc1 L W S n):bitV .or .i32 (stv L W S n:Nat) 2=.int .i32 ((stv L 1 S n:Nat):Int):=by
 have:=ZmT (x:=stv L W S n) (k:=2) h.lt (by decide)
 exact ZjW
theorem Zc1.or4 (h:Zc1 L W S n):bitV .or .i32 (stv L W S n:Nat) 4=.int .i32 ((stv L W 1 n:Nat):Int):=by
 have:=ZmT (x:=stv L W S n) (k:=4) h.lt (by decide)
 exact ZjW
theorem Zc1.not2 (h:Zc1 L W S n):bitV .andNot .i32 (stv L W S n:Nat) 2=.int .i32 ((stv L 0 S n:Nat):Int):=by
 have:=Zlg (x:=stv L W S n) (k:=2) h.lt (by decide)
 exact ZjW
theorem Zc1.shr3 (h:Zc1 L W S n):bitV .shr .i32 (stv L W S n:Nat) 3=.int .i32 ((n:Nat):Int):=by
 refine bit_shr.trans ?_
 rw[h.div]
theorem Zc1.add8 (h:Zc1 L W S n):IntKind.i32.wrap ((stv L W S n:Nat)+8)=((stv L W S (n+1):Nat):Int):=by
 have:=h.lt
 have e:((stv L W S n:Nat):Int)+8=((stv L W S (n+1):Nat):Int):=by unfold stv;omega
 rw[<-e,ZdN (by omega) (by omega)]
theorem Zc1.sub8 (h:Zc1 L W S (n+1)):bitV .sub .i32 (stv L W S (n+1):Nat) 8=.int .i32 ((stv L W S n:Nat):Int):=by
 have:=h.lt
 show Value.int .i32 (IntKind.i32.wrap (((stv L W S (n+1):Nat):Int)-8))=_
 have e:((stv L W S (n+1):Nat):Int)-8=((stv L W S n:Nat):Int):=by unfold stv;omega
 rw[e,ZdN (by omega) (by unfold stv at this ⊢;omega)]
theorem Bits.lt (h:Bits L W S n):stv L W S n<2147483640:=h.w.lt
theorem Bits.and5 (h:Bits L W S n):bitV .and .i32 (stv L W S n:Nat) 5=.int .i32 ((L+4 * S:Nat):Int):=h.w.and5
theorem Bits.and1 (h:Bits L W S n):bitV .and .i32 (stv L W S n:Nat) 1=.int .i32 ((L:Nat):Int):=h.w.and1
theorem Bits.and2 (h:Bits L W S n):bitV .and .i32 (stv L W S n:Nat) 2=.int .i32 ((2 * W:Nat):Int):=h.w.and2
theorem Bits.and3 (h:Bits L W S n):bitV .and .i32 (stv L W S n:Nat) 3=.int .i32 ((L+2 * W:Nat):Int):=h.w.and3
theorem Bits.and4 (h:Bits L W S n):bitV .and .i32 (stv L W S n:Nat) 4=.int .i32 ((4 * S:Nat):Int):=h.w.and4
theorem Bits.and7 (h:Bits L W S n):bitV .and .i32 (stv L W S n:Nat) 7=.int .i32 ((L+2 * W+4 * S:Nat):Int):=h.w.and7
theorem Bits.or1 (h:Bits L W S n):bitV .or .i32 (stv L W S n:Nat) 1=.int .i32 ((stv 1 W S n:Nat):Int):=h.w.or1
theorem Bits.or2 (h:Bits L W S n):bitV .or .i32 (stv L W S n:Nat) 2=.int .i32 ((stv L 1 S n:Nat):Int):=h.w.or2
theorem Bits.not2 (h:Bits L W S n):bitV .andNot .i32 (stv L W S n:Nat) 2=.int .i32 ((stv L 0 S n:Nat):Int):=h.w.not2
theorem Bits.shr3 (h:Bits L W S n):bitV .shr .i32 (stv L W S n:Nat) 3=.int .i32 ((n:Nat):Int):=h.w.shr3
theorem Bits.add8 (h:Bits L W S n):IntKind.i32.wrap ((stv L W S n:Nat)+8)=((stv L W S (n+1):Nat):Int):=h.w.add8
theorem Bits.sub8 (h:Bits L W S (n+1)):bitV .sub .i32 (stv L W S (n+1):Nat) 8=.int .i32 ((stv L W S n:Nat):Int):=h.w.sub8
end
section
variable  {P:Prg}{Qe:Ex->NSt->Hp->Prop}{σ:NSt}{H:Hp}{b:Zaj}
theorem Zf0 {ι:Type}(I:ι->Hp->Prop)(μ:ι->Nat)(env:ι->List (Nat×Value))(box:ι->List (Nat×List Value))(i:ι)(h0:I i H)(he:LeE (env i) σ)(hb:LeB (box i) σ)
  (h:∀ i H,I i H->b.m P (NEx.then (fun σ' H'=>∃ j,μ j<μ i∧I j H'∧LeE (env j) σ'∧LeB (box j) σ'∧σ'.defs=σ.defs) Qe) (stOf σ.defs (env i) (box i)) H):(Zaj.loop b).m P Qe σ H:=⟨ι,I,μ,env,box,i,h0,⟨he,hb⟩,h⟩
end
end Go.LL
end
section
open Go Go.LL
namespace Go.Proofs
theorem t21:Zb5 Tryz.prog 21=some none:=by kernel_rfl
def convOk (p:Program)(src dst:TypeId):Bool:=
 match p.underlying src,p.underlying dst with
 | some (.pointer t),some .unsafePointer=>match p.info? t with
  | some i=>!(decide (i.size=0))
  | none=>false
 | _,_=>false
theorem ZhZ {p:Program}{src dst:TypeId}(h:convOk p src dst=true):Zls p src dst:=by
 unfold convOk at h
 split at h
 ·split at h
  ·rename_i t h1 h2 _ i hi
   exact⟨⟨t,h1,h2,by rw[hi];simpa using h⟩⟩
  ·simp at h
 ·simp at h
theorem ZcX:Zls Tryz.prog 292 244:=ZhZ (by kernel_rfl)
theorem Zjz:Zls Tryz.prog 242 244:=ZhZ (by kernel_rfl)
theorem ZmK:Zls Tryz.prog 249 244:=ZhZ (by kernel_rfl)
theorem nr211:norace Tryz.prog 234=true:=by kernel_rfl
section
variable  {c:Cx}{i:Nat}{H0:Hp}
def Got (c:Cx)(i:Nat)(H0:Hp)(H':Hp):Prop:=∃ (l:List Nat) (Hl:Hp),c.PI l Hl∧i ∉ l∧c.need i=true∧Hl.gh=[]∧(H0.tagged (12 :: l)).Comp Hl∧H'=(H0.tagged (12 :: l)).join Hl
noncomputable abbrev pw (c:Cx)(i:Nat):Prg:=(team Tryz.prog c).prgW i
abbrev ptr (b:Nat):Value:=.pointer (some (mkA b))
theorem lock163 (ok:c.Ok)(hneed:c.need i=true)(hslow:∀ H:Hp,H.gh=[3]->LL.Zag (pw c i) 211 #[ptr c.M] H fun _ H'=>Got c i H H'){H:Hp}(hg:H.gh=[1]):LL.Zag (pw c i) 168 #[ptr c.M] H fun _ H'=>Got c i H H':=by
 refine IsN.m (P:=pw c i) c163 (args:=[ptr c.M]) rfl ?_
 unfold n163
 refine wsT ?_
 refine Zax e151 (vs:=[]) rfl (Zff ok e151 (by rw[hg];rfl) hneed) ?_
 rintro v _ ⟨rfl,rfl⟩
 refine wsT ?_
 refine Zax e194 (vs:=[ptr c.M,.int .i32 0,.int .i32 1]) rfl (ZiY ok e194 (by rfl)) ?_
 rintro v _ (⟨rfl,rfl⟩ | ⟨rfl,rfl⟩)
 ·refine wsT ?_
  refine Zax e152 (vs:=[]) rfl (ZaG ok e152 (by rfl)) ?_
  rintro v _ ⟨rfl,rfl⟩
  refine wsT ?_
  refine Zcj rfl (ZbO ok ZcX rfl (.inl rfl) (.inl (by simp[Hp.tagged,cd]))) ?_
  rintro v _ ⟨rfl,rfl⟩
  refine wsT ?_
  refine Zax e165 (vs:=[ptr c.M]) rfl (Zcm ok e165 (by rfl)) ?_
  rintro v _ ⟨rfl,l,Hl,h1,h2,h3,h4,h5,rfl⟩
  refine wsT ?_
  exact⟨l,Hl,h1,h2,h3,h4,h5,rfl⟩
 ·refine wsT ?_
  refine Zab (vs:=[ptr c.M]) rfl (hslow _ rfl) ?_
  rintro v H' ⟨l,Hl,h1,h2,h3,h4,h5,rfl⟩
  refine wsT ?_
  exact⟨l,Hl,h1,h2,h3,h4,h5,rfl⟩
end
def Zmo:Zaj:=(.block 0 (.loop (.block 1 (.seq (.seq (.ops [⟨none,(some 14),(.mov (.tmp 4))⟩,⟨none,(some 15),(.raw (.binOp .shr 21 (.tmp 14) (.const (.int .u64 3)) 240) 21)⟩,⟨none,(some 16),(.bin .eql (.tmp 15) (.const (.int .i32 0)))⟩,⟨none,(some 17),(.mov (.tmp 16))⟩,⟨(some (17,false)),(some 18),(.mov (.tmp 4))⟩,⟨(some (17,false)),(some 19),(.raw (.binOp .and 21 (.tmp 18) (.const (.int .i32 7)) 21) 21)⟩,⟨(some (17,false)),(some 20),(.bin .neq (.tmp 19) (.const (.int .i32 0)))⟩,⟨none,(some 21),(.pick (.tmp 17) (.const (.bool true)) (.tmp 20))⟩]) (.cond (.tmp 21) .ret .skip)) (.seq (.ops [⟨none,(some 22),(.mov (.tmp 4))⟩,⟨none,(some 23),(.raw (.binOp .sub 21 (.tmp 22) (.const (.int .i32 8)) 21) 21)⟩,⟨none,(some 24),(.raw (.binOp .or 21 (.tmp 23) (.const (.int .i32 2)) 21) 21)⟩,⟨none,(some 1),(.mov (.tmp 24))⟩]) (.seq (.seq (.ops [⟨none,(some 25),(.mov (.tmp 0))⟩,⟨none,(some 26),(.raw (.nilCheck (.tmp 25)) 0)⟩,⟨none,(some 27),(.fadr 0 (.tmp 26))⟩,⟨none,(some 28),(.mov (.tmp 4))⟩,⟨none,(some 29),(.mov (.tmp 1))⟩,⟨none,(some 30),(.raw (.call (.mk (.value (.func 210)) #[(.tmp 27),(.tmp 28),(.tmp 29)] #[294,21,21])) 4)⟩]) (.cond (.tmp 30) (.seq (.ops [⟨none,(some 31),(.mov (.tmp 0))⟩,⟨none,(some 32),(.raw (.nilCheck (.tmp 31)) 0)⟩,⟨none,(some 33),(.fadr 1 (.tmp 32))⟩,⟨none,(some 34),(.raw (.call (.mk (.value (.func 237)) #[(.tmp 33),(.const (.bool false)),(.const (.int .i64 2))] #[249,4,3])) 0)⟩]) .ret) .skip)) (.ops [⟨none,(some 35),(.mov (.tmp 0))⟩,⟨none,(some 36),(.raw (.nilCheck (.tmp 35)) 0)⟩,⟨none,(some 37),(.fadr 0 (.tmp 36))⟩,⟨none,(some 38),(.rawn (.load 21 (.tmp 37)) 21)⟩,⟨none,(some 4),(.mov (.tmp 38))⟩])))))))
section
variable  {c:Cx}{i:Nat}{H0:Hp}
theorem ZfE (ok:c.Ok){kd:CallKind}(hkd:kd=.normal∨kd=.deferred){L W S n m:Nat}(hB:Bits L W S n){H:Hp}{v:Value}(hv:v=.int .i32 (stv L W S n:Nat))(hL:L=0)
  (hg:(S=0∧(n=0∨W=1)∧H.gh=[18])∨(W=0∧S=0∧1<=n∧H.gh=[15,stv 0 0 0 n,m])∨(S=1∧H.gh=[17])) :
  ZbE (pw c i) kd 213 #[ptr c.M,v] H fun _ H'=>H'=H.tagged [18]:=by
 subst hv hL
 refine IsN.mK (P:=pw c i) hkd c197 (args:=[ptr c.M,.int .i32 (stv 0 W S n:Nat)]) rfl ?_
 unfold n197
 refine wsT ?_
 refine ZaY rfl rfl rfl ?_
 have e1:IntKind.i32.wrap ((stv 0 W S n:Nat)+1)=((stv 1 W S n:Nat):Int):=by
  have:=hB.lt
  have e:((stv 0 W S n:Nat):Int)+1=((stv 1 W S n:Nat):Int):=by unfold stv;omega
  rw[<-e,ZdN (by omega) (by omega)]
 show MOps _ _ _ (NSt.set _ _ (.int .i32 (IntKind.i32.wrap _))) _
 rw[e1]
 have hB1:Bits 1 W S n:=⟨by omega,hB.W,hB.S,hB.n⟩
 refine wsT ?_
 refine Zam rfl rfl (.inl rfl) hB1.and1 ?_
 refine wsT ?_
 refine ZaD rfl rfl rfl (by simp) ?_
 refine wsT ?_
 refine Zam rfl rfl (.inl rfl) hB.and4 ?_
 refine wsT ?_
 have hloop:∀ σ:NSt,S=0->∀ live:Bool,(live=false->(W=1∨n=0)∧H.gh=[18])->(live=true->W=0∧1<=n∧H.gh=[15,stv 0 0 0 n,m])->σ.env 0=some (ptr c.M)->σ.env 4=some (.int .i32 (stv 0 W S n:Nat))->σ.defs=[] ->
   (Zmo).m (pw c i) (MFin (pw c i) r197 fun _ H'=>H'=H.tagged [18]) σ H:=by
  intro σ hS live hl1 hl2 hs0 hs4 hdefs
  unfold Zmo
  refine wsT ?_
  refine Zf0 (fun (j:Nat×Nat×Nat×Nat×Nat×Bool) H'=>Bits j.1 j.2.1 j.2.2.1 j.2.2.2.1∧(j.2.2.2.2.2=false->(j.1=1∨j.2.1=1∨j.2.2.1=1∨j.2.2.2.1=0)∧H'=H.tagged [18]) ∧
    (j.2.2.2.2.2=true->j.1=0∧j.2.1=0∧j.2.2.1=0∧1<=j.2.2.2.1∧H'=H.tagged [15,stv 0 0 0 j.2.2.2.1,j.2.2.2.2.1]))
   (fun j=>bif j.2.2.2.2.2 then j.2.2.2.2.1+1 else 0) (fun j=>[(0,ptr c.M),(4,.int .i32 (stv j.1 j.2.1 j.2.2.1 j.2.2.2.1:Nat))]) (fun _=>[]) (0,W,0,n,m,live) ?_ ⟨hs0,by rw[hs4,hS],trivial⟩ trivial ?_
  ·subst hS
   refine⟨hB,fun e=>⟨(hl1 e).1.elim (fun h=>.inr (.inl h)) fun h=>.inr (.inr (.inr h)),by rw[<-(hl1 e).2];exact(ZcN H).symm⟩,fun e=>⟨rfl,(hl2 e).1,rfl,(hl2 e).2.1,by rw[<-(hl2 e).2.2];exact(ZcN H).symm⟩⟩
  rintro⟨L',W',S',n',m',live'⟩ H' ⟨hB',hI1,hI2⟩
  simp only at hB' hI1 hI2
  rw[hdefs]
  refine wsT ?_
  refine Za5 rfl rfl (.inl rfl) (by decide) hB'.shr3 ?_
  refine wsT ?_
  cases live' with
  | false=>
   obtain⟨hc,rfl⟩:=hI1 rfl
   by_cases hn:n'=0
   ·refine ZaV rfl rfl rfl (by simp[hn]) ?_
    refine wsT ?_
    rfl
   ·refine ZaD rfl rfl rfl (by simpa using hn) ?_
    refine wsT ?_
    refine Zam rfl rfl (.inl rfl) hB'.and7 ?_
    refine wsT ?_
    refine Za8 rfl rfl rfl (by omega) ?_
    refine wsT ?_
    rfl
  | true=>
   obtain⟨rfl,rfl,rfl,h1,rfl⟩:=hI2 rfl
   refine ZaD rfl rfl rfl (by omega) ?_
   refine wsT ?_
   refine Zam rfl rfl (.inl rfl) hB'.and7 ?_
   refine wsT ?_
   refine ZaA rfl rfl rfl (by simp) ?_
   refine wsT ?_
   obtain⟨k,rfl⟩:∃ k,n'=k+1:=⟨n'-1,by omega⟩
   have hB2:Bits 0 0 0 k:=⟨by omega,by omega,by omega,by have:=hB'.n;omega⟩
   refine Zam rfl rfl (.inr (.inr (.inr rfl))) hB'.sub8 ?_
   refine wsT ?_
   refine Zam rfl rfl (.inr (.inl rfl)) hB2.or2 ?_
   refine wsT ?_
   refine Zax e194 (vs:=[ptr c.M,.int .i32 (stv 0 0 0 (k+1):Nat),.int .i32 (stv 0 1 0 k:Nat)]) rfl (ZiX ok e194 hB' (by rfl)) ?_
   rintro v _ (⟨rfl,rfl⟩ | ⟨rfl,rfl⟩)
   ·refine wsT ?_
    refine Zax e214 (vs:=[.pointer (some ((mkA c.M).add 1)),.bool false,.int .i64 2]) rfl (Zhc ok e214 rfl (by rfl)) ?_
    rintro v _ ⟨rfl,rfl⟩
    refine wsT ?_
    rfl
   ·refine wsT ?_
    refine ZbV rfl (Zlp ok t21 rfl (by rfl)) ?_
    rintro v _ (⟨L2,W2,S2,n2,hB3,hc3,rfl,rfl⟩ | ⟨n2,m2,hB3,h3,rfl,rfl,hm⟩)
    ·refine wsT ?_
     exact⟨(L2,W2,S2,n2,0,false),by simp,⟨hB3,fun _=>⟨hc3,rfl⟩,fun e=>by simp at e⟩,⟨rfl,rfl,trivial⟩,trivial,rfl⟩
    ·refine wsT ?_
     exact⟨(0,0,0,n2,m2,true),by simpa using hm,⟨hB3,fun e=>by simp at e,fun _=>⟨rfl,rfl,rfl,h3,rfl⟩⟩,⟨rfl,rfl,trivial⟩,trivial,rfl⟩
 rcases hg with ⟨rfl,h1,h2⟩ | ⟨rfl,rfl,h1,h2⟩ | ⟨rfl,h2⟩
 ·refine ZaV rfl rfl rfl (by simp) ?_
  refine wsT ?_
  exact hloop _ rfl false (fun _=>⟨h1.symm,h2⟩) (fun e=>by simp at e) rfl rfl rfl
 ·refine ZaV rfl rfl rfl (by simp) ?_
  refine wsT ?_
  exact hloop _ rfl true (fun e=>by simp at e) (fun _=>⟨rfl,h1,h2⟩) rfl rfl rfl
 ·refine ZaD rfl rfl rfl (by simp) ?_
  refine wsT ?_
  refine Zax e214 (vs:=[.pointer (some ((mkA c.M).add 1)),.bool true,.int .i64 2]) rfl (Zhc ok e214 rfl h2) ?_
  rintro v _ ⟨rfl,rfl⟩
  refine wsT ?_
  rfl
theorem ZlF (ok:c.Ok){kd:CallKind}(hkd:kd=.normal∨kd=.deferred){Hl:Hp}{l:List Nat}(hc:H0.Comp Hl)(hg:H0.gh=12 :: l)(hPI:c.PI (l++[i]) Hl) :
  ZbE (pw c i) kd 169 #[ptr c.M] (H0.join Hl) fun _ H'=>H'=H0.tagged [19]:=by
 have hlg:Hl.gh=[]:=hc.gh.resolve_left (by rw[hg];simp)
 have hjg:(H0.join Hl).gh=12 :: l:=by rw[Hp.join_gh,hlg,hg];simp
 have hact:cAct (H0.join Hl).gh:=by rw[hjg];exact .inl (by simp[cd])
 refine IsN.mK (P:=pw c i) hkd c164 (args:=[ptr c.M]) rfl ?_
 unfold n164
 refine wsT ?_
 refine ZbV rfl (Zk1 ok t21 rfl hact) ?_
 rintro v _ rfl
 refine wsT ?_
 refine Zcj rfl (ZbO ok ZcX rfl (.inl rfl) hact) ?_
 rintro v _ ⟨rfl,rfl⟩
 refine wsT ?_
 refine Zax e150 (vs:=[ptr c.M]) rfl (act_give ok e150 hc hg hPI) ?_
 rintro v _ ⟨rfl,rfl⟩
 refine wsT ?_
 refine Zax e151 (vs:=[]) rfl (Zel ok e151 (by rfl)) ?_
 rintro v _ ⟨rfl,rfl⟩
 refine wsT ?_
 refine Zax e196 (vs:=[ptr c.M,.int .i32 (-1)]) rfl (Zlo ok e196 (by rfl)) ?_
 have fin:∀ {σ:NSt} {H:Hp},H.gh=[18]->H.tagged [19]=H0.tagged [19]->σ.defs=[]->(Zaj.ops [⟨none,some 20,.raw (.call (.mk (.value (.func 157)) #[] #[])) 0⟩]).m (pw c i) (MFin (pw c i) r164 fun _ H'=>H'=H0.tagged [19]) σ H:=by
  intro σ H hg he hd
  refine wsT ?_
  refine Zax e152 (vs:=[]) rfl (ZeV ok e152 (by rw[hg];rfl)) ?_
  rintro v _ ⟨rfl,rfl⟩
  refine wsT ?_
  exact Ze1 (ZcW (vs:=[]) hd rfl rfl he)
 rintro v _ (⟨W,n,hB,h1,rfl,rfl⟩ | ⟨n,m,hB,h1,rfl,rfl⟩ | ⟨n,hB,rfl,rfl⟩)
 ·by_cases h0:stv 0 W 0 n=0
  ·refine wsT ?_
   refine ZaA rfl rfl rfl (by simpa using h0) ?_
   refine wsT ?_
   exact fin rfl rfl rfl
  ·refine wsT ?_
   refine Za8 rfl rfl rfl (by simpa using h0) ?_
   refine wsT ?_
   refine Zab (vs:=[ptr c.M,.int .i32 (stv 0 W 0 n:Nat)]) rfl (ZfE (m:=0) ok (.inl rfl) hB rfl rfl (.inl ⟨rfl,h1,rfl⟩)).calls ?_
   rintro v _ rfl
   refine wsT ?_
   exact fin rfl rfl rfl
 ·refine wsT ?_
  refine Za8 rfl rfl rfl (by unfold stv;omega) ?_
  refine wsT ?_
  refine Zab (vs:=[ptr c.M,.int .i32 (stv 0 0 0 n:Nat)]) rfl (ZfE (m:=m) ok (.inl rfl) hB rfl rfl (.inr (.inl ⟨rfl,rfl,h1,rfl⟩))).calls ?_
  rintro v _ rfl
  refine wsT ?_
  exact fin rfl rfl rfl
 ·refine wsT ?_
  refine Za8 rfl rfl rfl (by unfold stv;omega) ?_
  refine wsT ?_
  refine Zab (vs:=[ptr c.M,.int .i32 (stv 0 0 1 n:Nat)]) rfl (ZfE (m:=0) ok (.inl rfl) hB rfl rfl (.inr (.inr ⟨rfl,rfl⟩))).calls ?_
  rintro v _ rfl
  refine wsT ?_
  exact fin rfl rfl rfl
theorem ZlE (ok:c.Ok){kd:CallKind}(hkd:kd=.normal∨kd=.deferred){Hl:Hp}{l:List Nat}(hc:H0.Comp Hl)(hg:H0.gh=12 :: l)(hPI:c.PI (l++[i]) Hl) :
  ZbE (pw c i) kd 107 #[ptr c.M] (H0.join Hl) fun _ H'=>H'=H0.tagged [19]:=by
 refine IsN.mK (P:=pw c i) hkd c114 (args:=[ptr c.M]) rfl ?_
 unfold n114
 refine wsT ?_
 refine Zab (vs:=[ptr c.M]) rfl (ZlF ok (.inl rfl) hc hg hPI).calls ?_
 rintro v _ rfl
 refine wsT ?_
 rfl
end
end Go.Proofs
end
