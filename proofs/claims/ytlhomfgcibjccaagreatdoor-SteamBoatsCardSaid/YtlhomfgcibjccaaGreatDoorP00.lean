import Derived.KernelRfl
import Derived.Control
set_option linter.all false
abbrev aT:=@if_neg
abbrev bY:=@List.getElem_mem
abbrev dO:=@Nat.le_refl
abbrev iF:=@if_pos
abbrev iN:=@List.take_succ_eq_append_getElem
abbrev iO:=@Option.some.inj
abbrev oR:=@List.mem_singleton
abbrev BY:=@List.length_append
abbrev DO:=@Bool.false_eq_true
abbrev IF:=@List.take_length
abbrev IN:=@List.all_eq_true
abbrev qAa:=@List.getD_eq_getElem?_getD
abbrev qAb:=@List.eq_nil_of_length_eq_zero
abbrev qAc:=@Bool.and_eq_true
abbrev qAd:=@Classical.byContradiction
abbrev qAe:=@Option.some.injEq
abbrev qAf:=@List.append_nil
abbrev qAg:=@List.length_set
abbrev qAh:=@List.length_map
abbrev qAi:=@List.mem_append
abbrev qAj:=@List.length_take
abbrev qAk:=@List.mem_iff_getElem
abbrev qAl:=@List.mem_range
abbrev qAm:=@Array.all_eq_true_iff_forall_mem
abbrev qAn:=@List.getElem?_eq_none
abbrev qAo:=@decide_eq_false
abbrev qAp:=@List.getElem_append_left
abbrev qAq:=@List.mem_cons
abbrev qAr:=@List.getElem_append_right
abbrev qAs:=@List.length_cons
abbrev qAt:=@List.length_eq_zero_iff
abbrev qAu:=@Array.getElem?_setIfInBounds_ne
abbrev qAv:=@List.mem_toArray
abbrev qAw:=@if_false
abbrev qAx:=@Int.le_refl
abbrev qAy:=@decide_eq_true_iff
abbrev qAz:=@Nat.le_trans
abbrev qAA:=@List.length_singleton
abbrev qAB:=@List.mem_map
abbrev qAC:=@List.mem_filter
abbrev qAD:=@Int.toNat_natCast
abbrev qAE:=@Nat.zero_add
abbrev qAF:=@Ne.symm
abbrev qAG:=@Array.append_empty
abbrev qAH:=@List.getElem?_toArray
abbrev qAI:=@Nat.zero_le
abbrev qAJ:=@List.pairwise_cons
abbrev qAK:=@Array.getElem?_eq_some_iff
abbrev qAL:=@Option.map_eq_some_iff
abbrev qAM:=@List.flatMap_cons
abbrev qAN:=@List.filter_cons
abbrev qAO:=@Array.getElem?_setIfInBounds_self_of_lt
abbrev qAP:=@List.mem_cons_of_mem
abbrev qAQ:=@List.flatMap_singleton
abbrev qAR:=@decide_eq_true_eq
abbrev qAS:=@List.pairwise_singleton
abbrev qAT:=@List.getElem?_cons_succ
abbrev qAU:=@Nat.add_sub_cancel
abbrev qAV:=@List.getElem?_cons_zero
abbrev qAW:=@List.append_assoc
abbrev qAX:=@List.length_pos_iff
abbrev qAY:=@List.pairwise_iff_getElem
abbrev qAZ:=@List.getElem_map
abbrev qBa:=@List.foldl_cons
abbrev qBb:=@List.flatMap_append
abbrev qBc:=@congrArg
abbrev qBd:=@List.length_filter_le
abbrev qBe:=@Bool.not_eq_true'
abbrev qBf:=@List.getElem?_append_left
abbrev qBg:=@List.any_eq_true
abbrev qBh:=@Array.mem_toList_iff
abbrev qBi:=@Nat.lt_or_ge
abbrev qBj:=@List.length_replicate
abbrev qBk:=@decide_eq_decide
abbrev qBl:=@List.ext_getElem
abbrev qBm:=@Nat.not_lt_zero
abbrev qBn:=@List.pairwise_append
abbrev qBo:=@Nat.eq_zero_or_pos
abbrev qBp:=@if_true
abbrev qBq:=@Nat.mul_le_mul
abbrev qBr:=@Int.eq_ofNat_of_zero_le
abbrev qBs:=@List.range_succ
abbrev qBt:=@List.nil_append
abbrev qBu:=@Nat.lt_of_lt_of_le
abbrev qBv:=@List.mem_cons_self
abbrev qBw:=@List.drop_eq_nil_of_le
abbrev qBx:=@Array.mem_append
abbrev qBy:=@Array.length_toList
abbrev qBz:=@Nat.pow_le_pow_right
abbrev qBA:=@List.length_filter_eq_length_iff
abbrev qBB:=@Array.getElem?_eq_getElem
abbrev qBC:=@List.getElem_take
abbrev qBD:=@Prod.mk.injEq
abbrev qBE:=@List.getElem?_eq_getElem
abbrev qBF:=@List.length_range
abbrev qBG:=@List.cons_append
abbrev qBH:=@decide_eq_false_iff_not
abbrev qBI:=@Nat.sub_zero
abbrev qBJ:=@Array.mem_of_getElem?
abbrev qBK:=@List.pairwise_map
abbrev qBL:=@List.map_append
abbrev qBM:=@List.cons.injEq
abbrev qBN:=@Nat.eq_of_beq_eq_true
abbrev qBO:=@Int.add_zero
abbrev qBP:=@List.getElem?_append_right
abbrev qBQ:=@List.getElem_inj
abbrev qBR:=@Bool.eq_false_iff
abbrev qBS:=@List.filter_append
abbrev qBT:=@Bool.eq_iff_iff
abbrev qBU:=@Bool.not_false
abbrev qBV:=@List.nodup_append
abbrev qBW:=@List.filter_congr
abbrev qBX:=@Int.tdiv_eq_ediv_of_nonneg
abbrev qBY:=@Nat.succ_mul
abbrev qBZ:=@Option.map_some
abbrev qCa:=@List.take_zero
abbrev qCb:=@List.forIn_cons
abbrev qCc:=@List.drop_eq_getElem_cons
abbrev qCd:=@List.forIn_toArray
abbrev qCe:=@Array.getD_eq_getD_getElem?
abbrev qCf:=@List.not_mem_nil
abbrev qCg:=@List.getElem_set
abbrev qCh:=@List.perm_ext_iff_of_nodup
abbrev qCi:=@Nat.add_mul
abbrev qCj:=@Option.isSome_iff_exists
abbrev qCk:=@Nat.lt_of_le_of_lt
abbrev qCl:=@List.getElem_range
abbrev qCm:=@Array.getElem?_map
abbrev qCn:=@beq_self_eq_true
abbrev qCo:=@List.map_toArray
abbrev qCp:=@List.flatMap_nil
abbrev qCq:=@List.map_cons
abbrev qCr:=@Nat.min_eq_left
abbrev qCs:=@Bool.or_eq_true
abbrev qCt:=@List.take_of_length_le
abbrev qCu:=@implies_true
abbrev qCv:=@Nat.sub_self
abbrev qCw:=@List.take_append_drop
abbrev qCx:=@List.set_eq_take_append_cons_drop
abbrev qCy:=@List.append_of_mem
abbrev qCz:=@Int.le_trans
abbrev qCA:=@Array.getElem?_modify
abbrev qCB:=@List.exists_mem_of_ne_nil
abbrev qCC:=@List.range_zero
abbrev qCD:=@List.getElem?_set
abbrev qCE:=@List.foldl_append
abbrev qCF:=@List.eq_nil_iff_forall_not_mem
abbrev qCG:=@List.map_congr_left
abbrev qCH:=@Iff.rfl
abbrev qCI:=@Int.max_eq_right
abbrev qCJ:=@List.getElem?_drop
abbrev qCK:=@Int.tmod_lt_of_pos
abbrev qCL:=@Array.getElem?_setIfInBounds
abbrev qCM:=@Nat.testBit_two_pow_mul_add
abbrev qCN:=@Nat.le_of_ble_eq_true
abbrev qCO:=@List.nodup_cons
abbrev qCP:=@List.map_map
abbrev qCQ:=@Std.Legacy.Range.forIn_eq_forIn_range'
abbrev qCR:=@Int.lt_irrefl
abbrev qCS:=@Int.fdiv_eq_ediv_of_nonneg
abbrev qCT:=@Nat.mul_le_mul_right
abbrev qCU:=@Array.toArray_toList
abbrev qCV:=@Array.getElem?_push
abbrev qCW:=@Nat.add_zero
abbrev qCX:=@List.set_set
abbrev qCY:=@Nat.testBit_mod_two_pow
abbrev qCZ:=@Nat.testBit_and
abbrev qDa:=@List.getElem?_take
abbrev qDb:=@List.any_append
abbrev qDc:=@Int.tmod_nonneg
abbrev qDd:=@Int.le_max_left
abbrev qDe:=@Array.empty_append
abbrev qDf:=@Nat.testBit_lt_two_pow
abbrev qDg:=@List.filter_eq_nil_iff
abbrev qDh:=@Array.getElem?_eq_none
abbrev qDi:=@Nat.lt_trichotomy
abbrev qDj:=@List.any_eq_false
abbrev qDk:=@Bool.false_and
abbrev qDl:=@and_congr
abbrev qDm:=@Nat.zero_mul
abbrev qDn:=@List.pairwise_reverse
abbrev qDo:=@List.map_nil
abbrev qDp:=@Array.mem_iff_getElem
abbrev qDq:=@List.take_append_of_le_length
abbrev qDr:=@List.mem_flatMap
abbrev qDs:=@List.drop_length
abbrev qDt:=@BitVec.toNat_and
abbrev qDu:=@Nat.eq_of_testBit_eq
abbrev qDv:=@List.contains_eq_mem
abbrev qDw:=@Nat.add_assoc
abbrev qDx:=@Nat.not_lt
abbrev qDy:=@List.filter_map
abbrev qDz:=@or_false
abbrev qDA:=@Nat.pow_succ
abbrev qDB:=@Nat.le_of_lt
abbrev qDC:=@Int.natCast_nonneg
abbrev qDD:=@BitVec.toNat_ofInt
abbrev qDE:=@Array.foldl_toList
abbrev qDF:=@Option.isNone_iff_eq_none
abbrev qDG:=@List.append_eq_append_iff
abbrev qDH:=@beq_iff_eq
abbrev qDI:=@Nat.lt_succ_iff_lt_or_eq
abbrev qDJ:=@List.getElem?_take_of_lt
abbrev qDK:=@Option.bind_eq_some_iff
abbrev qDL:=@List.lookup_eq_some_iff
abbrev qDM:=@List.length_drop
abbrev qDN:=@List.drop_of_length_le
abbrev qDO:=@Nat.le_of_eq
abbrev qDP:=@List.pairwise_flatMap
abbrev qDQ:=@List.all_append
abbrev qDR:=@Int.min_le_left
abbrev qDS:=@Nat.mod_lt
abbrev qDT:=@List.mem_of_mem_take
abbrev qDU:=@Or.imp
abbrev qDV:=@Nat.testBit_or
abbrev qDW:=@Nat.sub_lt_sub_left
abbrev qDX:=@List.take_set_of_le
abbrev qDY:=@and_true
abbrev qDZ:=@Prod.lexAccessible
abbrev qEa:=@Bool.not_true
abbrev qEb:=@Array.append_assoc
abbrev qEc:=@dif_neg
abbrev qEd:=@List.getElem?_map
abbrev qEe:=@List.ext_getElem?
abbrev qEf:=@List.map_set
abbrev qEg:=@Nat.min_eq_right
abbrev qEh:=@Nat.lt_succ_self
abbrev qEi:=@List.drop_append
abbrev qEj:=@Int.natCast_zero
abbrev qEk:=@Int.natCast_succ
abbrev qEl:=@List.dropLast_concat_getLast
abbrev qEm:=@List.countP_eq_length_filter
def O{p:Prop}(h:p:=by omega):p:=h
def U{p:Prop}(h:p:=by kernel_rfl):p:=h
def V{p:Prop}(h:p:=by repeat (first | exact trivial | refine⟨rfl,?_⟩)):p:=h
def Go.LL.bN{n j:Nat}(h:j<n):n-(j+1)<n-j:=qDW h (qEh j)
namespace Go.LL
section
variable{r b n:Nat}{α:Type}{w:World}{a:Addr}
structure Hp where
 mem:Nat->Option (Obj×Bool)
 gh:List Nat
instance:CoeFun Hp (λ_=>Nat->Option (Obj×Bool)):=⟨Hp.mem⟩
def Hp.ext'{H F:Hp}(h:∀b,H b=F b)(g:H.gh=F.gh):H=F:=by
 cases H;cases F
 obtain rfl:=g;congr;exact funext h
def Hp.nil:Hp:=⟨λ_=>none,[]⟩
def Hp.ins(H:Hp)(r:Nat)(o:Obj):Hp:=⟨λb=>if b=r then some (o,true)else H b,H.gh⟩
theorem Hp.eM(H:Hp)(r:Nat)(o:Obj)(b:Nat):H.ins r o b=if b=r then some (o,true)else H b:=rfl
def Hp.le(H:Hp)(w:World):Prop:=∀b o p,H b=some (o,p)->w.heap[b]? = some o
def Hp.aG(H:Hp)(r:Nat)(o:Obj):H.ins r o r=some (o,true):=by simp[Hp.eM]
def Hp.aH(H:Hp)(o:Obj)(h:b≠r):H.ins r o b=H b:=by simp[Hp.eM,h]
def Obj.kC(o:Obj)(i:Nat):Bool:=
 match o with
 | .cells _ _ (e,d)=>e<=i && i<d
 | _=>false
def Obj.oK(o:Obj):Option (TypeId×Nat):=
 match o with
 | .cells c e _=>some (e,c.size)
 | _=>none
def Obj.oP:Obj->Bool
 | .cells ..=>true
 | _=>false
def Obj.put(o:Obj)(i:Nat)(v:Value):Obj:=
 match o with
 | .cells c e f=>.cells (c.setIfInBounds i v) e f
 | o=>o
def Obj.pA(o:Obj)(i n:Nat):Obj:=
 match o with
 | .cells c e (g,d)=>.cells c e (if g == d then(i,i+n)else(min g i,max d (i+n)))
 | o=>o
def Obj.mB(o:Obj)(i:Nat):Option Value:=
 match o with
 | .cells c _ _=>c[i]?
 | _=>none
def Value.cJ:Value->Bool
 | .agg _ | .tuple _=>false
 | _=>true
structure PQ extends Program where
 still:List Nat->Bool
 stillNil:still []=false->∀g,still g=false
instance:Coe PQ Program:=⟨PQ.toProgram⟩
def bL(P:PQ){α:Type}:Sem α->(α->Bool->Hp->Prop)->Bool->Hp->Prop
 | .pure a,Q,g,H=>Q a g H
 | .load m a k,Q,g,H=>∃o p v,(P.still H.gh=false/\H a.block=some (o,p))/\m=.plain/\a.spot=none/\Obj.mB o a.off=some v/\bL P (k v) Q g H
 | .store m a v k,Q,g,H=>∃o,(P.still H.gh=false/\H a.block=some (o,true))/\m=.plain/\a.spot=none/\Value.cJ v=true/\(Obj.mB o a.off).isSome=true/\Obj.kC o a.off=false /\
   bL P k Q g (H.ins a.block (Obj.put o a.off v))
 | .new o k,Q,g,H=>P.still H.gh=false/\∀r,H r=none->bL P (k r) Q g (H.ins r o)
 | .shape r k,Q,g,H=>∃o p,(P.still H.gh=false/\H r=some (o,p))/\bL P (k (Obj.oK o)) Q g H
 | .freeze a n k,Q,g,H=>(n=0/\bL P k Q g H)\/∃o,(P.still H.gh=false/\H a.block=some (o,true))/\n≠0/\bL P k Q g (H.ins a.block (Obj.pA o a.off n))
 | .frozen a k,Q,g,H=>∃o p,(P.still H.gh=false/\H a.block=some (o,p))/\bL P (k (Obj.kC o a.off)) Q g H
 | .getObj r k,Q,g,H=>∃o p,(P.still H.gh=false/\H r=some (o,p))/\Obj.oP o=false/\o.isChan=false/\bL P (k o) Q g H
 | .setObj r o k,Q,g,H=>∃d,(P.still H.gh=false/\H r=some (d,true))/\Obj.oP d=false/\d.isChan=false/\o.isChan=false/\bL P k Q g (H.ins r o)
 | .choose q k,Q,g,H=>if q.forced then bL P (k 0) Q g H else P.still H.gh=false/\∀t,bL P (k (q.cut t)) Q g H
 | .sys _ _,_,_,_=>False
 | .program k,Q,g,H=>bL P (k P.toProgram) Q g H
 | .mark m k,Q,g,H=>((∃f,m=.extern f)\/(m=.noRoom/\P.still H.gh=false))/\bL P k Q g H
 | .halt _,_,_,_=>False
def Vi{P:PQ}{s:Sem α}{Q Q':α->Bool->Hp->Prop}(D:∀a g H,Q a g H->Q' a g H):∀{g:Bool} {H:Hp},bL P s Q g H->bL P s Q' g H:=by
 induction s with
 | pure a=>exact λh=>D _ _ _ h
 | load m a k ih=>exact λ⟨o,p,v,d,e,j,u,z⟩=>⟨o,p,v,d,e,j,u,ih v z⟩
 | store m a v k ih=>exact λ⟨o,d,e,j,u,z,B,C⟩=>⟨o,d,e,j,u,z,B,ih C⟩
 | new o k ih=>exact λh=>⟨h.1,λr E=>ih r (h.2 r E)⟩
 | shape r k ih=>exact λ⟨o,p,d,e⟩=>⟨o,p,d,ih _ e⟩
 | freeze a n k ih=>exact λh=>h.imp (λ⟨d,e⟩=>⟨d,ih e⟩) (λ⟨o,d,e,j⟩=>⟨o,d,e,ih j⟩)
 | frozen a k ih=>exact λ⟨o,p,d,e⟩=>⟨o,p,d,ih _ e⟩
 | getObj r k ih=>exact λ⟨o,p,d,e,j,u⟩=>⟨o,p,d,e,j,ih _ u⟩
 | setObj r o k ih=>exact λ⟨F,d,e,j,u,z⟩=>⟨F,d,e,j,u,ih z⟩
 | choose q k ih=>
  intro g H h;by_cases A:q.forced=true
  ·simp only[bL,A,qBp]at h ⊢;exact ih _ h
  simp only[bL,A]at h ⊢;exact⟨h.1,λt=>ih _ (h.2 t)⟩
 | sys c k ih=>exact λh=>h
 | program k ih=>exact λh=>ih _ h
 | mark m k ih=>exact λ⟨d,e⟩=>⟨d,ih e⟩
 | halt h=>exact λh=>h
structure Fr(H:Hp)(w:World)(H':Hp)(w':World):Prop where
 os:w'.os=w.os
 tape:w'.tape=w.tape
 out:w'.output=w.output
 drawn:w.drawn<=w'.drawn
 size:w.heap.size<=w'.heap.size
 keep:∀b,b<w.heap.size->(∀o,H b≠some (o,true))->w'.heap[b]? = w.heap[b]?
 le:H'.le w'
 new:∀b,H b=none->H' b≠none->w.heap.size<=b
 ro:∀b o,H b=some (o,false)->H' b=some (o,false)
 rw:∀b o,H b=some (o,true)->∃o',H' b=some (o',true)
 gh:H'.gh=H.gh
def Hp.le.lt{H:Hp}(h:H.le w){x:Obj×Bool}(hb:H b=some x):b<w.heap.size:=by have:=h b x.1 x.2 hb;exact(qAK.1 this).1
theorem Fr.refl{H:Hp}(h:H.le w):Fr H w H w where
 os:=rfl
 tape:=rfl
 out:=rfl
 drawn:=dO _
 size:=dO _
 keep:=λ_ _ _=>rfl
 le:=h
 new:=λ_ d e=>absurd d e
 ro:=λ_ _ h=>h
 rw:=λ_ o h=>⟨o,h⟩
 gh:=rfl
def Fr.trans{g j q:Hp}{u v z:World}(a:Fr g u j v)(b:Fr j v q z):Fr g u q z where
 os:=b.os.trans a.os
 tape:=b.tape.trans a.tape
 out:=b.out.trans a.out
 drawn:=qAz a.drawn b.drawn
 size:=qAz a.size b.size
 keep:=λx m t=>by
  rw[b.keep x (qBu m a.size) ?_,a.keep x m t];intro o d;cases e:g x with
  | none=>exact absurd m (qDx.2 (a.new x e (by rw[d];simp)))
  | some y=>
   obtain⟨D,p⟩:=y;cases p with
   | true=>exact t _ e
   | false=>
    have:=a.ro x D e;rw[this]at d;simp at d
 le:=b.le
 new:=λx e B=>by
  cases d:j x with
  | none=>exact qAz a.size (b.new x d B)
  | some y=>exact a.new x e (by rw[d];simp)
 ro:=λx o h=>b.ro x o (a.ro x o h)
 rw:=λx o h=>by obtain⟨C,A⟩:=a.rw x o h;exact b.rw x C A
 gh:=b.gh.trans a.gh
def EvL(H:Hp)(w:World)(n:Nat)(e:Event):Prop:=
 match e.loc with
 | .cell a=>e.sync=false/\((∃o p,H a.block=some (o,p)/\(e.write=true->p=true))\/w.heap.size<=a.block/\a.block<n)
 | .obj r=>e.sync=false/\((∃o p,H r=some (o,p)/\(e.write=true->p=true))\/w.heap.size<=r/\r<n)
 | .mark (.extern _)=>True
 | .mark .noRoom=>True
 | _=>False
def EvL.yQ{H g:Hp}{w':World}(f:Fr H w g w')(t:w'.heap.size<=n){e:Event}(h:EvL g w' n e):EvL H w n e:=by
 have key:∀r,((∃o p,g r=some (o,p)/\(e.write=true->p=true))\/w'.heap.size<=r/\r<n)->((∃o p,H r=some (o,p)/\(e.write=true->p=true))\/w.heap.size<=r/\r<n):=by
  rintro r (⟨o,p,d,q⟩ | h)
  ·cases hr:H r with
   | none=>exact .inr ⟨f.new r hr (by rw[d];simp),qBu (f.le.lt d) t⟩
   | some y=>
    obtain⟨j,m⟩:=y;refine .inl ⟨j,m,rfl,λu=>?_⟩;cases m with
    | true=>rfl
    | false=>
     have:=f.ro r j hr;rw[this]at d;simp at d;have:=q u;rw[d.2]at this;exact this
  exact .inr ⟨qAz f.size h.1,h.2⟩
 unfold EvL at h ⊢;split at h
 ·exact⟨h.1,key _ h.2⟩
 ·exact⟨h.1,key _ h.2⟩
 ·trivial
 ·trivial
 trivial
def nS{o:Obj}{v:Value}(h:w.heap[a.block]? = some o)(e:a.spot=none)(d:Obj.mB o a.off=some v):w.cell? a=some v:=by
 unfold World.cell?;cases o<;>simp[Obj.mB]at d
 simp[h,e,d]
def oZ{o:Obj}(h:w.heap[a.block]? = some o):w.frozen? a=Obj.kC o a.off:=by unfold World.frozen? Obj.kC;rw[h];cases o<;>simp
def Hp.le.hY{H:Hp}(h:H.le w)(o:Obj):(H.ins w.heap.size o).le { w with heap:=w.heap.push o }:=by
 intro b e p hb;simp only[Hp.eM]at hb;split at hb
 ·subst b;simp at hb;simp[hb.1]
 have:=h b e p hb;have d:=(qAK.1 this).1;simp[qCV,this];omega
theorem Fr.alloc{H:Hp}(h:H.le w)(o:Obj):Fr H w (H.ins w.heap.size o) { w with heap:=w.heap.push o } where
 os:=rfl
 tape:=rfl
 out:=rfl
 drawn:=dO _
 size:=by simp
 keep:=λb hb _=>by simp[qCV];omega
 le:=h.hY o
 new:=λb g d=>by
  simp only[Hp.eM]at d;split at d
  ·omega
  exact absurd g d
 ro:=λb e hb=>by have:=h.lt hb;rw[Hp.aH _ _ O];exact hb
 rw:=λb e hb=>by have:=h.lt hb;exact⟨e,by rw[Hp.aH _ _ O];exact hb⟩
 gh:=rfl
theorem Fr.Hd{H:Hp}(h:H.le w)(d:Nat)(hd:w.drawn<=d):Fr H w H { w with drawn:=d } where
 os:=rfl
 tape:=rfl
 out:=rfl
 drawn:=hd
 size:=dO _
 keep:=λ_ _ _=>rfl
 le:=h
 new:=λ_ e g=>absurd e g
 ro:=λ_ _ h=>h
 rw:=λ_ o h=>⟨o,h⟩
 gh:=rfl
theorem Fr.write{H:Hp}(h:H.le w){o A:Obj}(hb:H b=some (o,true)){j:Array Obj}(z:j.size=w.heap.size)(u:j[b]? = some A)
  (g:∀c,c≠b->j[c]? = w.heap[c]?):Fr H w (H.ins b A) { w with heap:=j } where
 os:=rfl
 tape:=rfl
 out:=rfl
 drawn:=dO _
 size:=by simp[z]
 keep:=λc _ B=>g c (by rintro rfl;exact B o hb)
 le:=by
  intro c m p d;simp only[Hp.eM]at d;split at d
  ·subst c;simp at d;rw[<-d.1];exact u
  rename_i v;exact(g c v).trans (h c m p d)
 new:=λc q t=>by
  simp only[Hp.eM]at t;split at t
  ·subst c;rw[hb]at q;simp at q
  exact absurd q t
 ro:=λc m d=>by rw[Hp.aH _ _ (by rintro rfl;rw[hb]at d;simp at d)];exact d
 rw:=λc m d=>by
  by_cases e:c=b
  ·subst e;exact⟨A,by simp[Hp.eM]⟩
  exact⟨m,by rw[Hp.aH _ _ e];exact d⟩
 gh:=rfl
def Fr.setCell{H:Hp}(h:H.le w){o:Obj}(e:a.spot=none)(hb:H a.block=some (o,true))(v:Value):Fr H w (H.ins a.block (Obj.put o a.off v)) (w.setCell a v):=by
 have g:=h _ _ _ hb;refine Fr.write h hb (by simp) ?_ (λc d=>?_)
 ·simp[qCA,g,Obj.put,e];cases o<;>rfl
 simp[qCA,qAF d]
def Fr.freeze{H:Hp}(h:H.le w){o:Obj}(e:n≠0)(hb:H a.block=some (o,true)):Fr H w (H.ins a.block (Obj.pA o a.off n)) (w.freeze a n):=by
 have g:=h _ _ _ hb;unfold World.freeze;rw[aT e];refine Fr.write h hb (by simp) ?_ (λc d=>?_)
 ·simp[qCA,g,Obj.pA];cases o<;>rfl
 simp[qCA,qAF d]
def Fr.setObj{H:Hp}(h:H.le w){o:Obj}(hb:H r=some (o,true))(e:Obj):Fr H w (H.ins r e) { w with heap:=w.heap.setIfInBounds r e }:=by
 have j:=h _ _ _ hb;have d:=(qAK.1 j).1;refine Fr.write h hb (by simp) ?_ (λc g=>?_)
 ·simp[d]
 simp[qAF g]
theorem Zgw{P:PQ}{s:Sem α}{Q:α->Bool->Hp->Prop}:∀{g:Bool} {H:Hp} {w:World} (es:Array Event),bL P s Q g H->H.le w ->
  ∃a w' A d B,s.runT P w es=(.ok a w',es++d)/\Fr H w A w'/\(Q a B A/\(B=true->g=true))/\∀e∈d,EvL H w w'.heap.size e:=by
 induction s with
 | pure a=>exact λ{g H w} es h j=>⟨a,w,H,#[],g,by simp[Sem.runT],.refl j,⟨h,id⟩,by simp⟩
 | load m a k ih=>
  rintro g H w es ⟨o,p,v,⟨K,I⟩,rfl,M,N,R⟩ j;obtain⟨x,w',A,d,B,C,t,⟨D,F⟩,E⟩:=ih v (es.push ⟨.cell a,false,Mode.plain == .atomic⟩) R j;refine⟨x,w',A,#[⟨.cell a,false,Mode.plain == .atomic⟩]++d,B,?_,t,⟨D,F⟩,?_⟩
  ·simp only[Sem.runT,nS (j _ _ _ I) M N];rw[C];simp
  intro e z;simp only[qBx,qAv,oR]at z;rcases z with rfl | z
  ·exact⟨rfl,.inl ⟨o,p,I,by simp⟩⟩
  exact E e z
 | store m a v k ih=>
  rintro g H w es ⟨o,⟨K,I⟩,rfl,M,N,R,V,W⟩ j;obtain⟨u,hu⟩:=qCj.1 R;have f:=Fr.setCell j M I v;obtain⟨x,w',A,d,B,C,t,⟨D,F⟩,E⟩:=ih (es.push ⟨.cell a,true,Mode.plain == .atomic⟩) W f.le;refine⟨x,w',A,#[⟨.cell a,true,Mode.plain == .atomic⟩]++d,B,?_,f.trans t,⟨D,F⟩,?_⟩
  ·have X:=nS (j _ _ _ I) M hu;have Y:=(oZ (a:=a) (j _ _ _ I)).trans V;cases v<;>simp[Value.cJ]at N<;>(simp only[Sem.runT,X,Y,DO,qAw];rw[C];simp)
  intro e z;simp only[qBx,qAv,oR]at z;rcases z with rfl | z
  ·exact⟨rfl,.inl ⟨o,true,I,by simp⟩⟩
  exact(E e z).yQ f t.size
 | new o k ih=>
  rintro g H w es h j;have hn:H w.heap.size=none:=by
   cases Z:H w.heap.size with
   | none=>rfl
   | some y=>exact absurd (j.lt Z) O
  have f:=Fr.alloc j o;obtain⟨x,w',A,d,B,C,t,⟨D,F⟩,E⟩:=ih _ es (h.2 _ hn) f.le;exact⟨x,w',A,d,B,by simp only[Sem.runT];exact C,f.trans t,⟨D,F⟩,λe z=>(E e z).yQ f t.size⟩
 | shape r k ih=>
  rintro g H w es ⟨o,p,⟨K,I⟩,J⟩ j;have:w.shape? r=Obj.oK o:=by unfold World.shape? Obj.oK;rw[j _ _ _ I];cases o<;>rfl
  obtain⟨x,w',A,d,B,C,t,⟨D,F⟩,E⟩:=ih _ es J j;exact⟨x,w',A,d,B,by simp only[Sem.runT,this];exact C,t,⟨D,F⟩,E⟩
 | freeze a n k ih=>
  rintro g H w es h j;rcases h with⟨rfl,J⟩ | ⟨o,⟨K,I⟩,J,M⟩
  ·obtain⟨x,w',A,d,B,C,t,⟨D,F⟩,E⟩:=ih es J j;exact⟨x,w',A,d,B,by simp only[Sem.runT,World.freeze,qBp];exact C,t,⟨D,F⟩,E⟩
  have f:=Fr.freeze j J I;obtain⟨x,w',A,d,B,C,t,⟨D,F⟩,E⟩:=ih es M f.le;exact⟨x,w',A,d,B,by simp only[Sem.runT];exact C,f.trans t,⟨D,F⟩,λe z=>(E e z).yQ f t.size⟩
 | frozen a k ih=>
  rintro g H w es ⟨o,p,⟨K,I⟩,J⟩ j;obtain⟨x,w',A,d,B,C,t,⟨D,F⟩,E⟩:=ih _ es J j;exact⟨x,w',A,d,B,by simp only[Sem.runT,oZ (a:=a) (j _ _ _ I)];exact C,t,⟨D,F⟩,E⟩
 | getObj r k ih=>
  rintro g H w es ⟨o,p,⟨K,I⟩,J,M,N⟩ j;obtain⟨x,w',A,d,B,C,t,⟨D,F⟩,E⟩:=ih o (es.push ⟨.obj r,false,o.isChan⟩) N j;refine⟨x,w',A,#[⟨.obj r,false,o.isChan⟩]++d,B,?_,t,⟨D,F⟩,?_⟩
  ·have T:=j _ _ _ I;simp only[Sem.runT,T];cases o<;>simp[Obj.oP]at J<;>(dsimp only;rw[C];simp)
  intro e z;simp only[qBx,qAv,oR]at z;rcases z with rfl | z
  ·exact⟨M,.inl ⟨o,p,I,by simp⟩⟩
  exact E e z
 | setObj r o k ih=>
  rintro g H w es ⟨U,⟨K,I⟩,J,M,N,R⟩ j;have f:=Fr.setObj j I o;obtain⟨x,w',A,d,B,C,t,⟨D,F⟩,E⟩:=ih (es.push ⟨.obj r,true,o.isChan⟩) R f.le;refine⟨x,w',A,#[⟨.obj r,true,o.isChan⟩]++d,B,?_,f.trans t,⟨D,F⟩,?_⟩
  ·have T:=j _ _ _ I;simp only[Sem.runT,T];cases U<;>simp[Obj.oP]at J<;>(dsimp only;rw[C];simp)
  intro e z;simp only[qBx,qAv,oR]at z;rcases z with rfl | z
  ·exact⟨N,.inl ⟨U,true,I,by simp⟩⟩
  exact(E e z).yQ f t.size
 | choose q k ih=>
  rintro g H w es h j;simp only[bL]at h;split at h
  ·rename_i S;obtain⟨x,w',A,d,B,C,t,⟨D,F⟩,E⟩:=ih _ es h j;exact⟨x,w',A,d,B,by simp only[Sem.runT,S,qBp];exact C,t,⟨D,F⟩,E⟩
  rename_i S;have f:=Fr.Hd j (w.drawn+1) O;obtain⟨x,w',A,d,B,C,t,⟨D,F⟩,E⟩:=ih _ es (h.2 (w.tape w.drawn q)) f.le;exact⟨x,w',A,d,B,by simp only[Sem.runT,S];exact C,f.trans t,⟨D,F⟩,λe z=>(E e z).yQ f t.size⟩
 | sys c k ih=>exact λ_ h=>h.elim
 | program k ih=>
  rintro g H w es h j;obtain⟨x,w',A,d,B,C,t,⟨D,F⟩,E⟩:=ih _ es h j;exact⟨x,w',A,d,B,by simp only[Sem.runT];exact C,t,⟨D,F⟩,E⟩
 | mark m k ih=>
  rintro g H w es h j;obtain⟨I,J⟩:=h;obtain⟨x,w',A,d,B,C,t,⟨D,F⟩,E⟩:=ih (es.push ⟨.mark m,false,true⟩) J j;refine⟨x,w',A,#[⟨.mark m,false,true⟩]++d,B,?_,t,⟨D,F⟩,?_⟩
  ·simp only[Sem.runT];rw[C];simp
  intro e z;simp only[qBx,qAv,oR]at z;rcases z with rfl | z
  ·rcases I with⟨f,rfl⟩ | ⟨rfl,_⟩<;>trivial
  exact E e z
 | halt h=>exact λ_ h=>h.elim
def ZnE{P:PQ}{s:Sem α}{Q:α->Bool->Hp->Prop}:∀{g:Bool} {H:Hp},P.still H.gh=true->bL P s Q g H ->
  ∃a j,Q a g H/\(∀(w:World) (es:Array Event),s.runT P w es=(.ok a w,es++j))/\∀e∈j,∃f,e=⟨.mark (.extern f),false,true⟩:=by
 have u:∀{b:Bool} {p:Prop},b=true->b=false->p:=by intro b p t D;rw[t]at D;simp at D
 induction s with
 | pure a=>exact λd h=>⟨a,#[],h,λw es=>by simp[Sem.runT],by simp⟩
 | load m a k ih=>exact λd ⟨o,p,v,t,_⟩=>u d t.1
 | store m a v k ih=>exact λd ⟨o,t,_⟩=>u d t.1
 | new o k ih=>exact λd h=>u d h.1
 | shape r k ih=>exact λd ⟨o,p,t,_⟩=>u d t.1
 | freeze a n k ih=>
  rintro g H d (⟨rfl,h⟩ | ⟨o,t,_⟩)
  ·obtain⟨x,j,z,A,B⟩:=ih d h;exact⟨x,j,z,λw es=>by simp only[Sem.runT,World.freeze,qBp];exact A w es,B⟩
  exact u d t.1
 | frozen a k ih=>exact λd ⟨o,p,t,_⟩=>u d t.1
 | getObj r k ih=>exact λd ⟨o,p,t,_⟩=>u d t.1
 | setObj r o k ih=>exact λd ⟨F,t,_⟩=>u d t.1
 | choose q k ih=>
  intro g H d h;simp only[bL]at h;split at h
  ·rename_i E;obtain⟨x,j,z,A,B⟩:=ih _ d h;exact⟨x,j,z,λw es=>by simp only[Sem.runT,E,qBp];exact A w es,B⟩
  exact u d h.1
 | sys c k ih=>exact λ_ h=>h.elim
 | program k ih=>
  intro g H d h;obtain⟨x,j,z,A,B⟩:=ih _ d h;exact⟨x,j,z,λw es=>by simp only[Sem.runT];exact A w es,B⟩
 | mark m k ih=>
  rintro g H d ⟨t,h⟩;obtain⟨f,rfl⟩:=t.resolve_right (λh=>u d h.2);obtain⟨x,j,z,A,B⟩:=ih d h;refine⟨x,#[⟨.mark (.extern f),false,true⟩]++j,z,λw es=>by simp only[Sem.runT];rw[A];simp,?_⟩;intro e C;simp only[qBx,qAv,oR]at C;rcases C with rfl | C
  ·exact⟨f,rfl⟩
  exact B e C
 | halt h=>exact λ_ h=>h.elim
end
section
variable{b l id:Nat}{w w':World}{x c y:Code}{k:List Item}{f:FuncId}{s:Sem Next}{wk nr:Bool}
def Ma(P:Program)(fn:FuncId)(es:Array Event):∀e∈seen P fn es,e∈es:=by
 intro e d;dsimp only[seen]at d;rw[<-qDE]at d;have key:∀(l:List Event) (x:Bool×Array Event),e∈(l.foldl (λx e=>match e.loc with
   | .mark (.extern f)=>((P.funcs[f]?).any (·.norace),x.2)
   | _=>(x.1,if(x.1 && !e.sync)=true then x.2 else x.2.push e)) x).2->e∈x.2\/e∈l:=by
  intro l
  induction l with
  | nil=>exact λx h=>.inl h
  | cons y l ih=>
   intro x h;simp only[qBa]at h;rcases ih _ h with h | h
   ·split at h
    ·exact .inl h
    dsimp only at h;split at h
    ·exact .inl h
    rcases Array.mem_push.1 h with h | h
    ·exact .inl h
    exact .inr (by rw[h];simp)
   exact .inr (qAP _ h)
 rcases key es.toList _ d with h | h
 ·simp at h
 exact qBh.1 h
abbrev cV(fr:Frame)(cs:List Frame):Goroutine:={ frame:=fr,callers:=cs,status:=.running,dying:=none }
def rJ(P:PQ)(fr:Frame)(cs:List Frame)(H:Hp)(R:Frame->List Frame->Hp->Prop):Prop:=
 (∀(main:Bool) (w:World),H.le w ->
  ∃g d w' h es,stepG P main (cV fr cs) w=.go (cV g d) w' es/\Fr H w h w'/\R g d h/\∀e∈es,EvL H w w'.heap.size e) /\
 (P.still H.gh=true->∃g d,(∀(main:Bool) (w:World),stepG P main (cV fr cs) w=.go (cV g d) w)/\R g d H)
def rJ.mono{P:PQ}{fr:Frame}{cs:List Frame}{H:Hp}{R g:Frame->List Frame->Hp->Prop}(h:rJ P fr cs H R)(j:∀fr cs H,R fr cs H->g fr cs H):rJ P fr cs H g:=
 ⟨λmain w p=>let⟨eC,e,w',m,es,a,b,c,d⟩:=h.1 main w p;⟨eC,e,w',m,es,a,b,j _ _ _ c,d⟩,λo=>let⟨eC,e,a,b⟩:=h.2 o;⟨eC,e,a,j _ _ _ b⟩⟩
structure Hp.Comp(H F:Hp):Prop where
 mem:∀b x y,H b=some x->F b=some y->x=y/\x.2=false
 gh:H.gh=[]\/F.gh=[]
instance {H F:Hp}:CoeFun (H.Comp F) (λ_=>∀b x y,H b=some x->F b=some y->x=y/\x.2=false):=⟨Hp.Comp.mem⟩
def Hp.join(H F:Hp):Hp:=⟨λb=>match H b with | some x=>some x | none=>F b,H.gh++F.gh⟩
theorem Hp.bH(H F:Hp)(b:Nat):H.join F b=match H b with | some x=>some x | none=>F b:=rfl
theorem Hp.bZ(H F:Hp):(H.join F).gh=H.gh++F.gh:=rfl
def Hp.aW{H F:Hp}{x:Obj×Bool}(h:H b=some x):H.join F b=some x:=by simp[Hp.bH,h]
def Hp.bC{H F:Hp}(d:H.Comp F){x:Obj×Bool}(h:F b=some x):H.join F b=some x:=by
 simp only[Hp.bH];cases hh:H b with
 | none=>exact h
 | some y=>rw[(d b y x hh h).1]
def Hp.eF{H F:Hp}:H.join F b=none↔H b=none/\F b=none:=by simp only[Hp.bH];cases hh:H b<;>simp
def Hp.le.left{H F:Hp}(h:(H.join F).le w):H.le w:=λb o p hb=>h b o p (Hp.aW hb)
def Hp.le.right{H F:Hp}(d:H.Comp F)(h:(H.join F).le w):F.le w:=λb o p hb=>h b o p (Hp.bC d hb)
def Fr.comp{H F g:Hp}(j:H.Comp F)(q:F.le w)(f:Fr H w g w'):g.Comp F:=by
 refine⟨?_,by rw[f.gh];exact j.gh⟩;intro b x y d h;cases hh:H b with
 | none=>exact absurd (q.lt h) (qDx.2 (f.new b hh (by rw[d];simp)))
 | some z=>
  obtain⟨m,e⟩:=j b z y hh h;obtain⟨o,p⟩:=z;obtain rfl:p=false:=e;rw[f.ro b o hh]at d;simp at d;rw[<-d,m];exact⟨rfl,by rw[<-m]⟩
def Fr.join{H F d:Hp}(q:H.Comp F)(v:(H.join F).le w)(f:Fr H w d w'):Fr (H.join F) w (d.join F) w' where
 os:=f.os
 tape:=f.tape
 out:=f.out
 drawn:=f.drawn
 size:=f.size
 keep:=λb hb t=>f.keep b hb λo B=>t o (Hp.aW B)
 le:=by
  intro b o p hb;simp only[Hp.bH]at hb;cases hh:d b with
  | some x=>rw[hh]at hb;exact f.le b o p (by rw[hh];exact hb)
  | none=>
   rw[hh]at hb;have j:=v.right q b o p hb;rw[f.keep b (qAK.1 j).1 (λz u=>?_)]
   ·exact j
   obtain⟨C,m⟩:=f.rw b z u;rw[hh]at m;simp at m
 new:=λb j m=>by obtain⟨A,hb⟩:=Hp.eF.1 j;refine f.new b A λt=>m (Hp.eF.2 ⟨t,hb⟩)
 ro:=λb o h=>by
  simp only[Hp.bH]at h;cases hh:H b with
  | some x=>rw[hh]at h;exact Hp.aW (f.ro b o (by rw[hh];exact h))
  | none=>
   rw[hh]at h;have e:=(v.right q).lt h;have:d b=none:=by
    cases g:d b with
    | none=>rfl
    | some y=>exact absurd e (qDx.2 (f.new b hh (by rw[g];simp)))
   simp only[Hp.bH];rw[this];exact h
 rw:=λb o h=>by
  simp only[Hp.bH]at h;cases hh:H b with
  | some x=>
   rw[hh]at h;obtain⟨z,g⟩:=f.rw b o (by rw[hh];exact h);exact⟨z,Hp.aW g⟩
  | none=>
   rw[hh]at h;have e:=(v.right q).lt h;have:d b=none:=by
    cases g:d b with
    | none=>rfl
    | some y=>exact absurd e (qDx.2 (f.new b hh (by rw[g];simp)))
   exact⟨o,by simp only[Hp.bH];rw[this];exact h⟩
 gh:=by rw[Hp.bZ,Hp.bZ,f.gh]
theorem EvL.join{H F:Hp}{n:Nat}{e:Event}(h:EvL H w n e):EvL (H.join F) w n e:=by
 unfold EvL at h ⊢;split at h
 ·exact⟨h.1,h.2.imp (λ⟨o,p,d,g⟩=>⟨o,p,Hp.aW d,g⟩) id⟩
 ·exact⟨h.1,h.2.imp (λ⟨o,p,d,g⟩=>⟨o,p,Hp.aW d,g⟩) id⟩
 ·trivial
 ·trivial
 trivial
structure Env where
 sh:(Frame->List Frame->Hp->Prop)->Frame->List Frame->Hp->Prop
 shMono:∀{R R':Frame->List Frame->Hp->Prop},(∀fr cs H,R fr cs H->R' fr cs H)->∀{fr cs H},sh R fr cs H->sh R' fr cs H
 shFrame:∀{R:Frame->List Frame->Hp->Prop} {fr cs H F},H.Comp F->sh R fr cs H->sh (λfr cs HF=>∃H',HF=H'.join F/\H'.Comp F/\R fr cs H') fr cs (H.join F)
structure aX extends PQ,Env
instance:Coe aX Program:=⟨λP=>P.toProgram⟩
instance:Coe aX PQ:=⟨λP=>P.toPQ⟩
def Env.lone:Env where
 sh:=λ_ _ _ _=>False
 shMono:=λ_ _ _ _ h=>h
 shFrame:=λ_ h=>h.elim
def Reach(P:aX)(G:Frame->List Frame->Hp->Prop)(fr:Frame)(cs:List Frame)(H:Hp):Prop:=
 ∀R:Frame->List Frame->Hp->Prop,(∀fr cs H,G fr cs H->R fr cs H)->(∀fr cs H,rJ P fr cs H R->R fr cs H)->(∀fr cs H,P.sh R fr cs H->R fr cs H)->R fr cs H
section reach
variable{P:aX}{G G':Frame->List Frame->Hp->Prop}{fr:Frame}{cs:List Frame}{H:Hp}
def Reach.stop(h:G fr cs H):Reach P G fr cs H:=λ_ d _ _=>d _ _ _ h
def Reach.step(h:rJ P fr cs H (Reach P G)):Reach P G fr cs H:=λR e d g=>d _ _ _ (h.mono λ_ _ _ j=>j R e d g)
def Reach.eZ(h:P.sh (Reach P G) fr cs H):Reach P G fr cs H:=λR e g d=>d _ _ _ (P.shMono (λ_ _ _ j=>j R e g d) h)
def Reach.bind(h:Reach P G fr cs H)(e:∀fr cs H,G fr cs H->Reach P G' fr cs H):Reach P G' fr cs H:=
 h _ e (λ_ _ _ d=>.step d) (λ_ _ _ d=>.eZ d)
def Reach.mono(h:Reach P G fr cs H)(d:∀fr cs H,G fr cs H->G' fr cs H):Reach P G' fr cs H:=h.bind λ_ _ _ e=>.stop (d _ _ _ e)
def Reach.pure{eC:Frame}{jX:List Frame}(h:∀main w,stepG P main (cV fr cs) w=.go (cV eC jX) w)(d:Reach P G eC jX H):Reach P G fr cs H:=
 .step ⟨λmain w e=>⟨eC,jX,w,H,#[],h main w,.refl e,d,by simp⟩,λ_=>⟨eC,jX,h,d⟩⟩
def ZoV(P:Program)(fn:FuncId):∀(es:Array Event),(∀e∈es,∃f,e=⟨.mark (.extern f),false,true⟩)->seen P fn es=#[]:=by
 intro es h;dsimp only[seen];rw[<-qDE];have d:∀e∈es.toList,∃f,e=⟨.mark (.extern f),false,true⟩:=λe g=>h e (qBh.1 g);revert d;generalize es.toList=l;intro d;have key:∀(l:List Event) (x:Bool×Array Event),(∀e∈l,∃f,e=⟨.mark (.extern f),false,true⟩)->(l.foldl (λx e=>match e.loc with
   | .mark (.extern f)=>((P.funcs[f]?).any (·.norace),x.2)
   | _=>(x.1,if(x.1 && !e.sync)=true then x.2 else x.2.push e)) x).2=x.2:=by
  intro l
  induction l with
  | nil=>exact λx _=>rfl
  | cons y l ih=>
   intro x j;obtain⟨f,rfl⟩:=j y (by simp);simp only[qBa];exact ih _ λe g=>j e (qAP _ g)
 exact key l _ d
def Reach.AO{α:Type}{s:Sem α}{Q:α->Bool->Hp->Prop}(B:bL P s Q false H)
  (h:∀a C,Q a false C->∃eC j,(∀main w w' es,s.runT P w #[]=(.ok a w',es)->∃d,stepG P main (cV fr cs) w=.go (cV eC j) w' d/\(d=#[]\/d=seen P fr.fn es))/\∀p,Q a false p->Reach P G eC j p):Reach P G fr cs H:=by
 refine .step ⟨λmain w J=>?_,λA=>?_⟩
 ·obtain⟨a,w',p,es,g,q,v,⟨t,E⟩,D⟩:=Zgw #[] B J;obtain rfl:g=false:=by
   cases g with
   | false=>rfl
   | true=>exact(E rfl).symm
  obtain⟨eC,j,m,z⟩:=h a _ t;obtain⟨d,m,F⟩:=m main w w' _ q;refine⟨_,_,w',p,d,m,v,z _ t,λe u=>?_⟩;rcases F with rfl | rfl
  ·simp at u
  exact D e (by simpa using Ma _ _ _ e u)
 obtain⟨a,es,q,v,t⟩:=ZnE A B;obtain⟨eC,j,m,z⟩:=h a _ q;refine⟨eC,j,λmain w=>?_,z _ q⟩;obtain⟨d,I,o⟩:=m main w w _ (v w #[]);rw[I];congr 1;rcases o with o | o
 ·exact o
 rw[o];exact ZoV _ _ _ (λe u=>t e (by simpa using u))
end reach
def Ub{P:PQ}{H F:Hp}(d:H.Comp F)(h:P.still H.gh=false):P.still (H.join F).gh=false:=by
 rw[Hp.bZ];rcases d.gh with e | e
 ·rw[e]at h;exact P.stillNil h _
 rw[e,qAf];exact h
def Zoq{P:PQ}{H F:Hp}(d:H.Comp F)(h:P.still (H.join F).gh=true):P.still H.gh=true:=by
 cases e:P.still H.gh with
 | true=>rfl
 | false=>rw[Ub d e]at h;simp at h
def Reach.frame{P:aX}{G:Frame->List Frame->Hp->Prop}{fr:Frame}{cs:List Frame}{H F:Hp}(h:Reach P G fr cs H)(d:H.Comp F) :
  Reach P (λfr cs m=>∃g,m=g.join F/\g.Comp F/\G fr cs g) fr cs (H.join F):=by
 refine h (λfr cs H=>H.Comp F->Reach P (λfr cs m=>∃g,m=g.join F/\g.Comp F/\G fr cs g) fr cs (H.join F)) (λfr cs H C d=>.stop ⟨H,rfl,d,C⟩) ?_ (λfr cs H p d=>.eZ (P.shMono (λfr cs m ⟨g,e,t,D⟩=>by rw[e];exact D t) (P.shFrame d p))) d;intro fr cs H p d;refine .step ⟨λmain w v=>?_,λu=>?_⟩
 ·obtain⟨eC,j,w',g,es,q,o,z,A⟩:=p.1 main w v.left;exact⟨eC,j,w',g.join F,es,q,o.join d v,z (o.comp d (v.right d)),λe B=>(A e B).join⟩
 obtain⟨eC,j,q,o⟩:=p.2 (Zoq d u);exact⟨eC,j,q,o d⟩
def VY(G:Frame->List Frame->Hp->Prop):Prop:=∀fr cs H J,H.Comp J->G fr cs H->G fr cs (H.join J)
def Reach.up{P:aX}{G:Frame->List Frame->Hp->Prop}{fr:Frame}{cs:List Frame}{H J:Hp}(g:VY G)(h:Reach P G fr cs H)(j:H.Comp J):Reach P G fr cs (H.join J):=
 (h.frame j).mono λ_ _ _ ⟨_,e,d,m⟩=>by rw[e];exact g _ _ _ _ d m
def on(b:Frame)(a:Act)(todo:List Item):Frame:={ b with tmps:=a.tmps,todo,defers:=a.defers,mode:=.run }
inductive Ex where
 | normal
 | exit (id:Nat)
 | ret
def C0(P:aX)(G:Frame->List Frame->Hp->Prop)(b:Frame)(k:List Item)(cs:List Frame):Ex->Act->Hp->Prop
 | .normal,a,H=>Reach P G (on b a k) cs H
 | .ret,a,H=>∀d,Reach P G (on b a (.code .ret :: d)) cs H
 | .exit id,a,H=>(∀d,exitTo id k=some d->Reach P G (on b a d) cs H)/\(exitTo id k=none->∀d,exitTo id d=none->Reach P G (on b a (.code (.exit id) :: d)) cs H)
def plain:Item->Bool
 | .inBlock _=>false
 | _=>true
theorem C0.yC{P:aX}{G:Frame->List Frame->Hp->Prop}{b:Frame}{x:Item}{cs:List Frame}{e:Ex}{a:Act}{H:Hp}(g:plain x=true)
  (h:C0 P G b k cs e a H) (d:e≠.normal):C0 P G b (x :: k) cs e a H:=by
 cases e with
 | normal=>exact absurd rfl d
 | ret=>exact h
 | exit id=>
  have:exitTo id (x :: k)=exitTo id k:=by cases x<;>simp_all[exitTo,plain]
  simp only[C0]at h ⊢;rw[this];exact h
structure Rd where
 xG:Bool
 nr:Bool
def norace(P:Program)(f:FuncId):Bool:=(P.funcs[f]?).any (·.norace)
structure Fit(P:Program)(rd:Rd)(b:Frame):Prop where
 kind:b.kind≠.early
 xG:rd.xG=true->b.roundOf=none
 nr:rd.nr=true->norace P b.fn=true
def gX(P:aX)(rd:Rd)(c:Code)(Q:Ex->Act->Hp->Prop)(a:Act)(H:Hp):Prop:=
 ∀(G:Frame->List Frame->Hp->Prop) (b:Frame) (k:List Item) (cs:List Frame),VY G->Fit P rd b->(∀e g d,Q e g d->C0 P G b k cs e g d)->Reach P G (on b a (.code c :: k)) cs H
section code
variable{P:aX}{rd:Rd}{Q Q':Ex->Act->Hp->Prop}{a:Act}{H:Hp}
def gX.mono(h:gX P rd c Q a H)(m:∀e a H,Q e a H->Q' e a H):gX P rd c Q' a H:=λG b k cs g hb d=>h G b k cs g hb λe p o j=>d _ _ _ (m _ _ _ j)
def gX.skip(h:Q .normal a H):gX P rd .skip Q a H:=λG b k cs e hb d=>.pure (λmain w=>by simp[stepG,stepG.exec,on]) (d _ _ _ h)
def gX.label(h:Q .normal a H):gX P rd (.label l) Q a H:=λG b k cs e hb d=>.pure (λmain w=>by simp[stepG,stepG.exec,on]) (d _ _ _ h)
def gX.ret(h:Q .ret a H):gX P rd .ret Q a H:=λG b k cs e hb d=>d _ _ _ h k
theorem gX.exit(h:Q (.exit id) a H):gX P rd (.exit id) Q a H:=λG b k cs m hb g=>by
 obtain⟨d,e⟩:=g _ _ _ h;cases hk:exitTo id k with
 | none=>exact e hk k hk
 | some j=>exact .pure (λmain w=>by simp[stepG,stepG.exec,on,hk,Option.elim]) (d j hk)
def Ex.then(next:Act->Hp->Prop)(Q:Ex->Act->Hp->Prop):Ex->Act->Hp->Prop
 | .normal,a,H=>next a H
 | e,a,H=>Q e a H
theorem gX.seq(h:gX P rd x (Ex.then (gX P rd y Q) Q) a H):gX P rd (.seq x y) Q a H:=by
 intro G b k cs d hb g;refine .pure (eC:=on b a (.code x :: .code y :: k)) (jX:=cs) (λmain w=>by simp[stepG,stepG.exec,on]) (h G b (.code y :: k) cs d hb ?_);intro e o m j;cases e with
 | normal=>exact j G b k cs d hb g
 | ret=>exact(g .ret o m j).yC rfl (by simp)
 | exit id=>exact(g (.exit id) o m j).yC rfl (by simp)
def gX.cond{c:Operand}{t:Bool}(j:a.eval c=.bool t)(h:gX P rd (if t then x else y) Q a H):gX P rd (.cond c x y) Q a H:=by
 intro G b k cs d hb g;refine .pure (eC:=on b a (.code (if t then x else y) :: k)) (jX:=cs) (λmain w=>?_) (h G b k cs d hb g);have m:(on b a (.code (.cond c x y) :: k)).eval c=.bool t:=by rw[<-j];cases c<;>rfl
 have e:Frame.eval { b with tmps:=a.tmps,todo:=.code (.cond c x y) :: k,defers:=a.defers,mode:=.run } c=.bool t:=m;simp[stepG,stepG.exec,on,e]
def Ex.inBlock(id:Nat)(Q:Ex->Act->Hp->Prop):Ex->Act->Hp->Prop
 | .exit d,a,H=>if d=id then Q .normal a H else Q (.exit d) a H
 | e,a,H=>Q e a H
theorem gX.block(h:gX P rd c (Ex.inBlock id Q) a H):gX P rd (.block id c) Q a H:=by
 intro G b k cs p hb m;refine .pure (eC:=on b a (.code c :: .inBlock id :: k)) (jX:=cs) (λmain w=>by simp[stepG,stepG.exec,on]) (h G b (.inBlock id :: k) cs p hb ?_);intro e q u d;cases e with
 | normal=>exact .pure (eC:=on b q k) (jX:=cs) (λmain w=>by simp[stepG,stepG.exec,on]) (m _ _ _ d)
 | ret=>exact m .ret q u d
 | exit g=>
  simp only[Ex.inBlock]at d;by_cases j:g=id
  ·rw[iF j]at d;refine⟨λv o=>?_,λo=>?_⟩
   ·simp[exitTo,j]at o;subst o;exact m _ _ _ d
   simp[exitTo,j]at o
  rw[aT j]at d;have:exitTo g (.inBlock id :: k)=exitTo g k:=by simp[exitTo,qAF j]
  have t:=m _ _ _ d;simp only[C0]at t ⊢;rw[this];exact t
theorem gX.scope(h:gX P rd c Q a H):gX P rd (.scope c) Q a H:=by
 intro G b k cs j hb g;refine .pure (eC:=on b a (.code c :: .inScope c :: k)) (jX:=cs) (λmain w=>by simp[stepG,stepG.exec,on]) (h G b (.inScope c :: k) cs j hb ?_);intro e d o m;cases e with
 | normal=>exact .pure (eC:=on b d k) (jX:=cs) (λmain w=>by simp[stepG,stepG.exec,on]) (g _ _ _ m)
 | ret=>exact(g .ret d o m).yC rfl (by simp)
 | exit id=>exact(g (.exit id) d o m).yC rfl (by simp)
theorem gX.loop(I:Nat->Act->Hp->Prop)(n:Nat)(u:I n a H)(round:∀n a H,I n a H->gX P rd c (Ex.then (λd g=>∃m,m<n/\I m d g) Q) a H):gX P rd (.loop c) Q a H:=by
 intro G b k cs j hb p;have key:∀n a H,I n a H->Reach P G (on b a (.code c :: .inLoop c :: k)) cs H:=by
  intro n;induction n using Nat.strongRecOn with
  | _ n ih=>
   intro a H q;refine round n a H q G b (.inLoop c :: k) cs j hb ?_;intro e d g o;cases e with
   | normal=>
    obtain⟨m,t,h⟩:=o;exact .pure (eC:=on b d (.code c :: .inLoop c :: k)) (jX:=cs) (λmain w=>by simp[stepG,stepG.exec,on]) (ih m t d g h)
   | ret=>exact(p .ret d g o).yC rfl (by simp)
   | exit id=>exact(p (.exit id) d g o).yC rfl (by simp)
 exact .pure (eC:=on b a (.code c :: .inLoop c :: k)) (jX:=cs) (λmain w=>by simp[stepG,stepG.exec,on]) (key n a H u)
end code
def Zc(P:aX)(f:FuncId)(args:Array Value)(H:Hp)(d:Value->Hp->Prop):Prop:=
 ∀(G:Frame->List Frame->Hp->Prop) (c:Frame) (cs:List Frame),VY G->(∀v e,d v e->Reach P G (c.finish v) cs e)->Reach P G (Frame.enter P f args .normal) (c :: cs) H
def UX(P:aX)(l:Nat)(f:FuncId)(tmps:Array Value)(assign body:Code)(H:Hp)(d:Value->Hp->Prop):Prop:=
 ∀(G:Frame->List Frame->Hp->Prop) (c:Frame) (cs:List Frame),VY G->(∀v e,d v e->Reach P G (c.finish v) cs e)->Reach P G (Frame.round l f tmps assign body .normal) (c :: cs) H
def Zc.mono{P:aX}{args:Array Value}{H:Hp}{e d:Value->Hp->Prop}(h:Zc P f args H e)(o:∀v H,e v H->d v H):Zc P f args H d:=
 λG c cs m j=>h G c cs m λv g p=>j v g (o _ _ p)
def UX.mono{P:aX}{tmps:Array Value}{assign body:Code}{H:Hp}{e d:Value->Hp->Prop}(h:UX P l f tmps assign body H e)(o:∀v H,e v H->d v H):UX P l f tmps assign body H d:=
 λG c cs m j=>h G c cs m λv g p=>j v g (o _ _ p)
def put(a:Act)(dst:Option Tmp)(v:Value):Act:=
 match dst with
 | some d=>{ a with tmps:=a.tmps.setIfInBounds d v }
 | none=>a
def Is(P:aX)(dst:Option Tmp)(a:Act)(next:Act->Hp->Prop):Next->Hp->Prop
 | .value v,H=>next (put a dst v) H
 | .skip,H=>next (put a dst undef) H
 | .defer d,H=>next (put { a with defers:=d :: a.defers } dst undef) H
 | .enter f args,H=>Zc P f args H λv e=>next (put a dst v) e
 | .round l f tmps assign body,H=>UX P l f tmps assign body H λv e=>next (put a dst v) e
 | _,_=>False
def Uz(P:Program)(s:Sem Next):Prop:=∀w,∃v w' es,s.runT P w #[]=(.ok (.value v) w',es)
structure KV(P:Program)(fr:Frame)(nx:Value->Frame)(s:Sem Next)(wk nr:Bool):Prop where
 val:∀main cs w w' v es,s.runT P w #[]=(.ok (.value v) w',es)->stepG P main (cV fr cs) w=.go (cV (nx v) cs) w' (seen P fr.fn es)
 halt:Uz P s\/∀main cs w es,s.runT P w #[]=(.halt .blocked w,es)->stepG P main (cV fr cs) w=.go { frame:=fr,callers:=cs,status:=.blocked,dying:=none } w #[]
 spawn:Uz P s\/∀main cs w w' f c aA es,s.runT P w #[]=(.ok (.spawn { target:=.fn f c,args:=aA }) w',es) ->
  stepG P main (cV fr cs) w=.spawn (cV (nx undef) cs) (cV { (default:Frame)with fn:=P.funcs.size,defers:=[{ target:=.fn f c,args:=aA }],mode:=.panicking [goexitEntry] } []) w' (seen P fr.fn es)
 wake:wk=true->∀cs,mayWake P (cV fr cs)=true
 nr:nr=true->norace P fr.fn=true
 comm:Uz P s\/((∀v,nx v=fr.finish v)/\∀main cs w w' c b sh es,s.runT P w #[]=(.ok (.comm c b sh) w',es)->stepG P main (cV fr cs) w=.comm (cV fr cs) c b sh w' (seen P fr.fn es))
def Zk(P:aX)(s:Sem Next)(wk nr:Bool)(H:Hp)(d:Value->Hp->Prop):Prop:=
 ∀(G:Frame->List Frame->Hp->Prop) (fr:Frame) (g:Value->Frame) (cs:List Frame),VY G->KV P fr g s wk nr->(∀v e,d v e->Reach P G (g v) cs e)->Reach P G fr cs H
def Zk.mono{P:aX}{H:Hp}{e d:Value->Hp->Prop}(h:Zk P s wk nr H e)(p:∀v H,e v H->d v H):Zk P s wk nr H d:=
 λG fr t cs o m j=>h G fr t cs o m λv g q=>j v g (p _ _ q)
def Zk.any{P:aX}{H:Hp}{d:Value->Hp->Prop}(h:Zk P s wk false H d):Zk P s wk nr H d:=
 λG fr m cs j e g=>h G fr m cs j ⟨e.val,e.halt,e.spawn,e.wake,λh=>by simp at h,e.comm⟩ g
def Va(P:Program)(o:Oper):Bool:=
 match o.op with
 | .call { callee:=.value (.func f),.. }=>!(P.funcs[f]?).any (·.body.isSome)
 | .call { callee:=.value _,.. }=>false
 | .call _=>true
 | _=>false
def lO(P:aX)(nr:Bool)(o:Oper)(a:Act)(next:Act->Hp->Prop)(H:Hp):Prop:=
 bL P (execOp a.eval o) (λn g d=>g=true\/Is P o.dst a next n d) false H\/Zk P (execOp a.eval o) (Va P o) nr H λv d=>next (put a o.dst v) d
def uX(P:aX)(nr:Bool)(aI:Array Oper)(Q:Act->Hp->Prop):List Nat->Act->Hp->Prop
 | [],a,H=>Q a H
 | i :: rest,a,H=>
  match aI[i]? with
  | none=>uX P nr aI Q rest a H
  | some o=>if Region.wanted o (yielded aI a.tmps)then lO P nr o a (uX P nr aI Q rest) H else uX P nr aI Q rest (put a o.dst undef) H
def Jn(b:Frame)(a:Act)(aI:Array Oper)(i:Nat)(rest:List Nat)(k:List Item)(v:Value) :
  (on b a (.inRegion aI (i :: rest) :: k)).finish v=on b (put a ((aI[i]?).bind (·.dst)) v) (.inRegion aI rest :: k):=by
 cases h:(aI[i]?).bind (·.dst)<;>simp[Frame.finish,on,put,h]
theorem ZsP(b:Frame)(a:Act)(todo:List Item):(on b a todo).eval=a.eval:=by funext x;cases x<;>rfl
theorem Q4{P:Program}{b:Frame}{a:Act}{cs:List Frame}{aI:Array Oper}{i:Nat}{rest:List Nat}{o:Oper}{main:Bool}(j:aI[i]? = some o)(m:Region.wanted o (yielded aI a.tmps)=true)
  (h:∀c,o.op=.defer c->b.roundOf=none) :
  stepG P main (cV (on b a (.inRegion aI (i :: rest) :: k)) cs) w=stepG.apply P true (on b a (.inRegion aI (i :: rest) :: k)) cs none (execOp a.eval o) w:=by
 have e:=ZsP b a (.inRegion aI (i :: rest) :: k);simp only[on]at e;simp only[on,stepG,stepG.exec,j,qBZ,Option.getD_some,m,qBp,stepG.oper,Frame.oper?,e];split
 ·rename_i l c g d;rw[h c d]at g;simp at g
 rfl
end
variable{nr main:Bool}{i id:Nat}{rest:List Nat}{w:World}
section aI
variable{P:aX}{Q:Ex->Act->Hp->Prop}{b:Frame}{a:Act}{k:List Item}{cs:List Frame}{H:Hp}{aI:Array Oper}{G:Frame->List Frame->Hp->Prop}
theorem ZmC(hb:b.kind≠.early):(b.kind == CallKind.early)=false:=by cases h:b.kind<;>simp_all<;>rfl
def ZpO(K:nr=true->norace P b.fn=true){o:Oper}{next:Act->Hp->Prop}(u:VY G)(hb:b.kind≠.early)(t:aI[i]? = some o)(E:Region.wanted o (yielded aI a.tmps)=true)(B:∀c,o.op=.defer c->b.roundOf=none)
  (h:lO P nr o a next H) (A:∀a H,next a H->Reach P G (on b a (.inRegion aI rest :: k)) cs H):Reach P G (on b a (.inRegion aI (i :: rest) :: k)) cs H:=by
 have g:((on b a (.inRegion aI (i :: rest) :: k)).kind == CallKind.early)=false:=ZmC hb;have L:Va P o=true->∀cs,mayWake P (cV (on b a (.inRegion aI (i :: rest) :: k)) cs)=true:=by
  intro m cs;unfold Va at m;simp only[mayWake,on,t,qBZ];split at m
  ·rename_i I;simp only[I];simpa[Frame.eval]using m
  ·simp at m
  ·rename_i c R J I;simp only[I]
  simp at m
 have e:∀v,(on b a (.inRegion aI (i :: rest) :: k)).finish v=on b (put a o.dst v) (.inRegion aI rest :: k):=by intro v;rw[Jn,t];rfl
 rcases h with h | h;case inr=>
  refine h G _ (λv=>on b (put a o.dst v) (.inRegion aI rest :: k)) cs u ⟨λmain cs w w' v es j=>?_,.inr λmain cs w es j=>?_,.inr λmain cs w w' f c aA es j=>?_,L,K,.inr ⟨λv=>(e v).symm,λmain cs w w' c O S es j=>?_⟩⟩ λv q D=>A _ _ D
  ·rw[Q4 t E B,<-e];simp only[stepG.apply,j,qBp,g,DO,qAw,GStep.after,qAG]
  ·rw[Q4 t E B];simp only[stepG.apply,j,qBp,g,DO,qAw,GStep.after,qAG];rfl
  ·rw[Q4 t E B,<-e];simp only[stepG.apply,j,qBp,g,DO,qAw,GStep.after,qAG];rw[aT (by simp)];simp only[qAG]
  ·rw[Q4 t E B];simp only[stepG.apply,j,qBp,g,DO,qAw,GStep.after,qAG]
 refine .AO h ?_;intro n N M;have z:∀{q},(false=true\/Is P o.dst a next n q)->Is P o.dst a next n q:=λh=>h.resolve_left (by simp)
 have C:=λmain w=>Q4 (P:=P) (b:=b) (k:=k) (cs:=cs) (w:=w) (rest:=rest) (main:=main) t E B;cases n with
 | value v=>exact⟨_,_,λmain w w' es j=>⟨_,by rw[C];simp only[stepG.apply,j,qBp,g,DO,qAw,GStep.after,qAG];rfl,.inr rfl⟩,λq p=>by rw[e];exact A _ _ (z p)⟩
 | skip=>exact⟨_,_,λmain w w' es j=>⟨_,by rw[C];simp only[stepG.apply,j,qBp,g,DO,qAw,GStep.after,qAG];rfl,.inr rfl⟩,λq p=>by rw[e];exact A _ _ (z p)⟩
 | defer d=>
  refine⟨_,_,λmain w w' es j=>⟨_,by rw[C];simp only[stepG.apply,j,qBp,g,DO,qAw,GStep.after,qAG];rfl,.inr rfl⟩,λq p=>?_⟩;have:({ on b a (.inRegion aI (i :: rest) :: k)with defers:=d :: a.defers }:Frame).finish undef =
    on b (put { a with defers:=d :: a.defers } o.dst undef) (.inRegion aI rest :: k):=by
   have:=Jn b { a with defers:=d :: a.defers } aI i rest k undef
   rw[t]at this;exact this
  have J:=A _ _ (z p);rw[<-this]at J;exact J
 | enter f args=>exact⟨_,_,λmain w w' es j=>⟨_,by rw[C];simp only[stepG.apply,j,qBp,g,DO,qAw,GStep.after,qAG];rfl,.inr rfl⟩,λq p=>z p G _ cs u λv F D=>by rw[e];exact A _ _ D⟩
 | round l f tmps assign body=>exact⟨_,_,λmain w w' es j=>⟨_,by rw[C];simp only[stepG.apply,j,qBp,g,DO,qAw,GStep.after,qAG];rfl,.inr rfl⟩,λq p=>z p G _ cs u λv F D=>by rw[e];exact A _ _ D⟩
 | _=>exact(z M).elim
def ZhL(h:((aI[i]?).map (Region.wanted · (yielded aI a.tmps))).getD false=false)
  (d:Reach P G (on b (put a ((aI[i]?).bind (·.dst)) undef) (.inRegion aI rest :: k)) cs H):Reach P G (on b a (.inRegion aI (i :: rest) :: k)) cs H:=by
 rw[<-Jn]at d;refine .pure (λmain w=>?_) d;have e:=h;simp only[on]at *;simp[stepG,stepG.exec,e]
def I3(aI:Array Oper):Bool:=aI.all λo=>match o.op with | .defer _=>false | _=>true
def ZhM(j:nr=true->norace P b.fn=true)(g:VY G)(hb:b.kind≠.early)(d:b.roundOf=none\/I3 aI=true){R:Act->Hp->Prop}(q:∀a H,R a H->Reach P G (on b a k) cs H) :
  ∀(l:List Nat) (a:Act) (H:Hp),uX P nr aI R l a H->Reach P G (on b a (.inRegion aI l :: k)) cs H:=by
 intro l;induction l with
 | nil=>exact λa H h=>.pure (λmain w=>by simp[stepG,stepG.exec,on]) (q _ _ h)
 | cons i rest ih=>
  intro a H h;simp only[uX]at h;cases ho:aI[i]? with
  | none=>
   simp only[ho]at h;exact ZhL (by simp[ho]) (by simpa[ho,put]using ih a H h)
  | some o=>
   simp only[ho]at h;by_cases e:Region.wanted o (yielded aI a.tmps)=true
   ·simp only[e,qBp]at h;refine ZpO j g hb ho e ?_ h ih;intro c p;rcases d with d | d
    ·exact d
    exfalso;have:=Array.all_eq_true.1 d i (by rcases qBi i aI.size with h | h;exact h;simp[qDh h]at ho);have m:aI[i]'(by rcases qBi i aI.size with h | h;exact h;simp[qDh h]at ho)=o:=by have:=qAK.1 ho;exact this.2
    rw[m,p]at this;simp at this
   simp only[e]at h;exact ZhL (by simp[ho,e]) (by simpa[ho]using ih _ H h)
end aI
section regions
variable{P:aX}{rd:Rd}{Q:Ex->Act->Hp->Prop}{a:Act}{H:Hp}
theorem gX.region{aI:Array Oper}(hd:rd.xG=true\/I3 aI=true)(h:uX P rd.nr aI (Q .normal) (List.range aI.size) a H):gX P rd (.region id aI false) Q a H:=by intro G b k cs d hb e;refine .pure (eC:=on b a (.inRegion aI (List.range aI.size) :: k)) (jX:=cs) (λmain w=>by simp[stepG,stepG.exec,on]) ?_;exact ZhM hb.nr d hb.kind (hd.imp hb.xG λh=>h) (R:=Q .normal) (λa H g=>e .normal a H g) _ _ _ h
theorem gX.BZ{aI:Array Oper}(q:P.still H.gh=false)(hd:rd.xG=true\/I3 aI=true)(h:∀t,uX P rd.nr aI (Q .normal) (Region.schedule (P.follows .mixedOrders) aI t) a H):gX P rd (.region id aI true) Q a H:=by
 intro G b k cs d hb o;refine .AO (s:=choose (.order b.fn id)) (Q:=λt _ e=>e=H) ?_ ?_
 ·simp only[choose,bL,Question.forced,DO,qAw];exact⟨q,λ_=>trivial⟩
 intro t _ _;refine⟨on b a (.inRegion aI (Region.schedule (P.follows .mixedOrders) aI t) :: k),cs,λmain w w' es g=>⟨#[],?_,.inl rfl⟩,λe j=>?_⟩
 ·have m:(choose (.order b.fn id)).run P w=.ok t w':=by have:=qBc Prod.fst g;rw[Sem.runT_eq]at this;exact this
  simp[stepG,stepG.exec,on,m]
 subst j;exact ZhM hb.nr d hb.kind (hd.imp hb.xG λh=>h) (R:=Q .normal) (λa H p=>o .normal a H p) _ _ _ (h t)
end regions
def Wv{P:aX}{b:Frame}{a:Act}{k:List Item}{cs:List Frame}(d:b.roundOf=none) :
  stepG P main (cV (on b a (.code .ret :: k)) cs) w=.go (cV { on b a (.code .ret :: k)with mode:=.returning } cs) w:=by
 simp[stepG,stepG.exec,on,d]
def Wu{P:aX}{b:Frame}{a:Act}{cs:List Frame}(d:b.roundOf=none) :
  stepG P main (cV (on b a []) cs) w=.go (cV { on b a []with mode:=.returning } cs) w:=by
 simp[stepG,stepG.exec,on,d]
