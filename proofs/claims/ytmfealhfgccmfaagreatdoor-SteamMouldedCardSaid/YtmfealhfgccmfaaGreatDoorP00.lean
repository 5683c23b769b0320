import Derived.KernelRfl
import Derived.Control
set_option linter.all false
abbrev aT:=@Option.some.inj
abbrev iF:=@if_neg
abbrev iN:=@List.getElem_mem
abbrev iO:=@List.mem_singleton
abbrev oR:=@Bool.false_eq_true
abbrev BY:=@List.take_succ_eq_append_getElem
abbrev DO:=@Nat.le_refl
abbrev IF:=@Option.some.injEq
abbrev IN:=@List.length_append
abbrev qAa:=@if_pos
abbrev qAb:=@Classical.byContradiction
abbrev qAc:=@Bool.and_eq_true
abbrev qAd:=@List.length_map
abbrev qAe:=@List.length_set
abbrev qAf:=@List.all_eq_true
abbrev qAg:=@Array.getElem?_setIfInBounds_ne
abbrev qAh:=@List.take_length
abbrev qAi:=@List.mem_cons
abbrev qAj:=@List.mem_append
abbrev qAk:=@List.mem_toArray
abbrev qAl:=@List.append_nil
abbrev qAm:=@List.mem_cons_of_mem
abbrev qAn:=@Array.all_eq_true_iff_forall_mem
abbrev qAo:=@Ne.symm
abbrev qAp:=@List.getD_eq_getElem?_getD
abbrev qAq:=@if_false
abbrev qAr:=@List.eq_nil_of_length_eq_zero
abbrev qAs:=@List.length_take
abbrev qAt:=@List.nil_append
abbrev qAu:=@List.mem_filter
abbrev qAv:=@Nat.lt_succ_iff_lt_or_eq
abbrev qAw:=@Array.append_empty
abbrev qAx:=@congrArg
abbrev qAy:=@List.mem_map
abbrev qAz:=@List.mem_iff_getElem
abbrev qAA:=@List.mem_range
abbrev qAB:=@List.mem_cons_self
abbrev qAC:=@Array.getElem?_eq_some_iff
abbrev qAD:=@Option.map_eq_some_iff
abbrev qAE:=@List.append_assoc
abbrev qAF:=@List.length_cons
abbrev qAG:=@Array.getElem?_setIfInBounds_self_of_lt
abbrev qAH:=@List.take_of_length_le
abbrev qAI:=@List.flatMap_cons
abbrev qAJ:=@Nat.zero_add
abbrev qAK:=@decide_eq_true_eq
abbrev qAL:=@Int.toNat_natCast
abbrev qAM:=@List.getElem?_toArray
abbrev qAN:=@decide_eq_true_iff
abbrev qAO:=@Int.le_refl
abbrev qAP:=@Nat.le_trans
abbrev qAQ:=@List.getElem?_append_left
abbrev qAR:=@Nat.pow_le_pow_right
abbrev qAS:=@Array.mem_toList_iff
abbrev qAT:=@List.getElem?_eq_none
abbrev qAU:=@decide_eq_false
abbrev qAV:=@Nat.mul_le_mul_right
abbrev qAW:=@List.length_singleton
abbrev qAX:=@Prod.mk.injEq
abbrev qAY:=@Nat.lt_of_lt_of_le
abbrev qAZ:=@List.getElem?_eq_getElem
abbrev qBa:=@List.cons_append
abbrev qBb:=@if_true
abbrev qBc:=@Array.getElem?_eq_getElem
abbrev qBd:=@Nat.eq_zero_or_pos
abbrev qBe:=@Array.mem_append
abbrev qBf:=@Nat.zero_le
abbrev qBg:=@List.cons.injEq
abbrev qBh:=@Nat.lt_or_ge
abbrev qBi:=@Bool.not_eq_true'
abbrev qBj:=@List.length_eq_zero_iff
abbrev qBk:=@List.getElem?_cons_succ
abbrev qBl:=@Nat.sub_zero
abbrev qBm:=@List.map_cons
abbrev qBn:=@List.getElem_map
abbrev qBo:=@List.length_range
abbrev qBp:=@List.forIn_cons
abbrev qBq:=@List.getElem?_drop
abbrev qBr:=@List.forIn_toArray
abbrev qBs:=@Nat.eq_of_beq_eq_true
abbrev qBt:=@List.map_append
abbrev qBu:=@List.exists_mem_of_ne_nil
abbrev qBv:=@List.getElem?_take
abbrev qBw:=@List.getElem_append_left
abbrev qBx:=@Nat.succ_mul
abbrev qBy:=@List.getElem?_cons_zero
abbrev qBz:=@List.getElem?_append_right
abbrev qBA:=@Int.tdiv_eq_ediv_of_nonneg
abbrev qBB:=@Nat.lt_of_le_of_lt
abbrev qBC:=@Option.map_some
abbrev qBD:=@List.not_mem_nil
abbrev qBE:=@Nat.add_sub_cancel
abbrev qBF:=@List.pairwise_cons
abbrev qBG:=@List.foldl_cons
abbrev qBH:=@Array.getElem?_map
abbrev qBI:=@Array.getD_eq_getD_getElem?
abbrev qBJ:=@Int.fdiv_eq_ediv_of_nonneg
abbrev qBK:=@Nat.mul_le_mul
abbrev qBL:=@List.getElem_append_right
abbrev qBM:=@List.map_nil
abbrev qBN:=@List.length_filter_le
abbrev qBO:=@List.all_append
abbrev qBP:=@Bool.or_eq_true
abbrev qBQ:=@Bool.eq_iff_iff
abbrev qBR:=@Option.isSome_iff_exists
abbrev qBS:=@List.map_toArray
abbrev qBT:=@Array.toArray_toList
abbrev qBU:=@decide_eq_false_iff_not
abbrev qBV:=@List.pairwise_singleton
abbrev qBW:=@Nat.not_lt_zero
abbrev qBX:=@Nat.min_eq_left
abbrev qBY:=@List.length_pos_iff
abbrev qBZ:=@List.drop_eq_nil_of_le
abbrev qCa:=@implies_true
abbrev qCb:=@List.length_replicate
abbrev qCc:=@Array.getElem?_modify
abbrev qCd:=@List.pairwise_iff_getElem
abbrev qCe:=@List.getElem?_map
abbrev qCf:=@Nat.sub_self
abbrev qCg:=@Nat.add_zero
abbrev qCh:=@Nat.sub_lt_sub_left
abbrev qCi:=@List.take_append_of_le_length
abbrev qCj:=@List.any_eq_true
abbrev qCk:=@BitVec.toNat_and
abbrev qCl:=@BitVec.toNat_ofInt
abbrev qCm:=@Array.getElem?_setIfInBounds
abbrev qCn:=@Nat.testBit_two_pow_mul_add
abbrev qCo:=@Nat.mul_one
abbrev qCp:=@Nat.le_of_ble_eq_true
abbrev qCq:=@List.take_append_drop
abbrev qCr:=@Std.Legacy.Range.forIn_eq_forIn_range'
abbrev qCs:=@List.foldl_append
abbrev qCt:=@Nat.shiftRight_eq_div_pow
abbrev qCu:=@List.mem_or_eq_of_mem_set
abbrev qCv:=@List.drop_eq_getElem_cons
abbrev qCw:=@and_true
abbrev qCx:=@Nat.lt_succ_self
abbrev qCy:=@List.filter_cons
abbrev qCz:=@List.ext_getElem
abbrev qCA:=@Array.length_toList
abbrev qCB:=@Array.getElem?_push
abbrev qCC:=@Nat.pow_succ
abbrev qCD:=@Nat.testBit_and
abbrev qCE:=@Array.empty_append
abbrev qCF:=@Nat.testBit_lt_two_pow
abbrev qCG:=@List.drop_of_length_le
abbrev qCH:=@List.append_eq_nil_iff
abbrev qCI:=@Array.getElem?_eq_none
abbrev qCJ:=@List.ext_getElem?
abbrev qCK:=@Bool.not_false
abbrev qCL:=@Bool.false_and
abbrev qCM:=@Int.le_trans
abbrev qCN:=@Array.mem_iff_getElem
abbrev qCO:=@decide_eq_decide
abbrev qCP:=@List.mem_flatMap
abbrev qCQ:=@List.drop_length
abbrev qCR:=@Nat.eq_of_testBit_eq
abbrev qCS:=@List.pairwise_append
abbrev qCT:=@List.mem_append_left
abbrev qCU:=@List.contains_eq_mem
abbrev qCV:=@or_false
abbrev qCW:=@Nat.add_assoc
abbrev qCX:=@Nat.not_lt
abbrev qCY:=@List.take_set_of_le
abbrev qCZ:=@List.range_succ
abbrev qDa:=@List.map_congr_left
abbrev qDb:=@List.flatMap_append
abbrev qDc:=@List.any_append
abbrev qDd:=@Int.natCast_mul
abbrev qDe:=@Iff.rfl
abbrev qDf:=@Array.getElem?_append_left
abbrev qDg:=@Nat.zero_mul
abbrev qDh:=@Nat.le_of_lt
abbrev qDi:=@List.ne_nil_of_mem
abbrev qDj:=@Int.natCast_nonneg
abbrev qDk:=@Array.foldl_toList
abbrev qDl:=@Option.isNone_iff_eq_none
abbrev qDm:=@List.mem_take_iff_getElem
abbrev qDn:=@Array.mk.injEq
abbrev qDo:=@Nat.mod_lt
abbrev qDp:=@List.getElem_take
abbrev qDq:=@List.all_eq_false
abbrev qDr:=@Option.bind_eq_some_iff
abbrev qDs:=@Nat.testBit_mod_two_pow
abbrev qDt:=@Nat.add_mul
abbrev qDu:=@List.getElem_set
abbrev qDv:=@List.drop_append
abbrev qDw:=@Nat.le_of_eq
abbrev qDx:=@Nat.div_le_self
abbrev qDy:=@List.singleton_append
abbrev qDz:=@List.nodup_cons
abbrev qDA:=@Int.le_of_lt
abbrev qDB:=@Array.mem_of_getElem?
abbrev qDC:=@List.mem_of_mem_take
abbrev qDD:=@Or.imp
abbrev qDE:=@Nat.testBit_or
abbrev qDF:=@List.map_eq_nil_iff
abbrev qDG:=@List.getElem?_range
abbrev qDH:=@Prod.lexAccessible
abbrev qDI:=@Nat.and_one_is_mod
abbrev qDJ:=@List.set_eq_take_append_cons_drop
abbrev qDK:=@List.map_singleton
abbrev qDL:=@List.getElem_range
abbrev qDM:=@List.filter_append
abbrev qDN:=@Bool.not_true
abbrev qDO:=@Bool.false_or
abbrev qDP:=@Array.append_assoc
abbrev qDQ:=@List.pairwise_map
abbrev qDR:=@List.getElem?_set
abbrev qDS:=@List.filter_congr
abbrev qDT:=@Nat.mul_comm
abbrev qDU:=@Nat.add_comm
abbrev qDV:=@List.map_map
abbrev qDW:=@List.getElem_inj
abbrev qDX:=@List.flatMap_map
abbrev qDY:=@List.exists_mem_of_length_pos
abbrev qDZ:=@Bool.not_eq_true
abbrev qEa:=@true_and
abbrev qEb:=@List.countP_eq_length_filter
def GW{G:Prop}(h:G:=by exact⟨x,w',H',pE,g',by simp only[Sem.runT];exact e1,f.trans e2,⟨e3,e5⟩,λe he=>(e4 e he).BJ f e2.size⟩):G:=h
def O{p:Prop}(h:p:=by omega):p:=h
def U{p:Prop}(h:p:=by kernel_rfl):p:=h
def V{p:Prop}(h:p:=by repeat (first | exact trivial | refine⟨rfl,?_⟩)):p:=h
def Go.LL.gI{n j:Nat}(h:j<n):n-(j+1)<n-j:=qCh h (qCx j)
namespace Go.LL
section
variable{r b n:Nat}{α:Type}{w:World}{a:Addr}
structure Hp where
 mem:Nat->Option (Obj×Bool)
 gh:List Nat
instance:CoeFun Hp (λ_=>Nat->Option (Obj×Bool)):=⟨Hp.mem⟩
def Hp.ext'{H F:Hp}(h:∀b,H b=F b)(g:H.gh=F.gh):H=F:=by
 cases H;cases F
 obtain rfl:=g;congr;exact funext h
def Hp.nil:Hp:=⟨λ_=>none,[]⟩
def Hp.ins(H:Hp)(r:Nat)(o:Obj):Hp:=⟨λb=>if b=r then some (o,true)else H b,H.gh⟩
theorem Hp.iG(H:Hp)(r:Nat)(o:Obj)(b:Nat):H.ins r o b=if b=r then some (o,true)else H b:=rfl
def Hp.le(H:Hp)(w:World):Prop:=∀b o p,H b=some (o,p)->w.heap[b]? = some o
def Hp.aQ(H:Hp)(r:Nat)(o:Obj):H.ins r o r=some (o,true):=by simp[Hp.iG]
def Hp.aR(H:Hp)(o:Obj)(h:b≠r):H.ins r o b=H b:=by simp[Hp.iG,h]
def Obj.mU(o:Obj)(i:Nat):Bool:=
 match o with
 | .cells _ _ (e,d)=>e<=i && i<d
 | _=>false
def Obj.nY(o:Obj):Option (TypeId×Nat):=
 match o with
 | .cells c e _=>some (e,c.size)
 | _=>none
def Obj.p8:Obj->Bool
 | .cells ..=>true
 | _=>false
def Obj.put(o:Obj)(i:Nat)(v:Value):Obj:=
 match o with
 | .cells c e f=>.cells (c.setIfInBounds i v) e f
 | o=>o
def Obj.qN(o:Obj)(i n:Nat):Obj:=
 match o with
 | .cells c e (g,d)=>.cells c e (if g == d then(i,i+n)else(min g i,max d (i+n)))
 | o=>o
def Obj.nC(o:Obj)(i:Nat):Option Value:=
 match o with
 | .cells c _ _=>c[i]?
 | _=>none
def Value.gM:Value->Bool
 | .agg _ | .tuple _=>false
 | _=>true
structure PQ extends Program where
 still:List Nat->Bool
 stillNil:still []=false->∀g,still g=false
instance:Coe PQ Program:=⟨PQ.toProgram⟩
def fZ(P:PQ){α:Type}:Sem α->(α->Bool->Hp->Prop)->Bool->Hp->Prop
 | .pure a,Q,g,H=>Q a g H
 | .load m a k,Q,g,H=>∃o p v,(P.still H.gh=false/\H a.block=some (o,p))/\m=.plain/\a.spot=none/\Obj.nC o a.off=some v/\fZ P (k v) Q g H
 | .store m a v k,Q,g,H=>∃o,(P.still H.gh=false/\H a.block=some (o,true))/\m=.plain/\a.spot=none/\Value.gM v=true/\(Obj.nC o a.off).isSome=true/\Obj.mU o a.off=false /\
   fZ P k Q g (H.ins a.block (Obj.put o a.off v))
 | .new o k,Q,g,H=>P.still H.gh=false/\∀r,H r=none->fZ P (k r) Q g (H.ins r o)
 | .shape r k,Q,g,H=>∃o p,(P.still H.gh=false/\H r=some (o,p))/\fZ P (k (Obj.nY o)) Q g H
 | .freeze a n k,Q,g,H=>(n=0/\fZ P k Q g H)\/∃o,(P.still H.gh=false/\H a.block=some (o,true))/\n≠0/\fZ P k Q g (H.ins a.block (Obj.qN o a.off n))
 | .frozen a k,Q,g,H=>∃o p,(P.still H.gh=false/\H a.block=some (o,p))/\fZ P (k (Obj.mU o a.off)) Q g H
 | .getObj r k,Q,g,H=>∃o p,(P.still H.gh=false/\H r=some (o,p))/\Obj.p8 o=false/\o.isChan=false/\fZ P (k o) Q g H
 | .setObj r o k,Q,g,H=>∃d,(P.still H.gh=false/\H r=some (d,true))/\Obj.p8 d=false/\d.isChan=false/\o.isChan=false/\fZ P k Q g (H.ins r o)
 | .choose q k,Q,g,H=>if q.forced then fZ P (k 0) Q g H else P.still H.gh=false/\∀t,fZ P (k (q.cut t)) Q g H
 | .sys _ _,_,_,_=>False
 | .program k,Q,g,H=>fZ P (k P.toProgram) Q g H
 | .mark m k,Q,g,H=>((∃f,m=.extern f)\/(m=.noRoom/\P.still H.gh=false))/\fZ P k Q g H
 | .halt _,_,_,_=>False
def Vx{P:PQ}{s:Sem α}{Q Q':α->Bool->Hp->Prop}(C:∀a g H,Q a g H->Q' a g H):∀{g:Bool} {H:Hp},fZ P s Q g H->fZ P s Q' g H:=by
 induction s with
 | pure a=>exact λh=>C _ _ _ h
 | load m a k ih=>exact λ⟨o,p,v,d,e,j,u,z⟩=>⟨o,p,v,d,e,j,u,ih v z⟩
 | store m a v k ih=>exact λ⟨o,d,e,j,u,z,B,h7⟩=>⟨o,d,e,j,u,z,B,ih h7⟩
 | new o k ih=>exact λh=>⟨h.1,λr D=>ih r (h.2 r D)⟩
 | shape r k ih=>exact λ⟨o,p,d,e⟩=>⟨o,p,d,ih _ e⟩
 | freeze a n k ih=>exact λh=>h.imp (λ⟨d,e⟩=>⟨d,ih e⟩) (λ⟨o,d,e,j⟩=>⟨o,d,e,ih j⟩)
 | frozen a k ih=>exact λ⟨o,p,d,e⟩=>⟨o,p,d,ih _ e⟩
 | getObj r k ih=>exact λ⟨o,p,d,e,j,u⟩=>⟨o,p,d,e,j,ih _ u⟩
 | setObj r o k ih=>exact λ⟨E,d,e,j,u,z⟩=>⟨E,d,e,j,u,ih z⟩
 | choose q k ih=>
  intro g H h;by_cases A:q.forced=true
  ·simp only[fZ,A,qBb]at h ⊢;exact ih _ h
  simp only[fZ,A]at h ⊢;exact⟨h.1,λt=>ih _ (h.2 t)⟩
 | sys c k ih=>exact λh=>h
 | program k ih=>exact λh=>ih _ h
 | mark m k ih=>exact λ⟨d,e⟩=>⟨d,ih e⟩
 | halt h=>exact λh=>h
structure Fr(H:Hp)(w:World)(H':Hp)(w':World):Prop where
 os:w'.os=w.os
 tape:w'.tape=w.tape
 out:w'.output=w.output
 drawn:w.drawn<=w'.drawn
 size:w.heap.size<=w'.heap.size
 keep:∀b,b<w.heap.size->(∀o,H b≠some (o,true))->w'.heap[b]? = w.heap[b]?
 le:H'.le w'
 new:∀b,H b=none->H' b≠none->w.heap.size<=b
 ro:∀b o,H b=some (o,false)->H' b=some (o,false)
 rw:∀b o,H b=some (o,true)->∃o',H' b=some (o',true)
 gh:H'.gh=H.gh
def Hp.le.lt{H:Hp}(h:H.le w){x:Obj×Bool}(hb:H b=some x):b<w.heap.size:=by have:=h b x.1 x.2 hb;exact(qAC.1 this).1
theorem Fr.refl{H:Hp}(h:H.le w):Fr H w H w where
 os:=rfl
 tape:=rfl
 out:=rfl
 drawn:=DO _
 size:=DO _
 keep:=λ_ _ _=>rfl
 le:=h
 new:=λ_ d e=>absurd d e
 ro:=λ_ _ h=>h
 rw:=λ_ o h=>⟨o,h⟩
 gh:=rfl
def Fr.trans{g j q:Hp}{u v z:World}(a:Fr g u j v)(b:Fr j v q z):Fr g u q z where
 os:=b.os.trans a.os
 tape:=b.tape.trans a.tape
 out:=b.out.trans a.out
 drawn:=qAP a.drawn b.drawn
 size:=qAP a.size b.size
 keep:=λx m t=>by
  rw[b.keep x (qAY m a.size) ?_,a.keep x m t];intro o d;cases e:g x with
  | none=>exact absurd m (qCX.2 (a.new x e (by rw[d];simp)))
  | some y=>
   obtain⟨D,p⟩:=y;cases p with
   | true=>exact t _ e
   | false=>
    have:=a.ro x D e;rw[this]at d;simp at d
 le:=b.le
 new:=λx e B=>by
  cases d:j x with
  | none=>exact qAP a.size (b.new x d B)
  | some y=>exact a.new x e (by rw[d];simp)
 ro:=λx o h=>b.ro x o (a.ro x o h)
 rw:=λx o h=>by obtain⟨C,A⟩:=a.rw x o h;exact b.rw x C A
 gh:=b.gh.trans a.gh
def EvL(H:Hp)(w:World)(n:Nat)(e:Event):Prop:=
 match e.loc with
 | .cell a=>e.sync=false/\((∃o p,H a.block=some (o,p)/\(e.write=true->p=true))\/w.heap.size<=a.block/\a.block<n)
 | .obj r=>e.sync=false/\((∃o p,H r=some (o,p)/\(e.write=true->p=true))\/w.heap.size<=r/\r<n)
 | .mark (.extern _)=>True
 | .mark .noRoom=>True
 | _=>False
def EvL.BJ{H g:Hp}{w':World}(f:Fr H w g w')(t:w'.heap.size<=n){e:Event}(h:EvL g w' n e):EvL H w n e:=by
 have key:∀r,((∃o p,g r=some (o,p)/\(e.write=true->p=true))\/w'.heap.size<=r/\r<n)->((∃o p,H r=some (o,p)/\(e.write=true->p=true))\/w.heap.size<=r/\r<n):=by
  rintro r (⟨o,p,d,q⟩ | h)
  ·cases hr:H r with
   | none=>exact .inr ⟨f.new r hr (by rw[d];simp),qAY (f.le.lt d) t⟩
   | some y=>
    obtain⟨j,m⟩:=y;refine .inl ⟨j,m,rfl,λu=>?_⟩;cases m with
    | true=>rfl
    | false=>
     have:=f.ro r j hr;rw[this]at d;simp at d;have:=q u;rw[d.2]at this;exact this
  exact .inr ⟨qAP f.size h.1,h.2⟩
 unfold EvL at h ⊢;split at h
 ·exact⟨h.1,key _ h.2⟩
 ·exact⟨h.1,key _ h.2⟩
 ·trivial
 ·trivial
 trivial
def pM{o:Obj}{v:Value}(h:w.heap[a.block]? = some o)(e:a.spot=none)(d:Obj.nC o a.off=some v):w.cell? a=some v:=by
 unfold World.cell?;cases o<;>simp[Obj.nC]at d
 simp[h,e,d]
def qM{o:Obj}(h:w.heap[a.block]? = some o):w.frozen? a=Obj.mU o a.off:=by unfold World.frozen? Obj.mU;rw[h];cases o<;>simp
def Hp.le.kW{H:Hp}(h:H.le w)(o:Obj):(H.ins w.heap.size o).le { w with heap:=w.heap.push o }:=by
 intro b e p hb;simp only[Hp.iG]at hb;split at hb
 ·subst b;simp at hb;simp[hb.1]
 have:=h b e p hb;have d:=(qAC.1 this).1;simp[qCB,this];omega
theorem Fr.alloc{H:Hp}(h:H.le w)(o:Obj):Fr H w (H.ins w.heap.size o) { w with heap:=w.heap.push o } where
 os:=rfl
 tape:=rfl
 out:=rfl
 drawn:=DO _
 size:=by simp
 keep:=λb hb _=>by simp[qCB];omega
 le:=h.kW o
 new:=λb g d=>by
  simp only[Hp.iG]at d;split at d
  ·omega
  exact absurd g d
 ro:=λb e hb=>by have:=h.lt hb;rw[Hp.aR _ _ O];exact hb
 rw:=λb e hb=>by have:=h.lt hb;exact⟨e,by rw[Hp.aR _ _ O];exact hb⟩
 gh:=rfl
theorem Fr.Xk{H:Hp}(h:H.le w)(d:Nat)(hd:w.drawn<=d):Fr H w H { w with drawn:=d } where
 os:=rfl
 tape:=rfl
 out:=rfl
 drawn:=hd
 size:=DO _
 keep:=λ_ _ _=>rfl
 le:=h
 new:=λ_ e g=>absurd e g
 ro:=λ_ _ h=>h
 rw:=λ_ o h=>⟨o,h⟩
 gh:=rfl
theorem Fr.write{H:Hp}(h:H.le w){o A:Obj}(hb:H b=some (o,true)){j:Array Obj}(z:j.size=w.heap.size)(u:j[b]? = some A)
  (g:∀c,c≠b->j[c]? = w.heap[c]?):Fr H w (H.ins b A) { w with heap:=j } where
 os:=rfl
 tape:=rfl
 out:=rfl
 drawn:=DO _
 size:=by simp[z]
 keep:=λc _ B=>g c (by rintro rfl;exact B o hb)
 le:=by
  intro c m p d;simp only[Hp.iG]at d;split at d
  ·subst c;simp at d;rw[<-d.1];exact u
  rename_i v;exact(g c v).trans (h c m p d)
 new:=λc q t=>by
  simp only[Hp.iG]at t;split at t
  ·subst c;rw[hb]at q;simp at q
  exact absurd q t
 ro:=λc m d=>by rw[Hp.aR _ _ (by rintro rfl;rw[hb]at d;simp at d)];exact d
 rw:=λc m d=>by
  by_cases e:c=b
  ·subst e;exact⟨A,by simp[Hp.iG]⟩
  exact⟨m,by rw[Hp.aR _ _ e];exact d⟩
 gh:=rfl
def Fr.setCell{H:Hp}(h:H.le w){o:Obj}(e:a.spot=none)(hb:H a.block=some (o,true))(v:Value):Fr H w (H.ins a.block (Obj.put o a.off v)) (w.setCell a v):=by
 have g:=h _ _ _ hb;refine Fr.write h hb (by simp) ?_ (λc d=>?_)
 ·simp[qCc,g,Obj.put,e];cases o<;>rfl
 simp[qCc,qAo d]
def Fr.freeze{H:Hp}(h:H.le w){o:Obj}(e:n≠0)(hb:H a.block=some (o,true)):Fr H w (H.ins a.block (Obj.qN o a.off n)) (w.freeze a n):=by
 have g:=h _ _ _ hb;unfold World.freeze;rw[iF e];refine Fr.write h hb (by simp) ?_ (λc d=>?_)
 ·simp[qCc,g,Obj.qN];cases o<;>rfl
 simp[qCc,qAo d]
def Fr.setObj{H:Hp}(h:H.le w){o:Obj}(hb:H r=some (o,true))(e:Obj):Fr H w (H.ins r e) { w with heap:=w.heap.setIfInBounds r e }:=by
 have j:=h _ _ _ hb;have d:=(qAC.1 j).1;refine Fr.write h hb (by simp) ?_ (λc g=>?_)
 ·simp[d]
 simp[qAo g]
theorem Zgn{P:PQ}{s:Sem α}{Q:α->Bool->Hp->Prop}:∀{g:Bool} {H:Hp} {w:World} (es:Array Event),fZ P s Q g H->H.le w ->
  ∃a w' H' pE g',s.runT P w es=(.ok a w',es++pE)/\Fr H w H' w'/\(Q a g' H'/\(g'=true->g=true))/\∀e∈pE,EvL H w w'.heap.size e:=by
 induction s with
 | pure a=>exact λ{g H w} es h d=>⟨a,w,H,#[],g,by simp[Sem.runT],.refl d,⟨h,id⟩,by simp⟩
 | load m a k ih=>
  rintro g H w es ⟨o,p,v,⟨z,j⟩,rfl,B,C,D⟩ d;obtain⟨x,w',H',pE,g',e1,e2,⟨e3,e5⟩,e4⟩:=ih v (es.push ⟨.cell a,false,Mode.plain == .atomic⟩) D d;refine⟨x,w',H',#[⟨.cell a,false,Mode.plain == .atomic⟩]++pE,g',?_,e2,⟨e3,e5⟩,?_⟩
  ·simp only[Sem.runT,pM (d _ _ _ j) B C];rw[e1];simp
  intro e he;simp only[qBe,qAk,iO]at he;rcases he with rfl | he
  ·exact⟨rfl,.inl ⟨o,p,j,by simp⟩⟩
  exact e4 e he
 | store m a v k ih=>
  rintro g H w es ⟨o,⟨z,j⟩,rfl,B,C,D,J,h7⟩ d;obtain⟨u,R⟩:=qBR.1 D;have f:=Fr.setCell d B j v;obtain⟨x,w',H',pE,g',e1,e2,⟨e3,e5⟩,e4⟩:=ih (es.push ⟨.cell a,true,Mode.plain == .atomic⟩) h7 f.le;refine⟨x,w',H',#[⟨.cell a,true,Mode.plain == .atomic⟩]++pE,g',?_,f.trans e2,⟨e3,e5⟩,?_⟩
  ·have K:=pM (d _ _ _ j) B R;have L:=(qM (a:=a) (d _ _ _ j)).trans J;cases v<;>simp[Value.gM]at C<;>(simp only[Sem.runT,K,L,oR,qAq];rw[e1];simp)
  intro e he;simp only[qBe,qAk,iO]at he;rcases he with rfl | he
  ·exact⟨rfl,.inl ⟨o,true,j,by simp⟩⟩
  exact(e4 e he).BJ f e2.size
 | new o k ih=>
  rintro g H w es h d;have N:H w.heap.size=none:=by
   cases M:H w.heap.size with
   | none=>rfl
   | some y=>exact absurd (d.lt M) O
  have f:=Fr.alloc d o;obtain⟨x,w',H',pE,g',e1,e2,⟨e3,e5⟩,e4⟩:=ih _ es (h.2 _ N) f.le;exact GW
 | shape r k ih=>
  rintro g H w es ⟨o,p,⟨z,j⟩,t⟩ d;have:w.shape? r=Obj.nY o:=by unfold World.shape? Obj.nY;rw[d _ _ _ j];cases o<;>rfl
  obtain⟨x,w',H',pE,g',e1,e2,⟨e3,e5⟩,e4⟩:=ih _ es t d;exact⟨x,w',H',pE,g',by simp only[Sem.runT,this];exact e1,e2,⟨e3,e5⟩,e4⟩
 | freeze a n k ih=>
  rintro g H w es h d;rcases h with⟨rfl,t⟩ | ⟨o,⟨z,j⟩,t,B⟩
  ·obtain⟨x,w',H',pE,g',e1,e2,⟨e3,e5⟩,e4⟩:=ih es t d;exact⟨x,w',H',pE,g',by simp only[Sem.runT,World.freeze,qBb];exact e1,e2,⟨e3,e5⟩,e4⟩
  have f:=Fr.freeze d t j;obtain⟨x,w',H',pE,g',e1,e2,⟨e3,e5⟩,e4⟩:=ih es B f.le;exact GW
 | frozen a k ih=>
  rintro g H w es ⟨o,p,⟨z,j⟩,t⟩ d;obtain⟨x,w',H',pE,g',e1,e2,⟨e3,e5⟩,e4⟩:=ih _ es t d;exact⟨x,w',H',pE,g',by simp only[Sem.runT,qM (a:=a) (d _ _ _ j)];exact e1,e2,⟨e3,e5⟩,e4⟩
 | getObj r k ih=>
  rintro g H w es ⟨o,p,⟨z,j⟩,t,B,C⟩ d;obtain⟨x,w',H',pE,g',e1,e2,⟨e3,e5⟩,e4⟩:=ih o (es.push ⟨.obj r,false,o.isChan⟩) C d;refine⟨x,w',H',#[⟨.obj r,false,o.isChan⟩]++pE,g',?_,e2,⟨e3,e5⟩,?_⟩
  ·have F:=d _ _ _ j;simp only[Sem.runT,F];cases o<;>simp[Obj.p8]at t<;>(dsimp only;rw[e1];simp)
  intro e he;simp only[qBe,qAk,iO]at he;rcases he with rfl | he
  ·exact⟨B,.inl ⟨o,p,j,by simp⟩⟩
  exact e4 e he
 | setObj r o k ih=>
  rintro g H w es ⟨I,⟨z,j⟩,t,B,C,D⟩ d;have f:=Fr.setObj d j o;obtain⟨x,w',H',pE,g',e1,e2,⟨e3,e5⟩,e4⟩:=ih (es.push ⟨.obj r,true,o.isChan⟩) D f.le;refine⟨x,w',H',#[⟨.obj r,true,o.isChan⟩]++pE,g',?_,f.trans e2,⟨e3,e5⟩,?_⟩
  ·have F:=d _ _ _ j;simp only[Sem.runT,F];cases I<;>simp[Obj.p8]at t<;>(dsimp only;rw[e1];simp)
  intro e he;simp only[qBe,qAk,iO]at he;rcases he with rfl | he
  ·exact⟨C,.inl ⟨I,true,j,by simp⟩⟩
  exact(e4 e he).BJ f e2.size
 | choose q k ih=>
  rintro g H w es h d;simp only[fZ]at h;split at h
  ·rename_i E;obtain⟨x,w',H',pE,g',e1,e2,⟨e3,e5⟩,e4⟩:=ih _ es h d;exact⟨x,w',H',pE,g',by simp only[Sem.runT,E,qBb];exact e1,e2,⟨e3,e5⟩,e4⟩
  rename_i E;have f:=Fr.Xk d (w.drawn+1) O;obtain⟨x,w',H',pE,g',e1,e2,⟨e3,e5⟩,e4⟩:=ih _ es (h.2 (w.tape w.drawn q)) f.le;exact⟨x,w',H',pE,g',by simp only[Sem.runT,E];exact e1,f.trans e2,⟨e3,e5⟩,λe he=>(e4 e he).BJ f e2.size⟩
 | sys c k ih=>exact λ_ h=>h.elim
 | program k ih=>
  rintro g H w es h d;obtain⟨x,w',H',pE,g',e1,e2,⟨e3,e5⟩,e4⟩:=ih _ es h d;exact⟨x,w',H',pE,g',by simp only[Sem.runT];exact e1,e2,⟨e3,e5⟩,e4⟩
 | mark m k ih=>
  rintro g H w es h d;obtain⟨j,t⟩:=h;obtain⟨x,w',H',pE,g',e1,e2,⟨e3,e5⟩,e4⟩:=ih (es.push ⟨.mark m,false,true⟩) t d;refine⟨x,w',H',#[⟨.mark m,false,true⟩]++pE,g',?_,e2,⟨e3,e5⟩,?_⟩
  ·simp only[Sem.runT];rw[e1];simp
  intro e he;simp only[qBe,qAk,iO]at he;rcases he with rfl | he
  ·rcases j with⟨f,rfl⟩ | ⟨rfl,_⟩<;>trivial
  exact e4 e he
 | halt h=>exact λ_ h=>h.elim
def ZnM{P:PQ}{s:Sem α}{Q:α->Bool->Hp->Prop}:∀{g:Bool} {H:Hp},P.still H.gh=true->fZ P s Q g H ->
  ∃a j,Q a g H/\(∀(w:World) (es:Array Event),s.runT P w es=(.ok a w,es++j))/\∀e∈j,∃f,e=⟨.mark (.extern f),false,true⟩:=by
 have u:∀{b:Bool} {p:Prop},b=true->b=false->p:=by intro b p t D;rw[t]at D;simp at D
 induction s with
 | pure a=>exact λd h=>⟨a,#[],h,λw es=>by simp[Sem.runT],by simp⟩
 | load m a k ih=>exact λd ⟨o,p,v,t,_⟩=>u d t.1
 | store m a v k ih=>exact λd ⟨o,t,_⟩=>u d t.1
 | new o k ih=>exact λd h=>u d h.1
 | shape r k ih=>exact λd ⟨o,p,t,_⟩=>u d t.1
 | freeze a n k ih=>
  rintro g H d (⟨rfl,h⟩ | ⟨o,t,_⟩)
  ·obtain⟨x,j,z,A,B⟩:=ih d h;exact⟨x,j,z,λw es=>by simp only[Sem.runT,World.freeze,qBb];exact A w es,B⟩
  exact u d t.1
 | frozen a k ih=>exact λd ⟨o,p,t,_⟩=>u d t.1
 | getObj r k ih=>exact λd ⟨o,p,t,_⟩=>u d t.1
 | setObj r o k ih=>exact λd ⟨F,t,_⟩=>u d t.1
 | choose q k ih=>
  intro g H d h;simp only[fZ]at h;split at h
  ·rename_i E;obtain⟨x,j,z,A,B⟩:=ih _ d h;exact⟨x,j,z,λw es=>by simp only[Sem.runT,E,qBb];exact A w es,B⟩
  exact u d h.1
 | sys c k ih=>exact λ_ h=>h.elim
 | program k ih=>
  intro g H d h;obtain⟨x,j,z,A,B⟩:=ih _ d h;exact⟨x,j,z,λw es=>by simp only[Sem.runT];exact A w es,B⟩
 | mark m k ih=>
  rintro g H d ⟨t,h⟩;obtain⟨f,rfl⟩:=t.resolve_right (λh=>u d h.2);obtain⟨x,j,z,A,B⟩:=ih d h;refine⟨x,#[⟨.mark (.extern f),false,true⟩]++j,z,λw es=>by simp only[Sem.runT];rw[A];simp,?_⟩;intro e C;simp only[qBe,qAk,iO]at C;rcases C with rfl | C
  ·exact⟨f,rfl⟩
  exact B e C
 | halt h=>exact λ_ h=>h.elim
end
section
variable{b l id:Nat}{w w':World}{x c y:Code}{k:List Item}{f:FuncId}{s:Sem Next}{wk nr:Bool}
def ZeL(P:Program)(fn:FuncId)(es:Array Event):∀e∈seen P fn es,e∈es:=by
 intro e d;dsimp only[seen]at d;rw[<-qDk]at d;have key:∀(l:List Event) (x:Bool×Array Event),e∈(l.foldl (λx e=>match e.loc with
   | .mark (.extern f)=>((P.funcs[f]?).any (·.norace),x.2)
   | _=>(x.1,if(x.1 && !e.sync)=true then x.2 else x.2.push e)) x).2->e∈x.2\/e∈l:=by
  intro l
  induction l with
  | nil=>exact λx h=>.inl h
  | cons y l ih=>
   intro x h;simp only[qBG]at h;rcases ih _ h with h | h
   ·split at h
    ·exact .inl h
    dsimp only at h;split at h
    ·exact .inl h
    rcases Array.mem_push.1 h with h | h
    ·exact .inl h
    exact .inr (by rw[h];simp)
   exact .inr (qAm _ h)
 rcases key es.toList _ d with h | h
 ·simp at h
 exact qAS.1 h
abbrev gG(fr:Frame)(cs:List Frame):Goroutine:={ frame:=fr,callers:=cs,status:=.running,dying:=none }
def rX(P:PQ)(fr:Frame)(cs:List Frame)(H:Hp)(R:Frame->List Frame->Hp->Prop):Prop:=
 (∀(main:Bool) (w:World),H.le w ->
  ∃g d w' h es,stepG P main (gG fr cs) w=.go (gG g d) w' es/\Fr H w h w'/\R g d h/\∀e∈es,EvL H w w'.heap.size e) /\
 (P.still H.gh=true->∃g d,(∀(main:Bool) (w:World),stepG P main (gG fr cs) w=.go (gG g d) w)/\R g d H)
def rX.mono{P:PQ}{fr:Frame}{cs:List Frame}{H:Hp}{R g:Frame->List Frame->Hp->Prop}(h:rX P fr cs H R)(j:∀fr cs H,R fr cs H->g fr cs H):rX P fr cs H g:=
 ⟨λmain w p=>let⟨iD,e,w',m,es,a,b,c,d⟩:=h.1 main w p;⟨iD,e,w',m,es,a,b,j _ _ _ c,d⟩,λo=>let⟨iD,e,a,b⟩:=h.2 o;⟨iD,e,a,j _ _ _ b⟩⟩
structure Hp.Comp(H F:Hp):Prop where
 mem:∀b x y,H b=some x->F b=some y->x=y/\x.2=false
 gh:H.gh=[]\/F.gh=[]
instance {H F:Hp}:CoeFun (H.Comp F) (λ_=>∀b x y,H b=some x->F b=some y->x=y/\x.2=false):=⟨Hp.Comp.mem⟩
def Hp.join(H F:Hp):Hp:=⟨λb=>match H b with | some x=>some x | none=>F b,H.gh++F.gh⟩
theorem Hp.fW(H F:Hp)(b:Nat):H.join F b=match H b with | some x=>some x | none=>F b:=rfl
theorem Hp.gB(H F:Hp):(H.join F).gh=H.gh++F.gh:=rfl
def Hp.eN{H F:Hp}{x:Obj×Bool}(h:H b=some x):H.join F b=some x:=by simp[Hp.fW,h]
def Hp.fS{H F:Hp}(d:H.Comp F){x:Obj×Bool}(h:F b=some x):H.join F b=some x:=by
 simp only[Hp.fW];cases hh:H b with
 | none=>exact h
 | some y=>rw[(d b y x hh h).1]
def Hp.hQ{H F:Hp}:H.join F b=none↔H b=none/\F b=none:=by simp only[Hp.fW];cases hh:H b<;>simp
def Hp.le.left{H F:Hp}(h:(H.join F).le w):H.le w:=λb o p hb=>h b o p (Hp.eN hb)
def Hp.le.right{H F:Hp}(d:H.Comp F)(h:(H.join F).le w):F.le w:=λb o p hb=>h b o p (Hp.fS d hb)
def Fr.comp{H F g:Hp}(j:H.Comp F)(q:F.le w)(f:Fr H w g w'):g.Comp F:=by
 refine⟨?_,by rw[f.gh];exact j.gh⟩;intro b x y d h;cases hh:H b with
 | none=>exact absurd (q.lt h) (qCX.2 (f.new b hh (by rw[d];simp)))
 | some z=>
  obtain⟨m,e⟩:=j b z y hh h;obtain⟨o,p⟩:=z;obtain rfl:p=false:=e;rw[f.ro b o hh]at d;simp at d;rw[<-d,m];exact⟨rfl,by rw[<-m]⟩
def Fr.join{H F d:Hp}(q:H.Comp F)(v:(H.join F).le w)(f:Fr H w d w'):Fr (H.join F) w (d.join F) w' where
 os:=f.os
 tape:=f.tape
 out:=f.out
 drawn:=f.drawn
 size:=f.size
 keep:=λb hb t=>f.keep b hb λo B=>t o (Hp.eN B)
 le:=by
  intro b o p hb;simp only[Hp.fW]at hb;cases hh:d b with
  | some x=>rw[hh]at hb;exact f.le b o p (by rw[hh];exact hb)
  | none=>
   rw[hh]at hb;have j:=v.right q b o p hb;rw[f.keep b (qAC.1 j).1 (λz u=>?_)]
   ·exact j
   obtain⟨C,m⟩:=f.rw b z u;rw[hh]at m;simp at m
 new:=λb j m=>by obtain⟨A,hb⟩:=Hp.hQ.1 j;refine f.new b A λt=>m (Hp.hQ.2 ⟨t,hb⟩)
 ro:=λb o h=>by
  simp only[Hp.fW]at h;cases hh:H b with
  | some x=>rw[hh]at h;exact Hp.eN (f.ro b o (by rw[hh];exact h))
  | none=>
   rw[hh]at h;have e:=(v.right q).lt h;have:d b=none:=by
    cases g:d b with
    | none=>rfl
    | some y=>exact absurd e (qCX.2 (f.new b hh (by rw[g];simp)))
   simp only[Hp.fW];rw[this];exact h
 rw:=λb o h=>by
  simp only[Hp.fW]at h;cases hh:H b with
  | some x=>
   rw[hh]at h;obtain⟨z,g⟩:=f.rw b o (by rw[hh];exact h);exact⟨z,Hp.eN g⟩
  | none=>
   rw[hh]at h;have e:=(v.right q).lt h;have:d b=none:=by
    cases g:d b with
    | none=>rfl
    | some y=>exact absurd e (qCX.2 (f.new b hh (by rw[g];simp)))
   exact⟨o,by simp only[Hp.fW];rw[this];exact h⟩
 gh:=by rw[Hp.gB,Hp.gB,f.gh]
theorem EvL.join{H F:Hp}{n:Nat}{e:Event}(h:EvL H w n e):EvL (H.join F) w n e:=by
 unfold EvL at h ⊢;split at h
 ·exact⟨h.1,h.2.imp (λ⟨o,p,d,g⟩=>⟨o,p,Hp.eN d,g⟩) id⟩
 ·exact⟨h.1,h.2.imp (λ⟨o,p,d,g⟩=>⟨o,p,Hp.eN d,g⟩) id⟩
 ·trivial
 ·trivial
 trivial
structure Env where
 sh:(Frame->List Frame->Hp->Prop)->Frame->List Frame->Hp->Prop
 shMono:∀{R R':Frame->List Frame->Hp->Prop},(∀fr cs H,R fr cs H->R' fr cs H)->∀{fr cs H},sh R fr cs H->sh R' fr cs H
 shFrame:∀{R:Frame->List Frame->Hp->Prop} {fr cs H F},H.Comp F->sh R fr cs H->sh (λfr cs HF=>∃H',HF=H'.join F/\H'.Comp F/\R fr cs H') fr cs (H.join F)
structure fP extends PQ,Env
instance:Coe fP Program:=⟨λP=>P.toProgram⟩
instance:Coe fP PQ:=⟨λP=>P.toPQ⟩
def Env.lone:Env where
 sh:=λ_ _ _ _=>False
 shMono:=λ_ _ _ _ h=>h
 shFrame:=λ_ h=>h.elim
def Reach(P:fP)(G:Frame->List Frame->Hp->Prop)(fr:Frame)(cs:List Frame)(H:Hp):Prop:=
 ∀R:Frame->List Frame->Hp->Prop,(∀fr cs H,G fr cs H->R fr cs H)->(∀fr cs H,rX P fr cs H R->R fr cs H)->(∀fr cs H,P.sh R fr cs H->R fr cs H)->R fr cs H
section reach
variable{P:fP}{G G':Frame->List Frame->Hp->Prop}{fr:Frame}{cs:List Frame}{H:Hp}
def Reach.stop(h:G fr cs H):Reach P G fr cs H:=λ_ d _ _=>d _ _ _ h
def Reach.step(h:rX P fr cs H (Reach P G)):Reach P G fr cs H:=λR e d g=>d _ _ _ (h.mono λ_ _ _ j=>j R e d g)
def Reach.iW(h:P.sh (Reach P G) fr cs H):Reach P G fr cs H:=λR e g d=>d _ _ _ (P.shMono (λ_ _ _ j=>j R e g d) h)
def Reach.bind(h:Reach P G fr cs H)(e:∀fr cs H,G fr cs H->Reach P G' fr cs H):Reach P G' fr cs H:=
 h _ e (λ_ _ _ d=>.step d) (λ_ _ _ d=>.iW d)
def Reach.mono(h:Reach P G fr cs H)(d:∀fr cs H,G fr cs H->G' fr cs H):Reach P G' fr cs H:=h.bind λ_ _ _ e=>.stop (d _ _ _ e)
def Reach.pure{iD:Frame}{kY:List Frame}(h:∀main w,stepG P main (gG fr cs) w=.go (gG iD kY) w)(d:Reach P G iD kY H):Reach P G fr cs H:=
 .step ⟨λmain w e=>⟨iD,kY,w,H,#[],h main w,.refl e,d,by simp⟩,λ_=>⟨iD,kY,h,d⟩⟩
def Zo5(P:Program)(fn:FuncId):∀(es:Array Event),(∀e∈es,∃f,e=⟨.mark (.extern f),false,true⟩)->seen P fn es=#[]:=by
 intro es h;dsimp only[seen];rw[<-qDk];have d:∀e∈es.toList,∃f,e=⟨.mark (.extern f),false,true⟩:=λe g=>h e (qAS.1 g);revert d;generalize es.toList=l;intro d;have key:∀(l:List Event) (x:Bool×Array Event),(∀e∈l,∃f,e=⟨.mark (.extern f),false,true⟩)->(l.foldl (λx e=>match e.loc with
   | .mark (.extern f)=>((P.funcs[f]?).any (·.norace),x.2)
   | _=>(x.1,if(x.1 && !e.sync)=true then x.2 else x.2.push e)) x).2=x.2:=by
  intro l
  induction l with
  | nil=>exact λx _=>rfl
  | cons y l ih=>
   intro x j;obtain⟨f,rfl⟩:=j y (by simp);simp only[qBG];exact ih _ λe g=>j e (qAm _ g)
 exact key l _ d
def Reach.z7{α:Type}{s:Sem α}{Q:α->Bool->Hp->Prop}(B:fZ P s Q false H)
  (h:∀a C,Q a false C->∃iD j,(∀main w w' es,s.runT P w #[]=(.ok a w',es)->∃d,stepG P main (gG fr cs) w=.go (gG iD j) w' d/\(d=#[]\/d=seen P fr.fn es))/\∀p,Q a false p->Reach P G iD j p):Reach P G fr cs H:=by
 refine .step ⟨λmain w J=>?_,λA=>?_⟩
 ·obtain⟨a,w',p,es,g,q,v,⟨t,E⟩,D⟩:=Zgn #[] B J;obtain rfl:g=false:=by
   cases g with
   | false=>rfl
   | true=>exact(E rfl).symm
  obtain⟨iD,j,m,z⟩:=h a _ t;obtain⟨d,m,F⟩:=m main w w' _ q;refine⟨_,_,w',p,d,m,v,z _ t,λe u=>?_⟩;rcases F with rfl | rfl
  ·simp at u
  exact D e (by simpa using ZeL _ _ _ e u)
 obtain⟨a,es,q,v,t⟩:=ZnM A B;obtain⟨iD,j,m,z⟩:=h a _ q;refine⟨iD,j,λmain w=>?_,z _ q⟩;obtain⟨d,I,o⟩:=m main w w _ (v w #[]);rw[I];congr 1;rcases o with o | o
 ·exact o
 rw[o];exact Zo5 _ _ _ (λe u=>t e (by simpa using u))
end reach
def Uj{P:PQ}{H F:Hp}(d:H.Comp F)(h:P.still H.gh=false):P.still (H.join F).gh=false:=by
 rw[Hp.gB];rcases d.gh with e | e
 ·rw[e]at h;exact P.stillNil h _
 rw[e,qAl];exact h
def ZoE{P:PQ}{H F:Hp}(d:H.Comp F)(h:P.still (H.join F).gh=true):P.still H.gh=true:=by
 cases e:P.still H.gh with
 | true=>rfl
 | false=>rw[Uj d e]at h;simp at h
def Reach.frame{P:fP}{G:Frame->List Frame->Hp->Prop}{fr:Frame}{cs:List Frame}{H F:Hp}(h:Reach P G fr cs H)(d:H.Comp F) :
  Reach P (λfr cs m=>∃g,m=g.join F/\g.Comp F/\G fr cs g) fr cs (H.join F):=by
 refine h (λfr cs H=>H.Comp F->Reach P (λfr cs m=>∃g,m=g.join F/\g.Comp F/\G fr cs g) fr cs (H.join F)) (λfr cs H C d=>.stop ⟨H,rfl,d,C⟩) ?_ (λfr cs H p d=>.iW (P.shMono (λfr cs m ⟨g,e,t,D⟩=>by rw[e];exact D t) (P.shFrame d p))) d;intro fr cs H p d;refine .step ⟨λmain w v=>?_,λu=>?_⟩
 ·obtain⟨iD,j,w',g,es,q,o,z,A⟩:=p.1 main w v.left;exact⟨iD,j,w',g.join F,es,q,o.join d v,z (o.comp d (v.right d)),λe B=>(A e B).join⟩
 obtain⟨iD,j,q,o⟩:=p.2 (ZoE d u);exact⟨iD,j,q,o d⟩
def V7(G:Frame->List Frame->Hp->Prop):Prop:=∀fr cs H J,H.Comp J->G fr cs H->G fr cs (H.join J)
def Reach.up{P:fP}{G:Frame->List Frame->Hp->Prop}{fr:Frame}{cs:List Frame}{H J:Hp}(g:V7 G)(h:Reach P G fr cs H)(j:H.Comp J):Reach P G fr cs (H.join J):=
 (h.frame j).mono λ_ _ _ ⟨_,e,d,m⟩=>by rw[e];exact g _ _ _ _ d m
def on(b:Frame)(a:Act)(todo:List Item):Frame:={ b with tmps:=a.tmps,todo,defers:=a.defers,mode:=.run }
inductive Ex where
 | normal
 | exit (id:Nat)
 | ret
def CH(P:fP)(G:Frame->List Frame->Hp->Prop)(b:Frame)(k:List Item)(cs:List Frame):Ex->Act->Hp->Prop
 | .normal,a,H=>Reach P G (on b a k) cs H
 | .ret,a,H=>∀d,Reach P G (on b a (.code .ret :: d)) cs H
 | .exit id,a,H=>(∀d,exitTo id k=some d->Reach P G (on b a d) cs H)/\(exitTo id k=none->∀d,exitTo id d=none->Reach P G (on b a (.code (.exit id) :: d)) cs H)
def plain:Item->Bool
 | .inBlock _=>false
 | _=>true
theorem CH.xN{P:fP}{G:Frame->List Frame->Hp->Prop}{b:Frame}{x:Item}{cs:List Frame}{e:Ex}{a:Act}{H:Hp}(g:plain x=true)
  (h:CH P G b k cs e a H) (d:e≠.normal):CH P G b (x :: k) cs e a H:=by
 cases e with
 | normal=>exact absurd rfl d
 | ret=>exact h
 | exit id=>
  have:exitTo id (x :: k)=exitTo id k:=by cases x<;>simp_all[exitTo,plain]
  simp only[CH]at h ⊢;rw[this];exact h
structure Rd where
 wI:Bool
 nr:Bool
def norace(P:Program)(f:FuncId):Bool:=(P.funcs[f]?).any (·.norace)
structure Fit(P:Program)(rd:Rd)(b:Frame):Prop where
 kind:b.kind≠.early
 wI:rd.wI=true->b.roundOf=none
 nr:rd.nr=true->norace P b.fn=true
def kM(P:fP)(rd:Rd)(c:Code)(Q:Ex->Act->Hp->Prop)(a:Act)(H:Hp):Prop:=
 ∀(G:Frame->List Frame->Hp->Prop) (b:Frame) (k:List Item) (cs:List Frame),V7 G->Fit P rd b->(∀e g d,Q e g d->CH P G b k cs e g d)->Reach P G (on b a (.code c :: k)) cs H
section code
variable{P:fP}{rd:Rd}{Q Q':Ex->Act->Hp->Prop}{a:Act}{H:Hp}
def kM.mono(h:kM P rd c Q a H)(m:∀e a H,Q e a H->Q' e a H):kM P rd c Q' a H:=λG b k cs g hb d=>h G b k cs g hb λe p o j=>d _ _ _ (m _ _ _ j)
def kM.skip(h:Q .normal a H):kM P rd .skip Q a H:=λG b k cs e hb d=>.pure (λmain w=>by simp[stepG,stepG.exec,on]) (d _ _ _ h)
def kM.label(h:Q .normal a H):kM P rd (.label l) Q a H:=λG b k cs e hb d=>.pure (λmain w=>by simp[stepG,stepG.exec,on]) (d _ _ _ h)
def kM.ret(h:Q .ret a H):kM P rd .ret Q a H:=λG b k cs e hb d=>d _ _ _ h k
theorem kM.exit(h:Q (.exit id) a H):kM P rd (.exit id) Q a H:=λG b k cs m hb g=>by
 obtain⟨d,e⟩:=g _ _ _ h;cases hk:exitTo id k with
 | none=>exact e hk k hk
 | some j=>exact .pure (λmain w=>by simp[stepG,stepG.exec,on,hk,Option.elim]) (d j hk)
def Ex.then(next:Act->Hp->Prop)(Q:Ex->Act->Hp->Prop):Ex->Act->Hp->Prop
 | .normal,a,H=>next a H
 | e,a,H=>Q e a H
theorem kM.seq(h:kM P rd x (Ex.then (kM P rd y Q) Q) a H):kM P rd (.seq x y) Q a H:=by
 intro G b k cs d hb g;refine .pure (iD:=on b a (.code x :: .code y :: k)) (kY:=cs) (λmain w=>by simp[stepG,stepG.exec,on]) (h G b (.code y :: k) cs d hb ?_);intro e o m j;cases e with
 | normal=>exact j G b k cs d hb g
 | ret=>exact(g .ret o m j).xN rfl (by simp)
 | exit id=>exact(g (.exit id) o m j).xN rfl (by simp)
def kM.cond{c:Operand}{t:Bool}(j:a.eval c=.bool t)(h:kM P rd (if t then x else y) Q a H):kM P rd (.cond c x y) Q a H:=by
 intro G b k cs d hb g;refine .pure (iD:=on b a (.code (if t then x else y) :: k)) (kY:=cs) (λmain w=>?_) (h G b k cs d hb g);have m:(on b a (.code (.cond c x y) :: k)).eval c=.bool t:=by rw[<-j];cases c<;>rfl
 have e:Frame.eval { b with tmps:=a.tmps,todo:=.code (.cond c x y) :: k,defers:=a.defers,mode:=.run } c=.bool t:=m;simp[stepG,stepG.exec,on,e]
def Ex.inBlock(id:Nat)(Q:Ex->Act->Hp->Prop):Ex->Act->Hp->Prop
 | .exit d,a,H=>if d=id then Q .normal a H else Q (.exit d) a H
 | e,a,H=>Q e a H
theorem kM.block(h:kM P rd c (Ex.inBlock id Q) a H):kM P rd (.block id c) Q a H:=by
 intro G b k cs p hb m;refine .pure (iD:=on b a (.code c :: .inBlock id :: k)) (kY:=cs) (λmain w=>by simp[stepG,stepG.exec,on]) (h G b (.inBlock id :: k) cs p hb ?_);intro e q u d;cases e with
 | normal=>exact .pure (iD:=on b q k) (kY:=cs) (λmain w=>by simp[stepG,stepG.exec,on]) (m _ _ _ d)
 | ret=>exact m .ret q u d
 | exit g=>
  simp only[Ex.inBlock]at d;by_cases j:g=id
  ·rw[qAa j]at d;refine⟨λv o=>?_,λo=>?_⟩
   ·simp[exitTo,j]at o;subst o;exact m _ _ _ d
   simp[exitTo,j]at o
  rw[iF j]at d;have:exitTo g (.inBlock id :: k)=exitTo g k:=by simp[exitTo,qAo j]
  have t:=m _ _ _ d;simp only[CH]at t ⊢;rw[this];exact t
theorem kM.scope(h:kM P rd c Q a H):kM P rd (.scope c) Q a H:=by
 intro G b k cs j hb g;refine .pure (iD:=on b a (.code c :: .inScope c :: k)) (kY:=cs) (λmain w=>by simp[stepG,stepG.exec,on]) (h G b (.inScope c :: k) cs j hb ?_);intro e d o m;cases e with
 | normal=>exact .pure (iD:=on b d k) (kY:=cs) (λmain w=>by simp[stepG,stepG.exec,on]) (g _ _ _ m)
 | ret=>exact(g .ret d o m).xN rfl (by simp)
 | exit id=>exact(g (.exit id) d o m).xN rfl (by simp)
theorem kM.loop(I:Nat->Act->Hp->Prop)(n:Nat)(u:I n a H)(round:∀n a H,I n a H->kM P rd c (Ex.then (λd g=>∃m,m<n/\I m d g) Q) a H):kM P rd (.loop c) Q a H:=by
 intro G b k cs j hb p;have key:∀n a H,I n a H->Reach P G (on b a (.code c :: .inLoop c :: k)) cs H:=by
  intro n;induction n using Nat.strongRecOn with
  | _ n ih=>
   intro a H q;refine round n a H q G b (.inLoop c :: k) cs j hb ?_;intro e d g o;cases e with
   | normal=>
    obtain⟨m,t,h⟩:=o;exact .pure (iD:=on b d (.code c :: .inLoop c :: k)) (kY:=cs) (λmain w=>by simp[stepG,stepG.exec,on]) (ih m t d g h)
   | ret=>exact(p .ret d g o).xN rfl (by simp)
   | exit id=>exact(p (.exit id) d g o).xN rfl (by simp)
 exact .pure (iD:=on b a (.code c :: .inLoop c :: k)) (kY:=cs) (λmain w=>by simp[stepG,stepG.exec,on]) (key n a H u)
end code
def Zb(P:fP)(f:FuncId)(args:Array Value)(H:Hp)(d:Value->Hp->Prop):Prop:=
 ∀(G:Frame->List Frame->Hp->Prop) (c:Frame) (cs:List Frame),V7 G->(∀v e,d v e->Reach P G (c.finish v) cs e)->Reach P G (Frame.enter P f args .normal) (c :: cs) H
def U4(P:fP)(l:Nat)(f:FuncId)(tmps:Array Value)(assign body:Code)(H:Hp)(d:Value->Hp->Prop):Prop:=
 ∀(G:Frame->List Frame->Hp->Prop) (c:Frame) (cs:List Frame),V7 G->(∀v e,d v e->Reach P G (c.finish v) cs e)->Reach P G (Frame.round l f tmps assign body .normal) (c :: cs) H
def Zb.mono{P:fP}{args:Array Value}{H:Hp}{e d:Value->Hp->Prop}(h:Zb P f args H e)(o:∀v H,e v H->d v H):Zb P f args H d:=
 λG c cs m j=>h G c cs m λv g p=>j v g (o _ _ p)
def U4.mono{P:fP}{tmps:Array Value}{assign body:Code}{H:Hp}{e d:Value->Hp->Prop}(h:U4 P l f tmps assign body H e)(o:∀v H,e v H->d v H):U4 P l f tmps assign body H d:=
 λG c cs m j=>h G c cs m λv g p=>j v g (o _ _ p)
def put(a:Act)(dst:Option Tmp)(v:Value):Act:=
 match dst with
 | some d=>{ a with tmps:=a.tmps.setIfInBounds d v }
 | none=>a
def Zf9(P:fP)(dst:Option Tmp)(a:Act)(next:Act->Hp->Prop):Next->Hp->Prop
 | .value v,H=>next (put a dst v) H
 | .skip,H=>next (put a dst undef) H
 | .defer d,H=>next (put { a with defers:=d :: a.defers } dst undef) H
 | .enter f args,H=>Zb P f args H λv e=>next (put a dst v) e
 | .round l f tmps assign body,H=>U4 P l f tmps assign body H λv e=>next (put a dst v) e
 | _,_=>False
def UI(P:Program)(s:Sem Next):Prop:=∀w,∃v w' es,s.runT P w #[]=(.ok (.value v) w',es)
structure P2(P:Program)(fr:Frame)(nx:Value->Frame)(s:Sem Next)(wk nr:Bool):Prop where
 val:∀main cs w w' v es,s.runT P w #[]=(.ok (.value v) w',es)->stepG P main (gG fr cs) w=.go (gG (nx v) cs) w' (seen P fr.fn es)
 halt:UI P s\/∀main cs w es,s.runT P w #[]=(.halt .blocked w,es)->stepG P main (gG fr cs) w=.go { frame:=fr,callers:=cs,status:=.blocked,dying:=none } w #[]
 spawn:UI P s\/∀main cs w w' f c aA es,s.runT P w #[]=(.ok (.spawn { target:=.fn f c,args:=aA }) w',es) ->
  stepG P main (gG fr cs) w=.spawn (gG (nx undef) cs) (gG { (default:Frame)with fn:=P.funcs.size,defers:=[{ target:=.fn f c,args:=aA }],mode:=.panicking [goexitEntry] } []) w' (seen P fr.fn es)
 wake:wk=true->∀cs,mayWake P (gG fr cs)=true
 nr:nr=true->norace P fr.fn=true
 comm:UI P s\/((∀v,nx v=fr.finish v)/\∀main cs w w' c b sh es,s.runT P w #[]=(.ok (.comm c b sh) w',es)->stepG P main (gG fr cs) w=.comm (gG fr cs) c b sh w' (seen P fr.fn es))
def Zm(P:fP)(s:Sem Next)(wk nr:Bool)(H:Hp)(d:Value->Hp->Prop):Prop:=
 ∀(G:Frame->List Frame->Hp->Prop) (fr:Frame) (g:Value->Frame) (cs:List Frame),V7 G->P2 P fr g s wk nr->(∀v e,d v e->Reach P G (g v) cs e)->Reach P G fr cs H
def Zm.mono{P:fP}{H:Hp}{e d:Value->Hp->Prop}(h:Zm P s wk nr H e)(p:∀v H,e v H->d v H):Zm P s wk nr H d:=
 λG fr t cs o m j=>h G fr t cs o m λv g q=>j v g (p _ _ q)
def Zm.any{P:fP}{H:Hp}{d:Value->Hp->Prop}(h:Zm P s wk false H d):Zm P s wk nr H d:=
 λG fr m cs j e g=>h G fr m cs j ⟨e.val,e.halt,e.spawn,e.wake,λh=>by simp at h,e.comm⟩ g
def Vo(P:Program)(o:Oper):Bool:=
 match o.op with
 | .call { callee:=.value (.func f),.. }=>!(P.funcs[f]?).any (·.body.isSome)
 | .call { callee:=.value _,.. }=>false
 | .call _=>true
 | _=>false
def nI(P:fP)(nr:Bool)(o:Oper)(a:Act)(next:Act->Hp->Prop)(H:Hp):Prop:=
 fZ P (execOp a.eval o) (λn g d=>g=true\/Zf9 P o.dst a next n d) false H\/Zm P (execOp a.eval o) (Vo P o) nr H λv d=>next (put a o.dst v) d
def uM(P:fP)(nr:Bool)(fK:Array Oper)(Q:Act->Hp->Prop):List Nat->Act->Hp->Prop
 | [],a,H=>Q a H
 | i :: rest,a,H=>
  match fK[i]? with
  | none=>uM P nr fK Q rest a H
  | some o=>if Region.wanted o (yielded fK a.tmps)then nI P nr o a (uM P nr fK Q rest) H else uM P nr fK Q rest (put a o.dst undef) H
def Ze6(b:Frame)(a:Act)(fK:Array Oper)(i:Nat)(rest:List Nat)(k:List Item)(v:Value) :
  (on b a (.inRegion fK (i :: rest) :: k)).finish v=on b (put a ((fK[i]?).bind (·.dst)) v) (.inRegion fK rest :: k):=by
 cases h:(fK[i]?).bind (·.dst)<;>simp[Frame.finish,on,put,h]
theorem Zs8(b:Frame)(a:Act)(todo:List Item):(on b a todo).eval=a.eval:=by funext x;cases x<;>rfl
theorem Ah{P:Program}{b:Frame}{a:Act}{cs:List Frame}{fK:Array Oper}{i:Nat}{rest:List Nat}{o:Oper}{main:Bool}(j:fK[i]? = some o)(m:Region.wanted o (yielded fK a.tmps)=true)
  (h:∀c,o.op=.defer c->b.roundOf=none) :
  stepG P main (gG (on b a (.inRegion fK (i :: rest) :: k)) cs) w=stepG.apply P true (on b a (.inRegion fK (i :: rest) :: k)) cs none (execOp a.eval o) w:=by
 have e:=Zs8 b a (.inRegion fK (i :: rest) :: k);simp only[on]at e;simp only[on,stepG,stepG.exec,j,qBC,Option.getD_some,m,qBb,stepG.oper,Frame.oper?,e];split
 ·rename_i l c g d;rw[h c d]at g;simp at g
 rfl
end
variable{nr main:Bool}{i id:Nat}{rest:List Nat}{w:World}
section fK
variable{P:fP}{Q:Ex->Act->Hp->Prop}{b:Frame}{a:Act}{k:List Item}{cs:List Frame}{H:Hp}{fK:Array Oper}{G:Frame->List Frame->Hp->Prop}
theorem Zmx(hb:b.kind≠.early):(b.kind == CallKind.early)=false:=by cases h:b.kind<;>simp_all<;>rfl
def Zp0(K:nr=true->norace P b.fn=true){o:Oper}{next:Act->Hp->Prop}(u:V7 G)(hb:b.kind≠.early)(t:fK[i]? = some o)(E:Region.wanted o (yielded fK a.tmps)=true)(B:∀c,o.op=.defer c->b.roundOf=none)
  (h:nI P nr o a next H) (A:∀a H,next a H->Reach P G (on b a (.inRegion fK rest :: k)) cs H):Reach P G (on b a (.inRegion fK (i :: rest) :: k)) cs H:=by
 have g:((on b a (.inRegion fK (i :: rest) :: k)).kind == CallKind.early)=false:=Zmx hb;have L:Vo P o=true->∀cs,mayWake P (gG (on b a (.inRegion fK (i :: rest) :: k)) cs)=true:=by
  intro m cs;unfold Vo at m;simp only[mayWake,on,t,qBC];split at m
  ·rename_i I;simp only[I];simpa[Frame.eval]using m
  ·simp at m
  ·rename_i c R J I;simp only[I]
  simp at m
 have e:∀v,(on b a (.inRegion fK (i :: rest) :: k)).finish v=on b (put a o.dst v) (.inRegion fK rest :: k):=by intro v;rw[Ze6,t];rfl
 rcases h with h | h;case inr=>
  refine h G _ (λv=>on b (put a o.dst v) (.inRegion fK rest :: k)) cs u ⟨λmain cs w w' v es j=>?_,.inr λmain cs w es j=>?_,.inr λmain cs w w' f c aA es j=>?_,L,K,.inr ⟨λv=>(e v).symm,λmain cs w w' c O S es j=>?_⟩⟩ λv q D=>A _ _ D
  ·rw[Ah t E B,<-e];simp only[stepG.apply,j,qBb,g,oR,qAq,GStep.after,qAw]
  ·rw[Ah t E B];simp only[stepG.apply,j,qBb,g,oR,qAq,GStep.after,qAw];rfl
  ·rw[Ah t E B,<-e];simp only[stepG.apply,j,qBb,g,oR,qAq,GStep.after,qAw];rw[iF (by simp)];simp only[qAw]
  ·rw[Ah t E B];simp only[stepG.apply,j,qBb,g,oR,qAq,GStep.after,qAw]
 refine .z7 h ?_;intro n N M;have z:∀{q},(false=true\/Zf9 P o.dst a next n q)->Zf9 P o.dst a next n q:=λh=>h.resolve_left (by simp)
 have C:=λmain w=>Ah (P:=P) (b:=b) (k:=k) (cs:=cs) (w:=w) (rest:=rest) (main:=main) t E B;cases n with
 | value v=>exact⟨_,_,λmain w w' es j=>⟨_,by rw[C];simp only[stepG.apply,j,qBb,g,oR,qAq,GStep.after,qAw];rfl,.inr rfl⟩,λq p=>by rw[e];exact A _ _ (z p)⟩
 | skip=>exact⟨_,_,λmain w w' es j=>⟨_,by rw[C];simp only[stepG.apply,j,qBb,g,oR,qAq,GStep.after,qAw];rfl,.inr rfl⟩,λq p=>by rw[e];exact A _ _ (z p)⟩
 | defer d=>
  refine⟨_,_,λmain w w' es j=>⟨_,by rw[C];simp only[stepG.apply,j,qBb,g,oR,qAq,GStep.after,qAw];rfl,.inr rfl⟩,λq p=>?_⟩;have:({ on b a (.inRegion fK (i :: rest) :: k)with defers:=d :: a.defers }:Frame).finish undef =
    on b (put { a with defers:=d :: a.defers } o.dst undef) (.inRegion fK rest :: k):=by
   have:=Ze6 b { a with defers:=d :: a.defers } fK i rest k undef
   rw[t]at this;exact this
  have J:=A _ _ (z p);rw[<-this]at J;exact J
 | enter f args=>exact⟨_,_,λmain w w' es j=>⟨_,by rw[C];simp only[stepG.apply,j,qBb,g,oR,qAq,GStep.after,qAw];rfl,.inr rfl⟩,λq p=>z p G _ cs u λv F D=>by rw[e];exact A _ _ D⟩
 | round l f tmps assign body=>exact⟨_,_,λmain w w' es j=>⟨_,by rw[C];simp only[stepG.apply,j,qBb,g,oR,qAq,GStep.after,qAw];rfl,.inr rfl⟩,λq p=>z p G _ cs u λv F D=>by rw[e];exact A _ _ D⟩
 | _=>exact(z M).elim
def ZhL(h:((fK[i]?).map (Region.wanted · (yielded fK a.tmps))).getD false=false)
  (d:Reach P G (on b (put a ((fK[i]?).bind (·.dst)) undef) (.inRegion fK rest :: k)) cs H):Reach P G (on b a (.inRegion fK (i :: rest) :: k)) cs H:=by
 rw[<-Ze6]at d;refine .pure (λmain w=>?_) d;have e:=h;simp only[on]at *;simp[stepG,stepG.exec,e]
def MP(fK:Array Oper):Bool:=fK.all λo=>match o.op with | .defer _=>false | _=>true
def ZhM(j:nr=true->norace P b.fn=true)(g:V7 G)(hb:b.kind≠.early)(d:b.roundOf=none\/MP fK=true){R:Act->Hp->Prop}(q:∀a H,R a H->Reach P G (on b a k) cs H) :
  ∀(l:List Nat) (a:Act) (H:Hp),uM P nr fK R l a H->Reach P G (on b a (.inRegion fK l :: k)) cs H:=by
 intro l;induction l with
 | nil=>exact λa H h=>.pure (λmain w=>by simp[stepG,stepG.exec,on]) (q _ _ h)
 | cons i rest ih=>
  intro a H h;simp only[uM]at h;cases ho:fK[i]? with
  | none=>
   simp only[ho]at h;exact ZhL (by simp[ho]) (by simpa[ho,put]using ih a H h)
  | some o=>
   simp only[ho]at h;by_cases e:Region.wanted o (yielded fK a.tmps)=true
   ·simp only[e,qBb]at h;refine Zp0 j g hb ho e ?_ h ih;intro c p;rcases d with d | d
    ·exact d
    exfalso;have:=Array.all_eq_true.1 d i (by rcases qBh i fK.size with h | h;exact h;simp[qCI h]at ho);have m:fK[i]'(by rcases qBh i fK.size with h | h;exact h;simp[qCI h]at ho)=o:=by have:=qAC.1 ho;exact this.2
    rw[m,p]at this;simp at this
   simp only[e]at h;exact ZhL (by simp[ho,e]) (by simpa[ho]using ih _ H h)
end fK
section regions
variable{P:fP}{rd:Rd}{Q:Ex->Act->Hp->Prop}{a:Act}{H:Hp}
theorem kM.region{fK:Array Oper}(hd:rd.wI=true\/MP fK=true)(h:uM P rd.nr fK (Q .normal) (List.range fK.size) a H):kM P rd (.region id fK false) Q a H:=by intro G b k cs d hb e;refine .pure (iD:=on b a (.inRegion fK (List.range fK.size) :: k)) (kY:=cs) (λmain w=>by simp[stepG,stepG.exec,on]) ?_;exact ZhM hb.nr d hb.kind (hd.imp hb.wI λh=>h) (R:=Q .normal) (λa H g=>e .normal a H g) _ _ _ h
theorem kM.BF{fK:Array Oper}(q:P.still H.gh=false)(hd:rd.wI=true\/MP fK=true)(h:∀t,uM P rd.nr fK (Q .normal) (Region.schedule (P.follows .mixedOrders) fK t) a H):kM P rd (.region id fK true) Q a H:=by
 intro G b k cs d hb o;refine .z7 (s:=choose (.order b.fn id)) (Q:=λt _ e=>e=H) ?_ ?_
 ·simp only[choose,fZ,Question.forced,oR,qAq];exact⟨q,λ_=>trivial⟩
 intro t _ _;refine⟨on b a (.inRegion fK (Region.schedule (P.follows .mixedOrders) fK t) :: k),cs,λmain w w' es g=>⟨#[],?_,.inl rfl⟩,λe j=>?_⟩
 ·have m:(choose (.order b.fn id)).run P w=.ok t w':=by have:=qAx Prod.fst g;rw[Sem.runT_eq]at this;exact this
  simp[stepG,stepG.exec,on,m]
 subst j;exact ZhM hb.nr d hb.kind (hd.imp hb.wI λh=>h) (R:=Q .normal) (λa H p=>o .normal a H p) _ _ _ (h t)
end regions
def Zmi{P:fP}{b:Frame}{a:Act}{k:List Item}{cs:List Frame}(d:b.roundOf=none) :
  stepG P main (gG (on b a (.code .ret :: k)) cs) w=.go (gG { on b a (.code .ret :: k)with mode:=.returning } cs) w:=by
 simp[stepG,stepG.exec,on,d]
def Zmj{P:fP}{b:Frame}{a:Act}{cs:List Frame}(d:b.roundOf=none) :
  stepG P main (gG (on b a []) cs) w=.go (gG { on b a []with mode:=.returning } cs) w:=by
 simp[stepG,stepG.exec,on,d]
