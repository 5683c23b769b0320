import Derived.KernelRfl
import Derived.Control
set_option linter.all false
abbrev aC:=@Nat.le_refl
abbrev bY:=@if_neg
abbrev dO:=@Option.some.inj
abbrev iF:=@Option.some.injEq
abbrev iN:=@Bool.false_eq_true
abbrev iO:=@if_pos
abbrev oR:=@Classical.byContradiction
abbrev BY:=@Bool.and_eq_true
abbrev DO:=@List.mem_singleton
abbrev IF:=@List.length_set
abbrev IN:=@List.getElem_mem
abbrev qAa:=@Array.getElem?_setIfInBounds_ne
abbrev qAb:=@List.mem_toArray
abbrev qAc:=@List.length_append
abbrev qAd:=@List.take_succ_eq_append_getElem
abbrev qAe:=@Array.all_eq_true_iff_forall_mem
abbrev qAf:=@List.eq_nil_of_length_eq_zero
abbrev qAg:=@List.all_eq_true
abbrev qAh:=@Array.append_empty
abbrev qAi:=@Ne.symm
abbrev qAj:=@List.append_nil
abbrev qAk:=@if_false
abbrev qAl:=@Array.getElem?_eq_some_iff
abbrev qAm:=@Option.map_eq_some_iff
abbrev qAn:=@Array.getElem?_setIfInBounds_self_of_lt
abbrev qAo:=@List.getD_eq_getElem?_getD
abbrev qAp:=@List.mem_cons
abbrev qAq:=@List.mem_range
abbrev qAr:=@List.mem_cons_of_mem
abbrev qAs:=@List.length_map
abbrev qAt:=@Array.mem_toList_iff
abbrev qAu:=@Nat.zero_add
abbrev qAv:=@Nat.eq_zero_or_pos
abbrev qAw:=@List.take_length
abbrev qAx:=@List.nil_append
abbrev qAy:=@Int.le_refl
abbrev qAz:=@Nat.lt_of_lt_of_le
abbrev qAA:=@Int.toNat_natCast
abbrev qAB:=@Array.mem_append
abbrev qAC:=@congrArg
abbrev qAD:=@List.getElem?_toArray
abbrev qAE:=@Array.getElem?_eq_getElem
abbrev qAF:=@List.mem_filter
abbrev qAG:=@Prod.mk.injEq
abbrev qAH:=@Nat.lt_or_ge
abbrev qAI:=@List.getElem?_eq_getElem
abbrev qAJ:=@List.mem_iff_getElem
abbrev qAK:=@decide_eq_true_eq
abbrev qAL:=@List.flatMap_cons
abbrev qAM:=@if_true
abbrev qAN:=@List.getElem?_append_left
abbrev qAO:=@List.length_cons
abbrev qAP:=@Bool.not_eq_true'
abbrev qAQ:=@Nat.eq_of_beq_eq_true
abbrev qAR:=@Nat.zero_le
abbrev qAS:=@List.mem_append
abbrev qAT:=@Nat.le_trans
abbrev qAU:=@List.getElem?_cons_succ
abbrev qAV:=@Int.tdiv_eq_ediv_of_nonneg
abbrev qAW:=@Nat.le_of_eq
abbrev qAX:=@List.mem_map
abbrev qAY:=@List.getElem?_eq_none
abbrev qAZ:=@decide_eq_false
abbrev qBa:=@Option.map_some
abbrev qBb:=@Nat.add_sub_cancel
abbrev qBc:=@List.getElem?_cons_zero
abbrev qBd:=@Array.getD_eq_getD_getElem?
abbrev qBe:=@Nat.pow_le_pow_right
abbrev qBf:=@List.not_mem_nil
abbrev qBg:=@Nat.sub_zero
abbrev qBh:=@Nat.not_lt_zero
abbrev qBi:=@Option.isSome_iff_exists
abbrev qBj:=@Nat.lt_of_le_of_lt
abbrev qBk:=@Array.getElem?_map
abbrev qBl:=@List.map_toArray
abbrev qBm:=@List.length_take
abbrev qBn:=@List.cons_append
abbrev qBo:=@List.map_cons
abbrev qBp:=@List.cons.injEq
abbrev qBq:=@Bool.or_eq_true
abbrev qBr:=@List.drop_eq_nil_of_le
abbrev qBs:=@List.getElem_map
abbrev qBt:=@implies_true
abbrev qBu:=@List.mem_cons_self
abbrev qBv:=@List.length_replicate
abbrev qBw:=@Array.getElem?_modify
abbrev qBx:=@List.length_range
abbrev qBy:=@List.append_assoc
abbrev qBz:=@Int.le_trans
abbrev qBA:=@List.take_of_length_le
abbrev qBB:=@List.getElem?_drop
abbrev qBC:=@Array.getElem?_setIfInBounds
abbrev qBD:=@Nat.testBit_two_pow_mul_add
abbrev qBE:=@Nat.le_of_ble_eq_true
abbrev qBF:=@List.foldl_cons
abbrev qBG:=@Std.Legacy.Range.forIn_eq_forIn_range'
abbrev qBH:=@List.getElem?_append_right
abbrev qBI:=@Int.fdiv_eq_ediv_of_nonneg
abbrev qBJ:=@Array.toArray_toList
abbrev qBK:=@List.pairwise_iff_getElem
abbrev qBL:=@List.any_eq_true
abbrev qBM:=@List.length_pos_iff
abbrev qBN:=@Array.length_toList
abbrev qBO:=@Array.getElem?_push
abbrev qBP:=@List.getElem_append_left
abbrev qBQ:=@decide_eq_false_iff_not
abbrev qBR:=@Nat.testBit_and
abbrev qBS:=@List.getElem?_take
abbrev qBT:=@List.forIn_cons
abbrev qBU:=@Array.empty_append
abbrev qBV:=@Nat.testBit_lt_two_pow
abbrev qBW:=@Array.getElem?_eq_none
abbrev qBX:=@Bool.false_and
abbrev qBY:=@Nat.add_zero
abbrev qBZ:=@List.length_filter_le
abbrev qCa:=@Array.mem_iff_getElem
abbrev qCb:=@List.take_append_of_le_length
abbrev qCc:=@List.ext_getElem
abbrev qCd:=@BitVec.toNat_and
abbrev qCe:=@Nat.eq_of_testBit_eq
abbrev qCf:=@List.contains_eq_mem
abbrev qCg:=@Nat.add_assoc
abbrev qCh:=@Nat.not_lt
abbrev qCi:=@Nat.min_eq_left
abbrev qCj:=@List.any_append
abbrev qCk:=@Bool.eq_iff_iff
abbrev qCl:=@or_false
abbrev qCm:=@Nat.zero_mul
abbrev qCn:=@List.pairwise_cons
abbrev qCo:=@Int.natCast_nonneg
abbrev qCp:=@BitVec.toNat_ofInt
abbrev qCq:=@Array.foldl_toList
abbrev qCr:=@Option.isNone_iff_eq_none
abbrev qCs:=@List.getElem_append_right
abbrev qCt:=@List.drop_eq_getElem_cons
abbrev qCu:=@Bool.not_false
abbrev qCv:=@Nat.lt_succ_iff_lt_or_eq
abbrev qCw:=@List.foldl_append
abbrev qCx:=@Option.bind_eq_some_iff
abbrev qCy:=@Nat.testBit_mod_two_pow
abbrev qCz:=@Nat.add_mul
abbrev qCA:=@List.lookup_eq_some_iff
abbrev qCB:=@Iff.rfl
abbrev qCC:=@decide_eq_decide
abbrev qCD:=@Nat.lt_succ_self
abbrev qCE:=@List.drop_of_length_le
abbrev qCF:=@Nat.succ_mul
abbrev qCG:=@Nat.sub_self
abbrev qCH:=@List.range_succ
abbrev qCI:=@List.nodup_cons
abbrev qCJ:=@Or.imp
abbrev qCK:=@Nat.testBit_or
abbrev qCL:=@Nat.mul_le_mul
abbrev qCM:=@List.take_zero
abbrev qCN:=@Nat.sub_lt_sub_left
abbrev qCO:=@List.take_set_of_le
abbrev qCP:=@List.map_congr_left
abbrev qCQ:=@and_true
abbrev qCR:=@Prod.lexAccessible
abbrev qCS:=@List.forIn_toArray
abbrev qCT:=@List.filter_append
abbrev qCU:=@Bool.not_true
abbrev qCV:=@Array.append_assoc
abbrev qCW:=@Nat.mod_lt
abbrev qCX:=@List.pairwise_map
abbrev qCY:=@List.getElem?_set
abbrev qCZ:=@List.getElem?_map
abbrev qDa:=@List.ext_getElem?
abbrev qDb:=@List.map_nil
abbrev qDc:=@List.getElem_inj
abbrev qDd:=@List.filter_cons
abbrev qDe:=@List.drop_length
abbrev qDf:=@List.drop_append
theorem O{p:Prop}(h:p:=by omega):p:=h
theorem U{p:Prop}(h:p:=by kernel_rfl):p:=h
theorem V{p:Prop}(h:p:=by repeat (first | exact trivial | refine⟨rfl,?_⟩)):p:=h
theorem Go.LL.dX{n j:Nat}(h:j<n):n-(j+1)<n-j:=qCN h (qCD j)
namespace Go.LL
section
variable{r b n:Nat}{α:Type}{w:World}{a:Addr}
structure Hp where
 mem:Nat->Option (Obj×Bool)
 gh:List Nat
instance:CoeFun Hp (λ_=>Nat->Option (Obj×Bool)):=⟨Hp.mem⟩
theorem Hp.ext'{H F:Hp}(h:∀b,H b=F b)(g:H.gh=F.gh):H=F:=by
 cases H;cases F
 obtain rfl:=g;congr;exact funext h
def Hp.nil:Hp:=⟨λ_=>none,[]⟩
def Hp.ins(H:Hp)(r:Nat)(o:Obj):Hp:=⟨λb=>if b=r then some (o,true)else H b,H.gh⟩
theorem Hp.eD(H:Hp)(r:Nat)(o:Obj)(b:Nat):H.ins r o b=if b=r then some (o,true)else H b:=rfl
def Hp.le(H:Hp)(w:World):Prop:=∀b o p,H b=some (o,p)->w.heap[b]? = some o
theorem Hp.aF(H:Hp)(r:Nat)(o:Obj):H.ins r o r=some (o,true):=by simp[Hp.eD]
theorem Hp.aE(H:Hp)(o:Obj)(h:b≠r):H.ins r o b=H b:=by simp[Hp.eD,h]
def Obj.kE(o:Obj)(i:Nat):Bool:=
 match o with
 | .cells _ _ (lo,hi)=>lo<=i && i<hi
 | _=>false
def Obj.n7(o:Obj):Option (TypeId×Nat):=
 match o with
 | .cells c e _=>some (e,c.size)
 | _=>none
def Obj.oD:Obj->Bool
 | .cells ..=>true
 | _=>false
def Obj.dD(o:Obj)(i:Nat)(v:Value):Obj:=
 match o with
 | .cells c e f=>.cells (c.setIfInBounds i v) e f
 | o=>o
def Obj.o9(o:Obj)(i n:Nat):Obj:=
 match o with
 | .cells c e (lo,hi)=>.cells c e (if lo == hi then(i,i+n)else(min lo i,max hi (i+n)))
 | o=>o
def Obj.mH(o:Obj)(i:Nat):Option Value:=
 match o with
 | .cells c _ _=>c[i]?
 | _=>none
def Value.dZ:Value->Bool
 | .agg _ | .tuple _=>false
 | _=>true
structure PQ extends Program where
 still:List Nat->Bool
 stillNil:still []=false->∀g,still g=false
instance:Coe PQ Program:=⟨PQ.toProgram⟩
def cD(P:PQ){α:Type}:Sem α->(α->Bool->Hp->Prop)->Bool->Hp->Prop
 | .pure a,Q,g,H=>Q a g H
 | .load m a k,Q,g,H=>∃o p v,(P.still H.gh=false/\H a.block=some (o,p))/\m=.plain/\a.spot=none/\Obj.mH o a.off=some v/\cD P (k v) Q g H
 | .store m a v k,Q,g,H=>∃o,(P.still H.gh=false/\H a.block=some (o,true))/\m=.plain/\a.spot=none/\Value.dZ v=true/\(Obj.mH o a.off).isSome=true/\Obj.kE o a.off=false /\
   cD P k Q g (H.ins a.block (Obj.dD o a.off v))
 | .new o k,Q,g,H=>P.still H.gh=false/\∀r,H r=none->cD P (k r) Q g (H.ins r o)
 | .shape r k,Q,g,H=>∃o p,(P.still H.gh=false/\H r=some (o,p))/\cD P (k (Obj.n7 o)) Q g H
 | .freeze a n k,Q,g,H=>(n=0/\cD P k Q g H)\/∃o,(P.still H.gh=false/\H a.block=some (o,true))/\n≠0/\cD P k Q g (H.ins a.block (Obj.o9 o a.off n))
 | .frozen a k,Q,g,H=>∃o p,(P.still H.gh=false/\H a.block=some (o,p))/\cD P (k (Obj.kE o a.off)) Q g H
 | .getObj r k,Q,g,H=>∃o p,(P.still H.gh=false/\H r=some (o,p))/\Obj.oD o=false/\o.isChan=false/\cD P (k o) Q g H
 | .setObj r o k,Q,g,H=>∃o',(P.still H.gh=false/\H r=some (o',true))/\Obj.oD o'=false/\o'.isChan=false/\o.isChan=false/\cD P k Q g (H.ins r o)
 | .choose q k,Q,g,H=>if q.forced then cD P (k 0) Q g H else P.still H.gh=false/\∀t,cD P (k (q.cut t)) Q g H
 | .sys _ _,_,_,_=>False
 | .program k,Q,g,H=>cD P (k P.toProgram) Q g H
 | .mark m k,Q,g,H=>((∃f,m=.extern f)\/(m=.noRoom/\P.still H.gh=false))/\cD P k Q g H
 | .halt _,_,_,_=>False
theorem Vh{P:PQ}{s:Sem α}{Q Q':α->Bool->Hp->Prop}(hq:∀a g H,Q a g H->Q' a g H):∀{g:Bool} {H:Hp},cD P s Q g H->cD P s Q' g H:=by
 induction s with
 | pure a=>exact λh=>hq _ _ _ h
 | load m a k ih=>exact λ⟨o,p,v,h1,h2,h3,h4,h5⟩=>⟨o,p,v,h1,h2,h3,h4,ih v h5⟩
 | store m a v k ih=>exact λ⟨o,h1,h2,h3,h4,h5,h6,h7⟩=>⟨o,h1,h2,h3,h4,h5,h6,ih h7⟩
 | new o k ih=>exact λh=>⟨h.1,λr hr=>ih r (h.2 r hr)⟩
 | shape r k ih=>exact λ⟨o,p,h1,h2⟩=>⟨o,p,h1,ih _ h2⟩
 | freeze a n k ih=>exact λh=>h.imp (λ⟨h1,h2⟩=>⟨h1,ih h2⟩) (λ⟨o,h1,h2,h3⟩=>⟨o,h1,h2,ih h3⟩)
 | frozen a k ih=>exact λ⟨o,p,h1,h2⟩=>⟨o,p,h1,ih _ h2⟩
 | getObj r k ih=>exact λ⟨o,p,h1,h2,h3,h4⟩=>⟨o,p,h1,h2,h3,ih _ h4⟩
 | setObj r o k ih=>exact λ⟨o',h1,h2,h3,h4,h5⟩=>⟨o',h1,h2,h3,h4,ih h5⟩
 | choose q k ih=>
  intro g H h;by_cases qD:q.forced=true
  ·simp only[cD,qD,qAM]at h ⊢;exact ih _ h
  simp only[cD,qD]at h ⊢;exact⟨h.1,λt=>ih _ (h.2 t)⟩
 | sys c k ih=>exact λh=>h
 | program k ih=>exact λh=>ih _ h
 | mark m k ih=>exact λ⟨h1,h2⟩=>⟨h1,ih h2⟩
 | halt h=>exact λh=>h
structure Fr(H:Hp)(w:World)(H':Hp)(w':World):Prop where
 os:w'.os=w.os
 tape:w'.tape=w.tape
 out:w'.output=w.output
 drawn:w.drawn<=w'.drawn
 size:w.heap.size<=w'.heap.size
 keep:∀b,b<w.heap.size->(∀o,H b≠some (o,true))->w'.heap[b]? = w.heap[b]?
 le:H'.le w'
 new:∀b,H b=none->H' b≠none->w.heap.size<=b
 ro:∀b o,H b=some (o,false)->H' b=some (o,false)
 rw:∀b o,H b=some (o,true)->∃o',H' b=some (o',true)
 gh:H'.gh=H.gh
theorem Hp.le.lt{H:Hp}(h:H.le w){x:Obj×Bool}(hb:H b=some x):b<w.heap.size:=by have:=h b x.1 x.2 hb;exact(qAl.1 this).1
theorem Fr.refl{H:Hp}(h:H.le w):Fr H w H w where
 os:=rfl
 tape:=rfl
 out:=rfl
 drawn:=aC _
 size:=aC _
 keep:=λ_ _ _=>rfl
 le:=h
 new:=λ_ h1 h2=>absurd h1 h2
 ro:=λ_ _ h=>h
 rw:=λ_ o h=>⟨o,h⟩
 gh:=rfl
theorem Fr.trans{H₁ H₂ H₃:Hp}{w₁ w₂ w₃:World}(a:Fr H₁ w₁ H₂ w₂)(b:Fr H₂ w₂ H₃ w₃):Fr H₁ w₁ H₃ w₃ where
 os:=b.os.trans a.os
 tape:=b.tape.trans a.tape
 out:=b.out.trans a.out
 drawn:=qAT a.drawn b.drawn
 size:=qAT a.size b.size
 keep:=λx hx hn=>by
  rw[b.keep x (qAz hx a.size) ?_,a.keep x hx hn];intro o h2;cases h1:H₁ x with
  | none=>exact absurd hx (qCh.2 (a.new x h1 (by rw[h2];simp)))
  | some y=>
   obtain⟨o1,p⟩:=y;cases p with
   | true=>exact hn _ h1
   | false=>
    have:=a.ro x o1 h1;rw[this]at h2;simp at h2
 le:=b.le
 new:=λx h1 h3=>by
  cases h2:H₂ x with
  | none=>exact qAT a.size (b.new x h2 h3)
  | some y=>exact a.new x h1 (by rw[h2];simp)
 ro:=λx o h=>b.ro x o (a.ro x o h)
 rw:=λx o h=>by obtain⟨o',h'⟩:=a.rw x o h;exact b.rw x o' h'
 gh:=b.gh.trans a.gh
def EvL(H:Hp)(w:World)(n:Nat)(e:Event):Prop:=
 match e.loc with
 | .cell a=>e.sync=false/\((∃o p,H a.block=some (o,p)/\(e.write=true->p=true))\/w.heap.size<=a.block/\a.block<n)
 | .obj r=>e.sync=false/\((∃o p,H r=some (o,p)/\(e.write=true->p=true))\/w.heap.size<=r/\r<n)
 | .mark (.extern _)=>True
 | .mark .noRoom=>True
 | _=>False
theorem EvL.jP{H H':Hp}{w':World}(f:Fr H w H' w')(hn:w'.heap.size<=n){e:Event}(h:EvL H' w' n e):EvL H w n e:=by
 have key:∀r,((∃o p,H' r=some (o,p)/\(e.write=true->p=true))\/w'.heap.size<=r/\r<n)->((∃o p,H r=some (o,p)/\(e.write=true->p=true))\/w.heap.size<=r/\r<n):=by
  rintro r (⟨o,p,h1,h2⟩ | h)
  ·cases hr:H r with
   | none=>exact .inr ⟨f.new r hr (by rw[h1];simp),qAz (f.le.lt h1) hn⟩
   | some y=>
    obtain⟨o1,p1⟩:=y;refine .inl ⟨o1,p1,rfl,λhw=>?_⟩;cases p1 with
    | true=>rfl
    | false=>
     have:=f.ro r o1 hr;rw[this]at h1;simp at h1;have:=h2 hw;rw[h1.2]at this;exact this
  exact .inr ⟨qAT f.size h.1,h.2⟩
 unfold EvL at h ⊢;split at h
 ·exact⟨h.1,key _ h.2⟩
 ·exact⟨h.1,key _ h.2⟩
 ·trivial
 ·trivial
 trivial
theorem nK{o:Obj}{v:Value}(h:w.heap[a.block]? = some o)(hs:a.spot=none)(hv:Obj.mH o a.off=some v):w.cell? a=some v:=by
 unfold World.cell?;cases o<;>simp[Obj.mH]at hv
 simp[h,hs,hv]
theorem o8{o:Obj}(h:w.heap[a.block]? = some o):w.frozen? a=Obj.kE o a.off:=by unfold World.frozen? Obj.kE;rw[h];cases o<;>simp
theorem Hp.le.hZ{H:Hp}(h:H.le w)(o:Obj):(H.ins w.heap.size o).le { w with heap:=w.heap.push o }:=by
 intro b o' p hb;simp only[Hp.eD]at hb;split at hb
 ·subst b;simp at hb;simp[hb.1]
 have:=h b o' p hb;have bV:=(qAl.1 this).1;simp[qBO,this];omega
theorem Fr.alloc{H:Hp}(h:H.le w)(o:Obj):Fr H w (H.ins w.heap.size o) { w with heap:=w.heap.push o } where
 os:=rfl
 tape:=rfl
 out:=rfl
 drawn:=aC _
 size:=by simp
 keep:=λb hb _=>by simp[qBO];omega
 le:=h.hZ o
 new:=λb h1 h2=>by
  simp only[Hp.eD]at h2;split at h2
  ·omega
  exact absurd h1 h2
 ro:=λb o' hb=>by have:=h.lt hb;rw[Hp.aE _ _ O];exact hb
 rw:=λb o' hb=>by have:=h.lt hb;exact⟨o',by rw[Hp.aE _ _ O];exact hb⟩
 gh:=rfl
theorem Fr.Jy{H:Hp}(h:H.le w)(d:Nat)(hd:w.drawn<=d):Fr H w H { w with drawn:=d } where
 os:=rfl
 tape:=rfl
 out:=rfl
 drawn:=hd
 size:=aC _
 keep:=λ_ _ _=>rfl
 le:=h
 new:=λ_ h1 h2=>absurd h1 h2
 ro:=λ_ _ h=>h
 rw:=λ_ o h=>⟨o,h⟩
 gh:=rfl
theorem Fr.write{H:Hp}(h:H.le w){o o':Obj}(hb:H b=some (o,true)){hp:Array Obj}(fP:hp.size=w.heap.size)(rN:hp[b]? = some o')
  (pT:∀c,c≠b->hp[c]? = w.heap[c]?):Fr H w (H.ins b o') { w with heap:=hp } where
 os:=rfl
 tape:=rfl
 out:=rfl
 drawn:=aC _
 size:=by simp[fP]
 keep:=λc _ hn=>pT c (by rintro rfl;exact hn o hb)
 le:=by
  intro c oc p hc;simp only[Hp.eD]at hc;split at hc
  ·subst c;simp at hc;rw[<-hc.1];exact rN
  rename_i dG;exact(pT c dG).trans (h c oc p hc)
 new:=λc h1 h2=>by
  simp only[Hp.eD]at h2;split at h2
  ·subst c;rw[hb]at h1;simp at h1
  exact absurd h1 h2
 ro:=λc oc hc=>by rw[Hp.aE _ _ (by rintro rfl;rw[hb]at hc;simp at hc)];exact hc
 rw:=λc oc hc=>by
  by_cases e:c=b
  ·subst e;exact⟨o',by simp[Hp.eD]⟩
  exact⟨oc,by rw[Hp.aE _ _ e];exact hc⟩
 gh:=rfl
theorem Fr.setCell{H:Hp}(h:H.le w){o:Obj}(hs:a.spot=none)(hb:H a.block=some (o,true))(v:Value):Fr H w (H.ins a.block (Obj.dD o a.off v)) (w.setCell a v):=by
 have hw:=h _ _ _ hb;refine Fr.write h hb (by simp) ?_ (λc hc=>?_)
 ·simp[qBw,hw,Obj.dD,hs];cases o<;>rfl
 simp[qBw,qAi hc]
theorem Fr.freeze{H:Hp}(h:H.le w){o:Obj}(hn:n≠0)(hb:H a.block=some (o,true)):Fr H w (H.ins a.block (Obj.o9 o a.off n)) (w.freeze a n):=by
 have hw:=h _ _ _ hb;unfold World.freeze;rw[bY hn];refine Fr.write h hb (by simp) ?_ (λc hc=>?_)
 ·simp[qBw,hw,Obj.o9];cases o<;>rfl
 simp[qBw,qAi hc]
theorem Fr.setObj{H:Hp}(h:H.le w){o:Obj}(hb:H r=some (o,true))(o':Obj):Fr H w (H.ins r o') { w with heap:=w.heap.setIfInBounds r o' }:=by
 have hw:=h _ _ _ hb;have bV:=(qAl.1 hw).1;refine Fr.write h hb (by simp) ?_ (λc hc=>?_)
 ·simp[bV]
 simp[qAi hc]
theorem ZgC{P:PQ}{s:Sem α}{Q:α->Bool->Hp->Prop}:∀{g:Bool} {H:Hp} {w:World} (es:Array Event),cD P s Q g H->H.le w ->
  ∃a w' H' fV g',s.runT P w es=(.ok a w',es++fV)/\Fr H w H' w'/\(Q a g' H'/\(g'=true->g=true))/\∀e∈fV,EvL H w w'.heap.size e:=by
 induction s with
 | pure a=>exact λ{g H w} es h hw=>⟨a,w,H,#[],g,by simp[Sem.runT],.refl hw,⟨h,id⟩,by simp⟩
 | load m a k ih=>
  rintro g H w es ⟨o,p,v,⟨bB,h1⟩,rfl,h3,h4,h5⟩ hw;obtain⟨x,w',H',fV,g',e1,e2,⟨e3,e5⟩,e4⟩:=ih v (es.push ⟨.cell a,false,Mode.plain == .atomic⟩) h5 hw;refine⟨x,w',H',#[⟨.cell a,false,Mode.plain == .atomic⟩]++fV,g',?_,e2,⟨e3,e5⟩,?_⟩
  ·simp only[Sem.runT,nK (hw _ _ _ h1) h3 h4];rw[e1];simp
  intro e he;simp only[qAB,qAb,DO]at he;rcases he with rfl | he
  ·exact⟨rfl,.inl ⟨o,p,h1,by simp⟩⟩
  exact e4 e he
 | store m a v k ih=>
  rintro g H w es ⟨o,⟨bB,h1⟩,rfl,h3,h4,h5,h6,h7⟩ hw;obtain⟨u,hu⟩:=qBi.1 h5;have f:=Fr.setCell hw h3 h1 v;obtain⟨x,w',H',fV,g',e1,e2,⟨e3,e5⟩,e4⟩:=ih (es.push ⟨.cell a,true,Mode.plain == .atomic⟩) h7 f.le;refine⟨x,w',H',#[⟨.cell a,true,Mode.plain == .atomic⟩]++fV,g',?_,f.trans e2,⟨e3,e5⟩,?_⟩
  ·have hc:=nK (hw _ _ _ h1) h3 hu;have hf:=(o8 (a:=a) (hw _ _ _ h1)).trans h6;cases v<;>simp[Value.dZ]at h4<;>(simp only[Sem.runT,hc,hf,iN,qAk];rw[e1];simp)
  intro e he;simp only[qAB,qAb,DO]at he;rcases he with rfl | he
  ·exact⟨rfl,.inl ⟨o,true,h1,by simp⟩⟩
  exact(e4 e he).jP f e2.size
 | new o k ih=>
  rintro g H w es h hw;have hn:H w.heap.size=none:=by
   cases hh:H w.heap.size with
   | none=>rfl
   | some y=>exact absurd (hw.lt hh) O
  have f:=Fr.alloc hw o;obtain⟨x,w',H',fV,g',e1,e2,⟨e3,e5⟩,e4⟩:=ih _ es (h.2 _ hn) f.le;exact⟨x,w',H',fV,g',by simp only[Sem.runT];exact e1,f.trans e2,⟨e3,e5⟩,λe he=>(e4 e he).jP f e2.size⟩
 | shape r k ih=>
  rintro g H w es ⟨o,p,⟨bB,h1⟩,h2⟩ hw;have:w.shape? r=Obj.n7 o:=by unfold World.shape? Obj.n7;rw[hw _ _ _ h1];cases o<;>rfl
  obtain⟨x,w',H',fV,g',e1,e2,⟨e3,e5⟩,e4⟩:=ih _ es h2 hw;exact⟨x,w',H',fV,g',by simp only[Sem.runT,this];exact e1,e2,⟨e3,e5⟩,e4⟩
 | freeze a n k ih=>
  rintro g H w es h hw;rcases h with⟨rfl,h2⟩ | ⟨o,⟨bB,h1⟩,h2,h3⟩
  ·obtain⟨x,w',H',fV,g',e1,e2,⟨e3,e5⟩,e4⟩:=ih es h2 hw;exact⟨x,w',H',fV,g',by simp only[Sem.runT,World.freeze,qAM];exact e1,e2,⟨e3,e5⟩,e4⟩
  have f:=Fr.freeze hw h2 h1;obtain⟨x,w',H',fV,g',e1,e2,⟨e3,e5⟩,e4⟩:=ih es h3 f.le;exact⟨x,w',H',fV,g',by simp only[Sem.runT];exact e1,f.trans e2,⟨e3,e5⟩,λe he=>(e4 e he).jP f e2.size⟩
 | frozen a k ih=>
  rintro g H w es ⟨o,p,⟨bB,h1⟩,h2⟩ hw;obtain⟨x,w',H',fV,g',e1,e2,⟨e3,e5⟩,e4⟩:=ih _ es h2 hw;exact⟨x,w',H',fV,g',by simp only[Sem.runT,o8 (a:=a) (hw _ _ _ h1)];exact e1,e2,⟨e3,e5⟩,e4⟩
 | getObj r k ih=>
  rintro g H w es ⟨o,p,⟨bB,h1⟩,h2,h3,h4⟩ hw;obtain⟨x,w',H',fV,g',e1,e2,⟨e3,e5⟩,e4⟩:=ih o (es.push ⟨.obj r,false,o.isChan⟩) h4 hw;refine⟨x,w',H',#[⟨.obj r,false,o.isChan⟩]++fV,g',?_,e2,⟨e3,e5⟩,?_⟩
  ·have hr:=hw _ _ _ h1;simp only[Sem.runT,hr];cases o<;>simp[Obj.oD]at h2<;>(dsimp only;rw[e1];simp)
  intro e he;simp only[qAB,qAb,DO]at he;rcases he with rfl | he
  ·exact⟨h3,.inl ⟨o,p,h1,by simp⟩⟩
  exact e4 e he
 | setObj r o k ih=>
  rintro g H w es ⟨o',⟨bB,h1⟩,h2,h3,h4,h5⟩ hw;have f:=Fr.setObj hw h1 o;obtain⟨x,w',H',fV,g',e1,e2,⟨e3,e5⟩,e4⟩:=ih (es.push ⟨.obj r,true,o.isChan⟩) h5 f.le;refine⟨x,w',H',#[⟨.obj r,true,o.isChan⟩]++fV,g',?_,f.trans e2,⟨e3,e5⟩,?_⟩
  ·have hr:=hw _ _ _ h1;simp only[Sem.runT,hr];cases o'<;>simp[Obj.oD]at h2<;>(dsimp only;rw[e1];simp)
  intro e he;simp only[qAB,qAb,DO]at he;rcases he with rfl | he
  ·exact⟨h4,.inl ⟨o',true,h1,by simp⟩⟩
  exact(e4 e he).jP f e2.size
 | choose q k ih=>
  rintro g H w es h hw;simp only[cD]at h;split at h
  ·rename_i hq;obtain⟨x,w',H',fV,g',e1,e2,⟨e3,e5⟩,e4⟩:=ih _ es h hw;exact⟨x,w',H',fV,g',by simp only[Sem.runT,hq,qAM];exact e1,e2,⟨e3,e5⟩,e4⟩
  rename_i hq;have f:=Fr.Jy hw (w.drawn+1) O;obtain⟨x,w',H',fV,g',e1,e2,⟨e3,e5⟩,e4⟩:=ih _ es (h.2 (w.tape w.drawn q)) f.le;exact⟨x,w',H',fV,g',by simp only[Sem.runT,hq];exact e1,f.trans e2,⟨e3,e5⟩,λe he=>(e4 e he).jP f e2.size⟩
 | sys c k ih=>exact λ_ h=>h.elim
 | program k ih=>
  rintro g H w es h hw;obtain⟨x,w',H',fV,g',e1,e2,⟨e3,e5⟩,e4⟩:=ih _ es h hw;exact⟨x,w',H',fV,g',by simp only[Sem.runT];exact e1,e2,⟨e3,e5⟩,e4⟩
 | mark m k ih=>
  rintro g H w es h hw;obtain⟨h1,h2⟩:=h;obtain⟨x,w',H',fV,g',e1,e2,⟨e3,e5⟩,e4⟩:=ih (es.push ⟨.mark m,false,true⟩) h2 hw;refine⟨x,w',H',#[⟨.mark m,false,true⟩]++fV,g',?_,e2,⟨e3,e5⟩,?_⟩
  ·simp only[Sem.runT];rw[e1];simp
  intro e he;simp only[qAB,qAb,DO]at he;rcases he with rfl | he
  ·rcases h1 with⟨f,rfl⟩ | ⟨rfl,_⟩<;>trivial
  exact e4 e he
 | halt h=>exact λ_ h=>h.elim
theorem ZnS{P:PQ}{s:Sem α}{Q:α->Bool->Hp->Prop}:∀{g:Bool} {H:Hp},P.still H.gh=true->cD P s Q g H ->
  ∃a fV,Q a g H/\(∀(w:World) (es:Array Event),s.runT P w es=(.ok a w,es++fV))/\∀e∈fV,∃f,e=⟨.mark (.extern f),false,true⟩:=by
 have no:∀{b:Bool} {p:Prop},b=true->b=false->p:=by intro b p h1 h2;rw[h1]at h2;simp at h2
 induction s with
 | pure a=>exact λhn h=>⟨a,#[],h,λw es=>by simp[Sem.runT],by simp⟩
 | load m a k ih=>exact λhn ⟨o,p,v,h1,_⟩=>no hn h1.1
 | store m a v k ih=>exact λhn ⟨o,h1,_⟩=>no hn h1.1
 | new o k ih=>exact λhn h=>no hn h.1
 | shape r k ih=>exact λhn ⟨o,p,h1,_⟩=>no hn h1.1
 | freeze a n k ih=>
  rintro g H hn (⟨rfl,h⟩ | ⟨o,h1,_⟩)
  ·obtain⟨x,fV,e1,e2,e3⟩:=ih hn h;exact⟨x,fV,e1,λw es=>by simp only[Sem.runT,World.freeze,qAM];exact e2 w es,e3⟩
  exact no hn h1.1
 | frozen a k ih=>exact λhn ⟨o,p,h1,_⟩=>no hn h1.1
 | getObj r k ih=>exact λhn ⟨o,p,h1,_⟩=>no hn h1.1
 | setObj r o k ih=>exact λhn ⟨o',h1,_⟩=>no hn h1.1
 | choose q k ih=>
  intro g H hn h;simp only[cD]at h;split at h
  ·rename_i hq;obtain⟨x,fV,e1,e2,e3⟩:=ih _ hn h;exact⟨x,fV,e1,λw es=>by simp only[Sem.runT,hq,qAM];exact e2 w es,e3⟩
  exact no hn h.1
 | sys c k ih=>exact λ_ h=>h.elim
 | program k ih=>
  intro g H hn h;obtain⟨x,fV,e1,e2,e3⟩:=ih _ hn h;exact⟨x,fV,e1,λw es=>by simp only[Sem.runT];exact e2 w es,e3⟩
 | mark m k ih=>
  rintro g H hn ⟨h1,h⟩;obtain⟨f,rfl⟩:=h1.resolve_right (λh=>no hn h.2);obtain⟨x,fV,e1,e2,e3⟩:=ih hn h;refine⟨x,#[⟨.mark (.extern f),false,true⟩]++fV,e1,λw es=>by simp only[Sem.runT];rw[e2];simp,?_⟩;intro e he;simp only[qAB,qAb,DO]at he;rcases he with rfl | he
  ·exact⟨f,rfl⟩
  exact e3 e he
 | halt h=>exact λ_ h=>h.elim
end
section
variable{b l id:Nat}{w w':World}{x c y:Code}{k:List Item}{f:FuncId}{s:Sem Next}{wk nr:Bool}
theorem Qy(P:Program)(fn:FuncId)(es:Array Event):∀e∈seen P fn es,e∈es:=by
 intro e he;dsimp only[seen]at he;rw[<-qCq]at he;have key:∀(l:List Event) (x:Bool×Array Event),e∈(l.foldl (λx e=>match e.loc with
   | .mark (.extern f)=>((P.funcs[f]?).any (·.norace),x.2)
   | _=>(x.1,if(x.1 && !e.sync)=true then x.2 else x.2.push e)) x).2->e∈x.2\/e∈l:=by
  intro l
  induction l with
  | nil=>exact λx h=>.inl h
  | cons y l ih=>
   intro x h;simp only[qBF]at h;rcases ih _ h with h | h
   ·split at h
    ·exact .inl h
    dsimp only at h;split at h
    ·exact .inl h
    rcases Array.mem_push.1 h with h | h
    ·exact .inl h
    exact .inr (by rw[h];simp)
   exact .inr (qAr _ h)
 rcases key es.toList _ he with h | h
 ·simp at h
 exact qAt.1 h
abbrev bT(fr:Frame)(cs:List Frame):Goroutine:={ frame:=fr,callers:=cs,status:=.running,dying:=none }
def qJ(P:PQ)(fr:Frame)(cs:List Frame)(H:Hp)(R:Frame->List Frame->Hp->Prop):Prop:=
 (∀(main:Bool) (w:World),H.le w ->
  ∃bW bJ w' H' es,stepG P main (bT fr cs) w=.go (bT bW bJ) w' es/\Fr H w H' w'/\R bW bJ H'/\∀e∈es,EvL H w w'.heap.size e) /\
 (P.still H.gh=true->∃bW bJ,(∀(main:Bool) (w:World),stepG P main (bT fr cs) w=.go (bT bW bJ) w)/\R bW bJ H)
theorem qJ.mono{P:PQ}{fr:Frame}{cs:List Frame}{H:Hp}{R R':Frame->List Frame->Hp->Prop}(h:qJ P fr cs H R)(hr:∀fr cs H,R fr cs H->R' fr cs H):qJ P fr cs H R':=
 ⟨λmain w hw=>let⟨bW,bJ,w',H',es,a,b,c,d⟩:=h.1 main w hw;⟨bW,bJ,w',H',es,a,b,hr _ _ _ c,d⟩,λhs=>let⟨bW,bJ,a,b⟩:=h.2 hs;⟨bW,bJ,a,hr _ _ _ b⟩⟩
structure Hp.Comp(H F:Hp):Prop where
 mem:∀b x y,H b=some x->F b=some y->x=y/\x.2=false
 gh:H.gh=[]\/F.gh=[]
instance {H F:Hp}:CoeFun (H.Comp F) (λ_=>∀b x y,H b=some x->F b=some y->x=y/\x.2=false):=⟨Hp.Comp.mem⟩
def Hp.join(H F:Hp):Hp:=⟨λb=>match H b with | some x=>some x | none=>F b,H.gh++F.gh⟩
theorem Hp.aX(H F:Hp)(b:Nat):H.join F b=match H b with | some x=>some x | none=>F b:=rfl
theorem Hp.bP(H F:Hp):(H.join F).gh=H.gh++F.gh:=rfl
theorem Hp.aK{H F:Hp}{x:Obj×Bool}(h:H b=some x):H.join F b=some x:=by simp[Hp.aX,h]
theorem Hp.aS{H F:Hp}(hc:H.Comp F){x:Obj×Bool}(h:F b=some x):H.join F b=some x:=by
 simp only[Hp.aX];cases hh:H b with
 | none=>exact h
 | some y=>rw[(hc b y x hh h).1]
theorem Hp.dR{H F:Hp}:H.join F b=none↔H b=none/\F b=none:=by simp only[Hp.aX];cases hh:H b<;>simp
theorem Hp.le.left{H F:Hp}(h:(H.join F).le w):H.le w:=λb o p hb=>h b o p (Hp.aK hb)
theorem Hp.le.right{H F:Hp}(hc:H.Comp F)(h:(H.join F).le w):F.le w:=λb o p hb=>h b o p (Hp.aS hc hb)
theorem Fr.comp{H F H':Hp}(hc:H.Comp F)(hF:F.le w)(f:Fr H w H' w'):H'.Comp F:=by
 refine⟨?_,by rw[f.gh];exact hc.gh⟩;intro b x y h1 h2;cases hh:H b with
 | none=>exact absurd (hF.lt h2) (qCh.2 (f.new b hh (by rw[h1];simp)))
 | some z=>
  obtain⟨hz,EC⟩:=hc b z y hh h2;obtain⟨o,p⟩:=z;obtain rfl:p=false:=EC;rw[f.ro b o hh]at h1;simp at h1;rw[<-h1,hz];exact⟨rfl,by rw[<-hz]⟩
theorem Fr.join{H F H':Hp}(hc:H.Comp F)(hw:(H.join F).le w)(f:Fr H w H' w'):Fr (H.join F) w (H'.join F) w' where
 os:=f.os
 tape:=f.tape
 out:=f.out
 drawn:=f.drawn
 size:=f.size
 keep:=λb hb hn=>f.keep b hb λo ho=>hn o (Hp.aK ho)
 le:=by
  intro b o p hb;simp only[Hp.aX]at hb;cases hh:H' b with
  | some x=>rw[hh]at hb;exact f.le b o p (by rw[hh];exact hb)
  | none=>
   rw[hh]at hb;have h1:=hw.right hc b o p hb;rw[f.keep b (qAl.1 h1).1 (λo' pM=>?_)]
   ·exact h1
   obtain⟨o2,h2⟩:=f.rw b o' pM;rw[hh]at h2;simp at h2
 new:=λb h1 h2=>by obtain⟨ha,hb⟩:=Hp.dR.1 h1;refine f.new b ha λhn=>h2 (Hp.dR.2 ⟨hn,hb⟩)
 ro:=λb o h=>by
  simp only[Hp.aX]at h;cases hh:H b with
  | some x=>rw[hh]at h;exact Hp.aK (f.ro b o (by rw[hh];exact h))
  | none=>
   rw[hh]at h;have bV:=(hw.right hc).lt h;have:H' b=none:=by
    cases h':H' b with
    | none=>rfl
    | some y=>exact absurd bV (qCh.2 (f.new b hh (by rw[h'];simp)))
   simp only[Hp.aX];rw[this];exact h
 rw:=λb o h=>by
  simp only[Hp.aX]at h;cases hh:H b with
  | some x=>
   rw[hh]at h;obtain⟨o',h'⟩:=f.rw b o (by rw[hh];exact h);exact⟨o',Hp.aK h'⟩
  | none=>
   rw[hh]at h;have bV:=(hw.right hc).lt h;have:H' b=none:=by
    cases h':H' b with
    | none=>rfl
    | some y=>exact absurd bV (qCh.2 (f.new b hh (by rw[h'];simp)))
   exact⟨o,by simp only[Hp.aX];rw[this];exact h⟩
 gh:=by rw[Hp.bP,Hp.bP,f.gh]
theorem EvL.join{H F:Hp}{n:Nat}{e:Event}(h:EvL H w n e):EvL (H.join F) w n e:=by
 unfold EvL at h ⊢;split at h
 ·exact⟨h.1,h.2.imp (λ⟨o,p,h1,h2⟩=>⟨o,p,Hp.aK h1,h2⟩) id⟩
 ·exact⟨h.1,h.2.imp (λ⟨o,p,h1,h2⟩=>⟨o,p,Hp.aK h1,h2⟩) id⟩
 ·trivial
 ·trivial
 trivial
structure Env where
 sh:(Frame->List Frame->Hp->Prop)->Frame->List Frame->Hp->Prop
 shMono:∀{R R':Frame->List Frame->Hp->Prop},(∀fr cs H,R fr cs H->R' fr cs H)->∀{fr cs H},sh R fr cs H->sh R' fr cs H
 shFrame:∀{R:Frame->List Frame->Hp->Prop} {fr cs H F},H.Comp F->sh R fr cs H->sh (λfr cs HF=>∃H',HF=H'.join F/\H'.Comp F/\R fr cs H') fr cs (H.join F)
structure bF extends PQ,Env
instance:Coe bF Program:=⟨λP=>P.toProgram⟩
instance:Coe bF PQ:=⟨λP=>P.toPQ⟩
def Env.lone:Env where
 sh:=λ_ _ _ _=>False
 shMono:=λ_ _ _ _ h=>h
 shFrame:=λ_ h=>h.elim
def Reach(P:bF)(G:Frame->List Frame->Hp->Prop)(fr:Frame)(cs:List Frame)(H:Hp):Prop:=
 ∀R:Frame->List Frame->Hp->Prop,(∀fr cs H,G fr cs H->R fr cs H)->(∀fr cs H,qJ P fr cs H R->R fr cs H)->(∀fr cs H,P.sh R fr cs H->R fr cs H)->R fr cs H
section reach
variable{P:bF}{G G':Frame->List Frame->Hp->Prop}{fr:Frame}{cs:List Frame}{H:Hp}
theorem Reach.stop(h:G fr cs H):Reach P G fr cs H:=λ_ h1 _ _=>h1 _ _ _ h
theorem Reach.step(h:qJ P fr cs H (Reach P G)):Reach P G fr cs H:=λR h1 h2 h3=>h2 _ _ _ (h.mono λ_ _ _ hr=>hr R h1 h2 h3)
theorem Reach.eX(h:P.sh (Reach P G) fr cs H):Reach P G fr cs H:=λR h1 h2 h3=>h3 _ _ _ (P.shMono (λ_ _ _ hr=>hr R h1 h2 h3) h)
theorem Reach.bind(h:Reach P G fr cs H)(hg:∀fr cs H,G fr cs H->Reach P G' fr cs H):Reach P G' fr cs H:=
 h _ hg (λ_ _ _ hs=>.step hs) (λ_ _ _ hs=>.eX hs)
theorem Reach.mono(h:Reach P G fr cs H)(hg:∀fr cs H,G fr cs H->G' fr cs H):Reach P G' fr cs H:=h.bind λ_ _ _ hh=>.stop (hg _ _ _ hh)
theorem Reach.pure{bW:Frame}{bJ:List Frame}(h:∀main w,stepG P main (bT fr cs) w=.go (bT bW bJ) w)(hr:Reach P G bW bJ H):Reach P G fr cs H:=
 .step ⟨λmain w hw=>⟨bW,bJ,w,H,#[],h main w,.refl hw,hr,by simp⟩,λ_=>⟨bW,bJ,h,hr⟩⟩
theorem Zpa(P:Program)(fn:FuncId):∀(es:Array Event),(∀e∈es,∃f,e=⟨.mark (.extern f),false,true⟩)->seen P fn es=#[]:=by
 intro es h;dsimp only[seen];rw[<-qCq];have h':∀e∈es.toList,∃f,e=⟨.mark (.extern f),false,true⟩:=λe he=>h e (qAt.1 he);revert h';generalize es.toList=l;intro h';have key:∀(l:List Event) (x:Bool×Array Event),(∀e∈l,∃f,e=⟨.mark (.extern f),false,true⟩)->(l.foldl (λx e=>match e.loc with
   | .mark (.extern f)=>((P.funcs[f]?).any (·.norace),x.2)
   | _=>(x.1,if(x.1 && !e.sync)=true then x.2 else x.2.push e)) x).2=x.2:=by
  intro l
  induction l with
  | nil=>exact λx _=>rfl
  | cons y l ih=>
   intro x hl;obtain⟨f,rfl⟩:=hl y (by simp);simp only[qBF];exact ih _ λe he=>hl e (qAr _ he)
 exact key l _ h'
theorem Reach.zS{α:Type}{s:Sem α}{Q:α->Bool->Hp->Prop}(hs:cD P s Q false H)
  (h:∀a H0,Q a false H0->∃bW bJ,(∀main w w' es,s.runT P w #[]=(.ok a w',es)->∃fV,stepG P main (bT fr cs) w=.go (bT bW bJ) w' fV/\(fV=#[]\/fV=seen P fr.fn es))/\∀H',Q a false H'->Reach P G bW bJ H'):Reach P G fr cs H:=by
 refine .step ⟨λmain w hw=>?_,λbB=>?_⟩
 ·obtain⟨a,w',H',es,g,e1,e2,⟨e3,e5⟩,e4⟩:=ZgC #[] hs hw;obtain rfl:g=false:=by
   cases g with
   | false=>rfl
   | true=>exact(e5 rfl).symm
  obtain⟨bW,bJ,h1,h3⟩:=h a _ e3;obtain⟨fV,h1,h2⟩:=h1 main w w' _ e1;refine⟨_,_,w',H',fV,h1,e2,h3 _ e3,λe he=>?_⟩;rcases h2 with rfl | rfl
  ·simp at he
  exact e4 e (by simpa using Qy _ _ _ e he)
 obtain⟨a,es,e1,e2,e3⟩:=ZnS bB hs;obtain⟨bW,bJ,h1,h3⟩:=h a _ e1;refine⟨bW,bJ,λmain w=>?_,h3 _ e1⟩;obtain⟨fV,h4,h5⟩:=h1 main w w _ (e2 w #[]);rw[h4];congr 1;rcases h5 with h5 | h5
 ·exact h5
 rw[h5];exact Zpa _ _ _ (λe he=>e3 e (by simpa using he))
end reach
theorem Ub{P:PQ}{H F:Hp}(hc:H.Comp F)(h:P.still H.gh=false):P.still (H.join F).gh=false:=by
 rw[Hp.bP];rcases hc.gh with e | e
 ·rw[e]at h;exact P.stillNil h _
 rw[e,qAj];exact h
theorem ZoF{P:PQ}{H F:Hp}(hc:H.Comp F)(h:P.still (H.join F).gh=true):P.still H.gh=true:=by
 cases e:P.still H.gh with
 | true=>rfl
 | false=>rw[Ub hc e]at h;simp at h
theorem Reach.frame{P:bF}{G:Frame->List Frame->Hp->Prop}{fr:Frame}{cs:List Frame}{H F:Hp}(h:Reach P G fr cs H)(hc:H.Comp F) :
  Reach P (λfr cs HF=>∃H',HF=H'.join F/\H'.Comp F/\G fr cs H') fr cs (H.join F):=by
 refine h (λfr cs H=>H.Comp F->Reach P (λfr cs HF=>∃H',HF=H'.join F/\H'.Comp F/\G fr cs H') fr cs (H.join F)) (λfr cs H hg hc=>.stop ⟨H,rfl,hc,hg⟩) ?_ (λfr cs H hs hc=>.eX (P.shMono (λfr cs HF ⟨H',e,lG,hr⟩=>by rw[e];exact hr lG) (P.shFrame hc hs))) hc;intro fr cs H hs hc;refine .step ⟨λmain w hw=>?_,λbB=>?_⟩
 ·obtain⟨bW,bJ,w',H',es,h1,h2,h3,h4⟩:=hs.1 main w hw.left;exact⟨bW,bJ,w',H'.join F,es,h1,h2.join hc hw,h3 (h2.comp hc (hw.right hc)),λe he=>(h4 e he).join⟩
 obtain⟨bW,bJ,h1,h2⟩:=hs.2 (ZoF hc bB);exact⟨bW,bJ,h1,h2 hc⟩
def VX(G:Frame->List Frame->Hp->Prop):Prop:=∀fr cs H J,H.Comp J->G fr cs H->G fr cs (H.join J)
theorem Reach.up{P:bF}{G:Frame->List Frame->Hp->Prop}{fr:Frame}{cs:List Frame}{H J:Hp}(hG:VX G)(h:Reach P G fr cs H)(hc:H.Comp J):Reach P G fr cs (H.join J):=
 (h.frame hc).mono λ_ _ _ ⟨_,e,lG,hg⟩=>by rw[e];exact hG _ _ _ _ lG hg
def on(b:Frame)(a:Act)(todo:List Item):Frame:={ b with tmps:=a.tmps,todo,defers:=a.defers,mode:=.run }
inductive Ex where
 | normal
 | exit (id:Nat)
 | ret
def C9(P:bF)(G:Frame->List Frame->Hp->Prop)(b:Frame)(k:List Item)(cs:List Frame):Ex->Act->Hp->Prop
 | .normal,a,H=>Reach P G (on b a k) cs H
 | .ret,a,H=>∀k',Reach P G (on b a (.code .ret :: k')) cs H
 | .exit id,a,H=>(∀k',exitTo id k=some k'->Reach P G (on b a k') cs H)/\(exitTo id k=none->∀k',exitTo id k'=none->Reach P G (on b a (.code (.exit id) :: k')) cs H)
def plain:Item->Bool
 | .inBlock _=>false
 | _=>true
theorem C9.xN{P:bF}{G:Frame->List Frame->Hp->Prop}{b:Frame}{x:Item}{cs:List Frame}{e:Ex}{a:Act}{H:Hp}(hx:plain x=true)
  (h:C9 P G b k cs e a H) (he:e≠.normal):C9 P G b (x :: k) cs e a H:=by
 cases e with
 | normal=>exact absurd rfl he
 | ret=>exact h
 | exit id=>
  have:exitTo id (x :: k)=exitTo id k:=by cases x<;>simp_all[exitTo,plain]
  simp only[C9]at h ⊢;rw[this];exact h
structure Rd where
 wG:Bool
 nr:Bool
def norace(P:Program)(f:FuncId):Bool:=(P.funcs[f]?).any (·.norace)
structure Fit(P:Program)(rd:Rd)(b:Frame):Prop where
 kind:b.kind≠.early
 wG:rd.wG=true->b.roundOf=none
 nr:rd.nr=true->norace P b.fn=true
def g8(P:bF)(rd:Rd)(c:Code)(Q:Ex->Act->Hp->Prop)(a:Act)(H:Hp):Prop:=
 ∀(G:Frame->List Frame->Hp->Prop) (b:Frame) (k:List Item) (cs:List Frame),VX G->Fit P rd b->(∀e a' H',Q e a' H'->C9 P G b k cs e a' H')->Reach P G (on b a (.code c :: k)) cs H
section code
variable{P:bF}{rd:Rd}{Q Q':Ex->Act->Hp->Prop}{a:Act}{H:Hp}
theorem g8.mono(h:g8 P rd c Q a H)(hq:∀e a H,Q e a H->Q' e a H):g8 P rd c Q' a H:=λG b k cs hc hb hG=>h G b k cs hc hb λe a' H' hh=>hG _ _ _ (hq _ _ _ hh)
theorem g8.skip(h:Q .normal a H):g8 P rd .skip Q a H:=λG b k cs hc hb hG=>.pure (λmain w=>by simp[stepG,stepG.exec,on]) (hG _ _ _ h)
theorem g8.label(h:Q .normal a H):g8 P rd (.label l) Q a H:=λG b k cs hc hb hG=>.pure (λmain w=>by simp[stepG,stepG.exec,on]) (hG _ _ _ h)
theorem g8.ret(h:Q .ret a H):g8 P rd .ret Q a H:=λG b k cs hc hb hG=>hG _ _ _ h k
theorem g8.exit(h:Q (.exit id) a H):g8 P rd (.exit id) Q a H:=λG b k cs hc hb hG=>by
 obtain⟨h1,h2⟩:=hG _ _ _ h;cases hk:exitTo id k with
 | none=>exact h2 hk k hk
 | some k'=>exact .pure (λmain w=>by simp[stepG,stepG.exec,on,hk,Option.elim]) (h1 k' hk)
def Ex.then(next:Act->Hp->Prop)(Q:Ex->Act->Hp->Prop):Ex->Act->Hp->Prop
 | .normal,a,H=>next a H
 | e,a,H=>Q e a H
theorem g8.seq(h:g8 P rd x (Ex.then (g8 P rd y Q) Q) a H):g8 P rd (.seq x y) Q a H:=by
 intro G b k cs bU hb hG;refine .pure (bW:=on b a (.code x :: .code y :: k)) (bJ:=cs) (λmain w=>by simp[stepG,stepG.exec,on]) (h G b (.code y :: k) cs bU hb ?_);intro e a' H' hq;cases e with
 | normal=>exact hq G b k cs bU hb hG
 | ret=>exact(hG .ret a' H' hq).xN rfl (by simp)
 | exit id=>exact(hG (.exit id) a' H' hq).xN rfl (by simp)
theorem g8.cond{c:Operand}{t:Bool}(hc:a.eval c=.bool t)(h:g8 P rd (if t then x else y) Q a H):g8 P rd (.cond c x y) Q a H:=by
 intro G b k cs bU hb hG;refine .pure (bW:=on b a (.code (if t then x else y) :: k)) (bJ:=cs) (λmain w=>?_) (h G b k cs bU hb hG);have he:(on b a (.code (.cond c x y) :: k)).eval c=.bool t:=by rw[<-hc];cases c<;>rfl
 have WF:Frame.eval { b with tmps:=a.tmps,todo:=.code (.cond c x y) :: k,defers:=a.defers,mode:=.run } c=.bool t:=he;simp[stepG,stepG.exec,on,WF]
def Ex.inBlock(id:Nat)(Q:Ex->Act->Hp->Prop):Ex->Act->Hp->Prop
 | .exit tO,a,H=>if tO=id then Q .normal a H else Q (.exit tO) a H
 | e,a,H=>Q e a H
theorem g8.block(h:g8 P rd c (Ex.inBlock id Q) a H):g8 P rd (.block id c) Q a H:=by
 intro G b k cs bU hb hG;refine .pure (bW:=on b a (.code c :: .inBlock id :: k)) (bJ:=cs) (λmain w=>by simp[stepG,stepG.exec,on]) (h G b (.inBlock id :: k) cs bU hb ?_);intro e a' H' hq;cases e with
 | normal=>exact .pure (bW:=on b a' k) (bJ:=cs) (λmain w=>by simp[stepG,stepG.exec,on]) (hG _ _ _ hq)
 | ret=>exact hG .ret a' H' hq
 | exit tO=>
  simp only[Ex.inBlock]at hq;by_cases he:tO=id
  ·rw[iO he]at hq;refine⟨λk' hk=>?_,λhk=>?_⟩
   ·simp[exitTo,he]at hk;subst hk;exact hG _ _ _ hq
   simp[exitTo,he]at hk
  rw[bY he]at hq;have:exitTo tO (.inBlock id :: k)=exitTo tO k:=by simp[exitTo,qAi he]
  have hx:=hG _ _ _ hq;simp only[C9]at hx ⊢;rw[this];exact hx
theorem g8.scope(h:g8 P rd c Q a H):g8 P rd (.scope c) Q a H:=by
 intro G b k cs bU hb hG;refine .pure (bW:=on b a (.code c :: .inScope c :: k)) (bJ:=cs) (λmain w=>by simp[stepG,stepG.exec,on]) (h G b (.inScope c :: k) cs bU hb ?_);intro e a' H' hq;cases e with
 | normal=>exact .pure (bW:=on b a' k) (bJ:=cs) (λmain w=>by simp[stepG,stepG.exec,on]) (hG _ _ _ hq)
 | ret=>exact(hG .ret a' H' hq).xN rfl (by simp)
 | exit id=>exact(hG (.exit id) a' H' hq).xN rfl (by simp)
theorem g8.loop(I:Nat->Act->Hp->Prop)(n:Nat)(h₀:I n a H)(round:∀n a H,I n a H->g8 P rd c (Ex.then (λa' H'=>∃m,m<n/\I m a' H') Q) a H):g8 P rd (.loop c) Q a H:=by
 intro G b k cs bU hb hG;have key:∀n a H,I n a H->Reach P G (on b a (.code c :: .inLoop c :: k)) cs H:=by
  intro n;induction n using Nat.strongRecOn with
  | _ n ih=>
   intro a H hI;refine round n a H hI G b (.inLoop c :: k) cs bU hb ?_;intro e a' H' hq;cases e with
   | normal=>
    obtain⟨m,hm,BW⟩:=hq;exact .pure (bW:=on b a' (.code c :: .inLoop c :: k)) (bJ:=cs) (λmain w=>by simp[stepG,stepG.exec,on]) (ih m hm a' H' BW)
   | ret=>exact(hG .ret a' H' hq).xN rfl (by simp)
   | exit id=>exact(hG (.exit id) a' H' hq).xN rfl (by simp)
 exact .pure (bW:=on b a (.code c :: .inLoop c :: k)) (bJ:=cs) (λmain w=>by simp[stepG,stepG.exec,on]) (key n a H h₀)
end code
def Zc(P:bF)(f:FuncId)(args:Array Value)(H:Hp)(Post:Value->Hp->Prop):Prop:=
 ∀(G:Frame->List Frame->Hp->Prop) (c:Frame) (cs:List Frame),VX G->(∀v H',Post v H'->Reach P G (c.finish v) cs H')->Reach P G (Frame.enter P f args .normal) (c :: cs) H
def UY(P:bF)(l:Nat)(f:FuncId)(tmps:Array Value)(assign body:Code)(H:Hp)(Post:Value->Hp->Prop):Prop:=
 ∀(G:Frame->List Frame->Hp->Prop) (c:Frame) (cs:List Frame),VX G->(∀v H',Post v H'->Reach P G (c.finish v) cs H')->Reach P G (Frame.round l f tmps assign body .normal) (c :: cs) H
theorem Zc.mono{P:bF}{args:Array Value}{H:Hp}{Post gM:Value->Hp->Prop}(h:Zc P f args H Post)(hp:∀v H,Post v H->gM v H):Zc P f args H gM:=
 λG c cs hc hG=>h G c cs hc λv H' hv=>hG v H' (hp _ _ hv)
theorem UY.mono{P:bF}{tmps:Array Value}{assign body:Code}{H:Hp}{Post gM:Value->Hp->Prop}(h:UY P l f tmps assign body H Post)(hp:∀v H,Post v H->gM v H):UY P l f tmps assign body H gM:=
 λG c cs hc hG=>h G c cs hc λv H' hv=>hG v H' (hp _ _ hv)
def dD(a:Act)(dst:Option Tmp)(v:Value):Act:=
 match dst with
 | some d=>{ a with tmps:=a.tmps.setIfInBounds d v }
 | none=>a
def Ku(P:bF)(dst:Option Tmp)(a:Act)(next:Act->Hp->Prop):Next->Hp->Prop
 | .value v,H=>next (dD a dst v) H
 | .skip,H=>next (dD a dst undef) H
 | .defer d,H=>next (dD { a with defers:=d :: a.defers } dst undef) H
 | .enter f args,H=>Zc P f args H λv H'=>next (dD a dst v) H'
 | .round l f tmps assign body,H=>UY P l f tmps assign body H λv H'=>next (dD a dst v) H'
 | _,_=>False
def Uz(P:Program)(s:Sem Next):Prop:=∀w,∃v w' es,s.runT P w #[]=(.ok (.value v) w',es)
structure KZ(P:Program)(fr:Frame)(nx:Value->Frame)(s:Sem Next)(wk nr:Bool):Prop where
 val:∀main cs w w' v es,s.runT P w #[]=(.ok (.value v) w',es)->stepG P main (bT fr cs) w=.go (bT (nx v) cs) w' (seen P fr.fn es)
 halt:Uz P s\/∀main cs w es,s.runT P w #[]=(.halt .blocked w,es)->stepG P main (bT fr cs) w=.go { frame:=fr,callers:=cs,status:=.blocked,dying:=none } w #[]
 spawn:Uz P s\/∀main cs w w' f c aB es,s.runT P w #[]=(.ok (.spawn { target:=.fn f c,args:=aB }) w',es) ->
  stepG P main (bT fr cs) w=.spawn (bT (nx undef) cs) (bT { (default:Frame)with fn:=P.funcs.size,defers:=[{ target:=.fn f c,args:=aB }],mode:=.panicking [goexitEntry] } []) w' (seen P fr.fn es)
 wD:wk=true->∀cs,mayWake P (bT fr cs)=true
 nr:nr=true->norace P fr.fn=true
 comm:Uz P s\/((∀v,nx v=fr.finish v)/\∀main cs w w' c b sh es,s.runT P w #[]=(.ok (.comm c b sh) w',es)->stepG P main (bT fr cs) w=.comm (bT fr cs) c b sh w' (seen P fr.fn es))
def Zm(P:bF)(s:Sem Next)(wk nr:Bool)(H:Hp)(Post:Value->Hp->Prop):Prop:=
 ∀(G:Frame->List Frame->Hp->Prop) (fr:Frame) (nx:Value->Frame) (cs:List Frame),VX G->KZ P fr nx s wk nr->(∀v H',Post v H'->Reach P G (nx v) cs H')->Reach P G fr cs H
theorem Zm.mono{P:bF}{H:Hp}{Post gM:Value->Hp->Prop}(h:Zm P s wk nr H Post)(hp:∀v H,Post v H->gM v H):Zm P s wk nr H gM:=
 λG fr nx cs hc ha hG=>h G fr nx cs hc ha λv H' hv=>hG v H' (hp _ _ hv)
theorem Zm.any{P:bF}{H:Hp}{Post:Value->Hp->Prop}(h:Zm P s wk false H Post):Zm P s wk nr H Post:=
 λG fr nx cs hc ha hG=>h G fr nx cs hc ⟨ha.val,ha.halt,ha.spawn,ha.wD,λh=>by simp at h,ha.comm⟩ hG
def Va(P:Program)(o:Oper):Bool:=
 match o.op with
 | .call { callee:=.value (.func f),.. }=>!(P.funcs[f]?).any (·.body.isSome)
 | .call { callee:=.value _,.. }=>false
 | .call _=>true
 | _=>false
def lK(P:bF)(nr:Bool)(o:Oper)(a:Act)(next:Act->Hp->Prop)(H:Hp):Prop:=
 cD P (execOp a.eval o) (λn g H'=>g=true\/Ku P o.dst a next n H') false H\/Zm P (execOp a.eval o) (Va P o) nr H λv H'=>next (dD a o.dst v) H'
def tV(P:bF)(nr:Bool)(aI:Array Oper)(Q:Act->Hp->Prop):List Nat->Act->Hp->Prop
 | [],a,H=>Q a H
 | i :: rest,a,H=>
  match aI[i]? with
  | none=>tV P nr aI Q rest a H
  | some o=>if Region.wanted o (yielded aI a.tmps)then lK P nr o a (tV P nr aI Q rest) H else tV P nr aI Q rest (dD a o.dst undef) H
theorem Lv(b:Frame)(a:Act)(aI:Array Oper)(i:Nat)(rest:List Nat)(k:List Item)(v:Value) :
  (on b a (.inRegion aI (i :: rest) :: k)).finish v=on b (dD a ((aI[i]?).bind (·.dst)) v) (.inRegion aI rest :: k):=by
 cases h:(aI[i]?).bind (·.dst)<;>simp[Frame.finish,on,dD,h]
theorem Zs6(b:Frame)(a:Act)(todo:List Item):(on b a todo).eval=a.eval:=by funext x;cases x<;>rfl
theorem SP{P:Program}{b:Frame}{a:Act}{cs:List Frame}{aI:Array Oper}{i:Nat}{rest:List Nat}{o:Oper}{main:Bool}(ho:aI[i]? = some o)(hw:Region.wanted o (yielded aI a.tmps)=true)
  (hd:∀c,o.op=.defer c->b.roundOf=none) :
  stepG P main (bT (on b a (.inRegion aI (i :: rest) :: k)) cs) w=stepG.apply P true (on b a (.inRegion aI (i :: rest) :: k)) cs none (execOp a.eval o) w:=by
 have he:=Zs6 b a (.inRegion aI (i :: rest) :: k);simp only[on]at he;simp only[on,stepG,stepG.exec,ho,qBa,Option.getD_some,hw,qAM,stepG.oper,Frame.oper?,he];split
 ·rename_i l c hl bH;rw[hd c bH]at hl;simp at hl
 rfl
end
variable{nr main:Bool}{i id:Nat}{rest:List Nat}{w:World}
section aI
variable{P:bF}{Q:Ex->Act->Hp->Prop}{b:Frame}{a:Act}{k:List Item}{cs:List Frame}{H:Hp}{aI:Array Oper}{G:Frame->List Frame->Hp->Prop}
theorem ZmP(hb:b.kind≠.early):(b.kind == CallKind.early)=false:=by cases h:b.kind<;>simp_all<;>rfl
theorem Zp4(xW:nr=true->norace P b.fn=true){o:Oper}{next:Act->Hp->Prop}(bU:VX G)(hb:b.kind≠.early)(ho:aI[i]? = some o)(hw:Region.wanted o (yielded aI a.tmps)=true)(hd:∀c,o.op=.defer c->b.roundOf=none)
  (h:lK P nr o a next H) (hn:∀a H,next a H->Reach P G (on b a (.inRegion aI rest :: k)) cs H):Reach P G (on b a (.inRegion aI (i :: rest) :: k)) cs H:=by
 have kL:((on b a (.inRegion aI (i :: rest) :: k)).kind == CallKind.early)=false:=ZmP hb;have uL:Va P o=true->∀cs,mayWake P (bT (on b a (.inRegion aI (i :: rest) :: k)) cs)=true:=by
  intro NW cs;unfold Va at NW;simp only[mayWake,on,ho,qBa];split at NW
  ·rename_i h';simp only[h'];simpa[Frame.eval]using NW
  ·simp at NW
  ·rename_i c h1 h2 h';simp only[h']
  simp at NW
 have mA:∀v,(on b a (.inRegion aI (i :: rest) :: k)).finish v=on b (dD a o.dst v) (.inRegion aI rest :: k):=by intro v;rw[Lv,ho];rfl
 rcases h with h | h;case inr=>
  refine h G _ (λv=>on b (dD a o.dst v) (.inRegion aI rest :: k)) cs bU ⟨λmain cs w w' v es e1=>?_,.inr λmain cs w es e1=>?_,.inr λmain cs w w' f c aB es e1=>?_,uL,xW,.inr ⟨λv=>(mA v).symm,λmain cs w w' c bl sh es e1=>?_⟩⟩ λv H' hv=>hn _ _ hv
  ·rw[SP ho hw hd,<-mA];simp only[stepG.apply,e1,qAM,kL,iN,qAk,GStep.after,qAh]
  ·rw[SP ho hw hd];simp only[stepG.apply,e1,qAM,kL,iN,qAk,GStep.after,qAh];rfl
  ·rw[SP ho hw hd,<-mA];simp only[stepG.apply,e1,qAM,kL,iN,qAk,GStep.after,qAh];rw[bY (by simp)];simp only[qAh]
  ·rw[SP ho hw hd];simp only[stepG.apply,e1,qAM,kL,iN,qAk,GStep.after,qAh]
 refine .zS h ?_;intro n H0 h0;have hQ:∀{H'},(false=true\/Ku P o.dst a next n H')->Ku P o.dst a next n H':=λh=>h.resolve_left (by simp)
 have hg:=λmain w=>SP (P:=P) (b:=b) (k:=k) (cs:=cs) (w:=w) (rest:=rest) (main:=main) ho hw hd;cases n with
 | value v=>exact⟨_,_,λmain w w' es e1=>⟨_,by rw[hg];simp only[stepG.apply,e1,qAM,kL,iN,qAk,GStep.after,qAh];rfl,.inr rfl⟩,λH' e3=>by rw[mA];exact hn _ _ (hQ e3)⟩
 | skip=>exact⟨_,_,λmain w w' es e1=>⟨_,by rw[hg];simp only[stepG.apply,e1,qAM,kL,iN,qAk,GStep.after,qAh];rfl,.inr rfl⟩,λH' e3=>by rw[mA];exact hn _ _ (hQ e3)⟩
 | defer d=>
  refine⟨_,_,λmain w w' es e1=>⟨_,by rw[hg];simp only[stepG.apply,e1,qAM,kL,iN,qAk,GStep.after,qAh];rfl,.inr rfl⟩,λH' e3=>?_⟩;have:({ on b a (.inRegion aI (i :: rest) :: k)with defers:=d :: a.defers }:Frame).finish undef =
    on b (dD { a with defers:=d :: a.defers } o.dst undef) (.inRegion aI rest :: k):=by
   have:=Lv b { a with defers:=d :: a.defers } aI i rest k undef
   rw[ho]at this;exact this
  have h2:=hn _ _ (hQ e3);rw[<-this]at h2;exact h2
 | enter f args=>exact⟨_,_,λmain w w' es e1=>⟨_,by rw[hg];simp only[stepG.apply,e1,qAM,kL,iN,qAk,GStep.after,qAh];rfl,.inr rfl⟩,λH' e3=>hQ e3 G _ cs bU λv nA hv=>by rw[mA];exact hn _ _ hv⟩
 | round l f tmps assign body=>exact⟨_,_,λmain w w' es e1=>⟨_,by rw[hg];simp only[stepG.apply,e1,qAM,kL,iN,qAk,GStep.after,qAh];rfl,.inr rfl⟩,λH' e3=>hQ e3 G _ cs bU λv nA hv=>by rw[mA];exact hn _ _ hv⟩
 | _=>exact(hQ h0).elim
theorem ZhQ(h:((aI[i]?).map (Region.wanted · (yielded aI a.tmps))).getD false=false)
  (hn:Reach P G (on b (dD a ((aI[i]?).bind (·.dst)) undef) (.inRegion aI rest :: k)) cs H):Reach P G (on b a (.inRegion aI (i :: rest) :: k)) cs H:=by
 rw[<-Lv]at hn;refine .pure (λmain w=>?_) hn;have h':=h;simp only[on]at *;simp[stepG,stepG.exec,h']
def J9(aI:Array Oper):Bool:=aI.all λo=>match o.op with | .defer _=>false | _=>true
theorem ZhR(xW:nr=true->norace P b.fn=true)(bU:VX G)(hb:b.kind≠.early)(hd:b.roundOf=none\/J9 aI=true){R:Act->Hp->Prop}(hn:∀a H,R a H->Reach P G (on b a k) cs H) :
  ∀(l:List Nat) (a:Act) (H:Hp),tV P nr aI R l a H->Reach P G (on b a (.inRegion aI l :: k)) cs H:=by
 intro l;induction l with
 | nil=>exact λa H h=>.pure (λmain w=>by simp[stepG,stepG.exec,on]) (hn _ _ h)
 | cons i rest ih=>
  intro a H h;simp only[tV]at h;cases ho:aI[i]? with
  | none=>
   simp only[ho]at h;exact ZhQ (by simp[ho]) (by simpa[ho,dD]using ih a H h)
  | some o=>
   simp only[ho]at h;by_cases hw:Region.wanted o (yielded aI a.tmps)=true
   ·simp only[hw,qAM]at h;refine Zp4 xW bU hb ho hw ?_ h ih;intro c hc;rcases hd with hd | hd
    ·exact hd
    exfalso;have:=Array.all_eq_true.1 hd i (by rcases qAH i aI.size with h | h;exact h;simp[qBW h]at ho);have hoi:aI[i]'(by rcases qAH i aI.size with h | h;exact h;simp[qBW h]at ho)=o:=by have:=qAl.1 ho;exact this.2
    rw[hoi,hc]at this;simp at this
   simp only[hw]at h;exact ZhQ (by simp[ho,hw]) (by simpa[ho]using ih _ H h)
end aI
section regions
variable{P:bF}{rd:Rd}{Q:Ex->Act->Hp->Prop}{a:Act}{H:Hp}
theorem g8.region{aI:Array Oper}(hd:rd.wG=true\/J9 aI=true)(h:tV P rd.nr aI (Q .normal) (List.range aI.size) a H):g8 P rd (.region id aI false) Q a H:=by intro G b k cs bU hb hG;refine .pure (bW:=on b a (.inRegion aI (List.range aI.size) :: k)) (bJ:=cs) (λmain w=>by simp[stepG,stepG.exec,on]) ?_;exact ZhR hb.nr bU hb.kind (hd.imp hb.wG λh=>h) (R:=Q .normal) (λa H hq=>hG .normal a H hq) _ _ _ h
theorem g8.B9{aI:Array Oper}(hs:P.still H.gh=false)(hd:rd.wG=true\/J9 aI=true)(h:∀t,tV P rd.nr aI (Q .normal) (Region.schedule (P.follows .mixedOrders) aI t) a H):g8 P rd (.region id aI true) Q a H:=by
 intro G b k cs bU hb hG;refine .zS (s:=choose (.order b.fn id)) (Q:=λt _ H'=>H'=H) ?_ ?_
 ·simp only[choose,cD,Question.forced,iN,qAk];exact⟨hs,λ_=>trivial⟩
 intro t _ _;refine⟨on b a (.inRegion aI (Region.schedule (P.follows .mixedOrders) aI t) :: k),cs,λmain w w' es e1=>⟨#[],?_,.inl rfl⟩,λH' e3=>?_⟩
 ·have e6:(choose (.order b.fn id)).run P w=.ok t w':=by have:=qAC Prod.fst e1;rw[Sem.runT_eq]at this;exact this
  simp[stepG,stepG.exec,on,e6]
 subst e3;exact ZhR hb.nr bU hb.kind (hd.imp hb.wG λh=>h) (R:=Q .normal) (λa H hq=>hG .normal a H hq) _ _ _ (h t)
end regions
theorem ZmG{P:bF}{b:Frame}{a:Act}{k:List Item}{cs:List Frame}(hr:b.roundOf=none) :
  stepG P main (bT (on b a (.code .ret :: k)) cs) w=.go (bT { on b a (.code .ret :: k)with mode:=.returning } cs) w:=by
 simp[stepG,stepG.exec,on,hr]
theorem ZmH{P:bF}{b:Frame}{a:Act}{cs:List Frame}(hr:b.roundOf=none) :
  stepG P main (bT (on b a []) cs) w=.go (bT { on b a []with mode:=.returning } cs) w:=by
 simp[stepG,stepG.exec,on,hr]
