import Derived.KernelRfl
import Derived.Control
set_option linter.all false
abbrev aT:=@Option.some.injEq
abbrev bY:=@if_neg
abbrev dO:=@Bool.false_eq_true
abbrev iF:=@List.mem_singleton
abbrev iN:=@Option.some.inj
abbrev iO:=@List.take_succ_eq_append_getElem
abbrev oR:=@Bool.and_eq_true
abbrev AT:=@Nat.le_refl
abbrev BY:=@if_pos
abbrev DO:=@List.mem_cons
abbrev IF:=@Classical.byContradiction
abbrev IN:=@List.length_append
abbrev qAa:=@List.getElem_mem
abbrev qAb:=@List.mem_toArray
abbrev qAc:=@List.mem_cons_of_mem
abbrev qAd:=@Array.all_eq_true_iff_forall_mem
abbrev qAe:=@List.length_map
abbrev qAf:=@if_false
abbrev qAg:=@Array.append_empty
abbrev qAh:=@List.take_length
abbrev qAi:=@List.mem_append
abbrev qAj:=@List.mem_map
abbrev qAk:=@Option.map_eq_some_iff
abbrev qAl:=@List.getD_eq_getElem?_getD
abbrev qAm:=@Ne.symm
abbrev qAn:=@List.nil_append
abbrev qAo:=@List.eq_nil_of_length_eq_zero
abbrev qAp:=@List.all_eq_true
abbrev qAq:=@List.mem_filter
abbrev qAr:=@Array.getElem?_eq_some_iff
abbrev qAs:=@List.mem_cons_self
abbrev qAt:=@List.getElem?_toArray
abbrev qAu:=@Array.mem_toList_iff
abbrev qAv:=@decide_eq_true_eq
abbrev qAw:=@List.append_nil
abbrev qAx:=@List.getElem?_eq_getElem
abbrev qAy:=@decide_eq_false
abbrev qAz:=@List.take_of_length_le
abbrev qAA:=@Int.le_refl
abbrev qAB:=@List.getElem?_append_left
abbrev qAC:=@Array.mem_append
abbrev qAD:=@List.cons.injEq
abbrev qAE:=@Nat.le_trans
abbrev qAF:=@List.getElem?_eq_none
abbrev qAG:=@Nat.lt_of_lt_of_le
abbrev qAH:=@if_true
abbrev qAI:=@List.length_cons
abbrev qAJ:=@List.flatMap_cons
abbrev qAK:=@Bool.not_eq_true'
abbrev qAL:=@Prod.mk.injEq
abbrev qAM:=@Nat.lt_or_ge
abbrev qAN:=@Nat.eq_zero_or_pos
abbrev qAO:=@Array.getElem?_eq_getElem
abbrev qAP:=@Nat.zero_add
abbrev qAQ:=@congrArg
abbrev qAR:=@List.length_set
abbrev qAS:=@List.append_assoc
abbrev qAT:=@Array.getElem?_setIfInBounds_ne
abbrev qAU:=@List.mem_range
abbrev qAV:=@Nat.eq_of_beq_eq_true
abbrev qAW:=@List.getElem?_cons_succ
abbrev qAX:=@List.length_singleton
abbrev qAY:=@List.getElem?_append_right
abbrev qAZ:=@Nat.pow_le_pow_right
abbrev qBa:=@List.pairwise_cons
abbrev qBb:=@List.drop_eq_nil_of_le
abbrev qBc:=@List.length_filter_le
abbrev qBd:=@Int.toNat_natCast
abbrev qBe:=@Array.mk.injEq
abbrev qBf:=@decide_eq_false_iff_not
abbrev qBg:=@Nat.zero_le
abbrev qBh:=@List.map_cons
abbrev qBi:=@List.map_append
abbrev qBj:=@Array.getD_eq_getD_getElem?
abbrev qBk:=@List.cons_append
abbrev qBl:=@Option.map_some
abbrev qBm:=@Bool.or_eq_true
abbrev qBn:=@Nat.lt_of_le_of_lt
abbrev qBo:=@List.getElem?_take
abbrev qBp:=@List.getElem?_drop
abbrev qBq:=@List.map_toArray
abbrev qBr:=@List.getElem?_cons_zero
abbrev qBs:=@List.forIn_cons
abbrev qBt:=@Int.tdiv_eq_ediv_of_nonneg
abbrev qBu:=@List.length_take
abbrev qBv:=@List.filter_cons
abbrev qBw:=@implies_true
abbrev qBx:=@List.forIn_toArray
abbrev qBy:=@Array.getElem?_modify
abbrev qBz:=@Nat.mul_le_mul_right
abbrev qBA:=@List.foldl_append
abbrev qBB:=@Nat.add_zero
abbrev qBC:=@List.eq_nil_iff_forall_not_mem
abbrev qBD:=@List.length_eq_zero_iff
abbrev qBE:=@List.take_append_of_le_length
abbrev qBF:=@List.not_mem_nil
abbrev qBG:=@Array.getElem?_setIfInBounds
abbrev qBH:=@Nat.testBit_two_pow_mul_add
abbrev qBI:=@Nat.le_of_ble_eq_true
abbrev qBJ:=@List.map_nil
abbrev qBK:=@List.length_range
abbrev qBL:=@Int.fdiv_eq_ediv_of_nonneg
abbrev qBM:=@Array.toArray_toList
abbrev qBN:=@Nat.mul_le_mul
abbrev qBO:=@Bool.false_and
abbrev qBP:=@and_true
abbrev qBQ:=@List.getElem_map
abbrev qBR:=@List.any_eq_true
abbrev qBS:=@List.filter_eq_self
abbrev qBT:=@Option.isSome_iff_exists
abbrev qBU:=@Nat.succ_mul
abbrev qBV:=@Nat.sub_zero
abbrev qBW:=@Nat.testBit_and
abbrev qBX:=@Nat.add_sub_cancel
abbrev qBY:=@List.nodup_cons
abbrev qBZ:=@List.foldl_cons
abbrev qCa:=@List.filter_append
abbrev qCb:=@Bool.eq_iff_iff
abbrev qCc:=@Array.getElem?_map
abbrev qCd:=@Nat.testBit_lt_two_pow
abbrev qCe:=@List.filter_congr
abbrev qCf:=@Array.mem_iff_getElem
abbrev qCg:=@List.mem_flatMap
abbrev qCh:=@BitVec.toNat_and
abbrev qCi:=@Nat.eq_of_testBit_eq
abbrev qCj:=@List.mem_append_left
abbrev qCk:=@List.contains_eq_mem
abbrev qCl:=@Nat.add_assoc
abbrev qCm:=@Iff.rfl
abbrev qCn:=@Array.length_toList
abbrev qCo:=@Array.getElem?_push
abbrev qCp:=@BitVec.toNat_ofInt
abbrev qCq:=@Array.foldl_toList
abbrev qCr:=@Option.isNone_iff_eq_none
abbrev qCs:=@List.nodup_nil
abbrev qCt:=@Bool.not_false
abbrev qCu:=@Nat.not_lt
abbrev qCv:=@List.pairwise_map
abbrev qCw:=@List.getElem?_map
abbrev qCx:=@Option.bind_eq_some_iff
abbrev qCy:=@Nat.testBit_mod_two_pow
abbrev qCz:=@Nat.mul_one
abbrev qCA:=@List.pairwise_singleton
abbrev qCB:=@List.lookup_eq_some_iff
abbrev qCC:=@Nat.lt_succ_self
abbrev qCD:=@List.length_drop
abbrev qCE:=@List.drop_length
abbrev qCF:=@List.filter_eq_nil_iff
abbrev qCG:=@Array.getElem?_eq_none
abbrev qCH:=@Nat.le_of_eq
abbrev qCI:=@List.all_append
abbrev qCJ:=@Int.natCast_mul
abbrev qCK:=@Int.le_trans
abbrev qCL:=@Std.Legacy.Range.forIn_eq_forIn_range'
abbrev qCM:=@Nat.testBit_or
abbrev qCN:=@Nat.sub_lt_sub_left
abbrev qCO:=@Nat.add_mul
abbrev qCP:=@List.take_set_of_le
abbrev qCQ:=@List.map_congr_left
abbrev qCR:=@List.length_pos_iff
abbrev qCS:=@or_false
abbrev qCT:=@Prod.lexAccessible
abbrev qCU:=@Bool.not_true
abbrev qCV:=@Array.append_assoc
abbrev qCW:=@Nat.mod_lt
abbrev qCX:=@List.size_toArray
abbrev qCY:=@List.nodup_append
abbrev qCZ:=@List.ext_getElem?
abbrev qDa:=@Nat.sub_self
abbrev qDb:=@Nat.pow_succ
abbrev qDc:=@Nat.beq_refl
abbrev qDd:=@decide_eq_decide
abbrev qDe:=@List.ext_getElem
abbrev qDf:=@List.drop_append
abbrev qDg:=@Bool.not_eq_true
abbrev qDh:=@List.dropLast_concat_getLast
def O{p:Prop}(h:p:=by omega):p:=h
def U{p:Prop}(h:p:=by kernel_rfl):p:=h
def V{p:Prop}(h:p:=by repeat (first | exact trivial | refine⟨rfl,?_⟩)):p:=h
def Go.LL.cZ{n j:Nat}(h:j<n):n-(j+1)<n-j:=qCN h (qCC j)
namespace Go.LL
section
variable{r b n:Nat}{α:Type}{w:World}{a:Addr}
structure Hp where
 mem:Nat->Option (Obj×Bool)
 gh:List Nat
instance:CoeFun Hp (λ_=>Nat->Option (Obj×Bool)):=⟨Hp.mem⟩
def Hp.ext'{H F:Hp}(h:∀b,H b=F b)(g:H.gh=F.gh):H=F:=by
 cases H;cases F
 obtain rfl:=g;congr;exact funext h
def Hp.nil:Hp:=⟨λ_=>none,[]⟩
def Hp.ins(H:Hp)(r:Nat)(o:Obj):Hp:=⟨λb=>if b=r then some (o,true)else H b,H.gh⟩
theorem Hp.dB(H:Hp)(r:Nat)(o:Obj)(b:Nat):H.ins r o b=if b=r then some (o,true)else H b:=rfl
def Hp.le(H:Hp)(w:World):Prop:=∀b o p,H b=some (o,p)->w.heap[b]? = some o
def Hp.aD(H:Hp)(r:Nat)(o:Obj):H.ins r o r=some (o,true):=by simp[Hp.dB]
def Hp.aE(H:Hp)(o:Obj)(h:b≠r):H.ins r o b=H b:=by simp[Hp.dB,h]
def Obj.fF(o:Obj)(i:Nat):Bool:=
 match o with
 | .cells _ _ (d,hi)=>d<=i && i<hi
 | _=>false
def Obj.jE(o:Obj):Option (TypeId×Nat):=
 match o with
 | .cells c e _=>some (e,c.size)
 | _=>none
def Obj.hQ:Obj->Bool
 | .cells ..=>true
 | _=>false
def Obj.put(o:Obj)(i:Nat)(v:Value):Obj:=
 match o with
 | .cells c e f=>.cells (c.setIfInBounds i v) e f
 | o=>o
def Obj.iG(o:Obj)(i n:Nat):Obj:=
 match o with
 | .cells c e (d,hi)=>.cells c e (if d == hi then(i,i+n)else(min d i,max hi (i+n)))
 | o=>o
def Obj.fT(o:Obj)(i:Nat):Option Value:=
 match o with
 | .cells c _ _=>c[i]?
 | _=>none
def Value.bS:Value->Bool
 | .agg _ | .tuple _=>false
 | _=>true
structure PQ extends Program where
 still:List Nat->Bool
 stillNil:still []=false->∀g,still g=false
instance:Coe PQ Program:=⟨PQ.toProgram⟩
def bD(P:PQ){α:Type}:Sem α->(α->Bool->Hp->Prop)->Bool->Hp->Prop
 | .pure a,Q,g,H=>Q a g H
 | .load m a k,Q,g,H=>∃o p v,(P.still H.gh=false/\H a.block=some (o,p))/\m=.plain/\a.spot=none/\Obj.fT o a.off=some v/\bD P (k v) Q g H
 | .store m a v k,Q,g,H=>∃o,(P.still H.gh=false/\H a.block=some (o,true))/\m=.plain/\a.spot=none/\Value.bS v=true/\(Obj.fT o a.off).isSome=true/\Obj.fF o a.off=false /\
   bD P k Q g (H.ins a.block (Obj.put o a.off v))
 | .new o k,Q,g,H=>P.still H.gh=false/\∀r,H r=none->bD P (k r) Q g (H.ins r o)
 | .shape r k,Q,g,H=>∃o p,(P.still H.gh=false/\H r=some (o,p))/\bD P (k (Obj.jE o)) Q g H
 | .freeze a n k,Q,g,H=>(n=0/\bD P k Q g H)\/∃o,(P.still H.gh=false/\H a.block=some (o,true))/\n≠0/\bD P k Q g (H.ins a.block (Obj.iG o a.off n))
 | .frozen a k,Q,g,H=>∃o p,(P.still H.gh=false/\H a.block=some (o,p))/\bD P (k (Obj.fF o a.off)) Q g H
 | .getObj r k,Q,g,H=>∃o p,(P.still H.gh=false/\H r=some (o,p))/\Obj.hQ o=false/\o.isChan=false/\bD P (k o) Q g H
 | .setObj r o k,Q,g,H=>∃d,(P.still H.gh=false/\H r=some (d,true))/\Obj.hQ d=false/\d.isChan=false/\o.isChan=false/\bD P k Q g (H.ins r o)
 | .choose q k,Q,g,H=>if q.forced then bD P (k 0) Q g H else P.still H.gh=false/\∀t,bD P (k (q.cut t)) Q g H
 | .sys _ _,_,_,_=>False
 | .program k,Q,g,H=>bD P (k P.toProgram) Q g H
 | .mark m k,Q,g,H=>((∃f,m=.extern f)\/(m=.noRoom/\P.still H.gh=false))/\bD P k Q g H
 | .halt _,_,_,_=>False
def Vv{P:PQ}{s:Sem α}{Q Q':α->Bool->Hp->Prop}(D:∀a g H,Q a g H->Q' a g H):∀{g:Bool} {H:Hp},bD P s Q g H->bD P s Q' g H:=by
 induction s with
 | pure a=>exact λh=>D _ _ _ h
 | load m a k ih=>exact λ⟨o,p,v,d,e,j,u,z⟩=>⟨o,p,v,d,e,j,u,ih v z⟩
 | store m a v k ih=>exact λ⟨o,d,e,j,u,z,B,C⟩=>⟨o,d,e,j,u,z,B,ih C⟩
 | new o k ih=>exact λh=>⟨h.1,λr E=>ih r (h.2 r E)⟩
 | shape r k ih=>exact λ⟨o,p,d,e⟩=>⟨o,p,d,ih _ e⟩
 | freeze a n k ih=>exact λh=>h.imp (λ⟨d,e⟩=>⟨d,ih e⟩) (λ⟨o,d,e,j⟩=>⟨o,d,e,ih j⟩)
 | frozen a k ih=>exact λ⟨o,p,d,e⟩=>⟨o,p,d,ih _ e⟩
 | getObj r k ih=>exact λ⟨o,p,d,e,j,u⟩=>⟨o,p,d,e,j,ih _ u⟩
 | setObj r o k ih=>exact λ⟨F,d,e,j,u,z⟩=>⟨F,d,e,j,u,ih z⟩
 | choose q k ih=>
  intro g H h;by_cases A:q.forced=true
  ·simp only[bD,A,qAH]at h ⊢;exact ih _ h
  simp only[bD,A]at h ⊢;exact⟨h.1,λt=>ih _ (h.2 t)⟩
 | sys c k ih=>exact λh=>h
 | program k ih=>exact λh=>ih _ h
 | mark m k ih=>exact λ⟨d,e⟩=>⟨d,ih e⟩
 | halt h=>exact λh=>h
structure Fr(H:Hp)(w:World)(H':Hp)(w':World):Prop where
 os:w'.os=w.os
 tape:w'.tape=w.tape
 out:w'.output=w.output
 drawn:w.drawn<=w'.drawn
 size:w.heap.size<=w'.heap.size
 keep:∀b,b<w.heap.size->(∀o,H b≠some (o,true))->w'.heap[b]? = w.heap[b]?
 le:H'.le w'
 new:∀b,H b=none->H' b≠none->w.heap.size<=b
 ro:∀b o,H b=some (o,false)->H' b=some (o,false)
 rw:∀b o,H b=some (o,true)->∃o',H' b=some (o',true)
 gh:H'.gh=H.gh
def Hp.le.lt{H:Hp}(h:H.le w){x:Obj×Bool}(hb:H b=some x):b<w.heap.size:=by have:=h b x.1 x.2 hb;exact(qAr.1 this).1
theorem Fr.refl{H:Hp}(h:H.le w):Fr H w H w where
 os:=rfl
 tape:=rfl
 out:=rfl
 drawn:=AT _
 size:=AT _
 keep:=λ_ _ _=>rfl
 le:=h
 new:=λ_ d e=>absurd d e
 ro:=λ_ _ h=>h
 rw:=λ_ o h=>⟨o,h⟩
 gh:=rfl
def Fr.trans{g j q:Hp}{u v z:World}(a:Fr g u j v)(b:Fr j v q z):Fr g u q z where
 os:=b.os.trans a.os
 tape:=b.tape.trans a.tape
 out:=b.out.trans a.out
 drawn:=qAE a.drawn b.drawn
 size:=qAE a.size b.size
 keep:=λx m t=>by
  rw[b.keep x (qAG m a.size) ?_,a.keep x m t];intro o d;cases e:g x with
  | none=>exact absurd m (qCu.2 (a.new x e (by rw[d];simp)))
  | some y=>
   obtain⟨D,p⟩:=y;cases p with
   | true=>exact t _ e
   | false=>
    have:=a.ro x D e;rw[this]at d;simp at d
 le:=b.le
 new:=λx e B=>by
  cases d:j x with
  | none=>exact qAE a.size (b.new x d B)
  | some y=>exact a.new x e (by rw[d];simp)
 ro:=λx o h=>b.ro x o (a.ro x o h)
 rw:=λx o h=>by obtain⟨C,A⟩:=a.rw x o h;exact b.rw x C A
 gh:=b.gh.trans a.gh
def EvL(H:Hp)(w:World)(n:Nat)(e:Event):Prop:=
 match e.loc with
 | .cell a=>e.sync=false/\((∃o p,H a.block=some (o,p)/\(e.write=true->p=true))\/w.heap.size<=a.block/\a.block<n)
 | .obj r=>e.sync=false/\((∃o p,H r=some (o,p)/\(e.write=true->p=true))\/w.heap.size<=r/\r<n)
 | .mark (.extern _)=>True
 | .mark .noRoom=>True
 | _=>False
def EvL.nJ{H g:Hp}{w':World}(f:Fr H w g w')(t:w'.heap.size<=n){e:Event}(h:EvL g w' n e):EvL H w n e:=by
 have key:∀r,((∃o p,g r=some (o,p)/\(e.write=true->p=true))\/w'.heap.size<=r/\r<n)->((∃o p,H r=some (o,p)/\(e.write=true->p=true))\/w.heap.size<=r/\r<n):=by
  rintro r (⟨o,p,d,q⟩ | h)
  ·cases hr:H r with
   | none=>exact .inr ⟨f.new r hr (by rw[d];simp),qAG (f.le.lt d) t⟩
   | some y=>
    obtain⟨j,m⟩:=y;refine .inl ⟨j,m,rfl,λu=>?_⟩;cases m with
    | true=>rfl
    | false=>
     have:=f.ro r j hr;rw[this]at d;simp at d;have:=q u;rw[d.2]at this;exact this
  exact .inr ⟨qAE f.size h.1,h.2⟩
 unfold EvL at h ⊢;split at h
 ·exact⟨h.1,key _ h.2⟩
 ·exact⟨h.1,key _ h.2⟩
 ·trivial
 ·trivial
 trivial
def gR{o:Obj}{v:Value}(h:w.heap[a.block]? = some o)(e:a.spot=none)(d:Obj.fT o a.off=some v):w.cell? a=some v:=by
 unfold World.cell?;cases o<;>simp[Obj.fT]at d
 simp[h,e,d]
def iE{o:Obj}(h:w.heap[a.block]? = some o):w.frozen? a=Obj.fF o a.off:=by unfold World.frozen? Obj.fF;rw[h];cases o<;>simp
def Hp.le.eE{H:Hp}(h:H.le w)(o:Obj):(H.ins w.heap.size o).le { w with heap:=w.heap.push o }:=by
 intro b e p hb;simp only[Hp.dB]at hb;split at hb
 ·subst b;simp at hb;simp[hb.1]
 have:=h b e p hb;have d:=(qAr.1 this).1;simp[qCo,this];omega
theorem Fr.alloc{H:Hp}(h:H.le w)(o:Obj):Fr H w (H.ins w.heap.size o) { w with heap:=w.heap.push o } where
 os:=rfl
 tape:=rfl
 out:=rfl
 drawn:=AT _
 size:=by simp
 keep:=λb hb _=>by simp[qCo];omega
 le:=h.eE o
 new:=λb g d=>by
  simp only[Hp.dB]at d;split at d
  ·omega
  exact absurd g d
 ro:=λb e hb=>by have:=h.lt hb;rw[Hp.aE _ _ O];exact hb
 rw:=λb e hb=>by have:=h.lt hb;exact⟨e,by rw[Hp.aE _ _ O];exact hb⟩
 gh:=rfl
theorem Fr.J6{H:Hp}(h:H.le w)(d:Nat)(j:w.drawn<=d):Fr H w H { w with drawn:=d } where
 os:=rfl
 tape:=rfl
 out:=rfl
 drawn:=j
 size:=AT _
 keep:=λ_ _ _=>rfl
 le:=h
 new:=λ_ e g=>absurd e g
 ro:=λ_ _ h=>h
 rw:=λ_ o h=>⟨o,h⟩
 gh:=rfl
theorem Fr.write{H:Hp}(h:H.le w){o A:Obj}(hb:H b=some (o,true)){j:Array Obj}(z:j.size=w.heap.size)(u:j[b]? = some A)
  (g:∀c,c≠b->j[c]? = w.heap[c]?):Fr H w (H.ins b A) { w with heap:=j } where
 os:=rfl
 tape:=rfl
 out:=rfl
 drawn:=AT _
 size:=by simp[z]
 keep:=λc _ B=>g c (by rintro rfl;exact B o hb)
 le:=by
  intro c m p d;simp only[Hp.dB]at d;split at d
  ·subst c;simp at d;rw[<-d.1];exact u
  rename_i v;exact(g c v).trans (h c m p d)
 new:=λc q t=>by
  simp only[Hp.dB]at t;split at t
  ·subst c;rw[hb]at q;simp at q
  exact absurd q t
 ro:=λc m d=>by rw[Hp.aE _ _ (by rintro rfl;rw[hb]at d;simp at d)];exact d
 rw:=λc m d=>by
  by_cases e:c=b
  ·subst e;exact⟨A,by simp[Hp.dB]⟩
  exact⟨m,by rw[Hp.aE _ _ e];exact d⟩
 gh:=rfl
def Fr.setCell{H:Hp}(h:H.le w){o:Obj}(e:a.spot=none)(hb:H a.block=some (o,true))(v:Value):Fr H w (H.ins a.block (Obj.put o a.off v)) (w.setCell a v):=by
 have g:=h _ _ _ hb;refine Fr.write h hb (by simp) ?_ (λc d=>?_)
 ·simp[qBy,g,Obj.put,e];cases o<;>rfl
 simp[qBy,qAm d]
def Fr.freeze{H:Hp}(h:H.le w){o:Obj}(e:n≠0)(hb:H a.block=some (o,true)):Fr H w (H.ins a.block (Obj.iG o a.off n)) (w.freeze a n):=by
 have g:=h _ _ _ hb;unfold World.freeze;rw[bY e];refine Fr.write h hb (by simp) ?_ (λc d=>?_)
 ·simp[qBy,g,Obj.iG];cases o<;>rfl
 simp[qBy,qAm d]
def Fr.setObj{H:Hp}(h:H.le w){o:Obj}(hb:H r=some (o,true))(e:Obj):Fr H w (H.ins r e) { w with heap:=w.heap.setIfInBounds r e }:=by
 have j:=h _ _ _ hb;have d:=(qAr.1 j).1;refine Fr.write h hb (by simp) ?_ (λc g=>?_)
 ·simp[d]
 simp[qAm g]
theorem Pp{P:PQ}{s:Sem α}{Q:α->Bool->Hp->Prop}:∀{g:Bool} {H:Hp} {w:World} (es:Array Event),bD P s Q g H->H.le w ->
  ∃a w' A d B,s.runT P w es=(.ok a w',es++d)/\Fr H w A w'/\(Q a B A/\(B=true->g=true))/\∀e∈d,EvL H w w'.heap.size e:=by
 induction s with
 | pure a=>exact λ{g H w} es h j=>⟨a,w,H,#[],g,by simp[Sem.runT],.refl j,⟨h,id⟩,by simp⟩
 | load m a k ih=>
  rintro g H w es ⟨o,p,v,⟨K,I⟩,rfl,M,N,R⟩ j;obtain⟨x,w',A,d,B,C,t,⟨D,F⟩,E⟩:=ih v (es.push ⟨.cell a,false,Mode.plain == .atomic⟩) R j;refine⟨x,w',A,#[⟨.cell a,false,Mode.plain == .atomic⟩]++d,B,?_,t,⟨D,F⟩,?_⟩
  ·simp only[Sem.runT,gR (j _ _ _ I) M N];rw[C];simp
  intro e z;simp only[qAC,qAb,iF]at z;rcases z with rfl | z
  ·exact⟨rfl,.inl ⟨o,p,I,by simp⟩⟩
  exact E e z
 | store m a v k ih=>
  rintro g H w es ⟨o,⟨K,I⟩,rfl,M,N,R,V,W⟩ j;obtain⟨u,hu⟩:=qBT.1 R;have f:=Fr.setCell j M I v;obtain⟨x,w',A,d,B,C,t,⟨D,F⟩,E⟩:=ih (es.push ⟨.cell a,true,Mode.plain == .atomic⟩) W f.le;refine⟨x,w',A,#[⟨.cell a,true,Mode.plain == .atomic⟩]++d,B,?_,f.trans t,⟨D,F⟩,?_⟩
  ·have X:=gR (j _ _ _ I) M hu;have Y:=(iE (a:=a) (j _ _ _ I)).trans V;cases v<;>simp[Value.bS]at N<;>(simp only[Sem.runT,X,Y,dO,qAf];rw[C];simp)
  intro e z;simp only[qAC,qAb,iF]at z;rcases z with rfl | z
  ·exact⟨rfl,.inl ⟨o,true,I,by simp⟩⟩
  exact(E e z).nJ f t.size
 | new o k ih=>
  rintro g H w es h j;have hn:H w.heap.size=none:=by
   cases Z:H w.heap.size with
   | none=>rfl
   | some y=>exact absurd (j.lt Z) O
  have f:=Fr.alloc j o;obtain⟨x,w',A,d,B,C,t,⟨D,F⟩,E⟩:=ih _ es (h.2 _ hn) f.le;exact⟨x,w',A,d,B,by simp only[Sem.runT];exact C,f.trans t,⟨D,F⟩,λe z=>(E e z).nJ f t.size⟩
 | shape r k ih=>
  rintro g H w es ⟨o,p,⟨K,I⟩,J⟩ j;have:w.shape? r=Obj.jE o:=by unfold World.shape? Obj.jE;rw[j _ _ _ I];cases o<;>rfl
  obtain⟨x,w',A,d,B,C,t,⟨D,F⟩,E⟩:=ih _ es J j;exact⟨x,w',A,d,B,by simp only[Sem.runT,this];exact C,t,⟨D,F⟩,E⟩
 | freeze a n k ih=>
  rintro g H w es h j;rcases h with⟨rfl,J⟩ | ⟨o,⟨K,I⟩,J,M⟩
  ·obtain⟨x,w',A,d,B,C,t,⟨D,F⟩,E⟩:=ih es J j;exact⟨x,w',A,d,B,by simp only[Sem.runT,World.freeze,qAH];exact C,t,⟨D,F⟩,E⟩
  have f:=Fr.freeze j J I;obtain⟨x,w',A,d,B,C,t,⟨D,F⟩,E⟩:=ih es M f.le;exact⟨x,w',A,d,B,by simp only[Sem.runT];exact C,f.trans t,⟨D,F⟩,λe z=>(E e z).nJ f t.size⟩
 | frozen a k ih=>
  rintro g H w es ⟨o,p,⟨K,I⟩,J⟩ j;obtain⟨x,w',A,d,B,C,t,⟨D,F⟩,E⟩:=ih _ es J j;exact⟨x,w',A,d,B,by simp only[Sem.runT,iE (a:=a) (j _ _ _ I)];exact C,t,⟨D,F⟩,E⟩
 | getObj r k ih=>
  rintro g H w es ⟨o,p,⟨K,I⟩,J,M,N⟩ j;obtain⟨x,w',A,d,B,C,t,⟨D,F⟩,E⟩:=ih o (es.push ⟨.obj r,false,o.isChan⟩) N j;refine⟨x,w',A,#[⟨.obj r,false,o.isChan⟩]++d,B,?_,t,⟨D,F⟩,?_⟩
  ·have T:=j _ _ _ I;simp only[Sem.runT,T];cases o<;>simp[Obj.hQ]at J<;>(dsimp only;rw[C];simp)
  intro e z;simp only[qAC,qAb,iF]at z;rcases z with rfl | z
  ·exact⟨M,.inl ⟨o,p,I,by simp⟩⟩
  exact E e z
 | setObj r o k ih=>
  rintro g H w es ⟨U,⟨K,I⟩,J,M,N,R⟩ j;have f:=Fr.setObj j I o;obtain⟨x,w',A,d,B,C,t,⟨D,F⟩,E⟩:=ih (es.push ⟨.obj r,true,o.isChan⟩) R f.le;refine⟨x,w',A,#[⟨.obj r,true,o.isChan⟩]++d,B,?_,f.trans t,⟨D,F⟩,?_⟩
  ·have T:=j _ _ _ I;simp only[Sem.runT,T];cases U<;>simp[Obj.hQ]at J<;>(dsimp only;rw[C];simp)
  intro e z;simp only[qAC,qAb,iF]at z;rcases z with rfl | z
  ·exact⟨N,.inl ⟨U,true,I,by simp⟩⟩
  exact(E e z).nJ f t.size
 | choose q k ih=>
  rintro g H w es h j;simp only[bD]at h;split at h
  ·rename_i S;obtain⟨x,w',A,d,B,C,t,⟨D,F⟩,E⟩:=ih _ es h j;exact⟨x,w',A,d,B,by simp only[Sem.runT,S,qAH];exact C,t,⟨D,F⟩,E⟩
  rename_i S;have f:=Fr.J6 j (w.drawn+1) O;obtain⟨x,w',A,d,B,C,t,⟨D,F⟩,E⟩:=ih _ es (h.2 (w.tape w.drawn q)) f.le;exact⟨x,w',A,d,B,by simp only[Sem.runT,S];exact C,f.trans t,⟨D,F⟩,λe z=>(E e z).nJ f t.size⟩
 | sys c k ih=>exact λ_ h=>h.elim
 | program k ih=>
  rintro g H w es h j;obtain⟨x,w',A,d,B,C,t,⟨D,F⟩,E⟩:=ih _ es h j;exact⟨x,w',A,d,B,by simp only[Sem.runT];exact C,t,⟨D,F⟩,E⟩
 | mark m k ih=>
  rintro g H w es h j;obtain⟨I,J⟩:=h;obtain⟨x,w',A,d,B,C,t,⟨D,F⟩,E⟩:=ih (es.push ⟨.mark m,false,true⟩) J j;refine⟨x,w',A,#[⟨.mark m,false,true⟩]++d,B,?_,t,⟨D,F⟩,?_⟩
  ·simp only[Sem.runT];rw[C];simp
  intro e z;simp only[qAC,qAb,iF]at z;rcases z with rfl | z
  ·rcases I with⟨f,rfl⟩ | ⟨rfl,_⟩<;>trivial
  exact E e z
 | halt h=>exact λ_ h=>h.elim
def Zo2{P:PQ}{s:Sem α}{Q:α->Bool->Hp->Prop}:∀{g:Bool} {H:Hp},P.still H.gh=true->bD P s Q g H ->
  ∃a j,Q a g H/\(∀(w:World) (es:Array Event),s.runT P w es=(.ok a w,es++j))/\∀e∈j,∃f,e=⟨.mark (.extern f),false,true⟩:=by
 have u:∀{b:Bool} {p:Prop},b=true->b=false->p:=by intro b p t D;rw[t]at D;simp at D
 induction s with
 | pure a=>exact λd h=>⟨a,#[],h,λw es=>by simp[Sem.runT],by simp⟩
 | load m a k ih=>exact λd ⟨o,p,v,t,_⟩=>u d t.1
 | store m a v k ih=>exact λd ⟨o,t,_⟩=>u d t.1
 | new o k ih=>exact λd h=>u d h.1
 | shape r k ih=>exact λd ⟨o,p,t,_⟩=>u d t.1
 | freeze a n k ih=>
  rintro g H d (⟨rfl,h⟩ | ⟨o,t,_⟩)
  ·obtain⟨x,j,z,A,B⟩:=ih d h;exact⟨x,j,z,λw es=>by simp only[Sem.runT,World.freeze,qAH];exact A w es,B⟩
  exact u d t.1
 | frozen a k ih=>exact λd ⟨o,p,t,_⟩=>u d t.1
 | getObj r k ih=>exact λd ⟨o,p,t,_⟩=>u d t.1
 | setObj r o k ih=>exact λd ⟨F,t,_⟩=>u d t.1
 | choose q k ih=>
  intro g H d h;simp only[bD]at h;split at h
  ·rename_i E;obtain⟨x,j,z,A,B⟩:=ih _ d h;exact⟨x,j,z,λw es=>by simp only[Sem.runT,E,qAH];exact A w es,B⟩
  exact u d h.1
 | sys c k ih=>exact λ_ h=>h.elim
 | program k ih=>
  intro g H d h;obtain⟨x,j,z,A,B⟩:=ih _ d h;exact⟨x,j,z,λw es=>by simp only[Sem.runT];exact A w es,B⟩
 | mark m k ih=>
  rintro g H d ⟨t,h⟩;obtain⟨f,rfl⟩:=t.resolve_right (λh=>u d h.2);obtain⟨x,j,z,A,B⟩:=ih d h;refine⟨x,#[⟨.mark (.extern f),false,true⟩]++j,z,λw es=>by simp only[Sem.runT];rw[A];simp,?_⟩;intro e C;simp only[qAC,qAb,iF]at C;rcases C with rfl | C
  ·exact⟨f,rfl⟩
  exact B e C
 | halt h=>exact λ_ h=>h.elim
end
section
variable{b l id:Nat}{w w':World}{x c y:Code}{k:List Item}{f:FuncId}{s:Sem Next}{wk nr:Bool}
def M6(P:Program)(fn:FuncId)(es:Array Event):∀e∈seen P fn es,e∈es:=by
 intro e d;dsimp only[seen]at d;rw[<-qCq]at d;have key:∀(l:List Event) (x:Bool×Array Event),e∈(l.foldl (λx e=>match e.loc with
   | .mark (.extern f)=>((P.funcs[f]?).any (·.norace),x.2)
   | _=>(x.1,if(x.1 && !e.sync)=true then x.2 else x.2.push e)) x).2->e∈x.2\/e∈l:=by
  intro l
  induction l with
  | nil=>exact λx h=>.inl h
  | cons y l ih=>
   intro x h;simp only[qBZ]at h;rcases ih _ h with h | h
   ·split at h
    ·exact .inl h
    dsimp only at h;split at h
    ·exact .inl h
    rcases Array.mem_push.1 h with h | h
    ·exact .inl h
    exact .inr (by rw[h];simp)
   exact .inr (qAc _ h)
 rcases key es.toList _ d with h | h
 ·simp at h
 exact qAu.1 h
abbrev bO(fr:Frame)(cs:List Frame):Goroutine:={ frame:=fr,callers:=cs,status:=.running,dying:=none }
def jA(P:PQ)(fr:Frame)(cs:List Frame)(H:Hp)(R:Frame->List Frame->Hp->Prop):Prop:=
 (∀(main:Bool) (w:World),H.le w ->
  ∃g d w' h es,stepG P main (bO fr cs) w=.go (bO g d) w' es/\Fr H w h w'/\R g d h/\∀e∈es,EvL H w w'.heap.size e) /\
 (P.still H.gh=true->∃g d,(∀(main:Bool) (w:World),stepG P main (bO fr cs) w=.go (bO g d) w)/\R g d H)
def jA.mono{P:PQ}{fr:Frame}{cs:List Frame}{H:Hp}{R j:Frame->List Frame->Hp->Prop}(h:jA P fr cs H R)(m:∀fr cs H,R fr cs H->j fr cs H):jA P fr cs H j:=
 ⟨λmain w q=>let⟨g,e,w',o,es,a,b,c,d⟩:=h.1 main w q;⟨g,e,w',o,es,a,b,m _ _ _ c,d⟩,λp=>let⟨g,e,a,b⟩:=h.2 p;⟨g,e,a,m _ _ _ b⟩⟩
structure Hp.Comp(H F:Hp):Prop where
 mem:∀b x y,H b=some x->F b=some y->x=y/\x.2=false
 gh:H.gh=[]\/F.gh=[]
instance {H F:Hp}:CoeFun (H.Comp F) (λ_=>∀b x y,H b=some x->F b=some y->x=y/\x.2=false):=⟨Hp.Comp.mem⟩
def Hp.join(H F:Hp):Hp:=⟨λb=>match H b with | some x=>some x | none=>F b,H.gh++F.gh⟩
theorem Hp.aQ(H F:Hp)(b:Nat):H.join F b=match H b with | some x=>some x | none=>F b:=rfl
theorem Hp.bI(H F:Hp):(H.join F).gh=H.gh++F.gh:=rfl
def Hp.aJ{H F:Hp}{x:Obj×Bool}(h:H b=some x):H.join F b=some x:=by simp[Hp.aQ,h]
def Hp.aP{H F:Hp}(d:H.Comp F){x:Obj×Bool}(h:F b=some x):H.join F b=some x:=by
 simp only[Hp.aQ];cases hh:H b with
 | none=>exact h
 | some y=>rw[(d b y x hh h).1]
def Hp.cI{H F:Hp}:H.join F b=none↔H b=none/\F b=none:=by simp only[Hp.aQ];cases hh:H b<;>simp
def Hp.le.left{H F:Hp}(h:(H.join F).le w):H.le w:=λb o p hb=>h b o p (Hp.aJ hb)
def Hp.le.right{H F:Hp}(d:H.Comp F)(h:(H.join F).le w):F.le w:=λb o p hb=>h b o p (Hp.aP d hb)
def Fr.comp{H F g:Hp}(j:H.Comp F)(q:F.le w)(f:Fr H w g w'):g.Comp F:=by
 refine⟨?_,by rw[f.gh];exact j.gh⟩;intro b x y d h;cases hh:H b with
 | none=>exact absurd (q.lt h) (qCu.2 (f.new b hh (by rw[d];simp)))
 | some z=>
  obtain⟨m,e⟩:=j b z y hh h;obtain⟨o,p⟩:=z;obtain rfl:p=false:=e;rw[f.ro b o hh]at d;simp at d;rw[<-d,m];exact⟨rfl,by rw[<-m]⟩
def Fr.join{H F d:Hp}(q:H.Comp F)(v:(H.join F).le w)(f:Fr H w d w'):Fr (H.join F) w (d.join F) w' where
 os:=f.os
 tape:=f.tape
 out:=f.out
 drawn:=f.drawn
 size:=f.size
 keep:=λb hb t=>f.keep b hb λo B=>t o (Hp.aJ B)
 le:=by
  intro b o p hb;simp only[Hp.aQ]at hb;cases hh:d b with
  | some x=>rw[hh]at hb;exact f.le b o p (by rw[hh];exact hb)
  | none=>
   rw[hh]at hb;have j:=v.right q b o p hb;rw[f.keep b (qAr.1 j).1 (λz u=>?_)]
   ·exact j
   obtain⟨C,m⟩:=f.rw b z u;rw[hh]at m;simp at m
 new:=λb j m=>by obtain⟨A,hb⟩:=Hp.cI.1 j;refine f.new b A λt=>m (Hp.cI.2 ⟨t,hb⟩)
 ro:=λb o h=>by
  simp only[Hp.aQ]at h;cases hh:H b with
  | some x=>rw[hh]at h;exact Hp.aJ (f.ro b o (by rw[hh];exact h))
  | none=>
   rw[hh]at h;have e:=(v.right q).lt h;have:d b=none:=by
    cases g:d b with
    | none=>rfl
    | some y=>exact absurd e (qCu.2 (f.new b hh (by rw[g];simp)))
   simp only[Hp.aQ];rw[this];exact h
 rw:=λb o h=>by
  simp only[Hp.aQ]at h;cases hh:H b with
  | some x=>
   rw[hh]at h;obtain⟨z,g⟩:=f.rw b o (by rw[hh];exact h);exact⟨z,Hp.aJ g⟩
  | none=>
   rw[hh]at h;have e:=(v.right q).lt h;have:d b=none:=by
    cases g:d b with
    | none=>rfl
    | some y=>exact absurd e (qCu.2 (f.new b hh (by rw[g];simp)))
   exact⟨o,by simp only[Hp.aQ];rw[this];exact h⟩
 gh:=by rw[Hp.bI,Hp.bI,f.gh]
theorem EvL.join{H F:Hp}{n:Nat}{e:Event}(h:EvL H w n e):EvL (H.join F) w n e:=by
 unfold EvL at h ⊢;split at h
 ·exact⟨h.1,h.2.imp (λ⟨o,p,d,g⟩=>⟨o,p,Hp.aJ d,g⟩) id⟩
 ·exact⟨h.1,h.2.imp (λ⟨o,p,d,g⟩=>⟨o,p,Hp.aJ d,g⟩) id⟩
 ·trivial
 ·trivial
 trivial
structure Env where
 sh:(Frame->List Frame->Hp->Prop)->Frame->List Frame->Hp->Prop
 shMono:∀{R R':Frame->List Frame->Hp->Prop},(∀fr cs H,R fr cs H->R' fr cs H)->∀{fr cs H},sh R fr cs H->sh R' fr cs H
 shFrame:∀{R:Frame->List Frame->Hp->Prop} {fr cs H F},H.Comp F->sh R fr cs H->sh (λfr cs HF=>∃H',HF=H'.join F/\H'.Comp F/\R fr cs H') fr cs (H.join F)
structure aY extends PQ,Env
instance:Coe aY Program:=⟨λP=>P.toProgram⟩
instance:Coe aY PQ:=⟨λP=>P.toPQ⟩
def Reach(P:aY)(G:Frame->List Frame->Hp->Prop)(fr:Frame)(cs:List Frame)(H:Hp):Prop:=
 ∀R:Frame->List Frame->Hp->Prop,(∀fr cs H,G fr cs H->R fr cs H)->(∀fr cs H,jA P fr cs H R->R fr cs H)->(∀fr cs H,P.sh R fr cs H->R fr cs H)->R fr cs H
section reach
variable{P:aY}{G G':Frame->List Frame->Hp->Prop}{fr:Frame}{cs:List Frame}{H:Hp}
def Reach.stop(h:G fr cs H):Reach P G fr cs H:=λ_ d _ _=>d _ _ _ h
def Reach.step(h:jA P fr cs H (Reach P G)):Reach P G fr cs H:=λR e d g=>d _ _ _ (h.mono λ_ _ _ j=>j R e d g)
def Reach.dL(h:P.sh (Reach P G) fr cs H):Reach P G fr cs H:=λR e g d=>d _ _ _ (P.shMono (λ_ _ _ j=>j R e g d) h)
def Reach.bind(h:Reach P G fr cs H)(e:∀fr cs H,G fr cs H->Reach P G' fr cs H):Reach P G' fr cs H:=
 h _ e (λ_ _ _ d=>.step d) (λ_ _ _ d=>.dL d)
def Reach.mono(h:Reach P G fr cs H)(d:∀fr cs H,G fr cs H->G' fr cs H):Reach P G' fr cs H:=h.bind λ_ _ _ e=>.stop (d _ _ _ e)
def Reach.pure{dN:Frame}{dH:List Frame}(h:∀main w,stepG P main (bO fr cs) w=.go (bO dN dH) w)(d:Reach P G dN dH H):Reach P G fr cs H:=
 .step ⟨λmain w e=>⟨dN,dH,w,H,#[],h main w,.refl e,d,by simp⟩,λ_=>⟨dN,dH,h,d⟩⟩
def Zp1(P:Program)(fn:FuncId):∀(es:Array Event),(∀e∈es,∃f,e=⟨.mark (.extern f),false,true⟩)->seen P fn es=#[]:=by
 intro es h;dsimp only[seen];rw[<-qCq];have d:∀e∈es.toList,∃f,e=⟨.mark (.extern f),false,true⟩:=λe g=>h e (qAu.1 g);revert d;generalize es.toList=l;intro d;have key:∀(l:List Event) (x:Bool×Array Event),(∀e∈l,∃f,e=⟨.mark (.extern f),false,true⟩)->(l.foldl (λx e=>match e.loc with
   | .mark (.extern f)=>((P.funcs[f]?).any (·.norace),x.2)
   | _=>(x.1,if(x.1 && !e.sync)=true then x.2 else x.2.push e)) x).2=x.2:=by
  intro l
  induction l with
  | nil=>exact λx _=>rfl
  | cons y l ih=>
   intro x j;obtain⟨f,rfl⟩:=j y (by simp);simp only[qBZ];exact ih _ λe g=>j e (qAc _ g)
 exact key l _ d
def Reach.oL{α:Type}{s:Sem α}{Q:α->Bool->Hp->Prop}(C:bD P s Q false H)
  (h:∀a D,Q a false D->∃m j,(∀main w w' es,s.runT P w #[]=(.ok a w',es)->∃d,stepG P main (bO fr cs) w=.go (bO m j) w' d/\(d=#[]\/d=seen P fr.fn es))/\∀q,Q a false q->Reach P G m j q):Reach P G fr cs H:=by
 refine .step ⟨λmain w K=>?_,λB=>?_⟩
 ·obtain⟨a,w',q,es,g,t,z,⟨u,F⟩,E⟩:=Pp #[] C K;obtain rfl:g=false:=by
   cases g with
   | false=>rfl
   | true=>exact(F rfl).symm
  obtain⟨m,j,o,A⟩:=h a _ u;obtain⟨d,o,I⟩:=o main w w' _ t;refine⟨_,_,w',q,d,o,z,A _ u,λe v=>?_⟩;rcases I with rfl | rfl
  ·simp at v
  exact E e (by simpa using M6 _ _ _ e v)
 obtain⟨a,es,t,z,u⟩:=Zo2 B C;obtain⟨m,j,o,A⟩:=h a _ t;refine⟨m,j,λmain w=>?_,A _ t⟩;obtain⟨d,J,p⟩:=o main w w _ (z w #[]);rw[J];congr 1;rcases p with p | p
 ·exact p
 rw[p];exact Zp1 _ _ _ (λe v=>u e (by simpa using v))
end reach
def Uk{P:PQ}{H F:Hp}(d:H.Comp F)(h:P.still H.gh=false):P.still (H.join F).gh=false:=by
 rw[Hp.bI];rcases d.gh with e | e
 ·rw[e]at h;exact P.stillNil h _
 rw[e,qAw];exact h
def Zpw{P:PQ}{H F:Hp}(d:H.Comp F)(h:P.still (H.join F).gh=true):P.still H.gh=true:=by
 cases e:P.still H.gh with
 | true=>rfl
 | false=>rw[Uk d e]at h;simp at h
def Reach.frame{P:aY}{G:Frame->List Frame->Hp->Prop}{fr:Frame}{cs:List Frame}{H F:Hp}(h:Reach P G fr cs H)(d:H.Comp F) :
  Reach P (λfr cs o=>∃g,o=g.join F/\g.Comp F/\G fr cs g) fr cs (H.join F):=by
 refine h (λfr cs H=>H.Comp F->Reach P (λfr cs o=>∃g,o=g.join F/\g.Comp F/\G fr cs g) fr cs (H.join F)) (λfr cs H D d=>.stop ⟨H,rfl,d,D⟩) ?_ (λfr cs H q d=>.dL (P.shMono (λfr cs o ⟨g,e,u,E⟩=>by rw[e];exact E u) (P.shFrame d q))) d;intro fr cs H q d;refine .step ⟨λmain w z=>?_,λv=>?_⟩
 ·obtain⟨m,j,w',g,es,t,p,A,B⟩:=q.1 main w z.left;exact⟨m,j,w',g.join F,es,t,p.join d z,A (p.comp d (z.right d)),λe C=>(B e C).join⟩
 obtain⟨m,j,t,p⟩:=q.2 (Zpw d v);exact⟨m,j,t,p d⟩
def Uc(G:Frame->List Frame->Hp->Prop):Prop:=∀fr cs H J,H.Comp J->G fr cs H->G fr cs (H.join J)
def Reach.up{P:aY}{G:Frame->List Frame->Hp->Prop}{fr:Frame}{cs:List Frame}{H J:Hp}(g:Uc G)(h:Reach P G fr cs H)(j:H.Comp J):Reach P G fr cs (H.join J):=
 (h.frame j).mono λ_ _ _ ⟨_,e,d,m⟩=>by rw[e];exact g _ _ _ _ d m
def on(b:Frame)(a:Act)(todo:List Item):Frame:={ b with tmps:=a.tmps,todo,defers:=a.defers,mode:=.run }
inductive Ex where
 | normal
 | exit (id:Nat)
 | ret
def pR(P:aY)(G:Frame->List Frame->Hp->Prop)(b:Frame)(k:List Item)(cs:List Frame):Ex->Act->Hp->Prop
 | .normal,a,H=>Reach P G (on b a k) cs H
 | .ret,a,H=>∀d,Reach P G (on b a (.code .ret :: d)) cs H
 | .exit id,a,H=>(∀d,exitTo id k=some d->Reach P G (on b a d) cs H)/\(exitTo id k=none->∀d,exitTo id d=none->Reach P G (on b a (.code (.exit id) :: d)) cs H)
def plain:Item->Bool
 | .inBlock _=>false
 | _=>true
theorem pR.m4{P:aY}{G:Frame->List Frame->Hp->Prop}{b:Frame}{x:Item}{cs:List Frame}{e:Ex}{a:Act}{H:Hp}(g:plain x=true)
  (h:pR P G b k cs e a H) (d:e≠.normal):pR P G b (x :: k) cs e a H:=by
 cases e with
 | normal=>exact absurd rfl d
 | ret=>exact h
 | exit id=>
  have:exitTo id (x :: k)=exitTo id k:=by cases x<;>simp_all[exitTo,plain]
  simp only[pR]at h ⊢;rw[this];exact h
structure Rd where
 l7:Bool
 nr:Bool
def norace(P:Program)(f:FuncId):Bool:=(P.funcs[f]?).any (·.norace)
structure Rh(P:Program)(rd:Rd)(b:Frame):Prop where
 kind:b.kind≠.early
 l7:rd.l7=true->b.roundOf=none
 nr:rd.nr=true->norace P b.fn=true
def dZ(P:aY)(rd:Rd)(c:Code)(Q:Ex->Act->Hp->Prop)(a:Act)(H:Hp):Prop:=
 ∀(G:Frame->List Frame->Hp->Prop) (b:Frame) (k:List Item) (cs:List Frame),Uc G->Rh P rd b->(∀e g d,Q e g d->pR P G b k cs e g d)->Reach P G (on b a (.code c :: k)) cs H
section code
variable{P:aY}{rd:Rd}{Q Q':Ex->Act->Hp->Prop}{a:Act}{H:Hp}
def dZ.mono(h:dZ P rd c Q a H)(m:∀e a H,Q e a H->Q' e a H):dZ P rd c Q' a H:=λG b k cs g hb d=>h G b k cs g hb λe p o j=>d _ _ _ (m _ _ _ j)
def dZ.skip(h:Q .normal a H):dZ P rd .skip Q a H:=λG b k cs e hb d=>.pure (λmain w=>by simp[stepG,stepG.exec,on]) (d _ _ _ h)
def dZ.label(h:Q .normal a H):dZ P rd (.label l) Q a H:=λG b k cs e hb d=>.pure (λmain w=>by simp[stepG,stepG.exec,on]) (d _ _ _ h)
def dZ.ret(h:Q .ret a H):dZ P rd .ret Q a H:=λG b k cs e hb d=>d _ _ _ h k
theorem dZ.exit(h:Q (.exit id) a H):dZ P rd (.exit id) Q a H:=λG b k cs m hb g=>by
 obtain⟨d,e⟩:=g _ _ _ h;cases hk:exitTo id k with
 | none=>exact e hk k hk
 | some j=>exact .pure (λmain w=>by simp[stepG,stepG.exec,on,hk,Option.elim]) (d j hk)
def Ex.then(next:Act->Hp->Prop)(Q:Ex->Act->Hp->Prop):Ex->Act->Hp->Prop
 | .normal,a,H=>next a H
 | e,a,H=>Q e a H
theorem dZ.seq(h:dZ P rd x (Ex.then (dZ P rd y Q) Q) a H):dZ P rd (.seq x y) Q a H:=by
 intro G b k cs d hb g;refine .pure (dN:=on b a (.code x :: .code y :: k)) (dH:=cs) (λmain w=>by simp[stepG,stepG.exec,on]) (h G b (.code y :: k) cs d hb ?_);intro e o m j;cases e with
 | normal=>exact j G b k cs d hb g
 | ret=>exact(g .ret o m j).m4 rfl (by simp)
 | exit id=>exact(g (.exit id) o m j).m4 rfl (by simp)
def dZ.cond{c:Operand}{t:Bool}(j:a.eval c=.bool t)(h:dZ P rd (if t then x else y) Q a H):dZ P rd (.cond c x y) Q a H:=by
 intro G b k cs d hb g;refine .pure (dN:=on b a (.code (if t then x else y) :: k)) (dH:=cs) (λmain w=>?_) (h G b k cs d hb g);have m:(on b a (.code (.cond c x y) :: k)).eval c=.bool t:=by rw[<-j];cases c<;>rfl
 have e:Frame.eval { b with tmps:=a.tmps,todo:=.code (.cond c x y) :: k,defers:=a.defers,mode:=.run } c=.bool t:=m;simp[stepG,stepG.exec,on,e]
def Ex.inBlock(id:Nat)(Q:Ex->Act->Hp->Prop):Ex->Act->Hp->Prop
 | .exit d,a,H=>if d=id then Q .normal a H else Q (.exit d) a H
 | e,a,H=>Q e a H
theorem dZ.block(h:dZ P rd c (Ex.inBlock id Q) a H):dZ P rd (.block id c) Q a H:=by
 intro G b k cs p hb m;refine .pure (dN:=on b a (.code c :: .inBlock id :: k)) (dH:=cs) (λmain w=>by simp[stepG,stepG.exec,on]) (h G b (.inBlock id :: k) cs p hb ?_);intro e q u d;cases e with
 | normal=>exact .pure (dN:=on b q k) (dH:=cs) (λmain w=>by simp[stepG,stepG.exec,on]) (m _ _ _ d)
 | ret=>exact m .ret q u d
 | exit g=>
  simp only[Ex.inBlock]at d;by_cases j:g=id
  ·rw[BY j]at d;refine⟨λv o=>?_,λo=>?_⟩
   ·simp[exitTo,j]at o;subst o;exact m _ _ _ d
   simp[exitTo,j]at o
  rw[bY j]at d;have:exitTo g (.inBlock id :: k)=exitTo g k:=by simp[exitTo,qAm j]
  have t:=m _ _ _ d;simp only[pR]at t ⊢;rw[this];exact t
theorem dZ.scope(h:dZ P rd c Q a H):dZ P rd (.scope c) Q a H:=by
 intro G b k cs j hb g;refine .pure (dN:=on b a (.code c :: .inScope c :: k)) (dH:=cs) (λmain w=>by simp[stepG,stepG.exec,on]) (h G b (.inScope c :: k) cs j hb ?_);intro e d o m;cases e with
 | normal=>exact .pure (dN:=on b d k) (dH:=cs) (λmain w=>by simp[stepG,stepG.exec,on]) (g _ _ _ m)
 | ret=>exact(g .ret d o m).m4 rfl (by simp)
 | exit id=>exact(g (.exit id) d o m).m4 rfl (by simp)
theorem dZ.loop(I:Nat->Act->Hp->Prop)(n:Nat)(u:I n a H)(round:∀n a H,I n a H->dZ P rd c (Ex.then (λd g=>∃m,m<n/\I m d g) Q) a H):dZ P rd (.loop c) Q a H:=by
 intro G b k cs j hb p;have key:∀n a H,I n a H->Reach P G (on b a (.code c :: .inLoop c :: k)) cs H:=by
  intro n;induction n using Nat.strongRecOn with
  | _ n ih=>
   intro a H q;refine round n a H q G b (.inLoop c :: k) cs j hb ?_;intro e d g o;cases e with
   | normal=>
    obtain⟨m,t,h⟩:=o;exact .pure (dN:=on b d (.code c :: .inLoop c :: k)) (dH:=cs) (λmain w=>by simp[stepG,stepG.exec,on]) (ih m t d g h)
   | ret=>exact(p .ret d g o).m4 rfl (by simp)
   | exit id=>exact(p (.exit id) d g o).m4 rfl (by simp)
 exact .pure (dN:=on b a (.code c :: .inLoop c :: k)) (dH:=cs) (λmain w=>by simp[stepG,stepG.exec,on]) (key n a H u)
end code
def Za(P:aY)(f:FuncId)(args:Array Value)(H:Hp)(d:Value->Hp->Prop):Prop:=
 ∀(G:Frame->List Frame->Hp->Prop) (c:Frame) (cs:List Frame),Uc G->(∀v e,d v e->Reach P G (c.finish v) cs e)->Reach P G (Frame.enter P f args .normal) (c :: cs) H
def U6(P:aY)(l:Nat)(f:FuncId)(tmps:Array Value)(assign body:Code)(H:Hp)(d:Value->Hp->Prop):Prop:=
 ∀(G:Frame->List Frame->Hp->Prop) (c:Frame) (cs:List Frame),Uc G->(∀v e,d v e->Reach P G (c.finish v) cs e)->Reach P G (Frame.round l f tmps assign body .normal) (c :: cs) H
def Za.mono{P:aY}{args:Array Value}{H:Hp}{e d:Value->Hp->Prop}(h:Za P f args H e)(o:∀v H,e v H->d v H):Za P f args H d:=
 λG c cs m j=>h G c cs m λv g p=>j v g (o _ _ p)
def U6.mono{P:aY}{tmps:Array Value}{assign body:Code}{H:Hp}{e d:Value->Hp->Prop}(h:U6 P l f tmps assign body H e)(o:∀v H,e v H->d v H):U6 P l f tmps assign body H d:=
 λG c cs m j=>h G c cs m λv g p=>j v g (o _ _ p)
def put(a:Act)(dst:Option Tmp)(v:Value):Act:=
 match dst with
 | some d=>{ a with tmps:=a.tmps.setIfInBounds d v }
 | none=>a
def KM(P:aY)(dst:Option Tmp)(a:Act)(next:Act->Hp->Prop):Next->Hp->Prop
 | .value v,H=>next (put a dst v) H
 | .skip,H=>next (put a dst undef) H
 | .defer d,H=>next (put { a with defers:=d :: a.defers } dst undef) H
 | .enter f args,H=>Za P f args H λv e=>next (put a dst v) e
 | .round l f tmps assign body,H=>U6 P l f tmps assign body H λv e=>next (put a dst v) e
 | _,_=>False
def OC(P:Program)(s:Sem Next):Prop:=∀w,∃v w' es,s.runT P w #[]=(.ok (.value v) w',es)
structure wN(P:Program)(fr:Frame)(nx:Value->Frame)(s:Sem Next)(wk nr:Bool):Prop where
 val:∀main cs w w' v es,s.runT P w #[]=(.ok (.value v) w',es)->stepG P main (bO fr cs) w=.go (bO (nx v) cs) w' (seen P fr.fn es)
 halt:OC P s\/∀main cs w es,s.runT P w #[]=(.halt .blocked w,es)->stepG P main (bO fr cs) w=.go { frame:=fr,callers:=cs,status:=.blocked,dying:=none } w #[]
 spawn:OC P s\/∀main cs w w' f c aA es,s.runT P w #[]=(.ok (.spawn { target:=.fn f c,args:=aA }) w',es) ->
  stepG P main (bO fr cs) w=.spawn (bO (nx undef) cs) (bO { (default:Frame)with fn:=P.funcs.size,defers:=[{ target:=.fn f c,args:=aA }],mode:=.panicking [goexitEntry] } []) w' (seen P fr.fn es)
 y0:wk=true->∀cs,mayWake P (bO fr cs)=true
 nr:nr=true->norace P fr.fn=true
def Zp(P:aY)(s:Sem Next)(wk nr:Bool)(H:Hp)(d:Value->Hp->Prop):Prop:=
 ∀(G:Frame->List Frame->Hp->Prop) (fr:Frame) (g:Value->Frame) (cs:List Frame),Uc G->wN P fr g s wk nr->(∀v e,d v e->Reach P G (g v) cs e)->Reach P G fr cs H
def Zp.mono{P:aY}{H:Hp}{e d:Value->Hp->Prop}(h:Zp P s wk nr H e)(p:∀v H,e v H->d v H):Zp P s wk nr H d:=
 λG fr t cs o m j=>h G fr t cs o m λv g q=>j v g (p _ _ q)
def Zp.any{P:aY}{H:Hp}{d:Value->Hp->Prop}(h:Zp P s wk false H d):Zp P s wk nr H d:=
 λG fr m cs j e g=>h G fr m cs j ⟨e.val,e.halt,e.spawn,e.y0,λh=>by simp at h⟩ g
def Vw(P:Program)(o:Oper):Bool:=
 match o.op with
 | .call { callee:=.value (.func f),.. }=>!(P.funcs[f]?).any (·.body.isSome)
 | .call { callee:=.value _,.. }=>false
 | .call _=>true
 | _=>false
def fR(P:aY)(nr:Bool)(o:Oper)(a:Act)(next:Act->Hp->Prop)(H:Hp):Prop:=
 bD P (execOp a.eval o) (λn g d=>g=true\/KM P o.dst a next n d) false H\/Zp P (execOp a.eval o) (Vw P o) nr H λv d=>next (put a o.dst v) d
def lI(P:aY)(nr:Bool)(aG:Array Oper)(Q:Act->Hp->Prop):List Nat->Act->Hp->Prop
 | [],a,H=>Q a H
 | i :: rest,a,H=>
  match aG[i]? with
  | none=>lI P nr aG Q rest a H
  | some o=>if Region.wanted o (yielded aG a.tmps)then fR P nr o a (lI P nr aG Q rest) H else lI P nr aG Q rest (put a o.dst undef) H
def PS(b:Frame)(a:Act)(aG:Array Oper)(i:Nat)(rest:List Nat)(k:List Item)(v:Value) :
  (on b a (.inRegion aG (i :: rest) :: k)).finish v=on b (put a ((aG[i]?).bind (·.dst)) v) (.inRegion aG rest :: k):=by
 cases h:(aG[i]?).bind (·.dst)<;>simp[Frame.finish,on,put,h]
theorem Ztw(b:Frame)(a:Act)(todo:List Item):(on b a todo).eval=a.eval:=by funext x;cases x<;>rfl
theorem FP{P:Program}{b:Frame}{a:Act}{cs:List Frame}{aG:Array Oper}{i:Nat}{rest:List Nat}{o:Oper}{main:Bool}(j:aG[i]? = some o)(m:Region.wanted o (yielded aG a.tmps)=true)
  (h:∀c,o.op=.defer c->b.roundOf=none) :
  stepG P main (bO (on b a (.inRegion aG (i :: rest) :: k)) cs) w=stepG.apply P true (on b a (.inRegion aG (i :: rest) :: k)) cs none (execOp a.eval o) w:=by
 have e:=Ztw b a (.inRegion aG (i :: rest) :: k);simp only[on]at e;simp only[on,stepG,stepG.exec,j,qBl,Option.getD_some,m,qAH,stepG.oper,Frame.oper?,e];split
 ·rename_i l c g d;rw[h c d]at g;simp at g
 rfl
end
variable{nr main:Bool}{i id:Nat}{rest:List Nat}{w:World}
section aG
variable{P:aY}{Q:Ex->Act->Hp->Prop}{b:Frame}{a:Act}{k:List Item}{cs:List Frame}{H:Hp}{aG:Array Oper}{G:Frame->List Frame->Hp->Prop}
theorem X8(hb:b.kind≠.early):(b.kind == CallKind.early)=false:=by cases h:b.kind<;>simp_all<;>rfl
def ZqH(K:nr=true->norace P b.fn=true){o:Oper}{next:Act->Hp->Prop}(t:Uc G)(hb:b.kind≠.early)(u:aG[i]? = some o)(E:Region.wanted o (yielded aG a.tmps)=true)(D:∀c,o.op=.defer c->b.roundOf=none)
  (h:fR P nr o a next H) (A:∀a H,next a H->Reach P G (on b a (.inRegion aG rest :: k)) cs H):Reach P G (on b a (.inRegion aG (i :: rest) :: k)) cs H:=by
 have g:((on b a (.inRegion aG (i :: rest) :: k)).kind == CallKind.early)=false:=X8 hb;have L:Vw P o=true->∀cs,mayWake P (bO (on b a (.inRegion aG (i :: rest) :: k)) cs)=true:=by
  intro m cs;unfold Vw at m;simp only[mayWake,on,u,qBl];split at m
  ·rename_i I;simp only[I];simpa[Frame.eval]using m
  ·simp at m
  ·rename_i c O J I;simp only[I]
  simp at m
 have e:∀v,(on b a (.inRegion aG (i :: rest) :: k)).finish v=on b (put a o.dst v) (.inRegion aG rest :: k):=by intro v;rw[PS,u];rfl
 rcases h with h | h;case inr=>
  refine h G _ (λv=>on b (put a o.dst v) (.inRegion aG rest :: k)) cs t ⟨λmain cs w w' v es j=>?_,.inr λmain cs w es j=>?_,.inr λmain cs w w' f c aA es j=>?_,L,K⟩ λv q C=>A _ _ C
  ·rw[FP u E D,<-e];simp only[stepG.apply,j,qAH,g,dO,qAf,GStep.after,qAg]
  ·rw[FP u E D];simp only[stepG.apply,j,qAH,g,dO,qAf,GStep.after,qAg];rfl
  ·rw[FP u E D,<-e];simp only[stepG.apply,j,qAH,g,dO,qAf,GStep.after,qAg];rw[bY (by simp)];simp only[qAg]
 refine .oL h ?_;intro n N M;have z:∀{q},(false=true\/KM P o.dst a next n q)->KM P o.dst a next n q:=λh=>h.resolve_left (by simp)
 have B:=λmain w=>FP (P:=P) (b:=b) (k:=k) (cs:=cs) (w:=w) (rest:=rest) (main:=main) u E D;cases n with
 | value v=>exact⟨_,_,λmain w w' es j=>⟨_,by rw[B];simp only[stepG.apply,j,qAH,g,dO,qAf,GStep.after,qAg];rfl,.inr rfl⟩,λq p=>by rw[e];exact A _ _ (z p)⟩
 | skip=>exact⟨_,_,λmain w w' es j=>⟨_,by rw[B];simp only[stepG.apply,j,qAH,g,dO,qAf,GStep.after,qAg];rfl,.inr rfl⟩,λq p=>by rw[e];exact A _ _ (z p)⟩
 | defer d=>
  refine⟨_,_,λmain w w' es j=>⟨_,by rw[B];simp only[stepG.apply,j,qAH,g,dO,qAf,GStep.after,qAg];rfl,.inr rfl⟩,λq p=>?_⟩;have:({ on b a (.inRegion aG (i :: rest) :: k)with defers:=d :: a.defers }:Frame).finish undef =
    on b (put { a with defers:=d :: a.defers } o.dst undef) (.inRegion aG rest :: k):=by
   have:=PS b { a with defers:=d :: a.defers } aG i rest k undef
   rw[u]at this;exact this
  have J:=A _ _ (z p);rw[<-this]at J;exact J
 | enter f args=>exact⟨_,_,λmain w w' es j=>⟨_,by rw[B];simp only[stepG.apply,j,qAH,g,dO,qAf,GStep.after,qAg];rfl,.inr rfl⟩,λq p=>z p G _ cs t λv F C=>by rw[e];exact A _ _ C⟩
 | round l f tmps assign body=>exact⟨_,_,λmain w w' es j=>⟨_,by rw[B];simp only[stepG.apply,j,qAH,g,dO,qAf,GStep.after,qAg];rfl,.inr rfl⟩,λq p=>z p G _ cs t λv F C=>by rw[e];exact A _ _ C⟩
 | _=>exact(z M).elim
def Mz(h:((aG[i]?).map (Region.wanted · (yielded aG a.tmps))).getD false=false)
  (d:Reach P G (on b (put a ((aG[i]?).bind (·.dst)) undef) (.inRegion aG rest :: k)) cs H):Reach P G (on b a (.inRegion aG (i :: rest) :: k)) cs H:=by
 rw[<-PS]at d;refine .pure (λmain w=>?_) d;have e:=h;simp only[on]at *;simp[stepG,stepG.exec,e]
def vA(aG:Array Oper):Bool:=aG.all λo=>match o.op with | .defer _=>false | _=>true
def My(j:nr=true->norace P b.fn=true)(g:Uc G)(hb:b.kind≠.early)(d:b.roundOf=none\/vA aG=true){R:Act->Hp->Prop}(q:∀a H,R a H->Reach P G (on b a k) cs H) :
  ∀(l:List Nat) (a:Act) (H:Hp),lI P nr aG R l a H->Reach P G (on b a (.inRegion aG l :: k)) cs H:=by
 intro l;induction l with
 | nil=>exact λa H h=>.pure (λmain w=>by simp[stepG,stepG.exec,on]) (q _ _ h)
 | cons i rest ih=>
  intro a H h;simp only[lI]at h;cases ho:aG[i]? with
  | none=>
   simp only[ho]at h;exact Mz (by simp[ho]) (by simpa[ho,put]using ih a H h)
  | some o=>
   simp only[ho]at h;by_cases e:Region.wanted o (yielded aG a.tmps)=true
   ·simp only[e,qAH]at h;refine ZqH j g hb ho e ?_ h ih;intro c p;rcases d with d | d
    ·exact d
    exfalso;have:=Array.all_eq_true.1 d i (by rcases qAM i aG.size with h | h;exact h;simp[qCG h]at ho);have m:aG[i]'(by rcases qAM i aG.size with h | h;exact h;simp[qCG h]at ho)=o:=by have:=qAr.1 ho;exact this.2
    rw[m,p]at this;simp at this
   simp only[e]at h;exact Mz (by simp[ho,e]) (by simpa[ho]using ih _ H h)
end aG
section regions
variable{P:aY}{rd:Rd}{Q:Ex->Act->Hp->Prop}{a:Act}{H:Hp}
theorem dZ.region{aG:Array Oper}(g:rd.l7=true\/vA aG=true)(h:lI P rd.nr aG (Q .normal) (List.range aG.size) a H):dZ P rd (.region id aG false) Q a H:=by intro G b k cs d hb e;refine .pure (dN:=on b a (.inRegion aG (List.range aG.size) :: k)) (dH:=cs) (λmain w=>by simp[stepG,stepG.exec,on]) ?_;exact My hb.nr d hb.kind (g.imp hb.l7 λh=>h) (R:=Q .normal) (λa H j=>e .normal a H j) _ _ _ h
theorem dZ.pB{aG:Array Oper}(u:P.still H.gh=false)(p:rd.l7=true\/vA aG=true)(h:∀t,lI P rd.nr aG (Q .normal) (Region.schedule (P.follows .mixedOrders) aG t) a H):dZ P rd (.region id aG true) Q a H:=by
 intro G b k cs d hb o;refine .oL (s:=choose (.order b.fn id)) (Q:=λt _ e=>e=H) ?_ ?_
 ·simp only[choose,bD,Question.forced,dO,qAf];exact⟨u,λ_=>trivial⟩
 intro t _ _;refine⟨on b a (.inRegion aG (Region.schedule (P.follows .mixedOrders) aG t) :: k),cs,λmain w w' es g=>⟨#[],?_,.inl rfl⟩,λe j=>?_⟩
 ·have m:(choose (.order b.fn id)).run P w=.ok t w':=by have:=qAQ Prod.fst g;rw[Sem.runT_eq]at this;exact this
  simp[stepG,stepG.exec,on,m]
 subst j;exact My hb.nr d hb.kind (p.imp hb.l7 λh=>h) (R:=Q .normal) (λa H q=>o .normal a H q) _ _ _ (h t)
end regions
def Aj{P:aY}{b:Frame}{a:Act}{k:List Item}{cs:List Frame}(d:b.roundOf=none) :
  stepG P main (bO (on b a (.code .ret :: k)) cs) w=.go (bO { on b a (.code .ret :: k)with mode:=.returning } cs) w:=by
 simp[stepG,stepG.exec,on,d]
def Ai{P:aY}{b:Frame}{a:Act}{cs:List Frame}(d:b.roundOf=none) :
  stepG P main (bO (on b a []) cs) w=.go (bO { on b a []with mode:=.returning } cs) w:=by
 simp[stepG,stepG.exec,on,d]
