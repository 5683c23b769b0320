import Derived.Test.YthmnpenamnoniaaGreatDoorP03
set_option linter.all false
section
namespace Go.LL
section sound
variable  {P:Prg}{nr:Bool}{L:List (Nat×Nat)}{m:Nat}{o:Oper}{next:NSt->Hp->Prop}{σ:NSt}{H Ha:Hp}{a:Act}{op:NOp}
theorem Za0 {α:Type}{b:Bool}{x y:α}(h:(if b=true then some x else none)=some y):b=true∧x=y:=by
 cases b<;>simp_all
theorem pur_raw {op:Op}{ty:TypeId}{d:Option Nat}(h:(NOp.pur op ty).w P d next σ H):(NOp.raw op ty).w P d next σ H:=by
 obtain⟨h1,v,h2,h3⟩:=h
 exact⟨h1,.inl (h2 _ _ _ (.inr h3))⟩
theorem ZlU {op:Op}{ty:TypeId}{d:Option Nat}(h:(Zij P L op ty).w P d next σ H):(NOp.raw op ty).w P d next σ H:=by
 unfold Zij at h
 split at h
 ·exact pur_raw h
 ·exact h
theorem ZlH {op':Op}(hop:o.op=op')(hs:∀ cs b,op'≠.select cs b)(ht:(if (op'.operands.all (nl L)) && dnl L m o.dst then some (Zij P L op' o.type) else none)=some op)(h:op.w P o.dst next σ H)(r:Rel P L m σ H a Ha):OpW P nr o a (Nx P L m next) Ha:=by
 obtain⟨h1,rfl⟩:=Za0 ht
 simp only[Bool.and_eq_true]at h1
 exact Zgv hop hs (fun x hx=>Array.all_eq_true_iff_forall_mem.1 h1.1 x hx) h1.2 (ZlU h) r
theorem tr_op (hL:nrL L=true->nr=true)(ht:trOp P L m o=some op)(h:op.w P o.dst next σ H)(r:Rel P L m σ H a Ha):OpW P nr o a (Nx P L m next) Ha:=by
 cases ho:o.op with
 | move x=>
  simp only[trOp,ho]at ht
  obtain⟨h1,rfl⟩:=Za0 ht
  simp only[Bool.and_eq_true]at h1
  exact s_mov (.inl ho) h1.1 h1.2 h r
 | assign x=>
  simp only[trOp,ho]at ht
  obtain⟨h1,rfl⟩:=Za0 ht
  simp only[Bool.and_eq_true]at h1
  exact s_mov (.inr ho) h1.1 h1.2 h r
 | pick c x y=>
  simp only[trOp,ho]at ht
  obtain⟨h1,rfl⟩:=Za0 ht
  simp only[Bool.and_eq_true]at h1
  exact s_pick ho h1.1.1.1 h1.1.1.2 h1.1.2 h1.2 h r
 | unOp u t x=>
  cases u with
  | not=>
   simp only[trOp,ho]at ht
   obtain⟨h1,rfl⟩:=Za0 ht
   simp only[Bool.and_eq_true]at h1
   exact s_not ho h1.1 h1.2 h r
  | _=>simp only[trOp,ho]at ht;exact ZlH ho (by simp) ht h r
 | binOp b t x y ty=>
  simp only[trOp,ho]at ht
  split at ht
  ·rename_i h1
   simp only[Bool.and_eq_true]at h1
   have hraw:∀ {op},Zij P L (.binOp b t x y ty) o.type=op->op.w P o.dst next σ H->OpW P nr o a (Nx P L m next) Ha:=by
    rintro op rfl h
    exact Zgv ho (by simp) (fun z hz=>by
     simp only[Op.operands]at hz
     simp only[List.mem_toArray,List.mem_cons,List.not_mem_nil,or_false]at hz
     rcases hz with rfl | rfl
     ·exact h1.1.1
     ·exact h1.1.2) h1.2 (ZlU h) r
   split at ht
   ·split at ht
    ·simp only[Option.some.injEq]at ht
     subst ht
     exact s_bin ho h1.1.1 h1.1.2 h1.2 h r
    ·exact hraw (Option.some.inj ht) h
   ·exact hraw (Option.some.inj ht) h
  ·simp at ht
 | extract x i=>
  simp only[trOp,ho]at ht
  obtain⟨h1,rfl⟩:=Za0 ht
  simp only[Bool.and_eq_true]at h1
  exact s_ext ho h1.1 h1.2 h r
 | field t x f=>
  simp only[trOp,ho]at ht
  split at ht
  ·rename_i h1
   simp only[Bool.and_eq_true]at h1
   split at ht
   ·rename_i off ft sz hf
    split at ht
    ·rename_i n hn
     simp only[Option.some.injEq]at ht
     subst ht
     exact s_fld ho hf hn h1.1 h1.2 h r
    ·simp at ht
   ·simp at ht
  ·simp at ht
 | alloc t=>
  simp only[trOp,ho]at ht
  split at ht
  ·rename_i d hd
   split at ht
   ·rename_i hL
    split at ht
    ·rename_i i hi
     split at ht
     ·rename_i z hz
      split at ht
      ·rename_i hm
       simp only[Option.some.injEq]at ht
       subst ht
       exact s_lzero ho hd (by simpa using hL) hm hi hz h r
      ·simp at ht
     ·simp at ht
    ·simp at ht
   ·obtain⟨h1,rfl⟩:=Za0 ht
    exact Zgv ho (by simp) (fun z hz=>by simp[Op.operands]at hz) h1 h r
  ·simp at ht
 | box t x=>
  simp only[trOp,ho]at ht
  split at ht
  ·rename_i d hd
   split at ht
   ·rename_i hL
    split at ht
    ·rename_i h1
     simp only[Bool.and_eq_true,decide_eq_true_eq]at h1
     simp only[Option.some.injEq]at ht
     subst ht
     exact s_lbox ho hd (by simpa using hL) h1.2 h1.1 h r
    ·simp at ht
   ·obtain⟨h1,rfl⟩:=Za0 ht
    simp only[Bool.and_eq_true]at h1
    exact Zgv ho (by simp) (fun z hz=>by simp[Op.operands]at hz;rw[hz];exact h1.1) h1.2 h r
  ·simp at ht
 | fieldAddr t x f=>
  simp only[trOp,ho]at ht
  split at ht
  ·rename_i off ft sz hf
   split at ht
   ·simp at ht
   ·rename_i hz
    have hz':sz≠0:=by simpa using hz
    split at ht
    ·rename_i s
     split at ht
     ·rename_i d hs
      obtain⟨h1,rfl⟩:=Za0 ht
      simp only[Bool.and_eq_true]at h1
      exact s_lfadr ho hf hz' hs h1.1 h r
     ·rename_i hs
      obtain⟨h1,rfl⟩:=Za0 ht
      exact s_fadr ho hf hz' (by simp[nl,hs]) h1 h r
    ·rename_i hx
     obtain⟨h1,rfl⟩:=Za0 ht
     refine s_fadr ho hf hz' ?_ h1 h r
     cases x with
     | tmp s=>exact absurd rfl (hx s)
     | _=>rfl
  ·simp at ht
 | indexAddr t x i=>
  simp only[trOp,ho]at ht
  split at ht
  ·rename_i hi
   split at ht
   ·rename_i len e s hu
    split at ht
    ·rename_i d ie hs he
     obtain⟨h1,rfl⟩:=Za0 ht
     simp only[Bool.and_eq_true]at h1
     exact s_liadr ho hu he hs hi h1.1 h r
    ·obtain⟨h1,rfl⟩:=Za0 ht
     simp only[Bool.and_eq_true]at h1
     exact Zgv ho (by simp) (fun z hz=>by
      simp only[Op.operands]at hz
      simp only[List.mem_toArray,List.mem_cons,List.not_mem_nil,or_false]at hz
      rcases hz with rfl | rfl
      ·exact h1.2
      ·exact hi) h1.1 h r
   ·rename_i e hu
    split at ht
    ·rename_i ie he
     obtain⟨h1,rfl⟩:=Za0 ht
     simp only[Bool.and_eq_true]at h1
     exact s_iadr ho hu he h1.1 hi h1.2 h r
    ·simp at ht
   ·simp at ht
  ·simp at ht
 | load t x=>
  simp only[trOp,ho]at ht
  split at ht
  ·rename_i hn
   obtain⟨h1,rfl⟩:=Za0 ht
   simp only[Bool.and_eq_true]at h1
   exact s_rawn (hL hn) ho (by simp) (fun z hz=>by
    simp only[Op.operands,List.mem_toArray,List.mem_singleton]at hz
    rw[hz];exact h1.1) h1.2 h r
  split at ht
  ·rename_i hd
   split at ht
   ·rename_i n hn
    split at ht
    ·rename_i s
     split at ht
     ·rename_i d hs
      simp only[Option.some.injEq]at ht
      subst ht
      exact s_lld ho hn hs hd h r
     ·rename_i hs
      simp only[Option.some.injEq]at ht
      subst ht
      exact s_ld ho hn (by simp[nl,hs]) hd h r
    ·rename_i hx
     simp only[Option.some.injEq]at ht
     subst ht
     refine s_ld ho hn ?_ hd h r
     cases x with
     | tmp s=>exact absurd rfl (hx s)
     | _=>rfl
   ·simp at ht
  ·simp at ht
 | store t x v=>
  simp only[trOp,ho]at ht
  split at ht
  ·rename_i h1
   simp only[Bool.and_eq_true,Option.isNone_iff_eq_none]at h1
   split at ht
   ·rename_i i hi
    split at ht
    ·rename_i s
     split at ht
     ·rename_i d hs
      simp only[Option.some.injEq]at ht
      subst ht
      exact s_lst ho hi hs h1.1 h1.2 h r
     ·rename_i hs
      simp only[Option.some.injEq]at ht
      subst ht
      exact Zgv ho (by simp) (fun z hz=>by
       simp only[Op.operands]at hz
       simp only[List.mem_toArray,List.mem_cons,List.not_mem_nil,or_false]at hz
       rcases hz with rfl | rfl
       ·simp[nl,hs]
       ·exact h1.1) (by rw[h1.2];rfl) h r
    ·rename_i hx
     simp only[Option.some.injEq]at ht
     subst ht
     exact Zgv ho (by simp) (fun z hz=>by
       simp only[Op.operands]at hz
       simp only[List.mem_toArray,List.mem_cons,List.not_mem_nil,or_false]at hz
       rcases hz with rfl | rfl
       ·cases z with
        | tmp s=>exact absurd rfl (hx s)
        | _=>rfl
       ·exact h1.1) (by rw[h1.2];rfl) h r
   ·simp at ht
  ·simp at ht
 | call c=>
  have hgen:(if ((Op.call c).operands.all (nl L)) && dnl L m o.dst then some (Zij P L (.call c) o.type) else none)=some op->OpW P nr o a (Nx P L m next) Ha:=fun ht=>ZlH ho (by simp) ht h r
  obtain⟨cal,args,ts⟩:=c
  have hops:∀ {f},cal=.builtin f->(Op.call { callee:=cal,args:=args,argTypes:=ts }).operands=args:=by rintro f rfl;simp[Op.operands,Call.operands]
  cases cal with
  | builtin b=>
   by_cases hb:b=.len
   ·subst hb
    simp only[trOp,ho]at ht
    split at ht
    ·rename_i x t has hts
     split at ht
     ·rename_i h1
      simp only[Bool.and_eq_true]at h1
      split at ht
      ·rename_i e hu
       simp only[Option.some.injEq]at ht
       subst ht
       exact s_len ho has hts hu h1.1 h1.2 h r
      ·simp only[Option.some.injEq]at ht
       subst ht
       refine Zgv ho (by simp) (fun z hz=>?_) h1.2 h r
       rw[hops rfl]at hz
       have:z∈args.toList:=Array.mem_toList_iff.2 hz
       rw[has]at this
       simp at this
       rw[this];exact h1.1
     ·simp at ht
    ·simp at ht
   ·refine hgen ?_
    cases b<;>first | exact absurd rfl hb | (simp only[trOp,ho]at ht;exact ht)
  | invoke x n=>exact hgen (by simpa only[trOp,ho]using ht)
  | value x=>
   cases x with
   | func f=>
    simp only[trOp,ho]at ht
    split at ht
    ·rename_i h1
     simp only[Bool.and_eq_true]at h1
     have hall:∀ x∈args.toList,nl L x=true:=fun x hx=>Array.all_eq_true_iff_forall_mem.1 h1.1 x (Array.mem_toList_iff.1 hx)
     split at ht
     ·rename_i fn hf
      split at ht
      ·rename_i h2
       simp only[Bool.and_eq_true,Bool.not_eq_true']at h2
       simp only[Option.some.injEq]at ht
       subst ht
       exact s_call ho hf h2.1 h2.2 hall h1.2 h r
      ·simp only[Option.some.injEq]at ht
       subst ht
       refine Zgv ho (by simp) (fun z hz=>?_) h1.2 h r
       simp only[Op.operands,Call.operands,Array.mem_append,List.mem_toArray,List.mem_singleton]at hz
       rcases hz with rfl | hz
       ·rfl
       ·exact hall z (Array.mem_toList_iff.2 hz)
     ·simp at ht
    ·simp at ht
   | _=>exact hgen (by simpa only[trOp,ho]using ht)
 | build t ps=>
  simp only[trOp,ho]at ht
  split at ht
  ·rename_i h1
   simp only[Bool.and_eq_true]at h1
   split at ht
   ·rename_i fs i hu hi
    split at ht
    ·rename_i z qs hz hq
     obtain⟨h2,rfl⟩:=Za0 ht
     exact s_build ho hu hi hz h2 hq h1.1 h1.2 h r
    ·simp at ht
   ·rename_i n e i hu hi
    split at ht
    ·rename_i z ie hz he
     split at ht
     ·rename_i qs hq
      simp only[Option.some.injEq]at ht
      subst ht
      exact s_buildA ho hu hi hz he hq h1.1 h1.2 h r
     ·simp at ht
    ·simp at ht
   ·simp at ht
  ·simp at ht
 | buildSlice t len ps=>
  simp only[trOp,ho]at ht
  split at ht
  ·rename_i h1
   simp only[Bool.and_eq_true]at h1
   split at ht
   ·rename_i e hu
    split at ht
    ·rename_i ie he
     split at ht
     ·rename_i z qs hz hq
      split at ht
      ·rename_i h2
       simp only[Bool.and_eq_true,decide_eq_true_eq,Bool.not_eq_true',beq_eq_false_iff_ne,ne_eq]at h2
       simp only[Option.some.injEq]at ht
       subst ht
       exact s_buildS ho hu he hz h2.1 h2.2 hq h1.1 h1.2 h r
      ·simp only[Option.some.injEq]at ht
       subst ht
       refine Zgv ho (by simp) (fun x hx=>?_) h1.2 h r
       simp only[Op.operands,List.mem_toArray,List.mem_map]at hx
       obtain⟨p,hp,rfl⟩:=hx
       exact Array.all_eq_true_iff_forall_mem.1 h1.1 p (Array.mem_toList_iff.1 hp)
     ·simp at ht
    ·simp at ht
   ·simp at ht
  ·simp at ht
 | select cs b=>simp[trOp,ho]at ht
 | _=>exact ZlH ho (by simp) (by simpa only[trOp,ho]using ht) h r
end sound
end Go.LL
end
section
namespace Go.LL
structure NI where
 g:Option (Nat×Bool)
 dst:Option Nat
 op:NOp
structure NSt.Le (σ₀ σ:NSt):Prop where
 env:∀ t v,σ₀.env t=some v->σ.env t=some v
 box:∀ d cs,σ₀.box d=some cs->σ.box d=some cs
 defs:σ.defs=σ₀.defs
theorem Rel.less {P:PQ}{L:List (Nat×Nat)}{m:Nat}{σ₀ σ:NSt}{H:Hp}{a:Act}{Ha:Hp}(r:Rel P L m σ H a Ha)(h:σ₀.Le σ):Rel P L m σ₀ H a Ha:=by
 obtain⟨ρ,K,e1,e2,e3,e4,e5,e6⟩:=r.mem
 exact⟨r.size,r.defers.trans h.defs,ρ,K,e1,e2,fun d cs hd=>e3 d cs (h.box d cs hd),fun d d' cs cs' h1 h2=>e4 d d' cs cs' (h.box _ _ h1) (h.box _ _ h2),fun t v hv=>e5 t v (h.env t v hv),e6⟩
def NOps (P:Prg):List NI->(NSt->Hp->Prop)->NSt->Hp->Prop
 | [],Q,σ,H=>Q σ H
 | i :: r,Q,σ,H=>
  match i.g with
  | none=>i.op.w P i.dst (NOps P r Q) σ H
  | some (t,want)=>∃ v,σ.env t=some v∧(v=.bool want->i.op.w P i.dst (NOps P r Q) σ H)∧(v≠.bool want->NOps P r Q (σ.unset i.dst) H)
def NEx.then (next:NSt->Hp->Prop)(Q:Ex->NSt->Hp->Prop):Ex->NSt->Hp->Prop
 | .normal,a,H=>next a H
 | e,a,H=>Q e a H
def NEx.inBlock (id:Nat)(Q:Ex->NSt->Hp->Prop):Ex->NSt->Hp->Prop
 | .exit id',a,H=>if id'=id then Q .normal a H else Q (.exit id') a H
 | e,a,H=>Q e a H
def trI (P:Program)(L:List (Nat×Nat))(m:Nat)(ops:Array Oper)(i:Nat):Option NI:=
 match ops[i]? with
 | none=>none
 | some o=>
  match trOp P L m o with
  | none=>none
  | some op=>
   match o.guard with
   | none=>some ⟨none,o.dst,op⟩
   | some (j,want)=>
    match (ops[j]?).bind (·.dst) with
    | none=>none
    | some t=>if nl L (.tmp t) then some ⟨some (t,want),o.dst,op⟩ else none
def trIs (P:Program)(L:List (Nat×Nat))(m:Nat)(ops:Array Oper):List Nat->Option (List NI)
 | []=>some []
 | i :: r=>match trI P L m ops i,trIs P L m ops r with
  | some x,some xs=>some (x :: xs)
  | _,_=>none
theorem ZkD {P:PQ}{L:List (Nat×Nat)}{m:Nat}{σ:NSt}{H:Hp}{a:Act}{Ha:Hp}(r:Rel P L m σ H a Ha){ops:Array Oper}{j t:Nat}{v:Value}{want:Bool}(hj:(ops[j]?).bind (·.dst)=some t)(hl:nl L (.tmp t)=true)(hb:σ.env t=some v):(v=.bool want->yielded ops a.tmps j=some want)∧(v≠.bool want->yielded ops a.tmps j≠some want):=by
 have h1:a.eval (.tmp t)=v:=r.get hl hb
 simp only[Act.eval,Array.getD_eq_getD_getElem?]at h1
 unfold yielded
 rw[hj]
 show (_->(match a.tmps[t]? with | some (.bool b)=>some b | _=>none)=some want)∧(_->(match a.tmps[t]? with | some (.bool b)=>some b | _=>none)≠some want)
 cases h:a.tmps[t]? with
 | none=>
  rw[h]at h1
  refine⟨fun e=>?_,fun _=>by simp⟩
  rw[<-h1]at e
  simp[undef]at e
 | some u=>
  rw[h]at h1
  have h1:u=v:=h1
  subst h1
  refine⟨fun e=>by rw[e],fun e=>?_⟩
  split
  ·rename_i b hb
   obtain rfl:=Option.some.inj hb
   intro hh
   exact e (by rw[Option.some.inj hh])
  ·simp
theorem Zdv {P:Prg}{nr:Bool}{L:List (Nat×Nat)}{m:Nat}{ops:Array Oper}{Q:NSt->Hp->Prop}(hL:nrL L=true->nr=true):∀ {l:List Nat} {ns:List NI} {σ:NSt} {H Ha:Hp} {a:Act},trIs P L m ops l=some ns->NOps P ns Q σ H->Rel P L m σ H a Ha->Ops P nr ops (Nx P L m Q) l a Ha
 | [],ns,σ,H,Ha,a,ht,h,r=>by
  simp only[trIs,Option.some.injEq]at ht
  subst ht
  exact⟨_,_,r,h⟩
 | i :: l,ns,σ,H,Ha,a,ht,h,r=>by
  simp only[trIs]at ht
  split at ht
  ·rename_i x xs hx hxs
   simp only[Option.some.injEq]at ht
   subst ht
   simp only[trI]at hx
   split at hx
   ·simp at hx
   ·rename_i o ho
    split at hx
    ·simp at hx
    ·rename_i op hop
     have hrun:op.w P o.dst (NOps P xs Q) σ H->OpW P nr o a (Ops P nr ops (Nx P L m Q) l) Ha:=by
      intro hw
      have key:∀ a' Ha',Nx P L m (NOps P xs Q) a' Ha'->Ops P nr ops (Nx P L m Q) l a' Ha':=fun a' Ha' ⟨σ',H1,r',hn'⟩=>Zdv hL hxs hn' r'
      refine(tr_op hL hop hw r).imp (Za2 ?_) (ShOp.mono · fun v H hv=>key _ _ hv)
      rintro n g H' (hg | hn)
      ·exact .inl hg
      ·refine .inr ?_
       cases n with
       | enter f args=>exact Zag.mono hn (fun v H hv=>key _ _ hv)
       | round l' f tmps as bd=>exact ZdM.mono hn (fun v H hv=>key _ _ hv)
       | value v=>exact key _ _ hn
       | skip=>exact key _ _ hn
       | defer d=>exact key _ _ hn
       | _=>exact hn.elim
     simp only[Ops,ho]
     split at hx
     ·rename_i hg
      simp only[Option.some.injEq]at hx
      subst hx
      have hw:Region.wanted o (yielded ops a.tmps)=true:=by simp[Region.wanted,hg]
      simp only[hw,if_true]
      exact hrun h
     ·rename_i j want hg
      split at hx
      ·simp at hx
      ·rename_i t ht'
       split at hx
       ·rename_i hl
        simp only[Option.some.injEq]at hx
        subst hx
        obtain⟨b,hb,h1,h2⟩:=h
        have hy:=ZkD (want:=want) r ht' hl hb
        by_cases hbw:b=.bool want
        ·have hw:Region.wanted o (yielded ops a.tmps)=true:=by simp[Region.wanted,hg,hy.1 hbw]
         simp only[hw,if_true]
         exact hrun (h1 hbw)
        ·have hw:Region.wanted o (yielded ops a.tmps)=false:=by simp[Region.wanted,hg,hy.2 hbw]
         simp only[hw,Bool.false_eq_true,if_false]
         exact Zdv hL hxs (h2 hbw) (r.unset _)
       ·simp at hx
  ·simp at ht
end Go.LL
end
section
namespace Go.LL
theorem qLlM0 {G:Prop} (h:G:=by
  simp only[MOps]at h
  simp only[NOps]
  split at h
  ·exact⟨_,‹_›,fun _=>NOp.m_w (fun σ H h=>MOps.n hq h) h,fun e=>absurd rfl e⟩
  ·exact⟨_,‹_›,fun e=>by simp at e,fun _=>MOps.n hq h⟩
  ·exact⟨_,‹_›,fun e=>by simp at e,fun _=>MOps.n hq h⟩
  ·exact h.elim):G:=h
def CellsAt (H:Hp)(a:Addr)(cs:List Value):Prop:=a.spot=none∧∃ o p,H a.block=some (o,p)∧∀ j,j<cs.length->Obj.at? o (a.off+j)=cs[j]?
def InR (z:Int):Prop:=-9223372036854775808<=z∧z<=9223372036854775807
theorem ZbZ {z:Int}(h:InR z):IntKind.i64.wrap z=z:=by
 obtain⟨h1,h2⟩:=h
 simp only[IntKind.wrap,IntKind.bits,IntKind.signed]
 simp
 omega
def ZbC:IntKind->IntKind->Bool
 | .i8,.i8 | .i16,.i16 | .i32,.i32 | .i64,.i64 | .u8,.u8 | .u16,.u16 | .u32,.u32 | .u64,.u64=>true
 | _,_=>false
theorem Zmu {k k':IntKind}(h:ZbC k k'=true):k=k':=by
 cases k<;>cases k'<;>simp_all[ZbC]
def binM (op:BinOp)(k:IntKind)(m n:Int)(K:Value->Prop):Prop:=
 match op,k with
 | .add,.i64=>InR (m+n)∧K (.int .i64 (m+n))
 | .sub,.i64=>InR (m-n)∧K (.int .i64 (m-n))
 | .mul,.i64=>InR (m * n)∧K (.int .i64 (m * n))
 | .add,k=>K (.int k (k.wrap (m+n)))
 | .sub,k=>K (.int k (k.wrap (m-n)))
 | .mul,k=>K (.int k (k.wrap (m * n)))
 | .eql,_=>∀ b:Bool,(b=true↔m=n)->K (.bool b)
 | .neq,_=>∀ b:Bool,(b=true↔m≠n)->K (.bool b)
 | .lss,_=>∀ b:Bool,(b=true↔m<n)->K (.bool b)
 | .leq,_=>∀ b:Bool,(b=true↔m<=n)->K (.bool b)
 | .gtr,_=>∀ b:Bool,(b=true↔m > n)->K (.bool b)
 | .geq,_=>∀ b:Bool,(b=true↔m ≥ n)->K (.bool b)
 | _,_=>False
theorem binM_V {op:BinOp}{k:IntKind}{m n:Int}{K:Value->Prop}(h:binM op k m n K):∃ v,binV op k m n=some v∧K v:=by
 cases op<;>simp only[binM]at h<;>try exact h.elim
 case add=>cases k<;>first | exact⟨_,rfl,h⟩ | (refine⟨_,rfl,?_⟩;rw[ZbZ h.1];exact h.2)
 case sub=>cases k<;>first | exact⟨_,rfl,h⟩ | (refine⟨_,rfl,?_⟩;rw[ZbZ h.1];exact h.2)
 case mul=>cases k<;>first | exact⟨_,rfl,h⟩ | (refine⟨_,rfl,?_⟩;rw[ZbZ h.1];exact h.2)
 all_goals exact⟨_,rfl,h _ (by simp)⟩
def Zl2 (cs:List Value)(off:Nat)(K:Value->Prop):Prop:=∃ v,cs[off]? = some v∧K v
def NOp.m (P:Prg)(op:NOp)(dst:Option Nat)(next:NSt->Hp->Prop)(σ:NSt)(H:Hp):Prop:=
 match op with
 | .mov x=>match σ.get x with | some v=>next (σ.set dst v) H | none=>False
 | .pick c a b=>match σ.get c with
  | some (.bool true)=>match σ.get a with | some v=>next (σ.set dst v) H | none=>False
  | some (.bool false)=>match σ.get b with | some v=>next (σ.set dst v) H | none=>False
  | _=>False
 | .bin op x y=>match σ.get x,σ.get y with
  | some (.int k m),some (.int k' n)=>match ZbC k k' with
   | true=>binM op k m n fun v=>next (σ.set dst v) H
   | false=>False
  | _,_=>False
 | .not x=>match σ.get x with | some (.bool true)=>next (σ.set dst (.bool false)) H | some (.bool false)=>next (σ.set dst (.bool true)) H | _=>False
 | .ext x i=>match σ.get x with
  | some (.tuple vs)=>match vs[i]? with | some v=>next (σ.set dst v) H | none=>False
  | _=>False
 | .fld off n x=>match σ.get x with
  | some (.agg cs)=>match n with
   | none=>match cs[off]? with | some v=>next (σ.set dst v) H | none=>False
   | some n=>next (σ.set dst (.agg ((cs.toList.drop off).take n).toArray)) H
  | _=>False
 | .fadr off x=>match σ.get x with | some (.pointer (some a))=>next (σ.set dst (.pointer (some (a.add off)))) H | _=>False
 | .iadr esz x i=>match σ.get x,σ.get i with
  | some (.slice A ln _),some (.int _ n)=>∃ a,A=some a∧(0<=n∧n<(ln:Nat))∧next (σ.set dst (.pointer (some (a.add (n.toNat * esz))))) H
  | _,_=>False
 | .ld n x=>P.still H.gh=false∧match σ.get x with
  | some (.pointer (some a))=>match n with
   | none=>∃ v,CellsAt H a [v]∧next (σ.set dst v) H
   | some n=>∃ cs:List Value,cs.length=n∧CellsAt H a cs∧next (σ.set dst (.agg cs.toArray)) H
  | _=>False
 | .len x=>match σ.get x with | some (.slice _ n _)=>next (σ.set dst (.int .i64 (Int.ofNat n))) H | _=>False
 | .lzero d ts z=>P.still H.gh=false∧next (((σ.drop ts).set (some d) (.int .i64 (Int.ofNat 0))).put d z) H
 | .lbox d ts x=>P.still H.gh=false∧match σ.get x with
  | some (.agg cs)=>next (((σ.drop ts).set (some d) (.int .i64 (Int.ofNat 0))).put d cs.toList) H
  | some v=>next (((σ.drop ts).set (some d) (.int .i64 (Int.ofNat 0))).put d v.cells.toList) H
  | none=>False
 | .lfadr off t=>match σ.env t with | some (.int .i64 (.ofNat n))=>next (σ.set dst (.int .i64 (Int.ofNat (n+off)))) H | _=>False
 | .liadr esz ln t i=>match σ.env t,σ.get i with
  | some (.int .i64 (.ofNat n)),some (.int _ j)=>(0<=j∧j<(ln:Nat))∧next (σ.set dst (.int .i64 (Int.ofNat (n+j.toNat * esz)))) H
  | _,_=>False
 | .lld d n t=>P.still H.gh=false∧match σ.env t,σ.box d with
  | some (.int .i64 (.ofNat off)),some cs=>match n with
   | none=>Zl2 cs off fun v=>next (σ.set dst v) H
   | some n=>match Nat.ble (off+n) cs.length with
    | true=>next (σ.set dst (.agg ((cs.drop off).take n).toArray)) H
    | false=>False
  | _,_=>False
 | .lst d n t x=>P.still H.gh=false∧match σ.env t,σ.box d,σ.get x with
  | some (.int .i64 (.ofNat off)),some cs,some v=>(v.cells.size=n∧off+n<=cs.length∧(v.cells.toList.all Value.isOne)=true)∧next (σ.put d (ZaM cs off v.cells.toList)) H
  | _,_,_=>False
 | .call f args=>match σ.gets args with
  | some vs=>Zag P f vs.toArray H fun v H'=>next (σ.set dst v) H'
  | none=>False
 | .build z ps=>match buildV σ ps z with | some cs=>next (σ.set dst (.agg cs.toArray)) H | none=>False
 | .buildS e ln z ps=>P.still H.gh=false∧match buildV σ ps z with
  | some cs=>∀ r,H r=none->next (σ.set dst (.slice (some ⟨r,0,none⟩) ln ln)) (H.ins r (.cells cs.toArray e))
  | none=>False
 | .raw op ty=>(op.operands.all fun x=>(σ.get x).isSome)=true∧(wpL P (execOp (fun x=>(σ.get x).getD undef) (bare op ty)) (fun n g H'=>g=true∨RawN P op dst next σ n H') false H ∨
   ShOp P (execOp (fun x=>(σ.get x).getD undef) (bare op ty)) (Zb7 P (bare op ty)) false H fun v H'=>next (σ.set dst v) H')
 | .rawn op ty=>(op.operands.all fun x=>(σ.get x).isSome)=true∧ShOp P (execOp (fun x=>(σ.get x).getD undef) (bare op ty)) (Zb7 P (bare op ty)) true H fun v H'=>next (σ.set dst v) H'
 | .pur op ty=>(op.operands.all fun x=>(σ.get x).isSome)=true∧∃ v,PureVal P (execOp (fun x=>(σ.get x).getD undef) (bare op ty)) v∧next (σ.set dst v) H
theorem NOp.m_w {P:Prg}{op:NOp}{dst:Option Nat}{next next':NSt->Hp->Prop}{σ:NSt}{H:Hp}(hn:∀ σ H,next σ H->next' σ H)(h:op.m P dst next σ H):op.w P dst next' σ H:=by
 cases op<;>simp only[NOp.m]at h<;>simp only[NOp.w]
 case mov x=>split at h;exact⟨_,‹_›,hn _ _ h⟩;exact h.elim
 case pick c a b=>
  split at h
  ·split at h;exact⟨true,_,‹_›,‹_›,hn _ _ h⟩;exact h.elim
  ·split at h;exact⟨false,_,‹_›,‹_›,hn _ _ h⟩;exact h.elim
  ·exact h.elim
 case bin op x y=>
  split at h
  ·split at h
   ·rename_i hk
    obtain rfl:=Zmu hk
    obtain⟨v,h1,h2⟩:=binM_V h
    exact⟨_,_,_,v,‹_›,‹_›,h1,hn _ _ h2⟩
   ·exact h.elim
  ·exact h.elim
 case not x=>split at h;exact⟨true,‹_›,hn _ _ h⟩;exact⟨false,‹_›,hn _ _ h⟩;exact h.elim
 case ext x i=>
  split at h
  ·split at h;exact⟨_,_,‹_›,‹_›,hn _ _ h⟩;exact h.elim
  ·exact h.elim
 case fld off n x=>
  split at h
  ·cases n with
   | none=>simp only at h;split at h;exact⟨_,‹_›,_,‹_›,hn _ _ h⟩;exact h.elim
   | some n=>
    rename_i cs hx
    refine⟨cs,hx,?_⟩
    have:cs.extract off (off+n)=((cs.toList.drop off).take n).toArray:=by
     apply Array.ext'
     simp[Array.toList_extract]
    simp only
    rw[this]
    exact hn _ _ h
  ·exact h.elim
 case fadr off x=>split at h;exact⟨_,‹_›,hn _ _ h⟩;exact h.elim
 case iadr esz x i=>
  split at h
  ·obtain⟨a,rfl,h1,h2⟩:=h
   exact⟨a,_,_,_,_,‹_›,‹_›,h1.1,h1.2,hn _ _ h2⟩
  ·exact h.elim
 case ld n x=>
  obtain⟨hst,h⟩:=h
  refine⟨hst,?_⟩
  split at h
  ·cases n with
   | none=>
    obtain⟨v,⟨h1,o,p,h2,h3⟩,h4⟩:=h
    exact⟨_,o,p,‹_›,h1,h2,v,by simpa using h3 0 (by simp),hn _ _ h4⟩
   | some n=>
    obtain⟨cs,h0,⟨h1,o,p,h2,h3⟩,h4⟩:=h
    exact⟨_,o,p,‹_›,h1,h2,cs,h0,fun j hj=>h3 j (by omega),hn _ _ h4⟩
  ·exact h.elim
 case len x=>split at h;exact⟨_,_,_,‹_›,hn _ _ h⟩;exact h.elim
 case lzero d ts z=>exact⟨h.1,hn _ _ h.2⟩
 case lbox d ts x=>obtain⟨hs,h⟩:=h;refine⟨hs,?_⟩;split at h;exact⟨_,‹_›,hn _ _ (by exact h)⟩;exact⟨_,‹_›,hn _ _ (by exact h)⟩;exact h.elim
 case lfadr off t=>split at h;exact⟨_,‹_›,hn _ _ h⟩;exact h.elim
 case liadr esz ln t i=>
  split at h
  ·exact⟨_,_,_,‹_›,‹_›,h.1.1,h.1.2,hn _ _ h.2⟩
  ·exact h.elim
 case lld d n t=>
  obtain⟨hst,h⟩:=h
  refine⟨hst,?_⟩
  split at h
  ·cases n with
   | none=>obtain⟨v,h1,h2⟩:=h;exact⟨_,_,‹_›,‹_›,v,h1,hn _ _ h2⟩
   | some n=>
    simp only at h
    split at h
    ·rename_i hle
     exact⟨_,_,‹_›,‹_›,Nat.le_of_ble_eq_true hle,hn _ _ h⟩
    ·exact h.elim
  ·exact h.elim
 case lst d n t x=>
  obtain⟨hst,h⟩:=h
  refine⟨hst,?_⟩
  split at h
  ·obtain⟨⟨h1,h2,h3⟩,h4⟩:=h
   refine⟨_,_,_,‹_›,‹_›,‹_›,h1,h2,h3,?_⟩
   have:=hn _ _ h4
   unfold ZaM at this
   rw[Array.length_toList,h1]at this
   exact this
  ·exact h.elim
 case call f args=>
  split at h
  ·exact⟨_,‹_›,Zag.mono h fun v H hv=>hn _ _ hv⟩
  ·exact h.elim
 case build z ps=>split at h;exact⟨_,‹_›,hn _ _ h⟩;exact h.elim
 case buildS e ln z ps=>obtain⟨hs,h⟩:=h;refine⟨hs,?_⟩;split at h;exact⟨_,‹_›,fun r hr=>hn _ _ (h r hr)⟩;exact h.elim
 case rawn op ty=>exact⟨h.1,h.2.mono fun v H hv=>hn _ _ hv⟩
 case pur op ty=>obtain⟨h1,v,h2,h3⟩:=h;exact⟨h1,v,h2,hn _ _ h3⟩
 case raw op ty=>
  refine⟨h.1,h.2.imp (Za2 fun n g H' h=>h.imp id (RawN.mono hn)) (ShOp.mono · fun v H hv=>hn _ _ hv)⟩
def MOps (P:Prg):List NI->(NSt->Hp->Prop)->NSt->Hp->Prop
 | [],Q,σ,H=>Q σ H
 | ⟨none,d,op⟩ :: r,Q,σ,H=>op.m P d (MOps P r Q) σ H
 | ⟨some (t,true),d,op⟩ :: r,Q,σ,H=>match σ.env t with
  | some (.bool true)=>op.m P d (MOps P r Q) σ H
  | some (.bool false)=>MOps P r Q (σ.unset d) H
  | some (.tuple _)=>MOps P r Q (σ.unset d) H
  | _=>False
 | ⟨some (t,false),d,op⟩ :: r,Q,σ,H=>match σ.env t with
  | some (.bool false)=>op.m P d (MOps P r Q) σ H
  | some (.bool true)=>MOps P r Q (σ.unset d) H
  | some (.tuple _)=>MOps P r Q (σ.unset d) H
  | _=>False
theorem MOps.n {P:Prg}{Q Q':NSt->Hp->Prop}(hq:∀ σ H,Q σ H->Q' σ H):∀ {l:List NI} {σ:NSt} {H:Hp},MOps P l Q σ H->NOps P l Q' σ H
 | [],σ,H,h=>hq _ _ h
 | ⟨none,d,op⟩ :: r,σ,H,h=>NOp.m_w (fun σ H h=>MOps.n hq h) h
 | ⟨some (t,true),d,op⟩ :: r,σ,H,h=>by
  exact qLlM0
 | ⟨some (t,false),d,op⟩ :: r,σ,H,h=>by
  exact qLlM0
end Go.LL
end
