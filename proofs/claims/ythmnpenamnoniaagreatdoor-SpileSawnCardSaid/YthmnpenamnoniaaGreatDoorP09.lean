import Derived.Test.YthmnpenamnoniaaGreatDoorP08
set_option linter.all false
section
namespace Go.LL
theorem qLlR0 {G:Prop} (h:G:=by
  simp only[Zbv]at h
  simp only[FOps,NI.w]
  obtain⟨hst,h⟩:=h
  refine⟨hst,?_⟩
  split at h
  ·exact⟨_,‹_›,fun _=>NOp.m_w (ZiF fun σ H h=>Zbv.n hq h) h,fun e=>absurd rfl e⟩
  ·exact⟨_,‹_›,fun e=>by simp at e,fun _=>⟨.refl _ H,Zbv.n hq h⟩⟩
  ·exact⟨_,‹_›,fun e=>by simp at e,fun _=>⟨.refl _ H,Zbv.n hq h⟩⟩
  ·exact h.elim):G:=h
def kept (P:PQ)(H:Hp)(f:Option Bool)(K:NSt->Hp->Prop):NSt->Hp->Prop:=
 match f with
 | some true=>fun σ' H'=>(P.still H'.gh=P.still H.gh∧∀ b x,H b=some x->H' b=some x)∧K σ' H'
 | some false=>fun σ' H'=>P.still H'.gh=P.still H.gh∧K σ' H'
 | none=>K
theorem ZiF {P:PQ}{H:Hp}{f:Option Bool}{K K':NSt->Hp->Prop}(hk:∀ σ H,K σ H->K' σ H):∀ σ' H',kept P H f K σ' H'->Kpt P f H H'∧K' σ' H':=by
 intro σ' H' h
 match f,h with
 | some true,h=>exact⟨fun s e=>⟨h.1.1,fun _=>h.1.2⟩,hk _ _ h.2⟩
 | some false,h=>exact⟨fun s e=>by obtain rfl:=Option.some.inj e;exact⟨h.1,fun e=>by simp at e⟩,hk _ _ h.2⟩
 | none,h=>exact⟨fun s e=>by simp at e,hk _ _ h⟩
def Zbv (P:Prg):List (NI×Option Bool)->(NSt->Hp->Prop)->NSt->Hp->Prop
 | [],Q,σ,H=>Q σ H
 | (⟨none,d,op⟩,f) :: r,Q,σ,H=>P.still H.gh=false∧op.m P d (kept P.toPQ H f (Zbv P r Q)) σ H
 | (⟨some (t,true),d,op⟩,f) :: r,Q,σ,H=>P.still H.gh=false∧match σ.env t with
  | some (.bool true)=>op.m P d (kept P.toPQ H f (Zbv P r Q)) σ H
  | some (.bool false)=>Zbv P r Q (σ.unset d) H
  | some (.tuple _)=>Zbv P r Q (σ.unset d) H
  | _=>False
 | (⟨some (t,false),d,op⟩,f) :: r,Q,σ,H=>P.still H.gh=false∧match σ.env t with
  | some (.bool false)=>op.m P d (kept P.toPQ H f (Zbv P r Q)) σ H
  | some (.bool true)=>Zbv P r Q (σ.unset d) H
  | some (.tuple _)=>Zbv P r Q (σ.unset d) H
  | _=>False
theorem Zbv.n {P:Prg}{Q Q':NSt->Hp->Prop}(hq:∀ σ H,Q σ H->Q' σ H):∀ {l:List (NI×Option Bool)} {σ:NSt} {H:Hp},Zbv P l Q σ H->FOps P l Q' σ H
 | [],σ,H,h=>hq _ _ h
 | (⟨none,d,op⟩,f) :: r,σ,H,h=>⟨h.1,NOp.m_w (ZiF fun σ H h=>Zbv.n hq h) h.2⟩
 | (⟨some (t,true),d,op⟩,f) :: r,σ,H,h=>by
  exact qLlR0
 | (⟨some (t,false),d,op⟩,f) :: r,σ,H,h=>by
  exact qLlR0
def stOf (defs:List Deferred)(env:List (Nat×Value))(box:List (Nat×List Value)):NSt:={ env:=fun t=>env.lookup t,box:=fun t=>box.lookup t,defs:=defs }
def LeE:List (Nat×Value)->NSt->Prop
 | [],_=>True
 | (t,v) :: r,σ=>σ.env t=some v∧LeE r σ
def LeB:List (Nat×List Value)->NSt->Prop
 | [],_=>True
 | (t,v) :: r,σ=>σ.box t=some v∧LeB r σ
theorem LeE.le:∀ {env:List (Nat×Value)} {σ:NSt},LeE env σ->∀ t v,env.lookup t=some v->σ.env t=some v
 | [],σ,_,t,v,h=>by simp at h
 | (s,u) :: r,σ,hl,t,v,h=>by
  simp only[List.lookup_cons]at h
  split at h
  ·rename_i e
   simp only[Option.some.injEq]at h
   subst h
   have:t=s:=by simpa using e
   subst this
   exact hl.1
  ·exact LeE.le hl.2 t v h
theorem LeB.le:∀ {env:List (Nat×List Value)} {σ:NSt},LeB env σ->∀ t v,env.lookup t=some v->σ.box t=some v
 | [],σ,_,t,v,h=>by simp at h
 | (s,u) :: r,σ,hl,t,v,h=>by
  simp only[List.lookup_cons]at h
  split at h
  ·rename_i e
   simp only[Option.some.injEq]at h
   subst h
   have:t=s:=by simpa using e
   subst this
   exact hl.1
  ·exact LeB.le hl.2 t v h
def Zaj.m (P:Prg):Zaj->(Ex->NSt->Hp->Prop)->NSt->Hp->Prop
 | .skip,Q,σ,H=>Q .normal σ H
 | .ops l,Q,σ,H=>MOps P l (Q .normal) σ H
 | .drawn l,Q,σ,H=>P.still H.gh=false∧Zbv P l (Q .normal) σ H
 | .two l1 l2,Q,σ,H=>P.still H.gh=false∧Zbv P l1 (Q .normal) σ H∧Zbv P l2 (Q .normal) σ H
 | .seq a b,Q,σ,H=>a.m P (NEx.then (b.m P Q) Q) σ H∨Esc P a b Q σ H∨∃ (ι:Type) (I:ι->Hp->Prop) (env:ι->List (Nat×Value)) (box:ι->List (Nat×List Value)),
   a.m P (NEx.then (fun σ' H'=>∃ i,I i H'∧LeE (env i) σ'∧LeB (box i) σ'∧σ'.defs=σ.defs) Q) σ H∧∀ i H,I i H->b.m P Q (stOf σ.defs (env i) (box i)) H
 | .cond c t e,Q,σ,H=>match σ.get c with
  | some (.bool true)=>t.m P Q σ H
  | some (.bool false)=>e.m P Q σ H
  | _=>False
 | .block id b,Q,σ,H=>b.m P (NEx.inBlock id Q) σ H
 | .loop b,Q,σ,H=>∃ (ι:Type) (I:ι->Hp->Prop) (μ:ι->Nat) (env:ι->List (Nat×Value)) (box:ι->List (Nat×List Value)) (i:ι),I i H∧(LeE (env i) σ∧LeB (box i) σ) ∧
   ∀ i H,I i H->b.m P (NEx.then (fun σ' H'=>∃ j,μ j<μ i∧I j H'∧LeE (env j) σ'∧LeB (box j) σ'∧σ'.defs=σ.defs) Q) (stOf σ.defs (env i) (box i)) H
 | .exit id,Q,σ,H=>Q (.exit id) σ H
 | .ret,Q,σ,H=>Q .ret σ H
 | .rfun f ps as bd,Q,σ,H=>(∀ g,P.still g=false)∧match σ.get f with
  | some fv=>∃ (N:Hp->Prop) (xs:List (List Value)),Iter P fv N xs∧(∀ x∈xs,x.length=ps.length) ∧
   ∃ (I:Nat->Hp->Prop) (S:Ex->Hp->Prop),I 0 H∧(∀ n,Up (I n))∧(∀ e,Up (S e))∧(∀ n H,I n H->N H) ∧
   (∀ n (hn:n<xs.length) H,I n H->as.m P (NEx.then (bd.m P (Zhv (I (n+1)) S)) noEnd) (σ.bare.round ps xs[n]) H) ∧
   (∀ H,I xs.length H->Q .normal σ H)∧∀ e H,e≠.normal->S e H->Q e σ H
  | none=>False
theorem NEx.then_mono {next next':NSt->Hp->Prop}{Q Q':Ex->NSt->Hp->Prop}(h1:∀ σ H,next σ H->next' σ H)(h2:∀ e σ H,Q e σ H->Q' e σ H):∀ e σ H,NEx.then next Q e σ H->NEx.then next' Q' e σ H:=by
 intro e σ H h
 cases e with
 | normal=>exact h1 _ _ h
 | exit id=>exact h2 _ _ _ h
 | ret=>exact h2 _ _ _ h
theorem NEx.inBlock_mono {id:Nat}{Q Q':Ex->NSt->Hp->Prop}(h2:∀ e σ H,Q e σ H->Q' e σ H):∀ e σ H,NEx.inBlock id Q e σ H->NEx.inBlock id Q' e σ H:=by
 intro e σ H h
 cases e with
 | normal=>exact h2 _ _ _ h
 | exit id'=>
  simp only[NEx.inBlock]at h ⊢
  split
  ·rename_i e;rw[if_pos e]at h;exact h2 _ _ _ h
  ·rename_i e;rw[if_neg e]at h;exact h2 _ _ _ h
 | ret=>exact h2 _ _ _ h
theorem Zaj.m_w {P:Prg}:∀ {n:Zaj} {Q Q':Ex->NSt->Hp->Prop} {σ:NSt} {H:Hp},(∀ e σ H,Q e σ H->Q' e σ H)->n.m P Q σ H->n.w P Q' σ H
 | .skip,Q,Q',σ,H,hq,h=>hq _ _ _ h
 | .ops l,Q,Q',σ,H,hq,h=>MOps.n (hq .normal) h
 | .drawn l,Q,Q',σ,H,hq,h=>⟨h.1,Zbv.n (hq .normal) h.2⟩
 | .two l1 l2,Q,Q',σ,H,hq,h=>⟨h.1,Zbv.n (hq .normal) h.2.1,Zbv.n (hq .normal) h.2.2⟩
 | .seq a b,Q,Q',σ,H,hq,h=>by
  rcases h with h | h | ⟨ι,I,env,box,h1,h2⟩
  ·exact .inl (Zaj.m_w (n:=a) (NEx.then_mono (fun σ H h=>Zaj.m_w (n:=b) hq h) hq) h)
  ·exact .inr (.inl (Esc.mono hq h))
  ·exact .inr (.inr ⟨ι,I,fun i=>stOf σ.defs (env i) (box i),Zaj.m_w (n:=a) (NEx.then_mono (fun σ' H ⟨i,g1,g2,g3,g4⟩=>⟨i,g1,⟨LeE.le g2,LeB.le g3,g4⟩⟩) hq) h1,fun i H hi=>Zaj.m_w (n:=b) hq (h2 i H hi)⟩)
 | .cond c t e,Q,Q',σ,H,hq,h=>by
  simp only[Zaj.m]at h
  split at h
  ·exact⟨true,‹_›,fun _=>Zaj.m_w (n:=t) hq h,fun e=>by simp at e⟩
  ·exact⟨false,‹_›,fun e=>by simp at e,fun _=>Zaj.m_w (n:=e) hq h⟩
  ·exact h.elim
 | .block id b,Q,Q',σ,H,hq,h=>Zaj.m_w (n:=b) (NEx.inBlock_mono hq) h
 | .loop b,Q,Q',σ,H,hq,h=>by
  obtain⟨ι,I,μ,env,box,i,h0,hl,hr⟩:=h
  refine⟨ι,I,μ,fun i=>stOf σ.defs (env i) (box i),i,h0,⟨LeE.le hl.1,LeB.le hl.2,rfl⟩,fun i H hI=>?_⟩
  exact Zaj.m_w (n:=b) (NEx.then_mono (fun σ' H ⟨j,h1,h2,h3,h4,h5⟩=>⟨j,h1,h2,⟨LeE.le h3,LeB.le h4,h5⟩⟩) hq) (hr i H hI)
 | .exit id,Q,Q',σ,H,hq,h=>hq _ _ _ h
 | .ret,Q,Q',σ,H,hq,h=>hq _ _ _ h
 | .rfun f ps as bd,Q,Q',σ,H,hq,h=>by
  obtain⟨hs,h⟩:=h
  refine⟨hs,?_⟩
  split at h
  ·obtain⟨N,xs,h1,h2,I,S,h3,h4,h5,h6,h7,h8,h9⟩:=h
   exact⟨N,xs,_,‹_›,h1,h2,I,S,h3,h4,h5,h6,fun n hn H hI=>Zaj.m_w (n:=as) (NEx.then_mono (fun σ H h=>Zaj.m_w (n:=bd) (fun _ _ _ h=>h) h) (fun _ _ _ h=>h)) (h7 n hn H hI),
    fun H hI=>hq _ _ _ (h8 H hI),fun e H he hS=>hq _ _ _ (h9 e H he hS)⟩
  ·exact h.elim
def Zeq (P:Prg)(rs:List NRes)(Post:Value->Hp->Prop)(σ:NSt)(H:Hp):Prop:=ZjG P rs Post σ H
def MFin (P:Prg)(rs:List NRes)(Post:Value->Hp->Prop):Ex->NSt->Hp->Prop
 | .exit _,_,_=>False
 | .normal,σ,H=>Zeq P rs Post σ H
 | .ret,σ,H=>Zeq P rs Post σ H
theorem IsN.mK {P:Prg}{kd:CallKind}(hkd:kd=.normal∨kd=.deferred){f:FuncId}{k:Nat}{n:Zaj}{rs:List NRes}(h:IsN P f k n rs){args:List Value}{H:Hp}{Post:Value->Hp->Prop}(hk:args.length=k)(hw:n.m P (MFin P rs Post) (env0 args) H):ZbE P kd f args.toArray H Post:=by
 refine h.callsK hkd hk ?_
 unfold NFn
 refine Zaj.m_w ?_ hw
 intro e σ H h
 cases e with
 | exit id=>exact h
 | normal=>exact h
 | ret=>exact h
theorem IsN.m {P:Prg}{f:FuncId}{k:Nat}{n:Zaj}{rs:List NRes}(h:IsN P f k n rs){args:List Value}{H:Hp}{Post:Value->Hp->Prop}(hk:args.length=k)(hw:n.m P (MFin P rs Post) (env0 args) H):Zag P f args.toArray H Post:=
 (h.mK (.inl rfl) hk hw).calls
end Go.LL
end
section
namespace Go.LL
section
variable  {P:Prg}{d:Option Nat}{r:List NI}{op:NOp}{Q:NSt->Hp->Prop}{next:NSt->Hp->Prop}{σ:NSt}{H:Hp}{x y z:Operand}{v:Value}
theorem ZgY (h:Q σ H):MOps P [] Q σ H:=h
theorem mo_n (h:op.m P d (MOps P r Q) σ H):MOps P (⟨none,d,op⟩ :: r) Q σ H:=h
theorem mo_g {t:Nat}{b:Bool}(e:σ.env t=some (.bool b))(h:op.m P d (MOps P r Q) σ H):MOps P (⟨some (t,b),d,op⟩ :: r) Q σ H:=by
 cases b<;>(simp only[MOps,e];exact h)
theorem mo_s {t:Nat}{b b':Bool}(e:σ.env t=some (.bool b'))(hb:b'=!b)(h:MOps P r Q (σ.unset d) H):MOps P (⟨some (t,b),d,op⟩ :: r) Q σ H:=by
 subst hb
 cases b<;>(simp only[MOps,e,Bool.not_true,Bool.not_false];exact h)
theorem mo_k {t:Nat}{b:Bool}(e:σ.env t=some undef)(h:MOps P r Q (σ.unset d) H):MOps P (⟨some (t,b),d,op⟩ :: r) Q σ H:=by
 cases b<;>(simp only[MOps,e,undef];exact h)
theorem ZgT (e:σ.get x=some v)(h:next (σ.set d v) H):(NOp.mov x).m P d next σ H:=by simp only[NOp.m,e];exact h
theorem ZeE {b:Bool}(e:σ.get x=some (.bool b))(e2:σ.get (bif b then y else z)=some v)(h:next (σ.set d v) H):(NOp.pick x y z).m P d next σ H:=by
 cases b<;>(simp only[cond_true,cond_false]at e2;simp only[NOp.m,e,e2];exact h)
theorem ZgQ {b:Bool}(e:σ.get x=some (.bool b))(h:next (σ.set d (.bool !b)) H):(NOp.not x).m P d next σ H:=by
 cases b<;>(simp only[NOp.m,e];exact h)
theorem ZaY {o:BinOp}{k k':IntKind}{m n:Int}(e1:σ.get x=some (.int k m))(e2:σ.get y=some (.int k' n))(hk:ZbC k k'=true)(h:binM o k m n fun v=>next (σ.set d v) H):(NOp.bin o x y).m P d next σ H:=by
 simp only[NOp.m,e1,e2,hk];exact h
theorem ZeF {a:Addr}{off:Nat}(e:σ.get x=some (.pointer (some a)))(h:next (σ.set d (.pointer (some (a.add off)))) H):(NOp.fadr off x).m P d next σ H:=by simp only[NOp.m,e];exact h
theorem ZgV {vs:Array Value}{i:Nat}(e:σ.get x=some (.tuple vs))(e2:vs[i]? = some v)(h:next (σ.set d v) H):(NOp.ext x i).m P d next σ H:=by simp only[NOp.m,e,e2];exact h
theorem om_call {f:FuncId}{xs:List Operand}{vs:List Value}(e:σ.gets xs=some vs)(h:Zag P f vs.toArray H fun v H'=>next (σ.set d v) H'):(NOp.call f xs).m P d next σ H:=by simp only[NOp.m,e];exact h
theorem Zab {f:FuncId}{xs:List Operand}{vs:List Value}{Post:Value->Hp->Prop}(e:σ.gets xs=some vs)(hc:Zag P f vs.toArray H Post)(h:∀ v H',Post v H'->next (σ.set d v) H'):(NOp.call f xs).m P d next σ H:=om_call e (Zag.mono hc h)
theorem Zl3 {o:Op}{ty:TypeId}(ha:(o.operands.all fun x=>(σ.get x).isSome)=true)(e:execOp (fun x=>(σ.get x).getD undef) (bare o ty)=pure (.value v))(h:next (σ.set d v) H):(NOp.raw o ty).m P d next σ H:=by
 refine⟨ha,.inl ?_⟩
 rw[e]
 exact .inr h
theorem ZgR {ty:TypeId}{a:Addr}(e:σ.get x=some (.pointer (some a)))(h:next (σ.set d (.pointer (some a))) H):(NOp.raw (.nilCheck x) ty).m P d next σ H:=by
 refine Zl3 (by simp[Op.operands,e]) ?_ h
 simp[execOp,bare,e]
def bitV (o:BinOp)(k:IntKind)(m n:Int):Value:=
 match o with
 | .and=>.int k (k.wrap (BitVec.ofInt k.bits m &&& BitVec.ofInt k.bits n).toNat)
 | .or=>.int k (k.wrap (BitVec.ofInt k.bits m ||| BitVec.ofInt k.bits n).toNat)
 | .andNot=>.int k (k.wrap (BitVec.ofInt k.bits m &&& ~~~ BitVec.ofInt k.bits n).toNat)
 | .sub=>.int k (k.wrap (m-n))
 | .shr=>.int k (m.fdiv (2 ^ min n.toNat k.bits))
 | .shl=>.int k (k.wrap (m * 2 ^ min n.toNat k.bits))
 | _=>undef
theorem Zam {o:BinOp}{t t2 ty:TypeId}{k:IntKind}{m n:Int}(e1:σ.get x=some (.int k m))(e2:σ.get y=some (.int k n))(ho:o=.and∨o=.or∨o=.andNot∨o=.sub)(hv:bitV o k m n=v)(h:next (σ.set d v) H) :
  (NOp.raw (.binOp o t x y t2) ty).m P d next σ H:=by
 refine Zl3 (by simp[Op.operands,e1,e2]) ?_ h
 subst hv
 rcases ho with rfl | rfl | rfl | rfl<;>simp[execOp,bare,e1,e2,eqGuard,binOp,Op.intBits,Op.intArith,bitV]
theorem Za5 {o:BinOp}{t t2 ty:TypeId}{k k2:IntKind}{m n:Int}(e1:σ.get x=some (.int k m))(e2:σ.get y=some (.int k2 n))(ho:o=.shr∨o=.shl)(hn:0<=n)(hv:bitV o k m n=v)(h:next (σ.set d v) H) :
  (NOp.raw (.binOp o t x y t2) ty).m P d next σ H:=by
 refine Zl3 (by simp[Op.operands,e1,e2]) ?_ h
 subst hv
 have:¬ n<0:=by omega
 rcases ho with rfl | rfl<;>simp[execOp,bare,e1,e2,eqGuard,binOp,Op.shift,bitV,this]
theorem Zb3:∀ {xs:List Operand} {vs:List Value},σ.gets xs=some vs->xs.map (fun x=>(σ.get x).getD undef)=vs∧(xs.all fun x=>(σ.get x).isSome)=true
 | [],vs,h=>by simp only[NSt.gets,Option.some.injEq]at h;subst h;exact⟨rfl,rfl⟩
 | x :: r,vs,h=>by
  simp only[NSt.gets]at h
  split at h
  ·rename_i v vs' e1 e2
   simp only[Option.some.injEq]at h
   subst h
   obtain⟨h1,h2⟩:=Zb3 e2
   simp[e1,h1,h2]
  ·simp at h
theorem ZiQ {ρ:Operand->Value}{f:FuncId}{as:Array Operand}{ts:Array TypeId}{ty:TypeId}(hf:ρ (.func f)=.func (.func f) #[] #[]):execOp ρ (bare (.call { callee:=.value (.func f),args:=as,argTypes:=ts }) ty)=callFunc f (as.map ρ):=by
 simp[execOp,bare,resolve,Deferred.ofValue,hf,invoke]
theorem ZaV {k k':IntKind}{m n:Int}(e1:σ.get x=some (.int k m))(e2:σ.get y=some (.int k' n))(hk:ZbC k k'=true)(hh:m=n)(h:next (σ.set d (.bool true)) H):(NOp.bin .eql x y).m P d next σ H:=
 ZaY e1 e2 hk fun b hb=>by
  have:b=true:=by cases b<;>simp_all<;>omega
  rw[this];exact h
theorem ZaD {k k':IntKind}{m n:Int}(e1:σ.get x=some (.int k m))(e2:σ.get y=some (.int k' n))(hk:ZbC k k'=true)(hh:¬ m=n)(h:next (σ.set d (.bool false)) H):(NOp.bin .eql x y).m P d next σ H:=
 ZaY e1 e2 hk fun b hb=>by
  have:b=false:=by cases b<;>simp_all<;>omega
  rw[this];exact h
theorem Za8 {k k':IntKind}{m n:Int}(e1:σ.get x=some (.int k m))(e2:σ.get y=some (.int k' n))(hk:ZbC k k'=true)(hh:m≠n)(h:next (σ.set d (.bool true)) H):(NOp.bin .neq x y).m P d next σ H:=
 ZaY e1 e2 hk fun b hb=>by
  have:b=true:=by cases b<;>simp_all<;>omega
  rw[this];exact h
theorem ZaA {k k':IntKind}{m n:Int}(e1:σ.get x=some (.int k m))(e2:σ.get y=some (.int k' n))(hk:ZbC k k'=true)(hh:m=n)(h:next (σ.set d (.bool false)) H):(NOp.bin .neq x y).m P d next σ H:=
 ZaY e1 e2 hk fun b hb=>by
  have:b=false:=by cases b<;>simp_all<;>omega
  rw[this];exact h
theorem om_lt_t {k k':IntKind}{m n:Int}(e1:σ.get x=some (.int k m))(e2:σ.get y=some (.int k' n))(hk:ZbC k k'=true)(hh:m<n)(h:next (σ.set d (.bool true)) H):(NOp.bin .lss x y).m P d next σ H:=
 ZaY e1 e2 hk fun b hb=>by
  have:b=true:=by cases b<;>simp_all<;>omega
  rw[this];exact h
theorem ZhD {k k':IntKind}{m n:Int}(e1:σ.get x=some (.int k m))(e2:σ.get y=some (.int k' n))(hk:ZbC k k'=true)(hh:¬ m<n)(h:next (σ.set d (.bool false)) H):(NOp.bin .lss x y).m P d next σ H:=
 ZaY e1 e2 hk fun b hb=>by
  have:b=false:=by cases b<;>simp_all<;>omega
  rw[this];exact h
theorem ZfY {k k':IntKind}{m n:Int}(e1:σ.get x=some (.int k m))(e2:σ.get y=some (.int k' n))(hk:ZbC k k'=true)(hh:m > n)(h:next (σ.set d (.bool true)) H):(NOp.bin .gtr x y).m P d next σ H:=
 ZaY e1 e2 hk fun b hb=>by
  have:b=true:=by cases b<;>simp_all<;>omega
  rw[this];exact h
theorem ZhI {k k':IntKind}{m n:Int}(e1:σ.get x=some (.int k m))(e2:σ.get y=some (.int k' n))(hk:ZbC k k'=true)(hh:¬ m > n)(h:next (σ.set d (.bool false)) H):(NOp.bin .gtr x y).m P d next σ H:=
 ZaY e1 e2 hk fun b hb=>by
  have:b=false:=by cases b<;>simp_all<;>omega
  rw[this];exact h
theorem ZcW {rs:List NRes}{Post:Value->Hp->Prop}{vs:List Value}(hd:σ.defs=[])(hc:rs.any NRes.cell=false)(hv:Zhx σ rs=some vs)(h:Post (Zbd vs) H):Zeq P rs Post σ H:=by
 unfold Zeq ZjG
 rw[hd]
 exact⟨fun e=>by rw[hc]at e;simp at e,vs,Zfl hv,h⟩
theorem Ze1 {rs:List NRes}{Post:Value->Hp->Prop}(h:Zeq P rs Post σ H):MFin P rs Post .normal σ H:=h
theorem Zdh {rs:List NRes}{Post:Value->Hp->Prop}(h:Zeq P rs Post σ H):MFin P rs Post .ret σ H:=h
variable  {Qe:Ex->NSt->Hp->Prop}{a b c:Zaj}{id:Nat}
theorem ZgX {l:List NI}(h:MOps P l (Qe .normal) σ H):(Zaj.ops l).m P Qe σ H:=h
theorem Zbn (h:a.m P (NEx.then (b.m P Qe) Qe) σ H):(Zaj.seq a b).m P Qe σ H:=.inl h
theorem nc_esc (h:Esc P a b Qe σ H):(Zaj.seq a b).m P Qe σ H:=.inr (.inl h)
theorem ZbX {ι:Type}(I:ι->Hp->Prop)(env:ι->List (Nat×Value))(box:ι->List (Nat×List Value))(h1:a.m P (NEx.then (fun σ' H'=>∃ i,I i H'∧LeE (env i) σ'∧LeB (box i) σ'∧σ'.defs=σ.defs) Qe) σ H)
  (h2:∀ i H,I i H->b.m P Qe (stOf σ.defs (env i) (box i)) H):(Zaj.seq a b).m P Qe σ H:=.inr (.inr ⟨ι,I,env,box,h1,h2⟩)
theorem ZeH (h:Qe .normal σ H):Zaj.skip.m P Qe σ H:=h
theorem ZgW (h:Qe .ret σ H):Zaj.ret.m P Qe σ H:=h
theorem ZeJ (h:Qe (.exit id) σ H):(Zaj.exit id).m P Qe σ H:=h
theorem Zdw (h:a.m P (NEx.inBlock id Qe) σ H):(Zaj.block id a).m P Qe σ H:=h
theorem Zcs {t:Bool}(e:σ.get x=some (.bool t))(h:(bif t then a else b).m P Qe σ H):(Zaj.cond x a b).m P Qe σ H:=by
 cases t<;>(simp only[Zaj.m,e];exact h)
theorem ZcB (e:σ.get x=some (.bool true))(h:a.m P Qe σ H):(Zaj.cond x a b).m P Qe σ H:=Zcs e h
theorem ZcC (e:σ.get x=some (.bool false))(h:b.m P Qe σ H):(Zaj.cond x a b).m P Qe σ H:=Zcs e h
theorem ZeN (h:next σ H):NEx.then next Qe .normal σ H:=h
theorem ZcE (h:Qe (.exit id) σ H):NEx.then next Qe (.exit id) σ H:=h
theorem ZcF (h:Qe .ret σ H):NEx.then next Qe .ret σ H:=h
theorem Zla (h:Qe .normal σ H):NEx.inBlock id Qe .normal σ H:=h
theorem ZeQ (h:Qe .ret σ H):NEx.inBlock id Qe .ret σ H:=h
theorem ZeP (h:Qe .normal σ H):NEx.inBlock id Qe (.exit id) σ H:=by simp only[NEx.inBlock,if_true];exact h
theorem ZeO {id':Nat}(hn:Nat.beq id' id=false)(h:Qe (.exit id') σ H):NEx.inBlock id Qe (.exit id') σ H:=by
 have:¬ id'=id:=by rintro rfl;simp at hn
 simp only[NEx.inBlock,if_neg this];exact h
end
structure Wr (p:Prop):Prop where
 out:p
theorem wsT {G G':Prop}(x:G') (h:Wr G'->G:=by
  intro xWr
  repeat first
   | (with_reducible refine mo_n ?_)
   | ((with_reducible apply ZgT);exact rfl)
   | ((with_reducible apply ZgR);exact rfl)
   | ((with_reducible apply ZeF);exact rfl)
   | ((with_reducible apply ZeE);exact rfl;exact rfl)
   | ((with_reducible apply ZgQ);exact rfl)
   | ((with_reducible apply ZgV);exact rfl;exact rfl)
   | ((with_reducible apply mo_g);exact rfl)
   | ((with_reducible apply mo_s);exact rfl;exact rfl)
   | ((with_reducible apply mo_k);exact rfl)
   | (with_reducible refine ZgY ?_)
   | (with_reducible refine ZeN ?_)
   | (with_reducible refine Zbn ?_)
   | (with_reducible refine ZgX ?_)
   | (with_reducible refine Zdw ?_)
   | (with_reducible refine ZeH ?_)
   | (with_reducible refine ZgW ?_)
   | (with_reducible refine ZeJ ?_)
   | (with_reducible refine ZcE ?_)
   | (with_reducible refine ZcF ?_)
   | (with_reducible refine Zla ?_)
   | (with_reducible refine ZeQ ?_)
   | (with_reducible refine ZeP ?_)
   | ((with_reducible apply ZeO);exact rfl)
   | ((with_reducible apply ZcB);exact rfl)
   | ((with_reducible apply ZcC);exact rfl)
   | (with_reducible refine Zdh ?_)
   | (with_reducible refine Ze1 ?_)
   | ((with_reducible apply ZcW);exact rfl;exact rfl;exact rfl)
  exact xWr.out):G:=h ⟨x⟩
theorem w1T {G G':Prop}(x:G') (h:Wr G'->G:=by
  intro xWr
  first
   | (with_reducible refine mo_n ?_)
   | ((with_reducible apply ZgT);exact rfl)
   | ((with_reducible apply ZgR);exact rfl)
   | ((with_reducible apply ZeF);exact rfl)
   | ((with_reducible apply ZeE);exact rfl;exact rfl)
   | ((with_reducible apply ZgQ);exact rfl)
   | ((with_reducible apply ZgV);exact rfl;exact rfl)
   | ((with_reducible apply mo_g);exact rfl)
   | ((with_reducible apply mo_s);exact rfl;exact rfl)
   | ((with_reducible apply mo_k);exact rfl)
   | (with_reducible refine ZgY ?_)
   | (with_reducible refine ZeN ?_)
   | (with_reducible refine Zbn ?_)
   | (with_reducible refine ZgX ?_)
   | (with_reducible refine Zdw ?_)
   | (with_reducible refine ZeH ?_)
   | (with_reducible refine ZgW ?_)
   | (with_reducible refine ZeJ ?_)
   | (with_reducible refine ZcE ?_)
   | (with_reducible refine ZcF ?_)
   | (with_reducible refine Zla ?_)
   | (with_reducible refine ZeQ ?_)
   | (with_reducible refine ZeP ?_)
   | ((with_reducible apply ZeO);exact rfl)
   | ((with_reducible apply ZcB);exact rfl)
   | ((with_reducible apply ZcC);exact rfl)
   | (with_reducible refine Zdh ?_)
   | (with_reducible refine Ze1 ?_)
   | ((with_reducible apply ZcW);exact rfl;exact rfl;exact rfl)
  exact xWr.out):G:=h ⟨x⟩
end Go.LL
end
section
namespace Go.LL
class Loud (P:Prg):Prop where
 loud:∀ g,P.still g=false
section
variable  {P:Prg}{d:Option Nat}{r:List NI}{op:NOp}{Q:NSt->Hp->Prop}{next:NSt->Hp->Prop}{σ:NSt}{H:Hp}{x y z:Operand}{v:Value}
theorem Zke {m n:Int}(e1:σ.get x=some (.int .i64 m))(e2:σ.get y=some (.int .i64 n))(hr:InR (m+n))(h:next (σ.set d (.int .i64 (m+n))) H):(NOp.bin .add x y).m P d next σ H:=ZaY e1 e2 rfl ⟨hr,h⟩
theorem Zj6 {m n:Int}(e1:σ.get x=some (.int .i64 m))(e2:σ.get y=some (.int .i64 n))(hr:InR (m-n))(h:next (σ.set d (.int .i64 (m-n))) H):(NOp.bin .sub x y).m P d next σ H:=ZaY e1 e2 rfl ⟨hr,h⟩
theorem ZgS {m n:Int}(e1:σ.get x=some (.int .i64 m))(e2:σ.get y=some (.int .i64 n))(hr:InR (m * n))(h:next (σ.set d (.int .i64 (m * n))) H):(NOp.bin .mul x y).m P d next σ H:=ZaY e1 e2 rfl ⟨hr,h⟩
theorem Zdn {b:Bool}{p:Prop}[Decidable p](h:b=true↔p):b=decide p:=by
 by_cases hp:p
 ·simp[hp,h]
 ·have:b≠true:=fun e=>hp (h.1 e)
  simp[hp,this]
theorem Zj9 {k k':IntKind}{m n:Int}(e1:σ.get x=some (.int k m))(e2:σ.get y=some (.int k' n))(hk:ZbC k k'=true)(h:next (σ.set d (.bool (decide (m<n)))) H):(NOp.bin .lss x y).m P d next σ H:=ZaY e1 e2 hk fun b hb=>by rw[Zdn hb];exact h
theorem Zka {k k':IntKind}{m n:Int}(e1:σ.get x=some (.int k m))(e2:σ.get y=some (.int k' n))(hk:ZbC k k'=true)(h:next (σ.set d (.bool (decide (m<=n)))) H):(NOp.bin .leq x y).m P d next σ H:=ZaY e1 e2 hk fun b hb=>by rw[Zdn hb];exact h
theorem Zkb {k k':IntKind}{m n:Int}(e1:σ.get x=some (.int k m))(e2:σ.get y=some (.int k' n))(hk:ZbC k k'=true)(h:next (σ.set d (.bool (decide (n<m)))) H):(NOp.bin .gtr x y).m P d next σ H:=ZaY e1 e2 hk fun b hb=>by rw[Zdn (p:=n<m) hb];exact h
theorem Zkc {k k':IntKind}{m n:Int}(e1:σ.get x=some (.int k m))(e2:σ.get y=some (.int k' n))(hk:ZbC k k'=true)(h:next (σ.set d (.bool (decide (n<=m)))) H):(NOp.bin .geq x y).m P d next σ H:=ZaY e1 e2 hk fun b hb=>by rw[Zdn (p:=n<=m) hb];exact h
theorem Zkd {k k':IntKind}{m n:Int}(e1:σ.get x=some (.int k m))(e2:σ.get y=some (.int k' n))(hk:ZbC k k'=true)(h:next (σ.set d (.bool (decide (m=n)))) H):(NOp.bin .eql x y).m P d next σ H:=ZaY e1 e2 hk fun b hb=>by rw[Zdn hb];exact h
theorem Zj7 {k k':IntKind}{m n:Int}(e1:σ.get x=some (.int k m))(e2:σ.get y=some (.int k' n))(hk:ZbC k k'=true)(h:next (σ.set d (.bool !(decide (m=n)))) H):(NOp.bin .neq x y).m P d next σ H:=ZaY e1 e2 hk fun b hb=>by
 have:b=!(decide (m=n)):=by
  by_cases hp:m=n
  ·have:b≠true:=fun e=>(hb.1 e) hp
   simp[hp,this]
  ·simp[hp,hb]
 rw[this];exact h
theorem Zit {a:Option Addr}{n c:Nat}(e:σ.get x=some (.slice a n c))(h:next (σ.set d (.int .i64 (n:Int))) H):(NOp.len x).m P d next σ H:=by simp only[NOp.m,e];exact h
theorem om_iadr {a:Addr}{esz ln c:Nat}{k:IntKind}{n:Int}(e1:σ.get x=some (.slice (some a) ln c))(e2:σ.get y=some (.int k n))(hn:0<=n∧n<(ln:Nat))(h:next (σ.set d (.pointer (some (a.add (n.toNat * esz))))) H):(NOp.iadr esz x y).m P d next σ H:=by
 simp only[NOp.m,e1,e2];exact⟨a,rfl,hn,h⟩
theorem ZcV {a:Addr}{esz ln c:Nat}{k:IntKind}{n:Nat}(e1:σ.get x=some (.slice (some a) ln c))(e2:σ.get y=some (.int k (n:Int)))(hn:n<ln)(h:next (σ.set d (.pointer (some (a.add (n * esz))))) H):(NOp.iadr esz x y).m P d next σ H:=
 om_iadr e1 e2 ⟨by omega,by omega⟩ h
theorem Zaf {a:Addr}(hst:P.still H.gh=false)(e:σ.get x=some (.pointer (some a)))(hc:CellsAt H a [v])(h:next (σ.set d v) H):(NOp.ld none x).m P d next σ H:=by
 simp only[NOp.m,e];exact⟨hst,v,hc,h⟩
theorem Zao {a:Addr}{cs:List Value}{n:Nat}(hst:P.still H.gh=false)(e:σ.get x=some (.pointer (some a)))(hc:CellsAt H a cs)(hl:cs.length=n)(h:next (σ.set d (.agg cs.toArray)) H):(NOp.ld (some n) x).m P d next σ H:=by
 simp only[NOp.m,e];exact⟨hst,cs,hl,hc,h⟩
theorem Zfm {b:Nat}{ts:List Nat}{zs:List Value}(hst:P.still H.gh=false)(h:next (((σ.drop ts).set (some b) (.int .i64 (Int.ofNat 0))).put b zs) H):(NOp.lzero b ts zs).m P d next σ H:=⟨hst,h⟩
theorem ZhH {b:Nat}{ts:List Nat}(hst:P.still H.gh=false)(e:σ.get x=some v)(h:next (((σ.drop ts).set (some b) (.int .i64 (Int.ofNat 0))).put b v.cells.toList) H):(NOp.lbox b ts x).m P d next σ H:=by
 simp only[NOp.m,e]
 refine⟨hst,?_⟩
 cases v<;>exact h
theorem Zfn {off t n:Nat}(e:σ.env t=some (.int .i64 (.ofNat n)))(h:next (σ.set d (.int .i64 (Int.ofNat (n+off)))) H):(NOp.lfadr off t).m P d next σ H:=by simp only[NOp.m,e];exact h
theorem om_liadr {esz ln t n:Nat}{k:IntKind}{j:Int}(e:σ.env t=some (.int .i64 (.ofNat n)))(e2:σ.get x=some (.int k j))(hj:0<=j∧j<(ln:Nat))(h:next (σ.set d (.int .i64 (Int.ofNat (n+j.toNat * esz)))) H):(NOp.liadr esz ln t x).m P d next σ H:=by
 simp only[NOp.m,e,e2];exact⟨hj,h⟩
theorem Zcz {esz ln t n:Nat}{k:IntKind}{j:Nat}(e:σ.env t=some (.int .i64 (.ofNat n)))(e2:σ.get x=some (.int k (j:Int)))(hj:j<ln)(h:next (σ.set d (.int .i64 (Int.ofNat (n+j * esz)))) H):(NOp.liadr esz ln t x).m P d next σ H:=
 om_liadr e e2 ⟨by omega,by omega⟩ h
theorem Zdd {b t off:Nat}{cs:List Value}(hst:P.still H.gh=false)(e:σ.env t=some (.int .i64 (.ofNat off)))(e2:σ.box b=some cs)(e3:cs[off]? = some v)(h:next (σ.set d v) H):(NOp.lld b none t).m P d next σ H:=by
 simp only[NOp.m,e,e2];exact⟨hst,v,e3,h⟩
theorem ZhG {b t off n:Nat}{cs:List Value}(hst:P.still H.gh=false)(e:σ.env t=some (.int .i64 (.ofNat off)))(e2:σ.box b=some cs)(e3:Nat.ble (off+n) cs.length=true)(h:next (σ.set d (.agg ((cs.drop off).take n).toArray)) H):(NOp.lld b (some n) t).m P d next σ H:=by
 simp only[NOp.m,e,e2,e3];exact⟨hst,h⟩
theorem Zj8 {b t off n:Nat}{cs:List Value}(hst:P.still H.gh=false)(e:σ.env t=some (.int .i64 (.ofNat off)))(e2:σ.box b=some cs)(e3:σ.get x=some v)(h1:v.cells.size=n)(h2:off+n<=cs.length)(h3:(v.cells.toList.all Value.isOne)=true)
  (h:next (σ.put b (ZaM cs off v.cells.toList)) H):(NOp.lst b n t x).m P d next σ H:=by
 simp only[NOp.m,e,e2,e3];exact⟨hst,⟨h1,h2,h3⟩,h⟩
theorem ZhF {b t n:Nat}{cs:List Value}(hst:P.still H.gh=false)(e:σ.env t=some (.int .i64 (.ofNat 0)))(e2:σ.box b=some cs)(e3:σ.get x=some v)(h1:v.cells.size=n)(h2:cs.length=n)(h3:(v.cells.toList.all Value.isOne)=true)
  (h:next (σ.put b v.cells.toList) H):(NOp.lst b n t x).m P d next σ H:=by
 refine Zj8 hst e e2 e3 h1 (by omega) h3 ?_
 have:ZaM cs 0 v.cells.toList=v.cells.toList:=by
  unfold ZaM
  rw[List.take_zero,List.nil_append,List.drop_eq_nil_of_le (by simp;omega),List.append_nil]
 rw[this];exact h
theorem ZhE {b t off n:Nat}{cs:List Value}(hst:P.still H.gh=false)(e:σ.env t=some (.int .i64 (.ofNat off)))(e2:σ.box b=some cs)(e3:σ.get x=some v)(h1:v.cells.size=n)(h2:Nat.ble (off+n) cs.length=true)(h3:(v.cells.toList.all Value.isOne)=true)
  (h:next (σ.put b (ZaM cs off v.cells.toList)) H):(NOp.lst b n t x).m P d next σ H:=Zj8 hst e e2 e3 h1 (Nat.le_of_ble_eq_true h2) h3 h
theorem Zfp {zs cs:List Value}{ps:List (Nat×Nat×Operand)}(e:buildV σ ps zs=some cs)(h:next (σ.set d (.agg cs.toArray)) H):(NOp.build zs ps).m P d next σ H:=by simp only[NOp.m,e];exact h
theorem Zat {ty:TypeId}{ln:Nat}{zs cs:List Value}{ps:List (Nat×Nat×Operand)}(hst:P.still H.gh=false)(e:buildV σ ps zs=some cs)(h:∀ r,H r=none->next (σ.set d (.slice (some ⟨r,0,none⟩) ln ln)) (H.ins r (.cells cs.toArray ty))):(NOp.buildS ty ln zs ps).m P d next σ H:=by
 simp only[NOp.m,e];exact⟨hst,h⟩
theorem Zb9 {o:Op}{ty:TypeId}(ha:(o.operands.all fun x=>(σ.get x).isSome)=true)(e:PureVal P (execOp (fun x=>(σ.get x).getD undef) (bare o ty)) v)(h:next (σ.set d v) H):(NOp.pur o ty).m P d next σ H:=⟨ha,v,e,h⟩
variable  {l:List (NI×Option Bool)}
theorem Zkr (h:Q σ H):Zbv P [] Q σ H:=h
theorem fm_n {f:Option Bool}(hst:P.still H.gh=false)(h:op.m P d (kept P.toPQ H f (Zbv P l Q)) σ H):Zbv P ((⟨none,d,op⟩,f) :: l) Q σ H:=⟨hst,h⟩
theorem fm_g {f:Option Bool}{t:Nat}{b:Bool}(hst:P.still H.gh=false)(e:σ.env t=some (.bool b))(h:op.m P d (kept P.toPQ H f (Zbv P l Q)) σ H):Zbv P ((⟨some (t,b),d,op⟩,f) :: l) Q σ H:=by
 cases b<;>(simp only[Zbv,e];exact⟨hst,h⟩)
theorem fm_s {f:Option Bool}{t:Nat}{b b':Bool}(hst:P.still H.gh=false)(e:σ.env t=some (.bool b'))(hb:b'=!b)(h:Zbv P l Q (σ.unset d) H):Zbv P ((⟨some (t,b),d,op⟩,f) :: l) Q σ H:=by
 subst hb
 cases b<;>(simp only[Zbv,e,Bool.not_true,Bool.not_false];exact⟨hst,h⟩)
theorem kp_n {K:NSt->Hp->Prop}{H0:Hp}(h:K σ H):kept P.toPQ H0 none K σ H:=h
theorem kp_r {K:NSt->Hp->Prop}(h:K σ H):kept P.toPQ H (some false) K σ H:=⟨rfl,h⟩
theorem kp_w {K:NSt->Hp->Prop}{H0:Hp}(hg:H.gh=H0.gh)(h:K σ H):kept P.toPQ H0 (some false) K σ H:=⟨by rw[hg],h⟩
theorem kp_l {K:NSt->Hp->Prop}{H0:Hp}(hl:∀ g,P.still g=false)(h:K σ H):kept P.toPQ H0 (some false) K σ H:=⟨by rw[hl,hl],h⟩
theorem kp_lt {K:NSt->Hp->Prop}{H0:Hp}(hl:∀ g,P.still g=false)(hi:∀ b x,H0 b=some x->H b=some x)(h:K σ H):kept P.toPQ H0 (some true) K σ H:=⟨⟨by rw[hl,hl],hi⟩,h⟩
theorem Zmt {K:NSt->Hp->Prop}(h:K σ H):kept P.toPQ H (some true) K σ H:=⟨⟨rfl,fun _ _ h=>h⟩,h⟩
theorem Zfr {Qe:Ex->NSt->Hp->Prop}(hst:P.still H.gh=false)(h:Zbv P l (Qe .normal) σ H):(Zaj.drawn l).m P Qe σ H:=⟨hst,h⟩
theorem nc_two {Qe:Ex->NSt->Hp->Prop}{l1 l2:List (NI×Option Bool)}(hst:P.still H.gh=false)(h1:Zbv P l1 (Qe .normal) σ H)(h2:Zbv P l2 (Qe .normal) σ H):(Zaj.two l1 l2).m P Qe σ H:=⟨hst,h1,h2⟩
variable  {Qe:Ex->NSt->Hp->Prop}{a b c:Zaj}
theorem nc_if {p:Prop}[Decidable p](e:σ.get x=some (.bool (decide p)))(h1:p->a.m P Qe σ H)(h2:¬ p->b.m P Qe σ H):(Zaj.cond x a b).m P Qe σ H:=by
 by_cases hp:p
 ·exact Zcs (t:=true) (by rw[e];simp[hp]) (h1 hp)
 ·exact Zcs (t:=false) (by rw[e];simp[hp]) (h2 hp)
theorem nc_ifn {p:Prop}[Decidable p](e:σ.get x=some (.bool !(decide p)))(h1:¬ p->a.m P Qe σ H)(h2:p->b.m P Qe σ H):(Zaj.cond x a b).m P Qe σ H:=by
 by_cases hp:p
 ·exact Zcs (t:=false) (by rw[e];simp[hp]) (h2 hp)
 ·exact Zcs (t:=true) (by rw[e];simp[hp]) (h1 hp)
theorem nc_ifb {t:Bool}(e:σ.get x=some (.bool t))(h1:t=true->a.m P Qe σ H)(h2:t=false->b.m P Qe σ H):(Zaj.cond x a b).m P Qe σ H:=by
 cases t
 ·exact Zcs e (h2 rfl)
 ·exact Zcs e (h1 rfl)
theorem nc_ifnb {t:Bool}(e:σ.get x=some (.bool !t))(h1:t=false->a.m P Qe σ H)(h2:t=true->b.m P Qe σ H):(Zaj.cond x a b).m P Qe σ H:=by
 cases t
 ·exact Zcs e (h1 rfl)
 ·exact Zcs e (h2 rfl)
theorem NSt.set_self {t:Nat}(e:σ.env t=some v):σ.set (some t) v=σ:=by
 refine NSt.ext' (fun s=>?_) (fun _=>rfl) rfl
 simp only[NSt.set]
 cases hb:Nat.beq s t with
 | false=>rfl
 | true=>rw[Nat.eq_of_beq_eq_true hb,e];rfl
theorem mo_c {t:Nat}{w bb:Bool}(e:σ.env t=some (.bool bb))(h1:bb=true->MOps P (⟨some (t,w),d,op⟩ :: r) Q (σ.set (some t) (.bool true)) H)(h2:bb=false->MOps P (⟨some (t,w),d,op⟩ :: r) Q (σ.set (some t) (.bool false)) H):MOps P (⟨some (t,w),d,op⟩ :: r) Q σ H:=by
 have:=NSt.set_self e
 cases bb
 ·rw[<-this];exact h2 rfl
 ·rw[<-this];exact h1 rfl
theorem mo_cd {t:Nat}{w:Bool}{p:Prop}[Decidable p](e:σ.env t=some (.bool (decide p)))(h1:p->MOps P (⟨some (t,w),d,op⟩ :: r) Q (σ.set (some t) (.bool true)) H)(h2:¬ p->MOps P (⟨some (t,w),d,op⟩ :: r) Q (σ.set (some t) (.bool false)) H):MOps P (⟨some (t,w),d,op⟩ :: r) Q σ H:=
 mo_c e (fun h=>h1 (of_decide_eq_true h)) (fun h=>h2 (of_decide_eq_false h))
theorem mo_cdn {t:Nat}{w:Bool}{p:Prop}[Decidable p](e:σ.env t=some (.bool !(decide p)))(h1:¬ p->MOps P (⟨some (t,w),d,op⟩ :: r) Q (σ.set (some t) (.bool true)) H)(h2:p->MOps P (⟨some (t,w),d,op⟩ :: r) Q (σ.set (some t) (.bool false)) H):MOps P (⟨some (t,w),d,op⟩ :: r) Q σ H:=
 mo_c e (fun h=>h1 (by simpa using h)) (fun h=>h2 (by simpa using h))
theorem mo_cn {t:Nat}{w bb:Bool}(e:σ.env t=some (.bool !bb))(h1:bb=false->MOps P (⟨some (t,w),d,op⟩ :: r) Q (σ.set (some t) (.bool true)) H)(h2:bb=true->MOps P (⟨some (t,w),d,op⟩ :: r) Q (σ.set (some t) (.bool false)) H):MOps P (⟨some (t,w),d,op⟩ :: r) Q σ H:=
 mo_c e (fun h=>h1 (by simpa using h)) (fun h=>h2 (by simpa using h))
theorem fm_c {f:Option Bool}{t:Nat}{w bb:Bool}(e:σ.env t=some (.bool bb))(h1:bb=true->Zbv P ((⟨some (t,w),d,op⟩,f) :: l) Q (σ.set (some t) (.bool true)) H)(h2:bb=false->Zbv P ((⟨some (t,w),d,op⟩,f) :: l) Q (σ.set (some t) (.bool false)) H):Zbv P ((⟨some (t,w),d,op⟩,f) :: l) Q σ H:=by
 have:=NSt.set_self e
 cases bb
 ·rw[<-this];exact h2 rfl
 ·rw[<-this];exact h1 rfl
theorem fm_cd {f:Option Bool}{t:Nat}{w:Bool}{p:Prop}[Decidable p](e:σ.env t=some (.bool (decide p)))(h1:p->Zbv P ((⟨some (t,w),d,op⟩,f) :: l) Q (σ.set (some t) (.bool true)) H)(h2:¬ p->Zbv P ((⟨some (t,w),d,op⟩,f) :: l) Q (σ.set (some t) (.bool false)) H):Zbv P ((⟨some (t,w),d,op⟩,f) :: l) Q σ H:=
 fm_c e (fun h=>h1 (of_decide_eq_true h)) (fun h=>h2 (of_decide_eq_false h))
theorem ZhP {rs:List NRes}{Post:Value->Hp->Prop}{vs:List Value}(hd:σ.defs=[])(hc:rs.any NRes.cell=true)(hst:P.still H.gh=false)(hv:Zhx σ rs=some vs)(h:Post (Zbd vs) H):Zeq P rs Post σ H:=by
 unfold Zeq ZjG
 rw[hd]
 exact⟨fun _=>hst,vs,Zfl hv,h⟩
theorem Zct {rs:List NRes}{Post:Value->Hp->Prop}{vs:List Value}(hd:σ.defs=[])(hst:P.still H.gh=false)(hv:ResAt σ H rs vs)(h:Post (Zbd vs) H):Zeq P rs Post σ H:=by
 unfold Zeq ZjG
 rw[hd]
 exact⟨fun _=>hst,vs,hv,h⟩
end
section
variable  {P:Prg}{σ:NSt}{H:Hp}{Qe:Ex->NSt->Hp->Prop}{b:Zaj}
theorem ZeI {x:Operand}{ps:List Nat}{as bd:Zaj}{fv:Value}{N:Hp->Prop}{xs:List (List Value)}(hs:∀ g,P.still g=false)(e:σ.get x=some fv)(hit:Iter P fv N xs)(hl:∀ x∈xs,x.length=ps.length)(I:Nat->Hp->Prop)(S:Ex->Hp->Prop)(h0:I 0 H)(hI:∀ n,Up (I n))(hS:∀ e,Up (S e))(hN:∀ n H,I n H->N H)
  (hr:∀ n (hn:n<xs.length) H,I n H->as.m P (NEx.then (bd.m P (Zhv (I (n+1)) S)) noEnd) (σ.bare.round ps xs[n]) H) (hd:∀ H,I xs.length H->Qe .normal σ H) (hx:∀ e H,e≠.normal->S e H->Qe e σ H):(Zaj.rfun x ps as bd).m P Qe σ H:=by
 simp only[Zaj.m,e]
 exact⟨hs,N,xs,hit,hl,I,S,h0,hI,hS,hN,hr,hd,hx⟩
theorem ZaW (n:Nat)(I:Nat->Hp->Prop)(env:Nat->List (Nat×Value))(box:Nat->List (Nat×List Value))(h0:I 0 H)(he:LeE (env 0) σ)(hb:LeB (box 0) σ)
  (hr:∀ j H,j<=n->I j H->b.m P (NEx.then (fun σ' H'=>∃ j':{ j:Nat // j<=n },n-j'.1<n-j∧I j'.1 H'∧LeE (env j'.1) σ'∧LeB (box j'.1) σ'∧σ'.defs=σ.defs) Qe) (stOf σ.defs (env j) (box j)) H):(Zaj.loop b).m P Qe σ H:=
 ⟨{ j:Nat // j<=n },fun j=>I j.1,fun j=>n-j.1,fun j=>env j.1,fun j=>box j.1,⟨0,Nat.zero_le _⟩,h0,⟨he,hb⟩,fun j H hI=>hr j.1 H j.2 hI⟩
theorem ZaO {α:Type}(n:Nat)(I:Nat->α->Hp->Prop)(env:Nat->α->List (Nat×Value))(box:Nat->α->List (Nat×List Value))(a0:α)(h0:I 0 a0 H)(he:LeE (env 0 a0) σ)(hb:LeB (box 0 a0) σ)
  (hr:∀ j a H,j<=n->I j a H->b.m P (NEx.then (fun σ' H'=>∃ j':{ j:Nat // j<=n }×α,n-j'.1.1<n-j∧I j'.1.1 j'.2 H'∧LeE (env j'.1.1 j'.2) σ'∧LeB (box j'.1.1 j'.2) σ'∧σ'.defs=σ.defs) Qe) (stOf σ.defs (env j a) (box j a)) H):(Zaj.loop b).m P Qe σ H:=
 ⟨{ j:Nat // j<=n }×α,fun j=>I j.1.1 j.2,fun j=>n-j.1.1,fun j=>env j.1.1 j.2,fun j=>box j.1.1 j.2,⟨⟨0,Nat.zero_le _⟩,a0⟩,h0,⟨he,hb⟩,fun j H hI=>hr j.1.1 j.2 H j.1.2 hI⟩
end
end Go.LL
end
