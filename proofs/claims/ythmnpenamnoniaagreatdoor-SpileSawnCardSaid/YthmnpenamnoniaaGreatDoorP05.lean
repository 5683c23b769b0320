import Derived.Test.YthmnpenamnoniaaGreatDoorP04
set_option linter.all false
section
namespace Go.LL
structure Hp.Sub (H H':Hp):Prop where
 mem:∀ b x,H b=some x->H' b=some x
 gh:H'.gh=H.gh
structure Kept (P:PQ)(s:Bool)(H H':Hp):Prop where
 gh:P.still H'.gh=P.still H.gh
 mem:s=true->∀ b x,H b=some x->H' b=some x
theorem Kept.refl {P:PQ}(s:Bool)(H:Hp):Kept P s H H:=⟨rfl,fun _ _ _ h=>h⟩
theorem Kept.trans {P:PQ}{s:Bool}{H H' H'':Hp}(h:Kept P s H H')(h':Kept P s H' H''):Kept P s H H'':=⟨h'.gh.trans h.gh,fun e b x hx=>h'.mem e b x (h.mem e b x hx)⟩
theorem Hp.Sub.kept {P:PQ}{H H':Hp}(h:H.Sub H')(s:Bool):Kept P s H H':=⟨by rw[h.gh],fun _=>h.mem⟩
def Kpt (P:PQ)(f:Option Bool)(H H':Hp):Prop:=∀ s,f=some s->Kept P s H H'
theorem Kpt.refl {P:PQ}(f:Option Bool)(H:Hp):Kpt P f H H:=fun s _=>.refl s H
theorem Hp.Sub.kpt {P:PQ}{H H':Hp}(h:H.Sub H')(f:Option Bool):Kpt P f H H':=fun s _=>h.kept s
def okFl (s:Bool)(f:Option Bool):Bool:=match f with | some true=>true | some false=>!s | none=>false
theorem Zl8 {P:PQ}{s:Bool}{f:Option Bool}(h:okFl s f=true){H H':Hp}(k:Kpt P f H H'):Kept P s H H':=by
 unfold okFl at h
 split at h
 ·have:=k true rfl;exact⟨this.gh,fun _=>this.mem rfl⟩
 ·have:=k false rfl;exact⟨this.gh,fun e=>by rw[e]at h;simp at h⟩
 ·simp at h
theorem Hp.Sub.refl (H:Hp):H.Sub H:=⟨fun _ _ h=>h,rfl⟩
theorem Hp.Sub.trans {H H' H'':Hp}(h:H.Sub H')(h':H'.Sub H''):H.Sub H'':=⟨fun b x hx=>h'.mem b x (h.mem b x hx),h'.gh.trans h.gh⟩
structure Upd where
 fe:Nat->Option (Option Value)
 fb:Nat->Option (List Value)
def Upd.app (u:Upd)(σ:NSt):NSt:={ env:=fun t=>(u.fe t).getD (σ.env t),box:=fun d=>match u.fb d with | some cs=>some cs | none=>σ.box d,defs:=σ.defs }
def Upd.set (dst:Option Nat)(v:Option Value):Upd:=
 { fe:=fun t=>match dst with | some d=>bif Nat.beq t d then some v else none | none=>none,fb:=fun _=>none }
def Upd.new (d:Nat)(ts:List Nat)(z:List Value):Upd:=
 { fe:=fun t=>bif Nat.beq t d then some (some (.int .i64 0)) else bif ts.elem t then some none else none,fb:=fun b=>bif Nat.beq b d then some z else none }
theorem NSt.ext' {σ σ':NSt}(h1:∀ t,σ.env t=σ'.env t)(h2:∀ d,σ.box d=σ'.box d)(h3:σ.defs=σ'.defs):σ=σ':=by
 obtain⟨e,b,d⟩:=σ
 obtain⟨e',b',d'⟩:=σ'
 have:e=e':=funext h1
 have:b=b':=funext h2
 simp_all
theorem Upd.set_app (σ:NSt)(dst:Option Nat)(v:Value):(Upd.set dst (some v)).app σ=σ.set dst v:=by
 cases dst with
 | none=>rfl
 | some d=>
  refine NSt.ext' (fun t=>?_) (fun _=>rfl) rfl
  simp only[Upd.app,Upd.set,NSt.set]
  cases Nat.beq t d<;>rfl
theorem Upd.unset_app (σ:NSt)(dst:Option Nat):(Upd.set dst (some undef)).app σ=σ.unset dst:=by
 cases dst with
 | none=>rfl
 | some d=>
  refine NSt.ext' (fun t=>?_) (fun _=>rfl) rfl
  simp only[Upd.app,Upd.set,NSt.unset]
  cases Nat.beq t d<;>rfl
theorem Upd.new_app (σ:NSt)(d:Nat)(ts:List Nat)(z:List Value):(Upd.new d ts z).app σ=((σ.drop ts).set (some d) (.int .i64 0)).put d z:=by
 refine NSt.ext' (fun t=>?_) (fun b=>?_) rfl
 ·simp only[Upd.app,Upd.new,NSt.set,NSt.drop,NSt.put]
  cases Nat.beq t d with
  | true=>rfl
  | false=>cases ts.elem t<;>rfl
 ·simp only[Upd.app,Upd.new,NSt.set,NSt.drop,NSt.put]
  cases Nat.beq b d<;>rfl
def Upd.Apart (u v:Upd):Prop:=(∀ t,u.fe t=none∨v.fe t=none)∧∀ d,u.fb d=none∨v.fb d=none
theorem Upd.comm {u v:Upd}(h:u.Apart v)(σ:NSt):u.app (v.app σ)=v.app (u.app σ):=by
 refine NSt.ext' (fun t=>?_) (fun d=>?_) rfl
 ·simp only[Upd.app]
  rcases h.1 t with e | e<;>simp[e]
 ·simp only[Upd.app]
  rcases h.2 d with e | e<;>rw[e]<;>cases u.fb d<;>cases v.fb d<;>simp_all
def Zcp:Operand->List Nat
 | .tmp t=>[t]
 | _=>[]
def NOp.rt:NOp->List Nat
 | .mov x | .not x | .ext x _ | .fld _ _ x | .fadr _ x | .ld _ x | .len x | .lbox _ _ x=>Zcp x
 | .pick c a b=>Zcp c++Zcp a++Zcp b
 | .bin _ x y | .iadr _ x y=>Zcp x++Zcp y
 | .lzero ..=>[]
 | .lfadr _ t=>[t]
 | .liadr _ _ t i=>t :: Zcp i
 | .lld _ _ t=>[t]
 | .lst _ _ t x=>t :: Zcp x
 | .call _ args=>args.flatMap Zcp
 | .build _ ps=>ps.flatMap fun p=>Zcp p.2.2
 | .buildS _ _ _ ps=>ps.flatMap fun p=>Zcp p.2.2
 | .raw op _=>op.operands.toList.flatMap Zcp
 | .rawn op _=>op.operands.toList.flatMap Zcp
 | .pur op _=>op.operands.toList.flatMap Zcp
def NOp.rb:NOp->List Nat
 | .lld d _ _=>[d]
 | .lst d _ _ _=>[d]
 | _=>[]
def NOp.rdH:NOp->Bool
 | .ld ..=>true
 | _=>false
def NI.rt (i:NI):List Nat:=(match i.g with | some (t,_)=>[t] | none=>[])++i.op.rt
def NI.wt (i:NI):List Nat:=i.dst.toList++match i.op with | .lzero d ts _ | .lbox d ts _=>d :: ts | _=>[]
def NI.wb (i:NI):List Nat:=match i.op with | .lzero d _ _ | .lbox d _ _ | .lst d _ _ _=>[d] | _=>[]
def NOp.cls:NOp->Nat
 | .call .. | .buildS .. | .raw .. | .rawn ..=>1
 | .lst ..=>2
 | _=>0
def Zcg (ts bs:List Nat)(σ σ':NSt):Prop:=(∀ t∈ts,σ.env t=σ'.env t)∧∀ d∈bs,σ.box d=σ'.box d
theorem Zcg.get {ts bs:List Nat}{σ σ':NSt}(h:Zcg ts bs σ σ'){x:Operand}(hx:∀ t∈Zcp x,t∈ts):σ.get x=σ'.get x:=by
 cases x with
 | tmp t=>exact h.1 t (hx t (by simp[Zcp]))
 | _=>rfl
theorem Zcg.gets {ts bs:List Nat}{σ σ':NSt}(h:Zcg ts bs σ σ'):∀ {xs:List Operand},(∀ t∈xs.flatMap Zcp,t∈ts)->σ.gets xs=σ'.gets xs
 | [],_=>rfl
 | x :: xs,hx=>by
  simp only[NSt.gets]
  rw[h.get (fun t ht=>hx t (by simp[ht])),h.gets (xs:=xs) (fun t ht=>hx t (by rw[List.flatMap_cons];simp only[List.mem_append];exact .inr ht))]
theorem Zcg.buildV {ts bs:List Nat}{σ σ':NSt}(h:Zcg ts bs σ σ'):∀ {ps:List (Nat×Nat×Operand)} {z:List Value},(∀ t∈ps.flatMap (fun p=>Zcp p.2.2),t∈ts)->Go.LL.buildV σ ps z=Go.LL.buildV σ' ps z
 | [],_,_=>rfl
 | (off,sz,x) :: ps,z,hx=>by
  simp only[Go.LL.buildV]
  rw[h.get (x:=x) (fun t ht=>hx t (by simp[ht]))]
  cases σ'.get x with
  | none=>rfl
  | some v=>simp only;rw[h.buildV (ps:=ps) (fun t ht=>hx t (by rw[List.flatMap_cons];simp only[List.mem_append];exact .inr ht))]
def NI.w (P:Prg)(i:NI)(K:NSt->Hp->Prop)(σ:NSt)(H:Hp):Prop:=
 match i.g with
 | none=>i.op.w P i.dst K σ H
 | some (t,want)=>∃ v,σ.env t=some v∧(v=.bool want->i.op.w P i.dst K σ H)∧(v≠.bool want->K (σ.unset i.dst) H)
def Ze9 (P:Prg)(i:NI):Prop:=∀ (K:NSt->Hp->Prop) σ H,i.w P K σ H->∃ u:Upd,K (u.app σ) H∧(∀ t,u.fe t≠none->t∈i.wt)∧(∀ d,u.fb d≠none->d∈i.wb) ∧
 ∀ (K':NSt->Hp->Prop) σ' H',Zcg i.rt i.op.rb σ σ'->Kept P.toPQ i.op.rdH H H'->K' (u.app σ') H'->i.w P K' σ' H'
def Zm2 (P:Prg)(i:NI):Prop:=∀ (K:NSt->Hp->Prop) σ H,i.w P K σ H->∀ (K':NSt->Hp->Prop) σ',Zcg i.rt i.op.rb σ σ'->(∀ u:Upd,(∀ t,u.fe t≠none->t∈i.wt)->(∀ d,u.fb d=none)->∀ H',K (u.app σ) H'->K' (u.app σ') H')->i.w P K' σ' H
theorem Zc8 {dst:Option Nat}{v:Option Value}{wt:List Nat}(h:∀ d,dst=some d->d∈wt):∀ t,(Upd.set dst v).fe t≠none->t∈wt:=by
 intro t ht
 cases dst with
 | none=>exact absurd rfl ht
 | some d=>
  simp only[Upd.set]at ht
  cases hb:Nat.beq t d with
  | false=>rw[hb]at ht;exact absurd rfl ht
  | true=>rw[Nat.eq_of_beq_eq_true hb];exact h d rfl
theorem Zec (i:NI):∀ d,i.dst=some d->d∈i.wt:=by
 intro d hd
 simp[NI.wt,hd]
theorem ZiM {P:Prg}{i:NI}{val:NSt->Hp->Option Value}(hop:∀ K σ H,i.op.w P i.dst K σ H↔∃ v,val σ H=some v∧K (σ.set i.dst v) H)
  (hval:∀ σ σ' H H' v,Zcg i.rt i.op.rb σ σ'->Kept P.toPQ i.op.rdH H H'->val σ H=some v->val σ' H'=some v):Ze9 P i:=by
 intro K σ H h
 unfold NI.w at h
 have hgo:i.op.w P i.dst K σ H->∃ v,K ((Upd.set i.dst (some v)).app σ) H∧∀ (K':NSt->Hp->Prop) σ' H',Zcg i.rt i.op.rb σ σ'->Kept P.toPQ i.op.rdH H H'->K' ((Upd.set i.dst (some v)).app σ') H'->i.op.w P i.dst K' σ' H':=by
  intro h
  obtain⟨v,h1,h2⟩:=(hop _ _ _).1 h
  refine⟨v,by rw[Upd.set_app];exact h2,fun K' σ' H' ha hs hk=>(hop _ _ _).2 ⟨v,hval _ _ _ _ _ ha hs h1,?_⟩⟩
  rw[Upd.set_app]at hk;exact hk
 have hwb:∀ v:Option Value,∀ d,(Upd.set i.dst v).fb d≠none->d∈i.wb:=fun v d h=>absurd rfl h
 cases hg:i.g with
 | none=>
  rw[hg]at h
  obtain⟨v,h1,h2⟩:=hgo h
  refine⟨_,h1,Zc8 (Zec i),hwb _,fun K' σ' H' ha hs hk=>?_⟩
  unfold NI.w
  rw[hg]
  exact h2 K' σ' H' ha hs hk
 | some p=>
  obtain⟨t,want⟩:=p
  rw[hg]at h
  obtain⟨b,hb,h1,h2⟩:=h
  have hr:∀ σ',Zcg i.rt i.op.rb σ σ'->σ'.env t=some b:=fun σ' ha=>by rw[<-ha.1 t (by simp[NI.rt,hg])];exact hb
  by_cases hbw:b=.bool want
  ·obtain⟨v,h3,h4⟩:=hgo (h1 hbw)
   refine⟨_,h3,Zc8 (Zec i),hwb _,fun K' σ' H' ha hs hk=>?_⟩
   unfold NI.w
   rw[hg]
   exact⟨b,hr σ' ha,fun _=>h4 K' σ' H' ha hs hk,fun hn=>absurd hbw hn⟩
  ·refine⟨Upd.set i.dst (some undef),by rw[Upd.unset_app];exact h2 hbw,Zc8 (Zec i),hwb _,fun K' σ' H' ha hs hk=>?_⟩
   unfold NI.w
   rw[hg]
   rw[Upd.unset_app]at hk
   exact⟨b,hr σ' ha,fun e=>absurd e hbw,fun _=>hk⟩
def ZkP (o:Obj)(off:Nat):Nat->Option (List Value)
 | 0=>some []
 | n+1=>match Obj.at? o off,ZkP o (off+1) n with
  | some v,some vs=>some (v :: vs)
  | _,_=>none
theorem Zd2 {o:Obj}:∀ {n off:Nat} {cs:List Value},ZkP o off n=some cs↔cs.length=n∧∀ j,j<n->Obj.at? o (off+j)=cs[j]?
 | 0,off,cs=>by
  simp only[ZkP,Option.some.injEq,Nat.not_lt_zero,false_implies,implies_true,and_true]
  constructor
  ·rintro rfl;rfl
  ·exact fun h=>(List.eq_nil_of_length_eq_zero h).symm
 | n+1,off,cs=>by
  simp only[ZkP]
  constructor
  ·intro h
   split at h
   ·rename_i v vs h1 h2
    simp only[Option.some.injEq]at h
    subst h
    obtain⟨h3,h4⟩:=Zd2.1 h2
    refine⟨by simp[h3],fun j hj=>?_⟩
    cases j with
    | zero=>simpa using h1
    | succ j=>
     have:=h4 j (by omega)
     rw[List.getElem?_cons_succ,<-this]
     congr 1
     omega
   ·simp at h
  ·rintro⟨h1,h2⟩
   cases cs with
   | nil=>simp at h1
   | cons v vs=>
    have e1:Obj.at? o off=some v:=by simpa using h2 0 (by omega)
    have e2:ZkP o (off+1) n=some vs:=Zd2.2 ⟨by simpa using h1,fun j hj=>by
     have:=h2 (j+1) (by omega)
     rw[List.getElem?_cons_succ]at this
     rw[<-this]
     congr 1
     omega⟩
    simp[e1,e2]
def NOp.val (st:Bool)(op:NOp)(σ:NSt)(H:Hp):Option Value:=
 match op with
 | .mov x=>σ.get x
 | .pick c a b=>match σ.get c with | some (.bool t)=>σ.get (bif t then a else b) | _=>none
 | .bin op x y=>match σ.get x,σ.get y with
  | some (.int k m),some (.int k' n)=>if k=k' then binV op k m n else none
  | _,_=>none
 | .not x=>match σ.get x with | some (.bool b)=>some (.bool !b) | _=>none
 | .ext x i=>match σ.get x with | some (.tuple vs)=>vs[i]? | _=>none
 | .fld off n x=>match σ.get x with
  | some (.agg cs)=>match n with | none=>cs[off]? | some n=>some (.agg (cs.extract off (off+n)))
  | _=>none
 | .fadr off x=>match σ.get x with | some (.pointer (some a))=>some (.pointer (some (a.add off))) | _=>none
 | .iadr esz x i=>match σ.get x,σ.get i with
  | some (.slice (some a) ln _),some (.int _ n)=>if 0<=n∧n<ln then some (.pointer (some (a.add (n.toNat * esz)))) else none
  | _,_=>none
 | .ld n x=>if st=true then none else match σ.get x with
  | some (.pointer (some a))=>if a.spot=none then
    match H a.block with
    | some (o,_)=>match n with
     | none=>Obj.at? o a.off
     | some n=>(ZkP o a.off n).map fun cs=>.agg cs.toArray
    | none=>none
   else none
  | _=>none
 | .len x=>match σ.get x with | some (.slice _ n _)=>some (.int .i64 (n:Nat)) | _=>none
 | .lfadr off t=>match σ.env t with | some (.int .i64 (.ofNat n))=>some (.int .i64 ((n+off:Nat):Int)) | _=>none
 | .liadr esz ln t i=>match σ.env t,σ.get i with
  | some (.int .i64 (.ofNat n)),some (.int _ j)=>if 0<=j∧j<ln then some (.int .i64 ((n+j.toNat * esz:Nat):Int)) else none
  | _,_=>none
 | .lld d n t=>if st=true then none else match σ.env t,σ.box d with
  | some (.int .i64 (.ofNat off)),some cs=>match n with
   | none=>cs[off]?
   | some n=>if off+n<=cs.length then some (.agg ((cs.drop off).take n).toArray) else none
  | _,_=>none
 | .build z ps=>(buildV σ ps z).map fun cs=>.agg cs.toArray
 | _=>none
def NOp.isVal:NOp->Bool
 | .mov _ | .pick .. | .bin .. | .not _ | .ext .. | .fld .. | .fadr .. | .iadr .. | .ld .. | .len _ | .lfadr .. | .liadr .. | .lld .. | .build ..=>true
 | _=>false
theorem NOp.val_w {P:Prg}{op:NOp}(ho:op.isVal=true)(dst:Option Nat)(K:NSt->Hp->Prop)(σ:NSt)(H:Hp):op.w P dst K σ H↔∃ v,op.val (P.still H.gh) σ H=some v∧K (σ.set dst v) H:=by
 cases op<;>simp only[NOp.isVal,Bool.false_eq_true]at ho<;>simp only[NOp.w,NOp.val]
 case pick c a b=>
  constructor
  ·rintro⟨t,v,h1,h2,h3⟩;exact⟨v,by simp only[h1];exact h2,h3⟩
  ·rintro⟨v,h1,h2⟩;split at h1;exact⟨_,v,‹_›,h1,h2⟩;simp at h1
 case bin op x y=>
  constructor
  ·rintro⟨k,p,q,v,h1,h2,h3,h4⟩;exact⟨v,by simp[h1,h2,h3],h4⟩
  ·rintro⟨v,h1,h2⟩
   split at h1
   ·split at h1
    ·rename_i e;subst e;exact⟨_,_,_,v,‹_›,‹_›,h1,h2⟩
    ·simp at h1
   ·simp at h1
 case not x=>
  constructor
  ·rintro⟨b,h1,h2⟩;exact⟨_,by simp[h1],h2⟩
  ·rintro⟨v,h1,h2⟩;split at h1;simp only[Option.some.injEq]at h1;subst h1;exact⟨_,‹_›,h2⟩;simp at h1
 case ext x i=>
  constructor
  ·rintro⟨vs,v,h1,h2,h3⟩;exact⟨v,by simp[h1,h2],h3⟩
  ·rintro⟨v,h1,h2⟩;split at h1;exact⟨_,v,‹_›,h1,h2⟩;simp at h1
 case fld off n x=>
  constructor
  ·rintro⟨cs,h1,h2⟩
   cases n with
   | none=>obtain⟨v,h3,h4⟩:=h2;exact⟨v,by simp[h1,h3],h4⟩
   | some n=>exact⟨_,by simp[h1],h2⟩
  ·rintro⟨v,h1,h2⟩
   split at h1
   ·refine⟨_,‹_›,?_⟩
    cases n with
    | none=>exact⟨v,h1,h2⟩
    | some n=>simp only[Option.some.injEq]at h1;subst h1;exact h2
   ·simp at h1
 case fadr off x=>
  constructor
  ·rintro⟨b,h1,h2⟩;exact⟨_,by simp[h1],h2⟩
  ·rintro⟨v,h1,h2⟩;split at h1;simp only[Option.some.injEq]at h1;subst h1;exact⟨_,‹_›,h2⟩;simp at h1
 case iadr esz x i=>
  constructor
  ·rintro⟨b,ln,cap,k,n,h1,h2,h3,h4,h5⟩;exact⟨_,by simp[h1,h2,h3,h4],h5⟩
  ·rintro⟨v,h1,h2⟩
   split at h1
   ·split at h1
    ·rename_i hc
     simp only[Option.some.injEq]at h1
     subst h1
     exact⟨_,_,_,_,_,‹_›,‹_›,hc.1,hc.2,h2⟩
    ·simp at h1
   ·simp at h1
 case ld n x=>
  constructor
  ·rintro⟨hst,b,o,p,h1,h2,h3,h4⟩
   cases n with
   | none=>obtain⟨v,h5,h6⟩:=h4;exact⟨v,by simp[hst,h1,h2,h3,h5],h6⟩
   | some n=>obtain⟨cs,h5,h6,h7⟩:=h4;exact⟨_,by simp[hst,h1,h2,h3,Zd2.2 ⟨h5,h6⟩],h7⟩
  ·rintro⟨v,h1,h2⟩
   split at h1
   ·simp at h1
   rename_i hst
   simp only[Bool.not_eq_true]at hst
   refine⟨hst,?_⟩
   split at h1
   ·split at h1
    ·split at h1
     ·refine⟨_,_,_,‹_›,‹_›,‹_›,?_⟩
      cases n with
      | none=>exact⟨v,h1,h2⟩
      | some n=>
       simp only[Option.map_eq_some_iff]at h1
       obtain⟨cs,h3,rfl⟩:=h1
       obtain⟨h4,h5⟩:=Zd2.1 h3
       exact⟨cs,h4,h5,h2⟩
     ·simp at h1
    ·simp at h1
   ·simp at h1
 case len x=>
  constructor
  ·rintro⟨b,n,c,h1,h2⟩;exact⟨_,by simp[h1],h2⟩
  ·rintro⟨v,h1,h2⟩;split at h1;simp only[Option.some.injEq]at h1;subst h1;exact⟨_,_,_,‹_›,h2⟩;simp at h1
 case lfadr off t=>
  constructor
  ·rintro⟨n,h1,h2⟩;exact⟨_,by rw[h1],h2⟩
  ·rintro⟨v,h1,h2⟩;split at h1;simp only[Option.some.injEq]at h1;subst h1;exact⟨_,‹_›,h2⟩;simp at h1
 case liadr esz ln t i=>
  constructor
  ·rintro⟨n,k,j,h1,h2,h3,h4,h5⟩
   refine⟨_,?_,h5⟩
   rw[h1,h2]
   show (if 0<=j∧j<ln then _ else _)=_
   rw[if_pos ⟨h3,h4⟩]
  ·rintro⟨v,h1,h2⟩
   split at h1
   ·split at h1
    ·rename_i hc
     simp only[Option.some.injEq]at h1
     subst h1
     exact⟨_,_,_,‹_›,‹_›,hc.1,hc.2,h2⟩
    ·simp at h1
   ·simp at h1
 case lld d n t=>
  constructor
  ·rintro⟨hst,off,cs,h1,h2,h3⟩
   rw[hst,h1,h2]
   cases n with
   | none=>obtain⟨v,h4,h5⟩:=h3;exact⟨v,h4,h5⟩
   | some n=>obtain⟨h4,h5⟩:=h3;exact⟨_,by show (if off+n<=cs.length then _ else _)=_;rw[if_pos h4],h5⟩
  ·rintro⟨v,h1,h2⟩
   split at h1
   ·simp at h1
   rename_i hst
   simp only[Bool.not_eq_true]at hst
   refine⟨hst,?_⟩
   split at h1
   ·refine⟨_,_,‹_›,‹_›,?_⟩
    cases n with
    | none=>exact⟨v,h1,h2⟩
    | some n=>
     simp only at h1
     split at h1
     ·simp only[Option.some.injEq]at h1;subst h1;exact⟨‹_›,h2⟩
     ·simp at h1
   ·simp at h1
 case build z ps=>
  constructor
  ·rintro⟨cs,h1,h2⟩;exact⟨_,by simp[h1],h2⟩
  ·rintro⟨v,h1,h2⟩
   simp only[Option.map_eq_some_iff]at h1
   obtain⟨cs,h3,rfl⟩:=h1
   exact⟨cs,h3,h2⟩
theorem NOp.val_agree {op:NOp}(ho:op.isVal=true){ts:List Nat}{σ σ':NSt}{H H':Hp}{v:Value}(hts:∀ t∈op.rt,t∈ts)(ha:Zcg ts op.rb σ σ'){P:PQ}(hs:Kept P op.rdH H H'){st:Bool}(h:op.val st σ H=some v):op.val st σ' H'=some v:=by
 cases op<;>simp only[NOp.isVal,Bool.false_eq_true]at ho<;>simp only[NOp.val]at h ⊢<;>simp only[NOp.rt,List.mem_append,List.mem_cons]at hts
 case mov x=>rw[<-ha.get hts];exact h
 case pick c a b=>
  rw[<-ha.get (x:=c) fun t ht=>hts t (.inl (.inl ht))]
  split at h
  ·rename_i t ht
   have:σ'.get (bif t then a else b)=σ.get (bif t then a else b):=by
    cases t
    ·exact(ha.get (x:=b) fun t ht=>hts t (.inr ht)).symm
    ·exact(ha.get (x:=a) fun t ht=>hts t (.inl (.inr ht))).symm
   rw[this];exact h
  ·simp at h
 case bin op x y=>rw[<-ha.get (x:=x) fun t ht=>hts t (.inl ht),<-ha.get (x:=y) fun t ht=>hts t (.inr ht)];exact h
 case not x=>rw[<-ha.get hts];exact h
 case ext x i=>rw[<-ha.get hts];exact h
 case fld off n x=>rw[<-ha.get hts];exact h
 case fadr off x=>rw[<-ha.get hts];exact h
 case iadr esz x y=>rw[<-ha.get (x:=x) fun t ht=>hts t (.inl ht),<-ha.get (x:=y) fun t ht=>hts t (.inr ht)];exact h
 case ld n x=>
  rw[<-ha.get hts]
  cases st
  case true=>simp at h
  simp only[Bool.false_eq_true,if_false]at h ⊢
  split at h
  ·rename_i a hx
   split at h
   ·rename_i hsp
    rw[if_pos hsp]
    cases hb:H a.block with
    | none=>rw[hb]at h;simp at h
    | some x=>rw[hs.mem rfl _ _ hb];rw[hb]at h;exact h
   ·simp at h
  ·simp at h
 case len x=>rw[<-ha.get hts];exact h
 case lfadr off t=>rw[<-ha.1 t (hts t (by simp))];exact h
 case liadr esz ln t i=>rw[<-ha.1 t (hts t (.inl rfl)),<-ha.get (x:=i) fun s hs=>hts s (.inr hs)];exact h
 case lld d n t=>rw[<-ha.1 t (hts t (by simp)),<-ha.2 d (by simp[NOp.rb])];exact h
 case build z ps=>rw[<-ha.buildV (ps:=ps) hts];exact h
theorem Zk5 {P:Prg}{i:NI}(ho:i.op.isVal=true):Ze9 P i:=
 ZiM (val:=fun σ H=>i.op.val (P.still H.gh) σ H) (fun K σ H=>NOp.val_w ho i.dst K σ H) (fun σ σ' H H' v ha hs h=>by simp only[hs.gh];exact NOp.val_agree ho (fun t ht=>by simp[NI.rt,ht]) ha hs h)
theorem Zg8 {P:Prg}{i:NI}{d:Nat}{ts:List Nat}(hg:i.g=none)(hwt:∀ t,t=d∨t∈ts->t∈i.wt)(hwb:d∈i.wb){val:NSt->Bool->Option (List Value)}
  (hop:∀ K σ H,i.op.w P i.dst K σ H↔∃ z,val σ (P.still H.gh)=some z∧K (((σ.drop ts).set (some d) (.int .i64 0)).put d z) H) (hval:∀ σ σ' z g,Zcg i.rt i.op.rb σ σ'->val σ g=some z->val σ' g=some z):Ze9 P i:=by
 intro K σ H h
 unfold NI.w at h
 rw[hg]at h
 obtain⟨z,h1,h2⟩:=(hop _ _ _).1 h
 refine⟨Upd.new d ts z,by rw[Upd.new_app];exact h2,fun t ht=>?_,fun b hb=>?_,fun K' σ' H' ha hs hk=>?_⟩
 ·simp only[Upd.new]at ht
  cases e:Nat.beq t d with
  | true=>exact hwt t (.inl (Nat.eq_of_beq_eq_true e))
  | false=>
   rw[e]at ht
   cases e2:ts.elem t with
   | true=>exact hwt t (.inr (by simpa using e2))
   | false=>rw[e2]at ht;exact absurd rfl ht
 ·simp only[Upd.new]at hb
  cases e:Nat.beq b d with
  | true=>rw[Nat.eq_of_beq_eq_true e];exact hwb
  | false=>rw[e]at hb;exact absurd rfl hb
 ·unfold NI.w
  rw[hg]
  rw[Upd.new_app]at hk
  exact(hop _ _ _).2 ⟨z,by rw[hs.gh];exact hval _ _ _ _ ha h1,hk⟩
theorem ZiN {P:Prg}{i:NI}{d:Nat}{ts:List Nat}{z:List Value}(hg:i.g=none)(ho:i.op=.lzero d ts z):Ze9 P i:=
 Zg8 (val:=fun _ g=>if g=false then some z else none) hg (fun t ht=>by simp only[NI.wt,ho,List.mem_append,List.mem_cons];exact .inr ht) (by simp[NI.wb,ho]) (fun K σ H=>by rw[ho];by_cases hs:P.still H.gh=false<;>simp[NOp.w,hs]) (fun _ _ _ _ _ h=>h)
theorem Zjs {P:Prg}{i:NI}{d:Nat}{ts:List Nat}{x:Operand}(hg:i.g=none)(ho:i.op=.lbox d ts x):Ze9 P i:=
 Zg8 (val:=fun σ g=>if g=false then (σ.get x).map fun v=>v.cells.toList else none) hg (fun t ht=>by simp only[NI.wt,ho,List.mem_append,List.mem_cons];exact .inr ht) (by simp[NI.wb,ho])
  (fun K σ H=>by
   rw[ho]
   simp only[NOp.w]
   constructor
   ·rintro⟨hs,v,h1,h2⟩;exact⟨_,by simp[h1,hs],h2⟩
   ·rintro⟨z,h1,h2⟩
    split at h1
    ·rename_i hs
     simp only[Option.map_eq_some_iff]at h1
     obtain⟨v,h3,rfl⟩:=h1
     exact⟨hs,v,h3,h2⟩
    ·simp at h1)
  (fun σ σ' z g ha h=>by rw[<-ha.get (x:=x) fun t ht=>by simp[NI.rt,ho,NOp.rt,ht]];exact h)
end Go.LL
end
section
namespace Go.LL
theorem Zcg.app {ts bs:List Nat}{σ:NSt}{u:Upd}(h1:∀ t∈ts,u.fe t=none)(h2:∀ d∈bs,u.fb d=none):Zcg ts bs σ (u.app σ):=
 ⟨fun t ht=>by simp[Upd.app,h1 t ht],fun d hd=>by simp[Upd.app,h2 d hd]⟩
theorem Zcg.app' {ts bs:List Nat}{σ:NSt}{u:Upd}(h1:∀ t∈ts,u.fe t=none)(h2:∀ d∈bs,u.fb d=none):Zcg ts bs (u.app σ) σ:=
 ⟨fun t ht=>by simp[Upd.app,h1 t ht],fun d hd=>by simp[Upd.app,h2 d hd]⟩
theorem Zlb {P:Prg}{i:NI}(hop:∀ (K K':NSt->Hp->Prop) σ σ' H,i.op.w P i.dst K σ H->Zcg i.rt i.op.rb σ σ'->(∀ v H',K (σ.set i.dst v) H'->K' (σ'.set i.dst v) H')->i.op.w P i.dst K' σ' H):Zm2 P i:=by
 intro K σ H h K' σ' ha hk
 unfold NI.w at h ⊢
 have hset:∀ v H',K (σ.set i.dst v) H'->K' (σ'.set i.dst v) H':=fun v H' hh=>by
  have:=hk (Upd.set i.dst (some v)) (Zc8 (Zec i)) (fun _=>rfl) H'
  rw[Upd.set_app,Upd.set_app]at this
  exact this hh
 cases hg:i.g with
 | none=>
  rw[hg]at h
  exact hop _ _ _ _ _ h ha hset
 | some p=>
  obtain⟨t,want⟩:=p
  rw[hg]at h
  obtain⟨b,hb,h1,h2⟩:=h
  refine⟨b,by rw[<-ha.1 t (by simp[NI.rt,hg])];exact hb,fun e=>hop _ _ _ _ _ (h1 e) ha hset,fun e=>?_⟩
  have:=hk (Upd.set i.dst (some undef)) (Zc8 (Zec i)) (fun _=>rfl) H
  rw[Upd.unset_app,Upd.unset_app]at this
  exact this (h2 e)
theorem Zii {ts bs:List Nat}{σ σ':NSt}(h:Zcg ts bs σ σ'){op:Op}{ty:TypeId}(hs:∀ cs b,op≠.select cs b)(hx:∀ t∈op.operands.toList.flatMap Zcp,t∈ts) :
  (op.operands.all fun x=>(σ.get x).isSome)=(op.operands.all fun x=>(σ'.get x).isSome)∧execOp (fun x=>(σ.get x).getD undef) (bare op ty)=execOp (fun x=>(σ'.get x).getD undef) (bare op ty):=by
 have hg:∀ x∈op.operands,σ.get x=σ'.get x:=fun x hm=>h.get fun t ht=>hx t (by simp only[List.mem_flatMap];exact⟨x,Array.mem_toList_iff.2 hm,ht⟩)
 refine⟨?_,Ze7 (o:=bare op ty) (fun x hm=>by rw[hg x hm]) hs⟩
 rw[Bool.eq_iff_iff,Array.all_eq_true_iff_forall_mem,Array.all_eq_true_iff_forall_mem]
 constructor<;>intro hh x hm
 ·rw[<-hg x hm];exact hh x hm
 ·rw[hg x hm];exact hh x hm
def Zeb:Op->Bool
 | .select ..=>true
 | _=>false
def NOp.okE:NOp->Bool
 | .raw op _=>!Zeb op && !Zf7 op
 | .rawn ..=>false
 | _=>true
theorem Zgf {P:Prg}{i:NI}(hc:i.op.cls=1)(hk:i.op.okE=true):Zm2 P i:=by
 refine Zlb fun K K' σ σ' H h ha hset=>?_
 have hts:∀ t∈i.op.rt,t∈i.rt:=fun t ht=>by simp[NI.rt,ht]
 cases ho:i.op<;>rw[ho]at hc h hts hk ha<;>first | (exfalso;simp[NOp.cls]at hc;done) | skip
 all_goals simp only[NOp.w]at h ⊢
 case call f args=>
  obtain⟨vs,h1,h2⟩:=h
  exact⟨vs,by rw[<-ha.gets hts];exact h1,h2.mono fun v H' hv=>hset v H' hv⟩
 case buildS e ln z ps=>
  obtain⟨hs,cs,h1,h2⟩:=h
  exact⟨hs,cs,by rw[<-ha.buildV hts];exact h1,fun r hr=>hset _ _ (h2 r hr)⟩
 case rawn op ty=>simp[NOp.okE]at hk
 case raw op ty=>
  have hsel:∀ cs b,op≠.select cs b:=by rintro cs b rfl;simp[NOp.okE,Zeb]at hk
  have hdef:Zf7 op=false:=by
   simp only[NOp.okE,Bool.and_eq_true,Bool.not_eq_true']at hk
   exact hk.2
  obtain⟨e1,e2⟩:=Zii ha (ty:=ty) hsel hts
  refine⟨by rw[<-e1];exact h.1,?_⟩
  rw[<-e2]
  refine h.2.imp (Za2 ?_) (ShOp.mono · fun v H hv=>hset _ _ hv)
  rintro n g H' (hg | hn)
  ·exact .inl hg
  ·refine .inr ?_
   cases n with
   | value v=>exact hset _ _ hn
   | skip=>exact hset _ _ hn
   | enter f args=>exact Zag.mono hn fun v H hv=>hset _ _ hv
   | round l f tmps as bd=>exact ZdM.mono hn fun v H hv=>hset _ _ hv
   | defer d=>exact absurd (hdef.symm.trans hn.1) (by simp)
   | _=>exact hn.elim
theorem Zk6 {P:Prg}{i:NI}{op:Op}{ty:TypeId}(ho:i.op=.pur op ty)(hsl:Zeb op=false):Ze9 P i:=by
 intro K σ H h
 unfold NI.w at h
 have hsel:∀ cs b,op≠.select cs b:=by rintro cs b rfl;simp[Zeb]at hsl
 have hts:∀ t∈i.op.rt,t∈i.rt:=fun t ht=>by simp[NI.rt,ht]
 have hgo:i.op.w P i.dst K σ H->∃ v,K ((Upd.set i.dst (some v)).app σ) H∧∀ (K':NSt->Hp->Prop) σ' H',Zcg i.rt i.op.rb σ σ'->Kept P.toPQ i.op.rdH H H'->K' ((Upd.set i.dst (some v)).app σ') H'->i.op.w P i.dst K' σ' H':=by
  intro h
  rw[ho]at h hts
  obtain⟨h1,v,h2,h3⟩:=h
  refine⟨v,by rw[Upd.set_app];exact h3,fun K' σ' H' ha hs hk=>?_⟩
  rw[ho]at ha ⊢
  obtain⟨e1,e2⟩:=Zii ha (ty:=ty) hsel hts
  refine⟨by rw[<-e1];exact h1,v,by rw[<-e2];exact h2,?_⟩
  rw[Upd.set_app]at hk;exact hk
 have hwb:∀ v:Option Value,∀ d,(Upd.set i.dst v).fb d≠none->d∈i.wb:=fun v d h=>absurd rfl h
 cases hg:i.g with
 | none=>
  rw[hg]at h
  obtain⟨v,h1,h2⟩:=hgo h
  refine⟨_,h1,Zc8 (Zec i),hwb _,fun K' σ' H' ha hs hk=>?_⟩
  unfold NI.w
  rw[hg]
  exact h2 K' σ' H' ha hs hk
 | some p=>
  obtain⟨t,want⟩:=p
  rw[hg]at h
  obtain⟨b,hb,h1,h2⟩:=h
  have hr:∀ σ',Zcg i.rt i.op.rb σ σ'->σ'.env t=some b:=fun σ' ha=>by rw[<-ha.1 t (by simp[NI.rt,hg])];exact hb
  by_cases hbw:b=.bool want
  ·obtain⟨v,h3,h4⟩:=hgo (h1 hbw)
   refine⟨_,h3,Zc8 (Zec i),hwb _,fun K' σ' H' ha hs hk=>?_⟩
   unfold NI.w
   rw[hg]
   exact⟨b,hr σ' ha,fun _=>h4 K' σ' H' ha hs hk,fun hn=>absurd hbw hn⟩
  ·refine⟨Upd.set i.dst (some undef),by rw[Upd.unset_app];exact h2 hbw,Zc8 (Zec i),hwb _,fun K' σ' H' ha hs hk=>?_⟩
   unfold NI.w
   rw[hg]
   rw[Upd.unset_app]at hk
   exact⟨b,hr σ' ha,fun e=>absurd e hbw,fun _=>hk⟩
theorem NOp.w_mono {P:Prg}{op:NOp}{dst:Option Nat}{K K':NSt->Hp->Prop}(hk:∀ σ H,K σ H->K' σ H){σ:NSt}{H:Hp}(h:op.w P dst K σ H):op.w P dst K' σ H:=by
 cases op with
 | call f args=>obtain⟨vs,h1,h2⟩:=h;exact⟨vs,h1,h2.mono fun v H' hv=>hk _ _ hv⟩
 | buildS e ln z ps=>obtain⟨hs,cs,h1,h2⟩:=h;exact⟨hs,cs,h1,fun r hr=>hk _ _ (h2 r hr)⟩
 | raw op ty=>
  exact⟨h.1,h.2.imp (Za2 fun n g H' h=>h.imp id (RawN.mono hk)) (ShOp.mono · fun v H hv=>hk _ _ hv)⟩
 | rawn op ty=>exact⟨h.1,h.2.mono fun v H hv=>hk _ _ hv⟩
 | pur op ty=>obtain⟨h1,v,h2,h3⟩:=h;exact⟨h1,v,h2,hk _ _ h3⟩
 | lst d n t x=>obtain⟨hst,off,cs,v,h1,h2,h3,h4,h5,h6,h7⟩:=h;exact⟨hst,off,cs,v,h1,h2,h3,h4,h5,h6,hk _ _ h7⟩
 | lzero d ts z=>exact⟨h.1,hk _ _ h.2⟩
 | lbox d ts x=>obtain⟨hs,v,h1,h2⟩:=h;exact⟨hs,v,h1,hk _ _ h2⟩
 | _=>exact(NOp.val_w rfl dst K' σ H).2 (by obtain⟨v,h1,h2⟩:=(NOp.val_w rfl dst K σ H).1 h;exact⟨v,h1,hk _ _ h2⟩)
theorem Zk7 {P:Prg}{i:NI}{d n t:Nat}{x:Operand}(hg:i.g=none)(ho:i.op=.lst d n t x):Ze9 P i:=by
 intro K σ H h
 unfold NI.w at h
 rw[hg]at h
 simp only[ho,NOp.w]at h
 obtain⟨hs,off,cs,v,h1,h2,h3,h4,h5,h6,h7⟩:=h
 let u:Upd:={ fe:=fun _=>none,fb:=fun b=>bif Nat.beq b d then some (cs.take off++v.cells.toList++cs.drop (off+n)) else none }
 have hu:∀ σ:NSt,u.app σ=σ.put d (cs.take off++v.cells.toList++cs.drop (off+n)):=by
  intro σ
  refine NSt.ext' (fun _=>rfl) (fun b=>?_) rfl
  simp only[Upd.app,NSt.put,u]
  cases Nat.beq b d<;>rfl
 refine⟨u,by rw[hu];exact h7,fun t ht=>absurd rfl ht,fun b hb=>?_,fun K' σ' H' ha hsub hk=>?_⟩
 ·have:b=d:=by
   simp only[u]at hb
   cases he:Nat.beq b d with
   | true=>exact Nat.eq_of_beq_eq_true he
   | false=>rw[he]at hb;exact absurd rfl hb
  subst this
  simp[NI.wb,ho]
 ·unfold NI.w
  rw[hg]
  simp only[ho,NOp.w]
  have hrt:∀ s,s=t∨s∈Zcp x->s∈i.rt:=fun s hs=>by
   simp only[NI.rt,ho,NOp.rt,List.mem_append,List.mem_cons]
   exact .inr hs
  refine⟨by rw[hsub.gh];exact hs,off,cs,v,by rw[<-ha.1 t (hrt t (.inl rfl))];exact h1,by rw[<-ha.2 d (by simp[ho,NOp.rb])];exact h2,by rw[<-ha.get (x:=x) fun s hs=>hrt s (.inr hs)];exact h3,h4,h5,h6,?_⟩
  rw[<-hu];exact hk
variable  {P:Prg}
def Go (P:Prg)(X:Nat->NI)(fl:Nat->Option Bool)(Q:NSt->Hp->Prop):List Nat->NSt->Hp->Prop
 | [],σ,H=>Q σ H
 | i :: l,σ,H=>(X i).w P (fun σ' H'=>Kpt P.toPQ (fl i) H H'∧Go P X fl Q l σ' H') σ H
def Zky (x y:NI)(fy:Option Bool):Bool:=
 x.op.cls == 0 && (y.op.cls != 1 || okFl x.op.rdH fy) &&
 (x.wt.all fun t=>!(y.rt.contains t) && !(y.wt.contains t)) && (x.wb.all fun d=>!(y.op.rb.contains d) && !(y.wb.contains d)) &&
 (y.wt.all fun t=>!(x.rt.contains t)) && (y.wb.all fun d=>!(x.op.rb.contains d))
def Zf9 (x:NI):Bool:=x.op.isVal || (match x.g,x.op with | none,.lzero .. | none,.lbox .. | none,.lst ..=>true | _,.pur op _=>!Zeb op | _,_=>false)
theorem Zks {i:NI}(h:Zf9 i=true):Ze9 P i:=by
 unfold Zf9 at h
 cases hv:i.op.isVal with
 | true=>exact Zk5 hv
 | false=>
  rw[hv]at h
  simp only[Bool.false_or]at h
  split at h
  ·rename_i d ts z hg ho
   exact ZiN hg ho
  ·rename_i d ts x hg ho
   exact Zjs hg ho
  ·rename_i d n t x hg ho
   exact Zk7 hg ho
  ·rename_i op ty ho
   exact Zk6 ho (by simpa using h)
  ·simp at h
theorem Zli {x y:NI}{fy:Option Bool}(h:Zky x y fy=true):True∧(y.op.cls≠1∨okFl x.op.rdH fy=true)∧(∀ t∈x.wt,t ∉ y.rt∧t ∉ y.wt)∧(∀ d∈x.wb,d ∉ y.op.rb∧d ∉ y.wb)∧(∀ t∈y.wt,t ∉ x.rt)∧∀ d∈y.wb,d ∉ x.op.rb:=by
 unfold Zky at h
 simp only[Bool.and_eq_true,List.all_eq_true,Bool.not_eq_true',List.contains_eq_mem,decide_eq_false_iff_not,Bool.or_eq_true,beq_iff_eq,bne_iff_ne,ne_eq]at h
 obtain⟨⟨⟨⟨⟨_,h2⟩,h3⟩,h4⟩,h5⟩,h6⟩:=h
 exact⟨trivial,h2,h3,h4,h5,h6⟩
theorem Zga {X:Nat->NI}{fl:Nat->Option Bool}{Q:NSt->Hp->Prop}{c:Nat}(hcf:True){l2:List Nat}{u:Upd}
  (hwt:∀ t,u.fe t≠none->t∈(X c).wt) (hwb:∀ d,u.fb d≠none->d∈(X c).wb) :
  ∀ (l1:List Nat) (σ:NSt) (H:Hp),(∀ x∈l1,Zky (X c) (X x) (fl x)=true∧(Zf9 (X x)=true∨((X x).op.cls=1∧(X x).op.okE=true))) ->
   (∀ (K':NSt->Hp->Prop) σ' H',Zcg (X c).rt (X c).op.rb σ σ'->Kept P.toPQ (X c).op.rdH H H'->K' (u.app σ') H'->(X c).w P K' σ' H') ->
   Go P X fl Q (l1++l2) (u.app σ) H->Go P X fl Q (l1++c :: l2) σ H
 | [],σ,H,_,hc,h=>by
  simp only[List.nil_append,Go]
  exact hc _ σ H ⟨fun _ _=>rfl,fun _ _=>rfl⟩ (.refl _ H) ⟨.refl _ H,h⟩
 | x :: l1,σ,H,hx,hc,h=>by
  obtain⟨hap,hfx⟩:=hx x (by simp)
  obtain⟨a1,a2,a3,a4,a5,a6⟩:=Zli hap
  have hunone:∀ t,t ∉ (X c).wt->u.fe t=none:=fun t ht=>Classical.byContradiction fun hn=>ht (hwt t hn)
  have hubnone:∀ d,d ∉ (X c).wb->u.fb d=none:=fun d hd=>Classical.byContradiction fun hn=>hd (hwb d hn)
  have hag:Zcg (X x).rt (X x).op.rb (u.app σ) σ:=Zcg.app' (fun t ht=>hunone t fun hm=>(a3 t hm).1 ht) (fun d hd=>hubnone d fun hm=>(a4 d hm).1 hd)
  simp only[List.cons_append,Go]at h ⊢
  rcases hfx with hfx | ⟨hcl,hok⟩
  ·
   obtain⟨v,hv,hv1,hv2,hv3⟩:=Zks (P:=P) hfx _ _ _ h
   have hapart:u.Apart v:=by
    refine⟨fun t=>?_,fun d=>?_⟩
    ·by_cases hm:t∈(X c).wt
     ·exact .inr (Classical.byContradiction fun hn=>(a3 t hm).2 (hv1 t hn))
     ·exact .inl (hunone t hm)
    ·by_cases hm:d∈(X c).wb
     ·exact .inr (Classical.byContradiction fun hn=>(a4 d hm).2 (hv2 d hn))
     ·exact .inl (hubnone d hm)
   refine hv3 _ σ H hag (.refl _ H) ⟨.refl _ H,?_⟩
   have h2:=hv.2
   rw[<-Upd.comm hapart]at h2
   refine Zga hcf hwt hwb l1 (v.app σ) H (fun y hy=>hx y (by simp[hy])) (fun K' σ' H' ha hs hk=>hc K' σ' H' ?_ hs hk) h2
   have hag2:Zcg (X c).rt (X c).op.rb σ (v.app σ):=Zcg.app (fun t ht=>Classical.byContradiction fun hn=>a5 t (hv1 t hn) ht) (fun d hd=>Classical.byContradiction fun hn=>a6 d (hv2 d hn) hd)
   exact⟨fun t ht=>(hag2.1 t ht).trans (ha.1 t ht),fun d hd=>(hag2.2 d hd).trans (ha.2 d hd)⟩
  ·
   have hflx:=a2.resolve_left (by rw[hcl];simp)
   refine Zgf hcl hok _ _ _ h _ _ hag ?_
   rintro v hv1 hv2 H' ⟨hs,h2⟩
   have hapart:u.Apart v:=by
    refine⟨fun t=>?_,fun d=>.inr (hv2 d)⟩
    by_cases hm:t∈(X c).wt
    ·exact .inr (Classical.byContradiction fun hn=>(a3 t hm).2 (hv1 t hn))
    ·exact .inl (hunone t hm)
   refine⟨hs,?_⟩
   rw[<-Upd.comm hapart]at h2
   refine Zga hcf hwt hwb l1 (v.app σ) H' (fun y hy=>hx y (by simp[hy])) (fun K' σ' H'' ha hs' hk=>hc K' σ' H'' ?_ ((Zl8 hflx hs).trans hs') hk) h2
   have hag2:Zcg (X c).rt (X c).op.rb σ (v.app σ):=Zcg.app (fun t ht=>Classical.byContradiction fun hn=>a5 t (hv1 t hn) ht) (fun d hd=>hv2 d)
   exact⟨fun t ht=>(hag2.1 t ht).trans (ha.1 t ht),fun d hd=>(hag2.2 d hd).trans (ha.2 d hd)⟩
inductive Lin (n:Nat)(pre:Nat->List Nat):List Nat->List Nat->Prop
 | nil {done:List Nat} (h:∀ i,i<n->i∈done):Lin n pre done []
 | cons {done l:List Nat} {i:Nat} (hi:i<n) (hd:i ∉ done) (hp:∀ p∈pre i,p∈done) (h:Lin n pre (i :: done) l):Lin n pre done (i :: l)
theorem Lin.congr {n:Nat}{pre:Nat->List Nat}{done l:List Nat}(h:Lin n pre done l):∀ {done'},(∀ i,i∈done↔i∈done')->Lin n pre done' l:=by
 induction h with
 | nil h=>exact fun e=>.nil fun i hi=>(e i).1 (h i hi)
 | cons hi hd hp _ ih=>exact fun e=>.cons hi (fun h=>hd ((e _).2 h)) (fun p hm=>(e p).1 (hp p hm)) (ih fun i=>by simp[e])
theorem Lin.mem {n:Nat}{pre:Nat->List Nat}{done l:List Nat}(h:Lin n pre done l):∀ i,i<n->i∈done∨i∈l:=by
 induction h with
 | nil h=>exact fun i hi=>.inl (h i hi)
 | cons hi hd hp _ ih=>
  intro i hi
  rcases ih i hi with h | h
  ·simp only[List.mem_cons]at h
   rcases h with rfl | h
   ·exact .inr (by simp)
   ·exact .inl h
  ·exact .inr (by simp[h])
theorem Lin.fresh {n:Nat}{pre:Nat->List Nat}{done l:List Nat}(h:Lin n pre done l):∀ i∈l,i<n∧i ∉ done:=by
 induction h with
 | nil h=>exact fun i hi=>by simp at hi
 | cons hi hd hp _ ih=>
  intro i hm
  simp only[List.mem_cons]at hm
  rcases hm with rfl | hm
  ·exact⟨hi,hd⟩
  ·exact⟨(ih i hm).1,fun h=>(ih i hm).2 (by simp[h])⟩
theorem Lin.ahead {n:Nat}{pre:Nat->List Nat}{c:Nat}{l2:List Nat}(hc:c<n):∀ {l1 done:List Nat},Lin n pre done (l1++c :: l2)->c ∉ l1->Lin n pre (c :: done) (l1++l2)
 | [],done,h,_=>by
  cases h with
  | cons hi hd hp h=>exact h
 | x :: l1,done,h,hn=>by
  cases h with
  | cons hi hd hp h=>
   refine .cons hi ?_ (fun p hm=>List.mem_cons_of_mem _ (hp p hm)) ?_
   ·simp only[List.mem_cons,not_or]at hn ⊢
    exact⟨Ne.symm hn.1,hd⟩
   ·exact(Lin.ahead hc h (fun hm=>hn (by simp[hm]))).congr fun i=>by simp;constructor<;>(intro h;rcases h with h | h | h<;>simp[h])
end Go.LL
end
