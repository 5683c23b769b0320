import Derived.Test.YthmnpenamnoniaaGreatDoorP06
import Derived.Test.YthmnpenamnoniaaGreatDoorP07
set_option linter.all false
section
namespace Go.LL
def FOps (P:Prg):List (NI×Option Bool)->(NSt->Hp->Prop)->NSt->Hp->Prop
 | [],Q,σ,H=>Q σ H
 | (i,f) :: r,Q,σ,H=>P.still H.gh=false∧i.w P (fun σ' H'=>Kpt P.toPQ f H H'∧FOps P r Q σ' H') σ H
instance:Inhabited NI:=⟨⟨none,none,.mov (.const (.bool false))⟩⟩
def Zhb (ns:List NI)(ops:Array Oper)(pre:Nat->List Nat)(W:Nat->Nat->Bool):Option (List (NI×Option Bool)):=
 let X:=fun i=>ns.getD i default
 let C:=canon pre (fun i=>(X i).op.cls == 0) (fun i=>Ze4 (X i)) W ops.size [] (List.range ops.size)
 let F:=flags X W [] C
 let fl:=fun i=>F.lookup i
 if ascB ops && linB ops.size pre [] C && Zj5 X fl W C then some (ZiP X fl W C) else none
def Zev (ops:Array Oper):Nat->Nat->Bool:=
 let ms:=masks ops ops.size
 fun x e=>(ms.getD x 0).testBit e
def Zjx (P:Program)(L:List (Nat×Nat))(m:Nat)(ops:Array Oper):Option (List (NI×Option Bool)):=
 match trIs P L m ops (List.range ops.size) with
 | none=>none
 | some ns=>Zhb ns ops (Zda ops) (Zev ops)
def isStL (x:NI):Bool:=match x.op with | .raw (.store ..) _=>true | .raw (.mapEntry ..) _=>true | _=>false
def isLdL (x:NI):Bool:=match x.op with | .ld ..=>true | .raw (.lookup ..) _=>true | _=>false
def pairOf (ns:List NI)(ops:Array Oper):Option (Nat×Nat):=
 let X:=fun i=>ns.getD i default
 let W:=Zev ops
 (List.range ops.size).findSome? fun s=>if isStL (X s) then (List.range ops.size).findSome? fun c=>if isLdL (X c) && !(W s c) && !(W c s) then some (c,s) else none else none
def ZmI (P:Program)(L:List (Nat×Nat))(m:Nat)(ops:Array Oper):Option (List (NI×Option Bool)×List (NI×Option Bool)):=
 match trIs P L m ops (List.range ops.size) with
 | none=>none
 | some ns=>match pairOf ns ops with
  | none=>none
  | some (a,b)=>if !(Nat.beq a b) && Nat.blt a ops.size then
    match Zhb ns ops (preE (Zda ops) a b) (waitE (Zev ops) a b),Zhb ns ops (preE (Zda ops) b a) (waitE (Zev ops) b a) with
    | some l1,some l2=>some (l1,l2)
    | _,_=>none
   else none
theorem ZjM {P:Program}{L:List (Nat×Nat)}{m:Nat}{ops:Array Oper}:∀ {l:List Nat} {ns:List NI},trIs P L m ops l=some ns->ns.length=l.length∧∀ (j i:Nat),l[j]? = some i->trI P L m ops i=ns[j]?
 | [],ns,h=>by
  simp only[trIs,Option.some.injEq]at h
  subst h
  exact⟨rfl,fun j i h=>by simp at h⟩
 | k :: l,ns,h=>by
  simp only[trIs]at h
  split at h
  ·rename_i x xs h1 h2
   simp only[Option.some.injEq]at h
   subst h
   obtain⟨h3,h4⟩:=ZjM h2
   refine⟨by simp[h3],fun j i hj=>?_⟩
   cases j with
   | zero=>simp at hj;subst hj;simp[h1]
   | succ j=>simp at hj;simpa using h4 j i hj
  ·simp at h
theorem Zg5 {P:Prg}{X:Nat->NI}{r:List (NI×Option Bool)}{Q:NSt->Hp->Prop}:∀ {ps:List Nat} {σ:NSt} {H:Hp},(∀ x∈ps,Ze4 (X x)=true)->FOps P (ps.map (fun x=>(Zj1 (X x),none))++r) Q σ H->(∀ x∈ps,Zep P (X x) σ H)∧FOps P r Q σ H
 | [],σ,H,_,h=>⟨fun x hx=>by simp at hx,h⟩
 | p :: ps,σ,H,hn,h=>by
  obtain⟨hg,e,ln,z,qs,ho⟩:=ZiG (hn p (by simp))
  simp only[List.map_cons,List.cons_append,FOps]at h
  obtain⟨hst,h⟩:=h
  have hp:Zj1 (X p)=⟨none,none,.build z qs⟩:=by unfold Zj1;rw[ho]
  rw[hp]at h
  obtain⟨cs,hcs,_,h⟩:=h
  obtain⟨h1,h2⟩:=Zg5 (ps:=ps) (fun x hx=>hn x (by simp[hx])) h
  refine⟨fun x hx=>?_,h2⟩
  simp only[List.mem_cons]at hx
  rcases hx with rfl | hx
  ·unfold Zep
   rw[ho]
   exact⟨hst,by rw[hcs];rfl⟩
  ·exact h1 x hx
theorem Zkq {P:Prg}{X:Nat->NI}{fl:Nat->Option Bool}{W:Nat->Nat->Bool}{Q:NSt->Hp->Prop}:∀ {l:List Nat} {σ:NSt} {H:Hp},FOps P (ZiP X fl W l) Q σ H->GoC P X fl W Q l σ H
 | [],σ,H,h=>h
 | i :: l,σ,H,h=>by
  simp only[ZiP]at h
  simp only[GoC]
  have hrest:∀ {σ H},FOps P ((X i,fl i) :: ZiP X fl W l) Q σ H->(X i).w P (fun σ' H'=>Kpt P.toPQ (fl i) H H'∧GoC P X fl W Q l σ' H') σ H:=fun h=>NI.w_mono (fun σ' H' hh=>⟨hh.1,Zkq hh.2⟩) h.2
  by_cases h0:(X i).op.cls=0
  ·simp only[h0,beq_self_eq_true,if_true,List.nil_append]at h
   exact⟨fun hn=>absurd h0 hn,hrest h⟩
  ·have hne:((X i).op.cls == 0)=false:=by simpa using h0
   simp only[hne,Bool.false_eq_true,if_false]at h
   obtain⟨h1,h2⟩:=Zg5 (fun x hx=>by simp only[List.mem_filter,Bool.and_eq_true]at hx;exact hx.2.1) h
   exact⟨fun _ x hx hn hw=>h1 x (List.mem_filter.2 ⟨hx,by rw[hn,hw];rfl⟩),hrest h2⟩
theorem ZmB {P:Prg}{L:List (Nat×Nat)}{m:Nat}{ops:Array Oper}{X:Nat->NI}{fl:Nat->Option Bool}{Q:NSt->Hp->Prop}(hX:∀ i,i<ops.size->trI P L m ops i=some (X i)):∀ {l:List Nat} {σ:NSt} {H:Hp},(∀ i∈l,i<ops.size)->Go P X fl Q l σ H->trIs P L m ops l=some (l.map X)∧NOps P (l.map X) Q σ H
 | [],σ,H,_,h=>⟨rfl,h⟩
 | i :: l,σ,H,hl,h=>by
  have h1:=hX i (hl i (by simp))
  have h2:trIs P L m ops l=some (l.map X):=by
   clear h
   induction l with
   | nil=>rfl
   | cons j l ih=>
    have:=ih (fun k hk=>hl k (by simp at hk ⊢;rcases hk with h | h<;>simp[h]))
    simp only[trIs,hX j (hl j (by simp)),this,List.map_cons]
  refine⟨by simp only[trIs,h1,h2,List.map_cons],?_⟩
  have hrec:∀ σ' H',(Kpt P.toPQ (fl i) H H'∧Go P X fl Q l σ' H')->NOps P (l.map X) Q σ' H':=fun σ' H' hh=>(ZmB hX (fun k hk=>hl k (by simp[hk])) hh.2).2
  simp only[List.map_cons,NOps]
  simp only[Go,NI.w]at h
  split at h
  ·rename_i hg;rw[hg];exact NOp.w_mono hrec h
  ·rename_i t want hg
   rw[hg]
   obtain⟨b,hb,h3,h4⟩:=h
   exact⟨b,hb,fun e=>NOp.w_mono hrec (h3 e),fun e=>hrec _ _ (h4 e)⟩
theorem Zdm {P:Prg}{nr:Bool}{L:List (Nat×Nat)}{m:Nat}{ops:Array Oper}{l:List (NI×Option Bool)}{Q:NSt->Hp->Prop}{σ:NSt}{H Ha:Hp}{a:Act}(hL:nrL L=true->nr=true){ns:List NI}(hns:trIs P L m ops (List.range ops.size)=some ns){pre:Nat->List Nat}{W:Nat->Nat->Bool}
  (hW:ascB ops=true->∀ (x e:Nat) (done:List Nat),(∀ i∈done,∀ p∈pre i,p∈done)->W x e=true->(∀ p∈pre x,p∈done)->e∈done)
  (hl:Zhb ns ops pre W=some l) (h:FOps P l Q σ H) (r:Rel P L m σ H a Ha) {sched:List Nat} (hsched:ascB ops=true->Lin ops.size pre [] sched):Ops P nr ops (Nx P L m Q) sched a Ha:=by
 unfold Zhb at hl
 obtain⟨hB,rfl⟩:=Za0 hl
 simp only[Bool.and_eq_true]at hB
 obtain⟨⟨hasc,hlin⟩,hord⟩:=hB
 obtain⟨hlen,hget⟩:=ZjM hns
 have hX:∀ i,i<ops.size->trI P L m ops i=some (ns.getD i default):=by
  intro i hi
  rw[hget i i (by simp[hi])]
  rw[List.length_range]at hlen
  rw[List.getD_eq_getElem?_getD,List.getElem?_eq_getElem (by omega)]
  rfl
 have hs:=hsched hasc
 have hgo:=ZeC (P:=P) (pre:=pre) (hW hasc) _ (Zkk hlin) hs (fun i hi=>by simp at hi) hord (Zkq h)
 obtain⟨h1,h2⟩:=ZmB hX (fun i hi=>(hs.fresh i hi).1) hgo
 exact Zdv hL h1 h2 r
theorem Zhm {ops:Array Oper}(hasc:ascB ops=true):∀ (x e:Nat) (done:List Nat),(∀ i∈done,∀ p∈Zda ops i,p∈done)->Zev ops x e=true->(∀ p∈Zda ops x,p∈done)->e∈done:=by
 intro x e done hcl hw hp
 unfold Zev at hw
 have hx:x<ops.size:=by
  rcases Nat.lt_or_ge x ops.size with h | h
  ·exact h
  ·rw[List.getD_eq_getElem?_getD,List.getElem?_eq_none (by rw[ZbS];exact h)]at hw
   simp at hw
 rw[Zf1 ops _ x hx]at hw
 exact Zji hasc hcl x e hw hp
theorem Zjw {P:Prg}{nr:Bool}{L:List (Nat×Nat)}{m:Nat}{ops:Array Oper}{l:List (NI×Option Bool)}{Q:NSt->Hp->Prop}{σ:NSt}{H Ha:Hp}{a:Act}(hL:nrL L=true->nr=true)(hl:Zjx P L m ops=some l)(h:FOps P l Q σ H)(r:Rel P L m σ H a Ha)(t:Nat) :
  Ops P nr ops (Nx P L m Q) (Region.schedule true ops t) a Ha:=by
 unfold Zjx at hl
 split at hl
 ·simp at hl
 ·rename_i ns hns
  exact Zdm hL hns (fun hasc=>Zhm hasc) hl h r (fun hasc=>Ze3 hasc t)
theorem ZiR {P:Prg}{nr:Bool}{L:List (Nat×Nat)}{m:Nat}{ops:Array Oper}{l1 l2:List (NI×Option Bool)}{Q:NSt->Hp->Prop}{σ:NSt}{H Ha:Hp}{a:Act}(hL:nrL L=true->nr=true)(hl:ZmI P L m ops=some (l1,l2))(h1:FOps P l1 Q σ H)(h2:FOps P l2 Q σ H)(r:Rel P L m σ H a Ha)(t:Nat) :
  Ops P nr ops (Nx P L m Q) (Region.schedule true ops t) a Ha:=by
 unfold ZmI at hl
 split at hl
 ·simp at hl
 ·rename_i ns hns
  split at hl
  ·simp at hl
  ·rename_i i j hp
   split at hl
   ·rename_i hc
    simp only[Bool.and_eq_true,Bool.not_eq_true']at hc
    have hne:i≠j:=by rintro rfl;rw[Nat.beq_refl]at hc;simp at hc
    have hlt:i<ops.size:=by have:=hc.2;exact Nat.le_of_ble_eq_true this
    split at hl
    ·rename_i a1 a2 e1 e2
     simp only[Option.some.injEq,Prod.mk.injEq]at hl
     obtain⟨rfl,rfl⟩:=hl
     by_cases hasc:ascB ops=true
     ·rcases(Ze3 hasc t).edge hne hlt (by simp) (by simp) with h | h
      ·exact Zdm hL hns (fun hasc=>ZjI (Zhm hasc)) e1 h1 r (fun _=>h)
      ·exact Zdm hL hns (fun hasc=>ZjI (Zhm hasc)) e2 h2 r (fun _=>h)
     ·unfold Zhb at e1
      simp only[hasc,Bool.false_and]at e1
      simp at e1
    ·simp at hl
   ·simp at hl
inductive Zaj where
 | skip
 | ops (l:List NI)
 | drawn (l:List (NI×Option Bool))
 | two (l1 l2:List (NI×Option Bool))
 | seq (a b:Zaj)
 | cond (c:Operand) (t e:Zaj)
 | block (id:Nat) (b:Zaj)
 | loop (b:Zaj)
 | exit (id:Nat)
 | ret
 | rfun (f:Operand) (params:List Nat) (as bd:Zaj)
def NSt.round (σ:NSt):List Nat->List Value->NSt
 | t :: ts,v :: vs=>NSt.round (σ.set (some t) v) ts vs
 | _,_=>σ
def NSt.bare (σ:NSt):NSt:={ env:=σ.env,box:=fun _=>none,defs:=[] }
def Zhv (I:Hp->Prop)(S:Ex->Hp->Prop):Ex->NSt->Hp->Prop
 | .normal,_,H=>I H
 | e,_,H=>S e H
def noEnd:Ex->NSt->Hp->Prop:=fun _ _ _=>False
def ZaS (P:Program)(L:List (Nat×Nat))(m:Nat)(rd:Rd):Code->Option Zaj
 | .skip=>some .skip
 | .label _=>some .skip
 | .region _ ops false=>if rd.top || ZeG ops then (trIs P L m ops (List.range ops.size)).map .ops else none
 | .region _ ops true=>
  match ZmI P L m ops with
  | some (l1,l2)=>if P.follows .mixedOrders && (rd.top || ZeG ops) then some (.two l1 l2) else none
  | none=>
  match Zjx P L m ops with
  | some l=>if P.follows .mixedOrders && (rd.top || ZeG ops) then some (.drawn l) else none
  | none=>none
 | .seq a b=>match ZaS P L m rd a,ZaS P L m rd b with
  | some x,some y=>some (.seq x y)
  | _,_=>none
 | .cond c t e=>match ZaS P L m rd t,ZaS P L m rd e with
  | some x,some y=>if nl L c then some (.cond c x y) else none
  | _,_=>none
 | .block id b=>(ZaS P L m rd b).map (.block id)
 | .scope b=>ZaS P L m rd b
 | .loop b=>(ZaS P L m rd b).map .loop
 | .exit id=>some (.exit id)
 | .ret=>some .ret
 | .rangeFunc f ps as bd=>if rd.top && L.isEmpty && (ps.toList.all fun t=>decide (t<m)) then
   match ZaS P L m ⟨false,false⟩ as,ZaS P L m ⟨false,false⟩ bd with
   | some x,some y=>some (.rfun f ps.toList x y)
   | _,_=>none
  else none
 | _=>none
theorem Ze2 (r:Nat)(ds:List Deferred):Zbs (ZiC r :: ds)=r :: Zbs ds:=rfl
theorem Rel.marked {P:PQ}{m:Nat}{σ:NSt}{H K J:Hp}{a:Act}{r:Nat}(hlone:∀ g,P.still g=false)(rel:Rel P [] m σ H a (H.join K)) (hmem:∃ ρ:Nat->Nat,(∀ d cs,σ.box d=some cs->∃ t,K (ρ d)=some (.cells cs.toArray t (0,0),true)) ∧
  (∀ d d' cs cs',σ.box d=some cs->σ.box d'=some cs'->ρ d=ρ d'->d=d')∧(∀ t v,σ.env t=some v->RelV [] ρ t v (a.tmps.getD t undef))∧ZgD P K a.defers) {H':Hp} (hc:H'.Comp K) (hcJ:(H'.join K).Comp J) (hJ:J r=some (.deferred (some []),true)) :
  Rel P [] m σ H' ⟨a.tmps,ZiC r :: a.defers⟩ ((H'.join K).join J):=by
 obtain⟨ρ,e3,e4,e5,e6⟩:=hmem
 have hKJ:K.Comp J:=Hp.Comp.of_join_right hc hcJ
 refine⟨rel.size,rel.defers,ρ,K.join J,Hp.join_assoc _ _ _,hc.join_r hcJ.of_join_left,fun d cs hd=>?_,e4,e5,?_,fun x hx=>?_,.inr hlone⟩
 ·obtain⟨t,ht⟩:=e3 d cs hd
  exact⟨t,Hp.join_left ht⟩
 ·rw[Ze2,List.nodup_cons]
  refine⟨fun hm=>?_,e6.1⟩
  have:=hKJ r _ _ (e6.2.1 r hm) hJ
  simp at this
 ·rw[Ze2]at hx
  rcases List.mem_cons.1 hx with rfl | hx
  ·exact Hp.join_right hKJ hJ
  ·exact Hp.join_left (e6.2.1 x hx)
theorem Zie {P:PQ}{m:Nat}:∀ {ps:List Nat} {vs:List Value} {σ:NSt} {tmps:Array Value} {H:Hp},(∀ t∈ps,t<m)->Rel P [] m σ H ⟨tmps,[]⟩ H->Rel P [] m (σ.round ps vs) H ⟨(ps.zip vs).foldl (fun tmps (t,a)=>tmps.setIfInBounds t a) tmps,[]⟩ H
 | [],vs,σ,tmps,H,_,r=>by simpa[NSt.round]using r
 | t :: ps,[],σ,tmps,H,_,r=>by simpa[NSt.round]using r
 | t :: ps,v :: vs,σ,tmps,H,hm,r=>by
  simp only[NSt.round,List.zip_cons_cons,List.foldl_cons]
  have:=r.set (dst:=some t) (by simp[dnl,hm t (by simp)]) v
  exact Zie (fun x hx=>hm x (by simp[hx])) this
abbrev Nq (P:PQ)(L:List (Nat×Nat))(m:Nat)(Q:Ex->NSt->Hp->Prop)(e:Ex)(a:Act)(Ha:Hp):Prop:=∃ σ H,Rel P L m σ H a Ha∧Q e σ H
def Esc (P:Prg)(a b:Zaj)(Q:Ex->NSt->Hp->Prop)(σ:NSt)(H:Hp):Prop:=
 ∀ (L:List (Nat×Nat)) (m:Nat) (rd:Rd) (code:Code) (act:Act) (Ha:Hp),(nrL L=true->rd.nr=true)->ZaS P L m rd code=some (.seq a b)->Rel P L m σ H act Ha->Tri P rd code (Nq P L m Q) act Ha
theorem Esc.mono {P:Prg}{a b:Zaj}{Q Q':Ex->NSt->Hp->Prop}{σ:NSt}{H:Hp}(hq:∀ e σ H,Q e σ H->Q' e σ H)(h:Esc P a b Q σ H):Esc P a b Q' σ H:=
 fun L m rd code act Ha h1 h2 h3=>(h L m rd code act Ha h1 h2 h3).mono fun e a H ⟨σ,H0,r,hh⟩=>⟨σ,H0,r,hq _ _ _ hh⟩
def Zaj.w (P:Prg):Zaj->(Ex->NSt->Hp->Prop)->NSt->Hp->Prop
 | .skip,Q,σ,H=>Q .normal σ H
 | .ops l,Q,σ,H=>NOps P l (Q .normal) σ H
 | .drawn l,Q,σ,H=>P.still H.gh=false∧FOps P l (Q .normal) σ H
 | .two l1 l2,Q,σ,H=>P.still H.gh=false∧FOps P l1 (Q .normal) σ H∧FOps P l2 (Q .normal) σ H
 | .seq a b,Q,σ,H=>a.w P (NEx.then (b.w P Q) Q) σ H∨Esc P a b Q σ H∨∃ (ι:Type) (I:ι->Hp->Prop) (st:ι->NSt),a.w P (NEx.then (fun σ' H'=>∃ i,I i H'∧(st i).Le σ') Q) σ H∧∀ i H,I i H->b.w P Q (st i) H
 | .cond c t e,Q,σ,H=>∃ b,σ.get c=some (.bool b)∧(b=true->t.w P Q σ H)∧(b=false->e.w P Q σ H)
 | .block id b,Q,σ,H=>b.w P (NEx.inBlock id Q) σ H
 | .loop b,Q,σ,H=>∃ (ι:Type) (I:ι->Hp->Prop) (μ:ι->Nat) (st:ι->NSt) (i:ι),I i H∧(st i).Le σ∧∀ i H,I i H->b.w P (NEx.then (fun σ' H'=>∃ j,μ j<μ i∧I j H'∧(st j).Le σ') Q) (st i) H
 | .exit id,Q,σ,H=>Q (.exit id) σ H
 | .ret,Q,σ,H=>Q .ret σ H
 | .rfun f ps as bd,Q,σ,H=>(∀ g,P.still g=false)∧∃ (N:Hp->Prop) (xs:List (List Value)) (fv:Value),σ.get f=some fv∧Iter P fv N xs∧(∀ x∈xs,x.length=ps.length) ∧
   ∃ (I:Nat->Hp->Prop) (S:Ex->Hp->Prop),I 0 H∧(∀ n,Up (I n))∧(∀ e,Up (S e))∧(∀ n H,I n H->N H) ∧
   (∀ n (hn:n<xs.length) H,I n H->as.w P (NEx.then (bd.w P (Zhv (I (n+1)) S)) noEnd) (σ.bare.round ps xs[n]) H) ∧
   (∀ H,I xs.length H->Q .normal σ H)∧∀ e H,e≠.normal->S e H->Q e σ H
theorem Nq.then {P:Prg}{L:List (Nat×Nat)}{m:Nat}{next:NSt->Hp->Prop}{Q:Ex->NSt->Hp->Prop}{next':Act->Hp->Prop}(hn:∀ σ H a Ha,Rel P L m σ H a Ha->next σ H->next' a Ha){e:Ex}{a:Act}{Ha:Hp}(h:Nq P L m (NEx.then next Q) e a Ha):Ex.then next' (Nq P L m Q) e a Ha:=by
 obtain⟨σ,H,r,hq⟩:=h
 cases e with
 | normal=>exact hn _ _ _ _ r hq
 | exit id=>exact⟨σ,H,r,hq⟩
 | ret=>exact⟨σ,H,r,hq⟩
theorem ZaK {P:Prg}{L:List (Nat×Nat)}{m:Nat}:∀ {rd:Rd} {c:Code} {n:Zaj} {Q:Ex->NSt->Hp->Prop} {σ:NSt} {H Ha:Hp} {a:Act},(nrL L=true->rd.nr=true)->ZaS P L m rd c=some n->n.w P Q σ H->Rel P L m σ H a Ha->Tri P rd c (Nq P L m Q) a Ha
 | rd,.skip,n,Q,σ,H,Ha,a,hL,ht,h,r=>by
  simp only[ZaS,Option.some.injEq]at ht
  subst ht
  exact .skip ⟨_,_,r,h⟩
 | rd,.label _,n,Q,σ,H,Ha,a,hL,ht,h,r=>by
  simp only[ZaS,Option.some.injEq]at ht
  subst ht
  exact .label ⟨_,_,r,h⟩
 | rd,.region id ops dr,n,Q,σ,H,Ha,a,hL,ht,h,r=>by
  cases dr with
  | true=>
   simp only[ZaS]at ht
   split at ht
   ·rename_i l1 l2 hl
    obtain⟨h1,rfl⟩:=Za0 ht
    simp only[Bool.and_eq_true,Bool.or_eq_true]at h1
    refine .draws (r.loud h.1) h1.2 fun t=>?_
    rw[h1.1]
    exact ZiR hL hl h.2.1 h.2.2 r t
   split at ht
   ·rename_i l hl
    obtain⟨h1,rfl⟩:=Za0 ht
    simp only[Bool.and_eq_true,Bool.or_eq_true]at h1
    refine .draws (r.loud h.1) h1.2 fun t=>?_
    rw[h1.1]
    exact Zjw hL hl h.2 r t
   ·simp at ht
  | false=>
   simp only[ZaS]at ht
   split at ht
   ·rename_i hd
    simp only[Option.map_eq_some_iff]at ht
    obtain⟨ns,h1,rfl⟩:=ht
    simp only[Bool.or_eq_true]at hd
    exact .region hd (Zdv hL h1 h r)
   ·simp at ht
 | rd,.seq x y,n,Q,σ,H,Ha,a,hL,ht,h,r=>by
  simp only[ZaS]at ht
  split at ht
  ·rename_i nx ny hx hy
   simp only[Option.some.injEq]at ht
   subst ht
   rcases h with h | h | ⟨ι,I,st,h1,h2⟩
   ·refine .seq ((ZaK hL hx h r).mono fun e a' H' hq=>?_)
    exact Nq.then (P:=P) (fun σ H a Ha r' h'=>ZaK hL hy h' r') hq
   ·exact h L m rd (.seq x y) a Ha hL (by simp only[ZaS,hx,hy]) r
   ·refine .seq ((ZaK hL hx h1 r).mono fun e a' H' hq=>?_)
    exact Nq.then (P:=P) (fun σ H a Ha r' ⟨i,hi,hl⟩=>ZaK hL hy (h2 i H hi) (r'.less hl)) hq
  ·simp at ht
 | rd,.cond c x y,n,Q,σ,H,Ha,a,hL,ht,h,r=>by
  simp only[ZaS]at ht
  split at ht
  ·rename_i nx ny hx hy
   split at ht
   ·rename_i hc
    simp only[Option.some.injEq]at ht
    subst ht
    obtain⟨b,hb,h1,h2⟩:=h
    refine .cond (t:=b) (r.get hc hb) ?_
    cases b with
    | true=>exact ZaK hL hx (h1 rfl) r
    | false=>exact ZaK hL hy (h2 rfl) r
   ·simp at ht
  ·simp at ht
 | rd,.block id b,n,Q,σ,H,Ha,a,hL,ht,h,r=>by
  simp only[ZaS,Option.map_eq_some_iff]at ht
  obtain⟨nb,h1,rfl⟩:=ht
  refine .block ((ZaK hL h1 h r).mono ?_)
  rintro e a' H' ⟨σ',H1,r',hq⟩
  cases e with
  | normal=>exact⟨_,_,r',hq⟩
  | ret=>exact⟨_,_,r',hq⟩
  | exit id'=>
   simp only[NEx.inBlock]at hq
   simp only[Ex.inBlock]
   split
   ·rename_i e;rw[if_pos e]at hq;exact⟨_,_,r',hq⟩
   ·rename_i e;rw[if_neg e]at hq;exact⟨_,_,r',hq⟩
 | rd,.scope b,n,Q,σ,H,Ha,a,hL,ht,h,r=>.scope (ZaK hL (by simpa only[ZaS]using ht) h r)
 | rd,.loop b,n,Q,σ,H,Ha,a,hL,ht,h,r=>by
  simp only[ZaS,Option.map_eq_some_iff]at ht
  obtain⟨nb,h1,rfl⟩:=ht
  obtain⟨ι,I,μ,st,i0,h0,hl,hr⟩:=h
  refine .loop (fun n a Ha=>∃ i H,μ i=n∧Rel P L m (st i) H a Ha∧I i H) (μ i0) ⟨i0,H,rfl,r.less hl,h0⟩ ?_
  rintro n a' Ha' ⟨i,H',rfl,r',hI⟩
  refine(ZaK hL h1 (hr i H' hI) r').mono fun e a2 H2 hq=>?_
  exact Nq.then (P:=P) (fun σ H a Ha r' ⟨j,hm,hI',hl'⟩=>⟨μ j,hm,j,H,rfl,r'.less hl',hI'⟩) hq
 | rd,.exit id,n,Q,σ,H,Ha,a,hL,ht,h,r=>by
  simp only[ZaS,Option.some.injEq]at ht
  subst ht
  exact .exit ⟨_,_,r,h⟩
 | rd,.ret,n,Q,σ,H,Ha,a,hL,ht,h,r=>by
  simp only[ZaS,Option.some.injEq]at ht
  subst ht
  exact .ret ⟨_,_,r,h⟩
 | rd,.goto _,_,_,_,_,_,_,_,ht,_,_=>by simp[ZaS]at ht
 | rd,.refuse _,_,_,_,_,_,_,_,ht,_,_=>by simp[ZaS]at ht
 | rd,.rangeFunc f ps as bd,n,Q,σ,H,Ha,a,hL,ht,h,r=>by
  simp only[ZaS]at ht
  split at ht
  ·rename_i hc
   simp only[Bool.and_eq_true,List.isEmpty_iff]at hc
   obtain⟨⟨htop,rfl⟩,hps⟩:=hc
   obtain⟨rt,rn⟩:=rd
   simp only at htop
   subst htop
   split at ht
   ·rename_i x y hx hy
    simp only[Option.some.injEq]at ht
    subst ht
    obtain⟨hs,N,xs,fv,hfv,hit,hlen,I,S,h0,hup,hupS,hIN,hround,hdone,hstop⟩:=h
    have hev:a.eval f=fv:=r.get (by cases f<;>rfl) hfv
    obtain⟨ρ,K,e1,e2,e3,e4,e5,e6⟩:=r.mem
    subst e1
    refine Tri.rangeFunc hs (by rw[hev];exact hit) (fun x hx=>by rw[hlen x hx];simp) (fun n HF=>∃ H1:Hp,HF=H1.join K∧H1.Comp K∧I n H1) (fun e HF=>∃ H1:Hp,HF=H1.join K∧H1.Comp K∧S e H1)
     (fun n=>Zho (hup n)) (fun e=>Zho (hupS e)) ?_ ⟨H,rfl,e2,h0⟩ ?_ ?_ ?_
    ·rintro n HF J ⟨H1,rfl,hc,hi⟩ hJ
     exact hIN n _ (hup n _ _ hJ (hup n _ _ hc hi))
    ·rintro n hn HF ⟨H1,rfl,hc,hi⟩
     have hr0:Rel P [] m σ.bare H1 ⟨a.tmps,[]⟩ H1:=⟨r.size,rfl,ρ,.nil,(Hp.join_nil _).symm,Hp.comp_nil _,fun d cs h=>by simp[NSt.bare]at h,fun d d' cs cs' h=>by simp[NSt.bare]at h,e5,.nil _ _⟩
     have hr1:=Zie (ps:=ps.toList) (vs:=xs[n]) (fun t ht=>by simpa using List.all_eq_true.1 hps t ht) hr0
     have hz:(ps.zip xs[n].toArray).foldl (fun tmps (t,a)=>tmps.setIfInBounds t a) a.tmps=(ps.toList.zip xs[n]).foldl (fun tmps (t,a)=>tmps.setIfInBounds t a) a.tmps:=by
      rw[<-Array.foldl_toList]
      simp
     rw[hz]
     refine((ZaK (rd:=⟨false,false⟩) (fun h=>by simp[nrL]at h) hx (hround n hn H1 hi) hr1).frame hc).mono ?_
     rintro e a1 HF ⟨H2,rfl,hc2,σ2,H3,r2,hq⟩
     cases e with
     | ret=>exact hq.elim
     | exit id=>exact hq.elim
     | normal=>
      refine((ZaK (rd:=⟨false,false⟩) (fun h=>by simp[nrL]at h) hy hq r2).frame hc2).mono ?_
      rintro e a3 HF ⟨H4,rfl,hc4,σ3,H5,r3,hq3⟩
      obtain⟨ρ',K',g1,g2,_⟩:=r3.mem
      subst g1
      cases e with
      | normal=>exact⟨_,rfl,hc4,hup _ _ _ g2 hq3⟩
      | ret=>exact⟨_,rfl,hc4,hupS _ _ _ g2 hq3⟩
      | exit id=>exact⟨_,rfl,hc4,hupS _ _ _ g2 hq3⟩
    ·rintro HF r' J ⟨H1,rfl,hc,hi⟩ hJ hr'
     exact⟨σ,H1,r.marked hs ⟨ρ,e3,e4,e5,e6⟩ hc hJ hr',hdone _ hi⟩
    ·rintro e HF r' J he ⟨H1,rfl,hc,hi⟩ hJ hr'
     exact⟨σ,H1,r.marked hs ⟨ρ,e3,e4,e5,e6⟩ hc hJ hr',hstop _ _ he hi⟩
   ·simp at ht
  ·simp at ht
end Go.LL
end
section
namespace Go.LL
def env0 (args:List Value):NSt:={ env:=fun t=>args[t]?,box:=fun _=>none,defs:=[] }
inductive NRes where
 | slot (t:Nat)
 | var (t d:Nat) (n:Option Nat)
 | mem (t:Nat) (n:Option Nat)
def trRes (P:Program)(L:List (Nat×Nat)):ResultVar->Option NRes
 | .tmp t=>if nl L (.tmp t) then some (.slot t) else none
 | .cell s t=>match L.lookup s,Zb5 P t with
  | some d,some n=>some (.var s d n)
  | none,some n=>some (.mem s n)
  | _,_=>none
def NRes.ev (σ:NSt):NRes->Option Value
 | .slot t=>σ.env t
 | .var t d n=>match σ.env t,σ.box d with
  | some (.int .i64 (.ofNat off)),some cs=>match n with
   | none=>cs[off]?
   | some n=>if off+n<=cs.length then some (.agg ((cs.drop off).take n).toArray) else none
  | _,_=>none
 | .mem ..=>none
def NRes.atH (σ:NSt)(H:Hp)(x:NRes)(v:Value):Prop:=
 match x with
 | .mem t none=>∃ a,σ.env t=some (.pointer (some a))∧CellsAt H a [v]
 | .mem t (some n)=>∃ a cs,σ.env t=some (.pointer (some a))∧v=.agg cs.toArray∧cs.length=n∧CellsAt H a cs
 | x=>x.ev σ=some v
def ResAt (σ:NSt)(H:Hp):List NRes->List Value->Prop
 | [],[]=>True
 | x :: r,v :: vs=>x.atH σ H v∧ResAt σ H r vs
 | _,_=>False
theorem ResAt.defs {σ:NSt}{H:Hp}{ds:List Deferred}:∀ {rs:List NRes} {vs:List Value},ResAt { σ with defs:=ds } H rs vs↔ResAt σ H rs vs
 | [],[]=>Iff.rfl
 | [],_ :: _=>Iff.rfl
 | _ :: _,[]=>Iff.rfl
 | x :: r,v :: vs=>by
  have:=ResAt.defs (σ:=σ) (H:=H) (ds:=ds) (rs:=r) (vs:=vs)
  simp only[ResAt,this]
  refine and_congr ?_ Iff.rfl
  rcases x with t | ⟨t,d,n⟩ | ⟨t,_ | n⟩<;>exact Iff.rfl
def Zhx (σ:NSt):List NRes->Option (List Value)
 | []=>some []
 | x :: r=>match x.ev σ,Zhx σ r with
  | some v,some vs=>some (v :: vs)
  | _,_=>none
def NRes.cell:NRes->Bool
 | .slot _=>false
 | .var ..=>true
 | .mem ..=>true
def ZeX (P:Program)(L:List (Nat×Nat)):List ResultVar->Option (List NRes)
 | []=>some []
 | x :: r=>match trRes P L x,ZeX P L r with
  | some v,some vs=>some (v :: vs)
  | _,_=>none
def Zbd:List Value->Value
 | [v]=>v
 | vs=>.tuple vs.toArray
def NUnw (P:Prg):List Deferred->(Hp->Prop)->Hp->Prop
 | [],K,H=>K H
 | d :: ds,K,H=>Za4 d.target=true∧(wpL P (invoke d.target d.args) (fun n _ H'=>UnwN P (NUnw P ds K) n H') false H ∨
   (Vals P.toProgram (invoke d.target d.args)∧ShOp P (invoke d.target d.args) false false H fun _ H'=>NUnw P ds K H'))
theorem NUnw.imp {P:Prg}{K K':Hp->Prop}(hk:∀ H,K H->K' H):∀ {ds:List Deferred} {H:Hp},NUnw P ds K H->NUnw P ds K' H
 | [],H,h=>hk _ h
 | d :: ds,H,h=>⟨h.1,h.2.imp (Za2 (fun n g H hn=>by
   cases n with
   | enter f args=>exact ZbE.mono hn fun _ H hh=>NUnw.imp hk hh
   | value v=>exact NUnw.imp hk hn
   | skip=>exact NUnw.imp hk hn
   | _=>exact hn.elim)) fun h=>⟨h.1,h.2.mono fun _ H hh=>NUnw.imp hk hh⟩⟩
def ZjG (P:Prg)(rs:List NRes)(Post:Value->Hp->Prop)(σ:NSt)(H:Hp):Prop:=NUnw P σ.defs (fun H=>(rs.any NRes.cell=true->P.still H.gh=false)∧∃ vs,ResAt σ H rs vs∧Post (Zbd vs) H) H
def Zhw (tmps:Array Value):ResultVar->Sem Value
 | .tmp t=>pure (tmps.getD t undef)
 | .cell a t=>do loadVar t (<-asAddr (tmps.getD a undef))
theorem res_one {P:PQ}{L:List (Nat×Nat)}{m:Nat}{σ:NSt}{H Ha:Hp}{a:Act}(r:Rel P L m σ H a Ha){x:ResultVar}{n:NRes}{v:Value}(hst:n.cell=true->P.still H.gh=false)(ht:trRes P L x=some n)(he:n.atH σ H v)(Q:Value->Bool->Hp->Prop)(g:Bool)(hq:Q v g Ha) :
  wpL P (Zhw a.tmps x) Q g Ha:=by
 cases x with
 | tmp t=>
  simp only[trRes]at ht
  obtain⟨h1,rfl⟩:=Za0 ht
  have:=r.get h1 (x:=.tmp t) (v:=v) he
  simp only[Act.eval]at this
  simp only[Zhw,this,Zac]
  exact hq
 | cell s t=>
  simp only[trRes]at ht
  split at ht
  rotate_left
  ·rename_i k hs hk
   simp only[Option.some.injEq]at ht
   subst ht
   have hn:nl L (.tmp s)=true:=by simp[nl,hs]
   obtain⟨ρ,K,e1,e2,_⟩:=r.mem
   have hst':=r.loud (hst rfl)
   cases k with
   | none=>
    obtain⟨a0,h1,h2,o,p,h3,h4⟩:=he
    have hg:=r.get hn (x:=.tmp s) h1
    simp only[Act.eval]at hg
    simp only[Zhw,hg,asAddr,Zaa,Zac,loadVar]
    rw[ZbL hk]
    simp only[Bool.false_eq_true,if_false]
    exact⟨o,p,v,⟨hst',by rw[e1];exact Hp.join_left h3⟩,rfl,h2,by simpa using h4 0 (by simp),hq⟩
   | some k=>
    obtain⟨a0,cs,h1,rfl,hl,h2,o,p,h3,h4⟩:=he
    have hg:=r.get hn (x:=.tmp s) h1
    simp only[Act.eval]at hg
    obtain⟨i',hi',hsz,hqq⟩:=ZcK hk
    simp only[Zhw,hg,asAddr,Zaa,Zac,loadVar]
    rw[hqq]
    simp only[if_true,Zaa,Zap hi',Zac,hsz,loadCells]
    have:=ZaZ (P:=P) (a:=a0) hst' (by rw[e1];exact Hp.join_left h3) h2 (fun v g H'=>Q (.agg v) g H') g cs 0 #[] (fun j hj=>by rw[Nat.zero_add];exact h4 j hj) (by simpa using hq)
    rw[hl]at this
    exact this
  ·simp at ht
  ·rename_i d k hs hk
   simp only[Option.some.injEq]at ht
   subst ht
   simp only[NRes.atH,NRes.ev]at he
   split at he
   ·rename_i off cs h1 h2
    obtain⟨b,tb,hb1,hb2⟩:=r.place hs (n:=off) h1 h2
    simp only[Zhw,hb1,asAddr,Zaa,Zac,loadVar]
    cases k with
    | none=>
     rw[ZbL hk]
     simp only[Bool.false_eq_true,if_false]
     exact⟨_,_,v,⟨r.loud (hst rfl),hb2⟩,rfl,rfl,by simpa[Obj.at?]using he,hq⟩
    | some k=>
     simp only at he
     split at he
     ·rename_i hle
      simp only[Option.some.injEq]at he
      subst he
      obtain⟨i',hi',hsz,hqq⟩:=ZcK hk
      rw[hqq]
      simp only[if_true,Zaa,Zap hi',Zac,hsz,loadCells]
      have hlen:((cs.drop off).take k).length=k:=by simp;omega
      have:=ZaZ (P:=P) (a:=⟨b,off,none⟩) (r.loud (hst rfl)) hb2 rfl (fun v g H'=>Q (.agg v) g H') g ((cs.drop off).take k) 0 #[] (fun j hj=>by
       simp only[Obj.at?,Nat.zero_add,List.getElem?_toArray]
       rw[List.getElem?_take,List.getElem?_drop,if_pos (by rw[hlen]at hj;exact hj)]) (by simpa using hq)
      rw[hlen]at this
      exact this
     ·simp at he
   ·simp at he
theorem Zfl {σ:NSt}{H:Hp}:∀ {rs:List NRes} {vs:List Value},Zhx σ rs=some vs->ResAt σ H rs vs
 | [],vs,h=>by
  simp only[Zhx,Option.some.injEq]at h
  subst h
  trivial
 | x :: r,vs,h=>by
  simp only[Zhx]at h
  split at h
  ·rename_i v vs' h1 h2
   simp only[Option.some.injEq]at h
   subst h
   refine⟨?_,Zfl h2⟩
   cases x with
   | mem t n=>simp[NRes.ev]at h1
   | _=>exact h1
  ·simp at h
def Zez (tmps:Array Value):List ResultVar->Sem (List Value)
 | []=>pure []
 | x :: r=>do let v <-Zhw tmps x;let vs <-Zez tmps r;pure (v :: vs)
theorem ZjV {P:PQ}{L:List (Nat×Nat)}{m:Nat}{σ:NSt}{H Ha:Hp}{a:Act}(r:Rel P L m σ H a Ha):∀ {xs:List ResultVar} {ns:List NRes} {vs:List Value} (Q:List Value->Bool->Hp->Prop) (g:Bool),(ns.any NRes.cell=true->P.still H.gh=false)->ZeX P L xs=some ns->ResAt σ H ns vs->Q vs g Ha->wpL P (Zez a.tmps xs) Q g Ha
 | [],ns,vs,Q,g,_,ht,he,hq=>by
  simp only[ZeX,Option.some.injEq]at ht
  subst ht
  cases vs with
  | nil=>exact hq
  | cons v vs=>exact he.elim
 | x :: xs,ns,vs,Q,g,hst,ht,he,hq=>by
  simp only[ZeX]at ht
  split at ht
  ·rename_i n ns' h1 h2
   simp only[Option.some.injEq]at ht
   subst ht
   cases vs with
   | nil=>exact he.elim
   | cons v vs'=>
    obtain⟨h3,h4⟩:=he
    simp only[Zez,Zaa]
    refine res_one r (fun h=>hst (by simp[h])) h1 h3 _ g ?_
    exact ZjV r _ g (fun h=>hst (by rw[List.any_cons,h];simp)) h2 h4 (by simpa[Zac]using hq)
  ·simp at ht
theorem ZgN (tmps:Array Value):∀ xs:List ResultVar,xs.mapM (Zhw tmps)=Zez tmps xs
 | []=>rfl
 | x :: xs=>by
  rw[List.mapM_cons,ZgN tmps xs];rfl
theorem ZkO (fn:Func)(tmps:Array Value):results fn tmps=(do let vs <-Zez tmps fn.results.toList;pure (Zbd vs)):=by
 have h0:results fn tmps=fn.results.mapM (Zhw tmps) >>= fun vs=>pure (if h:vs.size=1 then vs[0] else .tuple vs):=by
  unfold results
  congr 1
 have h1:fn.results.mapM (Zhw tmps)=Functor.map List.toArray (Zez tmps fn.results.toList):=by
  rw[<-ZgN]
  conv=>lhs;rw[show fn.results=fn.results.toList.toArray by simp]
  rw[List.mapM_toArray]
 rw[h0]
 rw[h1,map_eq_pure_bind,bind_assoc]
 congr 1
 funext vs
 simp only[pure_bind]
 congr 1
 cases vs with
 | nil=>rfl
 | cons v vs=>cases vs with
  | nil=>rfl
  | cons w vs=>simp[Zbd]
theorem UnwN.frame {P:Prg}{K K':Hp->Prop}{F:Hp}(hk:∀ H,H.Comp F->K H->K' (H.join F)):∀ {n:Next} {H:Hp},UnwN P K n H->H.Comp F->UnwN P K' n (H.join F):=by
 intro n H h hc
 cases n with
 | enter f args=>exact(ZbE.frame h hc).mono fun _ HF ⟨H',e,hc',h'⟩=>by rw[e];exact hk _ hc' h'
 | value v=>exact hk _ hc h
 | skip=>exact hk _ hc h
 | _=>exact h.elim
theorem ZjL {P:Prg}{fn:Func}{L:List (Nat×Nat)}{m:Nat}{rs:List NRes}{tmps:Array Value}{Post:Value->Hp->Prop}(hr:ZeX P L fn.results.toList=some rs):∀ (ds:List Deferred) (σ:NSt) (H Ha:Hp),
  Rel P L m σ H ⟨tmps,ds⟩ Ha->NUnw P σ.defs (fun H=>(rs.any NRes.cell=true->P.still H.gh=false)∧∃ vs,ResAt σ H rs vs∧Post (Zbd vs) H) H->Unw P fn tmps (fun v H'=>∃ H1 J:Hp,H'=H1.join J∧H1.Comp J∧Post v H1) ds Ha
 | [],σ,H,Ha,r,h=>by
  have hd:[]=σ.defs:=r.defers
  rw[<-hd]at h
  show wpL P (results fn tmps) _ false Ha
  rw[ZkO,Zaa]
  obtain⟨h0,vs,hv,h⟩:=h
  refine ZjV r _ _ h0 hr hv ?_
  obtain⟨ρ,K,e1,e2,_⟩:=r.mem
  exact⟨H,K,e1,e2,h⟩
 | d :: ds,σ,H,Ha,r,h=>by
  obtain⟨ρ,K,e1,e2,e3,e4,e5,e6⟩:=r.mem
  obtain⟨tg,da⟩:=d
  have hd:Zdb (⟨tg,da⟩ :: ds)=σ.defs:=r.defers
  have plain:Zg1 ⟨tg,da⟩=false->(∀ x,tg≠.collected x)->Za4 tg=true∧(wpL P (invoke tg da) (fun n _ H'=>UnwN P (Unw P fn tmps (fun v H'=>∃ H1 J:Hp,H'=H1.join J∧H1.Comp J∧Post v H1) ds) n H') false Ha ∨
    (Vals P.toProgram (invoke tg da)∧ShOp P (invoke tg da) false false Ha fun _ H'=>Unw P fn tmps (fun v H'=>∃ H1 J:Hp,H'=H1.join J∧H1.Comp J∧Post v H1) ds H')):=by
   intro hm hx
   simp only[Zdb,hm,Bool.false_eq_true,if_false]at hd
   rw[<-hd]at h
   obtain⟨h1,h2⟩:=h
   refine⟨h1,?_⟩
   rw[e1]
   suffices key:∀ H2:Hp,H2.Comp K->NUnw P (Zdb ds) (fun H=>(rs.any NRes.cell=true->P.still H.gh=false)∧∃ vs,ResAt σ H rs vs∧Post (Zbd vs) H) H2->Unw P fn tmps (fun v H'=>∃ H1 J:Hp,H'=H1.join J∧H1.Comp J∧Post v H1) ds (H2.join K) by
    refine h2.imp (fun h2=>Za2 ?_ (ZdV h2 e2)) fun ⟨hv2,h2⟩=>⟨hv2,(h2.frame e2).mono ?_⟩
    ·rintro n g HF ⟨H',rfl,hc,hn⟩
     exact UnwN.frame key hn hc
    ·rintro v HF ⟨H',rfl,hc,hn⟩
     exact key _ hc hn
   intro H2 hc2 hk
   have hmk:ZgD P K ds:=by
    unfold ZgD at e6 ⊢
    rw[Zd7 hm]at e6
    exact e6
   exact ZjL hr ds { σ with defs:=Zdb ds } H2 _ ⟨r.size,rfl,ρ,K,rfl,hc2,e3,e4,e5,hmk⟩ (NUnw.imp (fun H ⟨g1,vs,g2,g3⟩=>⟨g1,vs,ResAt.defs.2 g2,g3⟩) hk)
  cases tg with
  | collected b=>
   have hb:K b=some (.deferred (some []),true):=e6.2.1 b (by simp[Zbs])
   have hlone:∀ g,P.still g=false:=e6.2.2.resolve_left (by simp[Zbs])
   refine⟨hlone _,by rw[e1];exact Hp.join_right e2 hb,?_⟩
   have hHb:H b=none:=e2.left_none hb
   rw[e1,<-Hp.join_ins hHb]
   refine ZjL hr ds σ H _ ⟨r.size,hd,ρ,K.ins b (.deferred none),rfl,(e2.symm.ins_held hb).symm,fun d cs hdd=>?_,e4,e5,?_⟩ h
   ·obtain⟨t,ht⟩:=e3 d cs hdd
    refine⟨t,?_⟩
    rw[Hp.ins_other _ _ (by rintro e;rw[e,hb]at ht;simp at ht)]
    exact ht
   ·have h6:=e6.1
    simp only[Zbs,List.nodup_cons]at h6
    refine⟨h6.2,fun x hx=>?_,.inr hlone⟩
    rw[Hp.ins_other _ _ (by rintro rfl;exact h6.1 hx)]
    exact e6.2.1 x (by simp[Zbs,hx])
  | nil=>exact plain rfl (by simp)
  | fn f c=>exact plain rfl (by simp)
  | builtin b at_ t c=>exact plain rfl (by simp)
  | coroexit c=>exact plain rfl (by simp)
theorem ZbE.ofN {P:Prg}{kd:CallKind}{f:FuncId}{fn:Func}{body:Code}{args:List Value}{H:Hp}{Post:Value->Hp->Prop}{n:Zaj}{rs:List NRes}(L:List (Nat×Nat))(hkd:kd=.normal∨kd=.deferred)(hf:P.funcs[f]? = some fn)(hb:fn.body=some body)
  (hnr:(!(nrL L) || fn.norace)=true) (hn:ZaS P L fn.ntmps ⟨true,fn.norace⟩ body=some n) (hr:ZeX P L fn.results.toList=some rs) (hl:(L.all fun p=>decide (args.length<=p.1))=true) (hm:args.length<=fn.ntmps)
  (h:n.w P (fun e σ H=>match e with | .exit _=>False | _=>ZjG P rs Post σ H) (env0 args) H):ZbE P kd f args.toArray H Post:=by
 intro G c cs hcl ho hG
 have hrel:Rel P L fn.ntmps (env0 args) H ⟨args.toArray++Array.replicate (fn.ntmps-args.toArray.size) undef,[]⟩ H:=by
  refine⟨by simp;omega,rfl,fun _=>0,.nil,?_,?_,?_,?_,?_,.nil _ _⟩
  ·exact(Hp.join_nil H).symm
  ·exact Hp.comp_nil H
  ·intro d cs h;simp[env0]at h
  ·intro d d' cs cs' h;simp[env0]at h
  ·intro t v ht
   simp only[env0]at ht
   have hlt:t<args.length:=by
    rcases Nat.lt_or_ge t args.length with h | h
    ·exact h
    ·simp[List.getElem?_eq_none h]at ht
   have hno:L.lookup t=none:=by
    cases hh:L.lookup t with
    | none=>rfl
    | some d=>
     obtain⟨l1,l2,rfl,_⟩:=List.lookup_eq_some_iff.1 hh
     have:=List.all_eq_true.1 hl (t,d) (by simp)
     simp at this
     omega
   unfold RelV
   rw[hno]
   simp[Array.getElem?_append,hlt]
   rw[List.getElem?_eq_getElem hlt]at ht
   simpa using ht
 have hc:=ZbE.of (P:=P) (kd:=kd) (f:=f) (args:=args.toArray) (H:=H) (Post:=fun v H'=>∃ H1 J:Hp,H'=H1.join J∧H1.Comp J∧Post v H1) hkd hf hb rfl ?_
 ·refine hc G c cs hcl ho ?_
  rintro v H' ⟨H1,J,rfl,hj,hp⟩
  exact(hG v H1 hp).up hcl hj
 ·refine(ZaK (rd:=⟨true,fn.norace⟩) (fun h=>by rw[h]at hnr;simpa using hnr) hn h hrel).mono ?_
  rintro e ⟨at_,ad⟩ Ha ⟨σ,H',r,hq⟩
  cases e with
  | normal=>exact ZjL hr _ _ _ _ r hq
  | ret=>exact ZjL hr _ _ _ _ r hq
  | exit id=>exact hq.elim
def IsN (P:Program)(f:FuncId)(k:Nat)(n:Zaj)(rs:List NRes):Prop:=
 ∃ (fn:Func) (L:List (Nat×Nat)),P.funcs[f]? = some fn∧fn.body.bind (ZaS P L fn.ntmps ⟨true,fn.norace⟩)=some n∧ZeX P L fn.results.toList=some rs∧((L.all fun p=>decide (k<=p.1)) && decide (k<=fn.ntmps) && (!(nrL L) || fn.norace))=true
def NFn (n:Zaj)(rs:List NRes)(P:Prg)(args:List Value)(Post:Value->Hp->Prop)(H:Hp):Prop:=
 n.w P (fun e σ H=>match e with | .exit _=>False | _=>ZjG P rs Post σ H) (env0 args) H
theorem IsN.callsK {P:Prg}{kd:CallKind}(hkd:kd=.normal∨kd=.deferred){f:FuncId}{k:Nat}{n:Zaj}{rs:List NRes}(h:IsN P f k n rs){args:List Value}{H:Hp}{Post:Value->Hp->Prop}(hk:args.length=k)(hw:NFn n rs P args Post H):ZbE P kd f args.toArray H Post:=by
 obtain⟨fn,L,h1,h2,h3,h4⟩:=h
 rw[Bool.and_eq_true,Bool.and_eq_true,decide_eq_true_eq]at h4
 obtain⟨body,hb,hn⟩:=Option.bind_eq_some_iff.1 h2
 subst hk
 exact ZbE.ofN L hkd h1 hb h4.2 hn h3 h4.1.1 h4.1.2 hw
end Go.LL
end
