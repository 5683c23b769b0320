import Derived.Test.YthmnpenamnoniaaGreatDoorP01
set_option linter.all false
section
namespace Go.LL
theorem qLlD0 {G:Prop} (h:G:=by
  intro G c cs hcl hG
  have h0:=h (fun fr cs' H'=>cs'=cs∧∃ v H1 J,fr=c.finish v∧H'=H1.join J∧H1.Comp J∧Post v H1) c cs ?_ ?_
  ·refine(h0.frame hc).bind ?_
   rintro fr cs' HF ⟨H',rfl,hc',rfl,v,H1,J,rfl,rfl,hj,hp⟩
   have c1:H1.Comp F:=hc'.of_join_left
   have c2:J.Comp F:=Hp.Comp.of_join_right hj hc'
   rw[Hp.join_swap c2.symm]
   exact(hG v _ ⟨H1,rfl,c1,hp⟩).up hcl (Hp.Comp.join_l hj c2.symm)
  ·rintro fr cs' H' J hJ ⟨rfl,v,H1,J1,rfl,rfl,hj,hp⟩
   exact⟨rfl,v,H1,J1.join J,rfl,Hp.join_assoc _ _ _,hj.join_r hJ.of_join_left,hp⟩
  ·intro v H' hp
   exact .stop ⟨rfl,v,H',.nil,rfl,(Hp.join_nil H').symm,Hp.comp_nil H',hp⟩):G:=h
theorem Hp.ins_join (H F:Hp)(r:Nat)(o:Obj):(H.ins r o).join F=(H.join F).ins r o:=by
 refine Hp.ext' (fun b=>?_) rfl
 simp only[Hp.join_at,Hp.ins_at]
 by_cases h:b=r<;>simp[h]
theorem Hp.Comp.ins_held {H F:Hp}(hc:H.Comp F){r:Nat}{o o':Obj}(h:H r=some (o',true)):(H.ins r o).Comp F:=by
 refine⟨?_,hc.gh⟩
 intro b x y h1 h2
 simp only[Hp.ins_at]at h1
 split at h1
 ·subst b
  have:=hc r _ y h h2
  simp at this
 ·exact hc b x y h1 h2
theorem Hp.Comp.ins_new {H F:Hp}(hc:H.Comp F){r:Nat}(o:Obj)(h:F r=none):(H.ins r o).Comp F:=by
 refine⟨?_,hc.gh⟩
 intro b x y h1 h2
 simp only[Hp.ins_at]at h1
 split at h1
 ·subst b;rw[h]at h2;simp at h2
 ·exact hc b x y h1 h2
theorem Hp.Comp.right_none {H F:Hp}(hc:H.Comp F){r:Nat}{o:Obj}(h:H r=some (o,true)):F r=none:=by
 cases hf:F r with
 | none=>rfl
 | some y=>have:=hc r _ y h hf;simp at this
theorem Hp.Comp.left_none {H F:Hp}(hc:H.Comp F){r:Nat}{o:Obj}(h:F r=some (o,true)):H r=none:=by
 cases hf:H r with
 | none=>rfl
 | some y=>
  obtain⟨h1,h2⟩:=hc r _ _ hf h
  rw[h1]at h2;simp at h2
theorem ZdV {P:PQ}{α:Type}{s:Sem α}{Q:α->Bool->Hp->Prop}{F:Hp}:∀ {g:Bool} {H:Hp},wpL P s Q g H->H.Comp F ->
  wpL P s (fun a g HF=>∃ H',HF=H'.join F∧H'.Comp F∧Q a g H') g (H.join F):=by
 induction s with
 | pure a=>exact fun h hc=>⟨_,rfl,hc,h⟩
 | load m a k ih=>exact fun ⟨o,p,v,h1,h2,h3,h4,h5⟩ hc=>⟨o,p,v,⟨Za7 hc h1.1,Hp.join_left h1.2⟩,h2,h3,h4,ih v h5 hc⟩
 | store m a v k ih=>exact fun ⟨o,h1,h2,h3,h4,h5,h6,h7⟩ hc=>⟨o,⟨Za7 hc h1.1,Hp.join_left h1.2⟩,h2,h3,h4,h5,h6,by rw[<-Hp.ins_join];exact ih h7 (hc.ins_held h1.2)⟩
 | new o k ih=>
  intro g H h hc
  refine⟨Za7 hc h.1,fun r hr=>?_⟩
  obtain⟨h1,h2⟩:=Hp.join_none.1 hr
  rw[<-Hp.ins_join]
  exact ih r (h.2 r h1) (hc.ins_new o h2)
 | shape r k ih=>exact fun ⟨o,p,h1,h2⟩ hc=>⟨o,p,⟨Za7 hc h1.1,Hp.join_left h1.2⟩,ih _ h2 hc⟩
 | freeze a n k ih=>exact fun h hc=>h.imp (fun ⟨h1,h2⟩=>⟨h1,ih h2 hc⟩) (fun ⟨o,h1,h2,h3⟩=>⟨o,⟨Za7 hc h1.1,Hp.join_left h1.2⟩,h2,by rw[<-Hp.ins_join];exact ih h3 (hc.ins_held h1.2)⟩)
 | frozen a k ih=>exact fun ⟨o,p,h1,h2⟩ hc=>⟨o,p,⟨Za7 hc h1.1,Hp.join_left h1.2⟩,ih _ h2 hc⟩
 | getObj r k ih=>exact fun ⟨o,p,h1,h2,h3,h4⟩ hc=>⟨o,p,⟨Za7 hc h1.1,Hp.join_left h1.2⟩,h2,h3,ih _ h4 hc⟩
 | setObj r o k ih=>exact fun ⟨o',h1,h2,h3,h4,h5⟩ hc=>⟨o',⟨Za7 hc h1.1,Hp.join_left h1.2⟩,h2,h3,h4,by rw[<-Hp.ins_join];exact ih h5 (hc.ins_held h1.2)⟩
 | choose q k ih=>
  intro g H h hc
  by_cases hq':q.forced=true
  ·simp only[wpL,hq',if_true]at h ⊢
   exact ih _ h hc
  ·simp only[wpL,hq']at h ⊢
   exact⟨Za7 hc h.1,fun t=>ih _ (h.2 t) hc⟩
 | sys c k ih=>exact fun h _=>h
 | program k ih=>exact fun h hc=>ih _ h hc
 | mark m k ih=>exact fun ⟨h1,h2⟩ hc=>⟨h1.imp id fun h=>⟨h.1,Za7 hc h.2⟩,ih h2 hc⟩
 | halt h=>exact fun h _=>h
theorem Hp.join_assoc (H F J:Hp):(H.join F).join J=H.join (F.join J):=by
 refine Hp.ext' (fun b=>?_) (by simp only[Hp.join_gh,List.append_assoc])
 simp only[Hp.join_at]
 cases H b<;>rfl
theorem Hp.Comp.symm {H F:Hp}(h:H.Comp F):F.Comp H:=⟨fun b x y h1 h2=>by
 obtain⟨e,p⟩:=h b y x h2 h1
 exact⟨e.symm,by rw[<-e];exact p⟩,h.gh.symm⟩
theorem Hp.join_comm {H F:Hp}(h:H.Comp F):H.join F=F.join H:=by
 refine Hp.ext' (fun b=>?_) (by simp only[Hp.join_gh];rcases h.gh with e | e<;>simp[e])
 simp only[Hp.join_at]
 cases h1:H b with
 | none=>cases h2:F b<;>simp
 | some x=>
  cases h2:F b with
  | none=>rfl
  | some y=>simp[(h b x y h1 h2).1]
theorem Hp.Comp.of_join_left {H F J:Hp}(h:(H.join F).Comp J):H.Comp J:=⟨fun b x y h1 h2=>h b x y (Hp.join_left h1) h2,h.gh.imp (fun e=>(List.append_eq_nil_iff.1 e).1) id⟩
theorem Hp.Comp.of_join_right {H F J:Hp}(hc:H.Comp F)(h:(H.join F).Comp J):F.Comp J:=⟨fun b x y h1 h2=>h b x y (Hp.join_right hc h1) h2,h.gh.imp (fun e=>(List.append_eq_nil_iff.1 e).2) id⟩
theorem Hp.Comp.join_l {H F J:Hp}(h1:H.Comp J)(h2:F.Comp J):(H.join F).Comp J:=by
 refine⟨fun b x y hx hy=>?_,?_⟩
 ·simp only[Hp.join_at]at hx
  cases hh:H b with
  | none=>rw[hh]at hx;exact h2 b x y hx hy
  | some z=>rw[hh]at hx;exact h1 b x y (by rw[hh];exact hx) hy
 ·rcases h1.gh with e1 | e1
  ·rcases h2.gh with e2 | e2
   ·exact .inl (by simp[Hp.join_gh,e1,e2])
   ·exact .inr e2
  ·exact .inr e1
theorem Hp.join_nil (H:Hp):H.join .nil=H:=Hp.ext' (fun b=>by simp only[Hp.join_at];cases H b<;>rfl) (by simp[Hp.join_gh,Hp.nil])
theorem Hp.comp_nil (H:Hp):H.Comp .nil:=⟨fun _ _ _ _ h=>by simp[Hp.nil]at h,.inr rfl⟩
theorem Hp.Comp.join_r {H F J:Hp}(h1:H.Comp F)(h2:H.Comp J):H.Comp (F.join J):=(Hp.Comp.join_l h1.symm h2.symm).symm
theorem Hp.join_swap {H F J:Hp}(h:F.Comp J):(H.join J).join F=(H.join F).join J:=by
 rw[Hp.join_assoc,Hp.join_assoc,Hp.join_comm h]
theorem Zag.frame {P:Prg}{f:FuncId}{args:Array Value}{H F:Hp}{Post:Value->Hp->Prop}(h:Zag P f args H Post)(hc:H.Comp F) :
  Zag P f args (H.join F) (fun v HF=>∃ H',HF=H'.join F∧H'.Comp F∧Post v H'):=by
 exact qLlD0
theorem ZdM.frame {P:Prg}{l:Nat}{f:FuncId}{tmps:Array Value}{assign body:Code}{H F:Hp}{Post:Value->Hp->Prop}(h:ZdM P l f tmps assign body H Post)(hc:H.Comp F) :
  ZdM P l f tmps assign body (H.join F) (fun v HF=>∃ H',HF=H'.join F∧H'.Comp F∧Post v H'):=by
 exact qLlD0
theorem ShOp.frame {P:Prg}{s:Sem Next}{wk nr:Bool}{H F:Hp}{Post:Value->Hp->Prop}(h:ShOp P s wk nr H Post)(hc:H.Comp F) :
  ShOp P s wk nr (H.join F) (fun v HF=>∃ H',HF=H'.join F∧H'.Comp F∧Post v H'):=by
 intro G fr0 nx cs hcl ha hG
 have h0:=h (fun fr cs' H'=>cs'=cs∧∃ v H1 J,fr=nx v∧H'=H1.join J∧H1.Comp J∧Post v H1) fr0 nx cs ?_ ha ?_
 ·refine(h0.frame hc).bind ?_
  rintro fr cs' HF ⟨H',rfl,hc',rfl,v,H1,J,rfl,rfl,hj,hp⟩
  have c1:H1.Comp F:=hc'.of_join_left
  have c2:J.Comp F:=Hp.Comp.of_join_right hj hc'
  rw[Hp.join_swap c2.symm]
  exact(hG v _ ⟨H1,rfl,c1,hp⟩).up hcl (Hp.Comp.join_l hj c2.symm)
 ·rintro fr cs' H' J hJ ⟨rfl,v,H1,J1,rfl,rfl,hj,hp⟩
  exact⟨rfl,v,H1,J1.join J,rfl,Hp.join_assoc _ _ _,hj.join_r hJ.of_join_left,hp⟩
 ·intro v H' hp
  exact .stop ⟨rfl,v,H',.nil,rfl,(Hp.join_nil H').symm,Hp.comp_nil H',hp⟩
def Zg1 (d:Deferred):Bool:=
 match d.target with
 | .collected _=>true
 | _=>false
def Zbs:List Deferred->List Nat
 | []=>[]
 | d :: ds=>match d.target with
  | .collected r=>r :: Zbs ds
  | _=>Zbs ds
def Zdb:List Deferred->List Deferred
 | []=>[]
 | d :: ds=>if Zg1 d then Zdb ds else d :: Zdb ds
def ZgD (P:PQ)(K:Hp)(ds:List Deferred):Prop:=(Zbs ds).Nodup∧(∀ r∈Zbs ds,K r=some (.deferred (some []),true))∧(Zbs ds=[]∨∀ g,P.still g=false)
theorem ZgD.nil (P:PQ)(K:Hp):ZgD P K []:=⟨List.nodup_nil,fun r h=>by simp[Zbs]at h,.inl rfl⟩
theorem ZgD.ins {P:PQ}{K:Hp}{ds:List Deferred}(h:ZgD P K ds){r:Nat}{o:Obj}(hr:∀ o',K r=some (o',true)->∀ c,o'≠.deferred c):ZgD P (K.ins r o) ds:=
 ⟨h.1,fun x hx=>by
  have h2:=h.2.1 x hx
  by_cases e:x=r
  ·subst e;exact absurd rfl (hr _ h2 _)
  ·rw[Hp.ins_other _ _ e];exact h2,h.2.2⟩
theorem Zd7 {d:Deferred}{ds:List Deferred}(hd:Zg1 d=false):Zbs (d :: ds)=Zbs ds:=by
 unfold Zg1 at hd
 simp only[Zbs]
 split at hd
 ·simp at hd
 ·rfl
theorem ZgD.plain {P:PQ}{K:Hp}{ds:List Deferred}(h:ZgD P K ds){d:Deferred}(hd:Zg1 d=false):ZgD P K (d :: ds):=by
 unfold ZgD
 rw[Zd7 hd]
 exact h
def Zf7:Op->Bool
 | .defer _=>true
 | _=>false
structure NSt where
 env:Nat->Option Value
 box:Nat->Option (List Value)
 defs:List Deferred
def NSt.set (σ:NSt)(d:Option Nat)(v:Value):NSt:=
 match d with
 | none=>σ
 | some d=>{ σ with env:=fun t=>bif Nat.beq t d then some v else σ.env t }
def NSt.unset (σ:NSt)(d:Option Nat):NSt:=
 match d with
 | none=>σ
 | some d=>{ σ with env:=fun t=>bif Nat.beq t d then some undef else σ.env t }
def NSt.drop (σ:NSt)(ts:List Nat):NSt:={ σ with env:=fun t=>bif ts.elem t then none else σ.env t }
def NSt.put (σ:NSt)(d:Nat)(cs:List Value):NSt:={ σ with box:=fun t=>bif Nat.beq t d then some cs else σ.box t }
def NSt.get (σ:NSt):Operand->Option Value
 | .tmp t=>σ.env t
 | .const v=>some v
 | .global g=>some (.pointer (some ⟨g,0,none⟩))
 | .func f=>some (.func (.func f) #[] #[])
def NSt.gets (σ:NSt):List Operand->Option (List Value)
 | []=>some []
 | x :: r=>match σ.get x,σ.gets r with
  | some v,some vs=>some (v :: vs)
  | _,_=>none
inductive NOp where
 | mov (x:Operand)
 | pick (c a b:Operand)
 | bin (op:BinOp) (x y:Operand)
 | not (x:Operand)
 | ext (x:Operand) (i:Nat)
 | fld (off:Nat) (n:Option Nat) (x:Operand)
 | fadr (off:Nat) (x:Operand)
 | iadr (esz:Nat) (x i:Operand)
 | ld (n:Option Nat) (x:Operand)
 | len (x:Operand)
 | lzero (d:Nat) (ts:List Nat) (z:List Value)
 | lbox (d:Nat) (ts:List Nat) (x:Operand)
 | lfadr (off t:Nat)
 | liadr (esz len t:Nat) (i:Operand)
 | lld (d:Nat) (n:Option Nat) (t:Nat)
 | lst (d n t:Nat) (x:Operand)
 | call (f:FuncId) (args:List Operand)
 | build (z:List Value) (ps:List (Nat×Nat×Operand))
 | buildS (e:TypeId) (len:Nat) (z:List Value) (ps:List (Nat×Nat×Operand))
 | raw (op:Op) (ty:TypeId)
 | rawn (op:Op) (ty:TypeId)
 | pur (op:Op) (ty:TypeId)
def ZaM (z:List Value)(off:Nat)(vs:List Value):List Value:=z.take off++vs++z.drop (off+vs.length)
def buildV (σ:NSt):List (Nat×Nat×Operand)->List Value->Option (List Value)
 | [],z=>some z
 | (off,sz,x) :: r,z=>
  match σ.get x with
  | some v=>bif Nat.beq v.cells.size sz && Nat.ble (off+sz) z.length then buildV σ r (ZaM z off v.cells.toList) else none
  | none=>none
def binV (op:BinOp)(k:IntKind)(m n:Int):Option Value:=
 match op with
 | .add=>some (.int k (k.wrap (m+n)))
 | .sub=>some (.int k (k.wrap (m-n)))
 | .mul=>some (.int k (k.wrap (m * n)))
 | .eql=>some (.bool (m == n))
 | .neq=>some (.bool (m != n))
 | .lss=>some (.bool (m<n))
 | .leq=>some (.bool (m<=n))
 | .gtr=>some (.bool (m > n))
 | .geq=>some (.bool (m ≥ n))
 | _=>none
def isBinV (op:BinOp):Bool:=
 match op with
 | .add | .sub | .mul | .eql | .neq | .lss | .leq | .gtr | .geq=>true
 | _=>false
def bare (op:Op)(ty:TypeId):Oper:={ dst:=none,op:=op,type:=ty,pos:= "",after:=#[],guard:=none }
def PureVal (P:PQ)(s:Sem Next)(v:Value):Prop:=∀ (Q:Next->Bool->Hp->Prop) (g:Bool) (H:Hp),Q (.value v) g H->wpL P s Q g H
def RawN (P:Prg)(op:Op)(dst:Option Nat)(next:NSt->Hp->Prop)(σ:NSt):Next->Hp->Prop
 | .value v,H=>next (σ.set dst v) H
 | .skip,H=>next (σ.set dst undef) H
 | .enter f args,H=>Zag P f args H fun v H'=>next (σ.set dst v) H'
 | .round l f tmps as bd,H=>ZdM P l f tmps as bd H fun v H'=>next (σ.set dst v) H'
 | .defer d,H=>Zf7 op=true∧Zg1 d=false∧next ({ σ with defs:=d :: σ.defs }.set dst undef) H
 | _,_=>False
theorem RawN.mono {P:Prg}{op:Op}{dst:Option Nat}{K K':NSt->Hp->Prop}{σ:NSt}(hk:∀ σ H,K σ H->K' σ H):∀ {n:Next} {H:Hp},RawN P op dst K σ n H->RawN P op dst K' σ n H:=by
 intro n H h
 cases n with
 | value v=>exact hk _ _ h
 | skip=>exact hk _ _ h
 | enter f args=>exact Zag.mono h fun v H hv=>hk _ _ hv
 | round l f tmps as bd=>exact ZdM.mono h fun v H hv=>hk _ _ hv
 | defer d=>exact⟨h.1,h.2.1,hk _ _ h.2.2⟩
 | _=>exact h.elim
def NOp.w (P:Prg)(op:NOp)(dst:Option Nat)(next:NSt->Hp->Prop)(σ:NSt)(H:Hp):Prop:=
 match op with
 | .mov x=>∃ v,σ.get x=some v∧next (σ.set dst v) H
 | .pick c a b=>∃ t v,σ.get c=some (.bool t)∧σ.get (bif t then a else b)=some v∧next (σ.set dst v) H
 | .bin op x y=>∃ k m n v,σ.get x=some (.int k m)∧σ.get y=some (.int k n)∧binV op k m n=some v∧next (σ.set dst v) H
 | .not x=>∃ b,σ.get x=some (.bool b)∧next (σ.set dst (.bool !b)) H
 | .ext x i=>∃ vs v,σ.get x=some (.tuple vs)∧vs[i]? = some v∧next (σ.set dst v) H
 | .fld off n x=>∃ cs,σ.get x=some (.agg cs)∧match n with
  | none=>∃ v,cs[off]? = some v∧next (σ.set dst v) H
  | some n=>next (σ.set dst (.agg (cs.extract off (off+n)))) H
 | .fadr off x=>∃ a,σ.get x=some (.pointer (some a))∧next (σ.set dst (.pointer (some (a.add off)))) H
 | .iadr esz x i=>∃ (a:Addr) (ln cap:Nat) (k:IntKind) (n:Int),σ.get x=some (.slice (some a) ln cap)∧σ.get i=some (.int k n)∧0<=n∧n<ln∧next (σ.set dst (.pointer (some (a.add (n.toNat * esz))))) H
 | .ld n x=>P.still H.gh=false∧∃ a o p,σ.get x=some (.pointer (some a))∧a.spot=none∧H a.block=some (o,p)∧match n with
  | none=>∃ v,Obj.at? o a.off=some v∧next (σ.set dst v) H
  | some n=>∃ cs:List Value,cs.length=n∧(∀ j,j<n->Obj.at? o (a.off+j)=cs[j]?)∧next (σ.set dst (.agg cs.toArray)) H
 | .len x=>∃ b n c,σ.get x=some (.slice b n c)∧next (σ.set dst (.int .i64 (n:Nat))) H
 | .lzero d ts z=>P.still H.gh=false∧next (((σ.drop ts).set (some d) (.int .i64 0)).put d z) H
 | .lbox d ts x=>P.still H.gh=false∧∃ v,σ.get x=some v∧next (((σ.drop ts).set (some d) (.int .i64 0)).put d v.cells.toList) H
 | .lfadr off t=>∃ n:Nat,σ.env t=some (.int .i64 (n:Int))∧next (σ.set dst (.int .i64 ((n+off:Nat):Int))) H
 | .liadr esz ln t i=>∃ (n:Nat) (k:IntKind) (j:Int),σ.env t=some (.int .i64 (n:Int))∧σ.get i=some (.int k j)∧0<=j∧j<ln∧next (σ.set dst (.int .i64 ((n+j.toNat * esz:Nat):Int))) H
 | .lld d n t=>P.still H.gh=false∧∃ (off:Nat) (cs:List Value),σ.env t=some (.int .i64 (off:Int))∧σ.box d=some cs∧match n with
  | none=>∃ v,cs[off]? = some v∧next (σ.set dst v) H
  | some n=>off+n<=cs.length∧next (σ.set dst (.agg ((cs.drop off).take n).toArray)) H
 | .lst d n t x=>P.still H.gh=false∧∃ (off:Nat) (cs:List Value) (v:Value),σ.env t=some (.int .i64 (off:Int))∧σ.box d=some cs∧σ.get x=some v∧v.cells.size=n∧off+n<=cs.length∧(v.cells.toList.all Value.isOne)=true ∧
   next (σ.put d (cs.take off++v.cells.toList++cs.drop (off+n))) H
 | .call f args=>∃ vs,σ.gets args=some vs∧Zag P f vs.toArray H fun v H'=>next (σ.set dst v) H'
 | .build z ps=>∃ cs,buildV σ ps z=some cs∧next (σ.set dst (.agg cs.toArray)) H
 | .buildS e ln z ps=>P.still H.gh=false∧∃ cs,buildV σ ps z=some cs∧∀ r,H r=none->next (σ.set dst (.slice (some ⟨r,0,none⟩) ln ln)) (H.ins r (.cells cs.toArray e))
 | .raw op ty=>(op.operands.all fun x=>(σ.get x).isSome)=true∧(wpL P (execOp (fun x=>(σ.get x).getD undef) (bare op ty)) (fun n g H'=>g=true∨RawN P op dst next σ n H') false H ∨
   ShOp P (execOp (fun x=>(σ.get x).getD undef) (bare op ty)) (Zb7 P (bare op ty)) false H fun v H'=>next (σ.set dst v) H')
 | .rawn op ty=>(op.operands.all fun x=>(σ.get x).isSome)=true∧ShOp P (execOp (fun x=>(σ.get x).getD undef) (bare op ty)) (Zb7 P (bare op ty)) true H fun v H'=>next (σ.set dst v) H'
 | .pur op ty=>(op.operands.all fun x=>(σ.get x).isSome)=true∧∃ v,PureVal P (execOp (fun x=>(σ.get x).getD undef) (bare op ty)) v∧next (σ.set dst v) H
end Go.LL
end
section
namespace Go.LL
theorem qLlE0 {G:Prop} (h:G:=by
  induction x with
  | pure a=>rfl
  | halt h=>rfl
  | store m a v k ih=>simp only[Sem.bind,ih]
  | freeze a n k ih=>simp only[Sem.bind,ih]
  | setObj r o k ih=>simp only[Sem.bind,ih]
  | mark m k ih=>simp only[Sem.bind,ih]
  | _=>simp only[Sem.bind];congr 1;funext x;rename_i ih;exact ih x):G:=h
def nl (L:List (Nat×Nat))(x:Operand):Bool:=
 match x with
 | .tmp t=>(L.lookup t).isNone
 | _=>true
def dnl (L:List (Nat×Nat))(m:Nat)(d:Option Nat):Bool:=
 match d with
 | none=>true
 | some d=>(L.lookup d).isNone && d<m
def dloc (L:List (Nat×Nat))(m:Nat)(d:Option Nat)(r:Nat):Bool:=
 match d with
 | none=>false
 | some d=>L.lookup d == some r && d<m
def Zc7 (L:List (Nat×Nat))(d:Nat):List Nat:=(L.filter fun p=>p.2 == d).map (·.1)
def Zb5 (P:Program)(t:TypeId):Option (Option Nat):=
 match P.underlying t,P.info? t with
 | some (.struct _),some i=>some (some i.size)
 | some (.array _ _),some i=>some (some i.size)
 | some _,some _=>some none
 | _,_=>none
def Zdl (P:Program)(t:TypeId)(f:Nat):Option (Nat×TypeId×Nat):=
 match P.underlying t with
 | some (.struct fs)=>match fs[f]? with
  | some f=>match P.info? f.type with
   | some i=>some (f.offset,f.type,i.size)
   | none=>none
  | none=>none
 | _=>none
def Zds (P:Program)(fs:Array Field)(i:Nat):Option (Nat×Nat):=
 match fs[i]? with
 | some f=>match P.info? f.type with
  | some i=>some (f.offset,i.size)
  | none=>none
 | none=>none
def Zco (place:Nat->Option (Nat×Nat)):List (Nat×Operand)->Option (List (Nat×Nat×Operand))
 | []=>some []
 | (i,x) :: r=>match place i,Zco place r with
  | some (off,sz),some ps=>some ((off,sz,x) :: ps)
  | _,_=>none
def Zf6 (P:Program)(fs:Array Field):Bool:=fs.all fun f=>(P.info? f.type).isSome
def isSub:BinOp->Bool
 | .sub=>true
 | _=>false
def nrL (L:List (Nat×Nat)):Bool:=(L.lookup 999999).isSome
def isPur (P:Program):Op->Bool
 | .binOp .. | .slice .. | .nilCheck _=>true
 | .convert s d _=>match P.underlying s,P.underlying d with
  | some (.int _),some (.int _)=>true
  | _,_=>false
 | .call { callee:=.builtin .max,.. } | .call { callee:=.builtin .min,.. }=>true
 | _=>false
def Zij (P:Program)(L:List (Nat×Nat))(op:Op)(ty:TypeId):NOp:=if isPur P op && !(nrL L) then .pur op ty else .raw op ty
def trOp (P:Program)(L:List (Nat×Nat))(m:Nat)(o:Oper):Option NOp:=
 match o.op with
 | .move x=>if nl L x && dnl L m o.dst then some (.mov x) else none
 | .assign x=>if nl L x && dnl L m o.dst then some (.mov x) else none
 | .pick c a b=>if nl L c && nl L a && nl L b && dnl L m o.dst then some (.pick c a b) else none
 | .unOp .not _ x=>if nl L x && dnl L m o.dst then some (.not x) else none
 | .binOp op t x y _=>
  if nl L x && nl L y && dnl L m o.dst then
   match P.underlying t with
   | some (.int _)=>if isBinV op && !(nrL L && isSub op) then some (.bin op x y) else some (Zij P L o.op o.type)
   | _=>some (Zij P L o.op o.type)
  else none
 | .extract x i=>if nl L x && dnl L m o.dst then some (.ext x i) else none
 | .field t x f=>
  if nl L x && dnl L m o.dst then
   match Zdl P t f with
   | some (off,ft,_)=>match Zb5 P ft with
    | some n=>some (.fld off n x)
    | none=>none
   | none=>none
  else none
 | .alloc t=>
  match o.dst with
  | some d=>if L.lookup d == some d then
    match P.info? t with
    | some i=>match i.zero with
     | some z=>if d<m then some (.lzero d (Zc7 L d) z.cells.toList) else none
     | none=>none
    | none=>none
   else if dnl L m o.dst then some (.raw o.op o.type) else none
  | none=>none
 | .box _ x=>
  match o.dst with
  | some d=>if L.lookup d == some d then (if nl L x && (d<m) then some (.lbox d (Zc7 L d) x) else none) else if nl L x && dnl L m o.dst then some (.raw o.op o.type) else none
  | none=>none
 | .fieldAddr t x f=>
  match Zdl P t f with
  | some (off,_,sz)=>
   if sz == 0 then none else
   match x with
   | .tmp s=>match L.lookup s with
    | some d=>if dloc L m o.dst d && !(o.dst == some d) then some (.lfadr off s) else none
    | none=>if dnl L m o.dst then some (.fadr off x) else none
   | _=>if dnl L m o.dst then some (.fadr off x) else none
  | none=>none
 | .indexAddr t x i=>
  if nl L i then
   match P.underlying t,x with
   | some (.array len e),.tmp s=>match L.lookup s,P.info? e with
    | some d,some ie=>if dloc L m o.dst d && !(o.dst == some d) then some (.liadr ie.size len s i) else none
    | _,_=>if dnl L m o.dst && nl L x then some (.raw o.op o.type) else none
   | some (.slice e),x=>match P.info? e with
    | some ie=>if nl L x && dnl L m o.dst then some (.iadr ie.size x i) else none
    | none=>none
   | _,_=>none
  else none
 | .load t x=>
  if nrL L then (if nl L x && dnl L m o.dst then some (.rawn o.op o.type) else none) else
  if dnl L m o.dst then
   match Zb5 P t with
   | some n=>match x with
    | .tmp s=>match L.lookup s with
     | some d=>some (.lld d n s)
     | none=>some (.ld n x)
    | _=>some (.ld n x)
   | none=>none
  else none
 | .store t x v=>
  if nl L v && o.dst.isNone then
   match P.info? t with
   | some i=>match x with
    | .tmp s=>match L.lookup s with
     | some d=>some (.lst d i.size s v)
     | none=>some (.raw o.op o.type)
    | _=>some (.raw o.op o.type)
   | none=>none
  else none
 | .call { callee:=.builtin .len,args:=args,argTypes:=ts }=>
  match args.toList,ts.toList with
  | [x],[t]=>if nl L x && dnl L m o.dst then
    match P.underlying t with
    | some (.slice _)=>some (.len x)
    | _=>some (.raw o.op o.type)
   else none
  | _,_=>none
 | .call { callee:=.value (.func f),args:=args,argTypes:=_ }=>
  if (args.all (nl L)) && dnl L m o.dst then
   match P.funcs[f]? with
   | some fn=>if fn.body.isSome && !(fn.name == "runtime.NumGoroutine") then some (.call f args.toList) else some (.raw o.op o.type)
   | none=>none
  else none
 | .build t ps=>
  if (ps.all fun p=>nl L p.2) && dnl L m o.dst then
   match P.underlying t,P.info? t with
   | some (.struct fs),some i=>match i.zero,Zco (Zds P fs) ps.toList with
    | some z,some qs=>if Zf6 P fs then some (.build z.cells.toList qs) else none
    | _,_=>none
   | some (.array _ e),some i=>match i.zero,P.info? e with
    | some z,some ie=>match Zco (fun k=>some (k * ie.size,ie.size)) ps.toList with
     | some qs=>some (.build z.cells.toList qs)
     | none=>none
    | _,_=>none
   | _,_=>none
  else none
 | .buildSlice t len ps=>
  if (ps.all fun p=>nl L p.2) && dnl L m o.dst then
   match P.underlying t with
   | some (.slice e)=>match P.info? e with
    | some ie=>match ie.zero,Zco (fun k=>some (k * ie.size,ie.size)) ps.toList with
     | some z,some qs=>if len * ie.size<=2 ^ 24 && !(len * ie.size == 0) then some (.buildS e len ((Array.range (len * ie.size)).map (z.cells[· % z.cells.size]!)).toList qs) else some (.raw o.op o.type)
     | _,_=>none
    | none=>none
   | _=>none
  else none
 | .select _ _=>none
 | _=>if (o.op.operands.all (nl L)) && dnl L m o.dst then some (Zij P L o.op o.type) else none
theorem Zc3 {t d:Nat}(h:¬t=d):Nat.beq t d=false:=by
 cases hb:Nat.beq t d with
 | false=>rfl
 | true=>exact absurd (Nat.eq_of_beq_eq_true hb) h
def RelV (L:List (Nat×Nat))(ρ:Nat->Nat)(t:Nat)(v tv:Value):Prop:=
 match L.lookup t with
 | none=>tv=v
 | some d=>v=undef∨∃ off:Nat,v=.int .i64 off∧tv=.pointer (some ⟨ρ d,off,none⟩)
structure Rel (P:PQ)(L:List (Nat×Nat))(m:Nat)(σ:NSt)(H:Hp)(a:Act)(Ha:Hp):Prop where
 size:a.tmps.size=m
 defers:Zdb a.defers=σ.defs
 mem:∃ (ρ:Nat->Nat) (K:Hp),Ha=H.join K∧H.Comp K∧(∀ d cs,σ.box d=some cs->∃ t,K (ρ d)=some (.cells cs.toArray t (0,0),true)) ∧
  (∀ d d' cs cs',σ.box d=some cs->σ.box d'=some cs'->ρ d=ρ d'->d=d')∧(∀ t v,σ.env t=some v->RelV L ρ t v (a.tmps.getD t undef))∧ZgD P K a.defers
theorem Rel.get {P:PQ}{L:List (Nat×Nat)}{m:Nat}{σ:NSt}{H:Hp}{a:Act}{Ha:Hp}(r:Rel P L m σ H a Ha){x:Operand}{v:Value}(hx:nl L x=true)(h:σ.get x=some v):a.eval x=v:=by
 obtain⟨ρ,K,_,_,_,_,he,_⟩:=r.mem
 cases x with
 | tmp t=>
  have:=he t v h
  unfold RelV at this
  simp only[nl,Option.isNone_iff_eq_none]at hx
  rw[hx]at this
  exact this
 | const c=>simp only[NSt.get,Option.some.injEq]at h;exact h
 | func f=>simp only[NSt.get,Option.some.injEq]at h;exact h
 | _=>simp only[NSt.get,Option.some.injEq]at h;exact h
theorem Zhz (a:Act)(d t:Nat)(v:Value)(hd:d<a.tmps.size):(put a (some d) v).tmps.getD t undef=if t=d then v else a.tmps.getD t undef:=by
 simp only[put,Array.getD_eq_getD_getElem?,Array.getElem?_setIfInBounds]
 by_cases h:d=t
 ·subst h;simp[hd]
 ·simp[h,Ne.symm h]
theorem Rel.set {P:PQ}{L:List (Nat×Nat)}{m:Nat}{σ:NSt}{H:Hp}{a:Act}{Ha:Hp}(r:Rel P L m σ H a Ha){dst:Option Nat}(hd:dnl L m dst=true)(v:Value):Rel P L m (σ.set dst v) H (put a dst v) Ha:=by
 cases dst with
 | none=>exact r
 | some d=>
  obtain⟨ρ,K,e1,e2,e3,e4,e5,e6⟩:=r.mem
  simp only[dnl,Bool.and_eq_true,Option.isNone_iff_eq_none,decide_eq_true_eq]at hd
  refine⟨by simp[put,r.size],r.defers,ρ,K,e1,e2,e3,e4,?_,e6⟩
  intro t u hu
  rw[Zhz _ _ _ _ (by rw[r.size];exact hd.2)]
  simp only[NSt.set]at hu
  by_cases h:t=d
  ·subst h
   simp at hu
   unfold RelV
   rw[hd.1,if_pos rfl,hu]
  ·have:Nat.beq t d=false:=Zc3 h
   rw[this]at hu
   rw[if_neg h]
   exact e5 t u hu
theorem Rel.unset {P:PQ}{L:List (Nat×Nat)}{m:Nat}{σ:NSt}{H:Hp}{a:Act}{Ha:Hp}(r:Rel P L m σ H a Ha)(dst:Option Nat):Rel P L m (σ.unset dst) H (put a dst undef) Ha:=by
 cases dst with
 | none=>exact r
 | some d=>
  obtain⟨ρ,K,e1,e2,e3,e4,e5,e6⟩:=r.mem
  refine⟨by simp[put,r.size],r.defers,ρ,K,e1,e2,e3,e4,?_,e6⟩
  intro t u hu
  simp only[NSt.unset]at hu
  by_cases h:t=d
  ·subst h
   simp at hu
   subst hu
   unfold RelV
   split
   ·simp only[put,Array.getD_eq_getD_getElem?,Array.getElem?_setIfInBounds]
    by_cases hlt:t<a.tmps.size<;>simp[hlt]
   ·exact .inl rfl
  ·have hb:Nat.beq t d=false:=Zc3 h
   rw[hb]at hu
   have h2:=e5 t u hu
   have:(put a (some d) undef).tmps.getD t undef=a.tmps.getD t undef:=by
    simp only[put,Array.getD_eq_getD_getElem?,Array.getElem?_setIfInBounds,if_neg (Ne.symm h)]
   rw[this]
   exact h2
theorem Rel.setL {P:PQ}{L:List (Nat×Nat)}{m:Nat}{σ:NSt}{H:Hp}{a:Act}{Ha:Hp}(r:Rel P L m σ H a Ha){dst:Option Nat}{d:Nat}(hd:dloc L m dst d=true){s n:Nat}(hs:L.lookup s=some d)(hn:σ.env s=some (.int .i64 (n:Nat)))(n':Nat) :
  ∃ b,a.tmps.getD s undef=.pointer (some ⟨b,n,none⟩)∧Rel P L m (σ.set dst (.int .i64 (n':Nat))) H (put a dst (.pointer (some ⟨b,n',none⟩))) Ha:=by
 obtain⟨ρ,K,e1,e2,e3,e4,e5,e6⟩:=r.mem
 have h0:=e5 s _ hn
 unfold RelV at h0
 rw[hs]at h0
 obtain⟨off,h1,h2⟩:=h0.resolve_left (by simp[undef])
 simp only[Value.int.injEq,true_and,Int.ofNat_inj]at h1
 subst h1
 refine⟨ρ d,h2,?_⟩
 cases dst with
 | none=>simp[dloc]at hd
 | some t=>
  simp only[dloc,Bool.and_eq_true,beq_iff_eq,decide_eq_true_eq]at hd
  refine⟨by simp[put,r.size],r.defers,ρ,K,e1,e2,e3,e4,?_,e6⟩
  intro u w hu
  rw[Zhz _ _ _ _ (by rw[r.size];exact hd.2)]
  simp only[NSt.set]at hu
  by_cases h:u=t
  ·subst h
   simp at hu
   unfold RelV
   rw[hd.1,if_pos rfl]
   exact .inr ⟨n',hu.symm,rfl⟩
  ·have:Nat.beq u t=false:=Zc3 h
   rw[this]at hu
   rw[if_neg h]
   exact e5 u w hu
theorem Zhs {α:Type}(x:Sem α):x.bind Sem.pure=x:=by
 exact qLlE0
theorem Zgu {α β γ:Type}(x:Sem α)(f:α->Sem β)(k:β->Sem γ):(x.bind f).bind k=x.bind fun a=>(f a).bind k:=by
 exact qLlE0
instance:LawfulMonad Sem:=LawfulMonad.mk' Sem (id_map:=fun x=>Zhs x) (pure_bind:=fun _ _=>rfl) (bind_assoc:=fun x f k=>Zgu x f k)
theorem Zaa {P:PQ}{α β:Type}{s:Sem α}{f:α->Sem β}{Q:β->Bool->Hp->Prop}:∀ {g:Bool} {H:Hp},wpL P (s >>= f) Q g H↔wpL P s (fun a g H=>wpL P (f a) Q g H) g H:=by
 show ∀ {g:Bool} {H:Hp},wpL P (s.bind f) Q g H↔_
 induction s with
 | pure a=>exact Iff.rfl
 | load m a k ih=>simp only[wpL,Sem.bind,ih];exact trivial
 | store m a v k ih=>simp only[wpL,Sem.bind,ih,implies_true]
 | new o k ih=>simp only[wpL,Sem.bind,ih,implies_true]
 | shape r k ih=>simp only[wpL,Sem.bind,ih,implies_true]
 | freeze a n k ih=>simp only[wpL,Sem.bind,ih,implies_true]
 | frozen a k ih=>simp only[wpL,Sem.bind,ih,implies_true]
 | getObj r k ih=>simp only[wpL,Sem.bind,ih,implies_true]
 | setObj r o k ih=>simp only[wpL,Sem.bind,ih,implies_true]
 | choose q k ih=>simp only[wpL,Sem.bind,ih,implies_true]
 | sys c k ih=>exact Iff.rfl
 | program k ih=>simp only[wpL,Sem.bind,ih,implies_true]
 | mark m k ih=>simp only[wpL,Sem.bind,ih,implies_true]
 | halt h=>exact Iff.rfl
theorem Zac {P:PQ}{α:Type}(a:α)(Q:α->Bool->Hp->Prop)(g:Bool)(H:Hp):wpL P (pure a:Sem α) Q g H↔Q a g H:=Iff.rfl
theorem ZaU {P:PQ}(Q:Program->Bool->Hp->Prop)(g:Bool)(H:Hp):wpL P program Q g H↔Q P g H:=Iff.rfl
theorem Zad {P:PQ}{t:TypeId}{d:TypeDesc}(h:P.underlying t=some d)(Q:TypeDesc->Bool->Hp->Prop)(g:Bool)(H:Hp):wpL P (underlying t) Q g H↔Q d g H:=by
 simp only[underlying,Zaa,ZaU,h,Zac]
theorem ZbP {P:PQ}{t:TypeId}{i:TypeInfo}(h:P.info? t=some i)(Q:TypeInfo->Bool->Hp->Prop)(g:Bool)(H:Hp):wpL P (typeInfo t) Q g H↔Q i g H:=by
 simp only[typeInfo,Zaa,ZaU,h,Zac]
theorem Zap {P:PQ}{t:TypeId}{i:TypeInfo}(h:P.info? t=some i)(Q:Nat->Bool->Hp->Prop)(g:Bool)(H:Hp):wpL P (sizeOf t) Q g H↔Q i.size g H:=by
 simp only[sizeOf,Zaa,ZbP h,Zac]
theorem Zb0 {P:PQ}{t:TypeId}{i:TypeInfo}{z:Value}(h:P.info? t=some i)(hz:i.zero=some z)(Q:Value->Bool->Hp->Prop)(g:Bool)(H:Hp):wpL P (zeroValue t) Q g H↔Q z g H:=by
 simp only[zeroValue,Zaa,ZbP h,hz,Zac]
theorem ZcK {P:PQ}{t:TypeId}{n:Nat}(h:Zb5 P t=some (some n)):∃ i,P.info? t=some i∧i.size=n∧∀ (Q:Bool->Bool->Hp->Prop) g H,wpL P (isAgg t) Q g H↔Q true g H:=by
 unfold Zb5 at h
 split at h<;>simp only[Option.some.injEq,reduceCtorEq]at h
 ·rename_i fs i h1 h2
  exact⟨i,h2,h,fun Q g H=>by simp only[isAgg,Zaa,Zad h1,Zac]⟩
 ·rename_i fs e i h1 h2
  exact⟨i,h2,h,fun Q g H=>by simp only[isAgg,Zaa,Zad h1,Zac]⟩
theorem ZbL {P:PQ}{t:TypeId}(h:Zb5 P t=some none):∀ (Q:Bool->Bool->Hp->Prop) g H,wpL P (isAgg t) Q g H↔Q false g H:=by
 unfold Zb5 at h
 split at h<;>simp only[Option.some.injEq,reduceCtorEq]at h
 rename_i d i hs ha h1 h2
 intro Q g H
 simp only[isAgg,Zaa,Zad h1]
 cases d with
 | struct fs=>exact(hs _ rfl).elim
 | array n e=>exact(ha _ _ rfl).elim
 | _=>simp only[Zac]
theorem ZaZ {P:PQ}{o:Obj}{p:Bool}{a:Addr}{H:Hp}(hst:P.still H.gh=false)(ho:H a.block=some (o,p))(hs:a.spot=none)(Q:Array Value->Bool->Hp->Prop)(g:Bool) :
  ∀ (cs:List Value) (i:Nat) (acc:Array Value),(∀ j,j<cs.length->Obj.at? o (a.off+(i+j))=cs[j]?)->Q (acc++cs.toArray) g H->wpL P (loadCellsFrom a i cs.length acc) Q g H
 | [],i,acc,_,h=>by simpa[loadCellsFrom,Zac]using h
 | c :: cs,i,acc,hc,h=>by
  have h0:=hc 0 (by simp)
  simp only[List.length_cons,loadCellsFrom,Zaa]
  have hb:(a.add i).block=a.block:=by unfold Addr.add;split<;>rfl
  have hof:(a.add i).off=a.off+i:=by unfold Addr.add;split<;>simp_all
  have hsp:(a.add i).spot=none:=by unfold Addr.add;split<;>simp_all
  refine⟨o,p,c,⟨hst,by rw[hb];exact ho⟩,rfl,hsp,by rw[hof];simpa using h0,?_⟩
  refine ZaZ hst ho hs Q g cs (i+1) (acc.push c) (fun j hj=>?_) (by simpa using h)
  have:=hc (j+1) (by simp;omega)
  simp only[List.getElem?_cons_succ]at this
  rw[<-this]
  congr 1
  omega
section sound
variable  {P:Prg}{nr:Bool}{L:List (Nat×Nat)}{m:Nat}{o:Oper}{next:NSt->Hp->Prop}{σ:NSt}{H Ha:Hp}{a:Act}
abbrev Nx (P:PQ)(L:List (Nat×Nat))(m:Nat)(next:NSt->Hp->Prop)(a':Act)(Ha':Hp):Prop:=∃ σ' H',Rel P L m σ' H' a' Ha'∧next σ' H'
theorem Zdc {N:Act->Hp->Prop}{v:Value}(h:execOp a.eval o=pure (.value v))(hn:N (put a o.dst v) Ha):OpW P nr o a N Ha:=by
 refine .inl ?_
 rw[h]
 exact .inr hn
theorem ZbH {N:Act->Hp->Prop}{s:Sem Value}(h:execOp a.eval o=(do pure (.value (<-s))))(hs:wpL P s (fun v g H'=>g=true∨N (put a o.dst v) H') false Ha):OpW P nr o a N Ha:=by
 refine .inl ?_
 rw[h,Zaa]
 exact Za2 (fun v g H' hv=>hv) hs
theorem Rel.heap {P:PQ}{L:List (Nat×Nat)}{m:Nat}{σ:NSt}{H:Hp}{a:Act}{Ha:Hp}(r:Rel P L m σ H a Ha){b:Nat}{x:Obj×Bool}(h:H b=some x):Ha b=some x:=by
 obtain⟨ρ,K,e1,_⟩:=r.mem
 rw[e1];exact Hp.join_left h
theorem Rel.loud {P:PQ}{L:List (Nat×Nat)}{m:Nat}{σ:NSt}{H:Hp}{a:Act}{Ha:Hp}(r:Rel P L m σ H a Ha)(h:P.still H.gh=false):P.still Ha.gh=false:=by
 obtain⟨ρ,K,e1,e2,_⟩:=r.mem
 rw[e1];exact Za7 e2 h
theorem ZdC {a:Addr}(hs:a.spot=none)(n:Nat):a.add n=⟨a.block,a.off+n,none⟩:=by
 unfold Addr.add
 split
 ·obtain⟨b,o,s⟩:=a;simp_all
 ·rfl
theorem Rel.newL {P:PQ}{L:List (Nat×Nat)}{m:Nat}{σ:NSt}{H:Hp}{a:Act}{Ha:Hp}(r:Rel P L m σ H a Ha){d:Nat}(hL:L.lookup d=some d)(hd:d<m){b:Nat}(hb:Ha b=none)(cs:List Value)(t:TypeId) :
  Rel P L m (((σ.drop (Zc7 L d)).set (some d) (.int .i64 0)).put d cs) H (put a (some d) (.pointer (some ⟨b,0,none⟩))) (Ha.ins b (.cells cs.toArray t)):=by
 obtain⟨ρ,K,e1,e2,e3,e4,e5,e6⟩:=r.mem
 rw[e1]at hb
 obtain⟨hb1,hb2⟩:=Hp.join_none.1 hb
 have hin:∀ t,L.lookup t=some d->(Zc7 L d).elem t=true:=by
  intro t ht
  have:(t,d)∈L:=by
   have:=List.lookup_eq_some_iff.1 ht
   obtain⟨l1,l2,rfl,_⟩:=this
   simp
  simp only[Zc7,List.elem_eq_mem,decide_eq_true_eq,List.mem_map,List.mem_filter,beq_iff_eq]
  exact⟨(t,d),⟨this,rfl⟩,rfl⟩
 have hne:∀ d' cs',d'≠d->σ.box d'=some cs'->ρ d'≠b:=by
  intro d' cs' _ h' hh
  obtain⟨t',h2⟩:=e3 d' cs' h'
  rw[hh,hb2]at h2
  simp at h2
 refine⟨by simp[put,r.size],r.defers,fun x=>if x=d then b else ρ x,K.ins b (.cells cs.toArray t),?_,?_,?_,?_,?_,?_⟩
 ·rw[e1]
  refine Hp.ext' (fun x=>?_) rfl
  simp only[Hp.join_at,Hp.ins_at]
  by_cases hx:x=b
  ·subst hx;simp[hb1]
  ·simp[hx]
 ·exact((e2.symm).ins_new _ hb1).symm
 ·intro d' cs' h'
  simp only[NSt.put]at h'
  by_cases hx:d'=d
  ·subst hx
   simp at h'
   subst h'
   exact⟨t,by simp[Hp.ins_at]⟩
  ·rw[Zc3 hx]at h'
   have h2:σ.box d'=some cs':=by simpa[NSt.set,NSt.drop]using h'
   obtain⟨t',h3⟩:=e3 d' cs' h2
   exact⟨t',by simp only[if_neg hx];rw[Hp.ins_other _ _ (hne d' cs' hx h2)];exact h3⟩
 ·intro d1 d2 c1 c2 h1 h2 h3
  simp only[NSt.put]at h1 h2
  by_cases x1:d1=d<;>by_cases x2:d2=d
  ·rw[x1,x2]
  ·rw[Zc3 x2]at h2
   have h2':σ.box d2=some c2:=by simpa[NSt.set,NSt.drop]using h2
   simp only[if_pos x1,if_neg x2]at h3
   exact absurd h3.symm (hne d2 c2 x2 h2')
  ·rw[Zc3 x1]at h1
   have h1':σ.box d1=some c1:=by simpa[NSt.set,NSt.drop]using h1
   simp only[if_neg x1,if_pos x2]at h3
   exact absurd h3 (hne d1 c1 x1 h1')
  ·rw[Zc3 x1]at h1
   rw[Zc3 x2]at h2
   simp only[if_neg x1,if_neg x2]at h3
   exact e4 d1 d2 c1 c2 (by simpa[NSt.set,NSt.drop]using h1) (by simpa[NSt.set,NSt.drop]using h2) h3
 ·intro u w hu
  rw[Zhz _ _ _ _ (by rw[r.size];exact hd)]
  simp only[NSt.put,NSt.set,NSt.drop]at hu
  by_cases h:u=d
  ·subst h
   simp at hu
   unfold RelV
   rw[hL]
   exact .inr ⟨0,by simpa using hu.symm,by simp⟩
  ·rw[Zc3 h]at hu
   simp only[cond_false]at hu
   rw[if_neg h]
   cases he:(Zc7 L d).elem u with
   | true=>rw[he]at hu;simp at hu
   | false=>
    rw[he]at hu
    have h2:=e5 u w hu
    unfold RelV at h2 ⊢
    cases hl:L.lookup u with
    | none=>rw[hl]at h2;exact h2
    | some d'=>
     rw[hl]at h2
     have:d'≠d:=by
      rintro rfl
      rw[hin u hl]at he
      simp at he
     simpa[this]using h2
 ·exact e6.ins fun o' h=>by rw[hb2]at h;simp at h
end sound
end Go.LL
end
