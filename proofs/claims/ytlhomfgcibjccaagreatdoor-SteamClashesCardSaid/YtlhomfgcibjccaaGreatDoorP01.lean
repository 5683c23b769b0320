import Derived.Test.YtlhomfgcibjccaaGreatDoorP00
set_option linter.all false
namespace Go.LL
section
variable{r:Nat}{o:Obj}{P:bF}{f:FuncId}{ds:List Deferred}{d:Deferred}
theorem Zik{G:Prop} (h:G:=by
  intro G c cs bU hG;have h0:=h (λfr bJ H'=>bJ=cs/\∃v H1 J,fr=c.finish v/\H'=H1.join J/\H1.Comp J/\Post v H1) c cs ?_ ?_
  ·refine(h0.frame hc).bind ?_;rintro fr bJ HF ⟨H',rfl,lG,rfl,v,H1,J,rfl,rfl,hj,hp⟩;have c1:H1.Comp F:=lG.bX;have c2:J.Comp F:=Hp.Comp.cG hj lG;rw[Hp.fT c2.symm];exact(hG v _ ⟨H1,rfl,c1,hp⟩).up bU (Hp.Comp.gX hj c2.symm)
  ·rintro fr bJ H' J hJ ⟨rfl,v,H1,J1,rfl,rfl,hj,hp⟩;exact⟨rfl,v,H1,J1.join J,rfl,Hp.cV _ _ _,hj.mY hJ.bX,hp⟩
  intro v H' hp;exact .stop ⟨rfl,v,H',.nil,rfl,(Hp.dT H').symm,Hp.eO H',hp⟩):G:=h
theorem Hp.jY(H F:Hp)(r:Nat)(o:Obj):(H.ins r o).join F=(H.join F).ins r o:=by refine Hp.ext' (λb=>?_) rfl;simp only[Hp.aX,Hp.eD];by_cases h:b=r<;>simp[h]
theorem Hp.Comp.jZ{H F:Hp}(hc:H.Comp F){o':Obj}(h:H r=some (o',true)):(H.ins r o).Comp F:=by
 refine⟨?_,hc.gh⟩;intro b x y h1 h2;simp only[Hp.eD]at h1;split at h1
 ·subst b;have:=hc r _ y h h2;simp at this
 exact hc b x y h1 h2
theorem Hp.Comp.hZ{H F:Hp}(hc:H.Comp F)(o:Obj)(h:F r=none):(H.ins r o).Comp F:=by
 refine⟨?_,hc.gh⟩;intro b x y h1 h2;simp only[Hp.eD]at h1;split at h1
 ·subst b;rw[h]at h2;simp at h2
 exact hc b x y h1 h2
theorem Hp.Comp.eS{H F:Hp}(hc:H.Comp F)(h:H r=some (o,true)):F r=none:=by
 cases hf:F r with
 | none=>rfl
 | some y=>have:=hc r _ y h hf;simp at this
theorem Hp.Comp.mX{H F:Hp}(hc:H.Comp F)(h:F r=some (o,true)):H r=none:=by
 cases hf:H r with
 | none=>rfl
 | some y=>
  obtain⟨h1,h2⟩:=hc r _ _ hf h;rw[h1]at h2;simp at h2
theorem Be{P:PQ}{α:Type}{s:Sem α}{Q:α->Bool->Hp->Prop}{F:Hp}:∀{g:Bool} {H:Hp},cD P s Q g H->H.Comp F ->
  cD P s (λa g HF=>∃H',HF=H'.join F/\H'.Comp F/\Q a g H') g (H.join F):=by
 induction s with
 | pure a=>exact λh hc=>⟨_,rfl,hc,h⟩
 | load m a k ih=>exact λ⟨o,p,v,h1,h2,h3,h4,h5⟩ hc=>⟨o,p,v,⟨Ub hc h1.1,Hp.aK h1.2⟩,h2,h3,h4,ih v h5 hc⟩
 | store m a v k ih=>exact λ⟨o,h1,h2,h3,h4,h5,h6,h7⟩ hc=>⟨o,⟨Ub hc h1.1,Hp.aK h1.2⟩,h2,h3,h4,h5,h6,by rw[<-Hp.jY];exact ih h7 (hc.jZ h1.2)⟩
 | new o k ih=>
  intro g H h hc;refine⟨Ub hc h.1,λr hr=>?_⟩;obtain⟨h1,h2⟩:=Hp.dR.1 hr;rw[<-Hp.jY];exact ih r (h.2 r h1) (hc.hZ o h2)
 | shape r k ih=>exact λ⟨o,p,h1,h2⟩ hc=>⟨o,p,⟨Ub hc h1.1,Hp.aK h1.2⟩,ih _ h2 hc⟩
 | freeze a n k ih=>exact λh hc=>h.imp (λ⟨h1,h2⟩=>⟨h1,ih h2 hc⟩) (λ⟨o,h1,h2,h3⟩=>⟨o,⟨Ub hc h1.1,Hp.aK h1.2⟩,h2,by rw[<-Hp.jY];exact ih h3 (hc.jZ h1.2)⟩)
 | frozen a k ih=>exact λ⟨o,p,h1,h2⟩ hc=>⟨o,p,⟨Ub hc h1.1,Hp.aK h1.2⟩,ih _ h2 hc⟩
 | getObj r k ih=>exact λ⟨o,p,h1,h2,h3,h4⟩ hc=>⟨o,p,⟨Ub hc h1.1,Hp.aK h1.2⟩,h2,h3,ih _ h4 hc⟩
 | setObj r o k ih=>exact λ⟨o',h1,h2,h3,h4,h5⟩ hc=>⟨o',⟨Ub hc h1.1,Hp.aK h1.2⟩,h2,h3,h4,by rw[<-Hp.jY];exact ih h5 (hc.jZ h1.2)⟩
 | choose q k ih=>
  intro g H h hc;by_cases qD:q.forced=true
  ·simp only[cD,qD,qAM]at h ⊢;exact ih _ h hc
  simp only[cD,qD]at h ⊢;exact⟨Ub hc h.1,λt=>ih _ (h.2 t) hc⟩
 | sys c k ih=>exact λh _=>h
 | program k ih=>exact λh hc=>ih _ h hc
 | mark m k ih=>exact λ⟨h1,h2⟩ hc=>⟨h1.imp id λh=>⟨h.1,Ub hc h.2⟩,ih h2 hc⟩
 | halt h=>exact λh _=>h
theorem Hp.cV(H F J:Hp):(H.join F).join J=H.join (F.join J):=by refine Hp.ext' (λb=>?_) (by simp only[Hp.bP,qBy]);simp only[Hp.aX];cases H b<;>rfl
theorem Hp.Comp.symm{H F:Hp}(h:H.Comp F):F.Comp H:=⟨λb x y h1 h2=>by obtain⟨e,p⟩:=h b y x h2 h1;exact⟨e.symm,by rw[<-e];exact p⟩,h.gh.symm⟩
theorem Hp.mZ{H F:Hp}(h:H.Comp F):H.join F=F.join H:=by
 refine Hp.ext' (λb=>?_) (by simp only[Hp.bP];rcases h.gh with e | e<;>simp[e]);simp only[Hp.aX];cases h1:H b with
 | none=>cases h2:F b<;>simp
 | some x=>
  cases h2:F b with
  | none=>rfl
  | some y=>simp[(h b x y h1 h2).1]
theorem Hp.Comp.bX{H F J:Hp}(h:(H.join F).Comp J):H.Comp J:=⟨λb x y h1 h2=>h b x y (Hp.aK h1) h2,h.gh.imp (λe=>(List.append_eq_nil_iff.1 e).1) id⟩
theorem Hp.Comp.cG{H F J:Hp}(hc:H.Comp F)(h:(H.join F).Comp J):F.Comp J:=⟨λb x y h1 h2=>h b x y (Hp.aS hc h1) h2,h.gh.imp (λe=>(List.append_eq_nil_iff.1 e).2) id⟩
theorem Hp.Comp.gX{H F J:Hp}(h1:H.Comp J)(h2:F.Comp J):(H.join F).Comp J:=by
 refine⟨λb x y hx hy=>?_,?_⟩
 ·simp only[Hp.aX]at hx;cases hh:H b with
  | none=>rw[hh]at hx;exact h2 b x y hx hy
  | some z=>rw[hh]at hx;exact h1 b x y (by rw[hh];exact hx) hy
 rcases h1.gh with e1 | e1
 ·rcases h2.gh with e2 | e2
  ·exact .inl (by simp[Hp.bP,e1,e2])
  exact .inr e2
 exact .inr e1
theorem Hp.dT(H:Hp):H.join .nil=H:=Hp.ext' (λb=>by simp only[Hp.aX];cases H b<;>rfl) (by simp[Hp.bP,Hp.nil])
theorem Hp.eO(H:Hp):H.Comp .nil:=⟨λ_ _ _ _ h=>by simp[Hp.nil]at h,.inr rfl⟩
theorem Hp.Comp.mY{H F J:Hp}(h1:H.Comp F)(h2:H.Comp J):H.Comp (F.join J):=(Hp.Comp.gX h1.symm h2.symm).symm
theorem Hp.fT{H F J:Hp}(h:F.Comp J):(H.join J).join F=(H.join F).join J:=by rw[Hp.cV,Hp.cV,Hp.mZ h]
theorem Zc.frame{args:Array Value}{H F:Hp}{Post:Value->Hp->Prop}(h:Zc P f args H Post)(hc:H.Comp F) :
  Zc P f args (H.join F) (λv HF=>∃H',HF=H'.join F/\H'.Comp F/\Post v H'):=by
 exact Zik
theorem UY.frame{l:Nat}{tmps:Array Value}{assign body:Code}{H F:Hp}{Post:Value->Hp->Prop}(h:UY P l f tmps assign body H Post)(hc:H.Comp F) :
  UY P l f tmps assign body (H.join F) (λv HF=>∃H',HF=H'.join F/\H'.Comp F/\Post v H'):=by
 exact Zik
theorem Zm.frame{s:Sem Next}{wk nr:Bool}{H F:Hp}{Post:Value->Hp->Prop}(h:Zm P s wk nr H Post)(hc:H.Comp F) :
  Zm P s wk nr (H.join F) (λv HF=>∃H',HF=H'.join F/\H'.Comp F/\Post v H'):=by
 intro G B8 nx cs bU ha hG;have h0:=h (λfr bJ H'=>bJ=cs/\∃v H1 J,fr=nx v/\H'=H1.join J/\H1.Comp J/\Post v H1) B8 nx cs ?_ ha ?_
 ·refine(h0.frame hc).bind ?_;rintro fr bJ HF ⟨H',rfl,lG,rfl,v,H1,J,rfl,rfl,hj,hp⟩;have c1:H1.Comp F:=lG.bX;have c2:J.Comp F:=Hp.Comp.cG hj lG;rw[Hp.fT c2.symm];exact(hG v _ ⟨H1,rfl,c1,hp⟩).up bU (Hp.Comp.gX hj c2.symm)
 ·rintro fr bJ H' J hJ ⟨rfl,v,H1,J1,rfl,rfl,hj,hp⟩;exact⟨rfl,v,H1,J1.join J,rfl,Hp.cV _ _ _,hj.mY hJ.bX,hp⟩
 intro v H' hp;exact .stop ⟨rfl,v,H',.nil,rfl,(Hp.dT H').symm,Hp.eO H',hp⟩
def MH(d:Deferred):Bool:=
 match d.target with
 | .collected _=>true
 | _=>false
def Vt:List Deferred->List Nat
 | []=>[]
 | d :: ds=>match d.target with
  | .collected r=>r :: Vt ds
  | _=>Vt ds
def OA:List Deferred->List Deferred
 | []=>[]
 | d :: ds=>if MH d then OA ds else d :: OA ds
def U0(P:PQ)(K:Hp)(ds:List Deferred):Prop:=(Vt ds).Nodup/\(∀r∈Vt ds,K r=some (.deferred (some []),true))/\(Vt ds=[]\/∀g,P.still g=false)
theorem U0.nil(P:PQ)(K:Hp):U0 P K []:=⟨List.nodup_nil,λr h=>by simp[Vt]at h,.inl rfl⟩
theorem U0.ins{P:PQ}{K:Hp}(h:U0 P K ds)(hr:∀o',K r=some (o',true)->∀c,o'≠.deferred c):U0 P (K.ins r o) ds:=
 ⟨h.1,λx hx=>by
  have h2:=h.2.1 x hx;by_cases e:x=r
  ·subst e;exact absurd rfl (hr _ h2 _)
  rw[Hp.aE _ _ e];exact h2,h.2.2⟩
theorem ZlL(hd:MH d=false):Vt (d :: ds)=Vt ds:=by
 unfold MH at hd;simp only[Vt];split at hd
 ·simp at hd
 rfl
theorem U0.plain{P:PQ}{K:Hp}(h:U0 P K ds)(hd:MH d=false):U0 P K (d :: ds):=by unfold U0;rw[ZlL hd];exact h
def RZ:Op->Bool
 | .defer _=>true
 | _=>false
structure aN where
 env:Nat->Option Value
 box:Nat->Option (List Value)
 cX:List Deferred
def aN.set(σ:aN)(d:Option Nat)(v:Value):aN:=
 match d with
 | none=>σ
 | some d=>{ σ with env:=λt=>bif Nat.beq t d then some v else σ.env t }
def aN.gA(σ:aN)(d:Option Nat):aN:=
 match d with
 | none=>σ
 | some d=>{ σ with env:=λt=>bif Nat.beq t d then some undef else σ.env t }
def aN.drop(σ:aN)(ts:List Nat):aN:={ σ with env:=λt=>bif ts.elem t then none else σ.env t }
def aN.dD(σ:aN)(d:Nat)(cs:List Value):aN:={ σ with box:=λt=>bif Nat.beq t d then some cs else σ.box t }
def aN.get(σ:aN):Operand->Option Value
 | .tmp t=>σ.env t
 | .const v=>some v
 | .global g=>some (.pointer (some ⟨g,0,none⟩))
 | .func f=>some (.func (.func f) #[] #[])
def aN.gets(σ:aN):List Operand->Option (List Value)
 | []=>some []
 | x :: r=>match σ.get x,σ.gets r with
  | some v,some vs=>some (v :: vs)
  | _,_=>none
inductive bC where
 | fB (x:Operand)
 | pick (c a b:Operand)
 | bQ (op:BinOp) (x y:Operand)
 | not (x:Operand)
 | ext (x:Operand) (i:Nat)
 | mG (off:Nat) (n:Option Nat) (x:Operand)
 | bM (off:Nat) (x:Operand)
 | cJ (eH:Nat) (x i:Operand)
 | ld (n:Option Nat) (x:Operand)
 | len (x:Operand)
 | bE (d:Nat) (ts:List Nat) (z:List Value)
 | cB (d:Nat) (ts:List Nat) (x:Operand)
 | dE (off t:Nat)
 | fR (eH len t:Nat) (i:Operand)
 | jM (d:Nat) (n:Option Nat) (t:Nat)
 | sL (d n t:Nat) (x:Operand)
 | call (f:FuncId) (args:List Operand)
 | build (z:List Value) (ps:List (Nat×Nat×Operand))
 | bL (e:TypeId) (len:Nat) (z:List Value) (ps:List (Nat×Nat×Operand))
 | raw (op:Op) (ty:TypeId)
 | jA (op:Op) (ty:TypeId)
 | dA (op:Op) (ty:TypeId)
def ZH(z:List Value)(off:Nat)(vs:List Value):List Value:=z.take off++vs++z.drop (off+vs.length)
def dU(σ:aN):List (Nat×Nat×Operand)->List Value->Option (List Value)
 | [],z=>some z
 | (off,sz,x) :: r,z=>
  match σ.get x with
  | some v=>bif Nat.beq v.cells.size sz && Nat.ble (off+sz) z.length then dU σ r (ZH z off v.cells.toList)else none
  | none=>none
def E0(op:BinOp)(k:IntKind)(m n:Int):Option Value:=
 match op with
 | .add=>some (.int k (k.wrap (m+n)))
 | .sub=>some (.int k (k.wrap (m-n)))
 | .mul=>some (.int k (k.wrap (m * n)))
 | .eql=>some (.bool (m == n))
 | .neq=>some (.bool (m != n))
 | .lss=>some (.bool (m<n))
 | .leq=>some (.bool (m<=n))
 | .gtr=>some (.bool (m > n))
 | .geq=>some (.bool (m ≥ n))
 | _=>none
def Zuy(op:BinOp):Bool:=
 match op with
 | .add | .sub | .mul | .eql | .neq | .lss | .leq | .gtr | .geq=>true
 | _=>false
def aP(op:Op)(ty:TypeId):Oper:={ dst:=none,op:=op,type:=ty,pos:= "",after:=#[],guard:=none }
def oL(P:PQ)(s:Sem Next)(v:Value):Prop:=∀(Q:Next->Bool->Hp->Prop) (g:Bool) (H:Hp),Q (.value v) g H->cD P s Q g H
def DA(P:bF)(op:Op)(dst:Option Nat)(next:aN->Hp->Prop)(σ:aN):Next->Hp->Prop
 | .value v,H=>next (σ.set dst v) H
 | .skip,H=>next (σ.set dst undef) H
 | .enter f args,H=>Zc P f args H λv H'=>next (σ.set dst v) H'
 | .round l f tmps aB bd,H=>UY P l f tmps aB bd H λv H'=>next (σ.set dst v) H'
 | .defer d,H=>RZ op=true/\MH d=false/\next ({ σ with cX:=d :: σ.cX }.set dst undef) H
 | _,_=>False
theorem DA.mono{op:Op}{dst:Option Nat}{K K':aN->Hp->Prop}{σ:aN}(hk:∀σ H,K σ H->K' σ H):∀{n:Next} {H:Hp},DA P op dst K σ n H->DA P op dst K' σ n H:=by
 intro n H h;cases n with
 | value v=>exact hk _ _ h
 | skip=>exact hk _ _ h
 | enter f args=>exact Zc.mono h λv H hv=>hk _ _ hv
 | round l f tmps aB bd=>exact UY.mono h λv H hv=>hk _ _ hv
 | defer d=>exact⟨h.1,h.2.1,hk _ _ h.2.2⟩
 | _=>exact h.elim
def bC.w(P:bF)(op:bC)(dst:Option Nat)(next:aN->Hp->Prop)(σ:aN)(H:Hp):Prop:=
 match op with
 | .fB x=>∃v,σ.get x=some v/\next (σ.set dst v) H
 | .pick c a b=>∃t v,σ.get c=some (.bool t)/\σ.get (bif t then a else b)=some v/\next (σ.set dst v) H
 | .bQ op x y=>∃k m n v,σ.get x=some (.int k m)/\σ.get y=some (.int k n)/\E0 op k m n=some v/\next (σ.set dst v) H
 | .not x=>∃b,σ.get x=some (.bool b)/\next (σ.set dst (.bool !b)) H
 | .ext x i=>∃vs v,σ.get x=some (.tuple vs)/\vs[i]? = some v/\next (σ.set dst v) H
 | .mG off n x=>∃cs,σ.get x=some (.agg cs)/\match n with
  | none=>∃v,cs[off]? = some v/\next (σ.set dst v) H
  | some n=>next (σ.set dst (.agg (cs.extract off (off+n)))) H
 | .bM off x=>∃a,σ.get x=some (.pointer (some a))/\next (σ.set dst (.pointer (some (a.add off)))) H
 | .cJ eH x i=>∃(a:Addr) (ln cap:Nat) (k:IntKind) (n:Int),σ.get x=some (.slice (some a) ln cap)/\σ.get i=some (.int k n)/\0<=n/\n<ln/\next (σ.set dst (.pointer (some (a.add (n.toNat * eH))))) H
 | .ld n x=>P.still H.gh=false/\∃a o p,σ.get x=some (.pointer (some a))/\a.spot=none/\H a.block=some (o,p)/\match n with
  | none=>∃v,Obj.mH o a.off=some v/\next (σ.set dst v) H
  | some n=>∃cs:List Value,cs.length=n/\(∀j,j<n->Obj.mH o (a.off+j)=cs[j]?)/\next (σ.set dst (.agg cs.toArray)) H
 | .len x=>∃b n c,σ.get x=some (.slice b n c)/\next (σ.set dst (.int .i64 (n:Nat))) H
 | .bE d ts z=>P.still H.gh=false/\next (((σ.drop ts).set (some d) (.int .i64 0)).dD d z) H
 | .cB d ts x=>P.still H.gh=false/\∃v,σ.get x=some v/\next (((σ.drop ts).set (some d) (.int .i64 0)).dD d v.cells.toList) H
 | .dE off t=>∃n:Nat,σ.env t=some (.int .i64 (n:Int))/\next (σ.set dst (.int .i64 ((n+off:Nat):Int))) H
 | .fR eH ln t i=>∃(n:Nat) (k:IntKind) (j:Int),σ.env t=some (.int .i64 (n:Int))/\σ.get i=some (.int k j)/\0<=j/\j<ln/\next (σ.set dst (.int .i64 ((n+j.toNat * eH:Nat):Int))) H
 | .jM d n t=>P.still H.gh=false/\∃(off:Nat) (cs:List Value),σ.env t=some (.int .i64 (off:Int))/\σ.box d=some cs/\match n with
  | none=>∃v,cs[off]? = some v/\next (σ.set dst v) H
  | some n=>off+n<=cs.length/\next (σ.set dst (.agg ((cs.drop off).take n).toArray)) H
 | .sL d n t x=>P.still H.gh=false/\∃(off:Nat) (cs:List Value) (v:Value),σ.env t=some (.int .i64 (off:Int))/\σ.box d=some cs/\σ.get x=some v/\v.cells.size=n/\off+n<=cs.length/\(v.cells.toList.all Value.dZ)=true /\
   next (σ.dD d (cs.take off++v.cells.toList++cs.drop (off+n))) H
 | .call f args=>∃vs,σ.gets args=some vs/\Zc P f vs.toArray H λv H'=>next (σ.set dst v) H'
 | .build z ps=>∃cs,dU σ ps z=some cs/\next (σ.set dst (.agg cs.toArray)) H
 | .bL e ln z ps=>P.still H.gh=false/\∃cs,dU σ ps z=some cs/\∀r,H r=none->next (σ.set dst (.slice (some ⟨r,0,none⟩) ln ln)) (H.ins r (.cells cs.toArray e))
 | .raw op ty=>(op.operands.all λx=>(σ.get x).isSome)=true/\(cD P (execOp (λx=>(σ.get x).getD undef) (aP op ty)) (λn g H'=>g=true\/DA P op dst next σ n H') false H \/
   Zm P (execOp (λx=>(σ.get x).getD undef) (aP op ty)) (Va P (aP op ty)) false H λv H'=>next (σ.set dst v) H')
 | .jA op ty=>(op.operands.all λx=>(σ.get x).isSome)=true/\Zm P (execOp (λx=>(σ.get x).getD undef) (aP op ty)) (Va P (aP op ty)) true H λv H'=>next (σ.set dst v) H'
 | .dA op ty=>(op.operands.all λx=>(σ.get x).isSome)=true/\∃v,oL P (execOp (λx=>(σ.get x).getD undef) (aP op ty)) v/\next (σ.set dst v) H
end
section
variable{t:TypeId}{d n b:Nat}{v:Value}{dst:Option Nat}{α β:Type}{i:TypeInfo}
theorem Zij{G:Prop} (h:G:=by
  induction x with
  | pure a=>rfl
  | halt h=>rfl
  | store m a v k ih=>simp only[Sem.bind,ih]
  | freeze a n k ih=>simp only[Sem.bind,ih]
  | setObj r o k ih=>simp only[Sem.bind,ih]
  | mark m k ih=>simp only[Sem.bind,ih]
  | _=>simp only[Sem.bind];congr 1;funext x;rename_i ih;exact ih x):G:=h
def nl(L:List (Nat×Nat))(x:Operand):Bool:=
 match x with
 | .tmp t=>(L.lookup t).isNone
 | _=>true
def iP(L:List (Nat×Nat))(m:Nat)(d:Option Nat):Bool:=
 match d with
 | none=>true
 | some d=>(L.lookup d).isNone && d<m
def JW(L:List (Nat×Nat))(m:Nat)(d:Option Nat)(r:Nat):Bool:=
 match d with
 | none=>false
 | some d=>L.lookup d == some r && d<m
def Ow(L:List (Nat×Nat))(d:Nat):List Nat:=(L.filter λp=>p.2 == d).map (·.1)
def Ye(P:Program)(t:TypeId):Option (Option Nat):=
 match P.underlying t,P.info? t with
 | some (.struct _),some i=>some (some i.size)
 | some (.array _ _),some i=>some (some i.size)
 | some _,some _=>some none
 | _,_=>none
def ON(P:Program)(t:TypeId)(f:Nat):Option (Nat×TypeId×Nat):=
 match P.underlying t with
 | some (.struct fs)=>match fs[f]? with
  | some f=>match P.info? f.type with
   | some i=>some (f.offset,f.type,i.size)
   | none=>none
  | none=>none
 | _=>none
def Bv(P:Program)(fs:Array Field)(i:Nat):Option (Nat×Nat):=
 match fs[i]? with
 | some f=>match P.info? f.type with
  | some i=>some (f.offset,i.size)
  | none=>none
 | none=>none
def UE(place:Nat->Option (Nat×Nat)):List (Nat×Operand)->Option (List (Nat×Nat×Operand))
 | []=>some []
 | (i,x) :: r=>match place i,UE place r with
  | some (off,sz),some ps=>some ((off,sz,x) :: ps)
  | _,_=>none
def Zl3(P:Program)(fs:Array Field):Bool:=fs.all λf=>(P.info? f.type).isSome
def Zur:BinOp->Bool
 | .sub=>true
 | _=>false
def sE(L:List (Nat×Nat)):Bool:=(L.lookup 999999).isSome
def Zuu(P:Program):Op->Bool
 | .binOp .. | .slice .. | .nilCheck _=>true
 | .convert s d _=>match P.underlying s,P.underlying d with
  | some (.int _),some (.int _)=>true
  | _,_=>false
 | .call { callee:=.builtin .max,.. } | .call { callee:=.builtin .min,.. }=>true
 | _=>false
def Oy(P:Program)(L:List (Nat×Nat))(op:Op)(ty:TypeId):bC:=if Zuu P op && !(sE L)then .dA op ty else .raw op ty
def Yf(P:Program)(L:List (Nat×Nat))(m:Nat)(o:Oper):Option bC:=
 match o.op with
 | .move x=>if nl L x && iP L m o.dst then some (.fB x)else none
 | .assign x=>if nl L x && iP L m o.dst then some (.fB x)else none
 | .pick c a b=>if nl L c && nl L a && nl L b && iP L m o.dst then some (.pick c a b)else none
 | .unOp .not _ x=>if nl L x && iP L m o.dst then some (.not x)else none
 | .binOp op t x y _=>
  if nl L x && nl L y && iP L m o.dst then
   match P.underlying t with
   | some (.int _)=>if Zuy op && !(sE L && Zur op)then some (.bQ op x y)else some (Oy P L o.op o.type)
   | _=>some (Oy P L o.op o.type)
  else none
 | .extract x i=>if nl L x && iP L m o.dst then some (.ext x i)else none
 | .field t x f=>
  if nl L x && iP L m o.dst then
   match ON P t f with
   | some (off,ft,_)=>match Ye P ft with
    | some n=>some (.mG off n x)
    | none=>none
   | none=>none
  else none
 | .alloc t=>
  match o.dst with
  | some d=>if L.lookup d == some d then
    match P.info? t with
    | some i=>match i.zero with
     | some z=>if d<m then some (.bE d (Ow L d) z.cells.toList)else none
     | none=>none
    | none=>none
   else if iP L m o.dst then some (.raw o.op o.type)else none
  | none=>none
 | .box _ x=>
  match o.dst with
  | some d=>if L.lookup d == some d then(if nl L x && (d<m)then some (.cB d (Ow L d) x)else none)else if nl L x && iP L m o.dst then some (.raw o.op o.type)else none
  | none=>none
 | .fieldAddr t x f=>
  match ON P t f with
  | some (off,_,sz)=>
   if sz == 0 then none else
   match x with
   | .tmp s=>match L.lookup s with
    | some d=>if JW L m o.dst d && !(o.dst == some d)then some (.dE off s)else none
    | none=>if iP L m o.dst then some (.bM off x)else none
   | _=>if iP L m o.dst then some (.bM off x)else none
  | none=>none
 | .indexAddr t x i=>
  if nl L i then
   match P.underlying t,x with
   | some (.array len e),.tmp s=>match L.lookup s,P.info? e with
    | some d,some ie=>if JW L m o.dst d && !(o.dst == some d)then some (.fR ie.size len s i)else none
    | _,_=>if iP L m o.dst && nl L x then some (.raw o.op o.type)else none
   | some (.slice e),x=>match P.info? e with
    | some ie=>if nl L x && iP L m o.dst then some (.cJ ie.size x i)else none
    | none=>none
   | _,_=>none
  else none
 | .load t x=>
  if sE L then(if nl L x && iP L m o.dst then some (.jA o.op o.type)else none)else
  if iP L m o.dst then
   match Ye P t with
   | some n=>match x with
    | .tmp s=>match L.lookup s with
     | some d=>some (.jM d n s)
     | none=>some (.ld n x)
    | _=>some (.ld n x)
   | none=>none
  else none
 | .store t x v=>
  if nl L v && o.dst.isNone then
   match P.info? t with
   | some i=>match x with
    | .tmp s=>match L.lookup s with
     | some d=>some (.sL d i.size s v)
     | none=>some (.raw o.op o.type)
    | _=>some (.raw o.op o.type)
   | none=>none
  else none
 | .call { callee:=.builtin .len,args:=args,argTypes:=ts }=>
  match args.toList,ts.toList with
  | [x],[t]=>if nl L x && iP L m o.dst then
    match P.underlying t with
    | some (.slice _)=>some (.len x)
    | _=>some (.raw o.op o.type)
   else none
  | _,_=>none
 | .call { callee:=.value (.func f),args:=args,argTypes:=_ }=>
  if(args.all (nl L)) && iP L m o.dst then
   match P.funcs[f]? with
   | some fn=>if fn.body.isSome && !(fn.name == "runtime.NumGoroutine")then some (.call f args.toList)else some (.raw o.op o.type)
   | none=>none
  else none
 | .build t ps=>
  if(ps.all λp=>nl L p.2) && iP L m o.dst then
   match P.underlying t,P.info? t with
   | some (.struct fs),some i=>match i.zero,UE (Bv P fs) ps.toList with
    | some z,some qs=>if Zl3 P fs then some (.build z.cells.toList qs)else none
    | _,_=>none
   | some (.array _ e),some i=>match i.zero,P.info? e with
    | some z,some ie=>match UE (λk=>some (k * ie.size,ie.size)) ps.toList with
     | some qs=>some (.build z.cells.toList qs)
     | none=>none
    | _,_=>none
   | _,_=>none
  else none
 | .buildSlice t len ps=>
  if(ps.all λp=>nl L p.2) && iP L m o.dst then
   match P.underlying t with
   | some (.slice e)=>match P.info? e with
    | some ie=>match ie.zero,UE (λk=>some (k * ie.size,ie.size)) ps.toList with
     | some z,some qs=>if len * ie.size<=2 ^ 24 && !(len * ie.size == 0)then some (.bL e len ((Array.range (len * ie.size)).map (z.cells[· % z.cells.size]!)).toList qs)else some (.raw o.op o.type)
     | _,_=>none
    | none=>none
   | _=>none
  else none
 | .select _ _=>none
 | _=>if(o.op.operands.all (nl L)) && iP L m o.dst then some (Oy P L o.op o.type)else none
theorem Uh{t:Nat}(h:¬t=d):Nat.beq t d=false:=by
 cases hb:Nat.beq t d with
 | false=>rfl
 | true=>exact absurd (qAQ hb) h
def VV(L:List (Nat×Nat))(ρ:Nat->Nat)(t:Nat)(v tv:Value):Prop:=
 match L.lookup t with
 | none=>tv=v
 | some d=>v=undef\/∃off:Nat,v=.int .i64 off/\tv=.pointer (some ⟨ρ d,off,none⟩)
structure eJ(P:PQ)(L:List (Nat×Nat))(m:Nat)(σ:aN)(H:Hp)(a:Act)(Ha:Hp):Prop where
 size:a.tmps.size=m
 defers:OA a.defers=σ.cX
 mem:∃(ρ:Nat->Nat) (K:Hp),Ha=H.join K/\H.Comp K/\(∀d cs,σ.box d=some cs->∃t,K (ρ d)=some (.cells cs.toArray t (0,0),true)) /\
  (∀d d' cs bJ,σ.box d=some cs->σ.box d'=some bJ->ρ d=ρ d'->d=d')/\(∀t v,σ.env t=some v->VV L ρ t v (a.tmps.getD t undef))/\U0 P K a.defers
theorem eJ.get{P:PQ}{L:List (Nat×Nat)}{m:Nat}{σ:aN}{H:Hp}{a:Act}{Ha:Hp}(r:eJ P L m σ H a Ha){x:Operand}(hx:nl L x=true)(h:σ.get x=some v):a.eval x=v:=by
 obtain⟨ρ,K,_,_,_,_,he,_⟩:=r.mem;cases x with
 | tmp t=>
  have:=he t v h;unfold VV at this;simp only[nl,qCr]at hx;rw[hx]at this;exact this
 | const c=>simp only[aN.get,iF]at h;exact h
 | func f=>simp only[aN.get,iF]at h;exact h
 | _=>simp only[aN.get,iF]at h;exact h
theorem Mi(a:Act)(d t:Nat)(v:Value)(hd:d<a.tmps.size):(dD a (some d) v).tmps.getD t undef=if t=d then v else a.tmps.getD t undef:=by
 simp only[dD,qBd,qBC];by_cases h:d=t
 ·subst h;simp[hd]
 simp[h,qAi h]
theorem eJ.set{P:PQ}{L:List (Nat×Nat)}{m:Nat}{σ:aN}{H:Hp}{a:Act}{Ha:Hp}(r:eJ P L m σ H a Ha)(hd:iP L m dst=true)(v:Value):eJ P L m (σ.set dst v) H (dD a dst v) Ha:=by
 cases dst with
 | none=>exact r
 | some d=>
  obtain⟨ρ,K,e1,e2,e3,e4,e5,e6⟩:=r.mem;simp only[iP,BY,qCr,qAK]at hd;refine⟨by simp[dD,r.size],r.defers,ρ,K,e1,e2,e3,e4,?_,e6⟩;intro t u hu;rw[Mi _ _ _ _ (by rw[r.size];exact hd.2)];simp only[aN.set]at hu;by_cases h:t=d
  ·subst h;simp at hu;unfold VV;rw[hd.1,iO rfl,hu]
  have:Nat.beq t d=false:=Uh h;rw[this]at hu;rw[bY h];exact e5 t u hu
theorem eJ.gA{P:PQ}{L:List (Nat×Nat)}{m:Nat}{σ:aN}{H:Hp}{a:Act}{Ha:Hp}(r:eJ P L m σ H a Ha)(dst:Option Nat):eJ P L m (σ.gA dst) H (dD a dst undef) Ha:=by
 cases dst with
 | none=>exact r
 | some d=>
  obtain⟨ρ,K,e1,e2,e3,e4,e5,e6⟩:=r.mem;refine⟨by simp[dD,r.size],r.defers,ρ,K,e1,e2,e3,e4,?_,e6⟩;intro t u hu;simp only[aN.gA]at hu;by_cases h:t=d
  ·subst h;simp at hu;subst hu;unfold VV;split
   ·simp only[dD,qBd,qBC];by_cases bV:t<a.tmps.size<;>simp[bV]
   exact .inl rfl
  have hb:Nat.beq t d=false:=Uh h;rw[hb]at hu;have h2:=e5 t u hu;have:(dD a (some d) undef).tmps.getD t undef=a.tmps.getD t undef:=by simp only[dD,qBd,qBC,bY (qAi h)]
  rw[this];exact h2
theorem eJ.M6{P:PQ}{L:List (Nat×Nat)}{m:Nat}{σ:aN}{H:Hp}{a:Act}{Ha:Hp}(r:eJ P L m σ H a Ha)(hd:JW L m dst d=true){s:Nat}(hs:L.lookup s=some d)(hn:σ.env s=some (.int .i64 (n:Nat)))(n':Nat) :
  ∃b,a.tmps.getD s undef=.pointer (some ⟨b,n,none⟩)/\eJ P L m (σ.set dst (.int .i64 (n':Nat))) H (dD a dst (.pointer (some ⟨b,n',none⟩))) Ha:=by
 obtain⟨ρ,K,e1,e2,e3,e4,e5,e6⟩:=r.mem;have h0:=e5 s _ hn;unfold VV at h0;rw[hs]at h0;obtain⟨off,h1,h2⟩:=h0.resolve_left (by simp[undef]);simp only[Value.int.injEq,true_and,Int.ofNat_inj]at h1;subst h1;refine⟨ρ d,h2,?_⟩;cases dst with
 | none=>simp[JW]at hd
 | some t=>
  simp only[JW,BY,beq_iff_eq,qAK]at hd;refine⟨by simp[dD,r.size],r.defers,ρ,K,e1,e2,e3,e4,?_,e6⟩;intro u w hu;rw[Mi _ _ _ _ (by rw[r.size];exact hd.2)];simp only[aN.set]at hu;by_cases h:u=t
  ·subst h;simp at hu;unfold VV;rw[hd.1,iO rfl];exact .inr ⟨n',hu.symm,rfl⟩
  have:Nat.beq u t=false:=Uh h;rw[this]at hu;rw[bY h];exact e5 u w hu
theorem Zo8(x:Sem α):x.bind Sem.pure=x:=by exact Zij
theorem Zo9{γ:Type}(x:Sem α)(f:α->Sem β)(k:β->Sem γ):(x.bind f).bind k=x.bind λa=>(f a).bind k:=by exact Zij
instance:LawfulMonad Sem:=LawfulMonad.mk' Sem (id_map:=λx=>Zo8 x) (pure_bind:=λ_ _=>rfl) (bind_assoc:=λx f k=>Zo9 x f k)
theorem Zh{P:PQ}{s:Sem α}{f:α->Sem β}{Q:β->Bool->Hp->Prop}:∀{g:Bool} {H:Hp},cD P (s >>= f) Q g H↔cD P s (λa g H=>cD P (f a) Q g H) g H:=by
 show ∀{g:Bool} {H:Hp},cD P (s.bind f) Q g H↔_;induction s with
 | pure a=>exact qCB
 | load m a k ih=>simp only[cD,Sem.bind,ih];exact trivial
 | store m a v k ih=>simp only[cD,Sem.bind,ih,qBt]
 | new o k ih=>simp only[cD,Sem.bind,ih,qBt]
 | shape r k ih=>simp only[cD,Sem.bind,ih,qBt]
 | freeze a n k ih=>simp only[cD,Sem.bind,ih,qBt]
 | frozen a k ih=>simp only[cD,Sem.bind,ih,qBt]
 | getObj r k ih=>simp only[cD,Sem.bind,ih,qBt]
 | setObj r o k ih=>simp only[cD,Sem.bind,ih,qBt]
 | choose q k ih=>simp only[cD,Sem.bind,ih,qBt]
 | sys c k ih=>exact qCB
 | program k ih=>simp only[cD,Sem.bind,ih,qBt]
 | mark m k ih=>simp only[cD,Sem.bind,ih,qBt]
 | halt h=>exact qCB
theorem Zj{P:PQ}(a:α)(Q:α->Bool->Hp->Prop)(g:Bool)(H:Hp):cD P (pure a:Sem α) Q g H↔Q a g H:=qCB
theorem VZ{P:PQ}(Q:Program->Bool->Hp->Prop)(g:Bool)(H:Hp):cD P program Q g H↔Q P g H:=qCB
theorem Zy{P:PQ}{d:TypeDesc}(h:P.underlying t=some d)(Q:TypeDesc->Bool->Hp->Prop)(g:Bool)(H:Hp):cD P (underlying t) Q g H↔Q d g H:=by simp only[underlying,Zh,VZ,h,Zj]
theorem O2{P:PQ}(h:P.info? t=some i)(Q:TypeInfo->Bool->Hp->Prop)(g:Bool)(H:Hp):cD P (typeInfo t) Q g H↔Q i g H:=by simp only[typeInfo,Zh,VZ,h,Zj]
theorem Z6{P:PQ}(h:P.info? t=some i)(Q:Nat->Bool->Hp->Prop)(g:Bool)(H:Hp):cD P (sizeOf t) Q g H↔Q i.size g H:=by simp only[sizeOf,Zh,O2 h,Zj]
theorem UC{P:PQ}{z:Value}(h:P.info? t=some i)(hz:i.zero=some z)(Q:Value->Bool->Hp->Prop)(g:Bool)(H:Hp):cD P (zeroValue t) Q g H↔Q z g H:=by simp only[zeroValue,Zh,O2 h,hz,Zj]
theorem LD{P:PQ}(h:Ye P t=some (some n)):∃i,P.info? t=some i/\i.size=n/\∀(Q:Bool->Bool->Hp->Prop) g H,cD P (isAgg t) Q g H↔Q true g H:=by
 unfold Ye at h;split at h<;>simp only[iF,reduceCtorEq]at h
 ·rename_i fs i h1 h2;exact⟨i,h2,h,λQ g H=>by simp only[isAgg,Zh,Zy h1,Zj]⟩
 rename_i fs e i h1 h2;exact⟨i,h2,h,λQ g H=>by simp only[isAgg,Zh,Zy h1,Zj]⟩
theorem OT{P:PQ}(h:Ye P t=some none):∀(Q:Bool->Bool->Hp->Prop) g H,cD P (isAgg t) Q g H↔Q false g H:=by
 unfold Ye at h;split at h<;>simp only[iF,reduceCtorEq]at h;rename_i d i hs ha h1 h2;intro Q g H;simp only[isAgg,Zh,Zy h1];cases d with
 | struct fs=>exact(hs _ rfl).elim
 | array n e=>exact(ha _ _ rfl).elim
 | _=>simp only[Zj]
theorem MI{P:PQ}{o:Obj}{p:Bool}{a:Addr}{H:Hp}(bB:P.still H.gh=false)(ho:H a.block=some (o,p))(hs:a.spot=none)(Q:Array Value->Bool->Hp->Prop)(g:Bool) :
  ∀(cs:List Value) (i:Nat) (vB:Array Value),(∀j,j<cs.length->Obj.mH o (a.off+(i+j))=cs[j]?)->Q (vB++cs.toArray) g H->cD P (loadCellsFrom a i cs.length vB) Q g H
 | [],i,vB,_,h=>by simpa[loadCellsFrom,Zj]using h
 | c :: cs,i,vB,hc,h=>by
  have h0:=hc 0 (by simp);simp only[qAO,loadCellsFrom,Zh];have hb:(a.add i).block=a.block:=by unfold Addr.add;split<;>rfl
  have T4:(a.add i).off=a.off+i:=by unfold Addr.add;split<;>simp_all
  have N3:(a.add i).spot=none:=by unfold Addr.add;split<;>simp_all
  refine⟨o,p,c,⟨bB,by rw[hb];exact ho⟩,rfl,N3,by rw[T4];simpa using h0,?_⟩;refine MI bB ho hs Q g cs (i+1) (vB.push c) (λj hj=>?_) (by simpa using h);have:=hc (j+1) (by simp;omega);simp only[qAU]at this;rw[<-this];congr 1;omega
section sound
variable{P:bF}{nr:Bool}{L:List (Nat×Nat)}{m:Nat}{o:Oper}{next:aN->Hp->Prop}{σ:aN}{H Ha:Hp}{a:Act}
abbrev Nx(P:PQ)(L:List (Nat×Nat))(m:Nat)(next:aN->Hp->Prop)(a':Act)(DF:Hp):Prop:=∃σ' H',eJ P L m σ' H' a' DF/\next σ' H'
theorem SC{N:Act->Hp->Prop}(h:execOp a.eval o=pure (.value v))(hn:N (dD a o.dst v) Ha):lK P nr o a N Ha:=by refine .inl ?_;rw[h];exact .inr hn
theorem VO{N:Act->Hp->Prop}{s:Sem Value}(h:execOp a.eval o=(do pure (.value (<-s))))(hs:cD P s (λv g H'=>g=true\/N (dD a o.dst v) H') false Ha):lK P nr o a N Ha:=by refine .inl ?_;rw[h,Zh];exact Vh (λv g H' hv=>hv) hs
theorem eJ.heap{P:PQ}{L:List (Nat×Nat)}{m:Nat}{σ:aN}{H:Hp}{a:Act}{Ha:Hp}(r:eJ P L m σ H a Ha){x:Obj×Bool}(h:H b=some x):Ha b=some x:=by obtain⟨ρ,K,e1,_⟩:=r.mem;rw[e1];exact Hp.aK h
theorem eJ.aL{P:PQ}{L:List (Nat×Nat)}{m:Nat}{σ:aN}{H:Hp}{a:Act}{Ha:Hp}(r:eJ P L m σ H a Ha)(h:P.still H.gh=false):P.still Ha.gh=false:=by obtain⟨ρ,K,e1,e2,_⟩:=r.mem;rw[e1];exact Ub e2 h
theorem W3{a:Addr}(hs:a.spot=none)(n:Nat):a.add n=⟨a.block,a.off+n,none⟩:=by
 unfold Addr.add;split
 ·obtain⟨b,o,s⟩:=a;simp_all
 rfl
theorem eJ.NL{P:PQ}{L:List (Nat×Nat)}{m:Nat}{σ:aN}{H:Hp}{a:Act}{Ha:Hp}(r:eJ P L m σ H a Ha)(hL:L.lookup d=some d)(hd:d<m)(hb:Ha b=none)(cs:List Value)(t:TypeId) :
  eJ P L m (((σ.drop (Ow L d)).set (some d) (.int .i64 0)).dD d cs) H (dD a (some d) (.pointer (some ⟨b,0,none⟩))) (Ha.ins b (.cells cs.toArray t)):=by
 obtain⟨ρ,K,e1,e2,e3,e4,e5,e6⟩:=r.mem;rw[e1]at hb;obtain⟨gI,kS⟩:=Hp.dR.1 hb;have BN:∀t,L.lookup t=some d->(Ow L d).elem t=true:=by
  intro t ht;have:(t,d)∈L:=by have:=qCA.1 ht;obtain⟨l1,l2,rfl,_⟩:=this;simp
  simp only[Ow,List.elem_eq_mem,qAK,qAX,qAF,beq_iff_eq];exact⟨(t,d),⟨this,rfl⟩,rfl⟩
 have dG:∀d' bJ,d'≠d->σ.box d'=some bJ->ρ d'≠b:=by intro d' bJ _ h' hh;obtain⟨t',h2⟩:=e3 d' bJ h';rw[hh,kS]at h2;simp at h2
 refine⟨by simp[dD,r.size],r.defers,λx=>if x=d then b else ρ x,K.ins b (.cells cs.toArray t),?_,?_,?_,?_,?_,?_⟩
 ·rw[e1];refine Hp.ext' (λx=>?_) rfl;simp only[Hp.aX,Hp.eD];by_cases hx:x=b
  ·subst hx;simp[gI]
  simp[hx]
 ·exact((e2.symm).hZ _ gI).symm
 ·intro d' bJ h';simp only[aN.dD]at h';by_cases hx:d'=d
  ·subst hx;simp at h';subst h';exact⟨t,by simp[Hp.eD]⟩
  rw[Uh hx]at h';have h2:σ.box d'=some bJ:=by simpa[aN.set,aN.drop]using h'
  obtain⟨t',h3⟩:=e3 d' bJ h2;exact⟨t',by simp only[bY hx];rw[Hp.aE _ _ (dG d' bJ hx h2)];exact h3⟩
 ·intro d1 d2 c1 c2 h1 h2 h3;simp only[aN.dD]at h1 h2;by_cases x1:d1=d<;>by_cases x2:d2=d
  ·rw[x1,x2]
  ·rw[Uh x2]at h2;have C7:σ.box d2=some c2:=by simpa[aN.set,aN.drop]using h2
   simp only[iO x1,bY x2]at h3;exact absurd h3.symm (dG d2 c2 x2 C7)
  ·rw[Uh x1]at h1;have kM:σ.box d1=some c1:=by simpa[aN.set,aN.drop]using h1
   simp only[bY x1,iO x2]at h3;exact absurd h3 (dG d1 c1 x1 kM)
  rw[Uh x1]at h1;rw[Uh x2]at h2;simp only[bY x1,bY x2]at h3;exact e4 d1 d2 c1 c2 (by simpa[aN.set,aN.drop]using h1) (by simpa[aN.set,aN.drop]using h2) h3
 ·intro u w hu;rw[Mi _ _ _ _ (by rw[r.size];exact hd)];simp only[aN.dD,aN.set,aN.drop]at hu;by_cases h:u=d
  ·subst h;simp at hu;unfold VV;rw[hL];exact .inr ⟨0,by simpa using hu.symm,by simp⟩
  rw[Uh h]at hu;simp only[cond_false]at hu;rw[bY h];cases he:(Ow L d).elem u with
  | true=>rw[he]at hu;simp at hu
  | false=>
   rw[he]at hu;have h2:=e5 u w hu;unfold VV at h2 ⊢;cases hl:L.lookup u with
   | none=>rw[hl]at h2;exact h2
   | some d'=>
    rw[hl]at h2;have:d'≠d:=by rintro rfl;rw[BN u hl]at he;simp at he
    simpa[this]using h2
 exact e6.ins λo' h=>by rw[kS]at h;simp at h
end sound
end
section
variable{x y:Operand}{t e ft:TypeId}{i:TypeInfo}{f off sz s d:Nat}{n:Option Nat}
section sound
variable{P:bF}{nr:Bool}{L:List (Nat×Nat)}{m:Nat}{o:Oper}{next:aN->Hp->Prop}{σ:aN}{H Ha:Hp}{a:Act}{op:bC}
theorem Zhq(ho:o.op=.move x\/o.op=.assign x)(hx:nl L x=true)(hd:iP L m o.dst=true)(h:(bC.fB x).w P o.dst next σ H)(r:eJ P L m σ H a Ha):lK P nr o a (Nx P L m next) Ha:=by obtain⟨v,h1,h2⟩:=h;refine SC (v:=v) ?_ ⟨_,_,r.set hd v,h2⟩;rcases ho with ho | ho<;>simp[execOp,ho,r.get hx h1]
theorem Zph{c:Operand}(ho:o.op=.pick c x y)(hc:nl L c=true)(hx:nl L x=true)(hy:nl L y=true)(hd:iP L m o.dst=true)(h:(bC.pick c x y).w P o.dst next σ H)(r:eJ P L m σ H a Ha):lK P nr o a (Nx P L m next) Ha:=by
 obtain⟨t,v,h1,h2,h3⟩:=h;refine SC (v:=v) ?_ ⟨_,_,r.set hd v,h3⟩;have e:=r.get hc h1;cases t with
 | true=>simp[execOp,ho,e,asBool,r.get hx h2]
 | false=>simp[execOp,ho,e,asBool,r.get hy h2]
theorem Zpi(ho:o.op=.unOp .not t x)(hx:nl L x=true)(hd:iP L m o.dst=true)(h:(bC.not x).w P o.dst next σ H)(r:eJ P L m σ H a Ha):lK P nr o a (Nx P L m next) Ha:=by obtain⟨b,h1,h2⟩:=h;refine SC (v:=.bool !b) ?_ ⟨_,_,r.set hd _,h2⟩;simp[execOp,ho,r.get hx h1,Op.unary]
theorem Zpx{b:BinOp}{ty:TypeId}(ho:o.op=.binOp b t x y ty)(hx:nl L x=true)(hy:nl L y=true)(hd:iP L m o.dst=true)(h:(bC.bQ b x y).w P o.dst next σ H)(r:eJ P L m σ H a Ha):lK P nr o a (Nx P L m next) Ha:=by obtain⟨k,p,q,v,h1,h2,h3,h4⟩:=h;refine SC (v:=v) ?_ ⟨_,_,r.set hd v,h4⟩;have e1:=r.get hx h1;have e2:=r.get hy h2;cases b<;>simp[E0]at h3<;>subst h3<;>simp[execOp,ho,e1,e2,eqGuard,binOp,Op.intArith,Op.intCmp]
theorem Zps{i:Nat}(ho:o.op=.extract x i)(hx:nl L x=true)(hd:iP L m o.dst=true)(h:(bC.ext x i).w P o.dst next σ H)(r:eJ P L m σ H a Ha):lK P nr o a (Nx P L m next) Ha:=by obtain⟨vs,v,h1,h2,h3⟩:=h;refine SC (v:=v) ?_ ⟨_,_,r.set hd v,h3⟩;simp[execOp,ho,r.get hx h1,Instr.extract,h2]
theorem Zpo{ts:Array TypeId}{aB:Array Operand}(ho:o.op=.call { callee:=.builtin .len,args:=aB,argTypes:=ts })(QL:aB.toList=[x])(iM:ts.toList=[t])(ht:P.underlying t=some (.slice e))(hx:nl L x=true)(hd:iP L m o.dst=true)
  (h:(bC.len x).w P o.dst next σ H) (r:eJ P L m σ H a Ha):lK P nr o a (Nx P L m next) Ha:=by
 obtain⟨b,n,c,h1,h3⟩:=h;have e1:=r.get hx h1;obtain⟨aB⟩:=aB;obtain⟨ts⟩:=ts;simp only at QL iM;subst QL iM;refine VO (s:=Builtin.len_ #[t] o.type #[.slice b n c]) (by simp[execOp,ho,resolve,invoke,builtin,e1]) ?_;show cD P (underlying t >>= _) _ _ _;rw[Zh,Zy ht];exact .inr ⟨_,_,r.set hd _,h3⟩
theorem ZmE(hf:ON P t f=some (off,ft,sz)):∃fs mG i,P.underlying t=some (.struct fs)/\fs[f]? = some mG/\P.info? mG.type=some i/\mG.offset=off/\mG.type=ft/\i.size=sz:=by
 unfold ON at hf;cases hu:P.underlying t with
 | none=>rw[hu]at hf;simp at hf
 | some d=>
  rw[hu]at hf;cases d with
  | struct fs=>
   simp only at hf;cases uW:fs[f]? with
   | none=>rw[uW]at hf;simp at hf
   | some mG=>
    rw[uW]at hf;simp only at hf;cases hi:P.info? mG.type with
    | none=>rw[hi]at hf;simp at hf
    | some i=>
     rw[hi]at hf;simp only[iF,qAG]at hf;exact⟨fs,mG,i,rfl,uW,hi,hf.1,hf.2.1,hf.2.2⟩
  | _=>simp at hf
theorem Zpr(ho:o.op=.field t x f)(hf:ON P t f=some (off,ft,sz))(hn:Ye P ft=some n)(hx:nl L x=true)(hd:iP L m o.dst=true)(h:(bC.mG off n x).w P o.dst next σ H)(r:eJ P L m σ H a Ha):lK P nr o a (Nx P L m next) Ha:=by
 obtain⟨cs,h1,h2⟩:=h;refine VO (s:=Instr.field t (.agg cs) f) (by simp[execOp,ho,r.get hx h1]) ?_;obtain⟨fs,mG,i,hu,uW,hi,rfl,rfl,rfl⟩:=ZmE hf;unfold Instr.field;rw[Zh,Zy hu];simp only[uW,asAgg,Zh,Zj,part];cases n with
 | none=>
  obtain⟨v,h3,h4⟩:=h2;rw[OT hn];simp only[iN,qAk,h3,Zj];exact .inr ⟨_,_,r.set hd _,h4⟩
 | some n=>
  obtain⟨i',gJ,hs,hq⟩:=LD hn;rw[hq];simp only[qAM,Zh,Z6 gJ,Zj,hs];exact .inr ⟨_,_,r.set hd _,h2⟩
theorem ZmF{b:Addr}(hf:ON P t f=some (off,ft,sz))(hz:sz≠0)(Q:Value->Bool->Hp->Prop)(g:Bool)(H:Hp):cD P (Instr.fieldAt t (.pointer (some b)) f) Q g H↔Q (.pointer (some (b.add off))) g H:=by obtain⟨fs,mG,i,hu,uW,hi,rfl,rfl,rfl⟩:=ZmE hf;unfold Instr.fieldAt;rw[Zh,Zy hu];simp only[uW,Instr.sureAddr,Zh,Zj,fieldPlace,Z6 hi,hz,qAk]
theorem Zhs(ho:o.op=.fieldAddr t x f)(hf:ON P t f=some (off,ft,sz))(hz:sz≠0)(hx:nl L x=true)(hd:iP L m o.dst=true)(h:(bC.bM off x).w P o.dst next σ H)(r:eJ P L m σ H a Ha):lK P nr o a (Nx P L m next) Ha:=by obtain⟨b,h1,h2⟩:=h;refine VO (s:=Instr.fieldAt t (.pointer (some b)) f) (by simp[execOp,ho,r.get hx h1]) ?_;rw[ZmF hf hz];exact .inr ⟨_,_,r.set hd _,h2⟩
theorem Zpn(ho:o.op=.fieldAddr t (.tmp s) f)(hf:ON P t f=some (off,ft,sz))(hz:sz≠0)(hs:L.lookup s=some d)(hd:JW L m o.dst d=true)(h:(bC.dE off s).w P o.dst next σ H)(r:eJ P L m σ H a Ha):lK P nr o a (Nx P L m next) Ha:=by obtain⟨n,h1,h2⟩:=h;obtain⟨b,h3,h4⟩:=r.M6 hd hs h1 (n+off);refine VO (s:=Instr.fieldAt t (.pointer (some ⟨b,n,none⟩)) f) (by simp only[execOp,ho,Act.eval,h3]) ?_;rw[ZmF hf hz,W3 rfl];exact .inr ⟨_,_,h4,h2⟩
theorem Zpq(ho:o.op=.indexAddr t x y)(hu:P.underlying t=some (.slice e))(hi:P.info? e=some i)(hx:nl L x=true)(hy:nl L y=true)(hd:iP L m o.dst=true)(h:(bC.cJ i.size x y).w P o.dst next σ H)(r:eJ P L m σ H a Ha):lK P nr o a (Nx P L m next) Ha:=by obtain⟨b,ln,cap,k,n,h1,h2,h3,h4,h5⟩:=h;refine VO (s:=Instr.indexAt t (.slice (some b) ln cap) (.int k n)) (by simp[execOp,ho,r.get hx h1,r.get hy h2]) ?_;unfold Instr.indexAt;simp only[asIntOf,Zh,Zj,Zy hu];simp only[h3,h4,and_self,qAM,Zh,Z6 hi,Zj];exact .inr ⟨_,_,r.set hd _,h5⟩
theorem Zpm{len:Nat}(ho:o.op=.indexAddr t (.tmp s) y)(hu:P.underlying t=some (.array len e))(hi:P.info? e=some i)(hs:L.lookup s=some d)(hy:nl L y=true)(hd:JW L m o.dst d=true)(h:(bC.fR i.size len s y).w P o.dst next σ H)(r:eJ P L m σ H a Ha):lK P nr o a (Nx P L m next) Ha:=by obtain⟨n,k,j,h1,h2,h3,h4,h5⟩:=h;obtain⟨b,h6,h7⟩:=r.M6 hd hs h1 (n+j.toNat * i.size);refine VO (s:=Instr.indexAt t (.pointer (some ⟨b,n,none⟩)) (.int k j)) (by have:=r.get hy h2;simp only[execOp,ho,this];simp only[Act.eval,h6]) ?_;unfold Instr.indexAt;simp only[asIntOf,Zh,Zj,Zy hu,Instr.sureAddr];simp only[h3,h4,and_self,qAM,Zh,Z6 hi,Zj,W3];exact .inr ⟨_,_,h7,h5⟩
theorem Zhr(ho:o.op=.load t x)(hn:Ye P t=some n)(hx:nl L x=true)(hd:iP L m o.dst=true)(h:(bC.ld n x).w P o.dst next σ H)(r:eJ P L m σ H a Ha):lK P nr o a (Nx P L m next) Ha:=by
 obtain⟨bB,b,ob,p,h1,h2,h3,h4⟩:=h;refine VO (s:=Instr.loadAt t (.pointer (some b))) (by simp[execOp,ho,r.get hx h1]) ?_;simp only[Instr.loadAt,Instr.sureAddr,Zh,Zj,loadVar];cases n with
 | none=>
  obtain⟨v,h5,h6⟩:=h4;rw[OT hn];simp only[iN,qAk];exact⟨ob,p,v,⟨r.aL bB,r.heap h3⟩,rfl,h2,h5,.inr ⟨_,_,r.set hd _,h6⟩⟩
 | some n=>
  obtain⟨cs,rfl,h5,h6⟩:=h4;obtain⟨i',gJ,hs,hq⟩:=LD hn;rw[hq];simp only[qAM,Zh,Z6 gJ,Zj,hs,loadCells];refine MI (r.aL bB) (r.heap h3) h2 _ _ cs 0 #[] (λj hj=>by rw[qAu];exact h5 j hj) ?_;exact .inr ⟨_,_,by simpa using r.set hd _,h6⟩
end sound
end
variable{t:TypeId}{d s:Nat}{i:TypeInfo}{x:Operand}
section sound
variable{P:bF}{nr:Bool}{L:List (Nat×Nat)}{m:Nat}{o:Oper}{next:aN->Hp->Prop}{σ:aN}{H Ha:Hp}{a:Act}{op:bC}
theorem Zpj{z:Value}(ho:o.op=.alloc t)(hd:o.dst=some d)(hL:L.lookup d=some d)(hm:d<m)(hi:P.info? t=some i)(hz:i.zero=some z)
  (h:(bC.bE d (Ow L d) z.cells.toList).w P o.dst next σ H) (r:eJ P L m σ H a Ha):lK P nr o a (Nx P L m next) Ha:=by
 obtain⟨hs,h⟩:=h;refine VO (s:=Instr.alloc t true (.tuple #[])) (by simp[execOp,ho]) ?_;simp only[Instr.alloc,Zh,UC hi hz];simp only[newVar,newRow,Zh,newObj];refine⟨r.aL hs,λb hb=>?_⟩;rw[hd];refine .inr ⟨_,_,?_,h⟩;have:=r.NL hL hm hb z.cells.toList t;simpa using this
theorem Zpp(ho:o.op=.box t x)(hd:o.dst=some d)(hL:L.lookup d=some d)(hm:d<m)(hx:nl L x=true)
  (h:(bC.cB d (Ow L d) x).w P o.dst next σ H) (r:eJ P L m σ H a Ha):lK P nr o a (Nx P L m next) Ha:=by
 obtain⟨hs,v,h1,h2⟩:=h;refine VO (s:=Instr.box t v) (by simp[execOp,ho,r.get hx h1]) ?_;simp only[Instr.box,Zh,newVar,newRow,newObj];refine⟨r.aL hs,λb hb=>?_⟩;rw[hd];refine .inr ⟨_,_,?_,h2⟩;have:=r.NL hL hm hb v.cells.toList t;simpa using this
theorem eJ.place{P:PQ}{L:List (Nat×Nat)}{m:Nat}{σ:aN}{H:Hp}{a:Act}{Ha:Hp}(r:eJ P L m σ H a Ha){n:Nat}{cs:List Value}(hs:L.lookup s=some d)(hn:σ.env s=some (.int .i64 (n:Nat)))(hb:σ.box d=some cs) :
  ∃b t,a.tmps.getD s undef=.pointer (some ⟨b,n,none⟩)/\Ha b=some (.cells cs.toArray t (0,0),true):=by
 obtain⟨ρ,K,e1,e2,e3,e4,e5,e6⟩:=r.mem;have h0:=e5 s _ hn;unfold VV at h0;rw[hs]at h0;obtain⟨off,h1,h2⟩:=h0.resolve_left (by simp[undef]);simp only[Value.int.injEq,true_and,Int.ofNat_inj]at h1;subst h1;obtain⟨t,ht⟩:=e3 d cs hb;exact⟨ρ d,t,h2,by rw[e1];exact Hp.aS e2 ht⟩
theorem Zpl{n:Option Nat}(ho:o.op=.load t (.tmp s))(hn:Ye P t=some n)(hs:L.lookup s=some d)(hd:iP L m o.dst=true)(h:(bC.jM d n s).w P o.dst next σ H)(r:eJ P L m σ H a Ha):lK P nr o a (Nx P L m next) Ha:=by
 obtain⟨bB,off,cs,h1,h2,h3⟩:=h;obtain⟨b,tb,gI,kS⟩:=r.place hs h1 h2;refine VO (s:=Instr.loadAt t (.pointer (some ⟨b,off,none⟩))) (by simp only[execOp,ho,Act.eval,gI]) ?_;simp only[Instr.loadAt,Instr.sureAddr,Zh,Zj,loadVar];cases n with
 | none=>
  obtain⟨v,h5,h6⟩:=h3;rw[OT hn];simp only[iN,qAk];exact⟨_,_,v,⟨r.aL bB,kS⟩,rfl,rfl,by simpa[Obj.mH]using h5,.inr ⟨_,_,r.set hd _,h6⟩⟩
 | some n=>
  obtain⟨h5,h6⟩:=h3;obtain⟨i',gJ,fP,hq⟩:=LD hn;rw[hq];simp only[qAM,Zh,Z6 gJ,Zj,fP,loadCells];have dJ:((cs.drop off).take n).length=n:=by simp;omega
  have:=MI (P:=P) (a:=⟨b,off,none⟩) (r.aL bB) kS rfl (λv g H'=>g=true\/Nx P L m next (dD a o.dst (.agg v)) H') false ((cs.drop off).take n) 0 #[] (λj hj=>by simp only[Obj.mH,qAu,qAD];rw[qBS,qBB,iO (by rw[dJ]at hj;exact hj)]) (.inr ⟨_,_,by simpa using r.set hd _,h6⟩);rw[dJ]at this;exact this
theorem L8{P:PQ}{b:Nat}{t:TypeId}(Q:Unit->Bool->Hp->Prop)(g:Bool):∀(vs:List Value) (off i:Nat) (cs:List Value) (H:Hp),P.still H.gh=false->H b=some (.cells cs.toArray t (0,0),true)->(vs.all Value.dZ)=true->off+i+vs.length<=cs.length ->
  Q () g (H.ins b (.cells (cs.take (off+i)++vs++cs.drop (off+i+vs.length)).toArray t (0,0)))->cD P (storeCells ⟨b,off,none⟩ vs i) Q g H
 | [],off,i,cs,H,_,hb,_,_,h=>by
  have:H.ins b (.cells (cs.take (off+i)++[]++cs.drop (off+i+([]:List Value).length)).toArray t (0,0))=H:=by
   refine Hp.ext' (λx=>?_) rfl;by_cases hx:x=b
   ·subst hx;simp[Hp.eD,hb]
   rw[Hp.aE _ _ hx]
  rw[this]at h;exact h
 | v :: vs,off,i,cs,H,bB,hb,h1,hl,h=>by
  simp only[List.all_cons,BY]at h1;simp only[qAO]at hl;simp only[storeCells,Zh,store];have ha:(⟨b,off,none⟩:Addr).add i=⟨b,off+i,none⟩:=by rw[W3 rfl]
  rw[ha];have bV:off+i<cs.length:=O;refine⟨_,⟨bB,hb⟩,rfl,rfl,h1.1,?_,by simp[Obj.kE],?_⟩
  ·simp[Obj.mH,bV]
  have e:Obj.dD (.cells cs.toArray t (0,0)) (off+i) v=.cells (cs.set (off+i) v).toArray t (0,0):=by simp[Obj.dD]
  rw[e];refine L8 Q g vs off (i+1) (cs.set (off+i) v) _ bB (Hp.aF _ _ _) h1.2 (by simp;omega) ?_;have e2:(H.ins b (.cells (cs.set (off+i) v).toArray t (0,0))).ins b (.cells ((cs.set (off+i) v).take (off+(i+1))++vs++(cs.set (off+i) v).drop (off+(i+1)+vs.length)).toArray t (0,0))=H.ins b (.cells (cs.take (off+i)++(v :: vs)++cs.drop (off+i+(v :: vs).length)).toArray t (0,0)):=by
   refine Hp.ext' (λx=>?_) rfl;by_cases hx:x=b
   ·subst hx;simp only[Hp.aF,iF,qAG,qCQ,Obj.cells.injEq];refine qAC List.toArray ?_;rw[List.drop_set_of_lt O];have:(cs.set (off+i) v).take (off+(i+1))=cs.take (off+i)++[v]:=by rw[<-qCg,qAd (by simp;omega)];rw[qCO O];simp
    rw[this];simp only[qBy,List.singleton_append,qAO];congr 3;omega
   simp only[Hp.aE _ _ hx]
  rw[e2];exact h
theorem Zpk(ho:o.op=.store t (.tmp s) x)(hi:P.info? t=some i)(hs:L.lookup s=some d)(hx:nl L x=true)(hd:o.dst=none)(h:(bC.sL d i.size s x).w P o.dst next σ H)(r:eJ P L m σ H a Ha):lK P nr o a (Nx P L m next) Ha:=by
 obtain⟨bB,off,cs,v,h1,h2,h3,h4,h5,h6,h7⟩:=h;obtain⟨ρ,K,e1,e2,e3,e4,e5,e6⟩:=r.mem;have h0:=e5 s _ h1;unfold VV at h0;rw[hs]at h0;obtain⟨aH3,T4,hp⟩:=h0.resolve_left (by simp[undef]);simp only[Value.int.injEq,true_and,Int.ofNat_inj]at T4;subst T4;obtain⟨tb,hK⟩:=e3 d cs h2;have EQ:Ha (ρ d)=some (.cells cs.toArray tb (0,0),true):=by rw[e1];exact Hp.aS e2 hK
 refine .inl ?_;have:execOp a.eval o=(do (Instr.storeAt t (.pointer (some ⟨ρ d,off,none⟩)) v);pure .skip:Sem Next):=by simp only[execOp,ho,r.get hx h3];simp only[Act.eval,hp]
 rw[this,Zh];simp only[Instr.storeAt,Instr.sureAddr,Zh,Zj,storeVar,Z6 hi,h4,ne_eq,not_true_eq_false,qAk];refine L8 _ _ v.cells.toList off 0 cs Ha (r.aL bB) EQ h6 (by simp only[qBN];omega) ?_;refine .inr ⟨σ.dD d (cs.take off++v.cells.toList++cs.drop (off+i.size)),H,?_,h7⟩;rw[hd];have hH:H (ρ d)=none:=e2.mX hK;refine⟨r.size,r.defers,ρ,K.ins (ρ d) (.cells (cs.take off++v.cells.toList++cs.drop (off+i.size)).toArray tb (0,0)),?_,?_,?_,?_,e5,e6.ins λo' h=>by rw[hK]at h;simp at h;rintro c rfl;simp at h⟩
 ·rw[e1];refine Hp.ext' (λy=>?_) rfl;simp only[Hp.aX,Hp.eD];by_cases hy:y=ρ d
  ·subst hy;simp[hH,<-h4]
  simp[hy]
 ·exact((e2.symm).jZ hK).symm
 ·intro d' bJ h';simp only[aN.dD]at h';by_cases hy:d'=d
  ·subst hy;simp at h';subst h';exact⟨tb,by simp[Hp.eD]⟩
  rw[Uh hy]at h';obtain⟨t',h9⟩:=e3 d' bJ h';exact⟨t',by rw[Hp.aE _ _ (λe=>hy (e4 d' d bJ cs h' h2 e))];exact h9⟩
 intro d1 d2 c1 c2 k1 k2 k3;have b1:∃c,σ.box d1=some c:=by
  simp only[aN.dD]at k1;by_cases hy:d1=d
  ·rw[hy];exact⟨_,h2⟩
  rw[Uh hy]at k1;exact⟨_,k1⟩
 have b2:∃c,σ.box d2=some c:=by
  simp only[aN.dD]at k2;by_cases hy:d2=d
  ·rw[hy];exact⟨_,h2⟩
  rw[Uh hy]at k2;exact⟨_,k2⟩
 obtain⟨c1',b1⟩:=b1;obtain⟨Q7,b2⟩:=b2;exact e4 d1 d2 c1' Q7 b1 b2 k3
end sound
