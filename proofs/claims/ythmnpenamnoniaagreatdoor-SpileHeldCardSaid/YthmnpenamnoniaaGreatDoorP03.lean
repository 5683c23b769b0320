import Derived.Test.YthmnpenamnoniaaGreatDoorP02
set_option linter.all false
namespace Go.LL
section
variable{P:PQ}{s:Bool}{ts bs:List Nat}{x:Operand}{d:Nat}
structure Hp.Sub(H H':Hp):Prop where
 mem:∀b x,H b=some x->H' b=some x
 gh:H'.gh=H.gh
structure Ua(P:PQ)(s:Bool)(H H':Hp):Prop where
 gh:P.still H'.gh=P.still H.gh
 mem:s=true->∀b x,H b=some x->H' b=some x
def Ua.refl(s:Bool)(H:Hp):Ua P s H H:=⟨rfl,λ_ _ _ h=>h⟩
def Ua.trans{H c a:Hp}(h:Ua P s H c)(f:Ua P s c a):Ua P s H a:=⟨f.gh.trans h.gh,λe b x g=>f.mem e b x (h.mem e b x g)⟩
def Hp.Sub.fX{H a:Hp}(h:H.Sub a)(s:Bool):Ua P s H a:=⟨by rw[h.gh],λ_=>h.mem⟩
def nL(P:PQ)(f:Option Bool)(H a:Hp):Prop:=∀s,f=some s->Ua P s H a
def nL.refl(f:Option Bool)(H:Hp):nL P f H H:=λs _=>.refl s H
def Hp.Sub.kpt{H a:Hp}(h:H.Sub a)(f:Option Bool):nL P f H a:=λs _=>h.fX s
def GB(s:Bool)(f:Option Bool):Bool:=match f with | some true=>true | some false=>!s | none=>false
def ZtP{f:Option Bool}(h:GB s f=true){H a:Hp}(k:nL P f H a):Ua P s H a:=by
 unfold GB at h;split at h
 ·have:=k true rfl;exact⟨this.gh,λ_=>this.mem rfl⟩
 ·have:=k false rfl;exact⟨this.gh,λe=>by rw[e]at h;simp at h⟩
 simp at h
def Hp.Sub.refl(H:Hp):H.Sub H:=⟨λ_ _ h=>h,rfl⟩
def Hp.Sub.trans{H c a:Hp}(h:H.Sub c)(e:c.Sub a):H.Sub a:=⟨λb x f=>e.mem b x (h.mem b x f),e.gh.trans h.gh⟩
structure dE where
 fe:Nat->Option (Option Value)
 fb:Nat->Option (List Value)
def dE.app(u:dE)(σ:aL):aL:={ env:=λt=>(u.fe t).getD (σ.env t),box:=λd=>match u.fb d with | some a=>some a | none=>σ.box d,bN:=σ.bN }
def dE.set(dst:Option Nat)(v:Option Value):dE:=
 { fe:=λt=>match dst with | some d=>bif Nat.beq t d then some v else none | none=>none,fb:=λ_=>none }
def dE.new(d:Nat)(ts:List Nat)(z:List Value):dE:=
 { fe:=λt=>bif Nat.beq t d then some (some (.int .i64 0))else bif ts.elem t then some none else none,fb:=λb=>bif Nat.beq b d then some z else none }
def aL.ext'{σ σ':aL}(f:∀t,σ.env t=σ'.env t)(g:∀d,σ.box d=σ'.box d)(i:σ.bN=σ'.bN):σ=σ':=by obtain⟨e,b,d⟩:=σ;obtain⟨c,a,h⟩:=σ';have:e=c:=funext f;have:b=a:=funext g;simp_all
theorem dE.dU(σ:aL)(dst:Option Nat)(v:Value):(dE.set dst (some v)).app σ=σ.set dst v:=by
 cases dst with
 | none=>rfl
 | some d=>
  refine aL.ext' (λt=>?_) (λ_=>rfl) rfl;simp only[dE.app,dE.set,aL.set];cases Nat.beq t d<;>rfl
theorem dE.dV(σ:aL)(dst:Option Nat):(dE.set dst (some undef)).app σ=σ.dR dst:=by
 cases dst with
 | none=>rfl
 | some d=>
  refine aL.ext' (λt=>?_) (λ_=>rfl) rfl;simp only[dE.app,dE.set,aL.dR];cases Nat.beq t d<;>rfl
theorem dE.lR(σ:aL)(d:Nat)(ts:List Nat)(z:List Value):(dE.new d ts z).app σ=((σ.drop ts).set (some d) (.int .i64 0)).put d z:=by
 refine aL.ext' (λt=>?_) (λb=>?_) rfl
 ·simp only[dE.app,dE.new,aL.set,aL.drop,aL.put];cases Nat.beq t d with
  | true=>rfl
  | false=>cases ts.elem t<;>rfl
 simp only[dE.app,dE.new,aL.set,aL.drop,aL.put];cases Nat.beq b d<;>rfl
def dE.eA(u v:dE):Prop:=(∀t,u.fe t=none\/v.fe t=none)/\∀d,u.fb d=none\/v.fb d=none
def dE.comm{u v:dE}(h:u.eA v)(σ:aL):u.app (v.app σ)=v.app (u.app σ):=by
 refine aL.ext' (λt=>?_) (λd=>?_) rfl
 ·simp only[dE.app];rcases h.1 t with e | e<;>simp[e]
 simp only[dE.app];rcases h.2 d with e | e<;>rw[e]<;>cases u.fb d<;>cases v.fb d<;>simp_all
def YI:Operand->List Nat
 | .tmp t=>[t]
 | _=>[]
def aR.rt:aR->List Nat
 | .cV x | .not x | .ext x _ | .iU _ _ x | .aU _ x | .ld _ x | .len x | .aS _ _ x=>YI x
 | .pick c a b=>YI c++YI a++YI b
 | .bC _ x y | .bX _ x y=>YI x++YI y
 | .aO ..=>[]
 | .aV _ t=>[t]
 | .dA _ _ t i=>t :: YI i
 | .cY _ _ t=>[t]
 | .kE _ _ t x=>t :: YI x
 | .call _ args=>args.flatMap YI
 | .build _ e=>e.flatMap λp=>YI p.2.2
 | .aX _ _ _ e=>e.flatMap λp=>YI p.2.2
 | .raw op _=>op.operands.toList.flatMap YI
 | .eQ op _=>op.operands.toList.flatMap YI
 | .bT op _=>op.operands.toList.flatMap YI
def aR.rb:aR->List Nat
 | .cY d _ _=>[d]
 | .kE d _ _ _=>[d]
 | _=>[]
def aR.qI:aR->Bool
 | .ld ..=>true
 | _=>false
def NI.rt(i:NI):List Nat:=(match i.g with | some (t,_)=>[t] | none=>[])++i.op.rt
def NI.wt(i:NI):List Nat:=i.dst.toList++match i.op with | .aO d ts _ | .aS d ts _=>d :: ts | _=>[]
def NI.wb(i:NI):List Nat:=match i.op with | .aO d _ _ | .aS d _ _ | .kE d _ _ _=>[d] | _=>[]
def aR.gO:aR->Nat
 | .call .. | .aX .. | .raw .. | .eQ ..=>1
 | .kE ..=>2
 | _=>0
def YF(ts bs:List Nat)(σ σ':aL):Prop:=(∀t∈ts,σ.env t=σ'.env t)/\∀d∈bs,σ.box d=σ'.box d
theorem YF.get{σ σ':aL}(h:YF ts bs σ σ')(a:∀t∈YI x,t∈ts):σ.get x=σ'.get x:=by
 cases x with
 | tmp t=>exact h.1 t (a t (by simp[YI]))
 | _=>rfl
def YF.dM{σ σ':aL}(h:YF ts bs σ σ'):∀{xs:List Operand},(∀t∈xs.flatMap YI,t∈ts)->σ.dM xs=σ'.dM xs
 | [],_=>rfl
 | x :: xs,b=>by simp only[aL.dM];rw[h.get (λt a=>b t (by simp[a])),h.dM (xs:=xs) (λt a=>b t (by rw[qAJ];simp only[qAi];exact .inr a))]
def YF.buildV{σ σ':aL}(h:YF ts bs σ σ'):∀{ps:List (Nat×Nat×Operand)} {z:List Value},(∀t∈ps.flatMap (λp=>YI p.2.2),t∈ts)->Go.LL.buildV σ ps z=Go.LL.buildV σ' ps z
 | [],_,_=>rfl
 | (off,c,x) :: ps,z,b=>by
  simp only[Go.LL.buildV];rw[h.get (x:=x) (λt a=>b t (by simp[a]))];cases σ'.get x with
  | none=>rfl
  | some v=>simp only;rw[h.buildV (ps:=ps) (λt a=>b t (by rw[qAJ];simp only[qAi];exact .inr a))]
def NI.w(P:aY)(i:NI)(K:aL->Hp->Prop)(σ:aL)(H:Hp):Prop:=
 match i.g with
 | none=>i.op.w P i.dst K σ H
 | some (t,a)=>∃v,σ.env t=some v/\(v=.bool a->i.op.w P i.dst K σ H)/\(v≠.bool a->K (σ.dR i.dst) H)
def sA(P:aY)(i:NI):Prop:=∀(K:aL->Hp->Prop) σ H,i.w P K σ H->∃u:dE,K (u.app σ) H/\(∀t,u.fe t≠none->t∈i.wt)/\(∀d,u.fb d≠none->d∈i.wb) /\
 ∀(a:aL->Hp->Prop) σ' H',YF i.rt i.op.rb σ σ'->Ua P.toPQ i.op.qI H H'->a (u.app σ') H'->i.w P a σ' H'
def WN(P:aY)(i:NI):Prop:=∀(K:aL->Hp->Prop) σ H,i.w P K σ H->∀(b:aL->Hp->Prop) σ',YF i.rt i.op.rb σ σ'->(∀u:dE,(∀t,u.fe t≠none->t∈i.wt)->(∀d,u.fb d=none)->∀a,K (u.app σ) a->b (u.app σ') a)->i.w P b σ' H
theorem Ux{dst:Option Nat}{v:Option Value}{b:List Nat}(h:∀d,dst=some d->d∈b):∀t,(dE.set dst v).fe t≠none->t∈b:=by
 intro t a;cases dst with
 | none=>exact absurd rfl a
 | some d=>
  simp only[dE.set]at a;cases hb:Nat.beq t d with
  | false=>rw[hb]at a;exact absurd rfl a
  | true=>rw[qAV hb];exact h d rfl
def Ou(i:NI):∀d,i.dst=some d->d∈i.wt:=by intro d a;simp[NI.wt,a]
def ZvE{P:aY}{i:NI}{val:aL->Hp->Option Value}(A:∀K σ H,i.op.w P i.dst K σ H↔∃v,val σ H=some v/\K (σ.set i.dst v) H)
  (B:∀σ σ' H a v,YF i.rt i.op.rb σ σ'->Ua P.toPQ i.op.qI H a->val σ H=some v->val σ' a=some v):sA P i:=by
 intro K σ H h;unfold NI.w at h;have z:i.op.w P i.dst K σ H->∃v,K ((dE.set i.dst (some v)).app σ) H/\∀(k:aL->Hp->Prop) σ' a,YF i.rt i.op.rb σ σ'->Ua P.toPQ i.op.qI H a->k ((dE.set i.dst (some v)).app σ') a->i.op.w P i.dst k σ' a:=by intro h;obtain⟨v,u,y⟩:=(A _ _ _).1 h;refine⟨v,by rw[dE.dU];exact y,λk σ' a c q j=>(A _ _ _).2 ⟨v,B _ _ _ _ _ c q u,?_⟩⟩;rw[dE.dU]at j;exact j
 have m:∀v:Option Value,∀d,(dE.set i.dst v).fb d≠none->d∈i.wb:=λv d h=>absurd rfl h;cases hg:i.g with
 | none=>
  rw[hg]at h;obtain⟨v,u,y⟩:=z h;refine⟨_,u,Ux (Ou i),m _,λk σ' a c q j=>?_⟩;unfold NI.w;rw[hg];exact y k σ' a c q j
 | some p=>
  obtain⟨t,D⟩:=p;rw[hg]at h;obtain⟨b,hb,u,y⟩:=h;have F:∀σ',YF i.rt i.op.rb σ σ'->σ'.env t=some b:=λσ' c=>by rw[<-c.1 t (by simp[NI.rt,hg])];exact hb
  by_cases f:b=.bool D
  ·obtain⟨v,I,J⟩:=z (u f);refine⟨_,I,Ux (Ou i),m _,λk σ' a c q j=>?_⟩;unfold NI.w;rw[hg];exact⟨b,F σ' c,λ_=>J k σ' a c q j,λL=>absurd f L⟩
  refine⟨dE.set i.dst (some undef),by rw[dE.dV];exact y f,Ux (Ou i),m _,λk σ' a c q j=>?_⟩;unfold NI.w;rw[hg];rw[dE.dV]at j;exact⟨b,F σ' c,λe=>absurd e f,λ_=>j⟩
def wU(o:Obj)(off:Nat):Nat->Option (List Value)
 | 0=>some []
 | n+1=>match Obj.fT o off,wU o (off+1) n with
  | some v,some a=>some (v :: a)
  | _,_=>none
def FD{o:Obj}:∀{n off:Nat} {a:List Value},wU o off n=some a↔a.length=n/\∀j,j<n->Obj.fT o (off+j)=a[j]?
 | 0,off,a=>by
  simp only[wU,aT,Nat.not_lt_zero,false_implies,qBw,qBP];constructor
  ·rintro rfl;rfl
  exact λh=>(qAo h).symm
 | n+1,off,a=>by
  simp only[wU];constructor
  ·intro h;split at h
   ·rename_i v f b c;simp only[aT]at h;subst h;obtain⟨k,m⟩:=FD.1 c;refine⟨by simp[k],λj p=>?_⟩;cases j with
    | zero=>simpa using b
    | succ j=>
     have:=m j O;rw[qAW,<-this];congr 1;omega
   simp at h
  rintro⟨b,c⟩;cases a with
  | nil=>simp at b
  | cons v f=>
   have g:Obj.fT o off=some v:=by simpa using c 0 O
   have i:wU o (off+1) n=some f:=FD.2 ⟨by simpa using b,λj p=>by have:=c (j+1) O;rw[qAW]at this;rw[<-this];congr 1;omega⟩;simp[g,i]
def aR.val(st:Bool)(op:aR)(σ:aL)(H:Hp):Option Value:=
 match op with
 | .cV x=>σ.get x
 | .pick c a b=>match σ.get c with | some (.bool t)=>σ.get (bif t then a else b) | _=>none
 | .bC op x y=>match σ.get x,σ.get y with
  | some (.int k m),some (.int g n)=>if k=g then rB op k m n else none
  | _,_=>none
 | .not x=>match σ.get x with | some (.bool b)=>some (.bool !b) | _=>none
 | .ext x i=>match σ.get x with | some (.tuple p)=>p[i]? | _=>none
 | .iU off n x=>match σ.get x with
  | some (.agg e)=>match n with | none=>e[off]? | some n=>some (.agg (e.extract off (off+n)))
  | _=>none
 | .aU off x=>match σ.get x with | some (.pointer (some a))=>some (.pointer (some (a.add off))) | _=>none
 | .bX f x i=>match σ.get x,σ.get i with
  | some (.slice (some a) ln _),some (.int _ n)=>if 0<=n/\n<ln then some (.pointer (some (a.add (n.toNat * f))))else none
  | _,_=>none
 | .ld n x=>if st=true then none else match σ.get x with
  | some (.pointer (some a))=>if a.spot=none then
    match H a.block with
    | some (o,_)=>match n with
     | none=>Obj.fT o a.off
     | some n=>(wU o a.off n).map λe=>.agg e.toArray
    | none=>none
   else none
  | _=>none
 | .len x=>match σ.get x with | some (.slice _ n _)=>some (.int .i64 (n:Nat)) | _=>none
 | .aV off t=>match σ.env t with | some (.int .i64 (.ofNat n))=>some (.int .i64 ((n+off:Nat):Int)) | _=>none
 | .dA f ln t i=>match σ.env t,σ.get i with
  | some (.int .i64 (.ofNat n)),some (.int _ j)=>if 0<=j/\j<ln then some (.int .i64 ((n+j.toNat * f:Nat):Int))else none
  | _,_=>none
 | .cY d n t=>if st=true then none else match σ.env t,σ.box d with
  | some (.int .i64 (.ofNat off)),some e=>match n with
   | none=>e[off]?
   | some n=>if off+n<=e.length then some (.agg ((e.drop off).take n).toArray)else none
  | _,_=>none
 | .build z h=>(buildV σ h z).map λe=>.agg e.toArray
 | _=>none
def aR.iB:aR->Bool
 | .cV _ | .pick .. | .bC .. | .not _ | .ext .. | .iU .. | .aU .. | .bX .. | .ld .. | .len _ | .aV .. | .dA .. | .cY .. | .build ..=>true
 | _=>false
def aR.oA{P:aY}{op:aR}(F:op.iB=true)(dst:Option Nat)(K:aL->Hp->Prop)(σ:aL)(H:Hp):op.w P dst K σ H↔∃v,op.val (P.still H.gh) σ H=some v/\K (σ.set dst v) H:=by
 cases op<;>simp only[aR.iB,dO]at F<;>simp only[aR.w,aR.val]
 case pick c a b=>
  constructor
  ·rintro⟨t,v,f,g,h⟩;exact⟨v,by simp only[f];exact g,h⟩
  ·rintro⟨v,f,g⟩;split at f;exact⟨_,v,‹_›,f,g⟩;simp at f
 case bC op x y=>
  constructor
  ·rintro⟨k,p,q,v,f,g,h,u⟩;exact⟨v,by simp[f,g,h],u⟩
  ·rintro⟨v,f,g⟩;split at f
   ·split at f
    ·rename_i e;subst e;exact⟨_,_,_,v,‹_›,‹_›,f,g⟩
    simp at f
   simp at f
 case not x=>
  constructor
  ·rintro⟨b,f,g⟩;exact⟨_,by simp[f],g⟩
  ·rintro⟨v,f,g⟩;split at f;simp only[aT]at f;subst f;exact⟨_,‹_›,g⟩;simp at f
 case ext x i=>
  constructor
  ·rintro⟨G,v,f,g,h⟩;exact⟨v,by simp[f,g],h⟩
  ·rintro⟨v,f,g⟩;split at f;exact⟨_,v,‹_›,f,g⟩;simp at f
 case iU off n x=>
  constructor
  ·rintro⟨B,f,g⟩;cases n with
   | none=>obtain⟨v,h,u⟩:=g;exact⟨v,by simp[f,h],u⟩
   | some n=>exact⟨_,by simp[f],g⟩
  ·rintro⟨v,f,g⟩;split at f
   ·refine⟨_,‹_›,?_⟩;cases n with
    | none=>exact⟨v,f,g⟩
    | some n=>simp only[aT]at f;subst f;exact g
   simp at f
 case aU off x=>
  constructor
  ·rintro⟨b,f,g⟩;exact⟨_,by simp[f],g⟩
  ·rintro⟨v,f,g⟩;split at f;simp only[aT]at f;subst f;exact⟨_,‹_›,g⟩;simp at f
 case bX dQ x i=>
  constructor
  ·rintro⟨b,ln,cap,k,n,f,g,h,u,A⟩;exact⟨_,by simp[f,g,h,u],A⟩
  ·rintro⟨v,f,g⟩;split at f
   ·split at f
    ·rename_i C;simp only[aT]at f;subst f;exact⟨_,_,_,_,_,‹_›,‹_›,C.1,C.2,g⟩
    simp at f
   simp at f
 case ld n x=>
  constructor
  ·rintro⟨m,b,o,p,f,g,h,u⟩;cases n with
   | none=>obtain⟨v,A,D⟩:=u;exact⟨v,by simp[m,f,g,h,A],D⟩
   | some n=>obtain⟨B,A,D,E⟩:=u;exact⟨_,by simp[m,f,g,h,FD.2 ⟨A,D⟩],E⟩
  ·rintro⟨v,f,g⟩;split at f
   ·simp at f
   rename_i m;simp only[qDg]at m;refine⟨m,?_⟩;split at f
   ·split at f
    ·split at f
     ·refine⟨_,_,_,‹_›,‹_›,‹_›,?_⟩;cases n with
      | none=>exact⟨v,f,g⟩
      | some n=>
       simp only[qAk]at f;obtain⟨B,h,rfl⟩:=f;obtain⟨u,A⟩:=FD.1 h;exact⟨B,u,A,g⟩
     simp at f
    simp at f
   simp at f
 case len x=>
  constructor
  ·rintro⟨b,n,c,f,g⟩;exact⟨_,by simp[f],g⟩
  ·rintro⟨v,f,g⟩;split at f;simp only[aT]at f;subst f;exact⟨_,_,_,‹_›,g⟩;simp at f
 case aV off t=>
  constructor
  ·rintro⟨n,f,g⟩;exact⟨_,by rw[f],g⟩
  ·rintro⟨v,f,g⟩;split at f;simp only[aT]at f;subst f;exact⟨_,‹_›,g⟩;simp at f
 case dA dQ ln t i=>
  constructor
  ·rintro⟨n,k,j,f,g,h,u,A⟩;refine⟨_,?_,A⟩;rw[f,g];show(if 0<=j/\j<ln then _ else _)=_;rw[BY ⟨h,u⟩]
  ·rintro⟨v,f,g⟩;split at f
   ·split at f
    ·rename_i C;simp only[aT]at f;subst f;exact⟨_,_,_,‹_›,‹_›,C.1,C.2,g⟩
    simp at f
   simp at f
 case cY d n t=>
  constructor
  ·rintro⟨m,off,B,f,g,h⟩;rw[m,f,g];cases n with
   | none=>obtain⟨v,u,A⟩:=h;exact⟨v,u,A⟩
   | some n=>obtain⟨u,A⟩:=h;exact⟨_,by show(if off+n<=B.length then _ else _)=_;rw[BY u],A⟩
  ·rintro⟨v,f,g⟩;split at f
   ·simp at f
   rename_i m;simp only[qDg]at m;refine⟨m,?_⟩;split at f
   ·refine⟨_,_,‹_›,‹_›,?_⟩;cases n with
    | none=>exact⟨v,f,g⟩
    | some n=>
     simp only at f;split at f
     ·simp only[aT]at f;subst f;exact⟨‹_›,g⟩
     simp at f
   simp at f
 case build z ps=>
  constructor
  ·rintro⟨B,f,g⟩;exact⟨_,by simp[f],g⟩
  ·rintro⟨v,f,g⟩;simp only[qAk]at f;obtain⟨B,h,rfl⟩:=f;exact⟨B,h,g⟩
def aR.lZ{op:aR}(p:op.iB=true){σ σ':aL}{H m:Hp}{v:Value}(e:∀t∈op.rt,t∈ts)(f:YF ts op.rb σ σ')(j:Ua P op.qI H m){st:Bool}(h:op.val st σ H=some v):op.val st σ' m=some v:=by
 cases op<;>simp only[aR.iB,dO]at p<;>simp only[aR.val]at h ⊢<;>simp only[aR.rt,qAi,DO]at e
 case cV x=>rw[<-f.get e];exact h
 case pick c a b=>
  rw[<-f.get (x:=c) λt g=>e t (.inl (.inl g))]
  split at h
  ·rename_i t g;have:σ'.get (bif t then a else b)=σ.get (bif t then a else b):=by
    cases t
    ·exact(f.get (x:=b) λt g=>e t (.inr g)).symm
    exact(f.get (x:=a) λt g=>e t (.inl (.inr g))).symm
   rw[this];exact h
  ·simp at h
 case bC op x y=>rw[<-f.get (x:=x) λt g=>e t (.inl g),<-f.get (x:=y) λt g=>e t (.inr g)];exact h
 case not x=>rw[<-f.get e];exact h
 case ext x i=>rw[<-f.get e];exact h
 case iU off n x=>rw[<-f.get e];exact h
 case aU off x=>rw[<-f.get e];exact h
 case bX dQ x y=>rw[<-f.get (x:=x) λt g=>e t (.inl g),<-f.get (x:=y) λt g=>e t (.inr g)];exact h
 case ld n x=>
  rw[<-f.get e]
  cases st
  case true=>simp at h
  simp only[dO,qAf]at h ⊢
  split at h
  ·rename_i a q;split at h
   ·rename_i k;rw[BY k];cases hb:H a.block with
    | none=>rw[hb]at h;simp at h
    | some x=>rw[j.mem rfl _ _ hb];rw[hb]at h;exact h
   simp at h
  ·simp at h
 case len x=>rw[<-f.get e];exact h
 case aV off t=>rw[<-f.1 t (e t (by simp))];exact h
 case dA dQ ln t i=>rw[<-f.1 t (e t (.inl rfl)),<-f.get (x:=i) λs j=>e s (.inr j)];exact h
 case cY d n t=>rw[<-f.1 t (e t (by simp)),<-f.2 d (by simp[aR.rb])];exact h
 case build z ps=>rw[<-f.buildV (ps:=ps) e];exact h
def ZvF{P:aY}{i:NI}(a:i.op.iB=true):sA P i:=
 ZvE (val:=λσ H=>i.op.val (P.still H.gh) σ H) (λK σ H=>aR.oA a i.dst K σ H) (λσ σ' H f v c b h=>by simp only[b.gh];exact aR.lZ a (λt e=>by simp[NI.rt,e]) c b h)
def XG{P:aY}{i:NI}(m:i.g=none)(f:∀t,t=d\/t∈ts->t∈i.wt)(k:d∈i.wb){val:aL->Bool->Option (List Value)}
  (a:∀K σ H,i.op.w P i.dst K σ H↔∃z,val σ (P.still H.gh)=some z/\K (((σ.drop ts).set (some d) (.int .i64 0)).put d z) H) (c:∀σ σ' z g,YF i.rt i.op.rb σ σ'->val σ g=some z->val σ' g=some z):sA P i:=by
 intro K σ H h;unfold NI.w at h;rw[m]at h;obtain⟨z,q,u⟩:=(a _ _ _).1 h;refine⟨dE.new d ts z,by rw[dE.lR];exact u,λt j=>?_,λb hb=>?_,λB σ' A v y p=>?_⟩
 ·simp only[dE.new]at j;cases e:Nat.beq t d with
  | true=>exact f t (.inl (qAV e))
  | false=>
   rw[e]at j;cases e2:ts.elem t with
   | true=>exact f t (.inr (by simpa using e2))
   | false=>rw[e2]at j;exact absurd rfl j
 ·simp only[dE.new]at hb;cases e:Nat.beq b d with
  | true=>rw[qAV e];exact k
  | false=>rw[e]at hb;exact absurd rfl hb
 unfold NI.w;rw[m];rw[dE.lR]at p;exact(a _ _ _).2 ⟨z,by rw[y.gh];exact c _ _ _ _ v q,p⟩
def ZvH{P:aY}{i:NI}{z:List Value}(b:i.g=none)(a:i.op=.aO d ts z):sA P i:=
 XG (val:=λ_ g=>if g=false then some z else none) b (λt e=>by simp only[NI.wt,a,qAi,DO];exact .inr e) (by simp[NI.wb,a]) (λK σ H=>by rw[a];by_cases c:P.still H.gh=false<;>simp[aR.w,c]) (λ_ _ _ _ _ h=>h)
def ZvJ{P:aY}{i:NI}(m:i.g=none)(b:i.op=.aS d ts x):sA P i:=
 XG (val:=λσ g=>if g=false then(σ.get x).map λv=>v.cells.toList else none) m (λt f=>by simp only[NI.wt,b,qAi,DO];exact .inr f) (by simp[NI.wb,b])
  (λK σ H=>by
   rw[b];simp only[aR.w];constructor
   ·rintro⟨e,v,a,c⟩;exact⟨_,by simp[a,e],c⟩
   rintro⟨z,a,c⟩;split at a
   ·rename_i e;simp only[qAk]at a;obtain⟨v,j,rfl⟩:=a;exact⟨e,v,j,c⟩
   simp at a)
  (λσ σ' z g k h=>by rw[<-k.get (x:=x) λt f=>by simp[NI.rt,b,aR.rt,f]];exact h)
end
section
variable{ts bs done l:List Nat}{op:Op}{ty:TypeId}{n:Nat}{pre:Nat->List Nat}
def YF.app{σ:aL}{u:dE}(a:∀t∈ts,u.fe t=none)(b:∀d∈bs,u.fb d=none):YF ts bs σ (u.app σ):=
 ⟨λt e=>by simp[dE.app,a t e],λd c=>by simp[dE.app,b d c]⟩
def YF.KB{σ:aL}{u:dE}(a:∀t∈ts,u.fe t=none)(b:∀d∈bs,u.fb d=none):YF ts bs (u.app σ) σ:=
 ⟨λt e=>by simp[dE.app,a t e],λd c=>by simp[dE.app,b d c]⟩
def ZwB{P:aY}{i:NI}(f:∀(K j:aL->Hp->Prop) σ σ' H,i.op.w P i.dst K σ H->YF i.rt i.op.rb σ σ'->(∀v c,K (σ.set i.dst v) c->j (σ'.set i.dst v) c)->i.op.w P i.dst j σ' H):WN P i:=by
 intro K σ H h j σ' k q;unfold NI.w at h ⊢;have a:∀v c,K (σ.set i.dst v) c->j (σ'.set i.dst v) c:=λv c A=>by have:=q (dE.set i.dst (some v)) (Ux (Ou i)) (λ_=>rfl) c;rw[dE.dU,dE.dU]at this;exact this A
 cases m:i.g with
 | none=>
  rw[m]at h;exact f _ _ _ _ _ h k a
 | some p=>
  obtain⟨t,u⟩:=p;rw[m]at h;obtain⟨b,hb,y,z⟩:=h;refine⟨b,by rw[<-k.1 t (by simp[NI.rt,m])];exact hb,λe=>f _ _ _ _ _ (y e) k a,λe=>?_⟩;have:=q (dE.set i.dst (some undef)) (Ux (Ou i)) (λ_=>rfl) H;rw[dE.dV,dE.dV]at this;exact this (z e)
def Mx{σ σ':aL}(h:YF ts bs σ σ')(g:∀f b,op≠.select f b)(j:∀t∈op.operands.toList.flatMap YI,t∈ts) :
  (op.operands.all λx=>(σ.get x).isSome)=(op.operands.all λx=>(σ'.get x).isSome)/\execOp (λx=>(σ.get x).getD undef) (aN op ty)=execOp (λx=>(σ'.get x).getD undef) (aN op ty):=by
 have c:∀x∈op.operands,σ.get x=σ'.get x:=λx a=>h.get λt i=>j t (by simp only[qCg];exact⟨x,qAu.2 a,i⟩);refine⟨?_,Ag (o:=aN op ty) (λx a=>by rw[c x a]) g⟩;rw[qCb,qAd,qAd];constructor<;>intro e x a
 ·rw[<-c x a];exact e x a
 rw[c x a];exact e x a
def BV:Op->Bool
 | .select ..=>true
 | _=>false
def aR.nS:aR->Bool
 | .raw op _=>!BV op && !BU op
 | .eQ ..=>false
 | _=>true
def X9{P:aY}{i:NI}(D:i.op.gO=1)(p:i.op.nS=true):WN P i:=by
 refine ZwB λK O σ σ' H h y a=>?_;have c:∀t∈i.op.rt,t∈i.rt:=λt M=>by simp[NI.rt,M]
 cases I:i.op<;>rw[I]at D h c p y<;>first | (exfalso;simp[aR.gO]at D;done) | skip
 all_goals simp only[aR.w]at h ⊢
 case call f args=>
  obtain⟨N,A,B⟩:=h
  exact⟨N,by rw[<-y.dM c];exact A,B.mono λv C j=>a v C j⟩
 case aX e ln z ps=>
  obtain⟨L,u,A,B⟩:=h
  exact⟨L,u,by rw[<-y.buildV c];exact A,λr J=>a _ _ (B r J)⟩
 case eQ op ty=>simp[aR.nS]at p
 case raw op ty=>
  have q:∀u b,op≠.select u b:=by rintro u b rfl;simp[aR.nS,BV]at p
  have m:BU op=false:=by simp only[aR.nS,oR,qAK]at p;exact p.2
  obtain⟨E,F⟩:=Mx y (ty:=ty) q c
  refine⟨by rw[<-E];exact h.1,?_⟩
  rw[<-F]
  refine h.2.imp (Vv ?_) (Zp.mono · λv H j=>a _ _ j)
  rintro n g C (G | k)
  ·exact .inl G
  ·refine .inr ?_;cases n with
   | value v=>exact a _ _ k
   | skip=>exact a _ _ k
   | enter f args=>exact Za.mono k λv H j=>a _ _ j
   | round l f tmps aA Q=>exact U6.mono k λv H j=>a _ _ j
   | defer d=>exact absurd (m.symm.trans k.1) (by simp)
   | _=>exact k.elim
def ZvG{P:aY}{i:NI}(G:i.op=.bT op ty)(E:BV op=false):sA P i:=by
 intro K σ H h;unfold NI.w at h;have A:∀F b,op≠.select F b:=by rintro F b rfl;simp[BV]at E
 have B:∀t∈i.op.rt,t∈i.rt:=λt Q=>by simp[NI.rt,Q]
 have y:i.op.w P i.dst K σ H->∃v,K ((dE.set i.dst (some v)).app σ) H/\∀(k:aL->Hp->Prop) σ' c,YF i.rt i.op.rb σ σ'->Ua P.toPQ i.op.qI H c->k ((dE.set i.dst (some v)).app σ') c->i.op.w P i.dst k σ' c:=by intro h;rw[G]at h B;obtain⟨q,v,u,D⟩:=h;refine⟨v,by rw[dE.dU];exact D,λk σ' c a z j=>?_⟩;rw[G]at a ⊢;obtain⟨L,M⟩:=Mx a (ty:=ty) A B;refine⟨by rw[<-L];exact q,v,by rw[<-M];exact u,?_⟩;rw[dE.dU]at j;exact j
 have m:∀v:Option Value,∀d,(dE.set i.dst v).fb d≠none->d∈i.wb:=λv d h=>absurd rfl h;cases hg:i.g with
 | none=>
  rw[hg]at h;obtain⟨v,q,u⟩:=y h;refine⟨_,q,Ux (Ou i),m _,λk σ' c a z j=>?_⟩;unfold NI.w;rw[hg];exact u k σ' c a z j
 | some p=>
  obtain⟨t,C⟩:=p;rw[hg]at h;obtain⟨b,hb,q,u⟩:=h;have I:∀σ',YF i.rt i.op.rb σ σ'->σ'.env t=some b:=λσ' a=>by rw[<-a.1 t (by simp[NI.rt,hg])];exact hb
  by_cases f:b=.bool C
  ·obtain⟨v,D,N⟩:=y (q f);refine⟨_,D,Ux (Ou i),m _,λk σ' c a z j=>?_⟩;unfold NI.w;rw[hg];exact⟨b,I σ' a,λ_=>N k σ' c a z j,λO=>absurd f O⟩
  refine⟨dE.set i.dst (some undef),by rw[dE.dV];exact u f,Ux (Ou i),m _,λk σ' c a z j=>?_⟩;unfold NI.w;rw[hg];rw[dE.dV]at j;exact⟨b,I σ' a,λe=>absurd e f,λ_=>j⟩
theorem aR.eF{P:aY}{op:aR}{dst:Option Nat}{K j:aL->Hp->Prop}(c:∀σ H,K σ H->j σ H){σ:aL}{H:Hp}(h:op.w P dst K σ H):op.w P dst j σ H:=by
 cases op with
 | call f args=>obtain⟨E,a,b⟩:=h;exact⟨E,a,b.mono λv u i=>c _ _ i⟩
 | aX e ln z F=>obtain⟨p,k,a,b⟩:=h;exact⟨p,k,a,λr D=>c _ _ (b r D)⟩
 | raw op ty=>
  exact⟨h.1,h.2.imp (Vv λn g u h=>h.imp id (pS.mono c)) (Zp.mono · λv H i=>c _ _ i)⟩
 | eQ op ty=>exact⟨h.1,h.2.mono λv H i=>c _ _ i⟩
 | bT op ty=>obtain⟨a,v,b,m⟩:=h;exact⟨a,v,b,c _ _ m⟩
 | kE d n t x=>obtain⟨q,off,k,v,a,b,m,y,A,B,C⟩:=h;exact⟨q,off,k,v,a,b,m,y,A,B,c _ _ C⟩
 | aO d ts z=>exact⟨h.1,c _ _ h.2⟩
 | aS d ts x=>obtain⟨p,v,a,b⟩:=h;exact⟨p,v,a,c _ _ b⟩
 | _=>exact(aR.oA rfl dst j σ H).2 (by obtain⟨v,a,b⟩:=(aR.oA rfl dst K σ H).1 h;exact⟨v,a,c _ _ b⟩)
def ZvI{P:aY}{i:NI}{d t:Nat}{x:Operand}(m:i.g=none)(c:i.op=.kE d n t x):sA P i:=by
 intro K σ H h;unfold NI.w at h;rw[m]at h;simp only[c,aR.w]at h;obtain⟨f,off,a,v,q,y,z,A,B,C,D⟩:=h;let u:dE:={ fe:=λ_=>none,fb:=λb=>bif Nat.beq b d then some (a.take off++v.cells.toList++a.drop (off+n))else none }
 have p:∀σ:aL,u.app σ=σ.put d (a.take off++v.cells.toList++a.drop (off+n)):=by intro σ;refine aL.ext' (λ_=>rfl) (λb=>?_) rfl;simp only[dE.app,aL.put,u];cases Nat.beq b d<;>rfl
 refine⟨u,by rw[p];exact D,λt F=>absurd rfl F,λb hb=>?_,λI σ' G k j E=>?_⟩
 ·have:b=d:=by
   simp only[u]at hb;cases he:Nat.beq b d with
   | true=>exact qAV he
   | false=>rw[he]at hb;exact absurd rfl hb
  subst this;simp[NI.wb,c]
 unfold NI.w;rw[m];simp only[c,aR.w];have e:∀s,s=t\/s∈YI x->s∈i.rt:=λs f=>by simp only[NI.rt,c,aR.rt,qAi,DO];exact .inr f
 refine⟨by rw[j.gh];exact f,off,a,v,by rw[<-k.1 t (e t (.inl rfl))];exact q,by rw[<-k.2 d (by simp[c,aR.rb])];exact y,by rw[<-k.get (x:=x) λs f=>e s (.inr f)];exact z,A,B,C,?_⟩;rw[<-p];exact E
variable{P:aY}
def Go(P:aY)(X:Nat->NI)(b:Nat->Option Bool)(Q:aL->Hp->Prop):List Nat->aL->Hp->Prop
 | [],σ,H=>Q σ H
 | i :: l,σ,H=>(X i).w P (λσ' a=>nL P.toPQ (b i) H a/\Go P X b Q l σ' a) σ H
def ES(x y:NI)(a:Option Bool):Bool:=
 x.op.gO == 0 && (y.op.gO != 1 || GB x.op.qI a) &&
 (x.wt.all λt=>!(y.rt.contains t) && !(y.wt.contains t)) && (x.wb.all λd=>!(y.op.rb.contains d) && !(y.wb.contains d)) &&
 (y.wt.all λt=>!(x.rt.contains t)) && (y.wb.all λd=>!(x.op.rb.contains d))
def BS(x:NI):Bool:=x.op.iB || (match x.g,x.op with | none,.aO .. | none,.aS .. | none,.kE ..=>true | _,.bT op _=>!BV op | _,_=>false)
def XF{i:NI}(h:BS i=true):sA P i:=by
 unfold BS at h;cases hv:i.op.iB with
 | true=>exact ZvF hv
 | false=>
  rw[hv]at h;simp only[Bool.false_or]at h;split at h
  ·rename_i d ts z b a;exact ZvH b a
  ·rename_i d ts x b a;exact ZvJ b a
  ·rename_i d n t x b a;exact ZvI b a
  ·rename_i op ty a;exact ZvG a (by simpa using h)
  simp at h
def ZzC{x y:NI}{a:Option Bool}(h:ES x y a=true):True/\(y.op.gO≠1\/GB x.op.qI a=true)/\(∀t∈x.wt,t ∉ y.rt/\t ∉ y.wt)/\(∀d∈x.wb,d ∉ y.op.rb/\d ∉ y.wb)/\(∀t∈y.wt,t ∉ x.rt)/\∀d∈y.wb,d ∉ x.op.rb:=by unfold ES at h;simp only[oR,qAp,qAK,qCk,qBf,qBm,beq_iff_eq,bne_iff_ne,ne_eq]at h;obtain⟨⟨⟨⟨⟨_,b⟩,c⟩,e⟩,f⟩,g⟩:=h;exact⟨trivial,b,c,e,f,g⟩
def MA{X:Nat->NI}{O:Nat->Option Bool}{Q:aL->Hp->Prop}{c:Nat}(I:True){l2:List Nat}{u:dE}
  (B:∀t,u.fe t≠none->t∈(X c).wt) (A:∀d,u.fb d≠none->d∈(X c).wb) :
  ∀(D:List Nat) (σ:aL) (H:Hp),(∀x∈D,ES (X c) (X x) (O x)=true/\(BS (X x)=true\/((X x).op.gO=1/\(X x).op.nS=true))) ->
   (∀(C:aL->Hp->Prop) σ' q,YF (X c).rt (X c).op.rb σ σ'->Ua P.toPQ (X c).op.qI H q->C (u.app σ') q->(X c).w P C σ' q) ->
   Go P X O Q (D++l2) (u.app σ) H->Go P X O Q (D++c :: l2) σ H
 | [],σ,H,_,L,h=>by simp only[qAn,Go];exact L _ σ H ⟨λ_ _=>rfl,λ_ _=>rfl⟩ (.refl _ H) ⟨.refl _ H,h⟩
 | x :: D,σ,H,W,L,h=>by
  obtain⟨R,z⟩:=W x (by simp)
  obtain⟨a1,a2,a3,a4,a5,a6⟩:=ZzC R
  have b:∀t,t ∉ (X c).wt->u.fe t=none:=λt i=>IF λg=>i (B t g)
  have f:∀d,d ∉ (X c).wb->u.fb d=none:=λd j=>IF λg=>j (A d g)
  have G:YF (X x).rt (X x).op.rb (u.app σ) σ:=YF.KB (λt i=>b t λk=>(a3 t k).1 i) (λd j=>f d λk=>(a4 d k).1 j)
  simp only[qBk,Go]at h ⊢
  rcases z with z | ⟨J,T⟩
  ·
   obtain⟨v,hv,m,p,V⟩:=XF (P:=P) z _ _ _ h
   have a:u.eA v:=by
    refine⟨λt=>?_,λd=>?_⟩
    ·by_cases k:t∈(X c).wt
     ·exact .inr (IF λg=>(a3 t k).2 (m t g))
     exact .inl (b t k)
    by_cases k:d∈(X c).wb
    ·exact .inr (IF λg=>(a4 d k).2 (p d g))
    exact .inl (f d k)
   refine V _ σ H G (.refl _ H) ⟨.refl _ H,?_⟩
   have E:=hv.2
   rw[<-dE.comm a]at E
   refine MA I B A D (v.app σ) H (λy Y=>W y (by simp[Y])) (λC σ' q F M S=>L C σ' q ?_ M S) E
   have e:YF (X c).rt (X c).op.rb σ (v.app σ):=YF.app (λt i=>IF λg=>a5 t (m t g) i) (λd j=>IF λg=>a6 d (p d g) j)
   exact⟨λt i=>(e.1 t i).trans (F.1 t i),λd j=>(e.2 d j).trans (F.2 d j)⟩
  have K:=a2.resolve_left (by rw[J];simp)
  refine X9 J T _ _ _ h _ _ G ?_
  rintro v m p q ⟨M,E⟩
  have a:u.eA v:=by
   refine⟨λt=>?_,λd=>.inr (p d)⟩;by_cases k:t∈(X c).wt
   ·exact .inr (IF λg=>(a3 t k).2 (m t g))
   exact .inl (b t k)
  refine⟨M,?_⟩
  rw[<-dE.comm a]at E
  refine MA I B A D (v.app σ) q (λy Y=>W y (by simp[Y])) (λC σ' N F U S=>L C σ' N ?_ ((ZtP K M).trans U) S) E
  have e:YF (X c).rt (X c).op.rb σ (v.app σ):=YF.app (λt i=>IF λg=>a5 t (m t g) i) (λd j=>p d)
  exact⟨λt i=>(e.1 t i).trans (F.1 t i),λd j=>(e.2 d j).trans (F.2 d j)⟩
inductive fY (n:Nat)(pre:Nat->List Nat):List Nat->List Nat->Prop
 | nil {done:List Nat} (h:∀i,i<n->i∈done):fY n pre done []
 | cons {done l:List Nat} {i:Nat} (hi:i<n) (hd:i ∉ done) (hp:∀p∈pre i,p∈done) (h:fY n pre (i :: done) l):fY n pre done (i :: l)
def fY.congr(h:fY n pre done l):∀{a},(∀i,i∈done↔i∈a)->fY n pre a l:=by
 induction h with
 | nil h=>exact λe=>.nil λi hi=>(e i).1 (h i hi)
 | cons hi b f _ ih=>exact λe=>.cons hi (λh=>b ((e _).2 h)) (λp c=>(e p).1 (f p c)) (ih λi=>by simp[e])
def fY.mem(h:fY n pre done l):∀i,i<n->i∈done\/i∈l:=by
 induction h with
 | nil h=>exact λi hi=>.inl (h i hi)
 | cons hi a b _ ih=>
  intro i hi;rcases ih i hi with h | h
  ·simp only[DO]at h;rcases h with rfl | h
   ·exact .inr (by simp)
   exact .inl h
  exact .inr (by simp[h])
def fY.fresh(h:fY n pre done l):∀i∈l,i<n/\i ∉ done:=by
 induction h with
 | nil h=>exact λi hi=>by simp at hi
 | cons hi b c _ ih=>
  intro i a;simp only[DO]at a;rcases a with rfl | a
  ·exact⟨hi,b⟩
  exact⟨(ih i a).1,λh=>(ih i a).2 (by simp[h])⟩
def fY.iX{n:Nat}{pre:Nat->List Nat}{c:Nat}{j:List Nat}(k:c<n):∀{a done:List Nat},fY n pre done (a++c :: j)->c ∉ a->fY n pre (c :: done) (a++j)
 | [],done,h,_=>by
  cases h with
  | cons hi f g h=>exact h
 | x :: a,done,h,e=>by
  cases h with
  | cons hi f g h=>
   refine .cons hi ?_ (λp b=>qAc _ (g p b)) ?_
   ·simp only[DO,not_or]at e ⊢;exact⟨qAm e.1,f⟩
   exact(fY.iX k h (λb=>e (by simp[b]))).congr λi=>by simp;constructor<;>(intro h;rcases h with h | h | h<;>simp[h])
end
variable{P:aY}{dst:Option Nat}{r:Nat}{o:Obj}
def pS.frame{op:Op}{K:aL->Hp->Prop}{σ:aL}{F:Hp}(e:BU op=false):∀{n:Next} {H:Hp},pS P op dst K σ n H->H.Comp F->pS P op dst (λσ c=>∃b,c=b.join F/\b.Comp F/\K σ b) σ n (H.join F):=by
 intro n H h a;cases n with
 | value v=>exact⟨_,rfl,a,h⟩
 | skip=>exact⟨_,rfl,a,h⟩
 | enter f args=>exact Za.frame h a
 | round l f tmps aA g=>exact U6.frame h a
 | defer d=>exact absurd (e.symm.trans h.1) (by simp)
 | _=>exact h.elim
def ZuU{H F:Hp}(h:F r=none):(H.join F).ins r o=(H.ins r o).join F:=by
 refine Hp.ext' (λb=>?_) rfl;simp only[Hp.aQ,Hp.dB];by_cases e:b=r
 ·subst e;simp
 simp[e]
def Hp.Comp.oU{H F:Hp}(f:H.Comp F)(h:F r=none):(H.ins r o).Comp F:=by
 refine⟨λb x y c a=>?_,f.gh⟩;by_cases e:b=r
 ·subst e;rw[h]at a;simp at a
 rw[Hp.aE _ _ e]at c;exact f b x y c a
theorem aR.gX{op:aR}{K:aL->Hp->Prop}{σ:aL}{H F:Hp}(b:op.gO=1)(a:op.nS=true)(B:F.gh=[])(j:H.Comp F)(h:op.w P dst K σ H) :
  op.w P dst (λσ' u=>∃i,u=i.join F/\i.Comp F/\K σ' i) σ (H.join F):=by
 have q:(H.join F).gh=H.gh:=by rw[Hp.bI,B,qAw]
 cases C:op<;>rw[C]at b h a<;>first | (exfalso;simp[aR.gO]at b;done) | skip
 all_goals simp only[aR.w]at h ⊢
 case call f args=>
  obtain⟨I,k,m⟩:=h
  exact⟨I,k,Za.frame m j⟩
 case aX e ln z ps=>
  obtain⟨E,A,k,m⟩:=h
  refine⟨by rw[q];exact E,A,k,λr D=>?_⟩
  obtain⟨G,y⟩:=Hp.cI.1 D
  exact⟨_,ZuU y,j.oU y,m r G⟩
 case eQ op ty=>simp[aR.nS]at a
 case raw op ty=>
  have c:BU op=false:=by simp only[aR.nS,oR,qAK]at a;exact a.2
  refine⟨h.1,h.2.imp (λh=>?_) λh=>h.frame j⟩
  refine Vv ?_ (G6 h j)
  rintro n g u ⟨i,rfl,p,t⟩
  exact t.imp id λt=>t.frame c p
def NI.gX{i:NI}{K:aL->Hp->Prop}{σ:aL}{H F:Hp}(a:i.op.gO=1)(c:i.op.nS=true)(j:F.gh=[])(g:H.Comp F)(h:i.w P K σ H) :
  i.w P (λσ' k=>∃f,k=f.join F/\f.Comp F/\K σ' f) σ (H.join F):=by
 unfold NI.w at h ⊢;split at h
 ·exact aR.gX a c j g h
 obtain⟨b,hb,m,p⟩:=h;exact⟨b,hb,λe=>aR.gX a c j g (m e),λe=>⟨H,rfl,g,p e⟩⟩
def O7(x:NI):Bool:=match x.g,x.op with | none,.aX ..=>true | _,_=>false
def OD(P:aY)(x:NI)(σ:aL)(H:Hp):Prop:=
 match x.op with
 | .aX _ _ z a=>P.still H.gh=false/\(buildV σ a z).isSome=true
 | _=>True
def Co{x:NI}(h:O7 x=true):x.g=none/\∃e ln z a,x.op=.aX e ln z a:=by
 unfold O7 at h;split at h
 ·rename_i e ln z a b c;exact⟨b,e,ln,z,a,c⟩
 simp at h
def yG(x c:NI):Bool:=O7 x && c.op.gO == 1 && c.op.nS && (x.wt.all λt=>!(c.rt.contains t) && !(c.wt.contains t)) && (c.wt.all λt=>!(x.rt.contains t))
def Ln{x c:NI}(h:yG x c=true):O7 x=true/\c.op.gO=1/\c.op.nS=true/\(∀t∈x.wt,t ∉ c.rt/\t ∉ c.wt)/\∀t∈c.wt,t ∉ x.rt:=by unfold yG at h;simp only[oR,qAp,qAK,qCk,qBf,beq_iff_eq]at h;obtain⟨⟨⟨⟨a,b⟩,e⟩,f⟩,g⟩:=h;exact⟨a,b,e,f,g⟩
def Ll{x:NI}{e:TypeId}{ln:Nat}{z:List Value}{b:List (Nat×Nat×Operand)}(c:x.g=none)(f:x.op=.aX e ln z b){K:aL->Hp->Prop}{σ:aL}{H:Hp} :
  x.w P K σ H↔P.still H.gh=false/\∃a,buildV σ b z=some a/\∀r,H r=none->K (σ.set x.dst (.slice (some ⟨r,0,none⟩) ln ln)) (H.ins r (.cells a.toArray e)):=by
 unfold NI.w;rw[c];simp only[f,aR.w]
def ZtV{x c:NI}{K:aL->Hp->Prop}{σ:aL}{H:Hp}(hb:yG x c=true)(D:OD P x σ H){R:Hp->Hp->Prop}(hR:∀H A r o,H r=none->A r=none->R H A->R (H.ins r o) (A.ins r o))
  (h:c.w P (λσ1 a=>R H a/\x.w P K σ1 a) σ H):x.w P (λσ1 a=>H.Sub a/\(∀y:NI,(∀t∈y.rt,t ∉ x.wt)->OD P y σ H->OD P y σ1 a)/\c.w P (λσ2 H2=>R a H2/\K σ2 H2) σ1 a) σ H:=by
 obtain⟨j,M,O,a1,a2⟩:=Ln hb
 obtain⟨hg,e,ln,z,ps,V⟩:=Co j
 have Xw:x.rt=ps.flatMap λp=>YI p.2.2:=by simp[NI.rt,hg,V,aR.rt]
 have G:∀d,x.dst=some d->d∈x.wt:=Ou x
 unfold OD at D
 rw[V]at D
 obtain⟨hs,hv⟩:=D
 obtain⟨g,N⟩:=qBT.1 hv
 rw[Ll hg V]
 refine⟨hs,g,N,λr W=>?_⟩
 have Q:H.Sub (H.ins r (.cells g.toArray e)):=⟨λb y T=>by rw[Hp.aE _ _ (by rintro rfl;rw[W]at T;simp at T)];exact T,rfl⟩
 refine⟨Q,λy T m=>?_,?_⟩
 ·unfold OD at m ⊢;split at m
  ·rename_i I ln2 z2 ps2 I5;refine⟨m.1,?_⟩;have C:YF y.rt [] σ (σ.set x.dst (.slice (some ⟨r,0,none⟩) ln ln)):=by rw[<-dE.dU];exact YF.app (λt k=>IF λj=>T t k (Ux G t j)) (λd U=>by simp at U)
   rw[<-C.buildV (λt k=>by simp only[NI.rt,I5,aR.rt,qAi];exact .inr k)];exact m.2
  trivial
 let F:Hp:=Hp.nil.ins r (.cells g.toArray e)
 have hF:H.Comp F:=⟨λb x y B h2=>by
  by_cases e:b=r
  ·subst e;rw[W]at B;simp at B
  rw[show F b=none from by show Hp.nil.ins r _ b=none;rw[Hp.aE _ _ e];rfl]at h2;simp at h2,.inr rfl⟩
 have i:∀a:Hp,a r=none->a.join F=a.ins r (.cells g.toArray e):=by
  intro a B;refine Hp.ext' (λb=>?_) (by rw[Hp.bI];exact qAw _);simp only[Hp.aQ];by_cases I:b=r
  ·subst I;rw[B];have Y:F b=some (.cells g.toArray e,true):=Hp.aD _ _ _;have Z:(a.ins b (.cells g.toArray e)) b=some (.cells g.toArray e,true):=Hp.aD _ _ _;simp only[Y,Z]
  have Y:F b=none:=(Hp.aE _ _ I).trans rfl;have Z:(a.ins r (.cells g.toArray e)) b=a b:=Hp.aE _ _ I;rw[Y,Z];cases a b<;>rfl
 have B:=NI.gX M O (F:=F) rfl hF h
 rw[i H W]at B
 have C:YF c.rt c.op.rb σ (σ.set x.dst (.slice (some ⟨r,0,none⟩) ln ln)):=by rw[<-dE.dU];exact YF.app (λt k=>IF λj=>(a1 t (Ux G t j)).1 k) (λd U=>rfl)
 refine X9 M O _ _ _ B _ _ C ?_
 rintro u S IR HF ⟨A,rfl,L,hR',hx⟩
 have E:A r=none:=by
  cases hh:A r with
  | none=>rfl
  | some y=>have:=(L r y (.cells g.toArray e,true) hh (Hp.aD _ _ _)).2;have I:=(L r y (.cells g.toArray e,true) hh (Hp.aD _ _ _)).1;rw[I]at this;simp at this
 rw[i A E]
 refine⟨hR _ _ _ _ W E hR',?_⟩
 obtain⟨_,dH,q,hx⟩:=(Ll hg V).1 hx
 have J:YF x.rt [] σ (u.app σ):=YF.app (λt k=>IF λj=>a2 t (S t j) k) (λd U=>by simp at U)
 have:buildV (u.app σ) ps z=some g:=by rw[<-J.buildV (λt k=>by rw[Xw];exact k)];exact N
 rw[this]at q
 obtain rfl:=iN q
 have v:=hx r E
 rw[<-dE.dU]at v ⊢
 have JO:u.eA (dE.set x.dst (some (.slice (some ⟨r,0,none⟩) ln ln))):=by
  refine⟨λt=>?_,λd=>.inl (IR d)⟩;by_cases hm:t∈x.wt
  ·exact .inl (IF λj=>(a1 t hm).2 (S t j))
  exact .inr (IF λj=>hm (Ux G t j))
 rw[dE.comm JO]
 exact v
def NI.eF{i:NI}{K c:aL->Hp->Prop}(a:∀σ H,K σ H->c σ H){σ:aL}{H:Hp}(h:i.w P K σ H):i.w P c σ H:=by
 unfold NI.w at h ⊢;split at h
 ·exact aR.eF a h
 obtain⟨b,hb,f,g⟩:=h;exact⟨b,hb,λe=>aR.eF a (f e),λe=>a _ _ (g e)⟩
def Lm{P:aY}{X:Nat->NI}{j:Nat->Option Bool}{Q:aL->Hp->Prop}{c:Nat}{p:List Nat}:∀(f:List Nat) (σ:aL) (H:Hp),(∀x∈f,yG (X x) (X c)=true)->(∀x∈f,∀y∈f,∀t∈(X x).wt,t ∉ (X y).rt)->(∀x∈f,OD P (X x) σ H) ->
  (X c).w P (λσ' m=>nL P.toPQ (j c) H m/\Go P X j Q (f++p) σ' m) σ H->Go P X j Q (f++c :: p) σ H
 | [],σ,H,_,_,_,h=>h
 | x :: f,σ,H,hb,v,k,h=>by
  have F:(X c).w P (λσ1 i=>nL P.toPQ (j c) H i/\(X x).w P (λσ2 B=>Go P X j Q (f++p) σ2 B) σ1 i) σ H:=
   NI.eF (λσ' m u=>⟨u.1,by have q:=u.2;simp only[qBk,Go]at q;exact NI.eF (λ_ _ I=>I.2) q⟩) h
  have G:=ZtV (R:=λH i=>nL P.toPQ (j c) H i) (hb x (by simp)) (k x (by simp)) (λH m r o O S J s K=>by
   have A:=J s K;refine⟨A.gh,λes b y a=>?_⟩;by_cases e:b=r
   ·subst e;rw[Hp.aD]at a ⊢;exact a
   rw[Hp.aE _ _ e]at a ⊢;exact A.mem es b y a) F
  simp only[qBk,Go];refine NI.eF ?_ G;rintro σ1 i ⟨C,D,E⟩;refine⟨C.kpt _,Lm f σ1 i (λy a=>hb y (by simp[a])) (λy a z N=>v y (by simp[a]) z (by simp[N])) (λy a=>D (X y) (λt M L=>v x (by simp) y (by simp[a]) t L M) (k y (by simp[a]))) E⟩
def yX(P:aY)(X:Nat->NI)(b:Nat->Option Bool)(W:Nat->Nat->Bool)(Q:aL->Hp->Prop):List Nat->aL->Hp->Prop
 | [],σ,H=>Q σ H
 | i :: l,σ,H=>((X i).op.gO≠0->∀x∈l,O7 (X x)=true->W x i=false->OD P (X x) σ H)/\(X i).w P (λσ' a=>nL P.toPQ (b i) H a/\yX P X b W Q l σ' a) σ H
def E9(X:Nat->NI)(a:Nat->Option Bool)(W:Nat->Nat->Bool):List Nat->Bool
 | []=>true
 | c :: C=>(if(X c).op.gO == 0 then BS (X c) && (C.all λx=>W x c || (ES (X c) (X x) (a x) && (BS (X x) || ((X x).op.gO == 1 && (X x).op.nS))))
   else(C.all λx=>W x c || yG (X x) (X c)) && (C.all λx=>W x c || C.all λy=>W y c || (X x).wt.all λt=>!((X y).rt.contains t))) && E9 X a W C
def NQ{P:aY}{n:Nat}{pre:Nat->List Nat}{X:Nat->NI}{R:Nat->Option Bool}{W:Nat->Nat->Bool}{Q:aL->Hp->Prop}(Y:∀(x e:Nat) (done:List Nat),(∀i∈done,∀p∈pre i,p∈done)->W x e=true->(∀p∈pre x,p∈done)->e∈done) :
  ∀(C:List Nat) {done l:List Nat} {σ:aL} {H:Hp},fY n pre done C->fY n pre done l->(∀i∈done,∀p∈pre i,p∈done)->E9 X R W C=true->yX P X R W Q C σ H->Go P X R Q l σ H
 | [],done,l,σ,H,V,B,_,_,h=>by
  cases V with
  | nil J=>
   cases B with
   | nil _=>exact h
   | cons N E _ _=>exact absurd (J _ N) E
 | c :: C,done,l,σ,H,V,B,k,hB,h=>by
  cases V with
  | cons N E hp D=>
   have A:∀i∈c :: done,∀p∈pre i,p∈c :: done:=by
    intro i m p v;simp only[DO]at m;rcases m with rfl | m
    ·exact qAc _ (hp p v)
    exact qAc _ (k i m p v)
   have K:c∈l:=(B.mem c N).resolve_left E;obtain⟨j,l2,rfl,F⟩:=List.eq_append_cons_of_mem K;have z:=fY.iX N B F;simp only[E9,oR]at hB;obtain⟨f,I⟩:=hB;have g:∀x∈j,x∈C/\W x c=false:=by
    intro x a;have Xl:x∈j++c :: l2:=by simp[a]
    have L:=B.fresh x Xl;have Xm:x≠c:=λe=>F (e ▸ a);have b:x∈C:=by
     rcases D.mem x L.1 with h | h
     ·simp only[DO]at h;rcases h with h | h
      ·exact absurd h Xm
      exact absurd h L.2
     exact h
    refine⟨b,?_⟩;cases hw:W x c with
    | false=>rfl
    | true=>
     exfalso;have key:∀(j:List Nat) (done:List Nat),fY n pre done (j++c :: l2)->(∀i∈done,∀p∈pre i,p∈done)->c ∉ j->c ∉ done->x∈j->False:=by
      intro j;induction j with
      | nil=>exact λ_ _ _ _ _ h=>by simp at h
      | cons y j ih=>
       intro done B k Z E a;cases B with
       | cons hi' C5 M z=>
        simp only[DO]at a;rcases a with rfl | a
        ·exact E (Y x c done k hw M)
        refine ih (y :: done) z ?_ (λh=>Z (by simp[h])) ?_ a
        ·intro i m p v;simp only[DO]at m;rcases m with rfl | m
         ·exact qAc _ (M p v)
         exact qAc _ (k i m p v)
        simp only[DO,not_or]at Z ⊢;exact⟨Z.1,E⟩
     exact key j done B k F E a
   simp only[yX]at h;obtain⟨hpk,h⟩:=h;by_cases S:(X c).op.gO=0
   ·simp only[S,beq_self_eq_true,qAH,oR,qAp]at f;obtain⟨u,hu,Xq,IR,Xp⟩:=XF (P:=P) f.1 _ _ _ h;have G:=NQ Y C D z A I hu.2;refine MA (P:=P) trivial Xq IR j σ H (λx a=>?_) Xp G;obtain⟨b,w⟩:=g x a;have:=f.2 x b;rw[w]at this;simpa using this
   have k9:((X c).op.gO == 0)=false:=by simpa using S
   simp only[k9,dO,qAf,oR,qAp,qBm]at f;have q:∀x∈j,yG (X x) (X c)=true:=λx a=>by obtain⟨b,w⟩:=g x a;exact(f.1 x b).resolve_left (by rw[w];simp)
   refine Lm j σ H q (λx a y hy t ht m=>?_) (λx a=>hpk S x (g x a).1 (Ln (q x a)).1 (g x a).2) (NI.eF (λσ' H' ⟨T,U⟩=>⟨T,NQ Y C D z A I U⟩) h);obtain⟨b,w⟩:=g x a;obtain⟨Xk,Xg⟩:=g y hy;have T:=(f.2 x b).resolve_left (by rw[w];simp);have U:=(T y Xk).resolve_left (by rw[Xg];simp);have h3:=U t ht;simp at h3;exact h3 m
