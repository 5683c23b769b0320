import Derived.Test.YtlhomfgcibjccaaGreatDoorP02
set_option linter.all false
namespace Go.LL
section
variable{P:PQ}{s:Bool}{ts bs:List Nat}{x:Operand}{d:Nat}
structure Hp.Sub(H H':Hp):Prop where
 mem:∀b x,H b=some x->H' b=some x
 gh:H'.gh=H.gh
structure VX(P:PQ)(s:Bool)(H H':Hp):Prop where
 gh:P.still H'.gh=P.still H.gh
 mem:s=true->∀b x,H b=some x->H' b=some x
def VX.refl(s:Bool)(H:Hp):VX P s H H:=⟨rfl,λ_ _ _ h=>h⟩
def VX.trans{H c a:Hp}(h:VX P s H c)(f:VX P s c a):VX P s H a:=⟨f.gh.trans h.gh,λe b x g=>f.mem e b x (h.mem e b x g)⟩
def Hp.Sub.mA{H a:Hp}(h:H.Sub a)(s:Bool):VX P s H a:=⟨by rw[h.gh],λ_=>h.mem⟩
def zC(P:PQ)(f:Option Bool)(H a:Hp):Prop:=∀s,f=some s->VX P s H a
def zC.refl(f:Option Bool)(H:Hp):zC P f H H:=λs _=>.refl s H
def Hp.Sub.kpt{H a:Hp}(h:H.Sub a)(f:Option Bool):zC P f H a:=λs _=>h.mA s
def WY(s:Bool)(f:Option Bool):Bool:=match f with | some true=>true | some false=>!s | none=>false
def Zs7{f:Option Bool}(h:WY s f=true){H a:Hp}(k:zC P f H a):VX P s H a:=by
 unfold WY at h;split at h
 ·have:=k true rfl;exact⟨this.gh,λ_=>this.mem rfl⟩
 ·have:=k false rfl;exact⟨this.gh,λe=>by rw[e]at h;simp at h⟩
 simp at h
def Hp.Sub.refl(H:Hp):H.Sub H:=⟨λ_ _ h=>h,rfl⟩
structure fE where
 fe:Nat->Option (Option Value)
 fb:Nat->Option (List Value)
def fE.app(u:fE)(σ:aM):aM:={ env:=λt=>(u.fe t).getD (σ.env t),box:=λd=>match u.fb d with | some cs=>some cs | none=>σ.box d,dQ:=σ.dQ }
def fE.set(dst:Option Nat)(v:Option Value):fE:=
 { fe:=λt=>match dst with | some d=>bif Nat.beq t d then some v else none | none=>none,fb:=λ_=>none }
def fE.new(d:Nat)(ts:List Nat)(z:List Value):fE:=
 { fe:=λt=>bif Nat.beq t d then some (some (.int .i64 0))else bif ts.elem t then some none else none,fb:=λb=>bif Nat.beq b d then some z else none }
def aM.ext'{σ σ':aM}(f:∀t,σ.env t=σ'.env t)(g:∀d,σ.box d=σ'.box d)(i:σ.dQ=σ'.dQ):σ=σ':=by obtain⟨e,b,d⟩:=σ;obtain⟨c,a,h⟩:=σ';have:e=c:=funext f;have:b=a:=funext g;simp_all
theorem fE.gP(σ:aM)(dst:Option Nat)(v:Value):(fE.set dst (some v)).app σ=σ.set dst v:=by
 cases dst with
 | none=>rfl
 | some d=>
  refine aM.ext' (λt=>?_) (λ_=>rfl) rfl;simp only[fE.app,fE.set,aM.set];cases Nat.beq t d<;>rfl
theorem fE.gS(σ:aM)(dst:Option Nat):(fE.set dst (some undef)).app σ=σ.fB dst:=by
 cases dst with
 | none=>rfl
 | some d=>
  refine aM.ext' (λt=>?_) (λ_=>rfl) rfl;simp only[fE.app,fE.set,aM.fB];cases Nat.beq t d<;>rfl
theorem fE.wN(σ:aM)(d:Nat)(ts:List Nat)(z:List Value):(fE.new d ts z).app σ=((σ.drop ts).set (some d) (.int .i64 0)).put d z:=by
 refine aM.ext' (λt=>?_) (λb=>?_) rfl
 ·simp only[fE.app,fE.new,aM.set,aM.drop,aM.put];cases Nat.beq t d with
  | true=>rfl
  | false=>cases ts.elem t<;>rfl
 simp only[fE.app,fE.new,aM.set,aM.drop,aM.put];cases Nat.beq b d<;>rfl
def fE.jE(u v:fE):Prop:=(∀t,u.fe t=none\/v.fe t=none)/\∀d,u.fb d=none\/v.fb d=none
def fE.comm{u v:fE}(h:u.jE v)(σ:aM):u.app (v.app σ)=v.app (u.app σ):=by
 refine aM.ext' (λt=>?_) (λd=>?_) rfl
 ·simp only[fE.app];rcases h.1 t with e | e<;>simp[e]
 simp only[fE.app];rcases h.2 d with e | e<;>rw[e]<;>cases u.fb d<;>cases v.fb d<;>simp_all
def Yy:Operand->List Nat
 | .tmp t=>[t]
 | _=>[]
def bE.rt:bE->List Nat
 | .cY x | .not x | .ext x _ | .lR _ _ x | .aN _ x | .ld _ x | .len x | .aP _ _ x=>Yy x
 | .pick c a b=>Yy c++Yy a++Yy b
 | .aY _ x y | .bQ _ x y=>Yy x++Yy y
 | .aQ ..=>[]
 | .aU _ t=>[t]
 | .fC _ _ t i=>t :: Yy i
 | .dA _ _ t=>[t]
 | .qU _ _ t x=>t :: Yy x
 | .call _ args=>args.flatMap Yy
 | .build _ e=>e.flatMap λp=>Yy p.2.2
 | .aO _ _ _ e=>e.flatMap λp=>Yy p.2.2
 | .raw op _=>op.operands.toList.flatMap Yy
 | .jJ op _=>op.operands.toList.flatMap Yy
 | .bU op _=>op.operands.toList.flatMap Yy
def bE.rb:bE->List Nat
 | .dA d _ _=>[d]
 | .qU d _ _ _=>[d]
 | _=>[]
def bE.DU:bE->Bool
 | .ld ..=>true
 | _=>false
def NI.rt(i:NI):List Nat:=(match i.g with | some (t,_)=>[t] | none=>[])++i.op.rt
def NI.wt(i:NI):List Nat:=i.dst.toList++match i.op with | .aQ d ts _ | .aP d ts _=>d :: ts | _=>[]
def NI.wb(i:NI):List Nat:=match i.op with | .aQ d _ _ | .aP d _ _ | .qU d _ _ _=>[d] | _=>[]
def bE.cls:bE->Nat
 | .call .. | .aO .. | .raw .. | .jJ ..=>1
 | .qU ..=>2
 | _=>0
def Yt(ts bs:List Nat)(σ σ':aM):Prop:=(∀t∈ts,σ.env t=σ'.env t)/\∀d∈bs,σ.box d=σ'.box d
theorem Yt.get{σ σ':aM}(h:Yt ts bs σ σ')(a:∀t∈Yy x,t∈ts):σ.get x=σ'.get x:=by
 cases x with
 | tmp t=>exact h.1 t (a t (by simp[Yy]))
 | _=>rfl
def Yt.gets{σ σ':aM}(h:Yt ts bs σ σ'):∀{xs:List Operand},(∀t∈xs.flatMap Yy,t∈ts)->σ.gets xs=σ'.gets xs
 | [],_=>rfl
 | x :: xs,b=>by simp only[aM.gets];rw[h.get (λt a=>b t (by simp[a])),h.gets (xs:=xs) (λt a=>b t (by rw[qAM];simp only[qAi];exact .inr a))]
def Yt.buildV{σ σ':aM}(h:Yt ts bs σ σ'):∀{ps:List (Nat×Nat×Operand)} {z:List Value},(∀t∈ps.flatMap (λp=>Yy p.2.2),t∈ts)->Go.LL.buildV σ ps z=Go.LL.buildV σ' ps z
 | [],_,_=>rfl
 | (off,sz,x) :: ps,z,b=>by
  simp only[Go.LL.buildV];rw[h.get (x:=x) (λt a=>b t (by simp[a]))];cases σ'.get x with
  | none=>rfl
  | some v=>simp only;rw[h.buildV (ps:=ps) (λt a=>b t (by rw[qAM];simp only[qAi];exact .inr a))]
def NI.w(P:aX)(i:NI)(K:aM->Hp->Prop)(σ:aM)(H:Hp):Prop:=
 match i.g with
 | none=>i.op.w P i.dst K σ H
 | some (t,a)=>∃v,σ.env t=some v/\(v=.bool a->i.op.w P i.dst K σ H)/\(v≠.bool a->K (σ.fB i.dst) H)
def OZ(P:aX)(i:NI):Prop:=∀(K:aM->Hp->Prop) σ H,i.w P K σ H->∃u:fE,K (u.app σ) H/\(∀t,u.fe t≠none->t∈i.wt)/\(∀d,u.fb d≠none->d∈i.wb) /\
 ∀(a:aM->Hp->Prop) σ' H',Yt i.rt i.op.rb σ σ'->VX P.toPQ i.op.DU H H'->a (u.app σ') H'->i.w P a σ' H'
def Tw(P:aX)(i:NI):Prop:=∀(K:aM->Hp->Prop) σ H,i.w P K σ H->∀(b:aM->Hp->Prop) σ',Yt i.rt i.op.rb σ σ'->(∀u:fE,(∀t,u.fe t≠none->t∈i.wt)->(∀d,u.fb d=none)->∀a,K (u.app σ) a->b (u.app σ') a)->i.w P b σ' H
theorem Uo{dst:Option Nat}{v:Option Value}{b:List Nat}(h:∀d,dst=some d->d∈b):∀t,(fE.set dst v).fe t≠none->t∈b:=by
 intro t a;cases dst with
 | none=>exact absurd rfl a
 | some d=>
  simp only[fE.set]at a;cases hb:Nat.beq t d with
  | false=>rw[hb]at a;exact absurd rfl a
  | true=>rw[qBN hb];exact h d rfl
def Of(i:NI):∀d,i.dst=some d->d∈i.wt:=by intro d a;simp[NI.wt,a]
def ZuK{P:aX}{i:NI}{val:aM->Hp->Option Value}(A:∀K σ H,i.op.w P i.dst K σ H↔∃v,val σ H=some v/\K (σ.set i.dst v) H)
  (B:∀σ σ' H a v,Yt i.rt i.op.rb σ σ'->VX P.toPQ i.op.DU H a->val σ H=some v->val σ' a=some v):OZ P i:=by
 intro K σ H h;unfold NI.w at h;have z:i.op.w P i.dst K σ H->∃v,K ((fE.set i.dst (some v)).app σ) H/\∀(k:aM->Hp->Prop) σ' a,Yt i.rt i.op.rb σ σ'->VX P.toPQ i.op.DU H a->k ((fE.set i.dst (some v)).app σ') a->i.op.w P i.dst k σ' a:=by intro h;obtain⟨v,u,y⟩:=(A _ _ _).1 h;refine⟨v,by rw[fE.gP];exact y,λk σ' a c q j=>(A _ _ _).2 ⟨v,B _ _ _ _ _ c q u,?_⟩⟩;rw[fE.gP]at j;exact j
 have m:∀v:Option Value,∀d,(fE.set i.dst v).fb d≠none->d∈i.wb:=λv d h=>absurd rfl h;cases hg:i.g with
 | none=>
  rw[hg]at h;obtain⟨v,u,y⟩:=z h;refine⟨_,u,Uo (Of i),m _,λk σ' a c q j=>?_⟩;unfold NI.w;rw[hg];exact y k σ' a c q j
 | some p=>
  obtain⟨t,D⟩:=p;rw[hg]at h;obtain⟨b,hb,u,y⟩:=h;have F:∀σ',Yt i.rt i.op.rb σ σ'->σ'.env t=some b:=λσ' c=>by rw[<-c.1 t (by simp[NI.rt,hg])];exact hb
  by_cases f:b=.bool D
  ·obtain⟨v,I,J⟩:=z (u f);refine⟨_,I,Uo (Of i),m _,λk σ' a c q j=>?_⟩;unfold NI.w;rw[hg];exact⟨b,F σ' c,λ_=>J k σ' a c q j,λL=>absurd f L⟩
  refine⟨fE.set i.dst (some undef),by rw[fE.gS];exact y f,Uo (Of i),m _,λk σ' a c q j=>?_⟩;unfold NI.w;rw[hg];rw[fE.gS]at j;exact⟨b,F σ' c,λe=>absurd e f,λ_=>j⟩
def LH(o:Obj)(off:Nat):Nat->Option (List Value)
 | 0=>some []
 | n+1=>match Obj.mB o off,LH o (off+1) n with
  | some v,some a=>some (v :: a)
  | _,_=>none
def Ag{o:Obj}:∀{n off:Nat} {a:List Value},LH o off n=some a↔a.length=n/\∀j,j<n->Obj.mB o (off+j)=a[j]?
 | 0,off,a=>by
  simp only[LH,qAe,qBm,false_implies,qCu,qDY];constructor
  ·rintro rfl;rfl
  exact λh=>(qAb h).symm
 | n+1,off,a=>by
  simp only[LH];constructor
  ·intro h;split at h
   ·rename_i v f b c;simp only[qAe]at h;subst h;obtain⟨k,m⟩:=Ag.1 c;refine⟨by simp[k],λj p=>?_⟩;cases j with
    | zero=>simpa using b
    | succ j=>
     have:=m j O;rw[qAT,<-this];congr 1;omega
   simp at h
  rintro⟨b,c⟩;cases a with
  | nil=>simp at b
  | cons v f=>
   have g:Obj.mB o off=some v:=by simpa using c 0 O
   have i:LH o (off+1) n=some f:=Ag.2 ⟨by simpa using b,λj p=>by have:=c (j+1) O;rw[qAT]at this;rw[<-this];congr 1;omega⟩;simp[g,i]
def bE.val(st:Bool)(op:bE)(σ:aM)(H:Hp):Option Value:=
 match op with
 | .cY x=>σ.get x
 | .pick c a b=>match σ.get c with | some (.bool t)=>σ.get (bif t then a else b) | _=>none
 | .aY op x y=>match σ.get x,σ.get y with
  | some (.int k m),some (.int f n)=>if k=f then EG op k m n else none
  | _,_=>none
 | .not x=>match σ.get x with | some (.bool b)=>some (.bool !b) | _=>none
 | .ext x i=>match σ.get x with | some (.tuple h)=>h[i]? | _=>none
 | .lR off n x=>match σ.get x with
  | some (.agg cs)=>match n with | none=>cs[off]? | some n=>some (.agg (cs.extract off (off+n)))
  | _=>none
 | .aN off x=>match σ.get x with | some (.pointer (some a))=>some (.pointer (some (a.add off))) | _=>none
 | .bQ e x i=>match σ.get x,σ.get i with
  | some (.slice (some a) ln _),some (.int _ n)=>if 0<=n/\n<ln then some (.pointer (some (a.add (n.toNat * e))))else none
  | _,_=>none
 | .ld n x=>if st=true then none else match σ.get x with
  | some (.pointer (some a))=>if a.spot=none then
    match H a.block with
    | some (o,_)=>match n with
     | none=>Obj.mB o a.off
     | some n=>(LH o a.off n).map λcs=>.agg cs.toArray
    | none=>none
   else none
  | _=>none
 | .len x=>match σ.get x with | some (.slice _ n _)=>some (.int .i64 (n:Nat)) | _=>none
 | .aU off t=>match σ.env t with | some (.int .i64 (.ofNat n))=>some (.int .i64 ((n+off:Nat):Int)) | _=>none
 | .fC e ln t i=>match σ.env t,σ.get i with
  | some (.int .i64 (.ofNat n)),some (.int _ j)=>if 0<=j/\j<ln then some (.int .i64 ((n+j.toNat * e:Nat):Int))else none
  | _,_=>none
 | .dA d n t=>if st=true then none else match σ.env t,σ.box d with
  | some (.int .i64 (.ofNat off)),some cs=>match n with
   | none=>cs[off]?
   | some n=>if off+n<=cs.length then some (.agg ((cs.drop off).take n).toArray)else none
  | _,_=>none
 | .build z g=>(buildV σ g z).map λcs=>.agg cs.toArray
 | _=>none
def bE.oW:bE->Bool
 | .cY _ | .pick .. | .aY .. | .not _ | .ext .. | .lR .. | .aN .. | .bQ .. | .ld .. | .len _ | .aU .. | .fC .. | .dA .. | .build ..=>true
 | _=>false
def bE.AC{P:aX}{op:bE}(E:op.oW=true)(dst:Option Nat)(K:aM->Hp->Prop)(σ:aM)(H:Hp):op.w P dst K σ H↔∃v,op.val (P.still H.gh) σ H=some v/\K (σ.set dst v) H:=by
 cases op<;>simp only[bE.oW,DO]at E<;>simp only[bE.w,bE.val]
 case pick c a b=>
  constructor
  ·rintro⟨t,v,f,g,h⟩;exact⟨v,by simp only[f];exact g,h⟩
  ·rintro⟨v,f,g⟩;split at f;exact⟨_,v,‹_›,f,g⟩;simp at f
 case aY op x y=>
  constructor
  ·rintro⟨k,p,q,v,f,g,h,u⟩;exact⟨v,by simp[f,g,h],u⟩
  ·rintro⟨v,f,g⟩;split at f
   ·split at f
    ·rename_i e;subst e;exact⟨_,_,_,v,‹_›,‹_›,f,g⟩
    simp at f
   simp at f
 case not x=>
  constructor
  ·rintro⟨b,f,g⟩;exact⟨_,by simp[f],g⟩
  ·rintro⟨v,f,g⟩;split at f;simp only[qAe]at f;subst f;exact⟨_,‹_›,g⟩;simp at f
 case ext x i=>
  constructor
  ·rintro⟨F,v,f,g,h⟩;exact⟨v,by simp[f,g],h⟩
  ·rintro⟨v,f,g⟩;split at f;exact⟨_,v,‹_›,f,g⟩;simp at f
 case lR off n x=>
  constructor
  ·rintro⟨cs,f,g⟩;cases n with
   | none=>obtain⟨v,h,u⟩:=g;exact⟨v,by simp[f,h],u⟩
   | some n=>exact⟨_,by simp[f],g⟩
  ·rintro⟨v,f,g⟩;split at f
   ·refine⟨_,‹_›,?_⟩;cases n with
    | none=>exact⟨v,f,g⟩
    | some n=>simp only[qAe]at f;subst f;exact g
   simp at f
 case aN off x=>
  constructor
  ·rintro⟨b,f,g⟩;exact⟨_,by simp[f],g⟩
  ·rintro⟨v,f,g⟩;split at f;simp only[qAe]at f;subst f;exact⟨_,‹_›,g⟩;simp at f
 case bQ bV x i=>
  constructor
  ·rintro⟨b,ln,cap,k,n,f,g,h,u,A⟩;exact⟨_,by simp[f,g,h,u],A⟩
  ·rintro⟨v,f,g⟩;split at f
   ·split at f
    ·rename_i B;simp only[qAe]at f;subst f;exact⟨_,_,_,_,_,‹_›,‹_›,B.1,B.2,g⟩
    simp at f
   simp at f
 case ld n x=>
  constructor
  ·rintro⟨m,b,o,p,f,g,h,u⟩;cases n with
   | none=>obtain⟨v,A,C⟩:=u;exact⟨v,by simp[m,f,g,h,A],C⟩
   | some n=>obtain⟨cs,A,C,D⟩:=u;exact⟨_,by simp[m,f,g,h,Ag.2 ⟨A,C⟩],D⟩
  ·rintro⟨v,f,g⟩;split at f
   ·simp at f
   rename_i m;simp only[Bool.not_eq_true]at m;refine⟨m,?_⟩;split at f
   ·split at f
    ·split at f
     ·refine⟨_,_,_,‹_›,‹_›,‹_›,?_⟩;cases n with
      | none=>exact⟨v,f,g⟩
      | some n=>
       simp only[qAL]at f;obtain⟨cs,h,rfl⟩:=f;obtain⟨u,A⟩:=Ag.1 h;exact⟨cs,u,A,g⟩
     simp at f
    simp at f
   simp at f
 case len x=>
  constructor
  ·rintro⟨b,n,c,f,g⟩;exact⟨_,by simp[f],g⟩
  ·rintro⟨v,f,g⟩;split at f;simp only[qAe]at f;subst f;exact⟨_,_,_,‹_›,g⟩;simp at f
 case aU off t=>
  constructor
  ·rintro⟨n,f,g⟩;exact⟨_,by rw[f],g⟩
  ·rintro⟨v,f,g⟩;split at f;simp only[qAe]at f;subst f;exact⟨_,‹_›,g⟩;simp at f
 case fC bV ln t i=>
  constructor
  ·rintro⟨n,k,j,f,g,h,u,A⟩;refine⟨_,?_,A⟩;rw[f,g];show(if 0<=j/\j<ln then _ else _)=_;rw[iF ⟨h,u⟩]
  ·rintro⟨v,f,g⟩;split at f
   ·split at f
    ·rename_i B;simp only[qAe]at f;subst f;exact⟨_,_,_,‹_›,‹_›,B.1,B.2,g⟩
    simp at f
   simp at f
 case dA d n t=>
  constructor
  ·rintro⟨m,off,cs,f,g,h⟩;rw[m,f,g];cases n with
   | none=>obtain⟨v,u,A⟩:=h;exact⟨v,u,A⟩
   | some n=>obtain⟨u,A⟩:=h;exact⟨_,by show(if off+n<=cs.length then _ else _)=_;rw[iF u],A⟩
  ·rintro⟨v,f,g⟩;split at f
   ·simp at f
   rename_i m;simp only[Bool.not_eq_true]at m;refine⟨m,?_⟩;split at f
   ·refine⟨_,_,‹_›,‹_›,?_⟩;cases n with
    | none=>exact⟨v,f,g⟩
    | some n=>
     simp only at f;split at f
     ·simp only[qAe]at f;subst f;exact⟨‹_›,g⟩
     simp at f
   simp at f
 case build z ps=>
  constructor
  ·rintro⟨cs,f,g⟩;exact⟨_,by simp[f],g⟩
  ·rintro⟨v,f,g⟩;simp only[qAL]at f;obtain⟨cs,h,rfl⟩:=f;exact⟨cs,h,g⟩
def bE.xF{op:bE}(p:op.oW=true){σ σ':aM}{H m:Hp}{v:Value}(e:∀t∈op.rt,t∈ts)(f:Yt ts op.rb σ σ')(j:VX P op.DU H m){st:Bool}(h:op.val st σ H=some v):op.val st σ' m=some v:=by
 cases op<;>simp only[bE.oW,DO]at p<;>simp only[bE.val]at h ⊢<;>simp only[bE.rt,qAi,qAq]at e
 case cY x=>rw[<-f.get e];exact h
 case pick c a b=>
  rw[<-f.get (x:=c) λt g=>e t (.inl (.inl g))]
  split at h
  ·rename_i t g;have:σ'.get (bif t then a else b)=σ.get (bif t then a else b):=by
    cases t
    ·exact(f.get (x:=b) λt g=>e t (.inr g)).symm
    exact(f.get (x:=a) λt g=>e t (.inl (.inr g))).symm
   rw[this];exact h
  ·simp at h
 case aY op x y=>rw[<-f.get (x:=x) λt g=>e t (.inl g),<-f.get (x:=y) λt g=>e t (.inr g)];exact h
 case not x=>rw[<-f.get e];exact h
 case ext x i=>rw[<-f.get e];exact h
 case lR off n x=>rw[<-f.get e];exact h
 case aN off x=>rw[<-f.get e];exact h
 case bQ bV x y=>rw[<-f.get (x:=x) λt g=>e t (.inl g),<-f.get (x:=y) λt g=>e t (.inr g)];exact h
 case ld n x=>
  rw[<-f.get e]
  cases st
  case true=>simp at h
  simp only[DO,qAw]at h ⊢
  split at h
  ·rename_i a q;split at h
   ·rename_i k;rw[iF k];cases hb:H a.block with
    | none=>rw[hb]at h;simp at h
    | some x=>rw[j.mem rfl _ _ hb];rw[hb]at h;exact h
   simp at h
  ·simp at h
 case len x=>rw[<-f.get e];exact h
 case aU off t=>rw[<-f.1 t (e t (by simp))];exact h
 case fC bV ln t i=>rw[<-f.1 t (e t (.inl rfl)),<-f.get (x:=i) λs j=>e s (.inr j)];exact h
 case dA d n t=>rw[<-f.1 t (e t (by simp)),<-f.2 d (by simp[bE.rb])];exact h
 case build z ps=>rw[<-f.buildV (ps:=ps) e];exact h
def ZuL{P:aX}{i:NI}(a:i.op.oW=true):OZ P i:=
 ZuK (val:=λσ H=>i.op.val (P.still H.gh) σ H) (λK σ H=>bE.AC a i.dst K σ H) (λσ σ' H f v c b h=>by simp only[b.gh];exact bE.xF a (λt e=>by simp[NI.rt,e]) c b h)
def Xh{P:aX}{i:NI}(m:i.g=none)(f:∀t,t=d\/t∈ts->t∈i.wt)(k:d∈i.wb){val:aM->Bool->Option (List Value)}
  (a:∀K σ H,i.op.w P i.dst K σ H↔∃z,val σ (P.still H.gh)=some z/\K (((σ.drop ts).set (some d) (.int .i64 0)).put d z) H) (c:∀σ σ' z g,Yt i.rt i.op.rb σ σ'->val σ g=some z->val σ' g=some z):OZ P i:=by
 intro K σ H h;unfold NI.w at h;rw[m]at h;obtain⟨z,q,u⟩:=(a _ _ _).1 h;refine⟨fE.new d ts z,by rw[fE.wN];exact u,λt j=>?_,λb hb=>?_,λB σ' A v y p=>?_⟩
 ·simp only[fE.new]at j;cases e:Nat.beq t d with
  | true=>exact f t (.inl (qBN e))
  | false=>
   rw[e]at j;cases e2:ts.elem t with
   | true=>exact f t (.inr (by simpa using e2))
   | false=>rw[e2]at j;exact absurd rfl j
 ·simp only[fE.new]at hb;cases e:Nat.beq b d with
  | true=>rw[qBN e];exact k
  | false=>rw[e]at hb;exact absurd rfl hb
 unfold NI.w;rw[m];rw[fE.wN]at p;exact(a _ _ _).2 ⟨z,by rw[y.gh];exact c _ _ _ _ v q,p⟩
def ZuN{P:aX}{i:NI}{z:List Value}(b:i.g=none)(a:i.op=.aQ d ts z):OZ P i:=
 Xh (val:=λ_ g=>if g=false then some z else none) b (λt e=>by simp only[NI.wt,a,qAi,qAq];exact .inr e) (by simp[NI.wb,a]) (λK σ H=>by rw[a];by_cases c:P.still H.gh=false<;>simp[bE.w,c]) (λ_ _ _ _ _ h=>h)
def ZuP{P:aX}{i:NI}(m:i.g=none)(b:i.op=.aP d ts x):OZ P i:=
 Xh (val:=λσ g=>if g=false then(σ.get x).map λv=>v.cells.toList else none) m (λt f=>by simp only[NI.wt,b,qAi,qAq];exact .inr f) (by simp[NI.wb,b])
  (λK σ H=>by
   rw[b];simp only[bE.w];constructor
   ·rintro⟨e,v,a,c⟩;exact⟨_,by simp[a,e],c⟩
   rintro⟨z,a,c⟩;split at a
   ·rename_i e;simp only[qAL]at a;obtain⟨v,j,rfl⟩:=a;exact⟨e,v,j,c⟩
   simp at a)
  (λσ σ' z g k h=>by rw[<-k.get (x:=x) λt f=>by simp[NI.rt,b,bE.rt,f]];exact h)
end
section
variable{ts bs done l:List Nat}{op:Op}{ty:TypeId}{n:Nat}{pre:Nat->List Nat}
def Yt.app{σ:aM}{u:fE}(a:∀t∈ts,u.fe t=none)(b:∀d∈bs,u.fb d=none):Yt ts bs σ (u.app σ):=
 ⟨λt c=>by simp[fE.app,a t c],λd hd=>by simp[fE.app,b d hd]⟩
def Yt.Hq{σ:aM}{u:fE}(a:∀t∈ts,u.fe t=none)(b:∀d∈bs,u.fb d=none):Yt ts bs (u.app σ) σ:=
 ⟨λt c=>by simp[fE.app,a t c],λd hd=>by simp[fE.app,b d hd]⟩
def Zvb{P:aX}{i:NI}(f:∀(K j:aM->Hp->Prop) σ σ' H,i.op.w P i.dst K σ H->Yt i.rt i.op.rb σ σ'->(∀v c,K (σ.set i.dst v) c->j (σ'.set i.dst v) c)->i.op.w P i.dst j σ' H):Tw P i:=by
 intro K σ H h j σ' k q;unfold NI.w at h ⊢;have a:∀v c,K (σ.set i.dst v) c->j (σ'.set i.dst v) c:=λv c A=>by have:=q (fE.set i.dst (some v)) (Uo (Of i)) (λ_=>rfl) c;rw[fE.gP,fE.gP]at this;exact this A
 cases m:i.g with
 | none=>
  rw[m]at h;exact f _ _ _ _ _ h k a
 | some p=>
  obtain⟨t,u⟩:=p;rw[m]at h;obtain⟨b,hb,y,z⟩:=h;refine⟨b,by rw[<-k.1 t (by simp[NI.rt,m])];exact hb,λe=>f _ _ _ _ _ (y e) k a,λe=>?_⟩;have:=q (fE.set i.dst (some undef)) (Uo (Of i)) (λ_=>rfl) H;rw[fE.gS,fE.gS]at this;exact this (z e)
def ZhN{σ σ':aM}(h:Yt ts bs σ σ')(g:∀f b,op≠.select f b)(j:∀t∈op.operands.toList.flatMap Yy,t∈ts) :
  (op.operands.all λx=>(σ.get x).isSome)=(op.operands.all λx=>(σ'.get x).isSome)/\execOp (λx=>(σ.get x).getD undef) (aR op ty)=execOp (λx=>(σ'.get x).getD undef) (aR op ty):=by
 have c:∀x∈op.operands,σ.get x=σ'.get x:=λx a=>h.get λt i=>j t (by simp only[qDr];exact⟨x,qBh.2 a,i⟩);refine⟨?_,Ws (o:=aR op ty) (λx a=>by rw[c x a]) g⟩;rw[qBT,qAm,qAm];constructor<;>intro e x a
 ·rw[<-c x a];exact e x a
 rw[c x a];exact e x a
def QI:Op->Bool
 | .select ..=>true
 | _=>false
def bE.zM:bE->Bool
 | .raw op _=>!QI op && !QH op
 | .jJ ..=>false
 | _=>true
def ZmB{P:aX}{i:NI}(D:i.op.cls=1)(p:i.op.zM=true):Tw P i:=by
 refine Zvb λK O σ σ' H h y a=>?_;have c:∀t∈i.op.rt,t∈i.rt:=λt M=>by simp[NI.rt,M]
 cases I:i.op<;>rw[I]at D h c p y<;>first | (exfalso;simp[bE.cls]at D;done) | skip
 all_goals simp only[bE.w]at h ⊢
 case call f args=>
  obtain⟨N,A,B⟩:=h
  exact⟨N,by rw[<-y.gets c];exact A,B.mono λv C j=>a v C j⟩
 case aO e ln z ps=>
  obtain⟨L,u,A,B⟩:=h
  exact⟨L,u,by rw[<-y.buildV c];exact A,λr J=>a _ _ (B r J)⟩
 case jJ op ty=>simp[bE.zM]at p
 case raw op ty=>
  have q:∀u b,op≠.select u b:=by rintro u b rfl;simp[bE.zM,QI]at p
  have m:QH op=false:=by simp only[bE.zM,qAc,qBe]at p;exact p.2
  obtain⟨E,F⟩:=ZhN y (ty:=ty) q c
  refine⟨by rw[<-E];exact h.1,?_⟩
  rw[<-F]
  refine h.2.imp (Vi ?_) (Zk.mono · λv H j=>a _ _ j)
  rintro n g C (G | k)
  ·exact .inl G
  ·refine .inr ?_;cases n with
   | value v=>exact a _ _ k
   | skip=>exact a _ _ k
   | enter f args=>exact Zc.mono k λv H j=>a _ _ j
   | round l f tmps aA Q=>exact UX.mono k λv H j=>a _ _ j
   | defer d=>exact absurd (m.symm.trans k.1) (by simp)
   | _=>exact k.elim
def ZuM{P:aX}{i:NI}(G:i.op=.bU op ty)(E:QI op=false):OZ P i:=by
 intro K σ H h;unfold NI.w at h;have A:∀F b,op≠.select F b:=by rintro F b rfl;simp[QI]at E
 have B:∀t∈i.op.rt,t∈i.rt:=λt Q=>by simp[NI.rt,Q]
 have y:i.op.w P i.dst K σ H->∃v,K ((fE.set i.dst (some v)).app σ) H/\∀(k:aM->Hp->Prop) σ' c,Yt i.rt i.op.rb σ σ'->VX P.toPQ i.op.DU H c->k ((fE.set i.dst (some v)).app σ') c->i.op.w P i.dst k σ' c:=by intro h;rw[G]at h B;obtain⟨q,v,u,D⟩:=h;refine⟨v,by rw[fE.gP];exact D,λk σ' c a z j=>?_⟩;rw[G]at a ⊢;obtain⟨L,M⟩:=ZhN a (ty:=ty) A B;refine⟨by rw[<-L];exact q,v,by rw[<-M];exact u,?_⟩;rw[fE.gP]at j;exact j
 have m:∀v:Option Value,∀d,(fE.set i.dst v).fb d≠none->d∈i.wb:=λv d h=>absurd rfl h;cases hg:i.g with
 | none=>
  rw[hg]at h;obtain⟨v,q,u⟩:=y h;refine⟨_,q,Uo (Of i),m _,λk σ' c a z j=>?_⟩;unfold NI.w;rw[hg];exact u k σ' c a z j
 | some p=>
  obtain⟨t,C⟩:=p;rw[hg]at h;obtain⟨b,hb,q,u⟩:=h;have I:∀σ',Yt i.rt i.op.rb σ σ'->σ'.env t=some b:=λσ' a=>by rw[<-a.1 t (by simp[NI.rt,hg])];exact hb
  by_cases f:b=.bool C
  ·obtain⟨v,D,N⟩:=y (q f);refine⟨_,D,Uo (Of i),m _,λk σ' c a z j=>?_⟩;unfold NI.w;rw[hg];exact⟨b,I σ' a,λ_=>N k σ' c a z j,λO=>absurd f O⟩
  refine⟨fE.set i.dst (some undef),by rw[fE.gS];exact u f,Uo (Of i),m _,λk σ' c a z j=>?_⟩;unfold NI.w;rw[hg];rw[fE.gS]at j;exact⟨b,I σ' a,λe=>absurd e f,λ_=>j⟩
theorem bE.iE{P:aX}{op:bE}{dst:Option Nat}{K j:aM->Hp->Prop}(c:∀σ H,K σ H->j σ H){σ:aM}{H:Hp}(h:op.w P dst K σ H):op.w P dst j σ H:=by
 cases op with
 | call f args=>obtain⟨D,a,b⟩:=h;exact⟨D,a,b.mono λv q i=>c _ _ i⟩
 | aO e ln z E=>obtain⟨m,cs,a,b⟩:=h;exact⟨m,cs,a,λr C=>c _ _ (b r C)⟩
 | raw op ty=>
  exact⟨h.1,h.2.imp (Vi λn g q h=>h.imp id (C1.mono c)) (Zk.mono · λv H i=>c _ _ i)⟩
 | jJ op ty=>exact⟨h.1,h.2.mono λv H i=>c _ _ i⟩
 | bU op ty=>obtain⟨a,v,b,k⟩:=h;exact⟨a,v,b,c _ _ k⟩
 | qU d n t x=>obtain⟨p,off,cs,v,a,b,k,u,y,A,B⟩:=h;exact⟨p,off,cs,v,a,b,k,u,y,A,c _ _ B⟩
 | aQ d ts z=>exact⟨h.1,c _ _ h.2⟩
 | aP d ts x=>obtain⟨m,v,a,b⟩:=h;exact⟨m,v,a,c _ _ b⟩
 | _=>exact(bE.AC rfl dst j σ H).2 (by obtain⟨v,a,b⟩:=(bE.AC rfl dst K σ H).1 h;exact⟨v,a,c _ _ b⟩)
def ZuO{P:aX}{i:NI}{d t:Nat}{x:Operand}(m:i.g=none)(c:i.op=.qU d n t x):OZ P i:=by
 intro K σ H h;unfold NI.w at h;rw[m]at h;simp only[c,bE.w]at h;obtain⟨f,off,a,v,q,y,z,A,B,C,D⟩:=h;let u:fE:={ fe:=λ_=>none,fb:=λb=>bif Nat.beq b d then some (a.take off++v.cells.toList++a.drop (off+n))else none }
 have p:∀σ:aM,u.app σ=σ.put d (a.take off++v.cells.toList++a.drop (off+n)):=by intro σ;refine aM.ext' (λ_=>rfl) (λb=>?_) rfl;simp only[fE.app,aM.put,u];cases Nat.beq b d<;>rfl
 refine⟨u,by rw[p];exact D,λt F=>absurd rfl F,λb hb=>?_,λI σ' G k j E=>?_⟩
 ·have:b=d:=by
   simp only[u]at hb;cases he:Nat.beq b d with
   | true=>exact qBN he
   | false=>rw[he]at hb;exact absurd rfl hb
  subst this;simp[NI.wb,c]
 unfold NI.w;rw[m];simp only[c,bE.w];have e:∀s,s=t\/s∈Yy x->s∈i.rt:=λs f=>by simp only[NI.rt,c,bE.rt,qAi,qAq];exact .inr f
 refine⟨by rw[j.gh];exact f,off,a,v,by rw[<-k.1 t (e t (.inl rfl))];exact q,by rw[<-k.2 d (by simp[c,bE.rb])];exact y,by rw[<-k.get (x:=x) λs f=>e s (.inr f)];exact z,A,B,C,?_⟩;rw[<-p];exact E
variable{P:aX}
def Go(P:aX)(X:Nat->NI)(b:Nat->Option Bool)(Q:aM->Hp->Prop):List Nat->aM->Hp->Prop
 | [],σ,H=>Q σ H
 | i :: l,σ,H=>(X i).w P (λσ' a=>zC P.toPQ (b i) H a/\Go P X b Q l σ' a) σ H
def WG(x y:NI)(a:Option Bool):Bool:=
 x.op.cls == 0 && (y.op.cls != 1 || WY x.op.DU a) &&
 (x.wt.all λt=>!(y.rt.contains t) && !(y.wt.contains t)) && (x.wb.all λd=>!(y.op.rb.contains d) && !(y.wb.contains d)) &&
 (y.wt.all λt=>!(x.rt.contains t)) && (y.wb.all λd=>!(x.op.rb.contains d))
def QE(x:NI):Bool:=x.op.oW || (match x.g,x.op with | none,.aQ .. | none,.aP .. | none,.qU ..=>true | _,.bU op _=>!QI op | _,_=>false)
def Xg{i:NI}(h:QE i=true):OZ P i:=by
 unfold QE at h;cases hv:i.op.oW with
 | true=>exact ZuL hv
 | false=>
  rw[hv]at h;simp only[Bool.false_or]at h;split at h
  ·rename_i d ts z b a;exact ZuN b a
  ·rename_i d ts x b a;exact ZuP b a
  ·rename_i d n t x b a;exact ZuO b a
  ·rename_i op ty a;exact ZuM a (by simpa using h)
  simp at h
def Zx9{x y:NI}{a:Option Bool}(h:WG x y a=true):True/\(y.op.cls≠1\/WY x.op.DU a=true)/\(∀t∈x.wt,t ∉ y.rt/\t ∉ y.wt)/\(∀d∈x.wb,d ∉ y.op.rb/\d ∉ y.wb)/\(∀t∈y.wt,t ∉ x.rt)/\∀d∈y.wb,d ∉ x.op.rb:=by unfold WG at h;simp only[qAc,IN,qBe,qDv,qBH,qCs,qDH,bne_iff_ne,ne_eq]at h;obtain⟨⟨⟨⟨⟨_,b⟩,c⟩,e⟩,f⟩,g⟩:=h;exact⟨trivial,b,c,e,f,g⟩
def Lm{X:Nat->NI}{O:Nat->Option Bool}{Q:aM->Hp->Prop}{c:Nat}(I:True){l2:List Nat}{u:fE}
  (B:∀t,u.fe t≠none->t∈(X c).wt) (A:∀d,u.fb d≠none->d∈(X c).wb) :
  ∀(D:List Nat) (σ:aM) (H:Hp),(∀x∈D,WG (X c) (X x) (O x)=true/\(QE (X x)=true\/((X x).op.cls=1/\(X x).op.zM=true))) ->
   (∀(C:aM->Hp->Prop) σ' q,Yt (X c).rt (X c).op.rb σ σ'->VX P.toPQ (X c).op.DU H q->C (u.app σ') q->(X c).w P C σ' q) ->
   Go P X O Q (D++l2) (u.app σ) H->Go P X O Q (D++c :: l2) σ H
 | [],σ,H,_,L,h=>by simp only[qBt,Go];exact L _ σ H ⟨λ_ _=>rfl,λ_ _=>rfl⟩ (.refl _ H) ⟨.refl _ H,h⟩
 | x :: D,σ,H,W,L,h=>by
  obtain⟨R,z⟩:=W x (by simp)
  obtain⟨a1,a2,a3,a4,a5,a6⟩:=Zx9 R
  have b:∀t,t ∉ (X c).wt->u.fe t=none:=λt i=>qAd λg=>i (B t g)
  have f:∀d,d ∉ (X c).wb->u.fb d=none:=λd j=>qAd λg=>j (A d g)
  have G:Yt (X x).rt (X x).op.rb (u.app σ) σ:=Yt.Hq (λt i=>b t λk=>(a3 t k).1 i) (λd j=>f d λk=>(a4 d k).1 j)
  simp only[qBG,Go]at h ⊢
  rcases z with z | ⟨J,T⟩
  ·
   obtain⟨v,hv,m,p,V⟩:=Xg (P:=P) z _ _ _ h
   have a:u.jE v:=by
    refine⟨λt=>?_,λd=>?_⟩
    ·by_cases k:t∈(X c).wt
     ·exact .inr (qAd λg=>(a3 t k).2 (m t g))
     exact .inl (b t k)
    by_cases k:d∈(X c).wb
    ·exact .inr (qAd λg=>(a4 d k).2 (p d g))
    exact .inl (f d k)
   refine V _ σ H G (.refl _ H) ⟨.refl _ H,?_⟩
   have E:=hv.2
   rw[<-fE.comm a]at E
   refine Lm I B A D (v.app σ) H (λy Y=>W y (by simp[Y])) (λC σ' q F M S=>L C σ' q ?_ M S) E
   have e:Yt (X c).rt (X c).op.rb σ (v.app σ):=Yt.app (λt i=>qAd λg=>a5 t (m t g) i) (λd j=>qAd λg=>a6 d (p d g) j)
   exact⟨λt i=>(e.1 t i).trans (F.1 t i),λd j=>(e.2 d j).trans (F.2 d j)⟩
  have K:=a2.resolve_left (by rw[J];simp)
  refine ZmB J T _ _ _ h _ _ G ?_
  rintro v m p q ⟨M,E⟩
  have a:u.jE v:=by
   refine⟨λt=>?_,λd=>.inr (p d)⟩;by_cases k:t∈(X c).wt
   ·exact .inr (qAd λg=>(a3 t k).2 (m t g))
   exact .inl (b t k)
  refine⟨M,?_⟩
  rw[<-fE.comm a]at E
  refine Lm I B A D (v.app σ) q (λy Y=>W y (by simp[Y])) (λC σ' N F U S=>L C σ' N ?_ ((Zs7 K M).trans U) S) E
  have e:Yt (X c).rt (X c).op.rb σ (v.app σ):=Yt.app (λt i=>qAd λg=>a5 t (m t g) i) (λd j=>p d)
  exact⟨λt i=>(e.1 t i).trans (F.1 t i),λd j=>(e.2 d j).trans (F.2 d j)⟩
inductive lX (n:Nat)(pre:Nat->List Nat):List Nat->List Nat->Prop
 | nil {done:List Nat} (h:∀i,i<n->i∈done):lX n pre done []
 | cons {done l:List Nat} {i:Nat} (hi:i<n) (hd:i ∉ done) (hp:∀p∈pre i,p∈done) (h:lX n pre (i :: done) l):lX n pre done (i :: l)
def lX.congr(h:lX n pre done l):∀{a},(∀i,i∈done↔i∈a)->lX n pre a l:=by
 induction h with
 | nil h=>exact λe=>.nil λi b=>(e i).1 (h i b)
 | cons b hd f _ ih=>exact λe=>.cons b (λh=>hd ((e _).2 h)) (λp c=>(e p).1 (f p c)) (ih λi=>by simp[e])
def lX.mem(h:lX n pre done l):∀i,i<n->i∈done\/i∈l:=by
 induction h with
 | nil h=>exact λi a=>.inl (h i a)
 | cons a hd b _ ih=>
  intro i a;rcases ih i a with h | h
  ·simp only[qAq]at h;rcases h with rfl | h
   ·exact .inr (by simp)
   exact .inl h
  exact .inr (by simp[h])
def lX.fresh(h:lX n pre done l):∀i∈l,i<n/\i ∉ done:=by
 induction h with
 | nil h=>exact λi b=>by simp at b
 | cons b hd c _ ih=>
  intro i a;simp only[qAq]at a;rcases a with rfl | a
  ·exact⟨b,hd⟩
  exact⟨(ih i a).1,λh=>(ih i a).2 (by simp[h])⟩
def lX.ahead{n:Nat}{pre:Nat->List Nat}{c:Nat}{j:List Nat}(k:c<n):∀{a done:List Nat},lX n pre done (a++c :: j)->c ∉ a->lX n pre (c :: done) (a++j)
 | [],done,h,_=>by
  cases h with
  | cons f hd g h=>exact h
 | x :: a,done,h,e=>by
  cases h with
  | cons f hd g h=>
   refine .cons f ?_ (λp b=>qAP _ (g p b)) ?_
   ·simp only[qAq,not_or]at e ⊢;exact⟨qAF e.1,hd⟩
   exact(lX.ahead k h (λb=>e (by simp[b]))).congr λi=>by simp;constructor<;>(intro h;rcases h with h | h | h<;>simp[h])
end
variable{P:aX}{dst:Option Nat}{r:Nat}{o:Obj}
def C1.frame{op:Op}{K:aM->Hp->Prop}{σ:aM}{F:Hp}(hd:QH op=false):∀{n:Next} {H:Hp},C1 P op dst K σ n H->H.Comp F->C1 P op dst (λσ c=>∃b,c=b.join F/\b.Comp F/\K σ b) σ n (H.join F):=by
 intro n H h a;cases n with
 | value v=>exact⟨_,rfl,a,h⟩
 | skip=>exact⟨_,rfl,a,h⟩
 | enter f args=>exact Zc.frame h a
 | round l f tmps aA e=>exact UX.frame h a
 | defer d=>exact absurd (hd.symm.trans h.1) (by simp)
 | _=>exact h.elim
def Zua{H F:Hp}(h:F r=none):(H.join F).ins r o=(H.ins r o).join F:=by
 refine Hp.ext' (λb=>?_) rfl;simp only[Hp.bH,Hp.eM];by_cases e:b=r
 ·subst e;simp
 simp[e]
def Hp.Comp.A7{H F:Hp}(f:H.Comp F)(h:F r=none):(H.ins r o).Comp F:=by
 refine⟨λb x y c a=>?_,f.gh⟩;by_cases e:b=r
 ·subst e;rw[h]at a;simp at a
 rw[Hp.aH _ _ e]at c;exact f b x y c a
theorem bE.oI{op:bE}{K:aM->Hp->Prop}{σ:aM}{H F:Hp}(b:op.cls=1)(a:op.zM=true)(A:F.gh=[])(j:H.Comp F)(h:op.w P dst K σ H) :
  op.w P dst (λσ' u=>∃i,u=i.join F/\i.Comp F/\K σ' i) σ (H.join F):=by
 have q:(H.join F).gh=H.gh:=by rw[Hp.bZ,A,qAf]
 cases B:op<;>rw[B]at b h a<;>first | (exfalso;simp[bE.cls]at b;done) | skip
 all_goals simp only[bE.w]at h ⊢
 case call f args=>
  obtain⟨G,k,m⟩:=h
  exact⟨G,k,Zc.frame m j⟩
 case aO e ln z ps=>
  obtain⟨D,cs,k,m⟩:=h
  refine⟨by rw[q];exact D,cs,k,λr C=>?_⟩
  obtain⟨E,y⟩:=Hp.eF.1 C
  exact⟨_,Zua y,j.A7 y,m r E⟩
 case jJ op ty=>simp[bE.zM]at a
 case raw op ty=>
  have c:QH op=false:=by simp only[bE.zM,qAc,qBe]at a;exact a.2
  refine⟨h.1,h.2.imp (λh=>?_) λh=>h.frame j⟩
  refine Vi ?_ (Aa h j)
  rintro n g u ⟨i,rfl,p,t⟩
  exact t.imp id λt=>t.frame c p
def NI.oI{i:NI}{K:aM->Hp->Prop}{σ:aM}{H F:Hp}(a:i.op.cls=1)(c:i.op.zM=true)(j:F.gh=[])(g:H.Comp F)(h:i.w P K σ H) :
  i.w P (λσ' k=>∃f,k=f.join F/\f.Comp F/\K σ' f) σ (H.join F):=by
 unfold NI.w at h ⊢;split at h
 ·exact bE.oI a c j g h
 obtain⟨b,hb,m,p⟩:=h;exact⟨b,hb,λe=>bE.oI a c j g (m e),λe=>⟨H,rfl,g,p e⟩⟩
def F0(x:NI):Bool:=match x.g,x.op with | none,.aO ..=>true | _,_=>false
def Ol(P:aX)(x:NI)(σ:aM)(H:Hp):Prop:=
 match x.op with
 | .aO _ _ z a=>P.still H.gh=false/\(buildV σ a z).isSome=true
 | _=>True
def ZlS{x:NI}(h:F0 x=true):x.g=none/\∃e ln z a,x.op=.aO e ln z a:=by
 unfold F0 at h;split at h
 ·rename_i e ln z a b c;exact⟨b,e,ln,z,a,c⟩
 simp at h
def L3(x c:NI):Bool:=F0 x && c.op.cls == 1 && c.op.zM && (x.wt.all λt=>!(c.rt.contains t) && !(c.wt.contains t)) && (c.wt.all λt=>!(x.rt.contains t))
def Zi2{x c:NI}(h:L3 x c=true):F0 x=true/\c.op.cls=1/\c.op.zM=true/\(∀t∈x.wt,t ∉ c.rt/\t ∉ c.wt)/\∀t∈c.wt,t ∉ x.rt:=by unfold L3 at h;simp only[qAc,IN,qBe,qDv,qBH,qDH]at h;obtain⟨⟨⟨⟨a,b⟩,e⟩,f⟩,g⟩:=h;exact⟨a,b,e,f,g⟩
def Zi4{x:NI}{e:TypeId}{ln:Nat}{z:List Value}{b:List (Nat×Nat×Operand)}(c:x.g=none)(f:x.op=.aO e ln z b){K:aM->Hp->Prop}{σ:aM}{H:Hp} :
  x.w P K σ H↔P.still H.gh=false/\∃a,buildV σ b z=some a/\∀r,H r=none->K (σ.set x.dst (.slice (some ⟨r,0,none⟩) ln ln)) (H.ins r (.cells a.toArray e)):=by
 unfold NI.w;rw[c];simp only[f,bE.w]
def Ztm{x c:NI}{K:aM->Hp->Prop}{σ:aM}{H:Hp}(hb:L3 x c=true)(D:Ol P x σ H){R:Hp->Hp->Prop}(hR:∀H A r o,H r=none->A r=none->R H A->R (H.ins r o) (A.ins r o))
  (h:c.w P (λσ1 a=>R H a/\x.w P K σ1 a) σ H):x.w P (λσ1 a=>H.Sub a/\(∀y:NI,(∀t∈y.rt,t ∉ x.wt)->Ol P y σ H->Ol P y σ1 a)/\c.w P (λσ2 H2=>R a H2/\K σ2 H2) σ1 a) σ H:=by
 obtain⟨j,M,O,a1,a2⟩:=Zi2 hb
 obtain⟨hg,e,ln,z,ps,V⟩:=ZlS j
 have Ed:x.rt=ps.flatMap λp=>Yy p.2.2:=by simp[NI.rt,hg,V,bE.rt]
 have G:∀d,x.dst=some d->d∈x.wt:=Of x
 unfold Ol at D
 rw[V]at D
 obtain⟨hs,hv⟩:=D
 obtain⟨g,N⟩:=qCj.1 hv
 rw[Zi4 hg V]
 refine⟨hs,g,N,λr W=>?_⟩
 have Q:H.Sub (H.ins r (.cells g.toArray e)):=⟨λb y T=>by rw[Hp.aH _ _ (by rintro rfl;rw[W]at T;simp at T)];exact T,rfl⟩
 refine⟨Q,λy T m=>?_,?_⟩
 ·unfold Ol at m ⊢;split at m
  ·rename_i I ln2 z2 DV ho2;refine⟨m.1,?_⟩;have C:Yt y.rt [] σ (σ.set x.dst (.slice (some ⟨r,0,none⟩) ln ln)):=by rw[<-fE.gP];exact Yt.app (λt k=>qAd λj=>T t k (Uo G t j)) (λd U=>by simp at U)
   rw[<-C.buildV (λt k=>by simp only[NI.rt,ho2,bE.rt,qAi];exact .inr k)];exact m.2
  trivial
 let F:Hp:=Hp.nil.ins r (.cells g.toArray e)
 have hF:H.Comp F:=⟨λb x y B h2=>by
  by_cases e:b=r
  ·subst e;rw[W]at B;simp at B
  rw[show F b=none from by show Hp.nil.ins r _ b=none;rw[Hp.aH _ _ e];rfl]at h2;simp at h2,.inr rfl⟩
 have i:∀a:Hp,a r=none->a.join F=a.ins r (.cells g.toArray e):=by
  intro a B;refine Hp.ext' (λb=>?_) (by rw[Hp.bZ];exact qAf _);simp only[Hp.bH];by_cases I:b=r
  ·subst I;rw[B];have Y:F b=some (.cells g.toArray e,true):=Hp.aG _ _ _;have Z:(a.ins b (.cells g.toArray e)) b=some (.cells g.toArray e,true):=Hp.aG _ _ _;simp only[Y,Z]
  have Y:F b=none:=(Hp.aH _ _ I).trans rfl;have Z:(a.ins r (.cells g.toArray e)) b=a b:=Hp.aH _ _ I;rw[Y,Z];cases a b<;>rfl
 have B:=NI.oI M O (F:=F) rfl hF h
 rw[i H W]at B
 have C:Yt c.rt c.op.rb σ (σ.set x.dst (.slice (some ⟨r,0,none⟩) ln ln)):=by rw[<-fE.gP];exact Yt.app (λt k=>qAd λj=>(a1 t (Uo G t j)).1 k) (λd U=>rfl)
 refine ZmB M O _ _ _ B _ _ C ?_
 rintro u S CL HF ⟨A,rfl,L,hR',hx⟩
 have E:A r=none:=by
  cases hh:A r with
  | none=>rfl
  | some y=>have:=(L r y (.cells g.toArray e,true) hh (Hp.aG _ _ _)).2;have I:=(L r y (.cells g.toArray e,true) hh (Hp.aG _ _ _)).1;rw[I]at this;simp at this
 rw[i A E]
 refine⟨hR _ _ _ _ W E hR',?_⟩
 obtain⟨_,jX,q,hx⟩:=(Zi4 hg V).1 hx
 have J:Yt x.rt [] σ (u.app σ):=Yt.app (λt k=>qAd λj=>a2 t (S t j) k) (λd U=>by simp at U)
 have:buildV (u.app σ) ps z=some g:=by rw[<-J.buildV (λt k=>by rw[Ed];exact k)];exact N
 rw[this]at q
 obtain rfl:=iO q
 have v:=hx r E
 rw[<-fE.gP]at v ⊢
 have FN:u.jE (fE.set x.dst (some (.slice (some ⟨r,0,none⟩) ln ln))):=by
  refine⟨λt=>?_,λd=>.inl (CL d)⟩;by_cases hm:t∈x.wt
  ·exact .inl (qAd λj=>(a1 t hm).2 (S t j))
  exact .inr (qAd λj=>hm (Uo G t j))
 rw[fE.comm FN]
 exact v
def NI.iE{i:NI}{K c:aM->Hp->Prop}(a:∀σ H,K σ H->c σ H){σ:aM}{H:Hp}(h:i.w P K σ H):i.w P c σ H:=by
 unfold NI.w at h ⊢;split at h
 ·exact bE.iE a h
 obtain⟨b,hb,f,g⟩:=h;exact⟨b,hb,λe=>bE.iE a (f e),λe=>a _ _ (g e)⟩
def Zi3{P:aX}{X:Nat->NI}{j:Nat->Option Bool}{Q:aM->Hp->Prop}{c:Nat}{p:List Nat}:∀(f:List Nat) (σ:aM) (H:Hp),(∀x∈f,L3 (X x) (X c)=true)->(∀x∈f,∀y∈f,∀t∈(X x).wt,t ∉ (X y).rt)->(∀x∈f,Ol P (X x) σ H) ->
  (X c).w P (λσ' m=>zC P.toPQ (j c) H m/\Go P X j Q (f++p) σ' m) σ H->Go P X j Q (f++c :: p) σ H
 | [],σ,H,_,_,_,h=>h
 | x :: f,σ,H,hb,v,k,h=>by
  have F:(X c).w P (λσ1 i=>zC P.toPQ (j c) H i/\(X x).w P (λσ2 B=>Go P X j Q (f++p) σ2 B) σ1 i) σ H:=
   NI.iE (λσ' m u=>⟨u.1,by have q:=u.2;simp only[qBG,Go]at q;exact NI.iE (λ_ _ I=>I.2) q⟩) h
  have G:=Ztm (R:=λH i=>zC P.toPQ (j c) H i) (hb x (by simp)) (k x (by simp)) (λH m r o O S J s K=>by
   have A:=J s K;refine⟨A.gh,λes b y a=>?_⟩;by_cases e:b=r
   ·subst e;rw[Hp.aG]at a ⊢;exact a
   rw[Hp.aH _ _ e]at a ⊢;exact A.mem es b y a) F
  simp only[qBG,Go];refine NI.iE ?_ G;rintro σ1 i ⟨C,D,E⟩;refine⟨C.kpt _,Zi3 f σ1 i (λy a=>hb y (by simp[a])) (λy a z N=>v y (by simp[a]) z (by simp[N])) (λy a=>D (X y) (λt M L=>v x (by simp) y (by simp[a]) t L M) (k y (by simp[a]))) E⟩
def L8(P:aX)(X:Nat->NI)(b:Nat->Option Bool)(W:Nat->Nat->Bool)(Q:aM->Hp->Prop):List Nat->aM->Hp->Prop
 | [],σ,H=>Q σ H
 | i :: l,σ,H=>((X i).op.cls≠0->∀x∈l,F0 (X x)=true->W x i=false->Ol P (X x) σ H)/\(X i).w P (λσ' a=>zC P.toPQ (b i) H a/\L8 P X b W Q l σ' a) σ H
def Bh(X:Nat->NI)(a:Nat->Option Bool)(W:Nat->Nat->Bool):List Nat->Bool
 | []=>true
 | c :: C=>(if(X c).op.cls == 0 then QE (X c) && (C.all λx=>W x c || (WG (X c) (X x) (a x) && (QE (X x) || ((X x).op.cls == 1 && (X x).op.zM))))
   else(C.all λx=>W x c || L3 (X x) (X c)) && (C.all λx=>W x c || C.all λy=>W y c || (X x).wt.all λt=>!((X y).rt.contains t))) && Bh X a W C
def Jo{P:aX}{n:Nat}{pre:Nat->List Nat}{X:Nat->NI}{R:Nat->Option Bool}{W:Nat->Nat->Bool}{Q:aM->Hp->Prop}(Y:∀(x e:Nat) (done:List Nat),(∀i∈done,∀p∈pre i,p∈done)->W x e=true->(∀p∈pre x,p∈done)->e∈done) :
  ∀(C:List Nat) {done l:List Nat} {σ:aM} {H:Hp},lX n pre done C->lX n pre done l->(∀i∈done,∀p∈pre i,p∈done)->Bh X R W C=true->L8 P X R W Q C σ H->Go P X R Q l σ H
 | [],done,l,σ,H,V,B,_,_,h=>by
  cases V with
  | nil J=>
   cases B with
   | nil _=>exact h
   | cons N E _ _=>exact absurd (J _ N) E
 | c :: C,done,l,σ,H,V,B,k,hB,h=>by
  cases V with
  | cons N E hp D=>
   have A:∀i∈c :: done,∀p∈pre i,p∈c :: done:=by
    intro i m p v;simp only[qAq]at m;rcases m with rfl | m
    ·exact qAP _ (hp p v)
    exact qAP _ (k i m p v)
   have K:c∈l:=(B.mem c N).resolve_left E;obtain⟨j,l2,rfl,F⟩:=List.eq_append_cons_of_mem K;have z:=lX.ahead N B F;simp only[Bh,qAc]at hB;obtain⟨f,I⟩:=hB;have g:∀x∈j,x∈C/\W x c=false:=by
    intro x a;have vI:x∈j++c :: l2:=by simp[a]
    have L:=B.fresh x vI;have hxc:x≠c:=λe=>F (e ▸ a);have b:x∈C:=by
     rcases D.mem x L.1 with h | h
     ·simp only[qAq]at h;rcases h with h | h
      ·exact absurd h hxc
      exact absurd h L.2
     exact h
    refine⟨b,?_⟩;cases hw:W x c with
    | false=>rfl
    | true=>
     exfalso;have key:∀(j:List Nat) (done:List Nat),lX n pre done (j++c :: l2)->(∀i∈done,∀p∈pre i,p∈done)->c ∉ j->c ∉ done->x∈j->False:=by
      intro j;induction j with
      | nil=>exact λ_ _ _ _ _ h=>by simp at h
      | cons y j ih=>
       intro done B k Z E a;cases B with
       | cons yL TA M z=>
        simp only[qAq]at a;rcases a with rfl | a
        ·exact E (Y x c done k hw M)
        refine ih (y :: done) z ?_ (λh=>Z (by simp[h])) ?_ a
        ·intro i m p v;simp only[qAq]at m;rcases m with rfl | m
         ·exact qAP _ (M p v)
         exact qAP _ (k i m p v)
        simp only[qAq,not_or]at Z ⊢;exact⟨Z.1,E⟩
     exact key j done B k F E a
   simp only[L8]at h;obtain⟨uR,h⟩:=h;by_cases S:(X c).op.cls=0
   ·simp only[S,qCn,qBp,qAc,IN]at f;obtain⟨u,hu,M2,CL,Dx⟩:=Xg (P:=P) f.1 _ _ _ h;have G:=Jo Y C D z A I hu.2;refine Lm (P:=P) trivial M2 CL j σ H (λx a=>?_) Dx G;obtain⟨b,w⟩:=g x a;have:=f.2 x b;rw[w]at this;simpa using this
   have pK:((X c).op.cls == 0)=false:=by simpa using S
   simp only[pK,DO,qAw,qAc,IN,qCs]at f;have q:∀x∈j,L3 (X x) (X c)=true:=λx a=>by obtain⟨b,w⟩:=g x a;exact(f.1 x b).resolve_left (by rw[w];simp)
   refine Zi3 j σ H q (λx a y hy t ht m=>?_) (λx a=>uR S x (g x a).1 (Zi2 (q x a)).1 (g x a).2) (NI.iE (λσ' H' ⟨T,U⟩=>⟨T,Jo Y C D z A I U⟩) h);obtain⟨b,w⟩:=g x a;obtain⟨hyC,hyw⟩:=g y hy;have T:=(f.2 x b).resolve_left (by rw[w];simp);have U:=(T y hyC).resolve_left (by rw[hyw];simp);have h3:=U t ht;simp at h3;exact h3 m
