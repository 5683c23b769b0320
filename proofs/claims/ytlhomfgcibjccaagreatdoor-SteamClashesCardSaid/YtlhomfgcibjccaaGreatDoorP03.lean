import Derived.Test.YtlhomfgcibjccaaGreatDoorP02
set_option linter.all false
namespace Go.LL
section
variable{P:PQ}{s:Bool}{ts bs:List Nat}{x:Operand}{d:Nat}
structure Hp.Sub(H H':Hp):Prop where
 mem:∀b x,H b=some x->H' b=some x
 gh:H'.gh=H.gh
structure VW(P:PQ)(s:Bool)(H H':Hp):Prop where
 gh:P.still H'.gh=P.still H.gh
 mem:s=true->∀b x,H b=some x->H' b=some x
theorem VW.refl(s:Bool)(H:Hp):VW P s H H:=⟨rfl,λ_ _ _ h=>h⟩
theorem VW.trans{H H' nA:Hp}(h:VW P s H H')(h':VW P s H' nA):VW P s H nA:=⟨h'.gh.trans h.gh,λe b x hx=>h'.mem e b x (h.mem e b x hx)⟩
theorem Hp.Sub.lW{H H':Hp}(h:H.Sub H')(s:Bool):VW P s H H':=⟨by rw[h.gh],λ_=>h.mem⟩
def yJ(P:PQ)(f:Option Bool)(H H':Hp):Prop:=∀s,f=some s->VW P s H H'
theorem yJ.refl(f:Option Bool)(H:Hp):yJ P f H H:=λs _=>.refl s H
theorem Hp.Sub.kpt{H H':Hp}(h:H.Sub H')(f:Option Bool):yJ P f H H':=λs _=>h.lW s
def XO(s:Bool)(f:Option Bool):Bool:=match f with | some true=>true | some false=>!s | none=>false
theorem Zto{f:Option Bool}(h:XO s f=true){H H':Hp}(k:yJ P f H H'):VW P s H H':=by
 unfold XO at h;split at h
 ·have:=k true rfl;exact⟨this.gh,λ_=>this.mem rfl⟩
 ·have:=k false rfl;exact⟨this.gh,λe=>by rw[e]at h;simp at h⟩
 simp at h
theorem Hp.Sub.refl(H:Hp):H.Sub H:=⟨λ_ _ h=>h,rfl⟩
structure fD where
 fe:Nat->Option (Option Value)
 fb:Nat->Option (List Value)
def fD.app(u:fD)(σ:aN):aN:={ env:=λt=>(u.fe t).getD (σ.env t),box:=λd=>match u.fb d with | some cs=>some cs | none=>σ.box d,cX:=σ.cX }
def fD.set(dst:Option Nat)(v:Option Value):fD:=
 { fe:=λt=>match dst with | some d=>bif Nat.beq t d then some v else none | none=>none,fb:=λ_=>none }
def fD.new(d:Nat)(ts:List Nat)(z:List Value):fD:=
 { fe:=λt=>bif Nat.beq t d then some (some (.int .i64 0))else bif ts.elem t then some none else none,fb:=λb=>bif Nat.beq b d then some z else none }
theorem aN.ext'{σ σ':aN}(h1:∀t,σ.env t=σ'.env t)(h2:∀d,σ.box d=σ'.box d)(h3:σ.cX=σ'.cX):σ=σ':=by obtain⟨e,b,d⟩:=σ;obtain⟨e',b',d'⟩:=σ';have:e=e':=funext h1;have:b=b':=funext h2;simp_all
theorem fD.gU(σ:aN)(dst:Option Nat)(v:Value):(fD.set dst (some v)).app σ=σ.set dst v:=by
 cases dst with
 | none=>rfl
 | some d=>
  refine aN.ext' (λt=>?_) (λ_=>rfl) rfl;simp only[fD.app,fD.set,aN.set];cases Nat.beq t d<;>rfl
theorem fD.gW(σ:aN)(dst:Option Nat):(fD.set dst (some undef)).app σ=σ.gA dst:=by
 cases dst with
 | none=>rfl
 | some d=>
  refine aN.ext' (λt=>?_) (λ_=>rfl) rfl;simp only[fD.app,fD.set,aN.gA];cases Nat.beq t d<;>rfl
theorem fD.vJ(σ:aN)(d:Nat)(ts:List Nat)(z:List Value):(fD.new d ts z).app σ=((σ.drop ts).set (some d) (.int .i64 0)).dD d z:=by
 refine aN.ext' (λt=>?_) (λb=>?_) rfl
 ·simp only[fD.app,fD.new,aN.set,aN.drop,aN.dD];cases Nat.beq t d with
  | true=>rfl
  | false=>cases ts.elem t<;>rfl
 simp only[fD.app,fD.new,aN.set,aN.drop,aN.dD];cases Nat.beq b d<;>rfl
def fD.iZ(u v:fD):Prop:=(∀t,u.fe t=none\/v.fe t=none)/\∀d,u.fb d=none\/v.fb d=none
theorem fD.comm{u v:fD}(h:u.iZ v)(σ:aN):u.app (v.app σ)=v.app (u.app σ):=by
 refine aN.ext' (λt=>?_) (λd=>?_) rfl
 ·simp only[fD.app];rcases h.1 t with e | e<;>simp[e]
 simp only[fD.app];rcases h.2 d with e | e<;>rw[e]<;>cases u.fb d<;>cases v.fb d<;>simp_all
def Yy:Operand->List Nat
 | .tmp t=>[t]
 | _=>[]
def bC.rt:bC->List Nat
 | .fB x | .not x | .ext x _ | .mG _ _ x | .bM _ x | .ld _ x | .len x | .cB _ _ x=>Yy x
 | .pick c a b=>Yy c++Yy a++Yy b
 | .bQ _ x y | .cJ _ x y=>Yy x++Yy y
 | .bE ..=>[]
 | .dE _ t=>[t]
 | .fR _ _ t i=>t :: Yy i
 | .jM _ _ t=>[t]
 | .sL _ _ t x=>t :: Yy x
 | .call _ args=>args.flatMap Yy
 | .build _ ps=>ps.flatMap λp=>Yy p.2.2
 | .bL _ _ _ ps=>ps.flatMap λp=>Yy p.2.2
 | .raw op _=>op.operands.toList.flatMap Yy
 | .jA op _=>op.operands.toList.flatMap Yy
 | .dA op _=>op.operands.toList.flatMap Yy
def bC.rb:bC->List Nat
 | .jM d _ _=>[d]
 | .sL d _ _ _=>[d]
 | _=>[]
def bC.D3:bC->Bool
 | .ld ..=>true
 | _=>false
def NI.rt(i:NI):List Nat:=(match i.g with | some (t,_)=>[t] | none=>[])++i.op.rt
def NI.wt(i:NI):List Nat:=i.dst.toList++match i.op with | .bE d ts _ | .cB d ts _=>d :: ts | _=>[]
def NI.wb(i:NI):List Nat:=match i.op with | .bE d _ _ | .cB d _ _ | .sL d _ _ _=>[d] | _=>[]
def bC.cls:bC->Nat
 | .call .. | .bL .. | .raw .. | .jA ..=>1
 | .sL ..=>2
 | _=>0
def Yt(ts bs:List Nat)(σ σ':aN):Prop:=(∀t∈ts,σ.env t=σ'.env t)/\∀d∈bs,σ.box d=σ'.box d
theorem Yt.get{σ σ':aN}(h:Yt ts bs σ σ')(hx:∀t∈Yy x,t∈ts):σ.get x=σ'.get x:=by
 cases x with
 | tmp t=>exact h.1 t (hx t (by simp[Yy]))
 | _=>rfl
theorem Yt.gets{σ σ':aN}(h:Yt ts bs σ σ'):∀{xs:List Operand},(∀t∈xs.flatMap Yy,t∈ts)->σ.gets xs=σ'.gets xs
 | [],_=>rfl
 | x :: xs,hx=>by simp only[aN.gets];rw[h.get (λt ht=>hx t (by simp[ht])),h.gets (xs:=xs) (λt ht=>hx t (by rw[qAL];simp only[qAS];exact .inr ht))]
theorem Yt.dU{σ σ':aN}(h:Yt ts bs σ σ'):∀{ps:List (Nat×Nat×Operand)} {z:List Value},(∀t∈ps.flatMap (λp=>Yy p.2.2),t∈ts)->Go.LL.dU σ ps z=Go.LL.dU σ' ps z
 | [],_,_=>rfl
 | (off,sz,x) :: ps,z,hx=>by
  simp only[Go.LL.dU];rw[h.get (x:=x) (λt ht=>hx t (by simp[ht]))];cases σ'.get x with
  | none=>rfl
  | some v=>simp only;rw[h.dU (ps:=ps) (λt ht=>hx t (by rw[qAL];simp only[qAS];exact .inr ht))]
def NI.w(P:bF)(i:NI)(K:aN->Hp->Prop)(σ:aN)(H:Hp):Prop:=
 match i.g with
 | none=>i.op.w P i.dst K σ H
 | some (t,gT)=>∃v,σ.env t=some v/\(v=.bool gT->i.op.w P i.dst K σ H)/\(v≠.bool gT->K (σ.gA i.dst) H)
def O0(P:bF)(i:NI):Prop:=∀(K:aN->Hp->Prop) σ H,i.w P K σ H->∃u:fD,K (u.app σ) H/\(∀t,u.fe t≠none->t∈i.wt)/\(∀d,u.fb d≠none->d∈i.wb) /\
 ∀(K':aN->Hp->Prop) σ' H',Yt i.rt i.op.rb σ σ'->VW P.toPQ i.op.D3 H H'->K' (u.app σ') H'->i.w P K' σ' H'
def ZnH(P:bF)(i:NI):Prop:=∀(K:aN->Hp->Prop) σ H,i.w P K σ H->∀(K':aN->Hp->Prop) σ',Yt i.rt i.op.rb σ σ'->(∀u:fD,(∀t,u.fe t≠none->t∈i.wt)->(∀d,u.fb d=none)->∀H',K (u.app σ) H'->K' (u.app σ') H')->i.w P K' σ' H
theorem Un{dst:Option Nat}{v:Option Value}{wt:List Nat}(h:∀d,dst=some d->d∈wt):∀t,(fD.set dst v).fe t≠none->t∈wt:=by
 intro t ht;cases dst with
 | none=>exact absurd rfl ht
 | some d=>
  simp only[fD.set]at ht;cases hb:Nat.beq t d with
  | false=>rw[hb]at ht;exact absurd rfl ht
  | true=>rw[qAQ hb];exact h d rfl
theorem Oh(i:NI):∀d,i.dst=some d->d∈i.wt:=by intro d hd;simp[NI.wt,hd]
theorem Zu0{P:bF}{i:NI}{val:aN->Hp->Option Value}(bH:∀K σ H,i.op.w P i.dst K σ H↔∃v,val σ H=some v/\K (σ.set i.dst v) H)
  (gY:∀σ σ' H H' v,Yt i.rt i.op.rb σ σ'->VW P.toPQ i.op.D3 H H'->val σ H=some v->val σ' H'=some v):O0 P i:=by
 intro K σ H h;unfold NI.w at h;have uT:i.op.w P i.dst K σ H->∃v,K ((fD.set i.dst (some v)).app σ) H/\∀(K':aN->Hp->Prop) σ' H',Yt i.rt i.op.rb σ σ'->VW P.toPQ i.op.D3 H H'->K' ((fD.set i.dst (some v)).app σ') H'->i.op.w P i.dst K' σ' H':=by intro h;obtain⟨v,h1,h2⟩:=(bH _ _ _).1 h;refine⟨v,by rw[fD.gU];exact h2,λK' σ' H' ha hs hk=>(bH _ _ _).2 ⟨v,gY _ _ _ _ _ ha hs h1,?_⟩⟩;rw[fD.gU]at hk;exact hk
 have xT:∀v:Option Value,∀d,(fD.set i.dst v).fb d≠none->d∈i.wb:=λv d h=>absurd rfl h;cases hg:i.g with
 | none=>
  rw[hg]at h;obtain⟨v,h1,h2⟩:=uT h;refine⟨_,h1,Un (Oh i),xT _,λK' σ' H' ha hs hk=>?_⟩;unfold NI.w;rw[hg];exact h2 K' σ' H' ha hs hk
 | some p=>
  obtain⟨t,gT⟩:=p;rw[hg]at h;obtain⟨b,hb,h1,h2⟩:=h;have hr:∀σ',Yt i.rt i.op.rb σ σ'->σ'.env t=some b:=λσ' ha=>by rw[<-ha.1 t (by simp[NI.rt,hg])];exact hb
  by_cases vU:b=.bool gT
  ·obtain⟨v,h3,h4⟩:=uT (h1 vU);refine⟨_,h3,Un (Oh i),xT _,λK' σ' H' ha hs hk=>?_⟩;unfold NI.w;rw[hg];exact⟨b,hr σ' ha,λ_=>h4 K' σ' H' ha hs hk,λhn=>absurd vU hn⟩
  refine⟨fD.set i.dst (some undef),by rw[fD.gW];exact h2 vU,Un (Oh i),xT _,λK' σ' H' ha hs hk=>?_⟩;unfold NI.w;rw[hg];rw[fD.gW]at hk;exact⟨b,hr σ' ha,λe=>absurd e vU,λ_=>hk⟩
def LV(o:Obj)(off:Nat):Nat->Option (List Value)
 | 0=>some []
 | n+1=>match Obj.mH o off,LV o (off+1) n with
  | some v,some vs=>some (v :: vs)
  | _,_=>none
theorem Bh{o:Obj}:∀{n off:Nat} {cs:List Value},LV o off n=some cs↔cs.length=n/\∀j,j<n->Obj.mH o (off+j)=cs[j]?
 | 0,off,cs=>by
  simp only[LV,iF,qBh,false_implies,qBt,qCQ];constructor
  ·rintro rfl;rfl
  exact λh=>(qAf h).symm
 | n+1,off,cs=>by
  simp only[LV];constructor
  ·intro h;split at h
   ·rename_i v vs h1 h2;simp only[iF]at h;subst h;obtain⟨h3,h4⟩:=Bh.1 h2;refine⟨by simp[h3],λj hj=>?_⟩;cases j with
    | zero=>simpa using h1
    | succ j=>
     have:=h4 j O;rw[qAU,<-this];congr 1;omega
   simp at h
  rintro⟨h1,h2⟩;cases cs with
  | nil=>simp at h1
  | cons v vs=>
   have e1:Obj.mH o off=some v:=by simpa using h2 0 O
   have e2:LV o (off+1) n=some vs:=Bh.2 ⟨by simpa using h1,λj hj=>by have:=h2 (j+1) O;rw[qAU]at this;rw[<-this];congr 1;omega⟩;simp[e1,e2]
def bC.val(st:Bool)(op:bC)(σ:aN)(H:Hp):Option Value:=
 match op with
 | .fB x=>σ.get x
 | .pick c a b=>match σ.get c with | some (.bool t)=>σ.get (bif t then a else b) | _=>none
 | .bQ op x y=>match σ.get x,σ.get y with
  | some (.int k m),some (.int k' n)=>if k=k' then E0 op k m n else none
  | _,_=>none
 | .not x=>match σ.get x with | some (.bool b)=>some (.bool !b) | _=>none
 | .ext x i=>match σ.get x with | some (.tuple vs)=>vs[i]? | _=>none
 | .mG off n x=>match σ.get x with
  | some (.agg cs)=>match n with | none=>cs[off]? | some n=>some (.agg (cs.extract off (off+n)))
  | _=>none
 | .bM off x=>match σ.get x with | some (.pointer (some a))=>some (.pointer (some (a.add off))) | _=>none
 | .cJ eH x i=>match σ.get x,σ.get i with
  | some (.slice (some a) ln _),some (.int _ n)=>if 0<=n/\n<ln then some (.pointer (some (a.add (n.toNat * eH))))else none
  | _,_=>none
 | .ld n x=>if st=true then none else match σ.get x with
  | some (.pointer (some a))=>if a.spot=none then
    match H a.block with
    | some (o,_)=>match n with
     | none=>Obj.mH o a.off
     | some n=>(LV o a.off n).map λcs=>.agg cs.toArray
    | none=>none
   else none
  | _=>none
 | .len x=>match σ.get x with | some (.slice _ n _)=>some (.int .i64 (n:Nat)) | _=>none
 | .dE off t=>match σ.env t with | some (.int .i64 (.ofNat n))=>some (.int .i64 ((n+off:Nat):Int)) | _=>none
 | .fR eH ln t i=>match σ.env t,σ.get i with
  | some (.int .i64 (.ofNat n)),some (.int _ j)=>if 0<=j/\j<ln then some (.int .i64 ((n+j.toNat * eH:Nat):Int))else none
  | _,_=>none
 | .jM d n t=>if st=true then none else match σ.env t,σ.box d with
  | some (.int .i64 (.ofNat off)),some cs=>match n with
   | none=>cs[off]?
   | some n=>if off+n<=cs.length then some (.agg ((cs.drop off).take n).toArray)else none
  | _,_=>none
 | .build z ps=>(dU σ ps z).map λcs=>.agg cs.toArray
 | _=>none
def bC.oU:bC->Bool
 | .fB _ | .pick .. | .bQ .. | .not _ | .ext .. | .mG .. | .bM .. | .cJ .. | .ld .. | .len _ | .dE .. | .fR .. | .jM .. | .build ..=>true
 | _=>false
theorem bC.y8{P:bF}{op:bC}(ho:op.oU=true)(dst:Option Nat)(K:aN->Hp->Prop)(σ:aN)(H:Hp):op.w P dst K σ H↔∃v,op.val (P.still H.gh) σ H=some v/\K (σ.set dst v) H:=by
 cases op<;>simp only[bC.oU,iN]at ho<;>simp only[bC.w,bC.val]
 case pick c a b=>
  constructor
  ·rintro⟨t,v,h1,h2,h3⟩;exact⟨v,by simp only[h1];exact h2,h3⟩
  ·rintro⟨v,h1,h2⟩;split at h1;exact⟨_,v,‹_›,h1,h2⟩;simp at h1
 case bQ op x y=>
  constructor
  ·rintro⟨k,p,q,v,h1,h2,h3,h4⟩;exact⟨v,by simp[h1,h2,h3],h4⟩
  ·rintro⟨v,h1,h2⟩;split at h1
   ·split at h1
    ·rename_i e;subst e;exact⟨_,_,_,v,‹_›,‹_›,h1,h2⟩
    simp at h1
   simp at h1
 case not x=>
  constructor
  ·rintro⟨b,h1,h2⟩;exact⟨_,by simp[h1],h2⟩
  ·rintro⟨v,h1,h2⟩;split at h1;simp only[iF]at h1;subst h1;exact⟨_,‹_›,h2⟩;simp at h1
 case ext x i=>
  constructor
  ·rintro⟨vs,v,h1,h2,h3⟩;exact⟨v,by simp[h1,h2],h3⟩
  ·rintro⟨v,h1,h2⟩;split at h1;exact⟨_,v,‹_›,h1,h2⟩;simp at h1
 case mG off n x=>
  constructor
  ·rintro⟨cs,h1,h2⟩;cases n with
   | none=>obtain⟨v,h3,h4⟩:=h2;exact⟨v,by simp[h1,h3],h4⟩
   | some n=>exact⟨_,by simp[h1],h2⟩
  ·rintro⟨v,h1,h2⟩;split at h1
   ·refine⟨_,‹_›,?_⟩;cases n with
    | none=>exact⟨v,h1,h2⟩
    | some n=>simp only[iF]at h1;subst h1;exact h2
   simp at h1
 case bM off x=>
  constructor
  ·rintro⟨b,h1,h2⟩;exact⟨_,by simp[h1],h2⟩
  ·rintro⟨v,h1,h2⟩;split at h1;simp only[iF]at h1;subst h1;exact⟨_,‹_›,h2⟩;simp at h1
 case cJ eH x i=>
  constructor
  ·rintro⟨b,ln,cap,k,n,h1,h2,h3,h4,h5⟩;exact⟨_,by simp[h1,h2,h3,h4],h5⟩
  ·rintro⟨v,h1,h2⟩;split at h1
   ·split at h1
    ·rename_i hc;simp only[iF]at h1;subst h1;exact⟨_,_,_,_,_,‹_›,‹_›,hc.1,hc.2,h2⟩
    simp at h1
   simp at h1
 case ld n x=>
  constructor
  ·rintro⟨bB,b,o,p,h1,h2,h3,h4⟩;cases n with
   | none=>obtain⟨v,h5,h6⟩:=h4;exact⟨v,by simp[bB,h1,h2,h3,h5],h6⟩
   | some n=>obtain⟨cs,h5,h6,h7⟩:=h4;exact⟨_,by simp[bB,h1,h2,h3,Bh.2 ⟨h5,h6⟩],h7⟩
  ·rintro⟨v,h1,h2⟩;split at h1
   ·simp at h1
   rename_i bB;simp only[Bool.not_eq_true]at bB;refine⟨bB,?_⟩;split at h1
   ·split at h1
    ·split at h1
     ·refine⟨_,_,_,‹_›,‹_›,‹_›,?_⟩;cases n with
      | none=>exact⟨v,h1,h2⟩
      | some n=>
       simp only[qAm]at h1;obtain⟨cs,h3,rfl⟩:=h1;obtain⟨h4,h5⟩:=Bh.1 h3;exact⟨cs,h4,h5,h2⟩
     simp at h1
    simp at h1
   simp at h1
 case len x=>
  constructor
  ·rintro⟨b,n,c,h1,h2⟩;exact⟨_,by simp[h1],h2⟩
  ·rintro⟨v,h1,h2⟩;split at h1;simp only[iF]at h1;subst h1;exact⟨_,_,_,‹_›,h2⟩;simp at h1
 case dE off t=>
  constructor
  ·rintro⟨n,h1,h2⟩;exact⟨_,by rw[h1],h2⟩
  ·rintro⟨v,h1,h2⟩;split at h1;simp only[iF]at h1;subst h1;exact⟨_,‹_›,h2⟩;simp at h1
 case fR eH ln t i=>
  constructor
  ·rintro⟨n,k,j,h1,h2,h3,h4,h5⟩;refine⟨_,?_,h5⟩;rw[h1,h2];show(if 0<=j/\j<ln then _ else _)=_;rw[iO ⟨h3,h4⟩]
  ·rintro⟨v,h1,h2⟩;split at h1
   ·split at h1
    ·rename_i hc;simp only[iF]at h1;subst h1;exact⟨_,_,_,‹_›,‹_›,hc.1,hc.2,h2⟩
    simp at h1
   simp at h1
 case jM d n t=>
  constructor
  ·rintro⟨bB,off,cs,h1,h2,h3⟩;rw[bB,h1,h2];cases n with
   | none=>obtain⟨v,h4,h5⟩:=h3;exact⟨v,h4,h5⟩
   | some n=>obtain⟨h4,h5⟩:=h3;exact⟨_,by show(if off+n<=cs.length then _ else _)=_;rw[iO h4],h5⟩
  ·rintro⟨v,h1,h2⟩;split at h1
   ·simp at h1
   rename_i bB;simp only[Bool.not_eq_true]at bB;refine⟨bB,?_⟩;split at h1
   ·refine⟨_,_,‹_›,‹_›,?_⟩;cases n with
    | none=>exact⟨v,h1,h2⟩
    | some n=>
     simp only at h1;split at h1
     ·simp only[iF]at h1;subst h1;exact⟨‹_›,h2⟩
     simp at h1
   simp at h1
 case build z ps=>
  constructor
  ·rintro⟨cs,h1,h2⟩;exact⟨_,by simp[h1],h2⟩
  ·rintro⟨v,h1,h2⟩;simp only[qAm]at h1;obtain⟨cs,h3,rfl⟩:=h1;exact⟨cs,h3,h2⟩
theorem bC.wF{op:bC}(ho:op.oU=true){σ σ':aN}{H H':Hp}{v:Value}(iM:∀t∈op.rt,t∈ts)(ha:Yt ts op.rb σ σ')(hs:VW P op.D3 H H'){st:Bool}(h:op.val st σ H=some v):op.val st σ' H'=some v:=by
 cases op<;>simp only[bC.oU,iN]at ho<;>simp only[bC.val]at h ⊢<;>simp only[bC.rt,qAS,qAp]at iM
 case fB x=>rw[<-ha.get iM];exact h
 case pick c a b=>
  rw[<-ha.get (x:=c) λt ht=>iM t (.inl (.inl ht))]
  split at h
  ·rename_i t ht;have:σ'.get (bif t then a else b)=σ.get (bif t then a else b):=by
    cases t
    ·exact(ha.get (x:=b) λt ht=>iM t (.inr ht)).symm
    exact(ha.get (x:=a) λt ht=>iM t (.inl (.inr ht))).symm
   rw[this];exact h
  ·simp at h
 case bQ op x y=>rw[<-ha.get (x:=x) λt ht=>iM t (.inl ht),<-ha.get (x:=y) λt ht=>iM t (.inr ht)];exact h
 case not x=>rw[<-ha.get iM];exact h
 case ext x i=>rw[<-ha.get iM];exact h
 case mG off n x=>rw[<-ha.get iM];exact h
 case bM off x=>rw[<-ha.get iM];exact h
 case cJ eH x y=>rw[<-ha.get (x:=x) λt ht=>iM t (.inl ht),<-ha.get (x:=y) λt ht=>iM t (.inr ht)];exact h
 case ld n x=>
  rw[<-ha.get iM]
  cases st
  case true=>simp at h
  simp only[iN,qAk]at h ⊢
  split at h
  ·rename_i a hx;split at h
   ·rename_i N3;rw[iO N3];cases hb:H a.block with
    | none=>rw[hb]at h;simp at h
    | some x=>rw[hs.mem rfl _ _ hb];rw[hb]at h;exact h
   simp at h
  ·simp at h
 case len x=>rw[<-ha.get iM];exact h
 case dE off t=>rw[<-ha.1 t (iM t (by simp))];exact h
 case fR eH ln t i=>rw[<-ha.1 t (iM t (.inl rfl)),<-ha.get (x:=i) λs hs=>iM s (.inr hs)];exact h
 case jM d n t=>rw[<-ha.1 t (iM t (by simp)),<-ha.2 d (by simp[bC.rb])];exact h
 case build z ps=>rw[<-ha.dU (ps:=ps) iM];exact h
theorem Zu1{P:bF}{i:NI}(ho:i.op.oU=true):O0 P i:=
 Zu0 (val:=λσ H=>i.op.val (P.still H.gh) σ H) (λK σ H=>bC.y8 ho i.dst K σ H) (λσ σ' H H' v ha hs h=>by simp only[hs.gh];exact bC.wF ho (λt ht=>by simp[NI.rt,ht]) ha hs h)
theorem Zmu{P:bF}{i:NI}(hg:i.g=none)(nF:∀t,t=d\/t∈ts->t∈i.wt)(xT:d∈i.wb){val:aN->Bool->Option (List Value)}
  (bH:∀K σ H,i.op.w P i.dst K σ H↔∃z,val σ (P.still H.gh)=some z/\K (((σ.drop ts).set (some d) (.int .i64 0)).dD d z) H) (gY:∀σ σ' z g,Yt i.rt i.op.rb σ σ'->val σ g=some z->val σ' g=some z):O0 P i:=by
 intro K σ H h;unfold NI.w at h;rw[hg]at h;obtain⟨z,h1,h2⟩:=(bH _ _ _).1 h;refine⟨fD.new d ts z,by rw[fD.vJ];exact h2,λt ht=>?_,λb hb=>?_,λK' σ' H' ha hs hk=>?_⟩
 ·simp only[fD.new]at ht;cases e:Nat.beq t d with
  | true=>exact nF t (.inl (qAQ e))
  | false=>
   rw[e]at ht;cases e2:ts.elem t with
   | true=>exact nF t (.inr (by simpa using e2))
   | false=>rw[e2]at ht;exact absurd rfl ht
 ·simp only[fD.new]at hb;cases e:Nat.beq b d with
  | true=>rw[qAQ e];exact xT
  | false=>rw[e]at hb;exact absurd rfl hb
 unfold NI.w;rw[hg];rw[fD.vJ]at hk;exact(bH _ _ _).2 ⟨z,by rw[hs.gh];exact gY _ _ _ _ ha h1,hk⟩
theorem Zu3{P:bF}{i:NI}{z:List Value}(hg:i.g=none)(ho:i.op=.bE d ts z):O0 P i:=
 Zmu (val:=λ_ g=>if g=false then some z else none) hg (λt ht=>by simp only[NI.wt,ho,qAS,qAp];exact .inr ht) (by simp[NI.wb,ho]) (λK σ H=>by rw[ho];by_cases hs:P.still H.gh=false<;>simp[bC.w,hs]) (λ_ _ _ _ _ h=>h)
theorem Zu5{P:bF}{i:NI}(hg:i.g=none)(ho:i.op=.cB d ts x):O0 P i:=
 Zmu (val:=λσ g=>if g=false then(σ.get x).map λv=>v.cells.toList else none) hg (λt ht=>by simp only[NI.wt,ho,qAS,qAp];exact .inr ht) (by simp[NI.wb,ho])
  (λK σ H=>by
   rw[ho];simp only[bC.w];constructor
   ·rintro⟨hs,v,h1,h2⟩;exact⟨_,by simp[h1,hs],h2⟩
   rintro⟨z,h1,h2⟩;split at h1
   ·rename_i hs;simp only[qAm]at h1;obtain⟨v,h3,rfl⟩:=h1;exact⟨hs,v,h3,h2⟩
   simp at h1)
  (λσ σ' z g ha h=>by rw[<-ha.get (x:=x) λt ht=>by simp[NI.rt,ho,bC.rt,ht]];exact h)
end
section
variable{ts bs done l:List Nat}{op:Op}{ty:TypeId}{n:Nat}{pre:Nat->List Nat}
theorem Yt.app{σ:aN}{u:fD}(h1:∀t∈ts,u.fe t=none)(h2:∀d∈bs,u.fb d=none):Yt ts bs σ (u.app σ):=
 ⟨λt ht=>by simp[fD.app,h1 t ht],λd hd=>by simp[fD.app,h2 d hd]⟩
theorem Yt.Kh{σ:aN}{u:fD}(h1:∀t∈ts,u.fe t=none)(h2:∀d∈bs,u.fb d=none):Yt ts bs (u.app σ) σ:=
 ⟨λt ht=>by simp[fD.app,h1 t ht],λd hd=>by simp[fD.app,h2 d hd]⟩
theorem Zvr{P:bF}{i:NI}(bH:∀(K K':aN->Hp->Prop) σ σ' H,i.op.w P i.dst K σ H->Yt i.rt i.op.rb σ σ'->(∀v H',K (σ.set i.dst v) H'->K' (σ'.set i.dst v) H')->i.op.w P i.dst K' σ' H):ZnH P i:=by
 intro K σ H h K' σ' ha hk;unfold NI.w at h ⊢;have l6:∀v H',K (σ.set i.dst v) H'->K' (σ'.set i.dst v) H':=λv H' hh=>by have:=hk (fD.set i.dst (some v)) (Un (Oh i)) (λ_=>rfl) H';rw[fD.gU,fD.gU]at this;exact this hh
 cases hg:i.g with
 | none=>
  rw[hg]at h;exact bH _ _ _ _ _ h ha l6
 | some p=>
  obtain⟨t,gT⟩:=p;rw[hg]at h;obtain⟨b,hb,h1,h2⟩:=h;refine⟨b,by rw[<-ha.1 t (by simp[NI.rt,hg])];exact hb,λe=>bH _ _ _ _ _ (h1 e) ha l6,λe=>?_⟩;have:=hk (fD.set i.dst (some undef)) (Un (Oh i)) (λ_=>rfl) H;rw[fD.gW,fD.gW]at this;exact this (h2 e)
theorem ZhS{σ σ':aN}(h:Yt ts bs σ σ')(hs:∀cs b,op≠.select cs b)(hx:∀t∈op.operands.toList.flatMap Yy,t∈ts) :
  (op.operands.all λx=>(σ.get x).isSome)=(op.operands.all λx=>(σ'.get x).isSome)/\execOp (λx=>(σ.get x).getD undef) (aP op ty)=execOp (λx=>(σ'.get x).getD undef) (aP op ty):=by
 have hg:∀x∈op.operands,σ.get x=σ'.get x:=λx hm=>h.get λt ht=>hx t (by simp only[List.mem_flatMap];exact⟨x,qAt.2 hm,ht⟩);refine⟨?_,ZmJ (o:=aP op ty) (λx hm=>by rw[hg x hm]) hs⟩;rw[qCk,qAe,qAe];constructor<;>intro hh x hm
 ·rw[<-hg x hm];exact hh x hm
 rw[hg x hm];exact hh x hm
def R1:Op->Bool
 | .select ..=>true
 | _=>false
def bC.yR:bC->Bool
 | .raw op _=>!R1 op && !RZ op
 | .jA ..=>false
 | _=>true
theorem ZmO{P:bF}{i:NI}(hc:i.op.cls=1)(hk:i.op.yR=true):ZnH P i:=by
 refine Zvr λK K' σ σ' H h ha l6=>?_;have iM:∀t∈i.op.rt,t∈i.rt:=λt ht=>by simp[NI.rt,ht]
 cases ho:i.op<;>rw[ho]at hc h iM hk ha<;>first | (exfalso;simp[bC.cls]at hc;done) | skip
 all_goals simp only[bC.w]at h ⊢
 case call f args=>
  obtain⟨vs,h1,h2⟩:=h
  exact⟨vs,by rw[<-ha.gets iM];exact h1,h2.mono λv H' hv=>l6 v H' hv⟩
 case bL e ln z ps=>
  obtain⟨hs,cs,h1,h2⟩:=h
  exact⟨hs,cs,by rw[<-ha.dU iM];exact h1,λr hr=>l6 _ _ (h2 r hr)⟩
 case jA op ty=>simp[bC.yR]at hk
 case raw op ty=>
  have HM:∀cs b,op≠.select cs b:=by rintro cs b rfl;simp[bC.yR,R1]at hk
  have I1:RZ op=false:=by simp only[bC.yR,BY,qAP]at hk;exact hk.2
  obtain⟨e1,e2⟩:=ZhS ha (ty:=ty) HM iM
  refine⟨by rw[<-e1];exact h.1,?_⟩
  rw[<-e2]
  refine h.2.imp (Vh ?_) (Zm.mono · λv H hv=>l6 _ _ hv)
  rintro n g H' (hg | hn)
  ·exact .inl hg
  ·refine .inr ?_;cases n with
   | value v=>exact l6 _ _ hn
   | skip=>exact l6 _ _ hn
   | enter f args=>exact Zc.mono hn λv H hv=>l6 _ _ hv
   | round l f tmps aB bd=>exact UY.mono hn λv H hv=>l6 _ _ hv
   | defer d=>exact absurd (I1.symm.trans hn.1) (by simp)
   | _=>exact hn.elim
theorem Zu2{P:bF}{i:NI}(ho:i.op=.dA op ty)(jR:R1 op=false):O0 P i:=by
 intro K σ H h;unfold NI.w at h;have HM:∀cs b,op≠.select cs b:=by rintro cs b rfl;simp[R1]at jR
 have iM:∀t∈i.op.rt,t∈i.rt:=λt ht=>by simp[NI.rt,ht]
 have uT:i.op.w P i.dst K σ H->∃v,K ((fD.set i.dst (some v)).app σ) H/\∀(K':aN->Hp->Prop) σ' H',Yt i.rt i.op.rb σ σ'->VW P.toPQ i.op.D3 H H'->K' ((fD.set i.dst (some v)).app σ') H'->i.op.w P i.dst K' σ' H':=by intro h;rw[ho]at h iM;obtain⟨h1,v,h2,h3⟩:=h;refine⟨v,by rw[fD.gU];exact h3,λK' σ' H' ha hs hk=>?_⟩;rw[ho]at ha ⊢;obtain⟨e1,e2⟩:=ZhS ha (ty:=ty) HM iM;refine⟨by rw[<-e1];exact h1,v,by rw[<-e2];exact h2,?_⟩;rw[fD.gU]at hk;exact hk
 have xT:∀v:Option Value,∀d,(fD.set i.dst v).fb d≠none->d∈i.wb:=λv d h=>absurd rfl h;cases hg:i.g with
 | none=>
  rw[hg]at h;obtain⟨v,h1,h2⟩:=uT h;refine⟨_,h1,Un (Oh i),xT _,λK' σ' H' ha hs hk=>?_⟩;unfold NI.w;rw[hg];exact h2 K' σ' H' ha hs hk
 | some p=>
  obtain⟨t,gT⟩:=p;rw[hg]at h;obtain⟨b,hb,h1,h2⟩:=h;have hr:∀σ',Yt i.rt i.op.rb σ σ'->σ'.env t=some b:=λσ' ha=>by rw[<-ha.1 t (by simp[NI.rt,hg])];exact hb
  by_cases vU:b=.bool gT
  ·obtain⟨v,h3,h4⟩:=uT (h1 vU);refine⟨_,h3,Un (Oh i),xT _,λK' σ' H' ha hs hk=>?_⟩;unfold NI.w;rw[hg];exact⟨b,hr σ' ha,λ_=>h4 K' σ' H' ha hs hk,λhn=>absurd vU hn⟩
  refine⟨fD.set i.dst (some undef),by rw[fD.gW];exact h2 vU,Un (Oh i),xT _,λK' σ' H' ha hs hk=>?_⟩;unfold NI.w;rw[hg];rw[fD.gW]at hk;exact⟨b,hr σ' ha,λe=>absurd e vU,λ_=>hk⟩
theorem bC.iC{P:bF}{op:bC}{dst:Option Nat}{K K':aN->Hp->Prop}(hk:∀σ H,K σ H->K' σ H){σ:aN}{H:Hp}(h:op.w P dst K σ H):op.w P dst K' σ H:=by
 cases op with
 | call f args=>obtain⟨vs,h1,h2⟩:=h;exact⟨vs,h1,h2.mono λv H' hv=>hk _ _ hv⟩
 | bL e ln z ps=>obtain⟨hs,cs,h1,h2⟩:=h;exact⟨hs,cs,h1,λr hr=>hk _ _ (h2 r hr)⟩
 | raw op ty=>
  exact⟨h.1,h.2.imp (Vh λn g H' h=>h.imp id (DA.mono hk)) (Zm.mono · λv H hv=>hk _ _ hv)⟩
 | jA op ty=>exact⟨h.1,h.2.mono λv H hv=>hk _ _ hv⟩
 | dA op ty=>obtain⟨h1,v,h2,h3⟩:=h;exact⟨h1,v,h2,hk _ _ h3⟩
 | sL d n t x=>obtain⟨bB,off,cs,v,h1,h2,h3,h4,h5,h6,h7⟩:=h;exact⟨bB,off,cs,v,h1,h2,h3,h4,h5,h6,hk _ _ h7⟩
 | bE d ts z=>exact⟨h.1,hk _ _ h.2⟩
 | cB d ts x=>obtain⟨hs,v,h1,h2⟩:=h;exact⟨hs,v,h1,hk _ _ h2⟩
 | _=>exact(bC.y8 rfl dst K' σ H).2 (by obtain⟨v,h1,h2⟩:=(bC.y8 rfl dst K σ H).1 h;exact⟨v,h1,hk _ _ h2⟩)
theorem Zu4{P:bF}{i:NI}{d t:Nat}{x:Operand}(hg:i.g=none)(ho:i.op=.sL d n t x):O0 P i:=by
 intro K σ H h;unfold NI.w at h;rw[hg]at h;simp only[ho,bC.w]at h;obtain⟨hs,off,cs,v,h1,h2,h3,h4,h5,h6,h7⟩:=h;let u:fD:={ fe:=λ_=>none,fb:=λb=>bif Nat.beq b d then some (cs.take off++v.cells.toList++cs.drop (off+n))else none }
 have hu:∀σ:aN,u.app σ=σ.dD d (cs.take off++v.cells.toList++cs.drop (off+n)):=by intro σ;refine aN.ext' (λ_=>rfl) (λb=>?_) rfl;simp only[fD.app,aN.dD,u];cases Nat.beq b d<;>rfl
 refine⟨u,by rw[hu];exact h7,λt ht=>absurd rfl ht,λb hb=>?_,λK' σ' H' ha HI hk=>?_⟩
 ·have:b=d:=by
   simp only[u]at hb;cases he:Nat.beq b d with
   | true=>exact qAQ he
   | false=>rw[he]at hb;exact absurd rfl hb
  subst this;simp[NI.wb,ho]
 unfold NI.w;rw[hg];simp only[ho,bC.w];have FZ:∀s,s=t\/s∈Yy x->s∈i.rt:=λs hs=>by simp only[NI.rt,ho,bC.rt,qAS,qAp];exact .inr hs
 refine⟨by rw[HI.gh];exact hs,off,cs,v,by rw[<-ha.1 t (FZ t (.inl rfl))];exact h1,by rw[<-ha.2 d (by simp[ho,bC.rb])];exact h2,by rw[<-ha.get (x:=x) λs hs=>FZ s (.inr hs)];exact h3,h4,h5,h6,?_⟩;rw[<-hu];exact hk
variable{P:bF}
def Go(P:bF)(X:Nat->NI)(fl:Nat->Option Bool)(Q:aN->Hp->Prop):List Nat->aN->Hp->Prop
 | [],σ,H=>Q σ H
 | i :: l,σ,H=>(X i).w P (λσ' H'=>yJ P.toPQ (fl i) H H'/\Go P X fl Q l σ' H') σ H
def W5(x y:NI)(fy:Option Bool):Bool:=
 x.op.cls == 0 && (y.op.cls != 1 || XO x.op.D3 fy) &&
 (x.wt.all λt=>!(y.rt.contains t) && !(y.wt.contains t)) && (x.wb.all λd=>!(y.op.rb.contains d) && !(y.wb.contains d)) &&
 (y.wt.all λt=>!(x.rt.contains t)) && (y.wb.all λd=>!(x.op.rb.contains d))
def RT(x:NI):Bool:=x.op.oU || (match x.g,x.op with | none,.bE .. | none,.cB .. | none,.sL ..=>true | _,.dA op _=>!R1 op | _,_=>false)
theorem Zmv{i:NI}(h:RT i=true):O0 P i:=by
 unfold RT at h;cases hv:i.op.oU with
 | true=>exact Zu1 hv
 | false=>
  rw[hv]at h;simp only[Bool.false_or]at h;split at h
  ·rename_i d ts z hg ho;exact Zu3 hg ho
  ·rename_i d ts x hg ho;exact Zu5 hg ho
  ·rename_i d n t x hg ho;exact Zu4 hg ho
  ·rename_i op ty ho;exact Zu2 ho (by simpa using h)
  simp at h
theorem Zyq{x y:NI}{fy:Option Bool}(h:W5 x y fy=true):True/\(y.op.cls≠1\/XO x.op.D3 fy=true)/\(∀t∈x.wt,t ∉ y.rt/\t ∉ y.wt)/\(∀d∈x.wb,d ∉ y.op.rb/\d ∉ y.wb)/\(∀t∈y.wt,t ∉ x.rt)/\∀d∈y.wb,d ∉ x.op.rb:=by unfold W5 at h;simp only[BY,qAg,qAP,qCf,qBQ,qBq,beq_iff_eq,bne_iff_ne,ne_eq]at h;obtain⟨⟨⟨⟨⟨_,h2⟩,h3⟩,h4⟩,h5⟩,h6⟩:=h;exact⟨trivial,h2,h3,h4,h5,h6⟩
theorem Nz{X:Nat->NI}{fl:Nat->Option Bool}{Q:aN->Hp->Prop}{c:Nat}(Wh:True){l2:List Nat}{u:fD}
  (nF:∀t,u.fe t≠none->t∈(X c).wt) (xT:∀d,u.fb d≠none->d∈(X c).wb) :
  ∀(l1:List Nat) (σ:aN) (H:Hp),(∀x∈l1,W5 (X c) (X x) (fl x)=true/\(RT (X x)=true\/((X x).op.cls=1/\(X x).op.yR=true))) ->
   (∀(K':aN->Hp->Prop) σ' H',Yt (X c).rt (X c).op.rb σ σ'->VW P.toPQ (X c).op.D3 H H'->K' (u.app σ') H'->(X c).w P K' σ' H') ->
   Go P X fl Q (l1++l2) (u.app σ) H->Go P X fl Q (l1++c :: l2) σ H
 | [],σ,H,_,hc,h=>by simp only[qAx,Go];exact hc _ σ H ⟨λ_ _=>rfl,λ_ _=>rfl⟩ (.refl _ H) ⟨.refl _ H,h⟩
 | x :: l1,σ,H,hx,hc,h=>by
  obtain⟨BT,Il⟩:=hx x (by simp)
  obtain⟨a1,a2,a3,a4,a5,a6⟩:=Zyq BT
  have uM:∀t,t ∉ (X c).wt->u.fe t=none:=λt ht=>oR λhn=>ht (nF t hn)
  have vM:∀d,d ∉ (X c).wb->u.fb d=none:=λd hd=>oR λhn=>hd (xT d hn)
  have pO:Yt (X x).rt (X x).op.rb (u.app σ) σ:=Yt.Kh (λt ht=>uM t λhm=>(a3 t hm).1 ht) (λd hd=>vM d λhm=>(a4 d hm).1 hd)
  simp only[qBn,Go]at h ⊢
  rcases Il with Il | ⟨bU,m7⟩
  ·
   obtain⟨v,hv,AN,AM,hv3⟩:=Zmv (P:=P) Il _ _ _ h
   have u0:u.iZ v:=by
    refine⟨λt=>?_,λd=>?_⟩
    ·by_cases hm:t∈(X c).wt
     ·exact .inr (oR λhn=>(a3 t hm).2 (AN t hn))
     exact .inl (uM t hm)
    by_cases hm:d∈(X c).wb
    ·exact .inr (oR λhn=>(a4 d hm).2 (AM d hn))
    exact .inl (vM d hm)
   refine hv3 _ σ H pO (.refl _ H) ⟨.refl _ H,?_⟩
   have h2:=hv.2
   rw[<-fD.comm u0]at h2
   refine Nz Wh nF xT l1 (v.app σ) H (λy hy=>hx y (by simp[hy])) (λK' σ' H' ha hs hk=>hc K' σ' H' ?_ hs hk) h2
   have u1:Yt (X c).rt (X c).op.rb σ (v.app σ):=Yt.app (λt ht=>oR λhn=>a5 t (AN t hn) ht) (λd hd=>oR λhn=>a6 d (AM d hn) hd)
   exact⟨λt ht=>(u1.1 t ht).trans (ha.1 t ht),λd hd=>(u1.2 d hd).trans (ha.2 d hd)⟩
  have Ip:=a2.resolve_left (by rw[bU];simp)
  refine ZmO bU m7 _ _ _ h _ _ pO ?_
  rintro v AN AM H' ⟨hs,h2⟩
  have u0:u.iZ v:=by
   refine⟨λt=>?_,λd=>.inr (AM d)⟩;by_cases hm:t∈(X c).wt
   ·exact .inr (oR λhn=>(a3 t hm).2 (AN t hn))
   exact .inl (uM t hm)
  refine⟨hs,?_⟩
  rw[<-fD.comm u0]at h2
  refine Nz Wh nF xT l1 (v.app σ) H' (λy hy=>hx y (by simp[hy])) (λK' σ' nA ha EG hk=>hc K' σ' nA ?_ ((Zto Ip hs).trans EG) hk) h2
  have u1:Yt (X c).rt (X c).op.rb σ (v.app σ):=Yt.app (λt ht=>oR λhn=>a5 t (AN t hn) ht) (λd hd=>AM d)
  exact⟨λt ht=>(u1.1 t ht).trans (ha.1 t ht),λd hd=>(u1.2 d hd).trans (ha.2 d hd)⟩
inductive lP (n:Nat)(pre:Nat->List Nat):List Nat->List Nat->Prop
 | nil {done:List Nat} (h:∀i,i<n->i∈done):lP n pre done []
 | cons {done l:List Nat} {i:Nat} (hi:i<n) (hd:i ∉ done) (hp:∀p∈pre i,p∈done) (h:lP n pre (i :: done) l):lP n pre done (i :: l)
theorem lP.congr(h:lP n pre done l):∀{nJ},(∀i,i∈done↔i∈nJ)->lP n pre nJ l:=by
 induction h with
 | nil h=>exact λe=>.nil λi hi=>(e i).1 (h i hi)
 | cons hi hd hp _ ih=>exact λe=>.cons hi (λh=>hd ((e _).2 h)) (λp hm=>(e p).1 (hp p hm)) (ih λi=>by simp[e])
theorem lP.mem(h:lP n pre done l):∀i,i<n->i∈done\/i∈l:=by
 induction h with
 | nil h=>exact λi hi=>.inl (h i hi)
 | cons hi hd hp _ ih=>
  intro i hi;rcases ih i hi with h | h
  ·simp only[qAp]at h;rcases h with rfl | h
   ·exact .inr (by simp)
   exact .inl h
  exact .inr (by simp[h])
theorem lP.fresh(h:lP n pre done l):∀i∈l,i<n/\i ∉ done:=by
 induction h with
 | nil h=>exact λi hi=>by simp at hi
 | cons hi hd hp _ ih=>
  intro i hm;simp only[qAp]at hm;rcases hm with rfl | hm
  ·exact⟨hi,hd⟩
  exact⟨(ih i hm).1,λh=>(ih i hm).2 (by simp[h])⟩
theorem lP.ahead{n:Nat}{pre:Nat->List Nat}{c:Nat}{l2:List Nat}(hc:c<n):∀{l1 done:List Nat},lP n pre done (l1++c :: l2)->c ∉ l1->lP n pre (c :: done) (l1++l2)
 | [],done,h,_=>by
  cases h with
  | cons hi hd hp h=>exact h
 | x :: l1,done,h,hn=>by
  cases h with
  | cons hi hd hp h=>
   refine .cons hi ?_ (λp hm=>qAr _ (hp p hm)) ?_
   ·simp only[qAp,not_or]at hn ⊢;exact⟨qAi hn.1,hd⟩
   exact(lP.ahead hc h (λhm=>hn (by simp[hm]))).congr λi=>by simp;constructor<;>(intro h;rcases h with h | h | h<;>simp[h])
end
variable{P:bF}{dst:Option Nat}{r:Nat}{o:Obj}
theorem DA.frame{op:Op}{K:aN->Hp->Prop}{σ:aN}{F:Hp}(hd:RZ op=false):∀{n:Next} {H:Hp},DA P op dst K σ n H->H.Comp F->DA P op dst (λσ HF=>∃H',HF=H'.join F/\H'.Comp F/\K σ H') σ n (H.join F):=by
 intro n H h hc;cases n with
 | value v=>exact⟨_,rfl,hc,h⟩
 | skip=>exact⟨_,rfl,hc,h⟩
 | enter f args=>exact Zc.frame h hc
 | round l f tmps aB bd=>exact UY.frame h hc
 | defer d=>exact absurd (hd.symm.trans h.1) (by simp)
 | _=>exact h.elim
theorem Zuq{H F:Hp}(h:F r=none):(H.join F).ins r o=(H.ins r o).join F:=by
 refine Hp.ext' (λb=>?_) rfl;simp only[Hp.aX,Hp.eD];by_cases e:b=r
 ·subst e;simp
 simp[e]
theorem Hp.Comp.AK{H F:Hp}(hc:H.Comp F)(h:F r=none):(H.ins r o).Comp F:=by
 refine⟨λb x y h1 h2=>?_,hc.gh⟩;by_cases e:b=r
 ·subst e;rw[h]at h2;simp at h2
 rw[Hp.aE _ _ e]at h1;exact hc b x y h1 h2
theorem bC.nZ{op:bC}{K:aN->Hp->Prop}{σ:aN}{H F:Hp}(bU:op.cls=1)(m7:op.yR=true)(hF:F.gh=[])(hc:H.Comp F)(h:op.w P dst K σ H) :
  op.w P dst (λσ' HF=>∃H',HF=H'.join F/\H'.Comp F/\K σ' H') σ (H.join F):=by
 have yA:(H.join F).gh=H.gh:=by rw[Hp.bP,hF,qAj]
 cases ho:op<;>rw[ho]at bU h m7<;>first | (exfalso;simp[bC.cls]at bU;done) | skip
 all_goals simp only[bC.w]at h ⊢
 case call f args=>
  obtain⟨vs,h1,h2⟩:=h
  exact⟨vs,h1,Zc.frame h2 hc⟩
 case bL e ln z ps=>
  obtain⟨hs,cs,h1,h2⟩:=h
  refine⟨by rw[yA];exact hs,cs,h1,λr hr=>?_⟩
  obtain⟨r1,r2⟩:=Hp.dR.1 hr
  exact⟨_,Zuq r2,hc.AK r2,h2 r r1⟩
 case jA op ty=>simp[bC.yR]at m7
 case raw op ty=>
  have I1:RZ op=false:=by simp only[bC.yR,BY,qAP]at m7;exact m7.2
  refine⟨h.1,h.2.imp (λh=>?_) λh=>h.frame hc⟩
  refine Vh ?_ (Be h hc)
  rintro n g HF ⟨H',rfl,lG,hn⟩
  exact hn.imp id λhn=>hn.frame I1 lG
theorem NI.nZ{i:NI}{K:aN->Hp->Prop}{σ:aN}{H F:Hp}(bU:i.op.cls=1)(m7:i.op.yR=true)(hF:F.gh=[])(hc:H.Comp F)(h:i.w P K σ H) :
  i.w P (λσ' HF=>∃H',HF=H'.join F/\H'.Comp F/\K σ' H') σ (H.join F):=by
 unfold NI.w at h ⊢;split at h
 ·exact bC.nZ bU m7 hF hc h
 obtain⟨b,hb,h1,h2⟩:=h;exact⟨b,hb,λe=>bC.nZ bU m7 hF hc (h1 e),λe=>⟨H,rfl,hc,h2 e⟩⟩
def OJ(x:NI):Bool:=match x.g,x.op with | none,.bL ..=>true | _,_=>false
def On(P:bF)(x:NI)(σ:aN)(H:Hp):Prop:=
 match x.op with
 | .bL _ _ z ps=>P.still H.gh=false/\(dU σ ps z).isSome=true
 | _=>True
theorem Zl5{x:NI}(h:OJ x=true):x.g=none/\∃e ln z ps,x.op=.bL e ln z ps:=by
 unfold OJ at h;split at h
 ·rename_i e ln z ps h1 h2;exact⟨h1,e,ln,z,ps,h2⟩
 simp at h
def ML(x c:NI):Bool:=OJ x && c.op.cls == 1 && c.op.yR && (x.wt.all λt=>!(c.rt.contains t) && !(c.wt.contains t)) && (c.wt.all λt=>!(x.rt.contains t))
theorem Zje{x c:NI}(h:ML x c=true):OJ x=true/\c.op.cls=1/\c.op.yR=true/\(∀t∈x.wt,t ∉ c.rt/\t ∉ c.wt)/\∀t∈c.wt,t ∉ x.rt:=by unfold ML at h;simp only[BY,qAg,qAP,qCf,qBQ,beq_iff_eq]at h;obtain⟨⟨⟨⟨h1,h2⟩,h3⟩,h4⟩,h5⟩:=h;exact⟨h1,h2,h3,h4,h5⟩
theorem Zjg{x:NI}{e:TypeId}{ln:Nat}{z:List Value}{ps:List (Nat×Nat×Operand)}(hg:x.g=none)(ho:x.op=.bL e ln z ps){K:aN->Hp->Prop}{σ:aN}{H:Hp} :
  x.w P K σ H↔P.still H.gh=false/\∃cs,dU σ ps z=some cs/\∀r,H r=none->K (σ.set x.dst (.slice (some ⟨r,0,none⟩) ln ln)) (H.ins r (.cells cs.toArray e)):=by
 unfold NI.w;rw[hg];simp only[ho,bC.w]
theorem ZtD{x c:NI}{K:aN->Hp->Prop}{σ:aN}{H:Hp}(hb:ML x c=true)(m7:On P x σ H){R:Hp->Hp->Prop}(hR:∀H H' r o,H r=none->H' r=none->R H H'->R (H.ins r o) (H'.ins r o))
  (h:c.w P (λσ1 H1=>R H H1/\x.w P K σ1 H1) σ H):x.w P (λσ1 H1=>H.Sub H1/\(∀y:NI,(∀t∈y.rt,t ∉ x.wt)->On P y σ H->On P y σ1 H1)/\c.w P (λσ2 H2=>R H1 H2/\K σ2 H2) σ1 H1) σ H:=by
 obtain⟨hn,bU,T7,a1,a2⟩:=Zje hb
 obtain⟨hg,e,ln,z,ps,ho⟩:=Zl5 hn
 have FZ:x.rt=ps.flatMap λp=>Yy p.2.2:=by simp[NI.rt,hg,ho,bC.rt]
 have nF:∀d,x.dst=some d->d∈x.wt:=Oh x
 unfold On at m7
 rw[ho]at m7
 obtain⟨hs,hv⟩:=m7
 obtain⟨cs,tC⟩:=qBi.1 hv
 rw[Zjg hg ho]
 refine⟨hs,cs,tC,λr hr=>?_⟩
 have HI:H.Sub (H.ins r (.cells cs.toArray e)):=⟨λb y hy=>by rw[Hp.aE _ _ (by rintro rfl;rw[hr]at hy;simp at hy)];exact hy,rfl⟩
 refine⟨HI,λy hy TY=>?_,?_⟩
 ·unfold On at TY ⊢;split at TY
  ·rename_i e2 ln2 z2 ps2 Gw;refine⟨TY.1,?_⟩;have pO:Yt y.rt [] σ (σ.set x.dst (.slice (some ⟨r,0,none⟩) ln ln)):=by rw[<-fD.gU];exact Yt.app (λt ht=>oR λhn=>hy t ht (Un nF t hn)) (λd hd=>by simp at hd)
   rw[<-pO.dU (λt ht=>by simp only[NI.rt,Gw,bC.rt,qAS];exact .inr ht)];exact TY.2
  trivial
 let F:Hp:=Hp.nil.ins r (.cells cs.toArray e)
 have hF:H.Comp F:=⟨λb x y h1 h2=>by
  by_cases e:b=r
  ·subst e;rw[hr]at h1;simp at h1
  rw[show F b=none from by show Hp.nil.ins r _ b=none;rw[Hp.aE _ _ e];rfl]at h2;simp at h2,.inr rfl⟩
 have F7:∀H1:Hp,H1 r=none->H1.join F=H1.ins r (.cells cs.toArray e):=by
  intro H1 h1;refine Hp.ext' (λb=>?_) (by rw[Hp.bP];exact qAj _);simp only[Hp.aX];by_cases e2:b=r
  ·subst e2;rw[h1];have e3:F b=some (.cells cs.toArray e,true):=Hp.aF _ _ _;have e4:(H1.ins b (.cells cs.toArray e)) b=some (.cells cs.toArray e,true):=Hp.aF _ _ _;simp only[e3,e4]
  have e3:F b=none:=(Hp.aE _ _ e2).trans rfl;have e4:(H1.ins r (.cells cs.toArray e)) b=H1 b:=Hp.aE _ _ e2;rw[e3,e4];cases H1 b<;>rfl
 have h1:=NI.nZ bU T7 (F:=F) rfl hF h
 rw[F7 H hr]at h1
 have pO:Yt c.rt c.op.rb σ (σ.set x.dst (.slice (some ⟨r,0,none⟩) ln ln)):=by rw[<-fD.gU];exact Yt.app (λt ht=>oR λhn=>(a1 t (Un nF t hn)).1 ht) (λd hd=>rfl)
 refine ZmO bU T7 _ _ _ h1 _ _ pO ?_
 rintro u FY CX HF ⟨H',rfl,lG,hR',hx⟩
 have uP:H' r=none:=by
  cases hh:H' r with
  | none=>rfl
  | some y=>have:=(lG r y (.cells cs.toArray e,true) hh (Hp.aF _ _ _)).2;have e2:=(lG r y (.cells cs.toArray e,true) hh (Hp.aF _ _ _)).1;rw[e2]at this;simp at this
 rw[F7 H' uP]
 refine⟨hR _ _ _ _ hr uP hR',?_⟩
 obtain⟨_,bJ,yD,hx⟩:=(Zjg hg ho).1 hx
 have u1:Yt x.rt [] σ (u.app σ):=Yt.app (λt ht=>oR λhn=>a2 t (FY t hn) ht) (λd hd=>by simp at hd)
 have:dU (u.app σ) ps z=some cs:=by rw[<-u1.dU (λt ht=>by rw[FZ];exact ht)];exact tC
 rw[this]at yD
 obtain rfl:=dO yD
 have mA:=hx r uP
 rw[<-fD.gU]at mA ⊢
 have BT:u.iZ (fD.set x.dst (some (.slice (some ⟨r,0,none⟩) ln ln))):=by
  refine⟨λt=>?_,λd=>.inl (CX d)⟩;by_cases hm:t∈x.wt
  ·exact .inl (oR λhn=>(a1 t hm).2 (FY t hn))
  exact .inr (oR λhn=>hm (Un nF t hn))
 rw[fD.comm BT]
 exact mA
theorem NI.iC{i:NI}{K K':aN->Hp->Prop}(hk:∀σ H,K σ H->K' σ H){σ:aN}{H:Hp}(h:i.w P K σ H):i.w P K' σ H:=by
 unfold NI.w at h ⊢;split at h
 ·exact bC.iC hk h
 obtain⟨b,hb,h1,h2⟩:=h;exact⟨b,hb,λe=>bC.iC hk (h1 e),λe=>hk _ _ (h2 e)⟩
theorem Zjf{P:bF}{X:Nat->NI}{fl:Nat->Option Bool}{Q:aN->Hp->Prop}{c:Nat}{l2:List Nat}:∀(l1:List Nat) (σ:aN) (H:Hp),(∀x∈l1,ML (X x) (X c)=true)->(∀x∈l1,∀y∈l1,∀t∈(X x).wt,t ∉ (X y).rt)->(∀x∈l1,On P (X x) σ H) ->
  (X c).w P (λσ' H'=>yJ P.toPQ (fl c) H H'/\Go P X fl Q (l1++l2) σ' H') σ H->Go P X fl Q (l1++c :: l2) σ H
 | [],σ,H,_,_,_,h=>h
 | x :: l1,σ,H,hb,hp,m7,h=>by
  have h':(X c).w P (λσ1 H1=>yJ P.toPQ (fl c) H H1/\(X x).w P (λσ2 H2=>Go P X fl Q (l1++l2) σ2 H2) σ1 H1) σ H:=
   NI.iC (λσ' H' hh=>⟨hh.1,by have h2:=hh.2;simp only[qBn,Go]at h2;exact NI.iC (λ_ _ h3=>h3.2) h2⟩) h
  have h1:=ZtD (R:=λH H1=>yJ P.toPQ (fl c) H H1) (hb x (by simp)) (m7 x (by simp)) (λH H' r o e1 e2 hR s hf=>by
   have hs:=hR s hf;refine⟨hs.gh,λes b y hy=>?_⟩;by_cases e:b=r
   ·subst e;rw[Hp.aF]at hy ⊢;exact hy
   rw[Hp.aE _ _ e]at hy ⊢;exact hs.mem es b y hy) h'
  simp only[qBn,Go];refine NI.iC ?_ h1;rintro σ1 H1 ⟨g1,g2,g3⟩;refine⟨g1.kpt _,Zjf l1 σ1 H1 (λy hy=>hb y (by simp[hy])) (λy hy z hz=>hp y (by simp[hy]) z (by simp[hz])) (λy hy=>g2 (X y) (λt ht hm=>hp x (by simp) y (by simp[hy]) t hm ht) (m7 y (by simp[hy]))) g3⟩
def MV(P:bF)(X:Nat->NI)(fl:Nat->Option Bool)(W:Nat->Nat->Bool)(Q:aN->Hp->Prop):List Nat->aN->Hp->Prop
 | [],σ,H=>Q σ H
 | i :: l,σ,H=>((X i).op.cls≠0->∀x∈l,OJ (X x)=true->W x i=false->On P (X x) σ H)/\(X i).w P (λσ' H'=>yJ P.toPQ (fl i) H H'/\MV P X fl W Q l σ' H') σ H
def X1(X:Nat->NI)(fl:Nat->Option Bool)(W:Nat->Nat->Bool):List Nat->Bool
 | []=>true
 | c :: C=>(if(X c).op.cls == 0 then RT (X c) && (C.all λx=>W x c || (W5 (X c) (X x) (fl x) && (RT (X x) || ((X x).op.cls == 1 && (X x).op.yR))))
   else(C.all λx=>W x c || ML (X x) (X c)) && (C.all λx=>W x c || C.all λy=>W y c || (X x).wt.all λt=>!((X y).rt.contains t))) && X1 X fl W C
theorem Lw{P:bF}{n:Nat}{pre:Nat->List Nat}{X:Nat->NI}{fl:Nat->Option Bool}{W:Nat->Nat->Bool}{Q:aN->Hp->Prop}(hW:∀(x e:Nat) (done:List Nat),(∀i∈done,∀p∈pre i,p∈done)->W x e=true->(∀p∈pre x,p∈done)->e∈done) :
  ∀(C:List Nat) {done l:List Nat} {σ:aN} {H:Hp},lP n pre done C->lP n pre done l->(∀i∈done,∀p∈pre i,p∈done)->X1 X fl W C=true->MV P X fl W Q C σ H->Go P X fl Q l σ H
 | [],done,l,σ,H,hC,hl,_,_,h=>by
  cases hC with
  | nil dY=>
   cases hl with
   | nil _=>exact h
   | cons hi hd _ _=>exact absurd (dY _ hi) hd
 | c :: C,done,l,σ,H,hC,hl,bU,hB,h=>by
  cases hC with
  | cons hi hd hp Jh=>
   have mB:∀i∈c :: done,∀p∈pre i,p∈c :: done:=by
    intro i hm p iG;simp only[qAp]at hm;rcases hm with rfl | hm
    ·exact qAr _ (hp p iG)
    exact qAr _ (bU i hm p iG)
   have Iu:c∈l:=(hl.mem c hi).resolve_left hd;obtain⟨l1,l2,rfl,He⟩:=List.eq_append_cons_of_mem Iu;have sX:=lP.ahead hi hl He;simp only[X1,BY]at hB;obtain⟨vV,fH⟩:=hB;have iV:∀x∈l1,x∈C/\W x c=false:=by
    intro x hx;have Fu:x∈l1++c :: l2:=by simp[hx]
    have BP:=hl.fresh x Fu;have hxc:x≠c:=λe=>He (e ▸ hx);have HG:x∈C:=by
     rcases Jh.mem x BP.1 with h | h
     ·simp only[qAp]at h;rcases h with h | h
      ·exact absurd h hxc
      exact absurd h BP.2
     exact h
    refine⟨HG,?_⟩;cases hw:W x c with
    | false=>rfl
    | true=>
     exfalso;have key:∀(l1:List Nat) (done:List Nat),lP n pre done (l1++c :: l2)->(∀i∈done,∀p∈pre i,p∈done)->c ∉ l1->c ∉ done->x∈l1->False:=by
      intro l1;induction l1 with
      | nil=>exact λ_ _ _ _ _ h=>by simp at h
      | cons y l1 ih=>
       intro done hl bU hn hd hx;cases hl with
       | cons gJ GD rS sX=>
        simp only[qAp]at hx;rcases hx with rfl | hx
        ·exact hd (hW x c done bU hw rS)
        refine ih (y :: done) sX ?_ (λh=>hn (by simp[h])) ?_ hx
        ·intro i hm p iG;simp only[qAp]at hm;rcases hm with rfl | hm
         ·exact qAr _ (rS p iG)
         exact qAr _ (bU i hm p iG)
        simp only[qAp,not_or]at hn ⊢;exact⟨hn.1,hd⟩
     exact key l1 done hl bU He hd hx
   simp only[MV]at h;obtain⟨oV,h⟩:=h;by_cases h0:(X c).op.cls=0
   ·simp only[h0,beq_self_eq_true,qAM,BY,qAg]at vV;obtain⟨u,hu,FY,CX,Fw⟩:=Zmv (P:=P) vV.1 _ _ _ h;have vO:=Lw hW C Jh sX mB fH hu.2;refine Nz (P:=P) trivial FY CX l1 σ H (λx hx=>?_) Fw vO;obtain⟨HG,NT⟩:=iV x hx;have:=vV.2 x HG;rw[NT]at this;simpa using this
   have dG:((X c).op.cls == 0)=false:=by simpa using h0
   simp only[dG,iN,qAk,BY,qAg,qBq]at vV;have F5:∀x∈l1,ML (X x) (X c)=true:=λx hx=>by obtain⟨HG,NT⟩:=iV x hx;exact(vV.1 x HG).resolve_left (by rw[NT];simp)
   refine Zjf l1 σ H F5 (λx hx y hy t ht hm=>?_) (λx hx=>oV h0 x (iV x hx).1 (Zje (F5 x hx)).1 (iV x hx).2) (NI.iC (λσ' H' ⟨h1,h2⟩=>⟨h1,Lw hW C Jh sX mB fH h2⟩) h);obtain⟨HG,NT⟩:=iV x hx;obtain⟨hyC,hyw⟩:=iV y hy;have h1:=(vV.2 x HG).resolve_left (by rw[NT];simp);have h2:=(h1 y hyC).resolve_left (by rw[hyw];simp);have h3:=h2 t ht;simp at h3;exact h3 hm
