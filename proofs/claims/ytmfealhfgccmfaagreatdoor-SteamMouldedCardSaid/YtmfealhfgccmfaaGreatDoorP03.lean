import Derived.Test.YtmfealhfgccmfaaGreatDoorP02
set_option linter.all false
def gq7{G:Prop}(h:G:=by
  have Rp:∀v:Option Value,∀d,(jF.set i.dst v).fb d≠none->d∈i.wb:=λv d h=>absurd rfl h;cases hg:i.g with
  | none=>
   rw[hg]at h;obtain⟨v,h1,h2⟩:=DS h;refine⟨_,h1,Uu (On i),Rp _,λK' σ' H' ha hs hk=>?_⟩;unfold NI.w;rw[hg];exact h2 K' σ' H' ha hs hk
  | some p=>
   obtain⟨t,pO⟩:=p;rw[hg]at h;obtain⟨b,hb,h1,h2⟩:=h;have hr:∀σ',YE i.rt i.op.rb σ σ'->σ'.env t=some b:=λσ' ha=>by rw[<-ha.1 t (by simp[NI.rt,hg])];exact hb
   by_cases Jw:b=.bool pO
   ·obtain⟨v,h3,h4⟩:=DS (h1 Jw);refine⟨_,h3,Uu (On i),Rp _,λK' σ' H' ha hs hk=>?_⟩;unfold NI.w;rw[hg];exact⟨b,hr σ' ha,λ_=>h4 K' σ' H' ha hs hk,λhn=>absurd Jw hn⟩
   refine⟨jF.set i.dst (some undef),by rw[jF.mX];exact h2 Jw,Uu (On i),Rp _,λK' σ' H' ha hs hk=>?_⟩;unfold NI.w;rw[hg];rw[jF.mX]at hk;exact⟨b,hr σ' ha,λe=>absurd e Jw,λ_=>hk⟩):G:=h
def LN{G:Prop}(h:G:=by rintro⟨v,h1,h2⟩;split at h1;simp only[IF]at h1;subst h1;exact⟨_,‹_›,h2⟩;simp at h1):G:=h
def TK{G:Prop}(h:G:=by
  rintro⟨v,h1,h2⟩;split at h1
  ·split at h1
   ·rename_i hc;simp only[IF]at h1;subst h1;exact⟨_,_,_,‹_›,‹_›,hc.1,hc.2,h2⟩
   simp at h1
  simp at h1):G:=h
def G0{G:Prop}(h:G:=by
  by_cases hm:t∈(X c).wt
  ·exact .inr (qAb λhn=>(a3 t hm).2 (NU t hn))
  exact .inl (AE t hm)):G:=h
namespace Go.LL
section
variable{P:PQ}{s:Bool}{ts bs:List Nat}{x:Operand}{d:Nat}
structure Hp.Sub(H H':Hp):Prop where
 mem:∀b x,H b=some x->H' b=some x
 gh:H'.gh=H.gh
structure V6(P:PQ)(s:Bool)(H H':Hp):Prop where
 gh:P.still H'.gh=P.still H.gh
 mem:s=true->∀b x,H b=some x->H' b=some x
def V6.refl(s:Bool)(H:Hp):V6 P s H H:=⟨rfl,λ_ _ _ h=>h⟩
def V6.trans{H c a:Hp}(h:V6 P s H c)(f:V6 P s c a):V6 P s H a:=⟨f.gh.trans h.gh,λe b x g=>f.mem e b x (h.mem e b x g)⟩
def Hp.Sub.oA{H a:Hp}(h:H.Sub a)(s:Bool):V6 P s H a:=⟨by rw[h.gh],λ_=>h.mem⟩
def yH(P:PQ)(f:Option Bool)(H a:Hp):Prop:=∀s,f=some s->V6 P s H a
def yH.refl(f:Option Bool)(H:Hp):yH P f H H:=λs _=>.refl s H
def Hp.Sub.kpt{H a:Hp}(h:H.Sub a)(f:Option Bool):yH P f H a:=λs _=>h.oA s
def Kt(s:Bool)(f:Option Bool):Bool:=match f with | some true=>true | some false=>!s | none=>false
def ZtI{f:Option Bool}(h:Kt s f=true){H a:Hp}(k:yH P f H a):V6 P s H a:=by
 unfold Kt at h;split at h
 ·have:=k true rfl;exact⟨this.gh,λ_=>this.mem rfl⟩
 ·have:=k false rfl;exact⟨this.gh,λe=>by rw[e]at h;simp at h⟩
 simp at h
def Hp.Sub.refl(H:Hp):H.Sub H:=⟨λ_ _ h=>h,rfl⟩
structure jF where
 fe:Nat->Option (Option Value)
 fb:Nat->Option (List Value)
def jF.app(u:jF)(σ:fG):fG:={ env:=λt=>(u.fe t).getD (σ.env t),box:=λd=>match u.fb d with | some cs=>some cs | none=>σ.box d,gR:=σ.gR }
def jF.set(dst:Option Nat)(v:Option Value):jF:=
 { fe:=λt=>match dst with | some d=>bif Nat.beq t d then some v else none | none=>none,fb:=λ_=>none }
def jF.new(d:Nat)(ts:List Nat)(z:List Value):jF:=
 { fe:=λt=>bif Nat.beq t d then some (some (.int .i64 0))else bif ts.elem t then some none else none,fb:=λb=>bif Nat.beq b d then some z else none }
def fG.ext'{σ σ':fG}(f:∀t,σ.env t=σ'.env t)(g:∀d,σ.box d=σ'.box d)(i:σ.gR=σ'.gR):σ=σ':=by obtain⟨e,b,d⟩:=σ;obtain⟨c,a,h⟩:=σ';have:e=c:=funext f;have:b=a:=funext g;simp_all
theorem jF.kE(σ:fG)(dst:Option Nat)(v:Value):(jF.set dst (some v)).app σ=σ.set dst v:=by
 cases dst with
 | none=>rfl
 | some d=>
  refine fG.ext' (λt=>?_) (λ_=>rfl) rfl;simp only[jF.app,jF.set,fG.set];cases Nat.beq t d<;>rfl
theorem jF.mX(σ:fG)(dst:Option Nat):(jF.set dst (some undef)).app σ=σ.jP dst:=by
 cases dst with
 | none=>rfl
 | some d=>
  refine fG.ext' (λt=>?_) (λ_=>rfl) rfl;simp only[jF.app,jF.set,fG.jP];cases Nat.beq t d<;>rfl
theorem jF.vJ(σ:fG)(d:Nat)(ts:List Nat)(z:List Value):(jF.new d ts z).app σ=((σ.drop ts).set (some d) (.int .i64 0)).put d z:=by
 refine fG.ext' (λt=>?_) (λb=>?_) rfl
 ·simp only[jF.app,jF.new,fG.set,fG.drop,fG.put];cases Nat.beq t d with
  | true=>rfl
  | false=>cases ts.elem t<;>rfl
 simp only[jF.app,jF.new,fG.set,fG.drop,fG.put];cases Nat.beq b d<;>rfl
def jF.k8(u v:jF):Prop:=(∀t,u.fe t=none\/v.fe t=none)/\∀d,u.fb d=none\/v.fb d=none
def jF.comm{u v:jF}(h:u.k8 v)(σ:fG):u.app (v.app σ)=v.app (u.app σ):=by
 refine fG.ext' (λt=>?_) (λd=>?_) rfl
 ·simp only[jF.app];rcases h.1 t with e | e<;>simp[e]
 simp only[jF.app];rcases h.2 d with e | e<;>rw[e]<;>cases u.fb d<;>cases v.fb d<;>simp_all
def YK:Operand->List Nat
 | .tmp t=>[t]
 | _=>[]
def fR.rt:fR->List Nat
 | .lS x | .not x | .ext x _ | .oL _ _ x | .fE _ x | .ld _ x | .len x | .eE _ _ x=>YK x
 | .pick c a b=>YK c++YK a++YK b
 | .fV _ x y | .gC _ x y | .nH _ _ x y=>YK x++YK y
 | .eC ..=>[]
 | .fH _ t=>[t]
 | .hO _ _ t i=>t :: YK i
 | .gO _ _ t=>[t]
 | .tS _ _ t x=>t :: YK x
 | .call _ args=>args.flatMap YK
 | .build _ e=>e.flatMap λp=>YK p.2.2
 | .fJ _ _ _ e=>e.flatMap λp=>YK p.2.2
 | .raw op _=>op.operands.toList.flatMap YK
 | .lV op _=>op.operands.toList.flatMap YK
 | .gE op _=>op.operands.toList.flatMap YK
def fR.rb:fR->List Nat
 | .gO d _ _=>[d]
 | .tS d _ _ _=>[d]
 | _=>[]
def fR.C9:fR->Bool
 | .ld ..=>true
 | _=>false
def NI.rt(i:NI):List Nat:=(match i.g with | some (t,_)=>[t] | none=>[])++i.op.rt
def NI.wt(i:NI):List Nat:=i.dst.toList++match i.op with | .eC d ts _ | .eE d ts _=>d :: ts | _=>[]
def NI.wb(i:NI):List Nat:=match i.op with | .eC d _ _ | .eE d _ _ | .tS d _ _ _=>[d] | _=>[]
def fR.cls:fR->Nat
 | .call .. | .fJ .. | .raw .. | .lV ..=>1
 | .tS ..=>2
 | _=>0
def YE(ts bs:List Nat)(σ σ':fG):Prop:=(∀t∈ts,σ.env t=σ'.env t)/\∀d∈bs,σ.box d=σ'.box d
theorem YE.get{σ σ':fG}(h:YE ts bs σ σ')(a:∀t∈YK x,t∈ts):σ.get x=σ'.get x:=by
 cases x with
 | tmp t=>exact h.1 t (a t (by simp[YK]))
 | _=>rfl
def YE.gets{σ σ':fG}(h:YE ts bs σ σ'):∀{xs:List Operand},(∀t∈xs.flatMap YK,t∈ts)->σ.gets xs=σ'.gets xs
 | [],_=>rfl
 | x :: xs,b=>by simp only[fG.gets];rw[h.get (λt a=>b t (by simp[a])),h.gets (xs:=xs) (λt a=>b t (by rw[qAI];simp only[qAj];exact .inr a))]
def YE.buildV{σ σ':fG}(h:YE ts bs σ σ'):∀{ps:List (Nat×Nat×Operand)} {z:List Value},(∀t∈ps.flatMap (λp=>YK p.2.2),t∈ts)->Go.LL.buildV σ ps z=Go.LL.buildV σ' ps z
 | [],_,_=>rfl
 | (off,sz,x) :: ps,z,b=>by
  simp only[Go.LL.buildV];rw[h.get (x:=x) (λt a=>b t (by simp[a]))];cases σ'.get x with
  | none=>rfl
  | some v=>simp only;rw[h.buildV (ps:=ps) (λt a=>b t (by rw[qAI];simp only[qAj];exact .inr a))]
def NI.w(P:fP)(i:NI)(K:fG->Hp->Prop)(σ:fG)(H:Hp):Prop:=
 match i.g with
 | none=>i.op.w P i.dst K σ H
 | some (t,a)=>∃v,σ.env t=some v/\(v=.bool a->i.op.w P i.dst K σ H)/\(v≠.bool a->K (σ.jP i.dst) H)
def O3(P:fP)(i:NI):Prop:=∀(K:fG->Hp->Prop) σ H,i.w P K σ H->∃u:jF,K (u.app σ) H/\(∀t,u.fe t≠none->t∈i.wt)/\(∀d,u.fb d≠none->d∈i.wb) /\
 ∀(a:fG->Hp->Prop) σ' H',YE i.rt i.op.rb σ σ'->V6 P.toPQ i.op.C9 H H'->a (u.app σ') H'->i.w P a σ' H'
def Znz(P:fP)(i:NI):Prop:=∀(K:fG->Hp->Prop) σ H,i.w P K σ H->∀(b:fG->Hp->Prop) σ',YE i.rt i.op.rb σ σ'->(∀u:jF,(∀t,u.fe t≠none->t∈i.wt)->(∀d,u.fb d=none)->∀a,K (u.app σ) a->b (u.app σ') a)->i.w P b σ' H
theorem Uu{dst:Option Nat}{v:Option Value}{b:List Nat}(h:∀d,dst=some d->d∈b):∀t,(jF.set dst v).fe t≠none->t∈b:=by
 intro t a;cases dst with
 | none=>exact absurd rfl a
 | some d=>
  simp only[jF.set]at a;cases hb:Nat.beq t d with
  | false=>rw[hb]at a;exact absurd rfl a
  | true=>rw[qBs hb];exact h d rfl
def On(i:NI):∀d,i.dst=some d->d∈i.wt:=by intro d a;simp[NI.wt,a]
def ZvD{P:fP}{i:NI}{val:fG->Hp->Option Value}(a:∀K σ H,i.op.w P i.dst K σ H↔∃v,val σ H=some v/\K (σ.set i.dst v) H)
  (b:∀σ σ' H H' v,YE i.rt i.op.rb σ σ'->V6 P.toPQ i.op.C9 H H'->val σ H=some v->val σ' H'=some v):O3 P i:=by
 intro K σ H h;unfold NI.w at h;have DS:i.op.w P i.dst K σ H->∃v,K ((jF.set i.dst (some v)).app σ) H/\∀(K':fG->Hp->Prop) σ' H',YE i.rt i.op.rb σ σ'->V6 P.toPQ i.op.C9 H H'->K' ((jF.set i.dst (some v)).app σ') H'->i.op.w P i.dst K' σ' H':=by intro h;obtain⟨v,h1,h2⟩:=(a _ _ _).1 h;refine⟨v,by rw[jF.kE];exact h2,λK' σ' H' ha hs hk=>(a _ _ _).2 ⟨v,b _ _ _ _ _ ha hs h1,?_⟩⟩;rw[jF.kE]at hk;exact hk
 exact gq7
def QM(o:Obj)(off:Nat):Nat->Option (List Value)
 | 0=>some []
 | n+1=>match Obj.nC o off,QM o (off+1) n with
  | some v,some a=>some (v :: a)
  | _,_=>none
def Li{o:Obj}:∀{n off:Nat} {a:List Value},QM o off n=some a↔a.length=n/\∀j,j<n->Obj.nC o (off+j)=a[j]?
 | 0,off,a=>by
  simp only[QM,IF,qBW,false_implies,qCa,qCw];constructor
  ·rintro rfl;rfl
  exact λh=>(qAr h).symm
 | n+1,off,a=>by
  simp only[QM];constructor
  ·intro h;split at h
   ·rename_i v f b c;simp only[IF]at h;subst h;obtain⟨k,m⟩:=Li.1 c;refine⟨by simp[k],λj p=>?_⟩;cases j with
    | zero=>simpa using b
    | succ j=>
     have:=m j O;rw[qBk,<-this];congr 1;omega
   simp at h
  rintro⟨b,c⟩;cases a with
  | nil=>simp at b
  | cons v f=>
   have g:Obj.nC o off=some v:=by simpa using c 0 O
   have i:QM o (off+1) n=some f:=Li.2 ⟨by simpa using b,λj p=>by have:=c (j+1) O;rw[qBk]at this;rw[<-this];congr 1;omega⟩;simp[g,i]
def fR.val(st:Bool)(op:fR)(σ:fG)(H:Hp):Option Value:=
 match op with
 | .lS x=>σ.get x
 | .pick c a b=>match σ.get c with | some (.bool t)=>σ.get (bif t then a else b) | _=>none
 | .fV op x y=>match σ.get x,σ.get y with
  | some (.int k m),some (.int f n)=>if k=f then EC op k m n else none
  | _,_=>none
 | .not x=>match σ.get x with | some (.bool b)=>some (.bool !b) | _=>none
 | .ext x i=>match σ.get x with | some (.tuple h)=>h[i]? | _=>none
 | .oL off n x=>match σ.get x with
  | some (.agg cs)=>match n with | none=>cs[off]? | some n=>some (.agg (cs.extract off (off+n)))
  | _=>none
 | .fE off x=>match σ.get x with | some (.pointer (some a))=>some (.pointer (some (a.add off))) | _=>none
 | .gC e x i=>match σ.get x,σ.get i with
  | some (.slice (some a) ln _),some (.int _ n)=>if 0<=n/\n<ln then some (.pointer (some (a.add (n.toNat * e))))else none
  | _,_=>none
 | .nH e ln x i=>match σ.get x,σ.get i with
  | some (.pointer (some a)),some (.int _ n)=>if 0<=n/\n<(ln:Nat)then some (.pointer (some (a.add (n.toNat * e))))else none
  | _,_=>none
 | .ld n x=>if st=true then none else match σ.get x with
  | some (.pointer (some a))=>if a.spot=none then
    match H a.block with
    | some (o,_)=>match n with
     | none=>Obj.nC o a.off
     | some n=>(QM o a.off n).map λcs=>.agg cs.toArray
    | none=>none
   else none
  | _=>none
 | .len x=>match σ.get x with | some (.slice _ n _)=>some (.int .i64 (n:Nat)) | _=>none
 | .fH off t=>match σ.env t with | some (.int .i64 (.ofNat n))=>some (.int .i64 ((n+off:Nat):Int)) | _=>none
 | .hO e ln t i=>match σ.env t,σ.get i with
  | some (.int .i64 (.ofNat n)),some (.int _ j)=>if 0<=j/\j<ln then some (.int .i64 ((n+j.toNat * e:Nat):Int))else none
  | _,_=>none
 | .gO d n t=>if st=true then none else match σ.env t,σ.box d with
  | some (.int .i64 (.ofNat off)),some cs=>match n with
   | none=>cs[off]?
   | some n=>if off+n<=cs.length then some (.agg ((cs.drop off).take n).toArray)else none
  | _,_=>none
 | .build z g=>(buildV σ g z).map λcs=>.agg cs.toArray
 | _=>none
def fR.qJ:fR->Bool
 | .lS _ | .pick .. | .fV .. | .not _ | .ext .. | .oL .. | .fE .. | .gC .. | .nH .. | .ld .. | .len _ | .fH .. | .hO .. | .gO .. | .build ..=>true
 | _=>false
def fR.zM{P:fP}{op:fR}(A:op.qJ=true)(dst:Option Nat)(K:fG->Hp->Prop)(σ:fG)(H:Hp):op.w P dst K σ H↔∃v,op.val (P.still H.gh) σ H=some v/\K (σ.set dst v) H:=by
 cases op<;>simp only[fR.qJ,oR]at A<;>simp only[fR.w,fR.val]
 case pick c a b=>
  constructor
  ·rintro⟨t,v,h1,h2,f⟩;exact⟨v,by simp only[h1];exact h2,f⟩
  ·rintro⟨v,h1,h2⟩;split at h1;exact⟨_,v,‹_›,h1,h2⟩;simp at h1
 case fV op x y=>
  constructor
  ·rintro⟨k,p,q,v,h1,h2,f,h⟩;exact⟨v,by simp[h1,h2,f],h⟩
  ·rintro⟨v,h1,h2⟩;split at h1
   ·split at h1
    ·rename_i e;subst e;exact⟨_,_,_,v,‹_›,‹_›,h1,h2⟩
    simp at h1
   simp at h1
 case not x=>
  constructor
  ·rintro⟨b,h1,h2⟩;exact⟨_,by simp[h1],h2⟩
  ·exact LN
 case ext x i=>
  constructor
  ·rintro⟨B,v,h1,h2,f⟩;exact⟨v,by simp[h1,h2],f⟩
  ·rintro⟨v,h1,h2⟩;split at h1;exact⟨_,v,‹_›,h1,h2⟩;simp at h1
 case oL off n x=>
  constructor
  ·rintro⟨cs,h1,h2⟩;cases n with
   | none=>obtain⟨v,f,h⟩:=h2;exact⟨v,by simp[h1,f],h⟩
   | some n=>exact⟨_,by simp[h1],h2⟩
  ·rintro⟨v,h1,h2⟩;split at h1
   ·refine⟨_,‹_›,?_⟩;cases n with
    | none=>exact⟨v,h1,h2⟩
    | some n=>simp only[IF]at h1;subst h1;exact h2
   simp at h1
 case fE off x=>
  constructor
  ·rintro⟨b,h1,h2⟩;exact⟨_,by simp[h1],h2⟩
  ·exact LN
 case nH iS ln x i=>
  constructor
  ·rintro⟨b,k,n,h1,h2,f,h,m⟩;exact⟨_,by simp[h1,h2,f,h],m⟩
  ·exact TK
 case gC iS x i=>
  constructor
  ·rintro⟨b,ln,cap,k,n,h1,h2,f,h,m⟩;exact⟨_,by simp[h1,h2,f,h],m⟩
  ·rintro⟨v,h1,h2⟩;split at h1
   ·split at h1
    ·rename_i hc;simp only[IF]at h1;subst h1;exact⟨_,_,_,_,_,‹_›,‹_›,hc.1,hc.2,h2⟩
    simp at h1
   simp at h1
 case ld n x=>
  constructor
  ·rintro⟨g,b,o,p,h1,h2,f,h⟩;cases n with
   | none=>obtain⟨v,m,u⟩:=h;exact⟨v,by simp[g,h1,h2,f,m],u⟩
   | some n=>obtain⟨cs,m,u,h7⟩:=h;exact⟨_,by simp[g,h1,h2,f,Li.2 ⟨m,u⟩],h7⟩
  ·rintro⟨v,h1,h2⟩;split at h1
   ·simp at h1
   rename_i g;simp only[qDZ]at g;refine⟨g,?_⟩;split at h1
   ·split at h1
    ·split at h1
     ·refine⟨_,_,_,‹_›,‹_›,‹_›,?_⟩;cases n with
      | none=>exact⟨v,h1,h2⟩
      | some n=>
       simp only[qAD]at h1;obtain⟨cs,f,rfl⟩:=h1;obtain⟨h,m⟩:=Li.1 f;exact⟨cs,h,m,h2⟩
     simp at h1
    simp at h1
   simp at h1
 case len x=>
  constructor
  ·rintro⟨b,n,c,h1,h2⟩;exact⟨_,by simp[h1],h2⟩
  ·rintro⟨v,h1,h2⟩;split at h1;simp only[IF]at h1;subst h1;exact⟨_,_,_,‹_›,h2⟩;simp at h1
 case fH off t=>
  constructor
  ·rintro⟨n,h1,h2⟩;exact⟨_,by rw[h1],h2⟩
  ·exact LN
 case hO iS ln t i=>
  constructor
  ·rintro⟨n,k,j,h1,h2,f,h,m⟩;refine⟨_,?_,m⟩;rw[h1,h2];show(if 0<=j/\j<ln then _ else _)=_;rw[qAa ⟨f,h⟩]
  ·exact TK
 case gO d n t=>
  constructor
  ·rintro⟨g,off,cs,h1,h2,f⟩;rw[g,h1,h2];cases n with
   | none=>obtain⟨v,h,m⟩:=f;exact⟨v,h,m⟩
   | some n=>obtain⟨h,m⟩:=f;exact⟨_,by show(if off+n<=cs.length then _ else _)=_;rw[qAa h],m⟩
  ·rintro⟨v,h1,h2⟩;split at h1
   ·simp at h1
   rename_i g;simp only[qDZ]at g;refine⟨g,?_⟩;split at h1
   ·refine⟨_,_,‹_›,‹_›,?_⟩;cases n with
    | none=>exact⟨v,h1,h2⟩
    | some n=>
     simp only at h1;split at h1
     ·simp only[IF]at h1;subst h1;exact⟨‹_›,h2⟩
     simp at h1
   simp at h1
 case build z ps=>
  constructor
  ·rintro⟨cs,h1,h2⟩;exact⟨_,by simp[h1],h2⟩
  ·rintro⟨v,h1,h2⟩;simp only[qAD]at h1;obtain⟨cs,f,rfl⟩:=h1;exact⟨cs,f,h2⟩
def fR.wH{op:fR}(p:op.qJ=true){σ σ':fG}{H m:Hp}{v:Value}(e:∀t∈op.rt,t∈ts)(f:YE ts op.rb σ σ')(j:V6 P op.C9 H m){st:Bool}(h:op.val st σ H=some v):op.val st σ' m=some v:=by
 cases op<;>simp only[fR.qJ,oR]at p<;>simp only[fR.val]at h ⊢<;>simp only[fR.rt,qAj,qAi]at e
 case lS x=>rw[<-f.get e];exact h
 case pick c a b=>
  rw[<-f.get (x:=c) λt g=>e t (.inl (.inl g))]
  split at h
  ·rename_i t g;have:σ'.get (bif t then a else b)=σ.get (bif t then a else b):=by
    cases t
    ·exact(f.get (x:=b) λt g=>e t (.inr g)).symm
    exact(f.get (x:=a) λt g=>e t (.inl (.inr g))).symm
   rw[this];exact h
  ·simp at h
 case fV op x y=>rw[<-f.get (x:=x) λt g=>e t (.inl g),<-f.get (x:=y) λt g=>e t (.inr g)];exact h
 case not x=>rw[<-f.get e];exact h
 case ext x i=>rw[<-f.get e];exact h
 case oL off n x=>rw[<-f.get e];exact h
 case fE off x=>rw[<-f.get e];exact h
 case gC iS x y=>rw[<-f.get (x:=x) λt g=>e t (.inl g),<-f.get (x:=y) λt g=>e t (.inr g)];exact h
 case nH iS ln x y=>rw[<-f.get (x:=x) λt g=>e t (.inl g),<-f.get (x:=y) λt g=>e t (.inr g)];exact h
 case ld n x=>
  rw[<-f.get e]
  cases st
  case true=>simp at h
  simp only[oR,qAq]at h ⊢
  split at h
  ·rename_i a q;split at h
   ·rename_i k;rw[qAa k];cases hb:H a.block with
    | none=>rw[hb]at h;simp at h
    | some x=>rw[j.mem rfl _ _ hb];rw[hb]at h;exact h
   simp at h
  ·simp at h
 case len x=>rw[<-f.get e];exact h
 case fH off t=>rw[<-f.1 t (e t (by simp))];exact h
 case hO iS ln t i=>rw[<-f.1 t (e t (.inl rfl)),<-f.get (x:=i) λs j=>e s (.inr j)];exact h
 case gO d n t=>rw[<-f.1 t (e t (by simp)),<-f.2 d (by simp[fR.rb])];exact h
 case build z ps=>rw[<-f.buildV (ps:=ps) e];exact h
def ZvE{P:fP}{i:NI}(a:i.op.qJ=true):O3 P i:=
 ZvD (val:=λσ H=>i.op.val (P.still H.gh) σ H) (λK σ H=>fR.zM a i.dst K σ H) (λσ σ' H f v c b h=>by simp only[b.gh];exact fR.wH a (λt e=>by simp[NI.rt,e]) c b h)
def Zl4{P:fP}{i:NI}(m:i.g=none)(f:∀t,t=d\/t∈ts->t∈i.wt)(k:d∈i.wb){val:fG->Bool->Option (List Value)}
  (a:∀K σ H,i.op.w P i.dst K σ H↔∃z,val σ (P.still H.gh)=some z/\K (((σ.drop ts).set (some d) (.int .i64 0)).put d z) H) (c:∀σ σ' z g,YE i.rt i.op.rb σ σ'->val σ g=some z->val σ' g=some z):O3 P i:=by
 intro K σ H h;unfold NI.w at h;rw[m]at h;obtain⟨z,q,u⟩:=(a _ _ _).1 h;refine⟨jF.new d ts z,by rw[jF.vJ];exact u,λt j=>?_,λb hb=>?_,λB σ' A v y p=>?_⟩
 ·simp only[jF.new]at j;cases e:Nat.beq t d with
  | true=>exact f t (.inl (qBs e))
  | false=>
   rw[e]at j;cases e2:ts.elem t with
   | true=>exact f t (.inr (by simpa using e2))
   | false=>rw[e2]at j;exact absurd rfl j
 ·simp only[jF.new]at hb;cases e:Nat.beq b d with
  | true=>rw[qBs e];exact k
  | false=>rw[e]at hb;exact absurd rfl hb
 unfold NI.w;rw[m];rw[jF.vJ]at p;exact(a _ _ _).2 ⟨z,by rw[y.gh];exact c _ _ _ _ v q,p⟩
def ZvG{P:fP}{i:NI}{z:List Value}(b:i.g=none)(a:i.op=.eC d ts z):O3 P i:=
 Zl4 (val:=λ_ g=>if g=false then some z else none) b (λt e=>by simp only[NI.wt,a,qAj,qAi];exact .inr e) (by simp[NI.wb,a]) (λK σ H=>by rw[a];by_cases c:P.still H.gh=false<;>simp[fR.w,c]) (λ_ _ _ _ _ h=>h)
def ZvI{P:fP}{i:NI}(m:i.g=none)(b:i.op=.eE d ts x):O3 P i:=
 Zl4 (val:=λσ g=>if g=false then(σ.get x).map λv=>v.cells.toList else none) m (λt f=>by simp only[NI.wt,b,qAj,qAi];exact .inr f) (by simp[NI.wb,b])
  (λK σ H=>by
   rw[b];simp only[fR.w];constructor
   ·rintro⟨e,v,a,c⟩;exact⟨_,by simp[a,e],c⟩
   rintro⟨z,a,c⟩;split at a
   ·rename_i e;simp only[qAD]at a;obtain⟨v,j,rfl⟩:=a;exact⟨e,v,j,c⟩
   simp at a)
  (λσ σ' z g k h=>by rw[<-k.get (x:=x) λt f=>by simp[NI.rt,b,fR.rt,f]];exact h)
end
section
variable{ts bs done l:List Nat}{op:Op}{ty:TypeId}{n:Nat}{pre:Nat->List Nat}
def YE.app{σ:fG}{u:jF}(a:∀t∈ts,u.fe t=none)(b:∀d∈bs,u.fb d=none):YE ts bs σ (u.app σ):=
 ⟨λt c=>by simp[jF.app,a t c],λd hd=>by simp[jF.app,b d hd]⟩
def YE.Xu{σ:fG}{u:jF}(a:∀t∈ts,u.fe t=none)(b:∀d∈bs,u.fb d=none):YE ts bs (u.app σ) σ:=
 ⟨λt c=>by simp[jF.app,a t c],λd hd=>by simp[jF.app,b d hd]⟩
def Zv9{P:fP}{i:NI}(f:∀(K j:fG->Hp->Prop) σ σ' H,i.op.w P i.dst K σ H->YE i.rt i.op.rb σ σ'->(∀v c,K (σ.set i.dst v) c->j (σ'.set i.dst v) c)->i.op.w P i.dst j σ' H):Znz P i:=by
 intro K σ H h j σ' k q;unfold NI.w at h ⊢;have a:∀v c,K (σ.set i.dst v) c->j (σ'.set i.dst v) c:=λv c A=>by have:=q (jF.set i.dst (some v)) (Uu (On i)) (λ_=>rfl) c;rw[jF.kE,jF.kE]at this;exact this A
 cases m:i.g with
 | none=>
  rw[m]at h;exact f _ _ _ _ _ h k a
 | some p=>
  obtain⟨t,u⟩:=p;rw[m]at h;obtain⟨b,hb,y,z⟩:=h;refine⟨b,by rw[<-k.1 t (by simp[NI.rt,m])];exact hb,λe=>f _ _ _ _ _ (y e) k a,λe=>?_⟩;have:=q (jF.set i.dst (some undef)) (Uu (On i)) (λ_=>rfl) H;rw[jF.mX,jF.mX]at this;exact this (z e)
def ZhN{σ σ':fG}(h:YE ts bs σ σ')(g:∀f b,op≠.select f b)(j:∀t∈op.operands.toList.flatMap YK,t∈ts) :
  (op.operands.all λx=>(σ.get x).isSome)=(op.operands.all λx=>(σ'.get x).isSome)/\execOp (λx=>(σ.get x).getD undef) (fL op ty)=execOp (λx=>(σ'.get x).getD undef) (fL op ty):=by
 have c:∀x∈op.operands,σ.get x=σ'.get x:=λx a=>h.get λt i=>j t (by simp only[qCP];exact⟨x,qAS.2 a,i⟩);refine⟨?_,ZfK (o:=fL op ty) (λx a=>by rw[c x a]) g⟩;rw[qBQ,qAn,qAn];constructor<;>intro e x a
 ·rw[<-c x a];exact e x a
 rw[c x a];exact e x a
def XP:Op->Bool
 | .select ..=>true
 | _=>false
def fR.yM:fR->Bool
 | .raw op _=>!XP op && !XO op
 | .lV ..=>false
 | _=>true
def Zmw{P:fP}{i:NI}(D:i.op.cls=1)(p:i.op.yM=true):Znz P i:=by
 refine Zv9 λK O σ σ' H h y a=>?_;have c:∀t∈i.op.rt,t∈i.rt:=λt M=>by simp[NI.rt,M]
 cases I:i.op<;>rw[I]at D h c p y<;>first | (exfalso;simp[fR.cls]at D;done) | skip
 all_goals simp only[fR.w]at h ⊢
 case call f args=>
  obtain⟨N,A,B⟩:=h
  exact⟨N,by rw[<-y.gets c];exact A,B.mono λv C j=>a v C j⟩
 case fJ e ln z ps=>
  obtain⟨L,u,A,B⟩:=h
  exact⟨L,u,by rw[<-y.buildV c];exact A,λr J=>a _ _ (B r J)⟩
 case lV op ty=>simp[fR.yM]at p
 case raw op ty=>
  have q:∀u b,op≠.select u b:=by rintro u b rfl;simp[fR.yM,XP]at p
  have m:XO op=false:=by simp only[fR.yM,qAc,qBi]at p;exact p.2
  obtain⟨E,F⟩:=ZhN y (ty:=ty) q c
  refine⟨by rw[<-E];exact h.1,?_⟩
  rw[<-F]
  refine h.2.imp (Vx ?_) (Zm.mono · λv H j=>a _ _ j)
  rintro n g C (G | k)
  ·exact .inl G
  ·refine .inr ?_;cases n with
   | value v=>exact a _ _ k
   | skip=>exact a _ _ k
   | enter f args=>exact Zb.mono k λv H j=>a _ _ j
   | round l f tmps aA Q=>exact U4.mono k λv H j=>a _ _ j
   | defer d=>exact absurd (m.symm.trans k.1) (by simp)
   | _=>exact k.elim
def ZvF{P:fP}{i:NI}(g:i.op=.gE op ty)(e:XP op=false):O3 P i:=by
 intro K σ H h;unfold NI.w at h;have a:∀f b,op≠.select f b:=by rintro f b rfl;simp[XP]at e
 have c:∀t∈i.op.rt,t∈i.rt:=λt p=>by simp[NI.rt,p]
 have DS:i.op.w P i.dst K σ H->∃v,K ((jF.set i.dst (some v)).app σ) H/\∀(K':fG->Hp->Prop) σ' H',YE i.rt i.op.rb σ σ'->V6 P.toPQ i.op.C9 H H'->K' ((jF.set i.dst (some v)).app σ') H'->i.op.w P i.dst K' σ' H':=by intro h;rw[g]at h c;obtain⟨h1,v,h2,h3⟩:=h;refine⟨v,by rw[jF.kE];exact h3,λK' σ' H' ha hs hk=>?_⟩;rw[g]at ha ⊢;obtain⟨k,m⟩:=ZhN ha (ty:=ty) a c;refine⟨by rw[<-k];exact h1,v,by rw[<-m];exact h2,?_⟩;rw[jF.kE]at hk;exact hk
 exact gq7
theorem fR.k9{P:fP}{op:fR}{dst:Option Nat}{K j:fG->Hp->Prop}(c:∀σ H,K σ H->j σ H){σ:fG}{H:Hp}(h:op.w P dst K σ H):op.w P dst j σ H:=by
 cases op with
 | call f args=>obtain⟨C,a,b⟩:=h;exact⟨C,a,b.mono λv q i=>c _ _ i⟩
 | fJ e ln z D=>obtain⟨m,cs,a,b⟩:=h;exact⟨m,cs,a,λr B=>c _ _ (b r B)⟩
 | raw op ty=>
  exact⟨h.1,h.2.imp (Vx λn g q h=>h.imp id (CF.mono c)) (Zm.mono · λv H i=>c _ _ i)⟩
 | lV op ty=>exact⟨h.1,h.2.mono λv H i=>c _ _ i⟩
 | gE op ty=>obtain⟨a,v,b,k⟩:=h;exact⟨a,v,b,c _ _ k⟩
 | tS d n t x=>obtain⟨p,off,cs,v,a,b,k,u,y,A,h7⟩:=h;exact⟨p,off,cs,v,a,b,k,u,y,A,c _ _ h7⟩
 | eC d ts z=>exact⟨h.1,c _ _ h.2⟩
 | eE d ts x=>obtain⟨m,v,a,b⟩:=h;exact⟨m,v,a,c _ _ b⟩
 | _=>exact(fR.zM rfl dst j σ H).2 (by obtain⟨v,a,b⟩:=(fR.zM rfl dst K σ H).1 h;exact⟨v,a,c _ _ b⟩)
def ZvH{P:fP}{i:NI}{d t:Nat}{x:Operand}(m:i.g=none)(c:i.op=.tS d n t x):O3 P i:=by
 intro K σ H h;unfold NI.w at h;rw[m]at h;simp only[c,fR.w]at h;obtain⟨f,off,a,v,q,y,z,A,B,C,h7⟩:=h;let u:jF:={ fe:=λ_=>none,fb:=λb=>bif Nat.beq b d then some (a.take off++v.cells.toList++a.drop (off+n))else none }
 have p:∀σ:fG,u.app σ=σ.put d (a.take off++v.cells.toList++a.drop (off+n)):=by intro σ;refine fG.ext' (λ_=>rfl) (λb=>?_) rfl;simp only[jF.app,fG.put,u];cases Nat.beq b d<;>rfl
 refine⟨u,by rw[p];exact h7,λt E=>absurd rfl E,λb hb=>?_,λG σ' F k j D=>?_⟩
 ·have:b=d:=by
   simp only[u]at hb;cases he:Nat.beq b d with
   | true=>exact qBs he
   | false=>rw[he]at hb;exact absurd rfl hb
  subst this;simp[NI.wb,c]
 unfold NI.w;rw[m];simp only[c,fR.w];have e:∀s,s=t\/s∈YK x->s∈i.rt:=λs f=>by simp only[NI.rt,c,fR.rt,qAj,qAi];exact .inr f
 refine⟨by rw[j.gh];exact f,off,a,v,by rw[<-k.1 t (e t (.inl rfl))];exact q,by rw[<-k.2 d (by simp[c,fR.rb])];exact y,by rw[<-k.get (x:=x) λs f=>e s (.inr f)];exact z,A,B,C,?_⟩;rw[<-p];exact D
variable{P:fP}
def Go(P:fP)(X:Nat->NI)(b:Nat->Option Bool)(Q:fG->Hp->Prop):List Nat->fG->Hp->Prop
 | [],σ,H=>Q σ H
 | i :: l,σ,H=>(X i).w P (λσ' a=>yH P.toPQ (b i) H a/\Go P X b Q l σ' a) σ H
def Ml(x y:NI)(a:Option Bool):Bool:=
 x.op.cls == 0 && (y.op.cls != 1 || Kt x.op.C9 a) &&
 (x.wt.all λt=>!(y.rt.contains t) && !(y.wt.contains t)) && (x.wb.all λd=>!(y.op.rb.contains d) && !(y.wb.contains d)) &&
 (y.wt.all λt=>!(x.rt.contains t)) && (y.wb.all λd=>!(x.op.rb.contains d))
def XI(x:NI):Bool:=x.op.qJ || (match x.g,x.op with | none,.eC .. | none,.eE .. | none,.tS ..=>true | _,.gE op _=>!XP op | _,_=>false)
def Zl5{i:NI}(h:XI i=true):O3 P i:=by
 unfold XI at h;cases hv:i.op.qJ with
 | true=>exact ZvE hv
 | false=>
  rw[hv]at h;simp only[qDO]at h;split at h
  ·rename_i d ts z b a;exact ZvG b a
  ·rename_i d ts x b a;exact ZvI b a
  ·rename_i d n t x b a;exact ZvH b a
  ·rename_i op ty a;exact ZvF a (by simpa using h)
  simp at h
def Zzb{x y:NI}{a:Option Bool}(h:Ml x y a=true):True/\(y.op.cls≠1\/Kt x.op.C9 a=true)/\(∀t∈x.wt,t ∉ y.rt/\t ∉ y.wt)/\(∀d∈x.wb,d ∉ y.op.rb/\d ∉ y.wb)/\(∀t∈y.wt,t ∉ x.rt)/\∀d∈y.wb,d ∉ x.op.rb:=by unfold Ml at h;simp only[qAc,qAf,qBi,qCU,qBU,qBP,beq_iff_eq,bne_iff_ne,ne_eq]at h;obtain⟨⟨⟨⟨⟨_,b⟩,c⟩,e⟩,f⟩,g⟩:=h;exact⟨trivial,b,c,e,f,g⟩
def ZfI{X:Nat->NI}{K:Nat->Option Bool}{Q:fG->Hp->Prop}{c:Nat}(D:True){W:List Nat}{u:jF}
  (p:∀t,u.fe t≠none->t∈(X c).wt) (m:∀d,u.fb d≠none->d∈(X c).wb) :
  ∀(z:List Nat) (σ:fG) (H:Hp),(∀x∈z,Ml (X c) (X x) (K x)=true/\(XI (X x)=true\/((X x).op.cls=1/\(X x).op.yM=true))) ->
   (∀(q:fG->Hp->Prop) σ' j,YE (X c).rt (X c).op.rb σ σ'->V6 P.toPQ (X c).op.C9 H j->q (u.app σ') j->(X c).w P q σ' j) ->
   Go P X K Q (z++W) (u.app σ) H->Go P X K Q (z++c :: W) σ H
 | [],σ,H,_,G,h=>by simp only[qAt,Go];exact G _ σ H ⟨λ_ _=>rfl,λ_ _=>rfl⟩ (.refl _ H) ⟨.refl _ H,h⟩
 | x :: z,σ,H,S,G,h=>by
  obtain⟨L,k⟩:=S x (by simp)
  obtain⟨a1,Z,a3,a4,V,a6⟩:=Zzb L
  have AE:∀t,t ∉ (X c).wt->u.fe t=none:=λt f=>qAb λhn=>f (p t hn)
  have e:∀d,d ∉ (X c).wb->u.fb d=none:=λd g=>qAb λhn=>g (m d hn)
  have C:YE (X x).rt (X x).op.rb (u.app σ) σ:=YE.Xu (λt f=>AE t λhm=>(a3 t hm).1 f) (λd g=>e d λhm=>(a4 d hm).1 g)
  simp only[qBa,Go]at h ⊢
  rcases k with k | ⟨E,N⟩
  ·
   obtain⟨v,hv,NU,i,R⟩:=Zl5 (P:=P) k _ _ _ h
   have a:u.k8 v:=by
    refine⟨λt=>?_,λd=>?_⟩
    ·exact G0
    by_cases hm:d∈(X c).wb
    ·exact .inr (qAb λhn=>(a4 d hm).2 (i d hn))
    exact .inl (e d hm)
   refine R _ σ H C (.refl _ H) ⟨.refl _ H,?_⟩
   have A:=hv.2
   rw[<-jF.comm a]at A
   refine ZfI D p m z (v.app σ) H (λy T=>S y (by simp[T])) (λq σ' j B I M=>G q σ' j ?_ I M) A
   have b:YE (X c).rt (X c).op.rb σ (v.app σ):=YE.app (λt f=>qAb λhn=>V t (NU t hn) f) (λd g=>qAb λhn=>a6 d (i d hn) g)
   exact⟨λt f=>(b.1 t f).trans (B.1 t f),λd g=>(b.2 d g).trans (B.2 d g)⟩
  have F:=Z.resolve_left (by rw[E];simp)
  refine Zmw E N _ _ _ h _ _ C ?_
  rintro v NU i j ⟨I,A⟩
  have a:u.k8 v:=by refine⟨λt=>?_,λd=>.inr (i d)⟩;exact G0
  refine⟨I,?_⟩
  rw[<-jF.comm a]at A
  refine ZfI D p m z (v.app σ) j (λy T=>S y (by simp[T])) (λq σ' J B O M=>G q σ' J ?_ ((ZtI F I).trans O) M) A
  have b:YE (X c).rt (X c).op.rb σ (v.app σ):=YE.app (λt f=>qAb λhn=>V t (NU t hn) f) (λd g=>i d)
  exact⟨λt f=>(b.1 t f).trans (B.1 t f),λd g=>(b.2 d g).trans (B.2 d g)⟩
inductive nU (n:Nat)(pre:Nat->List Nat):List Nat->List Nat->Prop
 | nil {done:List Nat} (h:∀i,i<n->i∈done):nU n pre done []
 | cons {done l:List Nat} {i:Nat} (hi:i<n) (hd:i ∉ done) (hp:∀p∈pre i,p∈done) (h:nU n pre (i :: done) l):nU n pre done (i :: l)
def nU.congr(h:nU n pre done l):∀{a},(∀i,i∈done↔i∈a)->nU n pre a l:=by
 induction h with
 | nil h=>exact λe=>.nil λi b=>(e i).1 (h i b)
 | cons b hd f _ ih=>exact λe=>.cons b (λh=>hd ((e _).2 h)) (λp c=>(e p).1 (f p c)) (ih λi=>by simp[e])
def nU.mem(h:nU n pre done l):∀i,i<n->i∈done\/i∈l:=by
 induction h with
 | nil h=>exact λi a=>.inl (h i a)
 | cons a hd b _ ih=>
  intro i a;rcases ih i a with h | h
  ·simp only[qAi]at h;rcases h with rfl | h
   ·exact .inr (by simp)
   exact .inl h
  exact .inr (by simp[h])
def nU.fresh(h:nU n pre done l):∀i∈l,i<n/\i ∉ done:=by
 induction h with
 | nil h=>exact λi b=>by simp at b
 | cons b hd c _ ih=>
  intro i a;simp only[qAi]at a;rcases a with rfl | a
  ·exact⟨b,hd⟩
  exact⟨(ih i a).1,λh=>(ih i a).2 (by simp[h])⟩
def nU.ahead{n:Nat}{pre:Nat->List Nat}{c:Nat}{j:List Nat}(k:c<n):∀{a done:List Nat},nU n pre done (a++c :: j)->c ∉ a->nU n pre (c :: done) (a++j)
 | [],done,h,_=>by
  cases h with
  | cons f hd g h=>exact h
 | x :: a,done,h,e=>by
  cases h with
  | cons f hd g h=>
   refine .cons f ?_ (λp b=>qAm _ (g p b)) ?_
   ·simp only[qAi,not_or]at e ⊢;exact⟨qAo e.1,hd⟩
   exact(nU.ahead k h (λb=>e (by simp[b]))).congr λi=>by simp;constructor<;>(intro h;rcases h with h | h | h<;>simp[h])
end
variable{P:fP}{dst:Option Nat}{r:Nat}{o:Obj}
def CF.frame{op:Op}{K:fG->Hp->Prop}{σ:fG}{F:Hp}(hd:XO op=false):∀{n:Next} {H:Hp},CF P op dst K σ n H->H.Comp F->CF P op dst (λσ c=>∃b,c=b.join F/\b.Comp F/\K σ b) σ n (H.join F):=by
 intro n H h a;cases n with
 | value v=>exact⟨_,rfl,a,h⟩
 | skip=>exact⟨_,rfl,a,h⟩
 | enter f args=>exact Zb.frame h a
 | round l f tmps aA e=>exact U4.frame h a
 | defer d=>exact absurd (hd.symm.trans h.1) (by simp)
 | _=>exact h.elim
def ZuZ{H F:Hp}(h:F r=none):(H.join F).ins r o=(H.ins r o).join F:=by
 refine Hp.ext' (λb=>?_) rfl;simp only[Hp.fW,Hp.iG];by_cases e:b=r
 ·subst e;simp
 simp[e]
def Hp.Comp.AD{H F:Hp}(f:H.Comp F)(h:F r=none):(H.ins r o).Comp F:=by
 refine⟨λb x y c a=>?_,f.gh⟩;by_cases e:b=r
 ·subst e;rw[h]at a;simp at a
 rw[Hp.aR _ _ e]at c;exact f b x y c a
theorem fR.pV{op:fR}{K:fG->Hp->Prop}{σ:fG}{H F:Hp}(b:op.cls=1)(a:op.yM=true)(A:F.gh=[])(j:H.Comp F)(h:op.w P dst K σ H) :
  op.w P dst (λσ' u=>∃i,u=i.join F/\i.Comp F/\K σ' i) σ (H.join F):=by
 have q:(H.join F).gh=H.gh:=by rw[Hp.gB,A,qAl]
 cases B:op<;>rw[B]at b h a<;>first | (exfalso;simp[fR.cls]at b;done) | skip
 all_goals simp only[fR.w]at h ⊢
 case call f args=>
  obtain⟨G,k,m⟩:=h
  exact⟨G,k,Zb.frame m j⟩
 case fJ e ln z ps=>
  obtain⟨D,cs,k,m⟩:=h
  refine⟨by rw[q];exact D,cs,k,λr C=>?_⟩
  obtain⟨E,y⟩:=Hp.hQ.1 C
  exact⟨_,ZuZ y,j.AD y,m r E⟩
 case lV op ty=>simp[fR.yM]at a
 case raw op ty=>
  have c:XO op=false:=by simp only[fR.yM,qAc,qBi]at a;exact a.2
  refine⟨h.1,h.2.imp (λh=>?_) λh=>h.frame j⟩
  refine Vx ?_ (Ni h j)
  rintro n g u ⟨i,rfl,p,t⟩
  exact t.imp id λt=>t.frame c p
def NI.pV{i:NI}{K:fG->Hp->Prop}{σ:fG}{H F:Hp}(a:i.op.cls=1)(c:i.op.yM=true)(j:F.gh=[])(g:H.Comp F)(h:i.w P K σ H) :
  i.w P (λσ' k=>∃f,k=f.join F/\f.Comp F/\K σ' f) σ (H.join F):=by
 unfold NI.w at h ⊢;split at h
 ·exact fR.pV a c j g h
 obtain⟨b,hb,m,p⟩:=h;exact⟨b,hb,λe=>fR.pV a c j g (m e),λe=>⟨H,rfl,g,p e⟩⟩
def ON(x:NI):Bool:=match x.g,x.op with | none,.fJ ..=>true | _,_=>false
def Ou(P:fP)(x:NI)(σ:fG)(H:Hp):Prop:=
 match x.op with
 | .fJ _ _ z a=>P.still H.gh=false/\(buildV σ a z).isSome=true
 | _=>True
def ZlE{x:NI}(h:ON x=true):x.g=none/\∃e ln z a,x.op=.fJ e ln z a:=by
 unfold ON at h;split at h
 ·rename_i e ln z a b c;exact⟨b,e,ln,z,a,c⟩
 simp at h
def P0(x c:NI):Bool:=ON x && c.op.cls == 1 && c.op.yM && (x.wt.all λt=>!(c.rt.contains t) && !(c.wt.contains t)) && (c.wt.all λt=>!(x.rt.contains t))
def ZiD{x c:NI}(h:P0 x c=true):ON x=true/\c.op.cls=1/\c.op.yM=true/\(∀t∈x.wt,t ∉ c.rt/\t ∉ c.wt)/\∀t∈c.wt,t ∉ x.rt:=by unfold P0 at h;simp only[qAc,qAf,qBi,qCU,qBU,beq_iff_eq]at h;obtain⟨⟨⟨⟨a,b⟩,e⟩,f⟩,g⟩:=h;exact⟨a,b,e,f,g⟩
def ZiF{x:NI}{e:TypeId}{ln:Nat}{z:List Value}{b:List (Nat×Nat×Operand)}(c:x.g=none)(f:x.op=.fJ e ln z b){K:fG->Hp->Prop}{σ:fG}{H:Hp} :
  x.w P K σ H↔P.still H.gh=false/\∃a,buildV σ b z=some a/\∀r,H r=none->K (σ.set x.dst (.slice (some ⟨r,0,none⟩) ln ln)) (H.ins r (.cells a.toArray e)):=by
 unfold NI.w;rw[c];simp only[f,fR.w]
def ZtY{x c:NI}{K:fG->Hp->Prop}{σ:fG}{H:Hp}(hb:P0 x c=true)(D:Ou P x σ H){R:Hp->Hp->Prop}(hR:∀H A r o,H r=none->A r=none->R H A->R (H.ins r o) (A.ins r o))
  (h:c.w P (λσ1 a=>R H a/\x.w P K σ1 a) σ H):x.w P (λσ1 a=>H.Sub a/\(∀y:NI,(∀t∈y.rt,t ∉ x.wt)->Ou P y σ H->Ou P y σ1 a)/\c.w P (λσ2 H2=>R a H2/\K σ2 H2) σ1 a) σ H:=by
 obtain⟨j,M,O,a1,a2⟩:=ZiD hb
 obtain⟨hg,e,ln,z,ps,V⟩:=ZlE j
 have Sa:x.rt=ps.flatMap λp=>YK p.2.2:=by simp[NI.rt,hg,V,fR.rt]
 have G:∀d,x.dst=some d->d∈x.wt:=On x
 unfold Ou at D
 rw[V]at D
 obtain⟨hs,hv⟩:=D
 obtain⟨g,N⟩:=qBR.1 hv
 rw[ZiF hg V]
 refine⟨hs,g,N,λr W=>?_⟩
 have Q:H.Sub (H.ins r (.cells g.toArray e)):=⟨λb y T=>by rw[Hp.aR _ _ (by rintro rfl;rw[W]at T;simp at T)];exact T,rfl⟩
 refine⟨Q,λy T m=>?_,?_⟩
 ·unfold Ou at m ⊢;split at m
  ·rename_i I ln2 z2 ps2 ho2;refine⟨m.1,?_⟩;have C:YE y.rt [] σ (σ.set x.dst (.slice (some ⟨r,0,none⟩) ln ln)):=by rw[<-jF.kE];exact YE.app (λt k=>qAb λj=>T t k (Uu G t j)) (λd U=>by simp at U)
   rw[<-C.buildV (λt k=>by simp only[NI.rt,ho2,fR.rt,qAj];exact .inr k)];exact m.2
  trivial
 let F:Hp:=Hp.nil.ins r (.cells g.toArray e)
 have hF:H.Comp F:=⟨λb x y B h2=>by
  by_cases e:b=r
  ·subst e;rw[W]at B;simp at B
  rw[show F b=none from by show Hp.nil.ins r _ b=none;rw[Hp.aR _ _ e];rfl]at h2;simp at h2,.inr rfl⟩
 have i:∀a:Hp,a r=none->a.join F=a.ins r (.cells g.toArray e):=by
  intro a B;refine Hp.ext' (λb=>?_) (by rw[Hp.gB];exact qAl _);simp only[Hp.fW];by_cases I:b=r
  ·subst I;rw[B];have Y:F b=some (.cells g.toArray e,true):=Hp.aQ _ _ _;have Z:(a.ins b (.cells g.toArray e)) b=some (.cells g.toArray e,true):=Hp.aQ _ _ _;simp only[Y,Z]
  have Y:F b=none:=(Hp.aR _ _ I).trans rfl;have Z:(a.ins r (.cells g.toArray e)) b=a b:=Hp.aR _ _ I;rw[Y,Z];cases a b<;>rfl
 have B:=NI.pV M O (F:=F) rfl hF h
 rw[i H W]at B
 have C:YE c.rt c.op.rb σ (σ.set x.dst (.slice (some ⟨r,0,none⟩) ln ln)):=by rw[<-jF.kE];exact YE.app (λt k=>qAb λj=>(a1 t (Uu G t j)).1 k) (λd U=>rfl)
 refine Zmw M O _ _ _ B _ _ C ?_
 rintro u S B0 HF ⟨A,rfl,L,hR',hx⟩
 have E:A r=none:=by
  cases hh:A r with
  | none=>rfl
  | some y=>have:=(L r y (.cells g.toArray e,true) hh (Hp.aQ _ _ _)).2;have I:=(L r y (.cells g.toArray e,true) hh (Hp.aQ _ _ _)).1;rw[I]at this;simp at this
 rw[i A E]
 refine⟨hR _ _ _ _ W E hR',?_⟩
 obtain⟨_,kY,q,hx⟩:=(ZiF hg V).1 hx
 have J:YE x.rt [] σ (u.app σ):=YE.app (λt k=>qAb λj=>a2 t (S t j) k) (λd U=>by simp at U)
 have:buildV (u.app σ) ps z=some g:=by rw[<-J.buildV (λt k=>by rw[Sa];exact k)];exact N
 rw[this]at q
 obtain rfl:=aT q
 have v:=hx r E
 rw[<-jF.kE]at v ⊢
 have Wn:u.k8 (jF.set x.dst (some (.slice (some ⟨r,0,none⟩) ln ln))):=by
  refine⟨λt=>?_,λd=>.inl (B0 d)⟩;by_cases hm:t∈x.wt
  ·exact .inl (qAb λj=>(a1 t hm).2 (S t j))
  exact .inr (qAb λj=>hm (Uu G t j))
 rw[jF.comm Wn]
 exact v
def NI.k9{i:NI}{K c:fG->Hp->Prop}(a:∀σ H,K σ H->c σ H){σ:fG}{H:Hp}(h:i.w P K σ H):i.w P c σ H:=by
 unfold NI.w at h ⊢;split at h
 ·exact fR.k9 a h
 obtain⟨b,hb,f,g⟩:=h;exact⟨b,hb,λe=>fR.k9 a (f e),λe=>a _ _ (g e)⟩
def ZiE{P:fP}{X:Nat->NI}{j:Nat->Option Bool}{Q:fG->Hp->Prop}{c:Nat}{p:List Nat}:∀(f:List Nat) (σ:fG) (H:Hp),(∀x∈f,P0 (X x) (X c)=true)->(∀x∈f,∀y∈f,∀t∈(X x).wt,t ∉ (X y).rt)->(∀x∈f,Ou P (X x) σ H) ->
  (X c).w P (λσ' m=>yH P.toPQ (j c) H m/\Go P X j Q (f++p) σ' m) σ H->Go P X j Q (f++c :: p) σ H
 | [],σ,H,_,_,_,h=>h
 | x :: f,σ,H,hb,v,k,h=>by
  have F:(X c).w P (λσ1 i=>yH P.toPQ (j c) H i/\(X x).w P (λσ2 B=>Go P X j Q (f++p) σ2 B) σ1 i) σ H:=
   NI.k9 (λσ' m u=>⟨u.1,by have q:=u.2;simp only[qBa,Go]at q;exact NI.k9 (λ_ _ I=>I.2) q⟩) h
  have G:=ZtY (R:=λH i=>yH P.toPQ (j c) H i) (hb x (by simp)) (k x (by simp)) (λH m r o O S J s K=>by
   have A:=J s K;refine⟨A.gh,λes b y a=>?_⟩;by_cases e:b=r
   ·subst e;rw[Hp.aQ]at a ⊢;exact a
   rw[Hp.aR _ _ e]at a ⊢;exact A.mem es b y a) F
  simp only[qBa,Go];refine NI.k9 ?_ G;rintro σ1 i ⟨C,D,E⟩;refine⟨C.kpt _,ZiE f σ1 i (λy a=>hb y (by simp[a])) (λy a z N=>v y (by simp[a]) z (by simp[N])) (λy a=>D (X y) (λt M L=>v x (by simp) y (by simp[a]) t L M) (k y (by simp[a]))) E⟩
def QS(P:fP)(X:Nat->NI)(b:Nat->Option Bool)(W:Nat->Nat->Bool)(Q:fG->Hp->Prop):List Nat->fG->Hp->Prop
 | [],σ,H=>Q σ H
 | i :: l,σ,H=>((X i).op.cls≠0->∀x∈l,ON (X x)=true->W x i=false->Ou P (X x) σ H)/\(X i).w P (λσ' a=>yH P.toPQ (b i) H a/\QS P X b W Q l σ' a) σ H
def Kz(X:Nat->NI)(a:Nat->Option Bool)(W:Nat->Nat->Bool):List Nat->Bool
 | []=>true
 | c :: C=>(if(X c).op.cls == 0 then XI (X c) && (C.all λx=>W x c || (Ml (X c) (X x) (a x) && (XI (X x) || ((X x).op.cls == 1 && (X x).op.yM))))
   else(C.all λx=>W x c || P0 (X x) (X c)) && (C.all λx=>W x c || C.all λy=>W y c || (X x).wt.all λt=>!((X y).rt.contains t))) && Kz X a W C
def Ze5{P:fP}{n:Nat}{pre:Nat->List Nat}{X:Nat->NI}{R:Nat->Option Bool}{W:Nat->Nat->Bool}{Q:fG->Hp->Prop}(Y:∀(x e:Nat) (done:List Nat),(∀i∈done,∀p∈pre i,p∈done)->W x e=true->(∀p∈pre x,p∈done)->e∈done) :
  ∀(C:List Nat) {done l:List Nat} {σ:fG} {H:Hp},nU n pre done C->nU n pre done l->(∀i∈done,∀p∈pre i,p∈done)->Kz X R W C=true->QS P X R W Q C σ H->Go P X R Q l σ H
 | [],done,l,σ,H,V,B,_,_,h=>by
  cases V with
  | nil J=>
   cases B with
   | nil _=>exact h
   | cons N E _ _=>exact absurd (J _ N) E
 | c :: C,done,l,σ,H,V,B,k,hB,h=>by
  cases V with
  | cons N E hp D=>
   have A:∀i∈c :: done,∀p∈pre i,p∈c :: done:=by
    intro i m p v;simp only[qAi]at m;rcases m with rfl | m
    ·exact qAm _ (hp p v)
    exact qAm _ (k i m p v)
   have K:c∈l:=(B.mem c N).resolve_left E;obtain⟨j,l2,rfl,F⟩:=List.eq_append_cons_of_mem K;have z:=nU.ahead N B F;simp only[Kz,qAc]at hB;obtain⟨f,I⟩:=hB;have g:∀x∈j,x∈C/\W x c=false:=by
    intro x a;have hxl:x∈j++c :: l2:=by simp[a]
    have L:=B.fresh x hxl;have hxc:x≠c:=λe=>F (e ▸ a);have b:x∈C:=by
     rcases D.mem x L.1 with h | h
     ·simp only[qAi]at h;rcases h with h | h
      ·exact absurd h hxc
      exact absurd h L.2
     exact h
    refine⟨b,?_⟩;cases hw:W x c with
    | false=>rfl
    | true=>
     exfalso;have key:∀(j:List Nat) (done:List Nat),nU n pre done (j++c :: l2)->(∀i∈done,∀p∈pre i,p∈done)->c ∉ j->c ∉ done->x∈j->False:=by
      intro j;induction j with
      | nil=>exact λ_ _ _ _ _ h=>by simp at h
      | cons y j ih=>
       intro done B k Z E a;cases B with
       | cons SL Ju M z=>
        simp only[qAi]at a;rcases a with rfl | a
        ·exact E (Y x c done k hw M)
        refine ih (y :: done) z ?_ (λh=>Z (by simp[h])) ?_ a
        ·intro i m p v;simp only[qAi]at m;rcases m with rfl | m
         ·exact qAm _ (M p v)
         exact qAm _ (k i m p v)
        simp only[qAi,not_or]at Z ⊢;exact⟨Z.1,E⟩
     exact key j done B k F E a
   simp only[QS]at h;obtain⟨B6,h⟩:=h;by_cases S:(X c).op.cls=0
   ·simp only[S,beq_self_eq_true,qBb,qAc,qAf]at f;obtain⟨u,hu,RR,B0,Ru⟩:=Zl5 (P:=P) f.1 _ _ _ h;have G:=Ze5 Y C D z A I hu.2;refine ZfI (P:=P) trivial RR B0 j σ H (λx a=>?_) Ru G;obtain⟨b,w⟩:=g x a;have:=f.2 x b;rw[w]at this;simpa using this
   have pK:((X c).op.cls == 0)=false:=by simpa using S
   simp only[pK,oR,qAq,qAc,qAf,qBP]at f;have q:∀x∈j,P0 (X x) (X c)=true:=λx a=>by obtain⟨b,w⟩:=g x a;exact(f.1 x b).resolve_left (by rw[w];simp)
   refine ZiE j σ H q (λx a y hy t ht m=>?_) (λx a=>B6 S x (g x a).1 (ZiD (q x a)).1 (g x a).2) (NI.k9 (λσ' H' ⟨T,U⟩=>⟨T,Ze5 Y C D z A I U⟩) h);obtain⟨b,w⟩:=g x a;obtain⟨hyC,hyw⟩:=g y hy;have T:=(f.2 x b).resolve_left (by rw[w];simp);have U:=(T y hyC).resolve_left (by rw[hyw];simp);have h3:=U t ht;simp at h3;exact h3 m
