import Derived.Test.YthmnpenamnoniaaGreatDoorP04
set_option linter.all false
namespace Go.LL
section
variable{P:aY}{nr:Bool}{L:List (Nat×Nat)}{m:Nat}{aG:Array Oper}{l l1 l2:List (NI×Option Bool)}{H Ha:Hp}{a:Act}
def YP(P:aY):List (NI×Option Bool)->(aL->Hp->Prop)->aL->Hp->Prop
 | [],Q,σ,H=>Q σ H
 | (i,f) :: r,Q,σ,H=>P.still H.gh=false/\i.w P (λσ' b=>nL P.toPQ f H b/\YP P r Q σ' b) σ H
instance:Inhabited NI:=⟨⟨none,none,.cV (.const (.bool false))⟩⟩
def U3(c:List NI)(aG:Array Oper)(pre:Nat->List Nat)(W:Nat->Nat->Bool):Option (List (NI×Option Bool)):=
 let X:=λi=>c.getD i default
 let C:=Ak pre (λi=>(X i).op.gO == 0) (λi=>O7 (X i)) W aG.size [] (List.range aG.size)
 let F:=XE X W [] C
 let b:=λi=>F.lookup i
 if OA aG && BX aG.size pre [] C && E9 X b W C then some (BR X b W C)else none
def UK(aG:Array Oper):Nat->Nat->Bool:=
 let b:=fW aG aG.size
 λx e=>(b.getD x 0).testBit e
def LY(P:Program)(L:List (Nat×Nat))(m:Nat)(aG:Array Oper):Option (List (NI×Option Bool)):=
 match Vq P L m aG (List.range aG.size)with
 | none=>none
 | some b=>U3 b aG (YS aG) (UK aG)
def ZuW(x:NI):Bool:=match x.op with | .raw (.store ..) _=>true | .raw (.mapEntry ..) _=>true | _=>false
def ZuZ(x:NI):Bool:=match x.op with | .ld ..=>true | .raw (.lookup ..) _=>true | _=>false
def Ztk(b:List NI)(aG:Array Oper):Option (Nat×Nat):=
 let X:=λi=>b.getD i default
 let W:=UK aG
 (List.range aG.size).findSome? λs=>if ZuW (X s)then(List.range aG.size).findSome? λc=>if ZuZ (X c) && !(W s c) && !(W c s)then some (c,s)else none else none
def LW(P:Program)(L:List (Nat×Nat))(m:Nat)(aG:Array Oper):Option (List (NI×Option Bool)×List (NI×Option Bool)):=
 match Vq P L m aG (List.range aG.size)with
 | none=>none
 | some c=>match Ztk c aG with
  | none=>none
  | some (a,b)=>if !(Nat.beq a b) && Nat.blt a aG.size then
    match U3 c aG (Y5 (YS aG) a b) (Oc (UK aG) a b),U3 c aG (Y5 (YS aG) b a) (Oc (UK aG) b a)with
    | some l1,some l2=>some (l1,l2)
    | _,_=>none
   else none
def Zu1(x:NI):Bool:=match x.op with | .raw (.alloc _) _=>true | _=>false
def Cn(x:NI):Bool:=match x.op with | .call ..=>true | _=>false
def Ztl(b:List NI)(aG:Array Oper):Option (Nat×Nat×Nat):=
 let X:=λi=>b.getD i default
 let W:=UK aG
 (List.range aG.size).findSome? λa=>if Zu1 (X a)then(List.range aG.size).findSome? λc=>if Cn (X c) && !(W a c) && !(W c a)then(List.range aG.size).findSome? λe=>if Cn (X e) && W e c && !(W a e) && !(W e a)then some (a,c,e)else none else none else none
def LX(P:Program)(L:List (Nat×Nat))(m:Nat)(aG:Array Oper):Option (List (NI×Option Bool)×List (NI×Option Bool)×List (NI×Option Bool)):=
 match Vq P L m aG (List.range aG.size)with
 | none=>none
 | some b=>match Ztl b aG with
  | none=>none
  | some (a,c,e)=>if !(Nat.beq a c) && !(Nat.beq a e) && Nat.blt a aG.size then
    match U3 b aG (Y5 (YS aG) a c) (Oc (UK aG) a c),U3 b aG (Y5 (Y5 (YS aG) c a) a e) (Oc (Oc (UK aG) c a) a e),U3 b aG (Y5 (Y5 (YS aG) c a) e a) (Oc (Oc (UK aG) c a) e a)with
    | some l1,some l2,some d=>some (l1,l2,d)
    | _,_,_=>none
   else none
def Qi{P:Program}{L:List (Nat×Nat)}{m:Nat}{aG:Array Oper}:∀{l:List Nat} {b:List NI},Vq P L m aG l=some b->b.length=l.length/\∀(j i:Nat),l[j]? = some i->y5 P L m aG i=b[j]?
 | [],b,h=>by simp only[Vq,aT]at h;subst h;exact⟨rfl,λj i h=>by simp at h⟩
 | k :: l,b,h=>by
  simp only[Vq]at h;split at h
  ·rename_i x o d e;simp only[aT]at h;subst h;obtain⟨g,n⟩:=Qi e;refine⟨by simp[g],λj i c=>?_⟩;cases j with
   | zero=>simp at c;subst c;simp[d]
   | succ j=>simp at c;simpa using n j i c
  simp at h
def XQ{P:aY}{X:Nat->NI}{r:List (NI×Option Bool)}{Q:aL->Hp->Prop}:∀{ps:List Nat} {σ:aL} {H:Hp},(∀x∈ps,O7 (X x)=true)->YP P (ps.map (λx=>(FA (X x),none))++r) Q σ H->(∀x∈ps,OD P (X x) σ H)/\YP P r Q σ H
 | [],σ,H,_,h=>⟨λx b=>by simp at b,h⟩
 | p :: ps,σ,H,g,h=>by
  obtain⟨t,e,ln,z,q,i⟩:=Co (g p (by simp));simp only[qBh,qBk,YP]at h;obtain⟨d,h⟩:=h;have o:FA (X p)=⟨none,none,.build z q⟩:=by unfold FA;rw[i]
  rw[o]at h;obtain⟨s,c,_,h⟩:=h;obtain⟨j,n⟩:=XQ (ps:=ps) (λx b=>g x (by simp[b])) h;refine⟨λx b=>?_,n⟩;simp only[DO]at b;rcases b with rfl | b
  ·unfold OD;rw[i];exact⟨d,by rw[c];rfl⟩
  exact j x b
def XP{P:aY}{X:Nat->NI}{c:Nat->Option Bool}{W:Nat->Nat->Bool}{Q:aL->Hp->Prop}:∀{l:List Nat} {σ:aL} {H:Hp},YP P (BR X c W l) Q σ H->yX P X c W Q l σ H
 | [],σ,H,h=>h
 | i :: l,σ,H,h=>by
  simp only[BR]at h;simp only[yX];have b:∀{σ H},YP P ((X i,c i) :: BR X c W l) Q σ H->(X i).w P (λσ' e=>nL P.toPQ (c i) H e/\yX P X c W Q l σ' e) σ H:=λh=>NI.eF (λσ' e p=>⟨p.1,XP p.2⟩) h.2;by_cases j:(X i).op.gO=0
  ·simp only[j,beq_self_eq_true,qAH,qAn]at h;exact⟨λn=>absurd j n,b h⟩
  have o:((X i).op.gO == 0)=false:=by simpa using j
  simp only[o,dO,qAf]at h;obtain⟨r,s⟩:=XQ (λx d=>by simp only[qAq,oR]at d;exact d.2.1) h;exact⟨λ_ x d n t=>r x (qAq.2 ⟨d,by rw[n,t];rfl⟩),b s⟩
def Ca{P:aY}{L:List (Nat×Nat)}{m:Nat}{aG:Array Oper}{X:Nat->NI}{o:Nat->Option Bool}{Q:aL->Hp->Prop}(p:∀i,i<aG.size->y5 P L m aG i=some (X i)):∀{l:List Nat} {σ:aL} {H:Hp},(∀i∈l,i<aG.size)->Go P X o Q l σ H->Vq P L m aG l=some (l.map X)/\gV P (l.map X) Q σ H
 | [],σ,H,_,h=>⟨rfl,h⟩
 | i :: l,σ,H,n,h=>by
  have u:=p i (n i (by simp));have v:Vq P L m aG l=some (l.map X):=by
   clear h;induction l with
   | nil=>rfl
   | cons j l ih=>
    have:=ih (λk g=>n k (by simp at g ⊢;rcases g with h | h<;>simp[h]));simp only[Vq,p j (n j (by simp)),this,qBh]
  refine⟨by simp only[Vq,u,v,qBh],?_⟩;have c:∀σ' d,(nL P.toPQ (o i) H d/\Go P X o Q l σ' d)->gV P (l.map X) Q σ' d:=λσ' d z=>(Ca p (λk g=>n k (by simp[g])) z.2).2;simp only[qBh,gV];simp only[Go,NI.w]at h;split at h
  ·rename_i q;try rw[q]
   exact aR.eF c h
  rename_i t s q;try rw[q]
  obtain⟨b,hb,x,y⟩:=h;exact⟨b,hb,λe=>aR.eF c (x e),λe=>c _ _ (y e)⟩
def xX{Q:aL->Hp->Prop}{σ:aL}(A:kM L=true->nr=true){t:List NI}(s:Vq P L m aG (List.range aG.size)=some t){pre:Nat->List Nat}{W:Nat->Nat->Bool}
  (B:OA aG=true->∀(x e:Nat) (done:List Nat),(∀i∈done,∀p∈pre i,p∈done)->W x e=true->(∀p∈pre x,p∈done)->e∈done)
  (v:U3 t aG pre W=some l) (h:YP P l Q σ H) (r:cX P L m σ H a Ha) {sched:List Nat} (b:OA aG=true->fY aG.size pre [] sched):lI P nr aG (Nx P L m Q) sched a Ha:=by
 unfold U3 at v;obtain⟨u,rfl⟩:=YO v;simp only[oR]at u;obtain⟨⟨c,n⟩,o⟩:=u;obtain⟨j,d⟩:=Qi s;have C:∀i,i<aG.size->y5 P L m aG i=some (t.getD i default):=by intro i g;rw[d i i (by simp[g])];rw[qBK]at j;rw[qAl,qAx O];rfl
 have w:=b c;have q:=NQ (P:=P) (pre:=pre) (B c) _ (Ax n) w (λi g=>by simp at g) o (XP h);obtain⟨y,z⟩:=Ca C (λi g=>(w.fresh i g).1) q;exact F8 A y z r
def xM(b:OA aG=true):∀(x e:Nat) (done:List Nat),(∀i∈done,∀p∈YS aG i,p∈done)->UK aG x e=true->(∀p∈YS aG x,p∈done)->e∈done:=by
 intro x e done d c g;unfold UK at c;have j:x<aG.size:=by
  rcases qAM x aG.size with h | h
  ·exact h
  rw[qAl,qAF (by rw[B5];exact h)]at c;simp at c
 rw[LH aG _ x j]at c;exact Zuj b d x e c g
def ZwC{Q:aL->Hp->Prop}{σ:aL}(e:kM L=true->nr=true)(c:LY P L m aG=some l)(h:YP P l Q σ H)(r:cX P L m σ H a Ha)(t:Nat) :
  lI P nr aG (Nx P L m Q) (Region.schedule true aG t) a Ha:=by
 unfold LY at c;split at c
 ·simp at c
 rename_i g d;exact xX e d (λb=>xM b) c h r (λb=>LC b t)
def ZwE{Q:aL->Hp->Prop}{σ:aL}(p:kM L=true->nr=true)(c:LW P L m aG=some (l1,l2))(s:YP P l1 Q σ H)(u:YP P l2 Q σ H)(r:cX P L m σ H a Ha)(t:Nat) :
  lI P nr aG (Nx P L m Q) (Region.schedule true aG t) a Ha:=by
 unfold LW at c;split at c
 ·simp at c
 rename_i y d;split at c
 ·simp at c
 rename_i i j x;split at c
 ·rename_i g;simp only[oR,qAK]at g;have o:i≠j:=by rintro rfl;rw[qDc]at g;simp at g
  have n:i<aG.size:=by have:=g.2;exact qBI this
  split at c
  ·rename_i v w e q;simp only[aT,qAL]at c;obtain⟨rfl,rfl⟩:=c;by_cases b:OA aG=true
   ·rcases(LC b t).uL o n (by simp) (by simp)with h | h
    ·exact xX p d (λb=>uQ (xM b)) e s r (λ_=>h)
    exact xX p d (λb=>uQ (xM b)) q u r (λ_=>h)
   unfold U3 at e;simp only[b,qBO]at e;simp at e
  simp at c
 simp at c
def ZwD{s:List (NI×Option Bool)}{Q:aL->Hp->Prop}{σ:aL}(p:kM L=true->nr=true)(c:LX P L m aG=some (l1,l2,s))(w:YP P l1 Q σ H)(x:YP P l2 Q σ H)(y:YP P s Q σ H)(r:cX P L m σ H a Ha)(t:Nat) :
  lI P nr aG (Nx P L m Q) (Region.schedule true aG t) a Ha:=by
 unfold LX at c;split at c
 ·simp at c
 rename_i C d;split at c
 ·simp at c
 rename_i i j k B;split at c
 ·rename_i e;simp only[oR,qAK]at e;have q:i≠j:=by rintro rfl;rw[qDc]at e;simp at e
  have n:i≠k:=by rintro rfl;rw[qDc]at e;simp at e
  have g:i<aG.size:=by have:=e.2;exact qBI this
  split at c
  ·rename_i z A a3 o u v;simp only[aT,qAL]at c;obtain⟨rfl,rfl,rfl⟩:=c;by_cases b:OA aG=true
   ·rcases(LC b t).uL q g (by simp) (by simp)with h | h
    ·exact xX p d (λb=>uQ (xM b)) o w r (λ_=>h)
    rcases h.uL n g (by simp) (by simp)with h | h
    ·exact xX p d (λb=>uQ (uQ (xM b))) u x r (λ_=>h)
    exact xX p d (λb=>uQ (uQ (xM b))) v y r (λ_=>h)
   unfold U3 at o;simp only[b,qBO]at o;simp at o
  simp at c
 simp at c
inductive Zb where
 | skip
 | aG (l:List NI)
 | drawn (l:List (NI×Option Bool))
 | pW (l1 l2:List (NI×Option Bool))
 | fA (l1 l2 l3:List (NI×Option Bool))
 | seq (a b:Zb)
 | cond (c:Operand) (t e:Zb)
 | block (id:Nat) (b:Zb)
 | loop (b:Zb)
 | exit (id:Nat)
 | ret
 | gU (f:Operand) (params:List Nat) (aA bd:Zb)
def aL.round(σ:aL):List Nat->List Value->aL
 | t :: b,v :: c=>aL.round (σ.set (some t) v) b c
 | _,_=>σ
def aL.aN(σ:aL):aL:={ env:=σ.env,box:=λ_=>none,bN:=[] }
def M3(I:Hp->Prop)(S:Ex->Hp->Prop):Ex->aL->Hp->Prop
 | .normal,_,H=>I H
 | e,_,H=>S e H
def LQ:Ex->aL->Hp->Prop:=λ_ _ _=>False
def Yc(P:Program)(L:List (Nat×Nat))(m:Nat)(d:Rd):Code->Option Zb
 | .skip=>some .skip
 | .label _=>some .skip
 | .region _ aG false=>if d.l7 || vA aG then(Vq P L m aG (List.range aG.size)).map .aG else none
 | .region _ aG true=>
  match LW P L m aG with
  | some (l1,l2)=>if P.follows .mixedOrders && (d.l7 || vA aG)then some (.pW l1 l2)else none
  | none=>
  match LY P L m aG with
  | some l=>if P.follows .mixedOrders && (d.l7 || vA aG)then some (.drawn l)else none
  | none=>
  match LX P L m aG with
  | some (l1,l2,i)=>if P.follows .mixedOrders && (d.l7 || vA aG)then some (.fA l1 l2 i)else none
  | none=>none
 | .seq a b=>match Yc P L m d a,Yc P L m d b with
  | some x,some y=>some (.seq x y)
  | _,_=>none
 | .cond c t e=>match Yc P L m d t,Yc P L m d e with
  | some x,some y=>if nl L c then some (.cond c x y)else none
  | _,_=>none
 | .block id b=>(Yc P L m d b).map (.block id)
 | .scope b=>Yc P L m d b
 | .loop b=>(Yc P L m d b).map .loop
 | .exit id=>some (.exit id)
 | .ret=>some .ret
 | .rangeFunc f g aA h=>if d.l7 && L.isEmpty && (g.toList.all λt=>decide (t<m))then
   match Yc P L m ⟨false,false⟩ aA,Yc P L m ⟨false,false⟩ h with
   | some x,some y=>some (.gU f g.toList x y)
   | _,_=>none
  else none
 | _=>none
theorem Bi(r:Nat)(b:List Deferred):VC (O3 r :: b)=r :: VC b:=rfl
def cX.marked{P:PQ}{σ:aL}{K J:Hp}{r:Nat}(b:∀g,P.still g=false)(rel:cX P [] m σ H a (H.join K)) (i:∃ρ:Nat->Nat,(∀d c,σ.box d=some c->∃t,K (ρ d)=some (.cells c.toArray t (0,0),true)) /\
  (∀d p c o,σ.box d=some c->σ.box p=some o->ρ d=ρ p->d=p)/\(∀t v,σ.env t=some v->V8 [] ρ t v (a.tmps.getD t undef))/\U8 P K a.defers) {j:Hp} (u:j.Comp K) (h:(j.join K).Comp J) (s:J r=some (.deferred (some []),true)) :
  cX P [] m σ j ⟨a.tmps,O3 r :: a.defers⟩ ((j.join K).join J):=by
 obtain⟨ρ,w,y,z,q⟩:=i;have e:K.Comp J:=Hp.Comp.dD u h;refine⟨rel.size,rel.defers,ρ,K.join J,Hp.cO _ _ _,u.join_r h.of_join_left,λd c A=>?_,y,z,?_,λx n=>?_,.inr b⟩
 ·obtain⟨t,C⟩:=w d c A;exact⟨t,Hp.aJ C⟩
 ·rw[Bi,qBY];refine⟨λB=>?_,q.1⟩;have:=e r _ _ (q.2.1 r B) s;simp at this
 rw[Bi]at n;rcases DO.1 n with rfl | n
 ·exact Hp.aP e s
 exact Hp.aJ (q.2.1 x n)
def Nj{P:PQ}{m:Nat}:∀{ps:List Nat} {vs:List Value} {σ:aL} {tmps:Array Value} {H:Hp},(∀t∈ps,t<m)->cX P [] m σ H ⟨tmps,[]⟩ H->cX P [] m (σ.round ps vs) H ⟨(ps.zip vs).foldl (λtmps (t,a)=>tmps.setIfInBounds t a) tmps,[]⟩ H
 | [],vs,σ,tmps,H,_,r=>by simpa[aL.round]using r
 | t :: ps,[],σ,tmps,H,_,r=>by simpa[aL.round]using r
 | t :: ps,v :: vs,σ,tmps,H,b,r=>by simp only[aL.round,List.zip_cons_cons,qBZ];have:=r.set (dst:=some t) (by simp[eK,b t (by simp)]) v;exact Nj (λx c=>b x (by simp[c])) this
abbrev Nq(P:PQ)(L:List (Nat×Nat))(m:Nat)(Q:Ex->aL->Hp->Prop)(e:Ex)(a:Act)(Ha:Hp):Prop:=∃σ H,cX P L m σ H a Ha/\Q e σ H
def tF(P:aY)(a b:Zb)(Q:Ex->aL->Hp->Prop)(σ:aL)(H:Hp):Prop:=
 ∀(L:List (Nat×Nat)) (m:Nat) (c:Rd) (code:Code) (act:Act) (Ha:Hp),(kM L=true->c.nr=true)->Yc P L m c code=some (.seq a b)->cX P L m σ H act Ha->dZ P c code (Nq P L m Q) act Ha
def tF.mono{a b:Zb}{Q c:Ex->aL->Hp->Prop}{σ:aL}(o:∀e σ H,Q e σ H->c e σ H)(h:tF P a b Q σ H):tF P a b c σ H:=
 λL m p code act Ha g i j=>(h L m p code act Ha g i j).mono λe a H ⟨σ,d,r,n⟩=>⟨σ,d,r,o _ _ _ n⟩
def Zb.w(P:aY):Zb->(Ex->aL->Hp->Prop)->aL->Hp->Prop
 | .skip,Q,σ,H=>Q .normal σ H
 | .aG l,Q,σ,H=>gV P l (Q .normal) σ H
 | .drawn l,Q,σ,H=>P.still H.gh=false/\YP P l (Q .normal) σ H
 | .pW l1 l2,Q,σ,H=>P.still H.gh=false/\YP P l1 (Q .normal) σ H/\YP P l2 (Q .normal) σ H
 | .fA l1 l2 r,Q,σ,H=>P.still H.gh=false/\YP P l1 (Q .normal) σ H/\YP P l2 (Q .normal) σ H/\YP P r (Q .normal) σ H
 | .seq a b,Q,σ,H=>a.w P (eJ.then (b.w P Q) Q) σ H\/tF P a b Q σ H\/∃(ι:Type) (I:ι->Hp->Prop) (st:ι->aL),a.w P (eJ.then (λσ' h=>∃i,I i h/\(st i).Le σ') Q) σ H/\∀i H,I i H->b.w P Q (st i) H
 | .cond c t e,Q,σ,H=>∃b,σ.get c=some (.bool b)/\(b=true->t.w P Q σ H)/\(b=false->e.w P Q σ H)
 | .block id b,Q,σ,H=>b.w P (eJ.inBlock id Q) σ H
 | .loop b,Q,σ,H=>∃(ι:Type) (I:ι->Hp->Prop) (μ:ι->Nat) (st:ι->aL) (i:ι),I i H/\(st i).Le σ/\∀i H,I i H->b.w P (eJ.then (λσ' h=>∃j,μ j<μ i/\I j h/\(st j).Le σ') Q) (st i) H
 | .exit id,Q,σ,H=>Q (.exit id) σ H
 | .ret,Q,σ,H=>Q .ret σ H
 | .gU f p aA q,Q,σ,H=>(∀g,P.still g=false)/\∃(N:Hp->Prop) (d:List (List Value)) (o:Value),σ.get f=some o/\OE P o N d/\(∀x∈d,x.length=p.length) /\
   ∃(I:Nat->Hp->Prop) (S:Ex->Hp->Prop),I 0 H/\(∀n,Up (I n))/\(∀e,Up (S e))/\(∀n H,I n H->N H) /\
   (∀n (s:n<d.length) H,I n H->aA.w P (eJ.then (q.w P (M3 (I (n+1)) S)) LQ) (σ.aN.round p d[n]) H) /\
   (∀H,I d.length H->Q .normal σ H)/\∀e H,e≠.normal->S e H->Q e σ H
theorem Nq.then{next:aL->Hp->Prop}{Q:Ex->aL->Hp->Prop}{b:Act->Hp->Prop}(d:∀σ H a Ha,cX P L m σ H a Ha->next σ H->b a Ha){e:Ex}(h:Nq P L m (eJ.then next Q) e a Ha):Ex.then b (Nq P L m Q) e a Ha:=by
 obtain⟨σ,H,r,c⟩:=h;cases e with
 | normal=>exact d _ _ _ _ r c
 | exit id=>exact⟨σ,H,r,c⟩
 | ret=>exact⟨σ,H,r,c⟩
theorem VT{P:aY}{L:List (Nat×Nat)}{m:Nat}:∀{rd:Rd} {c:Code} {n:Zb} {Q:Ex->aL->Hp->Prop} {σ:aL} {H Ha:Hp} {a:Act},(kM L=true->rd.nr=true)->Yc P L m rd c=some n->n.w P Q σ H->cX P L m σ H a Ha->dZ P rd c (Nq P L m Q) a Ha
 | rd,.skip,n,Q,σ,H,Ha,a,o,g,h,r=>by simp only[Yc,aT]at g;subst g;exact .skip ⟨_,_,r,h⟩
 | rd,.label _,n,Q,σ,H,Ha,a,o,g,h,r=>by simp only[Yc,aT]at g;subst g;exact .label ⟨_,_,r,h⟩
 | rd,.region id aG dr,n,Q,σ,H,Ha,a,o,g,h,r=>by
  cases dr with
  | true=>
   simp only[Yc]at g;split at g
   ·rename_i l1 l2 C;obtain⟨p,rfl⟩:=YO g;simp only[oR,qBm]at p;refine .pB (r.bB h.1) p.2 λt=>?_;rw[p.1];exact ZwE o C h.2.1 h.2.2 r t
   split at g
   ·rename_i l C;obtain⟨p,rfl⟩:=YO g;simp only[oR,qBm]at p;refine .pB (r.bB h.1) p.2 λt=>?_;rw[p.1];exact ZwC o C h.2 r t
   split at g
   ·rename_i l1 l2 l3 C;obtain⟨p,rfl⟩:=YO g;simp only[oR,qBm]at p;refine .pB (r.bB h.1) p.2 λt=>?_;rw[p.1];exact ZwD o C h.2.1 h.2.2.1 h.2.2.2 r t
   simp at g
  | false=>
   simp only[Yc]at g;split at g
   ·rename_i hd;simp only[qAk]at g;obtain⟨ns,p,rfl⟩:=g;simp only[qBm]at hd;exact .region hd (F8 o p h r)
   simp at g
 | rd,.seq x y,n,Q,σ,H,Ha,a,o,g,h,r=>by
  simp only[Yc]at g;split at g
  ·rename_i nx ny F V;simp only[aT]at g;subst g;rcases h with h | h | ⟨ι,I,st,p,h2⟩
   ·refine .seq ((VT o F h r).mono λe Z Y s=>?_);exact Nq.then (P:=P) (λσ H a Ha u h'=>VT o V h' u) s
   ·exact h L m rd (.seq x y) a Ha o (by simp only[Yc,F,V]) r
   refine .seq ((VT o F p r).mono λe Z Y s=>?_);exact Nq.then (P:=P) (λσ H a Ha u ⟨i,B,C⟩=>VT o V (h2 i H B) (u.tV C)) s
  simp at g
 | rd,.cond c x y,n,Q,σ,H,Ha,a,o,g,h,r=>by
  simp only[Yc]at g;split at g
  ·rename_i nx ny F V;split at g
   ·rename_i v;simp only[aT]at g;subst g;obtain⟨b,hb,p,h2⟩:=h;refine .cond (t:=b) (r.get v hb) ?_;cases b with
    | true=>exact VT o F (p rfl) r
    | false=>exact VT o V (h2 rfl) r
   simp at g
  simp at g
 | rd,.block id b,n,Q,σ,H,Ha,a,o,g,h,r=>by
  simp only[Yc,qAk]at g;obtain⟨nb,p,rfl⟩:=g;refine .block ((VT o p h r).mono ?_);rintro e Z Y ⟨σ',q,u,s⟩;cases e with
  | normal=>exact⟨_,_,u,s⟩
  | ret=>exact⟨_,_,u,s⟩
  | exit id'=>
   simp only[eJ.inBlock]at s;simp only[Ex.inBlock];split
   ·rename_i e;rw[BY e]at s;exact⟨_,_,u,s⟩
   rename_i e;rw[bY e]at s;exact⟨_,_,u,s⟩
 | rd,.scope b,n,Q,σ,H,Ha,a,o,g,h,r=>.scope (VT o (by simpa only[Yc]using g) h r)
 | rd,.loop b,n,Q,σ,H,Ha,a,o,g,h,r=>by simp only[Yc,qAk]at g;obtain⟨nb,p,rfl⟩:=g;obtain⟨ι,I,μ,st,i0,h0,C,hr⟩:=h;refine .loop (λn a Ha=>∃i H,μ i=n/\cX P L m (st i) H a Ha/\I i H) (μ i0) ⟨i0,H,rfl,r.tV C,h0⟩ ?_;rintro n Z Ha' ⟨i,Y,rfl,u,hI⟩;refine(VT o p (hr i Y hI) u).mono λe a2 H2 s=>?_;exact Nq.then (P:=P) (λσ H a Ha u ⟨j,hm,hI',hl'⟩=>⟨μ j,hm,j,H,rfl,u.tV hl',hI'⟩) s
 | rd,.exit id,n,Q,σ,H,Ha,a,o,g,h,r=>by simp only[Yc,aT]at g;subst g;exact .exit ⟨_,_,r,h⟩
 | rd,.ret,n,Q,σ,H,Ha,a,o,g,h,r=>by simp only[Yc,aT]at g;subst g;exact .ret ⟨_,_,r,h⟩
 | rd,.goto _,_,_,_,_,_,_,_,g,_,_=>by simp[Yc]at g
 | rd,.refuse _,_,_,_,_,_,_,_,g,_,_=>by simp[Yc]at g
 | rd,.rangeFunc f ps aA bd,n,Q,σ,H,Ha,a,o,g,h,r=>by
  simp only[Yc]at g;split at g
  ·rename_i v;simp only[oR,List.isEmpty_iff]at v;obtain⟨⟨G,rfl⟩,hps⟩:=v;obtain⟨rt,rn⟩:=rd;simp only at G;subst G;split at g
   ·rename_i x y F V;simp only[aT]at g;subst g;obtain⟨hs,N,xs,fv,JJ,JF,X,I,S,h0,E,z,hIN,D,O,U⟩:=h;have C4:a.eval f=fv:=r.get (by cases f<;>rfl) JJ;obtain⟨ρ,K,e1,e2,e3,e4,e5,e6⟩:=r.mem;subst e1;refine dZ.rangeFunc hs (by rw[C4];exact JF) (λx F=>by rw[X x F];simp) (λn A=>∃q:Hp,A=q.join K/\q.Comp K/\I n q) (λe A=>∃q:Hp,A=q.join K/\q.Comp K/\S e q)
     (λn=>GY (E n)) (λe=>GY (z e)) ?_ ⟨H,rfl,e2,h0⟩ ?_ ?_ ?_
    ·rintro n A J ⟨q,rfl,v,B⟩ W;exact hIN n _ (E n _ _ W (E n _ _ v B))
    ·rintro n hn A ⟨q,rfl,v,B⟩;have wB:cX P [] m σ.aN q ⟨a.tmps,[]⟩ q:=⟨r.size,rfl,ρ,.nil,(Hp.dF _).symm,Hp.dI _,λd cs h=>by simp[aL.aN]at h,λd d' cs dH h=>by simp[aL.aN]at h,e5,.nil _ _⟩;have rS:=Nj (ps:=ps.toList) (vs:=xs[n]) (λt g=>by simpa using qAp.1 hps t g) wB;have hz:(ps.zip xs[n].toArray).foldl (λtmps (t,a)=>tmps.setIfInBounds t a) a.tmps=(ps.toList.zip xs[n]).foldl (λtmps (t,a)=>tmps.setIfInBounds t a) a.tmps:=by rw[<-qCq];simp
     rw[hz];refine((VT (rd:=⟨false,false⟩) (λh=>by simp[kM]at h) F (D n hn q B) rS).frame v).mono ?_;rintro e a1 A ⟨H2,rfl,hc2,σ2,H3,r2,s⟩;cases e with
     | ret=>exact s.elim
     | exit id=>exact s.elim
     | normal=>
      refine((VT (rd:=⟨false,false⟩) (λh=>by simp[kM]at h) V s r2).frame hc2).mono ?_;rintro e a3 A ⟨H4,rfl,M,σ3,H5,r3,R⟩;obtain⟨ρ',K',g1,g2,_⟩:=r3.mem;subst g1;cases e with
      | normal=>exact⟨_,rfl,M,E _ _ _ g2 R⟩
      | ret=>exact⟨_,rfl,M,z _ _ _ g2 R⟩
      | exit id=>exact⟨_,rfl,M,z _ _ _ g2 R⟩
    ·rintro A u J ⟨q,rfl,v,B⟩ W T;exact⟨σ,q,r.marked hs ⟨ρ,e3,e4,e5,e6⟩ v W T,O _ B⟩
    rintro e A u J he ⟨q,rfl,v,B⟩ W T;exact⟨σ,q,r.marked hs ⟨ρ,e3,e4,e5,e6⟩ v W T,U _ _ he B⟩
   simp at g
  simp at g
end
section
variable{P:aY}{H:Hp}{kd:CallKind}{f:FuncId}{args:List Value}{Post:Value->Hp->Prop}
def VD(args:List Value):aL:={ env:=λt=>args[t]?,box:=λ_=>none,bN:=[] }
inductive Zc where
 | aK (t:Nat)
 | gP (t d:Nat) (n:Option Nat)
 | mem (t:Nat) (n:Option Nat)
def FT(P:Program)(L:List (Nat×Nat)):ResultVar->Option Zc
 | .tmp t=>if nl L (.tmp t)then some (.aK t)else none
 | .cell s t=>match L.lookup s,Yi P t with
  | some d,some n=>some (.gP s d n)
  | none,some n=>some (.mem s n)
  | _,_=>none
def Zc.ev(σ:aL):Zc->Option Value
 | .aK t=>σ.env t
 | .gP t d n=>match σ.env t,σ.box d with
  | some (.int .i64 (.ofNat off)),some b=>match n with
   | none=>b[off]?
   | some n=>if off+n<=b.length then some (.agg ((b.drop off).take n).toArray)else none
  | _,_=>none
 | .mem ..=>none
def Zc.KA(σ:aL)(H:Hp)(x:Zc)(v:Value):Prop:=
 match x with
 | .mem t none=>∃a,σ.env t=some (.pointer (some a))/\aC H a [v]
 | .mem t (some n)=>∃a b,σ.env t=some (.pointer (some a))/\v=.agg b.toArray/\b.length=n/\aC H a b
 | x=>x.ev σ=some v
def eO(σ:aL)(H:Hp):List Zc->List Value->Prop
 | [],[]=>True
 | x :: r,v :: b=>x.KA σ H v/\eO σ H r b
 | _,_=>False
def eO.bN{σ:aL}{H:Hp}{ds:List Deferred}:∀{rs:List Zc} {vs:List Value},eO { σ with bN:=ds } H rs vs↔eO σ H rs vs
 | [],[]=>qCm
 | [],_ :: _=>qCm
 | _ :: _,[]=>qCm
 | x :: r,v :: vs=>by have:=eO.bN (σ:=σ) (H:=H) (ds:=ds) (rs:=r) (vs:=vs);simp only[eO,this];refine and_congr ?_ qCm;rcases x with t | ⟨t,d,n⟩ | ⟨t,_ | n⟩<;>exact qCm
def Og(σ:aL):List Zc->Option (List Value)
 | []=>some []
 | x :: r=>match x.ev σ,Og σ r with
  | some v,some b=>some (v :: b)
  | _,_=>none
def Zc.cell:Zc->Bool
 | .aK _=>false
 | .gP ..=>true
 | .mem ..=>true
def tC(P:Program)(L:List (Nat×Nat)):List ResultVar->Option (List Zc)
 | []=>some []
 | x :: r=>match FT P L x,tC P L r with
  | some v,some b=>some (v :: b)
  | _,_=>none
def Yn:List Value->Value
 | [v]=>v
 | b=>.tuple b.toArray
def Ut(P:aY):List Deferred->(Hp->Prop)->Hp->Prop
 | [],K,H=>K H
 | d :: c,K,H=>UT d.target=true/\(bD P (invoke d.target d.args) (λn _ b=>rE P (Ut P c K) n b) false H \/
   (OC P.toProgram (invoke d.target d.args)/\Zp P (invoke d.target d.args) false false H λ_ b=>Ut P c K b))
def Ut.imp{P:aY}{K j:Hp->Prop}(b:∀H,K H->j H):∀{e:List Deferred} {H:Hp},Ut P e K H->Ut P e j H
 | [],H,h=>b _ h
 | d :: e,H,h=>⟨h.1,h.2.imp (Vv (λn g H c=>by
   cases n with
   | enter f args=>exact Vj.mono c λ_ H i=>Ut.imp b i
   | value v=>exact Ut.imp b c
   | skip=>exact Ut.imp b c
   | _=>exact c.elim)) λh=>⟨h.1,h.2.mono λ_ H i=>Ut.imp b i⟩⟩
def vN(P:aY)(b:List Zc)(Post:Value->Hp->Prop)(σ:aL)(H:Hp):Prop:=Ut P σ.bN (λH=>(b.any Zc.cell=true->P.still H.gh=false)/\∃c,eO σ H b c/\Post (Yn c) H) H
def Of(tmps:Array Value):ResultVar->Sem Value
 | .tmp t=>pure (tmps.getD t undef)
 | .cell a t=>do loadVar t (<-asAddr (tmps.getD a undef))
def ZqF{P:PQ}{L:List (Nat×Nat)}{m:Nat}{σ:aL}{Ha:Hp}{a:Act}(r:cX P L m σ H a Ha){x:ResultVar}{n:Zc}{v:Value}(y:n.cell=true->P.still H.gh=false)(e:FT P L x=some n)(c:n.KA σ H v)(Q:Value->Bool->Hp->Prop)(g:Bool)(E:Q v g Ha) :
  bD P (Of a.tmps x) Q g Ha:=by
 cases x with
 | tmp t=>
  simp only[FT]at e;obtain⟨q,rfl⟩:=YO e;have:=r.get q (x:=.tmp t) (v:=v) c;simp only[Act.eval]at this;simp only[Of,this,Zi];exact E
 | cell s t=>
  simp only[FT]at e;split at e;rotate_left
  ·rename_i k O D;simp only[aT]at e;subst e;have T:nl L (.tmp s)=true:=by simp[nl,O]
   obtain⟨ρ,K,S,X,_⟩:=r.mem;have i:=r.bB (y rfl);cases k with
   | none=>
    obtain⟨R,q,A,o,p,J,M⟩:=c;have C:=r.get T (x:=.tmp s) q;simp only[Act.eval]at C;simp only[Of,C,asAddr,Ze,Zi,loadVar];rw[sJ D];simp only[dO,qAf];exact⟨o,p,v,⟨i,by rw[S];exact Hp.aJ J⟩,rfl,A,by simpa using M 0 (by simp),E⟩
   | some k=>
    obtain⟨R,F,q,rfl,U,A,o,p,J,M⟩:=c;have C:=r.get T (x:=.tmp s) q;simp only[Act.eval]at C;obtain⟨W,u,z,w⟩:=xR D;simp only[Of,C,asAddr,Ze,Zi,loadVar];rw[w];simp only[qAH,Ze,Yf u,Zi,z,loadCells];have:=yB (P:=P) (a:=R) i (by rw[S];exact Hp.aJ J) A (λv g I=>Q (.agg v) g I) g F 0 #[] (λj G=>by rw[qAP];exact M j G) (by simpa using E);rw[U]at this;exact this
  ·simp at e
  rename_i d k O D;simp only[aT]at e;subst e;simp only[Zc.KA,Zc.ev]at c;split at c
  ·rename_i off F q A;obtain⟨b,Y,N,B⟩:=r.place O (n:=off) q A;simp only[Of,N,asAddr,Ze,Zi,loadVar];cases k with
   | none=>
    rw[sJ D];simp only[dO,qAf];exact⟨_,_,v,⟨r.bB (y rfl),B⟩,rfl,rfl,by simpa[Obj.fT]using c,E⟩
   | some k=>
    simp only at c;split at c
    ·rename_i V;simp only[aT]at c;subst c;obtain⟨W,u,z,w⟩:=xR D;rw[w];simp only[qAH,Ze,Yf u,Zi,z,loadCells];have h:((F.drop off).take k).length=k:=by simp;omega
     have:=yB (P:=P) (a:=⟨b,off,none⟩) (r.bB (y rfl)) B rfl (λv g I=>Q (.agg v) g I) g ((F.drop off).take k) 0 #[] (λj G=>by simp only[Obj.fT,qAP,qAt];rw[qBo,qBp,BY (by rw[h]at G;exact G)]) (by simpa using E);rw[h]at this;exact this
    simp at c
  simp at c
def FE{σ:aL}{H:Hp}:∀{d:List Zc} {b:List Value},Og σ d=some b->eO σ H d b
 | [],b,h=>by simp only[Og,aT]at h;subst h;trivial
 | x :: r,b,h=>by
  simp only[Og]at h;split at h
  ·rename_i v g c e;simp only[aT]at h;subst h;refine⟨?_,FE e⟩;cases x with
   | mem t n=>simp[Zc.ev]at c
   | _=>exact c
  simp at h
def wV(tmps:Array Value):List ResultVar->Sem (List Value)
 | []=>pure []
 | x :: r=>do let v <-Of tmps x;let b <-wV tmps r;pure (v :: b)
def Nf{P:PQ}{L:List (Nat×Nat)}{m:Nat}{σ:aL}{H Ha:Hp}{a:Act}(r:cX P L m σ H a Ha):∀{o:List ResultVar} {e:List Zc} {c:List Value} (Q:List Value->Bool->Hp->Prop) (g:Bool),(e.any Zc.cell=true->P.still H.gh=false)->tC P L o=some e->eO σ H e c->Q c g Ha->bD P (wV a.tmps o) Q g Ha
 | [],e,c,Q,g,_,b,i,j=>by
  simp only[tC,aT]at b;subst b;cases c with
  | nil=>exact j
  | cons v c=>exact i.elim
 | x :: o,e,c,Q,g,d,b,i,j=>by
  simp only[tC]at b;split at b
  ·rename_i n u p q;simp only[aT]at b;subst b;cases c with
   | nil=>exact i.elim
   | cons v w=>
    obtain⟨s,t⟩:=i;simp only[wV,Ze];refine ZqF r (λh=>d (by simp[h])) p s _ g ?_;exact Nf r _ g (λh=>d (by rw[List.any_cons,h];simp)) q t (by simpa[Zi]using j)
  simp at b
theorem Nc(tmps:Array Value):∀b:List ResultVar,b.mapM (Of tmps)=wV tmps b
 | []=>rfl
 | x :: b=>by rw[List.mapM_cons,Nc tmps b];rfl
def ZqE(fn:Func)(tmps:Array Value):results fn tmps=(do let b <-wV tmps fn.results.toList;pure (Yn b)):=by
 have c:results fn tmps=fn.results.mapM (Of tmps) >>= λb=>pure (if h:b.size=1 then b[0]else .tuple b):=by unfold results;congr 1
 have d:fn.results.mapM (Of tmps)=Functor.map List.toArray (wV tmps fn.results.toList):=by
  rw[<-Nc];conv=>lhs;rw[show fn.results=fn.results.toList.toArray by simp]
  rw[List.mapM_toArray]
 rw[c];rw[d,map_eq_pure_bind,bind_assoc];congr 1;funext b;simp only[pure_bind];congr 1;cases b with
 | nil=>rfl
 | cons v b=>cases b with
  | nil=>rfl
  | cons w b=>simp[Yn]
def rE.frame{K g:Hp->Prop}{F:Hp}(d:∀H,H.Comp F->K H->g (H.join F)):∀{n:Next} {H:Hp},rE P K n H->H.Comp F->rE P g n (H.join F):=by
 intro n H h b;cases n with
 | enter f args=>exact(Vj.frame h b).mono λ_ o ⟨j,e,c,i⟩=>by rw[e];exact d _ c i
 | value v=>exact d _ b h
 | skip=>exact d _ b h
 | _=>exact h.elim
def xL{P:aY}{fn:Func}{L:List (Nat×Nat)}{m:Nat}{F:List Zc}{tmps:Array Value}{Post:Value->Hp->Prop}(S:tC P L fn.results.toList=some F):∀(q:List Deferred) (σ:aL) (H Ha:Hp),
  cX P L m σ H ⟨tmps,q⟩ Ha->Ut P σ.bN (λH=>(F.any Zc.cell=true->P.still H.gh=false)/\∃w,eO σ H F w/\Post (Yn w) H) H->iP P fn tmps (λv p=>∃i J:Hp,p=i.join J/\i.Comp J/\Post v i) q Ha
 | [],σ,H,Ha,r,h=>by have E:[]=σ.bN:=r.defers;rw[<-E]at h;show bD P (results fn tmps) _ false Ha;rw[ZqE,Ze];obtain⟨h0,w,hv,h⟩:=h;refine Nf r _ _ h0 S hv ?_;obtain⟨ρ,K,C,y,_⟩:=r.mem;exact⟨H,K,C,y,h⟩
 | d :: q,σ,H,Ha,r,h=>by
  obtain⟨ρ,K,C,y,W,X,Y,z⟩:=r.mem;obtain⟨u,B⟩:=d;have E:OS (⟨u,B⟩ :: q)=σ.bN:=r.defers;have plain:yA ⟨u,B⟩=false->(∀x,u≠.collected x)->UT u=true/\(bD P (invoke u B) (λn _ p=>rE P (iP P fn tmps (λv p=>∃i J:Hp,p=i.join J/\i.Comp J/\Post v i) q) n p) false Ha \/
    (OC P.toProgram (invoke u B)/\Zp P (invoke u B) false false Ha λ_ p=>iP P fn tmps (λv p=>∃i J:Hp,p=i.join J/\i.Comp J/\Post v i) q p)):=by
   intro Z V
   simp only[OS,Z,dO,qAf]at E
   rw[<-E]at h
   obtain⟨h1,D⟩:=h
   refine⟨h1,?_⟩
   rw[C]
   suffices key:∀A:Hp,A.Comp K->Ut P (OS q) (λH=>(F.any Zc.cell=true->P.still H.gh=false)/\∃w,eO σ H F w/\Post (Yn w) H) A->iP P fn tmps (λv p=>∃i J:Hp,p=i.join J/\i.Comp J/\Post v i) q (A.join K)by
    refine D.imp (λD=>Vv ?_ (G6 D y)) λ⟨U,D⟩=>⟨U,(D.frame y).mono ?_⟩
    ·rintro n g HF ⟨p,rfl,M,R⟩;exact rE.frame key R M
    rintro v HF ⟨p,rfl,M,R⟩;exact key _ M R
   intro A N hk
   have Q:U8 P K q:=by unfold U8 at z ⊢;rw[Bj Z]at z;exact z
   exact xL S q { σ with bN:=OS q } A _ ⟨r.size,rfl,ρ,K,rfl,N,W,X,Y,Q⟩ (Ut.imp (λH ⟨g1,w,g2,g3⟩=>⟨g1,w,eO.bN.2 g2,g3⟩) hk)
  cases u with
  | collected b=>
   have hb:K b=some (.deferred (some []),true):=z.2.1 b (by simp[VC]);have s:∀g,P.still g=false:=z.2.2.resolve_left (by simp[VC]);refine⟨s _,by rw[C];exact Hp.aP y hb,?_⟩;have I:H b=none:=y.left_none hb;rw[C,<-Hp.eN I];refine xL S q σ H _ ⟨r.size,E,ρ,K.ins b (.deferred none),rfl,(y.symm.fE hb).symm,λd cs O=>?_,X,Y,?_⟩ h
   ·obtain⟨t,T⟩:=W d cs O;refine⟨t,?_⟩;rw[Hp.aE _ _ (by rintro e;rw[e,hb]at T;simp at T)];exact T
   have G:=z.1;simp only[VC,qBY]at G;refine⟨G.2,λx V=>?_,.inr s⟩;rw[Hp.aE _ _ (by rintro rfl;exact G.1 V)];exact z.2.1 x (by simp[VC,V])
  | nil=>exact plain rfl (by simp)
  | fn f c=>exact plain rfl (by simp)
  | builtin b at_ t c=>exact plain rfl (by simp)
  | coroexit c=>exact plain rfl (by simp)
theorem Vj.Wn{fn:Func}{body:Code}{n:Zb}{B:List Zc}(L:List (Nat×Nat))(x:kd=.normal\/kd=.deferred)(F:P.funcs[f]? = some fn)(hb:fn.body=some body)
  (j:(!(kM L) || fn.norace)=true) (N:Yc P L fn.ntmps ⟨true,fn.norace⟩ body=some n) (A:tC P L fn.results.toList=some B) (M:(L.all λp=>decide (args.length<=p.1))=true) (T:args.length<=fn.ntmps)
  (h:n.w P (λe σ H=>match e with | .exit _=>False | _=>vN P B Post σ H) (VD args) H):Vj P kd f args.toArray H Post:=by
 intro G c u g O D;have o:cX P L fn.ntmps (VD args) H ⟨args.toArray++Array.replicate (fn.ntmps-args.toArray.size) undef,[]⟩ H:=by
  refine⟨by simp;omega,rfl,λ_=>0,.nil,?_,?_,?_,?_,?_,.nil _ _⟩
  ·exact(Hp.dF H).symm
  ·exact Hp.dI H
  ·intro d u h;simp[VD]at h
  ·intro d S u C h;simp[VD]at h
  intro t v q;simp only[VD]at q;have i:t<args.length:=by
   rcases qAM t args.length with h | h
   ·exact h
   simp[qAF h]at q
  have y:L.lookup t=none:=by
   cases I:L.lookup t with
   | none=>rfl
   | some d=>
    obtain⟨l1,l2,rfl,_⟩:=qCB.1 I;have:=qAp.1 M (t,d) (by simp);simp at this;omega
  unfold V8;rw[y];simp[Array.getElem?_append,i];rw[qAx i]at q;simpa using q
 have E:=Vj.of (P:=P) (kd:=kd) (f:=f) (args:=args.toArray) (H:=H) (Post:=λv s=>∃b J:Hp,s=b.join J/\b.Comp J/\Post v b) x F hb rfl ?_
 ·refine E G c u g O ?_;rintro v s ⟨b,J,rfl,K,Q⟩;exact(D v b Q).up g K
 refine(VT (rd:=⟨true,fn.norace⟩) (λh=>by rw[h]at j;simpa using j) N h o).mono ?_;rintro e ⟨at_,R⟩ Ha ⟨σ,s,r,z⟩;cases e with
 | normal=>exact xL A _ _ _ _ r z
 | ret=>exact xL A _ _ _ _ r z
 | exit id=>exact z.elim
def aI(P:Program)(f:FuncId)(k:Nat)(n:Zb)(b:List Zc):Prop:=
 ∃(fn:Func) (L:List (Nat×Nat)),P.funcs[f]? = some fn/\fn.body.bind (Yc P L fn.ntmps ⟨true,fn.norace⟩)=some n/\tC P L fn.results.toList=some b/\((L.all λp=>decide (k<=p.1)) && decide (k<=fn.ntmps) && (!(kM L) || fn.norace))=true
def G9(n:Zb)(b:List Zc)(P:aY)(args:List Value)(Post:Value->Hp->Prop)(H:Hp):Prop:=
 n.w P (λe σ H=>match e with | .exit _=>False | _=>vN P b Post σ H) (VD args) H
def aI.uN(c:kd=.normal\/kd=.deferred){k:Nat}{n:Zb}{d:List Zc}(h:aI P f k n d)(j:args.length=k)(p:G9 n d P args Post H):Vj P kd f args.toArray H Post:=by obtain⟨fn,L,e,g,i,b⟩:=h;rw[oR,oR,qAv]at b;obtain⟨body,hb,o⟩:=qCx.1 g;subst j;exact Vj.Wn L c e hb b.2 o i b.1.1 b.1.2 p
end
variable{P:aY}{H:Hp}{f:FuncId}{k:Nat}{args:List Value}{Post:Value->Hp->Prop}
def Ny{G:Prop} (h:G:=by
  simp only[ZT]at h;simp only[YP,NI.w];obtain⟨jT,h⟩:=h;refine⟨jT,?_⟩;split at h
  ·exact⟨_,‹_›,λ_=>aR.jS (Cp λσ H h=>ZT.n hq h) h,λe=>absurd rfl e⟩
  ·exact⟨_,‹_›,λe=>by simp at e,λ_=>⟨.refl _ H,ZT.n hq h⟩⟩
  ·exact⟨_,‹_›,λe=>by simp at e,λ_=>⟨.refl _ H,ZT.n hq h⟩⟩
  exact h.elim):G:=h
def fX(P:PQ)(H:Hp)(f:Option Bool)(K:aL->Hp->Prop):aL->Hp->Prop:=
 match f with
 | some true=>λσ' c=>(P.still c.gh=P.still H.gh/\∀b x,H b=some x->c b=some x)/\K σ' c
 | some false=>λσ' c=>P.still c.gh=P.still H.gh/\K σ' c
 | none=>K
def Cp{P:PQ}{f:Option Bool}{K d:aL->Hp->Prop}(c:∀σ H,K σ H->d σ H):∀σ' b,fX P H f K σ' b->nL P f H b/\d σ' b:=by
 intro σ' b h;match f,h with
 | some true,h=>exact⟨λs e=>⟨h.1.1,λ_=>h.1.2⟩,c _ _ h.2⟩
 | some false,h=>exact⟨λs e=>by obtain rfl:=iN e;exact⟨h.1,λe=>by simp at e⟩,c _ _ h.2⟩
 | none,h=>exact⟨λs e=>by simp at e,c _ _ h⟩
def ZT(P:aY):List (NI×Option Bool)->(aL->Hp->Prop)->aL->Hp->Prop
 | [],Q,σ,H=>Q σ H
 | (⟨none,d,op⟩,f) :: r,Q,σ,H=>P.still H.gh=false/\op.m P d (fX P.toPQ H f (ZT P r Q)) σ H
 | (⟨some (t,true),d,op⟩,f) :: r,Q,σ,H=>P.still H.gh=false/\match σ.env t with
  | some (.bool true)=>op.m P d (fX P.toPQ H f (ZT P r Q)) σ H
  | some (.bool false)=>ZT P r Q (σ.dR d) H
  | some (.tuple _)=>ZT P r Q (σ.dR d) H
  | _=>False
 | (⟨some (t,false),d,op⟩,f) :: r,Q,σ,H=>P.still H.gh=false/\match σ.env t with
  | some (.bool false)=>op.m P d (fX P.toPQ H f (ZT P r Q)) σ H
  | some (.bool true)=>ZT P r Q (σ.dR d) H
  | some (.tuple _)=>ZT P r Q (σ.dR d) H
  | _=>False
def ZT.n{P:aY}{Q b:aL->Hp->Prop}(hq:∀σ H,Q σ H->b σ H):∀{l:List (NI×Option Bool)} {σ:aL} {H:Hp},ZT P l Q σ H->YP P l b σ H
 | [],σ,H,h=>hq _ _ h
 | (⟨none,d,op⟩,f) :: r,σ,H,h=>⟨h.1,aR.jS (Cp λσ H h=>ZT.n hq h) h.2⟩
 | (⟨some (t,true),d,op⟩,f) :: r,σ,H,h=>by exact Ny
 | (⟨some (t,false),d,op⟩,f) :: r,σ,H,h=>by exact Ny
def UO(bN:List Deferred)(env:List (Nat×Value))(box:List (Nat×List Value)):aL:={ env:=λt=>env.lookup t,box:=λt=>box.lookup t,bN:=bN }
def iQ:List (Nat×Value)->aL->Prop
 | [],_=>True
 | (t,v) :: r,σ=>σ.env t=some v/\iQ r σ
def iR:List (Nat×List Value)->aL->Prop
 | [],_=>True
 | (t,v) :: r,σ=>σ.box t=some v/\iR r σ
def iQ.le:∀{env:List (Nat×Value)} {σ:aL},iQ env σ->∀t v,env.lookup t=some v->σ.env t=some v
 | [],σ,_,t,v,h=>by simp at h
 | (s,u) :: r,σ,b,t,v,h=>by
  simp only[List.lookup_cons]at h;split at h
  ·rename_i e;simp only[aT]at h;subst h;have:t=s:=by simpa using e
   subst this;exact b.1
  exact iQ.le b.2 t v h
def iR.le:∀{env:List (Nat×List Value)} {σ:aL},iR env σ->∀t v,env.lookup t=some v->σ.box t=some v
 | [],σ,_,t,v,h=>by simp at h
 | (s,u) :: r,σ,b,t,v,h=>by
  simp only[List.lookup_cons]at h;split at h
  ·rename_i e;simp only[aT]at h;subst h;have:t=s:=by simpa using e
   subst this;exact b.1
  exact iR.le b.2 t v h
def Zb.m(P:aY):Zb->(Ex->aL->Hp->Prop)->aL->Hp->Prop
 | .skip,Q,σ,H=>Q .normal σ H
 | .aG l,Q,σ,H=>ZS P l (Q .normal) σ H
 | .drawn l,Q,σ,H=>P.still H.gh=false/\ZT P l (Q .normal) σ H
 | .pW l1 l2,Q,σ,H=>P.still H.gh=false/\ZT P l1 (Q .normal) σ H/\ZT P l2 (Q .normal) σ H
 | .fA l1 l2 r,Q,σ,H=>P.still H.gh=false/\ZT P l1 (Q .normal) σ H/\ZT P l2 (Q .normal) σ H/\ZT P r (Q .normal) σ H
 | .seq a b,Q,σ,H=>a.m P (eJ.then (b.m P Q) Q) σ H\/tF P a b Q σ H\/∃(ι:Type) (I:ι->Hp->Prop) (env:ι->List (Nat×Value)) (box:ι->List (Nat×List Value)),
   a.m P (eJ.then (λσ' h=>∃i,I i h/\iQ (env i) σ'/\iR (box i) σ'/\σ'.bN=σ.bN) Q) σ H/\∀i H,I i H->b.m P Q (UO σ.bN (env i) (box i)) H
 | .cond c t e,Q,σ,H=>match σ.get c with
  | some (.bool true)=>t.m P Q σ H
  | some (.bool false)=>e.m P Q σ H
  | _=>False
 | .block id b,Q,σ,H=>b.m P (eJ.inBlock id Q) σ H
 | .loop b,Q,σ,H=>∃(ι:Type) (I:ι->Hp->Prop) (μ:ι->Nat) (env:ι->List (Nat×Value)) (box:ι->List (Nat×List Value)) (i:ι),I i H/\(iQ (env i) σ/\iR (box i) σ) /\
   ∀i H,I i H->b.m P (eJ.then (λσ' h=>∃j,μ j<μ i/\I j h/\iQ (env j) σ'/\iR (box j) σ'/\σ'.bN=σ.bN) Q) (UO σ.bN (env i) (box i)) H
 | .exit id,Q,σ,H=>Q (.exit id) σ H
 | .ret,Q,σ,H=>Q .ret σ H
 | .gU f o aA p,Q,σ,H=>(∀g,P.still g=false)/\match σ.get f with
  | some q=>∃(N:Hp->Prop) (d:List (List Value)),OE P q N d/\(∀x∈d,x.length=o.length) /\
   ∃(I:Nat->Hp->Prop) (S:Ex->Hp->Prop),I 0 H/\(∀n,Up (I n))/\(∀e,Up (S e))/\(∀n H,I n H->N H) /\
   (∀n (s:n<d.length) H,I n H->aA.m P (eJ.then (p.m P (M3 (I (n+1)) S)) LQ) (σ.aN.round o d[n]) H) /\
   (∀H,I d.length H->Q .normal σ H)/\∀e H,e≠.normal->S e H->Q e σ H
  | none=>False
theorem eJ.fG{next b:aL->Hp->Prop}{Q c:Ex->aL->Hp->Prop}(g:∀σ H,next σ H->b σ H)(d:∀e σ H,Q e σ H->c e σ H):∀e σ H,eJ.then next Q e σ H->eJ.then b c e σ H:=by
 intro e σ H h;cases e with
 | normal=>exact g _ _ h
 | exit id=>exact d _ _ _ h
 | ret=>exact d _ _ _ h
theorem eJ.jN{id:Nat}{Q c:Ex->aL->Hp->Prop}(b:∀e σ H,Q e σ H->c e σ H):∀e σ H,eJ.inBlock id Q e σ H->eJ.inBlock id c e σ H:=by
 intro e σ H h;cases e with
 | normal=>exact b _ _ _ h
 | exit d=>
  simp only[eJ.inBlock]at h ⊢;split
  ·rename_i e;rw[BY e]at h;exact b _ _ _ h
  rename_i e;rw[bY e]at h;exact b _ _ _ h
 | ret=>exact b _ _ _ h
theorem Zb.jS{P:aY}:∀{n:Zb} {Q g:Ex->aL->Hp->Prop} {σ:aL} {H:Hp},(∀e σ H,Q e σ H->g e σ H)->n.m P Q σ H->n.w P g σ H
 | .skip,Q,g,σ,H,d,h=>d _ _ _ h
 | .aG l,Q,g,σ,H,d,h=>ZS.n (d .normal) h
 | .drawn l,Q,g,σ,H,d,h=>⟨h.1,ZT.n (d .normal) h.2⟩
 | .pW l1 l2,Q,g,σ,H,d,h=>⟨h.1,ZT.n (d .normal) h.2.1,ZT.n (d .normal) h.2.2⟩
 | .fA l1 l2 U,Q,g,σ,H,d,h=>⟨h.1,ZT.n (d .normal) h.2.1,ZT.n (d .normal) h.2.2.1,ZT.n (d .normal) h.2.2.2⟩
 | .seq a b,Q,g,σ,H,d,h=>by
  rcases h with h | h | ⟨ι,I,env,box,o,p⟩
  ·exact .inl (Zb.jS (n:=a) (eJ.fG (λσ H h=>Zb.jS (n:=b) d h) d) h)
  ·exact .inr (.inl (tF.mono d h))
  exact .inr (.inr ⟨ι,I,λi=>UO σ.bN (env i) (box i),Zb.jS (n:=a) (eJ.fG (λσ' H ⟨i,y,z,A,B⟩=>⟨i,y,⟨iQ.le z,iR.le A,B⟩⟩) d) o,λi H hi=>Zb.jS (n:=b) d (p i H hi)⟩)
 | .cond c t e,Q,g,σ,H,d,h=>by
  simp only[Zb.m]at h;split at h
  ·exact⟨true,‹_›,λ_=>Zb.jS (n:=t) d h,λe=>by simp at e⟩
  ·exact⟨false,‹_›,λe=>by simp at e,λ_=>Zb.jS (n:=e) d h⟩
  exact h.elim
 | .block id b,Q,g,σ,H,d,h=>Zb.jS (n:=b) (eJ.jN d) h
 | .loop b,Q,g,σ,H,d,h=>by obtain⟨ι,I,μ,env,box,i,C,v,O⟩:=h;refine⟨ι,I,μ,λi=>UO σ.bN (env i) (box i),i,C,⟨iQ.le v.1,iR.le v.2,rfl⟩,λi H q=>?_⟩;exact Zb.jS (n:=b) (eJ.fG (λσ' H ⟨j,o,p,r,s,u⟩=>⟨j,o,p,⟨iQ.le r,iR.le s,u⟩⟩) d) (O i H q)
 | .exit id,Q,g,σ,H,d,h=>d _ _ _ h
 | .ret,Q,g,σ,H,d,h=>d _ _ _ h
 | .gU f V aA x,Q,g,σ,H,d,h=>by
  obtain⟨R,h⟩:=h;refine⟨R,?_⟩;split at h
  ·obtain⟨N,T,o,p,I,S,r,s,u,D,E,F,G⟩:=h;exact⟨N,T,_,‹_›,o,p,I,S,r,s,u,D,λn M H q=>Zb.jS (n:=aA) (eJ.fG (λσ H h=>Zb.jS (n:=x) (λ_ _ _ h=>h) h) (λ_ _ _ h=>h)) (E n M H q),
    λH q=>d _ _ _ (F H q),λe H K J=>d _ _ _ (G e H K J)⟩
  exact h.elim
def VY(P:aY)(b:List Zc)(Post:Value->Hp->Prop)(σ:aL)(H:Hp):Prop:=vN P b Post σ H
def sC(P:aY)(b:List Zc)(Post:Value->Hp->Prop):Ex->aL->Hp->Prop
 | .exit _,_,_=>False
 | .normal,σ,H=>VY P b Post σ H
 | .ret,σ,H=>VY P b Post σ H
theorem aI.mK{kd:CallKind}(b:kd=.normal\/kd=.deferred){n:Zb}{c:List Zc}(h:aI P f k n c)(d:args.length=k)(g:n.m P (sC P c Post) (VD args) H):Vj P kd f args.toArray H Post:=by
 refine h.uN b d ?_;unfold G9;refine Zb.jS ?_ g;intro e σ H h;cases e with
 | exit id=>exact h
 | normal=>exact h
 | ret=>exact h
def aI.m{n:Zb}{b:List Zc}(h:aI P f k n b)(c:args.length=k)(d:n.m P (sC P b Post) (VD args) H):Za P f args.toArray H Post:=
 (h.mK (.inl rfl) c d).iW
