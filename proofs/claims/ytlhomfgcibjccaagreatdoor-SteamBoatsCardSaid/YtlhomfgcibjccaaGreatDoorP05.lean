import Derived.Test.YtlhomfgcibjccaaGreatDoorP04
set_option linter.all false
namespace Go.LL
section
variable{P:aX}{nr:Bool}{L:List (Nat×Nat)}{m:Nat}{aI:Array Oper}{l:List (NI×Option Bool)}{H Ha:Hp}{a:Act}{ns:List NI}{sched:List Nat}
def Y1(P:aX):List (NI×Option Bool)->(aM->Hp->Prop)->aM->Hp->Prop
 | [],Q,σ,H=>Q σ H
 | (i,f) :: r,Q,σ,H=>P.still H.gh=false/\i.w P (λσ' b=>zC P.toPQ f H b/\Y1 P r Q σ' b) σ H
instance:Inhabited NI:=⟨⟨none,none,.cY (.const (.bool false))⟩⟩
def IW(ns:List NI)(aI:Array Oper)(pre:Nat->List Nat)(W:Nat->Nat->Bool):Option (List (NI×Option Bool)):=
 let X:=λi=>ns.getD i default
 let C:=Xq pre (λi=>(X i).op.cls == 0) (λi=>F0 (X i)) W aI.size [] (List.range aI.size)
 let F:=Xf X W [] C
 let b:=λi=>F.lookup i
 if Uy aI && RD aI.size pre [] C && Bh X b W C then some (QD X b W C)else none
def Oo(aI:Array Oper):Nat->Nat->Bool:=
 let b:=l9 aI aI.size
 λx e=>(b.getD x 0).testBit e
def Lg(P:Program)(L:List (Nat×Nat))(m:Nat)(aI:Array Oper):Option (List (NI×Option Bool)):=
 match Y3 P L m aI (List.range aI.size)with
 | none=>none
 | some ns=>IW ns aI (YR aI) (Oo aI)
def Zuc(x:NI):Bool:=match x.op with | .raw (.store ..) _=>true | .raw (.mapEntry ..) _=>true | _=>false
def Ki(x:NI):Bool:=match x.op with | .ld ..=>true | .raw (.lookup ..) _=>true | _=>false
def ZsH(ns:List NI)(aI:Array Oper):Option (Nat×Nat):=
 let X:=λi=>ns.getD i default
 let W:=Oo aI
 (List.range aI.size).findSome? λs=>if Zuc (X s)then(List.range aI.size).findSome? λc=>if Ki (X c) && !(W s c) && !(W c s)then some (c,s)else none else none
def Ld(P:Program)(L:List (Nat×Nat))(m:Nat)(aI:Array Oper):Option (List (NI×Option Bool)×List (NI×Option Bool)):=
 match Y3 P L m aI (List.range aI.size)with
 | none=>none
 | some ns=>match ZsH ns aI with
  | none=>none
  | some (a,b)=>if !(Nat.beq a b) && Nat.blt a aI.size then
    match IW ns aI (Vn (YR aI) a b) (LS (Oo aI) a b),IW ns aI (Vn (YR aI) b a) (LS (Oo aI) b a)with
    | some c,some d=>some (c,d)
    | _,_=>none
   else none
def Zuj(x:NI):Bool:=match x.op with | .raw (.alloc _) _=>true | _=>false
def Zug(x:NI):Bool:=match x.op with | .call ..=>true | _=>false
def Zuh(x:NI):Bool:=match x.op with | .aO ..=>x.g.isSome | _=>false
def Zud(x:NI):Bool:=match x.op with | .raw (.call _) _=>true | _=>false
def ZsG(ns:List NI)(aI:Array Oper):List (Nat×Nat):=
 let X:=λi=>ns.getD i default
 let W:=Oo aI
 (List.range aI.size).flatMap λa=>if Zuj (X a) || Zuh (X a) || Ki (X a)then(List.range aI.size).flatMap λc=>if(if Ki (X a)then Zud (X c)else Zug (X c)) && !(W a c) && !(W c a)then[(a,c)]else[]else[]
def IX(ns:List NI)(aI:Array Oper):List (Nat×Nat)->(Nat->List Nat)->(Nat->Nat->Bool)->Option (List (List (NI×Option Bool)))
 | [],pre,W=>match IW ns aI pre W with
  | some l=>some [l]
  | none=>none
 | (a,b) :: c,pre,W=>if W a b || W b a then IX ns aI c pre W else
  if !(Nat.beq a b) && Nat.blt a aI.size then
   match IX ns aI c (Vn pre a b) (LS W a b),IX ns aI c (Vn pre b a) (LS W b a)with
   | some d,some e=>some (d++e)
   | _,_=>none
  else none
def Lf(P:Program)(L:List (Nat×Nat))(m:Nat)(aI:Array Oper):Option (List (List (NI×Option Bool))):=
 match Y3 P L m aI (List.range aI.size)with
 | none=>none
 | some ns=>IX ns aI (ZsG ns aI) (YR aI) (Oo aI)
def ZgN{P:Program}{L:List (Nat×Nat)}{m:Nat}{aI:Array Oper}:∀{l:List Nat} {ns:List NI},Y3 P L m aI l=some ns->ns.length=l.length/\∀(j i:Nat),l[j]? = some i->MC P L m aI i=ns[j]?
 | [],ns,h=>by simp only[Y3,qAe]at h;subst h;exact⟨rfl,λj i h=>by simp at h⟩
 | k :: l,ns,h=>by
  simp only[Y3]at h;split at h
  ·rename_i x n c d;simp only[qAe]at h;subst h;obtain⟨e,g⟩:=ZgN d;refine⟨by simp[e],λj i b=>?_⟩;cases j with
   | zero=>simp at b;subst b;simp[c]
   | succ j=>simp at b;simpa using g j i b
  simp at h
def Zl8{P:aX}{X:Nat->NI}{r:List (NI×Option Bool)}{Q:aM->Hp->Prop}:∀{ps:List Nat} {σ:aM} {H:Hp},(∀x∈ps,F0 (X x)=true)->Y1 P (ps.map (λx=>(Bm (X x),none))++r) Q σ H->(∀x∈ps,Ol P (X x) σ H)/\Y1 P r Q σ H
 | [],σ,H,_,h=>⟨λx b=>by simp at b,h⟩
 | p :: ps,σ,H,g,h=>by
  obtain⟨t,e,ln,z,q,i⟩:=ZlS (g p (by simp));simp only[qCq,qBG,Y1]at h;obtain⟨d,h⟩:=h;have o:Bm (X p)=⟨none,none,.build z q⟩:=by unfold Bm;rw[i]
  rw[o]at h;obtain⟨s,c,_,h⟩:=h;obtain⟨j,n⟩:=Zl8 (ps:=ps) (λx b=>g x (by simp[b])) h;refine⟨λx b=>?_,n⟩;simp only[qAq]at b;rcases b with rfl | b
  ·unfold Ol;rw[i];exact⟨d,by rw[c];rfl⟩
  exact j x b
def Zl9{P:aX}{X:Nat->NI}{c:Nat->Option Bool}{W:Nat->Nat->Bool}{Q:aM->Hp->Prop}:∀{l:List Nat} {σ:aM} {H:Hp},Y1 P (QD X c W l) Q σ H->L8 P X c W Q l σ H
 | [],σ,H,h=>h
 | i :: l,σ,H,h=>by
  simp only[QD]at h;simp only[L8];have b:∀{σ H},Y1 P ((X i,c i) :: QD X c W l) Q σ H->(X i).w P (λσ' e=>zC P.toPQ (c i) H e/\L8 P X c W Q l σ' e) σ H:=λh=>NI.iE (λσ' e p=>⟨p.1,Zl9 p.2⟩) h.2;by_cases j:(X i).op.cls=0
  ·simp only[j,qCn,qBp,qBt]at h;exact⟨λn=>absurd j n,b h⟩
  have o:((X i).op.cls == 0)=false:=by simpa using j
  simp only[o,DO,qAw]at h;obtain⟨r,s⟩:=Zl8 (λx d=>by simp only[qAC,qAc]at d;exact d.2.1) h;exact⟨λ_ x d n t=>r x (qAC.2 ⟨d,by rw[n,t];rfl⟩),b s⟩
def Zl3{P:aX}{L:List (Nat×Nat)}{m:Nat}{aI:Array Oper}{X:Nat->NI}{o:Nat->Option Bool}{Q:aM->Hp->Prop}(p:∀i,i<aI.size->MC P L m aI i=some (X i)):∀{l:List Nat} {σ:aM} {H:Hp},(∀i∈l,i<aI.size)->Go P X o Q l σ H->Y3 P L m aI l=some (l.map X)/\oE P (l.map X) Q σ H
 | [],σ,H,_,h=>⟨rfl,h⟩
 | i :: l,σ,H,n,h=>by
  have u:=p i (n i (by simp));have v:Y3 P L m aI l=some (l.map X):=by
   clear h;induction l with
   | nil=>rfl
   | cons j l ih=>
    have:=ih (λk g=>n k (by simp at g ⊢;rcases g with h | h<;>simp[h]));simp only[Y3,p j (n j (by simp)),this,qCq]
  refine⟨by simp only[Y3,u,v,qCq],?_⟩;have c:∀σ' d,(zC P.toPQ (o i) H d/\Go P X o Q l σ' d)->oE P (l.map X) Q σ' d:=λσ' d z=>(Zl3 p (λk g=>n k (by simp[g])) z.2).2;simp only[qCq,oE];simp only[Go,NI.w]at h;split at h
  ·rename_i q;try rw[q]
   exact bE.iE c h
  rename_i t s q;try rw[q]
  obtain⟨b,hb,x,y⟩:=h;exact⟨b,hb,λe=>bE.iE c (x e),λe=>c _ _ (y e)⟩
def X0{Q:aM->Hp->Prop}{σ:aM}(z:tP L=true->nr=true)(s:Y3 P L m aI (List.range aI.size)=some ns){pre:Nat->List Nat}{W:Nat->Nat->Bool}
  (A:Uy aI=true->∀(x e:Nat) (done:List Nat),(∀i∈done,∀p∈pre i,p∈done)->W x e=true->(∀p∈pre x,p∈done)->e∈done)
  (u:IW ns aI pre W=some l) (h:Y1 P l Q σ H) (r:eN P L m σ H a Ha) (b:Uy aI=true->lX aI.size pre [] sched):uX P nr aI (Nx P L m Q) sched a Ha:=by
 unfold IW at u;obtain⟨t,rfl⟩:=YC u;simp only[qAc]at t;obtain⟨⟨c,n⟩,o⟩:=t;obtain⟨j,d⟩:=ZgN s;have B:∀i,i<aI.size->MC P L m aI i=some (ns.getD i default):=by intro i g;rw[d i i (by simp[g])];rw[qBF]at j;rw[qAa,qBE O];rfl
 have v:=b c;have q:=Jo (P:=P) (pre:=pre) (A c) _ (ZlH n) v (λi g=>by simp at g) o (Zl9 h);obtain⟨w,y⟩:=Zl3 B (λi g=>(v.fresh i g).1) q;exact WW z w y r
def Bf(b:Uy aI=true):∀(x e:Nat) (done:List Nat),(∀i∈done,∀p∈YR aI i,p∈done)->Oo aI x e=true->(∀p∈YR aI x,p∈done)->e∈done:=by
 intro x e done d c g;unfold Oo at c;have j:x<aI.size:=by
  rcases qBi x aI.size with h | h
  ·exact h
  rw[qAa,qAn (by rw[RF];exact h)]at c;simp at c
 rw[Kr aI _ x j]at c;exact ZtF b d x e c g
def Zvc{Q:aM->Hp->Prop}{σ:aM}(e:tP L=true->nr=true)(c:Lg P L m aI=some l)(h:Y1 P l Q σ H)(r:eN P L m σ H a Ha)(t:Nat) :
  uX P nr aI (Nx P L m Q) (Region.schedule true aI t) a Ha:=by
 unfold Lg at c;split at c
 ·simp at c
 rename_i ns d;exact X0 e d (λb=>Bf b) c h r (λb=>Km b t)
def Zvf{q s:List (NI×Option Bool)}{Q:aM->Hp->Prop}{σ:aM}(p:tP L=true->nr=true)(c:Ld P L m aI=some (q,s))(v:Y1 P q Q σ H)(w:Y1 P s Q σ H)(r:eN P L m σ H a Ha)(t:Nat) :
  uX P nr aI (Nx P L m Q) (Region.schedule true aI t) a Ha:=by
 unfold Ld at c;split at c
 ·simp at c
 rename_i ns d;split at c
 ·simp at c
 rename_i i j z;split at c
 ·rename_i g;simp only[qAc,qBe]at g;have o:i≠j:=by rintro rfl;rw[Nat.beq_refl]at g;simp at g
  have n:i<aI.size:=by have:=g.2;exact qCN this
  split at c
  ·rename_i x y e u;simp only[qAe,qBD]at c;obtain⟨rfl,rfl⟩:=c;by_cases b:Uy aI=true
   ·rcases(Km b t).N8 o n (by simp) (by simp)with h | h
    ·exact X0 p d (λb=>QM (Bf b)) e v r (λ_=>h)
    exact X0 p d (λb=>QM (Bf b)) u w r (λ_=>h)
   unfold IW at e;simp only[b,qDk]at e;simp at e
  simp at c
 simp at c
def Zvd(A:tP L=true->nr=true)(v:Y3 P L m aI (List.range aI.size)=some ns){Q:aM->Hp->Prop}{σ:aM}(r:eN P L m σ H a Ha) :
  ∀(q:List (Nat×Nat)) (pre:Nat->List Nat) (W:Nat->Nat->Bool) (ls:List (List (NI×Option Bool))),(Uy aI=true->∀(x e:Nat) (done:List Nat),(∀i∈done,∀p∈pre i,p∈done)->W x e=true->(∀p∈pre x,p∈done)->e∈done) ->
   IX ns aI q pre W=some ls->(∀l∈ls,Y1 P l Q σ H)->(Uy aI=true->lX aI.size pre [] sched)->uX P nr aI (Nx P L m Q) sched a Ha:=by
 intro q
 induction q with
 | nil=>
  intro pre W ls g c h o;simp only[IX]at c;split at c
  ·rename_i l e;simp only[qAe]at c;subst c;exact X0 A v g e (h l (by simp)) r o
  simp at c
 | cons x q ih=>
  obtain⟨i,j⟩:=x;intro pre W ls g c h o;simp only[IX]at c;split at c
  ·exact ih pre W ls g c h o
  split at c
  ·rename_i n;simp only[qAc,qBe]at n;have u:i≠j:=by rintro rfl;rw[Nat.beq_refl]at n;simp at n
   have t:i<aI.size:=by have:=n.2;exact qCN this
   split at c
   ·rename_i y B w z;simp only[qAe]at c;subst c;by_cases b:Uy aI=true
    ·rcases(o b).N8 u t (by simp) (by simp)with s | s
     ·exact ih _ _ y (λb=>QM (g b)) w (λl c=>h l (by simp[c])) λ_=>s
     exact ih _ _ B (λb=>QM (g b)) z (λl c=>h l (by simp[c])) λ_=>s
    exact ih _ _ y (λb=>QM (g b)) w (λl c=>h l (by simp[c])) λd=>absurd d b
   simp at c
  simp at c
def Zve{ls:List (List (NI×Option Bool))}{Q:aM->Hp->Prop}{σ:aM}(e:tP L=true->nr=true)(c:Lf P L m aI=some ls)(h:∀l∈ls,Y1 P l Q σ H)(r:eN P L m σ H a Ha)(t:Nat) :
  uX P nr aI (Nx P L m Q) (Region.schedule true aI t) a Ha:=by
 unfold Lf at c;split at c
 ·simp at c
 rename_i ns d;exact Zvd e d r _ _ _ ls (λb=>Bf b) c h λb=>Km b t
inductive Ze where
 | skip
 | aI (l:List NI)
 | drawn (l:List (NI×Option Bool))
 | C8 (l1 l2:List (NI×Option Bool))
 | j0 (ls:List (List (NI×Option Bool)))
 | seq (a b:Ze)
 | cond (c:Operand) (t e:Ze)
 | block (id:Nat) (b:Ze)
 | loop (b:Ze)
 | exit (id:Nat)
 | ret
 | rS (f:Operand) (params:List Nat) (aA bd:Ze)
def aM.round(σ:aM):List Nat->List Value->aM
 | t :: b,v :: c=>aM.round (σ.set (some t) v) b c
 | _,_=>σ
def aM.aR(σ:aM):aM:={ env:=σ.env,box:=λ_=>none,dQ:=[] }
def Aj(I:Hp->Prop)(S:Ex->Hp->Prop):Ex->aM->Hp->Prop
 | .normal,_,H=>I H
 | e,_,H=>S e H
def WU:Ex->aM->Hp->Prop:=λ_ _ _=>False
def Z5(P:Program)(L:List (Nat×Nat))(m:Nat)(d:Rd):Code->Option Ze
 | .skip=>some .skip
 | .label _=>some .skip
 | .region _ aI false=>if d.xG || I3 aI then(Y3 P L m aI (List.range aI.size)).map .aI else none
 | .region _ aI true=>
  match Ld P L m aI with
  | some (i,j)=>if P.follows .mixedOrders && (d.xG || I3 aI)then some (.C8 i j)else none
  | none=>
  match Lg P L m aI with
  | some l=>if P.follows .mixedOrders && (d.xG || I3 aI)then some (.drawn l)else none
  | none=>
  match Lf P L m aI with
  | some ls=>if P.follows .mixedOrders && (d.xG || I3 aI)then some (.j0 ls)else none
  | none=>none
 | .seq a b=>match Z5 P L m d a,Z5 P L m d b with
  | some x,some y=>some (.seq x y)
  | _,_=>none
 | .cond c t e=>match Z5 P L m d t,Z5 P L m d e with
  | some x,some y=>if nl L c then some (.cond c x y)else none
  | _,_=>none
 | .block id b=>(Z5 P L m d b).map (.block id)
 | .scope b=>Z5 P L m d b
 | .loop b=>(Z5 P L m d b).map .loop
 | .exit id=>some (.exit id)
 | .ret=>some .ret
 | .rangeFunc f g aA h=>if d.xG && L.isEmpty && (g.toList.all λt=>decide (t<m))then
   match Z5 P L m ⟨false,false⟩ aA,Z5 P L m ⟨false,false⟩ h with
   | some x,some y=>some (.rS f g.toList x y)
   | _,_=>none
  else none
 | _=>none
theorem Zlz(r:Nat)(b:List Deferred):Vu (OE r :: b)=r :: Vu b:=rfl
def eN.marked{P:PQ}{σ:aM}{K J:Hp}{r:Nat}(b:∀g,P.still g=false)(rel:eN P [] m σ H a (H.join K)) (h:∃ρ:Nat->Nat,(∀d cs,σ.box d=some cs->∃t,K (ρ d)=some (.cells cs.toArray t (0,0),true)) /\
  (∀d o cs n,σ.box d=some cs->σ.box o=some n->ρ d=ρ o->d=o)/\(∀t v,σ.env t=some v->VW [] ρ t v (a.tmps.getD t undef))/\UZ P K a.defers) {i:Hp} (s:i.Comp K) (e:(i.join K).Comp J) (q:J r=some (.deferred (some []),true)) :
  eN P [] m σ i ⟨a.tmps,OE r :: a.defers⟩ ((i.join K).join J):=by
 obtain⟨ρ,u,w,y,p⟩:=h;have c:K.Comp J:=Hp.Comp.dH s e;refine⟨rel.size,rel.defers,ρ,K.join J,Hp.dR _ _ _,s.join_r e.of_join_left,λd cs hd=>?_,w,y,?_,λx j=>?_,.inr b⟩
 ·obtain⟨t,A⟩:=u d cs hd;exact⟨t,Hp.aW A⟩
 ·rw[Zlz,qCO];refine⟨λz=>?_,p.1⟩;have:=c r _ _ (p.2.1 r z) q;simp at this
 rw[Zlz]at j;rcases qAq.1 j with rfl | j
 ·exact Hp.bC c q
 exact Hp.aW (p.2.1 x j)
def ZhD{P:PQ}{m:Nat}:∀{ps:List Nat} {vs:List Value} {σ:aM} {tmps:Array Value} {H:Hp},(∀t∈ps,t<m)->eN P [] m σ H ⟨tmps,[]⟩ H->eN P [] m (σ.round ps vs) H ⟨(ps.zip vs).foldl (λtmps (t,a)=>tmps.setIfInBounds t a) tmps,[]⟩ H
 | [],vs,σ,tmps,H,_,r=>by simpa[aM.round]using r
 | t :: ps,[],σ,tmps,H,_,r=>by simpa[aM.round]using r
 | t :: ps,v :: vs,σ,tmps,H,b,r=>by simp only[aM.round,List.zip_cons_cons,qBa];have:=r.set (dst:=some t) (by simp[iQ,b t (by simp)]) v;exact ZhD (λx c=>b x (by simp[c])) this
abbrev Nq(P:PQ)(L:List (Nat×Nat))(m:Nat)(Q:Ex->aM->Hp->Prop)(e:Ex)(a:Act)(Ha:Hp):Prop:=∃σ H,eN P L m σ H a Ha/\Q e σ H
def F1(P:aX)(a b:Ze)(Q:Ex->aM->Hp->Prop)(σ:aM)(H:Hp):Prop:=
 ∀(L:List (Nat×Nat)) (m:Nat) (c:Rd) (code:Code) (act:Act) (Ha:Hp),(tP L=true->c.nr=true)->Z5 P L m c code=some (.seq a b)->eN P L m σ H act Ha->gX P c code (Nq P L m Q) act Ha
def F1.mono{a b:Ze}{Q c:Ex->aM->Hp->Prop}{σ:aM}(o:∀e σ H,Q e σ H->c e σ H)(h:F1 P a b Q σ H):F1 P a b c σ H:=
 λL m p code act Ha g i j=>(h L m p code act Ha g i j).mono λe a H ⟨σ,d,r,n⟩=>⟨σ,d,r,o _ _ _ n⟩
def Ze.w(P:aX):Ze->(Ex->aM->Hp->Prop)->aM->Hp->Prop
 | .skip,Q,σ,H=>Q .normal σ H
 | .aI l,Q,σ,H=>oE P l (Q .normal) σ H
 | .drawn l,Q,σ,H=>P.still H.gh=false/\Y1 P l (Q .normal) σ H
 | .C8 s u,Q,σ,H=>P.still H.gh=false/\Y1 P s (Q .normal) σ H/\Y1 P u (Q .normal) σ H
 | .j0 ls,Q,σ,H=>P.still H.gh=false/\∀l∈ls,Y1 P l (Q .normal) σ H
 | .seq a b,Q,σ,H=>a.w P (iD.then (b.w P Q) Q) σ H\/F1 P a b Q σ H\/∃(ι:Type) (I:ι->Hp->Prop) (st:ι->aM),a.w P (iD.then (λσ' o=>∃i,I i o/\(st i).Le σ') Q) σ H/\∀i H,I i H->b.w P Q (st i) H
 | .cond c t e,Q,σ,H=>∃b,σ.get c=some (.bool b)/\(b=true->t.w P Q σ H)/\(b=false->e.w P Q σ H)
 | .block id b,Q,σ,H=>b.w P (iD.inBlock id Q) σ H
 | .loop b,Q,σ,H=>∃(ι:Type) (I:ι->Hp->Prop) (μ:ι->Nat) (st:ι->aM) (i:ι),I i H/\(st i).Le σ/\∀i H,I i H->b.w P (iD.then (λσ' o=>∃j,μ j<μ i/\I j o/\(st j).Le σ') Q) (st i) H
 | .exit id,Q,σ,H=>Q (.exit id) σ H
 | .ret,Q,σ,H=>Q .ret σ H
 | .rS f q aA r,Q,σ,H=>(∀g,P.still g=false)/\∃(N:Hp->Prop) (len:Nat) (E:Nat->List Value->Hp->Prop) (p:Value),σ.get f=some p/\KY P p N len E/\(∀n h d,E n h d->h.length=q.length) /\
   ∃(I:Nat->Hp->Prop) (S:Ex->Hp->Prop),I 0 H/\(∀n,Up (I n))/\(∀e,Up (S e))/\(∀n H,I n H->N H) /\
   (∀n,n<len->∀h d H,E n h d->d.gh=[]->H.Comp d->I n H->aA.w P (iD.then (r.w P (Aj (I (n+1)) S)) WU) (σ.aR.round q h) (H.join d)) /\
   (∀H,I len H->Q .normal σ H)/\∀e H,e≠.normal->S e H->Q e σ H
theorem Nq.then{next:aM->Hp->Prop}{Q:Ex->aM->Hp->Prop}{b:Act->Hp->Prop}(d:∀σ H a Ha,eN P L m σ H a Ha->next σ H->b a Ha){e:Ex}(h:Nq P L m (iD.then next Q) e a Ha):Ex.then b (Nq P L m Q) e a Ha:=by
 obtain⟨σ,H,r,c⟩:=h;cases e with
 | normal=>exact d _ _ _ _ r c
 | exit id=>exact⟨σ,H,r,c⟩
 | ret=>exact⟨σ,H,r,c⟩
theorem VI{P:aX}{L:List (Nat×Nat)}{m:Nat}:∀{rd:Rd} {c:Code} {n:Ze} {Q:Ex->aM->Hp->Prop} {σ:aM} {H Ha:Hp} {a:Act},(tP L=true->rd.nr=true)->Z5 P L m rd c=some n->n.w P Q σ H->eN P L m σ H a Ha->gX P rd c (Nq P L m Q) a Ha
 | rd,.skip,n,Q,σ,H,Ha,a,o,g,h,r=>by simp only[Z5,qAe]at g;subst g;exact .skip ⟨_,_,r,h⟩
 | rd,.label _,n,Q,σ,H,Ha,a,o,g,h,r=>by simp only[Z5,qAe]at g;subst g;exact .label ⟨_,_,r,h⟩
 | rd,.region id aI dr,n,Q,σ,H,Ha,a,o,g,h,r=>by
  cases dr with
  | true=>
   simp only[Z5]at g;split at g
   ·rename_i l1 l2 F;obtain⟨q,rfl⟩:=YC g;simp only[qAc,qCs]at q;refine .BZ (r.aV h.1) q.2 λt=>?_;rw[q.1];exact Zvf o F h.2.1 h.2.2 r t
   split at g
   ·rename_i l F;obtain⟨q,rfl⟩:=YC g;simp only[qAc,qCs]at q;refine .BZ (r.aV h.1) q.2 λt=>?_;rw[q.1];exact Zvc o F h.2 r t
   split at g
   ·rename_i ls F;obtain⟨q,rfl⟩:=YC g;simp only[qAc,qCs]at q;refine .BZ (r.aV h.1) q.2 λt=>?_;rw[q.1];exact Zve o F h.2 r t
   simp at g
  | false=>
   simp only[Z5]at g;split at g
   ·rename_i hd;simp only[qAL]at g;obtain⟨ns,q,rfl⟩:=g;simp only[qCs]at hd;exact .region hd (WW o q h r)
   simp at g
 | rd,.seq x y,n,Q,σ,H,Ha,a,o,g,h,r=>by
  simp only[Z5]at g;split at g
  ·rename_i nx ny O Z;simp only[qAe]at g;subst g;rcases h with h | h | ⟨ι,I,st,q,h2⟩
   ·refine .seq ((VI o O h r).mono λe a' H' u=>?_);exact Nq.then (P:=P) (λσ H a Ha v h'=>VI o Z h' v) u
   ·exact h L m rd (.seq x y) a Ha o (by simp only[Z5,O,Z]) r
   refine .seq ((VI o O q r).mono λe a' H' u=>?_);exact Nq.then (P:=P) (λσ H a Ha v ⟨i,D,F⟩=>VI o Z (h2 i H D) (v.GW F)) u
  simp at g
 | rd,.cond c x y,n,Q,σ,H,Ha,a,o,g,h,r=>by
  simp only[Z5]at g;split at g
  ·rename_i nx ny O Z;split at g
   ·rename_i z;simp only[qAe]at g;subst g;obtain⟨b,hb,q,h2⟩:=h;refine .cond (t:=b) (r.get z hb) ?_;cases b with
    | true=>exact VI o O (q rfl) r
    | false=>exact VI o Z (h2 rfl) r
   simp at g
  simp at g
 | rd,.block id b,n,Q,σ,H,Ha,a,o,g,h,r=>by
  simp only[Z5,qAL]at g;obtain⟨nb,q,rfl⟩:=g;refine .block ((VI o q h r).mono ?_);rintro e a' H' ⟨σ',p,v,u⟩;cases e with
  | normal=>exact⟨_,_,v,u⟩
  | ret=>exact⟨_,_,v,u⟩
  | exit id'=>
   simp only[iD.inBlock]at u;simp only[Ex.inBlock];split
   ·rename_i e;rw[iF e]at u;exact⟨_,_,v,u⟩
   rename_i e;rw[aT e]at u;exact⟨_,_,v,u⟩
 | rd,.scope b,n,Q,σ,H,Ha,a,o,g,h,r=>.scope (VI o (by simpa only[Z5]using g) h r)
 | rd,.loop b,n,Q,σ,H,Ha,a,o,g,h,r=>by simp only[Z5,qAL]at g;obtain⟨nb,q,rfl⟩:=g;obtain⟨ι,I,μ,st,i0,h0,F,hr⟩:=h;refine .loop (λn a Ha=>∃i H,μ i=n/\eN P L m (st i) H a Ha/\I i H) (μ i0) ⟨i0,H,rfl,r.GW F,h0⟩ ?_;rintro n a' Ha' ⟨i,H',rfl,v,hI⟩;refine(VI o q (hr i H' hI) v).mono λe a2 H2 u=>?_;exact Nq.then (P:=P) (λσ H a Ha v ⟨j,hm,hI',Ff⟩=>⟨μ j,hm,j,H,rfl,v.GW Ff,hI'⟩) u
 | rd,.exit id,n,Q,σ,H,Ha,a,o,g,h,r=>by simp only[Z5,qAe]at g;subst g;exact .exit ⟨_,_,r,h⟩
 | rd,.ret,n,Q,σ,H,Ha,a,o,g,h,r=>by simp only[Z5,qAe]at g;subst g;exact .ret ⟨_,_,r,h⟩
 | rd,.goto _,_,_,_,_,_,_,_,g,_,_=>by simp[Z5]at g
 | rd,.refuse _,_,_,_,_,_,_,_,g,_,_=>by simp[Z5]at g
 | rd,.rangeFunc f ps aA bd,n,Q,σ,H,Ha,a,o,g,h,r=>by
  simp only[Z5]at g;split at g
  ·rename_i z;simp only[qAc,List.isEmpty_iff]at z;obtain⟨⟨R,rfl⟩,hps⟩:=z;obtain⟨rt,rn⟩:=rd;simp only at R;subst R;split at g
   ·rename_i x y O Z;simp only[qAe]at g;subst g;obtain⟨hs,N,len,E,fv,hfv,Fi,tZ,I,S,h0,M,A,hIN,G,V,Y⟩:=h;have S7:a.eval f=fv:=r.get (by cases f<;>rfl) hfv;obtain⟨ρ,K,e1,e2,e3,e4,e5,e6⟩:=r.mem;subst e1;refine gX.rangeFunc hs (by rw[S7];exact Fi) (λn vs T O=>by rw[tZ n vs T O];simp) (λn C=>∃p:Hp,C=p.join K/\p.Comp K/\I n p) (λe C=>∃p:Hp,C=p.join K/\p.Comp K/\S e p)
     (λn=>Bd (M n)) (λe=>Bd (A e)) ?_ ⟨H,rfl,e2,h0⟩ ?_ ?_ ?_
    ·rintro n C J ⟨p,rfl,z,D⟩ hJ;exact hIN n _ (M n _ _ hJ (M n _ _ z D))
    ·rintro n hn vs T C hE NN TB ⟨p,rfl,Gi,gQ⟩;have c1:p.Comp T:=TB.of_join_left;have c2:K.Comp T:=Hp.Comp.dH Gi TB;rw[Hp.fS c2.symm];have z:(p.join T).Comp K:=Hp.Comp.gU Gi c2.symm;have D:=G n hn vs T p hE NN c1 gQ;generalize p.join T=p at *;have SU:eN P [] m σ.aR p ⟨a.tmps,[]⟩ p:=⟨r.size,rfl,ρ,.nil,(Hp.eG _).symm,Hp.eQ _,λd cs h=>by simp[aM.aR]at h,λd d' cs jX h=>by simp[aM.aR]at h,e5,.nil _ _⟩;have KA:=ZhD (ps:=ps.toList) (vs:=vs) (λt g=>by simpa using IN.1 hps t g) SU;have hz:(ps.zip vs.toArray).foldl (λtmps (t,a)=>tmps.setIfInBounds t a) a.tmps=(ps.toList.zip vs).foldl (λtmps (t,a)=>tmps.setIfInBounds t a) a.tmps:=by rw[<-qDE];simp
     rw[hz];refine((VI (rd:=⟨false,false⟩) (λh=>by simp[tP]at h) O D KA).frame z).mono ?_;rintro e a1 C ⟨H2,rfl,hc2,σ2,H3,r2,u⟩;cases e with
     | ret=>exact u.elim
     | exit id=>exact u.elim
     | normal=>
      refine((VI (rd:=⟨false,false⟩) (λh=>by simp[tP]at h) Z u r2).frame hc2).mono ?_;rintro e a3 C ⟨H4,rfl,U,σ3,H5,r3,W⟩;obtain⟨ρ',K',g1,g2,_⟩:=r3.mem;subst g1;cases e with
      | normal=>exact⟨_,rfl,U,M _ _ _ g2 W⟩
      | ret=>exact⟨_,rfl,U,A _ _ _ g2 W⟩
      | exit id=>exact⟨_,rfl,U,A _ _ _ g2 W⟩
    ·rintro C v J ⟨p,rfl,z,D⟩ hJ X;exact⟨σ,p,r.marked hs ⟨ρ,e3,e4,e5,e6⟩ z hJ X,V _ D⟩
    rintro e C v J he ⟨p,rfl,z,D⟩ hJ X;exact⟨σ,p,r.marked hs ⟨ρ,e3,e4,e5,e6⟩ z hJ X,Y _ _ he D⟩
   simp at g
  simp at g
end
section
variable{P:aX}{H:Hp}{kd:CallKind}{f:FuncId}{args:List Value}{Post:Value->Hp->Prop}
def Vv(args:List Value):aM:={ env:=λt=>args[t]?,box:=λ_=>none,dQ:=[] }
inductive Zf where
 | aK (t:Nat)
 | jH (t d:Nat) (n:Option Nat)
 | mem (t:Nat) (n:Option Nat)
def Ba(P:Program)(L:List (Nat×Nat)):ResultVar->Option Zf
 | .tmp t=>if nl L (.tmp t)then some (.aK t)else none
 | .cell s t=>match L.lookup s,Yd P t with
  | some d,some n=>some (.jH s d n)
  | none,some n=>some (.mem s n)
  | _,_=>none
def Zf.ev(σ:aM):Zf->Option Value
 | .aK t=>σ.env t
 | .jH t d n=>match σ.env t,σ.box d with
  | some (.int .i64 (.ofNat off)),some cs=>match n with
   | none=>cs[off]?
   | some n=>if off+n<=cs.length then some (.agg ((cs.drop off).take n).toArray)else none
  | _,_=>none
 | .mem ..=>none
def Zf.Hn(σ:aM)(H:Hp)(x:Zf)(v:Value):Prop:=
 match x with
 | .mem t none=>∃a,σ.env t=some (.pointer (some a))/\aC H a [v]
 | .mem t (some n)=>∃a cs,σ.env t=some (.pointer (some a))/\v=.agg cs.toArray/\cs.length=n/\aC H a cs
 | x=>x.ev σ=some v
def jB(σ:aM)(H:Hp):List Zf->List Value->Prop
 | [],[]=>True
 | x :: r,v :: b=>x.Hn σ H v/\jB σ H r b
 | _,_=>False
def jB.dQ{σ:aM}{H:Hp}{ds:List Deferred}:∀{rs:List Zf} {vs:List Value},jB { σ with dQ:=ds } H rs vs↔jB σ H rs vs
 | [],[]=>qCH
 | [],_ :: _=>qCH
 | _ :: _,[]=>qCH
 | x :: r,v :: vs=>by have:=jB.dQ (σ:=σ) (H:=H) (ds:=ds) (rs:=r) (vs:=vs);simp only[jB,this];refine qDl ?_ qCH;rcases x with t | ⟨t,d,n⟩ | ⟨t,_ | n⟩<;>exact qCH
def U4(σ:aM):List Zf->Option (List Value)
 | []=>some []
 | x :: r=>match x.ev σ,U4 σ r with
  | some v,some b=>some (v :: b)
  | _,_=>none
def Zf.cell:Zf->Bool
 | .aK _=>false
 | .jH ..=>true
 | .mem ..=>true
def Oq(P:Program)(L:List (Nat×Nat)):List ResultVar->Option (List Zf)
 | []=>some []
 | x :: r=>match Ba P L x,Oq P L r with
  | some v,some b=>some (v :: b)
  | _,_=>none
def Y5:List Value->Value
 | [v]=>v
 | b=>.tuple b.toArray
def Uj(P:aX):List Deferred->(Hp->Prop)->Hp->Prop
 | [],K,H=>K H
 | d :: c,K,H=>UJ d.target=true/\(bL P (invoke d.target d.args) (λn _ b=>EP P (Uj P c K) n b) false H \/
   (Uz P.toProgram (invoke d.target d.args)/\Zk P (invoke d.target d.args) false false H λ_ b=>Uj P c K b))
def Uj.imp{P:aX}{K j:Hp->Prop}(b:∀H,K H->j H):∀{e:List Deferred} {H:Hp},Uj P e K H->Uj P e j H
 | [],H,h=>b _ h
 | d :: e,H,h=>⟨h.1,h.2.imp (Vi (λn g H c=>by
   cases n with
   | enter f args=>exact Y2.mono c λ_ H i=>Uj.imp b i
   | value v=>exact Uj.imp b c
   | skip=>exact Uj.imp b c
   | _=>exact c.elim)) λh=>⟨h.1,h.2.mono λ_ H i=>Uj.imp b i⟩⟩
def IP(P:aX)(b:List Zf)(Post:Value->Hp->Prop)(σ:aM)(H:Hp):Prop:=Uj P σ.dQ (λH=>(b.any Zf.cell=true->P.still H.gh=false)/\∃c,jB σ H b c/\Post (Y5 c) H) H
def U3(tmps:Array Value):ResultVar->Sem Value
 | .tmp t=>pure (tmps.getD t undef)
 | .cell a t=>do loadVar t (<-asAddr (tmps.getD a undef))
def ZpN{P:PQ}{L:List (Nat×Nat)}{m:Nat}{σ:aM}{Ha:Hp}{a:Act}(r:eN P L m σ H a Ha){x:ResultVar}{n:Zf}{v:Value}(y:n.cell=true->P.still H.gh=false)(e:Ba P L x=some n)(c:n.Hn σ H v)(Q:Value->Bool->Hp->Prop)(g:Bool)(E:Q v g Ha) :
  bL P (U3 a.tmps x) Q g Ha:=by
 cases x with
 | tmp t=>
  simp only[Ba]at e;obtain⟨q,rfl⟩:=YC e;have:=r.get q (x:=.tmp t) (v:=v) c;simp only[Act.eval]at this;simp only[U3,this,Zj];exact E
 | cell s t=>
  simp only[Ba]at e;split at e;rotate_left
  ·rename_i k O D;simp only[qAe]at e;subst e;have T:nl L (.tmp s)=true:=by simp[nl,O]
   obtain⟨ρ,K,S,X,_⟩:=r.mem;have i:=r.aV (y rfl);cases k with
   | none=>
    obtain⟨R,q,A,o,p,J,M⟩:=c;have C:=r.get T (x:=.tmp s) q;simp only[Act.eval]at C;simp only[U3,C,asAddr,Zg,Zj,loadVar];rw[OS D];simp only[DO,qAw];exact⟨o,p,v,⟨i,by rw[S];exact Hp.aW J⟩,rfl,A,by simpa using M 0 (by simp),E⟩
   | some k=>
    obtain⟨R,F,q,rfl,U,A,o,p,J,M⟩:=c;have C:=r.get T (x:=.tmp s) q;simp only[Act.eval]at C;obtain⟨W,u,z,w⟩:=K7 D;simp only[U3,C,asAddr,Zg,Zj,loadVar];rw[w];simp only[qBp,Zg,Z4 u,Zj,z,loadCells];have:=LY (P:=P) (a:=R) i (by rw[S];exact Hp.aW J) A (λv g I=>Q (.agg v) g I) g F 0 #[] (λj G=>by rw[qAE];exact M j G) (by simpa using E);rw[U]at this;exact this
  ·simp at e
  rename_i d k O D;simp only[qAe]at e;subst e;simp only[Zf.Hn,Zf.ev]at c;split at c
  ·rename_i off F q A;obtain⟨b,Y,N,B⟩:=r.place O (n:=off) q A;simp only[U3,N,asAddr,Zg,Zj,loadVar];cases k with
   | none=>
    rw[OS D];simp only[DO,qAw];exact⟨_,_,v,⟨r.aV (y rfl),B⟩,rfl,rfl,by simpa[Obj.mB]using c,E⟩
   | some k=>
    simp only at c;split at c
    ·rename_i V;simp only[qAe]at c;subst c;obtain⟨W,u,z,w⟩:=K7 D;rw[w];simp only[qBp,Zg,Z4 u,Zj,z,loadCells];have h:((F.drop off).take k).length=k:=by simp;omega
     have:=LY (P:=P) (a:=⟨b,off,none⟩) (r.aV (y rfl)) B rfl (λv g I=>Q (.agg v) g I) g ((F.drop off).take k) 0 #[] (λj G=>by simp only[Obj.mB,qAE,qAH];rw[qDa,qCJ,iF (by rw[h]at G;exact G)]) (by simpa using E);rw[h]at this;exact this
    simp at c
  simp at c
def Ah{σ:aM}{H:Hp}:∀{d:List Zf} {b:List Value},U4 σ d=some b->jB σ H d b
 | [],b,h=>by simp only[U4,qAe]at h;subst h;trivial
 | x :: r,b,h=>by
  simp only[U4]at h;split at h
  ·rename_i v g c e;simp only[qAe]at h;subst h;refine⟨?_,Ah e⟩;cases x with
   | mem t n=>simp[Zf.ev]at c
   | _=>exact c
  simp at h
def LI(tmps:Array Value):List ResultVar->Sem (List Value)
 | []=>pure []
 | x :: r=>do let v <-U3 tmps x;let b <-LI tmps r;pure (v :: b)
def ZhH{P:PQ}{L:List (Nat×Nat)}{m:Nat}{σ:aM}{H Ha:Hp}{a:Act}(r:eN P L m σ H a Ha):∀{j:List ResultVar} {ns:List Zf} {c:List Value} (Q:List Value->Bool->Hp->Prop) (g:Bool),(ns.any Zf.cell=true->P.still H.gh=false)->Oq P L j=some ns->jB σ H ns c->Q c g Ha->bL P (LI a.tmps j) Q g Ha
 | [],ns,c,Q,g,_,b,e,i=>by
  simp only[Oq,qAe]at b;subst b;cases c with
  | nil=>exact i
  | cons v c=>exact e.elim
 | x :: j,ns,c,Q,g,d,b,e,i=>by
  simp only[Oq]at b;split at b
  ·rename_i n t o p;simp only[qAe]at b;subst b;cases c with
   | nil=>exact e.elim
   | cons v u=>
    obtain⟨q,s⟩:=e;simp only[LI,Zg];refine ZpN r (λh=>d (by simp[h])) o q _ g ?_;exact ZhH r _ g (λh=>d (by rw[List.any_cons,h];simp)) p s (by simpa[Zj]using i)
  simp at b
theorem ZhI(tmps:Array Value):∀b:List ResultVar,b.mapM (U3 tmps)=LI tmps b
 | []=>rfl
 | x :: b=>by rw[List.mapM_cons,ZhI tmps b];rfl
def ZpM(fn:Func)(tmps:Array Value):results fn tmps=(do let b <-LI tmps fn.results.toList;pure (Y5 b)):=by
 have c:results fn tmps=fn.results.mapM (U3 tmps) >>= λb=>pure (if h:b.size=1 then b[0]else .tuple b):=by unfold results;congr 1
 have d:fn.results.mapM (U3 tmps)=Functor.map List.toArray (LI tmps fn.results.toList):=by
  rw[<-ZhI];conv=>lhs;rw[show fn.results=fn.results.toList.toArray by simp]
  rw[List.mapM_toArray]
 rw[c];rw[d,map_eq_pure_bind,bind_assoc];congr 1;funext b;simp only[pure_bind];congr 1;cases b with
 | nil=>rfl
 | cons v b=>cases b with
  | nil=>rfl
  | cons w b=>simp[Y5]
def EP.frame{K g:Hp->Prop}{F:Hp}(d:∀H,H.Comp F->K H->g (H.join F)):∀{n:Next} {H:Hp},EP P K n H->H.Comp F->EP P g n (H.join F):=by
 intro n H h b;cases n with
 | enter f args=>exact(Y2.frame h b).mono λ_ o ⟨j,e,c,i⟩=>by rw[e];exact d _ c i
 | value v=>exact d _ b h
 | skip=>exact d _ b h
 | _=>exact h.elim
def LQ{P:aX}{fn:Func}{L:List (Nat×Nat)}{m:Nat}{F:List Zf}{tmps:Array Value}{Post:Value->Hp->Prop}(S:Oq P L fn.results.toList=some F):∀(q:List Deferred) (σ:aM) (H Ha:Hp),
  eN P L m σ H ⟨tmps,q⟩ Ha->Uj P σ.dQ (λH=>(F.any Zf.cell=true->P.still H.gh=false)/\∃w,jB σ H F w/\Post (Y5 w) H) H->qN P fn tmps (λv p=>∃i J:Hp,p=i.join J/\i.Comp J/\Post v i) q Ha
 | [],σ,H,Ha,r,h=>by have E:[]=σ.dQ:=r.defers;rw[<-E]at h;show bL P (results fn tmps) _ false Ha;rw[ZpM,Zg];obtain⟨h0,w,hv,h⟩:=h;refine ZhH r _ _ h0 S hv ?_;obtain⟨ρ,K,C,y,_⟩:=r.mem;exact⟨H,K,C,y,h⟩
 | d :: q,σ,H,Ha,r,h=>by
  obtain⟨ρ,K,C,y,W,X,Y,z⟩:=r.mem;obtain⟨u,B⟩:=d;have E:Oy (⟨u,B⟩ :: q)=σ.dQ:=r.defers;have plain:LX ⟨u,B⟩=false->(∀x,u≠.collected x)->UJ u=true/\(bL P (invoke u B) (λn _ p=>EP P (qN P fn tmps (λv p=>∃i J:Hp,p=i.join J/\i.Comp J/\Post v i) q) n p) false Ha \/
    (Uz P.toProgram (invoke u B)/\Zk P (invoke u B) false false Ha λ_ p=>qN P fn tmps (λv p=>∃i J:Hp,p=i.join J/\i.Comp J/\Post v i) q p)):=by
   intro Z V
   simp only[Oy,Z,DO,qAw]at E
   rw[<-E]at h
   obtain⟨h1,D⟩:=h
   refine⟨h1,?_⟩
   rw[C]
   suffices key:∀A:Hp,A.Comp K->Uj P (Oy q) (λH=>(F.any Zf.cell=true->P.still H.gh=false)/\∃w,jB σ H F w/\Post (Y5 w) H) A->qN P fn tmps (λv p=>∃i J:Hp,p=i.join J/\i.Comp J/\Post v i) q (A.join K)by
    refine D.imp (λD=>Vi ?_ (Aa D y)) λ⟨U,D⟩=>⟨U,(D.frame y).mono ?_⟩
    ·rintro n g HF ⟨p,rfl,M,R⟩;exact EP.frame key R M
    rintro v HF ⟨p,rfl,M,R⟩;exact key _ M R
   intro A N hk
   have Q:UZ P K q:=by unfold UZ at z ⊢;rw[Zly Z]at z;exact z
   exact LQ S q { σ with dQ:=Oy q } A _ ⟨r.size,rfl,ρ,K,rfl,N,W,X,Y,Q⟩ (Uj.imp (λH ⟨g1,w,g2,g3⟩=>⟨g1,w,jB.dQ.2 g2,g3⟩) hk)
  cases u with
  | collected b=>
   have hb:K b=some (.deferred (some []),true):=z.2.1 b (by simp[Vu]);have s:∀g,P.still g=false:=z.2.2.resolve_left (by simp[Vu]);refine⟨s _,by rw[C];exact Hp.bC y hb,?_⟩;have I:H b=none:=y.left_none hb;rw[C,<-Hp.iW I];refine LQ S q σ H _ ⟨r.size,E,ρ,K.ins b (.deferred none),rfl,(y.symm.kB hb).symm,λd cs O=>?_,X,Y,?_⟩ h
   ·obtain⟨t,T⟩:=W d cs O;refine⟨t,?_⟩;rw[Hp.aH _ _ (by rintro e;rw[e,hb]at T;simp at T)];exact T
   have G:=z.1;simp only[Vu,qCO]at G;refine⟨G.2,λx V=>?_,.inr s⟩;rw[Hp.aH _ _ (by rintro rfl;exact G.1 V)];exact z.2.1 x (by simp[Vu,V])
  | nil=>exact plain rfl (by simp)
  | fn f c=>exact plain rfl (by simp)
  | builtin b at_ t c=>exact plain rfl (by simp)
  | coroexit c=>exact plain rfl (by simp)
theorem Y2.ofN{fn:Func}{body:Code}{n:Ze}{A:List Zf}(L:List (Nat×Nat))(u:kd=.normal\/kd=.deferred)(E:P.funcs[f]? = some fn)(hb:fn.body=some body)
  (j:(!(tP L) || fn.norace)=true) (M:Z5 P L fn.ntmps ⟨true,fn.norace⟩ body=some n) (z:Oq P L fn.results.toList=some A) (K:(L.all λp=>decide (args.length<=p.1))=true) (S:args.length<=fn.ntmps)
  (h:n.w P (λe σ H=>match e with | .exit _=>False | _=>IP P A Post σ H) (Vv args) H):Y2 P kd f args.toArray H Post:=by
 intro G c cs g N C;have o:eN P L fn.ntmps (Vv args) H ⟨args.toArray++Array.replicate (fn.ntmps-args.toArray.size) undef,[]⟩ H:=by
  refine⟨by simp;omega,rfl,λ_=>0,.nil,?_,?_,?_,?_,?_,.nil _ _⟩
  ·exact(Hp.eG H).symm
  ·exact Hp.eQ H
  ·intro d cs h;simp[Vv]at h
  ·intro d R cs B h;simp[Vv]at h
  intro t v q;simp only[Vv]at q;have i:t<args.length:=by
   rcases qBi t args.length with h | h
   ·exact h
   simp[qAn h]at q
  have x:L.lookup t=none:=by
   cases F:L.lookup t with
   | none=>rfl
   | some d=>
    obtain⟨T,U,rfl,_⟩:=qDL.1 F;have:=IN.1 K (t,d) (by simp);simp at this;omega
  unfold VW;rw[x];simp[Array.getElem?_append,i];rw[qBE i]at q;simpa using q
 have D:=Y2.of (P:=P) (kd:=kd) (f:=f) (args:=args.toArray) (H:=H) (Post:=λv s=>∃b J:Hp,s=b.join J/\b.Comp J/\Post v b) u E hb rfl ?_
 ·refine D G c cs g N ?_;rintro v s ⟨b,J,rfl,I,O⟩;exact(C v b O).up g I
 refine(VI (rd:=⟨true,fn.norace⟩) (λh=>by rw[h]at j;simpa using j) M h o).mono ?_;rintro e ⟨at_,Q⟩ Ha ⟨σ,s,r,y⟩;cases e with
 | normal=>exact LQ z _ _ _ _ r y
 | ret=>exact LQ z _ _ _ _ r y
 | exit id=>exact y.elim
def aJ(P:Program)(f:FuncId)(k:Nat)(n:Ze)(b:List Zf):Prop:=
 ∃(fn:Func) (L:List (Nat×Nat)),P.funcs[f]? = some fn/\fn.body.bind (Z5 P L fn.ntmps ⟨true,fn.norace⟩)=some n/\Oq P L fn.results.toList=some b/\((L.all λp=>decide (k<=p.1)) && decide (k<=fn.ntmps) && (!(tP L) || fn.norace))=true
def Br(n:Ze)(b:List Zf)(P:aX)(args:List Value)(Post:Value->Hp->Prop)(H:Hp):Prop:=
 n.w P (λe σ H=>match e with | .exit _=>False | _=>IP P b Post σ H) (Vv args) H
def aJ.HX(c:kd=.normal\/kd=.deferred){k:Nat}{n:Ze}{d:List Zf}(h:aJ P f k n d)(j:args.length=k)(p:Br n d P args Post H):Y2 P kd f args.toArray H Post:=by obtain⟨fn,L,e,g,i,b⟩:=h;rw[qAc,qAc,qAR]at b;obtain⟨body,hb,o⟩:=qDK.1 g;subst j;exact Y2.ofN L c e hb b.2 o i b.1.1 b.1.2 p
end
variable{P:aX}{H:Hp}{f:FuncId}{k:Nat}{args:List Value}{Post:Value->Hp->Prop}
def Zh1{G:Prop} (h:G:=by
  simp only[ZT]at h;simp only[Y1,NI.w];obtain⟨tC,h⟩:=h;refine⟨tC,?_⟩;split at h
  ·exact⟨_,‹_›,λ_=>bE.tB (ZlR λσ H h=>ZT.n hq h) h,λe=>absurd rfl e⟩
  ·exact⟨_,‹_›,λe=>by simp at e,λ_=>⟨.refl _ H,ZT.n hq h⟩⟩
  ·exact⟨_,‹_›,λe=>by simp at e,λ_=>⟨.refl _ H,ZT.n hq h⟩⟩
  exact h.elim):G:=h
def mA(P:PQ)(H:Hp)(f:Option Bool)(K:aM->Hp->Prop):aM->Hp->Prop:=
 match f with
 | some true=>λσ' c=>(P.still c.gh=P.still H.gh/\∀b x,H b=some x->c b=some x)/\K σ' c
 | some false=>λσ' c=>P.still c.gh=P.still H.gh/\K σ' c
 | none=>K
def ZlR{P:PQ}{f:Option Bool}{K d:aM->Hp->Prop}(c:∀σ H,K σ H->d σ H):∀σ' b,mA P H f K σ' b->zC P f H b/\d σ' b:=by
 intro σ' b h;match f,h with
 | some true,h=>exact⟨λs e=>⟨h.1.1,λ_=>h.1.2⟩,c _ _ h.2⟩
 | some false,h=>exact⟨λs e=>by obtain rfl:=iO e;exact⟨h.1,λe=>by simp at e⟩,c _ _ h.2⟩
 | none,h=>exact⟨λs e=>by simp at e,c _ _ h⟩
def ZT(P:aX):List (NI×Option Bool)->(aM->Hp->Prop)->aM->Hp->Prop
 | [],Q,σ,H=>Q σ H
 | (⟨none,d,op⟩,f) :: r,Q,σ,H=>P.still H.gh=false/\op.m P d (mA P.toPQ H f (ZT P r Q)) σ H
 | (⟨some (t,true),d,op⟩,f) :: r,Q,σ,H=>P.still H.gh=false/\match σ.env t with
  | some (.bool true)=>op.m P d (mA P.toPQ H f (ZT P r Q)) σ H
  | some (.bool false)=>ZT P r Q (σ.fB d) H
  | some (.tuple _)=>ZT P r Q (σ.fB d) H
  | _=>False
 | (⟨some (t,false),d,op⟩,f) :: r,Q,σ,H=>P.still H.gh=false/\match σ.env t with
  | some (.bool false)=>op.m P d (mA P.toPQ H f (ZT P r Q)) σ H
  | some (.bool true)=>ZT P r Q (σ.fB d) H
  | some (.tuple _)=>ZT P r Q (σ.fB d) H
  | _=>False
def ZT.n{P:aX}{Q b:aM->Hp->Prop}(hq:∀σ H,Q σ H->b σ H):∀{l:List (NI×Option Bool)} {σ:aM} {H:Hp},ZT P l Q σ H->Y1 P l b σ H
 | [],σ,H,h=>hq _ _ h
 | (⟨none,d,op⟩,f) :: r,σ,H,h=>⟨h.1,bE.tB (ZlR λσ H h=>ZT.n hq h) h.2⟩
 | (⟨some (t,true),d,op⟩,f) :: r,σ,H,h=>by exact Zh1
 | (⟨some (t,false),d,op⟩,f) :: r,σ,H,h=>by exact Zh1
def V4(dQ:List Deferred)(env:List (Nat×Value))(box:List (Nat×List Value)):aM:={ env:=λt=>env.lookup t,box:=λt=>box.lookup t,dQ:=dQ }
def sX:List (Nat×Value)->aM->Prop
 | [],_=>True
 | (t,v) :: r,σ=>σ.env t=some v/\sX r σ
def sY:List (Nat×List Value)->aM->Prop
 | [],_=>True
 | (t,v) :: r,σ=>σ.box t=some v/\sY r σ
def sX.le:∀{env:List (Nat×Value)} {σ:aM},sX env σ->∀t v,env.lookup t=some v->σ.env t=some v
 | [],σ,_,t,v,h=>by simp at h
 | (s,u) :: r,σ,b,t,v,h=>by
  simp only[List.lookup_cons]at h;split at h
  ·rename_i e;simp only[qAe]at h;subst h;have:t=s:=by simpa using e
   subst this;exact b.1
  exact sX.le b.2 t v h
def sY.le:∀{env:List (Nat×List Value)} {σ:aM},sY env σ->∀t v,env.lookup t=some v->σ.box t=some v
 | [],σ,_,t,v,h=>by simp at h
 | (s,u) :: r,σ,b,t,v,h=>by
  simp only[List.lookup_cons]at h;split at h
  ·rename_i e;simp only[qAe]at h;subst h;have:t=s:=by simpa using e
   subst this;exact b.1
  exact sY.le b.2 t v h
def Ze.m(P:aX):Ze->(Ex->aM->Hp->Prop)->aM->Hp->Prop
 | .skip,Q,σ,H=>Q .normal σ H
 | .aI l,Q,σ,H=>ZR P l (Q .normal) σ H
 | .drawn l,Q,σ,H=>P.still H.gh=false/\ZT P l (Q .normal) σ H
 | .C8 s u,Q,σ,H=>P.still H.gh=false/\ZT P s (Q .normal) σ H/\ZT P u (Q .normal) σ H
 | .j0 ls,Q,σ,H=>P.still H.gh=false/\∀l∈ls,ZT P l (Q .normal) σ H
 | .seq a b,Q,σ,H=>a.m P (iD.then (b.m P Q) Q) σ H\/F1 P a b Q σ H\/∃(ι:Type) (I:ι->Hp->Prop) (env:ι->List (Nat×Value)) (box:ι->List (Nat×List Value)),
   a.m P (iD.then (λσ' o=>∃i,I i o/\sX (env i) σ'/\sY (box i) σ'/\σ'.dQ=σ.dQ) Q) σ H/\∀i H,I i H->b.m P Q (V4 σ.dQ (env i) (box i)) H
 | .cond c t e,Q,σ,H=>match σ.get c with
  | some (.bool true)=>t.m P Q σ H
  | some (.bool false)=>e.m P Q σ H
  | _=>False
 | .block id b,Q,σ,H=>b.m P (iD.inBlock id Q) σ H
 | .loop b,Q,σ,H=>∃(ι:Type) (I:ι->Hp->Prop) (μ:ι->Nat) (env:ι->List (Nat×Value)) (box:ι->List (Nat×List Value)) (i:ι),I i H/\(sX (env i) σ/\sY (box i) σ) /\
   ∀i H,I i H->b.m P (iD.then (λσ' o=>∃j,μ j<μ i/\I j o/\sX (env j) σ'/\sY (box j) σ'/\σ'.dQ=σ.dQ) Q) (V4 σ.dQ (env i) (box i)) H
 | .exit id,Q,σ,H=>Q (.exit id) σ H
 | .ret,Q,σ,H=>Q .ret σ H
 | .rS f p aA q,Q,σ,H=>(∀g,P.still g=false)/\match σ.get f with
  | some r=>∃(N:Hp->Prop) (len:Nat) (E:Nat->List Value->Hp->Prop),KY P r N len E/\(∀n h d,E n h d->h.length=p.length) /\
   ∃(I:Nat->Hp->Prop) (S:Ex->Hp->Prop),I 0 H/\(∀n,Up (I n))/\(∀e,Up (S e))/\(∀n H,I n H->N H) /\
   (∀n,n<len->∀h d H,E n h d->d.gh=[]->H.Comp d->I n H->aA.m P (iD.then (q.m P (Aj (I (n+1)) S)) WU) (σ.aR.round p h) (H.join d)) /\
   (∀H,I len H->Q .normal σ H)/\∀e H,e≠.normal->S e H->Q e σ H
  | none=>False
theorem iD.kH{next b:aM->Hp->Prop}{Q c:Ex->aM->Hp->Prop}(g:∀σ H,next σ H->b σ H)(d:∀e σ H,Q e σ H->c e σ H):∀e σ H,iD.then next Q e σ H->iD.then b c e σ H:=by
 intro e σ H h;cases e with
 | normal=>exact g _ _ h
 | exit id=>exact d _ _ _ h
 | ret=>exact d _ _ _ h
theorem iD.sC{id:Nat}{Q c:Ex->aM->Hp->Prop}(b:∀e σ H,Q e σ H->c e σ H):∀e σ H,iD.inBlock id Q e σ H->iD.inBlock id c e σ H:=by
 intro e σ H h;cases e with
 | normal=>exact b _ _ _ h
 | exit d=>
  simp only[iD.inBlock]at h ⊢;split
  ·rename_i e;rw[iF e]at h;exact b _ _ _ h
  rename_i e;rw[aT e]at h;exact b _ _ _ h
 | ret=>exact b _ _ _ h
theorem Ze.tB{P:aX}:∀{n:Ze} {Q g:Ex->aM->Hp->Prop} {σ:aM} {H:Hp},(∀e σ H,Q e σ H->g e σ H)->n.m P Q σ H->n.w P g σ H
 | .skip,Q,g,σ,H,d,h=>d _ _ _ h
 | .aI l,Q,g,σ,H,d,h=>ZR.n (d .normal) h
 | .drawn l,Q,g,σ,H,d,h=>⟨h.1,ZT.n (d .normal) h.2⟩
 | .C8 l1 l2,Q,g,σ,H,d,h=>⟨h.1,ZT.n (d .normal) h.2.1,ZT.n (d .normal) h.2.2⟩
 | .j0 ls,Q,g,σ,H,d,h=>⟨h.1,λl r=>ZT.n (d .normal) (h.2 l r)⟩
 | .seq a b,Q,g,σ,H,d,h=>by
  rcases h with h | h | ⟨ι,I,env,box,o,p⟩
  ·exact .inl (Ze.tB (n:=a) (iD.kH (λσ H h=>Ze.tB (n:=b) d h) d) h)
  ·exact .inr (.inl (F1.mono d h))
  exact .inr (.inr ⟨ι,I,λi=>V4 σ.dQ (env i) (box i),Ze.tB (n:=a) (iD.kH (λσ' H ⟨i,C,D,F,G⟩=>⟨i,C,⟨sX.le D,sY.le F,G⟩⟩) d) o,λi H V=>Ze.tB (n:=b) d (p i H V)⟩)
 | .cond c t e,Q,g,σ,H,d,h=>by
  simp only[Ze.m]at h;split at h
  ·exact⟨true,‹_›,λ_=>Ze.tB (n:=t) d h,λe=>by simp at e⟩
  ·exact⟨false,‹_›,λe=>by simp at e,λ_=>Ze.tB (n:=e) d h⟩
  exact h.elim
 | .block id b,Q,g,σ,H,d,h=>Ze.tB (n:=b) (iD.sC d) h
 | .loop b,Q,g,σ,H,d,h=>by obtain⟨ι,I,μ,env,box,i,J,r,X⟩:=h;refine⟨ι,I,μ,λi=>V4 σ.dQ (env i) (box i),i,J,⟨sX.le r.1,sY.le r.2,rfl⟩,λi H q=>?_⟩;exact Ze.tB (n:=b) (iD.kH (λσ' H ⟨j,o,p,s,u,v⟩=>⟨j,o,p,⟨sX.le s,sY.le u,v⟩⟩) d) (X i H q)
 | .exit id,Q,g,σ,H,d,h=>d _ _ _ h
 | .ret,Q,g,σ,H,d,h=>d _ _ _ h
 | .rS f ps aA y,Q,g,σ,H,d,h=>by
  obtain⟨Y,h⟩:=h;refine⟨Y,?_⟩;split at h
  ·obtain⟨N,len,E,o,p,I,S,s,u,v,K,M,O,R⟩:=h;exact⟨N,len,E,_,‹_›,o,p,I,S,s,u,v,K,λn W Z x H z A B q=>Ze.tB (n:=aA) (iD.kH (λσ H h=>Ze.tB (n:=y) (λ_ _ _ h=>h) h) (λ_ _ _ h=>h)) (M n W Z x H z A B q),
    λH q=>d _ _ _ (O H q),λe H U T=>d _ _ _ (R e H U T)⟩
  exact h.elim
def VL(P:aX)(b:List Zf)(Post:Value->Hp->Prop)(σ:aM)(H:Hp):Prop:=IP P b Post σ H
def tJ(P:aX)(b:List Zf)(Post:Value->Hp->Prop):Ex->aM->Hp->Prop
 | .exit _,_,_=>False
 | .normal,σ,H=>VL P b Post σ H
 | .ret,σ,H=>VL P b Post σ H
theorem aJ.mK{kd:CallKind}(b:kd=.normal\/kd=.deferred){n:Ze}{c:List Zf}(h:aJ P f k n c)(d:args.length=k)(g:n.m P (tJ P c Post) (Vv args) H):Y2 P kd f args.toArray H Post:=by
 refine h.HX b d ?_;unfold Br;refine Ze.tB ?_ g;intro e σ H h;cases e with
 | exit id=>exact h
 | normal=>exact h
 | ret=>exact h
def aJ.m{n:Ze}{b:List Zf}(h:aJ P f k n b)(c:args.length=k)(d:n.m P (tJ P b Post) (Vv args) H):Zc P f args.toArray H Post:=
 (h.mK (.inl rfl) c d).pD
