import Derived.Test.YtmfealhfgccmfaaGreatDoorP04
set_option linter.all false
def WQ{G:Prop}(h:G:=by
  refine⟨by simp;omega,rfl,λ_=>0,.nil,?_,?_,?_,?_,?_,.nil _ _⟩
  ·exact(Hp.hZ H).symm
  ·exact Hp.iJ H
  ·intro d cs h;simp[VO]at h
  ·intro d d' cs kY h;simp[VO]at h
  intro t v ht;simp only[VO]at ht;have pS:t<args.length:=by
   rcases qBh t args.length with h | h
   ·exact h
   simp[qAT h]at ht
  have Jh:L.lookup t=none:=by
   cases hh:L.lookup t with
   | none=>rfl
   | some d=>
    obtain⟨l1,l2,rfl,_⟩:=List.lookup_eq_some_iff.1 hh;have:=qAf.1 hl (t,d) (by simp);simp at this;omega
  unfold V5;rw[Jh];simp[Array.getElem?_append,pS];rw[qAZ pS]at ht;simpa using ht):G:=h
def WF{G:Prop}(h:G:=by
  simp only[ZZ]at h;simp only[YZ,NI.w];obtain⟨nO,h⟩:=h;refine⟨nO,?_⟩;split at h
  ·exact⟨_,‹_›,λ_=>fR.s9 (Zfz λσ H h=>ZZ.n hq h) h,λe=>absurd rfl e⟩
  ·exact⟨_,‹_›,λe=>by simp at e,λ_=>⟨.refl _ H,ZZ.n hq h⟩⟩
  ·exact⟨_,‹_›,λe=>by simp at e,λ_=>⟨.refl _ H,ZZ.n hq h⟩⟩
  exact h.elim):G:=h
namespace Go.LL
section
variable{P:fP}{nr:Bool}{L:List (Nat×Nat)}{m:Nat}{fK:Array Oper}{l:List (NI×Option Bool)}{H Ha:Hp}{a:Act}{ns:List NI}{sched:List Nat}
def YZ(P:fP):List (NI×Option Bool)->(fG->Hp->Prop)->fG->Hp->Prop
 | [],Q,σ,H=>Q σ H
 | (i,f) :: r,Q,σ,H=>P.still H.gh=false/\i.w P (λσ' b=>yH P.toPQ f H b/\YZ P r Q σ' b) σ H
instance:Inhabited NI:=⟨⟨none,none,.lS (.const (.bool false))⟩⟩
def MI(ns:List NI)(fK:Array Oper)(pre:Nat->List Nat)(W:Nat->Nat->Bool):Option (List (NI×Option Bool)):=
 let X:=λi=>ns.getD i default
 let C:=ZmU pre (λi=>(X i).op.cls == 0) (λi=>ON (X i)) W fK.size [] (List.range fK.size)
 let F:=Zl6 X W [] C
 let b:=λi=>F.lookup i
 if UH fK && XT fK.size pre [] C && Kz X b W C then some (XH X b W C)else none
def Ox(fK:Array Oper):Nat->Nat->Bool:=
 let b:=n9 fK fK.size
 λx e=>(b.getD x 0).testBit e
def ZfP(P:Program)(L:List (Nat×Nat))(m:Nat)(fK:Array Oper):Option (List (NI×Option Bool)):=
 match Ve P L m fK (List.range fK.size)with
 | none=>none
 | some ns=>MI ns fK (Y2 fK) (Ox fK)
def Zu1(x:NI):Bool:=match x.op with | .raw (.store ..) _=>true | .raw (.mapEntry ..) _=>true | _=>false
def ZfC(x:NI):Bool:=match x.op with | .ld ..=>true | .raw (.lookup ..) _=>true | _=>false
def ZsZ(ns:List NI)(fK:Array Oper):Option (Nat×Nat):=
 let X:=λi=>ns.getD i default
 let W:=Ox fK
 (List.range fK.size).findSome? λs=>if Zu1 (X s)then(List.range fK.size).findSome? λc=>if ZfC (X c) && !(W s c) && !(W c s)then some (c,s)else none else none
def ZfR(P:Program)(L:List (Nat×Nat))(m:Nat)(fK:Array Oper):Option (List (NI×Option Bool)×List (NI×Option Bool)):=
 match Ve P L m fK (List.range fK.size)with
 | none=>none
 | some ns=>match ZsZ ns fK with
  | none=>none
  | some (a,b)=>if !(Nat.beq a b) && Nat.blt a fK.size then
    match MI ns fK (VA (Y2 fK) a b) (QI (Ox fK) a b),MI ns fK (VA (Y2 fK) b a) (QI (Ox fK) b a)with
    | some c,some d=>some (c,d)
    | _,_=>none
   else none
def Zu8(x:NI):Bool:=match x.op with | .raw (.alloc _) _=>true | _=>false
def Zu5(x:NI):Bool:=match x.op with | .call ..=>true | _=>false
def Zu6(x:NI):Bool:=match x.op with | .fJ ..=>x.g.isSome | _=>false
def Zu2(x:NI):Bool:=match x.op with | .raw (.call _) _=>true | _=>false
def ZsY(ns:List NI)(fK:Array Oper):List (Nat×Nat):=
 let X:=λi=>ns.getD i default
 let W:=Ox fK
 (List.range fK.size).flatMap λa=>if Zu8 (X a) || Zu6 (X a) || ZfC (X a)then(List.range fK.size).flatMap λc=>if(if ZfC (X a)then Zu2 (X c)else Zu5 (X c)) && !(W a c) && !(W c a)then[(a,c)]else[]else[]
def MJ(ns:List NI)(fK:Array Oper):List (Nat×Nat)->(Nat->List Nat)->(Nat->Nat->Bool)->Option (List (List (NI×Option Bool)))
 | [],pre,W=>match MI ns fK pre W with
  | some l=>some [l]
  | none=>none
 | (a,b) :: c,pre,W=>if W a b || W b a then MJ ns fK c pre W else
  if !(Nat.beq a b) && Nat.blt a fK.size then
   match MJ ns fK c (VA pre a b) (QI W a b),MJ ns fK c (VA pre b a) (QI W b a)with
   | some d,some e=>some (d++e)
   | _,_=>none
  else none
def ZfQ(P:Program)(L:List (Nat×Nat))(m:Nat)(fK:Array Oper):Option (List (List (NI×Option Bool))):=
 match Ve P L m fK (List.range fK.size)with
 | none=>none
 | some ns=>MJ ns fK (ZsY ns fK) (Y2 fK) (Ox fK)
def ZgD{P:Program}{L:List (Nat×Nat)}{m:Nat}{fK:Array Oper}:∀{l:List Nat} {ns:List NI},Ve P L m fK l=some ns->ns.length=l.length/\∀(j i:Nat),l[j]? = some i->QY P L m fK i=ns[j]?
 | [],ns,h=>by simp only[Ve,IF]at h;subst h;exact⟨rfl,λj i h=>by simp at h⟩
 | k :: l,ns,h=>by
  simp only[Ve]at h;split at h
  ·rename_i x n c d;simp only[IF]at h;subst h;obtain⟨e,g⟩:=ZgD d;refine⟨by simp[e],λj i b=>?_⟩;cases j with
   | zero=>simp at b;subst b;simp[c]
   | succ j=>simp at b;simpa using g j i b
  simp at h
def ZlV{P:fP}{X:Nat->NI}{r:List (NI×Option Bool)}{Q:fG->Hp->Prop}:∀{ps:List Nat} {σ:fG} {H:Hp},(∀x∈ps,ON (X x)=true)->YZ P (ps.map (λx=>(Lc (X x),none))++r) Q σ H->(∀x∈ps,Ou P (X x) σ H)/\YZ P r Q σ H
 | [],σ,H,_,h=>⟨λx b=>by simp at b,h⟩
 | p :: ps,σ,H,g,h=>by
  obtain⟨t,e,ln,z,q,i⟩:=ZlE (g p (by simp));simp only[qBm,qBa,YZ]at h;obtain⟨d,h⟩:=h;have o:Lc (X p)=⟨none,none,.build z q⟩:=by unfold Lc;rw[i]
  rw[o]at h;obtain⟨s,c,_,h⟩:=h;obtain⟨j,n⟩:=ZlV (ps:=ps) (λx b=>g x (by simp[b])) h;refine⟨λx b=>?_,n⟩;simp only[qAi]at b;rcases b with rfl | b
  ·unfold Ou;rw[i];exact⟨d,by rw[c];rfl⟩
  exact j x b
def ZlW{P:fP}{X:Nat->NI}{c:Nat->Option Bool}{W:Nat->Nat->Bool}{Q:fG->Hp->Prop}:∀{l:List Nat} {σ:fG} {H:Hp},YZ P (XH X c W l) Q σ H->QS P X c W Q l σ H
 | [],σ,H,h=>h
 | i :: l,σ,H,h=>by
  simp only[XH]at h;simp only[QS];have b:∀{σ H},YZ P ((X i,c i) :: XH X c W l) Q σ H->(X i).w P (λσ' e=>yH P.toPQ (c i) H e/\QS P X c W Q l σ' e) σ H:=λh=>NI.k9 (λσ' e p=>⟨p.1,ZlW p.2⟩) h.2;by_cases j:(X i).op.cls=0
  ·simp only[j,beq_self_eq_true,qBb,qAt]at h;exact⟨λn=>absurd j n,b h⟩
  have o:((X i).op.cls == 0)=false:=by simpa using j
  simp only[o,oR,qAq]at h;obtain⟨r,s⟩:=ZlV (λx d=>by simp only[qAu,qAc]at d;exact d.2.1) h;exact⟨λ_ x d n t=>r x (qAu.2 ⟨d,by rw[n,t];rfl⟩),b s⟩
def ZlP{P:fP}{L:List (Nat×Nat)}{m:Nat}{fK:Array Oper}{X:Nat->NI}{o:Nat->Option Bool}{Q:fG->Hp->Prop}(p:∀i,i<fK.size->QY P L m fK i=some (X i)):∀{l:List Nat} {σ:fG} {H:Hp},(∀i∈l,i<fK.size)->Go P X o Q l σ H->Ve P L m fK l=some (l.map X)/\pU P (l.map X) Q σ H
 | [],σ,H,_,h=>⟨rfl,h⟩
 | i :: l,σ,H,n,h=>by
  have u:=p i (n i (by simp));have v:Ve P L m fK l=some (l.map X):=by
   clear h;induction l with
   | nil=>rfl
   | cons j l ih=>
    have:=ih (λk g=>n k (by simp at g ⊢;rcases g with h | h<;>simp[h]));simp only[Ve,p j (n j (by simp)),this,qBm]
  refine⟨by simp only[Ve,u,v,qBm],?_⟩;have c:∀σ' d,(yH P.toPQ (o i) H d/\Go P X o Q l σ' d)->pU P (l.map X) Q σ' d:=λσ' d z=>(ZlP p (λk g=>n k (by simp[g])) z.2).2;simp only[qBm,pU];simp only[Go,NI.w]at h;split at h
  ·rename_i q;try rw[q]
   exact fR.k9 c h
  rename_i t s q;try rw[q]
  obtain⟨b,hb,x,y⟩:=h;exact⟨b,hb,λe=>fR.k9 c (x e),λe=>c _ _ (y e)⟩
def Lo{Q:fG->Hp->Prop}{σ:fG}(z:tI L=true->nr=true)(s:Ve P L m fK (List.range fK.size)=some ns){pre:Nat->List Nat}{W:Nat->Nat->Bool}
  (A:UH fK=true->∀(x e:Nat) (done:List Nat),(∀i∈done,∀p∈pre i,p∈done)->W x e=true->(∀p∈pre x,p∈done)->e∈done)
  (u:MI ns fK pre W=some l) (h:YZ P l Q σ H) (r:iI P L m σ H a Ha) (b:UH fK=true->nU fK.size pre [] sched):uM P nr fK (Nx P L m Q) sched a Ha:=by
 unfold MI at u;obtain⟨t,rfl⟩:=YM u;simp only[qAc]at t;obtain⟨⟨c,n⟩,o⟩:=t;obtain⟨j,d⟩:=ZgD s;have B:∀i,i<fK.size->QY P L m fK i=some (ns.getD i default):=by intro i g;rw[d i i (by simp[g])];rw[qBo]at j;rw[qAp,qAZ O];rfl
 have v:=b c;have q:=Ze5 (P:=P) (pre:=pre) (A c) _ (Zly n) v (λi g=>by simp at g) o (ZlW h);obtain⟨w,y⟩:=ZlP B (λi g=>(v.fresh i g).1) q;exact Kr z w y r
def Nc(b:UH fK=true):∀(x e:Nat) (done:List Nat),(∀i∈done,∀p∈Y2 fK i,p∈done)->Ox fK x e=true->(∀p∈Y2 fK x,p∈done)->e∈done:=by
 intro x e done d c g;unfold Ox at c;have j:x<fK.size:=by
  rcases qBh x fK.size with h | h
  ·exact h
  rw[qAp,qAT (by rw[XV];exact h)]at c;simp at c
 rw[Zfs fK _ x j]at c;exact Zul b d x e c g
def Zwa{Q:fG->Hp->Prop}{σ:fG}(e:tI L=true->nr=true)(c:ZfP P L m fK=some l)(h:YZ P l Q σ H)(r:iI P L m σ H a Ha)(t:Nat) :
  uM P nr fK (Nx P L m Q) (Region.schedule true fK t) a Ha:=by
 unfold ZfP at c;split at c
 ·simp at c
 rename_i ns d;exact Lo e d (λb=>Nc b) c h r (λb=>Zfx b t)
def Zwd{q s:List (NI×Option Bool)}{Q:fG->Hp->Prop}{σ:fG}(p:tI L=true->nr=true)(c:ZfR P L m fK=some (q,s))(v:YZ P q Q σ H)(w:YZ P s Q σ H)(r:iI P L m σ H a Ha)(t:Nat) :
  uM P nr fK (Nx P L m Q) (Region.schedule true fK t) a Ha:=by
 unfold ZfR at c;split at c
 ·simp at c
 rename_i ns d;split at c
 ·simp at c
 rename_i i j z;split at c
 ·rename_i g;simp only[qAc,qBi]at g;have o:i≠j:=by rintro rfl;rw[Nat.beq_refl]at g;simp at g
  have n:i<fK.size:=by have:=g.2;exact qCp this
  split at c
  ·rename_i x y e u;simp only[IF,qAX]at c;obtain⟨rfl,rfl⟩:=c;by_cases b:UH fK=true
   ·rcases(Zfx b t).WW o n (by simp) (by simp)with h | h
    ·exact Lo p d (λb=>Ao (Nc b)) e v r (λ_=>h)
    exact Lo p d (λb=>Ao (Nc b)) u w r (λ_=>h)
   unfold MI at e;simp only[b,qCL]at e;simp at e
  simp at c
 simp at c
def Zwb(A:tI L=true->nr=true)(v:Ve P L m fK (List.range fK.size)=some ns){Q:fG->Hp->Prop}{σ:fG}(r:iI P L m σ H a Ha) :
  ∀(q:List (Nat×Nat)) (pre:Nat->List Nat) (W:Nat->Nat->Bool) (ls:List (List (NI×Option Bool))),(UH fK=true->∀(x e:Nat) (done:List Nat),(∀i∈done,∀p∈pre i,p∈done)->W x e=true->(∀p∈pre x,p∈done)->e∈done) ->
   MJ ns fK q pre W=some ls->(∀l∈ls,YZ P l Q σ H)->(UH fK=true->nU fK.size pre [] sched)->uM P nr fK (Nx P L m Q) sched a Ha:=by
 intro q
 induction q with
 | nil=>
  intro pre W ls g c h o;simp only[MJ]at c;split at c
  ·rename_i l e;simp only[IF]at c;subst c;exact Lo A v g e (h l (by simp)) r o
  simp at c
 | cons x q ih=>
  obtain⟨i,j⟩:=x;intro pre W ls g c h o;simp only[MJ]at c;split at c
  ·exact ih pre W ls g c h o
  split at c
  ·rename_i n;simp only[qAc,qBi]at n;have u:i≠j:=by rintro rfl;rw[Nat.beq_refl]at n;simp at n
   have t:i<fK.size:=by have:=n.2;exact qCp this
   split at c
   ·rename_i y B w z;simp only[IF]at c;subst c;by_cases b:UH fK=true
    ·rcases(o b).WW u t (by simp) (by simp)with s | s
     ·exact ih _ _ y (λb=>Ao (g b)) w (λl c=>h l (by simp[c])) λ_=>s
     exact ih _ _ B (λb=>Ao (g b)) z (λl c=>h l (by simp[c])) λ_=>s
    exact ih _ _ y (λb=>Ao (g b)) w (λl c=>h l (by simp[c])) λd=>absurd d b
   simp at c
  simp at c
def Zwc{ls:List (List (NI×Option Bool))}{Q:fG->Hp->Prop}{σ:fG}(e:tI L=true->nr=true)(c:ZfQ P L m fK=some ls)(h:∀l∈ls,YZ P l Q σ H)(r:iI P L m σ H a Ha)(t:Nat) :
  uM P nr fK (Nx P L m Q) (Region.schedule true fK t) a Ha:=by
 unfold ZfQ at c;split at c
 ·simp at c
 rename_i ns d;exact Zwb e d r _ _ _ ls (λb=>Nc b) c h λb=>Zfx b t
inductive Zc where
 | skip
 | fK (l:List NI)
 | drawn (l:List (NI×Option Bool))
 | FJ (l1 l2:List (NI×Option Bool))
 | jC (ls:List (List (NI×Option Bool)))
 | seq (a b:Zc)
 | cond (c:Operand) (t e:Zc)
 | block (id:Nat) (b:Zc)
 | loop (b:Zc)
 | exit (id:Nat)
 | ret
 | nZ (f:Operand) (params:List Nat) (aA bd:Zc)
def fG.round(σ:fG):List Nat->List Value->fG
 | t :: b,v :: c=>fG.round (σ.set (some t) v) b c
 | _,_=>σ
def fG.fL(σ:fG):fG:={ env:=σ.env,box:=λ_=>none,gR:=[] }
def Nl(I:Hp->Prop)(S:Ex->Hp->Prop):Ex->fG->Hp->Prop
 | .normal,_,H=>I H
 | e,_,H=>S e H
def Kp:Ex->fG->Hp->Prop:=λ_ _ _=>False
def Yg(P:Program)(L:List (Nat×Nat))(m:Nat)(d:Rd):Code->Option Zc
 | .skip=>some .skip
 | .label _=>some .skip
 | .region _ fK false=>if d.wI || MP fK then(Ve P L m fK (List.range fK.size)).map .fK else none
 | .region _ fK true=>
  match ZfR P L m fK with
  | some (i,j)=>if P.follows .mixedOrders && (d.wI || MP fK)then some (.FJ i j)else none
  | none=>
  match ZfP P L m fK with
  | some l=>if P.follows .mixedOrders && (d.wI || MP fK)then some (.drawn l)else none
  | none=>
  match ZfQ P L m fK with
  | some ls=>if P.follows .mixedOrders && (d.wI || MP fK)then some (.jC ls)else none
  | none=>none
 | .seq a b=>match Yg P L m d a,Yg P L m d b with
  | some x,some y=>some (.seq x y)
  | _,_=>none
 | .cond c t e=>match Yg P L m d t,Yg P L m d e with
  | some x,some y=>if nl L c then some (.cond c x y)else none
  | _,_=>none
 | .block id b=>(Yg P L m d b).map (.block id)
 | .scope b=>Yg P L m d b
 | .loop b=>(Yg P L m d b).map .loop
 | .exit id=>some (.exit id)
 | .ret=>some .ret
 | .rangeFunc f g aA h=>if d.wI && L.isEmpty && (g.toList.all λt=>decide (t<m))then
   match Yg P L m ⟨false,false⟩ aA,Yg P L m ⟨false,false⟩ h with
   | some x,some y=>some (.nZ f g.toList x y)
   | _,_=>none
  else none
 | _=>none
theorem Zlq(r:Nat)(b:List Deferred):VE (OK r :: b)=r :: VE b:=rfl
def iI.marked{P:PQ}{σ:fG}{K J:Hp}{r:Nat}(b:∀g,P.still g=false)(rel:iI P [] m σ H a (H.join K)) (h:∃ρ:Nat->Nat,(∀d cs,σ.box d=some cs->∃t,K (ρ d)=some (.cells cs.toArray t (0,0),true)) /\
  (∀d o cs n,σ.box d=some cs->σ.box o=some n->ρ d=ρ o->d=o)/\(∀t v,σ.env t=some v->V5 [] ρ t v (a.tmps.getD t undef))/\U6 P K a.defers) {i:Hp} (s:i.Comp K) (e:(i.join K).Comp J) (q:J r=some (.deferred (some []),true)) :
  iI P [] m σ i ⟨a.tmps,OK r :: a.defers⟩ ((i.join K).join J):=by
 obtain⟨ρ,u,w,y,p⟩:=h;have c:K.Comp J:=Hp.Comp.gS s e;refine⟨rel.size,rel.defers,ρ,K.join J,Hp.gV _ _ _,s.join_r e.gP,λd cs hd=>?_,w,y,?_,λx j=>?_,.inr b⟩
 ·obtain⟨t,A⟩:=u d cs hd;exact⟨t,Hp.eN A⟩
 ·rw[Zlq,qDz];refine⟨λz=>?_,p.1⟩;have:=c r _ _ (p.2.1 r z) q;simp at this
 rw[Zlq]at j;rcases qAi.1 j with rfl | j
 ·exact Hp.fS c q
 exact Hp.eN (p.2.1 x j)
def ZhC{P:PQ}{m:Nat}:∀{ps:List Nat} {vs:List Value} {σ:fG} {tmps:Array Value} {H:Hp},(∀t∈ps,t<m)->iI P [] m σ H ⟨tmps,[]⟩ H->iI P [] m (σ.round ps vs) H ⟨(ps.zip vs).foldl (λtmps (t,a)=>tmps.setIfInBounds t a) tmps,[]⟩ H
 | [],vs,σ,tmps,H,_,r=>by simpa[fG.round]using r
 | t :: ps,[],σ,tmps,H,_,r=>by simpa[fG.round]using r
 | t :: ps,v :: vs,σ,tmps,H,b,r=>by simp only[fG.round,List.zip_cons_cons,qBG];have:=r.set (dst:=some t) (by simp[kX,b t (by simp)]) v;exact ZhC (λx c=>b x (by simp[c])) this
abbrev Nq(P:PQ)(L:List (Nat×Nat))(m:Nat)(Q:Ex->fG->Hp->Prop)(e:Ex)(a:Act)(Ha:Hp):Prop:=∃σ H,iI P L m σ H a Ha/\Q e σ H
def J6(P:fP)(a b:Zc)(Q:Ex->fG->Hp->Prop)(σ:fG)(H:Hp):Prop:=
 ∀(L:List (Nat×Nat)) (m:Nat) (c:Rd) (code:Code) (act:Act) (Ha:Hp),(tI L=true->c.nr=true)->Yg P L m c code=some (.seq a b)->iI P L m σ H act Ha->kM P c code (Nq P L m Q) act Ha
def J6.mono{a b:Zc}{Q c:Ex->fG->Hp->Prop}{σ:fG}(o:∀e σ H,Q e σ H->c e σ H)(h:J6 P a b Q σ H):J6 P a b c σ H:=
 λL m p code act Ha g i j=>(h L m p code act Ha g i j).mono λe a H ⟨σ,d,r,n⟩=>⟨σ,d,r,o _ _ _ n⟩
def Zc.w(P:fP):Zc->(Ex->fG->Hp->Prop)->fG->Hp->Prop
 | .skip,Q,σ,H=>Q .normal σ H
 | .fK l,Q,σ,H=>pU P l (Q .normal) σ H
 | .drawn l,Q,σ,H=>P.still H.gh=false/\YZ P l (Q .normal) σ H
 | .FJ s u,Q,σ,H=>P.still H.gh=false/\YZ P s (Q .normal) σ H/\YZ P u (Q .normal) σ H
 | .jC ls,Q,σ,H=>P.still H.gh=false/\∀l∈ls,YZ P l (Q .normal) σ H
 | .seq a b,Q,σ,H=>a.w P (kZ.then (b.w P Q) Q) σ H\/J6 P a b Q σ H\/∃(ι:Type) (I:ι->Hp->Prop) (st:ι->fG),a.w P (kZ.then (λσ' o=>∃i,I i o/\(st i).Le σ') Q) σ H/\∀i H,I i H->b.w P Q (st i) H
 | .cond c t e,Q,σ,H=>∃b,σ.get c=some (.bool b)/\(b=true->t.w P Q σ H)/\(b=false->e.w P Q σ H)
 | .block id b,Q,σ,H=>b.w P (kZ.inBlock id Q) σ H
 | .loop b,Q,σ,H=>∃(ι:Type) (I:ι->Hp->Prop) (μ:ι->Nat) (st:ι->fG) (i:ι),I i H/\(st i).Le σ/\∀i H,I i H->b.w P (kZ.then (λσ' o=>∃j,μ j<μ i/\I j o/\(st j).Le σ') Q) (st i) H
 | .exit id,Q,σ,H=>Q (.exit id) σ H
 | .ret,Q,σ,H=>Q .ret σ H
 | .nZ f q aA r,Q,σ,H=>(∀g,P.still g=false)/\∃(N:Hp->Prop) (len:Nat) (E:Nat->List Value->Hp->Prop) (p:Value),σ.get f=some p/\PG P p N len E/\(∀n h d,E n h d->h.length=q.length) /\
   ∃(I:Nat->Hp->Prop) (S:Ex->Hp->Prop),I 0 H/\(∀n,Up (I n))/\(∀e,Up (S e))/\(∀n H,I n H->N H) /\
   (∀n,n<len->∀h d H,E n h d->d.gh=[]->H.Comp d->I n H->aA.w P (kZ.then (r.w P (Nl (I (n+1)) S)) Kp) (σ.fL.round q h) (H.join d)) /\
   (∀H,I len H->Q .normal σ H)/\∀e H,e≠.normal->S e H->Q e σ H
theorem Nq.then{next:fG->Hp->Prop}{Q:Ex->fG->Hp->Prop}{b:Act->Hp->Prop}(d:∀σ H a Ha,iI P L m σ H a Ha->next σ H->b a Ha){e:Ex}(h:Nq P L m (kZ.then next Q) e a Ha):Ex.then b (Nq P L m Q) e a Ha:=by
 obtain⟨σ,H,r,c⟩:=h;cases e with
 | normal=>exact d _ _ _ _ r c
 | exit id=>exact⟨σ,H,r,c⟩
 | ret=>exact⟨σ,H,r,c⟩
theorem VP{P:fP}{L:List (Nat×Nat)}{m:Nat}:∀{rd:Rd} {c:Code} {n:Zc} {Q:Ex->fG->Hp->Prop} {σ:fG} {H Ha:Hp} {a:Act},(tI L=true->rd.nr=true)->Yg P L m rd c=some n->n.w P Q σ H->iI P L m σ H a Ha->kM P rd c (Nq P L m Q) a Ha
 | rd,.skip,n,Q,σ,H,Ha,a,o,g,h,r=>by simp only[Yg,IF]at g;subst g;exact .skip ⟨_,_,r,h⟩
 | rd,.label _,n,Q,σ,H,Ha,a,o,g,h,r=>by simp only[Yg,IF]at g;subst g;exact .label ⟨_,_,r,h⟩
 | rd,.region id fK dr,n,Q,σ,H,Ha,a,o,g,h,r=>by
  cases dr with
  | true=>
   simp only[Yg]at g;split at g
   ·rename_i l1 l2 F;obtain⟨q,rfl⟩:=YM g;simp only[qAc,qBP]at q;refine .BF (r.fD h.1) q.2 λt=>?_;rw[q.1];exact Zwd o F h.2.1 h.2.2 r t
   split at g
   ·rename_i l F;obtain⟨q,rfl⟩:=YM g;simp only[qAc,qBP]at q;refine .BF (r.fD h.1) q.2 λt=>?_;rw[q.1];exact Zwa o F h.2 r t
   split at g
   ·rename_i ls F;obtain⟨q,rfl⟩:=YM g;simp only[qAc,qBP]at q;refine .BF (r.fD h.1) q.2 λt=>?_;rw[q.1];exact Zwc o F h.2 r t
   simp at g
  | false=>
   simp only[Yg]at g;split at g
   ·rename_i hd;simp only[qAD]at g;obtain⟨ns,q,rfl⟩:=g;simp only[qBP]at hd;exact .region hd (Kr o q h r)
   simp at g
 | rd,.seq x y,n,Q,σ,H,Ha,a,o,g,h,r=>by
  simp only[Yg]at g;split at g
  ·rename_i nx ny O Z;simp only[IF]at g;subst g;rcases h with h | h | ⟨ι,I,st,q,h2⟩
   ·refine .seq ((VP o O h r).mono λe a' H' u=>?_);exact Nq.then (P:=P) (λσ H a Ha v h'=>VP o Z h' v) u
   ·exact h L m rd (.seq x y) a Ha o (by simp only[Yg,O,Z]) r
   refine .seq ((VP o O q r).mono λe a' H' u=>?_);exact Nq.then (P:=P) (λσ H a Ha v ⟨i,D,F⟩=>VP o Z (h2 i H D) (v.xR F)) u
  simp at g
 | rd,.cond c x y,n,Q,σ,H,Ha,a,o,g,h,r=>by
  simp only[Yg]at g;split at g
  ·rename_i nx ny O Z;split at g
   ·rename_i z;simp only[IF]at g;subst g;obtain⟨b,hb,q,h2⟩:=h;refine .cond (t:=b) (r.get z hb) ?_;cases b with
    | true=>exact VP o O (q rfl) r
    | false=>exact VP o Z (h2 rfl) r
   simp at g
  simp at g
 | rd,.block id b,n,Q,σ,H,Ha,a,o,g,h,r=>by
  simp only[Yg,qAD]at g;obtain⟨nb,q,rfl⟩:=g;refine .block ((VP o q h r).mono ?_);rintro e a' H' ⟨σ',p,v,u⟩;cases e with
  | normal=>exact⟨_,_,v,u⟩
  | ret=>exact⟨_,_,v,u⟩
  | exit id'=>
   simp only[kZ.inBlock]at u;simp only[Ex.inBlock];split
   ·rename_i e;rw[qAa e]at u;exact⟨_,_,v,u⟩
   rename_i e;rw[iF e]at u;exact⟨_,_,v,u⟩
 | rd,.scope b,n,Q,σ,H,Ha,a,o,g,h,r=>.scope (VP o (by simpa only[Yg]using g) h r)
 | rd,.loop b,n,Q,σ,H,Ha,a,o,g,h,r=>by simp only[Yg,qAD]at g;obtain⟨nb,q,rfl⟩:=g;obtain⟨ι,I,μ,st,i0,h0,F,hr⟩:=h;refine .loop (λn a Ha=>∃i H,μ i=n/\iI P L m (st i) H a Ha/\I i H) (μ i0) ⟨i0,H,rfl,r.xR F,h0⟩ ?_;rintro n a' Ha' ⟨i,H',rfl,v,hI⟩;refine(VP o q (hr i H' hI) v).mono λe a2 H2 u=>?_;exact Nq.then (P:=P) (λσ H a Ha v ⟨j,hm,hI',Tj⟩=>⟨μ j,hm,j,H,rfl,v.xR Tj,hI'⟩) u
 | rd,.exit id,n,Q,σ,H,Ha,a,o,g,h,r=>by simp only[Yg,IF]at g;subst g;exact .exit ⟨_,_,r,h⟩
 | rd,.ret,n,Q,σ,H,Ha,a,o,g,h,r=>by simp only[Yg,IF]at g;subst g;exact .ret ⟨_,_,r,h⟩
 | rd,.goto _,_,_,_,_,_,_,_,g,_,_=>by simp[Yg]at g
 | rd,.refuse _,_,_,_,_,_,_,_,g,_,_=>by simp[Yg]at g
 | rd,.rangeFunc f ps aA bd,n,Q,σ,H,Ha,a,o,g,h,r=>by
  simp only[Yg]at g;split at g
  ·rename_i z;simp only[qAc,List.isEmpty_iff]at z;obtain⟨⟨R,rfl⟩,hps⟩:=z;obtain⟨rt,rn⟩:=rd;simp only at R;subst R;split at g
   ·rename_i x y O Z;simp only[IF]at g;subst g;obtain⟨hs,N,len,E,fv,hfv,Tp,pD,I,S,h0,M,A,hIN,G,V,Y⟩:=h;have Js:a.eval f=fv:=r.get (by cases f<;>rfl) hfv;obtain⟨ρ,K,e1,e2,e3,e4,e5,e6⟩:=r.mem;subst e1;refine kM.rangeFunc hs (by rw[Js];exact Tp) (λn vs T O=>by rw[pD n vs T O];simp) (λn C=>∃p:Hp,C=p.join K/\p.Comp K/\I n p) (λe C=>∃p:Hp,C=p.join K/\p.Comp K/\S e p)
     (λn=>Na (M n)) (λe=>Na (A e)) ?_ ⟨H,rfl,e2,h0⟩ ?_ ?_ ?_
    ·rintro n C J ⟨p,rfl,z,D⟩ hJ;exact hIN n _ (M n _ _ hJ (M n _ _ z D))
    ·rintro n hn vs T C hE SM Jv ⟨p,rfl,yS,kL⟩;have c1:p.Comp T:=Jv.gP;have c2:K.Comp T:=Hp.Comp.gS yS Jv;rw[Hp.kI c2.symm];have z:(p.join T).Comp K:=Hp.Comp.lX yS c2.symm;have D:=G n hn vs T p hE SM c1 kL;generalize p.join T=p at *;have B5:iI P [] m σ.fL p ⟨a.tmps,[]⟩ p:=⟨r.size,rfl,ρ,.nil,(Hp.hZ _).symm,Hp.iJ _,λd cs h=>by simp[fG.fL]at h,λd d' cs kY h=>by simp[fG.fL]at h,e5,.nil _ _⟩;have NZ:=ZhC (ps:=ps.toList) (vs:=vs) (λt g=>by simpa using qAf.1 hps t g) B5;have hz:(ps.zip vs.toArray).foldl (λtmps (t,a)=>tmps.setIfInBounds t a) a.tmps=(ps.toList.zip vs).foldl (λtmps (t,a)=>tmps.setIfInBounds t a) a.tmps:=by rw[<-qDk];simp
     rw[hz];refine((VP (rd:=⟨false,false⟩) (λh=>by simp[tI]at h) O D NZ).frame z).mono ?_;rintro e a1 C ⟨H2,rfl,hc2,σ2,H3,r2,u⟩;cases e with
     | ret=>exact u.elim
     | exit id=>exact u.elim
     | normal=>
      refine((VP (rd:=⟨false,false⟩) (λh=>by simp[tI]at h) Z u r2).frame hc2).mono ?_;rintro e a3 C ⟨H4,rfl,U,σ3,H5,r3,W⟩;obtain⟨ρ',K',g1,g2,_⟩:=r3.mem;subst g1;cases e with
      | normal=>exact⟨_,rfl,U,M _ _ _ g2 W⟩
      | ret=>exact⟨_,rfl,U,A _ _ _ g2 W⟩
      | exit id=>exact⟨_,rfl,U,A _ _ _ g2 W⟩
    ·rintro C v J ⟨p,rfl,z,D⟩ hJ X;exact⟨σ,p,r.marked hs ⟨ρ,e3,e4,e5,e6⟩ z hJ X,V _ D⟩
    rintro e C v J he ⟨p,rfl,z,D⟩ hJ X;exact⟨σ,p,r.marked hs ⟨ρ,e3,e4,e5,e6⟩ z hJ X,Y _ _ he D⟩
   simp at g
  simp at g
end
section
variable{P:fP}{H:Hp}{kd:CallKind}{f:FuncId}{args:List Value}{Post:Value->Hp->Prop}
def VO(args:List Value):fG:={ env:=λt=>args[t]?,box:=λ_=>none,gR:=[] }
inductive Ze where
 | aW (t:Nat)
 | kS (t d:Nat) (n:Option Nat)
 | mem (t:Nat) (n:Option Nat)
def Mx(P:Program)(L:List (Nat×Nat)):ResultVar->Option Ze
 | .tmp t=>if nl L (.tmp t)then some (.aW t)else none
 | .cell s t=>match L.lookup s,Ym P t with
  | some d,some n=>some (.kS s d n)
  | none,some n=>some (.mem s n)
  | _,_=>none
def Ze.ev(σ:fG):Ze->Option Value
 | .aW t=>σ.env t
 | .kS t d n=>match σ.env t,σ.box d with
  | some (.int .i64 (.ofNat off)),some cs=>match n with
   | none=>cs[off]?
   | some n=>if off+n<=cs.length then some (.agg ((cs.drop off).take n).toArray)else none
  | _,_=>none
 | .mem ..=>none
def Ze.Xr(σ:fG)(H:Hp)(x:Ze)(v:Value):Prop:=
 match x with
 | .mem t none=>∃a,σ.env t=some (.pointer (some a))/\aM H a [v]
 | .mem t (some n)=>∃a cs,σ.env t=some (.pointer (some a))/\v=.agg cs.toArray/\cs.length=n/\aM H a cs
 | x=>x.ev σ=some v
def lP(σ:fG)(H:Hp):List Ze->List Value->Prop
 | [],[]=>True
 | x :: r,v :: b=>x.Xr σ H v/\lP σ H r b
 | _,_=>False
def lP.gR{σ:fG}{H:Hp}{ds:List Deferred}:∀{rs:List Ze} {vs:List Value},lP { σ with gR:=ds } H rs vs↔lP σ H rs vs
 | [],[]=>qDe
 | [],_ :: _=>qDe
 | _ :: _,[]=>qDe
 | x :: r,v :: vs=>by have:=lP.gR (σ:=σ) (H:=H) (ds:=ds) (rs:=r) (vs:=vs);simp only[lP,this];refine and_congr ?_ qDe;rcases x with t | ⟨t,d,n⟩ | ⟨t,_ | n⟩<;>exact qDe
def Oe(σ:fG):List Ze->Option (List Value)
 | []=>some []
 | x :: r=>match x.ev σ,Oe σ r with
  | some v,some b=>some (v :: b)
  | _,_=>none
def Ze.cell:Ze->Bool
 | .aW _=>false
 | .kS ..=>true
 | .mem ..=>true
def Oy(P:Program)(L:List (Nat×Nat)):List ResultVar->Option (List Ze)
 | []=>some []
 | x :: r=>match Mx P L x,Oy P L r with
  | some v,some b=>some (v :: b)
  | _,_=>none
def Y3:List Value->Value
 | [v]=>v
 | b=>.tuple b.toArray
def Ur(P:fP):List Deferred->(Hp->Prop)->Hp->Prop
 | [],K,H=>K H
 | d :: c,K,H=>UQ d.target=true/\(fZ P (invoke d.target d.args) (λn _ b=>EK P (Ur P c K) n b) false H \/
   (UI P.toProgram (invoke d.target d.args)/\Zm P (invoke d.target d.args) false false H λ_ b=>Ur P c K b))
def Ur.imp{P:fP}{K j:Hp->Prop}(b:∀H,K H->j H):∀{e:List Deferred} {H:Hp},Ur P e K H->Ur P e j H
 | [],H,h=>b _ h
 | d :: e,H,h=>⟨h.1,h.2.imp (Vx (λn g H c=>by
   cases n with
   | enter f args=>exact Vd.mono c λ_ H i=>Ur.imp b i
   | value v=>exact Ur.imp b c
   | skip=>exact Ur.imp b c
   | _=>exact c.elim)) λh=>⟨h.1,h.2.mono λ_ H i=>Ur.imp b i⟩⟩
def MY(P:fP)(b:List Ze)(Post:Value->Hp->Prop)(σ:fG)(H:Hp):Prop:=Ur P σ.gR (λH=>(b.any Ze.cell=true->P.still H.gh=false)/\∃c,lP σ H b c/\Post (Y3 c) H) H
def Od(tmps:Array Value):ResultVar->Sem Value
 | .tmp t=>pure (tmps.getD t undef)
 | .cell a t=>do loadVar t (<-asAddr (tmps.getD a undef))
def ZpY{P:PQ}{L:List (Nat×Nat)}{m:Nat}{σ:fG}{Ha:Hp}{a:Act}(r:iI P L m σ H a Ha){x:ResultVar}{n:Ze}{v:Value}(y:n.cell=true->P.still H.gh=false)(e:Mx P L x=some n)(c:n.Xr σ H v)(Q:Value->Bool->Hp->Prop)(g:Bool)(E:Q v g Ha) :
  fZ P (Od a.tmps x) Q g Ha:=by
 cases x with
 | tmp t=>
  simp only[Mx]at e;obtain⟨q,rfl⟩:=YM e;have:=r.get q (x:=.tmp t) (v:=v) c;simp only[Act.eval]at this;simp only[Od,this,Zj];exact E
 | cell s t=>
  simp only[Mx]at e;split at e;rotate_left
  ·rename_i k O D;simp only[IF]at e;subst e;have T:nl L (.tmp s)=true:=by simp[nl,O]
   obtain⟨ρ,K,S,X,_⟩:=r.mem;have i:=r.fD (y rfl);cases k with
   | none=>
    obtain⟨R,q,A,o,p,J,M⟩:=c;have C:=r.get T (x:=.tmp s) q;simp only[Act.eval]at C;simp only[Od,C,asAddr,Zf,Zj,loadVar];rw[OW D];simp only[oR,qAq];exact⟨o,p,v,⟨i,by rw[S];exact Hp.eN J⟩,rfl,A,by simpa using M 0 (by simp),E⟩
   | some k=>
    obtain⟨R,F,q,rfl,U,A,o,p,J,M⟩:=c;have C:=r.get T (x:=.tmp s) q;simp only[Act.eval]at C;obtain⟨W,u,z,w⟩:=PN D;simp only[Od,C,asAddr,Zf,Zj,loadVar];rw[w];simp only[qBb,Zf,Yc u,Zj,z,loadCells];have:=PY (P:=P) (a:=R) i (by rw[S];exact Hp.eN J) A (λv g I=>Q (.agg v) g I) g F 0 #[] (λj G=>by rw[qAJ];exact M j G) (by simpa using E);rw[U]at this;exact this
  ·simp at e
  rename_i d k O D;simp only[IF]at e;subst e;simp only[Ze.Xr,Ze.ev]at c;split at c
  ·rename_i off F q A;obtain⟨b,Y,N,B⟩:=r.place O (n:=off) q A;simp only[Od,N,asAddr,Zf,Zj,loadVar];cases k with
   | none=>
    rw[OW D];simp only[oR,qAq];exact⟨_,_,v,⟨r.fD (y rfl),B⟩,rfl,rfl,by simpa[Obj.nC]using c,E⟩
   | some k=>
    simp only at c;split at c
    ·rename_i V;simp only[IF]at c;subst c;obtain⟨W,u,z,w⟩:=PN D;rw[w];simp only[qBb,Zf,Yc u,Zj,z,loadCells];have h:((F.drop off).take k).length=k:=by simp;omega
     have:=PY (P:=P) (a:=⟨b,off,none⟩) (r.fD (y rfl)) B rfl (λv g I=>Q (.agg v) g I) g ((F.drop off).take k) 0 #[] (λj G=>by simp only[Obj.nC,qAJ,qAM];rw[qBv,qBq,qAa (by rw[h]at G;exact G)]) (by simpa using E);rw[h]at this;exact this
    simp at c
  simp at c
def Lj{σ:fG}{H:Hp}:∀{d:List Ze} {b:List Value},Oe σ d=some b->lP σ H d b
 | [],b,h=>by simp only[Oe,IF]at h;subst h;trivial
 | x :: r,b,h=>by
  simp only[Oe]at h;split at h
  ·rename_i v g c e;simp only[IF]at h;subst h;refine⟨?_,Lj e⟩;cases x with
   | mem t n=>simp[Ze.ev]at c
   | _=>exact c
  simp at h
def QN(tmps:Array Value):List ResultVar->Sem (List Value)
 | []=>pure []
 | x :: r=>do let v <-Od tmps x;let b <-QN tmps r;pure (v :: b)
def ZhG{P:PQ}{L:List (Nat×Nat)}{m:Nat}{σ:fG}{H Ha:Hp}{a:Act}(r:iI P L m σ H a Ha):∀{j:List ResultVar} {ns:List Ze} {c:List Value} (Q:List Value->Bool->Hp->Prop) (g:Bool),(ns.any Ze.cell=true->P.still H.gh=false)->Oy P L j=some ns->lP σ H ns c->Q c g Ha->fZ P (QN a.tmps j) Q g Ha
 | [],ns,c,Q,g,_,b,e,i=>by
  simp only[Oy,IF]at b;subst b;cases c with
  | nil=>exact i
  | cons v c=>exact e.elim
 | x :: j,ns,c,Q,g,d,b,e,i=>by
  simp only[Oy]at b;split at b
  ·rename_i n t o p;simp only[IF]at b;subst b;cases c with
   | nil=>exact e.elim
   | cons v u=>
    obtain⟨q,s⟩:=e;simp only[QN,Zf];refine ZpY r (λh=>d (by simp[h])) o q _ g ?_;exact ZhG r _ g (λh=>d (by rw[List.any_cons,h];simp)) p s (by simpa[Zj]using i)
  simp at b
theorem ZhI(tmps:Array Value):∀b:List ResultVar,b.mapM (Od tmps)=QN tmps b
 | []=>rfl
 | x :: b=>by rw[List.mapM_cons,ZhI tmps b];rfl
def ZpX(fn:Func)(tmps:Array Value):results fn tmps=(do let b <-QN tmps fn.results.toList;pure (Y3 b)):=by
 have c:results fn tmps=fn.results.mapM (Od tmps) >>= λb=>pure (if h:b.size=1 then b[0]else .tuple b):=by unfold results;congr 1
 have d:fn.results.mapM (Od tmps)=Functor.map List.toArray (QN tmps fn.results.toList):=by
  rw[<-ZhI];conv=>lhs;rw[show fn.results=fn.results.toList.toArray by simp]
  rw[List.mapM_toArray]
 rw[c];rw[d,map_eq_pure_bind,bind_assoc];congr 1;funext b;simp only[pure_bind];congr 1;cases b with
 | nil=>rfl
 | cons v b=>cases b with
  | nil=>rfl
  | cons w b=>simp[Y3]
def EK.frame{K g:Hp->Prop}{F:Hp}(d:∀H,H.Comp F->K H->g (H.join F)):∀{n:Next} {H:Hp},EK P K n H->H.Comp F->EK P g n (H.join F):=by
 intro n H h b;cases n with
 | enter f args=>exact(Vd.frame h b).mono λ_ o ⟨j,e,c,i⟩=>by rw[e];exact d _ c i
 | value v=>exact d _ b h
 | skip=>exact d _ b h
 | _=>exact h.elim
def QF{P:fP}{fn:Func}{L:List (Nat×Nat)}{m:Nat}{F:List Ze}{tmps:Array Value}{Post:Value->Hp->Prop}(S:Oy P L fn.results.toList=some F):∀(q:List Deferred) (σ:fG) (H Ha:Hp),
  iI P L m σ H ⟨tmps,q⟩ Ha->Ur P σ.gR (λH=>(F.any Ze.cell=true->P.still H.gh=false)/\∃w,lP σ H F w/\Post (Y3 w) H) H->rI P fn tmps (λv p=>∃i J:Hp,p=i.join J/\i.Comp J/\Post v i) q Ha
 | [],σ,H,Ha,r,h=>by have E:[]=σ.gR:=r.defers;rw[<-E]at h;show fZ P (results fn tmps) _ false Ha;rw[ZpX,Zf];obtain⟨h0,w,hv,h⟩:=h;refine ZhG r _ _ h0 S hv ?_;obtain⟨ρ,K,C,y,_⟩:=r.mem;exact⟨H,K,C,y,h⟩
 | d :: q,σ,H,Ha,r,h=>by
  obtain⟨ρ,K,C,y,W,X,Y,z⟩:=r.mem;obtain⟨u,B⟩:=d;have E:OE (⟨u,B⟩ :: q)=σ.gR:=r.defers;have plain:PX ⟨u,B⟩=false->(∀x,u≠.collected x)->UQ u=true/\(fZ P (invoke u B) (λn _ p=>EK P (rI P fn tmps (λv p=>∃i J:Hp,p=i.join J/\i.Comp J/\Post v i) q) n p) false Ha \/
    (UI P.toProgram (invoke u B)/\Zm P (invoke u B) false false Ha λ_ p=>rI P fn tmps (λv p=>∃i J:Hp,p=i.join J/\i.Comp J/\Post v i) q p)):=by
   intro Z V
   simp only[OE,Z,oR,qAq]at E
   rw[<-E]at h
   obtain⟨h1,D⟩:=h
   refine⟨h1,?_⟩
   rw[C]
   suffices key:∀A:Hp,A.Comp K->Ur P (OE q) (λH=>(F.any Ze.cell=true->P.still H.gh=false)/\∃w,lP σ H F w/\Post (Y3 w) H) A->rI P fn tmps (λv p=>∃i J:Hp,p=i.join J/\i.Comp J/\Post v i) q (A.join K)by
    refine D.imp (λD=>Vx ?_ (Ni D y)) λ⟨U,D⟩=>⟨U,(D.frame y).mono ?_⟩
    ·rintro n g HF ⟨p,rfl,M,R⟩;exact EK.frame key R M
    rintro v HF ⟨p,rfl,M,R⟩;exact key _ M R
   intro A N hk
   have Q:U6 P K q:=by unfold U6 at z ⊢;rw[Zlp Z]at z;exact z
   exact QF S q { σ with gR:=OE q } A _ ⟨r.size,rfl,ρ,K,rfl,N,W,X,Y,Q⟩ (Ur.imp (λH ⟨g1,w,g2,g3⟩=>⟨g1,w,lP.gR.2 g2,g3⟩) hk)
  cases u with
  | collected b=>
   have hb:K b=some (.deferred (some []),true):=z.2.1 b (by simp[VE]);have s:∀g,P.still g=false:=z.2.2.resolve_left (by simp[VE]);refine⟨s _,by rw[C];exact Hp.fS y hb,?_⟩;have I:H b=none:=y.left_none hb;rw[C,<-Hp.lM I];refine QF S q σ H _ ⟨r.size,E,ρ,K.ins b (.deferred none),rfl,(y.symm.mT hb).symm,λd cs O=>?_,X,Y,?_⟩ h
   ·obtain⟨t,T⟩:=W d cs O;refine⟨t,?_⟩;rw[Hp.aR _ _ (by rintro e;rw[e,hb]at T;simp at T)];exact T
   have G:=z.1;simp only[VE,qDz]at G;refine⟨G.2,λx V=>?_,.inr s⟩;rw[Hp.aR _ _ (by rintro rfl;exact G.1 V)];exact z.2.1 x (by simp[VE,V])
  | nil=>exact plain rfl (by simp)
  | fn f c=>exact plain rfl (by simp)
  | builtin b at_ t c=>exact plain rfl (by simp)
  | coroexit c=>exact plain rfl (by simp)
theorem Vd.ofN{fn:Func}{body:Code}{n:Zc}{t:List Ze}(L:List (Nat×Nat))(o:kd=.normal\/kd=.deferred)(y:P.funcs[f]? = some fn)(hb:fn.body=some body)
  (g:(!(tI L) || fn.norace)=true) (A:Yg P L fn.ntmps ⟨true,fn.norace⟩ body=some n) (s:Oy P L fn.results.toList=some t) (hl:(L.all λp=>decide (args.length<=p.1))=true) (E:args.length<=fn.ntmps)
  (h:n.w P (λe σ H=>match e with | .exit _=>False | _=>MY P t Post σ H) (VO args) H):Vd P kd f args.toArray H Post:=by
 intro G c cs d B u;have i:iI P L fn.ntmps (VO args) H ⟨args.toArray++Array.replicate (fn.ntmps-args.toArray.size) undef,[]⟩ H:=by exact WQ
 have x:=Vd.of (P:=P) (kd:=kd) (f:=f) (args:=args.toArray) (H:=H) (Post:=λv j=>∃b J:Hp,j=b.join J/\b.Comp J/\Post v b) o y hb rfl ?_
 ·refine x G c cs d B ?_;rintro v j ⟨b,J,rfl,z,C⟩;exact(u v b C).up d z
 refine(VP (rd:=⟨true,fn.norace⟩) (λh=>by rw[h]at g;simpa using g) A h i).mono ?_;rintro e ⟨at_,D⟩ Ha ⟨σ,j,r,q⟩;cases e with
 | normal=>exact QF s _ _ _ _ r q
 | ret=>exact QF s _ _ _ _ r q
 | exit id=>exact q.elim
def aU(P:Program)(f:FuncId)(k:Nat)(n:Zc)(b:List Ze):Prop:=
 ∃(fn:Func) (L:List (Nat×Nat)),P.funcs[f]? = some fn/\fn.body.bind (Yg P L fn.ntmps ⟨true,fn.norace⟩)=some n/\Oy P L fn.results.toList=some b/\((L.all λp=>decide (k<=p.1)) && decide (k<=fn.ntmps) && (!(tI L) || fn.norace))=true
def Nz(n:Zc)(b:List Ze)(P:fP)(args:List Value)(Post:Value->Hp->Prop)(H:Hp):Prop:=
 n.w P (λe σ H=>match e with | .exit _=>False | _=>MY P b Post σ H) (VO args) H
def aU.L4(c:kd=.normal\/kd=.deferred){k:Nat}{n:Zc}{d:List Ze}(h:aU P f k n d)(j:args.length=k)(p:Nz n d P args Post H):Vd P kd f args.toArray H Post:=by obtain⟨fn,L,e,g,i,b⟩:=h;rw[qAc,qAc,qAK]at b;obtain⟨body,hb,o⟩:=qDr.1 g;subst j;exact Vd.ofN L c e hb b.2 o i b.1.1 b.1.2 p
end
variable{P:fP}{H:Hp}{f:FuncId}{k:Nat}{args:List Value}{Post:Value->Hp->Prop}
def oA(P:PQ)(H:Hp)(f:Option Bool)(K:fG->Hp->Prop):fG->Hp->Prop:=
 match f with
 | some true=>λσ' c=>(P.still c.gh=P.still H.gh/\∀b x,H b=some x->c b=some x)/\K σ' c
 | some false=>λσ' c=>P.still c.gh=P.still H.gh/\K σ' c
 | none=>K
def Zfz{P:PQ}{f:Option Bool}{K d:fG->Hp->Prop}(c:∀σ H,K σ H->d σ H):∀σ' b,oA P H f K σ' b->yH P f H b/\d σ' b:=by
 intro σ' b h;match f,h with
 | some true,h=>exact⟨λs e=>⟨h.1.1,λ_=>h.1.2⟩,c _ _ h.2⟩
 | some false,h=>exact⟨λs e=>by obtain rfl:=aT e;exact⟨h.1,λe=>by simp at e⟩,c _ _ h.2⟩
 | none,h=>exact⟨λs e=>by simp at e,c _ _ h⟩
def ZZ(P:fP):List (NI×Option Bool)->(fG->Hp->Prop)->fG->Hp->Prop
 | [],Q,σ,H=>Q σ H
 | (⟨none,d,op⟩,f) :: r,Q,σ,H=>P.still H.gh=false/\op.m P d (oA P.toPQ H f (ZZ P r Q)) σ H
 | (⟨some (t,true),d,op⟩,f) :: r,Q,σ,H=>P.still H.gh=false/\match σ.env t with
  | some (.bool true)=>op.m P d (oA P.toPQ H f (ZZ P r Q)) σ H
  | some (.bool false)=>ZZ P r Q (σ.jP d) H
  | some (.tuple _)=>ZZ P r Q (σ.jP d) H
  | _=>False
 | (⟨some (t,false),d,op⟩,f) :: r,Q,σ,H=>P.still H.gh=false/\match σ.env t with
  | some (.bool false)=>op.m P d (oA P.toPQ H f (ZZ P r Q)) σ H
  | some (.bool true)=>ZZ P r Q (σ.jP d) H
  | some (.tuple _)=>ZZ P r Q (σ.jP d) H
  | _=>False
def ZZ.n{P:fP}{Q b:fG->Hp->Prop}(hq:∀σ H,Q σ H->b σ H):∀{l:List (NI×Option Bool)} {σ:fG} {H:Hp},ZZ P l Q σ H->YZ P l b σ H
 | [],σ,H,h=>hq _ _ h
 | (⟨none,d,op⟩,f) :: r,σ,H,h=>⟨h.1,fR.s9 (Zfz λσ H h=>ZZ.n hq h) h.2⟩
 | (⟨some (t,true),d,op⟩,f) :: r,σ,H,h=>by exact WF
 | (⟨some (t,false),d,op⟩,f) :: r,σ,H,h=>by exact WF
def UP(gR:List Deferred)(env:List (Nat×Value))(box:List (Nat×List Value)):fG:={ env:=λt=>env.lookup t,box:=λt=>box.lookup t,gR:=gR }
def rK:List (Nat×Value)->fG->Prop
 | [],_=>True
 | (t,v) :: r,σ=>σ.env t=some v/\rK r σ
def rL:List (Nat×List Value)->fG->Prop
 | [],_=>True
 | (t,v) :: r,σ=>σ.box t=some v/\rL r σ
def rK.le:∀{env:List (Nat×Value)} {σ:fG},rK env σ->∀t v,env.lookup t=some v->σ.env t=some v
 | [],σ,_,t,v,h=>by simp at h
 | (s,u) :: r,σ,b,t,v,h=>by
  simp only[List.lookup_cons]at h;split at h
  ·rename_i e;simp only[IF]at h;subst h;have:t=s:=by simpa using e
   subst this;exact b.1
  exact rK.le b.2 t v h
def rL.le:∀{env:List (Nat×List Value)} {σ:fG},rL env σ->∀t v,env.lookup t=some v->σ.box t=some v
 | [],σ,_,t,v,h=>by simp at h
 | (s,u) :: r,σ,b,t,v,h=>by
  simp only[List.lookup_cons]at h;split at h
  ·rename_i e;simp only[IF]at h;subst h;have:t=s:=by simpa using e
   subst this;exact b.1
  exact rL.le b.2 t v h
def Zc.m(P:fP):Zc->(Ex->fG->Hp->Prop)->fG->Hp->Prop
 | .skip,Q,σ,H=>Q .normal σ H
 | .fK l,Q,σ,H=>ZW P l (Q .normal) σ H
 | .drawn l,Q,σ,H=>P.still H.gh=false/\ZZ P l (Q .normal) σ H
 | .FJ s u,Q,σ,H=>P.still H.gh=false/\ZZ P s (Q .normal) σ H/\ZZ P u (Q .normal) σ H
 | .jC ls,Q,σ,H=>P.still H.gh=false/\∀l∈ls,ZZ P l (Q .normal) σ H
 | .seq a b,Q,σ,H=>a.m P (kZ.then (b.m P Q) Q) σ H\/J6 P a b Q σ H\/∃(ι:Type) (I:ι->Hp->Prop) (env:ι->List (Nat×Value)) (box:ι->List (Nat×List Value)),
   a.m P (kZ.then (λσ' o=>∃i,I i o/\rK (env i) σ'/\rL (box i) σ'/\σ'.gR=σ.gR) Q) σ H/\∀i H,I i H->b.m P Q (UP σ.gR (env i) (box i)) H
 | .cond c t e,Q,σ,H=>match σ.get c with
  | some (.bool true)=>t.m P Q σ H
  | some (.bool false)=>e.m P Q σ H
  | _=>False
 | .block id b,Q,σ,H=>b.m P (kZ.inBlock id Q) σ H
 | .loop b,Q,σ,H=>∃(ι:Type) (I:ι->Hp->Prop) (μ:ι->Nat) (env:ι->List (Nat×Value)) (box:ι->List (Nat×List Value)) (i:ι),I i H/\(rK (env i) σ/\rL (box i) σ) /\
   ∀i H,I i H->b.m P (kZ.then (λσ' o=>∃j,μ j<μ i/\I j o/\rK (env j) σ'/\rL (box j) σ'/\σ'.gR=σ.gR) Q) (UP σ.gR (env i) (box i)) H
 | .exit id,Q,σ,H=>Q (.exit id) σ H
 | .ret,Q,σ,H=>Q .ret σ H
 | .nZ f p aA q,Q,σ,H=>(∀g,P.still g=false)/\match σ.get f with
  | some r=>∃(N:Hp->Prop) (len:Nat) (E:Nat->List Value->Hp->Prop),PG P r N len E/\(∀n h d,E n h d->h.length=p.length) /\
   ∃(I:Nat->Hp->Prop) (S:Ex->Hp->Prop),I 0 H/\(∀n,Up (I n))/\(∀e,Up (S e))/\(∀n H,I n H->N H) /\
   (∀n,n<len->∀h d H,E n h d->d.gh=[]->H.Comp d->I n H->aA.m P (kZ.then (q.m P (Nl (I (n+1)) S)) Kp) (σ.fL.round p h) (H.join d)) /\
   (∀H,I len H->Q .normal σ H)/\∀e H,e≠.normal->S e H->Q e σ H
  | none=>False
theorem kZ.mY{next b:fG->Hp->Prop}{Q c:Ex->fG->Hp->Prop}(g:∀σ H,next σ H->b σ H)(d:∀e σ H,Q e σ H->c e σ H):∀e σ H,kZ.then next Q e σ H->kZ.then b c e σ H:=by
 intro e σ H h;cases e with
 | normal=>exact g _ _ h
 | exit id=>exact d _ _ _ h
 | ret=>exact d _ _ _ h
theorem kZ.sR{id:Nat}{Q c:Ex->fG->Hp->Prop}(b:∀e σ H,Q e σ H->c e σ H):∀e σ H,kZ.inBlock id Q e σ H->kZ.inBlock id c e σ H:=by
 intro e σ H h;cases e with
 | normal=>exact b _ _ _ h
 | exit d=>
  simp only[kZ.inBlock]at h ⊢;split
  ·rename_i e;rw[qAa e]at h;exact b _ _ _ h
  rename_i e;rw[iF e]at h;exact b _ _ _ h
 | ret=>exact b _ _ _ h
theorem Zc.s9{P:fP}:∀{n:Zc} {Q g:Ex->fG->Hp->Prop} {σ:fG} {H:Hp},(∀e σ H,Q e σ H->g e σ H)->n.m P Q σ H->n.w P g σ H
 | .skip,Q,g,σ,H,d,h=>d _ _ _ h
 | .fK l,Q,g,σ,H,d,h=>ZW.n (d .normal) h
 | .drawn l,Q,g,σ,H,d,h=>⟨h.1,ZZ.n (d .normal) h.2⟩
 | .FJ Z l2,Q,g,σ,H,d,h=>⟨h.1,ZZ.n (d .normal) h.2.1,ZZ.n (d .normal) h.2.2⟩
 | .jC ls,Q,g,σ,H,d,h=>⟨h.1,λl r=>ZZ.n (d .normal) (h.2 l r)⟩
 | .seq a b,Q,g,σ,H,d,h=>by
  rcases h with h | h | ⟨ι,I,env,box,o,p⟩
  ·exact .inl (Zc.s9 (n:=a) (kZ.mY (λσ H h=>Zc.s9 (n:=b) d h) d) h)
  ·exact .inr (.inl (J6.mono d h))
  exact .inr (.inr ⟨ι,I,λi=>UP σ.gR (env i) (box i),Zc.s9 (n:=a) (kZ.mY (λσ' H ⟨i,C,D,F,G⟩=>⟨i,C,⟨rK.le D,rL.le F,G⟩⟩) d) o,λi H U=>Zc.s9 (n:=b) d (p i H U)⟩)
 | .cond c t e,Q,g,σ,H,d,h=>by
  simp only[Zc.m]at h;split at h
  ·exact⟨true,‹_›,λ_=>Zc.s9 (n:=t) d h,λe=>by simp at e⟩
  ·exact⟨false,‹_›,λe=>by simp at e,λ_=>Zc.s9 (n:=e) d h⟩
  exact h.elim
 | .block id b,Q,g,σ,H,d,h=>Zc.s9 (n:=b) (kZ.sR d) h
 | .loop b,Q,g,σ,H,d,h=>by obtain⟨ι,I,μ,env,box,i,J,r,W⟩:=h;refine⟨ι,I,μ,λi=>UP σ.gR (env i) (box i),i,J,⟨rK.le r.1,rL.le r.2,rfl⟩,λi H q=>?_⟩;exact Zc.s9 (n:=b) (kZ.mY (λσ' H ⟨j,o,p,s,u,v⟩=>⟨j,o,p,⟨rK.le s,rL.le u,v⟩⟩) d) (W i H q)
 | .exit id,Q,g,σ,H,d,h=>d _ _ _ h
 | .ret,Q,g,σ,H,d,h=>d _ _ _ h
 | .nZ f ps aA y,Q,g,σ,H,d,h=>by
  obtain⟨X,h⟩:=h;refine⟨X,?_⟩;split at h
  ·obtain⟨N,len,E,o,p,I,S,s,u,v,K,h7,M,O⟩:=h;exact⟨N,len,E,_,‹_›,o,p,I,S,s,u,v,K,λn V Y x H z A B q=>Zc.s9 (n:=aA) (kZ.mY (λσ H h=>Zc.s9 (n:=y) (λ_ _ _ h=>h) h) (λ_ _ _ h=>h)) (h7 n V Y x H z A B q),
    λH q=>d _ _ _ (M H q),λe H T R=>d _ _ _ (O e H T R)⟩
  exact h.elim
def VT(P:fP)(b:List Ze)(Post:Value->Hp->Prop)(σ:fG)(H:Hp):Prop:=MY P b Post σ H
def CJ(P:fP)(b:List Ze)(Post:Value->Hp->Prop):Ex->fG->Hp->Prop
 | .exit _,_,_=>False
 | .normal,σ,H=>VT P b Post σ H
 | .ret,σ,H=>VT P b Post σ H
theorem aU.mK{kd:CallKind}(b:kd=.normal\/kd=.deferred){n:Zc}{c:List Ze}(h:aU P f k n c)(d:args.length=k)(g:n.m P (CJ P c Post) (VO args) H):Vd P kd f args.toArray H Post:=by
 refine h.L4 b d ?_;unfold Nz;refine Zc.s9 ?_ g;intro e σ H h;cases e with
 | exit id=>exact h
 | normal=>exact h
 | ret=>exact h
def aU.m{n:Zc}{b:List Ze}(h:aU P f k n b)(c:args.length=k)(d:n.m P (CJ P b Post) (VO args) H):Zb P f args.toArray H Post:=
 (h.mK (.inl rfl) c d).qP
