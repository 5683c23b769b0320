import Derived.Test.YtlhomfgcibjccaaGreatDoorP04
set_option linter.all false
namespace Go.LL
section
variable{P:bF}{nr:Bool}{L:List (Nat×Nat)}{m:Nat}{aI:Array Oper}{l:List (NI×Option Bool)}{H Ha:Hp}{a:Act}{ns:List NI}{sched:List Nat}
def Y1(P:bF):List (NI×Option Bool)->(aN->Hp->Prop)->aN->Hp->Prop
 | [],Q,σ,H=>Q σ H
 | (i,f) :: r,Q,σ,H=>P.still H.gh=false/\i.w P (λσ' H'=>yJ P.toPQ f H H'/\Y1 P r Q σ' H') σ H
instance:Inhabited NI:=⟨⟨none,none,.fB (.const (.bool false))⟩⟩
def JX(ns:List NI)(aI:Array Oper)(pre:Nat->List Nat)(W:Nat->Nat->Bool):Option (List (NI×Option Bool)):=
 let X:=λi=>ns.getD i default
 let C:=Znb pre (λi=>(X i).op.cls == 0) (λi=>OJ (X i)) W aI.size [] (List.range aI.size)
 let F:=Zmw X W [] C
 let fl:=λi=>F.lookup i
 if Uy aI && SY aI.size pre [] C && X1 X fl W C then some (RS X fl W C)else none
def Ot(aI:Array Oper):Nat->Nat->Bool:=
 let ms:=lV aI aI.size
 λx e=>(ms.getD x 0).testBit e
def Ln(P:Program)(L:List (Nat×Nat))(m:Nat)(aI:Array Oper):Option (List (NI×Option Bool)):=
 match Y3 P L m aI (List.range aI.size)with
 | none=>none
 | some ns=>JX ns aI (YQ aI) (Ot aI)
def Zus(x:NI):Bool:=match x.op with | .raw (.store ..) _=>true | .raw (.mapEntry ..) _=>true | _=>false
def Pf(x:NI):Bool:=match x.op with | .ld ..=>true | .raw (.lookup ..) _=>true | _=>false
def ZsY(ns:List NI)(aI:Array Oper):Option (Nat×Nat):=
 let X:=λi=>ns.getD i default
 let W:=Ot aI
 (List.range aI.size).findSome? λs=>if Zus (X s)then(List.range aI.size).findSome? λc=>if Pf (X c) && !(W s c) && !(W c s)then some (c,s)else none else none
def Ll(P:Program)(L:List (Nat×Nat))(m:Nat)(aI:Array Oper):Option (List (NI×Option Bool)×List (NI×Option Bool)):=
 match Y3 P L m aI (List.range aI.size)with
 | none=>none
 | some ns=>match ZsY ns aI with
  | none=>none
  | some (a,b)=>if !(Nat.beq a b) && Nat.blt a aI.size then
    match JX ns aI (Vm (YQ aI) a b) (ME (Ot aI) a b),JX ns aI (Vm (YQ aI) b a) (ME (Ot aI) b a)with
    | some l1,some l2=>some (l1,l2)
    | _,_=>none
   else none
def Zuz(x:NI):Bool:=match x.op with | .raw (.alloc _) _=>true | _=>false
def Zuw(x:NI):Bool:=match x.op with | .call ..=>true | _=>false
def Zux(x:NI):Bool:=match x.op with | .bL ..=>x.g.isSome | _=>false
def Zut(x:NI):Bool:=match x.op with | .raw (.call _) _=>true | _=>false
def ZsX(ns:List NI)(aI:Array Oper):List (Nat×Nat):=
 let X:=λi=>ns.getD i default
 let W:=Ot aI
 (List.range aI.size).flatMap λa=>if Zuz (X a) || Zux (X a) || Pf (X a)then(List.range aI.size).flatMap λc=>if(if Pf (X a)then Zut (X c)else Zuw (X c)) && !(W a c) && !(W c a)then[(a,c)]else[]else[]
def JY(ns:List NI)(aI:Array Oper):List (Nat×Nat)->(Nat->List Nat)->(Nat->Nat->Bool)->Option (List (List (NI×Option Bool)))
 | [],pre,W=>match JX ns aI pre W with
  | some l=>some [l]
  | none=>none
 | (a,b) :: ps,pre,W=>if W a b || W b a then JY ns aI ps pre W else
  if !(Nat.beq a b) && Nat.blt a aI.size then
   match JY ns aI ps (Vm pre a b) (ME W a b),JY ns aI ps (Vm pre b a) (ME W b a)with
   | some l1,some l2=>some (l1++l2)
   | _,_=>none
  else none
def Lm(P:Program)(L:List (Nat×Nat))(m:Nat)(aI:Array Oper):Option (List (List (NI×Option Bool))):=
 match Y3 P L m aI (List.range aI.size)with
 | none=>none
 | some ns=>JY ns aI (ZsX ns aI) (YQ aI) (Ot aI)
theorem ZgT{P:Program}{L:List (Nat×Nat)}{m:Nat}{aI:Array Oper}:∀{l:List Nat} {ns:List NI},Y3 P L m aI l=some ns->ns.length=l.length/\∀(j i:Nat),l[j]? = some i->MY P L m aI i=ns[j]?
 | [],ns,h=>by simp only[Y3,iF]at h;subst h;exact⟨rfl,λj i h=>by simp at h⟩
 | k :: l,ns,h=>by
  simp only[Y3]at h;split at h
  ·rename_i x xs h1 h2;simp only[iF]at h;subst h;obtain⟨h3,h4⟩:=ZgT h2;refine⟨by simp[h3],λj i hj=>?_⟩;cases j with
   | zero=>simp at hj;subst hj;simp[h1]
   | succ j=>simp at hj;simpa using h4 j i hj
  simp at h
theorem Zml{P:bF}{X:Nat->NI}{r:List (NI×Option Bool)}{Q:aN->Hp->Prop}:∀{ps:List Nat} {σ:aN} {H:Hp},(∀x∈ps,OJ (X x)=true)->Y1 P (ps.map (λx=>(Cj (X x),none))++r) Q σ H->(∀x∈ps,On P (X x) σ H)/\Y1 P r Q σ H
 | [],σ,H,_,h=>⟨λx hx=>by simp at hx,h⟩
 | p :: ps,σ,H,hn,h=>by
  obtain⟨hg,e,ln,z,qs,ho⟩:=Zl5 (hn p (by simp));simp only[qBo,qBn,Y1]at h;obtain⟨bB,h⟩:=h;have hp:Cj (X p)=⟨none,none,.build z qs⟩:=by unfold Cj;rw[ho]
  rw[hp]at h;obtain⟨cs,tC,_,h⟩:=h;obtain⟨h1,h2⟩:=Zml (ps:=ps) (λx hx=>hn x (by simp[hx])) h;refine⟨λx hx=>?_,h2⟩;simp only[qAp]at hx;rcases hx with rfl | hx
  ·unfold On;rw[ho];exact⟨bB,by rw[tC];rfl⟩
  exact h1 x hx
theorem Zmm{P:bF}{X:Nat->NI}{fl:Nat->Option Bool}{W:Nat->Nat->Bool}{Q:aN->Hp->Prop}:∀{l:List Nat} {σ:aN} {H:Hp},Y1 P (RS X fl W l) Q σ H->MV P X fl W Q l σ H
 | [],σ,H,h=>h
 | i :: l,σ,H,h=>by
  simp only[RS]at h;simp only[MV];have vO:∀{σ H},Y1 P ((X i,fl i) :: RS X fl W l) Q σ H->(X i).w P (λσ' H'=>yJ P.toPQ (fl i) H H'/\MV P X fl W Q l σ' H') σ H:=λh=>NI.iC (λσ' H' hh=>⟨hh.1,Zmm hh.2⟩) h.2;by_cases h0:(X i).op.cls=0
  ·simp only[h0,beq_self_eq_true,qAM,qAx]at h;exact⟨λhn=>absurd h0 hn,vO h⟩
  have dG:((X i).op.cls == 0)=false:=by simpa using h0
  simp only[dG,iN,qAk]at h;obtain⟨h1,h2⟩:=Zml (λx hx=>by simp only[qAF,BY]at hx;exact hx.2.1) h;exact⟨λ_ x hx hn hw=>h1 x (qAF.2 ⟨hx,by rw[hn,hw];rfl⟩),vO h2⟩
theorem Zmg{P:bF}{L:List (Nat×Nat)}{m:Nat}{aI:Array Oper}{X:Nat->NI}{fl:Nat->Option Bool}{Q:aN->Hp->Prop}(hX:∀i,i<aI.size->MY P L m aI i=some (X i)):∀{l:List Nat} {σ:aN} {H:Hp},(∀i∈l,i<aI.size)->Go P X fl Q l σ H->Y3 P L m aI l=some (l.map X)/\nX P (l.map X) Q σ H
 | [],σ,H,_,h=>⟨rfl,h⟩
 | i :: l,σ,H,hl,h=>by
  have h1:=hX i (hl i (by simp));have h2:Y3 P L m aI l=some (l.map X):=by
   clear h;induction l with
   | nil=>rfl
   | cons j l ih=>
    have:=ih (λk hk=>hl k (by simp at hk ⊢;rcases hk with h | h<;>simp[h]));simp only[Y3,hX j (hl j (by simp)),this,qBo]
  refine⟨by simp only[Y3,h1,h2,qBo],?_⟩;have l7:∀σ' H',(yJ P.toPQ (fl i) H H'/\Go P X fl Q l σ' H')->nX P (l.map X) Q σ' H':=λσ' H' hh=>(Zmg hX (λk hk=>hl k (by simp[hk])) hh.2).2;simp only[qBo,nX];simp only[Go,NI.w]at h;split at h
  ·rename_i hg;rw[hg];exact bC.iC l7 h
  rename_i t gT hg;rw[hg];obtain⟨b,hb,h3,h4⟩:=h;exact⟨b,hb,λe=>bC.iC l7 (h3 e),λe=>l7 _ _ (h4 e)⟩
theorem XB{Q:aN->Hp->Prop}{σ:aN}(hL:sE L=true->nr=true)(C0:Y3 P L m aI (List.range aI.size)=some ns){pre:Nat->List Nat}{W:Nat->Nat->Bool}
  (hW:Uy aI=true->∀(x e:Nat) (done:List Nat),(∀i∈done,∀p∈pre i,p∈done)->W x e=true->(∀p∈pre x,p∈done)->e∈done)
  (hl:JX ns aI pre W=some l) (h:Y1 P l Q σ H) (r:eJ P L m σ H a Ha) (HN:Uy aI=true->lP aI.size pre [] sched):tV P nr aI (Nx P L m Q) sched a Ha:=by
 unfold JX at hl;obtain⟨hB,rfl⟩:=YB hl;simp only[BY]at hB;obtain⟨⟨fC,Ht⟩,Gv⟩:=hB;obtain⟨dJ,EK⟩:=ZgT C0;have hX:∀i,i<aI.size->MY P L m aI i=some (ns.getD i default):=by intro i hi;rw[EK i i (by simp[hi])];rw[qBx]at dJ;rw[qAo,qAI O];rfl
 have hs:=HN fC;have uT:=Lw (P:=P) (pre:=pre) (hW fC) _ (ZlU Ht) hs (λi hi=>by simp at hi) Gv (Zmm h);obtain⟨h1,h2⟩:=Zmg hX (λi hi=>(hs.fresh i hi).1) uT;exact XM hL h1 h2 r
theorem Ce(fC:Uy aI=true):∀(x e:Nat) (done:List Nat),(∀i∈done,∀p∈YQ aI i,p∈done)->Ot aI x e=true->(∀p∈YQ aI x,p∈done)->e∈done:=by
 intro x e done bU hw hp;unfold Ot at hw;have hx:x<aI.size:=by
  rcases qAH x aI.size with h | h
  ·exact h
  rw[qAo,qAY (by rw[S3];exact h)]at hw;simp at hw
 rw[Nb aI _ x hx]at hw;exact ZtV fC bU x e hw hp
theorem Zvs{Q:aN->Hp->Prop}{σ:aN}(hL:sE L=true->nr=true)(hl:Ln P L m aI=some l)(h:Y1 P l Q σ H)(r:eJ P L m σ H a Ha)(t:Nat) :
  tV P nr aI (Nx P L m Q) (Region.schedule true aI t) a Ha:=by
 unfold Ln at hl;split at hl
 ·simp at hl
 rename_i ns C0;exact XB hL C0 (λfC=>Ce fC) hl h r (λfC=>Mw fC t)
theorem Zvv{l1 l2:List (NI×Option Bool)}{Q:aN->Hp->Prop}{σ:aN}(hL:sE L=true->nr=true)(hl:Ll P L m aI=some (l1,l2))(h1:Y1 P l1 Q σ H)(h2:Y1 P l2 Q σ H)(r:eJ P L m σ H a Ha)(t:Nat) :
  tV P nr aI (Nx P L m Q) (Region.schedule true aI t) a Ha:=by
 unfold Ll at hl;split at hl
 ·simp at hl
 rename_i ns C0;split at hl
 ·simp at hl
 rename_i i j hp;split at hl
 ·rename_i hc;simp only[BY,qAP]at hc;have dG:i≠j:=by rintro rfl;rw[Nat.beq_refl]at hc;simp at hc
  have bV:i<aI.size:=by have:=hc.2;exact qBE this
  split at hl
  ·rename_i a1 a2 e1 e2;simp only[iF,qAG]at hl;obtain⟨rfl,rfl⟩:=hl;by_cases fC:Uy aI=true
   ·rcases(Mw fC t).EW dG bV (by simp) (by simp)with h | h
    ·exact XB hL C0 (λfC=>R6 (Ce fC)) e1 h1 r (λ_=>h)
    exact XB hL C0 (λfC=>R6 (Ce fC)) e2 h2 r (λ_=>h)
   unfold JX at e1;simp only[fC,qBX]at e1;simp at e1
  simp at hl
 simp at hl
theorem Zvt(hL:sE L=true->nr=true)(C0:Y3 P L m aI (List.range aI.size)=some ns){Q:aN->Hp->Prop}{σ:aN}(r:eJ P L m σ H a Ha) :
  ∀(ps:List (Nat×Nat)) (pre:Nat->List Nat) (W:Nat->Nat->Bool) (ls:List (List (NI×Option Bool))),(Uy aI=true->∀(x e:Nat) (done:List Nat),(∀i∈done,∀p∈pre i,p∈done)->W x e=true->(∀p∈pre x,p∈done)->e∈done) ->
   JY ns aI ps pre W=some ls->(∀l∈ls,Y1 P l Q σ H)->(Uy aI=true->lP aI.size pre [] sched)->tV P nr aI (Nx P L m Q) sched a Ha:=by
 intro ps
 induction ps with
 | nil=>
  intro pre W ls hW hl h hs;simp only[JY]at hl;split at hl
  ·rename_i l e;simp only[iF]at hl;subst hl;exact XB hL C0 hW e (h l (by simp)) r hs
  simp at hl
 | cons x ps ih=>
  obtain⟨i,j⟩:=x;intro pre W ls hW hl h hs;simp only[JY]at hl;split at hl
  ·exact ih pre W ls hW hl h hs
  split at hl
  ·rename_i hc;simp only[BY,qAP]at hc;have dG:i≠j:=by rintro rfl;rw[Nat.beq_refl]at hc;simp at hc
   have bV:i<aI.size:=by have:=hc.2;exact qBE this
   split at hl
   ·rename_i l1 l2 e1 e2;simp only[iF]at hl;subst hl;by_cases fC:Uy aI=true
    ·rcases(hs fC).EW dG bV (by simp) (by simp)with hh | hh
     ·exact ih _ _ l1 (λfC=>R6 (hW fC)) e1 (λl hl=>h l (by simp[hl])) λ_=>hh
     exact ih _ _ l2 (λfC=>R6 (hW fC)) e2 (λl hl=>h l (by simp[hl])) λ_=>hh
    exact ih _ _ l1 (λfC=>R6 (hW fC)) e1 (λl hl=>h l (by simp[hl])) λQK=>absurd QK fC
   simp at hl
  simp at hl
theorem Zvu{ls:List (List (NI×Option Bool))}{Q:aN->Hp->Prop}{σ:aN}(hL:sE L=true->nr=true)(hl:Lm P L m aI=some ls)(h:∀l∈ls,Y1 P l Q σ H)(r:eJ P L m σ H a Ha)(t:Nat) :
  tV P nr aI (Nx P L m Q) (Region.schedule true aI t) a Ha:=by
 unfold Lm at hl;split at hl
 ·simp at hl
 rename_i ns C0;exact Zvt hL C0 r _ _ _ ls (λfC=>Ce fC) hl h λfC=>Mw fC t
inductive Ze where
 | skip
 | aI (l:List NI)
 | drawn (l:List (NI×Option Bool))
 | KJ (l1 l2:List (NI×Option Bool))
 | jX (ls:List (List (NI×Option Bool)))
 | seq (a b:Ze)
 | cond (c:Operand) (t e:Ze)
 | block (id:Nat) (b:Ze)
 | loop (b:Ze)
 | exit (id:Nat)
 | ret
 | qQ (f:Operand) (params:List Nat) (aB bd:Ze)
def aN.round(σ:aN):List Nat->List Value->aN
 | t :: ts,v :: vs=>aN.round (σ.set (some t) v) ts vs
 | _,_=>σ
def aN.aP(σ:aN):aN:={ env:=σ.env,box:=λ_=>none,cX:=[] }
def Bk(I:Hp->Prop)(S:Ex->Hp->Prop):Ex->aN->Hp->Prop
 | .normal,_,H=>I H
 | e,_,H=>S e H
def XK:Ex->aN->Hp->Prop:=λ_ _ _=>False
def Z7(P:Program)(L:List (Nat×Nat))(m:Nat)(rd:Rd):Code->Option Ze
 | .skip=>some .skip
 | .label _=>some .skip
 | .region _ aI false=>if rd.wG || J9 aI then(Y3 P L m aI (List.range aI.size)).map .aI else none
 | .region _ aI true=>
  match Ll P L m aI with
  | some (l1,l2)=>if P.follows .mixedOrders && (rd.wG || J9 aI)then some (.KJ l1 l2)else none
  | none=>
  match Ln P L m aI with
  | some l=>if P.follows .mixedOrders && (rd.wG || J9 aI)then some (.drawn l)else none
  | none=>
  match Lm P L m aI with
  | some ls=>if P.follows .mixedOrders && (rd.wG || J9 aI)then some (.jX ls)else none
  | none=>none
 | .seq a b=>match Z7 P L m rd a,Z7 P L m rd b with
  | some x,some y=>some (.seq x y)
  | _,_=>none
 | .cond c t e=>match Z7 P L m rd t,Z7 P L m rd e with
  | some x,some y=>if nl L c then some (.cond c x y)else none
  | _,_=>none
 | .block id b=>(Z7 P L m rd b).map (.block id)
 | .scope b=>Z7 P L m rd b
 | .loop b=>(Z7 P L m rd b).map .loop
 | .exit id=>some (.exit id)
 | .ret=>some .ret
 | .rangeFunc f ps aB bd=>if rd.wG && L.isEmpty && (ps.toList.all λt=>decide (t<m))then
   match Z7 P L m ⟨false,false⟩ aB,Z7 P L m ⟨false,false⟩ bd with
   | some x,some y=>some (.qQ f ps.toList x y)
   | _,_=>none
  else none
 | _=>none
theorem ZlM(r:Nat)(ds:List Deferred):Vt (OG r :: ds)=r :: Vt ds:=rfl
theorem eJ.marked{P:PQ}{σ:aN}{K J:Hp}{r:Nat}(vQ:∀g,P.still g=false)(rel:eJ P [] m σ H a (H.join K)) (jN:∃ρ:Nat->Nat,(∀d cs,σ.box d=some cs->∃t,K (ρ d)=some (.cells cs.toArray t (0,0),true)) /\
  (∀d d' cs bJ,σ.box d=some cs->σ.box d'=some bJ->ρ d=ρ d'->d=d')/\(∀t v,σ.env t=some v->VV [] ρ t v (a.tmps.getD t undef))/\U0 P K a.defers) {H':Hp} (hc:H'.Comp K) (Wi:(H'.join K).Comp J) (hJ:J r=some (.deferred (some []),true)) :
  eJ P [] m σ H' ⟨a.tmps,OG r :: a.defers⟩ ((H'.join K).join J):=by
 obtain⟨ρ,e3,e4,e5,e6⟩:=jN;have Wp:K.Comp J:=Hp.Comp.cG hc Wi;refine⟨rel.size,rel.defers,ρ,K.join J,Hp.cV _ _ _,hc.mY Wi.bX,λd cs hd=>?_,e4,e5,?_,λx hx=>?_,.inr vQ⟩
 ·obtain⟨t,ht⟩:=e3 d cs hd;exact⟨t,Hp.aK ht⟩
 ·rw[ZlM,qCI];refine⟨λhm=>?_,e6.1⟩;have:=Wp r _ _ (e6.2.1 r hm) hJ;simp at this
 rw[ZlM]at hx;rcases qAp.1 hx with rfl | hx
 ·exact Hp.aS Wp hJ
 exact Hp.aK (e6.2.1 x hx)
theorem ZhI{P:PQ}{m:Nat}:∀{ps:List Nat} {vs:List Value} {σ:aN} {tmps:Array Value} {H:Hp},(∀t∈ps,t<m)->eJ P [] m σ H ⟨tmps,[]⟩ H->eJ P [] m (σ.round ps vs) H ⟨(ps.zip vs).foldl (λtmps (t,a)=>tmps.setIfInBounds t a) tmps,[]⟩ H
 | [],vs,σ,tmps,H,_,r=>by simpa[aN.round]using r
 | t :: ps,[],σ,tmps,H,_,r=>by simpa[aN.round]using r
 | t :: ps,v :: vs,σ,tmps,H,hm,r=>by simp only[aN.round,List.zip_cons_cons,qBF];have:=r.set (dst:=some t) (by simp[iP,hm t (by simp)]) v;exact ZhI (λx hx=>hm x (by simp[hx])) this
abbrev Nq(P:PQ)(L:List (Nat×Nat))(m:Nat)(Q:Ex->aN->Hp->Prop)(e:Ex)(a:Act)(Ha:Hp):Prop:=∃σ H,eJ P L m σ H a Ha/\Q e σ H
def GU(P:bF)(a b:Ze)(Q:Ex->aN->Hp->Prop)(σ:aN)(H:Hp):Prop:=
 ∀(L:List (Nat×Nat)) (m:Nat) (rd:Rd) (code:Code) (act:Act) (Ha:Hp),(sE L=true->rd.nr=true)->Z7 P L m rd code=some (.seq a b)->eJ P L m σ H act Ha->g8 P rd code (Nq P L m Q) act Ha
theorem GU.mono{a b:Ze}{Q Q':Ex->aN->Hp->Prop}{σ:aN}(hq:∀e σ H,Q e σ H->Q' e σ H)(h:GU P a b Q σ H):GU P a b Q' σ H:=
 λL m rd code act Ha h1 h2 h3=>(h L m rd code act Ha h1 h2 h3).mono λe a H ⟨σ,H0,r,hh⟩=>⟨σ,H0,r,hq _ _ _ hh⟩
def Ze.w(P:bF):Ze->(Ex->aN->Hp->Prop)->aN->Hp->Prop
 | .skip,Q,σ,H=>Q .normal σ H
 | .aI l,Q,σ,H=>nX P l (Q .normal) σ H
 | .drawn l,Q,σ,H=>P.still H.gh=false/\Y1 P l (Q .normal) σ H
 | .KJ l1 l2,Q,σ,H=>P.still H.gh=false/\Y1 P l1 (Q .normal) σ H/\Y1 P l2 (Q .normal) σ H
 | .jX ls,Q,σ,H=>P.still H.gh=false/\∀l∈ls,Y1 P l (Q .normal) σ H
 | .seq a b,Q,σ,H=>a.w P (iB.then (b.w P Q) Q) σ H\/GU P a b Q σ H\/∃(ι:Type) (I:ι->Hp->Prop) (st:ι->aN),a.w P (iB.then (λσ' H'=>∃i,I i H'/\(st i).Le σ') Q) σ H/\∀i H,I i H->b.w P Q (st i) H
 | .cond c t e,Q,σ,H=>∃b,σ.get c=some (.bool b)/\(b=true->t.w P Q σ H)/\(b=false->e.w P Q σ H)
 | .block id b,Q,σ,H=>b.w P (iB.inBlock id Q) σ H
 | .loop b,Q,σ,H=>∃(ι:Type) (I:ι->Hp->Prop) (μ:ι->Nat) (st:ι->aN) (i:ι),I i H/\(st i).Le σ/\∀i H,I i H->b.w P (iB.then (λσ' H'=>∃j,μ j<μ i/\I j H'/\(st j).Le σ') Q) (st i) H
 | .exit id,Q,σ,H=>Q (.exit id) σ H
 | .ret,Q,σ,H=>Q .ret σ H
 | .qQ f ps aB bd,Q,σ,H=>(∀g,P.still g=false)/\∃(N:Hp->Prop) (len:Nat) (E:Nat->List Value->Hp->Prop) (fv:Value),σ.get f=some fv/\K5 P fv N len E/\(∀n vs Hv,E n vs Hv->vs.length=ps.length) /\
   ∃(I:Nat->Hp->Prop) (S:Ex->Hp->Prop),I 0 H/\(∀n,Up (I n))/\(∀e,Up (S e))/\(∀n H,I n H->N H) /\
   (∀n,n<len->∀vs Hv H,E n vs Hv->Hv.gh=[]->H.Comp Hv->I n H->aB.w P (iB.then (bd.w P (Bk (I (n+1)) S)) XK) (σ.aP.round ps vs) (H.join Hv)) /\
   (∀H,I len H->Q .normal σ H)/\∀e H,e≠.normal->S e H->Q e σ H
theorem Nq.then{next:aN->Hp->Prop}{Q:Ex->aN->Hp->Prop}{nE:Act->Hp->Prop}(hn:∀σ H a Ha,eJ P L m σ H a Ha->next σ H->nE a Ha){e:Ex}(h:Nq P L m (iB.then next Q) e a Ha):Ex.then nE (Nq P L m Q) e a Ha:=by
 obtain⟨σ,H,r,hq⟩:=h;cases e with
 | normal=>exact hn _ _ _ _ r hq
 | exit id=>exact⟨σ,H,r,hq⟩
 | ret=>exact⟨σ,H,r,hq⟩
theorem VH{P:bF}{L:List (Nat×Nat)}{m:Nat}:∀{rd:Rd} {c:Code} {n:Ze} {Q:Ex->aN->Hp->Prop} {σ:aN} {H Ha:Hp} {a:Act},(sE L=true->rd.nr=true)->Z7 P L m rd c=some n->n.w P Q σ H->eJ P L m σ H a Ha->g8 P rd c (Nq P L m Q) a Ha
 | rd,.skip,n,Q,σ,H,Ha,a,hL,ht,h,r=>by simp only[Z7,iF]at ht;subst ht;exact .skip ⟨_,_,r,h⟩
 | rd,.label _,n,Q,σ,H,Ha,a,hL,ht,h,r=>by simp only[Z7,iF]at ht;subst ht;exact .label ⟨_,_,r,h⟩
 | rd,.region id aI dr,n,Q,σ,H,Ha,a,hL,ht,h,r=>by
  cases dr with
  | true=>
   simp only[Z7]at ht;split at ht
   ·rename_i l1 l2 hl;obtain⟨h1,rfl⟩:=YB ht;simp only[BY,qBq]at h1;refine .B9 (r.aL h.1) h1.2 λt=>?_;rw[h1.1];exact Zvv hL hl h.2.1 h.2.2 r t
   split at ht
   ·rename_i l hl;obtain⟨h1,rfl⟩:=YB ht;simp only[BY,qBq]at h1;refine .B9 (r.aL h.1) h1.2 λt=>?_;rw[h1.1];exact Zvs hL hl h.2 r t
   split at ht
   ·rename_i ls hl;obtain⟨h1,rfl⟩:=YB ht;simp only[BY,qBq]at h1;refine .B9 (r.aL h.1) h1.2 λt=>?_;rw[h1.1];exact Zvu hL hl h.2 r t
   simp at ht
  | false=>
   simp only[Z7]at ht;split at ht
   ·rename_i hd;simp only[qAm]at ht;obtain⟨ns,h1,rfl⟩:=ht;simp only[qBq]at hd;exact .region hd (XM hL h1 h r)
   simp at ht
 | rd,.seq x y,n,Q,σ,H,Ha,a,hL,ht,h,r=>by
  simp only[Z7]at ht;split at ht
  ·rename_i nx ny hx hy;simp only[iF]at ht;subst ht;rcases h with h | h | ⟨ι,I,st,h1,h2⟩
   ·refine .seq ((VH hL hx h r).mono λe a' H' hq=>?_);exact Nq.then (P:=P) (λσ H a Ha r' h'=>VH hL hy h' r') hq
   ·exact h L m rd (.seq x y) a Ha hL (by simp only[Z7,hx,hy]) r
   refine .seq ((VH hL hx h1 r).mono λe a' H' hq=>?_);exact Nq.then (P:=P) (λσ H a Ha r' ⟨i,hi,hl⟩=>VH hL hy (h2 i H hi) (r'.HD hl)) hq
  simp at ht
 | rd,.cond c x y,n,Q,σ,H,Ha,a,hL,ht,h,r=>by
  simp only[Z7]at ht;split at ht
  ·rename_i nx ny hx hy;split at ht
   ·rename_i hc;simp only[iF]at ht;subst ht;obtain⟨b,hb,h1,h2⟩:=h;refine .cond (t:=b) (r.get hc hb) ?_;cases b with
    | true=>exact VH hL hx (h1 rfl) r
    | false=>exact VH hL hy (h2 rfl) r
   simp at ht
  simp at ht
 | rd,.block id b,n,Q,σ,H,Ha,a,hL,ht,h,r=>by
  simp only[Z7,qAm]at ht;obtain⟨nb,h1,rfl⟩:=ht;refine .block ((VH hL h1 h r).mono ?_);rintro e a' H' ⟨σ',H1,r',hq⟩;cases e with
  | normal=>exact⟨_,_,r',hq⟩
  | ret=>exact⟨_,_,r',hq⟩
  | exit tO=>
   simp only[iB.inBlock]at hq;simp only[Ex.inBlock];split
   ·rename_i e;rw[iO e]at hq;exact⟨_,_,r',hq⟩
   rename_i e;rw[bY e]at hq;exact⟨_,_,r',hq⟩
 | rd,.scope b,n,Q,σ,H,Ha,a,hL,ht,h,r=>.scope (VH hL (by simpa only[Z7]using ht) h r)
 | rd,.loop b,n,Q,σ,H,Ha,a,hL,ht,h,r=>by simp only[Z7,qAm]at ht;obtain⟨nb,h1,rfl⟩:=ht;obtain⟨ι,I,μ,st,i0,h0,hl,hr⟩:=h;refine .loop (λn a Ha=>∃i H,μ i=n/\eJ P L m (st i) H a Ha/\I i H) (μ i0) ⟨i0,H,rfl,r.HD hl,h0⟩ ?_;rintro n a' DF ⟨i,H',rfl,r',hI⟩;refine(VH hL h1 (hr i H' hI) r').mono λe a2 H2 hq=>?_;exact Nq.then (P:=P) (λσ H a Ha r' ⟨j,hm,BW,sX⟩=>⟨μ j,hm,j,H,rfl,r'.HD sX,BW⟩) hq
 | rd,.exit id,n,Q,σ,H,Ha,a,hL,ht,h,r=>by simp only[Z7,iF]at ht;subst ht;exact .exit ⟨_,_,r,h⟩
 | rd,.ret,n,Q,σ,H,Ha,a,hL,ht,h,r=>by simp only[Z7,iF]at ht;subst ht;exact .ret ⟨_,_,r,h⟩
 | rd,.goto _,_,_,_,_,_,_,_,ht,_,_=>by simp[Z7]at ht
 | rd,.refuse _,_,_,_,_,_,_,_,ht,_,_=>by simp[Z7]at ht
 | rd,.rangeFunc f ps aB bd,n,Q,σ,H,Ha,a,hL,ht,h,r=>by
  simp only[Z7]at ht;split at ht
  ·rename_i hc;simp only[BY,List.isEmpty_iff]at hc;obtain⟨⟨NZ,rfl⟩,yX⟩:=hc;obtain⟨rt,rn⟩:=rd;simp only at NZ;subst NZ;split at ht
   ·rename_i x y hx hy;simp only[iF]at ht;subst ht;obtain⟨hs,N,len,E,fv,hfv,x8,dJ,I,S,h0,rA,AO,hIN,uO,tB,lY⟩:=h;have pN:a.eval f=fv:=r.get (by cases f<;>rfl) hfv;obtain⟨ρ,K,e1,e2,e3,e4,e5,e6⟩:=r.mem;subst e1;refine g8.rangeFunc hs (by rw[pN];exact x8) (λn vs Hv hx=>by rw[dJ n vs Hv hx];simp) (λn HF=>∃H1:Hp,HF=H1.join K/\H1.Comp K/\I n H1) (λe HF=>∃H1:Hp,HF=H1.join K/\H1.Comp K/\S e H1)
     (λn=>Cc (rA n)) (λe=>Cc (AO e)) ?_ ⟨H,rfl,e2,h0⟩ ?_ ?_ ?_
    ·rintro n HF J ⟨H1,rfl,hc,hi⟩ hJ;exact hIN n _ (rA n _ _ hJ (rA n _ _ hc hi))
    ·rintro n hn vs Hv HF hE P5 I3 ⟨H1,rfl,rV,bD⟩;have c1:H1.Comp Hv:=I3.bX;have c2:K.Comp Hv:=Hp.Comp.cG rV I3;rw[Hp.fT c2.symm];have hc:(H1.join Hv).Comp K:=Hp.Comp.gX rV c2.symm;have hi:=uO n hn vs Hv H1 hE P5 c1 bD;generalize H1.join Hv=H1 at *;have BB:eJ P [] m σ.aP H1 ⟨a.tmps,[]⟩ H1:=⟨r.size,rfl,ρ,.nil,(Hp.dT _).symm,Hp.eO _,λd cs h=>by simp[aN.aP]at h,λd d' cs bJ h=>by simp[aN.aP]at h,e5,.nil _ _⟩;have pL:=ZhI (ps:=ps.toList) (vs:=vs) (λt ht=>by simpa using qAg.1 yX t ht) BB;have hz:(ps.zip vs.toArray).foldl (λtmps (t,a)=>tmps.setIfInBounds t a) a.tmps=(ps.toList.zip vs).foldl (λtmps (t,a)=>tmps.setIfInBounds t a) a.tmps:=by rw[<-qCq];simp
     rw[hz];refine((VH (rd:=⟨false,false⟩) (λh=>by simp[sE]at h) hx hi pL).frame hc).mono ?_;rintro e a1 HF ⟨H2,rfl,rL,σ2,H3,r2,hq⟩;cases e with
     | ret=>exact hq.elim
     | exit id=>exact hq.elim
     | normal=>
      refine((VH (rd:=⟨false,false⟩) (λh=>by simp[sE]at h) hy hq r2).frame rL).mono ?_;rintro e a3 HF ⟨H4,rfl,I6,σ3,H5,r3,Gm⟩;obtain⟨ρ',K',g1,g2,_⟩:=r3.mem;subst g1;cases e with
      | normal=>exact⟨_,rfl,I6,rA _ _ _ g2 Gm⟩
      | ret=>exact⟨_,rfl,I6,AO _ _ _ g2 Gm⟩
      | exit id=>exact⟨_,rfl,I6,AO _ _ _ g2 Gm⟩
    ·rintro HF r' J ⟨H1,rfl,hc,hi⟩ hJ uP;exact⟨σ,H1,r.marked hs ⟨ρ,e3,e4,e5,e6⟩ hc hJ uP,tB _ hi⟩
    rintro e HF r' J he ⟨H1,rfl,hc,hi⟩ hJ uP;exact⟨σ,H1,r.marked hs ⟨ρ,e3,e4,e5,e6⟩ hc hJ uP,lY _ _ he hi⟩
   simp at ht
  simp at ht
end
section
variable{P:bF}{H:Hp}{kd:CallKind}{f:FuncId}{args:List Value}{Post:Value->Hp->Prop}
def Vu(args:List Value):aN:={ env:=λt=>args[t]?,box:=λ_=>none,cX:=[] }
inductive Zf where
 | aY (t:Nat)
 | oN (t d:Nat) (n:Option Nat)
 | mem (t:Nat) (n:Option Nat)
def Bz(P:Program)(L:List (Nat×Nat)):ResultVar->Option Zf
 | .tmp t=>if nl L (.tmp t)then some (.aY t)else none
 | .cell s t=>match L.lookup s,Ye P t with
  | some d,some n=>some (.oN s d n)
  | none,some n=>some (.mem s n)
  | _,_=>none
def Zf.ev(σ:aN):Zf->Option Value
 | .aY t=>σ.env t
 | .oN t d n=>match σ.env t,σ.box d with
  | some (.int .i64 (.ofNat off)),some cs=>match n with
   | none=>cs[off]?
   | some n=>if off+n<=cs.length then some (.agg ((cs.drop off).take n).toArray)else none
  | _,_=>none
 | .mem ..=>none
def Zf.Kg(σ:aN)(H:Hp)(x:Zf)(v:Value):Prop:=
 match x with
 | .mem t none=>∃a,σ.env t=some (.pointer (some a))/\aD H a [v]
 | .mem t (some n)=>∃a cs,σ.env t=some (.pointer (some a))/\v=.agg cs.toArray/\cs.length=n/\aD H a cs
 | x=>x.ev σ=some v
def iW(σ:aN)(H:Hp):List Zf->List Value->Prop
 | [],[]=>True
 | x :: r,v :: vs=>x.Kg σ H v/\iW σ H r vs
 | _,_=>False
theorem iW.cX{σ:aN}{H:Hp}{ds:List Deferred}:∀{rs:List Zf} {vs:List Value},iW { σ with cX:=ds } H rs vs↔iW σ H rs vs
 | [],[]=>qCB
 | [],_ :: _=>qCB
 | _ :: _,[]=>qCB
 | x :: r,v :: vs=>by have:=iW.cX (σ:=σ) (H:=H) (ds:=ds) (rs:=r) (vs:=vs);simp only[iW,this];refine and_congr ?_ qCB;rcases x with t | ⟨t,d,n⟩ | ⟨t,_ | n⟩<;>exact qCB
def U6(σ:aN):List Zf->Option (List Value)
 | []=>some []
 | x :: r=>match x.ev σ,U6 σ r with
  | some v,some vs=>some (v :: vs)
  | _,_=>none
def Zf.cell:Zf->Bool
 | .aY _=>false
 | .oN ..=>true
 | .mem ..=>true
def Ou(P:Program)(L:List (Nat×Nat)):List ResultVar->Option (List Zf)
 | []=>some []
 | x :: r=>match Bz P L x,Ou P L r with
  | some v,some vs=>some (v :: vs)
  | _,_=>none
def YR:List Value->Value
 | [v]=>v
 | vs=>.tuple vs.toArray
def Uj(P:bF):List Deferred->(Hp->Prop)->Hp->Prop
 | [],K,H=>K H
 | d :: ds,K,H=>UK d.target=true/\(cD P (invoke d.target d.args) (λn _ H'=>E8 P (Uj P ds K) n H') false H \/
   (Uz P.toProgram (invoke d.target d.args)/\Zm P (invoke d.target d.args) false false H λ_ H'=>Uj P ds K H'))
theorem Uj.imp{P:bF}{K K':Hp->Prop}(hk:∀H,K H->K' H):∀{ds:List Deferred} {H:Hp},Uj P ds K H->Uj P ds K' H
 | [],H,h=>hk _ h
 | d :: ds,H,h=>⟨h.1,h.2.imp (Vh (λn g H hn=>by
   cases n with
   | enter f args=>exact Y2.mono hn λ_ H hh=>Uj.imp hk hh
   | value v=>exact Uj.imp hk hn
   | skip=>exact Uj.imp hk hn
   | _=>exact hn.elim)) λh=>⟨h.1,h.2.mono λ_ H hh=>Uj.imp hk hh⟩⟩
def KF(P:bF)(rs:List Zf)(Post:Value->Hp->Prop)(σ:aN)(H:Hp):Prop:=Uj P σ.cX (λH=>(rs.any Zf.cell=true->P.still H.gh=false)/\∃vs,iW σ H rs vs/\Post (YR vs) H) H
def U5(tmps:Array Value):ResultVar->Sem Value
 | .tmp t=>pure (tmps.getD t undef)
 | .cell a t=>do loadVar t (<-asAddr (tmps.getD a undef))
theorem Zp3{P:PQ}{L:List (Nat×Nat)}{m:Nat}{σ:aN}{Ha:Hp}{a:Act}(r:eJ P L m σ H a Ha){x:ResultVar}{n:Zf}{v:Value}(bB:n.cell=true->P.still H.gh=false)(ht:Bz P L x=some n)(he:n.Kg σ H v)(Q:Value->Bool->Hp->Prop)(g:Bool)(hq:Q v g Ha) :
  cD P (U5 a.tmps x) Q g Ha:=by
 cases x with
 | tmp t=>
  simp only[Bz]at ht;obtain⟨h1,rfl⟩:=YB ht;have:=r.get h1 (x:=.tmp t) (v:=v) he;simp only[Act.eval]at this;simp only[U5,this,Zj];exact hq
 | cell s t=>
  simp only[Bz]at ht;split at ht;rotate_left
  ·rename_i k hs hk;simp only[iF]at ht;subst ht;have hn:nl L (.tmp s)=true:=by simp[nl,hs]
   obtain⟨ρ,K,e1,e2,_⟩:=r.mem;have N2:=r.aL (bB rfl);cases k with
   | none=>
    obtain⟨a0,h1,h2,o,p,h3,h4⟩:=he;have hg:=r.get hn (x:=.tmp s) h1;simp only[Act.eval]at hg;simp only[U5,hg,asAddr,Zh,Zj,loadVar];rw[OT hk];simp only[iN,qAk];exact⟨o,p,v,⟨N2,by rw[e1];exact Hp.aK h3⟩,rfl,h2,by simpa using h4 0 (by simp),hq⟩
   | some k=>
    obtain⟨a0,cs,h1,rfl,hl,h2,o,p,h3,h4⟩:=he;have hg:=r.get hn (x:=.tmp s) h1;simp only[Act.eval]at hg;obtain⟨i',gJ,fP,Gk⟩:=LD hk;simp only[U5,hg,asAddr,Zh,Zj,loadVar];rw[Gk];simp only[qAM,Zh,Z6 gJ,Zj,fP,loadCells];have:=MI (P:=P) (a:=a0) N2 (by rw[e1];exact Hp.aK h3) h2 (λv g H'=>Q (.agg v) g H') g cs 0 #[] (λj hj=>by rw[qAu];exact h4 j hj) (by simpa using hq);rw[hl]at this;exact this
  ·simp at ht
  rename_i d k hs hk;simp only[iF]at ht;subst ht;simp only[Zf.Kg,Zf.ev]at he;split at he
  ·rename_i off cs h1 h2;obtain⟨b,tb,gI,kS⟩:=r.place hs (n:=off) h1 h2;simp only[U5,gI,asAddr,Zh,Zj,loadVar];cases k with
   | none=>
    rw[OT hk];simp only[iN,qAk];exact⟨_,_,v,⟨r.aL (bB rfl),kS⟩,rfl,rfl,by simpa[Obj.mH]using he,hq⟩
   | some k=>
    simp only at he;split at he
    ·rename_i kK;simp only[iF]at he;subst he;obtain⟨i',gJ,fP,Gk⟩:=LD hk;rw[Gk];simp only[qAM,Zh,Z6 gJ,Zj,fP,loadCells];have dJ:((cs.drop off).take k).length=k:=by simp;omega
     have:=MI (P:=P) (a:=⟨b,off,none⟩) (r.aL (bB rfl)) kS rfl (λv g H'=>Q (.agg v) g H') g ((cs.drop off).take k) 0 #[] (λj hj=>by simp only[Obj.mH,qAu,qAD];rw[qBS,qBB,iO (by rw[dJ]at hj;exact hj)]) (by simpa using hq);rw[dJ]at this;exact this
    simp at he
  simp at he
theorem Bi{σ:aN}{H:Hp}:∀{rs:List Zf} {vs:List Value},U6 σ rs=some vs->iW σ H rs vs
 | [],vs,h=>by simp only[U6,iF]at h;subst h;trivial
 | x :: r,vs,h=>by
  simp only[U6]at h;split at h
  ·rename_i v Ri h1 h2;simp only[iF]at h;subst h;refine⟨?_,Bi h2⟩;cases x with
   | mem t n=>simp[Zf.ev]at h1
   | _=>exact h1
  simp at h
def LW(tmps:Array Value):List ResultVar->Sem (List Value)
 | []=>pure []
 | x :: r=>do let v <-U5 tmps x;let vs <-LW tmps r;pure (v :: vs)
theorem ZhM{P:PQ}{L:List (Nat×Nat)}{m:Nat}{σ:aN}{H Ha:Hp}{a:Act}(r:eJ P L m σ H a Ha):∀{xs:List ResultVar} {ns:List Zf} {vs:List Value} (Q:List Value->Bool->Hp->Prop) (g:Bool),(ns.any Zf.cell=true->P.still H.gh=false)->Ou P L xs=some ns->iW σ H ns vs->Q vs g Ha->cD P (LW a.tmps xs) Q g Ha
 | [],ns,vs,Q,g,_,ht,he,hq=>by
  simp only[Ou,iF]at ht;subst ht;cases vs with
  | nil=>exact hq
  | cons v vs=>exact he.elim
 | x :: xs,ns,vs,Q,g,bB,ht,he,hq=>by
  simp only[Ou]at ht;split at ht
  ·rename_i n ns' h1 h2;simp only[iF]at ht;subst ht;cases vs with
   | nil=>exact he.elim
   | cons v Ri=>
    obtain⟨h3,h4⟩:=he;simp only[LW,Zh];refine Zp3 r (λh=>bB (by simp[h])) h1 h3 _ g ?_;exact ZhM r _ g (λh=>bB (by rw[List.any_cons,h];simp)) h2 h4 (by simpa[Zj]using hq)
  simp at ht
theorem ZhN(tmps:Array Value):∀xs:List ResultVar,xs.mapM (U5 tmps)=LW tmps xs
 | []=>rfl
 | x :: xs=>by rw[List.mapM_cons,ZhN tmps xs];rfl
theorem Zp2(fn:Func)(tmps:Array Value):results fn tmps=(do let vs <-LW tmps fn.results.toList;pure (YR vs)):=by
 have h0:results fn tmps=fn.results.mapM (U5 tmps) >>= λvs=>pure (if h:vs.size=1 then vs[0]else .tuple vs):=by unfold results;congr 1
 have h1:fn.results.mapM (U5 tmps)=Functor.map List.toArray (LW tmps fn.results.toList):=by
  rw[<-ZhN];conv=>lhs;rw[show fn.results=fn.results.toList.toArray by simp]
  rw[List.mapM_toArray]
 rw[h0];rw[h1,map_eq_pure_bind,bind_assoc];congr 1;funext vs;simp only[pure_bind];congr 1;cases vs with
 | nil=>rfl
 | cons v vs=>cases vs with
  | nil=>rfl
  | cons w vs=>simp[YR]
theorem E8.frame{K K':Hp->Prop}{F:Hp}(hk:∀H,H.Comp F->K H->K' (H.join F)):∀{n:Next} {H:Hp},E8 P K n H->H.Comp F->E8 P K' n (H.join F):=by
 intro n H h hc;cases n with
 | enter f args=>exact(Y2.frame h hc).mono λ_ HF ⟨H',e,lG,h'⟩=>by rw[e];exact hk _ lG h'
 | value v=>exact hk _ hc h
 | skip=>exact hk _ hc h
 | _=>exact h.elim
theorem MB{P:bF}{fn:Func}{L:List (Nat×Nat)}{m:Nat}{rs:List Zf}{tmps:Array Value}{Post:Value->Hp->Prop}(hr:Ou P L fn.results.toList=some rs):∀(ds:List Deferred) (σ:aN) (H Ha:Hp),
  eJ P L m σ H ⟨tmps,ds⟩ Ha->Uj P σ.cX (λH=>(rs.any Zf.cell=true->P.still H.gh=false)/\∃vs,iW σ H rs vs/\Post (YR vs) H) H->pY P fn tmps (λv H'=>∃H1 J:Hp,H'=H1.join J/\H1.Comp J/\Post v H1) ds Ha
 | [],σ,H,Ha,r,h=>by have hd:[]=σ.cX:=r.defers;rw[<-hd]at h;show cD P (results fn tmps) _ false Ha;rw[Zp2,Zh];obtain⟨h0,vs,hv,h⟩:=h;refine ZhM r _ _ h0 hr hv ?_;obtain⟨ρ,K,e1,e2,_⟩:=r.mem;exact⟨H,K,e1,e2,h⟩
 | d :: ds,σ,H,Ha,r,h=>by
  obtain⟨ρ,K,e1,e2,e3,e4,e5,e6⟩:=r.mem;obtain⟨tg,da⟩:=d;have hd:OA (⟨tg,da⟩ :: ds)=σ.cX:=r.defers;have plain:MH ⟨tg,da⟩=false->(∀x,tg≠.collected x)->UK tg=true/\(cD P (invoke tg da) (λn _ H'=>E8 P (pY P fn tmps (λv H'=>∃H1 J:Hp,H'=H1.join J/\H1.Comp J/\Post v H1) ds) n H') false Ha \/
    (Uz P.toProgram (invoke tg da)/\Zm P (invoke tg da) false false Ha λ_ H'=>pY P fn tmps (λv H'=>∃H1 J:Hp,H'=H1.join J/\H1.Comp J/\Post v H1) ds H')):=by
   intro hm hx
   simp only[OA,hm,iN,qAk]at hd
   rw[<-hd]at h
   obtain⟨h1,h2⟩:=h
   refine⟨h1,?_⟩
   rw[e1]
   suffices key:∀H2:Hp,H2.Comp K->Uj P (OA ds) (λH=>(rs.any Zf.cell=true->P.still H.gh=false)/\∃vs,iW σ H rs vs/\Post (YR vs) H) H2->pY P fn tmps (λv H'=>∃H1 J:Hp,H'=H1.join J/\H1.Comp J/\Post v H1) ds (H2.join K)by
    refine h2.imp (λh2=>Vh ?_ (Be h2 e2)) λ⟨AM,h2⟩=>⟨AM,(h2.frame e2).mono ?_⟩
    ·rintro n g HF ⟨H',rfl,hc,hn⟩;exact E8.frame key hn hc
    rintro v HF ⟨H',rfl,hc,hn⟩;exact key _ hc hn
   intro H2 rL hk
   have PU:U0 P K ds:=by unfold U0 at e6 ⊢;rw[ZlL hm]at e6;exact e6
   exact MB hr ds { σ with cX:=OA ds } H2 _ ⟨r.size,rfl,ρ,K,rfl,rL,e3,e4,e5,PU⟩ (Uj.imp (λH ⟨g1,vs,g2,g3⟩=>⟨g1,vs,iW.cX.2 g2,g3⟩) hk)
  cases tg with
  | collected b=>
   have hb:K b=some (.deferred (some []),true):=e6.2.1 b (by simp[Vt]);have vQ:∀g,P.still g=false:=e6.2.2.resolve_left (by simp[Vt]);refine⟨vQ _,by rw[e1];exact Hp.aS e2 hb,?_⟩;have hHb:H b=none:=e2.mX hb;rw[e1,<-Hp.iU hHb];refine MB hr ds σ H _ ⟨r.size,hd,ρ,K.ins b (.deferred none),rfl,(e2.symm.jZ hb).symm,λd cs hdd=>?_,e4,e5,?_⟩ h
   ·obtain⟨t,ht⟩:=e3 d cs hdd;refine⟨t,?_⟩;rw[Hp.aE _ _ (by rintro e;rw[e,hb]at ht;simp at ht)];exact ht
   have h6:=e6.1;simp only[Vt,qCI]at h6;refine⟨h6.2,λx hx=>?_,.inr vQ⟩;rw[Hp.aE _ _ (by rintro rfl;exact h6.1 hx)];exact e6.2.1 x (by simp[Vt,hx])
  | nil=>exact plain rfl (by simp)
  | fn f c=>exact plain rfl (by simp)
  | builtin b at_ t c=>exact plain rfl (by simp)
  | coroexit c=>exact plain rfl (by simp)
theorem Y2.ofN{fn:Func}{body:Code}{n:Ze}{rs:List Zf}(L:List (Nat×Nat))(kL:kd=.normal\/kd=.deferred)(hf:P.funcs[f]? = some fn)(hb:fn.body=some body)
  (xW:(!(sE L) || fn.norace)=true) (hn:Z7 P L fn.ntmps ⟨true,fn.norace⟩ body=some n) (hr:Ou P L fn.results.toList=some rs) (hl:(L.all λp=>decide (args.length<=p.1))=true) (hm:args.length<=fn.ntmps)
  (h:n.w P (λe σ H=>match e with | .exit _=>False | _=>KF P rs Post σ H) (Vu args) H):Y2 P kd f args.toArray H Post:=by
 intro G c cs bU ho hG;have AZ:eJ P L fn.ntmps (Vu args) H ⟨args.toArray++Array.replicate (fn.ntmps-args.toArray.size) undef,[]⟩ H:=by
  refine⟨by simp;omega,rfl,λ_=>0,.nil,?_,?_,?_,?_,?_,.nil _ _⟩
  ·exact(Hp.dT H).symm
  ·exact Hp.eO H
  ·intro d cs h;simp[Vu]at h
  ·intro d d' cs bJ h;simp[Vu]at h
  intro t v ht;simp only[Vu]at ht;have bV:t<args.length:=by
   rcases qAH t args.length with h | h
   ·exact h
   simp[qAY h]at ht
  have iV:L.lookup t=none:=by
   cases hh:L.lookup t with
   | none=>rfl
   | some d=>
    obtain⟨l1,l2,rfl,_⟩:=qCA.1 hh;have:=qAg.1 hl (t,d) (by simp);simp at this;omega
  unfold VV;rw[iV];simp[Array.getElem?_append,bV];rw[qAI bV]at ht;simpa using ht
 have hc:=Y2.of (P:=P) (kd:=kd) (f:=f) (args:=args.toArray) (H:=H) (Post:=λv H'=>∃H1 J:Hp,H'=H1.join J/\H1.Comp J/\Post v H1) kL hf hb rfl ?_
 ·refine hc G c cs bU ho ?_;rintro v H' ⟨H1,J,rfl,hj,hp⟩;exact(hG v H1 hp).up bU hj
 refine(VH (rd:=⟨true,fn.norace⟩) (λh=>by rw[h]at xW;simpa using xW) hn h AZ).mono ?_;rintro e ⟨at_,ad⟩ Ha ⟨σ,H',r,hq⟩;cases e with
 | normal=>exact MB hr _ _ _ _ r hq
 | ret=>exact MB hr _ _ _ _ r hq
 | exit id=>exact hq.elim
def aO(P:Program)(f:FuncId)(k:Nat)(n:Ze)(rs:List Zf):Prop:=
 ∃(fn:Func) (L:List (Nat×Nat)),P.funcs[f]? = some fn/\fn.body.bind (Z7 P L fn.ntmps ⟨true,fn.norace⟩)=some n/\Ou P L fn.results.toList=some rs/\((L.all λp=>decide (k<=p.1)) && decide (k<=fn.ntmps) && (!(sE L) || fn.norace))=true
def Dg(n:Ze)(rs:List Zf)(P:bF)(args:List Value)(Post:Value->Hp->Prop)(H:Hp):Prop:=
 n.w P (λe σ H=>match e with | .exit _=>False | _=>KF P rs Post σ H) (Vu args) H
theorem aO.JN(kL:kd=.normal\/kd=.deferred){k:Nat}{n:Ze}{rs:List Zf}(h:aO P f k n rs)(hk:args.length=k)(hw:Dg n rs P args Post H):Y2 P kd f args.toArray H Post:=by obtain⟨fn,L,h1,h2,h3,h4⟩:=h;rw[BY,BY,qAK]at h4;obtain⟨body,hb,hn⟩:=qCx.1 h2;subst hk;exact Y2.ofN L kL h1 hb h4.2 hn h3 h4.1.1 h4.1.2 hw
end
variable{P:bF}{H:Hp}{f:FuncId}{k:Nat}{args:List Value}{Post:Value->Hp->Prop}
theorem Zh6{G:Prop} (h:G:=by
  simp only[ZV]at h;simp only[Y1,NI.w];obtain⟨bB,h⟩:=h;refine⟨bB,?_⟩;split at h
  ·exact⟨_,‹_›,λ_=>bC.rR (Zl4 λσ H h=>ZV.n hq h) h,λe=>absurd rfl e⟩
  ·exact⟨_,‹_›,λe=>by simp at e,λ_=>⟨.refl _ H,ZV.n hq h⟩⟩
  ·exact⟨_,‹_›,λe=>by simp at e,λ_=>⟨.refl _ H,ZV.n hq h⟩⟩
  exact h.elim):G:=h
def lW(P:PQ)(H:Hp)(f:Option Bool)(K:aN->Hp->Prop):aN->Hp->Prop:=
 match f with
 | some true=>λσ' H'=>(P.still H'.gh=P.still H.gh/\∀b x,H b=some x->H' b=some x)/\K σ' H'
 | some false=>λσ' H'=>P.still H'.gh=P.still H.gh/\K σ' H'
 | none=>K
theorem Zl4{P:PQ}{f:Option Bool}{K K':aN->Hp->Prop}(hk:∀σ H,K σ H->K' σ H):∀σ' H',lW P H f K σ' H'->yJ P f H H'/\K' σ' H':=by
 intro σ' H' h;match f,h with
 | some true,h=>exact⟨λs e=>⟨h.1.1,λ_=>h.1.2⟩,hk _ _ h.2⟩
 | some false,h=>exact⟨λs e=>by obtain rfl:=dO e;exact⟨h.1,λe=>by simp at e⟩,hk _ _ h.2⟩
 | none,h=>exact⟨λs e=>by simp at e,hk _ _ h⟩
def ZV(P:bF):List (NI×Option Bool)->(aN->Hp->Prop)->aN->Hp->Prop
 | [],Q,σ,H=>Q σ H
 | (⟨none,d,op⟩,f) :: r,Q,σ,H=>P.still H.gh=false/\op.m P d (lW P.toPQ H f (ZV P r Q)) σ H
 | (⟨some (t,true),d,op⟩,f) :: r,Q,σ,H=>P.still H.gh=false/\match σ.env t with
  | some (.bool true)=>op.m P d (lW P.toPQ H f (ZV P r Q)) σ H
  | some (.bool false)=>ZV P r Q (σ.gA d) H
  | some (.tuple _)=>ZV P r Q (σ.gA d) H
  | _=>False
 | (⟨some (t,false),d,op⟩,f) :: r,Q,σ,H=>P.still H.gh=false/\match σ.env t with
  | some (.bool false)=>op.m P d (lW P.toPQ H f (ZV P r Q)) σ H
  | some (.bool true)=>ZV P r Q (σ.gA d) H
  | some (.tuple _)=>ZV P r Q (σ.gA d) H
  | _=>False
theorem ZV.n{P:bF}{Q Q':aN->Hp->Prop}(hq:∀σ H,Q σ H->Q' σ H):∀{l:List (NI×Option Bool)} {σ:aN} {H:Hp},ZV P l Q σ H->Y1 P l Q' σ H
 | [],σ,H,h=>hq _ _ h
 | (⟨none,d,op⟩,f) :: r,σ,H,h=>⟨h.1,bC.rR (Zl4 λσ H h=>ZV.n hq h) h.2⟩
 | (⟨some (t,true),d,op⟩,f) :: r,σ,H,h=>by exact Zh6
 | (⟨some (t,false),d,op⟩,f) :: r,σ,H,h=>by exact Zh6
def V4(cX:List Deferred)(env:List (Nat×Value))(box:List (Nat×List Value)):aN:={ env:=λt=>env.lookup t,box:=λt=>box.lookup t,cX:=cX }
def tI:List (Nat×Value)->aN->Prop
 | [],_=>True
 | (t,v) :: r,σ=>σ.env t=some v/\tI r σ
def tJ:List (Nat×List Value)->aN->Prop
 | [],_=>True
 | (t,v) :: r,σ=>σ.box t=some v/\tJ r σ
theorem tI.le:∀{env:List (Nat×Value)} {σ:aN},tI env σ->∀t v,env.lookup t=some v->σ.env t=some v
 | [],σ,_,t,v,h=>by simp at h
 | (s,u) :: r,σ,hl,t,v,h=>by
  simp only[List.lookup_cons]at h;split at h
  ·rename_i e;simp only[iF]at h;subst h;have:t=s:=by simpa using e
   subst this;exact hl.1
  exact tI.le hl.2 t v h
theorem tJ.le:∀{env:List (Nat×List Value)} {σ:aN},tJ env σ->∀t v,env.lookup t=some v->σ.box t=some v
 | [],σ,_,t,v,h=>by simp at h
 | (s,u) :: r,σ,hl,t,v,h=>by
  simp only[List.lookup_cons]at h;split at h
  ·rename_i e;simp only[iF]at h;subst h;have:t=s:=by simpa using e
   subst this;exact hl.1
  exact tJ.le hl.2 t v h
def Ze.m(P:bF):Ze->(Ex->aN->Hp->Prop)->aN->Hp->Prop
 | .skip,Q,σ,H=>Q .normal σ H
 | .aI l,Q,σ,H=>ZT P l (Q .normal) σ H
 | .drawn l,Q,σ,H=>P.still H.gh=false/\ZV P l (Q .normal) σ H
 | .KJ l1 l2,Q,σ,H=>P.still H.gh=false/\ZV P l1 (Q .normal) σ H/\ZV P l2 (Q .normal) σ H
 | .jX ls,Q,σ,H=>P.still H.gh=false/\∀l∈ls,ZV P l (Q .normal) σ H
 | .seq a b,Q,σ,H=>a.m P (iB.then (b.m P Q) Q) σ H\/GU P a b Q σ H\/∃(ι:Type) (I:ι->Hp->Prop) (env:ι->List (Nat×Value)) (box:ι->List (Nat×List Value)),
   a.m P (iB.then (λσ' H'=>∃i,I i H'/\tI (env i) σ'/\tJ (box i) σ'/\σ'.cX=σ.cX) Q) σ H/\∀i H,I i H->b.m P Q (V4 σ.cX (env i) (box i)) H
 | .cond c t e,Q,σ,H=>match σ.get c with
  | some (.bool true)=>t.m P Q σ H
  | some (.bool false)=>e.m P Q σ H
  | _=>False
 | .block id b,Q,σ,H=>b.m P (iB.inBlock id Q) σ H
 | .loop b,Q,σ,H=>∃(ι:Type) (I:ι->Hp->Prop) (μ:ι->Nat) (env:ι->List (Nat×Value)) (box:ι->List (Nat×List Value)) (i:ι),I i H/\(tI (env i) σ/\tJ (box i) σ) /\
   ∀i H,I i H->b.m P (iB.then (λσ' H'=>∃j,μ j<μ i/\I j H'/\tI (env j) σ'/\tJ (box j) σ'/\σ'.cX=σ.cX) Q) (V4 σ.cX (env i) (box i)) H
 | .exit id,Q,σ,H=>Q (.exit id) σ H
 | .ret,Q,σ,H=>Q .ret σ H
 | .qQ f ps aB bd,Q,σ,H=>(∀g,P.still g=false)/\match σ.get f with
  | some fv=>∃(N:Hp->Prop) (len:Nat) (E:Nat->List Value->Hp->Prop),K5 P fv N len E/\(∀n vs Hv,E n vs Hv->vs.length=ps.length) /\
   ∃(I:Nat->Hp->Prop) (S:Ex->Hp->Prop),I 0 H/\(∀n,Up (I n))/\(∀e,Up (S e))/\(∀n H,I n H->N H) /\
   (∀n,n<len->∀vs Hv H,E n vs Hv->Hv.gh=[]->H.Comp Hv->I n H->aB.m P (iB.then (bd.m P (Bk (I (n+1)) S)) XK) (σ.aP.round ps vs) (H.join Hv)) /\
   (∀H,I len H->Q .normal σ H)/\∀e H,e≠.normal->S e H->Q e σ H
  | none=>False
theorem iB.kI{next nE:aN->Hp->Prop}{Q Q':Ex->aN->Hp->Prop}(h1:∀σ H,next σ H->nE σ H)(h2:∀e σ H,Q e σ H->Q' e σ H):∀e σ H,iB.then next Q e σ H->iB.then nE Q' e σ H:=by
 intro e σ H h;cases e with
 | normal=>exact h1 _ _ h
 | exit id=>exact h2 _ _ _ h
 | ret=>exact h2 _ _ _ h
theorem iB.q8{id:Nat}{Q Q':Ex->aN->Hp->Prop}(h2:∀e σ H,Q e σ H->Q' e σ H):∀e σ H,iB.inBlock id Q e σ H->iB.inBlock id Q' e σ H:=by
 intro e σ H h;cases e with
 | normal=>exact h2 _ _ _ h
 | exit tO=>
  simp only[iB.inBlock]at h ⊢;split
  ·rename_i e;rw[iO e]at h;exact h2 _ _ _ h
  rename_i e;rw[bY e]at h;exact h2 _ _ _ h
 | ret=>exact h2 _ _ _ h
theorem Ze.rR{P:bF}:∀{n:Ze} {Q Q':Ex->aN->Hp->Prop} {σ:aN} {H:Hp},(∀e σ H,Q e σ H->Q' e σ H)->n.m P Q σ H->n.w P Q' σ H
 | .skip,Q,Q',σ,H,hq,h=>hq _ _ _ h
 | .aI l,Q,Q',σ,H,hq,h=>ZT.n (hq .normal) h
 | .drawn l,Q,Q',σ,H,hq,h=>⟨h.1,ZV.n (hq .normal) h.2⟩
 | .KJ l1 l2,Q,Q',σ,H,hq,h=>⟨h.1,ZV.n (hq .normal) h.2.1,ZV.n (hq .normal) h.2.2⟩
 | .jX ls,Q,Q',σ,H,hq,h=>⟨h.1,λl hl=>ZV.n (hq .normal) (h.2 l hl)⟩
 | .seq a b,Q,Q',σ,H,hq,h=>by
  rcases h with h | h | ⟨ι,I,env,box,h1,h2⟩
  ·exact .inl (Ze.rR (n:=a) (iB.kI (λσ H h=>Ze.rR (n:=b) hq h) hq) h)
  ·exact .inr (.inl (GU.mono hq h))
  exact .inr (.inr ⟨ι,I,λi=>V4 σ.cX (env i) (box i),Ze.rR (n:=a) (iB.kI (λσ' H ⟨i,g1,g2,g3,g4⟩=>⟨i,g1,⟨tI.le g2,tJ.le g3,g4⟩⟩) hq) h1,λi H hi=>Ze.rR (n:=b) hq (h2 i H hi)⟩)
 | .cond c t e,Q,Q',σ,H,hq,h=>by
  simp only[Ze.m]at h;split at h
  ·exact⟨true,‹_›,λ_=>Ze.rR (n:=t) hq h,λe=>by simp at e⟩
  ·exact⟨false,‹_›,λe=>by simp at e,λ_=>Ze.rR (n:=e) hq h⟩
  exact h.elim
 | .block id b,Q,Q',σ,H,hq,h=>Ze.rR (n:=b) (iB.q8 hq) h
 | .loop b,Q,Q',σ,H,hq,h=>by obtain⟨ι,I,μ,env,box,i,h0,hl,hr⟩:=h;refine⟨ι,I,μ,λi=>V4 σ.cX (env i) (box i),i,h0,⟨tI.le hl.1,tJ.le hl.2,rfl⟩,λi H hI=>?_⟩;exact Ze.rR (n:=b) (iB.kI (λσ' H ⟨j,h1,h2,h3,h4,h5⟩=>⟨j,h1,h2,⟨tI.le h3,tJ.le h4,h5⟩⟩) hq) (hr i H hI)
 | .exit id,Q,Q',σ,H,hq,h=>hq _ _ _ h
 | .ret,Q,Q',σ,H,hq,h=>hq _ _ _ h
 | .qQ f ps aB bd,Q,Q',σ,H,hq,h=>by
  obtain⟨hs,h⟩:=h;refine⟨hs,?_⟩;split at h
  ·obtain⟨N,len,E,h1,h2,I,S,h3,h4,h5,h6,h7,h8,h9⟩:=h;exact⟨N,len,E,_,‹_›,h1,h2,I,S,h3,h4,h5,h6,λn hn vs Hv H e1 e2 e3 hI=>Ze.rR (n:=aB) (iB.kI (λσ H h=>Ze.rR (n:=bd) (λ_ _ _ h=>h) h) (λ_ _ _ h=>h)) (h7 n hn vs Hv H e1 e2 e3 hI),
    λH hI=>hq _ _ _ (h8 H hI),λe H he hS=>hq _ _ _ (h9 e H he hS)⟩
  exact h.elim
def VK(P:bF)(rs:List Zf)(Post:Value->Hp->Prop)(σ:aN)(H:Hp):Prop:=KF P rs Post σ H
def FA(P:bF)(rs:List Zf)(Post:Value->Hp->Prop):Ex->aN->Hp->Prop
 | .exit _,_,_=>False
 | .normal,σ,H=>VK P rs Post σ H
 | .ret,σ,H=>VK P rs Post σ H
theorem aO.mK{kd:CallKind}(kL:kd=.normal\/kd=.deferred){n:Ze}{rs:List Zf}(h:aO P f k n rs)(hk:args.length=k)(hw:n.m P (FA P rs Post) (Vu args) H):Y2 P kd f args.toArray H Post:=by
 refine h.JN kL hk ?_;unfold Dg;refine Ze.rR ?_ hw;intro e σ H h;cases e with
 | exit id=>exact h
 | normal=>exact h
 | ret=>exact h
theorem aO.m{n:Ze}{rs:List Zf}(h:aO P f k n rs)(hk:args.length=k)(hw:n.m P (FA P rs Post) (Vu args) H):Zc P f args.toArray H Post:=
 (h.mK (.inl rfl) hk hw).pE
