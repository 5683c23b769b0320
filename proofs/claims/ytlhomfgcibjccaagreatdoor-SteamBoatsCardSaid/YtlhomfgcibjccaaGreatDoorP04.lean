import Derived.Test.YtlhomfgcibjccaaGreatDoorP02
import Derived.Test.YtlhomfgcibjccaaGreatDoorP03
set_option linter.all false
namespace Go.LL
section
variable{aI:Array Oper}{done l:List Nat}{pre:Nat->List Nat}{a b x n:Nat}
def YR(aI:Array Oper)(i:Nat):List Nat:=
 match aI[i]? with
 | some o=>(o.after.toList.filter (Region.binds .any)).map (·.on)
 | none=>[]
def Uy(aI:Array Oper):Bool:=(List.range aI.size).all λi=>(YR aI i).all λp=>decide (p<i)
def ZuF(h:Region.Mode)(aI:Array Oper):∀(e t:Nat) (listed:Array Bool) (g:List Nat),
  Region.linearise.go h aI e t listed g=g.reverse++Region.linearise.go h aI e t listed []:=by
 intro e;induction e with
 | zero=>intro t listed g;simp[Region.linearise.go]
 | succ e ih=>
  intro t listed g;simp only[Region.linearise.go];split
  ·rename_i i _;rw[ih _ _ (i :: g),ih _ _ [i]];simp
  simp
def Wy{p q:Nat->Bool}{i:Nat}:∀{l:List Nat},l.Nodup->i∈l->p i=true->(∀j,j≠i->q j=p j)->q i=false->(l.filter q).length+1=(l.filter p).length
 | [],_,h,_,_,_=>by simp at h
 | x :: l,m,h,t,s,g=>by
  simp only[qCO]at m;by_cases e:x=i
  ·subst e;have:l.filter q=l.filter p:=qBW λj u=>s j λe=>m.1 (e ▸ u);simp[t,g,this]
  have k:i∈l:=by simp only[qAq]at h;exact h.resolve_left (qAF e)
  have ih:=Wy m.2 k t s g;simp only[qAN,s x e];cases p x<;>simp[ih]
def ZlG{aI:Array Oper}(v:Uy aI=true):∀(g t:Nat) (listed:Array Bool) (done:List Nat),listed.size=aI.size->(∀i,i<aI.size->(listed.getD i true=true↔i∈done))->((List.range aI.size).filter λi=>!listed.getD i true).length=g ->
  lX aI.size (YR aI) done (Region.linearise.go .any aI g t listed [])
 | 0,t,listed,done,L,E,J=>by
  simp only[Region.linearise.go,List.reverse_nil];refine .nil λi U=>(E i U).1 ?_;have:=qAb J;cases D:listed.getD i true with
  | true=>rfl
  | false=>
   have K:i∈(List.range aI.size).filter λi=>!listed.getD i true:=qAC.2 ⟨qAl.2 U,by simp[D]⟩;rw[this]at K;simp at K
 | g+1,t,listed,done,L,E,J=>by
  simp only[Region.linearise.go];have s:∀i,(i∈(List.range aI.size).filter λi=>!listed.getD i true && ((aI[i]?).map (·.after.all λe=>!Region.binds .any e || listed.getD e.on false)).getD false)↔i<aI.size/\listed.getD i true=false/\∀p∈YR aI i,listed.getD p false=true:=by
   intro i;simp only[qAC,qAl,qAc,qBe];constructor
   ·rintro⟨m,z,u⟩;refine⟨m,z,λp C=>?_⟩;unfold YR at C;have T:aI[i]? = some aI[i]:=qBB m;rw[T]at C u;simp only[qAB,qAC]at C;obtain⟨e,⟨M,N⟩,rfl⟩:=C;simp only[qBZ,Option.getD_some]at u;have:=qAm.1 u e (qBh.1 M);simpa[N]using this
   rintro⟨m,z,u⟩;refine⟨m,z,?_⟩;have T:aI[i]? = some aI[i]:=qBB m;unfold YR at u;rw[T]at u ⊢;simp only[qBZ,Option.getD_some];refine qAm.2 λe W=>?_;cases hb:Region.binds .any e with
   | false=>simp
   | true=>
    simp only[qEa,Bool.false_or];exact u e.on (by simp only[qAB,qAC];exact⟨e,⟨qBh.2 W,hb⟩,rfl⟩)
  have Q:∃i,i<aI.size/\listed.getD i true=false:=by
   cases D:(List.range aI.size).filter λi=>!listed.getD i true with
   | nil=>rw[D]at J;simp at J
   | cons x Z=>
    have:x∈(List.range aI.size).filter λi=>!listed.getD i true:=by rw[D];simp
    simp only[qAC,qAl,qBe]at this;exact⟨x,this⟩
  have B:∃i,i<aI.size/\listed.getD i true=false/\∀j,j<i->listed.getD j true=true:=by
   obtain⟨k,V⟩:=Q;induction k using Nat.strongRecOn with
   | _ k ih=>
    by_cases h:∃j,j<k/\listed.getD j true=false
    ·obtain⟨j,A,R⟩:=h;exact ih j A ⟨O,R⟩
    refine⟨k,V.1,V.2,λj A=>?_⟩;cases D:listed.getD j true with
    | true=>rfl
    | false=>exact absurd ⟨j,A,D⟩ h
  have F:∀j,j<aI.size->listed.getD j false=listed.getD j true:=by intro j A;simp[qCe,qBB (show j<listed.size by rw[L];exact A)]
  have S:((List.range aI.size).filter λi=>!listed.getD i true && ((aI[i]?).map (·.after.all λe=>!Region.binds .any e || listed.getD e.on false)).getD false)≠[]:=by
   obtain⟨i,m,z,u⟩:=B;have:i∈(List.range aI.size).filter λi=>!listed.getD i true && ((aI[i]?).map (·.after.all λe=>!Region.binds .any e || listed.getD e.on false)).getD false:=by refine(s i).2 ⟨m,z,λp C=>?_⟩;have:=IN.1 (IN.1 v i (qAl.2 m)) p C;simp only[qAR]at this;rw[F p O];exact u p this
   intro H;rw[H]at this;simp at this
  generalize Y:((List.range aI.size).filter λi=>!listed.getD i true && ((aI[i]?).map (·.after.all λe=>!Region.binds .any e || listed.getD e.on false)).getD false)=I at *;have G:t % I.length<I.length:=qDS _ (by cases I with | nil=>exact absurd rfl S | cons x Z=>simp);rw[qBE G];simp only;rw[ZuF,List.reverse_singleton,List.singleton_append];obtain⟨m,z,u⟩:=(s _).1 (bY G);generalize I[t % I.length]=i at *;have y:∀j,(listed.setIfInBounds i true).getD j true=if j=i then true else listed.getD j true:=by
   intro j;simp only[qCe,qCL];by_cases e:i=j
   ·subst e;simp[L,m]
   simp[e,qAF e]
  refine .cons m (λK=>?_) (λp C=>?_) (ZlG v g _ _ (i :: done) (by simp[L]) (λj A=>?_) ?_)
  ·rw[(E i m).2 K]at z;simp at z
  ·have X:p<i:=by simpa using IN.1 (IN.1 v i (qAl.2 m)) p C
   refine(E p O).1 ?_;rw[<-F p O];exact u p C
  ·rw[y];by_cases e:j=i
   ·simp[e]
   rw[aT e];simp only[qAq,e,false_or];exact E j A
  have:=Wy (p:=λj=>!listed.getD j true) (q:=λj=>!(listed.setIfInBounds i true).getD j true) (i:=i) List.nodup_range (qAl.2 m) (by simp[z]) (λj A=>by simp only[y,aT A]) (by simp[y]);omega
def Km(e:Uy aI=true)(t:Nat):lX aI.size (YR aI) [] (Region.schedule true aI t):=by
 simp only[Region.schedule,Bool.true_or,qBp,Region.linearise];refine ZlG e _ _ _ _ (by simp) (λi g=>?_) ?_
 ·simp[g]
 have:((List.range aI.size).filter λi=>!(Array.replicate aI.size false).getD i true)=List.range aI.size:=by refine List.filter_eq_self.2 λi g=>?_;have:=qAl.1 g;simp[this]
 rw[this,qBF]
def Kp(g:List Nat)(e:List Nat):Nat:=g.foldl (λs p=>s ||| 2 ^ p ||| e.getD p 0) 0
def l9(aI:Array Oper):Nat->List Nat
 | 0=>[]
 | n+1=>l9 aI n++[Kp (YR aI n) (l9 aI n)]
def RF(aI:Array Oper):∀n,(l9 aI n).length=n
 | 0=>rfl
 | n+1=>by simp[l9,RF aI n]
def Kr(aI:Array Oper):∀n i,i<n->(l9 aI n).getD i 0=Kp (YR aI i) (l9 aI i)
 | 0,i,h=>by omega
 | n+1,i,h=>by
  simp only[l9,qAa];by_cases e:i=n
  ·subst e;rw[qBP (by rw[RF];exact dO _),RF];simp
  rw[qBf (by rw[RF];omega)];have:=Kr aI n i O;rw[qAa]at this;exact this
def Zlx:∀(i:List Nat) (g:List Nat) (s e:Nat),(i.foldl (λs p=>s ||| 2 ^ p ||| g.getD p 0) s).testBit e=true->s.testBit e=true\/e∈i\/∃p∈i,(g.getD p 0).testBit e=true
 | [],g,s,e,h=>.inl h
 | p :: i,g,s,e,h=>by
  simp only[qBa]at h;rcases Zlx i g _ e h with h | h | ⟨q,j,h⟩
  ·rw[qDV,qDV,qCs,qCs]at h;rcases h with(h | h) | h
   ·exact .inl h
   ·refine .inr (.inl ?_);rw[Nat.testBit_two_pow]at h;simp at h;simp[h]
   exact .inr (.inr ⟨p,by simp,h⟩)
  ·exact .inr (.inl (by simp[h]))
  exact .inr (.inr ⟨q,by simp[j],h⟩)
def ZtF(j:Uy aI=true)(m:∀i∈done,∀p∈YR aI i,p∈done):∀(x e:Nat),(Kp (YR aI x) (l9 aI x)).testBit e=true->(∀p∈YR aI x,p∈done)->e∈done:=by
 intro x;induction x using Nat.strongRecOn with
 | _ x ih=>
  intro e h s;rcases Zlx _ _ _ e h with h | h | ⟨p,g,h⟩
  ·simp at h
  ·exact s e h
  have k:p<x:=by
   rcases qBi x aI.size with q | q
   ·simpa using IN.1 (IN.1 j x (qAl.2 q)) p g
   unfold YR at g;rw[qDh q]at g;simp at g
  rw[Kr aI x p k]at h;exact ih p k e h (m p (s p g))
def Vn(pre:Nat->List Nat)(a b:Nat)(x:Nat):List Nat:=if Nat.beq x b then a :: pre x else pre x
def LS(W:Nat->Nat->Bool)(a b:Nat)(x e:Nat):Bool:=W x e || ((Nat.beq x b || W x b) && (Nat.beq e a || W a e))
def Jz:Vn pre a b b=a :: pre b:=by have:Nat.beq b b=true:=Nat.beq_refl b;simp[Vn,this]
def QW(h:x≠b):Vn pre a b x=pre x:=by
 have:Nat.beq x b=false:=by
  cases hb:Nat.beq x b with
  | false=>rfl
  | true=>exact absurd (qBN hb) h
 simp[Vn,this]
def Zid{p:Nat}(h:p∈pre x):p∈Vn pre a b x:=by
 by_cases e:x=b
 ·subst e;rw[Jz];exact qAP _ h
 rw[QW e];exact h
def QM{W:Nat->Nat->Bool}(t:∀(x e:Nat) (done:List Nat),(∀i∈done,∀p∈pre i,p∈done)->W x e=true->(∀p∈pre x,p∈done)->e∈done) :
  ∀(x e:Nat) (done:List Nat),(∀i∈done,∀p∈Vn pre a b i,p∈done)->LS W a b x e=true->(∀p∈Vn pre a b x,p∈done)->e∈done:=by
 intro x e done j s v;have g:∀i∈done,∀p∈pre i,p∈done:=λi y p h=>j i y p (Zid h);have m:∀p∈pre x,p∈done:=λp h=>v p (Zid h);simp only[LS,qCs,qAc]at s;rcases s with s | ⟨q,k⟩
 ·exact t x e done g s m
 have u:a∈done:=by
  rcases q with q | q
  ·have:x=b:=qBN q;subst this;exact v a (by rw[Jz];simp)
  have hb:=t x b done g q m;exact j b hb a (by rw[Jz];simp)
 rcases k with k | k
 ·rw[qBN k];exact u
 exact t a e done g k (g a u)
def lX.qX(h:lX n pre done l)(g:a∈done):lX n (Vn pre a b) done l:=by
 induction h with
 | nil h=>exact .nil h
 | cons j hd i _ ih=>
  refine .cons j hd (λp e=>?_) (ih (qAP _ g));unfold Vn at e;split at e
  ·rcases qAq.1 e with rfl | e
   ·exact g
   exact i p e
  exact i p e
def lX.N8(g:a≠b)(s:a<n)(h:lX n pre done l)(t:a ∉ done)(hb:b ∉ done):lX n (Vn pre a b) done l\/lX n (Vn pre b a) done l:=by
 induction h with
 | nil h=>exact absurd (h a s) t
 | @cons done l i j hd k u ih=>
  by_cases m:i=a
  ·subst m;exact .inl (.cons j hd (λp e=>k p (by rw[QW g]at e;exact e)) (u.qX (by simp)))
  by_cases q:i=b
  ·subst q;exact .inr (.cons j hd (λp e=>k p (by rw[QW (qAF g)]at e;exact e)) (u.qX (by simp)))
  refine(ih (by simp[qAF m,t]) (by simp[qAF q,hb])).imp (λh=>?_) (λh=>?_)
  ·exact .cons j hd (λp e=>k p (by rw[QW q]at e;exact e)) h
  exact .cons j hd (λp e=>k p (by rw[QW m]at e;exact e)) h
def RD(n:Nat)(pre:Nat->List Nat):List Nat->List Nat->Bool
 | done,[]=>(List.range n).all λi=>done.contains i
 | done,i :: l=>decide (i<n) && !(done.contains i) && ((pre i).all λp=>done.contains p) && RD n pre (i :: done) l
def ZlH{n:Nat}{pre:Nat->List Nat}:∀{l done:List Nat},RD n pre done l=true->lX n pre done l
 | [],done,h=>.nil λi e=>by simp only[RD,IN,qDv,qAR]at h;exact h i (qAl.2 e)
 | i :: l,done,h=>by simp only[RD,qAc,qAR,qBe,qDv,qBH,IN]at h;exact .cons h.1.1.1 h.1.1.2 (λp g=>h.1.2 p g) (ZlH h.2)
def Zss(pre:Nat->List Nat)(g h:Nat->Bool)(W:Nat->Nat->Bool)(done rest:List Nat):Option Nat:=
 let ready:=rest.filter λi=>(pre i).all λp=>done.contains p
 match ready.find? g with
 | some i=>some i
 | none=>match ready.find? λi=>!(h i)with
  | some i=>some i
  | none=>match rest.find? λi=>!(g i) && !(h i)with
   | some e=>match ready.find? λi=>W e i with
    | some i=>some i
    | none=>ready.head?
   | none=>ready.head?
def Xq(pre:Nat->List Nat)(e g:Nat->Bool)(W:Nat->Nat->Bool):Nat->List Nat->List Nat->List Nat
 | 0,_,_=>[]
 | k+1,done,rest=>match Zss pre e g W done rest with
  | some i=>i :: Xq pre e g W k (i :: done) (rest.erase i)
  | none=>[]
def Xf(X:Nat->NI)(W:Nat->Nat->Bool):List Nat->List Nat->List (Nat×Bool)
 | _,[]=>[]
 | e,i :: l=>(if(X i).op.cls == 1 && (e.any λc=>(X c).op.cls == 0 && !(W i c))then[(i,e.any λc=>(X c).op.cls == 0 && !(W i c) && (X c).op.DU)]else[])++Xf X W (i :: e) l
def Bm(x:NI):NI:=match x.op with
 | .aO _ _ z e=>⟨none,none,.build z e⟩
 | _=>⟨none,none,.cY (.const undef)⟩
def QD(X:Nat->NI)(e:Nat->Option Bool)(W:Nat->Nat->Bool):List Nat->List (NI×Option Bool)
 | []=>[]
 | i :: l=>(if(X i).op.cls == 0 then[]else(l.filter λx=>F0 (X x) && !(W x i)).map λx=>(Bm (X x),none))++(X i,e i) :: QD X e W l
end
section
variable{P:aX}{kd:CallKind}{f:FuncId}{args:Array Value}{main:Bool}{fr c:Frame}{cs:List Frame}{d:Deferred}{w:World}{fn:Func}
def GO(c:Frame):Prop:=match c.mode with
 | .panicking ({ recovered:=true,.. } :: _)=>False
 | _=>True
def QP:CallKind->Frame->Prop
 | .normal,_=>True
 | .deferred,c=>GO c
 | _,_=>False
def LJ(kd:CallKind)(c:Frame)(v:Value):Frame:=match kd with
 | .normal=>c.finish v
 | _=>c
def Y2(P:aX)(kd:CallKind)(f:FuncId)(args:Array Value)(H:Hp)(Post:Value->Hp->Prop):Prop:=
 ∀(G:Frame->List Frame->Hp->Prop) (c:Frame) (cs:List Frame),VY G->QP kd c->(∀v e,Post v e->Reach P G (LJ kd c v) cs e)->Reach P G (Frame.enter P f args kd) (c :: cs) H
def Y2.mono{H:Hp}{g e:Value->Hp->Prop}(h:Y2 P kd f args H g)(p:∀v H,g v H->e v H):Y2 P kd f args H e:=
 λG c cs k m j=>h G c cs k m λv i q=>j v i (p _ _ q)
def Y2.pD{H:Hp}{e:Value->Hp->Prop}(h:Y2 P .normal f args H e):Zc P f args H e:=λG c cs i g=>h G c cs i trivial g
def UJ:Target->Bool
 | .collected _ | .nil=>false
 | _=>true
def EP(P:aX)(K:Hp->Prop):Next->Hp->Prop
 | .enter f args,H=>Y2 P .deferred f args H λ_ e=>K e
 | .value _,H=>K H
 | .skip,H=>K H
 | _,_=>False
def qN(P:aX)(fn:Func)(tmps:Array Value)(e:Value->Hp->Prop):List Deferred->Hp->Prop
 | [],H=>bL P (results fn tmps) (λv _ g=>e v g) false H
 | d :: h,H=>match d.target with
  | .collected r=>P.still H.gh=false/\H r=some (.deferred (some []),true)/\qN P fn tmps e h (H.ins r (.deferred none))
  | _=>UJ d.target=true/\(bL P (invoke d.target d.args) (λn _ g=>EP P (qN P fn tmps e h) n g) false H \/
    (Uz P.toProgram (invoke d.target d.args)/\Zk P (invoke d.target d.args) false false H λ_ g=>qN P fn tmps e h g))
theorem Zvh{P:Program}(g:fr.kind=kd)(e:QP kd c)(v:Value)(w:World):doReturn P main fr (c :: cs) none v w=.go (cV (LJ kd c v) cs) w:=by
 unfold doReturn;cases kd<;>simp only[QP]at e<;>simp only[g,LJ]
 unfold GO at e;congr 1;split
 ·rename_i h;rw[h]at e;exact e.elim
 rfl
def Bc{P:Program}{e:List Deferred}(g:fr.defers=d :: e)(i:UJ d.target=true):unwind P main fr cs none w=callDeferred P { fr with defers:=e } cs none d w:=by
 unfold unwind;rw[g];split
 ·rename_i h;simp only[qBM]at h;obtain⟨rfl,rfl⟩:=h;simp[UJ]at i
 ·rename_i h;simp only[qBM]at h;obtain⟨rfl,rfl⟩:=h;rfl
 rename_i h;simp at h
theorem Q5{P:Program}(e:fr.mode=.returning):stepG P main (cV fr cs) w=unwind P main fr cs none w:=by obtain⟨fn,tmps,todo,defers,mode,kind,roundOf⟩:=fr;simp only at e;subst e;rfl
def Oi{P:Program}{g:World}{n:Next}{es:Array Event}(i:UJ d.target=true)(h:(invoke d.target d.args).runT P w #[]=(.ok n g,es)) :
  (∀f args,n=.enter f args->callDeferred P fr cs none d w=.go (cV (Frame.enter P f args .deferred) (fr :: cs)) g (seen P fr.fn es)) /\
  ((∃v,n=.value v)\/n=.skip->callDeferred P fr cs none d w=.go (cV fr cs) g (seen P fr.fn es)):=by
 obtain⟨target,e⟩:=d;cases target with
 | nil=>simp[UJ]at i
 | collected r=>simp[UJ]at i
 | _=>
  refine⟨?_,?_⟩
  ·rintro f args rfl;unfold callDeferred;simp only[h,qDk,DO,qAw,GStep.after,qAG]
  rintro(⟨v,rfl⟩ | rfl)<;>(unfold callDeferred;simp only[h,qDk,DO,qAw,GStep.after,qAG])
def ZhK{G:Frame->List Frame->Hp->Prop}{g:Value->Hp->Prop}(y:VY G)(S:QP kd c)(R:∀v e,g v e->Reach P G (LJ kd c v) cs e) :
  ∀(j:List Deferred) (fr:Frame) (H:Hp),fr.mode=.returning->fr.defers=j->fr.kind=kd->P.funcs[fr.fn]? = some fn->qN P fn fr.tmps g j H->Reach P G fr (c :: cs) H:=by
 intro j;induction j with
 | nil=>
  intro fr H u D F E h;refine .AO h ?_;intro v _ _;refine⟨LJ kd c v,cs,λmain w C es p=>⟨seen P fr.fn es,?_,.inr rfl⟩,λe t=>R _ _ t⟩;simp only[cV,stepG,u,unwind,D,E,p,Zvh F S,GStep.after,qAG]
 | cons d j ih=>
  intro fr H u D F E h;have i:∀e,qN P fn fr.tmps g j e->Reach P G { fr with defers:=j } (c :: cs) e:=λe J=>ih { fr with defers:=j } e u rfl F E J;have q:(∃r,d.target=.collected r)\/(UJ d.target=true/\(bL P (invoke d.target d.args) (λn _ e=>EP P (qN P fn fr.tmps g j) n e) false H \/
    (Uz P.toProgram (invoke d.target d.args)/\Zk P (invoke d.target d.args) false false H λ_ e=>qN P fn fr.tmps g j e))):=by
   simp only[qN]at h
   split at h
   ·exact .inl ⟨_,‹_›⟩
   ·exact .inr h
  rcases q with⟨r,I⟩ | q
  ·simp only[qN,I]at h;obtain⟨z,K,O⟩:=h;refine .AO (s:=Instr.takeDeferred r) (Q:=λv _ e=>v=[]/\e=H.ins r (.deferred none)) ?_ ?_
   ·simp only[Instr.takeDeferred,Zg,getObj,setObj];exact⟨_,_,⟨z,K⟩,rfl,rfl,_,⟨z,K⟩,rfl,rfl,rfl,rfl,rfl⟩
   rintro v M ⟨rfl,_⟩;refine⟨{ fr with defers:=j },c :: cs,λmain w C es p=>⟨seen P fr.fn es,?_,.inr rfl⟩,λe t=>?_⟩
   ·rw[Q5 u];obtain⟨U,T⟩:=d;simp only at I;subst I;unfold unwind;rw[D];simp only[p,GStep.after,qBt,qAG]
   rw[t.2];exact i _ O
  obtain⟨A,h⟩:=q;have m:∀main cs w,stepG P main (cV fr cs) w=callDeferred P { fr with defers:=j } cs none d w:=by intro main cs w;rw[Q5 u];exact Bc D A
  have k:∀main w,stepG P main (cV fr (c :: cs)) w=callDeferred P { fr with defers:=j } (c :: cs) none d w:=λmain w=>m main _ w;rcases h with h | ⟨B,h⟩
  case inr=>
   refine h G fr (λ_=>{ fr with defers:=j }) (c :: cs) y ⟨λmain cs w C v es p=>?_,.inl B,.inl B,λh=>by simp at h,λh=>by simp at h,.inl B⟩ λv e J=>i _ J
   rw[m]
   exact(Oi A p).2 (.inl ⟨v,rfl⟩)
  refine .AO h ?_;intro n M N;cases n with
  | enter f args=>
   refine⟨_,_,λmain w C es p=>⟨seen P fr.fn es,?_,.inr rfl⟩,λe t=>t G _ (c :: cs) y (show GO { fr with defers:=j }by unfold GO;rw[u];trivial) λv L B=>i _ B⟩;rw[k];exact(Oi A p).1 f args rfl
  | value v=>
   refine⟨{ fr with defers:=j },c :: cs,λmain w C es p=>⟨seen P fr.fn es,?_,.inr rfl⟩,λe t=>i _ t⟩;rw[k];exact(Oi A p).2 (.inl ⟨v,rfl⟩)
  | skip=>
   refine⟨{ fr with defers:=j },c :: cs,λmain w C es p=>⟨seen P fr.fn es,?_,.inr rfl⟩,λe t=>i _ t⟩;rw[k];exact(Oi A p).2 (.inr rfl)
  | _=>exact N.elim
theorem Y2.of{body:Code}{H:Hp}{Post:Value->Hp->Prop}(j:kd=.normal\/kd=.deferred)(i:P.funcs[f]? = some fn)(hb:fn.body=some body){tmps:Array Value}(t:args++Array.replicate (fn.ntmps-args.size) undef=tmps)
  (h:gX P ⟨true,fn.norace⟩ body (λe a H=>match e with | .exit _=>False | _=>qN P fn a.tmps Post a.defers H) ⟨tmps,[]⟩ H):Y2 P kd f args H Post:=by
 intro G c cs g q p;have s:Frame.enter P f args kd=on (Frame.enter P f args kd) ⟨tmps,[]⟩ [.code body]:=by simp[Frame.enter,on,i,hb,t]
 rw[s];have m:(Frame.enter P f args kd).roundOf=none:=rfl;refine h G _ [] (c :: cs) g ⟨by rcases j with rfl | rfl<;>simp[Frame.enter],λ_=>m,λh=>by simp only[norace,Frame.enter,i,Option.any_some];exact h⟩ ?_;intro e a v k;cases e with
 | normal=>
  refine .pure (eC:={ on (Frame.enter P f args kd) a []with mode:=.returning }) (jX:=c :: cs) (λmain w=>Wu m) ?_;exact ZhK g q p _ _ _ rfl rfl rfl i k
 | ret=>
  intro u;refine .pure (eC:={ on (Frame.enter P f args kd) a (.code .ret :: u)with mode:=.returning }) (jX:=c :: cs) (λmain w=>Wv m) ?_;exact ZhK g q p _ _ _ rfl rfl rfl i k
 | exit id=>exact k.elim
def Y2.frame{H F:Hp}{g:Value->Hp->Prop}(h:Y2 P kd f args H g)(A:H.Comp F) :
  Y2 P kd f args (H.join F) (λv s=>∃e,s=e.join F/\e.Comp F/\g v e):=by
 intro G c cs q B y;have u:=h (λfr j e=>j=cs/\∃v i J,fr=LJ kd c v/\e=i.join J/\i.Comp J/\g v i) c cs ?_ B ?_
 ·refine(u.frame A).bind ?_;rintro fr j s ⟨e,rfl,k,rfl,v,i,J,rfl,rfl,p,m⟩;have c1:i.Comp F:=k.of_join_left;have c2:J.Comp F:=Hp.Comp.dH p k;rw[Hp.fS c2.symm];exact(y v _ ⟨i,rfl,c1,m⟩).up q (Hp.Comp.gU p c2.symm)
 ·rintro fr j e J z ⟨rfl,v,i,t,rfl,rfl,p,m⟩;exact⟨rfl,v,i,t.join J,rfl,Hp.dR _ _ _,p.join_r z.of_join_left,m⟩
 intro v e m;exact .stop ⟨rfl,v,e,.nil,rfl,(Hp.eG e).symm,Hp.eQ e,m⟩
theorem gX.frame{N:Rd}{c:Code}{Q:Ex->Act->Hp->Prop}{a:Act}{H F:Hp}(h:gX P N c Q a H)(R:H.Comp F) :
  gX P N c (λe s g=>∃i,g=i.join F/\i.Comp F/\Q e s i) a (H.join F):=by
 intro G b k cs C hb v;have O:=h (λfr q i=>∃m J:Hp,i=m.join J/\m.Comp J/\∀g:Hp,(∃X:Hp,g=(m.join J).join X/\(m.join J).Comp X/\F=X)->Reach P G fr q g) b k cs ?_ hb ?_
 ·refine(O.frame R).bind ?_;rintro fr q g ⟨i,rfl,B,m,J,rfl,M,K⟩;exact K _ ⟨F,rfl,B,rfl⟩
 ·rintro fr q i J z ⟨m,L,rfl,M,K⟩;refine⟨m,L.join J,Hp.dR _ _ _,M.join_r z.of_join_left,?_⟩;rintro g ⟨X,rfl,p,A⟩;subst A;have t:((m.join L).join J).Comp F:=by rw[Hp.dR];exact p
  have c2:J.Comp F:=Hp.Comp.dH z t;have:=(K _ ⟨F,rfl,t.of_join_left,rfl⟩).up C (J:=J) (Hp.Comp.gU z c2.symm);rw[<-Hp.dR,Hp.fS c2.symm];exact this
 intro e s i y;have j:∀fr,(∀g,g=i.join F/\i.Comp F->Reach P G fr cs g)->Reach P (λfr q i=>∃m J:Hp,i=m.join J/\m.Comp J/\∀g:Hp,(∃X:Hp,g=(m.join J).join X/\(m.join J).Comp X/\F=X)->Reach P G fr q g) fr cs i:=by intro fr D;refine .stop ⟨i,.nil,(Hp.eG i).symm,Hp.eQ i,?_⟩;rintro g ⟨X,rfl,p,A⟩;subst A;rw[Hp.eG]at p ⊢;exact D _ ⟨rfl,p⟩
 cases e with
 | normal=>exact j _ λg ⟨e,p⟩=>v .normal s g ⟨i,e,p,y⟩
 | ret=>exact λu=>j _ λg ⟨e,p⟩=>v .ret s g ⟨i,e,p,y⟩ u
 | exit id=>
  exact⟨λu E=>j _ λg ⟨e,p⟩=>(v (.exit id) s g ⟨i,e,p,y⟩).1 u E,λE u I=>j _ λg ⟨e,p⟩=>(v (.exit id) s g ⟨i,e,p,y⟩).2 E u I⟩
end
variable{P:aX}{fv:Value}{args:Array Value}{f:FuncId}{r l:Nat}{o:Loop}{b:Frame}{a:Act}{cs:List Frame}{assign body:Code}{w:World}{params:Array Tmp}
def Up(A:Hp->Prop):Prop:=∀H J,H.Comp J->A H->A (H.join J)
def EO(P:aX)(e:Value->Hp->Prop):Next->Hp->Prop
 | .value v,H=>e v H
 | .skip,H=>e undef H
 | .enter f args,H=>Zc P f args H e
 | .round l f tmps aA g,H=>UX P l f tmps aA g H e
 | _,_=>False
def EO.mono{g e:Value->Hp->Prop}(i:∀v H,g v H->e v H):∀{n:Next} {H:Hp},EO P g n H->EO P e n H:=by
 intro n H h;cases n with
 | value v=>exact i _ _ h
 | skip=>exact i _ _ h
 | enter f args=>exact Zc.mono h i
 | round l f tmps aA j=>exact UX.mono h i
 | _=>exact h.elim
def OR(fv:Value)(args:Array Value):Sem Next:=do let d <-Deferred.ofValue fv args;invoke d.target d.args
def ZV(P:aX)(fv:Value)(args:Array Value)(H:Hp)(e:Value->Hp->Prop):Prop:=
 bL P (OR fv args) (λn g h=>g=true\/EO P e n h) false H
theorem ZV.mono{H:Hp}{i e:Value->Hp->Prop}(h:ZV P fv args H i)(j:∀v H,i v H->e v H):ZV P fv args H e:=
 Vi (λn g H h=>h.imp id (EO.mono j)) h
def EO.frame{e:Value->Hp->Prop}{F:Hp}:∀{n:Next} {H:Hp},EO P e n H->H.Comp F->EO P (λv j=>∃i,j=i.join F/\i.Comp F/\e v i) n (H.join F):=by
 intro n H h g;cases n with
 | value v=>exact⟨_,rfl,g,h⟩
 | skip=>exact⟨_,rfl,g,h⟩
 | enter f args=>exact Zc.frame h g
 | round l f tmps aA k=>exact UX.frame h g
 | _=>exact h.elim
theorem ZV.frame{H F:Hp}{i:Value->Hp->Prop}(h:ZV P fv args H i)(q:H.Comp F) :
  ZV P fv args (H.join F) (λv p=>∃j,p=j.join F/\j.Comp F/\i v j):=
 Vi (λn g p ⟨j,e,k,m⟩=>by rw[e];exact m.imp id λm=>m.frame k) (Aa h q)
def ZV.of{fn:Func}{first cap:Array Value}{H:Hp}{Post:Value->Hp->Prop}(g:P.funcs[f]? = some fn)(hb:fn.body.isSome=true)(i:(fn.name == "runtime.NumGoroutine")=false)
  (h:Zc P f (first++args++cap) H Post):ZV P (.func (.func f) first cap) args H Post:=by
 have e:fn.body.isNone=false:=by simpa using hb
 unfold ZV OR;simp only[Deferred.ofValue,Zg,Zj,invoke,callFunc,V0,g,i,e,DO,qAw];exact .inr h
def KU(P:aX)(fv:Value)(N:Hp->Prop)(g:List (List Value)):Prop:=
 ∀(y:Value) (I:Nat->Hp->Prop) (S:Hp->Prop) (H:Hp),(∃f a b,y=.func f a b)->(∀n,Up (I n))->Up S->(∀n H,I n H->N H) ->
  (∀n (h:n<g.length) H,I n H->ZV P y (g[n]).toArray H (λv e=>(v=.bool true/\I (n+1) e)\/(v=.bool false/\S e)))->I 0 H->ZV P fv #[y] H (λ_ e=>I g.length e\/S e)
def KY(P:aX)(fv:Value)(N:Hp->Prop)(len:Nat)(E:Nat->List Value->Hp->Prop):Prop:=
 ∀(y:Value) (I:Nat->Hp->Prop) (S:Hp->Prop) (H:Hp),(∃f a b,y=.func f a b)->(∀n,Up (I n))->Up S->(∀n H,I n H->N H) ->
  (∀n,n<len->∀h g H,E n h g->g.gh=[]->H.Comp g->I n H->ZV P y h.toArray (H.join g) (λv e=>(v=.bool true/\I (n+1) e)\/(v=.bool false/\S e)))->I 0 H->ZV P fv #[y] H (λ_ e=>I len e\/S e)
def Wb(e:List (List Value))(n:Nat)(i:List Value)(g:Hp):Prop:=g=.nil/\∃h:n<e.length,i=e[n]
def KU.toE{N:Hp->Prop}{e:List (List Value)}(h:KU P fv N e):KY P fv N e.length (Wb e):=by intro y I S H s j m k q i;refine h y I S H s j m k (λn g H p=>?_) i;have:=q n g e[n] .nil H ⟨rfl,g,rfl⟩ rfl (Hp.eQ H) p;rwa [Hp.eG]at this
def QO(l:Nat):Value:=.func (.yield l) #[] #[]
def OE(r:Nat):Deferred:={ target:=.collected r,args:=#[] }
def ZJ(r l:Nat)(o:Loop):Hp:=(Hp.nil.ins r (.deferred (some []))).ins l (.loop o)
def OF(r l:Nat)(o:Loop):ZJ r l o l=some (.loop o,true):=Hp.aG _ _ _
def ZtV(h:r≠l)(o:Loop):ZJ r l o r=some (.deferred (some []),true):=by unfold ZJ;rw[Hp.aH _ _ h,Hp.aG]
def Hp.iW{H F:Hp}{o:Obj}(h:H r=none):H.join (F.ins r o)=(H.join F).ins r o:=by
 refine Hp.ext' (λb=>?_) rfl;simp only[Hp.bH,Hp.eM];by_cases e:b=r
 ·subst e;simp[h]
 simp[e]
def Ko{H:Hp}(i:H.Comp (ZJ r l o))(g:Loop):(H.join (ZJ r l o)).ins l (.loop g)=H.join (ZJ r l g)/\H.Comp (ZJ r l g):=by
 have j:H l=none:=i.left_none (OF r l o);have e:ZJ r l g=(ZJ r l o).ins l (.loop g):=by
  refine Hp.ext' (λb=>?_) rfl;unfold ZJ;by_cases e:b=l
  ·subst e;simp[Hp.eM]
  simp[Hp.eM,e]
 rw[e,Hp.iW j];exact⟨rfl,(i.symm.hY _ j).symm⟩
def Ab{P:PQ}{p:Bool}{H:Hp}(e:P.still H.gh=false)(h:H l=some (.loop o,p))(Q:Loop->Bool->Hp->Prop)(g:Bool)(i:Q o g H):bL P (Instr.getLoop l) Q g H:=by simp only[Instr.getLoop,Zg,getObj];exact⟨_,_,⟨e,h⟩,rfl,rfl,i⟩
theorem Zpy(l:Nat)(f:FuncId)(tmps:Array Value)(assign body:Code):Frame.round l f tmps assign body .normal=on (Frame.round l f tmps assign body .normal) ⟨tmps,[]⟩ [.code assign,.beginRound,.code body]:=rfl
def ZP:Ex->Option Code
 | .normal=>none
 | .ret=>some .ret
 | .exit id=>some (.exit id)
theorem Nf{G:Frame->List Frame->Hp->Prop}{c:Frame}{H:Hp}(t:∀g,P.still g=false)(p:b.roundOf=some l)(m:b.kind=.normal)(k:H.Comp (ZJ r l o))
  {e:Ex} {todo:List Item} (B:(e=.normal/\todo=[])\/(e=.ret/\∃j,todo=.code .ret :: j)\/∃id,e=.exit id/\∃j,todo=.code (.exit id) :: j/\exitTo id j=none)
  (A:H.Comp (ZJ r l { o with state:=if(ZP e).isNone then .ready else .done,pending:=ZP e })->Reach P G (c.finish (.bool (ZP e).isNone)) cs (H.join (ZJ r l { o with state:=if(ZP e).isNone then .ready else .done,pending:=ZP e }))) :
  Reach P G (on b a todo) (c :: cs) (H.join (ZJ r l o)):=by
 obtain⟨u,y⟩:=Ko k { o with state:=if(ZP e).isNone then .ready else .done,pending:=ZP e };refine .AO (s:=Instr.endRound l (ZP e)) (Q:=λv _ q=>v=.bool (ZP e).isNone/\q=H.join (ZJ r l { o with state:=if(ZP e).isNone then .ready else .done,pending:=ZP e })) ?_ ?_
 ·simp only[Instr.endRound,Zg];refine Ab (t _) (Hp.bC k (OF r l o)) _ _ ?_;refine⟨_,⟨t _,Hp.bC k (OF r l o)⟩,rfl,rfl,rfl,rfl,u⟩
 rintro v D ⟨rfl,_⟩;refine⟨c.finish (.bool (ZP e).isNone),cs,λmain w E es i=>⟨seen P b.fn es,?_,.inr rfl⟩,λq z=>by rw[z.2];exact A y⟩;rcases B with⟨rfl,rfl⟩ | ⟨rfl,j,rfl⟩ | ⟨id,rfl,j,rfl,C⟩
 ·simp only[ZP]at i;simp only[stepG,stepG.exec,on,p,ZP,i,doReturn,m,GStep.after,qAG]
 ·simp only[ZP]at i;simp only[stepG,stepG.exec,on,p,ZP,i,doReturn,m,GStep.after,qAG]
 simp only[ZP]at i;simp only[stepG,stepG.exec,on,p,ZP,C,Option.elim,i,doReturn,m,GStep.after,qAG]
theorem Zpx{tmps:Array Value}{H:Hp}{J:Hp->Prop}{S:Ex->Hp->Prop}(y:∀g,P.still g=false)(U:o.state=.ready)(T:H.Comp (ZJ r l o))
  (h:gX P ⟨false,false⟩ assign (Ex.then (gX P ⟨false,false⟩ body (λe _ i=>match e with | .normal=>J i | e=>S e i)) (λ_ _ _=>False)) ⟨tmps,[]⟩ H) :
  UX P l f tmps assign body (H.join (ZJ r l o)) (λv z=>∃i,(v=.bool true/\z=i.join (ZJ r l { o with state:=.ready,pending:=none })/\i.Comp (ZJ r l { o with state:=.ready,pending:=none })/\J i) \/
   (v=.bool false/\∃e,e≠.normal/\z=i.join (ZJ r l { o with state:=.done,pending:=ZP e })/\i.Comp (ZJ r l { o with state:=.done,pending:=ZP e })/\S e i)):=by
 intro G c cs u C
 rw[Zpy]
 have m:Fit P ⟨false,false⟩ (Frame.round l f tmps assign body .normal):=⟨by simp[Frame.round],λh=>by simp at h,λh=>by simp at h⟩
 refine(h.frame T) G (Frame.round l f tmps assign body .normal) _ (c :: cs) u m ?_
 rintro e F z ⟨K,rfl,p,E⟩
 cases e with
 | ret=>exact E.elim
 | exit id=>exact E.elim
 | normal=>
  obtain⟨L,M⟩:=Ko p { o with state:=.busy };refine .AO (s:=(do Instr.beginRound l;pure .skip:Sem Next)) (Q:=λv _ i=>v=.skip/\i=K.join (ZJ r l { o with state:=.busy })) ?_ ?_
  ·simp only[Instr.beginRound,Zg];refine Ab (y _) (Hp.bC p (OF r l o)) _ _ ?_;refine⟨_,⟨y _,Hp.bC p (OF r l o)⟩,rfl,rfl,rfl,?_⟩;rw[U];exact⟨rfl,L⟩
  rintro v W ⟨rfl,_⟩;refine⟨on (Frame.round l f tmps assign body .normal) F [.code body],c :: cs,λmain w V es N=>⟨seen P f es,?_,.inr rfl⟩,λi O=>?_⟩
  ·have I:((on (Frame.round l f tmps assign body .normal) F [Item.beginRound,Item.code body]).kind == CallKind.early)=false:=rfl;have R:((do (some l).elim (stuck "beginRound: no round") Instr.beginRound;pure .skip:Sem Next)).runT P w #[]=(.ok .skip V,es):=N;show stepG.apply P true _ _ _ _ w=_;simp only[stepG.apply,qBp];show GStep.after _ _=_;erw [R];rfl
  rw[O.2];refine(gX.frame E M) G (Frame.round l f tmps assign body .normal) _ (c :: cs) u m ?_;rintro e X z ⟨B,rfl,q,t⟩;cases e with
  | normal=>
   refine Nf (e:=.normal) y rfl rfl q (.inl ⟨rfl,rfl⟩) λj=>C _ _ ⟨B,.inl ⟨rfl,rfl,j,t⟩⟩
  | ret=>
   intro A;refine Nf (e:=.ret) y rfl rfl q (.inr (.inl ⟨rfl,A,rfl⟩)) λj=>C _ _ ⟨B,.inr ⟨rfl,.ret,by simp,rfl,j,t⟩⟩
  | exit id=>
   refine⟨λA I=>by simp[exitTo]at I,λ_ A D=>?_⟩;refine Nf (e:=.exit id) y rfl rfl q (.inr (.inr ⟨id,rfl,A,rfl,D⟩)) λj=>C _ _ ⟨B,.inr ⟨rfl,.exit id,by simp,rfl,j,t⟩⟩
def Bd{I:Hp->Prop}{X:Hp}(k:Up I):Up λj=>∃g:Hp,j=g.join X/\g.Comp X/\I g:=by rintro H J h ⟨g,rfl,i,m⟩;have c1:g.Comp J:=h.of_join_left;have c2:X.Comp J:=Hp.Comp.dH i h;exact⟨g.join J,Hp.fS c2.symm,Hp.Comp.gU i c2.symm,k _ _ c1 m⟩
def ZpP{G:Frame->List Frame->Hp->Prop}{fr:Frame}{H:Hp}{q:Value->Hp->Prop}(y:VY G)(L:fr.kind≠.early)(D:∃l k,fr.todo=.inRangeFunc l :: k)
  (h:ZV P fv args H q) (B:∀v i,q v i->Reach P G (fr.finish v) cs i) (M:H.le w) :
  ∃u s p i es,stepG.apply P true fr cs none (OR fv args) w=.go (cV u s) p es/\Fr H w i p/\Reach P G u s i/\∀e∈es,EvL H w p.heap.size e:=by
 obtain⟨n,p,i,es,g,t,A,⟨F,J⟩,I⟩:=Zgw #[] h M;obtain rfl:g=false:=by
  cases g with
  | false=>rfl
  | true=>exact(J rfl).symm
 have z:=F.resolve_left (by simp);have m:(fr.kind == CallKind.early)=false:=ZmC L;have j:∀e∈seen P fr.fn es,EvL H w p.heap.size e:=λe K=>I e (Ma _ _ _ e K);simp only[qDe]at t;obtain⟨l,k,D⟩:=D;cases n with
 | value v=>exact⟨fr.finish v,cs,p,i,_,by simp only[stepG.apply,t,qBp,m,DO,qAw,GStep.after,qAG],A,B _ _ z,j⟩
 | skip=>exact⟨fr.finish undef,cs,p,i,_,by simp only[stepG.apply,t,qBp,m,DO,qAw,GStep.after,qAG],A,B _ _ z,j⟩
 | enter f args=>exact⟨Frame.enter P f args .normal,fr :: cs,p,i,_,by simp only[stepG.apply,D,t,qBp,m,DO,qAw,GStep.after,qAG],A,z G _ cs y λv C E=>B _ _ E,j⟩
 | round l f tmps assign body=>exact⟨Frame.round l f tmps assign body .normal,fr :: cs,p,i,_,by simp only[stepG.apply,t,qBp,m,DO,qAw,GStep.after,qAG],A,z G _ cs y λv C E=>B _ _ E,j⟩
 | _=>exact z.elim
def Zos{P:Program}{main:Bool}{k:List Item}{f:Operand}{q:World}{mk:Deferred}(g:b.roundOf=none)
  (e:(Instr.enterLoop b.fn a.tmps params assign body none).runT P w #[]=(.ok (l,[mk]) q,#[])) :
  stepG P main (cV (on b a (.code (.rangeFunc f params assign body) :: k)) cs) w =
   GStep.after (seen P b.fn #[]) (stepG.apply P true { b with tmps:=a.tmps,todo:=.inRangeFunc l :: k,defers:=mk :: a.defers,mode:=.run } cs none (OR (a.eval f) #[QO l]) q):=by
 obtain⟨s,t,m,p,j,i,h⟩:=b
 simp only at g e
 subst g
 simp only[on,stepG,stepG.exec,e]
 congr 2
 simp only[resolve,OR,qCo,qCq,qDo,Frame.eval,QO]
 congr 1
theorem gX.rangeFunc{nr:Bool}{f:Operand}{Q:Ex->Act->Hp->Prop}{H:Hp}(L:∀g,P.still g=false){N:Hp->Prop}{len:Nat}{E:Nat->List Value->Hp->Prop}(Fi:KY P (a.eval f) N len E)
  (tZ:∀n z u,E n z u->z.length=params.size) (I:Nat->Hp->Prop) (S:Ex->Hp->Prop) (J7:∀n,Up (I n)) (Dw:∀e,Up (S e)) (hN:∀n H J,I n H->H.Comp J->N (H.join J)) (h0:I 0 H)
  (F:∀n (hn:n<len) z u H,E n z u->u.gh=[]->H.Comp u->I n H->gX P ⟨false,false⟩ assign (Ex.then (gX P ⟨false,false⟩ body (λe _ i=>match e with | .normal=>I (n+1) i | e=>S e i)) (λ_ _ _=>False)) ⟨(params.zip z.toArray).foldl (λtmps (t,a)=>tmps.setIfInBounds t a) a.tmps,[]⟩ (H.join u))
  (R:∀i r J,I len i->i.Comp J->J r=some (.deferred (some []),true)->Q .normal ⟨a.tmps,OE r :: a.defers⟩ (i.join J))
  (C:∀e i r J,e≠.normal->S e i->i.Comp J->J r=some (.deferred (some []),true)->Q e ⟨a.tmps,OE r :: a.defers⟩ (i.join J)) :
  gX P ⟨true,nr⟩ (.rangeFunc f params assign body) Q a H:=by
 intro G b k cs Y hb hG;have Eg:b.roundOf=none:=hb.xG rfl;refine .step ⟨λmain w hw=>?_,λtC=>by rw[L]at tC;simp at tC⟩;have B:=Fr.alloc hw (.deferred (some []));generalize h:({ state:=.ready,pending:=none,fn:=b.fn,tmps:=a.tmps,params,assign,body,defers:=w.heap.size }:Loop)=rec;have m:=Fr.alloc B.le (.loop rec);have yH:({ w with heap:=w.heap.push (.deferred (some [])) }:World).heap.size=w.heap.size+1:=by simp
 rw[yH]at m;have SU:H w.heap.size=none:=by
  cases hh:H w.heap.size with
  | none=>rfl
  | some y=>exact absurd (hw.lt hh) O
 have Ru:H (w.heap.size+1)=none:=by
  cases hh:H (w.heap.size+1)with
  | none=>rfl
  | some y=>exact absurd (hw.lt hh) O
 have hX:(H.ins w.heap.size (.deferred (some []))).ins (w.heap.size+1) (.loop rec)=H.join (ZJ w.heap.size (w.heap.size+1) rec):=by unfold ZJ;rw[Hp.iW Ru,Hp.iW SU,Hp.eG]
 have hXc:H.Comp (ZJ w.heap.size (w.heap.size+1) rec):=(((Hp.eQ H).symm.hY _ SU).hY _ Ru).symm;rw[hX]at m;generalize J8:w.heap.size=r at *;generalize tD:r+1=l at *;have SS:r≠l:=O;let D:Frame:={ b with tmps:=a.tmps,todo:=.inRangeFunc l :: k,defers:=OE r :: a.defers,mode:=.run }
 have M:ZV P (a.eval f) #[QO l] (H.join (ZJ r l rec)) (λ_ p=>∃(e:Ex) (i:Hp),p=i.join (ZJ r l { rec with state:=if(ZP e).isNone then .ready else .done,pending:=ZP e })/\i.Comp (ZJ r l { rec with state:=if(ZP e).isNone then .ready else .done,pending:=ZP e })/\(match e with | .normal=>I len i | e=>S e i)):=by
  have h1:=Fi (QO l) (λn p=>∃j:Hp,p=j.join (ZJ r l rec)/\j.Comp (ZJ r l rec)/\I n j)
   (λp=>∃e:Ex,e≠.normal/\∃j:Hp,p=j.join (ZJ r l { rec with state:=.done,pending:=ZP e })/\j.Comp (ZJ r l { rec with state:=.done,pending:=ZP e })/\S e j)
   (H.join (ZJ r l rec)) ⟨_,_,_,rfl⟩ (λn=>Bd (J7 n)) (λp J W ⟨e,A,hh⟩=>⟨e,A,Bd (Dw e) p J W hh⟩) ?_ ?_ ⟨H,rfl,hXc,h0⟩
  ·refine h1.mono ?_;rintro v p (⟨j,rfl,q,hi⟩ | ⟨e,A,j,rfl,q,L⟩)
   ·subst h;exact⟨.normal,j,rfl,q,hi⟩
   cases e with
   | normal=>exact absurd rfl A
   | ret=>exact⟨.ret,j,rfl,q,L⟩
   | exit id=>exact⟨.exit id,j,rfl,q,L⟩
  ·rintro n p ⟨j,rfl,q,hi⟩;exact hN n j _ hi q
  rintro n hn z u p hE NN Z ⟨j,rfl,X,gQ⟩;have c1:j.Comp u:=Z.of_join_left;have c2:(ZJ r l rec).Comp u:=Hp.Comp.dH X Z;rw[Hp.fS c2.symm];have q:(j.join u).Comp (ZJ r l rec):=Hp.Comp.gU X c2.symm;have hi:=F n hn z u j hE NN c1 gQ;generalize j.join u=j at *;unfold ZV OR QO;simp only[Deferred.ofValue,Zg,Zj,invoke,Instr.yield];refine Ab (L _) (Hp.bC q (OF r l rec)) _ _ ?_;have Eu:rec.params=params:=by rw[<-h]
  have h2:(#[]++z.toArray).size=rec.params.size:=by rw[Eu];simp[tZ _ _ _ hE]
  simp only[h2,ne_eq,not_true_eq_false,qAw,Zj,EO];refine .inr ?_;have h3:=hi;have h4:=Zpx (r:=r) (l:=l) (o:=rec) (f:=rec.fn) (J:=I (n+1)) (S:=S) L (by rw[<-h]) q h3;have h5:(rec.params.zip (#[]++z.toArray)).foldl (λtmps (t,a)=>tmps.setIfInBounds t a) rec.tmps=(params.zip z.toArray).foldl (λtmps (t,a)=>tmps.setIfInBounds t a) a.tmps:=by rw[<-h,qDe]
  have h6:rec.assign=assign:=by rw[<-h]
  have h7:rec.body=body:=by rw[<-h]
  rw[show UX P l rec.fn ((rec.params.zip (#[]++z.toArray)).foldl (λtmps (t,a)=>tmps.setIfInBounds t a) rec.tmps) rec.assign rec.body=UX P l rec.fn ((params.zip z.toArray).foldl (λtmps (t,a)=>tmps.setIfInBounds t a) a.tmps) assign body by rw[h5,h6,h7]];refine h4.mono ?_;rintro v p ⟨H2,⟨rfl,U,K,V⟩ | ⟨rfl,e,A,U,K,V⟩⟩
  ·refine .inl ⟨rfl,H2,?_,?_,V⟩
   ·rw[U];congr 2;rw[<-h]
   rw[<-h];rw[<-h]at K;exact K
  exact .inr ⟨rfl,e,A,H2,U,K,V⟩
 have T:∀v p,(∃(e:Ex) (i:Hp),p=i.join (ZJ r l { rec with state:=if(ZP e).isNone then .ready else .done,pending:=ZP e })/\i.Comp (ZJ r l { rec with state:=if(ZP e).isNone then .ready else .done,pending:=ZP e })/\(match e with | .normal=>I len i | e=>S e i))->Reach P G (D.finish v) cs p:=by
  rintro v p ⟨e,j,rfl,q,hq⟩;obtain⟨U,K⟩:=Ko q { rec with state:=.exhausted,pending:=ZP e };refine .AO (s:=Instr.endLoop l) (Q:=λv _ i=>v=ZP e/\i=j.join (ZJ r l { rec with state:=.exhausted,pending:=ZP e })) ?_ ?_
  ·simp only[Instr.endLoop,Zg];refine Ab (L _) (Hp.bC q (OF r l _)) _ _ ?_;have:((if(ZP e).isNone=true then LoopState.ready else LoopState.done) == LoopState.busy)=false:=by cases e<;>rfl
   simp only[this,DO,qAw,Zj];exact⟨_,⟨L _,Hp.bC q (OF r l _)⟩,rfl,rfl,rfl,rfl,U⟩
  rintro v H0 ⟨rfl,_⟩;refine⟨on b ⟨a.tmps,OE r :: a.defers⟩ (((ZP e).map Item.code).toList++k),cs,λmain w w' es V=>⟨seen P b.fn es,?_,.inr rfl⟩,λi e4=>?_⟩
  ·simp only[D,Frame.finish,stepG,stepG.exec,V,GStep.after,qAG];rfl
  rw[e4.2];have W:=ZtV SS ({ rec with state:=.exhausted,pending:=ZP e }:Loop);cases e with
  | normal=>exact hG .normal _ _ (R _ r _ hq K W)
  | ret=>exact hG .ret _ _ (C .ret _ r _ (by simp) hq K W) k
  | exit id=>exact gX.exit (C (.exit id) _ r _ (by simp) hq K W) G b k cs Y hb hG
 have hw2:(H.join (ZJ r l rec)).le _:=m.le;obtain⟨eC,jX,w',i,es,a1,a2,a3,a4⟩:=ZpP (fr:=D) Y hb.kind ⟨l,k,rfl⟩ M T hw2;have htr:=(B.trans m).trans a2;refine⟨eC,jX,w',i,seen P b.fn #[]++es,?_,htr,a3,λe A=>?_⟩
 ·have hen:(Instr.enterLoop b.fn a.tmps params assign body none).runT P w #[]=(.ok (l,[OE r]) { { w with heap:=w.heap.push (.deferred (some [])) }with heap:=(w.heap.push (.deferred (some []))).push (.loop rec) },#[]):=by subst tD;subst J8;subst h;simp[- Sem.runT_eq,Instr.enterLoop,newObj,Sem.runT,bind,Sem.bind,pure,OE]
  rw[Zos Eg hen];show GStep.after _ (stepG.apply P true D cs none _ _)=_;rw[a1];rfl
 rcases qBx.1 A with A | A
 ·exact absurd (Ma _ _ _ e A) (by simp)
 exact(a4 e A).yQ (B.trans m) a2.size
