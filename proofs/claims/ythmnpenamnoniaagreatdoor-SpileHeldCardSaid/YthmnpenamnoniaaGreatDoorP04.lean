import Derived.Test.YthmnpenamnoniaaGreatDoorP02
import Derived.Test.YthmnpenamnoniaaGreatDoorP03
set_option linter.all false
namespace Go.LL
section
variable{aG:Array Oper}{done l:List Nat}{pre:Nat->List Nat}{a b x n:Nat}
def YS(aG:Array Oper)(i:Nat):List Nat:=
 match aG[i]? with
 | some o=>(o.after.toList.filter (Region.binds .any)).map (·.on)
 | none=>[]
def OA(aG:Array Oper):Bool:=(List.range aG.size).all λi=>(YS aG i).all λp=>decide (p<i)
def Zvh(h:Region.Mode)(aG:Array Oper):∀(e t:Nat) (listed:Array Bool) (g:List Nat),
  Region.linearise.go h aG e t listed g=g.reverse++Region.linearise.go h aG e t listed []:=by
 intro e;induction e with
 | zero=>intro t listed g;simp[Region.linearise.go]
 | succ e ih=>
  intro t listed g;simp only[Region.linearise.go];split
  ·rename_i i _;rw[ih _ _ (i :: g),ih _ _ [i]];simp
  simp
def W6{p q:Nat->Bool}{i:Nat}:∀{l:List Nat},l.Nodup->i∈l->p i=true->(∀j,j≠i->q j=p j)->q i=false->(l.filter q).length+1=(l.filter p).length
 | [],_,h,_,_,_=>by simp at h
 | x :: l,m,h,t,s,g=>by
  simp only[qBY]at m;by_cases e:x=i
  ·subst e;have:l.filter q=l.filter p:=qCe λj u=>s j λe=>m.1 (e ▸ u);simp[t,g,this]
  have k:i∈l:=by simp only[DO]at h;exact h.resolve_left (qAm e)
  have ih:=W6 m.2 k t s g;simp only[qBv,s x e];cases p x<;>simp[ih]
def Ay{aG:Array Oper}(v:OA aG=true):∀(g t:Nat) (listed:Array Bool) (done:List Nat),listed.size=aG.size->(∀i,i<aG.size->(listed.getD i true=true↔i∈done))->((List.range aG.size).filter λi=>!listed.getD i true).length=g ->
  fY aG.size (YS aG) done (Region.linearise.go .any aG g t listed [])
 | 0,t,listed,done,L,E,J=>by
  simp only[Region.linearise.go,List.reverse_nil];refine .nil λi U=>(E i U).1 ?_;have:=qAo J;cases D:listed.getD i true with
  | true=>rfl
  | false=>
   have K:i∈(List.range aG.size).filter λi=>!listed.getD i true:=qAq.2 ⟨qAU.2 U,by simp[D]⟩;rw[this]at K;simp at K
 | g+1,t,listed,done,L,E,J=>by
  simp only[Region.linearise.go];have s:∀i,(i∈(List.range aG.size).filter λi=>!listed.getD i true && ((aG[i]?).map (·.after.all λe=>!Region.binds .any e || listed.getD e.on false)).getD false)↔i<aG.size/\listed.getD i true=false/\∀p∈YS aG i,listed.getD p false=true:=by
   intro i;simp only[qAq,qAU,oR,qAK];constructor
   ·rintro⟨m,z,u⟩;refine⟨m,z,λp C=>?_⟩;unfold YS at C;have T:aG[i]? = some aG[i]:=qAO m;rw[T]at C u;simp only[qAj,qAq]at C;obtain⟨e,⟨M,N⟩,rfl⟩:=C;simp only[qBl,Option.getD_some]at u;have:=qAd.1 u e (qAu.1 M);simpa[N]using this
   rintro⟨m,z,u⟩;refine⟨m,z,?_⟩;have T:aG[i]? = some aG[i]:=qAO m;unfold YS at u;rw[T]at u ⊢;simp only[qBl,Option.getD_some];refine qAd.2 λe W=>?_;cases hb:Region.binds .any e with
   | false=>simp
   | true=>
    simp only[qCU,Bool.false_or];exact u e.on (by simp only[qAj,qAq];exact⟨e,⟨qAu.2 W,hb⟩,rfl⟩)
  have Q:∃i,i<aG.size/\listed.getD i true=false:=by
   cases D:(List.range aG.size).filter λi=>!listed.getD i true with
   | nil=>rw[D]at J;simp at J
   | cons x Z=>
    have:x∈(List.range aG.size).filter λi=>!listed.getD i true:=by rw[D];simp
    simp only[qAq,qAU,qAK]at this;exact⟨x,this⟩
  have B:∃i,i<aG.size/\listed.getD i true=false/\∀j,j<i->listed.getD j true=true:=by
   obtain⟨k,V⟩:=Q;induction k using Nat.strongRecOn with
   | _ k ih=>
    by_cases h:∃j,j<k/\listed.getD j true=false
    ·obtain⟨j,A,R⟩:=h;exact ih j A ⟨O,R⟩
    refine⟨k,V.1,V.2,λj A=>?_⟩;cases D:listed.getD j true with
    | true=>rfl
    | false=>exact absurd ⟨j,A,D⟩ h
  have F:∀j,j<aG.size->listed.getD j false=listed.getD j true:=by intro j A;simp[qBj,qAO (show j<listed.size by rw[L];exact A)]
  have S:((List.range aG.size).filter λi=>!listed.getD i true && ((aG[i]?).map (·.after.all λe=>!Region.binds .any e || listed.getD e.on false)).getD false)≠[]:=by
   obtain⟨i,m,z,u⟩:=B;have:i∈(List.range aG.size).filter λi=>!listed.getD i true && ((aG[i]?).map (·.after.all λe=>!Region.binds .any e || listed.getD e.on false)).getD false:=by refine(s i).2 ⟨m,z,λp C=>?_⟩;have:=qAp.1 (qAp.1 v i (qAU.2 m)) p C;simp only[qAv]at this;rw[F p O];exact u p this
   intro H;rw[H]at this;simp at this
  generalize Y:((List.range aG.size).filter λi=>!listed.getD i true && ((aG[i]?).map (·.after.all λe=>!Region.binds .any e || listed.getD e.on false)).getD false)=I at *;have G:t % I.length<I.length:=qCW _ (by cases I with | nil=>exact absurd rfl S | cons x Z=>simp);rw[qAx G];simp only;rw[Zvh,List.reverse_singleton,List.singleton_append];obtain⟨m,z,u⟩:=(s _).1 (qAa G);generalize I[t % I.length]=i at *;have y:∀j,(listed.setIfInBounds i true).getD j true=if j=i then true else listed.getD j true:=by
   intro j;simp only[qBj,qBG];by_cases e:i=j
   ·subst e;simp[L,m]
   simp[e,qAm e]
  refine .cons m (λK=>?_) (λp C=>?_) (Ay v g _ _ (i :: done) (by simp[L]) (λj A=>?_) ?_)
  ·rw[(E i m).2 K]at z;simp at z
  ·have X:p<i:=by simpa using qAp.1 (qAp.1 v i (qAU.2 m)) p C
   refine(E p O).1 ?_;rw[<-F p O];exact u p C
  ·rw[y];by_cases e:j=i
   ·simp[e]
   rw[bY e];simp only[DO,e,false_or];exact E j A
  have:=W6 (p:=λj=>!listed.getD j true) (q:=λj=>!(listed.setIfInBounds i true).getD j true) (i:=i) List.nodup_range (qAU.2 m) (by simp[z]) (λj A=>by simp only[y,bY A]) (by simp[y]);omega
def LC(e:OA aG=true)(t:Nat):fY aG.size (YS aG) [] (Region.schedule true aG t):=by
 simp only[Region.schedule,Bool.true_or,qAH,Region.linearise];refine Ay e _ _ _ _ (by simp) (λi g=>?_) ?_
 ·simp[g]
 have:((List.range aG.size).filter λi=>!(Array.replicate aG.size false).getD i true)=List.range aG.size:=by refine qBS.2 λi g=>?_;have:=qAU.1 g;simp[this]
 rw[this,qBK]
def LG(g:List Nat)(e:List Nat):Nat:=g.foldl (λs p=>s ||| 2 ^ p ||| e.getD p 0) 0
def fW(aG:Array Oper):Nat->List Nat
 | 0=>[]
 | n+1=>fW aG n++[LG (YS aG n) (fW aG n)]
def B5(aG:Array Oper):∀n,(fW aG n).length=n
 | 0=>rfl
 | n+1=>by simp[fW,B5 aG n]
def LH(aG:Array Oper):∀n i,i<n->(fW aG n).getD i 0=LG (YS aG i) (fW aG i)
 | 0,i,h=>by omega
 | n+1,i,h=>by
  simp only[fW,qAl];by_cases e:i=n
  ·subst e;rw[qAY (by rw[B5];exact AT _),B5];simp
  rw[qAB (by rw[B5];omega)];have:=LH aG n i O;rw[qAl]at this;exact this
def Bl:∀(i:List Nat) (g:List Nat) (s e:Nat),(i.foldl (λs p=>s ||| 2 ^ p ||| g.getD p 0) s).testBit e=true->s.testBit e=true\/e∈i\/∃p∈i,(g.getD p 0).testBit e=true
 | [],g,s,e,h=>.inl h
 | p :: i,g,s,e,h=>by
  simp only[qBZ]at h;rcases Bl i g _ e h with h | h | ⟨q,j,h⟩
  ·rw[qCM,qCM,qBm,qBm]at h;rcases h with(h | h) | h
   ·exact .inl h
   ·refine .inr (.inl ?_);rw[Nat.testBit_two_pow]at h;simp at h;simp[h]
   exact .inr (.inr ⟨p,by simp,h⟩)
  ·exact .inr (.inl (by simp[h]))
  exact .inr (.inr ⟨q,by simp[j],h⟩)
def Zuj(j:OA aG=true)(m:∀i∈done,∀p∈YS aG i,p∈done):∀(x e:Nat),(LG (YS aG x) (fW aG x)).testBit e=true->(∀p∈YS aG x,p∈done)->e∈done:=by
 intro x;induction x using Nat.strongRecOn with
 | _ x ih=>
  intro e h s;rcases Bl _ _ _ e h with h | h | ⟨p,g,h⟩
  ·simp at h
  ·exact s e h
  have k:p<x:=by
   rcases qAM x aG.size with q | q
   ·simpa using qAp.1 (qAp.1 j x (qAU.2 q)) p g
   unfold YS at g;rw[qCG q]at g;simp at g
  rw[LH aG x p k]at h;exact ih p k e h (m p (s p g))
def Y5(pre:Nat->List Nat)(a b:Nat)(x:Nat):List Nat:=if Nat.beq x b then a :: pre x else pre x
def Oc(W:Nat->Nat->Bool)(a b:Nat)(x e:Nat):Bool:=W x e || ((Nat.beq x b || W x b) && (Nat.beq e a || W a e))
def N0:Y5 pre a b b=a :: pre b:=by have:Nat.beq b b=true:=qDc b;simp[Y5,this]
def AV(h:x≠b):Y5 pre a b x=pre x:=by
 have:Nat.beq x b=false:=by
  cases hb:Nat.beq x b with
  | false=>rfl
  | true=>exact absurd (qAV hb) h
 simp[Y5,this]
def Jw{p:Nat}(h:p∈pre x):p∈Y5 pre a b x:=by
 by_cases e:x=b
 ·subst e;rw[N0];exact qAc _ h
 rw[AV e];exact h
def uQ{W:Nat->Nat->Bool}(t:∀(x e:Nat) (done:List Nat),(∀i∈done,∀p∈pre i,p∈done)->W x e=true->(∀p∈pre x,p∈done)->e∈done) :
  ∀(x e:Nat) (done:List Nat),(∀i∈done,∀p∈Y5 pre a b i,p∈done)->Oc W a b x e=true->(∀p∈Y5 pre a b x,p∈done)->e∈done:=by
 intro x e done j s v;have g:∀i∈done,∀p∈pre i,p∈done:=λi y p h=>j i y p (Jw h);have m:∀p∈pre x,p∈done:=λp h=>v p (Jw h);simp only[Oc,qBm,oR]at s;rcases s with s | ⟨q,k⟩
 ·exact t x e done g s m
 have u:a∈done:=by
  rcases q with q | q
  ·have:x=b:=qAV q;subst this;exact v a (by rw[N0];simp)
  have hb:=t x b done g q m;exact j b hb a (by rw[N0];simp)
 rcases k with k | k
 ·rw[qAV k];exact u
 exact t a e done g k (g a u)
def fY.iV(h:fY n pre done l)(g:a∈done):fY n (Y5 pre a b) done l:=by
 induction h with
 | nil h=>exact .nil h
 | cons hi j i _ ih=>
  refine .cons hi j (λp e=>?_) (ih (qAc _ g));unfold Y5 at e;split at e
  ·rcases DO.1 e with rfl | e
   ·exact g
   exact i p e
  exact i p e
def fY.uL(g:a≠b)(s:a<n)(h:fY n pre done l)(t:a ∉ done)(hb:b ∉ done):fY n (Y5 pre a b) done l\/fY n (Y5 pre b a) done l:=by
 induction h with
 | nil h=>exact absurd (h a s) t
 | @cons done l i hi j k u ih=>
  by_cases m:i=a
  ·subst m;exact .inl (.cons hi j (λp e=>k p (by rw[AV g]at e;exact e)) (u.iV (by simp)))
  by_cases q:i=b
  ·subst q;exact .inr (.cons hi j (λp e=>k p (by rw[AV (qAm g)]at e;exact e)) (u.iV (by simp)))
  refine(ih (by simp[qAm m,t]) (by simp[qAm q,hb])).imp (λh=>?_) (λh=>?_)
  ·exact .cons hi j (λp e=>k p (by rw[AV q]at e;exact e)) h
  exact .cons hi j (λp e=>k p (by rw[AV m]at e;exact e)) h
def BX(n:Nat)(pre:Nat->List Nat):List Nat->List Nat->Bool
 | done,[]=>(List.range n).all λi=>done.contains i
 | done,i :: l=>decide (i<n) && !(done.contains i) && ((pre i).all λp=>done.contains p) && BX n pre (i :: done) l
def Ax{n:Nat}{pre:Nat->List Nat}:∀{l done:List Nat},BX n pre done l=true->fY n pre done l
 | [],done,h=>.nil λi e=>by simp only[BX,qAp,qCk,qAv]at h;exact h i (qAU.2 e)
 | i :: l,done,h=>by simp only[BX,oR,qAv,qAK,qCk,qBf,qAp]at h;exact .cons h.1.1.1 h.1.1.2 (λp g=>h.1.2 p g) (Ax h.2)
def Ztb(pre:Nat->List Nat)(g h:Nat->Bool)(W:Nat->Nat->Bool)(done rest:List Nat):Option Nat:=
 let ready:=rest.filter λi=>(pre i).all λp=>done.contains p
 match ready.find? g with
 | some i=>some i
 | none=>match ready.find? λi=>!(h i)with
  | some i=>some i
  | none=>match rest.find? λi=>!(g i) && !(h i)with
   | some e=>match ready.find? λi=>W e i with
    | some i=>some i
    | none=>ready.head?
   | none=>ready.head?
def Ak(pre:Nat->List Nat)(e g:Nat->Bool)(W:Nat->Nat->Bool):Nat->List Nat->List Nat->List Nat
 | 0,_,_=>[]
 | k+1,done,rest=>match Ztb pre e g W done rest with
  | some i=>i :: Ak pre e g W k (i :: done) (rest.erase i)
  | none=>[]
def XE(X:Nat->NI)(W:Nat->Nat->Bool):List Nat->List Nat->List (Nat×Bool)
 | _,[]=>[]
 | e,i :: l=>(if(X i).op.gO == 1 && (e.any λc=>(X c).op.gO == 0 && !(W i c))then[(i,e.any λc=>(X c).op.gO == 0 && !(W i c) && (X c).op.qI)]else[])++XE X W (i :: e) l
def FA(x:NI):NI:=match x.op with
 | .aX _ _ z e=>⟨none,none,.build z e⟩
 | _=>⟨none,none,.cV (.const undef)⟩
def BR(X:Nat->NI)(e:Nat->Option Bool)(W:Nat->Nat->Bool):List Nat->List (NI×Option Bool)
 | []=>[]
 | i :: l=>(if(X i).op.gO == 0 then[]else(l.filter λx=>O7 (X x) && !(W x i)).map λx=>(FA (X x),none))++(X i,e i) :: BR X e W l
end
section
variable{P:aY}{kd:CallKind}{f:FuncId}{args:Array Value}{main:Bool}{fr c:Frame}{cs:List Frame}{d:Deferred}{w:World}{fn:Func}
def tR(c:Frame):Prop:=match c.mode with
 | .panicking ({ recovered:=true,.. } :: _)=>False
 | _=>True
def B9:CallKind->Frame->Prop
 | .normal,_=>True
 | .deferred,c=>tR c
 | _,_=>False
def wX(kd:CallKind)(c:Frame)(v:Value):Frame:=match kd with
 | .normal=>c.finish v
 | _=>c
def Vj(P:aY)(kd:CallKind)(f:FuncId)(args:Array Value)(H:Hp)(Post:Value->Hp->Prop):Prop:=
 ∀(G:Frame->List Frame->Hp->Prop) (c:Frame) (cs:List Frame),Uc G->B9 kd c->(∀v e,Post v e->Reach P G (wX kd c v) cs e)->Reach P G (Frame.enter P f args kd) (c :: cs) H
def Vj.mono{H:Hp}{g e:Value->Hp->Prop}(h:Vj P kd f args H g)(p:∀v H,g v H->e v H):Vj P kd f args H e:=
 λG c cs k m j=>h G c cs k m λv i q=>j v i (p _ _ q)
def Vj.iW{H:Hp}{e:Value->Hp->Prop}(h:Vj P .normal f args H e):Za P f args H e:=λG c cs i g=>h G c cs i trivial g
def UT:Target->Bool
 | .collected _ | .nil=>false
 | _=>true
def rE(P:aY)(K:Hp->Prop):Next->Hp->Prop
 | .enter f args,H=>Vj P .deferred f args H λ_ e=>K e
 | .value _,H=>K H
 | .skip,H=>K H
 | _,_=>False
def iP(P:aY)(fn:Func)(tmps:Array Value)(e:Value->Hp->Prop):List Deferred->Hp->Prop
 | [],H=>bD P (results fn tmps) (λv _ g=>e v g) false H
 | d :: h,H=>match d.target with
  | .collected r=>P.still H.gh=false/\H r=some (.deferred (some []),true)/\iP P fn tmps e h (H.ins r (.deferred none))
  | _=>UT d.target=true/\(bD P (invoke d.target d.args) (λn _ g=>rE P (iP P fn tmps e h) n g) false H \/
    (OC P.toProgram (invoke d.target d.args)/\Zp P (invoke d.target d.args) false false H λ_ g=>iP P fn tmps e h g))
theorem ZwG{P:Program}(g:fr.kind=kd)(e:B9 kd c)(v:Value)(w:World):doReturn P main fr (c :: cs) none v w=.go (bO (wX kd c v) cs) w:=by
 unfold doReturn;cases kd<;>simp only[B9]at e<;>simp only[g,wX]
 unfold tR at e;congr 1;split
 ·rename_i h;rw[h]at e;exact e.elim
 rfl
def FU{P:Program}{e:List Deferred}(g:fr.defers=d :: e)(i:UT d.target=true):unwind P main fr cs none w=callDeferred P { fr with defers:=e } cs none d w:=by
 unfold unwind;rw[g];split
 ·rename_i h;simp only[qAD]at h;obtain⟨rfl,rfl⟩:=h;simp[UT]at i
 ·rename_i h;simp only[qAD]at h;obtain⟨rfl,rfl⟩:=h;rfl
 rename_i h;simp at h
theorem BD{P:Program}(e:fr.mode=.returning):stepG P main (bO fr cs) w=unwind P main fr cs none w:=by obtain⟨fn,tmps,todo,defers,mode,kind,roundOf⟩:=fr;simp only at e;subst e;rfl
def Ow{P:Program}{g:World}{n:Next}{es:Array Event}(i:UT d.target=true)(h:(invoke d.target d.args).runT P w #[]=(.ok n g,es)) :
  (∀f args,n=.enter f args->callDeferred P fr cs none d w=.go (bO (Frame.enter P f args .deferred) (fr :: cs)) g (seen P fr.fn es)) /\
  ((∃v,n=.value v)\/n=.skip->callDeferred P fr cs none d w=.go (bO fr cs) g (seen P fr.fn es)):=by
 obtain⟨target,e⟩:=d;cases target with
 | nil=>simp[UT]at i
 | collected r=>simp[UT]at i
 | _=>
  refine⟨?_,?_⟩
  ·rintro f args rfl;unfold callDeferred;simp only[h,qBO,dO,qAf,GStep.after,qAg]
  rintro(⟨v,rfl⟩ | rfl)<;>(unfold callDeferred;simp only[h,qBO,dO,qAf,GStep.after,qAg])
def Na{G:Frame->List Frame->Hp->Prop}{g:Value->Hp->Prop}(y:Uc G)(S:B9 kd c)(R:∀v e,g v e->Reach P G (wX kd c v) cs e) :
  ∀(j:List Deferred) (fr:Frame) (H:Hp),fr.mode=.returning->fr.defers=j->fr.kind=kd->P.funcs[fr.fn]? = some fn->iP P fn fr.tmps g j H->Reach P G fr (c :: cs) H:=by
 intro j;induction j with
 | nil=>
  intro fr H u C F E h;refine .oL h ?_;intro v _ _;refine⟨wX kd c v,cs,λmain w B es p=>⟨seen P fr.fn es,?_,.inr rfl⟩,λe t=>R _ _ t⟩;simp only[bO,stepG,u,unwind,C,E,p,ZwG F S,GStep.after,qAg]
 | cons d j ih=>
  intro fr H u C F E h;have i:∀e,iP P fn fr.tmps g j e->Reach P G { fr with defers:=j } (c :: cs) e:=λe J=>ih { fr with defers:=j } e u rfl F E J;have q:(∃r,d.target=.collected r)\/(UT d.target=true/\(bD P (invoke d.target d.args) (λn _ e=>rE P (iP P fn fr.tmps g j) n e) false H \/
    (OC P.toProgram (invoke d.target d.args)/\Zp P (invoke d.target d.args) false false H λ_ e=>iP P fn fr.tmps g j e))):=by
   simp only[iP]at h
   split at h
   ·exact .inl ⟨_,‹_›⟩
   ·exact .inr h
  rcases q with⟨r,I⟩ | q
  ·simp only[iP,I]at h;obtain⟨z,K,O⟩:=h;refine .oL (s:=Instr.takeDeferred r) (Q:=λv _ e=>v=[]/\e=H.ins r (.deferred none)) ?_ ?_
   ·simp only[Instr.takeDeferred,Ze,getObj,setObj];exact⟨_,_,⟨z,K⟩,rfl,rfl,_,⟨z,K⟩,rfl,rfl,rfl,rfl,rfl⟩
   rintro v M ⟨rfl,_⟩;refine⟨{ fr with defers:=j },c :: cs,λmain w B es p=>⟨seen P fr.fn es,?_,.inr rfl⟩,λe t=>?_⟩
   ·rw[BD u];obtain⟨U,T⟩:=d;simp only at I;subst I;unfold unwind;rw[C];simp only[p,GStep.after,qAn,qAg]
   rw[t.2];exact i _ O
  obtain⟨A,h⟩:=q;have m:∀main cs w,stepG P main (bO fr cs) w=callDeferred P { fr with defers:=j } cs none d w:=by intro main cs w;rw[BD u];exact FU C A
  have k:∀main w,stepG P main (bO fr (c :: cs)) w=callDeferred P { fr with defers:=j } (c :: cs) none d w:=λmain w=>m main _ w;rcases h with h | ⟨D,h⟩
  case inr=>
   refine h G fr (λ_=>{ fr with defers:=j }) (c :: cs) y ⟨λmain cs w B v es p=>?_,.inl D,.inl D,λh=>by simp at h,λh=>by simp at h⟩ λv e J=>i _ J
   rw[m]
   exact(Ow A p).2 (.inl ⟨v,rfl⟩)
  refine .oL h ?_;intro n M N;cases n with
  | enter f args=>
   refine⟨_,_,λmain w B es p=>⟨seen P fr.fn es,?_,.inr rfl⟩,λe t=>t G _ (c :: cs) y (show tR { fr with defers:=j }by unfold tR;rw[u];trivial) λv L D=>i _ D⟩;rw[k];exact(Ow A p).1 f args rfl
  | value v=>
   refine⟨{ fr with defers:=j },c :: cs,λmain w B es p=>⟨seen P fr.fn es,?_,.inr rfl⟩,λe t=>i _ t⟩;rw[k];exact(Ow A p).2 (.inl ⟨v,rfl⟩)
  | skip=>
   refine⟨{ fr with defers:=j },c :: cs,λmain w B es p=>⟨seen P fr.fn es,?_,.inr rfl⟩,λe t=>i _ t⟩;rw[k];exact(Ow A p).2 (.inr rfl)
  | _=>exact N.elim
theorem Vj.of{body:Code}{H:Hp}{Post:Value->Hp->Prop}(j:kd=.normal\/kd=.deferred)(i:P.funcs[f]? = some fn)(hb:fn.body=some body){tmps:Array Value}(t:args++Array.replicate (fn.ntmps-args.size) undef=tmps)
  (h:dZ P ⟨true,fn.norace⟩ body (λe a H=>match e with | .exit _=>False | _=>iP P fn a.tmps Post a.defers H) ⟨tmps,[]⟩ H):Vj P kd f args H Post:=by
 intro G c cs g q p;have s:Frame.enter P f args kd=on (Frame.enter P f args kd) ⟨tmps,[]⟩ [.code body]:=by simp[Frame.enter,on,i,hb,t]
 rw[s];have m:(Frame.enter P f args kd).roundOf=none:=rfl;refine h G _ [] (c :: cs) g ⟨by rcases j with rfl | rfl<;>simp[Frame.enter],λ_=>m,λh=>by simp only[norace,Frame.enter,i,Option.any_some];exact h⟩ ?_;intro e a v k;cases e with
 | normal=>
  refine .pure (dN:={ on (Frame.enter P f args kd) a []with mode:=.returning }) (dH:=c :: cs) (λmain w=>Ai m) ?_;exact Na g q p _ _ _ rfl rfl rfl i k
 | ret=>
  intro u;refine .pure (dN:={ on (Frame.enter P f args kd) a (.code .ret :: u)with mode:=.returning }) (dH:=c :: cs) (λmain w=>Aj m) ?_;exact Na g q p _ _ _ rfl rfl rfl i k
 | exit id=>exact k.elim
def Vj.frame{H F:Hp}{g:Value->Hp->Prop}(h:Vj P kd f args H g)(A:H.Comp F) :
  Vj P kd f args (H.join F) (λv s=>∃e,s=e.join F/\e.Comp F/\g v e):=by
 intro G c cs q B y;have u:=h (λfr j e=>j=cs/\∃v i J,fr=wX kd c v/\e=i.join J/\i.Comp J/\g v i) c cs ?_ B ?_
 ·refine(u.frame A).bind ?_;rintro fr j s ⟨e,rfl,k,rfl,v,i,J,rfl,rfl,p,m⟩;have c1:i.Comp F:=k.of_join_left;have c2:J.Comp F:=Hp.Comp.dD p k;rw[Hp.eM c2.symm];exact(y v _ ⟨i,rfl,c1,m⟩).up q (Hp.Comp.gJ p c2.symm)
 ·rintro fr j e J z ⟨rfl,v,i,t,rfl,rfl,p,m⟩;exact⟨rfl,v,i,t.join J,rfl,Hp.cO _ _ _,p.join_r z.of_join_left,m⟩
 intro v e m;exact .stop ⟨rfl,v,e,.nil,rfl,(Hp.dF e).symm,Hp.dI e,m⟩
theorem dZ.frame{N:Rd}{c:Code}{Q:Ex->Act->Hp->Prop}{a:Act}{H F:Hp}(h:dZ P N c Q a H)(R:H.Comp F) :
  dZ P N c (λe s g=>∃i,g=i.join F/\i.Comp F/\Q e s i) a (H.join F):=by
 intro G b k cs C hb v;have O:=h (λfr q i=>∃m J:Hp,i=m.join J/\m.Comp J/\∀g:Hp,(∃X:Hp,g=(m.join J).join X/\(m.join J).Comp X/\F=X)->Reach P G fr q g) b k cs ?_ hb ?_
 ·refine(O.frame R).bind ?_;rintro fr q g ⟨i,rfl,B,m,J,rfl,M,K⟩;exact K _ ⟨F,rfl,B,rfl⟩
 ·rintro fr q i J z ⟨m,L,rfl,M,K⟩;refine⟨m,L.join J,Hp.cO _ _ _,M.join_r z.of_join_left,?_⟩;rintro g ⟨X,rfl,p,A⟩;subst A;have t:((m.join L).join J).Comp F:=by rw[Hp.cO];exact p
  have c2:J.Comp F:=Hp.Comp.dD z t;have:=(K _ ⟨F,rfl,t.of_join_left,rfl⟩).up C (J:=J) (Hp.Comp.gJ z c2.symm);rw[<-Hp.cO,Hp.eM c2.symm];exact this
 intro e s i y;have j:∀fr,(∀g,g=i.join F/\i.Comp F->Reach P G fr cs g)->Reach P (λfr q i=>∃m J:Hp,i=m.join J/\m.Comp J/\∀g:Hp,(∃X:Hp,g=(m.join J).join X/\(m.join J).Comp X/\F=X)->Reach P G fr q g) fr cs i:=by intro fr D;refine .stop ⟨i,.nil,(Hp.dF i).symm,Hp.dI i,?_⟩;rintro g ⟨X,rfl,p,A⟩;subst A;rw[Hp.dF]at p ⊢;exact D _ ⟨rfl,p⟩
 cases e with
 | normal=>exact j _ λg ⟨e,p⟩=>v .normal s g ⟨i,e,p,y⟩
 | ret=>exact λu=>j _ λg ⟨e,p⟩=>v .ret s g ⟨i,e,p,y⟩ u
 | exit id=>
  exact⟨λu E=>j _ λg ⟨e,p⟩=>(v (.exit id) s g ⟨i,e,p,y⟩).1 u E,λE u I=>j _ λg ⟨e,p⟩=>(v (.exit id) s g ⟨i,e,p,y⟩).2 E u I⟩
end
variable{P:aY}{fv:Value}{args:Array Value}{f:FuncId}{r l:Nat}{o:Loop}{b:Frame}{a:Act}{cs:List Frame}{assign body:Code}{w:World}{params:Array Tmp}
def Up(A:Hp->Prop):Prop:=∀H J,H.Comp J->A H->A (H.join J)
def rD(P:aY)(e:Value->Hp->Prop):Next->Hp->Prop
 | .value v,H=>e v H
 | .skip,H=>e undef H
 | .enter f args,H=>Za P f args H e
 | .round l f tmps aA g,H=>U6 P l f tmps aA g H e
 | _,_=>False
def rD.mono{g e:Value->Hp->Prop}(i:∀v H,g v H->e v H):∀{n:Next} {H:Hp},rD P g n H->rD P e n H:=by
 intro n H h;cases n with
 | value v=>exact i _ _ h
 | skip=>exact i _ _ h
 | enter f args=>exact Za.mono h i
 | round l f tmps aA j=>exact U6.mono h i
 | _=>exact h.elim
def sN(fv:Value)(args:Array Value):Sem Next:=do let d <-Deferred.ofValue fv args;invoke d.target d.args
def bR(P:aY)(fv:Value)(args:Array Value)(H:Hp)(e:Value->Hp->Prop):Prop:=
 bD P (sN fv args) (λn g h=>g=true\/rD P e n h) false H
theorem bR.mono{H:Hp}{i e:Value->Hp->Prop}(h:bR P fv args H i)(j:∀v H,i v H->e v H):bR P fv args H e:=
 Vv (λn g H h=>h.imp id (rD.mono j)) h
def rD.frame{e:Value->Hp->Prop}{F:Hp}:∀{n:Next} {H:Hp},rD P e n H->H.Comp F->rD P (λv j=>∃i,j=i.join F/\i.Comp F/\e v i) n (H.join F):=by
 intro n H h g;cases n with
 | value v=>exact⟨_,rfl,g,h⟩
 | skip=>exact⟨_,rfl,g,h⟩
 | enter f args=>exact Za.frame h g
 | round l f tmps aA k=>exact U6.frame h g
 | _=>exact h.elim
theorem bR.frame{H F:Hp}{i:Value->Hp->Prop}(h:bR P fv args H i)(q:H.Comp F) :
  bR P fv args (H.join F) (λv p=>∃j,p=j.join F/\j.Comp F/\i v j):=
 Vv (λn g p ⟨j,e,k,m⟩=>by rw[e];exact m.imp id λm=>m.frame k) (G6 h q)
def bR.of{fn:Func}{first cap:Array Value}{H:Hp}{Post:Value->Hp->Prop}(g:P.funcs[f]? = some fn)(hb:fn.body.isSome=true)(i:(fn.name == "runtime.NumGoroutine")=false)
  (h:Za P f (first++args++cap) H Post):bR P (.func (.func f) first cap) args H Post:=by
 have e:fn.body.isNone=false:=by simpa using hb
 unfold bR sN;simp only[Deferred.ofValue,Ze,Zi,invoke,callFunc,Vu,g,i,e,dO,qAf];exact .inr h
def OE(P:aY)(fv:Value)(N:Hp->Prop)(g:List (List Value)):Prop:=
 ∀(y:Value) (I:Nat->Hp->Prop) (S:Hp->Prop) (H:Hp),(∃f a b,y=.func f a b)->(∀n,Up (I n))->Up S->(∀n H,I n H->N H) ->
  (∀n (h:n<g.length) H,I n H->bR P y (g[n]).toArray H (λv e=>(v=.bool true/\I (n+1) e)\/(v=.bool false/\S e)))->I 0 H->bR P fv #[y] H (λ_ e=>I g.length e\/S e)
def BK(l:Nat):Value:=.func (.yield l) #[] #[]
def O3(r:Nat):Deferred:={ target:=.collected r,args:=#[] }
def ZO(r l:Nat)(o:Loop):Hp:=(Hp.nil.ins r (.deferred (some []))).ins l (.loop o)
def O4(r l:Nat)(o:Loop):ZO r l o l=some (.loop o,true):=Hp.aD _ _ _
def ZuB(h:r≠l)(o:Loop):ZO r l o r=some (.deferred (some []),true):=by unfold ZO;rw[Hp.aE _ _ h,Hp.aD]
def Hp.eN{H F:Hp}{o:Obj}(h:H r=none):H.join (F.ins r o)=(H.join F).ins r o:=by
 refine Hp.ext' (λb=>?_) rfl;simp only[Hp.aQ,Hp.dB];by_cases e:b=r
 ·subst e;simp[h]
 simp[e]
def LD{H:Hp}(i:H.Comp (ZO r l o))(g:Loop):(H.join (ZO r l o)).ins l (.loop g)=H.join (ZO r l g)/\H.Comp (ZO r l g):=by
 have j:H l=none:=i.left_none (O4 r l o);have e:ZO r l g=(ZO r l o).ins l (.loop g):=by
  refine Hp.ext' (λb=>?_) rfl;unfold ZO;by_cases e:b=l
  ·subst e;simp[Hp.dB]
  simp[Hp.dB,e]
 rw[e,Hp.eN j];exact⟨rfl,(i.symm.eE _ j).symm⟩
def G8{P:PQ}{p:Bool}{H:Hp}(e:P.still H.gh=false)(h:H l=some (.loop o,p))(Q:Loop->Bool->Hp->Prop)(g:Bool)(i:Q o g H):bD P (Instr.getLoop l) Q g H:=by simp only[Instr.getLoop,Ze,getObj];exact⟨_,_,⟨e,h⟩,rfl,rfl,i⟩
theorem Zqu(l:Nat)(f:FuncId)(tmps:Array Value)(assign body:Code):Frame.round l f tmps assign body .normal=on (Frame.round l f tmps assign body .normal) ⟨tmps,[]⟩ [.code assign,.beginRound,.code body]:=rfl
def ZR:Ex->Option Code
 | .normal=>none
 | .ret=>some .ret
 | .exit id=>some (.exit id)
theorem PE{G:Frame->List Frame->Hp->Prop}{c:Frame}{H:Hp}(t:∀g,P.still g=false)(p:b.roundOf=some l)(m:b.kind=.normal)(k:H.Comp (ZO r l o))
  {e:Ex} {todo:List Item} (B:(e=.normal/\todo=[])\/(e=.ret/\∃j,todo=.code .ret :: j)\/∃id,e=.exit id/\∃j,todo=.code (.exit id) :: j/\exitTo id j=none)
  (A:H.Comp (ZO r l { o with state:=if(ZR e).isNone then .ready else .done,pending:=ZR e })->Reach P G (c.finish (.bool (ZR e).isNone)) cs (H.join (ZO r l { o with state:=if(ZR e).isNone then .ready else .done,pending:=ZR e }))) :
  Reach P G (on b a todo) (c :: cs) (H.join (ZO r l o)):=by
 obtain⟨u,y⟩:=LD k { o with state:=if(ZR e).isNone then .ready else .done,pending:=ZR e };refine .oL (s:=Instr.endRound l (ZR e)) (Q:=λv _ q=>v=.bool (ZR e).isNone/\q=H.join (ZO r l { o with state:=if(ZR e).isNone then .ready else .done,pending:=ZR e })) ?_ ?_
 ·simp only[Instr.endRound,Ze];refine G8 (t _) (Hp.aP k (O4 r l o)) _ _ ?_;refine⟨_,⟨t _,Hp.aP k (O4 r l o)⟩,rfl,rfl,rfl,rfl,u⟩
 rintro v D ⟨rfl,_⟩;refine⟨c.finish (.bool (ZR e).isNone),cs,λmain w E es i=>⟨seen P b.fn es,?_,.inr rfl⟩,λq z=>by rw[z.2];exact A y⟩;rcases B with⟨rfl,rfl⟩ | ⟨rfl,j,rfl⟩ | ⟨id,rfl,j,rfl,C⟩
 ·simp only[ZR]at i;simp only[stepG,stepG.exec,on,p,ZR,i,doReturn,m,GStep.after,qAg]
 ·simp only[ZR]at i;simp only[stepG,stepG.exec,on,p,ZR,i,doReturn,m,GStep.after,qAg]
 simp only[ZR]at i;simp only[stepG,stepG.exec,on,p,ZR,C,Option.elim,i,doReturn,m,GStep.after,qAg]
theorem Zqt{tmps:Array Value}{H:Hp}{J:Hp->Prop}{S:Ex->Hp->Prop}(y:∀g,P.still g=false)(U:o.state=.ready)(T:H.Comp (ZO r l o))
  (h:dZ P ⟨false,false⟩ assign (Ex.then (dZ P ⟨false,false⟩ body (λe _ i=>match e with | .normal=>J i | e=>S e i)) (λ_ _ _=>False)) ⟨tmps,[]⟩ H) :
  U6 P l f tmps assign body (H.join (ZO r l o)) (λv z=>∃i,(v=.bool true/\z=i.join (ZO r l { o with state:=.ready,pending:=none })/\i.Comp (ZO r l { o with state:=.ready,pending:=none })/\J i) \/
   (v=.bool false/\∃e,e≠.normal/\z=i.join (ZO r l { o with state:=.done,pending:=ZR e })/\i.Comp (ZO r l { o with state:=.done,pending:=ZR e })/\S e i)):=by
 intro G c cs u C
 rw[Zqu]
 have m:Rh P ⟨false,false⟩ (Frame.round l f tmps assign body .normal):=⟨by simp[Frame.round],λh=>by simp at h,λh=>by simp at h⟩
 refine(h.frame T) G (Frame.round l f tmps assign body .normal) _ (c :: cs) u m ?_
 rintro e F z ⟨K,rfl,p,E⟩
 cases e with
 | ret=>exact E.elim
 | exit id=>exact E.elim
 | normal=>
  obtain⟨L,M⟩:=LD p { o with state:=.busy };refine .oL (s:=(do Instr.beginRound l;pure .skip:Sem Next)) (Q:=λv _ i=>v=.skip/\i=K.join (ZO r l { o with state:=.busy })) ?_ ?_
  ·simp only[Instr.beginRound,Ze];refine G8 (y _) (Hp.aP p (O4 r l o)) _ _ ?_;refine⟨_,⟨y _,Hp.aP p (O4 r l o)⟩,rfl,rfl,rfl,?_⟩;rw[U];exact⟨rfl,L⟩
  rintro v W ⟨rfl,_⟩;refine⟨on (Frame.round l f tmps assign body .normal) F [.code body],c :: cs,λmain w V es N=>⟨seen P f es,?_,.inr rfl⟩,λi O=>?_⟩
  ·have I:((on (Frame.round l f tmps assign body .normal) F [Item.beginRound,Item.code body]).kind == CallKind.early)=false:=rfl;have R:((do (some l).elim (stuck "beginRound: no round") Instr.beginRound;pure .skip:Sem Next)).runT P w #[]=(.ok .skip V,es):=N;show stepG.apply P true _ _ _ _ w=_;simp only[stepG.apply,qAH];show GStep.after _ _=_;erw [R];rfl
  rw[O.2];refine(dZ.frame E M) G (Frame.round l f tmps assign body .normal) _ (c :: cs) u m ?_;rintro e X z ⟨B,rfl,q,t⟩;cases e with
  | normal=>
   refine PE (e:=.normal) y rfl rfl q (.inl ⟨rfl,rfl⟩) λj=>C _ _ ⟨B,.inl ⟨rfl,rfl,j,t⟩⟩
  | ret=>
   intro A;refine PE (e:=.ret) y rfl rfl q (.inr (.inl ⟨rfl,A,rfl⟩)) λj=>C _ _ ⟨B,.inr ⟨rfl,.ret,by simp,rfl,j,t⟩⟩
  | exit id=>
   refine⟨λA I=>by simp[exitTo]at I,λ_ A D=>?_⟩;refine PE (e:=.exit id) y rfl rfl q (.inr (.inr ⟨id,rfl,A,rfl,D⟩)) λj=>C _ _ ⟨B,.inr ⟨rfl,.exit id,by simp,rfl,j,t⟩⟩
def GY{I:Hp->Prop}{X:Hp}(k:Up I):Up λj=>∃g:Hp,j=g.join X/\g.Comp X/\I g:=by rintro H J h ⟨g,rfl,i,m⟩;have c1:g.Comp J:=h.of_join_left;have c2:X.Comp J:=Hp.Comp.dD i h;exact⟨g.join J,Hp.eM c2.symm,Hp.Comp.gJ i c2.symm,k _ _ c1 m⟩
def ZqI{G:Frame->List Frame->Hp->Prop}{fr:Frame}{H:Hp}{q:Value->Hp->Prop}(y:Uc G)(L:fr.kind≠.early)(D:∃l k,fr.todo=.inRangeFunc l :: k)
  (h:bR P fv args H q) (B:∀v i,q v i->Reach P G (fr.finish v) cs i) (M:H.le w) :
  ∃u s p i es,stepG.apply P true fr cs none (sN fv args) w=.go (bO u s) p es/\Fr H w i p/\Reach P G u s i/\∀e∈es,EvL H w p.heap.size e:=by
 obtain⟨n,p,i,es,g,t,A,⟨F,J⟩,I⟩:=Pp #[] h M;obtain rfl:g=false:=by
  cases g with
  | false=>rfl
  | true=>exact(J rfl).symm
 have z:=F.resolve_left (by simp);have m:(fr.kind == CallKind.early)=false:=X8 L;have j:∀e∈seen P fr.fn es,EvL H w p.heap.size e:=λe K=>I e (M6 _ _ _ e K);simp only[Array.empty_append]at t;obtain⟨l,k,D⟩:=D;cases n with
 | value v=>exact⟨fr.finish v,cs,p,i,_,by simp only[stepG.apply,t,qAH,m,dO,qAf,GStep.after,qAg],A,B _ _ z,j⟩
 | skip=>exact⟨fr.finish undef,cs,p,i,_,by simp only[stepG.apply,t,qAH,m,dO,qAf,GStep.after,qAg],A,B _ _ z,j⟩
 | enter f args=>exact⟨Frame.enter P f args .normal,fr :: cs,p,i,_,by simp only[stepG.apply,D,t,qAH,m,dO,qAf,GStep.after,qAg],A,z G _ cs y λv C E=>B _ _ E,j⟩
 | round l f tmps assign body=>exact⟨Frame.round l f tmps assign body .normal,fr :: cs,p,i,_,by simp only[stepG.apply,t,qAH,m,dO,qAf,GStep.after,qAg],A,z G _ cs y λv C E=>B _ _ E,j⟩
 | _=>exact z.elim
def Zpy{P:Program}{main:Bool}{k:List Item}{f:Operand}{q:World}{mk:Deferred}(g:b.roundOf=none)
  (e:(Instr.enterLoop b.fn a.tmps params assign body none).runT P w #[]=(.ok (l,[mk]) q,#[])) :
  stepG P main (bO (on b a (.code (.rangeFunc f params assign body) :: k)) cs) w =
   GStep.after (seen P b.fn #[]) (stepG.apply P true { b with tmps:=a.tmps,todo:=.inRangeFunc l :: k,defers:=mk :: a.defers,mode:=.run } cs none (sN (a.eval f) #[BK l]) q):=by
 obtain⟨s,t,m,p,j,i,h⟩:=b
 simp only at g e
 subst g
 simp only[on,stepG,stepG.exec,e]
 congr 2
 simp only[resolve,sN,qBq,qBh,qBJ,Frame.eval,BK]
 congr 1
theorem dZ.rangeFunc{nr:Bool}{f:Operand}{Q:Ex->Act->Hp->Prop}{H:Hp}(F:∀g,P.still g=false){N:Hp->Prop}{u:List (List Value)}(JF:OE P (a.eval f) N u)
  (Y:∀x∈u,x.length=params.size) (I:Nat->Hp->Prop) (S:Ex->Hp->Prop) (IQ:∀n,Up (I n)) (IP:∀e,Up (S e)) (hN:∀n H J,I n H->H.Comp J->N (H.join J)) (h0:I 0 H)
  (D:∀n (hn:n<u.length) H,I n H->dZ P ⟨false,false⟩ assign (Ex.then (dZ P ⟨false,false⟩ body (λe _ i=>match e with | .normal=>I (n+1) i | e=>S e i)) (λ_ _ _=>False)) ⟨(params.zip (u[n]).toArray).foldl (λtmps (t,a)=>tmps.setIfInBounds t a) a.tmps,[]⟩ H)
  (L:∀i r J,I u.length i->i.Comp J->J r=some (.deferred (some []),true)->Q .normal ⟨a.tmps,O3 r :: a.defers⟩ (i.join J))
  (B:∀e i r J,e≠.normal->S e i->i.Comp J->J r=some (.deferred (some []),true)->Q e ⟨a.tmps,O3 r :: a.defers⟩ (i.join J)) :
  dZ P ⟨true,nr⟩ (.rangeFunc f params assign body) Q a H:=by
 intro G b k cs V hb hG;have hrd:b.roundOf=none:=hb.l7 rfl;refine .step ⟨λmain w hw=>?_,λjT=>by rw[F]at jT;simp at jT⟩;have A:=Fr.alloc hw (.deferred (some []));generalize h:({ state:=.ready,pending:=none,fn:=b.fn,tmps:=a.tmps,params,assign,body,defers:=w.heap.size }:Loop)=rec;have m:=Fr.alloc A.le (.loop rec);have tY:({ w with heap:=w.heap.push (.deferred (some [])) }:World).heap.size=w.heap.size+1:=by simp
 rw[tY]at m;have wB:H w.heap.size=none:=by
  cases W:H w.heap.size with
  | none=>rfl
  | some y=>exact absurd (hw.lt W) O
 have X:H (w.heap.size+1)=none:=by
  cases W:H (w.heap.size+1)with
  | none=>rfl
  | some y=>exact absurd (hw.lt W) O
 have hX:(H.ins w.heap.size (.deferred (some []))).ins (w.heap.size+1) (.loop rec)=H.join (ZO w.heap.size (w.heap.size+1) rec):=by unfold ZO;rw[Hp.eN X,Hp.eN wB,Hp.dF]
 have hXc:H.Comp (ZO w.heap.size (w.heap.size+1) rec):=(((Hp.dI H).symm.eE _ wB).eE _ X).symm;rw[hX]at m;generalize hre:w.heap.size=r at *;generalize nV:r+1=l at *;have Xx:r≠l:=O;let C:Frame:={ b with tmps:=a.tmps,todo:=.inRangeFunc l :: k,defers:=O3 r :: a.defers,mode:=.run }
 have K:bR P (a.eval f) #[BK l] (H.join (ZO r l rec)) (λ_ p=>∃(e:Ex) (i:Hp),p=i.join (ZO r l { rec with state:=if(ZR e).isNone then .ready else .done,pending:=ZR e })/\i.Comp (ZO r l { rec with state:=if(ZR e).isNone then .ready else .done,pending:=ZR e })/\(match e with | .normal=>I u.length i | e=>S e i)):=by
  have h1:=JF (BK l) (λn p=>∃j:Hp,p=j.join (ZO r l rec)/\j.Comp (ZO r l rec)/\I n j)
   (λp=>∃e:Ex,e≠.normal/\∃j:Hp,p=j.join (ZO r l { rec with state:=.done,pending:=ZR e })/\j.Comp (ZO r l { rec with state:=.done,pending:=ZR e })/\S e j)
   (H.join (ZO r l rec)) ⟨_,_,_,rfl⟩ (λn=>GY (IQ n)) (λp J U ⟨e,z,W⟩=>⟨e,z,GY (IP e) p J U W⟩) ?_ ?_ ⟨H,rfl,hXc,h0⟩
  ·refine h1.mono ?_;rintro v p (⟨j,rfl,q,hi⟩ | ⟨e,z,j,rfl,q,F⟩)
   ·subst h;exact⟨.normal,j,rfl,q,hi⟩
   cases e with
   | normal=>exact absurd rfl z
   | ret=>exact⟨.ret,j,rfl,q,F⟩
   | exit id=>exact⟨.exit id,j,rfl,q,F⟩
  ·rintro n p ⟨j,rfl,q,hi⟩;exact hN n j _ hi q
  rintro n hn p ⟨j,rfl,q,hi⟩;unfold bR sN BK;simp only[Deferred.ofValue,Ze,Zi,invoke,Instr.yield];refine G8 (F _) (Hp.aP q (O4 r l rec)) _ _ ?_;have Z:rec.params=params:=by rw[<-h]
  have h2:(#[]++(u[n]).toArray).size=rec.params.size:=by rw[Z];simp[Y _ (qAa hn)]
  simp only[h2,ne_eq,not_true_eq_false,qAf,Zi,rD];refine .inr ?_;have h3:=D n hn j hi;have h4:=Zqt (r:=r) (l:=l) (o:=rec) (f:=rec.fn) (J:=I (n+1)) (S:=S) F (by rw[<-h]) q h3;have h5:(rec.params.zip (#[]++(u[n]).toArray)).foldl (λtmps (t,a)=>tmps.setIfInBounds t a) rec.tmps=(params.zip (u[n]).toArray).foldl (λtmps (t,a)=>tmps.setIfInBounds t a) a.tmps:=by rw[<-h,Array.empty_append]
  have h6:rec.assign=assign:=by rw[<-h]
  have h7:rec.body=body:=by rw[<-h]
  rw[show U6 P l rec.fn ((rec.params.zip (#[]++(u[n]).toArray)).foldl (λtmps (t,a)=>tmps.setIfInBounds t a) rec.tmps) rec.assign rec.body=U6 P l rec.fn ((params.zip (u[n]).toArray).foldl (λtmps (t,a)=>tmps.setIfInBounds t a) a.tmps) assign body by rw[h5,h6,h7]];refine h4.mono ?_;rintro v p ⟨H2,⟨rfl,R,E,T⟩ | ⟨rfl,e,z,R,E,T⟩⟩
  ·refine .inl ⟨rfl,H2,?_,?_,T⟩
   ·rw[R];congr 2;rw[<-h]
   rw[<-h];rw[<-h]at E;exact E
  exact .inr ⟨rfl,e,z,H2,R,E,T⟩
 have M:∀v p,(∃(e:Ex) (i:Hp),p=i.join (ZO r l { rec with state:=if(ZR e).isNone then .ready else .done,pending:=ZR e })/\i.Comp (ZO r l { rec with state:=if(ZR e).isNone then .ready else .done,pending:=ZR e })/\(match e with | .normal=>I u.length i | e=>S e i))->Reach P G (C.finish v) cs p:=by
  rintro v p ⟨e,j,rfl,q,hq⟩;obtain⟨R,E⟩:=LD q { rec with state:=.exhausted,pending:=ZR e };refine .oL (s:=Instr.endLoop l) (Q:=λv _ i=>v=ZR e/\i=j.join (ZO r l { rec with state:=.exhausted,pending:=ZR e })) ?_ ?_
  ·simp only[Instr.endLoop,Ze];refine G8 (F _) (Hp.aP q (O4 r l _)) _ _ ?_;have:((if(ZR e).isNone=true then LoopState.ready else LoopState.done) == LoopState.busy)=false:=by cases e<;>rfl
   simp only[this,dO,qAf,Zi];exact⟨_,⟨F _,Hp.aP q (O4 r l _)⟩,rfl,rfl,rfl,rfl,R⟩
  rintro v H0 ⟨rfl,_⟩;refine⟨on b ⟨a.tmps,O3 r :: a.defers⟩ (((ZR e).map Item.code).toList++k),cs,λmain w w' es T=>⟨seen P b.fn es,?_,.inr rfl⟩,λi e4=>?_⟩
  ·simp only[C,Frame.finish,stepG,stepG.exec,T,GStep.after,qAg];rfl
  rw[e4.2];have U:=ZuB Xx ({ rec with state:=.exhausted,pending:=ZR e }:Loop);cases e with
  | normal=>exact hG .normal _ _ (L _ r _ hq E U)
  | ret=>exact hG .ret _ _ (B .ret _ r _ (by simp) hq E U) k
  | exit id=>exact dZ.exit (B (.exit id) _ r _ (by simp) hq E U) G b k cs V hb hG
 have IM:(H.join (ZO r l rec)).le _:=m.le;obtain⟨dN,dH,w',i,es,a1,a2,a3,a4⟩:=ZqI (fr:=C) V hb.kind ⟨l,k,rfl⟩ K M IM;have Xs:=(A.trans m).trans a2;refine⟨dN,dH,w',i,seen P b.fn #[]++es,?_,Xs,a3,λe z=>?_⟩
 ·have hen:(Instr.enterLoop b.fn a.tmps params assign body none).runT P w #[]=(.ok (l,[O3 r]) { { w with heap:=w.heap.push (.deferred (some [])) }with heap:=(w.heap.push (.deferred (some []))).push (.loop rec) },#[]):=by subst nV;subst hre;subst h;simp[- Sem.runT_eq,Instr.enterLoop,newObj,Sem.runT,bind,Sem.bind,pure,O3]
  rw[Zpy hrd hen];show GStep.after _ (stepG.apply P true C cs none _ _)=_;rw[a1];rfl
 rcases qAC.1 z with z | z
 ·exact absurd (M6 _ _ _ e z) (by simp)
 exact(a4 e z).nJ (A.trans m) a2.size
