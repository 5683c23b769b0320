import Derived.Test.YtmfealhfgccmfaaGreatDoorP02
import Derived.Test.YtmfealhfgccmfaaGreatDoorP03
set_option linter.all false
def SX{G:Prop}(h:G:=by rw[Nv hm];obtain⟨tg,da⟩:=d;simp only at hr;subst hr;unfold unwind;rw[hd];simp only[e1,GStep.after,qAt,qAw]):G:=h
def GX{G:Prop}(h:G:=by simp only[Instr.takeDeferred,Zf,getObj,setObj];exact⟨_,_,⟨nO,h1⟩,rfl,rfl,_,⟨nO,h1⟩,rfl,rfl,rfl,rfl,rfl⟩):G:=h
namespace Go.LL
section
variable{fK:Array Oper}{done l:List Nat}{pre:Nat->List Nat}{a b x n:Nat}
def Y2(fK:Array Oper)(i:Nat):List Nat:=
 match fK[i]? with
 | some o=>(o.after.toList.filter (Region.binds .any)).map (·.on)
 | none=>[]
def UH(fK:Array Oper):Bool:=(List.range fK.size).all λi=>(Y2 fK i).all λp=>decide (p<i)
def Zvt(h:Region.Mode)(fK:Array Oper):∀(e t:Nat) (listed:Array Bool) (g:List Nat),
  Region.linearise.go h fK e t listed g=g.reverse++Region.linearise.go h fK e t listed []:=by
 intro e;induction e with
 | zero=>intro t listed g;simp[Region.linearise.go]
 | succ e ih=>
  intro t listed g;simp only[Region.linearise.go];split
  ·rename_i i _;rw[ih _ _ (i :: g),ih _ _ [i]];simp
  simp
def Zmd{p q:Nat->Bool}{i:Nat}:∀{l:List Nat},l.Nodup->i∈l->p i=true->(∀j,j≠i->q j=p j)->q i=false->(l.filter q).length+1=(l.filter p).length
 | [],_,h,_,_,_=>by simp at h
 | x :: l,m,h,t,s,g=>by
  simp only[qDz]at m;by_cases e:x=i
  ·subst e;have:l.filter q=l.filter p:=qDS λj u=>s j λe=>m.1 (e ▸ u);simp[t,g,this]
  have k:i∈l:=by simp only[qAi]at h;exact h.resolve_left (qAo e)
  have ih:=Zmd m.2 k t s g;simp only[qCy,s x e];cases p x<;>simp[ih]
def Zlx{fK:Array Oper}(v:UH fK=true):∀(g t:Nat) (listed:Array Bool) (done:List Nat),listed.size=fK.size->(∀i,i<fK.size->(listed.getD i true=true↔i∈done))->((List.range fK.size).filter λi=>!listed.getD i true).length=g ->
  nU fK.size (Y2 fK) done (Region.linearise.go .any fK g t listed [])
 | 0,t,listed,done,L,E,J=>by
  simp only[Region.linearise.go,List.reverse_nil];refine .nil λi U=>(E i U).1 ?_;have:=qAr J;cases D:listed.getD i true with
  | true=>rfl
  | false=>
   have K:i∈(List.range fK.size).filter λi=>!listed.getD i true:=qAu.2 ⟨qAA.2 U,by simp[D]⟩;rw[this]at K;simp at K
 | g+1,t,listed,done,L,E,J=>by
  simp only[Region.linearise.go];have s:∀i,(i∈(List.range fK.size).filter λi=>!listed.getD i true && ((fK[i]?).map (·.after.all λe=>!Region.binds .any e || listed.getD e.on false)).getD false)↔i<fK.size/\listed.getD i true=false/\∀p∈Y2 fK i,listed.getD p false=true:=by
   intro i;simp only[qAu,qAA,qAc,qBi];constructor
   ·rintro⟨m,z,u⟩;refine⟨m,z,λp C=>?_⟩;unfold Y2 at C;have T:fK[i]? = some fK[i]:=qBc m;rw[T]at C u;simp only[qAy,qAu]at C;obtain⟨e,⟨M,N⟩,rfl⟩:=C;simp only[qBC,Option.getD_some]at u;have:=qAn.1 u e (qAS.1 M);simpa[N]using this
   rintro⟨m,z,u⟩;refine⟨m,z,?_⟩;have T:fK[i]? = some fK[i]:=qBc m;unfold Y2 at u;rw[T]at u ⊢;simp only[qBC,Option.getD_some];refine qAn.2 λe W=>?_;cases hb:Region.binds .any e with
   | false=>simp
   | true=>
    simp only[qDN,qDO];exact u e.on (by simp only[qAy,qAu];exact⟨e,⟨qAS.2 W,hb⟩,rfl⟩)
  have Q:∃i,i<fK.size/\listed.getD i true=false:=by
   cases D:(List.range fK.size).filter λi=>!listed.getD i true with
   | nil=>rw[D]at J;simp at J
   | cons x Z=>
    have:x∈(List.range fK.size).filter λi=>!listed.getD i true:=by rw[D];simp
    simp only[qAu,qAA,qBi]at this;exact⟨x,this⟩
  have B:∃i,i<fK.size/\listed.getD i true=false/\∀j,j<i->listed.getD j true=true:=by
   obtain⟨k,V⟩:=Q;induction k using Nat.strongRecOn with
   | _ k ih=>
    by_cases h:∃j,j<k/\listed.getD j true=false
    ·obtain⟨j,A,R⟩:=h;exact ih j A ⟨O,R⟩
    refine⟨k,V.1,V.2,λj A=>?_⟩;cases D:listed.getD j true with
    | true=>rfl
    | false=>exact absurd ⟨j,A,D⟩ h
  have F:∀j,j<fK.size->listed.getD j false=listed.getD j true:=by intro j A;simp[qBI,qBc (show j<listed.size by rw[L];exact A)]
  have S:((List.range fK.size).filter λi=>!listed.getD i true && ((fK[i]?).map (·.after.all λe=>!Region.binds .any e || listed.getD e.on false)).getD false)≠[]:=by
   obtain⟨i,m,z,u⟩:=B;have:i∈(List.range fK.size).filter λi=>!listed.getD i true && ((fK[i]?).map (·.after.all λe=>!Region.binds .any e || listed.getD e.on false)).getD false:=by refine(s i).2 ⟨m,z,λp C=>?_⟩;have:=qAf.1 (qAf.1 v i (qAA.2 m)) p C;simp only[qAK]at this;rw[F p O];exact u p this
   intro H;rw[H]at this;simp at this
  generalize Y:((List.range fK.size).filter λi=>!listed.getD i true && ((fK[i]?).map (·.after.all λe=>!Region.binds .any e || listed.getD e.on false)).getD false)=I at *;have G:t % I.length<I.length:=qDo _ (by cases I with | nil=>exact absurd rfl S | cons x Z=>simp);rw[qAZ G];simp only;rw[Zvt,List.reverse_singleton,qDy];obtain⟨m,z,u⟩:=(s _).1 (iN G);generalize I[t % I.length]=i at *;have y:∀j,(listed.setIfInBounds i true).getD j true=if j=i then true else listed.getD j true:=by
   intro j;simp only[qBI,qCm];by_cases e:i=j
   ·subst e;simp[L,m]
   simp[e,qAo e]
  refine .cons m (λK=>?_) (λp C=>?_) (Zlx v g _ _ (i :: done) (by simp[L]) (λj A=>?_) ?_)
  ·rw[(E i m).2 K]at z;simp at z
  ·have X:p<i:=by simpa using qAf.1 (qAf.1 v i (qAA.2 m)) p C
   refine(E p O).1 ?_;rw[<-F p O];exact u p C
  ·rw[y];by_cases e:j=i
   ·simp[e]
   rw[iF e];simp only[qAi,e,false_or];exact E j A
  have:=Zmd (p:=λj=>!listed.getD j true) (q:=λj=>!(listed.setIfInBounds i true).getD j true) (i:=i) List.nodup_range (qAA.2 m) (by simp[z]) (λj A=>by simp only[y,iF A]) (by simp[y]);omega
def Zfx(e:UH fK=true)(t:Nat):nU fK.size (Y2 fK) [] (Region.schedule true fK t):=by
 simp only[Region.schedule,Bool.true_or,qBb,Region.linearise];refine Zlx e _ _ _ _ (by simp) (λi g=>?_) ?_
 ·simp[g]
 have:((List.range fK.size).filter λi=>!(Array.replicate fK.size false).getD i true)=List.range fK.size:=by refine List.filter_eq_self.2 λi g=>?_;have:=qAA.1 g;simp[this]
 rw[this,qBo]
def Zfu(g:List Nat)(e:List Nat):Nat:=g.foldl (λs p=>s ||| 2 ^ p ||| e.getD p 0) 0
def n9(fK:Array Oper):Nat->List Nat
 | 0=>[]
 | n+1=>n9 fK n++[Zfu (Y2 fK n) (n9 fK n)]
def XV(fK:Array Oper):∀n,(n9 fK n).length=n
 | 0=>rfl
 | n+1=>by simp[n9,XV fK n]
def Zfs(fK:Array Oper):∀n i,i<n->(n9 fK n).getD i 0=Zfu (Y2 fK i) (n9 fK i)
 | 0,i,h=>by omega
 | n+1,i,h=>by
  simp only[n9,qAp];by_cases e:i=n
  ·subst e;rw[qBz (by rw[XV];exact DO _),XV];simp
  rw[qAQ (by rw[XV];omega)];have:=Zfs fK n i O;rw[qAp]at this;exact this
def Zlo:∀(i:List Nat) (g:List Nat) (s e:Nat),(i.foldl (λs p=>s ||| 2 ^ p ||| g.getD p 0) s).testBit e=true->s.testBit e=true\/e∈i\/∃p∈i,(g.getD p 0).testBit e=true
 | [],g,s,e,h=>.inl h
 | p :: i,g,s,e,h=>by
  simp only[qBG]at h;rcases Zlo i g _ e h with h | h | ⟨q,j,h⟩
  ·rw[qDE,qDE,qBP,qBP]at h;rcases h with(h | h) | h
   ·exact .inl h
   ·refine .inr (.inl ?_);rw[Nat.testBit_two_pow]at h;simp at h;simp[h]
   exact .inr (.inr ⟨p,by simp,h⟩)
  ·exact .inr (.inl (by simp[h]))
  exact .inr (.inr ⟨q,by simp[j],h⟩)
def Zul(j:UH fK=true)(m:∀i∈done,∀p∈Y2 fK i,p∈done):∀(x e:Nat),(Zfu (Y2 fK x) (n9 fK x)).testBit e=true->(∀p∈Y2 fK x,p∈done)->e∈done:=by
 intro x;induction x using Nat.strongRecOn with
 | _ x ih=>
  intro e h s;rcases Zlo _ _ _ e h with h | h | ⟨p,g,h⟩
  ·simp at h
  ·exact s e h
  have k:p<x:=by
   rcases qBh x fK.size with q | q
   ·simpa using qAf.1 (qAf.1 j x (qAA.2 q)) p g
   unfold Y2 at g;rw[qCI q]at g;simp at g
  rw[Zfs fK x p k]at h;exact ih p k e h (m p (s p g))
def VA(pre:Nat->List Nat)(a b:Nat)(x:Nat):List Nat:=if Nat.beq x b then a :: pre x else pre x
def QI(W:Nat->Nat->Bool)(a b:Nat)(x e:Nat):Bool:=W x e || ((Nat.beq x b || W x b) && (Nat.beq e a || W a e))
def ZeT:VA pre a b b=a :: pre b:=by have:Nat.beq b b=true:=Nat.beq_refl b;simp[VA,this]
def Bb(h:x≠b):VA pre a b x=pre x:=by
 have:Nat.beq x b=false:=by
  cases hb:Nat.beq x b with
  | false=>rfl
  | true=>exact absurd (qBs hb) h
 simp[VA,this]
def ZhT{p:Nat}(h:p∈pre x):p∈VA pre a b x:=by
 by_cases e:x=b
 ·subst e;rw[ZeT];exact qAm _ h
 rw[Bb e];exact h
def Ao{W:Nat->Nat->Bool}(t:∀(x e:Nat) (done:List Nat),(∀i∈done,∀p∈pre i,p∈done)->W x e=true->(∀p∈pre x,p∈done)->e∈done) :
  ∀(x e:Nat) (done:List Nat),(∀i∈done,∀p∈VA pre a b i,p∈done)->QI W a b x e=true->(∀p∈VA pre a b x,p∈done)->e∈done:=by
 intro x e done j s v;have g:∀i∈done,∀p∈pre i,p∈done:=λi y p h=>j i y p (ZhT h);have m:∀p∈pre x,p∈done:=λp h=>v p (ZhT h);simp only[QI,qBP,qAc]at s;rcases s with s | ⟨q,k⟩
 ·exact t x e done g s m
 have u:a∈done:=by
  rcases q with q | q
  ·have:x=b:=qBs q;subst this;exact v a (by rw[ZeT];simp)
  have hb:=t x b done g q m;exact j b hb a (by rw[ZeT];simp)
 rcases k with k | k
 ·rw[qBs k];exact u
 exact t a e done g k (g a u)
def nU.rR(h:nU n pre done l)(g:a∈done):nU n (VA pre a b) done l:=by
 induction h with
 | nil h=>exact .nil h
 | cons j hd i _ ih=>
  refine .cons j hd (λp e=>?_) (ih (qAm _ g));unfold VA at e;split at e
  ·rcases qAi.1 e with rfl | e
   ·exact g
   exact i p e
  exact i p e
def nU.WW(g:a≠b)(s:a<n)(h:nU n pre done l)(t:a ∉ done)(hb:b ∉ done):nU n (VA pre a b) done l\/nU n (VA pre b a) done l:=by
 induction h with
 | nil h=>exact absurd (h a s) t
 | @cons done l i j hd k u ih=>
  by_cases m:i=a
  ·subst m;exact .inl (.cons j hd (λp e=>k p (by rw[Bb g]at e;exact e)) (u.rR (by simp)))
  by_cases q:i=b
  ·subst q;exact .inr (.cons j hd (λp e=>k p (by rw[Bb (qAo g)]at e;exact e)) (u.rR (by simp)))
  refine(ih (by simp[qAo m,t]) (by simp[qAo q,hb])).imp (λh=>?_) (λh=>?_)
  ·exact .cons j hd (λp e=>k p (by rw[Bb q]at e;exact e)) h
  exact .cons j hd (λp e=>k p (by rw[Bb m]at e;exact e)) h
def XT(n:Nat)(pre:Nat->List Nat):List Nat->List Nat->Bool
 | done,[]=>(List.range n).all λi=>done.contains i
 | done,i :: l=>decide (i<n) && !(done.contains i) && ((pre i).all λp=>done.contains p) && XT n pre (i :: done) l
def Zly{n:Nat}{pre:Nat->List Nat}:∀{l done:List Nat},XT n pre done l=true->nU n pre done l
 | [],done,h=>.nil λi e=>by simp only[XT,qAf,qCU,qAK]at h;exact h i (qAA.2 e)
 | i :: l,done,h=>by simp only[XT,qAc,qAK,qBi,qCU,qBU,qAf]at h;exact .cons h.1.1.1 h.1.1.2 (λp g=>h.1.2 p g) (Zly h.2)
def ZsO(pre:Nat->List Nat)(g h:Nat->Bool)(W:Nat->Nat->Bool)(done rest:List Nat):Option Nat:=
 let ready:=rest.filter λi=>(pre i).all λp=>done.contains p
 match ready.find? g with
 | some i=>some i
 | none=>match ready.find? λi=>!(h i)with
  | some i=>some i
  | none=>match rest.find? λi=>!(g i) && !(h i)with
   | some e=>match ready.find? λi=>W e i with
    | some i=>some i
    | none=>ready.head?
   | none=>ready.head?
def ZmU(pre:Nat->List Nat)(e g:Nat->Bool)(W:Nat->Nat->Bool):Nat->List Nat->List Nat->List Nat
 | 0,_,_=>[]
 | k+1,done,rest=>match ZsO pre e g W done rest with
  | some i=>i :: ZmU pre e g W k (i :: done) (rest.erase i)
  | none=>[]
def Zl6(X:Nat->NI)(W:Nat->Nat->Bool):List Nat->List Nat->List (Nat×Bool)
 | _,[]=>[]
 | e,i :: l=>(if(X i).op.cls == 1 && (e.any λc=>(X c).op.cls == 0 && !(W i c))then[(i,e.any λc=>(X c).op.cls == 0 && !(W i c) && (X c).op.C9)]else[])++Zl6 X W (i :: e) l
def Lc(x:NI):NI:=match x.op with
 | .fJ _ _ z e=>⟨none,none,.build z e⟩
 | _=>⟨none,none,.lS (.const undef)⟩
def XH(X:Nat->NI)(e:Nat->Option Bool)(W:Nat->Nat->Bool):List Nat->List (NI×Option Bool)
 | []=>[]
 | i :: l=>(if(X i).op.cls == 0 then[]else(l.filter λx=>ON (X x) && !(W x i)).map λx=>(Lc (X x),none))++(X i,e i) :: XH X e W l
end
section
variable{P:fP}{kd:CallKind}{f:FuncId}{args:Array Value}{main:Bool}{fr c:Frame}{cs:List Frame}{d:Deferred}{w:World}{fn:Func}
def KG(c:Frame):Prop:=match c.mode with
 | .panicking ({ recovered:=true,.. } :: _)=>False
 | _=>True
def XY:CallKind->Frame->Prop
 | .normal,_=>True
 | .deferred,c=>KG c
 | _,_=>False
def P7(kd:CallKind)(c:Frame)(v:Value):Frame:=match kd with
 | .normal=>c.finish v
 | _=>c
def Vd(P:fP)(kd:CallKind)(f:FuncId)(args:Array Value)(H:Hp)(Post:Value->Hp->Prop):Prop:=
 ∀(G:Frame->List Frame->Hp->Prop) (c:Frame) (cs:List Frame),V7 G->XY kd c->(∀v e,Post v e->Reach P G (P7 kd c v) cs e)->Reach P G (Frame.enter P f args kd) (c :: cs) H
def Vd.mono{H:Hp}{g e:Value->Hp->Prop}(h:Vd P kd f args H g)(p:∀v H,g v H->e v H):Vd P kd f args H e:=
 λG c cs k m j=>h G c cs k m λv i q=>j v i (p _ _ q)
def Vd.qP{H:Hp}{e:Value->Hp->Prop}(h:Vd P .normal f args H e):Zb P f args H e:=λG c cs i g=>h G c cs i trivial g
def UQ:Target->Bool
 | .collected _ | .nil=>false
 | _=>true
def EK(P:fP)(K:Hp->Prop):Next->Hp->Prop
 | .enter f args,H=>Vd P .deferred f args H λ_ e=>K e
 | .value _,H=>K H
 | .skip,H=>K H
 | _,_=>False
def rI(P:fP)(fn:Func)(tmps:Array Value)(e:Value->Hp->Prop):List Deferred->Hp->Prop
 | [],H=>fZ P (results fn tmps) (λv _ g=>e v g) false H
 | d :: h,H=>match d.target with
  | .collected r=>P.still H.gh=false/\H r=some (.deferred (some []),true)/\rI P fn tmps e h (H.ins r (.deferred none))
  | _=>UQ d.target=true/\(fZ P (invoke d.target d.args) (λn _ g=>EK P (rI P fn tmps e h) n g) false H \/
    (UI P.toProgram (invoke d.target d.args)/\Zm P (invoke d.target d.args) false false H λ_ g=>rI P fn tmps e h g))
theorem Zwf{P:Program}(g:fr.kind=kd)(e:XY kd c)(v:Value)(w:World):doReturn P main fr (c :: cs) none v w=.go (gG (P7 kd c v) cs) w:=by
 unfold doReturn;cases kd<;>simp only[XY]at e<;>simp only[g,P7]
 unfold KG at e;congr 1;split
 ·rename_i h;rw[h]at e;exact e.elim
 rfl
def Mz{P:Program}{e:List Deferred}(g:fr.defers=d :: e)(i:UQ d.target=true):unwind P main fr cs none w=callDeferred P { fr with defers:=e } cs none d w:=by
 unfold unwind;rw[g];split
 ·rename_i h;simp only[qBg]at h;obtain⟨rfl,rfl⟩:=h;simp[UQ]at i
 ·rename_i h;simp only[qBg]at h;obtain⟨rfl,rfl⟩:=h;rfl
 rename_i h;simp at h
theorem Nv{P:Program}(e:fr.mode=.returning):stepG P main (gG fr cs) w=unwind P main fr cs none w:=by obtain⟨fn,tmps,todo,defers,mode,kind,roundOf⟩:=fr;simp only at e;subst e;rfl
def Oo{P:Program}{g:World}{n:Next}{es:Array Event}(i:UQ d.target=true)(h:(invoke d.target d.args).runT P w #[]=(.ok n g,es)) :
  (∀f args,n=.enter f args->callDeferred P fr cs none d w=.go (gG (Frame.enter P f args .deferred) (fr :: cs)) g (seen P fr.fn es)) /\
  ((∃v,n=.value v)\/n=.skip->callDeferred P fr cs none d w=.go (gG fr cs) g (seen P fr.fn es)):=by
 obtain⟨target,e⟩:=d;cases target with
 | nil=>simp[UQ]at i
 | collected r=>simp[UQ]at i
 | _=>
  refine⟨?_,?_⟩
  ·rintro f args rfl;unfold callDeferred;simp only[h,qCL,oR,qAq,GStep.after,qAw]
  rintro(⟨v,rfl⟩ | rfl)<;>(unfold callDeferred;simp only[h,qCL,oR,qAq,GStep.after,qAw])
def ZhK{G:Frame->List Frame->Hp->Prop}{g:Value->Hp->Prop}(t:V7 G)(K:XY kd c)(J:∀v e,g v e->Reach P G (P7 kd c v) cs e) :
  ∀(j:List Deferred) (fr:Frame) (H:Hp),fr.mode=.returning->fr.defers=j->fr.kind=kd->P.funcs[fr.fn]? = some fn->rI P fn fr.tmps g j H->Reach P G fr (c :: cs) H:=by
 intro j;induction j with
 | nil=>
  intro fr H hm hd B A h;refine .z7 h ?_;intro v _ _;refine⟨P7 kd c v,cs,λmain w z es e1=>⟨seen P fr.fn es,?_,.inr rfl⟩,λe q=>J _ _ q⟩;simp only[gG,stepG,hm,unwind,hd,A,e1,Zwf B K,GStep.after,qAw]
 | cons d j ih=>
  intro fr H hm hd B A h;have i:∀e,rI P fn fr.tmps g j e->Reach P G { fr with defers:=j } (c :: cs) e:=λe C=>ih { fr with defers:=j } e hm rfl B A C;have p:(∃r,d.target=.collected r)\/(UQ d.target=true/\(fZ P (invoke d.target d.args) (λn _ e=>EK P (rI P fn fr.tmps g j) n e) false H \/
    (UI P.toProgram (invoke d.target d.args)/\Zm P (invoke d.target d.args) false false H λ_ e=>rI P fn fr.tmps g j e))):=by
   simp only[rI]at h
   split at h
   ·exact .inl ⟨_,‹_›⟩
   ·exact .inr h
  rcases p with⟨r,hr⟩ | p
  ·simp only[rI,hr]at h;obtain⟨nO,h1,I⟩:=h;refine .z7 (s:=Instr.takeDeferred r) (Q:=λv _ e=>v=[]/\e=H.ins r (.deferred none)) ?_ ?_
   ·exact GX
   rintro v E ⟨rfl,_⟩;refine⟨{ fr with defers:=j },c :: cs,λmain w z es e1=>⟨seen P fr.fn es,?_,.inr rfl⟩,λe q=>?_⟩
   ·exact SX
   rw[q.2];exact i _ I
  obtain⟨u,h⟩:=p;have m:∀main cs w,stepG P main (gG fr cs) w=callDeferred P { fr with defers:=j } cs none d w:=by intro main cs w;rw[Nv hm];exact Mz hd u
  have k:∀main w,stepG P main (gG fr (c :: cs)) w=callDeferred P { fr with defers:=j } (c :: cs) none d w:=λmain w=>m main _ w;rcases h with h | ⟨y,h⟩
  case inr=>
   refine h G fr (λ_=>{ fr with defers:=j }) (c :: cs) t ⟨λmain cs w z v es e1=>?_,.inl y,.inl y,λh=>by simp at h,λh=>by simp at h,.inl y⟩ λv e C=>i _ C
   rw[m]
   exact(Oo u e1).2 (.inl ⟨v,rfl⟩)
  refine .z7 h ?_;intro n E F;cases n with
  | enter f args=>
   refine⟨_,_,λmain w z es e1=>⟨seen P fr.fn es,?_,.inr rfl⟩,λe q=>q G _ (c :: cs) t (show KG { fr with defers:=j }by unfold KG;rw[hm];trivial) λv D y=>i _ y⟩;rw[k];exact(Oo u e1).1 f args rfl
  | value v=>
   refine⟨{ fr with defers:=j },c :: cs,λmain w z es e1=>⟨seen P fr.fn es,?_,.inr rfl⟩,λe q=>i _ q⟩;rw[k];exact(Oo u e1).2 (.inl ⟨v,rfl⟩)
  | skip=>
   refine⟨{ fr with defers:=j },c :: cs,λmain w z es e1=>⟨seen P fr.fn es,?_,.inr rfl⟩,λe q=>i _ q⟩;rw[k];exact(Oo u e1).2 (.inr rfl)
  | _=>exact F.elim
theorem Vd.of{body:Code}{H:Hp}{Post:Value->Hp->Prop}(j:kd=.normal\/kd=.deferred)(i:P.funcs[f]? = some fn)(hb:fn.body=some body){tmps:Array Value}(t:args++Array.replicate (fn.ntmps-args.size) undef=tmps)
  (h:kM P ⟨true,fn.norace⟩ body (λe a H=>match e with | .exit _=>False | _=>rI P fn a.tmps Post a.defers H) ⟨tmps,[]⟩ H):Vd P kd f args H Post:=by
 intro G c cs g q p;have s:Frame.enter P f args kd=on (Frame.enter P f args kd) ⟨tmps,[]⟩ [.code body]:=by simp[Frame.enter,on,i,hb,t]
 rw[s];have m:(Frame.enter P f args kd).roundOf=none:=rfl;refine h G _ [] (c :: cs) g ⟨by rcases j with rfl | rfl<;>simp[Frame.enter],λ_=>m,λh=>by simp only[norace,Frame.enter,i,Option.any_some];exact h⟩ ?_;intro e a v k;cases e with
 | normal=>
  refine .pure (iD:={ on (Frame.enter P f args kd) a []with mode:=.returning }) (kY:=c :: cs) (λmain w=>Zmj m) ?_;exact ZhK g q p _ _ _ rfl rfl rfl i k
 | ret=>
  intro u;refine .pure (iD:={ on (Frame.enter P f args kd) a (.code .ret :: u)with mode:=.returning }) (kY:=c :: cs) (λmain w=>Zmi m) ?_;exact ZhK g q p _ _ _ rfl rfl rfl i k
 | exit id=>exact k.elim
def Vd.frame{H F:Hp}{e:Value->Hp->Prop}(h:Vd P kd f args H e)(hc:H.Comp F) :
  Vd P kd f args (H.join F) (λv HF=>∃H',HF=H'.join F/\H'.Comp F/\e v H'):=by
 intro G c cs qB g hG;have h0:=h (λfr kY H'=>kY=cs/\∃v H1 J,fr=P7 kd c v/\H'=H1.join J/\H1.Comp J/\e v H1) c cs ?_ g ?_
 ·exact Wy
 ·exact LU
 exact LS
theorem kM.frame{N:Rd}{c:Code}{Q:Ex->Act->Hp->Prop}{a:Act}{H F:Hp}(h:kM P N c Q a H)(R:H.Comp F) :
  kM P N c (λe s g=>∃i,g=i.join F/\i.Comp F/\Q e s i) a (H.join F):=by
 intro G b k cs C hb v;have O:=h (λfr q i=>∃m J:Hp,i=m.join J/\m.Comp J/\∀g:Hp,(∃X:Hp,g=(m.join J).join X/\(m.join J).Comp X/\F=X)->Reach P G fr q g) b k cs ?_ hb ?_
 ·refine(O.frame R).bind ?_;rintro fr q g ⟨i,rfl,B,m,J,rfl,M,K⟩;exact K _ ⟨F,rfl,B,rfl⟩
 ·rintro fr q i J z ⟨m,L,rfl,M,K⟩;refine⟨m,L.join J,Hp.gV _ _ _,M.join_r z.gP,?_⟩;rintro g ⟨X,rfl,p,A⟩;subst A;have t:((m.join L).join J).Comp F:=by rw[Hp.gV];exact p
  have c2:J.Comp F:=Hp.Comp.gS z t;have:=(K _ ⟨F,rfl,t.gP,rfl⟩).up C (J:=J) (Hp.Comp.lX z c2.symm);rw[<-Hp.gV,Hp.kI c2.symm];exact this
 intro e s i y;have j:∀fr,(∀g,g=i.join F/\i.Comp F->Reach P G fr cs g)->Reach P (λfr q i=>∃m J:Hp,i=m.join J/\m.Comp J/\∀g:Hp,(∃X:Hp,g=(m.join J).join X/\(m.join J).Comp X/\F=X)->Reach P G fr q g) fr cs i:=by intro fr D;refine .stop ⟨i,.nil,(Hp.hZ i).symm,Hp.iJ i,?_⟩;rintro g ⟨X,rfl,p,A⟩;subst A;rw[Hp.hZ]at p ⊢;exact D _ ⟨rfl,p⟩
 cases e with
 | normal=>exact j _ λg ⟨e,p⟩=>v .normal s g ⟨i,e,p,y⟩
 | ret=>exact λu=>j _ λg ⟨e,p⟩=>v .ret s g ⟨i,e,p,y⟩ u
 | exit id=>
  exact⟨λu E=>j _ λg ⟨e,p⟩=>(v (.exit id) s g ⟨i,e,p,y⟩).1 u E,λE u I=>j _ λg ⟨e,p⟩=>(v (.exit id) s g ⟨i,e,p,y⟩).2 E u I⟩
end
variable{P:fP}{fv:Value}{args:Array Value}{f:FuncId}{r l:Nat}{o:Loop}{b:Frame}{a:Act}{cs:List Frame}{assign body:Code}{w:World}{params:Array Tmp}
def Up(A:Hp->Prop):Prop:=∀H J,H.Comp J->A H->A (H.join J)
def EI(P:fP)(e:Value->Hp->Prop):Next->Hp->Prop
 | .value v,H=>e v H
 | .skip,H=>e undef H
 | .enter f args,H=>Zb P f args H e
 | .round l f tmps aA g,H=>U4 P l f tmps aA g H e
 | _,_=>False
def EI.mono{g e:Value->Hp->Prop}(i:∀v H,g v H->e v H):∀{n:Next} {H:Hp},EI P g n H->EI P e n H:=by
 intro n H h;cases n with
 | value v=>exact i _ _ h
 | skip=>exact i _ _ h
 | enter f args=>exact Zb.mono h i
 | round l f tmps aA j=>exact U4.mono h i
 | _=>exact h.elim
def OU(fv:Value)(args:Array Value):Sem Next:=do let d <-Deferred.ofValue fv args;invoke d.target d.args
def Z5(P:fP)(fv:Value)(args:Array Value)(H:Hp)(e:Value->Hp->Prop):Prop:=
 fZ P (OU fv args) (λn g h=>g=true\/EI P e n h) false H
theorem Z5.mono{H:Hp}{i e:Value->Hp->Prop}(h:Z5 P fv args H i)(j:∀v H,i v H->e v H):Z5 P fv args H e:=
 Vx (λn g H h=>h.imp id (EI.mono j)) h
def EI.frame{e:Value->Hp->Prop}{F:Hp}:∀{n:Next} {H:Hp},EI P e n H->H.Comp F->EI P (λv j=>∃i,j=i.join F/\i.Comp F/\e v i) n (H.join F):=by
 intro n H h g;cases n with
 | value v=>exact⟨_,rfl,g,h⟩
 | skip=>exact⟨_,rfl,g,h⟩
 | enter f args=>exact Zb.frame h g
 | round l f tmps aA k=>exact U4.frame h g
 | _=>exact h.elim
theorem Z5.frame{H F:Hp}{i:Value->Hp->Prop}(h:Z5 P fv args H i)(q:H.Comp F) :
  Z5 P fv args (H.join F) (λv p=>∃j,p=j.join F/\j.Comp F/\i v j):=
 Vx (λn g p ⟨j,e,k,m⟩=>by rw[e];exact m.imp id λm=>m.frame k) (Ni h q)
def Z5.of{fn:Func}{first cap:Array Value}{H:Hp}{Post:Value->Hp->Prop}(g:P.funcs[f]? = some fn)(hb:fn.body.isSome=true)(i:(fn.name == "runtime.NumGoroutine")=false)
  (h:Zb P f (first++args++cap) H Post):Z5 P (.func (.func f) first cap) args H Post:=by
 have e:fn.body.isNone=false:=by simpa using hb
 unfold Z5 OU;simp only[Deferred.ofValue,Zf,Zj,invoke,callFunc,Vw,g,i,e,oR,qAq];exact .inr h
def yW(P:fP)(fv:Value)(N:Hp->Prop)(g:List (List Value)):Prop:=
 ∀(y:Value) (I:Nat->Hp->Prop) (S:Hp->Prop) (H:Hp),(∃f a b,y=.func f a b)->(∀n,Up (I n))->Up S->(∀n H,I n H->N H) ->
  (∀n (h:n<g.length) H,I n H->Z5 P y (g[n]).toArray H (λv e=>(v=.bool true/\I (n+1) e)\/(v=.bool false/\S e)))->I 0 H->Z5 P fv #[y] H (λ_ e=>I g.length e\/S e)
def PG(P:fP)(fv:Value)(N:Hp->Prop)(len:Nat)(E:Nat->List Value->Hp->Prop):Prop:=
 ∀(y:Value) (I:Nat->Hp->Prop) (S:Hp->Prop) (H:Hp),(∃f a b,y=.func f a b)->(∀n,Up (I n))->Up S->(∀n H,I n H->N H) ->
  (∀n,n<len->∀h g H,E n h g->g.gh=[]->H.Comp g->I n H->Z5 P y h.toArray (H.join g) (λv e=>(v=.bool true/\I (n+1) e)\/(v=.bool false/\S e)))->I 0 H->Z5 P fv #[y] H (λ_ e=>I len e\/S e)
def Znp(e:List (List Value))(n:Nat)(i:List Value)(g:Hp):Prop:=g=.nil/\∃h:n<e.length,i=e[n]
def yW.toE{N:Hp->Prop}{e:List (List Value)}(h:yW P fv N e):PG P fv N e.length (Znp e):=by intro y I S H s j m k q i;refine h y I S H s j m k (λn g H p=>?_) i;have:=q n g e[n] .nil H ⟨rfl,g,rfl⟩ rfl (Hp.iJ H) p;rwa [Hp.hZ]at this
def As(l:Nat):Value:=.func (.yield l) #[] #[]
def OK(r:Nat):Deferred:={ target:=.collected r,args:=#[] }
def ZT(r l:Nat)(o:Loop):Hp:=(Hp.nil.ins r (.deferred (some []))).ins l (.loop o)
def J2(r l:Nat)(o:Loop):ZT r l o l=some (.loop o,true):=Hp.aQ _ _ _
def ZuF(h:r≠l)(o:Loop):ZT r l o r=some (.deferred (some []),true):=by unfold ZT;rw[Hp.aR _ _ h,Hp.aQ]
def Hp.lM{H F:Hp}{o:Obj}(h:H r=none):H.join (F.ins r o)=(H.join F).ins r o:=by
 refine Hp.ext' (λb=>?_) rfl;simp only[Hp.fW,Hp.iG];by_cases e:b=r
 ·subst e;simp[h]
 simp[e]
def Zfv{H:Hp}(i:H.Comp (ZT r l o))(g:Loop):(H.join (ZT r l o)).ins l (.loop g)=H.join (ZT r l g)/\H.Comp (ZT r l g):=by
 have j:H l=none:=i.left_none (J2 r l o);have e:ZT r l g=(ZT r l o).ins l (.loop g):=by
  refine Hp.ext' (λb=>?_) rfl;unfold ZT;by_cases e:b=l
  ·subst e;simp[Hp.iG]
  simp[Hp.iG,e]
 rw[e,Hp.lM j];exact⟨rfl,(i.symm.kW _ j).symm⟩
def Nj{P:PQ}{p:Bool}{H:Hp}(e:P.still H.gh=false)(h:H l=some (.loop o,p))(Q:Loop->Bool->Hp->Prop)(g:Bool)(i:Q o g H):fZ P (Instr.getLoop l) Q g H:=by simp only[Instr.getLoop,Zf,getObj];exact⟨_,_,⟨e,h⟩,rfl,rfl,i⟩
theorem ZpK(l:Nat)(f:FuncId)(tmps:Array Value)(assign body:Code):Frame.round l f tmps assign body .normal=on (Frame.round l f tmps assign body .normal) ⟨tmps,[]⟩ [.code assign,.beginRound,.code body]:=rfl
def ZX:Ex->Option Code
 | .normal=>none
 | .ret=>some .ret
 | .exit id=>some (.exit id)
theorem ZeR{G:Frame->List Frame->Hp->Prop}{c:Frame}{H:Hp}(t:∀g,P.still g=false)(p:b.roundOf=some l)(m:b.kind=.normal)(k:H.Comp (ZT r l o))
  {e:Ex} {todo:List Item} (B:(e=.normal/\todo=[])\/(e=.ret/\∃j,todo=.code .ret :: j)\/∃id,e=.exit id/\∃j,todo=.code (.exit id) :: j/\exitTo id j=none)
  (A:H.Comp (ZT r l { o with state:=if(ZX e).isNone then .ready else .done,pending:=ZX e })->Reach P G (c.finish (.bool (ZX e).isNone)) cs (H.join (ZT r l { o with state:=if(ZX e).isNone then .ready else .done,pending:=ZX e }))) :
  Reach P G (on b a todo) (c :: cs) (H.join (ZT r l o)):=by
 obtain⟨u,y⟩:=Zfv k { o with state:=if(ZX e).isNone then .ready else .done,pending:=ZX e };refine .z7 (s:=Instr.endRound l (ZX e)) (Q:=λv _ q=>v=.bool (ZX e).isNone/\q=H.join (ZT r l { o with state:=if(ZX e).isNone then .ready else .done,pending:=ZX e })) ?_ ?_
 ·simp only[Instr.endRound,Zf];refine Nj (t _) (Hp.fS k (J2 r l o)) _ _ ?_;refine⟨_,⟨t _,Hp.fS k (J2 r l o)⟩,rfl,rfl,rfl,rfl,u⟩
 rintro v D ⟨rfl,_⟩;refine⟨c.finish (.bool (ZX e).isNone),cs,λmain w E es i=>⟨seen P b.fn es,?_,.inr rfl⟩,λq z=>by rw[z.2];exact A y⟩;rcases B with⟨rfl,rfl⟩ | ⟨rfl,j,rfl⟩ | ⟨id,rfl,j,rfl,C⟩
 ·simp only[ZX]at i;simp only[stepG,stepG.exec,on,p,ZX,i,doReturn,m,GStep.after,qAw]
 ·simp only[ZX]at i;simp only[stepG,stepG.exec,on,p,ZX,i,doReturn,m,GStep.after,qAw]
 simp only[ZX]at i;simp only[stepG,stepG.exec,on,p,ZX,C,Option.elim,i,doReturn,m,GStep.after,qAw]
theorem ZpJ{tmps:Array Value}{H:Hp}{J:Hp->Prop}{S:Ex->Hp->Prop}(y:∀g,P.still g=false)(U:o.state=.ready)(T:H.Comp (ZT r l o))
  (h:kM P ⟨false,false⟩ assign (Ex.then (kM P ⟨false,false⟩ body (λe _ i=>match e with | .normal=>J i | e=>S e i)) (λ_ _ _=>False)) ⟨tmps,[]⟩ H) :
  U4 P l f tmps assign body (H.join (ZT r l o)) (λv z=>∃i,(v=.bool true/\z=i.join (ZT r l { o with state:=.ready,pending:=none })/\i.Comp (ZT r l { o with state:=.ready,pending:=none })/\J i) \/
   (v=.bool false/\∃e,e≠.normal/\z=i.join (ZT r l { o with state:=.done,pending:=ZX e })/\i.Comp (ZT r l { o with state:=.done,pending:=ZX e })/\S e i)):=by
 intro G c cs u C
 rw[ZpK]
 have m:Fit P ⟨false,false⟩ (Frame.round l f tmps assign body .normal):=⟨by simp[Frame.round],λh=>by simp at h,λh=>by simp at h⟩
 refine(h.frame T) G (Frame.round l f tmps assign body .normal) _ (c :: cs) u m ?_
 rintro e F z ⟨K,rfl,p,E⟩
 cases e with
 | ret=>exact E.elim
 | exit id=>exact E.elim
 | normal=>
  obtain⟨L,M⟩:=Zfv p { o with state:=.busy };refine .z7 (s:=(do Instr.beginRound l;pure .skip:Sem Next)) (Q:=λv _ i=>v=.skip/\i=K.join (ZT r l { o with state:=.busy })) ?_ ?_
  ·simp only[Instr.beginRound,Zf];refine Nj (y _) (Hp.fS p (J2 r l o)) _ _ ?_;refine⟨_,⟨y _,Hp.fS p (J2 r l o)⟩,rfl,rfl,rfl,?_⟩;rw[U];exact⟨rfl,L⟩
  rintro v W ⟨rfl,_⟩;refine⟨on (Frame.round l f tmps assign body .normal) F [.code body],c :: cs,λmain w V es N=>⟨seen P f es,?_,.inr rfl⟩,λi O=>?_⟩
  ·have I:((on (Frame.round l f tmps assign body .normal) F [Item.beginRound,Item.code body]).kind == CallKind.early)=false:=rfl;have R:((do (some l).elim (stuck "beginRound: no round") Instr.beginRound;pure .skip:Sem Next)).runT P w #[]=(.ok .skip V,es):=N;show stepG.apply P true _ _ _ _ w=_;simp only[stepG.apply,qBb];show GStep.after _ _=_;erw [R];rfl
  rw[O.2];refine(kM.frame E M) G (Frame.round l f tmps assign body .normal) _ (c :: cs) u m ?_;rintro e X z ⟨B,rfl,q,t⟩;cases e with
  | normal=>
   refine ZeR (e:=.normal) y rfl rfl q (.inl ⟨rfl,rfl⟩) λj=>C _ _ ⟨B,.inl ⟨rfl,rfl,j,t⟩⟩
  | ret=>
   intro A;refine ZeR (e:=.ret) y rfl rfl q (.inr (.inl ⟨rfl,A,rfl⟩)) λj=>C _ _ ⟨B,.inr ⟨rfl,.ret,by simp,rfl,j,t⟩⟩
  | exit id=>
   refine⟨λA I=>by simp[exitTo]at I,λ_ A D=>?_⟩;refine ZeR (e:=.exit id) y rfl rfl q (.inr (.inr ⟨id,rfl,A,rfl,D⟩)) λj=>C _ _ ⟨B,.inr ⟨rfl,.exit id,by simp,rfl,j,t⟩⟩
def Na{I:Hp->Prop}{X:Hp}(k:Up I):Up λj=>∃g:Hp,j=g.join X/\g.Comp X/\I g:=by rintro H J h ⟨g,rfl,i,m⟩;have c1:g.Comp J:=h.gP;have c2:X.Comp J:=Hp.Comp.gS i h;exact⟨g.join J,Hp.kI c2.symm,Hp.Comp.lX i c2.symm,k _ _ c1 m⟩
def Zp1{G:Frame->List Frame->Hp->Prop}{fr:Frame}{H:Hp}{q:Value->Hp->Prop}(y:V7 G)(L:fr.kind≠.early)(D:∃l k,fr.todo=.inRangeFunc l :: k)
  (h:Z5 P fv args H q) (B:∀v i,q v i->Reach P G (fr.finish v) cs i) (M:H.le w) :
  ∃u s p i es,stepG.apply P true fr cs none (OU fv args) w=.go (gG u s) p es/\Fr H w i p/\Reach P G u s i/\∀e∈es,EvL H w p.heap.size e:=by
 obtain⟨n,p,i,es,g,t,A,⟨F,J⟩,I⟩:=Zgn #[] h M;obtain rfl:g=false:=by
  cases g with
  | false=>rfl
  | true=>exact(J rfl).symm
 have z:=F.resolve_left (by simp);have m:(fr.kind == CallKind.early)=false:=Zmx L;have j:∀e∈seen P fr.fn es,EvL H w p.heap.size e:=λe K=>I e (ZeL _ _ _ e K);simp only[qCE]at t;obtain⟨l,k,D⟩:=D;cases n with
 | value v=>exact⟨fr.finish v,cs,p,i,_,by simp only[stepG.apply,t,qBb,m,oR,qAq,GStep.after,qAw],A,B _ _ z,j⟩
 | skip=>exact⟨fr.finish undef,cs,p,i,_,by simp only[stepG.apply,t,qBb,m,oR,qAq,GStep.after,qAw],A,B _ _ z,j⟩
 | enter f args=>exact⟨Frame.enter P f args .normal,fr :: cs,p,i,_,by simp only[stepG.apply,D,t,qBb,m,oR,qAq,GStep.after,qAw],A,z G _ cs y λv C E=>B _ _ E,j⟩
 | round l f tmps assign body=>exact⟨Frame.round l f tmps assign body .normal,fr :: cs,p,i,_,by simp only[stepG.apply,t,qBb,m,oR,qAq,GStep.after,qAw],A,z G _ cs y λv C E=>B _ _ E,j⟩
 | _=>exact z.elim
def ZoG{P:Program}{main:Bool}{k:List Item}{f:Operand}{q:World}{mk:Deferred}(g:b.roundOf=none)
  (e:(Instr.enterLoop b.fn a.tmps params assign body none).runT P w #[]=(.ok (l,[mk]) q,#[])) :
  stepG P main (gG (on b a (.code (.rangeFunc f params assign body) :: k)) cs) w =
   GStep.after (seen P b.fn #[]) (stepG.apply P true { b with tmps:=a.tmps,todo:=.inRangeFunc l :: k,defers:=mk :: a.defers,mode:=.run } cs none (OU (a.eval f) #[As l]) q):=by
 obtain⟨s,t,m,p,j,i,h⟩:=b
 simp only at g e
 subst g
 simp only[on,stepG,stepG.exec,e]
 congr 2
 simp only[resolve,OU,qBS,qBm,qBM,Frame.eval,As]
 congr 1
theorem kM.rangeFunc{nr:Bool}{f:Operand}{Q:Ex->Act->Hp->Prop}{H:Hp}(L:∀g,P.still g=false){N:Hp->Prop}{len:Nat}{E:Nat->List Value->Hp->Prop}(Tp:PG P (a.eval f) N len E)
  (pD:∀n z u,E n z u->z.length=params.size) (I:Nat->Hp->Prop) (S:Ex->Hp->Prop) (NV:∀n,Up (I n)) (Rr:∀e,Up (S e)) (hN:∀n H J,I n H->H.Comp J->N (H.join J)) (h0:I 0 H)
  (F:∀n (hn:n<len) z u H,E n z u->u.gh=[]->H.Comp u->I n H->kM P ⟨false,false⟩ assign (Ex.then (kM P ⟨false,false⟩ body (λe _ i=>match e with | .normal=>I (n+1) i | e=>S e i)) (λ_ _ _=>False)) ⟨(params.zip z.toArray).foldl (λtmps (t,a)=>tmps.setIfInBounds t a) a.tmps,[]⟩ (H.join u))
  (R:∀i r J,I len i->i.Comp J->J r=some (.deferred (some []),true)->Q .normal ⟨a.tmps,OK r :: a.defers⟩ (i.join J))
  (C:∀e i r J,e≠.normal->S e i->i.Comp J->J r=some (.deferred (some []),true)->Q e ⟨a.tmps,OK r :: a.defers⟩ (i.join J)) :
  kM P ⟨true,nr⟩ (.rangeFunc f params assign body) Q a H:=by
 intro G b k cs Y hb hG;have Se:b.roundOf=none:=hb.wI rfl;refine .step ⟨λmain w hw=>?_,λnO=>by rw[L]at nO;simp at nO⟩;have B:=Fr.alloc hw (.deferred (some []));generalize h:({ state:=.ready,pending:=none,fn:=b.fn,tmps:=a.tmps,params,assign,body,defers:=w.heap.size }:Loop)=rec;have m:=Fr.alloc B.le (.loop rec);have xT:({ w with heap:=w.heap.push (.deferred (some [])) }:World).heap.size=w.heap.size+1:=by simp
 rw[xT]at m;have B5:H w.heap.size=none:=by
  cases hh:H w.heap.size with
  | none=>rfl
  | some y=>exact absurd (hw.lt hh) O
 have hl0:H (w.heap.size+1)=none:=by
  cases hh:H (w.heap.size+1)with
  | none=>rfl
  | some y=>exact absurd (hw.lt hh) O
 have hX:(H.ins w.heap.size (.deferred (some []))).ins (w.heap.size+1) (.loop rec)=H.join (ZT w.heap.size (w.heap.size+1) rec):=by unfold ZT;rw[Hp.lM hl0,Hp.lM B5,Hp.hZ]
 have hXc:H.Comp (ZT w.heap.size (w.heap.size+1) rec):=(((Hp.iJ H).symm.kW _ B5).kW _ hl0).symm;rw[hX]at m;generalize NX:w.heap.size=r at *;generalize B8:r+1=l at *;have R3:r≠l:=O;let D:Frame:={ b with tmps:=a.tmps,todo:=.inRangeFunc l :: k,defers:=OK r :: a.defers,mode:=.run }
 have M:Z5 P (a.eval f) #[As l] (H.join (ZT r l rec)) (λ_ p=>∃(e:Ex) (i:Hp),p=i.join (ZT r l { rec with state:=if(ZX e).isNone then .ready else .done,pending:=ZX e })/\i.Comp (ZT r l { rec with state:=if(ZX e).isNone then .ready else .done,pending:=ZX e })/\(match e with | .normal=>I len i | e=>S e i)):=by
  have h1:=Tp (As l) (λn p=>∃j:Hp,p=j.join (ZT r l rec)/\j.Comp (ZT r l rec)/\I n j)
   (λp=>∃e:Ex,e≠.normal/\∃j:Hp,p=j.join (ZT r l { rec with state:=.done,pending:=ZX e })/\j.Comp (ZT r l { rec with state:=.done,pending:=ZX e })/\S e j)
   (H.join (ZT r l rec)) ⟨_,_,_,rfl⟩ (λn=>Na (NV n)) (λp J W ⟨e,A,hh⟩=>⟨e,A,Na (Rr e) p J W hh⟩) ?_ ?_ ⟨H,rfl,hXc,h0⟩
  ·refine h1.mono ?_;rintro v p (⟨j,rfl,q,hi⟩ | ⟨e,A,j,rfl,q,L⟩)
   ·subst h;exact⟨.normal,j,rfl,q,hi⟩
   cases e with
   | normal=>exact absurd rfl A
   | ret=>exact⟨.ret,j,rfl,q,L⟩
   | exit id=>exact⟨.exit id,j,rfl,q,L⟩
  ·rintro n p ⟨j,rfl,q,hi⟩;exact hN n j _ hi q
  rintro n hn z u p hE SM Z ⟨j,rfl,X,kL⟩;have c1:j.Comp u:=Z.gP;have c2:(ZT r l rec).Comp u:=Hp.Comp.gS X Z;rw[Hp.kI c2.symm];have q:(j.join u).Comp (ZT r l rec):=Hp.Comp.lX X c2.symm;have hi:=F n hn z u j hE SM c1 kL;generalize j.join u=j at *;unfold Z5 OU As;simp only[Deferred.ofValue,Zf,Zj,invoke,Instr.yield];refine Nj (L _) (Hp.fS q (J2 r l rec)) _ _ ?_;have Ss:rec.params=params:=by rw[<-h]
  have h2:(#[]++z.toArray).size=rec.params.size:=by rw[Ss];simp[pD _ _ _ hE]
  simp only[h2,ne_eq,not_true_eq_false,qAq,Zj,EI];refine .inr ?_;have h3:=hi;have h4:=ZpJ (r:=r) (l:=l) (o:=rec) (f:=rec.fn) (J:=I (n+1)) (S:=S) L (by rw[<-h]) q h3;have h5:(rec.params.zip (#[]++z.toArray)).foldl (λtmps (t,a)=>tmps.setIfInBounds t a) rec.tmps=(params.zip z.toArray).foldl (λtmps (t,a)=>tmps.setIfInBounds t a) a.tmps:=by rw[<-h,qCE]
  have h6:rec.assign=assign:=by rw[<-h]
  have h7:rec.body=body:=by rw[<-h]
  rw[show U4 P l rec.fn ((rec.params.zip (#[]++z.toArray)).foldl (λtmps (t,a)=>tmps.setIfInBounds t a) rec.tmps) rec.assign rec.body=U4 P l rec.fn ((params.zip z.toArray).foldl (λtmps (t,a)=>tmps.setIfInBounds t a) a.tmps) assign body by rw[h5,h6,h7]];refine h4.mono ?_;rintro v p ⟨H2,⟨rfl,U,K,V⟩ | ⟨rfl,e,A,U,K,V⟩⟩
  ·refine .inl ⟨rfl,H2,?_,?_,V⟩
   ·rw[U];congr 2;rw[<-h]
   rw[<-h];rw[<-h]at K;exact K
  exact .inr ⟨rfl,e,A,H2,U,K,V⟩
 have T:∀v p,(∃(e:Ex) (i:Hp),p=i.join (ZT r l { rec with state:=if(ZX e).isNone then .ready else .done,pending:=ZX e })/\i.Comp (ZT r l { rec with state:=if(ZX e).isNone then .ready else .done,pending:=ZX e })/\(match e with | .normal=>I len i | e=>S e i))->Reach P G (D.finish v) cs p:=by
  rintro v p ⟨e,j,rfl,q,hq⟩;obtain⟨U,K⟩:=Zfv q { rec with state:=.exhausted,pending:=ZX e };refine .z7 (s:=Instr.endLoop l) (Q:=λv _ i=>v=ZX e/\i=j.join (ZT r l { rec with state:=.exhausted,pending:=ZX e })) ?_ ?_
  ·simp only[Instr.endLoop,Zf];refine Nj (L _) (Hp.fS q (J2 r l _)) _ _ ?_;have:((if(ZX e).isNone=true then LoopState.ready else LoopState.done) == LoopState.busy)=false:=by cases e<;>rfl
   simp only[this,oR,qAq,Zj];exact⟨_,⟨L _,Hp.fS q (J2 r l _)⟩,rfl,rfl,rfl,rfl,U⟩
  rintro v H0 ⟨rfl,_⟩;refine⟨on b ⟨a.tmps,OK r :: a.defers⟩ (((ZX e).map Item.code).toList++k),cs,λmain w w' es V=>⟨seen P b.fn es,?_,.inr rfl⟩,λi e4=>?_⟩
  ·simp only[D,Frame.finish,stepG,stepG.exec,V,GStep.after,qAw];rfl
  rw[e4.2];have W:=ZuF R3 ({ rec with state:=.exhausted,pending:=ZX e }:Loop);cases e with
  | normal=>exact hG .normal _ _ (R _ r _ hq K W)
  | ret=>exact hG .ret _ _ (C .ret _ r _ (by simp) hq K W) k
  | exit id=>exact kM.exit (C (.exit id) _ r _ (by simp) hq K W) G b k cs Y hb hG
 have hw2:(H.join (ZT r l rec)).le _:=m.le;obtain⟨iD,kY,w',i,es,a1,a2,a3,a4⟩:=Zp1 (fr:=D) Y hb.kind ⟨l,k,rfl⟩ M T hw2;have htr:=(B.trans m).trans a2;refine⟨iD,kY,w',i,seen P b.fn #[]++es,?_,htr,a3,λe A=>?_⟩
 ·have hen:(Instr.enterLoop b.fn a.tmps params assign body none).runT P w #[]=(.ok (l,[OK r]) { { w with heap:=w.heap.push (.deferred (some [])) }with heap:=(w.heap.push (.deferred (some []))).push (.loop rec) },#[]):=by subst B8;subst NX;subst h;simp[- Sem.runT_eq,Instr.enterLoop,newObj,Sem.runT,bind,Sem.bind,pure,OK]
  rw[ZoG Se hen];show GStep.after _ (stepG.apply P true D cs none _ _)=_;rw[a1];rfl
 rcases qBe.1 A with A | A
 ·exact absurd (ZeL _ _ _ e A) (by simp)
 exact(a4 e A).BJ (B.trans m) a2.size
