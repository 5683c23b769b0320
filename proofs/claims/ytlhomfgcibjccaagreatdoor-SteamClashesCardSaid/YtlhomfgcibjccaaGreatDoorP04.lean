import Derived.Test.YtlhomfgcibjccaaGreatDoorP02
import Derived.Test.YtlhomfgcibjccaaGreatDoorP03
set_option linter.all false
namespace Go.LL
section
variable{aI:Array Oper}{done l:List Nat}{pre:Nat->List Nat}{a b x n:Nat}
def YQ(aI:Array Oper)(i:Nat):List Nat:=
 match aI[i]? with
 | some o=>(o.after.toList.filter (Region.binds .any)).map (·.on)
 | none=>[]
def Uy(aI:Array Oper):Bool:=(List.range aI.size).all λi=>(YQ aI i).all λp=>decide (p<i)
theorem ZuV(md:Region.Mode)(aI:Array Oper):∀(fuel t:Nat) (listed:Array Bool) (vB:List Nat),
  Region.linearise.go md aI fuel t listed vB=vB.reverse++Region.linearise.go md aI fuel t listed []:=by
 intro fuel;induction fuel with
 | zero=>intro t listed vB;simp[Region.linearise.go]
 | succ fuel ih=>
  intro t listed vB;simp only[Region.linearise.go];split
  ·rename_i i _;rw[ih _ _ (i :: vB),ih _ _ [i]];simp
  simp
theorem ZmD{p q:Nat->Bool}{i:Nat}:∀{l:List Nat},l.Nodup->i∈l->p i=true->(∀j,j≠i->q j=p j)->q i=false->(l.filter q).length+1=(l.filter p).length
 | [],_,hm,_,_,_=>by simp at hm
 | x :: l,hn,hm,hp,hq,KQ=>by
  simp only[qCI]at hn;by_cases e:x=i
  ·subst e;have:l.filter q=l.filter p:=List.filter_congr λj hj=>hq j λe=>hn.1 (e ▸ hj);simp[hp,KQ,this]
  have IE:i∈l:=by simp only[qAp]at hm;exact hm.resolve_left (qAi e)
  have ih:=ZmD hn.2 IE hp hq KQ;simp only[qDd,hq x e];cases p x<;>simp[ih]
theorem ZlT{aI:Array Oper}(fC:Uy aI=true):∀(fuel t:Nat) (listed:Array Bool) (done:List Nat),listed.size=aI.size->(∀i,i<aI.size->(listed.getD i true=true↔i∈done))->((List.range aI.size).filter λi=>!listed.getD i true).length=fuel ->
  lP aI.size (YQ aI) done (Region.linearise.go .any aI fuel t listed [])
 | 0,t,listed,done,hs,hd,hf=>by
  simp only[Region.linearise.go,List.reverse_nil];refine .nil λi hi=>(hd i hi).1 ?_;have:=qAf hf;cases hl:listed.getD i true with
  | true=>rfl
  | false=>
   have hm:i∈(List.range aI.size).filter λi=>!listed.getD i true:=qAF.2 ⟨qAq.2 hi,by simp[hl]⟩;rw[this]at hm;simp at hm
 | fuel+1,t,listed,done,hs,hd,hf=>by
  simp only[Region.linearise.go];have BA:∀i,(i∈(List.range aI.size).filter λi=>!listed.getD i true && ((aI[i]?).map (·.after.all λe=>!Region.binds .any e || listed.getD e.on false)).getD false)↔i<aI.size/\listed.getD i true=false/\∀p∈YQ aI i,listed.getD p false=true:=by
   intro i;simp only[qAF,qAq,BY,qAP];constructor
   ·rintro⟨h1,h2,h3⟩;refine⟨h1,h2,λp hp=>?_⟩;unfold YQ at hp;have ho:aI[i]? = some aI[i]:=qAE h1;rw[ho]at hp h3;simp only[qAX,qAF]at hp;obtain⟨e,⟨he1,he2⟩,rfl⟩:=hp;simp only[qBa,Option.getD_some]at h3;have:=qAe.1 h3 e (qAt.1 he1);simpa[he2]using this
   rintro⟨h1,h2,h3⟩;refine⟨h1,h2,?_⟩;have ho:aI[i]? = some aI[i]:=qAE h1;unfold YQ at h3;rw[ho]at h3 ⊢;simp only[qBa,Option.getD_some];refine qAe.2 λe he=>?_;cases hb:Region.binds .any e with
   | false=>simp
   | true=>
    simp only[qCU,Bool.false_or];exact h3 e.on (by simp only[qAX,qAF];exact⟨e,⟨qAt.2 he,hb⟩,rfl⟩)
  have hex:∃i,i<aI.size/\listed.getD i true=false:=by
   cases hl:(List.range aI.size).filter λi=>!listed.getD i true with
   | nil=>rw[hl]at hf;simp at hf
   | cons x xs=>
    have:x∈(List.range aI.size).filter λi=>!listed.getD i true:=by rw[hl];simp
    simp only[qAF,qAq,qAP]at this;exact⟨x,this⟩
  have IJ:∃i,i<aI.size/\listed.getD i true=false/\∀j,j<i->listed.getD j true=true:=by
   obtain⟨k,hk⟩:=hex;induction k using Nat.strongRecOn with
   | _ k ih=>
    by_cases h:∃j,j<k/\listed.getD j true=false
    ·obtain⟨j,hj,oX⟩:=h;exact ih j hj ⟨O,oX⟩
    refine⟨k,hk.1,hk.2,λj hj=>?_⟩;cases hl:listed.getD j true with
    | true=>rfl
    | false=>exact absurd ⟨j,hj,hl⟩ h
  have WD:∀j,j<aI.size->listed.getD j false=listed.getD j true:=by intro j hj;simp[qBd,qAE (show j<listed.size by rw[hs];exact hj)]
  have dG:((List.range aI.size).filter λi=>!listed.getD i true && ((aI[i]?).map (·.after.all λe=>!Region.binds .any e || listed.getD e.on false)).getD false)≠[]:=by
   obtain⟨i,h1,h2,h3⟩:=IJ;have:i∈(List.range aI.size).filter λi=>!listed.getD i true && ((aI[i]?).map (·.after.all λe=>!Region.binds .any e || listed.getD e.on false)).getD false:=by refine(BA i).2 ⟨h1,h2,λp hp=>?_⟩;have:=qAg.1 (qAg.1 fC i (qAq.2 h1)) p hp;simp only[qAK]at this;rw[WD p O];exact h3 p this
   intro Gy;rw[Gy]at this;simp at this
  generalize hrs:((List.range aI.size).filter λi=>!listed.getD i true && ((aI[i]?).map (·.after.all λe=>!Region.binds .any e || listed.getD e.on false)).getD false)=rs at *;have bV:t % rs.length<rs.length:=qCW _ (by cases rs with | nil=>exact absurd rfl dG | cons x xs=>simp);rw[qAI bV];simp only;rw[ZuV,List.reverse_singleton,List.singleton_append];obtain⟨h1,h2,h3⟩:=(BA _).1 (IN bV);generalize rs[t % rs.length]=i at *;have l6:∀j,(listed.setIfInBounds i true).getD j true=if j=i then true else listed.getD j true:=by
   intro j;simp only[qBd,qBC];by_cases e:i=j
   ·subst e;simp[hs,h1]
   simp[e,qAi e]
  refine .cons h1 (λhm=>?_) (λp hp=>?_) (ZlT fC fuel _ _ (i :: done) (by simp[hs]) (λj hj=>?_) ?_)
  ·rw[(hd i h1).2 hm]at h2;simp at h2
  ·have l8:p<i:=by simpa using qAg.1 (qAg.1 fC i (qAq.2 h1)) p hp
   refine(hd p O).1 ?_;rw[<-WD p O];exact h3 p hp
  ·rw[l6];by_cases e:j=i
   ·simp[e]
   rw[bY e];simp only[qAp,e,false_or];exact hd j hj
  have:=ZmD (p:=λj=>!listed.getD j true) (q:=λj=>!(listed.setIfInBounds i true).getD j true) (i:=i) List.nodup_range (qAq.2 h1) (by simp[h2]) (λj hj=>by simp only[l6,bY hj]) (by simp[l6]);omega
theorem Mw(fC:Uy aI=true)(t:Nat):lP aI.size (YQ aI) [] (Region.schedule true aI t):=by
 simp only[Region.schedule,Bool.true_or,qAM,Region.linearise];refine ZlT fC _ _ _ _ (by simp) (λi hi=>?_) ?_
 ·simp[hi]
 have:((List.range aI.size).filter λi=>!(Array.replicate aI.size false).getD i true)=List.range aI.size:=by refine List.filter_eq_self.2 λi hi=>?_;have:=qAq.1 hi;simp[this]
 rw[this,qBx]
def Mz(ps:List Nat)(ms:List Nat):Nat:=ps.foldl (λs p=>s ||| 2 ^ p ||| ms.getD p 0) 0
def lV(aI:Array Oper):Nat->List Nat
 | 0=>[]
 | n+1=>lV aI n++[Mz (YQ aI n) (lV aI n)]
theorem S3(aI:Array Oper):∀n,(lV aI n).length=n
 | 0=>rfl
 | n+1=>by simp[lV,S3 aI n]
theorem Nb(aI:Array Oper):∀n i,i<n->(lV aI n).getD i 0=Mz (YQ aI i) (lV aI i)
 | 0,i,h=>by omega
 | n+1,i,h=>by
  simp only[lV,qAo];by_cases e:i=n
  ·subst e;rw[qBH (by rw[S3];exact aC _),S3];simp
  rw[qAN (by rw[S3];omega)];have:=Nb aI n i O;rw[qAo]at this;exact this
theorem ZlK:∀(ps:List Nat) (ms:List Nat) (s e:Nat),(ps.foldl (λs p=>s ||| 2 ^ p ||| ms.getD p 0) s).testBit e=true->s.testBit e=true\/e∈ps\/∃p∈ps,(ms.getD p 0).testBit e=true
 | [],ms,s,e,h=>.inl h
 | p :: ps,ms,s,e,h=>by
  simp only[qBF]at h;rcases ZlK ps ms _ e h with h | h | ⟨q,hq,h⟩
  ·rw[qCK,qCK,qBq,qBq]at h;rcases h with(h | h) | h
   ·exact .inl h
   ·refine .inr (.inl ?_);rw[Nat.testBit_two_pow]at h;simp at h;simp[h]
   exact .inr (.inr ⟨p,by simp,h⟩)
  ·exact .inr (.inl (by simp[h]))
  exact .inr (.inr ⟨q,by simp[hq],h⟩)
theorem ZtV(fC:Uy aI=true)(bU:∀i∈done,∀p∈YQ aI i,p∈done):∀(x e:Nat),(Mz (YQ aI x) (lV aI x)).testBit e=true->(∀p∈YQ aI x,p∈done)->e∈done:=by
 intro x;induction x using Nat.strongRecOn with
 | _ x ih=>
  intro e h hp;rcases ZlK _ _ _ e h with h | h | ⟨p,iG,h⟩
  ·simp at h
  ·exact hp e h
  have bV:p<x:=by
   rcases qAH x aI.size with hx | hx
   ·simpa using qAg.1 (qAg.1 fC x (qAq.2 hx)) p iG
   unfold YQ at iG;rw[qBW hx]at iG;simp at iG
  rw[Nb aI x p bV]at h;exact ih p bV e h (bU p (hp p iG))
def Vm(pre:Nat->List Nat)(a b:Nat)(x:Nat):List Nat:=if Nat.beq x b then a :: pre x else pre x
def ME(W:Nat->Nat->Bool)(a b:Nat)(x e:Nat):Bool:=W x e || ((Nat.beq x b || W x b) && (Nat.beq e a || W a e))
theorem Mh:Vm pre a b b=a :: pre b:=by have:Nat.beq b b=true:=Nat.beq_refl b;simp[Vm,this]
theorem SE(h:x≠b):Vm pre a b x=pre x:=by
 have:Nat.beq x b=false:=by
  cases hb:Nat.beq x b with
  | false=>rfl
  | true=>exact absurd (qAQ hb) h
 simp[Vm,this]
theorem Zip{p:Nat}(h:p∈pre x):p∈Vm pre a b x:=by
 by_cases e:x=b
 ·subst e;rw[Mh];exact qAr _ h
 rw[SE e];exact h
theorem R6{W:Nat->Nat->Bool}(hW:∀(x e:Nat) (done:List Nat),(∀i∈done,∀p∈pre i,p∈done)->W x e=true->(∀p∈pre x,p∈done)->e∈done) :
  ∀(x e:Nat) (done:List Nat),(∀i∈done,∀p∈Vm pre a b i,p∈done)->ME W a b x e=true->(∀p∈Vm pre a b x,p∈done)->e∈done:=by
 intro x e done bU hw hp;have mB:∀i∈done,∀p∈pre i,p∈done:=λi hi p iG=>bU i hi p (Zip iG);have rS:∀p∈pre x,p∈done:=λp iG=>hp p (Zip iG);simp only[ME,qBq,BY]at hw;rcases hw with hw | ⟨hx,he⟩
 ·exact hW x e done mB hw rS
 have ha:a∈done:=by
  rcases hx with hx | hx
  ·have:x=b:=qAQ hx;subst this;exact hp a (by rw[Mh];simp)
  have hb:=hW x b done mB hx rS;exact bU b hb a (by rw[Mh];simp)
 rcases he with he | he
 ·rw[qAQ he];exact ha
 exact hW a e done mB he (mB a ha)
theorem lP.qH(h:lP n pre done l)(ha:a∈done):lP n (Vm pre a b) done l:=by
 induction h with
 | nil h=>exact .nil h
 | cons hi hd hp _ ih=>
  refine .cons hi hd (λp iG=>?_) (ih (qAr _ ha));unfold Vm at iG;split at iG
  ·rcases qAp.1 iG with rfl | iG
   ·exact ha
   exact hp p iG
  exact hp p iG
theorem lP.EW(dG:a≠b)(han:a<n)(h:lP n pre done l)(ha:a ∉ done)(hb:b ∉ done):lP n (Vm pre a b) done l\/lP n (Vm pre b a) done l:=by
 induction h with
 | nil h=>exact absurd (h a han) ha
 | @cons done l i hi hd hp hl ih=>
  by_cases e1:i=a
  ·subst e1;exact .inl (.cons hi hd (λp iG=>hp p (by rw[SE dG]at iG;exact iG)) (hl.qH (by simp)))
  by_cases e2:i=b
  ·subst e2;exact .inr (.cons hi hd (λp iG=>hp p (by rw[SE (qAi dG)]at iG;exact iG)) (hl.qH (by simp)))
  refine(ih (by simp[qAi e1,ha]) (by simp[qAi e2,hb])).imp (λh=>?_) (λh=>?_)
  ·exact .cons hi hd (λp iG=>hp p (by rw[SE e2]at iG;exact iG)) h
  exact .cons hi hd (λp iG=>hp p (by rw[SE e1]at iG;exact iG)) h
def SY(n:Nat)(pre:Nat->List Nat):List Nat->List Nat->Bool
 | done,[]=>(List.range n).all λi=>done.contains i
 | done,i :: l=>decide (i<n) && !(done.contains i) && ((pre i).all λp=>done.contains p) && SY n pre (i :: done) l
theorem ZlU{n:Nat}{pre:Nat->List Nat}:∀{l done:List Nat},SY n pre done l=true->lP n pre done l
 | [],done,h=>.nil λi hi=>by simp only[SY,qAg,qCf,qAK]at h;exact h i (qAq.2 hi)
 | i :: l,done,h=>by simp only[SY,BY,qAK,qAP,qCf,qBQ,qAg]at h;exact .cons h.1.1.1 h.1.1.2 (λp hp=>h.1.2 p hp) (ZlU h.2)
def ZsJ(pre:Nat->List Nat)(NP NO:Nat->Bool)(W:Nat->Nat->Bool)(done rest:List Nat):Option Nat:=
 let ready:=rest.filter λi=>(pre i).all λp=>done.contains p
 match ready.find? NP with
 | some i=>some i
 | none=>match ready.find? λi=>!(NO i)with
  | some i=>some i
  | none=>match rest.find? λi=>!(NP i) && !(NO i)with
   | some e=>match ready.find? λi=>W e i with
    | some i=>some i
    | none=>ready.head?
   | none=>ready.head?
def Znb(pre:Nat->List Nat)(NP NO:Nat->Bool)(W:Nat->Nat->Bool):Nat->List Nat->List Nat->List Nat
 | 0,_,_=>[]
 | k+1,done,rest=>match ZsJ pre NP NO W done rest with
  | some i=>i :: Znb pre NP NO W k (i :: done) (rest.erase i)
  | none=>[]
def Zmw(X:Nat->NI)(W:Nat->Nat->Bool):List Nat->List Nat->List (Nat×Bool)
 | _,[]=>[]
 | jF,i :: l=>(if(X i).op.cls == 1 && (jF.any λc=>(X c).op.cls == 0 && !(W i c))then[(i,jF.any λc=>(X c).op.cls == 0 && !(W i c) && (X c).op.D3)]else[])++Zmw X W (i :: jF) l
def Cj(x:NI):NI:=match x.op with
 | .bL _ _ z ps=>⟨none,none,.build z ps⟩
 | _=>⟨none,none,.fB (.const undef)⟩
def RS(X:Nat->NI)(fl:Nat->Option Bool)(W:Nat->Nat->Bool):List Nat->List (NI×Option Bool)
 | []=>[]
 | i :: l=>(if(X i).op.cls == 0 then[]else(l.filter λx=>OJ (X x) && !(W x i)).map λx=>(Cj (X x),none))++(X i,fl i) :: RS X fl W l
end
section
variable{P:bF}{kd:CallKind}{f:FuncId}{args:Array Value}{main:Bool}{fr c:Frame}{cs:List Frame}{d:Deferred}{w:World}{fn:Func}
def G7(c:Frame):Prop:=match c.mode with
 | .panicking ({ recovered:=true,.. } :: _)=>False
 | _=>True
def S8:CallKind->Frame->Prop
 | .normal,_=>True
 | .deferred,c=>G7 c
 | _,_=>False
def LX(kd:CallKind)(c:Frame)(v:Value):Frame:=match kd with
 | .normal=>c.finish v
 | _=>c
def Y2(P:bF)(kd:CallKind)(f:FuncId)(args:Array Value)(H:Hp)(Post:Value->Hp->Prop):Prop:=
 ∀(G:Frame->List Frame->Hp->Prop) (c:Frame) (cs:List Frame),VX G->S8 kd c->(∀v H',Post v H'->Reach P G (LX kd c v) cs H')->Reach P G (Frame.enter P f args kd) (c :: cs) H
theorem Y2.mono{H:Hp}{Post gM:Value->Hp->Prop}(h:Y2 P kd f args H Post)(hp:∀v H,Post v H->gM v H):Y2 P kd f args H gM:=
 λG c cs hc ho hG=>h G c cs hc ho λv H' hv=>hG v H' (hp _ _ hv)
theorem Y2.pE{H:Hp}{Post:Value->Hp->Prop}(h:Y2 P .normal f args H Post):Zc P f args H Post:=λG c cs hc hG=>h G c cs hc trivial hG
def UK:Target->Bool
 | .collected _ | .nil=>false
 | _=>true
def E8(P:bF)(K:Hp->Prop):Next->Hp->Prop
 | .enter f args,H=>Y2 P .deferred f args H λ_ H'=>K H'
 | .value _,H=>K H
 | .skip,H=>K H
 | _,_=>False
def pY(P:bF)(fn:Func)(tmps:Array Value)(Post:Value->Hp->Prop):List Deferred->Hp->Prop
 | [],H=>cD P (results fn tmps) (λv _ H'=>Post v H') false H
 | d :: ds,H=>match d.target with
  | .collected r=>P.still H.gh=false/\H r=some (.deferred (some []),true)/\pY P fn tmps Post ds (H.ins r (.deferred none))
  | _=>UK d.target=true/\(cD P (invoke d.target d.args) (λn _ H'=>E8 P (pY P fn tmps Post ds) n H') false H \/
    (Uz P.toProgram (invoke d.target d.args)/\Zm P (invoke d.target d.args) false false H λ_ H'=>pY P fn tmps Post ds H'))
theorem Zvx{P:Program}(hk:fr.kind=kd)(ho:S8 kd c)(v:Value)(w:World):doReturn P main fr (c :: cs) none v w=.go (bT (LX kd c v) cs) w:=by
 unfold doReturn;cases kd<;>simp only[S8]at ho<;>simp only[hk,LX]
 unfold G7 at ho;congr 1;split
 ·rename_i h;rw[h]at ho;exact ho.elim
 rfl
theorem Cb{P:Program}{ds:List Deferred}(hd:fr.defers=d :: ds)(ht:UK d.target=true):unwind P main fr cs none w=callDeferred P { fr with defers:=ds } cs none d w:=by
 unfold unwind;rw[hd];split
 ·rename_i h;simp only[qBp]at h;obtain⟨rfl,rfl⟩:=h;simp[UK]at ht
 ·rename_i h;simp only[qBp]at h;obtain⟨rfl,rfl⟩:=h;rfl
 rename_i h;simp at h
theorem SQ{P:Program}(hm:fr.mode=.returning):stepG P main (bT fr cs) w=unwind P main fr cs none w:=by obtain⟨fn,tmps,todo,defers,mode,kind,roundOf⟩:=fr;simp only at hm;subst hm;rfl
theorem Ol{P:Program}{w':World}{n:Next}{es:Array Event}(ht:UK d.target=true)(e1:(invoke d.target d.args).runT P w #[]=(.ok n w',es)) :
  (∀f args,n=.enter f args->callDeferred P fr cs none d w=.go (bT (Frame.enter P f args .deferred) (fr :: cs)) w' (seen P fr.fn es)) /\
  ((∃v,n=.value v)\/n=.skip->callDeferred P fr cs none d w=.go (bT fr cs) w' (seen P fr.fn es)):=by
 obtain⟨target,Xj⟩:=d;cases target with
 | nil=>simp[UK]at ht
 | collected r=>simp[UK]at ht
 | _=>
  refine⟨?_,?_⟩
  ·rintro f args rfl;unfold callDeferred;simp only[e1,qBX,iN,qAk,GStep.after,qAh]
  rintro(⟨v,rfl⟩ | rfl)<;>(unfold callDeferred;simp only[e1,qBX,iN,qAk,GStep.after,qAh])
theorem ZhP{G:Frame->List Frame->Hp->Prop}{Post:Value->Hp->Prop}(bU:VX G)(ho:S8 kd c)(hG:∀v H',Post v H'->Reach P G (LX kd c v) cs H') :
  ∀(ds:List Deferred) (fr:Frame) (H:Hp),fr.mode=.returning->fr.defers=ds->fr.kind=kd->P.funcs[fr.fn]? = some fn->pY P fn fr.tmps Post ds H->Reach P G fr (c :: cs) H:=by
 intro ds;induction ds with
 | nil=>
  intro fr H hm hd hk hf h;refine .zS h ?_;intro v _ _;refine⟨LX kd c v,cs,λmain w w' es e1=>⟨seen P fr.fn es,?_,.inr rfl⟩,λH' e3=>hG _ _ e3⟩;simp only[bT,stepG,hm,unwind,hd,hf,e1,Zvx hk ho,GStep.after,qAh]
 | cons d ds ih=>
  intro fr H hm hd hk hf h;have jP:∀H',pY P fn fr.tmps Post ds H'->Reach P G { fr with defers:=ds } (c :: cs) H':=λH' hu=>ih { fr with defers:=ds } H' hm rfl hk hf hu;have uY:(∃r,d.target=.collected r)\/(UK d.target=true/\(cD P (invoke d.target d.args) (λn _ H'=>E8 P (pY P fn fr.tmps Post ds) n H') false H \/
    (Uz P.toProgram (invoke d.target d.args)/\Zm P (invoke d.target d.args) false false H λ_ H'=>pY P fn fr.tmps Post ds H'))):=by
   simp only[pY]at h
   split at h
   ·exact .inl ⟨_,‹_›⟩
   ·exact .inr h
  rcases uY with⟨r,hr⟩ | uY
  ·simp only[pY,hr]at h;obtain⟨bB,h1,h2⟩:=h;refine .zS (s:=Instr.takeDeferred r) (Q:=λv _ H'=>v=[]/\H'=H.ins r (.deferred none)) ?_ ?_
   ·simp only[Instr.takeDeferred,Zh,getObj,setObj];exact⟨_,_,⟨bB,h1⟩,rfl,rfl,_,⟨bB,h1⟩,rfl,rfl,rfl,rfl,rfl⟩
   rintro v H0 ⟨rfl,_⟩;refine⟨{ fr with defers:=ds },c :: cs,λmain w w' es e1=>⟨seen P fr.fn es,?_,.inr rfl⟩,λH' e3=>?_⟩
   ·rw[SQ hm];obtain⟨tg,da⟩:=d;simp only at hr;subst hr;unfold unwind;rw[hd];simp only[e1,GStep.after,qAx,qAh]
   rw[e3.2];exact jP _ h2
  obtain⟨ht,h⟩:=uY;have AV:∀main cs w,stepG P main (bT fr cs) w=callDeferred P { fr with defers:=ds } cs none d w:=by intro main cs w;rw[SQ hm];exact Cb hd ht
  have eM:∀main w,stepG P main (bT fr (c :: cs)) w=callDeferred P { fr with defers:=ds } (c :: cs) none d w:=λmain w=>AV main _ w;rcases h with h | ⟨hv,h⟩
  case inr=>
   refine h G fr (λ_=>{ fr with defers:=ds }) (c :: cs) bU ⟨λmain cs w w' v es e1=>?_,.inl hv,.inl hv,λh=>by simp at h,λh=>by simp at h,.inl hv⟩ λv H' hu=>jP _ hu
   rw[AV]
   exact(Ol ht e1).2 (.inl ⟨v,rfl⟩)
  refine .zS h ?_;intro n H0 h0;cases n with
  | enter f args=>
   refine⟨_,_,λmain w w' es e1=>⟨seen P fr.fn es,?_,.inr rfl⟩,λH' e3=>e3 G _ (c :: cs) bU (show G7 { fr with defers:=ds }by unfold G7;rw[hm];trivial) λv nA hv=>jP _ hv⟩;rw[eM];exact(Ol ht e1).1 f args rfl
  | value v=>
   refine⟨{ fr with defers:=ds },c :: cs,λmain w w' es e1=>⟨seen P fr.fn es,?_,.inr rfl⟩,λH' e3=>jP _ e3⟩;rw[eM];exact(Ol ht e1).2 (.inl ⟨v,rfl⟩)
  | skip=>
   refine⟨{ fr with defers:=ds },c :: cs,λmain w w' es e1=>⟨seen P fr.fn es,?_,.inr rfl⟩,λH' e3=>jP _ e3⟩;rw[eM];exact(Ol ht e1).2 (.inr rfl)
  | _=>exact h0.elim
theorem Y2.of{body:Code}{H:Hp}{Post:Value->Hp->Prop}(kL:kd=.normal\/kd=.deferred)(hf:P.funcs[f]? = some fn)(hb:fn.body=some body){tmps:Array Value}(ht:args++Array.replicate (fn.ntmps-args.size) undef=tmps)
  (h:g8 P ⟨true,fn.norace⟩ body (λe a H=>match e with | .exit _=>False | _=>pY P fn a.tmps Post a.defers H) ⟨tmps,[]⟩ H):Y2 P kd f args H Post:=by
 intro G c cs bU ho hG;have he:Frame.enter P f args kd=on (Frame.enter P f args kd) ⟨tmps,[]⟩ [.code body]:=by simp[Frame.enter,on,hf,hb,ht]
 rw[he];have hr:(Frame.enter P f args kd).roundOf=none:=rfl;refine h G _ [] (c :: cs) bU ⟨by rcases kL with rfl | rfl<;>simp[Frame.enter],λ_=>hr,λh=>by simp only[norace,Frame.enter,hf,Option.any_some];exact h⟩ ?_;intro e a H' hq;cases e with
 | normal=>
  refine .pure (bW:={ on (Frame.enter P f args kd) a []with mode:=.returning }) (bJ:=c :: cs) (λmain w=>ZmH hr) ?_;exact ZhP bU ho hG _ _ _ rfl rfl rfl hf hq
 | ret=>
  intro k';refine .pure (bW:={ on (Frame.enter P f args kd) a (.code .ret :: k')with mode:=.returning }) (bJ:=c :: cs) (λmain w=>ZmG hr) ?_;exact ZhP bU ho hG _ _ _ rfl rfl rfl hf hq
 | exit id=>exact hq.elim
theorem Y2.frame{H F:Hp}{Post:Value->Hp->Prop}(h:Y2 P kd f args H Post)(hc:H.Comp F) :
  Y2 P kd f args (H.join F) (λv HF=>∃H',HF=H'.join F/\H'.Comp F/\Post v H'):=by
 intro G c cs bU ho hG;have h0:=h (λfr bJ H'=>bJ=cs/\∃v H1 J,fr=LX kd c v/\H'=H1.join J/\H1.Comp J/\Post v H1) c cs ?_ ho ?_
 ·refine(h0.frame hc).bind ?_;rintro fr bJ HF ⟨H',rfl,lG,rfl,v,H1,J,rfl,rfl,hj,hp⟩;have c1:H1.Comp F:=lG.bX;have c2:J.Comp F:=Hp.Comp.cG hj lG;rw[Hp.fT c2.symm];exact(hG v _ ⟨H1,rfl,c1,hp⟩).up bU (Hp.Comp.gX hj c2.symm)
 ·rintro fr bJ H' J hJ ⟨rfl,v,H1,J1,rfl,rfl,hj,hp⟩;exact⟨rfl,v,H1,J1.join J,rfl,Hp.cV _ _ _,hj.mY hJ.bX,hp⟩
 intro v H' hp;exact .stop ⟨rfl,v,H',.nil,rfl,(Hp.dT H').symm,Hp.eO H',hp⟩
theorem g8.frame{rd:Rd}{c:Code}{Q:Ex->Act->Hp->Prop}{a:Act}{H F:Hp}(h:g8 P rd c Q a H)(hc:H.Comp F) :
  g8 P rd c (λe a' HF=>∃H',HF=H'.join F/\H'.Comp F/\Q e a' H') a (H.join F):=by
 intro G b k cs bU hb hG;have h0:=h (λfr bJ H'=>∃H1 J:Hp,H'=H1.join J/\H1.Comp J/\∀HF:Hp,(∃X:Hp,HF=(H1.join J).join X/\(H1.join J).Comp X/\F=X)->Reach P G fr bJ HF) b k cs ?_ hb ?_
 ·refine(h0.frame hc).bind ?_;rintro fr bJ HF ⟨H',rfl,lG,H1,J,rfl,hj,hp⟩;exact hp _ ⟨F,rfl,lG,rfl⟩
 ·rintro fr bJ H' J hJ ⟨H1,J1,rfl,hj,hp⟩;refine⟨H1,J1.join J,Hp.cV _ _ _,hj.mY hJ.bX,?_⟩;rintro HF ⟨X,rfl,hx,hX⟩;subst hX;have ED:((H1.join J1).join J).Comp F:=by rw[Hp.cV];exact hx
  have c2:J.Comp F:=Hp.Comp.cG hJ ED;have:=(hp _ ⟨F,rfl,ED.bX,rfl⟩).up bU (J:=J) (Hp.Comp.gX hJ c2.symm);rw[<-Hp.cV,Hp.fT c2.symm];exact this
 intro e a' H' hq;have lY:∀fr,(∀HF,HF=H'.join F/\H'.Comp F->Reach P G fr cs HF)->Reach P (λfr bJ H'=>∃H1 J:Hp,H'=H1.join J/\H1.Comp J/\∀HF:Hp,(∃X:Hp,HF=(H1.join J).join X/\(H1.join J).Comp X/\F=X)->Reach P G fr bJ HF) fr cs H':=by intro fr BP;refine .stop ⟨H',.nil,(Hp.dT H').symm,Hp.eO H',?_⟩;rintro HF ⟨X,rfl,hx,hX⟩;subst hX;rw[Hp.dT]at hx ⊢;exact BP _ ⟨rfl,hx⟩
 cases e with
 | normal=>exact lY _ λHF ⟨e,hx⟩=>hG .normal a' HF ⟨H',e,hx,hq⟩
 | ret=>exact λk'=>lY _ λHF ⟨e,hx⟩=>hG .ret a' HF ⟨H',e,hx,hq⟩ k'
 | exit id=>
  exact⟨λk' hk=>lY _ λHF ⟨e,hx⟩=>(hG (.exit id) a' HF ⟨H',e,hx,hq⟩).1 k' hk,λhk k' gG=>lY _ λHF ⟨e,hx⟩=>(hG (.exit id) a' HF ⟨H',e,hx,hq⟩).2 hk k' gG⟩
end
variable{P:bF}{fv:Value}{args:Array Value}{f:FuncId}{r l:Nat}{o:Loop}{b:Frame}{a:Act}{cs:List Frame}{assign body:Code}{w:World}{params:Array Tmp}
def Up(A:Hp->Prop):Prop:=∀H J,H.Comp J->A H->A (H.join J)
def E7(P:bF)(Post:Value->Hp->Prop):Next->Hp->Prop
 | .value v,H=>Post v H
 | .skip,H=>Post undef H
 | .enter f args,H=>Zc P f args H Post
 | .round l f tmps aB bd,H=>UY P l f tmps aB bd H Post
 | _,_=>False
theorem E7.mono{Post gM:Value->Hp->Prop}(hp:∀v H,Post v H->gM v H):∀{n:Next} {H:Hp},E7 P Post n H->E7 P gM n H:=by
 intro n H h;cases n with
 | value v=>exact hp _ _ h
 | skip=>exact hp _ _ h
 | enter f args=>exact Zc.mono h hp
 | round l f tmps aB bd=>exact UY.mono h hp
 | _=>exact h.elim
def OS(fv:Value)(args:Array Value):Sem Next:=do let d <-Deferred.ofValue fv args;invoke d.target d.args
def ZX(P:bF)(fv:Value)(args:Array Value)(H:Hp)(Post:Value->Hp->Prop):Prop:=
 cD P (OS fv args) (λn g H'=>g=true\/E7 P Post n H') false H
theorem ZX.mono{H:Hp}{Post gM:Value->Hp->Prop}(h:ZX P fv args H Post)(hp:∀v H,Post v H->gM v H):ZX P fv args H gM:=
 Vh (λn g H h=>h.imp id (E7.mono hp)) h
theorem E7.frame{Post:Value->Hp->Prop}{F:Hp}:∀{n:Next} {H:Hp},E7 P Post n H->H.Comp F->E7 P (λv HF=>∃H',HF=H'.join F/\H'.Comp F/\Post v H') n (H.join F):=by
 intro n H h hc;cases n with
 | value v=>exact⟨_,rfl,hc,h⟩
 | skip=>exact⟨_,rfl,hc,h⟩
 | enter f args=>exact Zc.frame h hc
 | round l f tmps aB bd=>exact UY.frame h hc
 | _=>exact h.elim
theorem ZX.frame{H F:Hp}{Post:Value->Hp->Prop}(h:ZX P fv args H Post)(hc:H.Comp F) :
  ZX P fv args (H.join F) (λv HF=>∃H',HF=H'.join F/\H'.Comp F/\Post v H'):=
 Vh (λn g HF ⟨H',e,lG,hn⟩=>by rw[e];exact hn.imp id λhn=>hn.frame lG) (Be h hc)
theorem ZX.of{fn:Func}{first cap:Array Value}{H:Hp}{Post:Value->Hp->Prop}(hf:P.funcs[f]? = some fn)(hb:fn.body.isSome=true)(hn:(fn.name == "runtime.NumGoroutine")=false)
  (h:Zc P f (first++args++cap) H Post):ZX P (.func (.func f) first cap) args H Post:=by
 have mC:fn.body.isNone=false:=by simpa using hb
 unfold ZX OS;simp only[Deferred.ofValue,Zh,Zj,invoke,callFunc,VZ,hf,hn,mC,iN,qAk];exact .inr h
def KY(P:bF)(fv:Value)(N:Hp->Prop)(xs:List (List Value)):Prop:=
 ∀(y:Value) (I:Nat->Hp->Prop) (S:Hp->Prop) (H:Hp),(∃f a b,y=.func f a b)->(∀n,Up (I n))->Up S->(∀n H,I n H->N H) ->
  (∀n (hn:n<xs.length) H,I n H->ZX P y (xs[n]).toArray H (λv H'=>(v=.bool true/\I (n+1) H')\/(v=.bool false/\S H')))->I 0 H->ZX P fv #[y] H (λ_ H'=>I xs.length H'\/S H')
def K5(P:bF)(fv:Value)(N:Hp->Prop)(len:Nat)(E:Nat->List Value->Hp->Prop):Prop:=
 ∀(y:Value) (I:Nat->Hp->Prop) (S:Hp->Prop) (H:Hp),(∃f a b,y=.func f a b)->(∀n,Up (I n))->Up S->(∀n H,I n H->N H) ->
  (∀n,n<len->∀vs Hv H,E n vs Hv->Hv.gh=[]->H.Comp Hv->I n H->ZX P y vs.toArray (H.join Hv) (λv H'=>(v=.bool true/\I (n+1) H')\/(v=.bool false/\S H')))->I 0 H->ZX P fv #[y] H (λ_ H'=>I len H'\/S H')
def ZnC(xs:List (List Value))(n:Nat)(vs:List Value)(Hv:Hp):Prop:=Hv=.nil/\∃h:n<xs.length,vs=xs[n]
theorem KY.toE{N:Hp->Prop}{xs:List (List Value)}(h:KY P fv N xs):K5 P fv N xs.length (ZnC xs):=by intro y I S H hy hI hS hN hr h0;refine h y I S H hy hI hS hN (λn hn H hi=>?_) h0;have:=hr n hn xs[n] .nil H ⟨rfl,hn,rfl⟩ rfl (Hp.eO H) hi;rwa [Hp.dT]at this
def R8(l:Nat):Value:=.func (.yield l) #[] #[]
def OG(r:Nat):Deferred:={ target:=.collected r,args:=#[] }
def ZK(r l:Nat)(o:Loop):Hp:=(Hp.nil.ins r (.deferred (some []))).ins l (.loop o)
theorem OH(r l:Nat)(o:Loop):ZK r l o l=some (.loop o,true):=Hp.aF _ _ _
theorem Zub(h:r≠l)(o:Loop):ZK r l o r=some (.deferred (some []),true):=by unfold ZK;rw[Hp.aE _ _ h,Hp.aF]
theorem Hp.iU{H F:Hp}{o:Obj}(h:H r=none):H.join (F.ins r o)=(H.join F).ins r o:=by
 refine Hp.ext' (λb=>?_) rfl;simp only[Hp.aX,Hp.eD];by_cases e:b=r
 ·subst e;simp[h]
 simp[e]
theorem My{H:Hp}(hc:H.Comp (ZK r l o))(o':Loop):(H.join (ZK r l o)).ins l (.loop o')=H.join (ZK r l o')/\H.Comp (ZK r l o'):=by
 have hl:H l=none:=hc.mX (OH r l o);have e:ZK r l o'=(ZK r l o).ins l (.loop o'):=by
  refine Hp.ext' (λb=>?_) rfl;unfold ZK;by_cases e:b=l
  ·subst e;simp[Hp.eD]
  simp[Hp.eD,e]
 rw[e,Hp.iU hl];exact⟨rfl,(hc.symm.hZ _ hl).symm⟩
theorem Bf{P:PQ}{p:Bool}{H:Hp}(bB:P.still H.gh=false)(h:H l=some (.loop o,p))(Q:Loop->Bool->Hp->Prop)(g:Bool)(hq:Q o g H):cD P (Instr.getLoop l) Q g H:=by simp only[Instr.getLoop,Zh,getObj];exact⟨_,_,⟨bB,h⟩,rfl,rfl,hq⟩
theorem ZpO(l:Nat)(f:FuncId)(tmps:Array Value)(assign body:Code):Frame.round l f tmps assign body .normal=on (Frame.round l f tmps assign body .normal) ⟨tmps,[]⟩ [.code assign,.beginRound,.code body]:=rfl
def ZR:Ex->Option Code
 | .normal=>none
 | .ret=>some .ret
 | .exit id=>some (.exit id)
theorem Qs{G:Frame->List Frame->Hp->Prop}{c:Frame}{H:Hp}(hs:∀g,P.still g=false)(hr:b.roundOf=some l)(hk:b.kind=.normal)(hc:H.Comp (ZK r l o))
  {e:Ex} {todo:List Item} (he:(e=.normal/\todo=[])\/(e=.ret/\∃k',todo=.code .ret :: k')\/∃id,e=.exit id/\∃k',todo=.code (.exit id) :: k'/\exitTo id k'=none)
  (hG:H.Comp (ZK r l { o with state:=if(ZR e).isNone then .ready else .done,pending:=ZR e })->Reach P G (c.finish (.bool (ZR e).isNone)) cs (H.join (ZK r l { o with state:=if(ZR e).isNone then .ready else .done,pending:=ZR e }))) :
  Reach P G (on b a todo) (c :: cs) (H.join (ZK r l o)):=by
 obtain⟨e1,e2⟩:=My hc { o with state:=if(ZR e).isNone then .ready else .done,pending:=ZR e };refine .zS (s:=Instr.endRound l (ZR e)) (Q:=λv _ H'=>v=.bool (ZR e).isNone/\H'=H.join (ZK r l { o with state:=if(ZR e).isNone then .ready else .done,pending:=ZR e })) ?_ ?_
 ·simp only[Instr.endRound,Zh];refine Bf (hs _) (Hp.aS hc (OH r l o)) _ _ ?_;refine⟨_,⟨hs _,Hp.aS hc (OH r l o)⟩,rfl,rfl,rfl,rfl,e1⟩
 rintro v H0 ⟨rfl,_⟩;refine⟨c.finish (.bool (ZR e).isNone),cs,λmain w w' es e3=>⟨seen P b.fn es,?_,.inr rfl⟩,λH' e4=>by rw[e4.2];exact hG e2⟩;rcases he with⟨rfl,rfl⟩ | ⟨rfl,k',rfl⟩ | ⟨id,rfl,k',rfl,hx⟩
 ·simp only[ZR]at e3;simp only[stepG,stepG.exec,on,hr,ZR,e3,doReturn,hk,GStep.after,qAh]
 ·simp only[ZR]at e3;simp only[stepG,stepG.exec,on,hr,ZR,e3,doReturn,hk,GStep.after,qAh]
 simp only[ZR]at e3;simp only[stepG,stepG.exec,on,hr,ZR,hx,Option.elim,e3,doReturn,hk,GStep.after,qAh]
theorem ZpN{tmps:Array Value}{H:Hp}{J:Hp->Prop}{S:Ex->Hp->Prop}(hs:∀g,P.still g=false)(ho:o.state=.ready)(hc:H.Comp (ZK r l o))
  (h:g8 P ⟨false,false⟩ assign (Ex.then (g8 P ⟨false,false⟩ body (λe _ H'=>match e with | .normal=>J H' | e=>S e H')) (λ_ _ _=>False)) ⟨tmps,[]⟩ H) :
  UY P l f tmps assign body (H.join (ZK r l o)) (λv HF=>∃H',(v=.bool true/\HF=H'.join (ZK r l { o with state:=.ready,pending:=none })/\H'.Comp (ZK r l { o with state:=.ready,pending:=none })/\J H') \/
   (v=.bool false/\∃e,e≠.normal/\HF=H'.join (ZK r l { o with state:=.done,pending:=ZR e })/\H'.Comp (ZK r l { o with state:=.done,pending:=ZR e })/\S e H')):=by
 intro G c cs bU hG
 rw[ZpO]
 have oY:Fit P ⟨false,false⟩ (Frame.round l f tmps assign body .normal):=⟨by simp[Frame.round],λh=>by simp at h,λh=>by simp at h⟩
 refine(h.frame hc) G (Frame.round l f tmps assign body .normal) _ (c :: cs) bU oY ?_
 rintro e a1 HF ⟨H1,rfl,EN,hq⟩
 cases e with
 | ret=>exact hq.elim
 | exit id=>exact hq.elim
 | normal=>
  obtain⟨e1,e2⟩:=My EN { o with state:=.busy };refine .zS (s:=(do Instr.beginRound l;pure .skip:Sem Next)) (Q:=λv _ H'=>v=.skip/\H'=H1.join (ZK r l { o with state:=.busy })) ?_ ?_
  ·simp only[Instr.beginRound,Zh];refine Bf (hs _) (Hp.aS EN (OH r l o)) _ _ ?_;refine⟨_,⟨hs _,Hp.aS EN (OH r l o)⟩,rfl,rfl,rfl,?_⟩;rw[ho];exact⟨rfl,e1⟩
  rintro v H0 ⟨rfl,_⟩;refine⟨on (Frame.round l f tmps assign body .normal) a1 [.code body],c :: cs,λmain w w' es e3=>⟨seen P f es,?_,.inr rfl⟩,λH' e4=>?_⟩
  ·have hk:((on (Frame.round l f tmps assign body .normal) a1 [Item.beginRound,Item.code body]).kind == CallKind.early)=false:=rfl;have e5:((do (some l).elim (stuck "beginRound: no round") Instr.beginRound;pure .skip:Sem Next)).runT P w #[]=(.ok .skip w',es):=e3;show stepG.apply P true _ _ _ _ w=_;simp only[stepG.apply,qAM];show GStep.after _ _=_;erw [e5];rfl
  rw[e4.2];refine(g8.frame hq e2) G (Frame.round l f tmps assign body .normal) _ (c :: cs) bU oY ?_;rintro e a2 HF ⟨H2,rfl,rL,T2⟩;cases e with
  | normal=>
   refine Qs (e:=.normal) hs rfl rfl rL (.inl ⟨rfl,rfl⟩) λEM=>hG _ _ ⟨H2,.inl ⟨rfl,rfl,EM,T2⟩⟩
  | ret=>
   intro k';refine Qs (e:=.ret) hs rfl rfl rL (.inr (.inl ⟨rfl,k',rfl⟩)) λEM=>hG _ _ ⟨H2,.inr ⟨rfl,.ret,by simp,rfl,EM,T2⟩⟩
  | exit id=>
   refine⟨λk' hk=>by simp[exitTo]at hk,λ_ k' gG=>?_⟩;refine Qs (e:=.exit id) hs rfl rfl rL (.inr (.inr ⟨id,rfl,k',rfl,gG⟩)) λEM=>hG _ _ ⟨H2,.inr ⟨rfl,.exit id,by simp,rfl,EM,T2⟩⟩
theorem Cc{I:Hp->Prop}{X:Hp}(hI:Up I):Up λHF=>∃H1:Hp,HF=H1.join X/\H1.Comp X/\I H1:=by rintro H J hJ ⟨H1,rfl,hc,hi⟩;have c1:H1.Comp J:=hJ.bX;have c2:X.Comp J:=Hp.Comp.cG hc hJ;exact⟨H1.join J,Hp.fT c2.symm,Hp.Comp.gX hc c2.symm,hI _ _ c1 hi⟩
theorem Zp5{G:Frame->List Frame->Hp->Prop}{fr:Frame}{H:Hp}{Post:Value->Hp->Prop}(bU:VX G)(hk:fr.kind≠.early)(ht:∃l k,fr.todo=.inRangeFunc l :: k)
  (h:ZX P fv args H Post) (hG:∀v H',Post v H'->Reach P G (fr.finish v) cs H') (hw:H.le w) :
  ∃bW bJ w' H' es,stepG.apply P true fr cs none (OS fv args) w=.go (bT bW bJ) w' es/\Fr H w H' w'/\Reach P G bW bJ H'/\∀e∈es,EvL H w w'.heap.size e:=by
 obtain⟨n,w',H',es,g,e1,e2,⟨e3,e5⟩,e4⟩:=ZgC #[] h hw;obtain rfl:g=false:=by
  cases g with
  | false=>rfl
  | true=>exact(e5 rfl).symm
 have hn:=e3.resolve_left (by simp);have kL:(fr.kind == CallKind.early)=false:=ZmP hk;have oI:∀e∈seen P fr.fn es,EvL H w w'.heap.size e:=λe he=>e4 e (Qy _ _ _ e he);simp only[qBU]at e1;obtain⟨l,k,ht⟩:=ht;cases n with
 | value v=>exact⟨fr.finish v,cs,w',H',_,by simp only[stepG.apply,e1,qAM,kL,iN,qAk,GStep.after,qAh],e2,hG _ _ hn,oI⟩
 | skip=>exact⟨fr.finish undef,cs,w',H',_,by simp only[stepG.apply,e1,qAM,kL,iN,qAk,GStep.after,qAh],e2,hG _ _ hn,oI⟩
 | enter f args=>exact⟨Frame.enter P f args .normal,fr :: cs,w',H',_,by simp only[stepG.apply,ht,e1,qAM,kL,iN,qAk,GStep.after,qAh],e2,hn G _ cs bU λv nA hv=>hG _ _ hv,oI⟩
 | round l f tmps assign body=>exact⟨Frame.round l f tmps assign body .normal,fr :: cs,w',H',_,by simp only[stepG.apply,e1,qAM,kL,iN,qAk,GStep.after,qAh],e2,hn G _ cs bU λv nA hv=>hG _ _ hv,oI⟩
 | _=>exact hn.elim
theorem ZoH{P:Program}{main:Bool}{k:List Item}{f:Operand}{w2:World}{mk:Deferred}(KO:b.roundOf=none)
  (WE:(Instr.enterLoop b.fn a.tmps params assign body none).runT P w #[]=(.ok (l,[mk]) w2,#[])) :
  stepG P main (bT (on b a (.code (.rangeFunc f params assign body) :: k)) cs) w =
   GStep.after (seen P b.fn #[]) (stepG.apply P true { b with tmps:=a.tmps,todo:=.inRangeFunc l :: k,defers:=mk :: a.defers,mode:=.run } cs none (OS (a.eval f) #[R8 l]) w2):=by
 obtain⟨bfn,btm,Xn,aKB,Xo,Xp,Kb⟩:=b
 simp only at KO WE
 subst KO
 simp only[on,stepG,stepG.exec,WE]
 congr 2
 simp only[resolve,OS,qBl,qBo,qDb,Frame.eval,R8]
 congr 1
theorem g8.rangeFunc{nr:Bool}{f:Operand}{Q:Ex->Act->Hp->Prop}{H:Hp}(hs:∀g,P.still g=false){N:Hp->Prop}{len:Nat}{E:Nat->List Value->Hp->Prop}(x8:K5 P (a.eval f) N len E)
  (dJ:∀n vs Hv,E n vs Hv->vs.length=params.size) (I:Nat->Hp->Prop) (S:Ex->Hp->Prop) (rA:∀n,Up (I n)) (AO:∀e,Up (S e)) (hN:∀n H J,I n H->H.Comp J->N (H.join J)) (h0:I 0 H)
  (uO:∀n (hn:n<len) vs Hv H,E n vs Hv->Hv.gh=[]->H.Comp Hv->I n H->g8 P ⟨false,false⟩ assign (Ex.then (g8 P ⟨false,false⟩ body (λe _ H'=>match e with | .normal=>I (n+1) H' | e=>S e H')) (λ_ _ _=>False)) ⟨(params.zip vs.toArray).foldl (λtmps (t,a)=>tmps.setIfInBounds t a) a.tmps,[]⟩ (H.join Hv))
  (tB:∀H' r J,I len H'->H'.Comp J->J r=some (.deferred (some []),true)->Q .normal ⟨a.tmps,OG r :: a.defers⟩ (H'.join J))
  (lY:∀e H' r J,e≠.normal->S e H'->H'.Comp J->J r=some (.deferred (some []),true)->Q e ⟨a.tmps,OG r :: a.defers⟩ (H'.join J)) :
  g8 P ⟨true,nr⟩ (.rangeFunc f params assign body) Q a H:=by
 intro G b k cs bU hb hG;have KO:b.roundOf=none:=hb.wG rfl;refine .step ⟨λmain w hw=>?_,λbB=>by rw[hs]at bB;simp at bB⟩;have IZ:=Fr.alloc hw (.deferred (some []));generalize l7:({ state:=.ready,pending:=none,fn:=b.fn,tmps:=a.tmps,params,assign,body,defers:=w.heap.size }:Loop)=rec;have BO:=Fr.alloc IZ.le (.loop rec);have fP:({ w with heap:=w.heap.push (.deferred (some [])) }:World).heap.size=w.heap.size+1:=by simp
 rw[fP]at BO;have BB:H w.heap.size=none:=by
  cases hh:H w.heap.size with
  | none=>rfl
  | some y=>exact absurd (hw.lt hh) O
 have Wd:H (w.heap.size+1)=none:=by
  cases hh:H (w.heap.size+1)with
  | none=>rfl
  | some y=>exact absurd (hw.lt hh) O
 have hX:(H.ins w.heap.size (.deferred (some []))).ins (w.heap.size+1) (.loop rec)=H.join (ZK w.heap.size (w.heap.size+1) rec):=by unfold ZK;rw[Hp.iU Wd,Hp.iU BB,Hp.dT]
 have hXc:H.Comp (ZK w.heap.size (w.heap.size+1) rec):=(((Hp.eO H).symm.hZ _ BB).hZ _ Wd).symm;rw[hX]at BO;generalize CY:w.heap.size=r at *;generalize kK:r+1=l at *;have T0:r≠l:=O;let EV:Frame:={ b with tmps:=a.tmps,todo:=.inRangeFunc l :: k,defers:=OG r :: a.defers,mode:=.run }
 have gS:ZX P (a.eval f) #[R8 l] (H.join (ZK r l rec)) (λ_ HF=>∃(e:Ex) (H':Hp),HF=H'.join (ZK r l { rec with state:=if(ZR e).isNone then .ready else .done,pending:=ZR e })/\H'.Comp (ZK r l { rec with state:=if(ZR e).isNone then .ready else .done,pending:=ZR e })/\(match e with | .normal=>I len H' | e=>S e H')):=by
  have h1:=x8 (R8 l) (λn HF=>∃H1:Hp,HF=H1.join (ZK r l rec)/\H1.Comp (ZK r l rec)/\I n H1)
   (λHF=>∃e:Ex,e≠.normal/\∃H1:Hp,HF=H1.join (ZK r l { rec with state:=.done,pending:=ZR e })/\H1.Comp (ZK r l { rec with state:=.done,pending:=ZR e })/\S e H1)
   (H.join (ZK r l rec)) ⟨_,_,_,rfl⟩ (λn=>Cc (rA n)) (λHF J hJ ⟨e,he,hh⟩=>⟨e,he,Cc (AO e) HF J hJ hh⟩) ?_ ?_ ⟨H,rfl,hXc,h0⟩
  ·refine h1.mono ?_;rintro v HF (⟨H1,rfl,hc,hi⟩ | ⟨e,he,H1,rfl,hc,hs⟩)
   ·subst l7;exact⟨.normal,H1,rfl,hc,hi⟩
   cases e with
   | normal=>exact absurd rfl he
   | ret=>exact⟨.ret,H1,rfl,hc,hs⟩
   | exit id=>exact⟨.exit id,H1,rfl,hc,hs⟩
  ·rintro n HF ⟨H1,rfl,hc,hi⟩;exact hN n H1 _ hi hc
  rintro n hn vs Hv HF hE P5 I3 ⟨H1,rfl,rV,bD⟩;have c1:H1.Comp Hv:=I3.bX;have c2:(ZK r l rec).Comp Hv:=Hp.Comp.cG rV I3;rw[Hp.fT c2.symm];have hc:(H1.join Hv).Comp (ZK r l rec):=Hp.Comp.gX rV c2.symm;have hi:=uO n hn vs Hv H1 hE P5 c1 bD;generalize H1.join Hv=H1 at *;unfold ZX OS R8;simp only[Deferred.ofValue,Zh,Zj,invoke,Instr.yield];refine Bf (hs _) (Hp.aS hc (OH r l rec)) _ _ ?_;have HX:rec.params=params:=by rw[<-l7]
  have h2:(#[]++vs.toArray).size=rec.params.size:=by rw[HX];simp[dJ _ _ _ hE]
  simp only[h2,ne_eq,not_true_eq_false,qAk,Zj,E7];refine .inr ?_;have h3:=hi;have h4:=ZpN (r:=r) (l:=l) (o:=rec) (f:=rec.fn) (J:=I (n+1)) (S:=S) hs (by rw[<-l7]) hc h3;have h5:(rec.params.zip (#[]++vs.toArray)).foldl (λtmps (t,a)=>tmps.setIfInBounds t a) rec.tmps=(params.zip vs.toArray).foldl (λtmps (t,a)=>tmps.setIfInBounds t a) a.tmps:=by rw[<-l7,qBU]
  have h6:rec.assign=assign:=by rw[<-l7]
  have h7:rec.body=body:=by rw[<-l7]
  rw[show UY P l rec.fn ((rec.params.zip (#[]++vs.toArray)).foldl (λtmps (t,a)=>tmps.setIfInBounds t a) rec.tmps) rec.assign rec.body=UY P l rec.fn ((params.zip vs.toArray).foldl (λtmps (t,a)=>tmps.setIfInBounds t a) a.tmps) assign body by rw[h5,h6,h7]];refine h4.mono ?_;rintro v HF ⟨H2,⟨rfl,e1,e2,e3⟩ | ⟨rfl,e,he,e1,e2,e3⟩⟩
  ·refine .inl ⟨rfl,H2,?_,?_,e3⟩
   ·rw[e1];congr 2;rw[<-l7]
   rw[<-l7];rw[<-l7]at e2;exact e2
  exact .inr ⟨rfl,e,he,H2,e1,e2,e3⟩
 have kA:∀v HF,(∃(e:Ex) (H':Hp),HF=H'.join (ZK r l { rec with state:=if(ZR e).isNone then .ready else .done,pending:=ZR e })/\H'.Comp (ZK r l { rec with state:=if(ZR e).isNone then .ready else .done,pending:=ZR e })/\(match e with | .normal=>I len H' | e=>S e H'))->Reach P G (EV.finish v) cs HF:=by
  rintro v HF ⟨e,H1,rfl,hc,hq⟩;obtain⟨e1,e2⟩:=My hc { rec with state:=.exhausted,pending:=ZR e };refine .zS (s:=Instr.endLoop l) (Q:=λv _ H'=>v=ZR e/\H'=H1.join (ZK r l { rec with state:=.exhausted,pending:=ZR e })) ?_ ?_
  ·simp only[Instr.endLoop,Zh];refine Bf (hs _) (Hp.aS hc (OH r l _)) _ _ ?_;have:((if(ZR e).isNone=true then LoopState.ready else LoopState.done) == LoopState.busy)=false:=by cases e<;>rfl
   simp only[this,iN,qAk,Zj];exact⟨_,⟨hs _,Hp.aS hc (OH r l _)⟩,rfl,rfl,rfl,rfl,e1⟩
  rintro v H0 ⟨rfl,_⟩;refine⟨on b ⟨a.tmps,OG r :: a.defers⟩ (((ZR e).map Item.code).toList++k),cs,λmain w w' es e3=>⟨seen P b.fn es,?_,.inr rfl⟩,λH' e4=>?_⟩
  ·simp only[EV,Frame.finish,stepG,stepG.exec,e3,GStep.after,qAh];rfl
  rw[e4.2];have hJ:=Zub T0 ({ rec with state:=.exhausted,pending:=ZR e }:Loop);cases e with
  | normal=>exact hG .normal _ _ (tB _ r _ hq e2 hJ)
  | ret=>exact hG .ret _ _ (lY .ret _ r _ (by simp) hq e2 hJ) k
  | exit id=>exact g8.exit (lY (.exit id) _ r _ (by simp) hq e2 hJ) G b k cs bU hb hG
 have hw2:(H.join (ZK r l rec)).le _:=BO.le;obtain⟨bW,bJ,w',H',es,a1,a2,a3,a4⟩:=Zp5 (fr:=EV) bU hb.kind ⟨l,k,rfl⟩ gS kA hw2;have htr:=(IZ.trans BO).trans a2;refine⟨bW,bJ,w',H',seen P b.fn #[]++es,?_,htr,a3,λe he=>?_⟩
 ·have WE:(Instr.enterLoop b.fn a.tmps params assign body none).runT P w #[]=(.ok (l,[OG r]) { { w with heap:=w.heap.push (.deferred (some [])) }with heap:=(w.heap.push (.deferred (some []))).push (.loop rec) },#[]):=by subst kK;subst CY;subst l7;simp[- Sem.runT_eq,Instr.enterLoop,newObj,Sem.runT,bind,Sem.bind,pure,OG]
  rw[ZoH KO WE];show GStep.after _ (stepG.apply P true EV cs none _ _)=_;rw[a1];rfl
 rcases qAB.1 he with he | he
 ·exact absurd (Qy _ _ _ e he) (by simp)
 exact(a4 e he).jP (IZ.trans BO) a2.size
