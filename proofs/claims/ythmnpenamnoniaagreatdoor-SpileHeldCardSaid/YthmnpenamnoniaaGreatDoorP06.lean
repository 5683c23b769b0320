import Derived.Test.YthmnpenamnoniaaGreatDoorP05
set_option linter.all false
namespace Go.LL
section
variable{t:Nat}{o:BinOp}{k k':IntKind}{m n:Int}{vs:List Value}{f:FuncId}{xs:List Operand}{Post:Value->Hp->Prop}{ty t2:TypeId}{rs:List Zc}{G G':Prop}
section
variable{P:aY}{d:Option Nat}{r:List NI}{op:aR}{Q:aL->Hp->Prop}{next:aL->Hp->Prop}{σ:aL}{H:Hp}{x y z:Operand}{v:Value}
def GX(h:Q σ H):ZS P [] Q σ H:=h
def GW(h:op.m P d (ZS P r Q) σ H):ZS P (⟨none,d,op⟩ :: r) Q σ H:=h
def GU{b:Bool}(e:σ.env t=some (.bool b))(h:op.m P d (ZS P r Q) σ H):ZS P (⟨some (t,b),d,op⟩ :: r) Q σ H:=by cases b<;>(simp only[ZS,e];exact h)
def FV{b g:Bool}(e:σ.env t=some (.bool g))(hb:g=!b)(h:ZS P r Q (σ.dR d) H):ZS P (⟨some (t,b),d,op⟩ :: r) Q σ H:=by subst hb;cases b<;>(simp only[ZS,e,qCU,qCt];exact h)
def GV{b:Bool}(e:σ.env t=some undef)(h:ZS P r Q (σ.dR d) H):ZS P (⟨some (t,b),d,op⟩ :: r) Q σ H:=by cases b<;>(simp only[ZS,e,undef];exact h)
def GJ(e:σ.get x=some v)(h:next (σ.set d v) H):(aR.cV x).m P d next σ H:=by simp only[aR.m,e];exact h
def EZ{b:Bool}(e:σ.get x=some (.bool b))(g:σ.get (bif b then y else z)=some v)(h:next (σ.set d v) H):(aR.pick x y z).m P d next σ H:=by cases b<;>(simp only[cond_true,cond_false]at g;simp only[aR.m,e,g];exact h)
def GL{b:Bool}(e:σ.get x=some (.bool b))(h:next (σ.set d (.bool !b)) H):(aR.not x).m P d next σ H:=by cases b<;>(simp only[aR.m,e];exact h)
def Yk(e:σ.get x=some (.int k m))(g:σ.get y=some (.int k' n))(i:Va k k'=true)(h:EW o k m n λv=>next (σ.set d v) H):(aR.bC o x y).m P d next σ H:=by simp only[aR.m,e,g,i];exact h
def GF{a:Addr}{off:Nat}(e:σ.get x=some (.pointer (some a)))(h:next (σ.set d (.pointer (some (a.add off)))) H):(aR.aU off x).m P d next σ H:=by simp only[aR.m,e];exact h
def GD{vs:Array Value}{i:Nat}(e:σ.get x=some (.tuple vs))(g:vs[i]? = some v)(h:next (σ.set d v) H):(aR.ext x i).m P d next σ H:=by simp only[aR.m,e,g];exact h
def ZtN(e:σ.dM xs=some vs)(h:Za P f vs.toArray H λv g=>next (σ.set d v) g):(aR.call f xs).m P d next σ H:=by simp only[aR.m,e];exact h
def Zv(e:σ.dM xs=some vs)(i:Za P f vs.toArray H Post)(h:∀v g,Post v g->next (σ.set d v) g):(aR.call f xs).m P d next σ H:=ZtN e (Za.mono i h)
def PO{o:Op}(g:(o.operands.all λx=>(σ.get x).isSome)=true)(e:execOp (λx=>(σ.get x).getD undef) (aN o ty)=pure (.value v))(h:next (σ.set d v) H):(aR.raw o ty).m P d next σ H:=by refine⟨g,.inl ?_⟩;rw[e];exact .inr h
def GK{a:Addr}(e:σ.get x=some (.pointer (some a)))(h:next (σ.set d (.pointer (some a))) H):(aR.raw (.nilCheck x) ty).m P d next σ H:=by refine PO (by simp[Op.operands,e]) ?_ h;simp[execOp,aN,e]
def ZI(o:BinOp)(k:IntKind)(m n:Int):Value:=
 match o with
 | .and=>.int k (k.wrap (BitVec.ofInt k.bits m &&& BitVec.ofInt k.bits n).toNat)
 | .or=>.int k (k.wrap (BitVec.ofInt k.bits m ||| BitVec.ofInt k.bits n).toNat)
 | .andNot=>.int k (k.wrap (BitVec.ofInt k.bits m &&& ~~~ BitVec.ofInt k.bits n).toNat)
 | .sub=>.int k (k.wrap (m-n))
 | .shr=>.int k (m.fdiv (2 ^ min n.toNat k.bits))
 | .shl=>.int k (k.wrap (m * 2 ^ min n.toNat k.bits))
 | _=>undef
def Zq{t:TypeId}(e:σ.get x=some (.int k m))(g:σ.get y=some (.int k n))(i:o=.and\/o=.or\/o=.andNot\/o=.sub)(q:ZI o k m n=v)(h:next (σ.set d v) H) :
  (aR.raw (.binOp o t x y t2) ty).m P d next σ H:=by
 refine PO (by simp[Op.operands,e,g]) ?_ h;subst q;rcases i with rfl | rfl | rfl | rfl<;>simp[execOp,aN,e,g,eqGuard,binOp,Op.intBits,Op.intArith,ZI]
def Vz{t:TypeId}{s:IntKind}(e:σ.get x=some (.int k m))(g:σ.get y=some (.int s n))(i:o=.shr\/o=.shl)(u:0<=n)(q:ZI o k m n=v)(h:next (σ.set d v) H) :
  (aR.raw (.binOp o t x y t2) ty).m P d next σ H:=by
 refine PO (by simp[Op.operands,e,g]) ?_ h;subst q;have:¬ n<0:=O;rcases i with rfl | rfl<;>simp[execOp,aN,e,g,eqGuard,binOp,Op.shift,ZI,this]
def Oq:∀{xs:List Operand} {vs:List Value},σ.dM xs=some vs->xs.map (λx=>(σ.get x).getD undef)=vs/\(xs.all λx=>(σ.get x).isSome)=true
 | [],vs,h=>by simp only[aL.dM,aT]at h;subst h;exact⟨rfl,rfl⟩
 | x :: r,vs,h=>by
  simp only[aL.dM]at h;split at h
  ·rename_i v s e g;simp only[aT]at h;subst h;obtain⟨i,q⟩:=Oq g;simp[e,i,q]
  simp at h
def Ah{ρ:Operand->Value}{aA:Array Operand}{ts:Array TypeId}(e:ρ (.func f)=.func (.func f) #[] #[]):execOp ρ (aN (.call { callee:=.value (.func f),args:=aA,argTypes:=ts }) ty)=callFunc f (aA.map ρ):=by simp[execOp,aN,resolve,Deferred.ofValue,e,invoke]
def YM(e:σ.get x=some (.int k m))(g:σ.get y=some (.int k' n))(i:Va k k'=true)(q:m=n)(h:next (σ.set d (.bool true)) H):(aR.bC .eql x y).m P d next σ H:=
 Yk e g i λb hb=>by
  have:b=true:=by cases b<;>simp_all<;>omega
  rw[this];exact h
def Yj(e:σ.get x=some (.int k m))(g:σ.get y=some (.int k' n))(i:Va k k'=true)(q:¬ m=n)(h:next (σ.set d (.bool false)) H):(aR.bC .eql x y).m P d next σ H:=
 Yk e g i λb hb=>by
  have:b=false:=by cases b<;>simp_all<;>omega
  rw[this];exact h
def Y7(e:σ.get x=some (.int k m))(g:σ.get y=some (.int k' n))(i:Va k k'=true)(q:m≠n)(h:next (σ.set d (.bool true)) H):(aR.bC .neq x y).m P d next σ H:=
 Yk e g i λb hb=>by
  have:b=true:=by cases b<;>simp_all<;>omega
  rw[this];exact h
def Ye(e:σ.get x=some (.int k m))(g:σ.get y=some (.int k' n))(i:Va k k'=true)(q:m=n)(h:next (σ.set d (.bool false)) H):(aR.bC .neq x y).m P d next σ H:=
 Yk e g i λb hb=>by
  have:b=false:=by cases b<;>simp_all<;>omega
  rw[this];exact h
def ZtD(e:σ.get x=some (.int k m))(g:σ.get y=some (.int k' n))(i:Va k k'=true)(q:m<n)(h:next (σ.set d (.bool true)) H):(aR.bC .lss x y).m P d next σ H:=
 Yk e g i λb hb=>by
  have:b=true:=by cases b<;>simp_all<;>omega
  rw[this];exact h
def GI(e:σ.get x=some (.int k m))(g:σ.get y=some (.int k' n))(i:Va k k'=true)(q:¬ m<n)(h:next (σ.set d (.bool false)) H):(aR.bC .lss x y).m P d next σ H:=
 Yk e g i λb hb=>by
  have:b=false:=by cases b<;>simp_all<;>omega
  rw[this];exact h
def CB(e:σ.get x=some (.int k m))(g:σ.get y=some (.int k' n))(i:Va k k'=true)(q:m > n)(h:next (σ.set d (.bool true)) H):(aR.bC .gtr x y).m P d next σ H:=
 Yk e g i λb hb=>by
  have:b=true:=by cases b<;>simp_all<;>omega
  rw[this];exact h
def GG(e:σ.get x=some (.int k m))(g:σ.get y=some (.int k' n))(i:Va k k'=true)(q:¬ m > n)(h:next (σ.set d (.bool false)) H):(aR.bC .gtr x y).m P d next σ H:=
 Yk e g i λb hb=>by
  have:b=false:=by cases b<;>simp_all<;>omega
  rw[this];exact h
def B6(i:σ.bN=[])(g:rs.any Zc.cell=false)(q:Og σ rs=some vs)(h:Post (Yn vs) H):VY P rs Post σ H:=by unfold VY vN;rw[i];exact⟨λe=>by rw[g]at e;simp at e,vs,FE q,h⟩
def yD(h:VY P rs Post σ H):sC P rs Post .normal σ H:=h
def Ol(h:VY P rs Post σ H):sC P rs Post .ret σ H:=h
variable{Qe:Ex->aL->Hp->Prop}{a b c:Zb}{id:Nat}
def F3{l:List NI}(h:ZS P l (Qe .normal) σ H):(Zb.aG l).m P Qe σ H:=h
def YY(h:a.m P (eJ.then (b.m P Qe) Qe) σ H):(Zb.seq a b).m P Qe σ H:=.inl h
def Zt5(h:tF P a b Qe σ H):(Zb.seq a b).m P Qe σ H:=.inr (.inl h)
def Y9{ι:Type}(I:ι->Hp->Prop)(env:ι->List (Nat×Value))(box:ι->List (Nat×List Value))(g:a.m P (eJ.then (λσ' e=>∃i,I i e/\iQ (env i) σ'/\iR (box i) σ'/\σ'.bN=σ.bN) Qe) σ H)
  (h:∀i H,I i H->b.m P Qe (UO σ.bN (env i) (box i)) H):(Zb.seq a b).m P Qe σ H:=.inr (.inr ⟨ι,I,env,box,g,h⟩)
def F5(h:Qe .normal σ H):Zb.skip.m P Qe σ H:=h
def F4(h:Qe .ret σ H):Zb.ret.m P Qe σ H:=h
theorem F2(h:Qe (.exit id) σ H):(Zb.exit id).m P Qe σ H:=h
theorem FZ(h:a.m P (eJ.inBlock id Qe) σ H):(Zb.block id a).m P Qe σ H:=h
def UW{t:Bool}(e:σ.get x=some (.bool t))(h:(bif t then a else b).m P Qe σ H):(Zb.cond x a b).m P Qe σ H:=by cases t<;>(simp only[Zb.m,e];exact h)
def F1(e:σ.get x=some (.bool true))(h:a.m P Qe σ H):(Zb.cond x a b).m P Qe σ H:=UW e h
def F0(e:σ.get x=some (.bool false))(h:b.m P Qe σ H):(Zb.cond x a b).m P Qe σ H:=UW e h
def D5(h:next σ H):eJ.then next Qe .normal σ H:=h
theorem D7(h:Qe (.exit id) σ H):eJ.then next Qe (.exit id) σ H:=h
def D6(h:Qe .ret σ H):eJ.then next Qe .ret σ H:=h
theorem D1(h:Qe .normal σ H):eJ.inBlock id Qe .normal σ H:=h
theorem D2(h:Qe .ret σ H):eJ.inBlock id Qe .ret σ H:=h
theorem D3(h:Qe .normal σ H):eJ.inBlock id Qe (.exit id) σ H:=by simp only[eJ.inBlock,qAH];exact h
theorem D4{e:Nat}(g:Nat.beq e id=false)(h:Qe (.exit e) σ H):eJ.inBlock id Qe (.exit e) σ H:=by
 have:¬ e=id:=by rintro rfl;simp at g
 simp only[eJ.inBlock,bY this];exact h
end
structure Wr(p:Prop):Prop where
 out:p
def Z(x:G') (h:Wr G'->G:=by
  intro gW;repeat first
   | (with_reducible refine GW ?_)
   | ((with_reducible apply GJ);exact rfl)
   | ((with_reducible apply GK);exact rfl)
   | ((with_reducible apply GF);exact rfl)
   | ((with_reducible apply EZ);exact rfl;exact rfl)
   | ((with_reducible apply GL);exact rfl)
   | ((with_reducible apply GD);exact rfl;exact rfl)
   | ((with_reducible apply GU);exact rfl)
   | ((with_reducible apply FV);exact rfl;exact rfl)
   | ((with_reducible apply GV);exact rfl)
   | (with_reducible refine GX ?_)
   | (with_reducible refine D5 ?_)
   | (with_reducible refine YY ?_)
   | (with_reducible refine F3 ?_)
   | (with_reducible refine FZ ?_)
   | (with_reducible refine F5 ?_)
   | (with_reducible refine F4 ?_)
   | (with_reducible refine F2 ?_)
   | (with_reducible refine D7 ?_)
   | (with_reducible refine D6 ?_)
   | (with_reducible refine D1 ?_)
   | (with_reducible refine D2 ?_)
   | (with_reducible refine D3 ?_)
   | ((with_reducible apply D4);exact rfl)
   | ((with_reducible apply F1);exact rfl)
   | ((with_reducible apply F0);exact rfl)
   | (with_reducible refine Ol ?_)
   | (with_reducible refine yD ?_)
   | ((with_reducible apply B6);exact rfl;exact rfl;exact rfl)
  exact gW.out):G:=h ⟨x⟩
def w1T(x:G') (h:Wr G'->G:=by
  intro gW;first
   | (with_reducible refine GW ?_)
   | ((with_reducible apply GJ);exact rfl)
   | ((with_reducible apply GK);exact rfl)
   | ((with_reducible apply GF);exact rfl)
   | ((with_reducible apply EZ);exact rfl;exact rfl)
   | ((with_reducible apply GL);exact rfl)
   | ((with_reducible apply GD);exact rfl;exact rfl)
   | ((with_reducible apply GU);exact rfl)
   | ((with_reducible apply FV);exact rfl;exact rfl)
   | ((with_reducible apply GV);exact rfl)
   | (with_reducible refine GX ?_)
   | (with_reducible refine D5 ?_)
   | (with_reducible refine YY ?_)
   | (with_reducible refine F3 ?_)
   | (with_reducible refine FZ ?_)
   | (with_reducible refine F5 ?_)
   | (with_reducible refine F4 ?_)
   | (with_reducible refine F2 ?_)
   | (with_reducible refine D7 ?_)
   | (with_reducible refine D6 ?_)
   | (with_reducible refine D1 ?_)
   | (with_reducible refine D2 ?_)
   | (with_reducible refine D3 ?_)
   | ((with_reducible apply D4);exact rfl)
   | ((with_reducible apply F1);exact rfl)
   | ((with_reducible apply F0);exact rfl)
   | (with_reducible refine Ol ?_)
   | (with_reducible refine yD ?_)
   | ((with_reducible apply B6);exact rfl;exact rfl;exact rfl)
  exact gW.out):G:=h ⟨x⟩
end
section
variable{m:Int}{n dQ ln off t j:Nat}{p:Prop}{k k':IntKind}{cs zs vs:List Value}{ts:List Nat}{ps:List (Nat×Nat×Operand)}{ty:TypeId}{f:Option Bool}{H0:Hp}{l1 l2:List (NI×Option Bool)}{w bb:Bool}{rs:List Zc}{Post:Value->Hp->Prop}{ds:List Deferred}{α:Type}
class Loud (P:aY):Prop where
 bB:∀g,P.still g=false
def OL{P:aY}[Loud P]:∀g,P.still g=false:=Loud.bB
section
variable{P:aY}{d:Option Nat}{r:List NI}{op:aR}{Q:aL->Hp->Prop}{next:aL->Hp->Prop}{σ:aL}{H:Hp}{x y z:Operand}{v:Value}
def Km{n:Int}(e:σ.get x=some (.int .i64 m))(g:σ.get y=some (.int .i64 n))(i:kQ (m+n))(h:next (σ.set d (.int .i64 (m+n))) H):(aR.bC .add x y).m P d next σ H:=Yk e g rfl ⟨i,h⟩
def Jh{n:Int}(e:σ.get x=some (.int .i64 m))(g:σ.get y=some (.int .i64 n))(i:kQ (m-n))(h:next (σ.set d (.int .i64 (m-n))) H):(aR.bC .sub x y).m P d next σ H:=Yk e g rfl ⟨i,h⟩
def VA{n:Int}(e:σ.get x=some (.int .i64 m))(g:σ.get y=some (.int .i64 n))(i:kQ (m * n))(h:next (σ.set d (.int .i64 (m * n))) H):(aR.bC .mul x y).m P d next σ H:=Yk e g rfl ⟨i,h⟩
def BP{b:Bool}[Decidable p](h:b=true↔p):b=decide p:=by
 by_cases g:p
 ·simp[g,h]
 have:b≠true:=λe=>g (h.1 e);simp[g,this]
def Kz{n:Int}(e:σ.get x=some (.int k m))(g:σ.get y=some (.int k' n))(i:Va k k'=true)(h:next (σ.set d (.bool (decide (m<n)))) H):(aR.bC .lss x y).m P d next σ H:=Yk e g i λb hb=>by rw[BP hb];exact h
def Kw{n:Int}(e:σ.get x=some (.int k m))(g:σ.get y=some (.int k' n))(i:Va k k'=true)(h:next (σ.set d (.bool (decide (m<=n)))) H):(aR.bC .leq x y).m P d next σ H:=Yk e g i λb hb=>by rw[BP hb];exact h
def Ks{n:Int}(e:σ.get x=some (.int k m))(g:σ.get y=some (.int k' n))(i:Va k k'=true)(h:next (σ.set d (.bool (decide (n<m)))) H):(aR.bC .gtr x y).m P d next σ H:=Yk e g i λb hb=>by rw[BP (p:=n<m) hb];exact h
def Kr{n:Int}(e:σ.get x=some (.int k m))(g:σ.get y=some (.int k' n))(i:Va k k'=true)(h:next (σ.set d (.bool (decide (n<=m)))) H):(aR.bC .geq x y).m P d next σ H:=Yk e g i λb hb=>by rw[BP (p:=n<=m) hb];exact h
def Kq{n:Int}(e:σ.get x=some (.int k m))(g:σ.get y=some (.int k' n))(i:Va k k'=true)(h:next (σ.set d (.bool (decide (m=n)))) H):(aR.bC .eql x y).m P d next σ H:=Yk e g i λb hb=>by rw[BP hb];exact h
def Jf{n:Int}(i:σ.get x=some (.int k m))(q:σ.get y=some (.int k' n))(s:Va k k'=true)(h:next (σ.set d (.bool !(decide (m=n)))) H):(aR.bC .neq x y).m P d next σ H:=Yk i q s λb hb=>by
 have:b=!(decide (m=n)):=by
  by_cases g:m=n
  ·have:b≠true:=λe=>(hb.1 e) g;simp[g,this]
  simp[g,hb]
 rw[this];exact h
def PK{a:Option Addr}{c:Nat}(e:σ.get x=some (.slice a n c))(h:next (σ.set d (.int .i64 (n:Int))) H):(aR.len x).m P d next σ H:=by simp only[aR.m,e];exact h
def ZtG{a:Addr}{c:Nat}{n:Int}(e:σ.get x=some (.slice (some a) ln c))(g:σ.get y=some (.int k n))(i:0<=n/\n<(ln:Nat))(h:next (σ.set d (.pointer (some (a.add (n.toNat * dQ))))) H):(aR.bX dQ x y).m P d next σ H:=by simp only[aR.m,e,g];exact⟨a,rfl,i,h⟩
def vB{a:Addr}{c:Nat}(e:σ.get x=some (.slice (some a) ln c))(g:σ.get y=some (.int k (n:Int)))(i:n<ln)(h:next (σ.set d (.pointer (some (a.add (n * dQ))))) H):(aR.bX dQ x y).m P d next σ H:=
 ZtG e g ⟨O,O⟩ h
def Zg{a:Addr}(g:P.still H.gh=false)(e:σ.get x=some (.pointer (some a)))(i:aC H a [v])(h:next (σ.set d v) H):(aR.ld none x).m P d next σ H:=by simp only[aR.m,e];exact⟨g,v,i,h⟩
def Z5{a:Addr}(g:P.still H.gh=false)(e:σ.get x=some (.pointer (some a)))(i:aC H a cs)(q:cs.length=n)(h:next (σ.set d (.agg cs.toArray)) H):(aR.ld (some n) x).m P d next σ H:=by simp only[aR.m,e];exact⟨g,cs,q,i,h⟩
def Lc{b:Nat}(e:P.still H.gh=false)(h:next (((σ.drop ts).set (some b) (.int .i64 (Int.ofNat 0))).put b zs) H):(aR.aO b ts zs).m P d next σ H:=⟨e,h⟩
def Kv{b:Nat}(g:P.still H.gh=false)(e:σ.get x=some v)(h:next (((σ.drop ts).set (some b) (.int .i64 (Int.ofNat 0))).put b v.cells.toList) H):(aR.aS b ts x).m P d next σ H:=by simp only[aR.m,e];refine⟨g,?_⟩;cases v<;>exact h
def Kx(e:σ.env t=some (.int .i64 (.ofNat n)))(h:next (σ.set d (.int .i64 (Int.ofNat (n+off)))) H):(aR.aV off t).m P d next σ H:=by simp only[aR.m,e];exact h
def ZtF{j:Int}(e:σ.env t=some (.int .i64 (.ofNat n)))(g:σ.get x=some (.int k j))(i:0<=j/\j<(ln:Nat))(h:next (σ.set d (.int .i64 (Int.ofNat (n+j.toNat * dQ)))) H):(aR.dA dQ ln t x).m P d next σ H:=by simp only[aR.m,e,g];exact⟨i,h⟩
def VB(e:σ.env t=some (.int .i64 (.ofNat n)))(g:σ.get x=some (.int k (j:Int)))(i:j<ln)(h:next (σ.set d (.int .i64 (Int.ofNat (n+j * dQ)))) H):(aR.dA dQ ln t x).m P d next σ H:=
 ZtF e g ⟨O,O⟩ h
def VN{b:Nat}(g:P.still H.gh=false)(e:σ.env t=some (.int .i64 (.ofNat off)))(i:σ.box b=some cs)(q:cs[off]? = some v)(h:next (σ.set d v) H):(aR.cY b none t).m P d next σ H:=by simp only[aR.m,e,i];exact⟨g,v,q,h⟩
def Ky{b:Nat}(g:P.still H.gh=false)(e:σ.env t=some (.int .i64 (.ofNat off)))(i:σ.box b=some cs)(q:Nat.ble (off+n) cs.length=true)(h:next (σ.set d (.agg ((cs.drop off).take n).toArray)) H):(aR.cY b (some n) t).m P d next σ H:=by simp only[aR.m,e,i,q];exact⟨g,h⟩
def CC{b:Nat}(g:P.still H.gh=false)(e:σ.env t=some (.int .i64 (.ofNat off)))(i:σ.box b=some cs)(q:σ.get x=some v)(s:v.cells.size=n)(u:off+n<=cs.length)(C:(v.cells.toList.all Value.bS)=true)
  (h:next (σ.put b (ZZ cs off v.cells.toList)) H):(aR.kE b n t x).m P d next σ H:=by
 simp only[aR.m,e,i,q];exact⟨g,⟨s,u,C⟩,h⟩
def La{b:Nat}(g:P.still H.gh=false)(e:σ.env t=some (.int .i64 (.ofNat 0)))(i:σ.box b=some cs)(q:σ.get x=some v)(s:v.cells.size=n)(C:cs.length=n)(u:(v.cells.toList.all Value.bS)=true)
  (h:next (σ.put b v.cells.toList) H):(aR.kE b n t x).m P d next σ H:=by
 refine CC g e i q s O u ?_;have:ZZ cs 0 v.cells.toList=v.cells.toList:=by unfold ZZ;rw[List.take_zero,qAn,qBb (by simp;omega),qAw]
 rw[this];exact h
def Lb{b:Nat}(g:P.still H.gh=false)(e:σ.env t=some (.int .i64 (.ofNat off)))(i:σ.box b=some cs)(q:σ.get x=some v)(s:v.cells.size=n)(u:Nat.ble (off+n) cs.length=true)(C:(v.cells.toList.all Value.bS)=true)
  (h:next (σ.put b (ZZ cs off v.cells.toList)) H):(aR.kE b n t x).m P d next σ H:=CC g e i q s (qBI u) C h
def Ko(e:buildV σ ps zs=some cs)(h:next (σ.set d (.agg cs.toArray)) H):(aR.build zs ps).m P d next σ H:=by simp only[aR.m,e];exact h
def Z0(g:P.still H.gh=false)(e:buildV σ ps zs=some cs)(h:∀r,H r=none->next (σ.set d (.slice (some ⟨r,0,none⟩) ln ln)) (H.ins r (.cells cs.toArray ty))):(aR.aX ty ln zs ps).m P d next σ H:=by simp only[aR.m,e];exact⟨g,h⟩
def Y6{o:Op}(g:(o.operands.all λx=>(σ.get x).isSome)=true)(e:hU P (execOp (λx=>(σ.get x).getD undef) (aN o ty)) v)(h:next (σ.set d v) H):(aR.bT o ty).m P d next σ H:=⟨g,v,e,h⟩
variable{l:List (NI×Option Bool)}
def XK(h:Q σ H):ZT P [] Q σ H:=h
def XJ(e:P.still H.gh=false)(h:op.m P d (fX P.toPQ H f (ZT P l Q)) σ H):ZT P ((⟨none,d,op⟩,f) :: l) Q σ H:=⟨e,h⟩
def XI{b:Bool}(g:P.still H.gh=false)(e:σ.env t=some (.bool b))(h:op.m P d (fX P.toPQ H f (ZT P l Q)) σ H):ZT P ((⟨some (t,b),d,op⟩,f) :: l) Q σ H:=by cases b<;>(simp only[ZT,e];exact⟨g,h⟩)
def XL{b i:Bool}(g:P.still H.gh=false)(e:σ.env t=some (.bool i))(hb:i=!b)(h:ZT P l Q (σ.dR d) H):ZT P ((⟨some (t,b),d,op⟩,f) :: l) Q σ H:=by subst hb;cases b<;>(simp only[ZT,e,qCU,qCt];exact⟨g,h⟩)
def Cs{K:aL->Hp->Prop}(h:K σ H):fX P.toPQ H0 none K σ H:=h
def Cu{K:aL->Hp->Prop}(h:K σ H):fX P.toPQ H (some false) K σ H:=⟨rfl,h⟩
def EG{K:aL->Hp->Prop}(e:H.gh=H0.gh)(h:K σ H):fX P.toPQ H0 (some false) K σ H:=⟨by rw[e],h⟩
def Zr{K:aL->Hp->Prop}(e:∀g,P.still g=false)(h:K σ H):fX P.toPQ H0 (some false) K σ H:=⟨by rw[e,e],h⟩
def K7{K:aL->Hp->Prop}(e:∀g,P.still g=false)(i:∀b x,H0 b=some x->H b=some x)(h:K σ H):fX P.toPQ H0 (some true) K σ H:=⟨⟨by rw[e,e],i⟩,h⟩
def K8{K:aL->Hp->Prop}(h:K σ H):fX P.toPQ H (some true) K σ H:=⟨⟨rfl,λ_ _ h=>h⟩,h⟩
def Li{Qe:Ex->aL->Hp->Prop}(e:P.still H.gh=false)(h:ZT P l (Qe .normal) σ H):(Zb.drawn l).m P Qe σ H:=⟨e,h⟩
def Lj{Qe:Ex->aL->Hp->Prop}(e:P.still H.gh=false)(g:ZT P l1 (Qe .normal) σ H)(h:ZT P l2 (Qe .normal) σ H):(Zb.pW l1 l2).m P Qe σ H:=⟨e,g,h⟩
def ZtY{Qe:Ex->aL->Hp->Prop}{g:List (NI×Option Bool)}(e:P.still H.gh=false)(h:ZT P l1 (Qe .normal) σ H)(i:ZT P l2 (Qe .normal) σ H)(q:ZT P g (Qe .normal) σ H):(Zb.fA l1 l2 g).m P Qe σ H:=⟨e,h,i,q⟩
variable{Qe:Ex->aL->Hp->Prop}{a b c:Zb}
def Zt4[Decidable p](e:σ.get x=some (.bool (decide p)))(h:p->a.m P Qe σ H)(i:¬ p->b.m P Qe σ H):(Zb.cond x a b).m P Qe σ H:=by
 by_cases g:p
 ·exact UW (t:=true) (by rw[e];simp[g]) (h g)
 exact UW (t:=false) (by rw[e];simp[g]) (i g)
def Zt2[Decidable p](e:σ.get x=some (.bool !(decide p)))(h:¬ p->a.m P Qe σ H)(i:p->b.m P Qe σ H):(Zb.cond x a b).m P Qe σ H:=by
 by_cases g:p
 ·exact UW (t:=false) (by rw[e];simp[g]) (i g)
 exact UW (t:=true) (by rw[e];simp[g]) (h g)
theorem Zt3{t:Bool}(e:σ.get x=some (.bool t))(g:t=true->a.m P Qe σ H)(h:t=false->b.m P Qe σ H):(Zb.cond x a b).m P Qe σ H:=by
 cases t
 ·exact UW e (h rfl)
 exact UW e (g rfl)
theorem Zt1{t:Bool}(e:σ.get x=some (.bool !t))(g:t=false->a.m P Qe σ H)(h:t=true->b.m P Qe σ H):(Zb.cond x a b).m P Qe σ H:=by
 cases t
 ·exact UW e (g rfl)
 exact UW e (h rfl)
theorem aL.jW(e:σ.env t=some v):σ.set (some t) v=σ:=by
 refine aL.ext' (λs=>?_) (λ_=>rfl) rfl;simp only[aL.set];cases hb:Nat.beq s t with
 | false=>rfl
 | true=>rw[qAV hb,e];rfl
theorem GR(e:σ.env t=some (.bool bb))(g:bb=true->ZS P (⟨some (t,w),d,op⟩ :: r) Q (σ.set (some t) (.bool true)) H)(h:bb=false->ZS P (⟨some (t,w),d,op⟩ :: r) Q (σ.set (some t) (.bool false)) H):ZS P (⟨some (t,w),d,op⟩ :: r) Q σ H:=by
 have:=aL.jW e;cases bb
 ·rw[<-this];exact h rfl
 rw[<-this];exact g rfl
def Zug[Decidable p](e:σ.env t=some (.bool (decide p)))(g:p->ZS P (⟨some (t,w),d,op⟩ :: r) Q (σ.set (some t) (.bool true)) H)(i:¬ p->ZS P (⟨some (t,w),d,op⟩ :: r) Q (σ.set (some t) (.bool false)) H):ZS P (⟨some (t,w),d,op⟩ :: r) Q σ H:=
 GR e (λh=>g (of_decide_eq_true h)) (λh=>i (of_decide_eq_false h))
def Zuf[Decidable p](e:σ.env t=some (.bool !(decide p)))(g:¬ p->ZS P (⟨some (t,w),d,op⟩ :: r) Q (σ.set (some t) (.bool true)) H)(i:p->ZS P (⟨some (t,w),d,op⟩ :: r) Q (σ.set (some t) (.bool false)) H):ZS P (⟨some (t,w),d,op⟩ :: r) Q σ H:=
 GR e (λh=>g (by simpa using h)) (λh=>i (by simpa using h))
def Zue(e:σ.env t=some (.bool !bb))(g:bb=false->ZS P (⟨some (t,w),d,op⟩ :: r) Q (σ.set (some t) (.bool true)) H)(i:bb=true->ZS P (⟨some (t,w),d,op⟩ :: r) Q (σ.set (some t) (.bool false)) H):ZS P (⟨some (t,w),d,op⟩ :: r) Q σ H:=
 GR e (λh=>g (by simpa using h)) (λh=>i (by simpa using h))
theorem XH(e:σ.env t=some (.bool bb))(g:bb=true->ZT P ((⟨some (t,w),d,op⟩,f) :: l) Q (σ.set (some t) (.bool true)) H)(h:bb=false->ZT P ((⟨some (t,w),d,op⟩,f) :: l) Q (σ.set (some t) (.bool false)) H):ZT P ((⟨some (t,w),d,op⟩,f) :: l) Q σ H:=by
 have:=aL.jW e;cases bb
 ·rw[<-this];exact h rfl
 rw[<-this];exact g rfl
def ZvD[Decidable p](e:σ.env t=some (.bool (decide p)))(g:p->ZT P ((⟨some (t,w),d,op⟩,f) :: l) Q (σ.set (some t) (.bool true)) H)(i:¬ p->ZT P ((⟨some (t,w),d,op⟩,f) :: l) Q (σ.set (some t) (.bool false)) H):ZT P ((⟨some (t,w),d,op⟩,f) :: l) Q σ H:=
 XH e (λh=>g (of_decide_eq_true h)) (λh=>i (of_decide_eq_false h))
def Bq(g:σ.bN=[])(q:rs.any Zc.cell=true)(e:P.still H.gh=false)(i:Og σ rs=some vs)(h:Post (Yn vs) H):VY P rs Post σ H:=by unfold VY vN;rw[g];exact⟨λ_=>e,vs,FE i,h⟩
def UY(g:σ.bN=[])(e:P.still H.gh=false)(i:eO σ H rs vs)(h:Post (Yn vs) H):VY P rs Post σ H:=by unfold VY vN;rw[g];exact⟨λ_=>e,vs,i,h⟩
end
section
variable{P:aY}{σ:aL}{H:Hp}{Qe:Ex->aL->Hp->Prop}{b:Zb}
def u7{x:Operand}{ps:List Nat}{aA i:Zb}{q:Value}{N:Hp->Prop}{xs:List (List Value)}(K:∀g,P.still g=false)(e:σ.get x=some q)(h:OE P q N xs)(F:∀x∈xs,x.length=ps.length)(I:Nat->Hp->Prop)(S:Ex->Hp->Prop)(s:I 0 H)(u:∀n,Up (I n))(D:∀e,Up (S e))(C:∀n H,I n H->N H)
  (J:∀n (M:n<xs.length) H,I n H->aA.m P (eJ.then (i.m P (M3 (I (n+1)) S)) LQ) (σ.aN.round ps xs[n]) H) (E:∀H,I xs.length H->Qe .normal σ H) (L:∀e H,e≠.normal->S e H->Qe e σ H):(Zb.gU x ps aA i).m P Qe σ H:=by
 simp only[Zb.m,e];exact⟨K,N,xs,h,F,I,S,s,u,D,C,J,E,L⟩
def ZF(n:Nat)(I:Nat->Hp->Prop)(env:Nat->List (Nat×Value))(box:Nat->List (Nat×List Value))(h:I 0 H)(q:iQ (env 0) σ)(hb:iR (box 0) σ)
  (s:∀j H,j<=n->I j H->b.m P (eJ.then (λσ' g=>∃e:{ j:Nat // j<=n },n-e.1<n-j/\I e.1 g/\iQ (env e.1) σ'/\iR (box e.1) σ'/\σ'.bN=σ.bN) Qe) (UO σ.bN (env j) (box j)) H):(Zb.loop b).m P Qe σ H:=
 ⟨{ j:Nat // j<=n },λj=>I j.1,λj=>n-j.1,λj=>env j.1,λj=>box j.1,⟨0,qBg _⟩,h,⟨q,hb⟩,λj H i=>s j.1 H j.2 i⟩
def XR{I:Nat->Hp->Prop}{env:Nat->List (Nat×Value)}{box:Nat->List (Nat×List Value)}{σ':aL}(q:j<n)(g:I (j+1) H)(i:iQ (env (j+1)) σ')(hb:iR (box (j+1)) σ')(h:σ'.bN=ds) :
  ∃e:{ j:Nat // j<=n },n-e.1<n-j/\I e.1 H/\iQ (env e.1) σ'/\iR (box e.1) σ'/\σ'.bN=ds:=⟨⟨j+1,q⟩,by show n-(j+1)<n-j;omega,g,i,hb,h⟩
def Z4(n:Nat)(I:Nat->α->Hp->Prop)(env:Nat->α->List (Nat×Value))(box:Nat->α->List (Nat×List Value))(g:α)(i:I 0 g H)(s:iQ (env 0 g) σ)(hb:iR (box 0 g) σ)
  (u:∀j a H,j<=n->I j a H->b.m P (eJ.then (λσ' h=>∃e:{ j:Nat // j<=n }×α,n-e.1.1<n-j/\I e.1.1 e.2 h/\iQ (env e.1.1 e.2) σ'/\iR (box e.1.1 e.2) σ'/\σ'.bN=σ.bN) Qe) (UO σ.bN (env j a) (box j a)) H):(Zb.loop b).m P Qe σ H:=
 ⟨{ j:Nat // j<=n }×α,λj=>I j.1.1 j.2,λj=>n-j.1.1,λj=>env j.1.1 j.2,λj=>box j.1.1 j.2,⟨⟨0,qBg _⟩,g⟩,i,⟨s,hb⟩,λj H q=>u j.1.1 j.2 H j.1.2 q⟩
def D9{I:Nat->α->Hp->Prop}{env:Nat->α->List (Nat×Value)}{box:Nat->α->List (Nat×List Value)}{σ':aL}(a:α)(q:j<n)(g:I (j+1) a H)(i:iQ (env (j+1) a) σ')(hb:iR (box (j+1) a) σ')(h:σ'.bN=ds) :
  ∃e:{ j:Nat // j<=n }×α,n-e.1.1<n-j/\I e.1.1 e.2 H/\iQ (env e.1.1 e.2) σ'/\iR (box e.1.1 e.2) σ'/\σ'.bN=ds:=⟨⟨⟨j+1,q⟩,a⟩,by show n-(j+1)<n-j;omega,g,i,hb,h⟩
end
end
variable{G G' A B c d:Prop}
def Y(x:G') (h:Wr G'->G:=by
  intro gW;repeat first
   | (with_reducible refine GW ?_)
   | ((with_reducible apply GJ);exact rfl)
   | ((with_reducible apply Kx);exact rfl)
   | ((with_reducible apply VN);(first | exact rfl | assumption | exact Loud.bB _);exact rfl;exact rfl;exact rfl)
   | ((with_reducible apply Ky);(first | exact rfl | assumption | exact Loud.bB _);exact rfl;exact rfl;exact rfl)
   | ((with_reducible apply Kz);exact rfl;exact rfl;exact rfl)
   | ((with_reducible apply Kw);exact rfl;exact rfl;exact rfl)
   | ((with_reducible apply Ks);exact rfl;exact rfl;exact rfl)
   | ((with_reducible apply Kr);exact rfl;exact rfl;exact rfl)
   | ((with_reducible apply Kq);exact rfl;exact rfl;exact rfl)
   | ((with_reducible apply Jf);exact rfl;exact rfl;exact rfl)
   | ((with_reducible apply Km);exact rfl;exact rfl;(refine⟨?_,?_⟩<;>omega))
   | ((with_reducible apply Jh);exact rfl;exact rfl;(refine⟨?_,?_⟩<;>omega))
   | ((with_reducible apply PK);exact rfl)
   | ((with_reducible apply GK);exact rfl)
   | ((with_reducible apply GF);exact rfl)
   | ((with_reducible apply EZ);exact rfl;exact rfl)
   | ((with_reducible apply GL);exact rfl)
   | ((with_reducible apply GD);exact rfl;exact rfl)
   | ((with_reducible apply qK);exact rfl;exact rfl)
   | ((with_reducible apply qJ);exact rfl)
   | ((with_reducible apply Lc);(first | exact rfl | assumption | exact Loud.bB _))
   | ((with_reducible apply Kv);(first | exact rfl | assumption | exact Loud.bB _);exact rfl)
   | ((with_reducible apply La);(first | exact rfl | assumption | exact Loud.bB _);exact rfl;exact rfl;exact rfl;exact rfl;exact rfl;exact rfl)
   | ((with_reducible apply Lb);(first | exact rfl | assumption | exact Loud.bB _);exact rfl;exact rfl;exact rfl;exact rfl;exact rfl;exact rfl)
   | ((with_reducible apply Ko);exact rfl)
   | ((with_reducible apply GU);exact rfl)
   | ((with_reducible apply FV);exact rfl;exact rfl)
   | ((with_reducible apply GV);exact rfl)
   | (with_reducible refine GX ?_)
   | (with_reducible refine D5 ?_)
   | (with_reducible refine YY ?_)
   | (with_reducible refine F3 ?_)
   | (with_reducible refine FZ ?_)
   | (with_reducible refine F5 ?_)
   | (with_reducible refine F4 ?_)
   | (with_reducible refine F2 ?_)
   | (with_reducible refine D7 ?_)
   | (with_reducible refine D6 ?_)
   | (with_reducible refine D1 ?_)
   | (with_reducible refine D2 ?_)
   | (with_reducible refine D3 ?_)
   | ((with_reducible apply D4);exact rfl)
   | ((with_reducible apply F1);exact rfl)
   | ((with_reducible apply F0);exact rfl)
   | ((with_reducible apply Li);(first | exact rfl | assumption | exact Loud.bB _))
   | ((with_reducible apply XJ);(first | exact rfl | assumption | exact Loud.bB _))
   | ((with_reducible apply XI);(first | exact rfl | assumption | exact Loud.bB _);exact rfl)
   | ((with_reducible apply XL);(first | exact rfl | assumption | exact Loud.bB _);exact rfl;exact rfl)
   | ((with_reducible apply J3);(first | exact rfl | assumption | exact Loud.bB _);exact rfl)
   | (with_reducible refine XK ?_)
   | (with_reducible refine Cs ?_)
   | (with_reducible refine Cu ?_)
   | (with_reducible refine K8 ?_)
   | (with_reducible refine Ol ?_)
   | (with_reducible refine yD ?_)
   | ((with_reducible apply B6);exact rfl;exact rfl;exact rfl)
   | ((with_reducible apply Bq);exact rfl;exact rfl;(first | exact rfl | assumption | exact Loud.bB _);exact rfl)
  exact gW.out):G:=h ⟨x⟩
def Pn(x:G') (h:Wr G'->G:=by
  intro gW;first
   | (with_reducible refine GW ?_)
   | ((with_reducible apply GJ);exact rfl)
   | ((with_reducible apply Kx);exact rfl)
   | ((with_reducible apply VN);(first | exact rfl | assumption | exact Loud.bB _);exact rfl;exact rfl;exact rfl)
   | ((with_reducible apply Ky);(first | exact rfl | assumption | exact Loud.bB _);exact rfl;exact rfl;exact rfl)
   | ((with_reducible apply Kz);exact rfl;exact rfl;exact rfl)
   | ((with_reducible apply Kw);exact rfl;exact rfl;exact rfl)
   | ((with_reducible apply Ks);exact rfl;exact rfl;exact rfl)
   | ((with_reducible apply Kr);exact rfl;exact rfl;exact rfl)
   | ((with_reducible apply Kq);exact rfl;exact rfl;exact rfl)
   | ((with_reducible apply Jf);exact rfl;exact rfl;exact rfl)
   | ((with_reducible apply Km);exact rfl;exact rfl;(refine⟨?_,?_⟩<;>omega))
   | ((with_reducible apply Jh);exact rfl;exact rfl;(refine⟨?_,?_⟩<;>omega))
   | ((with_reducible apply PK);exact rfl)
   | ((with_reducible apply GK);exact rfl)
   | ((with_reducible apply GF);exact rfl)
   | ((with_reducible apply EZ);exact rfl;exact rfl)
   | ((with_reducible apply GL);exact rfl)
   | ((with_reducible apply GD);exact rfl;exact rfl)
   | ((with_reducible apply qK);exact rfl;exact rfl)
   | ((with_reducible apply qJ);exact rfl)
   | ((with_reducible apply Lc);(first | exact rfl | assumption | exact Loud.bB _))
   | ((with_reducible apply Kv);(first | exact rfl | assumption | exact Loud.bB _);exact rfl)
   | ((with_reducible apply La);(first | exact rfl | assumption | exact Loud.bB _);exact rfl;exact rfl;exact rfl;exact rfl;exact rfl;exact rfl)
   | ((with_reducible apply Lb);(first | exact rfl | assumption | exact Loud.bB _);exact rfl;exact rfl;exact rfl;exact rfl;exact rfl;exact rfl)
   | ((with_reducible apply Ko);exact rfl)
   | ((with_reducible apply GU);exact rfl)
   | ((with_reducible apply FV);exact rfl;exact rfl)
   | ((with_reducible apply GV);exact rfl)
   | (with_reducible refine GX ?_)
   | (with_reducible refine D5 ?_)
   | (with_reducible refine YY ?_)
   | (with_reducible refine F3 ?_)
   | (with_reducible refine FZ ?_)
   | (with_reducible refine F5 ?_)
   | (with_reducible refine F4 ?_)
   | (with_reducible refine F2 ?_)
   | (with_reducible refine D7 ?_)
   | (with_reducible refine D6 ?_)
   | (with_reducible refine D1 ?_)
   | (with_reducible refine D2 ?_)
   | (with_reducible refine D3 ?_)
   | ((with_reducible apply D4);exact rfl)
   | ((with_reducible apply F1);exact rfl)
   | ((with_reducible apply F0);exact rfl)
   | ((with_reducible apply Li);(first | exact rfl | assumption | exact Loud.bB _))
   | ((with_reducible apply XJ);(first | exact rfl | assumption | exact Loud.bB _))
   | ((with_reducible apply XI);(first | exact rfl | assumption | exact Loud.bB _);exact rfl)
   | ((with_reducible apply XL);(first | exact rfl | assumption | exact Loud.bB _);exact rfl;exact rfl)
   | ((with_reducible apply J3);(first | exact rfl | assumption | exact Loud.bB _);exact rfl)
   | (with_reducible refine XK ?_)
   | (with_reducible refine Cs ?_)
   | (with_reducible refine Cu ?_)
   | (with_reducible refine K8 ?_)
   | (with_reducible refine Ol ?_)
   | (with_reducible refine yD ?_)
   | ((with_reducible apply B6);exact rfl;exact rfl;exact rfl)
   | ((with_reducible apply Bq);exact rfl;exact rfl;(first | exact rfl | assumption | exact Loud.bB _);exact rfl)
  exact gW.out):G:=h ⟨x⟩
def OQ(x:G') (h:Wr G'->G:=by
  intro gW;repeat ((fail_if_success (with_reducible refine YY ?_));refine Pn ?_)
  exact gW.out):G:=h ⟨x⟩
def OI(x:c->A)(y:d->B) (h:Wr (c->A)->Wr (d->B)->G:=by
  intro gW nO;first
   | exact Zt4 rfl gW.out nO.out
   | exact Zt2 rfl gW.out nO.out
   | exact Zt1 rfl gW.out nO.out
   | exact Zt3 rfl gW.out nO.out
   | exact Zug rfl gW.out nO.out
   | exact Zuf rfl gW.out nO.out
   | exact Zue rfl gW.out nO.out
   | exact GR rfl gW.out nO.out
   | exact ZvD rfl gW.out nO.out
   | exact XH rfl gW.out nO.out):G:=h ⟨x⟩ ⟨y⟩
def OJ(x:c->A)(y:d->B) (h:Wr (c->A)->Wr (d->B)->G:=by intro gW nO;refine Y ?_;exact OI gW.out nO.out):G:=h ⟨x⟩ ⟨y⟩
