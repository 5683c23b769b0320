import Derived.Test.YtlhomfgcibjccaaGreatDoorP05
set_option linter.all false
namespace Go.LL
section
variable{t:Nat}{o:BinOp}{k k':IntKind}{m n:Int}{vs:List Value}{f:FuncId}{xs:List Operand}{Post:Value->Hp->Prop}{ty t2:TypeId}{rs:List Zf}{G G':Prop}
section
variable{P:aX}{d:Option Nat}{r:List NI}{op:bE}{Q:aM->Hp->Prop}{next:aM->Hp->Prop}{σ:aM}{H:Hp}{x y z:Operand}{v:Value}
def XY(h:Q σ H):ZR P [] Q σ H:=h
def XX(h:op.m P d (ZR P r Q) σ H):ZR P (⟨none,d,op⟩ :: r) Q σ H:=h
def XV{b:Bool}(e:σ.env t=some (.bool b))(h:op.m P d (ZR P r Q) σ H):ZR P (⟨some (t,b),d,op⟩ :: r) Q σ H:=by cases b<;>(simp only[ZR,e];exact h)
def WL{b g:Bool}(e:σ.env t=some (.bool g))(hb:g=!b)(h:ZR P r Q (σ.fB d) H):ZR P (⟨some (t,b),d,op⟩ :: r) Q σ H:=by subst hb;cases b<;>(simp only[ZR,e,qEa,qBU];exact h)
def XW{b:Bool}(e:σ.env t=some undef)(h:ZR P r Q (σ.fB d) H):ZR P (⟨some (t,b),d,op⟩ :: r) Q σ H:=by cases b<;>(simp only[ZR,e,undef];exact h)
def W7(e:σ.get x=some v)(h:next (σ.set d v) H):(bE.cY x).m P d next σ H:=by simp only[bE.m,e];exact h
def XA{b:Bool}(e:σ.get x=some (.bool b))(g:σ.get (bif b then y else z)=some v)(h:next (σ.set d v) H):(bE.pick x y z).m P d next σ H:=by cases b<;>(simp only[cond_true,cond_false]at g;simp only[bE.m,e,g];exact h)
def W9{b:Bool}(e:σ.get x=some (.bool b))(h:next (σ.set d (.bool !b)) H):(bE.not x).m P d next σ H:=by cases b<;>(simp only[bE.m,e];exact h)
def Yc(e:σ.get x=some (.int k m))(g:σ.get y=some (.int k' n))(i:YV k k'=true)(h:WH o k m n λv=>next (σ.set d v) H):(bE.aY o x y).m P d next σ H:=by simp only[bE.m,e,g,i];exact h
def W3{a:Addr}{off:Nat}(e:σ.get x=some (.pointer (some a)))(h:next (σ.set d (.pointer (some (a.add off)))) H):(bE.aN off x).m P d next σ H:=by simp only[bE.m,e];exact h
def W0{vs:Array Value}{i:Nat}(e:σ.get x=some (.tuple vs))(g:vs[i]? = some v)(h:next (σ.set d v) H):(bE.ext x i).m P d next σ H:=by simp only[bE.m,e,g];exact h
def Zs4(e:σ.gets xs=some vs)(h:Zc P f vs.toArray H λv g=>next (σ.set d v) g):(bE.call f xs).m P d next σ H:=by simp only[bE.m,e];exact h
def ZW(e:σ.gets xs=some vs)(i:Zc P f vs.toArray H Post)(h:∀v g,Post v g->next (σ.set d v) g):(bE.call f xs).m P d next σ H:=Zs4 e (Zc.mono i h)
def Jj{o:Op}(g:(o.operands.all λx=>(σ.get x).isSome)=true)(e:execOp (λx=>(σ.get x).getD undef) (aR o ty)=pure (.value v))(h:next (σ.set d v) H):(bE.raw o ty).m P d next σ H:=by refine⟨g,.inl ?_⟩;rw[e];exact .inr h
def W8{a:Addr}(e:σ.get x=some (.pointer (some a)))(h:next (σ.set d (.pointer (some a))) H):(bE.raw (.nilCheck x) ty).m P d next σ H:=by refine Jj (by simp[Op.operands,e]) ?_ h;simp[execOp,aR,e]
def Zy(o:BinOp)(k:IntKind)(m n:Int):Value:=
 match o with
 | .and=>.int k (k.wrap (BitVec.ofInt k.bits m &&& BitVec.ofInt k.bits n).toNat)
 | .or=>.int k (k.wrap (BitVec.ofInt k.bits m ||| BitVec.ofInt k.bits n).toNat)
 | .andNot=>.int k (k.wrap (BitVec.ofInt k.bits m &&& ~~~ BitVec.ofInt k.bits n).toNat)
 | .sub=>.int k (k.wrap (m-n))
 | .shr=>.int k (m.fdiv (2 ^ min n.toNat k.bits))
 | .shl=>.int k (k.wrap (m * 2 ^ min n.toNat k.bits))
 | _=>undef
def Zm{t:TypeId}(e:σ.get x=some (.int k m))(g:σ.get y=some (.int k n))(i:o=.and\/o=.or\/o=.andNot\/o=.sub)(q:Zy o k m n=v)(h:next (σ.set d v) H) :
  (bE.raw (.binOp o t x y t2) ty).m P d next σ H:=by
 refine Jj (by simp[Op.operands,e,g]) ?_ h;subst q;rcases i with rfl | rfl | rfl | rfl<;>simp[execOp,aR,e,g,eqGuard,binOp,Op.intBits,Op.intArith,Zy]
def Vr{t:TypeId}{s:IntKind}(e:σ.get x=some (.int k m))(g:σ.get y=some (.int s n))(i:o=.shr\/o=.shl)(u:0<=n)(q:Zy o k m n=v)(h:next (σ.set d v) H) :
  (bE.raw (.binOp o t x y t2) ty).m P d next σ H:=by
 refine Jj (by simp[Op.operands,e,g]) ?_ h;subst q;have:¬ n<0:=O;rcases i with rfl | rfl<;>simp[execOp,aR,e,g,eqGuard,binOp,Op.shift,Zy,this]
def Od:∀{xs:List Operand} {vs:List Value},σ.gets xs=some vs->xs.map (λx=>(σ.get x).getD undef)=vs/\(xs.all λx=>(σ.get x).isSome)=true
 | [],vs,h=>by simp only[aM.gets,qAe]at h;subst h;exact⟨rfl,rfl⟩
 | x :: r,vs,h=>by
  simp only[aM.gets]at h;split at h
  ·rename_i v s e g;simp only[qAe]at h;subst h;obtain⟨i,q⟩:=Od g;simp[e,i,q]
  simp at h
def Wt{ρ:Operand->Value}{aA:Array Operand}{ts:Array TypeId}(e:ρ (.func f)=.func (.func f) #[] #[]):execOp ρ (aR (.call { callee:=.value (.func f),args:=aA,argTypes:=ts }) ty)=callFunc f (aA.map ρ):=by simp[execOp,aR,resolve,Deferred.ofValue,e,invoke]
def YB(e:σ.get x=some (.int k m))(g:σ.get y=some (.int k' n))(i:YV k k'=true)(q:m=n)(h:next (σ.set d (.bool true)) H):(bE.aY .eql x y).m P d next σ H:=
 Yc e g i λb hb=>by
  have:b=true:=by cases b<;>simp_all<;>omega
  rw[this];exact h
def Yb(e:σ.get x=some (.int k m))(g:σ.get y=some (.int k' n))(i:YV k k'=true)(q:¬ m=n)(h:next (σ.set d (.bool false)) H):(bE.aY .eql x y).m P d next σ H:=
 Yc e g i λb hb=>by
  have:b=false:=by cases b<;>simp_all<;>omega
  rw[this];exact h
def YT(e:σ.get x=some (.int k m))(g:σ.get y=some (.int k' n))(i:YV k k'=true)(q:m≠n)(h:next (σ.set d (.bool true)) H):(bE.aY .neq x y).m P d next σ H:=
 Yc e g i λb hb=>by
  have:b=true:=by cases b<;>simp_all<;>omega
  rw[this];exact h
def Z6(e:σ.get x=some (.int k m))(g:σ.get y=some (.int k' n))(i:YV k k'=true)(q:m=n)(h:next (σ.set d (.bool false)) H):(bE.aY .neq x y).m P d next σ H:=
 Yc e g i λb hb=>by
  have:b=false:=by cases b<;>simp_all<;>omega
  rw[this];exact h
def ZsW(e:σ.get x=some (.int k m))(g:σ.get y=some (.int k' n))(i:YV k k'=true)(q:m<n)(h:next (σ.set d (.bool true)) H):(bE.aY .lss x y).m P d next σ H:=
 Yc e g i λb hb=>by
  have:b=true:=by cases b<;>simp_all<;>omega
  rw[this];exact h
def W6(e:σ.get x=some (.int k m))(g:σ.get y=some (.int k' n))(i:YV k k'=true)(q:¬ m<n)(h:next (σ.set d (.bool false)) H):(bE.aY .lss x y).m P d next σ H:=
 Yc e g i λb hb=>by
  have:b=false:=by cases b<;>simp_all<;>omega
  rw[this];exact h
def QR(e:σ.get x=some (.int k m))(g:σ.get y=some (.int k' n))(i:YV k k'=true)(q:m > n)(h:next (σ.set d (.bool true)) H):(bE.aY .gtr x y).m P d next σ H:=
 Yc e g i λb hb=>by
  have:b=true:=by cases b<;>simp_all<;>omega
  rw[this];exact h
def W4(e:σ.get x=some (.int k m))(g:σ.get y=some (.int k' n))(i:YV k k'=true)(q:¬ m > n)(h:next (σ.set d (.bool false)) H):(bE.aY .gtr x y).m P d next σ H:=
 Yc e g i λb hb=>by
  have:b=false:=by cases b<;>simp_all<;>omega
  rw[this];exact h
def RG(i:σ.dQ=[])(g:rs.any Zf.cell=false)(q:U4 σ rs=some vs)(h:Post (Y5 vs) H):VL P rs Post σ H:=by unfold VL IP;rw[i];exact⟨λe=>by rw[g]at e;simp at e,vs,Ah q,h⟩
def L0(h:VL P rs Post σ H):tJ P rs Post .normal σ H:=h
def U9(h:VL P rs Post σ H):tJ P rs Post .ret σ H:=h
variable{Qe:Ex->aM->Hp->Prop}{a b c:Ze}{id:Nat}
def WR{l:List NI}(h:ZR P l (Qe .normal) σ H):(Ze.aI l).m P Qe σ H:=h
def Z9(h:a.m P (iD.then (b.m P Qe) Qe) σ H):(Ze.seq a b).m P Qe σ H:=.inl h
def Ztx(h:F1 P a b Qe σ H):(Ze.seq a b).m P Qe σ H:=.inr (.inl h)
def Z2{ι:Type}(I:ι->Hp->Prop)(env:ι->List (Nat×Value))(box:ι->List (Nat×List Value))(g:a.m P (iD.then (λσ' e=>∃i,I i e/\sX (env i) σ'/\sY (box i) σ'/\σ'.dQ=σ.dQ) Qe) σ H)
  (h:∀i H,I i H->b.m P Qe (V4 σ.dQ (env i) (box i)) H):(Ze.seq a b).m P Qe σ H:=.inr (.inr ⟨ι,I,env,box,g,h⟩)
def WT(h:Qe .normal σ H):Ze.skip.m P Qe σ H:=h
def WS(h:Qe .ret σ H):Ze.ret.m P Qe σ H:=h
theorem WQ(h:Qe (.exit id) σ H):(Ze.exit id).m P Qe σ H:=h
theorem WN(h:a.m P (iD.inBlock id Qe) σ H):(Ze.block id a).m P Qe σ H:=h
def UN{t:Bool}(e:σ.get x=some (.bool t))(h:(bif t then a else b).m P Qe σ H):(Ze.cond x a b).m P Qe σ H:=by cases t<;>(simp only[Ze.m,e];exact h)
def WP(e:σ.get x=some (.bool true))(h:a.m P Qe σ H):(Ze.cond x a b).m P Qe σ H:=UN e h
def WO(e:σ.get x=some (.bool false))(h:b.m P Qe σ H):(Ze.cond x a b).m P Qe σ H:=UN e h
def XE(h:next σ H):iD.then next Qe .normal σ H:=h
theorem XG(h:Qe (.exit id) σ H):iD.then next Qe (.exit id) σ H:=h
def XF(h:Qe .ret σ H):iD.then next Qe .ret σ H:=h
theorem X7(h:Qe .normal σ H):iD.inBlock id Qe .normal σ H:=h
theorem XB(h:Qe .ret σ H):iD.inBlock id Qe .ret σ H:=h
theorem XC(h:Qe .normal σ H):iD.inBlock id Qe (.exit id) σ H:=by simp only[iD.inBlock,qBp];exact h
theorem XD{e:Nat}(g:Nat.beq e id=false)(h:Qe (.exit e) σ H):iD.inBlock id Qe (.exit e) σ H:=by
 have:¬ e=id:=by rintro rfl;simp at g
 simp only[iD.inBlock,aT this];exact h
end
structure Wr(p:Prop):Prop where
 out:p
def Z(x:G') (h:Wr G'->G:=by
  intro oH;repeat first
   | (with_reducible refine XX ?_)
   | ((with_reducible apply W7);exact rfl)
   | ((with_reducible apply W8);exact rfl)
   | ((with_reducible apply W3);exact rfl)
   | ((with_reducible apply XA);exact rfl;exact rfl)
   | ((with_reducible apply W9);exact rfl)
   | ((with_reducible apply W0);exact rfl;exact rfl)
   | ((with_reducible apply XV);exact rfl)
   | ((with_reducible apply WL);exact rfl;exact rfl)
   | ((with_reducible apply XW);exact rfl)
   | (with_reducible refine XY ?_)
   | (with_reducible refine XE ?_)
   | (with_reducible refine Z9 ?_)
   | (with_reducible refine WR ?_)
   | (with_reducible refine WN ?_)
   | (with_reducible refine WT ?_)
   | (with_reducible refine WS ?_)
   | (with_reducible refine WQ ?_)
   | (with_reducible refine XG ?_)
   | (with_reducible refine XF ?_)
   | (with_reducible refine X7 ?_)
   | (with_reducible refine XB ?_)
   | (with_reducible refine XC ?_)
   | ((with_reducible apply XD);exact rfl)
   | ((with_reducible apply WP);exact rfl)
   | ((with_reducible apply WO);exact rfl)
   | (with_reducible refine U9 ?_)
   | (with_reducible refine L0 ?_)
   | ((with_reducible apply RG);exact rfl;exact rfl;exact rfl)
  exact oH.out):G:=h ⟨x⟩
def w1T(x:G') (h:Wr G'->G:=by
  intro oH;first
   | (with_reducible refine XX ?_)
   | ((with_reducible apply W7);exact rfl)
   | ((with_reducible apply W8);exact rfl)
   | ((with_reducible apply W3);exact rfl)
   | ((with_reducible apply XA);exact rfl;exact rfl)
   | ((with_reducible apply W9);exact rfl)
   | ((with_reducible apply W0);exact rfl;exact rfl)
   | ((with_reducible apply XV);exact rfl)
   | ((with_reducible apply WL);exact rfl;exact rfl)
   | ((with_reducible apply XW);exact rfl)
   | (with_reducible refine XY ?_)
   | (with_reducible refine XE ?_)
   | (with_reducible refine Z9 ?_)
   | (with_reducible refine WR ?_)
   | (with_reducible refine WN ?_)
   | (with_reducible refine WT ?_)
   | (with_reducible refine WS ?_)
   | (with_reducible refine WQ ?_)
   | (with_reducible refine XG ?_)
   | (with_reducible refine XF ?_)
   | (with_reducible refine X7 ?_)
   | (with_reducible refine XB ?_)
   | (with_reducible refine XC ?_)
   | ((with_reducible apply XD);exact rfl)
   | ((with_reducible apply WP);exact rfl)
   | ((with_reducible apply WO);exact rfl)
   | (with_reducible refine U9 ?_)
   | (with_reducible refine L0 ?_)
   | ((with_reducible apply RG);exact rfl;exact rfl;exact rfl)
  exact oH.out):G:=h ⟨x⟩
end
section
variable{m:Int}{n off bV ln t j:Nat}{p:Prop}{k k':IntKind}{cs zs vs:List Value}{ts:List Nat}{ps:List (Nat×Nat×Operand)}{ty:TypeId}{f:Option Bool}{H0:Hp}{l1 l2:List (NI×Option Bool)}{w bb:Bool}{rs:List Zf}{Post:Value->Hp->Prop}{aA bd:Ze}{fv:Value}{N:Hp->Prop}
class Loud (P:aX):Prop where
 aV:∀g,P.still g=false
def OL{P:aX}[Loud P]:∀g,P.still g=false:=Loud.aV
section
variable{P:aX}{d:Option Nat}{r:List NI}{op:bE}{Q:aM->Hp->Prop}{next:aM->Hp->Prop}{σ:aM}{H:Hp}{x y z:Operand}{v:Value}
def ZiP{n:Int}(e:σ.get x=some (.int .i64 m))(g:σ.get y=some (.int .i64 n))(i:pZ (m+n))(h:next (σ.set d (.int .i64 (m+n))) H):(bE.aY .add x y).m P d next σ H:=Yc e g rfl ⟨i,h⟩
def Zio{n:Int}(e:σ.get x=some (.int .i64 m))(g:σ.get y=some (.int .i64 n))(i:pZ (m-n))(h:next (σ.set d (.int .i64 (m-n))) H):(bE.aY .sub x y).m P d next σ H:=Yc e g rfl ⟨i,h⟩
def V8{n:Int}(e:σ.get x=some (.int .i64 m))(g:σ.get y=some (.int .i64 n))(i:pZ (m * n))(h:next (σ.set d (.int .i64 (m * n))) H):(bE.aY .mul x y).m P d next σ H:=Yc e g rfl ⟨i,h⟩
def QB{b:Bool}[Decidable p](h:b=true↔p):b=decide p:=by
 by_cases g:p
 ·simp[g,h]
 have:b≠true:=λe=>g (h.1 e);simp[g,this]
def ZiA{n:Int}(e:σ.get x=some (.int k m))(g:σ.get y=some (.int k' n))(i:YV k k'=true)(h:next (σ.set d (.bool (decide (m<n)))) H):(bE.aY .lss x y).m P d next σ H:=Yc e g i λb hb=>by rw[QB hb];exact h
def ZiE{n:Int}(e:σ.get x=some (.int k m))(g:σ.get y=some (.int k' n))(i:YV k k'=true)(h:next (σ.set d (.bool (decide (m<=n)))) H):(bE.aY .leq x y).m P d next σ H:=Yc e g i λb hb=>by rw[QB hb];exact h
def ZiH{n:Int}(e:σ.get x=some (.int k m))(g:σ.get y=some (.int k' n))(i:YV k k'=true)(h:next (σ.set d (.bool (decide (n<m)))) H):(bE.aY .gtr x y).m P d next σ H:=Yc e g i λb hb=>by rw[QB (p:=n<m) hb];exact h
def ZiI{n:Int}(e:σ.get x=some (.int k m))(g:σ.get y=some (.int k' n))(i:YV k k'=true)(h:next (σ.set d (.bool (decide (n<=m)))) H):(bE.aY .geq x y).m P d next σ H:=Yc e g i λb hb=>by rw[QB (p:=n<=m) hb];exact h
def ZiL{n:Int}(e:σ.get x=some (.int k m))(g:σ.get y=some (.int k' n))(i:YV k k'=true)(h:next (σ.set d (.bool (decide (m=n)))) H):(bE.aY .eql x y).m P d next σ H:=Yc e g i λb hb=>by rw[QB hb];exact h
def Zit{n:Int}(i:σ.get x=some (.int k m))(q:σ.get y=some (.int k' n))(s:YV k k'=true)(h:next (σ.set d (.bool !(decide (m=n)))) H):(bE.aY .neq x y).m P d next σ H:=Yc i q s λb hb=>by
 have:b=!(decide (m=n)):=by
  by_cases g:m=n
  ·have:b≠true:=λe=>(hb.1 e) g;simp[g,this]
  simp[g,hb]
 rw[this];exact h
def ZiK{cs:Array Value}(e:σ.get x=some (.agg cs))(g:cs[off]? = some v)(h:next (σ.set d v) H):(bE.lR off none x).m P d next σ H:=by simp only[bE.m,e,g];exact h
def ZiJ{cs:Array Value}(e:σ.get x=some (.agg cs))(h:next (σ.set d (.agg ((cs.toList.drop off).take n).toArray)) H):(bE.lR off (some n) x).m P d next σ H:=by simp only[bE.m,e];exact h
def Jh{a:Option Addr}{c:Nat}(e:σ.get x=some (.slice a n c))(h:next (σ.set d (.int .i64 (n:Int))) H):(bE.len x).m P d next σ H:=by simp only[bE.m,e];exact h
def ZsY{a:Addr}{c:Nat}{n:Int}(e:σ.get x=some (.slice (some a) ln c))(g:σ.get y=some (.int k n))(i:0<=n/\n<(ln:Nat))(h:next (σ.set d (.pointer (some (a.add (n.toNat * bV))))) H):(bE.bQ bV x y).m P d next σ H:=by simp only[bE.m,e,g];exact⟨a,rfl,i,h⟩
def OD{a:Addr}{c:Nat}(e:σ.get x=some (.slice (some a) ln c))(g:σ.get y=some (.int k (n:Int)))(i:n<ln)(h:next (σ.set d (.pointer (some (a.add (n * bV))))) H):(bE.bQ bV x y).m P d next σ H:=
 ZsY e g ⟨O,O⟩ h
def Zh{a:Addr}(g:P.still H.gh=false)(e:σ.get x=some (.pointer (some a)))(i:aC H a [v])(h:next (σ.set d v) H):(bE.ld none x).m P d next σ H:=by simp only[bE.m,e];exact⟨g,v,i,h⟩
def Zn{a:Addr}(g:P.still H.gh=false)(e:σ.get x=some (.pointer (some a)))(i:aC H a cs)(q:cs.length=n)(h:next (σ.set d (.agg cs.toArray)) H):(bE.ld (some n) x).m P d next σ H:=by simp only[bE.m,e];exact⟨g,cs,q,i,h⟩
def Zix{b:Nat}(e:P.still H.gh=false)(h:next (((σ.drop ts).set (some b) (.int .i64 (Int.ofNat 0))).put b zs) H):(bE.aQ b ts zs).m P d next σ H:=⟨e,h⟩
def ZiF{b:Nat}(g:P.still H.gh=false)(e:σ.get x=some v)(h:next (((σ.drop ts).set (some b) (.int .i64 (Int.ofNat 0))).put b v.cells.toList) H):(bE.aP b ts x).m P d next σ H:=by simp only[bE.m,e];refine⟨g,?_⟩;cases v<;>exact h
def ZiD(e:σ.env t=some (.int .i64 (.ofNat n)))(h:next (σ.set d (.int .i64 (Int.ofNat (n+off)))) H):(bE.aU off t).m P d next σ H:=by simp only[bE.m,e];exact h
def ZiC{j:Int}(e:σ.env t=some (.int .i64 (.ofNat n)))(g:σ.get x=some (.int k j))(i:0<=j/\j<(ln:Nat))(h:next (σ.set d (.int .i64 (Int.ofNat (n+j.toNat * bV)))) H):(bE.fC bV ln t x).m P d next σ H:=by simp only[bE.m,e,g];exact⟨i,h⟩
def CF(e:σ.env t=some (.int .i64 (.ofNat n)))(g:σ.get x=some (.int k (j:Int)))(i:j<ln)(h:next (σ.set d (.int .i64 (Int.ofNat (n+j * bV)))) H):(bE.fC bV ln t x).m P d next σ H:=
 ZiC e g ⟨O,O⟩ h
def FW{b:Nat}(g:P.still H.gh=false)(e:σ.env t=some (.int .i64 (.ofNat off)))(i:σ.box b=some cs)(q:cs[off]? = some v)(h:next (σ.set d v) H):(bE.dA b none t).m P d next σ H:=by simp only[bE.m,e,i];exact⟨g,v,q,h⟩
def ZiB{b:Nat}(g:P.still H.gh=false)(e:σ.env t=some (.int .i64 (.ofNat off)))(i:σ.box b=some cs)(q:Nat.ble (off+n) cs.length=true)(h:next (σ.set d (.agg ((cs.drop off).take n).toArray)) H):(bE.dA b (some n) t).m P d next σ H:=by simp only[bE.m,e,i,q];exact⟨g,h⟩
def FX{b:Nat}(g:P.still H.gh=false)(e:σ.env t=some (.int .i64 (.ofNat off)))(i:σ.box b=some cs)(q:σ.get x=some v)(s:v.cells.size=n)(u:off+n<=cs.length)(C:(v.cells.toList.all Value.cJ)=true)
  (h:next (σ.put b (ZG cs off v.cells.toList)) H):(bE.qU b n t x).m P d next σ H:=by
 simp only[bE.m,e,i,q];exact⟨g,⟨s,u,C⟩,h⟩
def Ziz{b:Nat}(g:P.still H.gh=false)(e:σ.env t=some (.int .i64 (.ofNat 0)))(i:σ.box b=some cs)(q:σ.get x=some v)(s:v.cells.size=n)(C:cs.length=n)(u:(v.cells.toList.all Value.cJ)=true)
  (h:next (σ.put b v.cells.toList) H):(bE.qU b n t x).m P d next σ H:=by
 refine FX g e i q s O u ?_;have:ZG cs 0 v.cells.toList=v.cells.toList:=by unfold ZG;rw[qCa,qBt,qBw (by simp;omega),qAf]
 rw[this];exact h
def Ziy{b:Nat}(g:P.still H.gh=false)(e:σ.env t=some (.int .i64 (.ofNat off)))(i:σ.box b=some cs)(q:σ.get x=some v)(s:v.cells.size=n)(u:Nat.ble (off+n) cs.length=true)(C:(v.cells.toList.all Value.cJ)=true)
  (h:next (σ.put b (ZG cs off v.cells.toList)) H):(bE.qU b n t x).m P d next σ H:=FX g e i q s (qCN u) C h
def ZiO(e:buildV σ ps zs=some cs)(h:next (σ.set d (.agg cs.toArray)) H):(bE.build zs ps).m P d next σ H:=by simp only[bE.m,e];exact h
def ZY(g:P.still H.gh=false)(e:buildV σ ps zs=some cs)(h:∀r,H r=none->next (σ.set d (.slice (some ⟨r,0,none⟩) ln ln)) (H.ins r (.cells cs.toArray ty))):(bE.aO ty ln zs ps).m P d next σ H:=by simp only[bE.m,e];exact⟨g,h⟩
def Vd{o:Op}(g:(o.operands.all λx=>(σ.get x).isSome)=true)(e:oT P (execOp (λx=>(σ.get x).getD undef) (aR o ty)) v)(h:next (σ.set d v) H):(bE.bU o ty).m P d next σ H:=⟨g,v,e,h⟩
variable{l:List (NI×Option Bool)}
def Xl(h:Q σ H):ZT P [] Q σ H:=h
def Xk(e:P.still H.gh=false)(h:op.m P d (mA P.toPQ H f (ZT P l Q)) σ H):ZT P ((⟨none,d,op⟩,f) :: l) Q σ H:=⟨e,h⟩
def Xj{b:Bool}(g:P.still H.gh=false)(e:σ.env t=some (.bool b))(h:op.m P d (mA P.toPQ H f (ZT P l Q)) σ H):ZT P ((⟨some (t,b),d,op⟩,f) :: l) Q σ H:=by cases b<;>(simp only[ZT,e];exact⟨g,h⟩)
def Xm{b i:Bool}(g:P.still H.gh=false)(e:σ.env t=some (.bool i))(hb:i=!b)(h:ZT P l Q (σ.fB d) H):ZT P ((⟨some (t,b),d,op⟩,f) :: l) Q σ H:=by subst hb;cases b<;>(simp only[ZT,e,qEa,qBU];exact⟨g,h⟩)
def ZlP{K:aM->Hp->Prop}(h:K σ H):mA P.toPQ H0 none K σ H:=h
def ZlO{K:aM->Hp->Prop}(h:K σ H):mA P.toPQ H (some false) K σ H:=⟨rfl,h⟩
def Zp{K:aM->Hp->Prop}(e:∀g,P.still g=false)(h:K σ H):mA P.toPQ H0 (some false) K σ H:=⟨by rw[e,e],h⟩
def TT{K:aM->Hp->Prop}(e:∀g,P.still g=false)(i:∀b x,H0 b=some x->H b=some x)(h:K σ H):mA P.toPQ H0 (some true) K σ H:=⟨⟨by rw[e,e],i⟩,h⟩
def XN{K:aM->Hp->Prop}(e:H0.Sub H)(h:K σ H):mA P.toPQ H0 (some true) K σ H:=⟨⟨by rw[e.gh],e.mem⟩,h⟩
def FS{K:aM->Hp->Prop}(h:K σ H):mA P.toPQ H (some true) K σ H:=⟨⟨rfl,λ_ _ h=>h⟩,h⟩
def Zi7{Qe:Ex->aM->Hp->Prop}(e:P.still H.gh=false)(h:ZT P l (Qe .normal) σ H):(Ze.drawn l).m P Qe σ H:=⟨e,h⟩
def Ztp{Qe:Ex->aM->Hp->Prop}(e:P.still H.gh=false)(g:ZT P l1 (Qe .normal) σ H)(h:ZT P l2 (Qe .normal) σ H):(Ze.C8 l1 l2).m P Qe σ H:=⟨e,g,h⟩
def Zi6{Qe:Ex->aM->Hp->Prop}{h i:List (NI×Option Bool)}(e:P.still H.gh=false)(q:ZT P l1 (Qe .normal) σ H)(s:ZT P l2 (Qe .normal) σ H)(u:ZT P h (Qe .normal) σ H)(C:ZT P i (Qe .normal) σ H):(Ze.j0 [l1,l2,h,i]).m P Qe σ H:=
 ⟨e,λl g=>by simp only[qAq,qCf,qDz]at g;rcases g with rfl | rfl | rfl | rfl<;>assumption⟩
variable{Qe:Ex->aM->Hp->Prop}{a b c:Ze}
def Ztw[Decidable p](e:σ.get x=some (.bool (decide p)))(h:p->a.m P Qe σ H)(i:¬ p->b.m P Qe σ H):(Ze.cond x a b).m P Qe σ H:=by
 by_cases g:p
 ·exact UN (t:=true) (by rw[e];simp[g]) (h g)
 exact UN (t:=false) (by rw[e];simp[g]) (i g)
def Ztu[Decidable p](e:σ.get x=some (.bool !(decide p)))(h:¬ p->a.m P Qe σ H)(i:p->b.m P Qe σ H):(Ze.cond x a b).m P Qe σ H:=by
 by_cases g:p
 ·exact UN (t:=false) (by rw[e];simp[g]) (i g)
 exact UN (t:=true) (by rw[e];simp[g]) (h g)
theorem Ztv{t:Bool}(e:σ.get x=some (.bool t))(g:t=true->a.m P Qe σ H)(h:t=false->b.m P Qe σ H):(Ze.cond x a b).m P Qe σ H:=by
 cases t
 ·exact UN e (h rfl)
 exact UN e (g rfl)
theorem Ztt{t:Bool}(e:σ.get x=some (.bool !t))(g:t=false->a.m P Qe σ H)(h:t=true->b.m P Qe σ H):(Ze.cond x a b).m P Qe σ H:=by
 cases t
 ·exact UN e (g rfl)
 exact UN e (h rfl)
theorem aM.tN(e:σ.env t=some v):σ.set (some t) v=σ:=by
 refine aM.ext' (λs=>?_) (λ_=>rfl) rfl;simp only[aM.set];cases hb:Nat.beq s t with
 | false=>rfl
 | true=>rw[qBN hb,e];rfl
theorem XU(e:σ.env t=some (.bool bb))(g:bb=true->ZR P (⟨some (t,w),d,op⟩ :: r) Q (σ.set (some t) (.bool true)) H)(h:bb=false->ZR P (⟨some (t,w),d,op⟩ :: r) Q (σ.set (some t) (.bool false)) H):ZR P (⟨some (t,w),d,op⟩ :: r) Q σ H:=by
 have:=aM.tN e;cases bb
 ·rw[<-this];exact h rfl
 rw[<-this];exact g rfl
def ZtD[Decidable p](e:σ.env t=some (.bool (decide p)))(g:p->ZR P (⟨some (t,w),d,op⟩ :: r) Q (σ.set (some t) (.bool true)) H)(i:¬ p->ZR P (⟨some (t,w),d,op⟩ :: r) Q (σ.set (some t) (.bool false)) H):ZR P (⟨some (t,w),d,op⟩ :: r) Q σ H:=
 XU e (λh=>g (of_decide_eq_true h)) (λh=>i (of_decide_eq_false h))
def ZtC[Decidable p](e:σ.env t=some (.bool !(decide p)))(g:¬ p->ZR P (⟨some (t,w),d,op⟩ :: r) Q (σ.set (some t) (.bool true)) H)(i:p->ZR P (⟨some (t,w),d,op⟩ :: r) Q (σ.set (some t) (.bool false)) H):ZR P (⟨some (t,w),d,op⟩ :: r) Q σ H:=
 XU e (λh=>g (by simpa using h)) (λh=>i (by simpa using h))
def ZtB(e:σ.env t=some (.bool !bb))(g:bb=false->ZR P (⟨some (t,w),d,op⟩ :: r) Q (σ.set (some t) (.bool true)) H)(i:bb=true->ZR P (⟨some (t,w),d,op⟩ :: r) Q (σ.set (some t) (.bool false)) H):ZR P (⟨some (t,w),d,op⟩ :: r) Q σ H:=
 XU e (λh=>g (by simpa using h)) (λh=>i (by simpa using h))
theorem Xi(e:σ.env t=some (.bool bb))(g:bb=true->ZT P ((⟨some (t,w),d,op⟩,f) :: l) Q (σ.set (some t) (.bool true)) H)(h:bb=false->ZT P ((⟨some (t,w),d,op⟩,f) :: l) Q (σ.set (some t) (.bool false)) H):ZT P ((⟨some (t,w),d,op⟩,f) :: l) Q σ H:=by
 have:=aM.tN e;cases bb
 ·rw[<-this];exact h rfl
 rw[<-this];exact g rfl
def ZuJ[Decidable p](e:σ.env t=some (.bool (decide p)))(g:p->ZT P ((⟨some (t,w),d,op⟩,f) :: l) Q (σ.set (some t) (.bool true)) H)(i:¬ p->ZT P ((⟨some (t,w),d,op⟩,f) :: l) Q (σ.set (some t) (.bool false)) H):ZT P ((⟨some (t,w),d,op⟩,f) :: l) Q σ H:=
 Xi e (λh=>g (of_decide_eq_true h)) (λh=>i (of_decide_eq_false h))
def Zls(g:σ.dQ=[])(q:rs.any Zf.cell=true)(e:P.still H.gh=false)(i:U4 σ rs=some vs)(h:Post (Y5 vs) H):VL P rs Post σ H:=by unfold VL IP;rw[g];exact⟨λ_=>e,vs,Ah i,h⟩
def Zlr(g:σ.dQ=[])(e:P.still H.gh=false)(i:jB σ H rs vs)(h:Post (Y5 vs) H):VL P rs Post σ H:=by unfold VL IP;rw[g];exact⟨λ_=>e,vs,i,h⟩
end
section
variable{P:aX}{σ:aM}{H:Hp}{Qe:Ex->aM->Hp->Prop}{b:Ze}
def Zi5{x:Operand}{ps:List Nat}{xs:List (List Value)}(O:∀g,P.still g=false)(e:σ.get x=some fv)(i:KU P fv N xs)(L:∀x∈xs,x.length=ps.length)(I:Nat->Hp->Prop)(S:Ex->Hp->Prop)(C:I 0 H)(D:∀n,Up (I n))(F:∀e,Up (S e))(E:∀n H,I n H->N H)
  (M:∀n (s:n<xs.length) H,I n H->aA.m P (iD.then (bd.m P (Aj (I (n+1)) S)) WU) (σ.aR.round ps xs[n]) H) (J:∀H,I xs.length H->Qe .normal σ H) (R:∀e H,e≠.normal->S e H->Qe e σ H):(Ze.rS x ps aA bd).m P Qe σ H:=by
 simp only[Ze.m,e];refine⟨O,N,xs.length,Wb xs,i.toE,λn vs u h=>?_,I,S,C,D,F,E,λn s vs u H h T U K=>?_,J,R⟩
 ·obtain⟨_,q,rfl⟩:=h;exact L _ (bY q)
 obtain⟨rfl,q,rfl⟩:=h;rw[Hp.eG];exact M n s H K
def Zts{x:Operand}{ps:List Nat}{len:Nat}{E:Nat->List Value->Hp->Prop}(K:∀g,P.still g=false)(e:σ.get x=some fv)(i:KY P fv N len E)(F:∀n vs h,E n vs h->vs.length=ps.length)(I:Nat->Hp->Prop)(S:Ex->Hp->Prop)(q:I 0 H)(s:∀n,Up (I n))(C:∀e,Up (S e))(u:∀n H,I n H->N H)
  (J:∀n,n<len->∀vs h H,E n vs h->h.gh=[]->H.Comp h->I n H->aA.m P (iD.then (bd.m P (Aj (I (n+1)) S)) WU) (σ.aR.round ps vs) (H.join h)) (D:∀H,I len H->Qe .normal σ H) (L:∀e H,e≠.normal->S e H->Qe e σ H):(Ze.rS x ps aA bd).m P Qe σ H:=by
 simp only[Ze.m,e];exact⟨K,N,len,E,i,F,I,S,q,s,C,u,J,D,L⟩
def Zv(n:Nat)(I:Nat->Hp->Prop)(env:Nat->List (Nat×Value))(box:Nat->List (Nat×List Value))(h:I 0 H)(q:sX (env 0) σ)(hb:sY (box 0) σ)
  (s:∀j H,j<=n->I j H->b.m P (iD.then (λσ' g=>∃e:{ j:Nat // j<=n },n-e.1<n-j/\I e.1 g/\sX (env e.1) σ'/\sY (box e.1) σ'/\σ'.dQ=σ.dQ) Qe) (V4 σ.dQ (env j) (box j)) H):(Ze.loop b).m P Qe σ H:=
 ⟨{ j:Nat // j<=n },λj=>I j.1,λj=>n-j.1,λj=>env j.1,λj=>box j.1,⟨0,qAI _⟩,h,⟨q,hb⟩,λj H i=>s j.1 H j.2 i⟩
def dM{I:Nat->Hp->Prop}{env:Nat->List (Nat×Value)}{box:Nat->List (Nat×List Value)}{σ':aM}{g:List Deferred}(s:j<n)(h:I (j+1) H)(q:sX (env (j+1)) σ')(hb:sY (box (j+1)) σ')(i:σ'.dQ=g) :
  ∃e:{ j:Nat // j<=n },n-e.1<n-j/\I e.1 H/\sX (env e.1) σ'/\sY (box e.1) σ'/\σ'.dQ=g:=⟨⟨j+1,s⟩,by show n-(j+1)<n-j;omega,h,q,hb,i⟩
def ZO{α:Type}(n:Nat)(I:Nat->α->Hp->Prop)(env:Nat->α->List (Nat×Value))(box:Nat->α->List (Nat×List Value))(g:α)(i:I 0 g H)(s:sX (env 0 g) σ)(hb:sY (box 0 g) σ)
  (u:∀j a H,j<=n->I j a H->b.m P (iD.then (λσ' h=>∃e:{ j:Nat // j<=n }×α,n-e.1.1<n-j/\I e.1.1 e.2 h/\sX (env e.1.1 e.2) σ'/\sY (box e.1.1 e.2) σ'/\σ'.dQ=σ.dQ) Qe) (V4 σ.dQ (env j a) (box j a)) H):(Ze.loop b).m P Qe σ H:=
 ⟨{ j:Nat // j<=n }×α,λj=>I j.1.1 j.2,λj=>n-j.1.1,λj=>env j.1.1 j.2,λj=>box j.1.1 j.2,⟨⟨0,qAI _⟩,g⟩,i,⟨s,hb⟩,λj H q=>u j.1.1 j.2 H j.1.2 q⟩
end
end
variable{G G' A B c d:Prop}
def Y(x:G') (h:Wr G'->G:=by
  intro oH;repeat first
   | (with_reducible refine XX ?_)
   | ((with_reducible apply W7);exact rfl)
   | ((with_reducible apply ZiD);exact rfl)
   | ((with_reducible apply FW);(first | exact rfl | assumption | exact Loud.aV _);exact rfl;exact rfl;exact rfl)
   | ((with_reducible apply ZiB);(first | exact rfl | assumption | exact Loud.aV _);exact rfl;exact rfl;exact rfl)
   | ((with_reducible apply ZiA);exact rfl;exact rfl;exact rfl)
   | ((with_reducible apply ZiE);exact rfl;exact rfl;exact rfl)
   | ((with_reducible apply ZiH);exact rfl;exact rfl;exact rfl)
   | ((with_reducible apply ZiI);exact rfl;exact rfl;exact rfl)
   | ((with_reducible apply ZiL);exact rfl;exact rfl;exact rfl)
   | ((with_reducible apply Zit);exact rfl;exact rfl;exact rfl)
   | ((with_reducible apply ZiP);exact rfl;exact rfl;(refine⟨?_,?_⟩<;>omega))
   | ((with_reducible apply Zio);exact rfl;exact rfl;(refine⟨?_,?_⟩<;>omega))
   | ((with_reducible apply Jh);exact rfl)
   | ((with_reducible apply W8);exact rfl)
   | ((with_reducible apply W3);exact rfl)
   | ((with_reducible apply XA);exact rfl;exact rfl)
   | ((with_reducible apply W9);exact rfl)
   | ((with_reducible apply W0);exact rfl;exact rfl)
   | ((with_reducible apply ZiK);exact rfl;exact rfl)
   | ((with_reducible apply ZiJ);exact rfl)
   | ((with_reducible apply Zix);(first | exact rfl | assumption | exact Loud.aV _))
   | ((with_reducible apply ZiF);(first | exact rfl | assumption | exact Loud.aV _);exact rfl)
   | ((with_reducible apply Ziz);(first | exact rfl | assumption | exact Loud.aV _);exact rfl;exact rfl;exact rfl;exact rfl;exact rfl;exact rfl)
   | ((with_reducible apply Ziy);(first | exact rfl | assumption | exact Loud.aV _);exact rfl;exact rfl;exact rfl;exact rfl;exact rfl;exact rfl)
   | ((with_reducible apply ZiO);exact rfl)
   | ((with_reducible apply XV);exact rfl)
   | ((with_reducible apply WL);exact rfl;exact rfl)
   | ((with_reducible apply XW);exact rfl)
   | (with_reducible refine XY ?_)
   | (with_reducible refine XE ?_)
   | (with_reducible refine Z9 ?_)
   | (with_reducible refine WR ?_)
   | (with_reducible refine WN ?_)
   | (with_reducible refine WT ?_)
   | (with_reducible refine WS ?_)
   | (with_reducible refine WQ ?_)
   | (with_reducible refine XG ?_)
   | (with_reducible refine XF ?_)
   | (with_reducible refine X7 ?_)
   | (with_reducible refine XB ?_)
   | (with_reducible refine XC ?_)
   | ((with_reducible apply XD);exact rfl)
   | ((with_reducible apply WP);exact rfl)
   | ((with_reducible apply WO);exact rfl)
   | ((with_reducible apply Zi7);(first | exact rfl | assumption | exact Loud.aV _))
   | ((with_reducible apply Xk);(first | exact rfl | assumption | exact Loud.aV _))
   | ((with_reducible apply Xj);(first | exact rfl | assumption | exact Loud.aV _);exact rfl)
   | ((with_reducible apply Xm);(first | exact rfl | assumption | exact Loud.aV _);exact rfl;exact rfl)
   | ((with_reducible apply yO);(first | exact rfl | assumption | exact Loud.aV _);exact rfl)
   | (with_reducible refine Xl ?_)
   | (with_reducible refine ZlP ?_)
   | (with_reducible refine ZlO ?_)
   | (with_reducible refine FS ?_)
   | (with_reducible refine U9 ?_)
   | (with_reducible refine L0 ?_)
   | ((with_reducible apply RG);exact rfl;exact rfl;exact rfl)
   | ((with_reducible apply Zls);exact rfl;exact rfl;(first | exact rfl | assumption | exact Loud.aV _);exact rfl)
  exact oH.out):G:=h ⟨x⟩
def Zgz(x:G') (h:Wr G'->G:=by
  intro oH;first
   | (with_reducible refine XX ?_)
   | ((with_reducible apply W7);exact rfl)
   | ((with_reducible apply ZiD);exact rfl)
   | ((with_reducible apply FW);(first | exact rfl | assumption | exact Loud.aV _);exact rfl;exact rfl;exact rfl)
   | ((with_reducible apply ZiB);(first | exact rfl | assumption | exact Loud.aV _);exact rfl;exact rfl;exact rfl)
   | ((with_reducible apply ZiA);exact rfl;exact rfl;exact rfl)
   | ((with_reducible apply ZiE);exact rfl;exact rfl;exact rfl)
   | ((with_reducible apply ZiH);exact rfl;exact rfl;exact rfl)
   | ((with_reducible apply ZiI);exact rfl;exact rfl;exact rfl)
   | ((with_reducible apply ZiL);exact rfl;exact rfl;exact rfl)
   | ((with_reducible apply Zit);exact rfl;exact rfl;exact rfl)
   | ((with_reducible apply ZiP);exact rfl;exact rfl;(refine⟨?_,?_⟩<;>omega))
   | ((with_reducible apply Zio);exact rfl;exact rfl;(refine⟨?_,?_⟩<;>omega))
   | ((with_reducible apply Jh);exact rfl)
   | ((with_reducible apply W8);exact rfl)
   | ((with_reducible apply W3);exact rfl)
   | ((with_reducible apply XA);exact rfl;exact rfl)
   | ((with_reducible apply W9);exact rfl)
   | ((with_reducible apply W0);exact rfl;exact rfl)
   | ((with_reducible apply ZiK);exact rfl;exact rfl)
   | ((with_reducible apply ZiJ);exact rfl)
   | ((with_reducible apply Zix);(first | exact rfl | assumption | exact Loud.aV _))
   | ((with_reducible apply ZiF);(first | exact rfl | assumption | exact Loud.aV _);exact rfl)
   | ((with_reducible apply Ziz);(first | exact rfl | assumption | exact Loud.aV _);exact rfl;exact rfl;exact rfl;exact rfl;exact rfl;exact rfl)
   | ((with_reducible apply Ziy);(first | exact rfl | assumption | exact Loud.aV _);exact rfl;exact rfl;exact rfl;exact rfl;exact rfl;exact rfl)
   | ((with_reducible apply ZiO);exact rfl)
   | ((with_reducible apply XV);exact rfl)
   | ((with_reducible apply WL);exact rfl;exact rfl)
   | ((with_reducible apply XW);exact rfl)
   | (with_reducible refine XY ?_)
   | (with_reducible refine XE ?_)
   | (with_reducible refine Z9 ?_)
   | (with_reducible refine WR ?_)
   | (with_reducible refine WN ?_)
   | (with_reducible refine WT ?_)
   | (with_reducible refine WS ?_)
   | (with_reducible refine WQ ?_)
   | (with_reducible refine XG ?_)
   | (with_reducible refine XF ?_)
   | (with_reducible refine X7 ?_)
   | (with_reducible refine XB ?_)
   | (with_reducible refine XC ?_)
   | ((with_reducible apply XD);exact rfl)
   | ((with_reducible apply WP);exact rfl)
   | ((with_reducible apply WO);exact rfl)
   | ((with_reducible apply Zi7);(first | exact rfl | assumption | exact Loud.aV _))
   | ((with_reducible apply Xk);(first | exact rfl | assumption | exact Loud.aV _))
   | ((with_reducible apply Xj);(first | exact rfl | assumption | exact Loud.aV _);exact rfl)
   | ((with_reducible apply Xm);(first | exact rfl | assumption | exact Loud.aV _);exact rfl;exact rfl)
   | ((with_reducible apply yO);(first | exact rfl | assumption | exact Loud.aV _);exact rfl)
   | (with_reducible refine Xl ?_)
   | (with_reducible refine ZlP ?_)
   | (with_reducible refine ZlO ?_)
   | (with_reducible refine FS ?_)
   | (with_reducible refine U9 ?_)
   | (with_reducible refine L0 ?_)
   | ((with_reducible apply RG);exact rfl;exact rfl;exact rfl)
   | ((with_reducible apply Zls);exact rfl;exact rfl;(first | exact rfl | assumption | exact Loud.aV _);exact rfl)
  exact oH.out):G:=h ⟨x⟩
def OQ(x:G') (h:Wr G'->G:=by
  intro oH;repeat ((fail_if_success (with_reducible refine Z9 ?_));refine Zgz ?_)
  exact oH.out):G:=h ⟨x⟩
def OI(x:c->A)(y:d->B) (h:Wr (c->A)->Wr (d->B)->G:=by
  intro oH zD;first
   | exact Ztw rfl oH.out zD.out
   | exact Ztu rfl oH.out zD.out
   | exact Ztt rfl oH.out zD.out
   | exact Ztv rfl oH.out zD.out
   | exact ZtD rfl oH.out zD.out
   | exact ZtC rfl oH.out zD.out
   | exact ZtB rfl oH.out zD.out
   | exact XU rfl oH.out zD.out
   | exact ZuJ rfl oH.out zD.out
   | exact Xi rfl oH.out zD.out):G:=h ⟨x⟩ ⟨y⟩
def OJ(x:c->A)(y:d->B) (h:Wr (c->A)->Wr (d->B)->G:=by intro oH zD;refine Y ?_;exact OI oH.out zD.out):G:=h ⟨x⟩ ⟨y⟩
