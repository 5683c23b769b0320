import Derived.Test.YtlhomfgcibjccaaGreatDoorP05
set_option linter.all false
namespace Go.LL
section
variable{t:Nat}{o:BinOp}{k k':IntKind}{m n:Int}{vs:List Value}{f:FuncId}{xs:List Operand}{Post:Value->Hp->Prop}{ty t2:TypeId}{rs:List Zf}{G G':Prop}
section
variable{P:bF}{d:Option Nat}{r:List NI}{op:bC}{Q:aN->Hp->Prop}{next:aN->Hp->Prop}{σ:aN}{H:Hp}{x y z:Operand}{v:Value}
theorem An(h:Q σ H):ZT P [] Q σ H:=h
theorem Am(h:op.m P d (ZT P r Q) σ H):ZT P (⟨none,d,op⟩ :: r) Q σ H:=h
theorem Ak{b:Bool}(e:σ.env t=some (.bool b))(h:op.m P d (ZT P r Q) σ H):ZT P (⟨some (t,b),d,op⟩ :: r) Q σ H:=by cases b<;>(simp only[ZT,e];exact h)
theorem Ao{b b':Bool}(e:σ.env t=some (.bool b'))(hb:b'=!b)(h:ZT P r Q (σ.gA d) H):ZT P (⟨some (t,b),d,op⟩ :: r) Q σ H:=by subst hb;cases b<;>(simp only[ZT,e,qCU,qCu];exact h)
theorem Al{b:Bool}(e:σ.env t=some undef)(h:ZT P r Q (σ.gA d) H):ZT P (⟨some (t,b),d,op⟩ :: r) Q σ H:=by cases b<;>(simp only[ZT,e,undef];exact h)
theorem XV(e:σ.get x=some v)(h:next (σ.set d v) H):(bC.fB x).m P d next σ H:=by simp only[bC.m,e];exact h
theorem XY{b:Bool}(e:σ.get x=some (.bool b))(e2:σ.get (bif b then y else z)=some v)(h:next (σ.set d v) H):(bC.pick x y z).m P d next σ H:=by cases b<;>(simp only[cond_true,cond_false]at e2;simp only[bC.m,e,e2];exact h)
theorem XX{b:Bool}(e:σ.get x=some (.bool b))(h:next (σ.set d (.bool !b)) H):(bC.not x).m P d next σ H:=by cases b<;>(simp only[bC.m,e];exact h)
theorem Yd(e1:σ.get x=some (.int k m))(e2:σ.get y=some (.int k' n))(hk:YV k k'=true)(h:W6 o k m n λv=>next (σ.set d v) H):(bC.bQ o x y).m P d next σ H:=by simp only[bC.m,e1,e2,hk];exact h
theorem XR{a:Addr}{off:Nat}(e:σ.get x=some (.pointer (some a)))(h:next (σ.set d (.pointer (some (a.add off)))) H):(bC.bM off x).m P d next σ H:=by simp only[bC.m,e];exact h
theorem XQ{vs:Array Value}{i:Nat}(e:σ.get x=some (.tuple vs))(e2:vs[i]? = some v)(h:next (σ.set d v) H):(bC.ext x i).m P d next σ H:=by simp only[bC.m,e,e2];exact h
theorem Ztl(e:σ.gets xs=some vs)(h:Zc P f vs.toArray H λv H'=>next (σ.set d v) H'):(bC.call f xs).m P d next σ H:=by simp only[bC.m,e];exact h
theorem Za(e:σ.gets xs=some vs)(hc:Zc P f vs.toArray H Post)(h:∀v H',Post v H'->next (σ.set d v) H'):(bC.call f xs).m P d next σ H:=Ztl e (Zc.mono hc h)
theorem Nv{o:Op}(ha:(o.operands.all λx=>(σ.get x).isSome)=true)(e:execOp (λx=>(σ.get x).getD undef) (aP o ty)=pure (.value v))(h:next (σ.set d v) H):(bC.raw o ty).m P d next σ H:=by refine⟨ha,.inl ?_⟩;rw[e];exact .inr h
theorem XW{a:Addr}(e:σ.get x=some (.pointer (some a)))(h:next (σ.set d (.pointer (some a))) H):(bC.raw (.nilCheck x) ty).m P d next σ H:=by refine Nv (by simp[Op.operands,e]) ?_ h;simp[execOp,aP,e]
def ZB(o:BinOp)(k:IntKind)(m n:Int):Value:=
 match o with
 | .and=>.int k (k.wrap (BitVec.ofInt k.bits m &&& BitVec.ofInt k.bits n).toNat)
 | .or=>.int k (k.wrap (BitVec.ofInt k.bits m ||| BitVec.ofInt k.bits n).toNat)
 | .andNot=>.int k (k.wrap (BitVec.ofInt k.bits m &&& ~~~ BitVec.ofInt k.bits n).toNat)
 | .sub=>.int k (k.wrap (m-n))
 | .shr=>.int k (m.fdiv (2 ^ min n.toNat k.bits))
 | .shl=>.int k (k.wrap (m * 2 ^ min n.toNat k.bits))
 | _=>undef
theorem Zo{t:TypeId}(e1:σ.get x=some (.int k m))(e2:σ.get y=some (.int k n))(ho:o=.and\/o=.or\/o=.andNot\/o=.sub)(hv:ZB o k m n=v)(h:next (σ.set d v) H) :
  (bC.raw (.binOp o t x y t2) ty).m P d next σ H:=by
 refine Nv (by simp[Op.operands,e1,e2]) ?_ h;subst hv;rcases ho with rfl | rfl | rfl | rfl<;>simp[execOp,aP,e1,e2,eqGuard,binOp,Op.intBits,Op.intArith,ZB]
theorem Vq{t:TypeId}{k2:IntKind}(e1:σ.get x=some (.int k m))(e2:σ.get y=some (.int k2 n))(ho:o=.shr\/o=.shl)(hn:0<=n)(hv:ZB o k m n=v)(h:next (σ.set d v) H) :
  (bC.raw (.binOp o t x y t2) ty).m P d next σ H:=by
 refine Nv (by simp[Op.operands,e1,e2]) ?_ h;subst hv;have:¬ n<0:=O;rcases ho with rfl | rfl<;>simp[execOp,aP,e1,e2,eqGuard,binOp,Op.shift,ZB,this]
theorem Of:∀{xs:List Operand} {vs:List Value},σ.gets xs=some vs->xs.map (λx=>(σ.get x).getD undef)=vs/\(xs.all λx=>(σ.get x).isSome)=true
 | [],vs,h=>by simp only[aN.gets,iF]at h;subst h;exact⟨rfl,rfl⟩
 | x :: r,vs,h=>by
  simp only[aN.gets]at h;split at h
  ·rename_i v Ri e1 e2;simp only[iF]at h;subst h;obtain⟨h1,h2⟩:=Of e2;simp[e1,h1,h2]
  simp at h
theorem ZmI{ρ:Operand->Value}{aB:Array Operand}{ts:Array TypeId}(hf:ρ (.func f)=.func (.func f) #[] #[]):execOp ρ (aP (.call { callee:=.value (.func f),args:=aB,argTypes:=ts }) ty)=callFunc f (aB.map ρ):=by simp[execOp,aP,resolve,Deferred.ofValue,hf,invoke]
theorem YA(e1:σ.get x=some (.int k m))(e2:σ.get y=some (.int k' n))(hk:YV k k'=true)(hh:m=n)(h:next (σ.set d (.bool true)) H):(bC.bQ .eql x y).m P d next σ H:=
 Yd e1 e2 hk λb hb=>by
  have:b=true:=by cases b<;>simp_all<;>omega
  rw[this];exact h
theorem Yc(e1:σ.get x=some (.int k m))(e2:σ.get y=some (.int k' n))(hk:YV k k'=true)(hh:¬ m=n)(h:next (σ.set d (.bool false)) H):(bC.bQ .eql x y).m P d next σ H:=
 Yd e1 e2 hk λb hb=>by
  have:b=false:=by cases b<;>simp_all<;>omega
  rw[this];exact h
theorem YT(e1:σ.get x=some (.int k m))(e2:σ.get y=some (.int k' n))(hk:YV k k'=true)(hh:m≠n)(h:next (σ.set d (.bool true)) H):(bC.bQ .neq x y).m P d next σ H:=
 Yd e1 e2 hk λb hb=>by
  have:b=true:=by cases b<;>simp_all<;>omega
  rw[this];exact h
theorem Z8(e1:σ.get x=some (.int k m))(e2:σ.get y=some (.int k' n))(hk:YV k k'=true)(hh:m=n)(h:next (σ.set d (.bool false)) H):(bC.bQ .neq x y).m P d next σ H:=
 Yd e1 e2 hk λb hb=>by
  have:b=false:=by cases b<;>simp_all<;>omega
  rw[this];exact h
theorem Ztd(e1:σ.get x=some (.int k m))(e2:σ.get y=some (.int k' n))(hk:YV k k'=true)(hh:m<n)(h:next (σ.set d (.bool true)) H):(bC.bQ .lss x y).m P d next σ H:=
 Yd e1 e2 hk λb hb=>by
  have:b=true:=by cases b<;>simp_all<;>omega
  rw[this];exact h
theorem XU(e1:σ.get x=some (.int k m))(e2:σ.get y=some (.int k' n))(hk:YV k k'=true)(hh:¬ m<n)(h:next (σ.set d (.bool false)) H):(bC.bQ .lss x y).m P d next σ H:=
 Yd e1 e2 hk λb hb=>by
  have:b=false:=by cases b<;>simp_all<;>omega
  rw[this];exact h
theorem R9(e1:σ.get x=some (.int k m))(e2:σ.get y=some (.int k' n))(hk:YV k k'=true)(hh:m > n)(h:next (σ.set d (.bool true)) H):(bC.bQ .gtr x y).m P d next σ H:=
 Yd e1 e2 hk λb hb=>by
  have:b=true:=by cases b<;>simp_all<;>omega
  rw[this];exact h
theorem XS(e1:σ.get x=some (.int k m))(e2:σ.get y=some (.int k' n))(hk:YV k k'=true)(hh:¬ m > n)(h:next (σ.set d (.bool false)) H):(bC.bQ .gtr x y).m P d next σ H:=
 Yd e1 e2 hk λb hb=>by
  have:b=false:=by cases b<;>simp_all<;>omega
  rw[this];exact h
theorem S4(hd:σ.cX=[])(hc:rs.any Zf.cell=false)(hv:U6 σ rs=some vs)(h:Post (YR vs) H):VK P rs Post σ H:=by unfold VK KF;rw[hd];exact⟨λe=>by rw[hc]at e;simp at e,vs,Bi hv,h⟩
theorem MK(h:VK P rs Post σ H):FA P rs Post .normal σ H:=h
theorem Ob(h:VK P rs Post σ H):FA P rs Post .ret σ H:=h
variable{Qe:Ex->aN->Hp->Prop}{a b c:Ze}{id:Nat}
theorem XH{l:List NI}(h:ZT P l (Qe .normal) σ H):(Ze.aI l).m P Qe σ H:=h
theorem Yb(h:a.m P (iB.then (b.m P Qe) Qe) σ H):(Ze.seq a b).m P Qe σ H:=.inl h
theorem ZtN(h:GU P a b Qe σ H):(Ze.seq a b).m P Qe σ H:=.inr (.inl h)
theorem Z4{ι:Type}(I:ι->Hp->Prop)(env:ι->List (Nat×Value))(box:ι->List (Nat×List Value))(h1:a.m P (iB.then (λσ' H'=>∃i,I i H'/\tI (env i) σ'/\tJ (box i) σ'/\σ'.cX=σ.cX) Qe) σ H)
  (h2:∀i H,I i H->b.m P Qe (V4 σ.cX (env i) (box i)) H):(Ze.seq a b).m P Qe σ H:=.inr (.inr ⟨ι,I,env,box,h1,h2⟩)
theorem XJ(h:Qe .normal σ H):Ze.skip.m P Qe σ H:=h
theorem XI(h:Qe .ret σ H):Ze.ret.m P Qe σ H:=h
theorem XG(h:Qe (.exit id) σ H):(Ze.exit id).m P Qe σ H:=h
theorem As(h:a.m P (iB.inBlock id Qe) σ H):(Ze.block id a).m P Qe σ H:=h
theorem UO{t:Bool}(e:σ.get x=some (.bool t))(h:(bif t then a else b).m P Qe σ H):(Ze.cond x a b).m P Qe σ H:=by cases t<;>(simp only[Ze.m,e];exact h)
theorem XF(e:σ.get x=some (.bool true))(h:a.m P Qe σ H):(Ze.cond x a b).m P Qe σ H:=UO e h
theorem XE(e:σ.get x=some (.bool false))(h:b.m P Qe σ H):(Ze.cond x a b).m P Qe σ H:=UO e h
theorem Bd(h:next σ H):iB.then next Qe .normal σ H:=h
theorem X4(h:Qe (.exit id) σ H):iB.then next Qe (.exit id) σ H:=h
theorem X3(h:Qe .ret σ H):iB.then next Qe .ret σ H:=h
theorem Az(h:Qe .normal σ H):iB.inBlock id Qe .normal σ H:=h
theorem Ba(h:Qe .ret σ H):iB.inBlock id Qe .ret σ H:=h
theorem Bb(h:Qe .normal σ H):iB.inBlock id Qe (.exit id) σ H:=by simp only[iB.inBlock,qAM];exact h
theorem Bc{tO:Nat}(hn:Nat.beq tO id=false)(h:Qe (.exit tO) σ H):iB.inBlock id Qe (.exit tO) σ H:=by
 have:¬ tO=id:=by rintro rfl;simp at hn
 simp only[iB.inBlock,bY this];exact h
end
structure Wr(p:Prop):Prop where
 out:p
theorem Z(x:G') (h:Wr G'->G:=by
  intro pH;repeat first
   | (with_reducible refine Am ?_)
   | ((with_reducible apply XV);exact rfl)
   | ((with_reducible apply XW);exact rfl)
   | ((with_reducible apply XR);exact rfl)
   | ((with_reducible apply XY);exact rfl;exact rfl)
   | ((with_reducible apply XX);exact rfl)
   | ((with_reducible apply XQ);exact rfl;exact rfl)
   | ((with_reducible apply Ak);exact rfl)
   | ((with_reducible apply Ao);exact rfl;exact rfl)
   | ((with_reducible apply Al);exact rfl)
   | (with_reducible refine An ?_)
   | (with_reducible refine Bd ?_)
   | (with_reducible refine Yb ?_)
   | (with_reducible refine XH ?_)
   | (with_reducible refine As ?_)
   | (with_reducible refine XJ ?_)
   | (with_reducible refine XI ?_)
   | (with_reducible refine XG ?_)
   | (with_reducible refine X4 ?_)
   | (with_reducible refine X3 ?_)
   | (with_reducible refine Az ?_)
   | (with_reducible refine Ba ?_)
   | (with_reducible refine Bb ?_)
   | ((with_reducible apply Bc);exact rfl)
   | ((with_reducible apply XF);exact rfl)
   | ((with_reducible apply XE);exact rfl)
   | (with_reducible refine Ob ?_)
   | (with_reducible refine MK ?_)
   | ((with_reducible apply S4);exact rfl;exact rfl;exact rfl)
  exact pH.out):G:=h ⟨x⟩
theorem w1T(x:G') (h:Wr G'->G:=by
  intro pH;first
   | (with_reducible refine Am ?_)
   | ((with_reducible apply XV);exact rfl)
   | ((with_reducible apply XW);exact rfl)
   | ((with_reducible apply XR);exact rfl)
   | ((with_reducible apply XY);exact rfl;exact rfl)
   | ((with_reducible apply XX);exact rfl)
   | ((with_reducible apply XQ);exact rfl;exact rfl)
   | ((with_reducible apply Ak);exact rfl)
   | ((with_reducible apply Ao);exact rfl;exact rfl)
   | ((with_reducible apply Al);exact rfl)
   | (with_reducible refine An ?_)
   | (with_reducible refine Bd ?_)
   | (with_reducible refine Yb ?_)
   | (with_reducible refine XH ?_)
   | (with_reducible refine As ?_)
   | (with_reducible refine XJ ?_)
   | (with_reducible refine XI ?_)
   | (with_reducible refine XG ?_)
   | (with_reducible refine X4 ?_)
   | (with_reducible refine X3 ?_)
   | (with_reducible refine Az ?_)
   | (with_reducible refine Ba ?_)
   | (with_reducible refine Bb ?_)
   | ((with_reducible apply Bc);exact rfl)
   | ((with_reducible apply XF);exact rfl)
   | ((with_reducible apply XE);exact rfl)
   | (with_reducible refine Ob ?_)
   | (with_reducible refine MK ?_)
   | ((with_reducible apply S4);exact rfl;exact rfl;exact rfl)
  exact pH.out):G:=h ⟨x⟩
end
section
variable{m:Int}{n off eH ln t:Nat}{p:Prop}{k k':IntKind}{cs zs vs:List Value}{ts:List Nat}{ps:List (Nat×Nat×Operand)}{ty:TypeId}{f:Option Bool}{H0:Hp}{l1 l2:List (NI×Option Bool)}{w bb:Bool}{rs:List Zf}{Post:Value->Hp->Prop}{aB bd:Ze}{fv:Value}{N:Hp->Prop}
class Loud (P:bF):Prop where
 aL:∀g,P.still g=false
theorem OL{P:bF}[Loud P]:∀g,P.still g=false:=Loud.aL
section
variable{P:bF}{d:Option Nat}{r:List NI}{op:bC}{Q:aN->Hp->Prop}{next:aN->Hp->Prop}{σ:aN}{H:Hp}{x y z:Operand}{v:Value}
theorem Zi1{n:Int}(e1:σ.get x=some (.int .i64 m))(e2:σ.get y=some (.int .i64 n))(hr:wC (m+n))(h:next (σ.set d (.int .i64 (m+n))) H):(bC.bQ .add x y).m P d next σ H:=Yd e1 e2 rfl ⟨hr,h⟩
theorem ZiA{n:Int}(e1:σ.get x=some (.int .i64 m))(e2:σ.get y=some (.int .i64 n))(hr:wC (m-n))(h:next (σ.set d (.int .i64 (m-n))) H):(bC.bQ .sub x y).m P d next σ H:=Yd e1 e2 rfl ⟨hr,h⟩
theorem V8{n:Int}(e1:σ.get x=some (.int .i64 m))(e2:σ.get y=some (.int .i64 n))(hr:wC (m * n))(h:next (σ.set d (.int .i64 (m * n))) H):(bC.bQ .mul x y).m P d next σ H:=Yd e1 e2 rfl ⟨hr,h⟩
theorem RP{b:Bool}[Decidable p](h:b=true↔p):b=decide p:=by
 by_cases hp:p
 ·simp[hp,h]
 have:b≠true:=λe=>hp (h.1 e);simp[hp,this]
theorem ZiM{n:Int}(e1:σ.get x=some (.int k m))(e2:σ.get y=some (.int k' n))(hk:YV k k'=true)(h:next (σ.set d (.bool (decide (m<n)))) H):(bC.bQ .lss x y).m P d next σ H:=Yd e1 e2 hk λb hb=>by rw[RP hb];exact h
theorem ZiQ{n:Int}(e1:σ.get x=some (.int k m))(e2:σ.get y=some (.int k' n))(hk:YV k k'=true)(h:next (σ.set d (.bool (decide (m<=n)))) H):(bC.bQ .leq x y).m P d next σ H:=Yd e1 e2 hk λb hb=>by rw[RP hb];exact h
theorem ZiT{n:Int}(e1:σ.get x=some (.int k m))(e2:σ.get y=some (.int k' n))(hk:YV k k'=true)(h:next (σ.set d (.bool (decide (n<m)))) H):(bC.bQ .gtr x y).m P d next σ H:=Yd e1 e2 hk λb hb=>by rw[RP (p:=n<m) hb];exact h
theorem ZiU{n:Int}(e1:σ.get x=some (.int k m))(e2:σ.get y=some (.int k' n))(hk:YV k k'=true)(h:next (σ.set d (.bool (decide (n<=m)))) H):(bC.bQ .geq x y).m P d next σ H:=Yd e1 e2 hk λb hb=>by rw[RP (p:=n<=m) hb];exact h
theorem ZiX{n:Int}(e1:σ.get x=some (.int k m))(e2:σ.get y=some (.int k' n))(hk:YV k k'=true)(h:next (σ.set d (.bool (decide (m=n)))) H):(bC.bQ .eql x y).m P d next σ H:=Yd e1 e2 hk λb hb=>by rw[RP hb];exact h
theorem ZiF{n:Int}(e1:σ.get x=some (.int k m))(e2:σ.get y=some (.int k' n))(hk:YV k k'=true)(h:next (σ.set d (.bool !(decide (m=n)))) H):(bC.bQ .neq x y).m P d next σ H:=Yd e1 e2 hk λb hb=>by
 have:b=!(decide (m=n)):=by
  by_cases hp:m=n
  ·have:b≠true:=λe=>(hb.1 e) hp;simp[hp,this]
  simp[hp,hb]
 rw[this];exact h
theorem ZiW{cs:Array Value}(e:σ.get x=some (.agg cs))(e2:cs[off]? = some v)(h:next (σ.set d v) H):(bC.mG off none x).m P d next σ H:=by simp only[bC.m,e,e2];exact h
theorem ZiV{cs:Array Value}(e:σ.get x=some (.agg cs))(h:next (σ.set d (.agg ((cs.toList.drop off).take n).toArray)) H):(bC.mG off (some n) x).m P d next σ H:=by simp only[bC.m,e];exact h
theorem Nr{a:Option Addr}{c:Nat}(e:σ.get x=some (.slice a n c))(h:next (σ.set d (.int .i64 (n:Int))) H):(bC.len x).m P d next σ H:=by simp only[bC.m,e];exact h
theorem Ztf{a:Addr}{c:Nat}{n:Int}(e1:σ.get x=some (.slice (some a) ln c))(e2:σ.get y=some (.int k n))(hn:0<=n/\n<(ln:Nat))(h:next (σ.set d (.pointer (some (a.add (n.toNat * eH))))) H):(bC.cJ eH x y).m P d next σ H:=by simp only[bC.m,e1,e2];exact⟨a,rfl,hn,h⟩
theorem OF{a:Addr}{c:Nat}(e1:σ.get x=some (.slice (some a) ln c))(e2:σ.get y=some (.int k (n:Int)))(hn:n<ln)(h:next (σ.set d (.pointer (some (a.add (n * eH))))) H):(bC.cJ eH x y).m P d next σ H:=
 Ztf e1 e2 ⟨O,O⟩ h
theorem Zg{a:Addr}(bB:P.still H.gh=false)(e:σ.get x=some (.pointer (some a)))(hc:aD H a [v])(h:next (σ.set d v) H):(bC.ld none x).m P d next σ H:=by simp only[bC.m,e];exact⟨bB,v,hc,h⟩
theorem Zl{a:Addr}(bB:P.still H.gh=false)(e:σ.get x=some (.pointer (some a)))(hc:aD H a cs)(hl:cs.length=n)(h:next (σ.set d (.agg cs.toArray)) H):(bC.ld (some n) x).m P d next σ H:=by simp only[bC.m,e];exact⟨bB,cs,hl,hc,h⟩
theorem ZiJ{b:Nat}(bB:P.still H.gh=false)(h:next (((σ.drop ts).set (some b) (.int .i64 (Int.ofNat 0))).dD b zs) H):(bC.bE b ts zs).m P d next σ H:=⟨bB,h⟩
theorem ZiR{b:Nat}(bB:P.still H.gh=false)(e:σ.get x=some v)(h:next (((σ.drop ts).set (some b) (.int .i64 (Int.ofNat 0))).dD b v.cells.toList) H):(bC.cB b ts x).m P d next σ H:=by simp only[bC.m,e];refine⟨bB,?_⟩;cases v<;>exact h
theorem ZiP(e:σ.env t=some (.int .i64 (.ofNat n)))(h:next (σ.set d (.int .i64 (Int.ofNat (n+off)))) H):(bC.dE off t).m P d next σ H:=by simp only[bC.m,e];exact h
theorem ZiO{j:Int}(e:σ.env t=some (.int .i64 (.ofNat n)))(e2:σ.get x=some (.int k j))(hj:0<=j/\j<(ln:Nat))(h:next (σ.set d (.int .i64 (Int.ofNat (n+j.toNat * eH)))) H):(bC.fR eH ln t x).m P d next σ H:=by simp only[bC.m,e,e2];exact⟨hj,h⟩
theorem KB{j:Nat}(e:σ.env t=some (.int .i64 (.ofNat n)))(e2:σ.get x=some (.int k (j:Int)))(hj:j<ln)(h:next (σ.set d (.int .i64 (Int.ofNat (n+j * eH)))) H):(bC.fR eH ln t x).m P d next σ H:=
 ZiO e e2 ⟨O,O⟩ h
theorem LP{b:Nat}(bB:P.still H.gh=false)(e:σ.env t=some (.int .i64 (.ofNat off)))(e2:σ.box b=some cs)(e3:cs[off]? = some v)(h:next (σ.set d v) H):(bC.jM b none t).m P d next σ H:=by simp only[bC.m,e,e2];exact⟨bB,v,e3,h⟩
theorem ZiN{b:Nat}(bB:P.still H.gh=false)(e:σ.env t=some (.int .i64 (.ofNat off)))(e2:σ.box b=some cs)(e3:Nat.ble (off+n) cs.length=true)(h:next (σ.set d (.agg ((cs.drop off).take n).toArray)) H):(bC.jM b (some n) t).m P d next σ H:=by simp only[bC.m,e,e2,e3];exact⟨bB,h⟩
theorem LQ{b:Nat}(bB:P.still H.gh=false)(e:σ.env t=some (.int .i64 (.ofNat off)))(e2:σ.box b=some cs)(e3:σ.get x=some v)(h1:v.cells.size=n)(h2:off+n<=cs.length)(h3:(v.cells.toList.all Value.dZ)=true)
  (h:next (σ.dD b (ZH cs off v.cells.toList)) H):(bC.sL b n t x).m P d next σ H:=by
 simp only[bC.m,e,e2,e3];exact⟨bB,⟨h1,h2,h3⟩,h⟩
theorem ZiL{b:Nat}(bB:P.still H.gh=false)(e:σ.env t=some (.int .i64 (.ofNat 0)))(e2:σ.box b=some cs)(e3:σ.get x=some v)(h1:v.cells.size=n)(h2:cs.length=n)(h3:(v.cells.toList.all Value.dZ)=true)
  (h:next (σ.dD b v.cells.toList) H):(bC.sL b n t x).m P d next σ H:=by
 refine LQ bB e e2 e3 h1 O h3 ?_;have:ZH cs 0 v.cells.toList=v.cells.toList:=by unfold ZH;rw[qCM,qAx,qBr (by simp;omega),qAj]
 rw[this];exact h
theorem ZiK{b:Nat}(bB:P.still H.gh=false)(e:σ.env t=some (.int .i64 (.ofNat off)))(e2:σ.box b=some cs)(e3:σ.get x=some v)(h1:v.cells.size=n)(h2:Nat.ble (off+n) cs.length=true)(h3:(v.cells.toList.all Value.dZ)=true)
  (h:next (σ.dD b (ZH cs off v.cells.toList)) H):(bC.sL b n t x).m P d next σ H:=LQ bB e e2 e3 h1 (qBE h2) h3 h
theorem Zi0(e:dU σ ps zs=some cs)(h:next (σ.set d (.agg cs.toArray)) H):(bC.build zs ps).m P d next σ H:=by simp only[bC.m,e];exact h
theorem Z0(bB:P.still H.gh=false)(e:dU σ ps zs=some cs)(h:∀r,H r=none->next (σ.set d (.slice (some ⟨r,0,none⟩) ln ln)) (H.ins r (.cells cs.toArray ty))):(bC.bL ty ln zs ps).m P d next σ H:=by simp only[bC.m,e];exact⟨bB,h⟩
theorem Y5{o:Op}(ha:(o.operands.all λx=>(σ.get x).isSome)=true)(e:oL P (execOp (λx=>(σ.get x).getD undef) (aP o ty)) v)(h:next (σ.set d v) H):(bC.dA o ty).m P d next σ H:=⟨ha,v,e,h⟩
variable{l:List (NI×Option Bool)}
theorem Zmq(h:Q σ H):ZV P [] Q σ H:=h
theorem Zmr(bB:P.still H.gh=false)(h:op.m P d (lW P.toPQ H f (ZV P l Q)) σ H):ZV P ((⟨none,d,op⟩,f) :: l) Q σ H:=⟨bB,h⟩
theorem Zms{b:Bool}(bB:P.still H.gh=false)(e:σ.env t=some (.bool b))(h:op.m P d (lW P.toPQ H f (ZV P l Q)) σ H):ZV P ((⟨some (t,b),d,op⟩,f) :: l) Q σ H:=by cases b<;>(simp only[ZV,e];exact⟨bB,h⟩)
theorem Zmp{b b':Bool}(bB:P.still H.gh=false)(e:σ.env t=some (.bool b'))(hb:b'=!b)(h:ZV P l Q (σ.gA d) H):ZV P ((⟨some (t,b),d,op⟩,f) :: l) Q σ H:=by subst hb;cases b<;>(simp only[ZV,e,qCU,qCu];exact⟨bB,h⟩)
theorem Zl2{K:aN->Hp->Prop}(h:K σ H):lW P.toPQ H0 none K σ H:=h
theorem Zl1{K:aN->Hp->Prop}(h:K σ H):lW P.toPQ H (some false) K σ H:=⟨rfl,h⟩
theorem Zq{K:aN->Hp->Prop}(hl:∀g,P.still g=false)(h:K σ H):lW P.toPQ H0 (some false) K σ H:=⟨by rw[hl,hl],h⟩
theorem Zul{K:aN->Hp->Prop}(hl:∀g,P.still g=false)(hi:∀b x,H0 b=some x->H b=some x)(h:K σ H):lW P.toPQ H0 (some true) K σ H:=⟨⟨by rw[hl,hl],hi⟩,h⟩
theorem Ac{K:aN->Hp->Prop}(hs:H0.Sub H)(h:K σ H):lW P.toPQ H0 (some true) K σ H:=⟨⟨by rw[hs.gh],hs.mem⟩,h⟩
theorem Zl0{K:aN->Hp->Prop}(h:K σ H):lW P.toPQ H (some true) K σ H:=⟨⟨rfl,λ_ _ h=>h⟩,h⟩
theorem Zjj{Qe:Ex->aN->Hp->Prop}(bB:P.still H.gh=false)(h:ZV P l (Qe .normal) σ H):(Ze.drawn l).m P Qe σ H:=⟨bB,h⟩
theorem ZtF{Qe:Ex->aN->Hp->Prop}(bB:P.still H.gh=false)(h1:ZV P l1 (Qe .normal) σ H)(h2:ZV P l2 (Qe .normal) σ H):(Ze.KJ l1 l2).m P Qe σ H:=⟨bB,h1,h2⟩
theorem Zji{Qe:Ex->aN->Hp->Prop}{l3 l4:List (NI×Option Bool)}(bB:P.still H.gh=false)(h1:ZV P l1 (Qe .normal) σ H)(h2:ZV P l2 (Qe .normal) σ H)(h3:ZV P l3 (Qe .normal) σ H)(h4:ZV P l4 (Qe .normal) σ H):(Ze.jX [l1,l2,l3,l4]).m P Qe σ H:=
 ⟨bB,λl hl=>by simp only[qAp,qBf,qCl]at hl;rcases hl with rfl | rfl | rfl | rfl<;>assumption⟩
variable{Qe:Ex->aN->Hp->Prop}{a b c:Ze}
theorem ZtM[Decidable p](e:σ.get x=some (.bool (decide p)))(h1:p->a.m P Qe σ H)(h2:¬ p->b.m P Qe σ H):(Ze.cond x a b).m P Qe σ H:=by
 by_cases hp:p
 ·exact UO (t:=true) (by rw[e];simp[hp]) (h1 hp)
 exact UO (t:=false) (by rw[e];simp[hp]) (h2 hp)
theorem ZtK[Decidable p](e:σ.get x=some (.bool !(decide p)))(h1:¬ p->a.m P Qe σ H)(h2:p->b.m P Qe σ H):(Ze.cond x a b).m P Qe σ H:=by
 by_cases hp:p
 ·exact UO (t:=false) (by rw[e];simp[hp]) (h2 hp)
 exact UO (t:=true) (by rw[e];simp[hp]) (h1 hp)
theorem ZtL{t:Bool}(e:σ.get x=some (.bool t))(h1:t=true->a.m P Qe σ H)(h2:t=false->b.m P Qe σ H):(Ze.cond x a b).m P Qe σ H:=by
 cases t
 ·exact UO e (h2 rfl)
 exact UO e (h1 rfl)
theorem ZtJ{t:Bool}(e:σ.get x=some (.bool !t))(h1:t=false->a.m P Qe σ H)(h2:t=true->b.m P Qe σ H):(Ze.cond x a b).m P Qe σ H:=by
 cases t
 ·exact UO e (h1 rfl)
 exact UO e (h2 rfl)
theorem aN.r9(e:σ.env t=some v):σ.set (some t) v=σ:=by
 refine aN.ext' (λs=>?_) (λ_=>rfl) rfl;simp only[aN.set];cases hb:Nat.beq s t with
 | false=>rfl
 | true=>rw[qAQ hb,e];rfl
theorem Aj(e:σ.env t=some (.bool bb))(h1:bb=true->ZT P (⟨some (t,w),d,op⟩ :: r) Q (σ.set (some t) (.bool true)) H)(h2:bb=false->ZT P (⟨some (t,w),d,op⟩ :: r) Q (σ.set (some t) (.bool false)) H):ZT P (⟨some (t,w),d,op⟩ :: r) Q σ H:=by
 have:=aN.r9 e;cases bb
 ·rw[<-this];exact h2 rfl
 rw[<-this];exact h1 rfl
theorem ZtT[Decidable p](e:σ.env t=some (.bool (decide p)))(h1:p->ZT P (⟨some (t,w),d,op⟩ :: r) Q (σ.set (some t) (.bool true)) H)(h2:¬ p->ZT P (⟨some (t,w),d,op⟩ :: r) Q (σ.set (some t) (.bool false)) H):ZT P (⟨some (t,w),d,op⟩ :: r) Q σ H:=
 Aj e (λh=>h1 (of_decide_eq_true h)) (λh=>h2 (of_decide_eq_false h))
theorem ZtS[Decidable p](e:σ.env t=some (.bool !(decide p)))(h1:¬ p->ZT P (⟨some (t,w),d,op⟩ :: r) Q (σ.set (some t) (.bool true)) H)(h2:p->ZT P (⟨some (t,w),d,op⟩ :: r) Q (σ.set (some t) (.bool false)) H):ZT P (⟨some (t,w),d,op⟩ :: r) Q σ H:=
 Aj e (λh=>h1 (by simpa using h)) (λh=>h2 (by simpa using h))
theorem ZtR(e:σ.env t=some (.bool !bb))(h1:bb=false->ZT P (⟨some (t,w),d,op⟩ :: r) Q (σ.set (some t) (.bool true)) H)(h2:bb=true->ZT P (⟨some (t,w),d,op⟩ :: r) Q (σ.set (some t) (.bool false)) H):ZT P (⟨some (t,w),d,op⟩ :: r) Q σ H:=
 Aj e (λh=>h1 (by simpa using h)) (λh=>h2 (by simpa using h))
theorem Zmt(e:σ.env t=some (.bool bb))(h1:bb=true->ZV P ((⟨some (t,w),d,op⟩,f) :: l) Q (σ.set (some t) (.bool true)) H)(h2:bb=false->ZV P ((⟨some (t,w),d,op⟩,f) :: l) Q (σ.set (some t) (.bool false)) H):ZV P ((⟨some (t,w),d,op⟩,f) :: l) Q σ H:=by
 have:=aN.r9 e;cases bb
 ·rw[<-this];exact h2 rfl
 rw[<-this];exact h1 rfl
theorem ZuZ[Decidable p](e:σ.env t=some (.bool (decide p)))(h1:p->ZV P ((⟨some (t,w),d,op⟩,f) :: l) Q (σ.set (some t) (.bool true)) H)(h2:¬ p->ZV P ((⟨some (t,w),d,op⟩,f) :: l) Q (σ.set (some t) (.bool false)) H):ZV P ((⟨some (t,w),d,op⟩,f) :: l) Q σ H:=
 Zmt e (λh=>h1 (of_decide_eq_true h)) (λh=>h2 (of_decide_eq_false h))
theorem ZlF(hd:σ.cX=[])(hc:rs.any Zf.cell=true)(bB:P.still H.gh=false)(hv:U6 σ rs=some vs)(h:Post (YR vs) H):VK P rs Post σ H:=by unfold VK KF;rw[hd];exact⟨λ_=>bB,vs,Bi hv,h⟩
theorem ZlE(hd:σ.cX=[])(bB:P.still H.gh=false)(hv:iW σ H rs vs)(h:Post (YR vs) H):VK P rs Post σ H:=by unfold VK KF;rw[hd];exact⟨λ_=>bB,vs,hv,h⟩
end
section
variable{P:bF}{σ:aN}{H:Hp}{Qe:Ex->aN->Hp->Prop}{b:Ze}
theorem Zjh{x:Operand}{ps:List Nat}{xs:List (List Value)}(hs:∀g,P.still g=false)(e:σ.get x=some fv)(x8:KY P fv N xs)(hl:∀x∈xs,x.length=ps.length)(I:Nat->Hp->Prop)(S:Ex->Hp->Prop)(h0:I 0 H)(hI:∀n,Up (I n))(hS:∀e,Up (S e))(hN:∀n H,I n H->N H)
  (hr:∀n (hn:n<xs.length) H,I n H->aB.m P (iB.then (bd.m P (Bk (I (n+1)) S)) XK) (σ.aP.round ps xs[n]) H) (hd:∀H,I xs.length H->Qe .normal σ H) (hx:∀e H,e≠.normal->S e H->Qe e σ H):(Ze.qQ x ps aB bd).m P Qe σ H:=by
 simp only[Ze.m,e];refine⟨hs,N,xs.length,ZnC xs,x8.toE,λn vs Hv h=>?_,I,S,h0,hI,hS,hN,λn hn vs Hv H h h2 h3 hi=>?_,hd,hx⟩
 ·obtain⟨_,h1,rfl⟩:=h;exact hl _ (IN h1)
 obtain⟨rfl,h1,rfl⟩:=h;rw[Hp.dT];exact hr n hn H hi
theorem ZtI{x:Operand}{ps:List Nat}{len:Nat}{E:Nat->List Value->Hp->Prop}(hs:∀g,P.still g=false)(e:σ.get x=some fv)(x8:K5 P fv N len E)(hl:∀n vs Hv,E n vs Hv->vs.length=ps.length)(I:Nat->Hp->Prop)(S:Ex->Hp->Prop)(h0:I 0 H)(hI:∀n,Up (I n))(hS:∀e,Up (S e))(hN:∀n H,I n H->N H)
  (hr:∀n,n<len->∀vs Hv H,E n vs Hv->Hv.gh=[]->H.Comp Hv->I n H->aB.m P (iB.then (bd.m P (Bk (I (n+1)) S)) XK) (σ.aP.round ps vs) (H.join Hv)) (hd:∀H,I len H->Qe .normal σ H) (hx:∀e H,e≠.normal->S e H->Qe e σ H):(Ze.qQ x ps aB bd).m P Qe σ H:=by
 simp only[Ze.m,e];exact⟨hs,N,len,E,x8,hl,I,S,h0,hI,hS,hN,hr,hd,hx⟩
theorem Zw(n:Nat)(I:Nat->Hp->Prop)(env:Nat->List (Nat×Value))(box:Nat->List (Nat×List Value))(h0:I 0 H)(he:tI (env 0) σ)(hb:tJ (box 0) σ)
  (hr:∀j H,j<=n->I j H->b.m P (iB.then (λσ' H'=>∃j':{ j:Nat // j<=n },n-j'.1<n-j/\I j'.1 H'/\tI (env j'.1) σ'/\tJ (box j'.1) σ'/\σ'.cX=σ.cX) Qe) (V4 σ.cX (env j) (box j)) H):(Ze.loop b).m P Qe σ H:=
 ⟨{ j:Nat // j<=n },λj=>I j.1,λj=>n-j.1,λj=>env j.1,λj=>box j.1,⟨0,qAR _⟩,h0,⟨he,hb⟩,λj H hI=>hr j.1 H j.2 hI⟩
theorem ZQ{α:Type}(n:Nat)(I:Nat->α->Hp->Prop)(env:Nat->α->List (Nat×Value))(box:Nat->α->List (Nat×List Value))(a0:α)(h0:I 0 a0 H)(he:tI (env 0 a0) σ)(hb:tJ (box 0 a0) σ)
  (hr:∀j a H,j<=n->I j a H->b.m P (iB.then (λσ' H'=>∃j':{ j:Nat // j<=n }×α,n-j'.1.1<n-j/\I j'.1.1 j'.2 H'/\tI (env j'.1.1 j'.2) σ'/\tJ (box j'.1.1 j'.2) σ'/\σ'.cX=σ.cX) Qe) (V4 σ.cX (env j a) (box j a)) H):(Ze.loop b).m P Qe σ H:=
 ⟨{ j:Nat // j<=n }×α,λj=>I j.1.1 j.2,λj=>n-j.1.1,λj=>env j.1.1 j.2,λj=>box j.1.1 j.2,⟨⟨0,qAR _⟩,a0⟩,h0,⟨he,hb⟩,λj H hI=>hr j.1.1 j.2 H j.1.2 hI⟩
end
end
variable{G G':Prop}
theorem Y(x:G') (h:Wr G'->G:=by
  intro pH;repeat first
   | (with_reducible refine Am ?_)
   | ((with_reducible apply XV);exact rfl)
   | ((with_reducible apply ZiP);exact rfl)
   | ((with_reducible apply LP);(first | exact rfl | assumption | exact Loud.aL _);exact rfl;exact rfl;exact rfl)
   | ((with_reducible apply ZiN);(first | exact rfl | assumption | exact Loud.aL _);exact rfl;exact rfl;exact rfl)
   | ((with_reducible apply ZiM);exact rfl;exact rfl;exact rfl)
   | ((with_reducible apply ZiQ);exact rfl;exact rfl;exact rfl)
   | ((with_reducible apply ZiT);exact rfl;exact rfl;exact rfl)
   | ((with_reducible apply ZiU);exact rfl;exact rfl;exact rfl)
   | ((with_reducible apply ZiX);exact rfl;exact rfl;exact rfl)
   | ((with_reducible apply ZiF);exact rfl;exact rfl;exact rfl)
   | ((with_reducible apply Zi1);exact rfl;exact rfl;(refine⟨?_,?_⟩<;>omega))
   | ((with_reducible apply ZiA);exact rfl;exact rfl;(refine⟨?_,?_⟩<;>omega))
   | ((with_reducible apply Nr);exact rfl)
   | ((with_reducible apply XW);exact rfl)
   | ((with_reducible apply XR);exact rfl)
   | ((with_reducible apply XY);exact rfl;exact rfl)
   | ((with_reducible apply XX);exact rfl)
   | ((with_reducible apply XQ);exact rfl;exact rfl)
   | ((with_reducible apply ZiW);exact rfl;exact rfl)
   | ((with_reducible apply ZiV);exact rfl)
   | ((with_reducible apply ZiJ);(first | exact rfl | assumption | exact Loud.aL _))
   | ((with_reducible apply ZiR);(first | exact rfl | assumption | exact Loud.aL _);exact rfl)
   | ((with_reducible apply ZiL);(first | exact rfl | assumption | exact Loud.aL _);exact rfl;exact rfl;exact rfl;exact rfl;exact rfl;exact rfl)
   | ((with_reducible apply ZiK);(first | exact rfl | assumption | exact Loud.aL _);exact rfl;exact rfl;exact rfl;exact rfl;exact rfl;exact rfl)
   | ((with_reducible apply Zi0);exact rfl)
   | ((with_reducible apply Ak);exact rfl)
   | ((with_reducible apply Ao);exact rfl;exact rfl)
   | ((with_reducible apply Al);exact rfl)
   | (with_reducible refine An ?_)
   | (with_reducible refine Bd ?_)
   | (with_reducible refine Yb ?_)
   | (with_reducible refine XH ?_)
   | (with_reducible refine As ?_)
   | (with_reducible refine XJ ?_)
   | (with_reducible refine XI ?_)
   | (with_reducible refine XG ?_)
   | (with_reducible refine X4 ?_)
   | (with_reducible refine X3 ?_)
   | (with_reducible refine Az ?_)
   | (with_reducible refine Ba ?_)
   | (with_reducible refine Bb ?_)
   | ((with_reducible apply Bc);exact rfl)
   | ((with_reducible apply XF);exact rfl)
   | ((with_reducible apply XE);exact rfl)
   | ((with_reducible apply Zjj);(first | exact rfl | assumption | exact Loud.aL _))
   | ((with_reducible apply Zmr);(first | exact rfl | assumption | exact Loud.aL _))
   | ((with_reducible apply Zms);(first | exact rfl | assumption | exact Loud.aL _);exact rfl)
   | ((with_reducible apply Zmp);(first | exact rfl | assumption | exact Loud.aL _);exact rfl;exact rfl)
   | ((with_reducible apply Ju);(first | exact rfl | assumption | exact Loud.aL _);exact rfl)
   | (with_reducible refine Zmq ?_)
   | (with_reducible refine Zl2 ?_)
   | (with_reducible refine Zl1 ?_)
   | (with_reducible refine Zl0 ?_)
   | (with_reducible refine Ob ?_)
   | (with_reducible refine MK ?_)
   | ((with_reducible apply S4);exact rfl;exact rfl;exact rfl)
   | ((with_reducible apply ZlF);exact rfl;exact rfl;(first | exact rfl | assumption | exact Loud.aL _);exact rfl)
  exact pH.out):G:=h ⟨x⟩
theorem ZgF(x:G') (h:Wr G'->G:=by
  intro pH;first
   | (with_reducible refine Am ?_)
   | ((with_reducible apply XV);exact rfl)
   | ((with_reducible apply ZiP);exact rfl)
   | ((with_reducible apply LP);(first | exact rfl | assumption | exact Loud.aL _);exact rfl;exact rfl;exact rfl)
   | ((with_reducible apply ZiN);(first | exact rfl | assumption | exact Loud.aL _);exact rfl;exact rfl;exact rfl)
   | ((with_reducible apply ZiM);exact rfl;exact rfl;exact rfl)
   | ((with_reducible apply ZiQ);exact rfl;exact rfl;exact rfl)
   | ((with_reducible apply ZiT);exact rfl;exact rfl;exact rfl)
   | ((with_reducible apply ZiU);exact rfl;exact rfl;exact rfl)
   | ((with_reducible apply ZiX);exact rfl;exact rfl;exact rfl)
   | ((with_reducible apply ZiF);exact rfl;exact rfl;exact rfl)
   | ((with_reducible apply Zi1);exact rfl;exact rfl;(refine⟨?_,?_⟩<;>omega))
   | ((with_reducible apply ZiA);exact rfl;exact rfl;(refine⟨?_,?_⟩<;>omega))
   | ((with_reducible apply Nr);exact rfl)
   | ((with_reducible apply XW);exact rfl)
   | ((with_reducible apply XR);exact rfl)
   | ((with_reducible apply XY);exact rfl;exact rfl)
   | ((with_reducible apply XX);exact rfl)
   | ((with_reducible apply XQ);exact rfl;exact rfl)
   | ((with_reducible apply ZiW);exact rfl;exact rfl)
   | ((with_reducible apply ZiV);exact rfl)
   | ((with_reducible apply ZiJ);(first | exact rfl | assumption | exact Loud.aL _))
   | ((with_reducible apply ZiR);(first | exact rfl | assumption | exact Loud.aL _);exact rfl)
   | ((with_reducible apply ZiL);(first | exact rfl | assumption | exact Loud.aL _);exact rfl;exact rfl;exact rfl;exact rfl;exact rfl;exact rfl)
   | ((with_reducible apply ZiK);(first | exact rfl | assumption | exact Loud.aL _);exact rfl;exact rfl;exact rfl;exact rfl;exact rfl;exact rfl)
   | ((with_reducible apply Zi0);exact rfl)
   | ((with_reducible apply Ak);exact rfl)
   | ((with_reducible apply Ao);exact rfl;exact rfl)
   | ((with_reducible apply Al);exact rfl)
   | (with_reducible refine An ?_)
   | (with_reducible refine Bd ?_)
   | (with_reducible refine Yb ?_)
   | (with_reducible refine XH ?_)
   | (with_reducible refine As ?_)
   | (with_reducible refine XJ ?_)
   | (with_reducible refine XI ?_)
   | (with_reducible refine XG ?_)
   | (with_reducible refine X4 ?_)
   | (with_reducible refine X3 ?_)
   | (with_reducible refine Az ?_)
   | (with_reducible refine Ba ?_)
   | (with_reducible refine Bb ?_)
   | ((with_reducible apply Bc);exact rfl)
   | ((with_reducible apply XF);exact rfl)
   | ((with_reducible apply XE);exact rfl)
   | ((with_reducible apply Zjj);(first | exact rfl | assumption | exact Loud.aL _))
   | ((with_reducible apply Zmr);(first | exact rfl | assumption | exact Loud.aL _))
   | ((with_reducible apply Zms);(first | exact rfl | assumption | exact Loud.aL _);exact rfl)
   | ((with_reducible apply Zmp);(first | exact rfl | assumption | exact Loud.aL _);exact rfl;exact rfl)
   | ((with_reducible apply Ju);(first | exact rfl | assumption | exact Loud.aL _);exact rfl)
   | (with_reducible refine Zmq ?_)
   | (with_reducible refine Zl2 ?_)
   | (with_reducible refine Zl1 ?_)
   | (with_reducible refine Zl0 ?_)
   | (with_reducible refine Ob ?_)
   | (with_reducible refine MK ?_)
   | ((with_reducible apply S4);exact rfl;exact rfl;exact rfl)
   | ((with_reducible apply ZlF);exact rfl;exact rfl;(first | exact rfl | assumption | exact Loud.aL _);exact rfl)
  exact pH.out):G:=h ⟨x⟩
theorem OQ(x:G') (h:Wr G'->G:=by
  intro pH;repeat ((fail_if_success (with_reducible refine Yb ?_));refine ZgF ?_)
  exact pH.out):G:=h ⟨x⟩
theorem OI{A B c d:Prop}(x:c->A)(y:d->B) (h:Wr (c->A)->Wr (d->B)->G:=by
  intro pH CO;first
   | exact ZtM rfl pH.out CO.out
   | exact ZtK rfl pH.out CO.out
   | exact ZtJ rfl pH.out CO.out
   | exact ZtL rfl pH.out CO.out
   | exact ZtT rfl pH.out CO.out
   | exact ZtS rfl pH.out CO.out
   | exact ZtR rfl pH.out CO.out
   | exact Aj rfl pH.out CO.out
   | exact ZuZ rfl pH.out CO.out
   | exact Zmt rfl pH.out CO.out):G:=h ⟨x⟩ ⟨y⟩
