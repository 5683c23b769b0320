import Derived.Test.YtmfealhfgccmfaaGreatDoorP05
set_option linter.all false
def TE{G:Prop}(h:G:=by
  have:ZR cs 0 v.cells.toList=v.cells.toList:=by unfold ZR;rw[List.take_zero,qAt,qBZ (by simp;omega),qAl]
  rw[this];exact h):G:=h
def DZ{G:Prop}(h:G:=by
  have:b=false:=by cases b<;>simp_all<;>omega
  rw[this];exact h):G:=h
def DX{G:Prop}(h:G:=by
  have:b=true:=by cases b<;>simp_all<;>omega
  rw[this];exact h):G:=h
namespace Go.LL
section
variable{t:Nat}{o:BinOp}{k k':IntKind}{m n:Int}{vs:List Value}{f:FuncId}{xs:List Operand}{Post:Value->Hp->Prop}{ty t2:TypeId}{rs:List Ze}
section
variable{P:fP}{d:Option Nat}{r:List NI}{op:fR}{Q:fG->Hp->Prop}{next:fG->Hp->Prop}{σ:fG}{H:Hp}{x y z:Operand}{v:Value}
def Zlf(h:Q σ H):ZW P [] Q σ H:=h
def Zlg(h:op.m P d (ZW P r Q) σ H):ZW P (⟨none,d,op⟩ :: r) Q σ H:=h
def Zli{b:Bool}(e:σ.env t=some (.bool b))(h:op.m P d (ZW P r Q) σ H):ZW P (⟨some (t,b),d,op⟩ :: r) Q σ H:=by cases b<;>(simp only[ZW,e];exact h)
def Zle{b g:Bool}(e:σ.env t=some (.bool g))(hb:g=!b)(h:ZW P r Q (σ.jP d) H):ZW P (⟨some (t,b),d,op⟩ :: r) Q σ H:=by subst hb;cases b<;>(simp only[ZW,e,qDN,qCK];exact h)
def Zlh{b:Bool}(e:σ.env t=some undef)(h:ZW P r Q (σ.jP d) H):ZW P (⟨some (t,b),d,op⟩ :: r) Q σ H:=by cases b<;>(simp only[ZW,e,undef];exact h)
def Zih(e:σ.get x=some v)(h:next (σ.set d v) H):(fR.lS x).m P d next σ H:=by simp only[fR.m,e];exact h
def Zic{b:Bool}(e:σ.get x=some (.bool b))(g:σ.get (bif b then y else z)=some v)(h:next (σ.set d v) H):(fR.pick x y z).m P d next σ H:=by cases b<;>(simp only[cond_true,cond_false]at g;simp only[fR.m,e,g];exact h)
def Zie{b:Bool}(e:σ.get x=some (.bool b))(h:next (σ.set d (.bool !b)) H):(fR.not x).m P d next σ H:=by cases b<;>(simp only[fR.m,e];exact h)
def Ya(e:σ.get x=some (.int k m))(g:σ.get y=some (.int k' n))(i:Y5 k k'=true)(h:Mn o k m n λv=>next (σ.set d v) H):(fR.fV o x y).m P d next σ H:=by simp only[fR.m,e,g,i];exact h
def Zim{a:Addr}{off:Nat}(e:σ.get x=some (.pointer (some a)))(h:next (σ.set d (.pointer (some (a.add off)))) H):(fR.fE off x).m P d next σ H:=by simp only[fR.m,e];exact h
def Zin{vs:Array Value}{i:Nat}(e:σ.get x=some (.tuple vs))(g:vs[i]? = some v)(h:next (σ.set d v) H):(fR.ext x i).m P d next σ H:=by simp only[fR.m,e,g];exact h
def ZtC(e:σ.gets xs=some vs)(h:Zb P f vs.toArray H λv g=>next (σ.set d v) g):(fR.call f xs).m P d next σ H:=by simp only[fR.m,e];exact h
def Z7(e:σ.gets xs=some vs)(i:Zb P f vs.toArray H Post)(h:∀v g,Post v g->next (σ.set d v) g):(fR.call f xs).m P d next σ H:=ZtC e (Zb.mono i h)
def Zfb{o:Op}(g:(o.operands.all λx=>(σ.get x).isSome)=true)(e:execOp (λx=>(σ.get x).getD undef) (fL o ty)=pure (.value v))(h:next (σ.set d v) H):(fR.raw o ty).m P d next σ H:=by refine⟨g,.inl ?_⟩;rw[e];exact .inr h
def Zif{a:Addr}(e:σ.get x=some (.pointer (some a)))(h:next (σ.set d (.pointer (some a))) H):(fR.raw (.nilCheck x) ty).m P d next σ H:=by refine Zfb (by simp[Op.operands,e]) ?_ h;simp[execOp,fL,e]
def ZH(o:BinOp)(k:IntKind)(m n:Int):Value:=
 match o with
 | .and=>.int k (k.wrap (BitVec.ofInt k.bits m &&& BitVec.ofInt k.bits n).toNat)
 | .or=>.int k (k.wrap (BitVec.ofInt k.bits m ||| BitVec.ofInt k.bits n).toNat)
 | .andNot=>.int k (k.wrap (BitVec.ofInt k.bits m &&& ~~~ BitVec.ofInt k.bits n).toNat)
 | .sub=>.int k (k.wrap (m-n))
 | .shr=>.int k (m.fdiv (2 ^ min n.toNat k.bits))
 | .shl=>.int k (k.wrap (m * 2 ^ min n.toNat k.bits))
 | _=>undef
def Zl{t:TypeId}(e:σ.get x=some (.int k m))(g:σ.get y=some (.int k n))(i:o=.and\/o=.or\/o=.andNot\/o=.sub)(q:ZH o k m n=v)(h:next (σ.set d v) H) :
  (fR.raw (.binOp o t x y t2) ty).m P d next σ H:=by
 refine Zfb (by simp[Op.operands,e,g]) ?_ h;subst q;rcases i with rfl | rfl | rfl | rfl<;>simp[execOp,fL,e,g,eqGuard,binOp,Op.intBits,Op.intArith,ZH]
def Yh{t:TypeId}{s:IntKind}(e:σ.get x=some (.int k m))(g:σ.get y=some (.int s n))(i:o=.shr\/o=.shl)(u:0<=n)(q:ZH o k m n=v)(h:next (σ.set d v) H) :
  (fR.raw (.binOp o t x y t2) ty).m P d next σ H:=by
 refine Zfb (by simp[Op.operands,e,g]) ?_ h;subst q;have:¬ n<0:=O;rcases i with rfl | rfl<;>simp[execOp,fL,e,g,eqGuard,binOp,Op.shift,ZH,this]
def Ol:∀{xs:List Operand} {vs:List Value},σ.gets xs=some vs->xs.map (λx=>(σ.get x).getD undef)=vs/\(xs.all λx=>(σ.get x).isSome)=true
 | [],vs,h=>by simp only[fG.gets,IF]at h;subst h;exact⟨rfl,rfl⟩
 | x :: r,vs,h=>by
  simp only[fG.gets]at h;split at h
  ·rename_i v s e g;simp only[IF]at h;subst h;obtain⟨i,q⟩:=Ol g;simp[e,i,q]
  simp at h
def Zmk{ρ:Operand->Value}{aA:Array Operand}{ts:Array TypeId}(e:ρ (.func f)=.func (.func f) #[] #[]):execOp ρ (fL (.call { callee:=.value (.func f),args:=aA,argTypes:=ts }) ty)=callFunc f (aA.map ρ):=by simp[execOp,fL,resolve,Deferred.ofValue,e,invoke]
def Yd(e:σ.get x=some (.int k m))(g:σ.get y=some (.int k' n))(i:Y5 k k'=true)(q:m=n)(h:next (σ.set d (.bool true)) H):(fR.fV .eql x y).m P d next σ H:=
 Ya e g i λb hb=>by exact DX
def ZK(e:σ.get x=some (.int k m))(g:σ.get y=some (.int k' n))(i:Y5 k k'=true)(q:¬ m=n)(h:next (σ.set d (.bool false)) H):(fR.fV .eql x y).m P d next σ H:=
 Ya e g i λb hb=>by exact DZ
def Yi(e:σ.get x=some (.int k m))(g:σ.get y=some (.int k' n))(i:Y5 k k'=true)(q:m≠n)(h:next (σ.set d (.bool true)) H):(fR.fV .neq x y).m P d next σ H:=
 Ya e g i λb hb=>by exact DX
def ZE(e:σ.get x=some (.int k m))(g:σ.get y=some (.int k' n))(i:Y5 k k'=true)(q:m=n)(h:next (σ.set d (.bool false)) H):(fR.fV .neq x y).m P d next σ H:=
 Ya e g i λb hb=>by exact DZ
def Ztj(e:σ.get x=some (.int k m))(g:σ.get y=some (.int k' n))(i:Y5 k k'=true)(q:m<n)(h:next (σ.set d (.bool true)) H):(fR.fV .lss x y).m P d next σ H:=
 Ya e g i λb hb=>by exact DX
def Kv(e:σ.get x=some (.int k m))(g:σ.get y=some (.int k' n))(i:Y5 k k'=true)(q:¬ m<n)(h:next (σ.set d (.bool false)) H):(fR.fV .lss x y).m P d next σ H:=
 Ya e g i λb hb=>by exact DZ
def Au(e:σ.get x=some (.int k m))(g:σ.get y=some (.int k' n))(i:Y5 k k'=true)(q:m > n)(h:next (σ.set d (.bool true)) H):(fR.fV .gtr x y).m P d next σ H:=
 Ya e g i λb hb=>by exact DX
def Ku(e:σ.get x=some (.int k m))(g:σ.get y=some (.int k' n))(i:Y5 k k'=true)(q:¬ m > n)(h:next (σ.set d (.bool false)) H):(fR.fV .gtr x y).m P d next σ H:=
 Ya e g i λb hb=>by exact DZ
def Zfq(i:σ.gR=[])(g:rs.any Ze.cell=false)(q:Oe σ rs=some vs)(h:Post (Y3 vs) H):VT P rs Post σ H:=by unfold VT MY;rw[i];exact⟨λe=>by rw[g]at e;simp at e,vs,Lj q,h⟩
def Md(h:VT P rs Post σ H):CJ P rs Post .normal σ H:=h
def MM(h:VT P rs Post σ H):CJ P rs Post .ret σ H:=h
variable{Qe:Ex->fG->Hp->Prop}{a b c:Zc}{id:Nat}
def ZiJ{l:List NI}(h:ZW P l (Qe .normal) σ H):(Zc.fK l).m P Qe σ H:=h
def VL(h:a.m P (kZ.then (b.m P Qe) Qe) σ H):(Zc.seq a b).m P Qe σ H:=.inl h
def Zua(h:J6 P a b Qe σ H):(Zc.seq a b).m P Qe σ H:=.inr (.inl h)
def VD{ι:Type}(I:ι->Hp->Prop)(env:ι->List (Nat×Value))(box:ι->List (Nat×List Value))(g:a.m P (kZ.then (λσ' e=>∃i,I i e/\rK (env i) σ'/\rL (box i) σ'/\σ'.gR=σ.gR) Qe) σ H)
  (h:∀i H,I i H->b.m P Qe (UP σ.gR (env i) (box i)) H):(Zc.seq a b).m P Qe σ H:=.inr (.inr ⟨ι,I,env,box,g,h⟩)
def ZiG(h:Qe .normal σ H):Zc.skip.m P Qe σ H:=h
def ZiI(h:Qe .ret σ H):Zc.ret.m P Qe σ H:=h
theorem ZiL(h:Qe (.exit id) σ H):(Zc.exit id).m P Qe σ H:=h
theorem ZiO(h:a.m P (kZ.inBlock id Qe) σ H):(Zc.block id a).m P Qe σ H:=h
def UU{t:Bool}(e:σ.get x=some (.bool t))(h:(bif t then a else b).m P Qe σ H):(Zc.cond x a b).m P Qe σ H:=by cases t<;>(simp only[Zc.m,e];exact h)
def ZiM(e:σ.get x=some (.bool true))(h:a.m P Qe σ H):(Zc.cond x a b).m P Qe σ H:=UU e h
def ZiN(e:σ.get x=some (.bool false))(h:b.m P Qe σ H):(Zc.cond x a b).m P Qe σ H:=UU e h
def Zmn(h:next σ H):kZ.then next Qe .normal σ H:=h
theorem Zml(h:Qe (.exit id) σ H):kZ.then next Qe (.exit id) σ H:=h
def Zmm(h:Qe .ret σ H):kZ.then next Qe .ret σ H:=h
theorem Zmr(h:Qe .normal σ H):kZ.inBlock id Qe .normal σ H:=h
theorem Zmq(h:Qe .ret σ H):kZ.inBlock id Qe .ret σ H:=h
theorem Zmp(h:Qe .normal σ H):kZ.inBlock id Qe (.exit id) σ H:=by simp only[kZ.inBlock,qBb];exact h
theorem Zmo{e:Nat}(g:Nat.beq e id=false)(h:Qe (.exit e) σ H):kZ.inBlock id Qe (.exit e) σ H:=by
 have:¬ e=id:=by rintro rfl;simp at g
 simp only[kZ.inBlock,iF this];exact h
end
structure Wr(p:Prop):Prop where
 out:p
def Z{G G':Prop}(x:G') (h:Wr G'->G:=by
  intro rO;repeat first
   | (with_reducible first | refine Zlg ?_ | refine Zlf ?_ | refine Zmn ?_ | refine VL ?_ | refine ZiJ ?_ | refine ZiO ?_ | refine ZiG ?_ | refine ZiI ?_ | refine ZiL ?_ | refine Zml ?_ | refine Zmm ?_ | refine Zmr ?_ | refine Zmq ?_ | refine Zmp ?_ | refine MM ?_ | refine Md ?_)
   | ((with_reducible apply Zih);exact rfl)
   | ((with_reducible apply Zif);exact rfl)
   | ((with_reducible apply Zim);exact rfl)
   | ((with_reducible apply Zic);exact rfl;exact rfl)
   | ((with_reducible apply Zie);exact rfl)
   | ((with_reducible apply Zin);exact rfl;exact rfl)
   | ((with_reducible apply Zli);exact rfl)
   | ((with_reducible apply Zle);exact rfl;exact rfl)
   | ((with_reducible apply Zlh);exact rfl)
   | ((with_reducible apply Zmo);exact rfl)
   | ((with_reducible apply ZiM);exact rfl)
   | ((with_reducible apply ZiN);exact rfl)
   | ((with_reducible apply Zfq);exact rfl;exact rfl;exact rfl)
  exact rO.out):G:=h ⟨x⟩
end
section
variable{m:Int}{n off iS ln t j:Nat}{p:Prop}{k k':IntKind}{cs zs vs:List Value}{ts:List Nat}{ps:List (Nat×Nat×Operand)}{ty:TypeId}{f:Option Bool}{H0:Hp}{l1 l2:List (NI×Option Bool)}{w bb:Bool}{rs:List Ze}{Post:Value->Hp->Prop}{aA bd:Zc}{fv:Value}{N:Hp->Prop}
class Loud (P:fP):Prop where
 fD:∀g,P.still g=false
def OL{P:fP}[Loud P]:∀g,P.still g=false:=Loud.fD
section
variable{P:fP}{d:Option Nat}{r:List NI}{op:fR}{Q:fG->Hp->Prop}{next:fG->Hp->Prop}{σ:fG}{H:Hp}{x y z:Operand}{v:Value}
def ZtG{n:Int}(e:σ.get x=some (.int .i64 m))(g:σ.get y=some (.int .i64 n))(i:rY (m+n))(h:next (σ.set d (.int .i64 (m+n))) H):(fR.fV .add x y).m P d next σ H:=Ya e g rfl ⟨i,h⟩
def Zta{n:Int}(e:σ.get x=some (.int .i64 m))(g:σ.get y=some (.int .i64 n))(i:rY (m-n))(h:next (σ.set d (.int .i64 (m-n))) H):(fR.fV .sub x y).m P d next σ H:=Ya e g rfl ⟨i,h⟩
def u7{n:Int}(e:σ.get x=some (.int .i64 m))(g:σ.get y=some (.int .i64 n))(i:rY (m * n))(h:next (σ.set d (.int .i64 (m * n))) H):(fR.fV .mul x y).m P d next σ H:=Ya e g rfl ⟨i,h⟩
def XF{b:Bool}[Decidable p](h:b=true↔p):b=decide p:=by
 by_cases g:p
 ·simp[g,h]
 have:b≠true:=λe=>g (h.1 e);simp[g,this]
def Ztm{n:Int}(e:σ.get x=some (.int k m))(g:σ.get y=some (.int k' n))(i:Y5 k k'=true)(h:next (σ.set d (.bool (decide (m<n)))) H):(fR.fV .lss x y).m P d next σ H:=Ya e g i λb hb=>by rw[XF hb];exact h
def Ztp{n:Int}(e:σ.get x=some (.int k m))(g:σ.get y=some (.int k' n))(i:Y5 k k'=true)(h:next (σ.set d (.bool (decide (m<=n)))) H):(fR.fV .leq x y).m P d next σ H:=Ya e g i λb hb=>by rw[XF hb];exact h
def Ztt{n:Int}(e:σ.get x=some (.int k m))(g:σ.get y=some (.int k' n))(i:Y5 k k'=true)(h:next (σ.set d (.bool (decide (n<m)))) H):(fR.fV .gtr x y).m P d next σ H:=Ya e g i λb hb=>by rw[XF (p:=n<m) hb];exact h
def Ztv{n:Int}(e:σ.get x=some (.int k m))(g:σ.get y=some (.int k' n))(i:Y5 k k'=true)(h:next (σ.set d (.bool (decide (n<=m)))) H):(fR.fV .geq x y).m P d next σ H:=Ya e g i λb hb=>by rw[XF (p:=n<=m) hb];exact h
def Zty{n:Int}(e:σ.get x=some (.int k m))(g:σ.get y=some (.int k' n))(i:Y5 k k'=true)(h:next (σ.set d (.bool (decide (m=n)))) H):(fR.fV .eql x y).m P d next σ H:=Ya e g i λb hb=>by rw[XF hb];exact h
def Ztf{n:Int}(i:σ.get x=some (.int k m))(q:σ.get y=some (.int k' n))(s:Y5 k k'=true)(h:next (σ.set d (.bool !(decide (m=n)))) H):(fR.fV .neq x y).m P d next σ H:=Ya i q s λb hb=>by
 have:b=!(decide (m=n)):=by
  by_cases g:m=n
  ·have:b≠true:=λe=>(hb.1 e) g;simp[g,this]
  simp[g,hb]
 rw[this];exact h
def Ztx{cs:Array Value}(e:σ.get x=some (.agg cs))(g:cs[off]? = some v)(h:next (σ.set d v) H):(fR.oL off none x).m P d next σ H:=by simp only[fR.m,e,g];exact h
def Ztw{cs:Array Value}(e:σ.get x=some (.agg cs))(h:next (σ.set d (.agg ((cs.toList.drop off).take n).toArray)) H):(fR.oL off (some n) x).m P d next σ H:=by simp only[fR.m,e];exact h
def Zik{a:Option Addr}{c:Nat}(e:σ.get x=some (.slice a n c))(h:next (σ.set d (.int .i64 (n:Int))) H):(fR.len x).m P d next σ H:=by simp only[fR.m,e];exact h
def Zts{a:Addr}{c:Nat}{n:Int}(e:σ.get x=some (.slice (some a) ln c))(g:σ.get y=some (.int k n))(i:0<=n/\n<(ln:Nat))(h:next (σ.set d (.pointer (some (a.add (n.toNat * iS))))) H):(fR.gC iS x y).m P d next σ H:=by simp only[fR.m,e,g];exact⟨a,rfl,i,h⟩
def CL{a:Addr}{c:Nat}(e:σ.get x=some (.slice (some a) ln c))(g:σ.get y=some (.int k (n:Int)))(i:n<ln)(h:next (σ.set d (.pointer (some (a.add (n * iS))))) H):(fR.gC iS x y).m P d next σ H:=
 Zts e g ⟨O,O⟩ h
def Zh{a:Addr}(g:P.still H.gh=false)(e:σ.get x=some (.pointer (some a)))(i:aM H a [v])(h:next (σ.set d v) H):(fR.ld none x).m P d next σ H:=by simp only[fR.m,e];exact⟨g,v,i,h⟩
def Zn{a:Addr}(g:P.still H.gh=false)(e:σ.get x=some (.pointer (some a)))(i:aM H a cs)(q:cs.length=n)(h:next (σ.set d (.agg cs.toArray)) H):(fR.ld (some n) x).m P d next σ H:=by simp only[fR.m,e];exact⟨g,cs,q,i,h⟩
def Zti{b:Nat}(e:P.still H.gh=false)(h:next (((σ.drop ts).set (some b) (.int .i64 (Int.ofNat 0))).put b zs) H):(fR.eC b ts zs).m P d next σ H:=⟨e,h⟩
def Ztq{b:Nat}(g:P.still H.gh=false)(e:σ.get x=some v)(h:next (((σ.drop ts).set (some b) (.int .i64 (Int.ofNat 0))).put b v.cells.toList) H):(fR.eE b ts x).m P d next σ H:=by simp only[fR.m,e];refine⟨g,?_⟩;cases v<;>exact h
def Zto(e:σ.env t=some (.int .i64 (.ofNat n)))(h:next (σ.set d (.int .i64 (Int.ofNat (n+off)))) H):(fR.fH off t).m P d next σ H:=by simp only[fR.m,e];exact h
def Zij{j:Int}(e:σ.env t=some (.int .i64 (.ofNat n)))(g:σ.get x=some (.int k j))(i:0<=j/\j<(ln:Nat))(h:next (σ.set d (.int .i64 (Int.ofNat (n+j.toNat * iS)))) H):(fR.hO iS ln t x).m P d next σ H:=by simp only[fR.m,e,g];exact⟨i,h⟩
def sV(e:σ.env t=some (.int .i64 (.ofNat n)))(g:σ.get x=some (.int k (j:Int)))(i:j<ln)(h:next (σ.set d (.int .i64 (Int.ofNat (n+j * iS)))) H):(fR.hO iS ln t x).m P d next σ H:=
 Zij e g ⟨O,O⟩ h
def wB{b:Nat}(g:P.still H.gh=false)(e:σ.env t=some (.int .i64 (.ofNat off)))(i:σ.box b=some cs)(q:cs[off]? = some v)(h:next (σ.set d v) H):(fR.gO b none t).m P d next σ H:=by simp only[fR.m,e,i];exact⟨g,v,q,h⟩
def Ztn{b:Nat}(g:P.still H.gh=false)(e:σ.env t=some (.int .i64 (.ofNat off)))(i:σ.box b=some cs)(q:Nat.ble (off+n) cs.length=true)(h:next (σ.set d (.agg ((cs.drop off).take n).toArray)) H):(fR.gO b (some n) t).m P d next σ H:=by simp only[fR.m,e,i,q];exact⟨g,h⟩
def EL{b:Nat}(g:P.still H.gh=false)(e:σ.env t=some (.int .i64 (.ofNat off)))(i:σ.box b=some cs)(q:σ.get x=some v)(s:v.cells.size=n)(u:off+n<=cs.length)(C:(v.cells.toList.all Value.gM)=true)
  (h:next (σ.put b (ZR cs off v.cells.toList)) H):(fR.tS b n t x).m P d next σ H:=by
 simp only[fR.m,e,i,q];exact⟨g,⟨s,u,C⟩,h⟩
def Ztl{b:Nat}(g:P.still H.gh=false)(e:σ.env t=some (.int .i64 (.ofNat 0)))(i:σ.box b=some cs)(q:σ.get x=some v)(s:v.cells.size=n)(C:cs.length=n)(u:(v.cells.toList.all Value.gM)=true)
  (h:next (σ.put b v.cells.toList) H):(fR.tS b n t x).m P d next σ H:=by
 refine EL g e i q s O u ?_;exact TE
def Ztk{b:Nat}(g:P.still H.gh=false)(e:σ.env t=some (.int .i64 (.ofNat off)))(i:σ.box b=some cs)(q:σ.get x=some v)(s:v.cells.size=n)(u:Nat.ble (off+n) cs.length=true)(C:(v.cells.toList.all Value.gM)=true)
  (h:next (σ.put b (ZR cs off v.cells.toList)) H):(fR.tS b n t x).m P d next σ H:=EL g e i q s (qCp u) C h
def ZtD(e:buildV σ ps zs=some cs)(h:next (σ.set d (.agg cs.toArray)) H):(fR.build zs ps).m P d next σ H:=by simp only[fR.m,e];exact h
def Z4(g:P.still H.gh=false)(e:buildV σ ps zs=some cs)(h:∀r,H r=none->next (σ.set d (.slice (some ⟨r,0,none⟩) ln ln)) (H.ins r (.cells cs.toArray ty))):(fR.fJ ty ln zs ps).m P d next σ H:=by simp only[fR.m,e];exact⟨g,h⟩
def Vh{o:Op}(g:(o.operands.all λx=>(σ.get x).isSome)=true)(e:qG P (execOp (λx=>(σ.get x).getD undef) (fL o ty)) v)(h:next (σ.set d v) H):(fR.gE o ty).m P d next σ H:=⟨g,v,e,h⟩
variable{l:List (NI×Option Bool)}
def Zvz(h:Q σ H):ZZ P [] Q σ H:=h
def ZvA(e:P.still H.gh=false)(h:op.m P d (oA P.toPQ H f (ZZ P l Q)) σ H):ZZ P ((⟨none,d,op⟩,f) :: l) Q σ H:=⟨e,h⟩
def ZvB{b:Bool}(g:P.still H.gh=false)(e:σ.env t=some (.bool b))(h:op.m P d (oA P.toPQ H f (ZZ P l Q)) σ H):ZZ P ((⟨some (t,b),d,op⟩,f) :: l) Q σ H:=by cases b<;>(simp only[ZZ,e];exact⟨g,h⟩)
def Zvy{b i:Bool}(g:P.still H.gh=false)(e:σ.env t=some (.bool i))(hb:i=!b)(h:ZZ P l Q (σ.jP d) H):ZZ P ((⟨some (t,b),d,op⟩,f) :: l) Q σ H:=by subst hb;cases b<;>(simp only[ZZ,e,qDN,qCK];exact⟨g,h⟩)
def ZuT{K:fG->Hp->Prop}(h:K σ H):oA P.toPQ H0 none K σ H:=h
def ZuS{K:fG->Hp->Prop}(h:K σ H):oA P.toPQ H (some false) K σ H:=⟨rfl,h⟩
def Zz{K:fG->Hp->Prop}(e:∀g,P.still g=false)(h:K σ H):oA P.toPQ H0 (some false) K σ H:=⟨by rw[e,e],h⟩
def ZuU{K:fG->Hp->Prop}(e:∀g,P.still g=false)(i:∀b x,H0 b=some x->H b=some x)(h:K σ H):oA P.toPQ H0 (some true) K σ H:=⟨⟨by rw[e,e],i⟩,h⟩
def Lz{K:fG->Hp->Prop}(e:H0.Sub H)(h:K σ H):oA P.toPQ H0 (some true) K σ H:=⟨⟨by rw[e.gh],e.mem⟩,h⟩
def ZuR{K:fG->Hp->Prop}(h:K σ H):oA P.toPQ H (some true) K σ H:=⟨⟨rfl,λ_ _ h=>h⟩,h⟩
def Zub{Qe:Ex->fG->Hp->Prop}(e:P.still H.gh=false)(h:ZZ P l (Qe .normal) σ H):(Zc.drawn l).m P Qe σ H:=⟨e,h⟩
def Zt2{Qe:Ex->fG->Hp->Prop}(e:P.still H.gh=false)(g:ZZ P l1 (Qe .normal) σ H)(h:ZZ P l2 (Qe .normal) σ H):(Zc.FJ l1 l2).m P Qe σ H:=⟨e,g,h⟩
def ZiK{Qe:Ex->fG->Hp->Prop}{h i:List (NI×Option Bool)}(e:P.still H.gh=false)(q:ZZ P l1 (Qe .normal) σ H)(s:ZZ P l2 (Qe .normal) σ H)(u:ZZ P h (Qe .normal) σ H)(C:ZZ P i (Qe .normal) σ H):(Zc.jC [l1,l2,h,i]).m P Qe σ H:=
 ⟨e,λl g=>by simp only[qAi,qBD,qCV]at g;rcases g with rfl | rfl | rfl | rfl<;>assumption⟩
variable{Qe:Ex->fG->Hp->Prop}{a b c:Zc}
def Zt9[Decidable p](e:σ.get x=some (.bool (decide p)))(h:p->a.m P Qe σ H)(i:¬ p->b.m P Qe σ H):(Zc.cond x a b).m P Qe σ H:=by
 by_cases g:p
 ·exact UU (t:=true) (by rw[e];simp[g]) (h g)
 exact UU (t:=false) (by rw[e];simp[g]) (i g)
def Zt7[Decidable p](e:σ.get x=some (.bool !(decide p)))(h:¬ p->a.m P Qe σ H)(i:p->b.m P Qe σ H):(Zc.cond x a b).m P Qe σ H:=by
 by_cases g:p
 ·exact UU (t:=false) (by rw[e];simp[g]) (i g)
 exact UU (t:=true) (by rw[e];simp[g]) (h g)
theorem Zt8{t:Bool}(e:σ.get x=some (.bool t))(g:t=true->a.m P Qe σ H)(h:t=false->b.m P Qe σ H):(Zc.cond x a b).m P Qe σ H:=by
 cases t
 ·exact UU e (h rfl)
 exact UU e (g rfl)
theorem Zt6{t:Bool}(e:σ.get x=some (.bool !t))(g:t=false->a.m P Qe σ H)(h:t=true->b.m P Qe σ H):(Zc.cond x a b).m P Qe σ H:=by
 cases t
 ·exact UU e (g rfl)
 exact UU e (h rfl)
theorem fG.tE(e:σ.env t=some v):σ.set (some t) v=σ:=by
 refine fG.ext' (λs=>?_) (λ_=>rfl) rfl;simp only[fG.set];cases hb:Nat.beq s t with
 | false=>rfl
 | true=>rw[qBs hb,e];rfl
theorem Mg(e:σ.env t=some (.bool bb))(g:bb=true->ZW P (⟨some (t,w),d,op⟩ :: r) Q (σ.set (some t) (.bool true)) H)(h:bb=false->ZW P (⟨some (t,w),d,op⟩ :: r) Q (σ.set (some t) (.bool false)) H):ZW P (⟨some (t,w),d,op⟩ :: r) Q σ H:=by
 have:=fG.tE e;cases bb
 ·rw[<-this];exact h rfl
 rw[<-this];exact g rfl
def Zui[Decidable p](e:σ.env t=some (.bool (decide p)))(g:p->ZW P (⟨some (t,w),d,op⟩ :: r) Q (σ.set (some t) (.bool true)) H)(i:¬ p->ZW P (⟨some (t,w),d,op⟩ :: r) Q (σ.set (some t) (.bool false)) H):ZW P (⟨some (t,w),d,op⟩ :: r) Q σ H:=
 Mg e (λh=>g (of_decide_eq_true h)) (λh=>i (of_decide_eq_false h))
def Zuh[Decidable p](e:σ.env t=some (.bool !(decide p)))(g:¬ p->ZW P (⟨some (t,w),d,op⟩ :: r) Q (σ.set (some t) (.bool true)) H)(i:p->ZW P (⟨some (t,w),d,op⟩ :: r) Q (σ.set (some t) (.bool false)) H):ZW P (⟨some (t,w),d,op⟩ :: r) Q σ H:=
 Mg e (λh=>g (by simpa using h)) (λh=>i (by simpa using h))
def Zug(e:σ.env t=some (.bool !bb))(g:bb=false->ZW P (⟨some (t,w),d,op⟩ :: r) Q (σ.set (some t) (.bool true)) H)(i:bb=true->ZW P (⟨some (t,w),d,op⟩ :: r) Q (σ.set (some t) (.bool false)) H):ZW P (⟨some (t,w),d,op⟩ :: r) Q σ H:=
 Mg e (λh=>g (by simpa using h)) (λh=>i (by simpa using h))
theorem Zl3(e:σ.env t=some (.bool bb))(g:bb=true->ZZ P ((⟨some (t,w),d,op⟩,f) :: l) Q (σ.set (some t) (.bool true)) H)(h:bb=false->ZZ P ((⟨some (t,w),d,op⟩,f) :: l) Q (σ.set (some t) (.bool false)) H):ZZ P ((⟨some (t,w),d,op⟩,f) :: l) Q σ H:=by
 have:=fG.tE e;cases bb
 ·rw[<-this];exact h rfl
 rw[<-this];exact g rfl
def ZvC[Decidable p](e:σ.env t=some (.bool (decide p)))(g:p->ZZ P ((⟨some (t,w),d,op⟩,f) :: l) Q (σ.set (some t) (.bool true)) H)(i:¬ p->ZZ P ((⟨some (t,w),d,op⟩,f) :: l) Q (σ.set (some t) (.bool false)) H):ZZ P ((⟨some (t,w),d,op⟩,f) :: l) Q σ H:=
 Zl3 e (λh=>g (of_decide_eq_true h)) (λh=>i (of_decide_eq_false h))
def Zuj(g:σ.gR=[])(q:rs.any Ze.cell=true)(e:P.still H.gh=false)(i:Oe σ rs=some vs)(h:Post (Y3 vs) H):VT P rs Post σ H:=by unfold VT MY;rw[g];exact⟨λ_=>e,vs,Lj i,h⟩
def HG(g:σ.gR=[])(e:P.still H.gh=false)(i:lP σ H rs vs)(h:Post (Y3 vs) H):VT P rs Post σ H:=by unfold VT MY;rw[g];exact⟨λ_=>e,vs,i,h⟩
end
section
variable{P:fP}{σ:fG}{H:Hp}{Qe:Ex->fG->Hp->Prop}{b:Zc}
def L9{x:Operand}{ps:List Nat}{xs:List (List Value)}(O:∀g,P.still g=false)(e:σ.get x=some fv)(i:yW P fv N xs)(L:∀x∈xs,x.length=ps.length)(I:Nat->Hp->Prop)(S:Ex->Hp->Prop)(C:I 0 H)(D:∀n,Up (I n))(F:∀e,Up (S e))(E:∀n H,I n H->N H)
  (M:∀n (s:n<xs.length) H,I n H->aA.m P (kZ.then (bd.m P (Nl (I (n+1)) S)) Kp) (σ.fL.round ps xs[n]) H) (J:∀H,I xs.length H->Qe .normal σ H) (R:∀e H,e≠.normal->S e H->Qe e σ H):(Zc.nZ x ps aA bd).m P Qe σ H:=by
 simp only[Zc.m,e];refine⟨O,N,xs.length,Znp xs,i.toE,λn vs u h=>?_,I,S,C,D,F,E,λn s vs u H h T U K=>?_,J,R⟩
 ·obtain⟨_,q,rfl⟩:=h;exact L _ (iN q)
 obtain⟨rfl,q,rfl⟩:=h;rw[Hp.hZ];exact M n s H K
def Zt5{x:Operand}{ps:List Nat}{len:Nat}{E:Nat->List Value->Hp->Prop}(K:∀g,P.still g=false)(e:σ.get x=some fv)(i:PG P fv N len E)(F:∀n vs h,E n vs h->vs.length=ps.length)(I:Nat->Hp->Prop)(S:Ex->Hp->Prop)(q:I 0 H)(s:∀n,Up (I n))(C:∀e,Up (S e))(u:∀n H,I n H->N H)
  (J:∀n,n<len->∀vs h H,E n vs h->h.gh=[]->H.Comp h->I n H->aA.m P (kZ.then (bd.m P (Nl (I (n+1)) S)) Kp) (σ.fL.round ps vs) (H.join h)) (D:∀H,I len H->Qe .normal σ H) (L:∀e H,e≠.normal->S e H->Qe e σ H):(Zc.nZ x ps aA bd).m P Qe σ H:=by
 simp only[Zc.m,e];exact⟨K,N,len,E,i,F,I,S,q,s,C,u,J,D,L⟩
def ZC(n:Nat)(I:Nat->Hp->Prop)(env:Nat->List (Nat×Value))(box:Nat->List (Nat×List Value))(h:I 0 H)(q:rK (env 0) σ)(hb:rL (box 0) σ)
  (s:∀j H,j<=n->I j H->b.m P (kZ.then (λσ' g=>∃e:{ j:Nat // j<=n },n-e.1<n-j/\I e.1 g/\rK (env e.1) σ'/\rL (box e.1) σ'/\σ'.gR=σ.gR) Qe) (UP σ.gR (env j) (box j)) H):(Zc.loop b).m P Qe σ H:=
 ⟨{ j:Nat // j<=n },λj=>I j.1,λj=>n-j.1,λj=>env j.1,λj=>box j.1,⟨0,qBf _⟩,h,⟨q,hb⟩,λj H i=>s j.1 H j.2 i⟩
def ZlU{I:Nat->Hp->Prop}{env:Nat->List (Nat×Value)}{box:Nat->List (Nat×List Value)}{σ':fG}{g:List Deferred}(s:j<n)(h:I (j+1) H)(q:rK (env (j+1)) σ')(hb:rL (box (j+1)) σ')(i:σ'.gR=g) :
  ∃e:{ j:Nat // j<=n },n-e.1<n-j/\I e.1 H/\rK (env e.1) σ'/\rL (box e.1) σ'/\σ'.gR=g:=⟨⟨j+1,s⟩,by show n-(j+1)<n-j;omega,h,q,hb,i⟩
def Yp{α:Type}(n:Nat)(I:Nat->α->Hp->Prop)(env:Nat->α->List (Nat×Value))(box:Nat->α->List (Nat×List Value))(g:α)(i:I 0 g H)(s:rK (env 0 g) σ)(hb:rL (box 0 g) σ)
  (u:∀j a H,j<=n->I j a H->b.m P (kZ.then (λσ' h=>∃e:{ j:Nat // j<=n }×α,n-e.1.1<n-j/\I e.1.1 e.2 h/\rK (env e.1.1 e.2) σ'/\rL (box e.1.1 e.2) σ'/\σ'.gR=σ.gR) Qe) (UP σ.gR (env j a) (box j a)) H):(Zc.loop b).m P Qe σ H:=
 ⟨{ j:Nat // j<=n }×α,λj=>I j.1.1 j.2,λj=>n-j.1.1,λj=>env j.1.1 j.2,λj=>box j.1.1 j.2,⟨⟨0,qBf _⟩,g⟩,i,⟨s,hb⟩,λj H q=>u j.1.1 j.2 H j.1.2 q⟩
end
end
variable{G G' A B c d:Prop}
def Y(x:G') (h:Wr G'->G:=by
  intro rO;repeat first
   | (with_reducible first | refine Zlg ?_ | refine Zlf ?_ | refine Zmn ?_ | refine ZiJ ?_ | refine ZiO ?_ | refine ZiG ?_ | refine ZiI ?_ | refine ZiL ?_ | refine Zml ?_ | refine Zmm ?_ | refine Zmr ?_ | refine Zmq ?_ | refine Zmp ?_ | refine Zvz ?_ | refine ZuT ?_ | refine ZuS ?_ | refine ZuR ?_ | refine MM ?_ | refine Md ?_)
   | ((with_reducible apply Zih);exact rfl)
   | ((with_reducible apply Zto);exact rfl)
   | ((with_reducible apply wB);(first | exact rfl | assumption | exact Loud.fD _);exact rfl;exact rfl;exact rfl)
   | ((with_reducible apply Ztn);(first | exact rfl | assumption | exact Loud.fD _);exact rfl;exact rfl;exact rfl)
   | ((with_reducible apply Ztm);exact rfl;exact rfl;exact rfl)
   | ((with_reducible apply Ztp);exact rfl;exact rfl;exact rfl)
   | ((with_reducible apply Ztt);exact rfl;exact rfl;exact rfl)
   | ((with_reducible apply Ztv);exact rfl;exact rfl;exact rfl)
   | ((with_reducible apply Zty);exact rfl;exact rfl;exact rfl)
   | ((with_reducible apply Ztf);exact rfl;exact rfl;exact rfl)
   | ((with_reducible apply ZtG);exact rfl;exact rfl;(refine⟨?_,?_⟩<;>omega))
   | ((with_reducible apply Zta);exact rfl;exact rfl;(refine⟨?_,?_⟩<;>omega))
   | ((with_reducible apply Zik);exact rfl)
   | ((with_reducible apply Zif);exact rfl)
   | ((with_reducible apply Zim);exact rfl)
   | ((with_reducible apply Zic);exact rfl;exact rfl)
   | ((with_reducible apply Zie);exact rfl)
   | ((with_reducible apply Zin);exact rfl;exact rfl)
   | ((with_reducible apply Ztx);exact rfl;exact rfl)
   | ((with_reducible apply Ztw);exact rfl)
   | ((with_reducible apply Zti);(first | exact rfl | assumption | exact Loud.fD _))
   | ((with_reducible apply Ztq);(first | exact rfl | assumption | exact Loud.fD _);exact rfl)
   | ((with_reducible apply Ztl);(first | exact rfl | assumption | exact Loud.fD _);exact rfl;exact rfl;exact rfl;exact rfl;exact rfl;exact rfl)
   | ((with_reducible apply Ztk);(first | exact rfl | assumption | exact Loud.fD _);exact rfl;exact rfl;exact rfl;exact rfl;exact rfl;exact rfl)
   | ((with_reducible apply ZtD);exact rfl)
   | ((with_reducible apply Zli);exact rfl)
   | ((with_reducible apply Zle);exact rfl;exact rfl)
   | ((with_reducible apply Zlh);exact rfl)
   | ((with_reducible apply Zmo);exact rfl)
   | ((with_reducible apply ZiM);exact rfl)
   | ((with_reducible apply ZiN);exact rfl)
   | ((with_reducible apply Zub);(first | exact rfl | assumption | exact Loud.fD _))
   | ((with_reducible apply ZvA);(first | exact rfl | assumption | exact Loud.fD _))
   | ((with_reducible apply ZvB);(first | exact rfl | assumption | exact Loud.fD _);exact rfl)
   | ((with_reducible apply Zvy);(first | exact rfl | assumption | exact Loud.fD _);exact rfl;exact rfl)
   | ((with_reducible apply aPz);(first | exact rfl | assumption | exact Loud.fD _);exact rfl)
   | ((with_reducible apply Zfq);exact rfl;exact rfl;exact rfl)
   | ((with_reducible apply Zuj);exact rfl;exact rfl;(first | exact rfl | assumption | exact Loud.fD _);exact rfl)
   | ((fail_if_success have:=hWb);with_reducible refine VL ?_)
  exact rO.out):G:=h ⟨x⟩
def OQ(x:G') (h:Wr G'->G:=by intro rO;have hWb:=trivial;refine Y ?_;exact rO.out):G:=h ⟨x⟩
def OI(x:c->A)(y:d->B) (h:Wr (c->A)->Wr (d->B)->G:=by
  intro rO yJ;first
   | exact Zt9 rfl rO.out yJ.out
   | exact Zt7 rfl rO.out yJ.out
   | exact Zt6 rfl rO.out yJ.out
   | exact Zt8 rfl rO.out yJ.out
   | exact Zui rfl rO.out yJ.out
   | exact Zuh rfl rO.out yJ.out
   | exact Zug rfl rO.out yJ.out
   | exact Mg rfl rO.out yJ.out
   | exact ZvC rfl rO.out yJ.out
   | exact Zl3 rfl rO.out yJ.out):G:=h ⟨x⟩ ⟨y⟩
def OJ(x:c->A)(y:d->B) (h:Wr (c->A)->Wr (d->B)->G:=by intro rO yJ;refine Y ?_;exact OI rO.out yJ.out):G:=h ⟨x⟩ ⟨y⟩
