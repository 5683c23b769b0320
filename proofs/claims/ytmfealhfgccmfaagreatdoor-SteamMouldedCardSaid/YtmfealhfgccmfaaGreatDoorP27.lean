import Derived.Test.YtmfealhfgccmfaaGreatDoorP17
import Derived.Test.YtmfealhfgccmfaaGreatDoorP25
import Derived.Test.YtmfealhfgccmfaaGreatDoorP26
set_option linter.all false
set_option maxHeartbeats 4000000
set_option maxRecDepth 20000
def TM{G:Prop}(h:G:=by refine OJ (λh1=>?_) (λh1=>?_)<;>refine Y ?_;refine OI (λh2=>?_) (λh2=>?_)<;>refine Y ?_<;>exact⟨rfl,by simp[Y3,h1,h2]⟩;exact⟨rfl,by simp[Y3,h1]⟩):G:=h
section
open Go Go.LL
namespace Go.LL
section
variable{ty:TypeId}{n v wt:Nat}{f:FuncId}{vs:List Value}{ds:List Deferred}
section
variable{P:fP}{d:Option Nat}{next:fG->Hp->Prop}{σ:fG}{H:Hp}{x y:Operand}
def Oh{t a:TypeId}{k g:IntKind}{n r:Int}(j:(P.underlying t).isSome=true)(l:P.underlying a=some (.int g))(e:σ.get x=some (.int k n))(q:g.wrap n=r)(h:next (σ.set d (.int g r)) H):(fR.raw (.convert t a x) ty).m P d next σ H:=by
 obtain⟨s,o⟩:=qBR.mp j;refine⟨by simp[Op.operands,e],.inl ?_⟩;have:execOp (λx=>(σ.get x).getD undef) (fL (.convert t a x) ty)=(do pure (.value (<-convert t a (.int k n))):Sem Next):=by simp[execOp,fL,e]
 rw[this,Zf];simp only[convert,Zf,ZA o,ZA l,Conv.intToInt];subst q;exact .inr h
def Zfd{a:Array Operand}{g:Array TypeId}(l:σ.gets a.toList=some vs)(h:next ({ σ with gR:={ target:=.fn (.func f) #[],args:=vs.toArray } :: σ.gR }.set d undef) H) :
  (fR.raw (.defer { callee:=.value (.func f),args:=a,argTypes:=g }) ty).m P d next σ H:=by
 obtain⟨j,k⟩:=Ol l;refine⟨Zf0 k,.inl ?_⟩;have:execOp (λx=>(σ.get x).getD undef) (fL (.defer { callee:=.value (.func f),args:=a,argTypes:=g }) ty)=pure (.defer { target:=.fn (.func f) #[],args:=vs.toArray }):=by obtain⟨a⟩:=a;have e:(σ.get (.func f)).getD undef=.func (.func f) #[] #[]:=rfl;simp[execOp,fL,resolve,Deferred.ofValue,e,qBS,j]
 rw[this];exact .inr ⟨rfl,rfl,h⟩
def Zfr{a:List Ze}{Post:Value->Hp->Prop}(g:a.any Ze.cell=false)(j:Oe σ a=some vs)(h:Ur P σ.gR (Post (Y3 vs)) H):VT P a Post σ H:=by unfold VT MY;exact Ur.imp (λH h=>⟨λe=>by rw[g]at e;simp at e,vs,Lj j,h⟩) h
def Ziu{vs:Array Value}{K:Hp->Prop}(e:UI P.toProgram (callFunc f vs))(h:Zm P (callFunc f vs) false false H λ_ a=>Ur P ds K a):Ur P ({ target:=.fn (.func f) #[],args:=vs } :: ds) K H:=by
 refine⟨rfl,.inr ?_⟩;have:invoke (.fn (.func f) #[]) vs=callFunc f vs:=by simp[invoke]
 rw[this];exact⟨e,h⟩
def ZtS{fn:Func}{vs:Array Value}{K:Hp->Prop}(g:P.funcs[f]? = some fn)(hb:fn.body.isSome=true)(j:(fn.name == "runtime.NumGoroutine")=false)(h:Vd P .deferred f vs H λ_ e=>Ur P ds K e) :
  Ur P ({ target:=.fn (.func f) #[],args:=vs } :: ds) K H:=by
 refine⟨rfl,.inl ?_⟩;have a:fn.body.isNone=false:=by simpa using hb
 have:invoke (.fn (.func f) #[]) vs=callFunc f vs:=by simp[invoke]
 rw[this];simp only[callFunc,Zf,Vw,g,j,a,oR,qAq];exact h
end
def Zze(v wt m:Nat)(a:wt<4294967296)(e:m<4294967296):mI v wt &&& m=wt &&& m:=by
 refine qCR λi=>?_;rw[qCD,qCD,show mI v wt=2 ^ 32 * v+wt by unfold mI;omega,qCn _ (show wt<2 ^ 32 from a)];by_cases h:i<32
 ·simp[h]
 have:m.testBit i=false:=qCF (qAY e (by rw[show(4294967296:Nat)=2 ^ 32 from rfl];exact qAR (by decide) O));simp[this]
def Zit(x:Nat)(a:x<18446744073709551616):(BitVec.ofInt 64 (x:Nat)).toNat=x:=by simp[qCl];omega
def Zgq{m:Nat}(k:v<=100000002)(j:wt<=1)(h:m<4294967296):ZH .and .u64 (mI v wt:Nat) (m:Nat)=.int .u64 ((wt &&& m:Nat):Int):=by
 have e:mI v wt<18446744073709551616:=by unfold mI;omega
 have a:m<18446744073709551616:=O;have g:wt &&& m<=wt:=Nat.and_le_left;show Value.int .u64 (IntKind.u64.wrap ((BitVec.ofInt 64 (mI v wt:Nat) &&& BitVec.ofInt 64 (m:Nat)).toNat:Nat))=_;rw[qCk,Zit _ e,Zit _ a,Zze v wt m O h,Zee O O]
theorem Nf(e:v<=100000002)(a:wt<=1):ZH .and .u64 (mI v wt:Nat) 2147483648=.int .u64 (0:Nat):=by refine(Zgq (m:=2147483648) e a (by decide)).trans ?_;rcases yO a with rfl | rfl<;>rfl
theorem Zeg(e:v<=100000002)(a:wt<=1):ZH .and .u64 (mI v wt:Nat) 2147483647=.int .u64 (wt:Nat):=by refine(Zgq (m:=2147483647) e a (by decide)).trans ?_;rcases yO a with rfl | rfl<;>rfl
def Zeh(a:wt<=1):ZH .shr .u64 (mI v wt:Nat) 32=.int .u64 (v:Nat):=by show Value.int .u64 (Int.fdiv (mI v wt:Nat) (2 ^ min (Int.toNat (32:Int)) 64))=_;have:(2:Int) ^ min (Int.toNat (32:Int)) 64=4294967296:=rfl;rw[this,qBJ _ O];congr 1;unfold mI;omega
def Zed(h:n<=100000002):IntKind.i32.wrap (n:Nat)=(n:Nat):=O4 O O
theorem Zec(h:n<=1):IntKind.u32.wrap (n:Nat)=(n:Nat):=by rcases yO h with rfl | rfl<;>rfl
end
end Go.LL
end
section
open Go Go.LL
namespace Go.Proofs
section
variable{v:Value}
def ZuG{c:Cx}{i:Nat}(ok:c.Ok){H:Hp}(a:c.need H.hd=true)(e:H.cg=[1]):LL.Zb (pw c i) 210 #[ptr c.M] H λ_ g=>Pb c i H g:=by refine aU.m (P:=pw c i) Zx8 rfl ?_;unfold Zkg;refine Z ?_;refine Z7 (vs:=[ptr c.M]) rfl (ZuI ok a (λH e=>ZuH ok H e) e) ?_;rintro v g h;refine Z ?_;exact h
def u3:(Tryz.prog.underlying 3).isSome=true:=U
def Zgx:Tryz.prog.underlying 335=some (.int .u64):=U
def QD:(Tryz.prog.underlying 335).isSome=true:=U
def Im:Tryz.prog.underlying 21=some (.int .i32):=U
def Zen:Tryz.prog.underlying 328=some (.int .u32):=U
section
variable{P:fP}{H:Hp}{Post:Value->Hp->Prop}{b:Nat}
def Zgr(a:P.toProgram=Tryz.prog)(h:Zm P (callFunc 329 #[ptr b,v]) true false H Post):LL.Zb P 274 #[ptr b,v] H Post:=by refine aU.m (P:=P) (by rw[a];exact Zxe) rfl ?_;unfold Zjm;refine Z ?_;refine Zk (a ▸ ZfO) (vs:=[ptr b,v]) rfl h ?_;intro v g e;refine Z ?_;exact e
def Zej(a:P.toProgram=Tryz.prog)(h:Zm P (callFunc 330 #[ptr b]) true false H Post):LL.Zb P 276 #[ptr b] H Post:=by refine aU.m (P:=P) (by rw[a];exact Zxd) rfl ?_;unfold Zjl;refine Z ?_;refine Zk (a ▸ Lq) (vs:=[ptr b]) rfl h ?_;intro v g e;refine Z ?_;exact e
def ZnW(e:P.toProgram=Tryz.prog)(h:Zm P (callFunc 331 #[ptr b,v]) true false H λ_ a=>Post Zx a):LL.Zb P 277 #[ptr b,v] H Post:=by refine aU.m (P:=P) (by rw[e];exact Zxc) rfl ?_;unfold Zjk;refine Z ?_;refine Zk (e ▸ ZmA) (vs:=[ptr b,v]) rfl h ?_;intro v a g;refine Z ?_;exact g
def ZnV(a:P.toProgram=Tryz.prog){u:Value}(h:Zm P (callFunc 336 #[ptr b,u,v]) true false H Post):LL.Zb P 285 #[ptr b,u,v] H Post:=by refine aU.m (P:=P) (by rw[a];exact Zw9) rfl ?_;unfold Zjh;refine Z ?_;refine Zk (a ▸ Zmz) (vs:=[ptr b,u,v]) rfl h ?_;intro v g e;refine Z ?_;exact e
end
def Zgs:UI Tryz.prog (callFunc 269 #[]):=λw=>⟨_,_,_,Aa (by simp) Zv #[] w⟩
end
section
variable{kd:CallKind}{n:Nat}
section
variable{c:Cx}{i:Nat}
noncomputable abbrev pm(c:Cx):fP:=(fX Tryz.prog c).prgM
theorem Zzr(ok:c.Ok)(u:kd=.normal\/kd=.deferred){H:Hp}(B:H.cg=[19,1]):Vd (pw c i) kd 207 #[ptr c.W,.int .i64 (-1)] H λ_ g=>g=H.tagged (lv 0):=by
 have s:YI H.cg:=.inl (by rw[B];simp[cd]);refine aU.mK (P:=pw c i) u Zm0 rfl ?_;unfold Zfm;refine Z ?_;refine Ztj rfl rfl rfl (by decide) (Z ?_);refine Z9 rfl (Yl ok ZfV rfl (.inr rfl) s) ?_;rintro v m ⟨rfl,e⟩;rw[e];refine Z ?_;refine Zk Lp (vs:=[ptr c.W]) rfl (Zzu ok Lp B) ?_;rintro v _ ⟨rfl,rfl⟩;refine Z ?_;refine Zk U0 (vs:=[]) rfl (Zvl ok U0 (by rfl)) ?_;rintro v _ ⟨rfl,rfl⟩;refine Z ?_;refine Zfd (vs:=[]) rfl (Z ?_);refine Og ZmF (vs:=[]) rfl ?_;refine O5 (Z ?_);refine Oh u3 Zgx rfl (r:=18446744073709551615) rfl (Z ?_);refine Yh rfl rfl (.inr rfl) (by decide) (v:=.int .u64 18446744069414584320) rfl (Z ?_);refine Z7 (vs:=[ptr c.W,.int .u64 18446744069414584320]) rfl (Zgr rfl (Zvm ok ZfO (by rfl))) ?_;rintro v g ⟨n,wt,L,l,rfl,o⟩;refine Z ?_;refine Zl rfl rfl (.inl rfl) (Nf O l) (Z ?_);refine ZE rfl rfl rfl rfl (Z ?_);refine Yh rfl rfl (.inl rfl) (by decide) (Zeh l) (Z ?_);refine Oh QD Im rfl (Zed O) (Z ?_);refine Zl rfl rfl (.inl rfl) (Zeg O l) (Z ?_);refine Oh QD Zen rfl (Zec l) (Z ?_);refine Ku rfl rfl rfl (by decide) (Z ?_);refine Kv rfl rfl rfl O (Z ?_);have k:∀{t:List Ze} {σ:fG} {m:Hp},m=H.tagged (lv 1)->σ.gR=[{ target:=.fn (.func 269) #[],args:=#[] }]->Oe σ t=some []->t.any Ze.cell=false->VT (pw c i) t (λ_ g=>g=H.tagged (lv 0)) σ m:=by rintro t σ m rfl F G D;refine Zfr D G ?_;rw[F];refine Ziu Zgs ((Zuz Zv rfl).mono ?_);rintro v _ ⟨_,rfl⟩;rfl
 by_cases I:wt=0
 ·subst I;have q:g=H.tagged (lv 1):=by
   rcases o with⟨_,h⟩ | ⟨_,h,_⟩
   ·exact h
   simp at h
  refine ZE rfl rfl rfl rfl (Z ?_);by_cases w:n=0
  ·refine Ku rfl rfl rfl O (Z ?_);refine Yd rfl rfl rfl rfl (Z ?_);exact MM (k q rfl rfl rfl)
  refine Au rfl rfl rfl O (Z ?_);exact MM (k q rfl rfl rfl)
 have z:wt=1:=O;subst z;refine Yi rfl rfl rfl (by simp) (Z ?_);refine Ku rfl rfl rfl (by decide) (Z ?_);rcases o with⟨J,rfl⟩ | ⟨rfl,_,rfl⟩
 ·have w:n≠0:=O;refine Au rfl rfl rfl O (Z ?_);exact MM (k rfl rfl rfl rfl)
 refine Ku rfl rfl rfl (by decide) (Z ?_);refine ZK rfl rfl rfl (by decide) (Z ?_);refine Z7 (vs:=[ptr c.W]) rfl (Zej rfl (Zvk ok Lq (by rfl))) ?_;rintro v _ ⟨rfl,rfl⟩;refine Z ?_;refine ZE rfl rfl rfl rfl (Z ?_);refine Z7 (Post:=λv g=>v=Zx/\g=H.tagc [24]) (vs:=[ptr c.W,.int .u64 0]) rfl (ZnW rfl ((Zvi ok ZmA (by rfl)).mono λv H w=>⟨rfl,w.2⟩)) ?_;rintro v _ ⟨rfl,rfl⟩;refine Z ?_;refine XX (λ(j:Nat) g=>(j=1/\g=H.tagc [24])\/(j=0/\g=H.tagged (lv 1))) id (λj=>[(0,ptr c.W),(8,.int .u32 (j:Nat))]) (λ_=>[]) 1 (.inl ⟨rfl,rfl⟩) V trivial ?_;rintro j m (⟨rfl,rfl⟩ | ⟨rfl,rfl⟩)
 ·refine Z ?_;refine Yi rfl rfl rfl (by decide) (Z ?_);refine Zk ZmD (vs:=[.pointer (some ((gZ c.W).add 1)),.bool false,.int .i64 0]) rfl (Zvj ok ZmD rfl (by rfl)) ?_;rintro v _ ⟨rfl,rfl⟩;refine Z ?_;refine Zl rfl rfl (.inr (.inr (.inr rfl))) (v:=.int .u32 (0:Nat)) rfl (Z ?_);exact⟨0,by simp,.inr ⟨rfl,rfl⟩,V,trivial,rfl⟩
 refine Z ?_;refine ZE rfl rfl rfl rfl (Z ?_);exact Md (k rfl rfl rfl rfl)
theorem Zwe(ok:c.Ok)(a:kd=.normal\/kd=.deferred){H:Hp}(g:H.cg=[19,1]):Vd (pw c i) kd 209 #[ptr c.W] H λ_ e=>e=H.tagged (lv 0):=by refine aU.mK (P:=pw c i) a Zyj rfl ?_;unfold Zkr;refine Z ?_;refine Z7 (vs:=[ptr c.W,.int .i64 (-1)]) rfl (Zzr ok (.inl rfl) g).qP ?_;rintro v _ rfl;refine Z ?_;rfl
theorem Zzs(ok:c.Ok){H:Hp}(t:H.cg=[30,n]):LL.Zb (pm c) 207 #[ptr c.W,.int .i64 1] H λ_ h=>h=H.tagc [33,n]:=by
 refine aU.m (P:=pm c) Zm0 rfl ?_;unfold Zfm;refine Z ?_;refine Kv rfl rfl rfl (by decide) (Z ?_);refine Zk U0 (vs:=[]) rfl (Zuu ok U0 t) ?_;rintro v _ ⟨rfl,rfl⟩;refine Z ?_;refine Zfd (vs:=[]) rfl (Z ?_);refine Og ZmF (vs:=[]) rfl ?_;refine O5 (Z ?_);refine Oh u3 Zgx rfl (r:=1) rfl (Z ?_);refine Yh rfl rfl (.inr rfl) (by decide) (v:=.int .u64 4294967296) rfl (Z ?_);refine Z7 (vs:=[ptr c.W,.int .u64 4294967296]) rfl (Zgr rfl (Zux ok ZfO (n:=n) (by rfl))) ?_;rintro v _ ⟨k,w,rfl,rfl⟩;refine Z ?_;refine Zl rfl rfl (.inl rfl) (Nf O O) (Z ?_);refine ZE rfl rfl rfl rfl (Z ?_);refine Yh rfl rfl (.inl rfl) (by decide) (Zeh O) (Z ?_);refine Oh QD Im rfl (Zed O) (Z ?_);refine Zl rfl rfl (.inl rfl) (Zeg O O) (Z ?_);refine Oh QD Zen rfl (Zec O) (Z ?_);refine Au rfl rfl rfl (by decide) (Z ?_);refine Oh u3 Im rfl (r:=1) rfl (Z ?_);have e:∀{g:List Ze} {σ:fG} {j:Hp},j=H.tagc [32,n]->σ.gR=[{ target:=.fn (.func 269) #[],args:=#[] }]->Oe σ g=some []->g.any Ze.cell=false->VT (pm c) g (λ_ h=>h=H.tagc [33,n]) σ j:=by rintro g σ j rfl s u q;refine Zfr q u ?_;rw[s];refine Ziu Zgs ((Zus ok Zv rfl).mono ?_);rintro v _ ⟨_,rfl⟩;rfl
 by_cases o:k=0
 ·subst o;refine Yd rfl rfl rfl rfl (Z ?_);refine Z9 rfl (Ln ZmJ rfl (.inr rfl) (by simp[ZQ,cd])) ?_;rintro v _ ⟨rfl,rfl⟩;refine Z ?_;refine Zk ZmE (vs:=[.pointer (some ⟨c.W,1,none⟩)]) rfl (Zlr ok (.inl rfl) ZmE (.inl ⟨n,rfl⟩)) ?_;rintro v _ ⟨rfl,rfl⟩;refine Z ?_;refine Kv rfl rfl rfl (by decide) (Z ?_);refine ZE rfl rfl rfl rfl (Z ?_);refine Au rfl rfl rfl (by decide) (Z ?_);exact MM (e rfl rfl rfl rfl)
 refine ZK rfl rfl rfl O (Z ?_);refine Kv rfl rfl rfl O (Z ?_);refine ZE rfl rfl rfl rfl (Z ?_);refine Au rfl rfl rfl O (Z ?_);exact MM (e rfl rfl rfl rfl)
end
section
variable{c:Cx}
def Znu(c:Cx)(H e:Hp):Prop:=∃(l:List Nat) (a:Hp),c.PI l a/\(∀m,1<=m->m<=c.N->c.need m=true->m∈l)/\(∀m∈l,1<=m/\m<=c.N/\c.need m=true)/\l.Nodup/\a.gh=[]/\(H.tagc [40]).Comp a/\e=(H.tagc [40]).join a
def ZnK(h:n<=100000001):IntKind.u64.wrap ((mI n 0:Nat)+1)=((mI n 1:Nat):Int):=by
 have e:((mI n 0:Nat):Int)+1=((mI n 1:Nat):Int):=by unfold mI;omega
 rw[<-e,Zee O (by unfold mI;omega)]
def ZtF{P:fP}{d:Option Nat}{next:fG->Hp->Prop}{σ:fG}{H:Hp}{x y:Operand}{m n r:Int}(a:σ.get x=some (.int .u64 m))(e:σ.get y=some (.int .u64 n))(g:IntKind.u64.wrap (m+n)=r)(h:next (σ.set d (.int .u64 r)) H):(fR.fV .add x y).m P d next σ H:=
 Ya a e rfl (by subst g;exact h)
theorem ZnT(ok:c.Ok){H:Hp}(s:H.cg=[30,c.K])(h:H.hd=0):LL.Zb (pm c) 213 #[ptr c.W] H λ_ g=>Znu c H g:=by
 refine aU.m (P:=pm c) ZxV rfl ?_;unfold Zj3;refine Z ?_;refine Zk U0 (vs:=[]) rfl (Zut ok U0 s h) ?_;rintro v _ ⟨rfl,rfl⟩;refine Z ?_;refine XX (λ(j:Option Nat) g=>g=H.tagc (34 :: j.toList)) (λj=>j.getD 100000003) (λ_=>[(0,ptr c.W)]) (λ_=>[]) none rfl V trivial ?_;rintro j _ rfl;refine Z ?_;refine Z7 (vs:=[ptr c.W]) rfl (Zej rfl (Zuq ok Lq (l0:=j.toList) (by rfl))) ?_;rintro v g ⟨n,t,rfl,l,k⟩;refine Z ?_;refine Yh rfl rfl (.inl rfl) (by decide) (Zeh O) (Z ?_);refine Oh QD Im rfl (Zed O) (Z ?_);refine Zl rfl rfl (.inl rfl) (Zeg O O) (Z ?_);refine Oh QD Zen rfl (Zec O) (Z ?_);rcases k with⟨rfl,rfl⟩ | ⟨h,rfl⟩
 ·refine Yd rfl rfl rfl rfl (Z ?_);refine Zk Zv (vs:=[]) rfl (Zls ok Zv (by rfl)) ?_;rintro v _ ⟨rfl,rfl⟩;refine Z ?_;refine Z9 rfl (Ln ZfV rfl (.inl rfl) (by simp[ZQ,cd])) ?_;rintro v o ⟨rfl,e⟩;rw[e];refine Z ?_;refine Zk Zy (vs:=[ptr c.W]) rfl (Zlt ok Zy (by rfl)) ?_;rintro v q ⟨rfl,a⟩;refine Z ?_;refine Yd rfl rfl rfl rfl (Z ?_);refine Zl rfl rfl (.inl rfl) (Nf O O) (Z ?_);refine ZE rfl rfl rfl rfl (Z ?_);exact a
 refine ZK rfl rfl rfl O (Z ?_);refine ZtF rfl rfl (ZnK t) (Z ?_);refine Z7 (vs:=[ptr c.W,.int .u64 (mI n 0:Nat),.int .u64 (mI n 1:Nat)]) rfl (ZnV rfl (Zuw ok Zmz h (by rfl))) ?_;rintro v _ (⟨rfl,rfl⟩ | ⟨rfl,rfl⟩)
 ·refine Z ?_;refine Yd rfl rfl rfl rfl (Z ?_);refine Z9 rfl (Ln ZmJ rfl (.inr rfl) (by simp[ZQ,cd])) ?_;rintro v o ⟨rfl,e⟩;rw[e];refine Z ?_;refine Zk ZmC (vs:=[.pointer (some ⟨c.W,1,none⟩)]) rfl (Zlr ok (.inr rfl) ZmC (.inr rfl)) ?_;rintro v q ⟨rfl,e⟩;rw[e];refine Z ?_;refine Zl rfl rfl (.inl rfl) (Nf O O) (Z ?_);refine ZE rfl rfl rfl rfl (Z ?_);refine Zk ZmB (vs:=[.pointer (some ((gZ c.W).add 1)),.bool false]) rfl (Zuo ok ZmB rfl (by rfl)) ?_;rintro v _ ⟨rfl,rfl⟩;refine Z ?_;refine Z7 (vs:=[ptr c.W]) rfl (Zej rfl (Zup ok Lq (by rfl))) ?_;rintro v _ ⟨rfl,rfl⟩;refine Z ?_;refine ZE rfl rfl rfl rfl (Z ?_);refine Zk Zv (vs:=[]) rfl (Zls ok Zv (by rfl)) ?_;rintro v _ ⟨rfl,rfl⟩;refine Z ?_;refine Z9 rfl (Ln ZfV rfl (.inl rfl) (by simp[ZQ,cd])) ?_;rintro v w ⟨rfl,e⟩;rw[e];refine Z ?_;refine Zk Zy (vs:=[ptr c.W]) rfl (Zlt ok Zy (by rfl)) ?_;rintro v z ⟨rfl,a⟩;refine Z ?_;exact a
 refine Z ?_;refine⟨some n,?_,rfl,V,trivial,rfl⟩;cases j with
 | none=>simp;omega
 | some u=>exact l u rfl
end
end
end Go.Proofs
end
section
namespace Go.LL
section
variable{N K:Nat}{p:Program}
open Go.Conc
open Go.ConcN (sumTo upd sumTo_upd upd_ne upd_same)
noncomputable def NO(p:Program):fP:={ toProgram:=p,still:=λ_=>false,stillNil:=λ_ _=>rfl,toEnv:=Zv4 p }
def nR(N K a:Nat):Ts:={ tag:=λj=>if j=0 then[30,0]else[0],next:=a,more:=K,mu:=⟨0,0,0,0,0⟩,wg:=⟨0,0,0⟩,m9:=[],hd:=λj=>if j=0 then N+1 else 0,lK:=N,cls:=false,cn:=0 }
section
variable{c:Cx}
def Zn7{h:Nat}{g:Nat->Nat}(j:g 0=0)(a:g 30=0):Ct g (nR N K h).tag h=0:=by
 refine Ai λi _=>?_;by_cases e:i=0
 ·subst e;exact a
 simp only[nR,iF e];exact j
def Zn8(hb:1<=c.base):fY c (nR c.N c.K c.base):=by
 have z:∀g:Nat->Nat,g 0=0->g 30=0->Ct g (nR c.N c.K c.base).tag (nR c.N c.K c.base).next=0:=λg=>Zn7;have m:(nR c.N c.K c.base).tag 0=[30,0]:=rfl;have t:∀j,j≠0->(nR c.N c.K c.base).tag j=[0]:=λj s=>by simp[nR,s]
 refine⟨⟨?_,qBf 1,qBf 1,qBf 1,?_,λe=>by simp[nR]at e⟩,⟨?_,?_,?_,?_,?_,?_⟩,λj s=>?_,λv=>?_,λk n w hl=>?_,λj s hc=>?_,rfl,hb,DO _,λj o l=>t j O,λj o l=>?_,List.nodup_nil,λj s=>?_,λj o l=>?_,⟨λe=>by simp[nR]at e,λ_=>rfl⟩,DO _,λj o l=>?_,λj k o l=>?_,λq o l u=>?_,λ_ j o l=>?_,λh=>?_⟩
 ·exact(z Yz rfl rfl).symm
 ·intro _;rw[z cQ rfl rfl,z cR rfl rfl,z cT rfl rfl,z cA rfl rfl];exact⟨rfl,rfl,λ_ h=>by simp[nR]at h⟩
 ·show 0=Ct cW _ _+mP (cd [30,0]);rw[z cW rfl rfl];rfl
 ·show 30<=cd [30,0];simp[cd]
 ·intro h;rw[m]at h;simp[cd]at h
 ·intro h;rw[m]at h;simp[cd]at h
 ·intro _;exact⟨rfl,rfl,z cL rfl rfl,z cE rfl rfl⟩
 ·intro h;rw[m]at h;simp[cd]at h
 ·by_cases e:j=0
  ·subst e;rw[m];exact Mu.m5 (by simp[cd])
  rw[t j e];trivial
 ·rw[m];simp
 ·rw[m]at hl;simp at hl;show c.base=c.base+n;omega
 ·by_cases e:j=0
  ·subst e;rw[m]at hc;simp[cd]at hc
  rw[t j e]at hc;simp[cd]at hc
 ·have:j<c.base:=l;omega
 ·simp[nR]at s
 ·have:j<c.base:=l;omega
 ·have:j<c.base:=l;omega
 ·have:j<c.base:=l;omega
 ·have:q+c.N<=c.N:=l;omega
 ·have:j<c.base:=l;omega
 rw[m]at h;simp[cd]at h
end
structure PM(H:Hp)(M W ch:Nat)(tM tW:TypeId)(Hm Hl:Hp):Prop where
 ne:M≠W
 BX:ch≠M
 BW:ch≠W
 atC:H ch=some (.chan 0 #[] false 0 0 false,true)
 atM:H M=some (.cells #[.int .i32 (0:Nat),.int .u32 (0:Nat)] tM,true)
 atW:H W=some (.cells #[.int .u64 (0:Nat),.int .u32 (0:Nat)] tW,true)
 own:∀b x,Hm b=some x->H b=some x/\b≠M/\b≠W/\b≠ch/\Hl b=none
 nN:∀b x,Hl b=some x->H b=some x/\b≠M/\b≠W/\b≠ch
def ZoH{D:Hp}{gs:Array Goroutine}{w:World}{t:Trace}{q:Nat->Nat}(B:mC p D gs w t q){c:Cx}{Q A:Hp}(hS:PM D c.M c.W c.ch c.tM c.tW Q A)(Z:0<gs.size)(hb:c.base=gs.size)(hn:c.n0=t.size)(z:∀l,c.old l↔∃b,l.j0=some b/\zB t b)
  (F:c.PI [] A):ZU c (nR c.N c.K gs.size) ((kQ c (nR c.N c.K gs.size)).join A) t:=by
 have L:(nR c.N c.K gs.size).tag 0=[30,0]:=rfl;have tj:∀j,j≠0->(nR c.N c.K gs.size).tag j=[0]:=λj hj=>by simp[nR,hj]
 have u:∀j,c.live gs.size j->j=0:=λj hj=>by have:=hj.2;have:=hj.1;omega
 have o:∀q x a b y,t[q]? = some x->x.act.touch? = some a->a.loc.j0=some b->D b=some y->Knows t 0 q:=by intro q x a b y m k s hy;refine qAb λhn=>?_;have:=B.unk (b:=b) ⟨q,a,by rw[touchAt_of m];exact k,s,hn⟩;rw[hy]at this;simp at this
 refine⟨by rw[<-hb];exact Zn8 O,⟨O,O,?_,?_,?_,?_,?_,?_,?_,?_,?_⟩,λj hj hc=>?_,λh=>?_,.inr ⟨?_,A,rfl,⟨λb x y h1 h2=>?_,.inl rfl⟩,F⟩⟩
 ·intro q x m C;have:=lt_size_of_getElem? m;omega
 ·intro q x a m k hs;refine .inr λj hj=>?_;rw[u j hj];obtain⟨b,s,rfl | rfl⟩:=hs
  ·exact o q x a _ _ m k s hS.atM
  exact o q x a _ _ m k s hS.atW
 ·intro q x a b m k s hp;refine .inl λj hj=>?_;rw[u j hj];obtain⟨⟨y,hy⟩,R,S,T⟩:=hp;simp only[Hp.fW,Mh R S T]at hy;exact o q x a b y m k s (hS.nN b y hy).1
 ·intro q x a m k I h1 h2;have h2:x.g<gs.size:=h2;omega
 ·intro q x a m C k I;rcases B.past.known q a (by rw[touchAt_of m];exact k) I with h1 | ⟨⟨b,h1,_⟩,h2⟩
  ·exact .inl h1
  by_cases hk:Knows t 0 q
  ·exact .inl hk
  exact .inr ⟨h2,(z _).2 ⟨b,h1,q,a,by rw[touchAt_of m];exact k,h1,hk⟩⟩
 ·intro q x m C Y hc;obtain⟨j,h1,h2⟩:=B.past.over q x.g (by unfold Trace.g?;rw[m];rfl) Y hc;obtain⟨y,hy,G⟩:=qAD.1 h1;exact⟨j,y,hy,G,h2⟩
 ·intro q x a m C;have:=lt_size_of_getElem? m;omega
 ·intro q x m C;have:=lt_size_of_getElem? m;omega
 ·intro q x a m k s;exact o q x a _ _ m k s hS.atC
 ·obtain rfl:=u j hj;rw[B.past.hears];rfl
 ·rw[L]at h;simp[cd]at h
 ·rintro⟨j,hj,e⟩;by_cases e0:j=0
  ·subst e0;rw[L]at e;simp[cd]at e
  rw[tj j e0]at e;simp[cd]at e
 obtain⟨h3,U,V,X⟩:=hS.nN b y h2;rcases(Ux h1).1 with rfl | rfl | rfl
 ·exact absurd rfl U
 ·exact absurd rfl V
 exact absurd rfl X
def ZsP{R:Frame->List Frame->Hp->Prop}{fr:Frame}{cs:List Frame}{u:Hp}{M W ch:Nat}{tM tW:TypeId}{need:Nat->Bool}{PI:List Nat->Hp->Prop}{msg:Nat->Value->Hp->Prop}{U T:Hp}(hS:PM u M W ch tM tW U T)(hPI:PI [] T)
  (ok:∀base n0 old,Cx.Ok { M,W,ch,base,n0,old,tM,tW,K,need,PI,N,msg }) (hg:U.gh=[N+2,30,0])
  (L:∀base n0 old,1<=base->Reach (fX p { M,W,ch,base,n0,old,tM,tW,K,need,PI,N,msg }).prgM
   (λI G m=>m.gh=[1,40]/\∀C:Hp,C.gh=u.gh->(∀b,C b=none↔m b=none)->(∀b x y,C b=some x->m b=some y->x.1=y.1/\(y.2=true->x.2=true)/\((∃o,u b=some (o,true))->x.2=true)/\∀o,u b=some (o,false)->x.2=true->y.2=true)->R I G C) fr cs U):U5 p R fr cs u:=by
 refine ZsQ λgs w t q V h0=>?_
 have F:0<gs.size:=(qAC.1 h0).1
 let c:Cx:={ M,W,ch,base:=gs.size,n0:=t.size,old:=λl=>∃b,l.j0=some b/\zB t b,tM,tW,K,need,PI,N,msg }
 have B:c.Ok:=ok _ _ _
 have hS':PM u c.M c.W c.ch c.tM c.tW U T:=hS
 have hI:=ZoH (c:=c) V hS' F rfl rfl (λl=>qDe) hPI
 have mwx:∀b x,kQ c (nR c.N c.K gs.size) b=some x->u b=some x:=by
  intro b x h;rcases(Ux h).1 with rfl | rfl | rfl
  ·rw[P5 B.ne]at h;obtain rfl:=aT h;exact hS.atM
  ·rw[P6]at h;have e:U9 c (nR c.N c.K gs.size).wg=.cells #[.int .u64 (0:Nat),.int .u32 (0:Nat)] tW:=by simp[U9,nR,c]
   rw[e]at h;obtain rfl:=aT h;exact hS.atW
  rw[P4 B.BX B.BW]at h;have e:UF (nR c.N c.K gs.size)=.chan 0 #[] false 0 0 false:=rfl;rw[e]at h;obtain rfl:=aT h;exact hS.atC
 have Y:∀b x,((kQ c (nR c.N c.K gs.size)).join T) b=some x->u b=some x:=by
  intro b x h;simp only[Hp.fW]at h;cases s:kQ c (nR c.N c.K gs.size) b with
  | some z=>rw[s]at h;exact mwx b x (s.trans h)
  | none=>rw[s]at h;exact(hS.nN b x h).1
 refine⟨fX p c,nR c.N c.K gs.size,(kQ c (nR c.N c.K gs.size)).join T,U,_,⟨Zog B,hI,rfl,?_,λj h1 h2=>?_,λb o pm h=>V.le b o pm (hS.own b _ h).1,λb o pm h=>V.le b o pm (Y b _ h),λb x y h1 h2=>?_,λb x h=>.inr ⟨x,.inl (hS.own b x h).1,λ_=>rfl⟩,λb x h=>.inr ⟨x,.inl (Y b x h),λ_=>rfl⟩,?_,L gs.size t.size _ F,?_,?_⟩⟩
 ·show ZO (nR c.N c.K gs.size) 0=_;rw[hg];simp[ZO,qU,nR,cd,c]
 ·show ZO (nR c.N c.K gs.size) j=[0,0];simp[ZO,qU,nR,h1,cd]
 ·exfalso;obtain⟨h3,h4,h5,h5c,h6⟩:=hS.own b x h1;simp only[Hp.fW]at h2;cases s:kQ c (nR c.N c.K gs.size) b with
  | some z=>
   rcases(Ux s).1 with rfl | rfl | rfl
   ·exact h4 rfl
   ·exact h5 rfl
   exact h5c rfl
  | none=>rw[s,h6]at h2;simp at h2
 ·show U2 _;rw[hg];exact .inr (by simp[cd,ZV])
 ·rintro I G m ⟨J,_⟩ hc;have hc:3<=m.gh.headD 0/\_:=hc;rw[J]at hc;simp at hc
 ·rintro I G m s' mW t' w' ⟨J,hR⟩ X Z D B8 SF aD2 DN Wb aOE
  have k:ZU c s' mW t':=X
  have g:s'.tag 0=[40]:=(Lw (i:=0) ((show ZO s' 0=m.gh from Z).trans J) (by simp[cd,ZV])).1
  obtain⟨f1,f2⟩:=k.fin (by rw[g];rfl)
  have hMn:m M=none:=by
   cases s:m M with
   | none=>rfl
   | some y=>have:=D M _ _ s (k.atM B);rw[this.1]at this;simp at this
  have hWn:m W=none:=by
   cases s:m W with
   | none=>rfl
   | some y=>have:=D W _ _ s k.atW;rw[this.1]at this;simp at this
  refine⟨λj h1 h2=>?_,λi a h1 h2=>?_,f2,?_,?_⟩
  ·have e:s'.tag j=[0]:=by
    by_cases hb:c.base<=j
    ·exact k.cnt.over (by rw[g];simp[cd]) hb h2
    exact k.cnt.olds j O O
   show ZO s' j=[0,0];unfold ZO;rw[e];rfl
  ·obtain⟨x,Q,uF⟩:=touch_of h1;rcases f1 i x a Q uF h2 with h3 | ⟨h3,h4⟩
   ·exact .inl h3
   refine .inr ⟨h3,λb hb=>?_⟩;rcases h4 with⟨b',A,hu⟩ | ⟨b',A,h5⟩
   ·rw[hb]at A;obtain rfl:=aT A;refine⟨?_,.inl hu⟩;cases s:m b with
    | none=>rfl
    | some y=>
     exfalso;rcases Wb.nil s with h6 | ⟨z,hz,_⟩
     ·obtain⟨i2,a2,g1,g2,_⟩:=hu;obtain⟨x2,Ro,Rn⟩:=touch_of g1;exact absurd (PZ Rn g2 (V.past.seen x2 (mem_of_getElem? Ro))) O
     rw[V.unk hu]at hz;simp at hz
   rw[hb]at A;obtain rfl:=aT A;rcases h5 with rfl | rfl
   ·exact⟨hMn,.inr (.inr ⟨_,hS.atM⟩)⟩
   exact⟨hWn,.inr (.inr ⟨_,hS.atW⟩)⟩
  ·rw[k.deaf 0 ⟨k.cnt.next0,.inl rfl⟩ (by rw[g];simp[cd]),g];rfl
  classical
  let C:Hp:=⟨λb=>(m b).map λy=>(y.1,if(∃o,u b=some (o,true))then true else y.2),u.gh⟩
  have h2:∀b,C b=(m b).map λy=>(y.1,if(∃o,u b=some (o,true))then true else y.2):=λb=>rfl
  refine⟨C,rfl,λb x Q=>?_,hR C rfl (λb=>?_) λb x y Q hy=>?_⟩
  ·rw[h2]at Q;obtain⟨y,hy,rfl⟩:=qAD.1 Q;refine⟨y,hy,rfl,λe=>?_⟩;simp only at e;split at e
   ·rename_i h;exact .inr h
   exact .inl e
  ·rw[h2];simp
  rw[h2,hy]at Q
  obtain rfl:=aT Q
  refine⟨rfl,λe=>?_,λe=>?_,λo ho e=>?_⟩
  ·simp only;split
   ·rfl
   exact e
  ·simp only;rw[qAa e]
  simp only at e
  rwa [iF (by rintro⟨o',h⟩;rw[ho]at h;simp at h)]at e
end
section
open Go.Conc
structure Upg(H H' H2:Hp):Prop where
 gh:H2.gh=H.gh
 dom:∀b,H2 b=none↔H' b=none
 val:∀b x y,H2 b=some x->H' b=some y->x.1=y.1/\(y.2=true->x.2=true)/\((∃o,H b=some (o,true))->x.2=true)/\∀o,H b=some (o,false)->x.2=true->y.2=true
def aCH(b:Frame)(k:List Item)(a:Act)(g:Frame):Ex->Prop
 | .normal=>g=on b a k
 | .ret=>∃e,g=on b a (.code .ret :: e)
 | .exit id=>(∃e,exitTo id k=some e/\g=on b a e)\/(exitTo id k=none/\∃e,exitTo id e=none/\g=on b a (.code (.exit id) :: e))
theorem CH.spot{P:fP}{G:Frame->List Frame->Hp->Prop}{b:Frame}{k:List Item}{cs:List Frame}{e:Ex}{a:Act}{H:Hp}:CH P G b k cs e a H↔∀m,aCH b k a m e->Reach P G m cs H:=by
 cases e with
 | normal=>exact⟨λh m e=>by rw[show m=_ from e];exact h,λh=>h _ rfl⟩
 | ret=>exact⟨λh m ⟨g,e⟩=>by rw[e];exact h g,λh g=>h _ ⟨g,rfl⟩⟩
 | exit id=>
  refine⟨λh m e=>?_,λh=>⟨λg j=>h _ (.inl ⟨g,j,rfl⟩),λj g l=>h _ (.inr ⟨j,g,l,rfl⟩)⟩⟩;rcases e with⟨g,j,rfl⟩ | ⟨j,g,l,rfl⟩
  ·exact h.1 g j
  exact h.2 j g l
section
open Classical
noncomputable def Hp.RL(a H:Hp)(g:List Nat):Hp:=⟨λb=>if H b=none then none else a b,g⟩
noncomputable def Hp.AC(a H:Hp)(g:List Nat):Hp:=⟨λb=>if H b=none then a b else none,g⟩
theorem Hp.pC(a H:Hp)(g:List Nat)(b:Nat):a.RL H g b=if H b=none then none else a b:=rfl
theorem Hp.sN(a H:Hp)(g:List Nat)(b:Nat):a.AC H g b=if H b=none then a b else none:=rfl
def Hp.tU(a H:Hp){g g':List Nat}(k:a.gh=g++g')(l:g=[]\/g'=[]):a=(a.RL H g).join (a.AC H g')/\(a.RL H g).Comp (a.AC H g'):=by
 refine⟨Hp.ext' (λb=>?_) (by rw[Hp.gB];exact k),⟨λb x y h j=>?_,l⟩⟩
 ·simp only[Hp.fW,Hp.pC,Hp.sN];by_cases e:H b=none
  ·simp[e]
  simp only[e,qAq];cases a b<;>rfl
 rw[Hp.pC]at h;rw[Hp.sN]at j;by_cases e:H b=none
 ·simp[e]at h
 simp[e]at j
end
def ZvY{p:Program}{n1 n2:Zc}{Q:Ex->fG->Hp->Prop}{σ:fG}{H:Hp}{M W ch K N:Nat}{tM tW:TypeId}{need:Nat->Bool}{PI:List Nat->Hp->Prop}{msg:Nat->Value->Hp->Prop}{D S:Hp}(hS:PM H M W ch tM tW D S)(U:PI [] S)
  (ok:∀base n0 old,Cx.Ok { M,W,ch,base,n0,old,tM,tW,K,need,PI,N,msg })
  (I:∀base n0 old,1<=base->(Zc.seq n1 n2).m (fX p { M,W,ch,base,n0,old,tM,tW,K,need,PI,N,msg }).prgM (λe σ' H'=>H'.gh=[1,40]/\∀l:Hp,Upg H H' l->Q e σ' l) σ (D.tagged [N+2,30,0])):J6 (NO p) n1 n2 Q σ H:=by
 intro L m rd code act Ha hL tr r G b k cs qB s hG;obtain⟨ρ,A,e1,e2,e3,e4,e5,e6⟩:=r.mem;have B:∀b x,H b=some x->x.2=true->A b=none:=by
  intro b x h1 h2;cases u:A b with
  | none=>rfl
  | some y=>have:=(e2 b x y h1 u).2;rw[h2]at this;simp at this
 have j:∀b x,H b=some x->Ha b=some x:=λb x h=>by rw[e1];exact Hp.eN h
 have hlw:∀b x,S b=some x->x.2=true:=(ok 1 0 λ_=>False).own [] S U;have hSA:PM Ha M W ch tM tW ((D.tagged [N+2,30,0]).join (A.tagged [])) S:=by
  refine⟨hS.ne,hS.BX,hS.BW,j _ _ hS.atC,j _ _ hS.atM,j _ _ hS.atW,λb x h=>?_,λb x h=>⟨j _ _ (hS.nN b x h).1,(hS.nN b x h).2⟩⟩;simp only[Hp.fW,Hp.mZ]at h;cases u:D b with
  | some z=>
   rw[u]at h;obtain rfl:=aT h;obtain⟨h1,h2⟩:=hS.own b z u;exact⟨j _ _ h1,h2⟩
  | none=>
   rw[u]at h;have h:A b=some x:=h;refine⟨by rw[e1];exact Hp.fS e2 h,?_,?_,?_,?_⟩
   ·rintro rfl;rw[B _ _ hS.atM rfl]at h;simp at h
   ·rintro rfl;rw[B _ _ hS.atW rfl]at h;simp at h
   ·rintro rfl;rw[B _ _ hS.atC rfl]at h;simp at h
   cases hl:S b with
   | none=>rfl
   | some y=>rw[B _ _ (hS.nN b y hl).1 (hlw b y hl)]at h;simp at h
 refine .iW (ZsP (R:=Reach (NO p) G) hSA U ok (by simp[Hp.gB,Hp.tagged]) λbase n0 old hb=>?_);have F:(D.tagged [N+2,30,0]).Comp (A.tagged []):=⟨λb x y h1 h2=>e2 b x y (hS.own b x h1).1 h2,.inr rfl⟩;have rM:iI (fX p { M,W,ch,base,n0,old,tM,tW,K,need,PI,N,msg }).prgM.toPQ L m σ (D.tagged [N+2,30,0]) act ((D.tagged [N+2,30,0]).join (A.tagged [])):=
  ⟨r.size,r.defers,ρ,A.tagged [],rfl,F,e3,e4,e5,⟨e6.1,e6.2.1,.inr λ_=>rfl⟩⟩
 refine VP (P:=(fX p { M,W,ch,base,n0,old,tM,tW,K,need,PI,N,msg }).prgM) hL tr (Zc.s9 (λ_ _ _ h=>h) (I base n0 old hb)) rM _ b k cs ?_ ⟨s.kind,s.wI,s.nr⟩ ?_
 ·
  rintro iD kY T J hc ⟨V,hR⟩
  have hJ:J.gh=[]:=hc.gh.resolve_left (by rw[V];simp)
  refine⟨by rw[Hp.gB,V,hJ];rfl,λl g1 g2 g3=>?_⟩
  obtain⟨i1,i2⟩:=Hp.tU l T (g:=l.gh) (g':=[]) (by simp) (.inr rfl)
  rw[i1]
  refine Reach.up qB (hR _ (by exact g1) (λb=>?_) λb x y O hy=>?_) i2
  ·rw[Hp.pC];by_cases e:T b=none
   ·simp[e]
   simp only[e,qAq];rw[g2];simp only[Hp.fW];cases u:T b with
   | none=>exact absurd u e
   | some z=>simp
  ·rw[Hp.pC,iF (by rw[hy];simp)]at O;exact g3 b x y O (Hp.eN hy)
 rintro e a' T ⟨σ',w,r',V,hq⟩;rw[CH.spot];intro fr Wb;obtain⟨ρ',K1,f1,f2,f3,f4,f5,f6⟩:=r'.mem;have hK1:K1.gh=[]:=f2.gh.resolve_left (by rw[V];simp);refine .stop ⟨by rw[f1,Hp.gB,V,hK1];rfl,λl g1 g2 g3=>?_⟩;obtain⟨i1,i2⟩:=Hp.tU l w (g:=H.gh) (g':=A.gh) (by rw[g1,e1,Hp.gB]) e2.gh;have hk:∀b o,K1 b=some (o,true)->l.AC w A.gh b=some (o,true):=by
  intro b o h;have h0:w b=none:=by
   cases u:w b with
   | none=>rfl
   | some z=>have:=f2 b z _ u h;rw[this.1]at this;simp at this
  rw[Hp.sN,qAa h0];have h1:T b=some (o,true):=by rw[f1];exact Hp.fS f2 h
  cases h2:l b with
  | none=>rw[g2,h1]at h2;simp at h2
  | some x=>
   obtain⟨j1,j2,_⟩:=g3 b x _ h2 h1;rw[<-aT (show some (x.1,x.2)=some (o,true)by rw[j1,j2 rfl])]
 have X:iI (NO p).toPQ L m σ' (l.RL w H.gh) a' l:=by refine⟨r'.size,r'.defers,ρ',l.AC w A.gh,i1,i2,λd cs hd=>?_,f4,f5,⟨f6.1,λx O=>hk _ _ (f6.2.1 x O),.inr λ_=>rfl⟩⟩;obtain⟨t,ht⟩:=f3 d cs hd;exact⟨t,hk _ _ ht⟩
 have NV:Upg H w (l.RL w H.gh):=by
  refine⟨rfl,λb=>?_,λb x y O hy=>?_⟩
  ·rw[Hp.pC];by_cases e:w b=none
   ·simp[e]
   simp only[e,qAq];rw[g2,f1];simp only[Hp.fW];cases u:w b with
   | none=>exact absurd u e
   | some z=>simp
  rw[Hp.pC,iF (by rw[hy];simp)]at O;obtain⟨j1,j2,j3,j4⟩:=g3 b x y O (by rw[f1];exact Hp.eN hy);exact⟨j1,j2,λ⟨o,ho⟩=>j3 ⟨o,j _ _ ho⟩,λo ho=>j4 o (j _ _ ho)⟩
 have:=hG e a' l ⟨σ',_,X,hq _ NV⟩;exact CH.spot.1 this fr Wb
end
section
variable{p:Program}
open Go.Conc
def Zwr:V7 Vs:=λ_ _ _ _ _ h=>h
def ZwE{a:Frame}(h:p.funcs[a.fn]? = none)(e:a.todo=[]):a.catches p=false:=by unfold Frame.catches;rw[h,e]
theorem Zp2{c:Cx}{i:Nat}{f:FuncId}{fn:Func}{cap args:Array Value}{H:Hp}(A:p.funcs[f]? = some fn)(hb:fn.body.isSome=true)(B:(fn.name == "runtime.NumGoroutine")=false)
  (h:Vd ((fX p c).prgW i) .deferred f (args++cap) H λ_ g=>g.gh=lv 0):Reach ((fX p c).prgW i) Vs (YV p { target:=.fn (.func f) cap,args:=args }) [] H:=by
 have l:fn.body.isNone=false:=by simpa using hb
 have m:((fX p c).prgW i).funcs[f]? = some fn:=A;have k:∀g:Hp,g.gh=lv 0->Reach ((fX p c).prgW i) Vs { YV p { target:=.fn (.func f) cap,args:=args }with defers:=[] } [] g:=by intro g o;refine .iW ⟨by rw[o];simp[lv],.inl ⟨0,o,.inr ⟨rfl,{ frame:={ YV p { target:=.fn (.func f) cap,args:=args }with defers:=[] },callers:=[],status:=.finished,dying:=none },rfl,λw=>?_⟩⟩⟩;have z:Frame.catches p { YV p { target:=.fn (.func f) cap,args:=args }with defers:=[] }=false:=ZwE (by simp) rfl;have e:stepG p false (gG { YV p { target:=.fn (.func f) cap,args:=args }with defers:=[] } []) w=unwind p false { YV p { target:=.fn (.func f) cap,args:=args }with defers:=[] } [] none w:=rfl;rw[e];unfold unwind;simp only[z,oR,qAq];rfl
 refine .z7 (s:=invoke (.fn (.func f) cap) args) (Q:=λn _ g=>n=.enter f (args++cap)/\g=H) ?_ ?_
 ·simp only[invoke,callFunc,Zf,Vw,m,B,l,oR,qAq];exact⟨rfl,rfl⟩
 rintro n F ⟨rfl,rfl⟩;refine⟨Frame.enter p f (args++cap) .deferred,[{ YV p { target:=.fn (.func f) cap,args:=args }with defers:=[] }],λmain w G es q=>⟨seen p p.funcs.size es,?_,.inr rfl⟩,λg t=>?_⟩;rotate_left
 ·obtain⟨_,rfl⟩:=t;exact h Vs { YV p { target:=.fn (.func f) cap,args:=args }with defers:=[] } [] Zwr (by unfold XY KG;trivial) λv j D=>k j D
 have C:stepG p main (gG (YV p { target:=.fn (.func f) cap,args:=args }) []) w=callDeferred p { YV p { target:=.fn (.func f) cap,args:=args }with defers:=[] } [] none { target:=.fn (.func f) cap,args:=args } w:=by have:stepG p main (gG (YV p { target:=.fn (.func f) cap,args:=args }) []) w=unwind p main (YV p { target:=.fn (.func f) cap,args:=args }) [] none w:=rfl;rw[this];exact Mz rfl rfl
 refine C.trans ?_;exact(Oo rfl q).1 f _ rfl
end
section
open Go.Conc
section
variable{P:fP}{d:Option Nat}{next:fG->Hp->Prop}{σ:fG}{H:Hp}{x:Operand}
def Ztu{f:FuncId}{first cap:Array Value}{a:Array Operand}{k:Array TypeId}{ty:TypeId}{vs:List Value}(e:σ.get x=some (.func (.func f) first cap))(q:σ.gets a.toList=some vs){Post:Value->Hp->Prop}
  (h:Zm P (pure (.spawn { target:=.fn (.func f) cap,args:=first++vs.toArray })) false false H Post) (s:∀v l,Post v l->next (σ.set d v) l) :
  (fR.raw (.go { callee:=.value x,args:=a,argTypes:=k }) ty).m P d next σ H:=by
 obtain⟨o,h2⟩:=Ol q;have j:((Op.go { callee:=.value x,args:=a,argTypes:=k }).operands.all λx=>(σ.get x).isSome)=true:=by exact T6
 refine⟨j,.inr ?_⟩;have:execOp (λx=>(σ.get x).getD undef) (fL (.go { callee:=.value x,args:=a,argTypes:=k }) ty)=pure (.spawn { target:=.fn (.func f) cap,args:=first++vs.toArray }):=by obtain⟨a⟩:=a;have g:List.map (λx=>(σ.get x).getD undef) a=vs:=o;simp[execOp,fL,resolve,Deferred.ofValue,e,qBS,g]
 rw[this];exact h.mono s
end
end
end Go.LL
end
open Go Go.LL
namespace Go.Proofs
def Ub(w:N4->Bool):List (N4×Int)->Int
 | []=>0
 | (k,v) :: r=>(if w k then v else 0)+Ub w r
def ZgW(w:N4->Bool)(a:N4):∀m:List (N4×Int),Ub w (ZD m a (ZF m a+1))=Ub w m+if w a then 1 else 0
 | []=>by simp[ZD,Ub,ZF]
 | (k,v) :: r=>by
  rw[ZD,ZF];by_cases h:a=k
  ·subst h;rw[qAa rfl,qAa rfl,Ub,Ub];split<;>omega
  rw[iF h,iF h,Ub,Ub,ZgW w a r];omega
def Zll{α:Type}[DecidableEq α]{a:α}{w:Int}{p:α×Int}:∀{m:List (α×Int)},p∈ZD m a w->(p.1=a/\p.2=w)\/p∈m\/(p.1=a/\p.2=w)
 | [],h=>by rw[ZD]at h;rw[iO.1 h];exact .inl ⟨rfl,rfl⟩
 | (k,v) :: r,h=>by
  rw[ZD]at h;split at h
  ·rename_i e;rcases qAi.1 h with rfl | h
   ·exact .inl ⟨e.symm,rfl⟩
   exact .inr (.inl (qAm _ h))
  rcases qAi.1 h with rfl | h
  ·exact .inr (.inl (qAB ..))
  rcases Zll h with h | h | h
  ·exact .inl h
  ·exact .inr (.inl (qAm _ h))
  exact .inr (.inr h)
def Lx{α:Type}[DecidableEq α]{a:α}:∀{m:List (α×Int)},(∀p∈m,0<=p.2)->0<=ZF m a
 | [],_=>qAO _
 | (k,v) :: r,h=>by
  rw[ZF];split
  ·exact h (k,v) (qAB ..)
  exact Lx λp e=>h p (qAm _ e)
instance (c:Cx)(i:Nat):Tz (pw c i):=⟨rfl⟩
def Zol:Yw Tryz.prog 332=some (2,some (.agg #[.int .i32 0,.int .u32 0]),8):=U
def Zok:Yw Tryz.prog 339=some (2,some (.agg #[.int .u64 0,.int .u32 0]),16):=U
noncomputable abbrev PP:fP:=NO Tryz.prog
noncomputable instance:Tz PP:=⟨rfl⟩
noncomputable instance:Loud PP:=⟨λ_=>rfl⟩
instance (c:Cx):Tz (pm c):=⟨rfl⟩
instance (c:Cx):Loud (pm c):=⟨λ_=>rfl⟩
def ZlQ{a:N4}:∀{m:List (N4×Int)},(∀p∈m,0<=p.2)->ZF m a<=Ub (λ_=>true) m
 | [],_=>qAO _
 | (k,v) :: r,h=>by have g:=h (k,v) (qAB ..);have j:=ZlQ (a:=a) λp e=>h p (qAm _ e);have l:=Lx (a:=a) λp e=>h p (qAm (k,v) e);rw[ZF,Ub,qAa rfl];simp only at g;split<;>omega
def Vb(H e:Hp):Prop:=∀b o p,H b=some (o,p)->∃a,e b=some (o,a)/\(a=true->p=true)
def Vb.trans{H g a:Hp}(h:Vb H g)(j:Vb g a):Vb H a:=λb o p hb=>by obtain⟨s,k,l⟩:=h b o p hb;obtain⟨t,m,q⟩:=j b o s k;exact⟨t,m,λe=>l (q e)⟩
theorem fI.lY{H a:Hp}(h:fI H a):Vb H a:=λb o p hb=>⟨p,h _ _ hb,id⟩
def Vb.refl(H:Hp):Vb H H:=(fI.refl H).lY
def _root_.Go.LL.aM.lY{H e:Hp}{a:Addr}{cs:List Value}(h:aM H a cs)(m:Vb H e):aM e a cs:=by obtain⟨g,o,p,j,k⟩:=h;obtain⟨q,l,_⟩:=m _ _ _ j;exact⟨g,o,q,l,k⟩
def dF.lY{α:Type}[Enc α]{H e:Hp}{v:Value}{l:List α}(h:dF H v l)(q:Vb H e):dF e v l:=by obtain⟨A,c,g,j⟩:=h;refine⟨A,c,g,λo=>?_⟩;obtain⟨a,k,m⟩:=j o;exact⟨a,k,m.lY q⟩
def C8(H:Hp)(g:List Nat):Hp:=⟨λb=>(H b).map λx=>(x.1,false),g⟩
theorem ZeN(H:Hp)(g:List Nat)(b:Nat):C8 H g b=(H b).map λx=>(x.1,false):=rfl
def ZhE(H:Hp)(g:List Nat):Vb H (C8 H g):=λb o p hb=>⟨false,by rw[ZeN,hb];rfl,by simp⟩
def ZhD(H:Hp)(g:List Nat):(C8 H g).Less H:=λb o pm hb=>by rw[ZeN]at hb;obtain⟨x,e,a⟩:=qAD.1 hb;obtain⟨j,h⟩:=x;simp only[qAX]at a;obtain⟨rfl,rfl⟩:=a;exact⟨h,e,by simp⟩
def ZpL(H:Hp)(g h:List Nat):(C8 H g).Dis (C8 H h):=λb x y a e=>by rw[ZeN]at a e;rw[a]at e;obtain rfl:=aT e;obtain⟨z,j,rfl⟩:=qAD.1 a;exact⟨rfl,rfl⟩
def Al(H:Hp)(g:List Nat):Vb H (H.tagged g):=Vb.refl H
section
variable{α:Type}{r:Nat}{E:TypeId}
section
variable{P:fP}[Tz P][Loud P]{H:Hp}
def CA(a b g e:Int):LL.Zb P 72 #[.agg #[vi a,vi b],vi g,vi e] H λv h=>H=h/\v=vb (decide (g<=a/\a<=b/\b<=e)):=by refine aU.m (fO Zxh) rfl ?_;unfold Zjp;exact TM
def Zz1{u w:Value}{a b:List Int}(l:dF H u a)(hb:dF H w b)(D:a.length<=1000000)(z:b.length<=1000000):LL.Zb P 104 #[u,w] H λv h=>H=h/\v=vb (decide (a=b)):=by
 refine aU.m (fO c25) rfl ?_;unfold n25;refine Y ?_;refine YH l rfl (Y ?_);refine YH hb rfl ?_;refine OJ (λo=>?_) (λo=>?_)
 ·refine Y ?_;exact⟨rfl,by rw[qAU (show ¬ a=b by rintro rfl;exact o rfl)];rfl⟩
 have s:a.length=b.length:=O;refine Y ?_;refine ZC a.length (λj h=>H=h/\a.take j=b.take j) (λj=>[(0,u),(1,w),(5,vi j)]) (λ_=>[]) ⟨rfl,rfl⟩ V trivial ?_;rintro j _ C ⟨rfl,e⟩;refine Y ?_;refine YH l rfl ?_;refine OJ (λt=>?_) (λt=>?_)
 ·have g:j<a.length:=O;refine Y ?_;refine ZB j l g λp A=>Y ?_;refine Z8 A (Y ?_);refine ZB j hb O λq B=>Y ?_;refine Z8 B ?_;refine OJ (λk=>?_) (λk=>?_)
  ·refine Y ?_;exact⟨rfl,by rw[qAU (show ¬ a=b by rintro rfl;exact k rfl)];rfl⟩
  refine Y ?_;exact⟨⟨j+1,O⟩,gI O,⟨rfl,by rw[BY g,BY (show j<b.length by omega),e,k]⟩,V,trivial,rfl⟩
 have:j=a.length:=O;subst this;rw[qAh,qAH O]at e;refine Y ?_;exact⟨rfl,by rw[decide_eq_true e];rfl⟩
end
def mG{H:Hp}{a:Addr}{cs ds:List Value}{n:Nat}(h:aM H a cs)(e:cs.drop n=ds):aM H (a.add n) ds:=by subst e;obtain⟨g,o,p,k,l⟩:=h;refine⟨XD g _,o,p,by rw[MB];exact k,λj m=>?_⟩;rw[List.length_drop]at m;rw[MC,qCW,l _ O,qBq]
def N8[Enc α]{H:Hp}{l:List α}(a:H r=none):gL H (H.ins r (.cells (Zd l).toArray E)) E (.slice (some ⟨r,0,none⟩) l.length l.length) l (some r):=
 ⟨⟨Y7 l,.inr ⟨r,l.length,[],rfl,rfl,by rw[qAl];exact Hp.aQ _ _ _,by rw[qAl];exact Y7 l,DO _⟩⟩,λg e=>by obtain rfl:=aT e;exact a⟩
def N9[Enc α]{H:Hp}(a:H r=none):gL H (H.ins r (.cells #[] E)) E (.slice (some ⟨r,0,none⟩) 0 0) ([]:List α) (some r):=N8 (l:=([]:List α)) a
def kV{H:Hp}{v:Value}:dF (H.ins r (.cells [v].toArray E)) (.slice (some ⟨r,0,none⟩) 1 1) [v]:=Z3 (l:=[v])
def qK{H:Hp}{x:Int}:dF (H.ins r (.cells [vi x].toArray E)) (.slice (some ⟨r,0,none⟩) 1 1) [x]:=Z3 (l:=[x])
def m6{β:Type}{f:α->List β}{l:List α}{j:Nat}(a:j<l.length):(l.take (j+1)).flatMap f=(l.take j).flatMap f++f l[j]:=by rw[BY a,qDb];simp
def HD{α β:Type}{f:α->List β}{k:Nat}:∀{l:List α},(∀x∈l,(f x).length<=k)->(l.flatMap f).length<=l.length * k
 | [],_=>by simp
 | a :: l,h=>by have g:=h a (qAB ..);have j:=HD (f:=f) (k:=k) (l:=l) λx e=>h x (qAm _ e);rw[qAI,IN,qAF,qBx];omega
end
def ZmL{l:List Int}(h:l.Pairwise (·<=·)):∀n,n<=l.length->(iY l n).Pairwise (·<·)/\(∀z,z∈iY l n↔z∈l.take n)/\(∀z∈iY l n,z<=el l (n-1))
 | 0,_=>⟨.nil,λz=>by simp[iY],λz e=>by simp[iY]at e⟩
 | n+1,G=>by
  obtain⟨s,t,m⟩:=ZmL h n O;have g:∀i j,i<=j->j<l.length->el l i<=el l j:=by
   intro i j F u;rw[V1 O,V1 u];rcases qBh i j with o | o
   ·exact qCd.1 h i j O u o
   have:i=j:=O;subst this;exact qAO _
  rw[Am O];by_cases q:n=0
  ·subst q;rw[ZmM];exact⟨qBV _ _,λz=>by simp,λz e=>by rw[iO.1 e];exact qAO _⟩
  by_cases k:el l n=el l (n-1)
  ·rw[ZfX q k];refine⟨s,λz=>?_,λz e=>?_⟩
   ·rw[t,qAj,iO];constructor
    ·exact .inl
    rintro(e | rfl)
    ·exact e
    rw[k];have w:n=(n-1)+1:=O;rw[w,Am O];simp
   have:=m z e;rw[qBE,k];exact this
  rw[ZfW k];refine⟨?_,λz=>?_,λz e=>?_⟩
  ·rw[qCS];refine⟨s,qBV _ _,λa C c D=>?_⟩;rw[iO.1 D];have A:=m a C;have B:=g (n-1) n O O;omega
  ·rw[qAj,t,qAj]
  rw[qBE];rcases qAj.1 e with e | e
  ·have A:=m z e;have B:=g (n-1) n O O;omega
  rw[iO.1 e];exact qAO _
