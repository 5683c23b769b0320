import Derived.Test.YtlhomfgcibjccaaGreatDoorP16
import Derived.Test.YtlhomfgcibjccaaGreatDoorP17
import Derived.Test.YtlhomfgcibjccaaGreatDoorP23
set_option linter.all false
set_option maxHeartbeats 1000000
section
open Go Go.LL
namespace Go.Proofs
section
variable{w:Value}{r dI j i:Nat}
def YM(a b:Int):Int:=if a<b then -1 else if b<a then 1 else 0
def VJ:List Int->List Int->Int
 | [],[]=>0
 | [],_ :: _=>-1
 | _ :: _,[]=>1
 | x :: a,y :: b=>if YM x y≠0 then YM x y else VJ a b
section
variable{P:aX}[Tz P][Loud P]{H:Hp}
def Zvs(m n:Int):LL.Zc P 162 #[vi m,vi n] H λv f=>H=f/\v=vi (YM m n):=by
 refine aJ.m (bG ZvU) (args:=[vi m,vi n]) rfl ?_;unfold Zjh;refine Y ?_;refine ZW (vs:=[vi m]) rfl (Kj m) ?_;rintro v _ ⟨rfl,rfl⟩;refine Y ?_;refine ZW (vs:=[vi n]) rfl (Kj n) ?_;rintro v _ ⟨rfl,rfl⟩;refine OJ (λa=>?_) (λa=>?_)
 ·refine Y ?_;exact⟨rfl,by rw[YM,iF a];rfl⟩
 refine OJ (λe=>?_) (λe=>?_)
 ·refine Y ?_;exact⟨rfl,by rw[YM,aT a,iF e];rfl⟩
 refine Y ?_;exact⟨rfl,by rw[YM,aT a,aT e];rfl⟩
def Tv{u:Value}{a b:List Int}(A:aF H u a)(hb:aF H w b)(M:a.length<=1000000)(D:b.length<=1000000)(h:P.still H.gh=false):LL.Zc P 117 #[u,w] H λv o=>H=o/\v=vi (VJ a b):=by
 refine aJ.m (bG Zv9) (args:=[u,w]) rfl ?_;unfold Zjw;refine Y ?_;refine YE A rfl (Y ?_);refine Zv a.length (λj o=>H=o/\j<=b.length/\VJ a b=VJ (a.drop j) (b.drop j)) (λj=>[(0,u),(1,w),(9,u),(10,vi a.length),(11,vi j)]) (λ_=>[]) ⟨rfl,qAI _,rfl⟩ V trivial ?_;rintro j _ J ⟨rfl,C,e⟩;refine OJ (λB=>?_) (λB=>?_)
 ·have g:j<a.length:=O;rw[yT g]at e;refine Y ?_;refine pN A rfl rfl rfl (i:=j) g λp F=>Y ?_;refine Zh h rfl F (Y ?_);refine YE hb rfl ?_;refine OJ (λs=>?_) (λs=>?_)
  ·refine Y ?_;have:b.drop j=[]:=qBw O;rw[this]at e;exact⟨rfl,by rw[e];rfl⟩
  have f:j<b.length:=O;rw[yT f,VJ]at e;refine Y ?_;refine pN hb rfl rfl rfl (i:=j) f λq I=>Y ?_;refine Zh h rfl I (Y ?_);refine ZW (vs:=[vi a[j],vi b[j]]) rfl (Zvs _ _) ?_;rintro v _ ⟨rfl,rfl⟩;refine OJ (λt=>?_) (λt=>?_)
  ·refine Y ?_;rw[iF t]at e;exact⟨rfl,by rw[e];rfl⟩
  refine Y ?_;rw[aT (by simpa using t)]at e;exact⟨⟨j+1,O⟩,bN O,⟨rfl,f,e⟩,V,trivial,rfl⟩
 have:j=a.length:=O;subst this;rw[qDs]at e;refine Y ?_;refine YE A rfl (Y ?_);refine YE hb rfl ?_;refine OJ (λs=>?_) (λs=>?_)
 ·refine Y ?_;rw[yT (l:=b) (j:=a.length) O]at e;exact⟨rfl,by rw[e];rfl⟩
 refine Y ?_;rw[qBw O]at e;exact⟨rfl,by rw[e];rfl⟩
end
def dJ{α:Type}(kv:α->Value):Nat->List (α×Int)->List MapEntry
 | _,[]=>[]
 | b,(k,v) :: r=>⟨kv k,vi v,b⟩ :: dJ kv (b+1) r
def YF{α:Type}(kv:α->Value)(m:List (α×Int)):Obj:=.map (dJ kv 0 m).toArray m.length
def YG{α:Type}[DecidableEq α]:List (α×Int)->α->Nat->Option (Nat×Value)
 | [],_,_=>none
 | (k,v) :: r,a,i=>if a=k then some (i,vi v)else YG r a (i+1)
def ZC{α:Type}[DecidableEq α]:List (α×Int)->α->Int
 | [],_=>0
 | (k,v) :: r,a=>if a=k then v else ZC r a
def Zx{α:Type}[DecidableEq α]:List (α×Int)->α->Int->List (α×Int)
 | [],a,w=>[(a,w)]
 | (k,v) :: r,a,w=>if a=k then(k,w) :: r else(k,v) :: Zx r a w
section
variable{α:Type}[DecidableEq α]{kv:α->Value}
def Wo:∀(b:Nat) (m:List (α×Int)) (a:α) (w:Int),dJ kv b (m++[(a,w)])=dJ kv b m++[⟨kv a,vi w,b+m.length⟩]
 | b,[],a,w=>by simp[dJ]
 | b,(k,v) :: r,a,w=>by simp only[qBG,dJ,Wo (b+1) r a w,qAs];congr 4;omega
def Xb:∀(m:List (α×Int)) (a:α) (i:Nat),(match YG m a i with | some (_,v)=>v | none=>vi 0)=vi (ZC m a)
 | [],a,i=>rfl
 | (k,v) :: r,a,i=>by
  simp only[YG,ZC];by_cases h:a=k
  ·rw[iF h,iF h]
  rw[aT h,aT h];exact Xb r a (i+1)
theorem Xd:∀(m:List (α×Int)) (a:α) (b i j:Nat) (v:Value) (w:Int),YG m a i=some (j,v) ->
  i<=j/\∃e,(dJ kv b m)[j-i]? = some e/\e.key=kv a/\v=vi (ZC m a)/\e.born=b+(j-i)/\(dJ kv b m).modify (j-i) (λe=>{ e with key:=kv a,val:=vi w })=dJ kv b (Zx m a w)/\(Zx m a w).length=m.length
 | [],a,b,i,j,v,w,h=>by simp[YG]at h
 | (k,u) :: r,a,b,i,j,v,w,h=>by
  rw[YG]at h;by_cases f:a=k
  ·subst f;rw[iF rfl]at h;simp only[qAe,qBD]at h;obtain⟨rfl,rfl⟩:=h;refine⟨dO _,_,by rw[qCv,dJ,qAV],rfl,by rw[ZC,iF rfl],by simp,?_,by rw[Zx,iF rfl];rfl⟩;rw[qCv,Zx,iF rfl,dJ,dJ];rfl
  rw[aT f]at h;obtain⟨A,e,o,p,q,B,s,t⟩:=Xd r a (b+1) (i+1) j v w h;have g:j-i=(j-(i+1))+1:=O;refine⟨O,e,?_,p,by rw[ZC,aT f];exact q,O,?_,by rw[Zx,aT f,qAs,qAs,t]⟩
  ·rw[g,dJ,qAT];exact o
  rw[g,Zx,aT f,dJ,dJ,<-s];rfl
def Xc:∀(m:List (α×Int)) (a:α) (i:Nat) (w:Int),YG m a i=none->Zx m a w=m++[(a,w)]/\ZC m a=0
 | [],a,i,w,h=>⟨rfl,rfl⟩
 | (k,u) :: r,a,i,w,h=>by
  rw[YG]at h;split at h
  ·simp at h
  rename_i e;obtain⟨f,g⟩:=Xc r a (i+1) w h;exact⟨by rw[Zx,aT e,f];rfl,by rw[ZC,aT e];exact g⟩
end
structure Iq{α:Type}[DecidableEq α](P:PQ)(T:TypeId)(kv:α->Value):Prop where
 chk:∀(b:Bool) (a:α) {Q:Unit->Bool->Hp->Prop} {g:Bool} {H:Hp},Q () g H->bL P (Instr.checkKey b 10000 T (kv a)) Q g H
 Gx:∀(m:List (α×Int)) (a:α) {Q:Option (Nat×Value)->Bool->Hp->Prop} {g:Bool} {H:Hp},Q (YG m a 0) g H->bL P (Instr.findKey T (kv a) (dJ kv 0 m)) Q g H
 ML:∀a:α,Instr.sameBits 10000 (kv a) (kv a)=true
section
variable{P:aX}{d:Option Nat}{next:aM->Hp->Prop}{σ:aM}{H:Hp}{x y z:Operand}{v:Value}{ty:TypeId}{α:Type}[DecidableEq α]{kv:α->Value}{T K E:TypeId}
def ZsU(a:P.still H.gh=false)(h:∀r,H r=none->next (σ.set d (.map (some r))) (H.ins r (YF kv []))):(bE.raw (.makeMap T none) ty).m P d next σ H:=by refine YS (by simp[Op.operands]) (s:=Instr.makeMap T none) (by simp[execOp,aR]) ?_;simp only[Instr.makeMap,newObj,Zg,Zj];exact⟨a,λr e=>h r e⟩
def Ji{m:List (α×Int)}{a:α}{pm:Bool}(t:P.toProgram.underlying T=some (.map K E))(o:Iq P.toPQ K kv)(C:TI P.toProgram E 1 (vi 0) dI)(f:σ.get x=some (.map (some r)))(g:σ.get y=some (kv a))(q:H r=some (YF kv m,pm))(e:P.still H.gh=false)
  (h:next (σ.set d (vi (ZC m a))) H):(bE.raw (.lookup T x y false) ty).m P d next σ H:=by
 obtain⟨B,u,D,A,F⟩:=C.ex;refine YS (by simp[Op.operands,f,g]) (s:=Instr.lookup T (.map (some r)) (kv a) false) (by simp[execOp,aR,f,g]) ?_;simp only[Instr.lookup,Zg,Zw t];refine⟨_,_,⟨e,q⟩,rfl,rfl,?_⟩;rw[YF,bL];simp only[Zg,Zj];refine o.chk _ _ ?_;refine o.Gx m a ?_;have:=Xb m a 0;cases hf:YG m a 0 with
 | none=>
  rw[hf]at this;simp only at this ⊢;simp only[Zg,UC u A,Zj,DO,qAw];rw[this];exact h
 | some p=>
  rw[hf]at this;simp only at this ⊢;simp only[Zg,Zj,DO,qAw];rw[this];exact h
end
def yR{α β:Type}[Enc α][Enc β]{G h a:Hp}{E B:TypeId}{v:Value}{l:List α}{o:List β}{C O:Option Nat}(I:aL G h)(m:dD G h E v l C)(s:aL h a)(F:dD h a B w o O):∃g,aL G g/\aL g a/\dD g a E v l C/\aF g w o:=by
 have f:aL G a:=I.trans s;obtain⟨Q,⟨u,A,M⟩ | ⟨r,cap,rest,u,A,M,R,U⟩⟩:=F.own
 ·have:o=[]:=qAb A;subst this;exact⟨G,.refl G,f,m.inc s,by rw[u];exact .nil G⟩
 have J:=F.fresh r u;have q:G r=none:=YL I J;refine⟨G.ins r (.cells (Zb o++rest).toArray B),Zs q,λb x hb=>?_,⟨(m.inc s).own,λN e=>?_⟩,_,cap,A,λ_=>⟨_,rfl,YN VK⟩⟩
 ·by_cases e:b=r
  ·subst e;rw[Hp.aG]at hb;obtain rfl:=iO hb;exact M
  rw[Hp.aH _ _ e]at hb;exact f b x hb
 have t:N≠r:=by
  rintro rfl;obtain⟨_,⟨_,_,p⟩ | ⟨V,_,_,p,_,D,_⟩⟩:=m.own
  ·rw[p]at e;simp at e
  rw[p]at e;obtain rfl:=iO e;rw[J]at D;simp at D
 rw[Hp.aH _ _ t];exact m.fresh N e
def UP(m n:Nat):List Nat:=(List.range n).filter λi=>m.testBit i
def ZtG(m n:Nat):UP m (n+1)=UP m n++if m.testBit n then[n]else[]:=by rw[UP,qBs,qBS,UP];congr 1;cases h:m.testBit n<;>simp[h]
def YK(m n:Nat):List Int:=(UP m n).map λ(i:Nat)=>(i:Int)
def Kq(m n:Nat):(UP m n).length<=n:=by have:=qBd (λi=>m.testBit i) (List.range n);rwa [qBF]at this
def ZoK{m:Nat}(a:j<=64):Zy .shr .i64 (m:Int) (j:Int)=vi ((m / 2 ^ j:Nat):Int):=by show Value.int .i64 (Int.fdiv (m:Int) (2 ^ min (j:Int).toNat 64))=_;have e:min (j:Int).toNat 64=j:=O;rw[e];congr 1;rw[qCS _ (by exact Int.le_of_lt (Int.pow_pos (by decide)))];simp
def Zyd{x:Nat}(g:x<9223372036854775808):Zy .and .i64 (x:Int) 1=vi ((x % 2:Nat):Int):=by
 have a:(BitVec.ofInt 64 (x:Nat)).toNat=x:=by simp[qDD];omega
 have e:(BitVec.ofInt 64 (1:Int)).toNat=1:=rfl;have f:(BitVec.ofInt 64 (x:Nat) &&& BitVec.ofInt 64 1).toNat=x % 2:=by rw[qDt,a,e,Nat.and_one_is_mod]
 show Value.int .i64 (IntKind.i64.wrap ((BitVec.ofInt 64 (x:Nat) &&& BitVec.ofInt 64 1).toNat:Nat))=_;rw[f,Uk ⟨O,O⟩]
def Zm6(m j:Nat):(m / 2 ^ j % 2=1)↔m.testBit j=true:=by rw[Nat.testBit_eq_decide_div_mod_eq];simp
theorem ZoO{n:Nat}(h:n<=3):Zy .shl .i64 1 (n:Int)=vi ((2 ^ n:Nat):Int):=by
 match n,h with
 | 0,_=>rfl
 | 1,_=>rfl
 | 2,_=>rfl
 | 3,_=>rfl
def T5{α:Type}[DecidableEq α]:∀(m:List (α×Int)) (a:α) (w:Int) (c:α),ZC (Zx m a w) c=if c=a then w else ZC m c
 | [],a,w,c=>by simp[Zx,ZC]
 | (k,v) :: r,a,w,c=>by
  rw[Zx];by_cases h:a=k
  ·subst h;rw[iF rfl,ZC,ZC];by_cases e:c=a
   ·rw[iF e,iF e]
   rw[aT e,aT e,aT e]
  rw[aT h,ZC,ZC,T5 r a w c];by_cases e:c=k
  ·subst e;rw[iF rfl,iF rfl,aT (qAF h)]
  rw[aT e,aT e]
def EL(a b:N4):uW a b=true↔a=b:=by obtain⟨e,f,a3,a4⟩:=a;obtain⟨g,h,m,o⟩:=b;simp[uW]
instance:DecidableEq N4:=λa b=>if h:uW a b=true then .isTrue ((EL a b).1 h)else .isFalse λe=>h ((EL a b).2 e)
theorem ZuS{len:Nat}{E:TypeId}{k:N4}:∀(m:List (N4×Int)) (b i:Nat),Instr.findNow (.array len E) (Zu k) (dJ Zu b m) i=(if m=[]then some none else none)
 | [],b,i=>rfl
 | (a,v) :: r,b,i=>rfl
section
variable{P:aX}[Tz P]
def Xa{k:N4}{Q:Option (Nat×Value)->Bool->Hp->Prop}{g:Bool}{H:Hp}:∀(m:List (N4×Int)) (b i:Nat),Q (YG m k i) g H->bL P.toPQ (Instr.findAsking 105 (Zu k) (dJ Zu b m) i) Q g H
 | [],b,i,h=>by simpa[dJ,Instr.findAsking,YG,Zj]using h
 | (a,v) :: r,b,i,h=>by
  simp only[dJ,Instr.findAsking,Zg];show bL P.toPQ (Op.equalIn (9998+1+1) 105 (Zu k) (Zu a)) _ g H;refine Hy _ ?_;rw[YG]at h;by_cases e:k=a
  ·rw[iF e]at h;rw[(EL k a).2 e];simpa[Zj]using h
  rw[aT e]at h;have:uW k a=false:=by
   cases f:uW k a with
   | false=>rfl
   | true=>exact absurd ((EL k a).1 f) e
  rw[this];simp only[DO,qAw];exact Xa r (b+1) (i+1) h
def QJ:Iq (α:=N4) P.toPQ 105 Zu where
 chk:=λb a Q g H h=>by
  have t:∀(x y z u:Int) (Q:Value->Bool->Hp->Prop) g H,bL P.toPQ (part 3 #[vi x,vi y,vi z,vi u] 0) Q g H↔Q (vi x) g H:=λx y z u Q g H=>Vo rfl Q;have A:∀(x y z u:Int) (Q:Value->Bool->Hp->Prop) g H,bL P.toPQ (part 3 #[vi x,vi y,vi z,vi u] 1) Q g H↔Q (vi y) g H:=λx y z u Q g H=>Vo rfl Q;have B:∀(x y z u:Int) (Q:Value->Bool->Hp->Prop) g H,bL P.toPQ (part 3 #[vi x,vi y,vi z,vi u] 2) Q g H↔Q (vi z) g H:=λx y z u Q g H=>Vo rfl Q;have C:∀(x y z u:Int) (Q:Value->Bool->Hp->Prop) g H,bL P.toPQ (part 3 #[vi x,vi y,vi z,vi u] 3) Q g H↔Q (vi u) g H:=λx y z u Q g H=>Vo rfl Q;have F:∀(v:Int) (Q:Unit->Bool->Hp->Prop) g H,bL P.toPQ (Instr.checkKey b 9999 3 (vi v)) Q g H↔Q () g H:=λv Q g H=>by rw[show(9999:Nat)=9998+1 from rfl,Instr.checkKey];simp only[Zg,Zw (bI (P:=P) uZ),Zj]
  obtain⟨s,o,p,I,J⟩:=(cD (P:=P) t3).ex;have D:∀(Q:Nat->Bool->Hp->Prop) g H,bL P.toPQ (sizeOf 3) Q g H↔Q 1 g H:=λQ g H=>by rw[Z4 o,p]
  rw[show(10000:Nat)=9999+1 from rfl,Instr.checkKey];simp only[Zu,Zg,Zw (bI (P:=P) QK)];have q:List.range' 0 4=[0,1,2,3]:=rfl;simp only[qCQ,Std.Legacy.Range.size,qBI,qAU,Nat.div_one,q,qCb,List.forIn_nil,Zg,Z4 o,p];simpa[D,t,A,B,C,F,Zg,Zj]using h
 Gx:=λm a Q g H h=>by
  simp only[Instr.findKey,Zg,Zw (bI (P:=P) QK),ZuS];by_cases e:m=[]
  ·subst e;simpa[YG,Zj]using h
  rw[aT e];exact Xa m 0 0 h
 ML:=λa=>by obtain⟨a,b,c,d⟩:=a;simp[Instr.sameBits,Zu]
end
section
variable{α:Type}[DecidableEq α]
def fV:List (α×Int)->α->Nat
 | [],_=>0
 | (k,_) :: r,a=>if a=k then 0 else fV r a+1
def rX(m:List (α×Int))(a:α)(u w:Int):Zx (Zx m a u) a w=Zx m a w:=by
 induction m with
 | nil=>simp[Zx]
 | cons p r ih=>
  obtain⟨k,v⟩:=p;rw[Zx,Zx];by_cases h:a=k
  ·subst h;rw[iF rfl,iF rfl,Zx,iF rfl]
  rw[aT h,aT h,Zx,aT h,ih]
def ZuR{m:List (α×Int)}{a:α}{v:Value}(h:YG m a i=some (j,v)):j=i+fV m a/\fV m a<m.length/\Zx m a (ZC m a)=m:=by
 induction m generalizing i with
 | nil=>simp[YG]at h
 | cons p r ih=>
  obtain⟨k,u⟩:=p;rw[YG]at h;rw[fV,Zx,ZC];by_cases e:a=k
  ·rw[iF e]at h;simp only[qAe,qBD]at h;rw[iF e,iF e,iF e];exact⟨O,by simp,rfl⟩
  rw[aT e]at h;obtain⟨g,o,f⟩:=ih h;rw[aT e,aT e,aT e,f];exact⟨O,by simp;omega,rfl⟩
def ZuQ{m:List (α×Int)}{a:α}(h:YG m a i=none):fV m a=m.length:=by
 induction m generalizing i with
 | nil=>rfl
 | cons p r ih=>
  obtain⟨k,u⟩:=p;rw[YG]at h;split at h
  ·simp at h
  rename_i e;rw[fV,aT e,ih h];simp
def Kg(m:List (α×Int))(a:α)(w:Int):fV (Zx m a w) a=fV m a/\fV m a<(Zx m a w).length:=by
 induction m with
 | nil=>simp[Zx,fV]
 | cons p r ih=>
  obtain⟨k,v⟩:=p;rw[Zx,fV];by_cases h:a=k
  ·rw[iF h,iF h,fV,iF h];simp
  rw[aT h,aT h,fV,aT h];simp;exact ih
theorem Zou{kv:α->Value}(m:List (α×Int))(a:α)(b:Nat)(w:Int)(h:fV m a<m.length):(dJ kv b m).findIdx? (λe=>(e.born:Int) == ((b+fV m a:Nat):Int))=some (fV m a)/\(dJ kv b m).modify (fV m a) (λe=>{ e with val:=vi w })=dJ kv b (Zx m a w)/\(Zx m a w).length=m.length:=by
 induction m generalizing b with
 | nil=>simp at h
 | cons p r ih=>
  obtain⟨k,v⟩:=p;rw[fV]at h ⊢;rw[Zx];by_cases f:a=k
  ·subst f;rw[iF rfl,iF rfl,dJ,List.findIdx?_cons,qCW];refine⟨by simp,?_,by simp⟩;rw[dJ];rfl
  rw[aT f]at h ⊢;rw[aT f];obtain⟨g,o,q⟩:=ih (b+1) (by simpa using h);rw[show b+1+fV r a=b+(fV r a+1)by omega]at g;refine⟨?_,?_,by simp[q]⟩
  ·rw[dJ,List.findIdx?_cons,g];have:(((⟨kv k,vi v,b⟩:MapEntry).born:Int) == ((b+(fV r a+1):Nat):Int))=false:=by simp;omega
   simp only[this,DO,qAw,qBZ]
  rw[dJ,dJ,<-o];rfl
end
section
variable{P:aX}{d:Option Nat}{next:aM->Hp->Prop}{σ:aM}{H:Hp}{x y z:Operand}{v:Value}{ty:TypeId}{α:Type}[DecidableEq α]{kv:α->Value}{T K E:TypeId}
def Ziw{m:List (α×Int)}{a:α}(Q:P.toProgram.underlying T=some (.map K E))(q:Iq P.toPQ K kv)(X:TI P.toProgram E 1 (vi 0) dI)(B:σ.get x=some (.map (some r)))(C:σ.get y=some (kv a))(t:H r=some (YF kv m,true))(g:P.still H.gh=false)
  (h:next (σ.set d (.tuple #[vi (ZC m a),vi (fV m a)])) (H.ins r (YF kv (Zx m a (ZC m a))))):(bE.raw (.mapEntry T x y) ty).m P d next σ H:=by
 obtain⟨V,R,i2,U,i4⟩:=X.ex;refine YS (by simp[Op.operands,B,C]) (s:=Instr.mapEntry T (.map (some r)) (kv a)) (by simp[execOp,aR,B,C]) ?_;simp only[Instr.mapEntry,Zg,Zw Q];refine⟨_,_,⟨g,t⟩,rfl,rfl,?_⟩;rw[YF,bL];simp only[Zg,Zj];refine q.chk _ _ ?_;refine q.Gx m a ?_;cases hf:YG m a 0 with
 | none=>
  obtain⟨D,f⟩:=Xc m a 0 (ZC m a) hf;have o:=ZuQ hf;simp only[Zg,UC R U];refine⟨_,⟨g,t⟩,rfl,rfl,rfl,?_⟩;have:Obj.map ((dJ kv 0 m).toArray.push { key:=kv a,val:=vi 0,born:=m.length }) (m.length+1)=YF kv (Zx m a (ZC m a)):=by rw[D,YF,Wo,qAE,f];simp
  rw[this,bL];simp only[Zj];rw[f,o]at h;rw[f];exact h
 | some p=>
  obtain⟨j,u⟩:=p;obtain⟨D,e,f,o,M,F,N,Z⟩:=Xd (kv:=kv) m a 0 0 j u (ZC m a) hf;obtain⟨I,Y,J⟩:=ZuR hf;rw[qBI]at f F N;simp only[qAH,f,qBZ,Option.getD_some,Instr.keyThatStays,Zg,o,q.ML,qBp,Zj];refine⟨_,⟨g,t⟩,rfl,rfl,rfl,?_⟩;have O:Obj.map ((dJ kv 0 m).toArray.modify j λe=>{ e with key:=kv a }) m.length=YF kv (Zx m a (ZC m a)):=by
   have:(dJ kv 0 m).modify j (λe=>{ e with key:=kv a })=dJ kv 0 m:=by
    refine qEe λi=>?_;rw[List.getElem?_modify];by_cases A:j=i
    ·subst A;rw[f];show some (if j=j then _ else _)=some e;rw[iF rfl,<-o]
    simp[A]
   rw[J,YF];congr 1;rw[List.modify_toArray,this]
  rw[O,bL];rw[M,F];have:Value.int IntKind.i64 ((0+j:Nat):Int)=vi (fV m a):=by rw[I];simp
  show next (σ.set d (.tuple #[vi (ZC m a),goInt ((0+j:Nat):Int)])) _
  rw[show goInt ((0+j:Nat):Int)=vi (fV m a)from this];exact h
def Zs0{m:List (α×Int)}{a:α}{w:Int}(o:σ.get x=some (.map (some r)))(p:σ.get y=some (vi (fV m a)))(q:σ.get z=some (vi w))(u:H r=some (YF kv m,true))(C:fV m a<m.length)(f:P.still H.gh=false)
  (h:next (σ.set d undef) (H.ins r (YF kv (Zx m a w)))):(bE.raw (.entryStore T x y z) ty).m P d next σ H:=by
 refine Zis (by simp[Op.operands,o,p,q]) (s:=Instr.entryStore T (.map (some r)) (vi (fV m a)) (vi w)) (by simp[execOp,aR,o,p,q]) ?_;obtain⟨t,A,B⟩:=Zou (kv:=kv) m a 0 w C;rw[qAE]at t;simp only[Instr.entryStore,Zg];refine⟨_,_,⟨f,u⟩,rfl,rfl,?_⟩;rw[YF,bL];simp only[Zg,asInt,asIntOf,Zj];have g:(dJ kv 0 m).toArray.findIdx? (λe=>(e.born:Int) == (fV m a:Int))=some (fV m a):=by rw[List.findIdx?_toArray];exact t
 rw[g];simp only;refine⟨_,⟨f,u⟩,rfl,rfl,rfl,?_⟩;have:Obj.map ((dJ kv 0 m).toArray.modify (fV m a) λe=>{ e with val:=vi w }) m.length=YF kv (Zx m a w):=by rw[YF,B,<-A];simp
 rw[this];exact h
end
end
end Go.Proofs
end
section
namespace Go.LL
section
variable{G:Prop}{x k:Nat}
def Af(h:G:=by rw[h.Po,h.Sy]at this;refine this.trans ?_;congr 2;rcases zO h.L with e | e<;>rcases zO h.W with e2 | e2<;>rcases zO h.S with e3 | e3<;>rw[e,e2,e3]<;>(unfold cI;simp<;>omega)):G:=h
def LG(h:G:=by rw[h.Po]at this;refine this.trans ?_;rcases zO h.L with e | e<;>rcases zO h.W with e2 | e2<;>rcases zO h.S with e3 | e3<;>rw[e,e2,e3]<;>rfl):G:=h
def Zya(x k:Nat)(a:k<8):x &&& k=(x % 8) &&& k:=by
 refine qDu λi=>?_;rw[qCZ,qCZ,show(8:Nat)=2 ^ 3 from rfl,qCY];by_cases h:i<3
 ·simp[h]
 have:k.testBit i=false:=qDf (qBu a (by rw[show(8:Nat)=2 ^ 3 from rfl];exact qBz (by decide) O));simp[this]
def ZsJ(x k:Nat)(f:k<8):x ||| k=8 * (x / 8)+((x % 8) ||| k):=by
 have a:(x % 8) ||| k<2 ^ 3:=Nat.or_lt_two_pow (qDS _ (by decide)) f;refine qDu λi=>?_;rw[show 8 * (x / 8)=2 ^ 3 * (x / 8)from rfl,qCM _ a,qDV,qDV,show(8:Nat)=2 ^ 3 from rfl,qCY,Nat.testBit_div_two_pow];by_cases h:i<3
 ·simp[h]
 have:k.testBit i=false:=qDf (qBu f (by rw[show(8:Nat)=2 ^ 3 from rfl];exact qBz (by decide) O));have e:i-3+3=i:=O;simp[h,this,e]
def Zyc(x k:Nat)(p:k<8)(o:x<4294967296):x &&& (4294967295-k)=8 * (x / 8)+((x % 8) &&& (7-k)):=by
 have f:(x % 8) &&& (7-k)<2 ^ 3:=Nat.and_lt_two_pow _ O;have g:4294967295-k=2 ^ 3 * 536870911+(7-k):=O;have a:7-k<2 ^ 3:=O;refine qDu λi=>?_;rw[show 8 * (x / 8)=2 ^ 3 * (x / 8)from rfl,qCM _ f,qCZ,g,qCM _ a,qCZ,show(8:Nat)=2 ^ 3 from rfl,qCY,Nat.testBit_div_two_pow];by_cases h:i<3
 ·simp[h]
 have e:i-3+3=i:=O;simp only[h,qAw,e];rw[show(536870911:Nat)=2 ^ 29-1 from rfl,Nat.testBit_two_pow_sub_one];by_cases m:i-3<29
 ·simp[m]
 have:x.testBit i=false:=qDf (qBu o (by rw[show(4294967296:Nat)=2 ^ 32 from rfl];exact qBz (by decide) O));simp[this]
def O0{z:Int}(a:0<=z)(e:z<2147483648):IntKind.i32.wrap z=z:=by simp only[IntKind.wrap,IntKind.bits,IntKind.signed];simp;omega
def L5(x:Nat)(a:x<4294967296):(BitVec.ofInt 32 (x:Nat)).toNat=x:=by simp[qDD];omega
def K9(h:x<2147483648)(f:k<8):Zy .and .i32 (x:Nat) (k:Nat)=.int .i32 (((x % 8) &&& k:Nat):Int):=by have e:x<4294967296:=O;have a:k<4294967296:=O;have g:x &&& k<=x:=Nat.and_le_left;show Value.int .i32 (IntKind.i32.wrap ((BitVec.ofInt 32 (x:Nat) &&& BitVec.ofInt 32 (k:Nat)).toNat:Nat))=_;rw[qDt,L5 x e,L5 k a,O0 O O,Zya x k f]
def Ix(m:x<2147483640)(g:k<8):Zy .or .i32 (x:Nat) (k:Nat)=.int .i32 ((8 * (x / 8)+((x % 8) ||| k):Nat):Int):=by have f:x<4294967296:=O;have a:k<4294967296:=O;have h:(x % 8) ||| k<2 ^ 3:=Nat.or_lt_two_pow (qDS _ (by decide)) g;have e:=ZsJ x k g;show Value.int .i32 (IntKind.i32.wrap ((BitVec.ofInt 32 (x:Nat) ||| BitVec.ofInt 32 (k:Nat)).toNat:Nat))=_;rw[BitVec.toNat_or,L5 x f,L5 k a,e,O0 O O]
def Zx3(m:x<2147483640)(g:k<8):Zy .andNot .i32 (x:Nat) (k:Nat)=.int .i32 ((8 * (x / 8)+((x % 8) &&& (7-k)):Nat):Int):=by have a:x<4294967296:=O;have f:k<4294967296:=O;have h:(x % 8) &&& (7-k)<2 ^ 3:=Nat.and_lt_two_pow _ O;have e:=Zyc x k g a;show Value.int .i32 (IntKind.i32.wrap ((BitVec.ofInt 32 (x:Nat) &&& ~~~ BitVec.ofInt 32 (k:Nat)).toNat:Nat))=_;rw[qDt,BitVec.toNat_not,L5 x a,L5 k f,show 2 ^ 32-1-k=4294967295-k from rfl,e,O0 O O]
def EF:Zy .shr .i32 (x:Nat) (3:Nat)=.int .i32 ((x / 8:Nat):Int):=by show Value.int .i32 (Int.fdiv (x:Nat) (2 ^ min (Int.toNat ((3:Nat):Int)) 32))=_;have:(2:Int) ^ min (Int.toNat ((3:Nat):Int)) 32=8:=rfl;rw[this,qCS _ O];simp
section
variable{L W S n:Nat}
structure YP(L W S n:Nat):Prop where
 L:L<=1
 W:W<=1
 S:S<=1
 n:n<=260000000
def dV.w(h:dV L W S n):YP L W S n:=⟨h.L,h.W,h.S,by have:=h.n;omega⟩
def YP.Po(h:YP L W S n):cI L W S n % 8=L+2 * W+4 * S:=by obtain⟨a,b,c,d⟩:=h;unfold cI;omega
def YP.Sy(h:YP L W S n):cI L W S n / 8=n:=by obtain⟨a,b,c,d⟩:=h;unfold cI;omega
def YP.lt(h:YP L W S n):cI L W S n<2147483640:=by obtain⟨a,b,c,d⟩:=h;unfold cI;omega
def zO(h:x<=1):x=0\/x=1:=O
def YP.pE(h:YP L W S n):Zy .and .i32 (cI L W S n:Nat) 5=.int .i32 ((L+4 * S:Nat):Int):=by have:=K9 (x:=cI L W S n) (k:=5) (by have:=h.lt;omega) (by decide);exact LG
def YP.and1(h:YP L W S n):Zy .and .i32 (cI L W S n:Nat) 1=.int .i32 ((L:Nat):Int):=by have:=K9 (x:=cI L W S n) (k:=1) (by have:=h.lt;omega) (by decide);exact LG
def YP.vQ(h:YP L W S n):Zy .and .i32 (cI L W S n:Nat) 2=.int .i32 ((2 * W:Nat):Int):=by have:=K9 (x:=cI L W S n) (k:=2) (by have:=h.lt;omega) (by decide);exact LG
def YP.vP(h:YP L W S n):Zy .and .i32 (cI L W S n:Nat) 3=.int .i32 ((L+2 * W:Nat):Int):=by have:=K9 (x:=cI L W S n) (k:=3) (by have:=h.lt;omega) (by decide);exact LG
def YP.jM(h:YP L W S n):Zy .and .i32 (cI L W S n:Nat) 4=.int .i32 ((4 * S:Nat):Int):=by have:=K9 (x:=cI L W S n) (k:=4) (by have:=h.lt;omega) (by decide);exact LG
def YP.EH(h:YP L W S n):Zy .and .i32 (cI L W S n:Nat) 7=.int .i32 ((L+2 * W+4 * S:Nat):Int):=by have:=K9 (x:=cI L W S n) (k:=7) (by have:=h.lt;omega) (by decide);exact LG
def YP.J4(h:YP L W S n):Zy .or .i32 (cI L W S n:Nat) 1=.int .i32 ((cI 1 W S n:Nat):Int):=by have:=Ix (x:=cI L W S n) (k:=1) h.lt (by decide);exact Af
def YP.or2(h:YP L W S n):Zy .or .i32 (cI L W S n:Nat) 2=.int .i32 ((cI L 1 S n:Nat):Int):=by have:=Ix (x:=cI L W S n) (k:=2) h.lt (by decide);exact Af
def YP.or4(h:YP L W S n):Zy .or .i32 (cI L W S n:Nat) 4=.int .i32 ((cI L W 1 n:Nat):Int):=by have:=Ix (x:=cI L W S n) (k:=4) h.lt (by decide);exact Af
def YP.yE(h:YP L W S n):Zy .andNot .i32 (cI L W S n:Nat) 2=.int .i32 ((cI L 0 S n:Nat):Int):=by have:=Zx3 (x:=cI L W S n) (k:=2) h.lt (by decide);exact Af
def YP.n6(h:YP L W S n):Zy .shr .i32 (cI L W S n:Nat) 3=.int .i32 ((n:Nat):Int):=by refine EF.trans ?_;rw[h.Sy]
def YP.B6(h:YP L W S n):IntKind.i32.wrap ((cI L W S n:Nat)+8)=((cI L W S (n+1):Nat):Int):=by
 have:=h.lt;have e:((cI L W S n:Nat):Int)+8=((cI L W S (n+1):Nat):Int):=by unfold cI;omega
 rw[<-e,O0 O O]
def YP.F8(h:YP L W S (n+1)):Zy .sub .i32 (cI L W S (n+1):Nat) 8=.int .i32 ((cI L W S n:Nat):Int):=by
 have:=h.lt;show Value.int .i32 (IntKind.i32.wrap (((cI L W S (n+1):Nat):Int)-8))=_;have e:((cI L W S (n+1):Nat):Int)-8=((cI L W S n:Nat):Int):=by unfold cI;omega
 rw[e,O0 O (by unfold cI at this ⊢;omega)]
def dV.lt(h:dV L W S n):cI L W S n<2147483640:=h.w.lt
def dV.pE(h:dV L W S n):Zy .and .i32 (cI L W S n:Nat) 5=.int .i32 ((L+4 * S:Nat):Int):=h.w.pE
def dV.and1(h:dV L W S n):Zy .and .i32 (cI L W S n:Nat) 1=.int .i32 ((L:Nat):Int):=h.w.and1
def dV.vQ(h:dV L W S n):Zy .and .i32 (cI L W S n:Nat) 2=.int .i32 ((2 * W:Nat):Int):=h.w.vQ
def dV.vP(h:dV L W S n):Zy .and .i32 (cI L W S n:Nat) 3=.int .i32 ((L+2 * W:Nat):Int):=h.w.vP
def dV.jM(h:dV L W S n):Zy .and .i32 (cI L W S n:Nat) 4=.int .i32 ((4 * S:Nat):Int):=h.w.jM
def dV.EH(h:dV L W S n):Zy .and .i32 (cI L W S n:Nat) 7=.int .i32 ((L+2 * W+4 * S:Nat):Int):=h.w.EH
def dV.J4(h:dV L W S n):Zy .or .i32 (cI L W S n:Nat) 1=.int .i32 ((cI 1 W S n:Nat):Int):=h.w.J4
def dV.or2(h:dV L W S n):Zy .or .i32 (cI L W S n:Nat) 2=.int .i32 ((cI L 1 S n:Nat):Int):=h.w.or2
def dV.yE(h:dV L W S n):Zy .andNot .i32 (cI L W S n:Nat) 2=.int .i32 ((cI L 0 S n:Nat):Int):=h.w.yE
def dV.n6(h:dV L W S n):Zy .shr .i32 (cI L W S n:Nat) 3=.int .i32 ((n:Nat):Int):=h.w.n6
def dV.B6(h:dV L W S n):IntKind.i32.wrap ((cI L W S n:Nat)+8)=((cI L W S (n+1):Nat):Int):=h.w.B6
def dV.F8(h:dV L W S (n+1)):Zy .sub .i32 (cI L W S (n+1):Nat) 8=.int .i32 ((cI L W S n:Nat):Int):=h.w.F8
end
section
variable{P:aX}{Qe:Ex->aM->Hp->Prop}{σ:aM}{H:Hp}{b:Ze}
def RJ{ι:Type}(I:ι->Hp->Prop)(μ:ι->Nat)(env:ι->List (Nat×Value))(box:ι->List (Nat×List Value))(i:ι)(e:I i H)(f:sX (env i) σ)(hb:sY (box i) σ)
  (h:∀i H,I i H->b.m P (iD.then (λσ' a=>∃j,μ j<μ i/\I j a/\sX (env j) σ'/\sY (box j) σ'/\σ'.dQ=σ.dQ) Qe) (V4 σ.dQ (env i) (box i)) H):(Ze.loop b).m P Qe σ H:=⟨ι,I,μ,env,box,i,e,⟨f,hb⟩,h⟩
end
end
end Go.LL
end
open Go Go.LL
namespace Go.Proofs
variable{H Hl:Hp}{kd:CallKind}{l:List Nat}
def uN:Yd Tryz.prog 21=some none:=U
def Xw(p:Program)(src dst:TypeId):Bool:=
 match p.underlying src,p.underlying dst with
 | some (.pointer t),some .unsafePointer=>match p.info? t with
  | some i=>!(decide (i.size=0))
  | none=>false
 | _,_=>false
def Jd{p:Program}{src dst:TypeId}(h:Xw p src dst=true):KX p src dst:=by
 unfold Xw at h;split at h
 ·split at h
  ·rename_i t a e _ i f;exact⟨⟨t,a,e,by rw[f];simpa using h⟩⟩
  simp at h
 simp at h
def Og:KX Tryz.prog 261 226:=Jd U
def Jc:KX Tryz.prog 224 226:=Jd U
def Xv:KX Tryz.prog 231 226:=Jd U
def WX:norace Tryz.prog 250=true:=U
section
variable{c:Cx}{i:Nat}{H0:Hp}
def Bs(c:Cx)(i:Nat)(H0:Hp)(a:Hp):Prop:=∃(l:List Nat) (Hl:Hp),c.PI l Hl/\H0.hd ∉ l/\c.need H0.hd=true/\Hl.gh=[]/\(H0.tagc (12 :: l)).Comp Hl/\a=(H0.tagc (12 :: l)).join Hl
noncomputable abbrev pw(c:Cx)(i:Nat):aX:=(bO Tryz.prog c).prgW i
abbrev ptr(b:Nat):Value:=.pointer (some (dZ b))
def ZtY(ok:c.Ok)(a:c.need H.hd=true)(e:∀H:Hp,H.cg=[3]->LL.Zc (pw c i) 229 #[ptr c.M] H λ_ f=>Bs c i H f)(s:H.cg=[1]):LL.Zc (pw c i) 197 #[ptr c.M] H λ_ f=>Bs c i H f:=by
 refine aJ.m (P:=pw c i) Zwc (args:=[ptr c.M]) rfl ?_;unfold Zjz;refine Z ?_;refine Zq UT (vs:=[]) rfl (Zyv ok UT (by rw[s];rfl) a) ?_;rintro v _ ⟨rfl,rfl⟩;refine Z ?_;refine Zq YH (vs:=[ptr c.M,.int .i32 0,.int .i32 1]) rfl (Zyz ok YH (by rfl)) ?_;rintro v _ (⟨rfl,rfl⟩ | ⟨rfl,rfl⟩)
 ·refine Z ?_;refine Zq Yi (vs:=[]) rfl (OV ok Yi (by rfl)) ?_;rintro v _ ⟨rfl,rfl⟩;refine Z ?_;refine VF rfl (UU ok Og rfl (.inl rfl) (.inl (by simp[Vb,cd]))) ?_;rintro v _ ⟨rfl,rfl⟩;refine Z ?_;refine Zq YI (vs:=[ptr c.M]) rfl (OT ok YI (by rfl)) ?_;rintro v _ ⟨rfl,l,Hl,g,h,o,p,q,rfl⟩;refine Z ?_;exact⟨l,Hl,g,h,o,p,q,rfl⟩
 refine Z ?_;refine ZW (vs:=[ptr c.M]) rfl (e _ rfl) ?_;rintro v f ⟨l,Hl,g,h,o,p,q,rfl⟩;refine Z ?_;exact⟨l,Hl,g,h,o,p,q,rfl⟩
end
def ZlE:Ze:=(.block 0 (.loop (.block 1 (.seq (.seq (.aI [⟨none,(some 14),(.cY (.tmp 4))⟩,⟨none,(some 15),(.raw (.binOp .shr 21 (.tmp 14) (.const (.int .u64 3)) 176) 21)⟩,⟨none,(some 16),(.aY .eql (.tmp 15) (.const (.int .i32 0)))⟩,⟨none,(some 17),(.cY (.tmp 16))⟩,⟨(some (17,false)),(some 18),(.cY (.tmp 4))⟩,⟨(some (17,false)),(some 19),(.raw (.binOp .and 21 (.tmp 18) (.const (.int .i32 7)) 21) 21)⟩,⟨(some (17,false)),(some 20),(.aY .neq (.tmp 19) (.const (.int .i32 0)))⟩,⟨none,(some 21),(.pick (.tmp 17) (.const (.bool true)) (.tmp 20))⟩]) (.cond (.tmp 21) .ret .skip)) (.seq (.aI [⟨none,(some 22),(.cY (.tmp 4))⟩,⟨none,(some 23),(.raw (.binOp .sub 21 (.tmp 22) (.const (.int .i32 8)) 21) 21)⟩,⟨none,(some 24),(.raw (.binOp .or 21 (.tmp 23) (.const (.int .i32 2)) 21) 21)⟩,⟨none,(some 1),(.cY (.tmp 24))⟩]) (.seq (.seq (.aI [⟨none,(some 25),(.cY (.tmp 0))⟩,⟨none,(some 26),(.raw (.nilCheck (.tmp 25)) 0)⟩,⟨none,(some 27),(.aN 0 (.tmp 26))⟩,⟨none,(some 28),(.cY (.tmp 4))⟩,⟨none,(some 29),(.cY (.tmp 1))⟩,⟨none,(some 30),(.raw (.call (.mk (.value (.func 228)) #[(.tmp 27),(.tmp 28),(.tmp 29)] #[263,21,21])) 4)⟩]) (.cond (.tmp 30) (.seq (.aI [⟨none,(some 31),(.cY (.tmp 0))⟩,⟨none,(some 32),(.raw (.nilCheck (.tmp 31)) 0)⟩,⟨none,(some 33),(.aN 1 (.tmp 32))⟩,⟨none,(some 34),(.raw (.call (.mk (.value (.func 253)) #[(.tmp 33),(.const (.bool false)),(.const (.int .i64 2))] #[231,4,3])) 0)⟩]) .ret) .skip)) (.aI [⟨none,(some 35),(.cY (.tmp 0))⟩,⟨none,(some 36),(.raw (.nilCheck (.tmp 35)) 0)⟩,⟨none,(some 37),(.aN 0 (.tmp 36))⟩,⟨none,(some 38),(.jJ (.load 21 (.tmp 37)) 21)⟩,⟨none,(some 4),(.cY (.tmp 38))⟩])))))))
section
variable{c:Cx}{i:Nat}{H0:Hp}
theorem Mt(ok:c.Ok)(U:kd=.normal\/kd=.deferred){L W S n m:Nat}(u:dV L W S n){v:Value}(hv:v=.int .i32 (cI L W S n:Nat))(hL:L=0)
  (hg:(S=0/\(n=0\/W=1)/\H.cg=[18])\/(W=0/\S=0/\1<=n/\H.cg=[15,cI 0 0 0 n,m])\/(S=1/\H.cg=[17])) :
  Y2 (pw c i) kd 231 #[ptr c.M,v] H λ_ o=>o=H.tagc [18]:=by
 subst hv hL;refine aJ.mK (P:=pw c i) U ZvV (args:=[ptr c.M,.int .i32 (cI 0 W S n:Nat)]) rfl ?_;unfold Zji;refine Z ?_;refine Yc rfl rfl rfl ?_;have e1:IntKind.i32.wrap ((cI 0 W S n:Nat)+1)=((cI 1 W S n:Nat):Int):=by
  have:=u.lt;have e:((cI 0 W S n:Nat):Int)+1=((cI 1 W S n:Nat):Int):=by unfold cI;omega
  rw[<-e,O0 O O]
 show ZR _ _ _ (aM.set _ _ (.int .i32 (IntKind.i32.wrap _))) _;rw[e1];have N:dV 1 W S n:=⟨O,u.W,u.S,u.n⟩;refine Z ?_;refine Zm rfl rfl (.inl rfl) N.and1 (Z ?_);refine Yb rfl rfl rfl (by simp) (Z ?_);refine Zm rfl rfl (.inl rfl) u.jM (Z ?_);have g:∀σ:aM,S=0->∀f:Bool,(f=false->(W=1\/n=0)/\H.cg=[18])->(f=true->W=0/\1<=n/\H.cg=[15,cI 0 0 0 n,m])->σ.env 0=some (ptr c.M)->σ.env 4=some (.int .i32 (cI 0 W S n:Nat))->σ.dQ=[] ->
   (ZlE).m (pw c i) (tJ (pw c i) ZhP λ_ o=>o=H.tagc [18]) σ H:=by
  intro σ hS f F s X Y q
  unfold ZlE
  refine Z ?_
  refine RJ (λ(j:Nat×Nat×Nat×Nat×Nat×Bool) o=>dV j.1 j.2.1 j.2.2.1 j.2.2.2.1/\(j.2.2.2.2.2=false->(j.1=1\/j.2.1=1\/j.2.2.1=1\/j.2.2.2.1=0)/\o=H.tagc [18]) /\
    (j.2.2.2.2.2=true->j.1=0/\j.2.1=0/\j.2.2.1=0/\1<=j.2.2.2.1/\o=H.tagc [15,cI 0 0 0 j.2.2.2.1,j.2.2.2.2.1]))
   (λj=>bif j.2.2.2.2.2 then j.2.2.2.2.1+1 else 0) (λj=>[(0,ptr c.M),(4,.int .i32 (cI j.1 j.2.1 j.2.2.1 j.2.2.2.1:Nat))]) (λ_=>[]) (0,W,0,n,m,f) ?_ ⟨X,by rw[Y,hS],trivial⟩ trivial ?_
  ·subst hS;refine⟨u,λe=>⟨(F e).1.elim (λh=>.inr (.inl h)) λh=>.inr (.inr (.inr h)),by have B:=(F e).2;rw[<-B];exact(Ay (by rw[B];simp[cd])).symm⟩,λe=>⟨rfl,(s e).1,rfl,(s e).2.1,by have B:=(s e).2.2;rw[<-B];exact(Ay (by rw[B];simp[cd])).symm⟩⟩
  rintro⟨L',W',S',n',m',t⟩ o ⟨a,C,D⟩
  simp only at a C D
  rw[q]
  refine Z ?_
  refine Vr rfl rfl (.inl rfl) (by decide) a.n6 ?_
  refine Z ?_
  cases t with
  | false=>
   obtain⟨hc,rfl⟩:=C rfl;by_cases hn:n'=0
   ·refine YB rfl rfl rfl (by simp[hn]) (Z ?_);rfl
   refine Yb rfl rfl rfl (by simpa using hn) (Z ?_);refine Zm rfl rfl (.inl rfl) a.EH (Z ?_);refine YT rfl rfl rfl O (Z ?_);rfl
  | true=>
   obtain⟨rfl,rfl,rfl,J,rfl⟩:=D rfl;refine Yb rfl rfl rfl O (Z ?_);refine Zm rfl rfl (.inl rfl) a.EH (Z ?_);refine Z6 rfl rfl rfl (by simp) (Z ?_);obtain⟨k,rfl⟩:∃k,n'=k+1:=⟨n'-1,O⟩;have Q:dV 0 0 0 k:=⟨O,O,O,by have:=a.n;omega⟩;refine Zm rfl rfl (.inr (.inr (.inr rfl))) a.F8 (Z ?_);refine Zm rfl rfl (.inr (.inl rfl)) Q.or2 (Z ?_);refine Zq YH (vs:=[ptr c.M,.int .i32 (cI 0 0 0 (k+1):Nat),.int .i32 (cI 0 1 0 k:Nat)]) rfl (Zyy ok YH a (by rfl)) ?_;rintro v _ (⟨rfl,rfl⟩ | ⟨rfl,rfl⟩)
   ·refine Z ?_;refine Zq X4 (vs:=[.pointer (some ((dZ c.M).add 1)),.bool false,.int .i64 2]) rfl (Wl ok X4 rfl (by rfl)) ?_;rintro v _ ⟨rfl,rfl⟩;refine Z ?_;rfl
   refine Z ?_;refine Ve rfl (Zyr ok uN rfl (by rfl)) ?_;rintro v _ (⟨L2,W2,S2,n2,p,R,rfl,rfl⟩ | ⟨n2,m2,p,h3,rfl,rfl,hm⟩)
   ·refine Z ?_;exact⟨(L2,W2,S2,n2,0,false),by simp,⟨p,λ_=>⟨R,rfl⟩,λe=>by simp at e⟩,V,trivial,rfl⟩
   refine Z ?_;exact⟨(0,0,0,n2,m2,true),by simpa using hm,⟨p,λe=>by simp at e,λ_=>⟨rfl,rfl,rfl,h3,rfl⟩⟩,V,trivial,rfl⟩
 rcases hg with⟨rfl,J,A⟩ | ⟨rfl,rfl,J,A⟩ | ⟨rfl,A⟩
 ·refine YB rfl rfl rfl (by simp) (Z ?_);exact g _ rfl false (λ_=>⟨J.symm,A⟩) (λe=>by simp at e) rfl rfl rfl
 ·refine YB rfl rfl rfl (by simp) (Z ?_);exact g _ rfl true (λe=>by simp at e) (λ_=>⟨rfl,J,A⟩) rfl rfl rfl
 refine Yb rfl rfl rfl (by simp) (Z ?_);refine Zq X4 (vs:=[.pointer (some ((dZ c.M).add 1)),.bool true,.int .i64 2]) rfl (Wl ok X4 rfl A) ?_;rintro v _ ⟨rfl,rfl⟩;refine Z ?_;rfl
theorem ZnS(ok:c.Ok)(A:kd=.normal\/kd=.deferred)(F:H0.Comp Hl)(o:H0.cg=12 :: l)(t:c.PI (l++[H0.hd]) Hl) :
  Y2 (pw c i) kd 198 #[ptr c.M] (H0.join Hl) λ_ q=>q=H0.tagc [19]:=by
 have B:Hl.gh=[]:=F.gh.resolve_left (VR (.inl (.inl (by rw[o];simp[cd]))));have u:(H0.join Hl).cg=12 :: l:=by unfold Hp.cg;rw[Hp.bZ,B,qAf];exact o
 have f:Yw (H0.join Hl).cg:=by rw[u];exact .inl (by simp[cd])
 refine aJ.mK (P:=pw c i) A Zwb (args:=[ptr c.M]) rfl ?_;unfold Zjy;refine Z ?_;refine Ve rfl (Zt0 ok uN rfl f) ?_;rintro v _ rfl;refine Z ?_;refine VF rfl (UU ok Og rfl (.inl rfl) f) ?_;rintro v _ ⟨rfl,rfl⟩;refine Z ?_;refine Zq X1 (vs:=[ptr c.M]) rfl (Zys ok X1 F o t) ?_;rintro v _ ⟨rfl,rfl⟩;refine Z ?_;refine Zq UT (vs:=[]) rfl (Zyu ok UT (by rfl)) ?_;rintro v _ ⟨rfl,rfl⟩;refine Z ?_;refine Zq YX (vs:=[ptr c.M,.int .i32 (-1)]) rfl (Zyp ok YX (by rfl)) ?_;have e:∀{σ:aM} {H:Hp},H.cg=[18]->H.tagc [19]=H0.tagc [19]->σ.dQ=[]->(Ze.aI [⟨none,some 20,.raw (.call (.mk (.value (.func 186)) #[] #[])) 0⟩]).m (pw c i) (tJ (pw c i) ZhQ λ_ q=>q=H0.tagc [19]) σ H:=by intro σ H o N I;refine Z ?_;refine Zq Yi (vs:=[]) rfl (Zyt ok Yi (by rw[o];rfl)) ?_;rintro v _ ⟨rfl,rfl⟩;refine Z ?_;exact L0 (RG (vs:=[]) I rfl rfl N)
 rintro v _ (⟨W,n,h,s,rfl,rfl⟩ | ⟨n,m,h,s,rfl,rfl⟩ | ⟨n,h,rfl,rfl⟩)
 ·by_cases D:cI 0 W 0 n=0
  ·refine Z ?_;refine Z6 rfl rfl rfl (by simpa using D) (Z ?_);exact e rfl rfl rfl
  refine Z ?_;refine YT rfl rfl rfl (by simpa using D) (Z ?_);refine ZW (vs:=[ptr c.M,.int .i32 (cI 0 W 0 n:Nat)]) rfl (Mt (m:=0) ok (.inl rfl) h rfl rfl (.inl ⟨rfl,s,rfl⟩)).pD ?_;rintro v _ rfl;refine Z ?_;exact e rfl rfl rfl
 ·refine Z ?_;refine YT rfl rfl rfl (by unfold cI;omega) (Z ?_);refine ZW (vs:=[ptr c.M,.int .i32 (cI 0 0 0 n:Nat)]) rfl (Mt (m:=m) ok (.inl rfl) h rfl rfl (.inr (.inl ⟨rfl,rfl,s,rfl⟩))).pD ?_;rintro v _ rfl;refine Z ?_;exact e rfl rfl rfl
 refine Z ?_;refine YT rfl rfl rfl (by unfold cI;omega) (Z ?_);refine ZW (vs:=[ptr c.M,.int .i32 (cI 0 0 1 n:Nat)]) rfl (Mt (m:=0) ok (.inl rfl) h rfl rfl (.inr (.inr ⟨rfl,rfl⟩))).pD ?_;rintro v _ rfl;refine Z ?_;exact e rfl rfl rfl
theorem ZnR(ok:c.Ok)(e:kd=.normal\/kd=.deferred)(g:H0.Comp Hl)(h:H0.cg=12 :: l)(a:c.PI (l++[H0.hd]) Hl) :
  Y2 (pw c i) kd 151 #[ptr c.M] (H0.join Hl) λ_ f=>f=H0.tagc [19]:=by
 refine aJ.mK (P:=pw c i) e Zw2 (args:=[ptr c.M]) rfl ?_;unfold Zkp;refine Z ?_;refine ZW (vs:=[ptr c.M]) rfl (ZnS ok (.inl rfl) g h a).pD ?_;rintro v _ rfl;refine Z ?_;rfl
end
