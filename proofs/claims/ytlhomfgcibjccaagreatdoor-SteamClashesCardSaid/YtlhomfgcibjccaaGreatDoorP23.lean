import Derived.Test.YtlhomfgcibjccaaGreatDoorP16
import Derived.Test.YtlhomfgcibjccaaGreatDoorP17
import Derived.Test.YtlhomfgcibjccaaGreatDoorP22
set_option linter.all false
section
open Go Go.LL
namespace Go.Proofs
section
variable{r gR j i:Nat}
def cI{α:Type}(kv:α->Value):Nat->List (α×Int)->List MapEntry
 | _,[]=>[]
 | b,(k,v) :: r=>⟨kv k,vi v,b⟩ :: cI kv (b+1) r
def YE{α:Type}(kv:α->Value)(m:List (α×Int)):Obj:=.map (cI kv 0 m).toArray m.length
def YF{α:Type}[DecidableEq α]:List (α×Int)->α->Nat->Option (Nat×Value)
 | [],_,_=>none
 | (k,v) :: r,a,i=>if a=k then some (i,vi v)else YF r a (i+1)
def ZE{α:Type}[DecidableEq α]:List (α×Int)->α->Int
 | [],_=>0
 | (k,v) :: r,a=>if a=k then v else ZE r a
def Zz{α:Type}[DecidableEq α]:List (α×Int)->α->Int->List (α×Int)
 | [],a,w=>[(a,w)]
 | (k,v) :: r,a,w=>if a=k then(k,w) :: r else(k,v) :: Zz r a w
section
variable{α:Type}[DecidableEq α]{kv:α->Value}
theorem ZmM:∀(b:Nat) (m:List (α×Int)) (a:α) (w:Int),cI kv b (m++[(a,w)])=cI kv b m++[⟨kv a,vi w,b+m.length⟩]
 | b,[],a,w=>by simp[cI]
 | b,(k,v) :: r,a,w=>by simp only[qBn,cI,ZmM (b+1) r a w,qAO];congr 4;omega
theorem ZmA:∀(m:List (α×Int)) (a:α) (i:Nat),(match YF m a i with | some (_,v)=>v | none=>vi 0)=vi (ZE m a)
 | [],a,i=>rfl
 | (k,v) :: r,a,i=>by
  simp only[YF,ZE];by_cases h:a=k
  ·rw[iO h,iO h]
  rw[bY h,bY h];exact ZmA r a (i+1)
theorem Zmy:∀(m:List (α×Int)) (a:α) (b i j:Nat) (v:Value) (w:Int),YF m a i=some (j,v) ->
  i<=j/\∃e,(cI kv b m)[j-i]? = some e/\e.key=kv a/\v=vi (ZE m a)/\e.born=b+(j-i)/\(cI kv b m).modify (j-i) (λe=>{ e with key:=kv a,val:=vi w })=cI kv b (Zz m a w)/\(Zz m a w).length=m.length
 | [],a,b,i,j,v,w,h=>by simp[YF]at h
 | (k,u) :: r,a,b,i,j,v,w,h=>by
  rw[YF]at h;by_cases hk:a=k
  ·subst hk;rw[iO rfl]at h;simp only[iF,qAG]at h;obtain⟨rfl,rfl⟩:=h;refine⟨aC _,_,by rw[qCG,cI,qBc],rfl,by rw[ZE,iO rfl],by simp,?_,by rw[Zz,iO rfl];rfl⟩;rw[qCG,Zz,iO rfl,cI,cI];rfl
  rw[bY hk]at h;obtain⟨h1,e,h2,h3,h4,h5,h6,h7⟩:=Zmy r a (b+1) (i+1) j v w h;have e1:j-i=(j-(i+1))+1:=O;refine⟨O,e,?_,h3,by rw[ZE,bY hk];exact h4,O,?_,by rw[Zz,bY hk,qAO,qAO,h7]⟩
  ·rw[e1,cI,qAU];exact h2
  rw[e1,Zz,bY hk,cI,cI,<-h6];rfl
theorem Zmz:∀(m:List (α×Int)) (a:α) (i:Nat) (w:Int),YF m a i=none->Zz m a w=m++[(a,w)]/\ZE m a=0
 | [],a,i,w,h=>⟨rfl,rfl⟩
 | (k,u) :: r,a,i,w,h=>by
  rw[YF]at h;split at h
  ·simp at h
  rename_i hk;obtain⟨h1,h2⟩:=Zmz r a (i+1) w h;exact⟨by rw[Zz,bY hk,h1];rfl,by rw[ZE,bY hk];exact h2⟩
end
structure Ks{α:Type}[DecidableEq α](P:PQ)(T:TypeId)(kv:α->Value):Prop where
 CF:∀(b:Bool) (a:α) {Q:Unit->Bool->Hp->Prop} {g:Bool} {H:Hp},Q () g H->cD P (Instr.checkKey b 10000 T (kv a)) Q g H
 Jt:∀(m:List (α×Int)) (a:α) {Q:Option (Nat×Value)->Bool->Hp->Prop} {g:Bool} {H:Hp},Q (YF m a 0) g H->cD P (Instr.findKey T (kv a) (cI kv 0 m)) Q g H
 M9:∀a:α,Instr.sameBits 10000 (kv a) (kv a)=true
section
variable{P:bF}{d:Option Nat}{next:aN->Hp->Prop}{σ:aN}{H:Hp}{x y z:Operand}{v:Value}{ty:TypeId}{α:Type}[DecidableEq α]{kv:α->Value}{T K E:TypeId}
theorem Ztb(bB:P.still H.gh=false)(h:∀r,H r=none->next (σ.set d (.map (some r))) (H.ins r (YE kv []))):(bC.raw (.makeMap T none) ty).m P d next σ H:=by refine YS (by simp[Op.operands]) (s:=Instr.makeMap T none) (by simp[execOp,aP]) ?_;simp only[Instr.makeMap,newObj,Zh,Zj];exact⟨bB,λr hr=>h r hr⟩
theorem Ns{m:List (α×Int)}{a:α}{pm:Bool}(hu:P.toProgram.underlying T=some (.map K E))(hk:Ks P.toPQ K kv)(ti:TI P.toProgram E 1 (vi 0) gR)(e1:σ.get x=some (.map (some r)))(e2:σ.get y=some (kv a))(hr:H r=some (YE kv m,pm))(bB:P.still H.gh=false)
  (h:next (σ.set d (vi (ZE m a))) H):(bC.raw (.lookup T x y false) ty).m P d next σ H:=by
 obtain⟨p9,i1,i2,i3,i4⟩:=ti.ex;refine YS (by simp[Op.operands,e1,e2]) (s:=Instr.lookup T (.map (some r)) (kv a) false) (by simp[execOp,aP,e1,e2]) ?_;simp only[Instr.lookup,Zh,Zy hu];refine⟨_,_,⟨bB,hr⟩,rfl,rfl,?_⟩;rw[YE,cD];simp only[Zh,Zj];refine hk.CF _ _ ?_;refine hk.Jt m a ?_;have:=ZmA m a 0;cases hf:YF m a 0 with
 | none=>
  rw[hf]at this;simp only at this ⊢;simp only[Zh,UC i1 i3,Zj,iN,qAk];rw[this];exact h
 | some p=>
  rw[hf]at this;simp only at this ⊢;simp only[Zh,Zj,iN,qAk];rw[this];exact h
end
theorem ZsZ{α β:Type}[Enc α][Enc β]{G H1 H2:Hp}{E E2:TypeId}{v w:Value}{l:List α}{l2:List β}{bb b2:Option Nat}(hG:bO G H1)(h1:fZ G H1 E v l bb)(hi:bO H1 H2)(h2:fZ H1 H2 E2 w l2 b2):∃G',bO G G'/\bO G' H2/\fZ G' H2 E v l bb/\aV G' w l2:=by
 have gJ:bO G H2:=hG.trans hi;obtain⟨h0,⟨q1,q2,q3⟩ | ⟨r,cap,rest,q1,q2,q3,q4,q5⟩⟩:=h2.own
 ·have:l2=[]:=qAf q2;subst this;exact⟨G,.refl G,gJ,h1.bA hi,by rw[q1];exact .nil G⟩
 have hr:=h2.fresh r q1;have KU:G r=none:=YK hG hr;refine⟨G.ins r (.cells (Zb l2++rest).toArray E2),Zt KU,λb x hb=>?_,⟨(h1.bA hi).own,λr' e=>?_⟩,_,cap,q2,λ_=>⟨_,rfl,YM VJ⟩⟩
 ·by_cases e:b=r
  ·subst e;rw[Hp.aF]at hb;obtain rfl:=dO hb;exact q3
  rw[Hp.aE _ _ e]at hb;exact gJ b x hb
 have dG:r'≠r:=by
  rintro rfl;obtain⟨_,⟨_,_,e3⟩ | ⟨r2,_,_,e3,_,e4,_⟩⟩:=h1.own
  ·rw[e3]at e;simp at e
  rw[e3]at e;obtain rfl:=dO e;rw[hr]at e4;simp at e4
 rw[Hp.aE _ _ dG];exact h1.fresh r' e
def UQ(m n:Nat):List Nat:=(List.range n).filter λi=>m.testBit i
theorem ZtW(m n:Nat):UQ m (n+1)=UQ m n++if m.testBit n then[n]else[]:=by rw[UQ,qCH,qCT,UQ];congr 1;cases h:m.testBit n<;>simp[h]
def YJ(m n:Nat):List Int:=(UQ m n).map λ(i:Nat)=>(i:Int)
theorem Na(m n:Nat):(UQ m n).length<=n:=by have:=qBZ (λi=>m.testBit i) (List.range n);rwa [qBx]at this
theorem ZoZ{m:Nat}(hj:j<=64):ZB .shr .i64 (m:Int) (j:Int)=vi ((m / 2 ^ j:Nat):Int):=by show Value.int .i64 (Int.fdiv (m:Int) (2 ^ min (j:Int).toNat 64))=_;have e:min (j:Int).toNat 64=j:=O;rw[e];congr 1;rw[qBI _ (by exact Int.le_of_lt (Int.pow_pos (by decide)))];simp
theorem Zyu{x:Nat}(hx:x<9223372036854775808):ZB .and .i64 (x:Int) 1=vi ((x % 2:Nat):Int):=by
 have h1:(BitVec.ofInt 64 (x:Nat)).toNat=x:=by simp[qCp];omega
 have h2:(BitVec.ofInt 64 (1:Int)).toNat=1:=rfl;have h3:(BitVec.ofInt 64 (x:Nat) &&& BitVec.ofInt 64 1).toNat=x % 2:=by rw[qCd,h1,h2,Nat.and_one_is_mod]
 show Value.int .i64 (IntKind.i64.wrap ((BitVec.ofInt 64 (x:Nat) &&& BitVec.ofInt 64 1).toNat:Nat))=_;rw[h3,Uk ⟨O,O⟩]
theorem Znj(m j:Nat):(m / 2 ^ j % 2=1)↔m.testBit j=true:=by rw[Nat.testBit_eq_decide_div_mod_eq];simp
theorem Zo3{n:Nat}(h:n<=3):ZB .shl .i64 1 (n:Int)=vi ((2 ^ n:Nat):Int):=by
 match n,h with
 | 0,_=>rfl
 | 1,_=>rfl
 | 2,_=>rfl
 | 3,_=>rfl
theorem WS{α:Type}[DecidableEq α]:∀(m:List (α×Int)) (a:α) (w:Int) (c:α),ZE (Zz m a w) c=if c=a then w else ZE m c
 | [],a,w,c=>by simp[Zz,ZE]
 | (k,v) :: r,a,w,c=>by
  rw[Zz];by_cases h:a=k
  ·subst h;rw[iO rfl,ZE,ZE];by_cases hc:c=a
   ·rw[iO hc,iO hc]
   rw[bY hc,bY hc,bY hc]
  rw[bY h,ZE,ZE,WS r a w c];by_cases hc:c=k
  ·subst hc;rw[iO rfl,iO rfl,bY (qAi h)]
  rw[bY hc,bY hc]
theorem Ar(a b:N4):J8 a b=true↔a=b:=by obtain⟨a1,a2,a3,a4⟩:=a;obtain⟨b1,b2,b3,b4⟩:=b;simp[J8]
instance:DecidableEq N4:=λa b=>if h:J8 a b=true then .isTrue ((Ar a b).1 h)else .isFalse λe=>h ((Ar a b).2 e)
theorem Zu8{len:Nat}{E:TypeId}{k:N4}:∀(m:List (N4×Int)) (b i:Nat),Instr.findNow (.array len E) (Zv k) (cI Zv b m) i=(if m=[]then some none else none)
 | [],b,i=>rfl
 | (k',v) :: r,b,i=>rfl
section
variable{P:bF}[Tz P]
theorem ZmB{k:N4}{Q:Option (Nat×Value)->Bool->Hp->Prop}{g:Bool}{H:Hp}:∀(m:List (N4×Int)) (b i:Nat),Q (YF m k i) g H->cD P.toPQ (Instr.findAsking 105 (Zv k) (cI Zv b m) i) Q g H
 | [],b,i,h=>by simpa[cI,Instr.findAsking,YF,Zj]using h
 | (k',v) :: r,b,i,h=>by
  simp only[cI,Instr.findAsking,Zh];show cD P.toPQ (Op.equalIn (9998+1+1) 105 (Zv k) (Zv k')) _ g H;refine Zvl _ ?_;rw[YF]at h;by_cases e:k=k'
  ·rw[iO e]at h;rw[(Ar k k').2 e];simpa[Zj]using h
  rw[bY e]at h;have:J8 k k'=false:=by
   cases hh:J8 k k' with
   | false=>rfl
   | true=>exact absurd ((Ar k k').1 hh) e
  rw[this];simp only[iN,qAk];exact ZmB r (b+1) (i+1) h
theorem R2:Ks (α:=N4) P.toPQ 105 Zv where
 CF:=λb a Q g H h=>by
  have p1:∀(x y z u:Int) (Q:Value->Bool->Hp->Prop) g H,cD P.toPQ (part 3 #[vi x,vi y,vi z,vi u] 0) Q g H↔Q (vi x) g H:=λx y z u Q g H=>Vn rfl Q;have p2:∀(x y z u:Int) (Q:Value->Bool->Hp->Prop) g H,cD P.toPQ (part 3 #[vi x,vi y,vi z,vi u] 1) Q g H↔Q (vi y) g H:=λx y z u Q g H=>Vn rfl Q;have p3:∀(x y z u:Int) (Q:Value->Bool->Hp->Prop) g H,cD P.toPQ (part 3 #[vi x,vi y,vi z,vi u] 2) Q g H↔Q (vi z) g H:=λx y z u Q g H=>Vn rfl Q;have p4:∀(x y z u:Int) (Q:Value->Bool->Hp->Prop) g H,cD P.toPQ (part 3 #[vi x,vi y,vi z,vi u] 3) Q g H↔Q (vi u) g H:=λx y z u Q g H=>Vn rfl Q;have pc:∀(v:Int) (Q:Unit->Bool->Hp->Prop) g H,cD P.toPQ (Instr.checkKey b 9999 3 (vi v)) Q g H↔Q () g H:=λv Q g H=>by rw[show(9999:Nat)=9998+1 from rfl,Instr.checkKey];simp only[Zh,Zy (dC (P:=P) tX),Zj]
  obtain⟨p9,i1,i2,i3,i4⟩:=(eI (P:=P) t3).ex;have pS:∀(Q:Nat->Bool->Hp->Prop) g H,cD P.toPQ (sizeOf 3) Q g H↔Q 1 g H:=λQ g H=>by rw[Z6 i1,i2]
  rw[show(10000:Nat)=9999+1 from rfl,Instr.checkKey];simp only[Zv,Zh,Zy (dC (P:=P) SW)];have hr:List.range' 0 4=[0,1,2,3]:=rfl;simp only[qBG,Std.Legacy.Range.size,qBg,qBb,Nat.div_one,hr,qBT,List.forIn_nil,Zh,Z6 i1,i2];simpa[pS,p1,p2,p3,p4,pc,Zh,Zj]using h
 Jt:=λm a Q g H h=>by
  simp only[Instr.findKey,Zh,Zy (dC (P:=P) SW),Zu8];by_cases e:m=[]
  ·subst e;simpa[YF,Zj]using h
  rw[bY e];exact ZmB m 0 0 h
 M9:=λa=>by obtain⟨a,b,c,d⟩:=a;simp[Instr.sameBits,Zv]
end
section
variable{α:Type}[DecidableEq α]
def fX:List (α×Int)->α->Nat
 | [],_=>0
 | (k,_) :: r,a=>if a=k then 0 else fX r a+1
theorem qT(m:List (α×Int))(a:α)(u w:Int):Zz (Zz m a u) a w=Zz m a w:=by
 induction m with
 | nil=>simp[Zz]
 | cons p r ih=>
  obtain⟨k,v⟩:=p;rw[Zz,Zz];by_cases h:a=k
  ·subst h;rw[iO rfl,iO rfl,Zz,iO rfl]
  rw[bY h,bY h,Zz,bY h,ih]
theorem Zu7{m:List (α×Int)}{a:α}{v:Value}(h:YF m a i=some (j,v)):j=i+fX m a/\fX m a<m.length/\Zz m a (ZE m a)=m:=by
 induction m generalizing i with
 | nil=>simp[YF]at h
 | cons p r ih=>
  obtain⟨k,u⟩:=p;rw[YF]at h;rw[fX,Zz,ZE];by_cases hk:a=k
  ·rw[iO hk]at h;simp only[iF,qAG]at h;rw[iO hk,iO hk,iO hk];exact⟨O,by simp,rfl⟩
  rw[bY hk]at h;obtain⟨h1,h2,h3⟩:=ih h;rw[bY hk,bY hk,bY hk,h3];exact⟨O,by simp;omega,rfl⟩
theorem Zu6{m:List (α×Int)}{a:α}(h:YF m a i=none):fX m a=m.length:=by
 induction m generalizing i with
 | nil=>rfl
 | cons p r ih=>
  obtain⟨k,u⟩:=p;rw[YF]at h;split at h
  ·simp at h
  rename_i hk;rw[fX,bY hk,ih h];simp
theorem Pc(m:List (α×Int))(a:α)(w:Int):fX (Zz m a w) a=fX m a/\fX m a<(Zz m a w).length:=by
 induction m with
 | nil=>simp[Zz,fX]
 | cons p r ih=>
  obtain⟨k,v⟩:=p;rw[Zz,fX];by_cases h:a=k
  ·rw[iO h,iO h,fX,iO h];simp
  rw[bY h,bY h,fX,bY h];simp;exact ih
theorem ZoJ{kv:α->Value}(m:List (α×Int))(a:α)(b:Nat)(w:Int)(h:fX m a<m.length):(cI kv b m).findIdx? (λe=>(e.born:Int) == ((b+fX m a:Nat):Int))=some (fX m a)/\(cI kv b m).modify (fX m a) (λe=>{ e with val:=vi w })=cI kv b (Zz m a w)/\(Zz m a w).length=m.length:=by
 induction m generalizing b with
 | nil=>simp at h
 | cons p r ih=>
  obtain⟨k,v⟩:=p;rw[fX]at h ⊢;rw[Zz];by_cases hk:a=k
  ·subst hk;rw[iO rfl,iO rfl,cI,List.findIdx?_cons,qBY];refine⟨by simp,?_,by simp⟩;rw[cI];rfl
  rw[bY hk]at h ⊢;rw[bY hk];obtain⟨h1,h2,h3⟩:=ih (b+1) (by simpa using h);rw[show b+1+fX r a=b+(fX r a+1)by omega]at h1;refine⟨?_,?_,by simp[h3]⟩
  ·rw[cI,List.findIdx?_cons,h1];have:(((⟨kv k,vi v,b⟩:MapEntry).born:Int) == ((b+(fX r a+1):Nat):Int))=false:=by simp;omega
   simp only[this,iN,qAk,qBa]
  rw[cI,cI,<-h2];rfl
end
section
variable{P:bF}{d:Option Nat}{next:aN->Hp->Prop}{σ:aN}{H:Hp}{x y z:Operand}{v:Value}{ty:TypeId}{α:Type}[DecidableEq α]{kv:α->Value}{T K E:TypeId}
theorem ZiI{m:List (α×Int)}{a:α}(hu:P.toProgram.underlying T=some (.map K E))(hk:Ks P.toPQ K kv)(ti:TI P.toProgram E 1 (vi 0) gR)(e1:σ.get x=some (.map (some r)))(e2:σ.get y=some (kv a))(hr:H r=some (YE kv m,true))(bB:P.still H.gh=false)
  (h:next (σ.set d (.tuple #[vi (ZE m a),vi (fX m a)])) (H.ins r (YE kv (Zz m a (ZE m a))))):(bC.raw (.mapEntry T x y) ty).m P d next σ H:=by
 obtain⟨p9,i1,i2,i3,i4⟩:=ti.ex;refine YS (by simp[Op.operands,e1,e2]) (s:=Instr.mapEntry T (.map (some r)) (kv a)) (by simp[execOp,aP,e1,e2]) ?_;simp only[Instr.mapEntry,Zh,Zy hu];refine⟨_,_,⟨bB,hr⟩,rfl,rfl,?_⟩;rw[YE,cD];simp only[Zh,Zj];refine hk.CF _ _ ?_;refine hk.Jt m a ?_;cases hf:YF m a 0 with
 | none=>
  obtain⟨h1,h2⟩:=Zmz m a 0 (ZE m a) hf;have h3:=Zu6 hf;simp only[Zh,UC i1 i3];refine⟨_,⟨bB,hr⟩,rfl,rfl,rfl,?_⟩;have:Obj.map ((cI kv 0 m).toArray.push { key:=kv a,val:=vi 0,born:=m.length }) (m.length+1)=YE kv (Zz m a (ZE m a)):=by rw[h1,YE,ZmM,qAu,h2];simp
  rw[this,cD];simp only[Zj];rw[h2,h3]at h;rw[h2];exact h
 | some p=>
  obtain⟨j,u⟩:=p;obtain⟨h1,e,h2,h3,h4,h5,h6,h7⟩:=Zmy (kv:=kv) m a 0 0 j u (ZE m a) hf;obtain⟨g1,g2,g3⟩:=Zu7 hf;rw[qBg]at h2 h5 h6;simp only[qAD,h2,qBa,Option.getD_some,Instr.keyThatStays,Zh,h3,hk.M9,qAM,Zj];refine⟨_,⟨bB,hr⟩,rfl,rfl,rfl,?_⟩;have hm:Obj.map ((cI kv 0 m).toArray.modify j λe=>{ e with key:=kv a }) m.length=YE kv (Zz m a (ZE m a)):=by
   have:(cI kv 0 m).modify j (λe=>{ e with key:=kv a })=cI kv 0 m:=by
    refine qDa λi=>?_;rw[List.getElem?_modify];by_cases e':j=i
    ·subst e';rw[h2];show some (if j=j then _ else _)=some e;rw[iO rfl,<-h3]
    simp[e']
   rw[g3,YE];congr 1;rw[List.modify_toArray,this]
  rw[hm,cD];rw[h4,h5];have:Value.int IntKind.i64 ((0+j:Nat):Int)=vi (fX m a):=by rw[g1];simp
  show next (σ.set d (.tuple #[vi (ZE m a),goInt ((0+j:Nat):Int)])) _
  rw[show goInt ((0+j:Nat):Int)=vi (fX m a)from this];exact h
theorem Zth{m:List (α×Int)}{a:α}{w:Int}(e1:σ.get x=some (.map (some r)))(e2:σ.get y=some (vi (fX m a)))(e3:σ.get z=some (vi w))(hr:H r=some (YE kv m,true))(hi:fX m a<m.length)(bB:P.still H.gh=false)
  (h:next (σ.set d undef) (H.ins r (YE kv (Zz m a w)))):(bC.raw (.entryStore T x y z) ty).m P d next σ H:=by
 refine ZiE (by simp[Op.operands,e1,e2,e3]) (s:=Instr.entryStore T (.map (some r)) (vi (fX m a)) (vi w)) (by simp[execOp,aP,e1,e2,e3]) ?_;obtain⟨h1,h2,h3⟩:=ZoJ (kv:=kv) m a 0 w hi;rw[qAu]at h1;simp only[Instr.entryStore,Zh];refine⟨_,_,⟨bB,hr⟩,rfl,rfl,?_⟩;rw[YE,cD];simp only[Zh,asInt,asIntOf,Zj];have kM:(cI kv 0 m).toArray.findIdx? (λe=>(e.born:Int) == (fX m a:Int))=some (fX m a):=by rw[List.findIdx?_toArray];exact h1
 rw[kM];simp only;refine⟨_,⟨bB,hr⟩,rfl,rfl,rfl,?_⟩;have:Obj.map ((cI kv 0 m).toArray.modify (fX m a) λe=>{ e with val:=vi w }) m.length=YE kv (Zz m a w):=by rw[YE,h3,<-h2];simp
 rw[this];exact h
end
end
end Go.Proofs
end
section
namespace Go.LL
section
variable{G:Prop}{x k:Nat}
theorem Bg(h:G:=by rw[h.Sa,h.Xi]at this;refine this.trans ?_;congr 2;rcases yU h.L with e | e<;>rcases yU h.W with e2 | e2<;>rcases yU h.S with e3 | e3<;>rw[e,e2,e3]<;>(unfold bR;simp<;>omega)):G:=h
theorem LU(h:G:=by rw[h.Sa]at this;refine this.trans ?_;rcases yU h.L with e | e<;>rcases yU h.W with e2 | e2<;>rcases yU h.S with e3 | e3<;>rw[e,e2,e3]<;>rfl):G:=h
theorem Zyr(x k:Nat)(hk:k<8):x &&& k=(x % 8) &&& k:=by
 refine qCe λi=>?_;rw[qBR,qBR,show(8:Nat)=2 ^ 3 from rfl,qCy];by_cases h:i<3
 ·simp[h]
 have:k.testBit i=false:=qBV (qAz hk (by rw[show(8:Nat)=2 ^ 3 from rfl];exact qBe (by decide) O));simp[this]
theorem Zs0(x k:Nat)(hk:k<8):x ||| k=8 * (x / 8)+((x % 8) ||| k):=by
 have bV:(x % 8) ||| k<2 ^ 3:=Nat.or_lt_two_pow (qCW _ (by decide)) hk;refine qCe λi=>?_;rw[show 8 * (x / 8)=2 ^ 3 * (x / 8)from rfl,qBD _ bV,qCK,qCK,show(8:Nat)=2 ^ 3 from rfl,qCy,Nat.testBit_div_two_pow];by_cases h:i<3
 ·simp[h]
 have:k.testBit i=false:=qBV (qAz hk (by rw[show(8:Nat)=2 ^ 3 from rfl];exact qBe (by decide) O));have e:i-3+3=i:=O;simp[h,this,e]
theorem Zyt(x k:Nat)(hk:k<8)(hx:x<4294967296):x &&& (4294967295-k)=8 * (x / 8)+((x % 8) &&& (7-k)):=by
 have bV:(x % 8) &&& (7-k)<2 ^ 3:=Nat.and_lt_two_pow _ O;have e0:4294967295-k=2 ^ 3 * 536870911+(7-k):=O;have yY:7-k<2 ^ 3:=O;refine qCe λi=>?_;rw[show 8 * (x / 8)=2 ^ 3 * (x / 8)from rfl,qBD _ bV,qBR,e0,qBD _ yY,qBR,show(8:Nat)=2 ^ 3 from rfl,qCy,Nat.testBit_div_two_pow];by_cases h:i<3
 ·simp[h]
 have e:i-3+3=i:=O;simp only[h,qAk,e];rw[show(536870911:Nat)=2 ^ 29-1 from rfl,Nat.testBit_two_pow_sub_one];by_cases h2:i-3<29
 ·simp[h2]
 have:x.testBit i=false:=qBV (qAz hx (by rw[show(4294967296:Nat)=2 ^ 32 from rfl];exact qBe (by decide) O));simp[this]
theorem O1{z:Int}(h1:0<=z)(h2:z<2147483648):IntKind.i32.wrap z=z:=by simp only[IntKind.wrap,IntKind.bits,IntKind.signed];simp;omega
theorem MO(x:Nat)(hx:x<4294967296):(BitVec.ofInt 32 (x:Nat)).toNat=x:=by simp[qCp];omega
theorem LG(hx:x<2147483648)(hk:k<8):ZB .and .i32 (x:Nat) (k:Nat)=.int .i32 (((x % 8) &&& k:Nat):Int):=by have eP:x<4294967296:=O;have gG:k<4294967296:=O;have kK:x &&& k<=x:=Nat.and_le_left;show Value.int .i32 (IntKind.i32.wrap ((BitVec.ofInt 32 (x:Nat) &&& BitVec.ofInt 32 (k:Nat)).toNat:Nat))=_;rw[qCd,MO x eP,MO k gG,O1 O O,Zyr x k hk]
theorem La(hx:x<2147483640)(hk:k<8):ZB .or .i32 (x:Nat) (k:Nat)=.int .i32 ((8 * (x / 8)+((x % 8) ||| k):Nat):Int):=by have eP:x<4294967296:=O;have gG:k<4294967296:=O;have bV:(x % 8) ||| k<2 ^ 3:=Nat.or_lt_two_pow (qCW _ (by decide)) hk;have e:=Zs0 x k hk;show Value.int .i32 (IntKind.i32.wrap ((BitVec.ofInt 32 (x:Nat) ||| BitVec.ofInt 32 (k:Nat)).toNat:Nat))=_;rw[BitVec.toNat_or,MO x eP,MO k gG,e,O1 O O]
theorem Zyk(hx:x<2147483640)(hk:k<8):ZB .andNot .i32 (x:Nat) (k:Nat)=.int .i32 ((8 * (x / 8)+((x % 8) &&& (7-k)):Nat):Int):=by have eP:x<4294967296:=O;have gG:k<4294967296:=O;have bV:(x % 8) &&& (7-k)<2 ^ 3:=Nat.and_lt_two_pow _ O;have e:=Zyt x k hk eP;show Value.int .i32 (IntKind.i32.wrap ((BitVec.ofInt 32 (x:Nat) &&& ~~~ BitVec.ofInt 32 (k:Nat)).toNat:Nat))=_;rw[qCd,BitVec.toNat_not,MO x eP,MO k gG,show 2 ^ 32-1-k=4294967295-k from rfl,e,O1 O O]
theorem EZ:ZB .shr .i32 (x:Nat) (3:Nat)=.int .i32 ((x / 8:Nat):Int):=by show Value.int .i32 (Int.fdiv (x:Nat) (2 ^ min (Int.toNat ((3:Nat):Int)) 32))=_;have:(2:Int) ^ min (Int.toNat ((3:Nat):Int)) 32=8:=rfl;rw[this,qBI _ O];simp
section
variable{L W S n:Nat}
structure YO(L W S n:Nat):Prop where
 L:L<=1
 W:W<=1
 S:S<=1
 n:n<=260000000
theorem dB.w(h:dB L W S n):YO L W S n:=⟨h.L,h.W,h.S,by have:=h.n;omega⟩
theorem YO.Sa(h:YO L W S n):bR L W S n % 8=L+2 * W+4 * S:=by obtain⟨a,b,c,d⟩:=h;unfold bR;omega
theorem YO.Xi(h:YO L W S n):bR L W S n / 8=n:=by obtain⟨a,b,c,d⟩:=h;unfold bR;omega
theorem YO.lt(h:YO L W S n):bR L W S n<2147483640:=by obtain⟨a,b,c,d⟩:=h;unfold bR;omega
theorem yU(h:x<=1):x=0\/x=1:=O
theorem YO.pF(h:YO L W S n):ZB .and .i32 (bR L W S n:Nat) 5=.int .i32 ((L+4 * S:Nat):Int):=by have:=LG (x:=bR L W S n) (k:=5) (by have:=h.lt;omega) (by decide);exact LU
theorem YO.CJ(h:YO L W S n):ZB .and .i32 (bR L W S n:Nat) 1=.int .i32 ((L:Nat):Int):=by have:=LG (x:=bR L W S n) (k:=1) (by have:=h.lt;omega) (by decide);exact LU
theorem YO.vA(h:YO L W S n):ZB .and .i32 (bR L W S n:Nat) 2=.int .i32 ((2 * W:Nat):Int):=by have:=LG (x:=bR L W S n) (k:=2) (by have:=h.lt;omega) (by decide);exact LU
theorem YO.u7(h:YO L W S n):ZB .and .i32 (bR L W S n:Nat) 3=.int .i32 ((L+2 * W:Nat):Int):=by have:=LG (x:=bR L W S n) (k:=3) (by have:=h.lt;omega) (by decide);exact LU
theorem YO.jG(h:YO L W S n):ZB .and .i32 (bR L W S n:Nat) 4=.int .i32 ((4 * S:Nat):Int):=by have:=LG (x:=bR L W S n) (k:=4) (by have:=h.lt;omega) (by decide);exact LU
theorem YO.E5(h:YO L W S n):ZB .and .i32 (bR L W S n:Nat) 7=.int .i32 ((L+2 * W+4 * S:Nat):Int):=by have:=LG (x:=bR L W S n) (k:=7) (by have:=h.lt;omega) (by decide);exact LU
theorem YO.KM(h:YO L W S n):ZB .or .i32 (bR L W S n:Nat) 1=.int .i32 ((bR 1 W S n:Nat):Int):=by have:=La (x:=bR L W S n) (k:=1) h.lt (by decide);exact Bg
theorem YO.TP(h:YO L W S n):ZB .or .i32 (bR L W S n:Nat) 2=.int .i32 ((bR L 1 S n:Nat):Int):=by have:=La (x:=bR L W S n) (k:=2) h.lt (by decide);exact Bg
theorem YO.or4(h:YO L W S n):ZB .or .i32 (bR L W S n:Nat) 4=.int .i32 ((bR L W 1 n:Nat):Int):=by have:=La (x:=bR L W S n) (k:=4) h.lt (by decide);exact Bg
theorem YO.xP(h:YO L W S n):ZB .andNot .i32 (bR L W S n:Nat) 2=.int .i32 ((bR L 0 S n:Nat):Int):=by have:=Zyk (x:=bR L W S n) (k:=2) h.lt (by decide);exact Bg
theorem YO.nN(h:YO L W S n):ZB .shr .i32 (bR L W S n:Nat) 3=.int .i32 ((n:Nat):Int):=by refine EZ.trans ?_;rw[h.Xi]
theorem YO.CK(h:YO L W S n):IntKind.i32.wrap ((bR L W S n:Nat)+8)=((bR L W S (n+1):Nat):Int):=by
 have:=h.lt;have e:((bR L W S n:Nat):Int)+8=((bR L W S (n+1):Nat):Int):=by unfold bR;omega
 rw[<-e,O1 O O]
theorem YO.GX(h:YO L W S (n+1)):ZB .sub .i32 (bR L W S (n+1):Nat) 8=.int .i32 ((bR L W S n:Nat):Int):=by
 have:=h.lt;show Value.int .i32 (IntKind.i32.wrap (((bR L W S (n+1):Nat):Int)-8))=_;have e:((bR L W S (n+1):Nat):Int)-8=((bR L W S n:Nat):Int):=by unfold bR;omega
 rw[e,O1 O (by unfold bR at this ⊢;omega)]
theorem dB.lt(h:dB L W S n):bR L W S n<2147483640:=h.w.lt
theorem dB.pF(h:dB L W S n):ZB .and .i32 (bR L W S n:Nat) 5=.int .i32 ((L+4 * S:Nat):Int):=h.w.pF
theorem dB.CJ(h:dB L W S n):ZB .and .i32 (bR L W S n:Nat) 1=.int .i32 ((L:Nat):Int):=h.w.CJ
theorem dB.vA(h:dB L W S n):ZB .and .i32 (bR L W S n:Nat) 2=.int .i32 ((2 * W:Nat):Int):=h.w.vA
theorem dB.u7(h:dB L W S n):ZB .and .i32 (bR L W S n:Nat) 3=.int .i32 ((L+2 * W:Nat):Int):=h.w.u7
theorem dB.jG(h:dB L W S n):ZB .and .i32 (bR L W S n:Nat) 4=.int .i32 ((4 * S:Nat):Int):=h.w.jG
theorem dB.E5(h:dB L W S n):ZB .and .i32 (bR L W S n:Nat) 7=.int .i32 ((L+2 * W+4 * S:Nat):Int):=h.w.E5
theorem dB.KM(h:dB L W S n):ZB .or .i32 (bR L W S n:Nat) 1=.int .i32 ((bR 1 W S n:Nat):Int):=h.w.KM
theorem dB.TP(h:dB L W S n):ZB .or .i32 (bR L W S n:Nat) 2=.int .i32 ((bR L 1 S n:Nat):Int):=h.w.TP
theorem dB.xP(h:dB L W S n):ZB .andNot .i32 (bR L W S n:Nat) 2=.int .i32 ((bR L 0 S n:Nat):Int):=h.w.xP
theorem dB.nN(h:dB L W S n):ZB .shr .i32 (bR L W S n:Nat) 3=.int .i32 ((n:Nat):Int):=h.w.nN
theorem dB.CK(h:dB L W S n):IntKind.i32.wrap ((bR L W S n:Nat)+8)=((bR L W S (n+1):Nat):Int):=h.w.CK
theorem dB.GX(h:dB L W S (n+1)):ZB .sub .i32 (bR L W S (n+1):Nat) 8=.int .i32 ((bR L W S n:Nat):Int):=h.w.GX
end
section
variable{P:bF}{Qe:Ex->aN->Hp->Prop}{σ:aN}{H:Hp}{b:Ze}
theorem S6{ι:Type}(I:ι->Hp->Prop)(μ:ι->Nat)(env:ι->List (Nat×Value))(box:ι->List (Nat×List Value))(i:ι)(h0:I i H)(he:tI (env i) σ)(hb:tJ (box i) σ)
  (h:∀i H,I i H->b.m P (iB.then (λσ' H'=>∃j,μ j<μ i/\I j H'/\tI (env j) σ'/\tJ (box j) σ'/\σ'.cX=σ.cX) Qe) (V4 σ.cX (env i) (box i)) H):(Ze.loop b).m P Qe σ H:=⟨ι,I,μ,env,box,i,h0,⟨he,hb⟩,h⟩
end
end
end Go.LL
end
open Go Go.LL
namespace Go.Proofs
variable{H Hl:Hp}{kd:CallKind}{l:List Nat}
theorem tK:Ye Tryz.prog 21=some none:=U
def Zm0(p:Program)(src dst:TypeId):Bool:=
 match p.underlying src,p.underlying dst with
 | some (.pointer t),some .unsafePointer=>match p.info? t with
  | some i=>!(decide (i.size=0))
  | none=>false
 | _,_=>false
theorem Lh{p:Program}{src dst:TypeId}(h:Zm0 p src dst=true):K4 p src dst:=by
 unfold Zm0 at h;split at h
 ·split at h
  ·rename_i t h1 h2 _ i hi;exact⟨⟨t,h1,h2,by rw[hi];simpa using h⟩⟩
  simp at h
 simp at h
theorem Oi:K4 Tryz.prog 261 226:=Lh U
theorem Lg:K4 Tryz.prog 224 226:=Lh U
theorem Zm1:K4 Tryz.prog 231 226:=Lh U
theorem XN:norace Tryz.prog 250=true:=U
section
variable{c:Cx}{i:Nat}{H0:Hp}
def Dp(c:Cx)(i:Nat)(H0:Hp)(H':Hp):Prop:=∃(l:List Nat) (Hl:Hp),c.PI l Hl/\H0.hd ∉ l/\c.need H0.hd=true/\Hl.gh=[]/\(H0.tagc (12 :: l)).Comp Hl/\H'=(H0.tagc (12 :: l)).join Hl
noncomputable abbrev pw(c:Cx)(i:Nat):bF:=(bG Tryz.prog c).prgW i
abbrev ptr(b:Nat):Value:=.pointer (some (dN b))
theorem Zue(ok:c.Ok)(iA:c.need H.hd=true)(N6:∀H:Hp,H.cg=[3]->LL.Zc (pw c i) 229 #[ptr c.M] H λ_ H'=>Dp c i H H')(hg:H.cg=[1]):LL.Zc (pw c i) 197 #[ptr c.M] H λ_ H'=>Dp c i H H':=by
 refine aO.m (P:=pw c i) Zws (args:=[ptr c.M]) rfl ?_;unfold ZjL;refine Z ?_;refine Zr UU (vs:=[]) rfl (ZyM ok UU (by rw[hg];rfl) iA) ?_;rintro v _ ⟨rfl,rfl⟩;refine Z ?_;refine Zr YG (vs:=[ptr c.M,.int .i32 0,.int .i32 1]) rfl (ZyQ ok YG (by rfl)) ?_;rintro v _ (⟨rfl,rfl⟩ | ⟨rfl,rfl⟩)
 ·refine Z ?_;refine Zr Yj (vs:=[]) rfl (OW ok Yj (by rfl)) ?_;rintro v _ ⟨rfl,rfl⟩;refine Z ?_;refine VE rfl (UV ok Oi rfl (.inl rfl) (.inl (by simp[Vb,cd]))) ?_;rintro v _ ⟨rfl,rfl⟩;refine Z ?_;refine Zr YH (vs:=[ptr c.M]) rfl (OU ok YH (by rfl)) ?_;rintro v _ ⟨rfl,l,Hl,h1,h2,h3,h4,h5,rfl⟩;refine Z ?_;exact⟨l,Hl,h1,h2,h3,h4,h5,rfl⟩
 refine Z ?_;refine Za (vs:=[ptr c.M]) rfl (N6 _ rfl) ?_;rintro v H' ⟨l,Hl,h1,h2,h3,h4,h5,rfl⟩;refine Z ?_;exact⟨l,Hl,h1,h2,h3,h4,h5,rfl⟩
end
def ZlR:Ze:=(.block 0 (.loop (.block 1 (.seq (.seq (.aI [⟨none,(some 14),(.fB (.tmp 4))⟩,⟨none,(some 15),(.raw (.binOp .shr 21 (.tmp 14) (.const (.int .u64 3)) 176) 21)⟩,⟨none,(some 16),(.bQ .eql (.tmp 15) (.const (.int .i32 0)))⟩,⟨none,(some 17),(.fB (.tmp 16))⟩,⟨(some (17,false)),(some 18),(.fB (.tmp 4))⟩,⟨(some (17,false)),(some 19),(.raw (.binOp .and 21 (.tmp 18) (.const (.int .i32 7)) 21) 21)⟩,⟨(some (17,false)),(some 20),(.bQ .neq (.tmp 19) (.const (.int .i32 0)))⟩,⟨none,(some 21),(.pick (.tmp 17) (.const (.bool true)) (.tmp 20))⟩]) (.cond (.tmp 21) .ret .skip)) (.seq (.aI [⟨none,(some 22),(.fB (.tmp 4))⟩,⟨none,(some 23),(.raw (.binOp .sub 21 (.tmp 22) (.const (.int .i32 8)) 21) 21)⟩,⟨none,(some 24),(.raw (.binOp .or 21 (.tmp 23) (.const (.int .i32 2)) 21) 21)⟩,⟨none,(some 1),(.fB (.tmp 24))⟩]) (.seq (.seq (.aI [⟨none,(some 25),(.fB (.tmp 0))⟩,⟨none,(some 26),(.raw (.nilCheck (.tmp 25)) 0)⟩,⟨none,(some 27),(.bM 0 (.tmp 26))⟩,⟨none,(some 28),(.fB (.tmp 4))⟩,⟨none,(some 29),(.fB (.tmp 1))⟩,⟨none,(some 30),(.raw (.call (.mk (.value (.func 228)) #[(.tmp 27),(.tmp 28),(.tmp 29)] #[263,21,21])) 4)⟩]) (.cond (.tmp 30) (.seq (.aI [⟨none,(some 31),(.fB (.tmp 0))⟩,⟨none,(some 32),(.raw (.nilCheck (.tmp 31)) 0)⟩,⟨none,(some 33),(.bM 1 (.tmp 32))⟩,⟨none,(some 34),(.raw (.call (.mk (.value (.func 253)) #[(.tmp 33),(.const (.bool false)),(.const (.int .i64 2))] #[231,4,3])) 0)⟩]) .ret) .skip)) (.aI [⟨none,(some 35),(.fB (.tmp 0))⟩,⟨none,(some 36),(.raw (.nilCheck (.tmp 35)) 0)⟩,⟨none,(some 37),(.bM 0 (.tmp 36))⟩,⟨none,(some 38),(.jA (.load 21 (.tmp 37)) 21)⟩,⟨none,(some 4),(.fB (.tmp 38))⟩])))))))
section
variable{c:Cx}{i:Nat}{H0:Hp}
theorem Qk(ok:c.Ok)(kL:kd=.normal\/kd=.deferred){L W S n m:Nat}(hB:dB L W S n){v:Value}(hv:v=.int .i32 (bR L W S n:Nat))(hL:L=0)
  (hg:(S=0/\(n=0\/W=1)/\H.cg=[18])\/(W=0/\S=0/\1<=n/\H.cg=[15,bR 0 0 0 n,m])\/(S=1/\H.cg=[17])) :
  Y2 (pw c i) kd 231 #[ptr c.M,v] H λ_ H'=>H'=H.tagc [18]:=by
 subst hv hL;refine aO.mK (P:=pw c i) kL Zwb (args:=[ptr c.M,.int .i32 (bR 0 W S n:Nat)]) rfl ?_;unfold Zju;refine Z ?_;refine Yd rfl rfl rfl ?_;have e1:IntKind.i32.wrap ((bR 0 W S n:Nat)+1)=((bR 1 W S n:Nat):Int):=by
  have:=hB.lt;have e:((bR 0 W S n:Nat):Int)+1=((bR 1 W S n:Nat):Int):=by unfold bR;omega
  rw[<-e,O1 O O]
 show ZT _ _ _ (aN.set _ _ (.int .i32 (IntKind.i32.wrap _))) _;rw[e1];have vV:dB 1 W S n:=⟨O,hB.W,hB.S,hB.n⟩;refine Z ?_;refine Zo rfl rfl (.inl rfl) vV.CJ (Z ?_);refine Yc rfl rfl rfl (by simp) (Z ?_);refine Zo rfl rfl (.inl rfl) hB.jG (Z ?_);have F6:∀σ:aN,S=0->∀live:Bool,(live=false->(W=1\/n=0)/\H.cg=[18])->(live=true->W=0/\1<=n/\H.cg=[15,bR 0 0 0 n,m])->σ.env 0=some (ptr c.M)->σ.env 4=some (.int .i32 (bR 0 W S n:Nat))->σ.cX=[] ->
   (ZlR).m (pw c i) (FA (pw c i) ZhU λ_ H'=>H'=H.tagc [18]) σ H:=by
  intro σ hS live sV C1 yV hs4 P9
  unfold ZlR
  refine Z ?_
  refine S6 (λ(j:Nat×Nat×Nat×Nat×Nat×Bool) H'=>dB j.1 j.2.1 j.2.2.1 j.2.2.2.1/\(j.2.2.2.2.2=false->(j.1=1\/j.2.1=1\/j.2.2.1=1\/j.2.2.2.1=0)/\H'=H.tagc [18]) /\
    (j.2.2.2.2.2=true->j.1=0/\j.2.1=0/\j.2.2.1=0/\1<=j.2.2.2.1/\H'=H.tagc [15,bR 0 0 0 j.2.2.2.1,j.2.2.2.2.1]))
   (λj=>bif j.2.2.2.2.2 then j.2.2.2.2.1+1 else 0) (λj=>[(0,ptr c.M),(4,.int .i32 (bR j.1 j.2.1 j.2.2.1 j.2.2.2.1:Nat))]) (λ_=>[]) (0,W,0,n,m,live) ?_ ⟨yV,by rw[hs4,hS],trivial⟩ trivial ?_
  ·subst hS;refine⟨hB,λe=>⟨(sV e).1.elim (λh=>.inr (.inl h)) λh=>.inr (.inr (.inr h)),by have h8:=(sV e).2;rw[<-h8];exact(Bw (by rw[h8];simp[cd])).symm⟩,λe=>⟨rfl,(C1 e).1,rfl,(C1 e).2.1,by have h8:=(C1 e).2.2;rw[<-h8];exact(Bw (by rw[h8];simp[cd])).symm⟩⟩
  rintro⟨L',W',S',n',m',NN⟩ H' ⟨BX,QQ,QP⟩
  simp only at BX QQ QP
  rw[P9]
  refine Z ?_
  refine Vq rfl rfl (.inl rfl) (by decide) BX.nN ?_
  refine Z ?_
  cases NN with
  | false=>
   obtain⟨hc,rfl⟩:=QQ rfl;by_cases hn:n'=0
   ·refine YA rfl rfl rfl (by simp[hn]) (Z ?_);rfl
   refine Yc rfl rfl rfl (by simpa using hn) (Z ?_);refine Zo rfl rfl (.inl rfl) BX.E5 (Z ?_);refine YT rfl rfl rfl O (Z ?_);rfl
  | true=>
   obtain⟨rfl,rfl,rfl,h1,rfl⟩:=QP rfl;refine Yc rfl rfl rfl O (Z ?_);refine Zo rfl rfl (.inl rfl) BX.E5 (Z ?_);refine Z8 rfl rfl rfl (by simp) (Z ?_);obtain⟨k,rfl⟩:∃k,n'=k+1:=⟨n'-1,O⟩;have fH:dB 0 0 0 k:=⟨O,O,O,by have:=BX.n;omega⟩;refine Zo rfl rfl (.inr (.inr (.inr rfl))) BX.GX (Z ?_);refine Zo rfl rfl (.inr (.inl rfl)) fH.TP (Z ?_);refine Zr YG (vs:=[ptr c.M,.int .i32 (bR 0 0 0 (k+1):Nat),.int .i32 (bR 0 1 0 k:Nat)]) rfl (ZyP ok YG BX (by rfl)) ?_;rintro v _ (⟨rfl,rfl⟩ | ⟨rfl,rfl⟩)
   ·refine Z ?_;refine Zr Av (vs:=[.pointer (some ((dN c.M).add 1)),.bool false,.int .i64 2]) rfl (Znq ok Av rfl (by rfl)) ?_;rintro v _ ⟨rfl,rfl⟩;refine Z ?_;rfl
   refine Z ?_;refine Vd rfl (ZyI ok tK rfl (by rfl)) ?_;rintro v _ (⟨L2,W2,S2,n2,Ji,EM,rfl,rfl⟩ | ⟨n2,m2,Ji,h3,rfl,rfl,hm⟩)
   ·refine Z ?_;exact⟨(L2,W2,S2,n2,0,false),by simp,⟨Ji,λ_=>⟨EM,rfl⟩,λe=>by simp at e⟩,V,trivial,rfl⟩
   refine Z ?_;exact⟨(0,0,0,n2,m2,true),by simpa using hm,⟨Ji,λe=>by simp at e,λ_=>⟨rfl,rfl,rfl,h3,rfl⟩⟩,V,trivial,rfl⟩
 rcases hg with⟨rfl,h1,h2⟩ | ⟨rfl,rfl,h1,h2⟩ | ⟨rfl,h2⟩
 ·refine YA rfl rfl rfl (by simp) (Z ?_);exact F6 _ rfl false (λ_=>⟨h1.symm,h2⟩) (λe=>by simp at e) rfl rfl rfl
 ·refine YA rfl rfl rfl (by simp) (Z ?_);exact F6 _ rfl true (λe=>by simp at e) (λ_=>⟨rfl,h1,h2⟩) rfl rfl rfl
 refine Yc rfl rfl rfl (by simp) (Z ?_);refine Zr Av (vs:=[.pointer (some ((dN c.M).add 1)),.bool true,.int .i64 2]) rfl (Znq ok Av rfl h2) ?_;rintro v _ ⟨rfl,rfl⟩;refine Z ?_;rfl
theorem Zn6(ok:c.Ok)(kL:kd=.normal\/kd=.deferred)(hc:H0.Comp Hl)(hg:H0.cg=12 :: l)(yE:c.PI (l++[H0.hd]) Hl) :
  Y2 (pw c i) kd 198 #[ptr c.M] (H0.join Hl) λ_ H'=>H'=H0.tagc [19]:=by
 have cZ:Hl.gh=[]:=hc.gh.resolve_left (VQ (.inl (.inl (by rw[hg];simp[cd]))));have KR:(H0.join Hl).cg=12 :: l:=by unfold Hp.cg;rw[Hp.bP,cZ,qAj];exact hg
 have jE:Yw (H0.join Hl).cg:=by rw[KR];exact .inl (by simp[cd])
 refine aO.mK (P:=pw c i) kL Zwr (args:=[ptr c.M]) rfl ?_;unfold ZjK;refine Z ?_;refine Vd rfl (Zug ok tK rfl jE) ?_;rintro v _ rfl;refine Z ?_;refine VE rfl (UV ok Oi rfl (.inl rfl) jE) ?_;rintro v _ ⟨rfl,rfl⟩;refine Z ?_;refine Zr XC (vs:=[ptr c.M]) rfl (ZyJ ok XC hc hg yE) ?_;rintro v _ ⟨rfl,rfl⟩;refine Z ?_;refine Zr UU (vs:=[]) rfl (ZyL ok UU (by rfl)) ?_;rintro v _ ⟨rfl,rfl⟩;refine Z ?_;refine Zr YX (vs:=[ptr c.M,.int .i32 (-1)]) rfl (ZyG ok YX (by rfl)) ?_;have gL:∀{σ:aN} {H:Hp},H.cg=[18]->H.tagc [19]=H0.tagc [19]->σ.cX=[]->(Ze.aI [⟨none,some 20,.raw (.call (.mk (.value (.func 186)) #[] #[])) 0⟩]).m (pw c i) (FA (pw c i) ZhV λ_ H'=>H'=H0.tagc [19]) σ H:=by intro σ H hg he hd;refine Z ?_;refine Zr Yj (vs:=[]) rfl (ZyK ok Yj (by rw[hg];rfl)) ?_;rintro v _ ⟨rfl,rfl⟩;refine Z ?_;exact MK (S4 (vs:=[]) hd rfl rfl he)
 rintro v _ (⟨W,n,hB,h1,rfl,rfl⟩ | ⟨n,m,hB,h1,rfl,rfl⟩ | ⟨n,hB,rfl,rfl⟩)
 ·by_cases h0:bR 0 W 0 n=0
  ·refine Z ?_;refine Z8 rfl rfl rfl (by simpa using h0) (Z ?_);exact gL rfl rfl rfl
  refine Z ?_;refine YT rfl rfl rfl (by simpa using h0) (Z ?_);refine Za (vs:=[ptr c.M,.int .i32 (bR 0 W 0 n:Nat)]) rfl (Qk (m:=0) ok (.inl rfl) hB rfl rfl (.inl ⟨rfl,h1,rfl⟩)).pE ?_;rintro v _ rfl;refine Z ?_;exact gL rfl rfl rfl
 ·refine Z ?_;refine YT rfl rfl rfl (by unfold bR;omega) (Z ?_);refine Za (vs:=[ptr c.M,.int .i32 (bR 0 0 0 n:Nat)]) rfl (Qk (m:=m) ok (.inl rfl) hB rfl rfl (.inr (.inl ⟨rfl,rfl,h1,rfl⟩))).pE ?_;rintro v _ rfl;refine Z ?_;exact gL rfl rfl rfl
 refine Z ?_;refine YT rfl rfl rfl (by unfold bR;omega) (Z ?_);refine Za (vs:=[ptr c.M,.int .i32 (bR 0 0 1 n:Nat)]) rfl (Qk (m:=0) ok (.inl rfl) hB rfl rfl (.inr (.inr ⟨rfl,rfl⟩))).pE ?_;rintro v _ rfl;refine Z ?_;exact gL rfl rfl rfl
theorem Zn5(ok:c.Ok)(kL:kd=.normal\/kd=.deferred)(hc:H0.Comp Hl)(hg:H0.cg=12 :: l)(yE:c.PI (l++[H0.hd]) Hl) :
  Y2 (pw c i) kd 151 #[ptr c.M] (H0.join Hl) λ_ H'=>H'=H0.tagc [19]:=by
 refine aO.mK (P:=pw c i) kL Zxi (args:=[ptr c.M]) rfl ?_;unfold ZkB;refine Z ?_;refine Za (vs:=[ptr c.M]) rfl (Zn6 ok (.inl rfl) hc hg yE).pE ?_;rintro v _ rfl;refine Z ?_;rfl
end
