import Derived.Test.YtmfealhfgccmfaaGreatDoorP16
import Derived.Test.YtmfealhfgccmfaaGreatDoorP17
import Derived.Test.YtmfealhfgccmfaaGreatDoorP24
set_option linter.all false
def xY{G:Prop}(h:G:=by rw[h.mod]at this;refine this.trans ?_;rcases yO h.L with e | e<;>rcases yO h.W with e2 | e2<;>rcases yO h.S with e3 | e3<;>rw[e,e2,e3]<;>rfl):G:=h
def D7{G:Prop}(h:G:=by rw[h.mod,h.div]at this;refine this.trans ?_;congr 2;rcases yO h.L with e | e<;>rcases yO h.W with e2 | e2<;>rcases yO h.S with e3 | e3<;>rw[e,e2,e3]<;>(unfold gD;simp<;>omega)):G:=h
section
open Go Go.LL
namespace Go.Proofs
section
variable{r gQ j i:Nat}
def gF{α:Type}(kv:α->Value):Nat->List (α×Int)->List MapEntry
 | _,[]=>[]
 | b,(k,v) :: r=>⟨kv k,vi v,b⟩ :: gF kv (b+1) r
def YR{α:Type}(kv:α->Value)(m:List (α×Int)):Obj:=.map (gF kv 0 m).toArray m.length
def YS{α:Type}[DecidableEq α]:List (α×Int)->α->Nat->Option (Nat×Value)
 | [],_,_=>none
 | (k,v) :: r,a,i=>if a=k then some (i,vi v)else YS r a (i+1)
def ZF{α:Type}[DecidableEq α]:List (α×Int)->α->Int
 | [],_=>0
 | (k,v) :: r,a=>if a=k then v else ZF r a
def ZD{α:Type}[DecidableEq α]:List (α×Int)->α->Int->List (α×Int)
 | [],a,w=>[(a,w)]
 | (k,v) :: r,a,w=>if a=k then(k,w) :: r else(k,v) :: ZD r a w
section
variable{α:Type}[DecidableEq α]{kv:α->Value}
def Zmu:∀(b:Nat) (m:List (α×Int)) (a:α) (w:Int),gF kv b (m++[(a,w)])=gF kv b m++[⟨kv a,vi w,b+m.length⟩]
 | b,[],a,w=>by simp[gF]
 | b,(k,v) :: r,a,w=>by simp only[qBa,gF,Zmu (b+1) r a w,qAF];congr 4;omega
def Zma:∀(m:List (α×Int)) (a:α) (i:Nat),(match YS m a i with | some (_,v)=>v | none=>vi 0)=vi (ZF m a)
 | [],a,i=>rfl
 | (k,v) :: r,a,i=>by
  simp only[YS,ZF];by_cases h:a=k
  ·rw[qAa h,qAa h]
  rw[iF h,iF h];exact Zma r a (i+1)
theorem Zl8:∀(m:List (α×Int)) (a:α) (b i j:Nat) (v:Value) (w:Int),YS m a i=some (j,v) ->
  i<=j/\∃e,(gF kv b m)[j-i]? = some e/\e.key=kv a/\v=vi (ZF m a)/\e.born=b+(j-i)/\(gF kv b m).modify (j-i) (λe=>{ e with key:=kv a,val:=vi w })=gF kv b (ZD m a w)/\(ZD m a w).length=m.length
 | [],a,b,i,j,v,w,h=>by simp[YS]at h
 | (k,u) :: r,a,b,i,j,v,w,h=>by
  rw[YS]at h;by_cases f:a=k
  ·subst f;rw[qAa rfl]at h;simp only[IF,qAX]at h;obtain⟨rfl,rfl⟩:=h;refine⟨DO _,_,by rw[qCf,gF,qBy],rfl,by rw[ZF,qAa rfl],by simp,?_,by rw[ZD,qAa rfl];rfl⟩;rw[qCf,ZD,qAa rfl,gF,gF];rfl
  rw[iF f]at h;obtain⟨t,e,o,p,q,A,s,h7⟩:=Zl8 r a (b+1) (i+1) j v w h;have g:j-i=(j-(i+1))+1:=O;refine⟨O,e,?_,p,by rw[ZF,iF f];exact q,O,?_,by rw[ZD,iF f,qAF,qAF,h7]⟩
  ·rw[g,gF,qBk];exact o
  rw[g,ZD,iF f,gF,gF,<-s];rfl
def Zl9:∀(m:List (α×Int)) (a:α) (i:Nat) (w:Int),YS m a i=none->ZD m a w=m++[(a,w)]/\ZF m a=0
 | [],a,i,w,h=>⟨rfl,rfl⟩
 | (k,u) :: r,a,i,w,h=>by
  rw[YS]at h;split at h
  ·simp at h
  rename_i e;obtain⟨f,g⟩:=Zl9 r a (i+1) w h;exact⟨by rw[ZD,iF e,f];rfl,by rw[ZF,iF e];exact g⟩
end
structure MA{α:Type}[DecidableEq α](P:PQ)(T:TypeId)(kv:α->Value):Prop where
 chk:∀(b:Bool) (a:α) {Q:Unit->Bool->Hp->Prop} {g:Bool} {H:Hp},Q () g H->fZ P (Instr.checkKey b 10000 T (kv a)) Q g H
 N6:∀(m:List (α×Int)) (a:α) {Q:Option (Nat×Value)->Bool->Hp->Prop} {g:Bool} {H:Hp},Q (YS m a 0) g H->fZ P (Instr.findKey T (kv a) (gF kv 0 m)) Q g H
 C6:∀a:α,Instr.sameBits 10000 (kv a) (kv a)=true
section
variable{P:fP}{d:Option Nat}{next:fG->Hp->Prop}{σ:fG}{H:Hp}{x y z:Operand}{v:Value}{ty:TypeId}{α:Type}[DecidableEq α]{kv:α->Value}{T K E:TypeId}
def Ztg(a:P.still H.gh=false)(h:∀r,H r=none->next (σ.set d (.map (some r))) (H.ins r (YR kv []))):(fR.raw (.makeMap T none) ty).m P d next σ H:=by refine YX (by simp[Op.operands]) (s:=Instr.makeMap T none) (by simp[execOp,fL]) ?_;simp only[Instr.makeMap,newObj,Zf,Zj];exact⟨a,λr e=>h r e⟩
def Zdq{m:List (α×Int)}{a:α}{pm:Bool}(t:P.toProgram.underlying T=some (.map K E))(o:MA P.toPQ K kv)(B:TI P.toProgram E 1 (vi 0) gQ)(f:σ.get x=some (.map (some r)))(g:σ.get y=some (kv a))(q:H r=some (YR kv m,pm))(e:P.still H.gh=false)
  (h:next (σ.set d (vi (ZF m a))) H):(fR.raw (.lookup T x y false) ty).m P d next σ H:=by
 obtain⟨A,u,C,w,D⟩:=B.ex;refine YX (by simp[Op.operands,f,g]) (s:=Instr.lookup T (.map (some r)) (kv a) false) (by simp[execOp,fL,f,g]) ?_;simp only[Instr.lookup,Zf,ZA t];refine⟨_,_,⟨e,q⟩,rfl,rfl,?_⟩;rw[YR,fZ];simp only[Zf,Zj];refine o.chk _ _ ?_;refine o.N6 m a ?_;have:=Zma m a 0;cases hf:YS m a 0 with
 | none=>
  rw[hf]at this;simp only at this ⊢;simp only[Zf,Us u w,Zj,oR,qAq];rw[this];exact h
 | some p=>
  rw[hf]at this;simp only at this ⊢;simp only[Zf,Zj,oR,qAq];rw[this];exact h
end
def PA{α β:Type}[Enc α][Enc β]{G h a:Hp}{E B:TypeId}{v w:Value}{l:List α}{o:List β}{C O:Option Nat}(I:fI G h)(m:gL G h E v l C)(s:fI h a)(F:gL h a B w o O):∃g,fI G g/\fI g a/\gL g a E v l C/\dF g w o:=by
 have f:fI G a:=I.trans s;obtain⟨Q,⟨u,A,M⟩ | ⟨r,cap,rest,u,A,M,R,U⟩⟩:=F.own
 ·have:o=[]:=qAr A;subst this;exact⟨G,.refl G,f,m.inc s,by rw[u];exact .nil G⟩
 have J:=F.fresh r u;have q:G r=none:=YP I J;refine⟨G.ins r (.cells (Zd o++rest).toArray B),Zt q,λb x hb=>?_,⟨(m.inc s).own,λN e=>?_⟩,_,cap,A,λ_=>⟨_,rfl,YN VR⟩⟩
 ·by_cases e:b=r
  ·subst e;rw[Hp.aQ]at hb;obtain rfl:=aT hb;exact M
  rw[Hp.aR _ _ e]at hb;exact f b x hb
 have t:N≠r:=by
  rintro rfl;obtain⟨_,⟨_,_,p⟩ | ⟨V,_,_,p,_,D,_⟩⟩:=m.own
  ·rw[p]at e;simp at e
  rw[p]at e;obtain rfl:=aT e;rw[J]at D;simp at D
 rw[Hp.aR _ _ t];exact m.fresh N e
def UW(m n:Nat):List Nat:=(List.range n).filter λi=>m.testBit i
def Zum(m n:Nat):UW m (n+1)=UW m n++if m.testBit n then[n]else[]:=by rw[UW,qCZ,qDM,UW];congr 1;cases h:m.testBit n<;>simp[h]
def YW(m n:Nat):List Int:=(UW m n).map λ(i:Nat)=>(i:Int)
def Zft(m n:Nat):(UW m n).length<=n:=by have:=qBN (λi=>m.testBit i) (List.range n);rwa [qBo]at this
def ZoW{m:Nat}(a:j<=64):ZH .shr .i64 (m:Int) (j:Int)=vi ((m / 2 ^ j:Nat):Int):=by show Value.int .i64 (Int.fdiv (m:Int) (2 ^ min (j:Int).toNat 64))=_;have e:min (j:Int).toNat 64=j:=O;rw[e];congr 1;rw[qBJ _ (by exact qDA (Int.pow_pos (by decide)))];simp
def Zzg{x:Nat}(g:x<9223372036854775808):ZH .and .i64 (x:Int) 1=vi ((x % 2:Nat):Int):=by
 have a:(BitVec.ofInt 64 (x:Nat)).toNat=x:=by simp[qCl];omega
 have e:(BitVec.ofInt 64 (1:Int)).toNat=1:=rfl;have f:(BitVec.ofInt 64 (x:Nat) &&& BitVec.ofInt 64 1).toNat=x % 2:=by rw[qCk,a,e,qDI]
 show Value.int .i64 (IntKind.i64.wrap ((BitVec.ofInt 64 (x:Nat) &&& BitVec.ofInt 64 1).toNat:Nat))=_;rw[f,V8 ⟨O,O⟩]
def Zm4(m j:Nat):(m / 2 ^ j % 2=1)↔m.testBit j=true:=by rw[Nat.testBit_eq_decide_div_mod_eq];simp
theorem Zo0{n:Nat}(h:n<=3):ZH .shl .i64 1 (n:Int)=vi ((2 ^ n:Nat):Int):=by
 match n,h with
 | 0,_=>rfl
 | 1,_=>rfl
 | 2,_=>rfl
 | 3,_=>rfl
def Km{α:Type}[DecidableEq α]:∀(m:List (α×Int)) (a:α) (w:Int) (c:α),ZF (ZD m a w) c=if c=a then w else ZF m c
 | [],a,w,c=>by simp[ZD,ZF]
 | (k,v) :: r,a,w,c=>by
  rw[ZD];by_cases h:a=k
  ·subst h;rw[qAa rfl,ZF,ZF];by_cases e:c=a
   ·rw[qAa e,qAa e]
   rw[iF e,iF e,iF e]
  rw[iF h,ZF,ZF,Km r a w c];by_cases e:c=k
  ·subst e;rw[qAa rfl,qAa rfl,iF (qAo h)]
  rw[iF e,iF e]
def Ko(a b:N4):MO a b=true↔a=b:=by obtain⟨e,f,a3,a4⟩:=a;obtain⟨g,h,m,o⟩:=b;simp[MO]
instance:DecidableEq N4:=λa b=>if h:MO a b=true then .isTrue ((Ko a b).1 h)else .isFalse λe=>h ((Ko a b).2 e)
theorem ZvN{len:Nat}{E:TypeId}{k:N4}:∀(m:List (N4×Int)) (b i:Nat),Instr.findNow (.array len E) (ZI k) (gF ZI b m) i=(if m=[]then some none else none)
 | [],b,i=>rfl
 | (a,v) :: r,b,i=>rfl
section
variable{P:fP}[Tz P]
def Zmb{k:N4}{Q:Option (Nat×Value)->Bool->Hp->Prop}{g:Bool}{H:Hp}:∀(m:List (N4×Int)) (b i:Nat),Q (YS m k i) g H->fZ P.toPQ (Instr.findAsking 239 (ZI k) (gF ZI b m) i) Q g H
 | [],b,i,h=>by simpa[gF,Instr.findAsking,YS,Zj]using h
 | (a,v) :: r,b,i,h=>by
  simp only[gF,Instr.findAsking,Zf];show fZ P.toPQ (Op.equalIn (9998+1+1) 239 (ZI k) (ZI a)) _ g H;refine Zv3 _ ?_;rw[YS]at h;by_cases e:k=a
  ·rw[qAa e]at h;rw[(Ko k a).2 e];simpa[Zj]using h
  rw[iF e]at h;have:MO k a=false:=by
   cases f:MO k a with
   | false=>rfl
   | true=>exact absurd ((Ko k a).1 f) e
  rw[this];simp only[oR,qAq];exact Zmb r (b+1) (i+1) h
def X6:MA (α:=N4) P.toPQ 239 ZI where
 chk:=λb a Q g H h=>by
  have t:∀(x y z u:Int) (Q:Value->Bool->Hp->Prop) g H,fZ P.toPQ (part 3 #[vi x,vi y,vi z,vi u] 0) Q g H↔Q (vi x) g H:=λx y z u Q g H=>Vg rfl Q;have w:∀(x y z u:Int) (Q:Value->Bool->Hp->Prop) g H,fZ P.toPQ (part 3 #[vi x,vi y,vi z,vi u] 1) Q g H↔Q (vi y) g H:=λx y z u Q g H=>Vg rfl Q;have A:∀(x y z u:Int) (Q:Value->Bool->Hp->Prop) g H,fZ P.toPQ (part 3 #[vi x,vi y,vi z,vi u] 2) Q g H↔Q (vi z) g H:=λx y z u Q g H=>Vg rfl Q;have B:∀(x y z u:Int) (Q:Value->Bool->Hp->Prop) g H,fZ P.toPQ (part 3 #[vi x,vi y,vi z,vi u] 3) Q g H↔Q (vi u) g H:=λx y z u Q g H=>Vg rfl Q;have D:∀(v:Int) (Q:Unit->Bool->Hp->Prop) g H,fZ P.toPQ (Instr.checkKey b 9999 3 (vi v)) Q g H↔Q () g H:=λv Q g H=>by rw[show(9999:Nat)=9998+1 from rfl,Instr.checkKey];simp only[Zf,ZA (fU (P:=P) vD),Zj]
  obtain⟨s,o,p,F,G⟩:=(fT (P:=P) t3).ex;have C:∀(Q:Nat->Bool->Hp->Prop) g H,fZ P.toPQ (sizeOf 3) Q g H↔Q 1 g H:=λQ g H=>by rw[Yc o,p]
  rw[show(10000:Nat)=9999+1 from rfl,Instr.checkKey];simp only[ZI,Zf,ZA (fU (P:=P) HL)];have q:List.range' 0 4=[0,1,2,3]:=rfl;simp only[qCr,Std.Legacy.Range.size,qBl,qBE,Nat.div_one,q,qBp,List.forIn_nil,Zf,Yc o,p];simpa[C,t,w,A,B,D,Zf,Zj]using h
 N6:=λm a Q g H h=>by
  simp only[Instr.findKey,Zf,ZA (fU (P:=P) HL),ZvN];by_cases e:m=[]
  ·subst e;simpa[YS,Zj]using h
  rw[iF e];exact Zmb m 0 0 h
 C6:=λa=>by obtain⟨a,b,c,d⟩:=a;simp[Instr.sameBits,ZI]
end
section
variable{α:Type}[DecidableEq α]
def jO:List (α×Int)->α->Nat
 | [],_=>0
 | (k,_) :: r,a=>if a=k then 0 else jO r a+1
def n8(m:List (α×Int))(a:α)(u w:Int):ZD (ZD m a u) a w=ZD m a w:=by
 induction m with
 | nil=>simp[ZD]
 | cons p r ih=>
  obtain⟨k,v⟩:=p;rw[ZD,ZD];by_cases h:a=k
  ·subst h;rw[qAa rfl,qAa rfl,ZD,qAa rfl]
  rw[iF h,iF h,ZD,iF h,ih]
def ZvM{m:List (α×Int)}{a:α}{v:Value}(h:YS m a i=some (j,v)):j=i+jO m a/\jO m a<m.length/\ZD m a (ZF m a)=m:=by
 induction m generalizing i with
 | nil=>simp[YS]at h
 | cons p r ih=>
  obtain⟨k,u⟩:=p;rw[YS]at h;rw[jO,ZD,ZF];by_cases e:a=k
  ·rw[qAa e]at h;simp only[IF,qAX]at h;rw[qAa e,qAa e,qAa e];exact⟨O,by simp,rfl⟩
  rw[iF e]at h;obtain⟨g,o,f⟩:=ih h;rw[iF e,iF e,iF e,f];exact⟨O,by simp;omega,rfl⟩
def ZvL{m:List (α×Int)}{a:α}(h:YS m a i=none):jO m a=m.length:=by
 induction m generalizing i with
 | nil=>rfl
 | cons p r ih=>
  obtain⟨k,u⟩:=p;rw[YS]at h;split at h
  ·simp at h
  rename_i e;rw[jO,iF e,ih h];simp
def Zbg(m:List (α×Int))(a:α)(w:Int):jO (ZD m a w) a=jO m a/\jO m a<(ZD m a w).length:=by
 induction m with
 | nil=>simp[ZD,jO]
 | cons p r ih=>
  obtain⟨k,v⟩:=p;rw[ZD,jO];by_cases h:a=k
  ·rw[qAa h,qAa h,jO,qAa h];simp
  rw[iF h,iF h,jO,iF h];simp;exact ih
theorem ZoI{kv:α->Value}(m:List (α×Int))(a:α)(b:Nat)(w:Int)(h:jO m a<m.length):(gF kv b m).findIdx? (λe=>(e.born:Int) == ((b+jO m a:Nat):Int))=some (jO m a)/\(gF kv b m).modify (jO m a) (λe=>{ e with val:=vi w })=gF kv b (ZD m a w)/\(ZD m a w).length=m.length:=by
 induction m generalizing b with
 | nil=>simp at h
 | cons p r ih=>
  obtain⟨k,v⟩:=p;rw[jO]at h ⊢;rw[ZD];by_cases f:a=k
  ·subst f;rw[qAa rfl,qAa rfl,gF,List.findIdx?_cons,qCg];refine⟨by simp,?_,by simp⟩;rw[gF];rfl
  rw[iF f]at h ⊢;rw[iF f];obtain⟨g,o,q⟩:=ih (b+1) (by simpa using h);rw[show b+1+jO r a=b+(jO r a+1)by omega]at g;refine⟨?_,?_,by simp[q]⟩
  ·rw[gF,List.findIdx?_cons,g];have:(((⟨kv k,vi v,b⟩:MapEntry).born:Int) == ((b+(jO r a+1):Nat):Int))=false:=by simp;omega
   simp only[this,oR,qAq,qBC]
  rw[gF,gF,<-o];rfl
end
section
variable{P:fP}{d:Option Nat}{next:fG->Hp->Prop}{σ:fG}{H:Hp}{x y z:Operand}{v:Value}{ty:TypeId}{α:Type}[DecidableEq α]{kv:α->Value}{T K E:TypeId}
def Zii{m:List (α×Int)}{a:α}(N:P.toProgram.underlying T=some (.map K E))(q:MA P.toPQ K kv)(U:TI P.toProgram E 1 (vi 0) gQ)(A:σ.get x=some (.map (some r)))(B:σ.get y=some (kv a))(t:H r=some (YR kv m,true))(g:P.still H.gh=false)
  (h:next (σ.set d (.tuple #[vi (ZF m a),vi (jO m a)])) (H.ins r (YR kv (ZD m a (ZF m a))))):(fR.raw (.mapEntry T x y) ty).m P d next σ H:=by
 obtain⟨R,O,X,Q,Y⟩:=U.ex;refine YX (by simp[Op.operands,A,B]) (s:=Instr.mapEntry T (.map (some r)) (kv a)) (by simp[execOp,fL,A,B]) ?_;simp only[Instr.mapEntry,Zf,ZA N];refine⟨_,_,⟨g,t⟩,rfl,rfl,?_⟩;rw[YR,fZ];simp only[Zf,Zj];refine q.chk _ _ ?_;refine q.N6 m a ?_;cases hf:YS m a 0 with
 | none=>
  obtain⟨C,f⟩:=Zl9 m a 0 (ZF m a) hf;have o:=ZvL hf;simp only[Zf,Us O Q];refine⟨_,⟨g,t⟩,rfl,rfl,rfl,?_⟩;have:Obj.map ((gF kv 0 m).toArray.push { key:=kv a,val:=vi 0,born:=m.length }) (m.length+1)=YR kv (ZD m a (ZF m a)):=by rw[C,YR,Zmu,qAJ,f];simp
  rw[this,fZ];simp only[Zj];rw[f,o]at h;rw[f];exact h
 | some p=>
  obtain⟨j,u⟩:=p;obtain⟨C,e,f,o,I,D,J,h7⟩:=Zl8 (kv:=kv) m a 0 0 j u (ZF m a) hf;obtain⟨F,V,G⟩:=ZvM hf;rw[qBl]at f D J;simp only[qAM,f,qBC,Option.getD_some,Instr.keyThatStays,Zf,o,q.C6,qBb,Zj];refine⟨_,⟨g,t⟩,rfl,rfl,rfl,?_⟩;have M:Obj.map ((gF kv 0 m).toArray.modify j λe=>{ e with key:=kv a }) m.length=YR kv (ZD m a (ZF m a)):=by
   have:(gF kv 0 m).modify j (λe=>{ e with key:=kv a })=gF kv 0 m:=by
    refine qCJ λi=>?_;rw[List.getElem?_modify];by_cases w:j=i
    ·subst w;rw[f];show some (if j=j then _ else _)=some e;rw[qAa rfl,<-o]
    simp[w]
   rw[G,YR];congr 1;rw[List.modify_toArray,this]
  rw[M,fZ];rw[I,D];have:Value.int IntKind.i64 ((0+j:Nat):Int)=vi (jO m a):=by rw[F];simp
  show next (σ.set d (.tuple #[vi (ZF m a),goInt ((0+j:Nat):Int)])) _
  rw[show goInt ((0+j:Nat):Int)=vi (jO m a)from this];exact h
def Ziq{m:List (α×Int)}{a:α}{w:Int}(o:σ.get x=some (.map (some r)))(p:σ.get y=some (vi (jO m a)))(q:σ.get z=some (vi w))(u:H r=some (YR kv m,true))(C:jO m a<m.length)(f:P.still H.gh=false)
  (h:next (σ.set d undef) (H.ins r (YR kv (ZD m a w)))):(fR.raw (.entryStore T x y z) ty).m P d next σ H:=by
 refine Zid (by simp[Op.operands,o,p,q]) (s:=Instr.entryStore T (.map (some r)) (vi (jO m a)) (vi w)) (by simp[execOp,fL,o,p,q]) ?_;obtain⟨t,A,B⟩:=ZoI (kv:=kv) m a 0 w C;rw[qAJ]at t;simp only[Instr.entryStore,Zf];refine⟨_,_,⟨f,u⟩,rfl,rfl,?_⟩;rw[YR,fZ];simp only[Zf,asInt,asIntOf,Zj];have g:(gF kv 0 m).toArray.findIdx? (λe=>(e.born:Int) == (jO m a:Int))=some (jO m a):=by rw[List.findIdx?_toArray];exact t
 rw[g];simp only;refine⟨_,⟨f,u⟩,rfl,rfl,rfl,?_⟩;have:Obj.map ((gF kv 0 m).toArray.modify (jO m a) λe=>{ e with val:=vi w }) m.length=YR kv (ZD m a w):=by rw[YR,B,<-A];simp
 rw[this];exact h
end
end
end Go.Proofs
end
section
namespace Go.LL
section
variable{x k:Nat}
def Zzc(x k:Nat)(a:k<8):x &&& k=(x % 8) &&& k:=by
 refine qCR λi=>?_;rw[qCD,qCD,show(8:Nat)=2 ^ 3 from rfl,qDs];by_cases h:i<3
 ·simp[h]
 have:k.testBit i=false:=qCF (qAY a (by rw[show(8:Nat)=2 ^ 3 from rfl];exact qAR (by decide) O));simp[this]
def Zs2(x k:Nat)(f:k<8):x ||| k=8 * (x / 8)+((x % 8) ||| k):=by
 have a:(x % 8) ||| k<2 ^ 3:=Nat.or_lt_two_pow (qDo _ (by decide)) f;refine qCR λi=>?_;rw[show 8 * (x / 8)=2 ^ 3 * (x / 8)from rfl,qCn _ a,qDE,qDE,show(8:Nat)=2 ^ 3 from rfl,qDs,Nat.testBit_div_two_pow];by_cases h:i<3
 ·simp[h]
 have:k.testBit i=false:=qCF (qAY f (by rw[show(8:Nat)=2 ^ 3 from rfl];exact qAR (by decide) O));have e:i-3+3=i:=O;simp[h,this,e]
def Zzf(x k:Nat)(p:k<8)(o:x<4294967296):x &&& (4294967295-k)=8 * (x / 8)+((x % 8) &&& (7-k)):=by
 have f:(x % 8) &&& (7-k)<2 ^ 3:=Nat.and_lt_two_pow _ O;have g:4294967295-k=2 ^ 3 * 536870911+(7-k):=O;have a:7-k<2 ^ 3:=O;refine qCR λi=>?_;rw[show 8 * (x / 8)=2 ^ 3 * (x / 8)from rfl,qCn _ f,qCD,g,qCn _ a,qCD,show(8:Nat)=2 ^ 3 from rfl,qDs,Nat.testBit_div_two_pow];by_cases h:i<3
 ·simp[h]
 have e:i-3+3=i:=O;simp only[h,qAq,e];rw[show(536870911:Nat)=2 ^ 29-1 from rfl,Nat.testBit_two_pow_sub_one];by_cases m:i-3<29
 ·simp[m]
 have:x.testBit i=false:=qCF (qAY o (by rw[show(4294967296:Nat)=2 ^ 32 from rfl];exact qAR (by decide) O));simp[this]
def O4{z:Int}(a:0<=z)(e:z<2147483648):IntKind.i32.wrap z=z:=by exact xX
def QK(x:Nat)(a:x<4294967296):(BitVec.ofInt 32 (x:Nat)).toNat=x:=by simp[qCl];omega
def PO(h:x<2147483648)(f:k<8):ZH .and .i32 (x:Nat) (k:Nat)=.int .i32 (((x % 8) &&& k:Nat):Int):=by have e:x<4294967296:=O;have a:k<4294967296:=O;have g:x &&& k<=x:=Nat.and_le_left;show Value.int .i32 (IntKind.i32.wrap ((BitVec.ofInt 32 (x:Nat) &&& BitVec.ofInt 32 (k:Nat)).toNat:Nat))=_;rw[qCk,QK x e,QK k a,O4 O O,Zzc x k f]
def Zf3(m:x<2147483640)(g:k<8):ZH .or .i32 (x:Nat) (k:Nat)=.int .i32 ((8 * (x / 8)+((x % 8) ||| k):Nat):Int):=by have f:x<4294967296:=O;have a:k<4294967296:=O;have h:(x % 8) ||| k<2 ^ 3:=Nat.or_lt_two_pow (qDo _ (by decide)) g;have e:=Zs2 x k g;show Value.int .i32 (IntKind.i32.wrap ((BitVec.ofInt 32 (x:Nat) ||| BitVec.ofInt 32 (k:Nat)).toNat:Nat))=_;rw[BitVec.toNat_or,QK x f,QK k a,e,O4 O O]
def Zy4(m:x<2147483640)(g:k<8):ZH .andNot .i32 (x:Nat) (k:Nat)=.int .i32 ((8 * (x / 8)+((x % 8) &&& (7-k)):Nat):Int):=by have a:x<4294967296:=O;have f:k<4294967296:=O;have h:(x % 8) &&& (7-k)<2 ^ 3:=Nat.and_lt_two_pow _ O;have e:=Zzf x k g a;show Value.int .i32 (IntKind.i32.wrap ((BitVec.ofInt 32 (x:Nat) &&& ~~~ BitVec.ofInt 32 (k:Nat)).toNat:Nat))=_;rw[qCk,BitVec.toNat_not,QK x a,QK k f,show 2 ^ 32-1-k=4294967295-k from rfl,e,O4 O O]
def EB:ZH .shr .i32 (x:Nat) (3:Nat)=.int .i32 ((x / 8:Nat):Int):=by show Value.int .i32 (Int.fdiv (x:Nat) (2 ^ min (Int.toNat ((3:Nat):Int)) 32))=_;have:(2:Int) ^ min (Int.toNat ((3:Nat):Int)) 32=8:=rfl;rw[this,qBJ _ O];simp
section
variable{L W S n:Nat}
structure Y0(L W S n:Nat):Prop where
 L:L<=1
 W:W<=1
 S:S<=1
 n:n<=260000000
def gW.w(h:gW L W S n):Y0 L W S n:=⟨h.L,h.W,h.S,by have:=h.n;omega⟩
def Y0.mod(h:Y0 L W S n):gD L W S n % 8=L+2 * W+4 * S:=by obtain⟨a,b,c,d⟩:=h;unfold gD;omega
def Y0.div(h:Y0 L W S n):gD L W S n / 8=n:=by obtain⟨a,b,c,d⟩:=h;unfold gD;omega
def Y0.lt(h:Y0 L W S n):gD L W S n<2147483640:=by obtain⟨a,b,c,d⟩:=h;unfold gD;omega
def yO(h:x<=1):x=0\/x=1:=O
def Y0.qR(h:Y0 L W S n):ZH .and .i32 (gD L W S n:Nat) 5=.int .i32 ((L+4 * S:Nat):Int):=by have:=PO (x:=gD L W S n) (k:=5) (by have:=h.lt;omega) (by decide);exact xY
def Y0.and1(h:Y0 L W S n):ZH .and .i32 (gD L W S n:Nat) 1=.int .i32 ((L:Nat):Int):=by have:=PO (x:=gD L W S n) (k:=1) (by have:=h.lt;omega) (by decide);exact xY
def Y0.u2(h:Y0 L W S n):ZH .and .i32 (gD L W S n:Nat) 2=.int .i32 ((2 * W:Nat):Int):=by have:=PO (x:=gD L W S n) (k:=2) (by have:=h.lt;omega) (by decide);exact xY
def Y0.EF(h:Y0 L W S n):ZH .and .i32 (gD L W S n:Nat) 3=.int .i32 ((L+2 * W:Nat):Int):=by have:=PO (x:=gD L W S n) (k:=3) (by have:=h.lt;omega) (by decide);exact xY
def Y0.oD(h:Y0 L W S n):ZH .and .i32 (gD L W S n:Nat) 4=.int .i32 ((4 * S:Nat):Int):=by have:=PO (x:=gD L W S n) (k:=4) (by have:=h.lt;omega) (by decide);exact xY
def Y0.EE(h:Y0 L W S n):ZH .and .i32 (gD L W S n:Nat) 7=.int .i32 ((L+2 * W+4 * S:Nat):Int):=by have:=PO (x:=gD L W S n) (k:=7) (by have:=h.lt;omega) (by decide);exact xY
def Y0.NQ(h:Y0 L W S n):ZH .or .i32 (gD L W S n:Nat) 1=.int .i32 ((gD 1 W S n:Nat):Int):=by have:=Zf3 (x:=gD L W S n) (k:=1) h.lt (by decide);exact D7
def Y0.or2(h:Y0 L W S n):ZH .or .i32 (gD L W S n:Nat) 2=.int .i32 ((gD L 1 S n:Nat):Int):=by have:=Zf3 (x:=gD L W S n) (k:=2) h.lt (by decide);exact D7
def Y0.or4(h:Y0 L W S n):ZH .or .i32 (gD L W S n:Nat) 4=.int .i32 ((gD L W 1 n:Nat):Int):=by have:=Zf3 (x:=gD L W S n) (k:=4) h.lt (by decide);exact D7
def Y0.xP(h:Y0 L W S n):ZH .andNot .i32 (gD L W S n:Nat) 2=.int .i32 ((gD L 0 S n:Nat):Int):=by have:=Zy4 (x:=gD L W S n) (k:=2) h.lt (by decide);exact D7
def Y0.uQ(h:Y0 L W S n):ZH .shr .i32 (gD L W S n:Nat) 3=.int .i32 ((n:Nat):Int):=by refine EB.trans ?_;rw[h.div]
def Y0.BK(h:Y0 L W S n):IntKind.i32.wrap ((gD L W S n:Nat)+8)=((gD L W S (n+1):Nat):Int):=by
 have:=h.lt;have e:((gD L W S n:Nat):Int)+8=((gD L W S (n+1):Nat):Int):=by unfold gD;omega
 rw[<-e,O4 O O]
def Y0.J8(h:Y0 L W S (n+1)):ZH .sub .i32 (gD L W S (n+1):Nat) 8=.int .i32 ((gD L W S n:Nat):Int):=by
 have:=h.lt;show Value.int .i32 (IntKind.i32.wrap (((gD L W S (n+1):Nat):Int)-8))=_;have e:((gD L W S (n+1):Nat):Int)-8=((gD L W S n:Nat):Int):=by unfold gD;omega
 rw[e,O4 O (by unfold gD at this ⊢;omega)]
def gW.lt(h:gW L W S n):gD L W S n<2147483640:=h.w.lt
def gW.qR(h:gW L W S n):ZH .and .i32 (gD L W S n:Nat) 5=.int .i32 ((L+4 * S:Nat):Int):=h.w.qR
def gW.and1(h:gW L W S n):ZH .and .i32 (gD L W S n:Nat) 1=.int .i32 ((L:Nat):Int):=h.w.and1
def gW.u2(h:gW L W S n):ZH .and .i32 (gD L W S n:Nat) 2=.int .i32 ((2 * W:Nat):Int):=h.w.u2
def gW.EF(h:gW L W S n):ZH .and .i32 (gD L W S n:Nat) 3=.int .i32 ((L+2 * W:Nat):Int):=h.w.EF
def gW.oD(h:gW L W S n):ZH .and .i32 (gD L W S n:Nat) 4=.int .i32 ((4 * S:Nat):Int):=h.w.oD
def gW.EE(h:gW L W S n):ZH .and .i32 (gD L W S n:Nat) 7=.int .i32 ((L+2 * W+4 * S:Nat):Int):=h.w.EE
def gW.NQ(h:gW L W S n):ZH .or .i32 (gD L W S n:Nat) 1=.int .i32 ((gD 1 W S n:Nat):Int):=h.w.NQ
def gW.or2(h:gW L W S n):ZH .or .i32 (gD L W S n:Nat) 2=.int .i32 ((gD L 1 S n:Nat):Int):=h.w.or2
def gW.xP(h:gW L W S n):ZH .andNot .i32 (gD L W S n:Nat) 2=.int .i32 ((gD L 0 S n:Nat):Int):=h.w.xP
def gW.uQ(h:gW L W S n):ZH .shr .i32 (gD L W S n:Nat) 3=.int .i32 ((n:Nat):Int):=h.w.uQ
def gW.BK(h:gW L W S n):IntKind.i32.wrap ((gD L W S n:Nat)+8)=((gD L W S (n+1):Nat):Int):=h.w.BK
def gW.J8(h:gW L W S (n+1)):ZH .sub .i32 (gD L W S (n+1):Nat) 8=.int .i32 ((gD L W S n:Nat):Int):=h.w.J8
end
section
variable{P:fP}{Qe:Ex->fG->Hp->Prop}{σ:fG}{H:Hp}{b:Zc}
def XX{ι:Type}(I:ι->Hp->Prop)(μ:ι->Nat)(env:ι->List (Nat×Value))(box:ι->List (Nat×List Value))(i:ι)(e:I i H)(f:rK (env i) σ)(hb:rL (box i) σ)
  (h:∀i H,I i H->b.m P (kZ.then (λσ' a=>∃j,μ j<μ i/\I j a/\rK (env j) σ'/\rL (box j) σ'/\σ'.gR=σ.gR) Qe) (UP σ.gR (env i) (box i)) H):(Zc.loop b).m P Qe σ H:=⟨ι,I,μ,env,box,i,e,⟨f,hb⟩,h⟩
end
end
end Go.LL
end
open Go Go.LL
namespace Go.Proofs
variable{H Hl:Hp}{kd:CallKind}{l:List Nat}
def vG:Ym Tryz.prog 21=some none:=U
def ZmI(p:Program)(src dst:TypeId):Bool:=
 match p.underlying src,p.underlying dst with
 | some (.pointer t),some .unsafePointer=>match p.info? t with
  | some i=>!(decide (i.size=0))
  | none=>false
 | _,_=>false
def ZfU{p:Program}{src dst:TypeId}(h:ZmI p src dst=true):P3 p src dst:=by
 unfold ZmI at h;split at h
 ·split at h
  ·rename_i t a e _ i f;exact⟨⟨t,a,e,by rw[f];simpa using h⟩⟩
  simp at h
 simp at h
def Yn:P3 Tryz.prog 437 384:=ZfU U
def ZfV:P3 Tryz.prog 382 384:=ZfU U
def ZmJ:P3 Tryz.prog 389 384:=ZfU U
def UT:norace Tryz.prog 360=true:=U
section
variable{c:Cx}{i:Nat}{H0:Hp}
def Pb(c:Cx)(i:Nat)(H0:Hp)(a:Hp):Prop:=∃(l:List Nat) (Hl:Hp),c.PI l Hl/\H0.hd ∉ l/\c.need H0.hd=true/\Hl.gh=[]/\(H0.tagc (12 :: l)).Comp Hl/\a=(H0.tagc (12 :: l)).join Hl
noncomputable abbrev pw(c:Cx)(i:Nat):fP:=(fX Tryz.prog c).prgW i
abbrev ptr(b:Nat):Value:=.pointer (some (gZ b))
def ZuI(ok:c.Ok)(a:c.need H.hd=true)(e:∀H:Hp,H.cg=[3]->LL.Zb (pw c i) 333 #[ptr c.M] H λ_ f=>Pb c i H f)(s:H.cg=[1]):LL.Zb (pw c i) 280 #[ptr c.M] H λ_ f=>Pb c i H f:=by
 refine aU.m (P:=pw c i) Zxb rfl ?_;unfold Zjj;refine Z ?_;refine Zk U0 (vs:=[]) rfl (Zzz ok U0 (by rw[s];rfl) a) ?_;rintro v _ ⟨rfl,rfl⟩;refine Z ?_;refine Zk YU (vs:=[ptr c.M,.int .i32 0,.int .i32 1]) rfl (ZzD ok YU (by rfl)) ?_;rintro v _ (⟨rfl,rfl⟩ | ⟨rfl,rfl⟩)
 ·refine Z ?_;refine Zk Zv (vs:=[]) rfl (Ys ok Zv (by rfl)) ?_;rintro v _ ⟨rfl,rfl⟩;refine Z ?_;refine Z9 rfl (Yl ok Yn rfl (.inl rfl) (.inl (by simp[ZQ,cd]))) ?_;rintro v _ ⟨rfl,rfl⟩;refine Z ?_;refine Zk Zy (vs:=[ptr c.M]) rfl (Yr ok Zy (by rfl)) ?_;rintro v _ ⟨rfl,l,Hl,g,h,o,p,q,rfl⟩;refine Z ?_;exact⟨l,Hl,g,h,o,p,q,rfl⟩
 refine Z ?_;refine Z7 (vs:=[ptr c.M]) rfl (e _ rfl) ?_;rintro v f ⟨l,Hl,g,h,o,p,q,rfl⟩;refine Z ?_;exact⟨l,Hl,g,h,o,p,q,rfl⟩
end
def Zlv:Zc:=(.block 0 (.loop (.block 1 (.seq (.seq (.fK [⟨none,(some 14),(.lS (.tmp 4))⟩,⟨none,(some 15),(.raw (.binOp .shr 21 (.tmp 14) (.const (.int .u64 3)) 286) 21)⟩,⟨none,(some 16),(.fV .eql (.tmp 15) (.const (.int .i32 0)))⟩,⟨none,(some 17),(.lS (.tmp 16))⟩,⟨(some (17,false)),(some 18),(.lS (.tmp 4))⟩,⟨(some (17,false)),(some 19),(.raw (.binOp .and 21 (.tmp 18) (.const (.int .i32 7)) 21) 21)⟩,⟨(some (17,false)),(some 20),(.fV .neq (.tmp 19) (.const (.int .i32 0)))⟩,⟨none,(some 21),(.pick (.tmp 17) (.const (.bool true)) (.tmp 20))⟩]) (.cond (.tmp 21) .ret .skip)) (.seq (.fK [⟨none,(some 22),(.lS (.tmp 4))⟩,⟨none,(some 23),(.raw (.binOp .sub 21 (.tmp 22) (.const (.int .i32 8)) 21) 21)⟩,⟨none,(some 24),(.raw (.binOp .or 21 (.tmp 23) (.const (.int .i32 2)) 21) 21)⟩,⟨none,(some 1),(.lS (.tmp 24))⟩]) (.seq (.seq (.fK [⟨none,(some 25),(.lS (.tmp 0))⟩,⟨none,(some 26),(.raw (.nilCheck (.tmp 25)) 0)⟩,⟨none,(some 27),(.fE 0 (.tmp 26))⟩,⟨none,(some 28),(.lS (.tmp 4))⟩,⟨none,(some 29),(.lS (.tmp 1))⟩,⟨none,(some 30),(.raw (.call (.mk (.value (.func 332)) #[(.tmp 27),(.tmp 28),(.tmp 29)] #[439,21,21])) 4)⟩]) (.cond (.tmp 30) (.seq (.fK [⟨none,(some 31),(.lS (.tmp 0))⟩,⟨none,(some 32),(.raw (.nilCheck (.tmp 31)) 0)⟩,⟨none,(some 33),(.fE 1 (.tmp 32))⟩,⟨none,(some 34),(.raw (.call (.mk (.value (.func 363)) #[(.tmp 33),(.const (.bool false)),(.const (.int .i64 2))] #[389,4,3])) 0)⟩]) .ret) .skip)) (.fK [⟨none,(some 35),(.lS (.tmp 0))⟩,⟨none,(some 36),(.raw (.nilCheck (.tmp 35)) 0)⟩,⟨none,(some 37),(.fE 0 (.tmp 36))⟩,⟨none,(some 38),(.lV (.load 21 (.tmp 37)) 21)⟩,⟨none,(some 4),(.lS (.tmp 38))⟩])))))))
section
variable{c:Cx}{i:Nat}{H0:Hp}
theorem Zek(ok:c.Ok)(Q:kd=.normal\/kd=.deferred){L W S n m:Nat}(u:gW L W S n){v:Value}(hv:v=.int .i32 (gD L W S n:Nat))(hL:L=0)
  (hg:(S=0/\(n=0\/W=1)/\H.cg=[18])\/(W=0/\S=0/\1<=n/\H.cg=[15,gD 0 0 0 n,m])\/(S=1/\H.cg=[17])) :
  Vd (pw c i) kd 335 #[ptr c.M,v] H λ_ o=>o=H.tagc [18]:=by
 subst hv hL;refine aU.mK (P:=pw c i) Q ZwU rfl ?_;unfold Zi2;refine Z ?_;refine Ya rfl rfl rfl ?_;have e1:IntKind.i32.wrap ((gD 0 W S n:Nat)+1)=((gD 1 W S n:Nat):Int):=by
  have:=u.lt;have e:((gD 0 W S n:Nat):Int)+1=((gD 1 W S n:Nat):Int):=by unfold gD;omega
  rw[<-e,O4 O O]
 show ZW _ _ _ (fG.set _ _ (.int .i32 (IntKind.i32.wrap _))) _;rw[e1];have I:gW 1 W S n:=⟨O,u.W,u.S,u.n⟩;refine Z ?_;refine Zl rfl rfl (.inl rfl) I.and1 (Z ?_);refine ZK rfl rfl rfl (by simp) (Z ?_);refine Zl rfl rfl (.inl rfl) u.oD (Z ?_);have g:∀σ:fG,S=0->∀f:Bool,(f=false->(W=1\/n=0)/\H.cg=[18])->(f=true->W=0/\1<=n/\H.cg=[15,gD 0 0 0 n,m])->σ.env 0=some (ptr c.M)->σ.env 4=some (.int .i32 (gD 0 W S n:Nat))->σ.gR=[] ->
   (Zlv).m (pw c i) (CJ (pw c i) ZhP λ_ o=>o=H.tagc [18]) σ H:=by
  intro σ hS f D s R U q
  unfold Zlv
  refine Z ?_
  refine XX (λ(j:Nat×Nat×Nat×Nat×Nat×Bool) o=>gW j.1 j.2.1 j.2.2.1 j.2.2.2.1/\(j.2.2.2.2.2=false->(j.1=1\/j.2.1=1\/j.2.2.1=1\/j.2.2.2.1=0)/\o=H.tagc [18]) /\
    (j.2.2.2.2.2=true->j.1=0/\j.2.1=0/\j.2.2.1=0/\1<=j.2.2.2.1/\o=H.tagc [15,gD 0 0 0 j.2.2.2.1,j.2.2.2.2.1]))
   (λj=>bif j.2.2.2.2.2 then j.2.2.2.2.1+1 else 0) (λj=>[(0,ptr c.M),(4,.int .i32 (gD j.1 j.2.1 j.2.2.1 j.2.2.2.1:Nat))]) (λ_=>[]) (0,W,0,n,m,f) ?_ ⟨R,by rw[U,hS],trivial⟩ trivial ?_
  ·subst hS;refine⟨u,λe=>⟨(D e).1.elim (λh=>.inr (.inl h)) λh=>.inr (.inr (.inr h)),by have A:=(D e).2;rw[<-A];exact(Mt (by rw[A];simp[cd])).symm⟩,λe=>⟨rfl,(s e).1,rfl,(s e).2.1,by have A:=(s e).2.2;rw[<-A];exact(Mt (by rw[A];simp[cd])).symm⟩⟩
  rintro⟨L',W',S',X,m',t⟩ o ⟨a,B,C⟩
  simp only at a B C
  rw[q]
  refine Z ?_
  refine Yh rfl rfl (.inl rfl) (by decide) a.uQ ?_
  refine Z ?_
  cases t with
  | false=>
   obtain⟨hc,rfl⟩:=B rfl;by_cases hn:X=0
   ·refine Yd rfl rfl rfl (by simp[hn]) (Z ?_);rfl
   refine ZK rfl rfl rfl (by simpa using hn) (Z ?_);refine Zl rfl rfl (.inl rfl) a.EE (Z ?_);refine Yi rfl rfl rfl O (Z ?_);rfl
  | true=>
   obtain⟨rfl,rfl,rfl,G,rfl⟩:=C rfl;refine ZK rfl rfl rfl O (Z ?_);refine Zl rfl rfl (.inl rfl) a.EE (Z ?_);refine ZE rfl rfl rfl (by simp) (Z ?_);obtain⟨k,rfl⟩:∃k,X=k+1:=⟨X-1,O⟩;have J:gW 0 0 0 k:=⟨O,O,O,by have:=a.n;omega⟩;refine Zl rfl rfl (.inr (.inr (.inr rfl))) a.J8 (Z ?_);refine Zl rfl rfl (.inr (.inl rfl)) J.or2 (Z ?_);refine Zk YU (vs:=[ptr c.M,.int .i32 (gD 0 0 0 (k+1):Nat),.int .i32 (gD 0 1 0 k:Nat)]) rfl (ZzC ok YU a (by rfl)) ?_;rintro v _ (⟨rfl,rfl⟩ | ⟨rfl,rfl⟩)
   ·refine Z ?_;refine Zk Lr (vs:=[.pointer (some ((gZ c.M).add 1)),.bool false,.int .i64 2]) rfl (Znb ok Lr rfl (by rfl)) ?_;rintro v _ ⟨rfl,rfl⟩;refine Z ?_;rfl
   refine Z ?_;refine Yj rfl (Zzv ok vG rfl (by rfl)) ?_;rintro v _ (⟨L2,W2,S2,Y,p,N,rfl,rfl⟩ | ⟨Y,m2,p,h3,rfl,rfl,hm⟩)
   ·refine Z ?_;exact⟨(L2,W2,S2,Y,0,false),by simp,⟨p,λ_=>⟨N,rfl⟩,λe=>by simp at e⟩,V,trivial,rfl⟩
   refine Z ?_;exact⟨(0,0,0,Y,m2,true),by simpa using hm,⟨p,λe=>by simp at e,λ_=>⟨rfl,rfl,rfl,h3,rfl⟩⟩,V,trivial,rfl⟩
 rcases hg with⟨rfl,G,w⟩ | ⟨rfl,rfl,G,w⟩ | ⟨rfl,w⟩
 ·refine Yd rfl rfl rfl (by simp) (Z ?_);exact g _ rfl false (λ_=>⟨G.symm,w⟩) (λe=>by simp at e) rfl rfl rfl
 ·refine Yd rfl rfl rfl (by simp) (Z ?_);exact g _ rfl true (λe=>by simp at e) (λ_=>⟨rfl,G,w⟩) rfl rfl rfl
 refine ZK rfl rfl rfl (by simp) (Z ?_);refine Zk Lr (vs:=[.pointer (some ((gZ c.M).add 1)),.bool true,.int .i64 2]) rfl (Znb ok Lr rfl w) ?_;rintro v _ ⟨rfl,rfl⟩;refine Z ?_;rfl
theorem Zn1(ok:c.Ok)(w:kd=.normal\/kd=.deferred)(D:H0.Comp Hl)(o:H0.cg=12 :: l)(t:c.PI (l++[H0.hd]) Hl) :
  Vd (pw c i) kd 281 #[ptr c.M] (H0.join Hl) λ_ q=>q=H0.tagc [19]:=by
 have A:Hl.gh=[]:=D.gh.resolve_left (VZ (.inl (.inl (by rw[o];simp[cd]))));have u:(H0.join Hl).cg=12 :: l:=by unfold Hp.cg;rw[Hp.gB,A,qAl];exact o
 have f:YI (H0.join Hl).cg:=by rw[u];exact .inl (by simp[cd])
 refine aU.mK (P:=pw c i) w Zxa rfl ?_;unfold Zji;refine Z ?_;refine Yj rfl (ZuK ok vG rfl f) ?_;rintro v _ rfl;refine Z ?_;refine Z9 rfl (Yl ok Yn rfl (.inl rfl) f) ?_;rintro v _ ⟨rfl,rfl⟩;refine Z ?_;refine Zk Lp (vs:=[ptr c.M]) rfl (Zzw ok Lp D o t) ?_;rintro v _ ⟨rfl,rfl⟩;refine Z ?_;refine Zk U0 (vs:=[]) rfl (Zzy ok U0 (by rfl)) ?_;rintro v _ ⟨rfl,rfl⟩;refine Z ?_;refine Zk ZJ (vs:=[ptr c.M,.int .i32 (-1)]) rfl (Zzt ok ZJ (by rfl)) ?_;have e:∀{σ:fG} {H:Hp},H.cg=[18]->H.tagc [19]=H0.tagc [19]->σ.gR=[]->(Zc.fK [⟨none,some 20,.raw (.call (.mk (.value (.func 269)) #[] #[])) 0⟩]).m (pw c i) (CJ (pw c i) ZhQ λ_ q=>q=H0.tagc [19]) σ H:=by intro σ H o I F;refine Z ?_;refine Zk Zv (vs:=[]) rfl (Zzx ok Zv (by rw[o];rfl)) ?_;rintro v _ ⟨rfl,rfl⟩;refine Z ?_;exact Md (Zfq (vs:=[]) F rfl rfl I)
 rintro v _ (⟨W,n,h,s,rfl,rfl⟩ | ⟨n,m,h,s,rfl,rfl⟩ | ⟨n,h,rfl,rfl⟩)
 ·by_cases C:gD 0 W 0 n=0
  ·refine Z ?_;refine ZE rfl rfl rfl (by simpa using C) (Z ?_);exact e rfl rfl rfl
  refine Z ?_;refine Yi rfl rfl rfl (by simpa using C) (Z ?_);refine Z7 (vs:=[ptr c.M,.int .i32 (gD 0 W 0 n:Nat)]) rfl (Zek (m:=0) ok (.inl rfl) h rfl rfl (.inl ⟨rfl,s,rfl⟩)).qP ?_;rintro v _ rfl;refine Z ?_;exact e rfl rfl rfl
 ·refine Z ?_;refine Yi rfl rfl rfl (by unfold gD;omega) (Z ?_);refine Z7 (vs:=[ptr c.M,.int .i32 (gD 0 0 0 n:Nat)]) rfl (Zek (m:=m) ok (.inl rfl) h rfl rfl (.inr (.inl ⟨rfl,rfl,s,rfl⟩))).qP ?_;rintro v _ rfl;refine Z ?_;exact e rfl rfl rfl
 refine Z ?_;refine Yi rfl rfl rfl (by unfold gD;omega) (Z ?_);refine Z7 (vs:=[ptr c.M,.int .i32 (gD 0 0 1 n:Nat)]) rfl (Zek (m:=0) ok (.inl rfl) h rfl rfl (.inr (.inr ⟨rfl,rfl⟩))).qP ?_;rintro v _ rfl;refine Z ?_;exact e rfl rfl rfl
theorem Zn0(ok:c.Ok)(e:kd=.normal\/kd=.deferred)(g:H0.Comp Hl)(h:H0.cg=12 :: l)(a:c.PI (l++[H0.hd]) Hl) :
  Vd (pw c i) kd 211 #[ptr c.M] (H0.join Hl) λ_ f=>f=H0.tagc [19]:=by
 refine aU.mK (P:=pw c i) e Zx1 rfl ?_;unfold Zj9;refine Z ?_;refine Z7 (vs:=[ptr c.M]) rfl (Zn1 ok (.inl rfl) g h a).qP ?_;rintro v _ rfl;refine Z ?_;rfl
end
