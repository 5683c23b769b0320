import Derived.Test.YtlhomfgcibjccaaGreatDoorTN00
set_option linter.all false
set_option maxHeartbeats 8000000
set_option maxRecDepth 100000
section
open Go Go.LL Go.Conc Go.ConcM
namespace Go.Proofs.YtlhomfgcibjccaaGreatDoor
def rD:Tryz.pinned.checked.prog.funcNamed Rows.steamNewsRow.func=some 13:=U
def sJ:(Rows.steamNewsRow.inPlace == Tryz.pinned.checked.prog.inPlace 13)=true:=U
def sK:(Rows.steamNewsRow.unfollowed == Tryz.pinned.checked.prog.unfollowed 13)=true:=U
def sL:(Rows.steamNewsRow.recurses == Tryz.pinned.checked.prog.recurses 13)=true:=U
def sN:(Rows.steamNewsRow.named == Tryz.pinned.checked.prog.varsNamed 13)=true:=U
def sI:joinedFacts Tryz.pinned.checked.prog 13 Tryz.f13 Rows.steamNewsSpec Rows.steamNewsRow=true:=by unfold joinedFacts;exact aE (aE (aE (aE (aE (aE (aE (aE (aE (aE (aE (aE (aE (aE (aE (aE (aE (aE (aE (aE (aE (aE (aE (aE (aE (aE (aE (aE (aE (aE (aE U z4) gV) U) U) U) U) U) U) sJ) sK) sL) sN) U) U) U) U) U) U) U) U) U) U) U) fX) fY) U) U) U) U) U) U
def rE:Tryz.f13.isInstance Tryz.pinned.checked.prog Rows.steamNewsRow.origin Rows.steamNewsRow.targs:=of_decide_eq_true U
def rG:Tryz.f13.isWrapper Tryz.pinned.checked.prog Rows.steamNewsRow.wrapper Rows.steamNewsRow.mainSum:=by unfold Func.isWrapper;first | (rw[iF (by decide +kernel)];kernel_rfl) | (rw[aT (by decide +kernel)];exact⟨rfl,rfl⟩)
end Go.Proofs.YtlhomfgcibjccaaGreatDoor
end
section
open Go Go.LL
namespace Go.Proofs
section
open Go.Conc Go.ConcM
open YtlhomfgcibjccaaGreatDoor Go.ChangeShapes Go.WideShapes
section
variable{H:Type}{enc:TypeId×Value->H}{W:World}{base:Nat}{sp:Nat->Bool}{held:Bool}{fuel:Nat}{cs:List Value}{y:DataW H×List MemPlace}{r:Reach}{b0:Nat}{v:Value}{d:DataW H}{ps:List MemPlace}
def ER(c:Value.okWide Tryz.prog W r b0 3 v)(e:DataW.Trod enc Tryz.prog W base sp held 3 v d ps):∃n,v=vi n:=by obtain⟨n,rfl,_⟩:=open_int Tryz.underlying3 c e;exact⟨n,rfl⟩
def rI(e:Value.okWide Tryz.prog W r b0 36 v)(f:DataW.Trod enc Tryz.prog W base sp held 36 v d ps):∃a b,v=.agg #[vi a,vi b]:=by obtain⟨fuel,h⟩:=f;obtain⟨c,rfl⟩:=PW Tryz.underlying36 e;obtain⟨a,b,i⟩:=T3 h;obtain⟨c⟩:=c;exact⟨a,b,by simpa[Value.cells]using i⟩
end
end
section
variable{l:List Int}{j:Nat}
theorem gD{n:Int}:(l++[n]).getD j 0=if j<l.length then l.getD j 0 else if j=l.length then n else 0:=by
 simp only[qAa];by_cases h:j<l.length
 ·rw[iF h,qBf h]
 rw[aT h,qBP O];by_cases c:j=l.length
 ·subst c;simp
 rw[aT c,qAn (by simp;omega)];rfl
def nU{i:Nat}(h:j<i):(l.take i).getD j 0=l.getD j 0:=by simp only[qAa,qDJ h]
section
variable{P:aX}[Tz P][Loud P]{H:Hp}
def Ni(a b c d:Int):LL.Zc P 69 #[.agg #[vi a,vi b],.agg #[vi c,vi d]] H λv e=>H=e/\v=.agg #[vi (max a c),vi (min b d)]:=by refine aJ.m (bG He) (args:=[.agg #[vi a,vi b],.agg #[vi c,vi d]]) rfl ?_;unfold MT;refine Y ?_;refine q8 rfl rfl (Y ?_);refine z5 rfl rfl (Y ?_);exact⟨rfl,rfl⟩
def Wdw{n:Nat}(G:n<=1000000):LL.Zc P 120 #[vi n] H λv c=>aL H c/\∃o,dD H c 3 v ((List.range n).map λ(i:Nat)=>(i:Int)) o:=by
 refine aJ.m (bG c76) (args:=[vi n]) rfl ?_;unfold Pg;refine Y ?_;refine ZO (α:=Value×Option Nat) n (λj s c=>aL H c/\dD H c 3 s.1 ((List.range j).map λ(i:Nat)=>(i:Int)) s.2) (λj s=>[(0,vi n),(3,s.1),(4,vi j)]) (λ_ _=>[]) (.slice none 0 0,none) ⟨.refl _,.nil _ _ _⟩ V trivial ?_;rintro j ⟨K,D⟩ B F ⟨h,f⟩;simp only at f;refine OJ (λp=>?_) (λp=>?_)
 ·refine Y ?_;refine ZY (cs:=[vi j]) (OL _) rfl λJ e=>Y ?_;refine U7 (l':=[(j:Int)]) (bI dW) (bI dW) (cD t3) rfl (by decide) (h.trans (Zs e)) (f.ins e) nH rfl (by simp only[qAA,qAh,qBF];omega) O rfl rfl (OL _) λA C k k1 z I=>Y ?_;exact⟨(⟨j+1,O⟩,(A,k)),bN O,⟨k1,by rw[qBs,qBL];exact z⟩,V,trivial,rfl⟩
 have:j=n:=O;subst this;refine Y ?_;exact⟨h,_,f⟩
end
end
end Go.Proofs
end
section
open Go Go.LL
namespace Go.LL
section
variable{sT E:TypeId}{bV dI m:Nat}{zv w:Value}{xs:List Value}{a:Addr}
section
variable{P:aX}{H:Hp}{d:Option Nat}{next:aM->Hp->Prop}{σ:aM}{x y:Operand}
def RV{T:TypeId}(hu:P.toProgram.underlying sT=some (.slice E))(ti:TI P.toProgram E bV zv dI)(hz:zv.cells.size=bV)(he:0<bV)
  (S:(m=0/\∃A c,w=.slice A 0 c)\/∃a c,w=.slice (some a) m c/\aC H a xs) (I:xs.length=m * bV) (N:(xs.all Value.cJ)=true) (V:m<=1000000000) (J:dI<=1000) (n:P.still H.gh=false)
  {K:Value->Hp->Prop} (k0:m=0->K (.slice (some a) 0 0) H) (k1:∀r o rest,H r=none->m<=o->(xs++rest).length=o * bV->K (.slice (some ⟨r,0,none⟩) m o) (H.ins r (.cells (xs++rest).toArray E))):bL P.toPQ (Builtin.append_ #[sT,sT] T #[.slice (some a) 0 0,w]) (λv _ U=>K v U) false H:=by
 obtain⟨CK,G,i2,i3,M⟩:=ti.ex;have D:∀Q g,Q m g H->bL P.toPQ (Builtin.lenOf w) Q g H:=by intro Q g k;rcases S with⟨rfl,A,c,rfl⟩ | ⟨a,c,rfl,_⟩<;>simpa[Builtin.lenOf,Zj]using k
 have f:∀(Q:Array Value->Bool->Hp->Prop) g,Q xs.toArray g H->bL P.toPQ (Builtin.firstCells bV m w) Q g H:=by
  intro Q g k;rcases S with⟨rfl,A,c,rfl⟩ | ⟨a,c,rfl,X⟩
  ·have:xs=[]:=qAb (by simpa using I);subst this;cases A<;>simpa[Builtin.firstCells,Zj,loadCells,loadCellsFrom]using k
  simp only[Builtin.firstCells];exact yS n X k I
 have F:∀(Q:Array Value->Bool->Hp->Prop) g,Q #[] g H->bL P.toPQ (Builtin.firstCells bV 0 (.slice (some a) 0 0)) Q g H:=by intro Q g k;simpa[Builtin.firstCells,Zj,loadCells,loadCellsFrom]using k
 simp only[Builtin.append_,qAH,qAV,qAT,Zg,Zw hu,Z4 G,i2,Zj,DO,qAw];refine D _ _ ?_;simp only[qBU,qBp];by_cases C:0+m<=0
 ·rw[iF C];have Y:m=0:=O;subst Y;have L:xs=[]:=qAb (by simpa using I);subst L;simp only[Zg,Zj];refine f _ _ ?_;simpa[storeCells,Zj]using k0 rfl
 rw[aT C];simp only[Zg,O1 G,M];rw[aT (by rintro⟨h,_⟩;simp[IntKind.max,IntKind.bits,IntKind.signed]at h;omega)];simp only[Zg,Zj,O1 G,M];have z:¬ Builtin.nextslicecap (0+m) 0 * dI > 2 ^ 48:=by have N:=B7 (need:=0+m) (old:=0) O;have h2:Builtin.nextslicecap (0+m) 0 * dI<=(2 * (0+m)+200) * 1000:=qBq N J;omega
 rw[aT z];simp only[Zg,Zj,choose];rw[bL];simp only[Question.forced,DO,qAw];refine⟨n,λt=>?_⟩;have B:0+m<=(Question.appendCap (0+m) 0 E).cut t:=by simp only[Question.cut];omega
 generalize(Question.appendCap (0+m) 0 E).cut t=o at B;rw[bL];have p:∀(Q:Unit->Bool->Hp->Prop),Q () false H->bL P.toPQ (askRoom (o * dI)) Q false H:=by
  intro Q k;unfold askRoom;split
  ·exact⟨.inr ⟨rfl,n⟩,k⟩
  exact k
 rw[O1 G,M];refine p _ ?_;refine F _ _ ?_;refine f _ _ ?_;simp only[UC G i3,newRow,Zg,newObj,Zj];refine⟨n,λr Z=>?_⟩;have R:=k1 r o (Builtin.zeroCells zv.cells (o-(0+m))).toList Z O (by simp only[BY,I,qBy,B8,hz];rw[<-qCi];congr 1;omega);have e:(#[]++xs.toArray++Builtin.zeroCells zv.cells (o-(0+m)))=(xs++(Builtin.zeroCells zv.cells (o-(0+m))).toList).toArray:=by simp
 rw[qAE]at e R;rw[qAE,e];exact R
def mG{T:TypeId}(B:P.toProgram.underlying sT=some (.slice E))(F:TI P.toProgram E bV zv dI)(D:zv.cells.size=bV)(p:0<bV)(k:σ.get x=some (.slice (some a) 0 0))(n:σ.get y=some w)
  (C:(m=0/\∃A c,w=.slice A 0 c)\/∃a c,w=.slice (some a) m c/\aC H a xs) (z:xs.length=m * bV) (o:(xs.all Value.cJ)=true) (e:m<=1000000000) (f:dI<=1000) (h:P.still H.gh=false)
  (k0:m=0->next (σ.set d (.slice (some a) 0 0)) H) (k1:∀r i rest,H r=none->m<=i->(xs++rest).length=i * bV->next (σ.set d (.slice (some ⟨r,0,none⟩) m i)) (H.ins r (.cells (xs++rest).toArray E))):(bE.raw (.call { callee:=.builtin .append,args:=#[x,y],argTypes:=#[sT,sT] }) T).m P d next σ H:=by
 refine YS (s:=Builtin.append_ #[sT,sT] T #[.slice (some a) 0 0,w]) (by simp[Op.operands,Call.operands,k,n]) (by simp[execOp,aR,resolve,invoke,builtin,k,n]) ?_;exact RV (T:=T) B F D p C z o e f h k0 k1
end
end
end Go.LL
end
open Go Go.LL
namespace Go.Proofs
def mI{α:Type}[Enc α]{f H:Hp}{r c:Nat}{E:TypeId}{l:List α}{rest:List Value}(k:aL f H)(n:H r=none)(h:l.length<=c)(i:(Zb l++rest).length=c * Enc.sz α):dD f (H.ins r (.cells (Zb l++rest).toArray E)) E (.slice (some ⟨r,0,none⟩) l.length c) l (some r):=
 ⟨⟨VH l,.inr ⟨r,c,rest,rfl,rfl,Hp.aG _ _ _,i,h⟩⟩,λo e=>by obtain rfl:=iO e;exact YL k n⟩
section
variable{P:aX}[Tz P]{H:Hp}{d:Option Nat}{next:aM->Hp->Prop}{σ:aM}{x y:Operand}
def kO{α:Type}[Enc α]{o:Hp}{r:Nat}{sT E T:TypeId}{dI:Nat}{zv w:Value}{l:List α}(L:P.toProgram.underlying sT=some (.slice E))(N:TI P.toProgram E (Enc.sz α) zv dI)(M:zv.cells.size=Enc.sz α)(I:0<Enc.sz α)
  (K:o r=none) (G:H=o.ins r (.cells #[] E)) (Y:aF H w l) (U:((Zb l).all Value.cJ)=true) (z:l.length<=1000000000) (k:dI<=1000) (D:σ.get x=some (.slice (some ⟨r,0,none⟩) 0 0)) (F:σ.get y=some w) (n:P.still H.gh=false)
  (h:∀Q p R,aL H p->dD o p E Q l R->next (σ.set d Q) p):(bE.raw (.call { callee:=.builtin .append,args:=#[x,y],argTypes:=#[sT,sT] }) T).m P d next σ H:=by
 have J:aL o H:=by rw[G];exact Zs K
 obtain⟨A,c,rfl,V⟩:=Y;by_cases B:l=[]
 ·subst B;refine mG L N M I D F (m:=0) (xs:=[]) (.inl ⟨rfl,A,c,rfl⟩) (by simp) rfl O k n (λ_=>?_) λC Z rest e i f=>?_
  ·exact h _ _ (some r) (.refl _) (by rw[G];exact y4 K)
  exact h _ _ (some C) (Zs e) (mI (l:=([]:List α)) J e i f)
 obtain⟨a,rfl,X⟩:=V B;refine mG L N M I D F (m:=l.length) (xs:=Zb l) (.inr ⟨a,c,rfl,X⟩) (VH l) U z k n (λS=>absurd (qAb S) B) λC Z rest e i f=>?_;exact h _ _ (some C) (Zs e) (mI J e i f)
end
section
variable{u w:Value}{b:List Int}
def gR{x y:Int}{a c:List Int}:VJ (x :: a) (y :: c)<0↔x<y\/(x=y/\VJ a c<0):=by
 rw[VJ,YM];by_cases e:x<y
 ·simp[e]
 by_cases f:y<x
 ·simp[e,f];omega
 have:x=y:=O;simp[this]
def pO:∀a:List Int,¬ VJ a a<0
 | []=>by simp[VJ]
 | x :: a=>by rw[gR];have:=pO a;omega
def pX:∀{a c:List Int},VJ a c<0->¬ VJ c a<0
 | [],[],h=>by simp[VJ]at h
 | [],_ :: _,_=>by simp[VJ]
 | _ :: _,[],h=>by simp[VJ]at h
 | x :: a,y :: c,h=>by
  rw[gR]at h ⊢;rcases h with h | ⟨rfl,h⟩
  ·omega
  have:=pX h;omega
def pY:∀{a c:List Int} (d:List Int),VJ a c<0->VJ a d<0\/VJ d c<0
 | [],[],_,h=>by simp[VJ]at h
 | _ :: _,[],_,h=>by simp[VJ]at h
 | [],_ :: _,[],_=>by simp[VJ]
 | [],_ :: _,_ :: _,_=>by simp[VJ]
 | _ :: _,_ :: _,[],_=>by simp[VJ]
 | x :: a,y :: c,z :: d,h=>by
  rw[gR]at h ⊢;rw[gR];rcases h with h | ⟨rfl,h⟩
  ·by_cases e:x<z
   ·exact .inl (.inl e)
   exact .inr (.inl O)
  by_cases e:x<z
  ·exact .inl (.inl e)
  by_cases f:z<x
  ·exact .inr (.inl f)
  obtain rfl:x=z:=O;rcases pY d h with h | h
  ·exact .inl (.inr ⟨rfl,h⟩)
  exact .inr (.inr ⟨rfl,h⟩)
def gO{a c:List Int}:cZ a c=true↔a.length<c.length\/(a.length=c.length/\VJ a c<0):=by simp[cZ]
def JK(a:List Int):¬ cZ a a=true:=by rw[gO];have:=pO a;omega
def JJ{a c:List Int}(h:cZ a c=true):¬ cZ c a=true:=by
 rw[gO]at h ⊢;rcases h with h | ⟨f,e⟩
 ·omega
 have:=pX e;omega
def oC{a c:List Int}(d:List Int)(h:cZ a c=true):cZ a d=true\/cZ d c=true:=by
 rw[gO,gO];rw[gO]at h;rcases h with h | ⟨f,e⟩
 ·omega
 have:=pY d e;omega
section
variable{P:aX}[Tz P][Loud P]{H:Hp}
def WdA{a:List Int}(k:aF H u a)(hb:aF H w b)(G:a.length<=1000000)(D:b.length<=1000000):LL.Zc P 48 #[u,w] H λv i=>H=i/\v=vb (decide (VJ a b<0)):=by
 refine aJ.m (bG I8) (args:=[u,w]) rfl ?_;unfold mE;refine Y ?_;refine Zv a.length (λj i=>H=i/\j<=b.length/\VJ a b=VJ (a.drop j) (b.drop j)) (λj=>[(0,u),(1,w),(5,vi j)]) (λ_=>[]) ⟨rfl,qAI _,rfl⟩ V trivial ?_;rintro j _ F ⟨rfl,C,c⟩;refine Y ?_;refine YE k rfl ?_;refine OJ (λz=>?_) (λz=>?_)
 ·have e:j<a.length:=O;rw[yT e]at c;refine Y ?_;refine YE hb rfl ?_;refine OJ (λA=>?_) (λA=>?_)
  ·have f:j<b.length:=O;rw[yT f]at c;refine Y ?_;refine Zz j k e λp n=>Y ?_;refine Ya n (Y ?_);refine Zz j hb f λq o=>Y ?_;refine Ya o ?_;refine OJ (λB=>?_) (λB=>?_)
   ·refine Y ?_;refine Zz j k e λp n=>Y ?_;refine Ya n (Y ?_);refine Zz j hb f λq o=>Y ?_;refine Ya o (Y ?_);refine⟨rfl,?_⟩;rw[c];refine qBc vb (qBk.2 ?_);rw[gR];omega
   refine Y ?_;refine dM (I:=λj i=>H=i/\j<=b.length/\VJ a b=VJ (a.drop j) (b.drop j)) (env:=λj=>[(0,u),(1,w),(5,vi j)]) (box:=λ_=>[]) e ⟨rfl,f,?_⟩ V trivial rfl;rw[c,VJ,YM,aT (by rw[aT O,aT O];decide)]
  refine Y ?_;refine YE k rfl (Y ?_);refine YE hb rfl (Y ?_);refine⟨rfl,?_⟩;rw[qBw (show b.length<=j by omega)]at c;rw[c];refine qBc vb (qBk.2 ?_);rw[VJ];omega
 have:j=a.length:=O;subst this;rw[qDs]at c;refine Y ?_;refine YE k rfl (Y ?_);refine YE hb rfl (Y ?_);refine⟨rfl,?_⟩;rw[c];refine qBc vb (qBk.2 ?_);rcases qBi a.length b.length with h | h
 ·rw[yT h,VJ];omega
 rw[qBw h,VJ];omega
def Wdx{a:List Int}(c:aF H u a)(hb:aF H w b)(k:a.length<=1000000)(e:b.length<=1000000):LL.Zc P 58 #[u,w] H λv f=>H=f/\v=vb (cZ a b):=by
 refine aJ.m (bG c71) (args:=[u,w]) rfl ?_;unfold Ph;refine Y ?_;refine YE c rfl (Y ?_);refine YE hb rfl ?_;refine OJ (λh=>?_) (λh=>?_)
 ·refine Y ?_;exact⟨rfl,by rw[cZ,decide_eq_true (show a.length<b.length by omega)];rfl⟩
 refine Y ?_;refine YE c rfl (Y ?_);refine YE hb rfl ?_;refine OJ (λi=>?_) (λi=>?_)
 ·refine Y ?_;refine Za [u,w] (WdA c hb k e) ?_;rintro v _ ⟨rfl,rfl⟩;refine Y ?_;exact⟨rfl,by rw[cZ,qAo (show ¬ a.length<b.length by omega),decide_eq_true (show a.length=b.length by omega)];rfl⟩
 refine Y ?_;exact⟨rfl,by rw[cZ,qAo (show ¬ a.length<b.length by omega),qAo (show ¬ a.length=b.length by omega)];rfl⟩
end
def fD:Nat->List (List Int)
 | 0=>[[]]
 | i+1=>fD i++(fD i).map (·++[(i:Int)])
def jU:∀i,(fD i).length=2 ^ i
 | 0=>rfl
 | i+1=>by rw[fD,BY,qAh,jU i,qDA];omega
def fU:∀{n:Nat} {l:List Int},l∈fD n↔oV n l
 | 0,l=>by
  rw[fD,oR];constructor
  ·rintro rfl;exact⟨.nil,by simp⟩
  intro⟨_,h⟩;exact qCF.2 λz f=>by have:=h z f;omega
 | n+1,l=>by
  have ih:=λl=>fU (n:=n) (l:=l);rw[fD,qAi,ih,qAB];constructor
  ·rintro(h | ⟨a,i,rfl⟩)
   ·exact⟨h.1,λz f=>by have:=h.2 z f;omega⟩
   have i:=(ih a).1 i;refine⟨qBn.2 ⟨i.1,qAS _ _,λy c z f=>?_⟩,λz f=>?_⟩
   ·rw[oR.1 f];exact(i.2 y c).2
   rcases qAi.1 f with f | f
   ·have:=i.2 z f;omega
   rw[oR.1 f];omega
  intro⟨A,k⟩;rcases List.eq_nil_or_concat l with rfl | ⟨o,z,rfl⟩
  ·exact .inl ⟨.nil,by simp⟩
  rw[List.concat_eq_append]at *;rw[qBn]at A;obtain⟨p,_,a3⟩:=A;have f:=k z (by simp);have B:∀y∈o,y<z:=λy c=>a3 y c z (by simp);by_cases e:z=n
  ·refine .inr ⟨o,(ih o).2 ⟨p,λy c=>⟨(k y (by simp[c])).1,by have:=B y c;omega⟩⟩,by rw[e]⟩
  refine .inl ⟨qBn.2 ⟨p,qAS _ _,a3⟩,λy c=>?_⟩;have:=k y c;rcases qAi.1 c with c | c
  ·have:=B y c;omega
  rw[oR.1 c];omega
def cH(n:Nat):List Int:=(List.range n).map λ(i:Nat)=>(i:Int)
def mM(n:Nat):oV n (cH n):=by
 refine⟨?_,λz e=>?_⟩
 ·rw[cH,qBK];exact List.Pairwise.imp (λh=>O) (List.pairwise_lt_range (n:=n))
 obtain⟨i,c,rfl⟩:=qAB.1 e;rw[qAl]at c;omega
def oS:∀{a c:List Int},a.length=c.length->¬ VJ a c<0->¬ VJ c a<0->a=c
 | [],[],_,_,_=>rfl
 | [],_ :: _,h,_,_=>by simp at h
 | _ :: _,[],h,_,_=>by simp at h
 | x :: a,y :: c,h,f,i=>by rw[gR]at f i;obtain rfl:x=y:=O;rw[oS (a:=a) (c:=c) (by simpa using h) (λe=>f (.inr ⟨rfl,e⟩)) (λe=>i (.inr ⟨rfl,e⟩))]
def JL{a c:List Int}(f:¬ cZ a c=true)(h:¬ cZ c a=true):a=c:=by rw[gO]at f h;exact oS O (λe=>f (.inr ⟨O,e⟩)) (λe=>h (.inr ⟨O,e⟩))
theorem qI{i k:Nat}(c:k<(fD i).length):fD i++((fD i).take (k+1)).map (·++[(i:Int)])=(fD i++((fD i).take k).map (·++[(i:Int)]))++[(fD i)[k]++[(i:Int)]]:=by rw[iN c,qBL,qAW];rfl
section
variable{P:aX}[Tz P][Loud P]{H:Hp}
theorem RN{lv:Value}{n:Nat}(hn:n<=4)(hl:aF H lv (cH n)) :
  LL.Zc P 121 #[lv,vi n] H λv c=>aL H c/\∃vs,aF c v vs/\fG c vs (fD n):=by
 have Ro:(cH n).length=n:=by simp[cH]
 refine aJ.m (bG I7) (args:=[lv,vi n]) rfl ?_;unfold lT;refine Y ?_;refine ZY (cs:=[.slice none 0 0]) (OL _) rfl λB I=>?_;have o0:dD H (H.ins B (.cells [Value.slice none 0 0].toArray 26)) 26 (.slice (some ⟨B,0,none⟩) 1 1) [Value.slice none 0 0] (some B):=mJ (l:=[Value.slice none 0 0]) I;have l0:fG H [Value.slice none 0 0] (fD 0):=(fG.nil _).snoc (.nil _);have i0:aL H (H.ins B (.cells [Value.slice none 0 0].toArray 26)):=Zs I;generalize H.ins B (.cells [Value.slice none 0 0].toArray 26)=H0 at *;refine Y ?_;refine ZO (α:=Hp×Value×List Value×Option Nat) n (λi s c=>aL H s.1/\aL s.1 c/\dD s.1 c 26 s.2.1 s.2.2.1 s.2.2.2/\fG s.1 s.2.2.1 (fD i)) (λi s=>[(0,lv),(1,vi n),(5,s.2.1),(6,vi i)]) (λ_ _=>[]) (H,.slice (some ⟨B,0,none⟩) 1 1,[.slice none 0 0],some B) ⟨.refl _,i0,o0,l0⟩ V trivial ?_;rintro i ⟨G,v5,Q,b5⟩ H1 hi ⟨R,F,T,S⟩;simp only at R F T S;have Rt:=S.len;have zP:=jU i;have h16:2 ^ i<=2 ^ 4:=qBz (by decide) O;refine Y ?_;refine YE (hl.inc (R.trans F)) rfl ?_;refine OJ (λh1=>?_) (λh1=>?_)
 ·have yL:i<n:=O;have hx:(cH n)[i]'O=(i:Int):=by simp[cH]
  refine Y ?_;refine YE T.sl rfl (Y ?_);refine ZO (α:=Hp×Value×List Value×Option Nat) Q.length (λk s c=>aL H s.1/\aL s.1 c/\dD s.1 c 26 s.2.1 s.2.2.1 s.2.2.2/\fG s.1 s.2.2.1 (fD i++((fD i).take k).map (·++[(i:Int)]))) (λk s=>[(0,lv),(1,vi n),(5,s.2.1),(6,vi i),(7,vi Q.length),(8,vi k)]) (λ_ _=>[]) (G,v5,Q,b5) ⟨R,F,T,by simpa using S⟩ V trivial ?_;rintro k ⟨G1,v6,ws,b6⟩ H3 hk ⟨U,N,M,D⟩;simp only at U N M D;have mO:=D.len;rw[BY,qAh,qAj]at mO;refine OJ (λh2=>?_) (λh2=>?_)
  ·have p:k<(fD i).length:=O;have z:k<ws.length:=O;have tC:=qI p;have hA:oV i (fD i)[k]:=fU.1 (bY p);have hal:=uD hA;have K:=D.at_ k z (by rw[BY];omega);rw[qAp p]at K;generalize(fD i)[k]=l at *;generalize(fD i++((fD i).take k).map (·++[(i:Int)]))=L at *;have h:=K.inc N;refine Y ?_;refine Zz k M.sl z λa C=>Y ?_;refine Ya C (Y ?_);refine YE h rfl ?_;refine OJ (λh3=>?_) (λh3=>?_)
   ·refine Y ?_;refine Zz k M.sl z λa C=>Y ?_;refine Ya C (Y ?_);refine Zz i (hl.inc (U.trans N)) O λa C=>?_;rw[hx]at C;refine Y ?_;refine Ya C (Y ?_);refine qZ (bI dW) (cD t3) (OL _) λr1 e=>?_;refine TT OL (Zs e) (Y ?_);refine kO (l:=l) (bI dW) (cD t3) rfl (by decide) e rfl (h.inc (Zs e)) (TS l) O O rfl rfl (OL _) λv8 H5 b8 i5 o8=>?_;refine TT OL i5 ?_;have i5':=(Zs (o:=.cells #[] 3) e).trans i5;refine Y ?_;refine ZY (cs:=[vi i]) (OL _) rfl λr2 A=>?_;refine TT OL (Zs A) (Y ?_);refine U7 (l':=[(i:Int)]) (bI dW) (bI dW) (cD t3) rfl (by decide) (i5'.trans (Zs A)) (o8.ins A) nH rfl (by simp;omega) O rfl rfl (OL _) λv9 H6 b9 q5 o9 _=>?_;obtain⟨G2,w1,w2,w3,w4⟩:=yR N M q5 o9;obtain⟨X,c9,rfl,_⟩:=id w4;refine Zp OL (Y ?_);refine ZY (cs:=[.slice X (l++[(i:Int)]).length c9]) (OL _) rfl λr3 J=>?_;refine Zp OL (Y ?_);refine U7 (l':=[Value.slice X (l++[(i:Int)]).length c9]) (bI kR) (bI kR) (cD t34) rfl (by decide) (w2.trans (Zs J)) (w3.ins J) sQ rfl (by simp;omega) O rfl rfl (OL _) λv10 H7 Z q6 o10 _=>Y ?_;exact⟨(⟨k+1,O⟩,(G2,v10,ws++[.slice X (l++[(i:Int)]).length c9],Z)),bN O,⟨U.trans w1,q6,o10,by rw[tC];exact(D.inc w1).snoc w4⟩,V,trivial,rfl⟩
   exact absurd h3 O
  have:k=Q.length:=O;subst this;rw[qCt O]at D;refine Y ?_;exact⟨(⟨i+1,O⟩,(G1,v6,ws,b6)),bN O,⟨U,N,M,D⟩,V,trivial,rfl⟩
 have:i=n:=O;subst this;refine Y ?_;exact⟨R.trans F,Q,T.sl,S.inc F⟩
end
end
section
open Go.Conc Go.ConcM
open YtlhomfgcibjccaaGreatDoor Go.ChangeShapes Go.WideShapes
section
variable{H:Type}{enc:TypeId×Value->H}{W:World}{base:Nat}{sp:Nat->Bool}{held:Bool}{fuel:Nat}{cs:List Value}{y:DataW H×List MemPlace}{r:Reach}{b0:Nat}{v:Value}{d:DataW H}{ps:List MemPlace}
def yV(e:Value.okWide Tryz.prog W r b0 85 v)(f:DataW.Trod enc Tryz.prog W base sp held 85 v d ps):∃x:Nt,v=.agg #[.slice x.A x.ps.length x.c,vi x.lo,vi x.hi]/\aF (lQ W) (.slice x.A x.ps.length x.c) x.ps:=by obtain⟨fuel,h⟩:=f;obtain⟨c,rfl⟩:=PW Tryz.underlying85 e;obtain⟨x,i⟩:=Hz h;obtain⟨c⟩:=c;exact⟨x.1,by simpa[Value.cells,Enc.enc]using i,x.2⟩
end
end
variable{x t:N4}{s:ByteArray}{qs:List bW}{ls:List (List Int)}{q:bW}
def gG(b:Sb)(t:N4):Nat->N4
 | 0=>t
 | j+1=>(gG b t j).put j (min (max (t.get j) (aD b j).lo) (aD b j).hi)
def eE(b:Sb)(l:List Int):Bool:=uW (gG b (Ys l) b.pk.length) (Ys l) && cB b (Ys l)
def eK(b:Sb)(x:Nt):Sb:={ b with nt:=b.nt++[x] }
def eI(b:Sb)(x:Nt):Int:=if ZF b≠0 then ZF b else Vh (eK b x)
section
variable{P:aX}[Tz P][Loud P]{H:Hp}
def RL{b:Sb}{x:Nt}(hb:Zr H b)(M:b.Sz)(hg:Yk H)(hx:aF H (.slice x.A x.ps.length x.c) x.ps)(T:x.ps.length<=1000000) :
  LL.Zc P 63 #[b.v,vR x] H λv H'=>aL H H'/\((eI b x≠0/\v=.tuple #[OO,vi (eI b x)])\/(eI b x=0/\bA (eK b x)/\∃B,dG (eK b x) B/\Zr H' B/\v=.tuple #[B.v,vi 0])):=by
 refine aJ.m (bG JR) (args:=[b.v,vR x]) rfl ?_;unfold nN Sb.v;refine Y ?_;refine Za [b.v] (CG hb M hg) ?_;rintro v H1 ⟨U,rfl⟩;refine OJ (λG=>?_) (λG=>?_)
 ·have e:eI b x=ZF b:=iF G;refine Y ?_;exact⟨U,.inl ⟨by rw[e];exact G,by rw[e];rfl⟩⟩
 have ok:=Ow (b:=b) G;have SY:=ok.nn;have e:eI b x=Vh (eK b x):=aT O;rw[e];refine Y ?_;refine Za [.slice b.A2 b.nt.length b.c2] (Hw (hb.nt.inc U) O) ?_;rintro v2 N ⟨s2,b2,o2⟩;refine Zp OL (Y ?_);refine ZY (cs:=[.slice x.A x.ps.length x.c,vi x.lo,vi x.hi]) (OL _) rfl λL C=>?_;refine Zp OL ?_;have dN:aF (N.ins L (.cells (List.toArray [.slice x.A x.ps.length x.c,vi x.lo,vi x.hi]) 85)) (.slice (some ⟨L,0,none⟩) 1 1) [x]:=Z0 (l:=[x]);have o3:=o2.ins (o:=.cells (List.toArray [.slice x.A x.ps.length x.c,vi x.lo,vi x.hi]) 85) C;have V:aL H1 (N.ins L (.cells (List.toArray [.slice x.A x.ps.length x.c,vi x.lo,vi x.hi]) 85)):=s2.inc.trans (Zs C);generalize N.ins L (.cells (List.toArray [.slice x.A x.ps.length x.c,vi x.lo,vi x.hi]) 85)=H3 at *;refine Y ?_;refine U7 (l':=[x]) (bI qO) (bI qO) (cD C4) rfl (by decide) V o3 dN rfl (by simp only[qAs,List.length_nil];omega) O rfl rfl (OL _) λv4 H4 b4 i4 o4 ch=>?_;obtain⟨D,F,rfl,q4⟩:=jF o4;have h:=U.trans i4;have S:Zr H4 { eK b x with A2:=D,c2:=F }:=⟨(hb.pk.inc h),o4.sl,λy i=>by
  rcases qAi.1 i with i | i
  ·exact(hb.ps y i).inc h
  obtain rfl:=oR.1 i;exact hx.inc h,hb.q1,q4⟩
 have Z:Sb.Sz { eK b x with A2:=D,c2:=F }:=⟨M.pk,by show(b.nt++[x]).length<=_;rw[BY];simp;omega,λy i=>by
  rcases qAi.1 i with i | i
  ·exact M.ps y i
  obtain rfl:=oR.1 i;exact T,M.nm⟩
 refine Y ?_;refine Za [Sb.v { eK b x with A2:=D,c2:=F }] (Ht S Z (aC.inc hg h)) ?_;rintro v H5 ⟨i5,hv⟩;rw[show Vh { eK b x with A2:=D,c2:=F }=Vh (eK b x)from PO ⟨rfl,rfl,rfl⟩ rfl rfl]at hv;rcases hv with⟨R,rfl⟩ | ⟨R,f,B,z,Q,rfl⟩
 ·unfold OO;refine Y ?_;exact⟨h.trans i5,.inl ⟨R,rfl⟩⟩
 unfold Sb.v;rw[R];refine Y ?_;exact⟨h.trans i5,.inr ⟨rfl,⟨f.pl,f.hd,f.td,f.n,f.pk,f.nm,f.nn,f.nt⟩,B,⟨z.pl,z.hd,z.td,z.pk,z.nl,z.nt⟩,Q,rfl⟩⟩
end
def MM:sZ Tryz.prog 50=some ([("Name",9,0),("Steam",36,1),("Hang",3,3),("Soft",3,4)],false):=U
def N5:CY Tryz.prog 50=false:=U
def a9:Yd Tryz.prog 9=some none:=U
def MB:Tryz.prog.underlying 9=some .string:=U
section
variable{P:aX}[Tz P]{H:Hp}{g:Bool}{d:Nat}
def N7{u:ByteArray}(Q:Bool->Bool->Hp->Prop):bL P.toPQ (Op.equalIn (d+1) 9 (.string s) (.string u)) Q g H↔Q (s == u) g H:=by simp only[Op.equalIn,Zg,Zw (bI (P:=P) MB),qBp,Zj]
def y5{cs:Array Value}{off:Nat}{v:Value}(h:cs[off]? = some v)(Q:Value->Bool->Hp->Prop):bL P.toPQ (part 9 cs off) Q g H↔Q v g H:=by simp only[part,Zg,OS (zZ (P:=P) a9),DO,qAw,h,Zj]
def JH{a b c e:Int}(Q:Bool->Bool->Hp->Prop)(g:Bool)(H:Hp)(h:Q true g H):bL P.toPQ (Op.equalIn (d+1+1+1) 50 (.agg #[.string s,vi a,vi b,vi c,vi e]) (.agg #[.string s,vi a,vi b,vi c,vi e])) Q g H:=by
 have G:∀(Q:Value->Bool->Hp->Prop) g H,bL P.toPQ (part 9 #[.string s,vi a,vi b,vi c,vi e] 0) Q g H↔Q (.string s) g H:=λQ g H=>y5 rfl Q;have I:∀(Q:Value->Bool->Hp->Prop) g H,bL P.toPQ (part 36 #[.string s,vi a,vi b,vi c,vi e] 1) Q g H↔Q (.agg #[vi a,vi b]) g H:=λQ g H=>by rw[TW PN];rfl
 have J:∀(Q:Value->Bool->Hp->Prop) g H,bL P.toPQ (part 3 #[.string s,vi a,vi b,vi c,vi e] 3) Q g H↔Q (vi c) g H:=λQ g H=>Vo rfl Q;have K:∀(Q:Value->Bool->Hp->Prop) g H,bL P.toPQ (part 3 #[.string s,vi a,vi b,vi c,vi e] 4) Q g H↔Q (vi e) g H:=λQ g H=>Vo rfl Q;obtain⟨N,O,f3,f4,k,⟨n,L,B⟩,⟨o,M,C⟩,⟨z,t3,D⟩,⟨A,t4,F⟩,i⟩:=TX (p:=P.toProgram) (by rw[Tz.prog (P:=P)];exact MM);rw[Op.equalIn];simp only[Zg,Zw k,V0,i,DO,qAw,Zj];simp only[n,o,z,A,L,M,t3,t4,B,C,D,F,Zg,qCd,qCb,List.forIn_nil];have e:(s == s)=true:=by show(s.data == s.data)=true;simp
 simp[G,I,J,K,CR,N7,JF (.inr zJ),Zg,Zj,e];exact h
end
def JN{α β:Type}(f:α->List β){l:List α}{k:Nat}(h:k<l.length):(l.take (k+1)).flatMap f=(l.take k).flatMap f++f l[k]:=by rw[iN h,qBb,qAQ]
structure cX(H:Hp)(qs:List bW)(ls:List (List Int)):Prop where
 len:qs.length=ls.length
 at_:∀i (h:i<qs.length) (h':i<ls.length),aF H (dN qs[i]) ls[i]/\qs[i].2.1<=qs[i].2.2
def cX.nil(H:Hp):cX H [] []:=⟨rfl,λi h=>by simp at h⟩
def cX.inc{H H':Hp}(h:cX H qs ls)(c:aL H H'):cX H' qs ls:=⟨h.len,λi a b=>⟨((h.at_ i a b).1).inc c,(h.at_ i a b).2⟩⟩
def cX.snoc{H:Hp}{l:List Int}(h:cX H qs ls)(k:aF H (dN q) l)(f:q.2.1<=q.2.2):cX H (qs++[q]) (ls++[l]):=by
 refine⟨by simp[h.len],λi a b=>?_⟩;have:=h.len;by_cases c:i<qs.length
 ·rw[qAp c,qAp O];exact h.at_ i c O
 simp only[BY,qAA]at a;have e:i=qs.length:=O;subst e;rw[qAr (dO _),qAr O];simp[this];exact⟨k,f⟩
def rH{H:Hp}{l:List Int}(h:aF H (dN q) l):q.2.1=l.length:=by obtain⟨_,_,e,_⟩:=h;simp only[Value.slice.injEq]at e;exact e.2.1
def fT(x y:N4):Prop:=∃i,i<4/\x.get i<y.get i/\∀j,j<i->x.get j=y.get j
def fT.fM{y:N4}(h:fT x y)(c:fT y x):False:=by
 obtain⟨i,p,n,f⟩:=h;obtain⟨j,z,o,k⟩:=c;rcases qDi i j with e | e | e
 ·have:=k i e;omega
 ·subst e;omega
 have:=f j e;omega
def ET{l c:List N4}(f:l.Pairwise fT)(i:c.Pairwise fT)(h:∀x,x∈l↔x∈c):l=c:=by have p:l.Perm c:=(qCh (f.imp λh e=>by subst e;exact h.fM h) (i.imp λh e=>by subst e;exact h.fM h)).2 h;exact p.eq_of_pairwise (le:=fT) (λa b _ _ x y=>(x.fM y).elim) f i
def jT{α:Type}{f:Int->List α}{i:Int}{x:α}:∀{c:Nat},x∈gT f i c↔∃v,i-c<v/\v<=i/\x∈f v
 | 0=>by
  rw[gT];constructor
  ·intro h;simp at h
  rintro⟨v,o,k,_⟩;omega
 | c+1=>by
  rw[gT,qAi,jT];constructor
  ·rintro(h | ⟨v,o,k,n⟩)
   ·exact⟨i-c,O,O,h⟩
   exact⟨v,O,k,n⟩
  rintro⟨v,o,k,n⟩;by_cases e:v=i-c
  ·subst e;exact .inl n
  exact .inr ⟨v,O,k,n⟩
def lL{α:Type}{R:α->α->Prop}{f:Int->List α}{i:Int}(e:∀v,(f v).Pairwise R)(h:∀v w,v<w->∀x∈f v,∀y∈f w,R x y):∀c,(gT f i c).Pairwise R
 | 0=>by rw[gT];exact .nil
 | c+1=>by rw[gT,qBn];refine⟨e _,lL e h c,λx k y n=>?_⟩;obtain⟨w,p,z,o⟩:=jT.1 n;exact h _ w O x k y o
def iB{b:Sb}:∀{r:Nat} {m x:N4},r<=b.pk.length->b.pk.length<=4->(x∈bX b r m↔(∀j,j<4->(j<b.pk.length-r\/b.pk.length<=j)->x.get j=m.get j)/\(∀j,b.pk.length-r<=j->j<b.pk.length->(aD b j).lo<=x.get j/\x.get j<=(aD b j).hi)/\cB b x=true)
 | 0,m,x,_,_=>by
  rw[bX];constructor
  ·intro h;split at h
   ·obtain rfl:=oR.1 h;exact⟨λ_ _ _=>rfl,λj o z=>O,by assumption⟩
   simp at h
  rintro⟨o,_,A⟩;have:x=m:=N4.ext' λj c=>o j c O;subst this;rw[iF A];simp
 | r+1,m,x,I,D=>by
  rw[bX,jT];obtain⟨i,C⟩:∃i,b.pk.length-(r+1)=i:=⟨_,rfl⟩;rw[C];constructor
  ·rintro⟨v,o,z,A⟩;obtain⟨k,n,p⟩:=(iB O D).1 A;refine⟨λj c F=>?_,λj G B=>?_,p⟩
   ·rw[k j c O,N4.aZ _ _ c,aT O]
   by_cases e:j=i
   ·subst e;have:=k j O O;rw[N4.aZ _ _ O,iF rfl]at this;omega
   exact n j O B
  rintro⟨k,n,p⟩;have:=n i O O;refine⟨x.get i,O,O,(iB O D).2 ⟨λj c F=>?_,λj o z=>n j O z,p⟩⟩;rw[N4.aZ _ _ c];split
  ·rename_i e;rw[e]
  exact k j c O
def lM{b:Sb}:∀{r:Nat} {m:N4},r<=b.pk.length->b.pk.length<=4->(bX b r m).Pairwise fT
 | 0,m,_,_=>by rw[bX];split<;>simp
 | r+1,m,z,c=>by
  rw[bX];obtain⟨i,k⟩:∃i,b.pk.length-(r+1)=i:=⟨_,rfl⟩;rw[k];refine lL (λv=>lM O c) (λv w e x n y o=>?_) _;have g:=((iB O c).1 n).1;have f:=((iB O c).1 o).1;refine⟨i,O,?_,λj p=>?_⟩
  ·rw[g i O O,f i O O,N4.aZ _ _ O,N4.aZ _ _ O,iF rfl,iF rfl];exact e
  rw[g j O O,f j O O,N4.aZ _ _ O,N4.aZ _ _ O,aT O,aT O]
theorem k8(j:Nat)(c:j<4):(⟨0,0,0,0⟩:N4).get j=0:=by
 match j,c with
 | 0,_=>rfl
 | 1,_=>rfl
 | 2,_=>rfl
 | 3,_=>rfl
def Wdv(b:Sb)(x:N4):Prop:=(∀j,j<b.pk.length->(aD b j).lo<=x.get j/\x.get j<=(aD b j).hi)/\∀j,j<4->b.pk.length<=j->x.get j=0
def iY{b:Sb}(k:b.pk.length<=4):x∈Zi b↔Wdv b x/\cB b x=true:=by
 rw[Zi,iB (dO _) k,qCv];constructor
 ·rintro⟨e,f,h⟩;exact⟨⟨λj c=>f j (qAI _) c,λj c i=>by rw[e j c (.inr i),k8 j c]⟩,h⟩
 rintro⟨⟨e,f⟩,h⟩;exact⟨λj c i=>by rw[f j c O,k8 j c],λj _ c=>e j c,h⟩
def uL{b:Sb}(c:b.pk.length<=4):(Zi b).Pairwise fT:=lM (dO _) c
def qK(b:Sb)(i:Nat)(e c:Int):(Vz b i e c).pk.length=b.pk.length:=qAg
def bS(b:Sb):Int:=if Zi b=[]then 9 else 0
def lV{b:Sb}(ok:bA b):Zl b 0=bS b:=by
 rw[Zl,jO ok,aT (by decide),aT (by decide),bS];by_cases h:Zi b=[]
 ·rw[iF h,iF (by rw[h];rfl)]
 rw[aT h,aT (by rw[qAt];exact h)]
def pT{b:Sb}(h:Zi b≠[]):bS b=0:=aT h
def iA{b:Sb}(ok:bA b){i:Nat}(h:i<b.pk.length):(1<=(aD b i).lo/\(aD b i).lo<=(aD b i).hi/\(aD b i).hi<=20)/\(aD b i).hi-(aD b i).lo<3/\(1<=(aD b i).bF/\(aD b i).bF<=20)/\(1<=(aD b i).bJ/\(aD b i).bJ<=20):=by rw[aD,ZD h];exact ok.pk i h
def kN{b:Sb}{t:N4}:∀{j:Nat},j<=4->∀{i:Nat},i<4->(gG b t j).get i=if i<j then min (max (t.get i) (aD b i).lo) (aD b i).hi else t.get i
 | 0,_,i,_=>by rw[gG,aT O]
 | j+1,f,i,c=>by
  rw[gG,N4.aZ _ _ c];by_cases e:i=j
  ·subst e;rw[iF rfl,iF O]
  rw[aT e,kN O c];by_cases h:i<j
  ·rw[iF h,iF O]
  rw[aT h,aT O]
theorem kT{b:Sb}(ok:bA b){l:List Int}(p:l.length=b.pk.length):eE b l=true↔Ys l∈Zi b:=by
 have e:=ok.n;rw[eE,qAc,EL,iY e.2];refine qDl ?_ qCH;constructor
 ·intro h;refine⟨λj c=>?_,λj c f=>?_⟩
  ·have:(gG b (Ys l) b.pk.length).get j=(Ys l).get j:=by rw[h]
   rw[kN e.2 O,iF c]at this;have:=(iA ok c).1;omega
  rw[fJ c,qAa,qAn O];rfl
 rintro⟨i,o⟩;refine N4.ext' λj c=>?_;rw[kN e.2 c];split
 ·rename_i f;have:=i j f;omega
 rfl
def RZ{n:Nat}{l:List Int}(k:n<=4)(h:oV n l)(e:Yp t):0<=UG t l/\UG t l<=80:=by have c:=z6 e (n:=n) (l:=l) (λz f=>by have:=h.2 z f;omega) l.length (dO _);have i:=uD h;rw[IF]at c;omega
def EU(m n:Nat):UP (m % 2 ^ n) n=UP m n:=by rw[UP,UP];refine qBW λi c=>?_;rw[qCY,decide_eq_true (qAl.1 c),Bool.true_and]
theorem RU(m n:Nat):YK (m % 2 ^ n) n=YK m n:=by rw[YK,EU];rfl
def yP(b:Sb)(l:List Int):List N4:=Zi { b with nt:=l.map λz=>rA b z.toNat }
def R1(b:Sb)(m:Nat):yP b (YK m b.nt.length)=Zi { b with nt:=Y8 b m b.nt.length }:=by
 have:(YK m b.nt.length).map (λz=>rA b z.toNat)=Y8 b m b.nt.length:=by rw[YK,Y8,qCP];rfl
 rw[yP,this]
def lU(b:Sb)(m:Nat):UL b m=true↔yP b (YK m b.nt.length)=[]:=by rw[UL,R1,List.isEmpty_iff]
def kL{b:Sb}(F:b.nt.length<=3)(h:Zi b=[]):∃m,m<2 ^ b.nt.length/\CU b=YK m b.nt.length/\UL b m=true/\∀k,k<2 ^ b.nt.length->UL b k=true->qR (n7 m)<=qR (n7 k):=by
 have z:=Tn h;have c:=uF (l:=(ZZ b).map qR) (by simpa using z);rw[qAh]at c;have D:IH b∈ZZ b:=by rw[IH,el,ZD c];exact bY c
 obtain⟨m,p,f⟩:=qAB.1 D;obtain⟨i,B⟩:=qAC.1 p;have i:=qAl.1 i;refine⟨m,i,by rw[CU,<-f,KJ F i],B,λk C G=>?_⟩;have o:n7 k∈ZZ b:=qAB.2 ⟨k,qAC.2 ⟨qAl.2 C,G⟩,rfl⟩;obtain⟨j,n,e⟩:=qAk.1 o;have:=CV (l:=(ZZ b).map qR) (j:=j) (by simpa using n);have A:el (ZZ b) j=n7 k:=by rw[el,ZD n];exact e
 rw[FU c,FU n,A]at this;rw[f];exact this
def RY:(∀l∈fD 0,∃m∈List.range 1,YK m 0=l)/\(∀l∈fD 1,∃m∈List.range 2,YK m 1=l)/\(∀l∈fD 2,∃m∈List.range 4,YK m 2=l)/\(∀l∈fD 3,∃m∈List.range 8,YK m 3=l):=by decide +kernel
def RX{n:Nat}{l:List Int}(z:n<=3)(h:oV n l):∃m,m<2 ^ n/\YK m n=l:=by
 obtain⟨i,k,o,p⟩:=RY;have f:=fU.2 h;have:n=0\/n=1\/n=2\/n=3:=O;rcases this with rfl | rfl | rfl | rfl
 ·obtain⟨m,c,e⟩:=i l f;exact⟨m,qAl.1 c,e⟩
 ·obtain⟨m,c,e⟩:=k l f;exact⟨m,qAl.1 c,e⟩
 ·obtain⟨m,c,e⟩:=o l f;exact⟨m,qAl.1 c,e⟩
 obtain⟨m,c,e⟩:=p l f;exact⟨m,qAl.1 c,e⟩
def RS:((List.range 4).all λn=>(List.range (2 ^ n)).all λm=>(fD n).contains (YK m n))=true:=by decide +kernel
def RR{n m:Nat}(c:n<=3):oV n (YK m n):=by rw[<-RU];have h:=IN.1 (IN.1 RS n (qAl.2 O)) (m % 2 ^ n) (qAl.2 (qDS _ (Nat.two_pow_pos n)));exact fU.1 (by simpa using h)
def pH{b:Sb}(ok:bA b)(h:Zi b=[]):oV b.nt.length (CU b):=by obtain⟨m,_,c,_⟩:=kL ok.nn h;rw[c];exact RR ok.nn
def JC{b:Sb}(ok:bA b)(h:Zi b=[]):yP b (CU b)=[]:=by obtain⟨m,_,c,e,_⟩:=kL ok.nn h;rw[c];exact(lU b m).1 e
def JB{b:Sb}(ok:bA b)(h:Zi b=[]){l:List Int}(A:oV b.nt.length l)(B:yP b l=[]):cZ l (CU b)=false:=by
 have c:=ok.nn;obtain⟨m,o,p,I,z⟩:=kL ok.nn h;obtain⟨k,n,e⟩:=RX ok.nn A;have J:=z k n ((lU b k).2 (by rw[e];exact B));have C:=Ie m;have D:=Ie k;have f:=To D C;rw[KJ c n,KJ c o]at f;have F:qR (n7 m)=(CU b).length * 8+n7 m:=by rw[qR,KJ c o,p]
 have G:qR (n7 k)=l.length * 8+n7 k:=by rw[qR,KJ c n,e]
 rw[p]at *;rw[e]at f;unfold cZ;rw[f];have i:YM (n7 k) (n7 m)<0↔n7 k<n7 m:=by
  unfold YM;split
  ·omega
  split<;>omega
 rw[Bool.or_eq_false_iff,Bool.and_eq_false_iff,qBH,qBH,qBH,i];omega
def bK(i:Nat)(e:List N4)(c:Int):Int:=((e.filter λt=>decide (t.get i=c)).length:Int)
def iJ(i:Nat)(e:List N4)(t:N4)(c:Int):bK i (e++[t]) c=bK i e c+if t.get i=c then 1 else 0:=by
 rw[bK,bK,qBS,BY];by_cases h:t.get i=c
 ·rw[iF h,qAN,iF (decide_eq_true h)];simp
 rw[aT h,qAN,aT (by simpa using h)];simp
def lW{i:Nat}(c:i<4){u:N4}:Vp i t=Vp i u↔t.get i=u.get i:=by
 constructor
 ·intro h;have:=qBc (λx=>N4.get x i) h;simp only[Vp,N4.aZ _ _ c,iF]at this;exact this
 intro h;rw[Vp,Vp,h]
def nV{i:Nat}(p:i<4):∀f:List N4,(∀u:N4,ZC (f.foldl (UQ i) ([],0)).1 (Vp i u)=bK i f (u.get i))/\(∀u:N4,bK i f (u.get i)<=(f.foldl (UQ i) ([],0)).2)/\((f.foldl (UQ i) ([],0)).2=0\/∃t∈f,(f.foldl (UQ i) ([],0)).2=bK i f (t.get i)):=by
 refine sR ⟨λc=>rfl,λc=>qAx _,.inl rfl⟩ λf t ⟨o,z,k⟩=>?_;rw[qCE];generalize f.foldl (UQ i) ([],0)=s at *;show(∀u:N4,ZC (UQ i s t).1 (Vp i u)=_)/\(∀u:N4,_<=(UQ i s t).2)/\((UQ i s t).2=0\/∃x∈f++[t],(UQ i s t).2=_);have e1:∀u,ZC (Zx s.1 (Vp i t) (ZC s.1 (Vp i t)+1)) (Vp i u)=bK i (f++[t]) (u.get i):=λu=>by
  rw[T5,iJ];by_cases h:t.get i=u.get i
  ·rw[iF ((lW p).2 h.symm),iF h,o,h]
  rw[aT (λe=>h ((lW p).1 e).symm),aT h,o,qBO]
 refine⟨e1,λu=>?_,?_⟩
 ·show _<=max s.2 (ZC _ (Vp i t));rw[e1];have:=z u;by_cases h:t.get i=u.get i
  ·rw[h];omega
  rw[iJ i f t (u.get i),aT h];omega
 show max s.2 (ZC _ (Vp i t))=0\/∃x∈f++[t],max s.2 (ZC _ (Vp i t))=_;rw[e1];by_cases B:s.2<=bK i (f++[t]) (t.get i)
 ·exact .inr ⟨t,by simp,O⟩
 have D:0<=bK i (f++[t]) (t.get i):=by rw[bK];omega
 rcases k with k | ⟨u,C,k⟩
 ·omega
 refine .inr ⟨u,by simp[C],?_⟩;have n:¬ t.get i=u.get i:=λe=>by have A:=iJ i f t (t.get i);rw[iF rfl,e]at A;rw[e]at B;omega
 have e2:bK i (f++[t]) (u.get i)=bK i f (u.get i):=by rw[iJ,aT n,qBO]
 rw[e2];omega
def kS{i:Nat}(f:i<4)(e:List N4)(c:Int):bK i e c<=xA i e:=by have:=(nV f e).2.1 ((⟨0,0,0,0⟩:N4).put i c);rwa [N4.aZ _ _ f,iF rfl]at this
def kZ{i:Nat}(e:i<4){c:List N4}(h:c≠[]):∃t∈c,xA i c=bK i c (t.get i):=by
 rcases(nV e c).2.2 with f | k
 ·exfalso;obtain⟨x,n⟩:=qCB _ h;have o:=kS e c (x.get i);have p:0<bK i c (x.get i):=by have:=List.length_pos_of_mem (qAC.2 ⟨n,by simp⟩:x∈c.filter λt=>decide (t.get i=x.get i));rw[bK];omega
  have z:xA i c=0:=f;omega
 exact k
def JE(i:Nat)(e:List N4)(c:Int):0<=bK i e c/\bK i e c<=e.length:=by have:=qBd (λt:N4=>decide (t.get i=c)) e;rw[bK];omega
def qM{i:Nat}(f:i<4)(c:List N4):0<=xA i c/\xA i c<=c.length:=by
 by_cases h:c=[]
 ·subst h;exact⟨qAx _,qAx _⟩
 obtain⟨t,_,e⟩:=kZ f h;rw[e];exact JE ..
section
variable{P:aX}[Tz P][Loud P]{H:Hp}
def ES{b:Sb}(n:Int)(e:b.pk.length<=1000000):LL.Zc P 89 #[b.v,vi n] H λv c=>H=c/\v=vb (decide (0<=n/\n<b.pk.length)):=by refine aJ.m (bG JW) (args:=[b.v,vi n]) rfl ?_;unfold mT Sb.v;refine Y ?_;refine Za [vi n,vi 0,vi (b.pk.length-1)] (pF _ _ _) ?_;rintro v _ ⟨rfl,rfl⟩;refine Y ?_;exact⟨rfl,qBc vb (qBk.2 O)⟩
def CH{l:List Int}{i:Nat}(c:i<l.length)(e:l.length<=4):(Ys l).get i=l[i]:=by rw[fJ O,ZD c]
theorem RO{u w:Value}{lt ps:List Int}(K:aF H u lt)(C:aF H w ps)(J:lt.length<=4)(D:∀z∈ps,0<=z/\z<lt.length)(p:Yp (Ys lt))(M:ps.length<=1000000) :
  LL.Zc P 135 #[u,w] H λv h=>H=h/\v=vi (UG (Ys lt) ps):=by
 obtain⟨A,c,rfl,_⟩:=id C;refine aJ.m (bG I6) (args:=[u,.slice A ps.length c]) rfl ?_;unfold mW;refine Y ?_;refine Zv ps.length (λj h=>H=h) (λj=>[(0,u),(1,.slice A ps.length c),(5,vi (UG (Ys lt) (ps.take j))),(6,vi j)]) (λj=>[]) rfl V trivial ?_;rintro j _ L rfl;refine OJ (λG=>?_) (λG=>?_)
 ·have f:j<ps.length:=O;have F:=D _ (bY f);have o:=ID (Ys lt) f;have N:=z6 (n:=4) p (l:=ps) (λz F=>by have:=D z F;omega) j O;have Q:=p ps[j].toNat O;have B:ps[j].toNat<lt.length:=O;have e:lt[ps[j].toNat]=(Ys lt).get ps[j].toNat:=(CH B J).symm;refine Y ?_;refine Zz j C f λa k=>Y ?_;refine Ya k (Y ?_);refine pN (i:=ps[j].toNat) K rfl (by show some (vi ps[j])=some (vi ((ps[j].toNat:Nat):Int));congr 2;omega) rfl B λa k=>?_;rw[e]at k;refine Y ?_;refine Ya k (Y ?_);exact dM (I:=λj h=>H=h) (env:=λj=>[(0,u),(1,.slice A ps.length c),(5,vi (UG (Ys lt) (ps.take j))),(6,vi j)]) (box:=λ_=>[]) f rfl ⟨rfl,rfl,by rw[o];rfl,rfl,trivial⟩ trivial rfl
 have:j=ps.length:=O;subst this;rw[IF];refine Y ?_;exact⟨rfl,rfl⟩
end
theorem lK{l:List Pk}{i:Nat}(lo hi:Int)(h:i<l.length)(j:Nat)(c:j<(l.set i { l[i]with lo:=lo,hi:=hi }).length):(l.set i { l[i]with lo:=lo,hi:=hi })[j].nm=(l[j]'(by simpa using c)).nm:=by
 rw[qCg];split
 ·rename_i e;subst e;rfl
 rfl
def pQ{b:Sb}(ok:bA b){i:Nat}{lo hi:Int}(h:i<b.pk.length)(G:(aD b i).lo<=lo)(I:lo<=hi)(J:hi<=(aD b i).hi):bA (Vz b i lo hi):=by
 have e:aD b i=b.pk[i]:=ZD h _;have L:=ok.pk i h;rw[e]at G J;have C:(Vz b i lo hi).pk=b.pk.set i { b.pk[i]with lo:=lo,hi:=hi }:=by show b.pk.set i _=_;rw[e]
 have c:(Vz b i lo hi).pk.length=b.pk.length:=qK b i lo hi;refine⟨ok.pl,ok.hd,ok.td,by rw[c];exact ok.n,λj p=>?_,λj p=>?_,ok.nn,by rw[c];exact ok.nt⟩
 ·have o:j<b.pk.length:=by rw[<-c];exact p
  have A:=ok.pk j o;simp only[C,qCg];split
  ·rename_i D;subst D;show(1<=lo/\lo<=hi/\hi<=20)/\hi-lo<3/\_;exact⟨⟨O,I,O⟩,O,L.2.2⟩
  exact A
 have o:j<b.pk.length:=by rw[<-c];exact p
 obtain⟨F,B⟩:=ok.nm j o;simp only[C];rw[lK lo hi h j (by rw[qAg];exact o)];refine⟨F,?_⟩;rw[qDj]at B ⊢;intro x M;obtain⟨k,K,rfl⟩:=qAk.1 M;rw[qAj,qAg]at K;rw[qBC,lK lo hi h k (by rw[qAg];omega)];have z:k<(b.pk.take j).length:=by rw[qAj];omega
 have:=B _ (bY z);rw[qBC]at this;exact this
def EV{b:Sb}(ok:bA b)(A1 A2:Option Addr)(c1 c2:Nat):bA { b with A1:=A1,c1:=c1,A2:=A2,c2:=c2 }:=⟨ok.pl,ok.hd,ok.td,ok.n,ok.pk,ok.nm,ok.nn,ok.nt⟩
theorem RQ{b:Sb}(ok:bA b):Vh b=bS b:=by
 rw[Vh,jO ok,aT (by decide),bS,Vl];cases h:Zi b with
 | nil=>rfl
 | cons x l=>rfl
