import Derived.Test.YtlhomfgcibjccaaGreatDoorTB00
set_option linter.all false
set_option maxHeartbeats 8000000
set_option maxRecDepth 100000
section
open Go Go.LL Go.Conc Go.ConcM
namespace Go.Proofs.YtlhomfgcibjccaaGreatDoor
def rH:Tryz.pinned.checked.prog.funcNamed Rows.steamBoatsRow.func=some 3:=U
def sS:(Rows.steamBoatsRow.inPlace == Tryz.pinned.checked.prog.inPlace 3)=true:=U
def sU:(Rows.steamBoatsRow.unfollowed == Tryz.pinned.checked.prog.unfollowed 3)=true:=U
def rI:(Rows.steamBoatsRow.recurses == Tryz.pinned.checked.prog.recurses 3)=true:=U
def sV:(Rows.steamBoatsRow.named == Tryz.pinned.checked.prog.varsNamed 3)=true:=U
def sR:joinedFacts Tryz.pinned.checked.prog 3 Tryz.f3 Rows.steamBoatsSpec Rows.steamBoatsRow=true:=by unfold joinedFacts;exact aE (aE (aE (aE (aE (aE (aE (aE (aE (aE (aE (aE (aE (aE (aE (aE (aE (aE (aE (aE (aE (aE (aE (aE (aE (aE (aE (aE (aE (aE (aE U z4) gV) U) U) U) U) U) U) sS) sU) rI) sV) U) U) U) U) U) U) U) U) U) U) U) fX) fY) U) U) U) U) U) U
def sH:Tryz.f3.isInstance Tryz.pinned.checked.prog Rows.steamBoatsRow.origin Rows.steamBoatsRow.targs:=of_decide_eq_true U
def rD:Tryz.f3.isWrapper Tryz.pinned.checked.prog Rows.steamBoatsRow.wrapper Rows.steamBoatsRow.mainSum:=by unfold Func.isWrapper;first | (rw[iF (by decide +kernel)];kernel_rfl) | (rw[aT (by decide +kernel)];exact⟨rfl,rfl⟩)
end Go.Proofs.YtlhomfgcibjccaaGreatDoor
end
section
open Go Go.LL
namespace Go.Proofs
section
open Go.Conc Go.ConcM
open YtlhomfgcibjccaaGreatDoor Go.ChangeShapes Go.WideShapes
section
variable{H:Type}{enc:TypeId×Value->H}{W:World}{base:Nat}{sp:Nat->Bool}{held:Bool}{fuel:Nat}{cs:List Value}{y:DataW H×List MemPlace}{r:Reach}{b0:Nat}{v:Value}{d:DataW H}{ps:List MemPlace}
def ES{α:Type}[Enc α]{t e:TypeId}(h:Tryz.prog.underlying t=some (.slice e))(i:Tryz.prog.cellsOf e=Enc.sz α)(c:0<Enc.sz α)
  (g:∀{n:Nat} {cs:List Value} {y:DataW H×List MemPlace},DataW.trod enc Tryz.prog W base sp held n e cs=some y->∃x:α,cs=Enc.enc x)
  (f:Value.okWide Tryz.prog W r b0 t v) (k:DataW.Trod enc Tryz.prog W base sp held t v d ps):∃l:List α,aF (lQ W) v l:=by
 obtain⟨fuel,o⟩:=k;obtain⟨a,len,cap,rfl⟩:=okWide_slice h f;obtain⟨v,s,l,p⟩:=EK h i c g o;have:Value.slice a len cap=v:=by simpa[Value.cells]using s
 exact⟨l,this ▸ p⟩
def JN(c:Value.okWide Tryz.prog W r b0 26 v)(e:DataW.Trod enc Tryz.prog W base sp held 26 v d ps):∃l:List Int,aF (lQ W) v l:=
 ES dW KT (by decide) (λh=>C5 h) c e
def JL(c:Value.okWide Tryz.prog W r b0 3 v)(e:DataW.Trod enc Tryz.prog W base sp held 3 v d ps):∃n,v=vi n:=by obtain⟨n,rfl,_⟩:=open_int Tryz.underlying3 c e;exact⟨n,rfl⟩
end
end
section
variable{l:List Int}{n:Int}{j:Nat}
theorem eR:(l++[n]).getD j 0=if j<l.length then l.getD j 0 else if j=l.length then n else 0:=by
 simp only[qAa];by_cases h:j<l.length
 ·rw[iF h,qBf h]
 rw[aT h,qBP O];by_cases c:j=l.length
 ·subst c;simp
 rw[aT c,qAn (by simp;omega)];rfl
def pO{i:Nat}(h:j<i):(l.take i).getD j 0=l.getD j 0:=by simp only[qAa,qDJ h]
def sJ{α:Type}{p:α->Prop}{l:List α}(f:j<l.length)(h:∀x∈l.take j,p x)(e:p l[j]):∀x∈l.take (j+1),p x:=by
 intro x c;rw[iN f]at c;rcases qAi.1 c with c | c
 ·exact h x c
 rw[oR.1 c];exact e
section
variable{P:aX}[Tz P][Loud P]{H:Hp}
def qI{lv:Value}(i:aF H lv l)(p:l.length<=1000000):LL.Zc P 40 #[lv,vi n] H λv e=>H=e/\v=vb (decide (n∈l)):=by
 refine aJ.m (bG sE) (args:=[lv,vi n]) rfl ?_;unfold l8;refine Y ?_;refine Zv l.length (λj e=>H=e/\∀x∈l.take j,x≠n) (λj=>[(0,lv),(1,vi n),(5,vi j)]) (λ_=>[]) ⟨rfl,by simp⟩ V trivial ?_;rintro j _ s ⟨rfl,g⟩;refine Y ?_;refine YE i rfl ?_;refine OJ (λk=>?_) (λk=>?_)
 ·have c:j<l.length:=O;refine Y ?_;refine Zz j i c λa o=>Y ?_;refine Ya o ?_;refine OJ (λf=>?_) (λf=>?_)
  ·refine Y ?_;exact⟨rfl,by rw[decide_eq_true (show n∈l by rw[<-f];exact bY c)];rfl⟩
  refine Y ?_;exact dM (I:=λj e=>H=e/\∀x∈l.take j,x≠n) (env:=λj=>[(0,lv),(1,vi n),(5,vi j)]) (box:=λ_=>[]) c ⟨rfl,sJ c g f⟩ V trivial rfl
 have:j=l.length:=O;subst this;rw[IF]at g;refine Y ?_;exact⟨rfl,by rw[qAo (show ¬ n∈l from λh=>g n h rfl)];rfl⟩
end
end
end Go.Proofs
end
section
open Go Go.LL
namespace Go.LL
section
variable{sT E:TypeId}{bV dI m:Nat}{zv w:Value}{xs:List Value}{a:Addr}
section
variable{P:aX}{H:Hp}{d:Option Nat}{next:aM->Hp->Prop}{σ:aM}{x y:Operand}
def R2{T:TypeId}(hu:P.toProgram.underlying sT=some (.slice E))(ti:TI P.toProgram E bV zv dI)(hz:zv.cells.size=bV)(he:0<bV)
  (S:(m=0/\∃A c,w=.slice A 0 c)\/∃a c,w=.slice (some a) m c/\aC H a xs) (I:xs.length=m * bV) (N:(xs.all Value.cJ)=true) (V:m<=1000000000) (J:dI<=1000) (o:P.still H.gh=false)
  {K:Value->Hp->Prop} (k0:m=0->K (.slice (some a) 0 0) H) (k1:∀r p rest,H r=none->m<=p->(xs++rest).length=p * bV->K (.slice (some ⟨r,0,none⟩) m p) (H.ins r (.cells (xs++rest).toArray E))):bL P.toPQ (Builtin.append_ #[sT,sT] T #[.slice (some a) 0 0,w]) (λv _ U=>K v U) false H:=by
 obtain⟨CK,G,i2,i3,M⟩:=ti.ex;have D:∀Q g,Q m g H->bL P.toPQ (Builtin.lenOf w) Q g H:=by intro Q g k;rcases S with⟨rfl,A,c,rfl⟩ | ⟨a,c,rfl,_⟩<;>simpa[Builtin.lenOf,Zj]using k
 have f:∀(Q:Array Value->Bool->Hp->Prop) g,Q xs.toArray g H->bL P.toPQ (Builtin.firstCells bV m w) Q g H:=by
  intro Q g k;rcases S with⟨rfl,A,c,rfl⟩ | ⟨a,c,rfl,X⟩
  ·have:xs=[]:=qAb (by simpa using I);subst this;cases A<;>simpa[Builtin.firstCells,Zj,loadCells,loadCellsFrom]using k
  simp only[Builtin.firstCells];exact yS o X k I
 have F:∀(Q:Array Value->Bool->Hp->Prop) g,Q #[] g H->bL P.toPQ (Builtin.firstCells bV 0 (.slice (some a) 0 0)) Q g H:=by intro Q g k;simpa[Builtin.firstCells,Zj,loadCells,loadCellsFrom]using k
 simp only[Builtin.append_,qAH,qAV,qAT,Zg,Zw hu,Z4 G,i2,Zj,DO,qAw];refine D _ _ ?_;simp only[qBU,qBp];by_cases C:0+m<=0
 ·rw[iF C];have Y:m=0:=O;subst Y;have L:xs=[]:=qAb (by simpa using I);subst L;simp only[Zg,Zj];refine f _ _ ?_;simpa[storeCells,Zj]using k0 rfl
 rw[aT C];simp only[Zg,O1 G,M];rw[aT (by rintro⟨h,_⟩;simp[IntKind.max,IntKind.bits,IntKind.signed]at h;omega)];simp only[Zg,Zj,O1 G,M];have u:¬ Builtin.nextslicecap (0+m) 0 * dI > 2 ^ 48:=by have N:=B7 (need:=0+m) (old:=0) O;have h2:Builtin.nextslicecap (0+m) 0 * dI<=(2 * (0+m)+200) * 1000:=qBq N J;omega
 rw[aT u];simp only[Zg,Zj,choose];rw[bL];simp only[Question.forced,DO,qAw];refine⟨o,λt=>?_⟩;have B:0+m<=(Question.appendCap (0+m) 0 E).cut t:=by simp only[Question.cut];omega
 generalize(Question.appendCap (0+m) 0 E).cut t=p at B;rw[bL];have s:∀(Q:Unit->Bool->Hp->Prop),Q () false H->bL P.toPQ (askRoom (p * dI)) Q false H:=by
  intro Q k;unfold askRoom;split
  ·exact⟨.inr ⟨rfl,o⟩,k⟩
  exact k
 rw[O1 G,M];refine s _ ?_;refine F _ _ ?_;refine f _ _ ?_;simp only[UC G i3,newRow,Zg,newObj,Zj];refine⟨o,λr Z=>?_⟩;have R:=k1 r p (Builtin.zeroCells zv.cells (p-(0+m))).toList Z O (by simp only[BY,I,qBy,B8,hz];rw[<-qCi];congr 1;omega);have e:(#[]++xs.toArray++Builtin.zeroCells zv.cells (p-(0+m)))=(xs++(Builtin.zeroCells zv.cells (p-(0+m))).toList).toArray:=by simp
 rw[qAE]at e R;rw[qAE,e];exact R
def mF{T:TypeId}(B:P.toProgram.underlying sT=some (.slice E))(F:TI P.toProgram E bV zv dI)(D:zv.cells.size=bV)(p:0<bV)(i:σ.get x=some (.slice (some a) 0 0))(k:σ.get y=some w)
  (C:(m=0/\∃A c,w=.slice A 0 c)\/∃a c,w=.slice (some a) m c/\aC H a xs) (u:xs.length=m * bV) (o:(xs.all Value.cJ)=true) (e:m<=1000000000) (f:dI<=1000) (g:P.still H.gh=false)
  (k0:m=0->next (σ.set d (.slice (some a) 0 0)) H) (k1:∀r h rest,H r=none->m<=h->(xs++rest).length=h * bV->next (σ.set d (.slice (some ⟨r,0,none⟩) m h)) (H.ins r (.cells (xs++rest).toArray E))):(bE.raw (.call { callee:=.builtin .append,args:=#[x,y],argTypes:=#[sT,sT] }) T).m P d next σ H:=by
 refine YS (s:=Builtin.append_ #[sT,sT] T #[.slice (some a) 0 0,w]) (by simp[Op.operands,Call.operands,i,k]) (by simp[execOp,aR,resolve,invoke,builtin,i,k]) ?_;exact R2 (T:=T) B F D p C u o e f g k0 k1
end
end
end Go.LL
end
open Go Go.LL
namespace Go.Proofs
section
variable{α:Type}{H0:Hp}{r:Nat}{E:TypeId}
def mI[Enc α]{H:Hp}{c:Nat}{l:List α}{rest:List Value}(h:aL H0 H)(i:H r=none)(f:l.length<=c)(g:(Zb l++rest).length=c * Enc.sz α):dD H0 (H.ins r (.cells (Zb l++rest).toArray E)) E (.slice (some ⟨r,0,none⟩) l.length c) l (some r):=
 ⟨⟨VH l,.inr ⟨r,c,rest,rfl,rfl,Hp.aG _ _ _,g,f⟩⟩,λk e=>by obtain rfl:=iO e;exact YL h i⟩
section
variable{P:aX}[Tz P]{H:Hp}{d:Option Nat}{next:aM->Hp->Prop}{σ:aM}{x y:Operand}
def EQ[Enc α]{sT T:TypeId}{dI:Nat}{zv w:Value}{l:List α}(J:P.toProgram.underlying sT=some (.slice E))(L:TI P.toProgram E (Enc.sz α) zv dI)(K:zv.cells.size=Enc.sz α)(F:0<Enc.sz α)
  (I:H0 r=none) (D:H=H0.ins r (.cells #[] E)) (V:aF H w l) (R:((Zb l).all Value.cJ)=true) (p:l.length<=1000000000) (i:dI<=1000) (B:σ.get x=some (.slice (some ⟨r,0,none⟩) 0 0)) (C:σ.get y=some w) (k:P.still H.gh=false)
  (h:∀M o N,aL H o->dD H0 o E M l N->next (σ.set d M) o):(bE.raw (.call { callee:=.builtin .append,args:=#[x,y],argTypes:=#[sT,sT] }) T).m P d next σ H:=by
 have G:aL H0 H:=by rw[D];exact Zs I
 obtain⟨A,c,rfl,S⟩:=V;by_cases s:l=[]
 ·subst s;refine mF J L K F B C (m:=0) (xs:=[]) (.inl ⟨rfl,A,c,rfl⟩) (by simp) rfl O i k (λ_=>?_) λu X rest e g f=>?_
  ·exact h _ _ (some r) (.refl _) (by rw[D];exact EV I)
  exact h _ _ (some u) (Zs e) (mI (l:=([]:List α)) G e g f)
 obtain⟨a,rfl,U⟩:=S s;refine mF J L K F B C (m:=l.length) (xs:=Zb l) (.inr ⟨a,c,rfl,U⟩) (VH l) R p i k (λQ=>absurd (qAb Q) s) λu X rest e g f=>?_;exact h _ _ (some u) (Zs e) (mI G e g f)
end
end
section
open Go.Conc Go.ConcM
open YtlhomfgcibjccaaGreatDoor Go.ChangeShapes Go.WideShapes
section
variable{H:Type}{enc:TypeId×Value->H}{W:World}{base:Nat}{sp:Nat->Bool}{held:Bool}{fuel:Nat}{cs:List Value}{y:DataW H×List MemPlace}{r:Reach}{b0:Nat}{v:Value}{d:DataW H}{ps:List MemPlace}
def JM(f:Value.okWide Tryz.prog W r b0 26 v)(h:DataW.Trod enc Tryz.prog W base sp held 26 v d ps):∃(l:List Int) (A:Option Addr) (c:Nat),v=.slice A l.length c/\l.length<=c/\aF (lQ W) (.slice A l.length c) l:=by
 obtain⟨l,A,c,e,i⟩:=JN f h;subst e;obtain⟨fuel,g⟩:=h;have g:DataW.trod enc Tryz.prog W base sp held fuel 26 [.slice A l.length c]=some (d,ps):=by simpa[Value.cells]using g
 exact⟨l,A,c,rfl,TZ dW g,A,c,rfl,i⟩
end
end
variable{qs:List bW}{ls:List (List Int)}{q:bW}{x y z:Int}{key:Int->Int}{nd:Int->Bool}
theorem B4.aZ(n:B4){j:Nat}(z:Bool)(i:Nat)(c:i<4)(e:j<4):(n.put j z).get i=if i=j then z else n.get i:=by
 match i,j,c,e with
 | 0,0,_,_=>rfl
 | 0,1,_,_=>rfl
 | 0,2,_,_=>rfl
 | 0,3,_,_=>rfl
 | 1,0,_,_=>rfl
 | 1,1,_,_=>rfl
 | 1,2,_,_=>rfl
 | 1,3,_,_=>rfl
 | 2,0,_,_=>rfl
 | 2,1,_,_=>rfl
 | 2,2,_,_=>rfl
 | 2,3,_,_=>rfl
 | 3,0,_,_=>rfl
 | 3,1,_,_=>rfl
 | 3,2,_,_=>rfl
 | 3,3,_,_=>rfl
def fU(b:Sb)(t:N4):Nat->N4
 | 0=>t
 | j+1=>(fU b t j).put j (min (max (t.get j) (aD b j).lo) (aD b j).hi)
def dU(b:Sb)(l:List Int):Bool:=uW (fU b (Ys l) b.pk.length) (Ys l) && cB b (Ys l)
def JK{α β:Type}(f:α->List β){l:List α}{k:Nat}(h:k<l.length):(l.take (k+1)).flatMap f=(l.take k).flatMap f++f l[k]:=by rw[iN h,qBb,qAQ]
structure cX(H:Hp)(qs:List bW)(ls:List (List Int)):Prop where
 len:qs.length=ls.length
 at_:∀i (h:i<qs.length) (h':i<ls.length),aF H (dN qs[i]) ls[i]/\qs[i].2.1<=qs[i].2.2
def cX.nil(H:Hp):cX H [] []:=⟨rfl,λi h=>by simp at h⟩
def cX.inc{H H':Hp}(h:cX H qs ls)(c:aL H H'):cX H' qs ls:=⟨h.len,λi a b=>⟨((h.at_ i a b).1).inc c,(h.at_ i a b).2⟩⟩
def cX.snoc{H:Hp}{l:List Int}(h:cX H qs ls)(g:aF H (dN q) l)(f:q.2.1<=q.2.2):cX H (qs++[q]) (ls++[l]):=by
 refine⟨by simp[h.len],λi a b=>?_⟩;have:=h.len;by_cases c:i<qs.length
 ·rw[qAp c,qAp O];exact h.at_ i c O
 simp only[BY,qAA]at a;have e:i=qs.length:=O;subst e;rw[qAr (dO _),qAr O];simp[this];exact⟨g,f⟩
def uI{H:Hp}{l:List Int}(h:aF H (dN q) l):q.2.1=l.length:=by obtain⟨_,_,e,_⟩:=h;simp only[Value.slice.injEq]at e;exact e.2.1
def eI(x y:N4):Prop:=∃i,i<4/\x.get i<y.get i/\∀j,j<i->x.get j=y.get j
def eI.fM{x y:N4}(h:eI x y)(c:eI y x):False:=by
 obtain⟨i,p,k,f⟩:=h;obtain⟨j,s,o,g⟩:=c;rcases qDi i j with e | e | e
 ·have:=g i e;omega
 ·subst e;omega
 have:=f j e;omega
def JO{l c:List N4}(f:l.Pairwise eI)(g:c.Pairwise eI)(h:∀x,x∈l↔x∈c):l=c:=by have p:l.Perm c:=(qCh (f.imp λh e=>by subst e;exact h.fM h) (g.imp λh e=>by subst e;exact h.fM h)).2 h;exact p.eq_of_pairwise (le:=eI) (λa b _ _ x y=>(x.fM y).elim) f g
def iZ{α:Type}{f:Int->List α}{g:Int}{x:α}:∀{c:Nat},x∈gT f g c↔∃v,g-c<v/\v<=g/\x∈f v
 | 0=>by
  rw[gT];constructor
  ·intro h;simp at h
  rintro⟨v,o,i,_⟩;omega
 | c+1=>by
  rw[gT,qAi,iZ];constructor
  ·rintro(h | ⟨v,o,i,k⟩)
   ·exact⟨g-c,O,O,h⟩
   exact⟨v,O,i,k⟩
  rintro⟨v,o,i,k⟩;by_cases e:v=g-c
  ·subst e;exact .inl k
  exact .inr ⟨v,O,i,k⟩
def kX{α:Type}{R:α->α->Prop}{f:Int->List α}{h:Int}(e:∀v,(f v).Pairwise R)(g:∀v w,v<w->∀x∈f v,∀y∈f w,R x y):∀c,(gT f h c).Pairwise R
 | 0=>by rw[gT];exact .nil
 | c+1=>by rw[gT,qBn];refine⟨e _,kX e g c,λx i y k=>?_⟩;obtain⟨w,p,s,o⟩:=iZ.1 k;exact g _ w O x i y o
def gD{b:Sb}:∀{r:Nat} {m x:N4},r<=b.pk.length->b.pk.length<=4->(x∈bX b r m↔(∀j,j<4->(j<b.pk.length-r\/b.pk.length<=j)->x.get j=m.get j)/\(∀j,b.pk.length-r<=j->j<b.pk.length->(aD b j).lo<=x.get j/\x.get j<=(aD b j).hi)/\cB b x=true)
 | 0,m,x,_,_=>by
  rw[bX];constructor
  ·intro h;split at h
   ·obtain rfl:=oR.1 h;exact⟨λ_ _ _=>rfl,λj o s=>O,by assumption⟩
   simp at h
  rintro⟨o,_,u⟩;have:x=m:=N4.ext' λj c=>o j c O;subst this;rw[iF u];simp
 | r+1,m,x,G,C=>by
  rw[bX,iZ];obtain⟨i,B⟩:∃i,b.pk.length-(r+1)=i:=⟨_,rfl⟩;rw[B];constructor
  ·rintro⟨v,o,s,u⟩;obtain⟨g,k,p⟩:=(gD O C).1 u;refine⟨λj c D=>?_,λj F A=>?_,p⟩
   ·rw[g j c O,N4.aZ _ _ c,aT O]
   by_cases e:j=i
   ·subst e;have:=g j O O;rw[N4.aZ _ _ O,iF rfl]at this;omega
   exact k j O A
  rintro⟨g,k,p⟩;have:=k i O O;refine⟨x.get i,O,O,(gD O C).2 ⟨λj c D=>?_,λj o s=>k j O s,p⟩⟩;rw[N4.aZ _ _ c];split
  ·rename_i e;rw[e]
  exact g j c O
def lK{b:Sb}:∀{r:Nat} {m:N4},r<=b.pk.length->b.pk.length<=4->(bX b r m).Pairwise eI
 | 0,m,_,_=>by rw[bX];split<;>simp
 | r+1,m,u,c=>by
  rw[bX];obtain⟨i,k⟩:∃i,b.pk.length-(r+1)=i:=⟨_,rfl⟩;rw[k];refine kX (λv=>lK O c) (λv w e x o y p=>?_) _;have g:=((gD O c).1 o).1;have f:=((gD O c).1 p).1;refine⟨i,O,?_,λj s=>?_⟩
  ·rw[g i O O,f i O O,N4.aZ _ _ O,N4.aZ _ _ O,iF rfl,iF rfl];exact e
  rw[g j O O,f j O O,N4.aZ _ _ O,N4.aZ _ _ O,aT O,aT O]
theorem kT(j:Nat)(c:j<4):(⟨0,0,0,0⟩:N4).get j=0:=by
 match j,c with
 | 0,_=>rfl
 | 1,_=>rfl
 | 2,_=>rfl
 | 3,_=>rfl
def RS(b:Sb)(x:N4):Prop:=(∀j,j<b.pk.length->(aD b j).lo<=x.get j/\x.get j<=(aD b j).hi)/\∀j,j<4->b.pk.length<=j->x.get j=0
def gR{b:Sb}(i:b.pk.length<=4){x:N4}:x∈Zi b↔RS b x/\cB b x=true:=by
 rw[Zi,gD (dO _) i,qCv];constructor
 ·rintro⟨e,f,g⟩;exact⟨⟨λj c=>f j (qAI _) c,λj c h=>by rw[e j c (.inr h),kT j c]⟩,g⟩
 rintro⟨⟨e,f⟩,g⟩;exact⟨λj c h=>by rw[f j c O,kT j c],λj _ c=>e j c,g⟩
def uH{b:Sb}(c:b.pk.length<=4):(Zi b).Pairwise eI:=lK (dO _) c
def gd(b:Sb)(l:List Int)(t:N4):Bool:=nT b (Yg b t l)
def pY{b:Sb}{l:List Int}:∀(c:List N4) (s:Td),(c.foldl (V2 b l) s).good=s.good+((c.filter (gd b l)).length:Nat)
 | [],s=>by simp
 | t :: c,s=>by
  rw[qBa,pY c];show(if gd b l t=true then s.good+1 else s.good)+_=_;rw[qAN];by_cases h:gd b l t=true
  ·rw[iF h,iF h,qAs];omega
  rw[aT h,aT h]
def sL(b:Sb)(c:List N4)(l:List Int):(cG b c l).good=((c.filter (gd b l)).length:Nat):=by rw[cG,pY];show(0:Int)+_=_;omega
def kO{c:N4}{w:B4}:∀{j:Nat},j<=4->∀{i:Nat},i<4->(Yv c w j).get i=if i<j/\w.get i=true then c.get i+1 else c.get i
 | 0,_,i,_=>by rw[Yv,aT O]
 | j+1,p,i,o=>by
  rw[Yv];have ih:=@kO c w j O i o;have k:=@kO c w j O j O;rw[aT O]at k;split
  ·rename_i h;rw[N4.aZ _ _ o];by_cases e:i=j
   ·subst e;rw[iF rfl,k,iF ⟨O,h⟩]
   rw[aT e,ih];by_cases f:i<j/\w.get i=true
   ·rw[iF f,iF ⟨O,f.2⟩]
   rw[aT f,aT (λg=>f ⟨O,g.2⟩)]
  rename_i h;rw[ih];by_cases e:i=j
  ·subst e;rw[aT O,aT (λg=>h g.2)]
  by_cases f:i<j/\w.get i=true
  ·rw[iF f,iF ⟨O,f.2⟩]
  rw[aT f,aT (λg=>f ⟨O,g.2⟩)]
def pX{b:Sb}{l:List Int}{i:Nat}(g:i<4):∀(f:List N4) (s:Td),(f.foldl (V2 b l) s).cold.get i=s.cold.get i+((f.filter λt=>(Yg b t l).1.get i).length:Nat)
 | [],s=>by simp
 | t :: f,s=>by
  rw[qBa,pX g f];have e:(V2 b l s t).cold.get i=if(Yg b t l).1.get i=true then s.cold.get i+1 else s.cold.get i:=by
   show(Yv s.cold (Yg b t l).1 4).get i=_;rw[kO (dO _) g];by_cases h:(Yg b t l).1.get i=true
   ·rw[iF ⟨g,h⟩,iF h]
   rw[aT (λk=>h k.2),aT h]
  rw[e,qAN];by_cases h:(Yg b t l).1.get i=true
  ·rw[iF h,iF h,qAs];omega
  rw[aT h,aT h]
def sK(b:Sb)(e:List N4)(l:List Int){i:Nat}(f:i<4):(cG b e l).cold.get i=((e.filter λt=>(Yg b t l).1.get i).length:Nat):=by
 rw[cG,pX f];have:(iR b e l).cold.get i=0:=by
  match i,f with
  | 0,_=>rfl
  | 1,_=>rfl
  | 2,_=>rfl
  | 3,_=>rfl
 omega
def oG(l:List Int)(y x:Int):Prop:=∃a c,l=a++y :: c/\x∈c
def oG.app{l:List Int}(h:oG l y x)(z:Int):oG (l++[z]) y x:=by obtain⟨a,c,rfl,h⟩:=h;exact⟨a,c++[z],by simp,by simp[h]⟩
def R5{l:List Int}(h:y∈l)(x:Int):oG (l++[x]) y x:=by obtain⟨a,c,rfl⟩:=qCy h;exact⟨a,c++[x],by simp,by simp⟩
def Kb(key:Int->Int)(l:List Int)(y x:Int):Prop:=key y<key x\/(key y=key x/\oG l y x)
theorem Kb.app{l:List Int}(h:Kb key l y x)(z:Int):Kb key (l++[z]) y x:=h.imp id λh=>⟨h.1,h.2.app z⟩
def Kb.le{l:List Int}(h:Kb key l y x):key y<=key x:=by
 rcases h with h | h
 ·omega
 omega
def nU{key:Int->Int}{x:Int}{l:List Int}:∀{A:List Int},(∀y∈A,y∈l)->A.Pairwise (λu v=>Kb key (l++[x]) v u)->(Ud key x A).Pairwise (λu v=>Kb key (l++[x]) v u)
 | [],_,_=>by rw[Ud];exact qAS _ _
 | y :: r,g,h=>by
  obtain⟨f,k⟩:=qAJ.1 h;rw[Ud];split
  ·rename_i i;refine qAJ.2 ⟨λv c=>?_,nU (λz p=>g z (by simp[p])) k⟩;rcases qAq.1 ((KP key x r).mem_iff.1 c)with e | e
   ·exact .inl (by rw[e];exact i)
   exact f v e
  rename_i i;refine qAJ.2 ⟨λv c=>?_,h⟩;have o:key v<=key y:=by
   rcases qAq.1 c with e | e
   ·rw[e];exact qAx _
   exact(f v e).le
  by_cases e:key v<key x
  ·exact .inl e
  exact .inr ⟨O,R5 (g v c) x⟩
def kZ(key:Int->Int)(l:List Int):∀j,j<=l.length->(VO key (l.take j)).Pairwise λu v=>Kb key (l.take j) v u
 | 0,_=>by simp[VO]
 | j+1,e=>by have c:j<l.length:=e;rw[iN c,PX];exact nU (λy f=>(IG key _).mem_iff.1 f) ((kZ key l j O).imp λh=>h.app _)
def sO(key:Int->Int)(l:List Int):(gN key l).Pairwise (Kb key l):=by have h:=kZ key l l.length (dO _);rw[IF]at h;rw[gN,qDn];exact h
def cH(key:Int->Int)(nd:Int->Bool)(l:List Int):Nat->Int
 | 0=>-1
 | j+1=>if nd (el l j)=true/\(cH key nd l j<0\/key (el l j)<key (cH key nd l j))then el l j else cH key nd l j
def CH{a c:List Int}{m:Int}(A:∀z∈a++m :: c,0<=z)(G:nd m=true)(B:∀z∈a,nd z=true->key m<key z)(C:∀z∈c,nd z=true->key m<=key z) :
  cH key nd (a++m :: c) (a++m :: c).length=m:=by
 have o:∀j,j<a.length->el (a++m :: c) j∈a:=λj f=>by rw[el,ZD (by simp;omega),qAp f];exact bY f
 have s:el (a++m :: c) a.length=m:=by simp[el]
 have p:∀j,a.length<j->j<(a++m :: c).length->el (a++m :: c) j∈c:=λj f F=>by rw[el,ZD F,qAr O];obtain⟨k,D⟩:∃k,j-a.length=k+1:=⟨j-a.length-1,O⟩;simp only[D,List.getElem_cons_succ];exact bY _
 have k1:∀j,j<=a.length->cH key nd (a++m :: c) j=-1\/(cH key nd (a++m :: c) j∈a/\nd (cH key nd (a++m :: c) j)=true):=by
  intro j;induction j with
  | zero=>intro _;exact .inl rfl
  | succ j ih=>
   intro f;rw[cH];split
   ·rename_i h;exact .inr ⟨o j f,h.1⟩
   exact ih O
 have J:cH key nd (a++m :: c) (a.length+1)=m:=by
  rw[cH,s,iF];refine⟨G,?_⟩;rcases k1 a.length (dO _)with e | ⟨g,i⟩
  ·exact .inl (by rw[e];decide)
  exact .inr (B _ g i)
 have K:∀j,a.length+1+j<=(a++m :: c).length->cH key nd (a++m :: c) (a.length+1+j)=m:=by
  intro j;induction j with
  | zero=>intro _;exact J
  | succ j ih=>
   intro f;have I:0<=m:=A m (by simp);rw[show a.length+1+(j+1)=(a.length+1+j)+1 by omega,cH,ih O,aT];rintro⟨u,L⟩;have:=C _ (p (a.length+1+j) O O) u;omega
 have:=K c.length (by simp;omega);rwa [show a.length+1+c.length=(a++m :: c).length by simp;omega]at this
theorem yU{l:List Int}{n:Nat}(I:l.Nodup)(V:∀z∈l,0<=z)(Z:n<l.length)(C:∀z∈l,nd z=true↔z ∉ (gN key l).take n) :
  cH key nd l l.length=el (gN key l) n:=by
 have D:=tI key l;have u:n<(gN key l).length:=by rw[D.length_eq];exact Z
 have s:(gN key l).Nodup:=D.nodup_iff.2 I;have F:=sO key l;have M:gN key l=(gN key l).take n++(gN key l)[n] :: (gN key l).drop (n+1):=by conv=>lhs;rw[<-qCw n (gN key l),qCc u]
 rw[el,ZD u];generalize(gN key l)[n]=m at *;generalize(gN key l).take n=N at *;generalize(gN key l).drop (n+1)=S at *;rw[M]at D s F;have B:m∈l:=D.mem_iff.1 (by simp);obtain⟨a,c,rfl⟩:=qCy B;have J:m ∉ N:=λh=>(qBV.1 s).2.2 m h m (by simp) rfl;have f:∀z∈a++m :: c,z≠m->nd z=true->Kb key (a++m :: c) m z:=λz k L h=>by
  have X:z ∉ N:=(C z k).1 h;have Y:z∈S:=by
   have:=D.mem_iff.2 k;simp only[qAi,qAq]at this;rcases this with h | h | h
   ·exact absurd h X
   ·exact absurd h L
   exact h
  exact(qAJ.1 (qBn.1 F).2.1).1 z Y
 obtain⟨q1,q2,R⟩:=qBV.1 I;have A:m ∉ a:=λh=>R m h m (by simp) rfl;have K:m ∉ c:=(qCO.1 q2).1;refine CH V ((C m B).2 J) (λz k h=>?_) (λz k h=>(f z (by simp[k]) (by rintro rfl;exact K k) h).le);rcases f z (by simp[k]) (by rintro rfl;exact A k) h with g | ⟨_,O,Q,e,g⟩
 ·exact g
 exfalso;have:a=O/\m :: c=m :: Q:=by
  have G:m ∉ O:=λU=>by have p:=I;rw[e]at p;exact(qBV.1 p).2.2 m U m (by simp) rfl
  rcases qDG.1 e with⟨t,o,i⟩ | ⟨t,o,i⟩
  ·cases t with
   | nil=>simp at o i;exact⟨o.symm,by rw[i]⟩
   | cons y t=>
    simp only[qBG,qBM]at i;exact absurd (by rw[o,<-i.1];simp) G
  cases t with
  | nil=>simp at o i;exact⟨o,by rw[i]⟩
  | cons y t=>
   simp only[qBG,qBM]at i;exact absurd (by rw[o,<-i.1];simp) A
 have T:c=Q:=by have:=this.2;injection this
 subst T;exact R z k z (by simp[g]) rfl
structure cZ(n:Nat)(l:List Int):Prop where
 len:l.length=n
 nd:l.Nodup
 rg:∀z∈l,0<=z/\z<n
def cZ.at_{n:Nat}{l:List Int}(h:cZ n l){j:Nat}(e:j<n):0<=el l j/\el l j<n:=by
 have c:j<l.length:=by rw[h.len];exact e
 rw[el,ZD c];exact h.rg _ (bY c)
def cZ.perm{n:Nat}{l c:List Int}(h:cZ n l)(p:c.Perm l):cZ n c:=⟨p.length_eq.trans h.len,p.nodup_iff.2 h.nd,λz e=>h.rg z (p.mem_iff.1 e)⟩
section
variable{b:Sb}{t:N4}{l:List Int}
def s1(b:Sb)(t:N4)(l:List Int)(j:Nat):List Wk×List Int:=(l.take j).foldl (iG t) (tA b)
theorem wC{j:Nat}(c:j<l.length):s1 b t l (j+1)=iG t (s1 b t l j) (el l j):=by rw[s1,Oe _ _ c,el,ZD c];rfl
theorem iB(c:l.length=b.pk.length):s1 b t l b.pk.length=fA b t l:=by rw[s1,<-c,IF];rfl
def gW(ok:bA b)(f:Yp t)(c:cZ b.pk.length l){j:Nat}(e:j<=b.pk.length):WB b.pk.length b.pl.toNat (20 * j) (s1 b t l j):=z7 ok f c.rg j (by rw[c.len];exact e)
def s2(b:Sb)(t:N4)(l:List Int)(j:Nat):List Wk×List Int:=((Ul b t l).take j).foldl (fK b) ((fA b t l).1,List.replicate b.hd.toNat 0)
def eV(c:cZ b.pk.length l):cZ b.pk.length (Ul b t l):=c.perm (tI _ _)
theorem lJ(f:cZ b.pk.length l){j:Nat}(e:j<b.pk.length):s2 b t l (j+1)=fK b (s2 b t l j) (el (Ul b t l) j):=by
 have c:j<(Ul b t l).length:=by rw[(eV f).len];exact e
 rw[s2,Oe _ _ c,el,ZD c];rfl
theorem wD(c:cZ b.pk.length l):(s2 b t l b.pk.length).1=VN b t l:=by have h:=(eV (t:=t) c).len;rw[s2,<-h,IF];rfl
def iY(ok:bA b)(s:Yp t)(c:cZ b.pk.length l)(p:Nat):∀{j:Nat},j<=b.pk.length ->
  (s2 b t l j).1.length=b.pk.length/\(s2 b t l j).2.length=b.hd.toNat/\(bM (s2 b t l j).1 p).i=(bM (fA b t l).1 p).i/\(bM (s2 b t l j).1 p).o=(bM (fA b t l).1 p).o
 | 0,_=>by have h:=gW ok s c (dO _);rw[iB c.len]at h;exact⟨h.l1,qBj,rfl,rfl⟩
 | j+1,A=>by
  obtain⟨f,u,g,k⟩:=iY ok s c p (j:=j) O;have B:=(eV (t:=t) c).at_ (j:=j) O;rw[lJ c O];refine⟨qAg.trans f,qAg.trans u,?_⟩;show(bM ((s2 b t l j).1.set _ _) p).i=_/\(bM ((s2 b t l j).1.set _ _) p).o=_;rw[mC _ _ (by rw[f];omega)];split
  ·rename_i e;subst e;exact⟨g,k⟩
  exact⟨g,k⟩
end
def lM{b:Sb}{w:List Wk}:∀{j:Nat},j<=4->∀{i:Nat},i<4->((U2 b w j).1.get i=true↔i<j/\(bM w i).o+(aD b i).bJ<(bM w i).d)
 | 0,_,i,c=>by
  have:(U2 b w 0).1.get i=false:=by
   match i,c with
   | 0,_=>rfl
   | 1,_=>rfl
   | 2,_=>rfl
   | 3,_=>rfl
  rw[this];exact⟨λh=>by simp at h,λh=>O⟩
 | j+1,f,i,c=>by
  have ih:=@lM b w j O i c;rw[U2];show((U2 b w j).1.put j _).get i=true↔_;rw[B4.aZ _ _ _ c O];split
  ·rename_i e;subst e;rw[qAy];exact⟨λh=>⟨O,h⟩,λh=>h.2⟩
  rw[ih];exact⟨λh=>⟨O,h.2⟩,λh=>⟨O,h.2⟩⟩
def pU{c:B4}{z:Int}:∀{j:Nat},z∈cS c j↔∃i:Nat,i<j/\z=i/\c.get i=true
 | 0=>by rw[cS];exact⟨λh=>by simp at h,λ⟨i,h,_⟩=>O⟩
 | j+1=>by
  rw[cS];have ih:=@pU c z j;split
  ·rename_i h;rw[qAi,ih,oR];constructor
   ·rintro(⟨i,k,f,g⟩ | k)
    ·exact⟨i,O,f,g⟩
    exact⟨j,O,k,h⟩
   rintro⟨i,k,f,g⟩;by_cases e:i=j
   ·subst e;exact .inr f
   exact .inl ⟨i,O,f,g⟩
  rename_i h;rw[ih];constructor
  ·rintro⟨i,k,f,g⟩;exact⟨i,O,f,g⟩
  rintro⟨i,k,f,g⟩;by_cases e:i=j
  ·subst e;exact absurd g h
  exact⟨i,O,f,g⟩
def kP{b:Sb}{t:N4}{l:List Int}:z∈gM b t l↔∃i:Nat,i<4/\z=i/\(Yg b t l).1.get i=true:=pU
def pT{b:Sb}{t:N4}{l:List Int}:gM b t l=[]↔pM (Yg b t l).1=true:=by
 constructor
 ·intro h;have key:∀i,i<4->(Yg b t l).1.get i=false:=λi p=>by
   cases e:(Yg b t l).1.get i with
   | false=>rfl
   | true=>
    have:(i:Int)∈gM b t l:=kP.2 ⟨i,p,rfl,e⟩;rw[h]at this;simp at this
  have f:(Yg b t l).1.a=false:=key 0 (by decide);have g:(Yg b t l).1.b=false:=key 1 (by decide);have k:(Yg b t l).1.c=false:=key 2 (by decide);have o:(Yg b t l).1.d=false:=key 3 (by decide);rw[pM,f,g,k,o];rfl
 intro h;refine qCF.2 λz s=>?_;obtain⟨i,p,_,e⟩:=kP.1 s;simp only[pM,qAc,qBe]at h;obtain⟨⟨⟨f,g⟩,k⟩,o⟩:=h;match i,p with
 | 0,_=>exact absurd e (by show ¬ (Yg b t l).1.a=true;rw[f];decide)
 | 1,_=>exact absurd e (by show ¬ (Yg b t l).1.b=true;rw[g];decide)
 | 2,_=>exact absurd e (by show ¬ (Yg b t l).1.c=true;rw[k];decide)
 | 3,_=>exact absurd e (by show ¬ (Yg b t l).1.d=true;rw[o];decide)
def bS(b:Sb):Int:=if Zi b=[]then 9 else 0
def mG{b:Sb}(ok:bA b):Zl b 0=bS b:=by
 rw[Zl,jO ok,aT (by decide),aT (by decide),bS];by_cases h:Zi b=[]
 ·rw[iF h,iF (by rw[h];rfl)]
 rw[aT h,aT (by rw[qAt];exact h)]
def R4{b:Sb}(h:Zi b≠[]):bS b=0:=aT h
def fG{b:Sb}(ok:bA b){i:Nat}(h:i<b.pk.length):(1<=(aD b i).lo/\(aD b i).lo<=(aD b i).hi/\(aD b i).hi<=20)/\(aD b i).hi-(aD b i).lo<3/\(1<=(aD b i).bF/\(aD b i).bF<=20)/\(1<=(aD b i).bJ/\(aD b i).bJ<=20):=by rw[aD,ZD h];exact ok.pk i h
def iX{b:Sb}{t:N4}:∀{j:Nat},j<=4->∀{i:Nat},i<4->(fU b t j).get i=if i<j then min (max (t.get i) (aD b i).lo) (aD b i).hi else t.get i
 | 0,_,i,_=>by rw[fU,aT O]
 | j+1,f,i,c=>by
  rw[fU,N4.aZ _ _ c];by_cases e:i=j
  ·subst e;rw[iF rfl,iF O]
  rw[aT e,iX O c];by_cases h:i<j
  ·rw[iF h,iF O]
  rw[aT h,aT O]
theorem kM{b:Sb}(ok:bA b){l:List Int}(o:l.length=b.pk.length):dU b l=true↔Ys l∈Zi b:=by
 have e:=ok.n;rw[dU,qAc,EL,gR e.2];refine qDl ?_ qCH;constructor
 ·intro h;refine⟨λj c=>?_,λj c f=>?_⟩
  ·have:(fU b (Ys l) b.pk.length).get j=(Ys l).get j:=by rw[h]
   rw[iX e.2 O,iF c]at this;have:=(fG ok c).1;omega
  rw[fJ c,qAa,qAn O];rfl
 rintro⟨g,k⟩;refine N4.ext' λj c=>?_;rw[iX e.2 c];split
 ·rename_i f;have:=g j f;omega
 rfl
def R3{n:Nat}{l:List Int}{t:N4}(i:n<=4)(h:oV n l)(e:Yp t):0<=UG t l/\UG t l<=80:=by have c:=z6 e (n:=n) (l:=l) (λz f=>by have:=h.2 z f;omega) l.length (dO _);have g:=uD h;rw[IF]at c;omega
section
variable{P:aX}[Tz P][Loud P]{H:Hp}
def jG{b:Sb}(n:Int)(e:b.pk.length<=1000000):LL.Zc P 89 #[b.v,vi n] H λv c=>H=c/\v=vb (decide (0<=n/\n<b.pk.length)):=by refine aJ.m (bG JX) (args:=[b.v,vi n]) rfl ?_;unfold nN Sb.v;refine Y ?_;refine Za [vi n,vi 0,vi (b.pk.length-1)] (pF _ _ _) ?_;rintro v _ ⟨rfl,rfl⟩;refine Y ?_;exact⟨rfl,qBc vb (qBk.2 O)⟩
def R1{l:List Int}:l.any (λx=>z == x)=decide (z∈l):=by rw[qBT,qBg,qAy];exact⟨λ⟨x,c,e⟩=>by rw[qDH]at e;rw[e];exact c,λh=>⟨z,h,qCn z⟩⟩
def kE{b:Sb}{A:Option Addr}{c:Nat}{l:List Int}(s:aF H (.slice A l.length c) l)(K:l.length<=c)(M:l.length<=1000000)(J:b.pk.length<=1000000) :
  LL.Zc P 79 #[b.v,.slice A l.length c] H λv o=>H=o/\v=vi (Yq b l):=by
 refine aJ.m (bG JV) (args:=[b.v,.slice A l.length c]) rfl ?_;unfold nL Sb.v;refine OJ (λC=>?_) (λC=>?_)
 ·refine Y ?_;exact⟨rfl,by rw[Yq,iF O];rfl⟩
 refine Y ?_;refine Zv l.length (λj o=>H=o/\VB b.pk.length l j=0) (λj=>[(1,.slice A l.length c),(2,vi 0),(5,vi j)]) (λj=>[(2,b.cs)]) ⟨rfl,rfl⟩ V V ?_;rintro j _ L ⟨rfl,B⟩;refine OJ (λD=>?_) (λD=>?_)
 ·have f:j<l.length:=O;have G:l.getD j 0=l[j]:=ZD f _;have e:VB b.pk.length l (j+1)=(if ¬ (0<=l[j]/\l[j]<b.pk.length)then 6 else if(l.take j).any (λz=>l[j] == z)then 5 else 0):=by rw[VB,aT (by rw[B];simp),G]
  rw[R1]at e;have stop:VB b.pk.length l (j+1)≠0->Yq b l=VB b.pk.length l (j+1):=λh=>by rw[Yq,aT O,PZ h _ O]
  refine Y ?_;refine Zz j s f λa p=>Y ?_;refine Ya p (Y ?_);refine Za [b.v,vi l[j]] (jG _ J) ?_;rintro v _ ⟨rfl,rfl⟩;refine OJ (λF=>?_) (λF=>?_)
  ·have u:=e.trans (iF O);refine Y ?_;exact⟨rfl,by rw[stop (by rw[u];decide),u];rfl⟩
  have g:=e.trans (aT O);refine Y ?_;refine IE (lo:=0) (hi:=j) (k:=.i64) (bI dW) (cD t3) rfl (.inl ⟨rfl,rfl⟩) ⟨_,rfl,rfl⟩ O O ?_;rw[PY,qBI,qBI];refine Y ?_;refine Zz j s f λa p=>Y ?_;refine Ya p (Y ?_);have I:(l.take j).length=j:=by rw[qAj];omega
  refine Za [.slice A j c,vi l[j]] (qI (P0 s O) O) ?_;rintro v _ ⟨rfl,rfl⟩;cases hag:decide (l[j]∈l.take j)with
  | true=>
   rw[hag]at g;refine Y ?_;exact⟨rfl,by rw[stop (by rw[g];decide),g];rfl⟩
  | false=>
   rw[hag]at g;refine Y ?_;exact⟨⟨j+1,O⟩,bN O,⟨rfl,g⟩,V,V,rfl⟩
 have:j=l.length:=O;subst this;refine Y ?_;exact⟨rfl,by rw[Yq,aT O,B];rfl⟩
def mE{l:List Int}{i:Nat}(c:i<l.length)(e:l.length<=4):(Ys l).get i=l[i]:=by rw[fJ O,ZD c]
theorem RV{u w:Value}{lt ps:List Int}(G:aF H u lt)(s:aF H w ps)(F:lt.length<=4)(B:∀z∈ps,0<=z/\z<lt.length)(o:Yp (Ys lt))(K:ps.length<=1000000) :
  LL.Zc P 135 #[u,w] H λv g=>H=g/\v=vi (UG (Ys lt) ps):=by
 obtain⟨A,c,rfl,_⟩:=id s;refine aJ.m (bG JA) (args:=[u,.slice A ps.length c]) rfl ?_;unfold mV;refine Y ?_;refine Zv ps.length (λj g=>H=g) (λj=>[(0,u),(1,.slice A ps.length c),(5,vi (UG (Ys lt) (ps.take j))),(6,vi j)]) (λj=>[]) rfl V trivial ?_;rintro j _ J rfl;refine OJ (λD=>?_) (λD=>?_)
 ·have f:j<ps.length:=O;have C:=B _ (bY f);have k:=ID (Ys lt) f;have L:=z6 (n:=4) o (l:=ps) (λz C=>by have:=B z C;omega) j O;have M:=o ps[j].toNat O;have p:ps[j].toNat<lt.length:=O;have e:lt[ps[j].toNat]=(Ys lt).get ps[j].toNat:=(mE p F).symm;refine Y ?_;refine Zz j s f λa h=>Y ?_;refine Ya h (Y ?_);refine pN (i:=ps[j].toNat) G rfl (by show some (vi ps[j])=some (vi ((ps[j].toNat:Nat):Int));congr 2;omega) rfl p λa h=>?_;rw[e]at h;refine Y ?_;refine Ya h (Y ?_);exact dM (I:=λj g=>H=g) (env:=λj=>[(0,u),(1,.slice A ps.length c),(5,vi (UG (Ys lt) (ps.take j))),(6,vi j)]) (box:=λ_=>[]) f rfl ⟨rfl,rfl,by rw[k];rfl,rfl,trivial⟩ trivial rfl
 have:j=ps.length:=O;subst this;rw[IF];refine Y ?_;exact⟨rfl,rfl⟩
end
theorem iA{b:Sb}{i:Nat}(h:i<b.pk.length):Enc.enc b.pk[i]=[.string (aD b i).nm,vi (aD b i).lo,vi (aD b i).hi,vi (aD b i).bF,vi (aD b i).bJ]:=by rw[show b.pk[i]=aD b i from(ZD h _).symm];rfl
theorem kN{b:Sb}(ok:bA b){l:List Int}(e:l.length=b.pk.length):dU b l=true↔(∀j,j<b.pk.length->(aD b j).lo<=l.getD j 0/\l.getD j 0<=(aD b j).hi)/\cB b (Ys l)=true:=by
 have f:=ok.n;rw[kM ok e,gR f.2];refine qDl ⟨λh j c=>?_,λh=>⟨λj c=>?_,λj c g=>?_⟩⟩ qCH
 ·have:=h.1 j c;rwa [fJ O]at this
 ·rw[fJ O];exact h j c
 rw[fJ c,qAa,qAn O];rfl
section
variable{P:aX}[Tz P][Loud P]{H:Hp}
theorem pH{v:Value}{l:List Int}(k:aF H v l)(B:l.length<=1000000)(C:1<=l.length):LL.Zc P 165 #[v] H λw g=>H=g/\w=vi (Zo l):=by
 obtain⟨A,c,rfl,_⟩:=id k;refine aJ.m (bG JC) (args:=[.slice A l.length c]) rfl ?_;unfold lT;refine Y ?_;refine Zv (l.length-1) (λj g=>H=g) (λj=>[(0,.slice A l.length c),(3,vi (cO l (j+1))),(4,vi ((j:Int)+1))]) (λj=>[]) rfl ⟨rfl,by rw[cO,cO,aT (qCR _)];rfl,rfl,trivial⟩ trivial ?_;rintro j _ u rfl;refine OJ (λp=>?_) (λp=>?_)
 ·have f:j+1<l.length:=O;have o:cO l (j+1)<l.length:=by have:=EM (l:=l) (j+1) O;omega
  refine Y ?_;refine pN k rfl (by show some (vi ((j:Int)+1))=some (vi ((j+1:Nat):Int));rfl) rfl (i:=j+1) f λa s=>Y ?_;refine Ya s (Y ?_);refine Zz (cO l (j+1)) k o λa hb=>Y ?_;refine Ya hb ?_;rw[<-Uu f,<-Uu o];refine OJ (λh=>?_) (λh=>?_)
  ·have e:cO l (j+1+1)=j+1:=by rw[cO,iF h]
   refine Y ?_;exact⟨⟨j+1,O⟩,bN O,rfl,⟨rfl,by rw[e];rfl,rfl,trivial⟩,trivial,rfl⟩
  have e:cO l (j+1+1)=cO l (j+1):=by rw[cO,aT h]
  refine Y ?_;exact⟨⟨j+1,O⟩,bN O,rfl,⟨rfl,by rw[e];rfl,rfl,trivial⟩,trivial,rfl⟩
 have:j+1=l.length:=O;rw[this];refine Y ?_;exact⟨rfl,rfl⟩
theorem RK{b:Sb}{v:Value}{l:List Int}(ok:bA b)(hb:Zr H b)(L:aF H v l)(G:l.length=b.pk.length)(R:Yp (Ys l)) :
  LL.Zc P 134 #[b.v,v] H λw B=>H=B/\w=vb (dU b l):=by
 have X:=ok.n;have Z:=ok.nn;obtain⟨A,c,rfl,_⟩:=id L;refine aJ.m (bG I9) (args:=[b.v,.slice A l.length c]) rfl ?_;unfold lS Sb.v;refine Y ?_;refine Zv l.length (λj B=>H=B/\∀k,k<j->(aD b k).lo<=l.getD k 0/\l.getD k 0<=(aD b k).hi) (λj=>[(1,.slice A l.length c),(2,vi 0),(5,vi j)]) (λj=>[(2,b.cs)]) ⟨rfl,λk D=>absurd D (qBm _)⟩ V V ?_;rintro j _ U ⟨rfl,D⟩;refine OJ (λT=>?_) (λT=>?_)
 ·have g:j<l.length:=O;have s:j<b.pk.length:=O;have S:l.getD j 0=l[j]:=ZD g _;have row:=iA s;refine Y ?_;refine Zz j L g λa o=>Y ?_;refine Ya o (Y ?_);refine Zz j hb.pk s λa i=>?_;rw[row]at i;refine Y ?_;refine Zh (v:=vi (aD b j).lo) (OL _) rfl (by rw[add_zero];exact YN (cs:=[vi (aD b j).lo]) (ds:=[vi (aD b j).hi,vi (aD b j).bF,vi (aD b j).bJ]) (eY (n:=1) i rfl)) (Y ?_);refine Zz j hb.pk s λa i=>?_;rw[row]at i;refine Y ?_;refine Zh (v:=vi (aD b j).hi) (OL _) rfl (YN (cs:=[vi (aD b j).hi]) (ds:=[vi (aD b j).bF,vi (aD b j).bJ]) (eY (n:=1) (eY (n:=1) i rfl) rfl)) (Y ?_);refine Za [vi l[j],vi (aD b j).lo,vi (aD b j).hi] (pF _ _ _) ?_;rintro v _ ⟨rfl,rfl⟩;refine OJ (λC=>?_) (λC=>?_)
  ·refine Y ?_;have e:dU b l=false:=qBR.2 λh=>C (by rw[<-S];exact((kN ok G).1 h).1 j s);exact⟨rfl,by rw[e];rfl⟩
  refine Y ?_;exact⟨⟨j+1,O⟩,bN O,⟨rfl,λk F=>by
   have F:k<j+1:=F;by_cases e:k=j
   ·subst e;rw[S];exact C
   exact D k O⟩,V,V,rfl⟩
 have:j=l.length:=O;subst this;rw[G]at D;refine Y ?_;refine Zv b.nt.length (λj B=>H=B/\∀x∈b.nt.take j,vU (Ys l) x=true) (λj=>[(1,.slice A l.length c),(2,vi 0),(6,vi j)]) (λj=>[(2,b.cs)]) ⟨rfl,by simp⟩ V V ?_;rintro j _ U ⟨rfl,M⟩;refine OJ (λC=>?_) (λC=>?_)
 ·have g:j<b.nt.length:=O;obtain⟨g1,J,g3⟩:=ok.nt _ (bY g);have g4:=uD J;have g5:=R3 X.2 J R;have Q:Enc.enc b.nt[j]=[.slice b.nt[j].A b.nt[j].ps.length b.nt[j].c,vi b.nt[j].lo,vi b.nt[j].hi]:=rfl;refine Y ?_;refine Zz j hb.nt g λa o=>?_;rw[Q]at o;refine Y ?_;refine Zh (v:=.slice b.nt[j].A b.nt[j].ps.length b.nt[j].c) (OL _) rfl (by rw[add_zero];exact YN (cs:=[.slice b.nt[j].A b.nt[j].ps.length b.nt[j].c]) (ds:=[vi b.nt[j].lo,vi b.nt[j].hi]) o) (Y ?_);refine Zz j hb.nt g λa o=>?_;rw[Q]at o;refine Y ?_;refine Zh (v:=vi b.nt[j].lo) (OL _) rfl (by rw[add_zero];exact YN (cs:=[vi b.nt[j].lo]) (ds:=[vi b.nt[j].hi]) (eY (n:=1) o rfl)) (Y ?_);refine Zz j hb.nt g λa o=>?_;rw[Q]at o;refine Y ?_;refine Zh (v:=vi b.nt[j].hi) (OL _) rfl (eY (n:=1) (eY (n:=1) o rfl) rfl) (Y ?_);refine Za [.slice A l.length c,.slice b.nt[j].A b.nt[j].ps.length b.nt[j].c] (RV L (hb.ps _ (bY g)) O (λz hz=>by have:=J.2 z hz;omega) R O) ?_;rintro v _ ⟨rfl,rfl⟩;refine FS (Y ?_);refine Za [vi (UG (Ys l) b.nt[j].ps),vi b.nt[j].lo,vi b.nt[j].hi] (pF _ _ _) ?_;rintro v _ ⟨rfl,rfl⟩;refine OJ (λK=>?_) (λK=>?_)
  ·refine Y ?_;have e:dU b l=false:=qBR.2 λh=>K (of_decide_eq_true (IN.1 ((kN ok G).1 h).2 _ (bY g)));exact⟨rfl,by rw[e];rfl⟩
  refine Y ?_;exact⟨⟨j+1,O⟩,bN O,⟨rfl,λx I=>by
   rw[iN g,qAi,oR]at I;rcases I with I | rfl
   ·exact M x I
   exact decide_eq_true K⟩,V,V,rfl⟩
 have:j=b.nt.length:=O;subst this;rw[IF]at M;refine Y ?_;exact⟨rfl,by rw[(kN ok G).2 ⟨D,IN.2 M⟩];rfl⟩
end
