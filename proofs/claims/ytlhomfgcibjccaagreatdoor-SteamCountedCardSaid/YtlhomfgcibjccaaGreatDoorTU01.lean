import Derived.Test.YtlhomfgcibjccaaGreatDoorTU00
set_option linter.all false
set_option maxHeartbeats 8000000
set_option maxRecDepth 20000
section
open Go Go.LL Go.Conc Go.ConcM
namespace Go.Proofs.YtlhomfgcibjccaaGreatDoor
def kS:Tryz.pinned.checked.prog.funcNamed Rows.steamCountedRow.func=some 8:=U
def k9:(Rows.steamCountedRow.inPlace == Tryz.pinned.checked.prog.inPlace 8)=true:=U
def kT:(Rows.steamCountedRow.unfollowed == Tryz.pinned.checked.prog.unfollowed 8)=true:=U
def kE:(Rows.steamCountedRow.recurses == Tryz.pinned.checked.prog.recurses 8)=true:=U
def kL:(Rows.steamCountedRow.named == Tryz.pinned.checked.prog.varsNamed 8)=true:=U
def k8:joinedFacts Tryz.pinned.checked.prog 8 Tryz.f8 Rows.steamCountedSpec Rows.steamCountedRow=true:=by unfold joinedFacts;exact aE (aE (aE (aE (aE (aE (aE (aE (aE (aE (aE (aE (aE (aE (aE (aE (aE (aE (aE (aE (aE (aE (aE (aE (aE (aE (aE (aE (aE (aE (aE U z4) gV) U) U) U) U) U) U) k9) kT) kE) kL) U) U) U) U) U) U) U) U) U) U) U) fX) fY) U) U) U) U) U) U
def kM:Tryz.f8.isInstance Tryz.pinned.checked.prog Rows.steamCountedRow.origin Rows.steamCountedRow.targs:=of_decide_eq_true U
def kN:Tryz.f8.isWrapper Tryz.pinned.checked.prog Rows.steamCountedRow.wrapper Rows.steamCountedRow.mainSum:=by unfold Func.isWrapper;first | (rw[iF (by decide +kernel)];kernel_rfl) | (rw[aT (by decide +kernel)];exact⟨rfl,rfl⟩)
end Go.Proofs.YtlhomfgcibjccaaGreatDoor
end
section
open Go Go.LL
namespace Go.Proofs
def kP{α:Type}{p:α->Prop}{l:List α}{j:Nat}(g:j<l.length)(h:∀x∈l.take j,p x)(f:p l[j]):∀x∈l.take (j+1),p x:=by
 intro x e;rw[iN g]at e;rcases qAi.1 e with e | e
 ·exact h x e
 rw[oR.1 e];exact f
def mG{p q:Prop}[Decidable p][Decidable q](h:p↔q):(decide p != decide q)=false:=by
 by_cases f:q
 ·have g:=h.2 f;simp[g,f]
 have g:¬ p:=λe=>f (h.1 e);simp[g,f]
section
variable{P:aX}[Tz P][Loud P]{H:Hp}
def nV{lv:Value}{l:List Int}{n:Int}(o:aF H lv l)(t:l.length<=1000000):LL.Zc P 40 #[lv,vi n] H λv f=>H=f/\v=vb (decide (n∈l)):=by
 refine aJ.m (bG sE) (args:=[lv,vi n]) rfl ?_;unfold l8;refine Y ?_;refine Zv l.length (λj f=>H=f/\∀x∈l.take j,x≠n) (λj=>[(0,lv),(1,vi n),(5,vi j)]) (λ_=>[]) ⟨rfl,by simp⟩ V trivial ?_;rintro j _ u ⟨rfl,i⟩;refine Y ?_;refine YE o rfl ?_;refine OJ (λp=>?_) (λp=>?_)
 ·have e:j<l.length:=O;refine Y ?_;refine Zz j o e λa s=>Y ?_;refine Ya s ?_;refine OJ (λg=>?_) (λg=>?_)
  ·refine Y ?_;exact⟨rfl,by rw[decide_eq_true (show n∈l by rw[<-g];exact bY e)];rfl⟩
  refine Y ?_;exact dM (I:=λj f=>H=f/\∀x∈l.take j,x≠n) (env:=λj=>[(0,lv),(1,vi n),(5,vi j)]) (box:=λ_=>[]) e ⟨rfl,kP e i g⟩ V trivial rfl
 have:j=l.length:=O;subst this;rw[IF]at i;refine Y ?_;exact⟨rfl,by rw[qAo (show ¬ n∈l from λh=>i n h rfl)];rfl⟩
end
end Go.Proofs
end
section
open Go Go.LL
namespace Go.LL
section
variable{sT E:TypeId}{bV dI m:Nat}{zv w:Value}{xs:List Value}{a:Addr}
section
variable{P:aX}{H:Hp}{d:Option Nat}{next:aM->Hp->Prop}{σ:aM}{x y:Operand}
def nK{T:TypeId}(W:P.toProgram.underlying sT=some (.slice E))(ti:TI P.toProgram E bV zv dI)(X:zv.cells.size=bV)(he:0<bV)
  (M:(m=0/\∃A c,w=.slice A 0 c)\/∃a c,w=.slice (some a) m c/\aC H a xs) (D:xs.length=m * bV) (J:(xs.all Value.cJ)=true) (R:m<=1000000000) (F:dI<=1000) (l:P.still H.gh=false)
  {K:Value->Hp->Prop} (k0:m=0->K (.slice (some a) 0 0) H) (k1:∀r n rest,H r=none->m<=n->(xs++rest).length=n * bV->K (.slice (some ⟨r,0,none⟩) m n) (H.ins r (.cells (xs++rest).toArray E))):bL P.toPQ (Builtin.append_ #[sT,sT] T #[.slice (some a) 0 0,w]) (λv _ N=>K v N) false H:=by
 obtain⟨CK,C,Y,Z,I⟩:=ti.ex;have z:∀Q g,Q m g H->bL P.toPQ (Builtin.lenOf w) Q g H:=by intro Q g j;rcases M with⟨rfl,A,c,rfl⟩ | ⟨a,c,rfl,_⟩<;>simpa[Builtin.lenOf,Zj]using j
 have f:∀(Q:Array Value->Bool->Hp->Prop) g,Q xs.toArray g H->bL P.toPQ (Builtin.firstCells bV m w) Q g H:=by
  intro Q g j;rcases M with⟨rfl,A,c,rfl⟩ | ⟨a,c,rfl,S⟩
  ·have:xs=[]:=qAb (by simpa using D);subst this;cases A<;>simpa[Builtin.firstCells,Zj,loadCells,loadCellsFrom]using j
  simp only[Builtin.firstCells];exact yS l S j D
 have B:∀(Q:Array Value->Bool->Hp->Prop) g,Q #[] g H->bL P.toPQ (Builtin.firstCells bV 0 (.slice (some a) 0 0)) Q g H:=by intro Q g j;simpa[Builtin.firstCells,Zj,loadCells,loadCellsFrom]using j
 simp only[Builtin.append_,qAH,qAV,qAT,Zg,Zw W,Z4 C,Y,Zj,DO,qAw];refine z _ _ ?_;simp only[qBU,qBp];by_cases u:0+m<=0
 ·rw[iF u];have U:m=0:=O;subst U;have G:xs=[]:=qAb (by simpa using D);subst G;simp only[Zg,Zj];refine f _ _ ?_;simpa[storeCells,Zj]using k0 rfl
 rw[aT u];simp only[Zg,O1 C,I];rw[aT (by rintro⟨h,_⟩;simp[IntKind.max,IntKind.bits,IntKind.signed]at h;omega)];simp only[Zg,Zj,O1 C,I];have p:¬ Builtin.nextslicecap (0+m) 0 * dI > 2 ^ 48:=by have J:=B7 (need:=0+m) (old:=0) O;have h2:Builtin.nextslicecap (0+m) 0 * dI<=(2 * (0+m)+200) * 1000:=qBq J F;omega
 rw[aT p];simp only[Zg,Zj,choose];rw[bL];simp only[Question.forced,DO,qAw];refine⟨l,λt=>?_⟩;have s:0+m<=(Question.appendCap (0+m) 0 E).cut t:=by simp only[Question.cut];omega
 generalize(Question.appendCap (0+m) 0 E).cut t=n at s;rw[bL];have o:∀(Q:Unit->Bool->Hp->Prop),Q () false H->bL P.toPQ (askRoom (n * dI)) Q false H:=by
  intro Q j;unfold askRoom;split
  ·exact⟨.inr ⟨rfl,l⟩,j⟩
  exact j
 rw[O1 C,I];refine o _ ?_;refine B _ _ ?_;refine f _ _ ?_;simp only[UC C Z,newRow,Zg,newObj,Zj];refine⟨l,λr V=>?_⟩;have L:=k1 r n (Builtin.zeroCells zv.cells (n-(0+m))).toList V O (by simp only[BY,D,qBy,B8,X];rw[<-qCi];congr 1;omega);have e:(#[]++xs.toArray++Builtin.zeroCells zv.cells (n-(0+m)))=(xs++(Builtin.zeroCells zv.cells (n-(0+m))).toList).toArray:=by simp
 rw[qAE]at e L;rw[qAE,e];exact L
def iB{T:TypeId}(p:P.toProgram.underlying sT=some (.slice E))(v:TI P.toProgram E bV zv dI)(u:zv.cells.size=bV)(n:0<bV)(i:σ.get x=some (.slice (some a) 0 0))(j:σ.get y=some w)
  (t:(m=0/\∃A c,w=.slice A 0 c)\/∃a c,w=.slice (some a) m c/\aC H a xs) (o:xs.length=m * bV) (l:(xs.all Value.cJ)=true) (e:m<=1000000000) (f:dI<=1000) (g:P.still H.gh=false)
  (k0:m=0->next (σ.set d (.slice (some a) 0 0)) H) (k1:∀r h rest,H r=none->m<=h->(xs++rest).length=h * bV->next (σ.set d (.slice (some ⟨r,0,none⟩) m h)) (H.ins r (.cells (xs++rest).toArray E))):(bE.raw (.call { callee:=.builtin .append,args:=#[x,y],argTypes:=#[sT,sT] }) T).m P d next σ H:=by
 refine YS (s:=Builtin.append_ #[sT,sT] T #[.slice (some a) 0 0,w]) (by simp[Op.operands,Call.operands,i,j]) (by simp[execOp,aR,resolve,invoke,builtin,i,j]) ?_;exact nK (T:=T) p v u n t o l e f g k0 k1
end
end
end Go.LL
end
open Go Go.LL
namespace Go.Proofs
section
variable{α:Type}{H0:Hp}{r:Nat}{E:TypeId}
def gW[Enc α]{H:Hp}{f:Nat}{l:List α}{rest:List Value}(i:aL H0 H)(j:H r=none)(g:l.length<=f)(h:(Zb l++rest).length=f * Enc.sz α):dD H0 (H.ins r (.cells (Zb l++rest).toArray E)) E (.slice (some ⟨r,0,none⟩) l.length f) l (some r):=
 ⟨⟨VH l,.inr ⟨r,f,rest,rfl,rfl,Hp.aG _ _ _,h,g⟩⟩,λn e=>by obtain rfl:=iO e;exact YL i j⟩
section
variable{P:aX}[Tz P]{H:Hp}{d:Option Nat}{next:aM->Hp->Prop}{σ:aM}{x y:Operand}
def mH[Enc α]{sT T:TypeId}{dI:Nat}{zv w:Value}{l:List α}(D:P.toProgram.underlying sT=some (.slice E))(G:TI P.toProgram E (Enc.sz α) zv dI)(F:zv.cells.size=Enc.sz α)(z:0<Enc.sz α)
  (C:H0 r=none) (v:H=H0.ins r (.cells #[] E)) (Q:aF H w l) (L:((Zb l).all Value.cJ)=true) (o:l.length<=1000000000) (i:dI<=1000) (t:σ.get x=some (.slice (some ⟨r,0,none⟩) 0 0)) (u:σ.get y=some w) (j:P.still H.gh=false)
  (h:∀I n J,aL H n->dD H0 n E I l J->next (σ.set d I) n):(bE.raw (.call { callee:=.builtin .append,args:=#[x,y],argTypes:=#[sT,sT] }) T).m P d next σ H:=by
 have B:aL H0 H:=by rw[v];exact Zs C
 obtain⟨A,c,rfl,M⟩:=Q;by_cases p:l=[]
 ·subst p;refine iB D G F z t u (m:=0) (xs:=[]) (.inl ⟨rfl,A,c,rfl⟩) (by simp) rfl O i j (λ_=>?_) λs R rest e g f=>?_
  ·exact h _ _ (some r) (.refl _) (by rw[v];exact lW C)
  exact h _ _ (some s) (Zs e) (gW (l:=([]:List α)) B e g f)
 obtain⟨a,rfl,N⟩:=M p;refine iB D G F z t u (m:=l.length) (xs:=Zb l) (.inr ⟨a,c,rfl,N⟩) (VH l) L o i j (λK=>absurd (qAb K) p) λs R rest e g f=>?_;exact h _ _ (some s) (Zs e) (gW B e g f)
end
end
variable{a:List Int}{c k:Nat}{α:Type}{qs:List bW}{ls:List (List Int)}{q:bW}{ts:List N4}{A:Option Addr}
def mT{x y:Int}{c:List Int}:VJ (x :: a) (y :: c)<0↔x<y\/(x=y/\VJ a c<0):=by
 rw[VJ,YM];by_cases e:x<y
 ·simp[e]
 by_cases f:y<x
 ·simp[e,f];omega
 have:x=y:=O;simp[this]
section
variable{P:aX}[Tz P][Loud P]{H:Hp}
def oB{u w:Value}{b:List Int}(l:aF H u a)(hb:aF H w b)(F:a.length<=1000000)(C:b.length<=1000000):LL.Zc P 48 #[u,w] H λv i=>H=i/\v=vb (decide (VJ a b<0)):=by
 refine aJ.m (bG mS) (args:=[u,w]) rfl ?_;unfold hZ;refine Y ?_;refine Zv a.length (λj i=>H=i/\j<=b.length/\VJ a b=VJ (a.drop j) (b.drop j)) (λj=>[(0,u),(1,w),(5,vi j)]) (λ_=>[]) ⟨rfl,qAI _,rfl⟩ V trivial ?_;rintro j _ D ⟨rfl,B,e⟩;refine Y ?_;refine YE l rfl ?_;refine OJ (λs=>?_) (λs=>?_)
 ·have f:j<a.length:=O;rw[yT f]at e;refine Y ?_;refine YE hb rfl ?_;refine OJ (λt=>?_) (λt=>?_)
  ·have g:j<b.length:=O;rw[yT g]at e;refine Y ?_;refine Zz j l f λp n=>Y ?_;refine Ya n (Y ?_);refine Zz j hb g λq o=>Y ?_;refine Ya o ?_;refine OJ (λz=>?_) (λz=>?_)
   ·refine Y ?_;refine Zz j l f λp n=>Y ?_;refine Ya n (Y ?_);refine Zz j hb g λq o=>Y ?_;refine Ya o (Y ?_);refine⟨rfl,?_⟩;rw[e];refine qBc vb (qBk.2 ?_);rw[mT];omega
   refine Y ?_;refine dM (I:=λj i=>H=i/\j<=b.length/\VJ a b=VJ (a.drop j) (b.drop j)) (env:=λj=>[(0,u),(1,w),(5,vi j)]) (box:=λ_=>[]) f ⟨rfl,g,?_⟩ V trivial rfl;rw[e,VJ,YM,aT (by rw[aT O,aT O];decide)]
  refine Y ?_;refine YE l rfl (Y ?_);refine YE hb rfl (Y ?_);refine⟨rfl,?_⟩;rw[qBw (show b.length<=j by omega)]at e;rw[e];refine qBc vb (qBk.2 ?_);rw[VJ];omega
 have:j=a.length:=O;subst this;rw[qDs]at e;refine Y ?_;refine YE l rfl (Y ?_);refine YE hb rfl (Y ?_);refine⟨rfl,?_⟩;rw[e];refine qBc vb (qBk.2 ?_);rcases qBi a.length b.length with h | h
 ·rw[yT h,VJ];omega
 rw[qBw h,VJ];omega
def lL{b:Sb}(hb:Zr H b):LL.Zc P 36 #[b.v] H λv e=>H=e/\∃g,v=vb g/\(g=true->bA b):=by
 refine aJ.m (bG mQ) (args:=[b.v]) rfl ?_;unfold iJ Sb.v;refine Y ?_;refine Za [b.v] (eO hb) ?_;rintro v _ ⟨rfl,g,rfl,f⟩;cases g with
 | true=>
  refine Y ?_;exact⟨rfl,false,rfl,λh=>by simp at h⟩
 | false=>
  refine Y ?_;refine Za [b.v] (cF hb (f rfl).sz) ?_;rintro v _ ⟨rfl,rfl⟩;refine Y ?_;exact⟨rfl,decide (ZF b=0),by simp[Y5],λh=>Ow (of_decide_eq_true h)⟩
end
def bR(l:List Int)(j:Nat):List (List Int):=(List.range j).flatMap λ(i:Nat)=>if(i:Int)∈l then[]else[l++[(i:Int)]]
def dF(n:Nat):Nat->List (List Int)
 | 0=>[[]]
 | i+1=>(dF n i).flatMap λl=>bR l n
theorem jT(l:List Int)(j:Nat):bR l (j+1)=bR l j++if(j:Int)∈l then[]else[l++[(j:Int)]]:=by rw[bR,qBs,qBb,qAQ];rfl
def lT{β:Type}(f:α->List β){l:List α}(h:k<l.length):(l.take (k+1)).flatMap f=(l.take k).flatMap f++f l[k]:=by rw[iN h,qBb,qAQ]
def lU:dF 1 1=ZB 1/\dF 2 2=ZB 2/\dF 3 3=ZB 3/\dF 4 4=ZB 4:=by decide +kernel
def iY{n:Nat}(i:1<=n/\n<=4):dF n n=ZB n:=by
 obtain⟨e,f,g,h⟩:=lU;have:n=1\/n=2\/n=3\/n=4:=O;rcases this with rfl | rfl | rfl | rfl
 ·exact e
 ·exact f
 ·exact g
 exact h
def mF:((List.range 5).all λn=>(List.range (n+1)).all λi=>decide ((dF n i).length<=24) && (dF n i).all λl=>decide (l.length<=4))=true:=by decide +kernel
def iX{n i:Nat}(g:n<=4)(f:i<=n):(dF n i).length<=24/\∀l∈dF n i,l.length<=4:=by have h:=IN.1 (IN.1 mF n (qAl.2 O)) i (qAl.2 O);rw[qAc,qAy,IN]at h;exact⟨h.1,λl e=>of_decide_eq_true (h.2 l e)⟩
def fG(l:List Int):∀j,(bR l j).length<=j
 | 0=>dO _
 | j+1=>by rw[jT,BY];have:=fG l j;split<;>simp<;>omega
def jU{n:Nat}:∀(L:List (List Int)),(L.flatMap λl=>bR l n).length<=L.length * n
 | []=>by simp
 | l :: L=>by rw[qAM,BY,qAs,qBY];have:=jU (n:=n) L;have:=fG l n;omega
structure cX(H:Hp)(qs:List bW)(ls:List (List Int)):Prop where
 len:qs.length=ls.length
 at_:∀i (h:i<qs.length) (h':i<ls.length),aF H (dN qs[i]) ls[i]/\qs[i].2.1<=qs[i].2.2
def cX.nil(H:Hp):cX H [] []:=⟨rfl,λi h=>by simp at h⟩
def cX.inc{H H':Hp}(h:cX H qs ls)(e:aL H H'):cX H' qs ls:=⟨h.len,λi a b=>⟨((h.at_ i a b).1).inc e,(h.at_ i a b).2⟩⟩
def cX.snoc{H:Hp}{l:List Int}(h:cX H qs ls)(j:aF H (dN q) l)(g:q.2.1<=q.2.2):cX H (qs++[q]) (ls++[l]):=by
 refine⟨by simp[h.len],λi a b=>?_⟩;have:=h.len;by_cases f:i<qs.length
 ·rw[qAp f,qAp O];exact h.at_ i f O
 simp only[BY,qAA]at a;have e:i=qs.length:=O;subst e;rw[qAr (dO _),qAr O];simp[this];exact⟨j,g⟩
def gH{H:Hp}{l:List Int}(h:aF H (dN q) l):q.2.1=l.length:=by obtain⟨_,_,e,_⟩:=h;simp only[Value.slice.injEq]at e;exact e.2.1
def gd(b:Sb)(l:List Int)(t:N4):Bool:=nT b (Yg b t l)
def jG{b:Sb}{l:List Int}:∀(ts:List N4) (s:Td),(ts.foldl (V2 b l) s).good=s.good+((ts.filter (gd b l)).length:Nat)
 | [],s=>by simp
 | t :: ts,s=>by
  rw[qBa,jG ts];show(if gd b l t=true then s.good+1 else s.good)+_=_;rw[qAN];by_cases h:gd b l t=true
  ·rw[iF h,iF h,qAs];omega
  rw[aT h,aT h]
def gB(b:Sb)(ts:List N4)(l:List Int):(cG b ts l).good=((ts.filter (gd b l)).length:Nat):=by rw[cG,jG];show(0:Int)+_=_;omega
def mW{α:Type}{p:α->Bool}{l:List α}:(l.filter p).length=l.length↔∀x∈l,p x=true:=by rw[qBA]
def gD{p:α->Bool}{l:List α}(h:l≠[]):fN ((l.filter p).length:Nat) (l.length:Nat)=1↔∀x∈l,p x=true:=by
 rw[<-mW];have:=qAX.2 h;unfold fN;split
 ·omega
 split
 ·omega
 omega
theorem kO(m n:Int):fN m n=0\/fN m n=1\/fN m n=2:=by
 unfold fN;split
 ·exact .inr (.inr rfl)
 split
 ·exact .inr (.inl rfl)
 exact .inl rfl
def bK(b:Sb)(ts:List N4)(p:List Int):Bool:=ts.all (gd b p)
def iA{b:Sb}{m:Nat}(h:ts≠[])(e:1<=m):UM b ts m=bK b ts (ZX b.pk.length m):=by rw[qBT,UM,qAc,qAy,qAy,gB,gD h,bK,IN];exact⟨λh=>h.2,λh=>⟨e,h⟩⟩
def iZ{b:Sb}(h:ts≠[]):(dE b ts).map (ZX b.pk.length)=(ZB b.pk.length).filter (bK b ts):=by
 have f:ZB b.pk.length=((List.range (ZB b.pk.length).length).map (·+1)).map (ZX b.pk.length):=by refine qBl (by simp) λi g l=>?_;simp only[qAZ,qCl,ZX,qAU];exact(ZD g _).symm
 conv=>rhs;rw[f]
 rw[qDy,dE];congr 1;refine qBW λm j=>?_;obtain⟨k,_,rfl⟩:=qAB.1 j;exact iA h O
structure dP(n:Nat)(l:List Int):Prop where
 len:l.length=n
 nd:l.Nodup
 rg:∀z∈l,0<=z/\z<n
def mM:(∀p∈ZB 1,p.Nodup)/\(∀p∈ZB 2,p.Nodup)/\(∀p∈ZB 3,p.Nodup)/\(∀p∈ZB 4,p.Nodup):=by decide +kernel
def gO{n:Nat}(o:1<=n/\n<=4){p:List Int}(e:p∈ZB n):dP n p:=by
 obtain⟨j,l⟩:=CW e;refine⟨j,?_,l⟩;obtain⟨f,g,h,i⟩:=mM;have:n=1\/n=2\/n=3\/n=4:=O;rcases this with rfl | rfl | rfl | rfl
 ·exact f p e
 ·exact g p e
 ·exact h p e
 exact i p e
def bS(b:Sb):Int:=if Zi b=[]then 9 else 0
def eE{b:Sb}(ok:bA b):Zl b 0=bS b:=by
 rw[Zl,jO ok,aT (by decide),aT (by decide),bS];by_cases h:Zi b=[]
 ·rw[iF h,iF (by rw[h];rfl)]
 rw[aT h,aT (by rw[qAt];exact h)]
def eI{b:Sb}(h:Zi b≠[]):bS b=0:=aT h
def fU{b:Sb}:bS b=0↔Zi b≠[]:=by
 unfold bS;split
 ·rename_i h;exact⟨λe=>by simp at e,λe=>absurd h e⟩
 rename_i h;exact⟨λ_=>h,λ_=>rfl⟩
def gR{n:Nat}{l:List Int}(g:dP n l):∀j,j<=l.length->VB n l j=0
 | 0,_=>rfl
 | j+1,s=>by
  have f:j<l.length:=s;rw[VB,aT (by rw[gR g j O];decide),ZD f,aT (by have:=g.rg _ (bY f);omega),aT];intro h;obtain⟨z,t,e⟩:=qBg.1 h;have e:l[j]=z:=by simpa using e
  obtain⟨i,p,o⟩:=qAk.1 t;rw[qBC]at o;rw[qAj]at p;have:=(qBQ (h₀:=show i<l.length by omega) (h₁:=f) g.nd).1 (by rw[o,e]);omega
def mJ{b:Sb}{l:List Int}(e:dP b.pk.length l):Yq b l=0:=by rw[Yq,aT (by rw[e.len];exact λh=>h rfl)];exact gR e _ (dO _)
section
variable{P:aX}[Tz P][Loud P]{H:Hp}
def nI{b:Sb}(hn:1<=b.pk.length/\b.pk.length<=4) :
  LL.Zc P 47 #[b.v] H λv f=>aL H f/\∃A c qs,v=.slice A qs.length c/\aF f v qs/\cX f qs (ZB b.pk.length):=by
 refine aJ.m (bG mR) (args:=[b.v]) rfl ?_;unfold iI Sb.v;refine Y ?_;refine ZY (cs:=Zb [((none,0,0):bW)]) (OL _) rfl λT qE=>?_;have s8:aF (H.ins T (.cells (Zb [((none,0,0):bW)]).toArray 26)) (.slice (some ⟨T,0,none⟩) 1 1) [((none,0,0):bW)]:=Z0 (l:=[((none,0,0):bW)]);have i8:aL H (H.ins T (.cells (Zb [((none,0,0):bW)]).toArray 26)):=Zs qE;generalize H.ins T (.cells (Zb [((none,0,0):bW)]).toArray 26)=H1 at *;refine Y ?_;refine ZO (α:=(Option Addr×Nat)×List bW) b.pk.length (λi s f=>aL H f/\aF f (.slice s.1.1 s.2.length s.1.2) s.2/\cX f s.2 (dF b.pk.length i))
  (λi s=>[(1,vi 0),(2,.slice none 0 0),(3,.slice s.1.1 s.2.length s.1.2),(4,vi i)]) (λ_ _=>[(1,b.cs)]) ((some ⟨T,0,none⟩,1),[(none,0,0)])
  ⟨i8,s8,rfl,λi h h'=>by(obtain rfl:i=0:=by simpa using h);exact⟨.nil _,dO _⟩⟩ V V ?_
 rintro i ⟨⟨A3,c3⟩,qs⟩ H2 hi ⟨i2,s3,R⟩;simp only at s3 R;have tE:=R.len;have lG:=iX hn.2 (show i<=b.pk.length by omega);refine OJ (λh1=>?_) (λh1=>?_)
 ·have yL:i<b.pk.length:=O;refine Y ?_;refine ZO (α:=Hp×Value×List bW×Option Nat) qs.length (λk s f=>aL H2 s.1/\aL s.1 f/\dD s.1 f 26 s.2.1 s.2.2.1 s.2.2.2/\cX s.1 s.2.2.1 (((dF b.pk.length i).take k).flatMap λl=>bR l b.pk.length))
   (λk s=>[(1,vi 0),(2,.slice none 0 0),(3,.slice A3 qs.length c3),(4,vi i),(5,s.2.1),(6,vi k)]) (λ_ _=>[(1,b.cs)]) (H2,.slice none 0 0,[],none) ⟨.refl _,.refl _,.nil _ _ _,.nil _⟩ V V ?_
  rintro k ⟨G,v5,ps,b5⟩ H3 hk ⟨g1,Z,o5,l5⟩;simp only at g1 Z o5 l5;refine OJ (λh2=>?_) (λh2=>?_)
  ·have C:k<qs.length:=O;have D:k<(dF b.pk.length i).length:=O;obtain⟨sk,ck⟩:=R.at_ k C D;have vN:=lT (λl=>bR l b.pk.length) D;have F:=jU (n:=b.pk.length) ((dF b.pk.length i).take k);rw[qAj]at F;have F:(((dF b.pk.length i).take k).flatMap λl=>bR l b.pk.length).length<=96:=by refine qAz F (qAz (qBq (show min k _<=24 by omega) hn.2) (by decide))
   have CM:=lG.2 _ (bY D);generalize((dF b.pk.length i).take k).flatMap (λl=>bR l b.pk.length)=L at *;generalize(dF b.pk.length i)[k]=l at *;generalize qG:qs[k]=q at *;have N:=gH sk;obtain⟨qA,qn,qc⟩:=q;simp only at N ck;subst N;refine Y ?_;refine ZO (α:=Hp×Value×List bW×Option Nat) b.pk.length (λj s f=>aL H2 s.1/\aL s.1 f/\dD s.1 f 26 s.2.1 s.2.2.1 s.2.2.2/\cX s.1 s.2.2.1 (L++bR l j))
    (λj s=>[(1,vi 0),(2,.slice none 0 0),(3,.slice A3 qs.length c3),(4,vi i),(5,s.2.1),(6,vi k),(7,vi j)]) (λ_ _=>[(1,b.cs)]) (G,v5,ps,b5) ⟨g1,Z,o5,by rw[bR,qCC,qCp,qAf];exact l5⟩ V V ?_
   rintro j ⟨G2,w5,I,W⟩ H4 hj ⟨J,K,o6,S⟩;simp only at J K o6 S;have mO:=S.len;rw[BY]at mO;have vI:=fG l j;refine OJ (λh3=>?_) (λh3=>?_)
   ·have g9:j<b.pk.length:=O;have t:=jT l j;have u:=J.trans K;have row:Enc.enc qs[k]=[.slice qA l.length qc]:=by rw[qG];rfl
    refine Y ?_;refine Zz k (s3.inc u) C λa ha=>?_;rw[row]at ha;refine Y ?_;refine Ya ha (Y ?_);refine Za [.slice qA l.length qc,vi j] (nV (sk.inc u) O) ?_;rintro v _ ⟨rfl,rfl⟩;by_cases g:(j:Int)∈l
    ·rw[decide_eq_true g];rw[iF g,qAf]at t;refine Y ?_;exact⟨(⟨j+1,O⟩,(G2,w5,I,W)),bN O,⟨J,K,o6,by rw[t];exact S⟩,V,V,rfl⟩
    rw[qAo g];rw[aT g]at t;refine Y ?_;refine qZ (bI dW) (cD t3) (OL _) λr7 p=>Y ?_;refine Zz k ((s3.inc u).inc (Zs p)) C λa2 M=>?_;rw[row]at M;refine Y ?_;refine Ya M (Y ?_);refine mH (l:=l) (bI dW) (cD t3) rfl (by decide) p rfl ((sk.inc u).inc (Zs p)) (sG (λ_=>rfl) l) O O rfl rfl (OL _) λv8 H5 b8 i5 o8=>?_;have qD:aL H4 H5:=(Zs (o:=.cells #[] 3) p).trans i5;refine Y ?_;refine ZY (cs:=[vi (j:Int)]) (OL _) rfl λr9 Q=>Y ?_;refine U7 (l':=[(j:Int)]) (bI dW) (bI dW) (cD t3) rfl (by decide) (qD.trans (Zs Q)) (o8.ins Q) qY rfl (by simp;omega) O rfl rfl (OL _) λv9 H6 b9 k1 k2 k3=>?_;obtain⟨U,X,rfl,q9⟩:=jF k2;obtain⟨G',m1,m2,m3,m4⟩:=yR K o6 k1 k2;refine Y ?_;refine ZY (cs:=[.slice U (l++[(j:Int)]).length X]) (OL _) rfl λwL B=>Y ?_;refine U7 (l':=[((U,(l++[(j:Int)]).length,X):bW)]) (bI kU) (bI kU) (cD rO) rfl (by decide) (m2.trans (Zs B)) (m3.ins B) (Z0 (l:=[((U,(l++[(j:Int)]).length,X):bW)])) rfl (by simp;omega) O rfl rfl (OL _) λuY H7 vO n1 n2 n3=>Y ?_;exact⟨(⟨j+1,O⟩,(G',uY,I++[(U,(l++[(j:Int)]).length,X)],vO)),bN O,⟨J.trans m1,n1,n2,by rw[t,<-qAW];exact(S.inc m1).snoc m4 q9⟩,V,V,rfl⟩
   have:j=b.pk.length:=O;subst this;refine Y ?_;exact⟨(⟨k+1,O⟩,(G2,w5,I,W)),bN O,⟨J,K,o6,by rw[vN];exact S⟩,V,V,rfl⟩
  have:k=qs.length:=O;subst this;rw[tE,IF]at l5;obtain⟨A5,W,rfl,q5⟩:=jF o5;refine Y ?_;exact⟨(⟨i+1,O⟩,((A5,W),ps)),bN O,⟨(i2.trans g1).trans Z,o5.sl,l5.inc Z⟩,V,V,rfl⟩
 have:i=b.pk.length:=O;subst this;rw[iY hn]at R;refine Y ?_;exact⟨i2,A3,c3,qs,rfl,s3,R⟩
end
def lS{f:Nat->Int}{l:List Nat}{j:Nat}(h:j<l.length):el (l.map f) j=f l[j]:=by rw[el,ZD (by simpa using h),qAZ]
def dU{b:Sb}(h:ts≠[])(C:dE b ts≠[]):∃m∈dE b ts,Yu b ts=ZX b.pk.length m/\Yu b ts∈ZB b.pk.length/\bK b ts (Yu b ts)=true /\
  (∀k∈dE b ts,(cG b ts (Yu b ts)).hi<=(cG b ts (ZX b.pk.length k)).hi)/\∀k∈dE b ts,(cG b ts (ZX b.pk.length k)).hi=(cG b ts (Yu b ts)).hi->m<=k:=by
 have f:=uF (l:=O4 b ts) (by simpa[O4]using C);have t:(O4 b ts).length=(dE b ts).length:=by rw[O4,qAh]
 rw[t]at f;have e:Yu b ts=ZX b.pk.length (dE b ts)[Zo (O4 b ts)]:=by rw[Yu,ZD f]
 have g:(dE b ts)[Zo (O4 b ts)]∈dE b ts:=bY f;obtain⟨v,F,z⟩:=kK.1 g;have D:ZX b.pk.length (dE b ts)[Zo (O4 b ts)]∈ZB b.pk.length:=by rw[ZX,ZD (show(dE b ts)[Zo (O4 b ts)]-1<(ZB b.pk.length).length by omega)];exact bY _
 have o:∀j (n:j<(dE b ts).length),el (O4 b ts) j=(cG b ts (ZX b.pk.length (dE b ts)[j])).hi:=λj n=>by rw[O4,lS n]
 refine⟨_,g,e,by rw[e];exact D,by rw[e,<-iA h v];exact z,λk s=>?_,λk s B=>?_⟩
 ·obtain⟨j,n,rfl⟩:=qAk.1 s;have:=CV (l:=O4 b ts) (j:=j) O;rw[o j n,o _ f]at this;rw[e];exact this
 obtain⟨j,n,rfl⟩:=qAk.1 s;have G:=PU (l:=O4 b ts) (j:=j) O (by rw[o j n,o _ f,B,e]);by_cases u:Zo (O4 b ts)=j
 ·subst u;exact dO _
 exact qDB (qAY.1 (PV b ts) _ _ f n O)
def eR{b:Sb}(h:ts≠[]){p:List Int}(g:p∈ZB b.pk.length)(f:bK b ts p=true):∃m∈dE b ts,ZX b.pk.length m=p:=by
 have:p∈(dE b ts).map (ZX b.pk.length):=by rw[iZ h];exact qAC.2 ⟨g,f⟩
 exact qAB.1 this
def kX{b:Sb}(h:ts≠[])(j:dE b ts≠[]){p:List Int}(l:p∈ZB b.pk.length)(i:bK b ts p=true):(cG b ts (Yu b ts)).hi<=(cG b ts p).hi:=by obtain⟨m,f,e⟩:=eR h l i;obtain⟨_,_,_,_,_,g,_⟩:=dU h j;rw[<-e];exact g m f
def jR(b:Sb)(l:List Int):Int:=if Zi b=[]then 0 else(cG b (Zi b) l).lo
def jL(b:Sb)(l:List Int):Int:=if Zi b=[]then 0 else(cG b (Zi b) l).hi
def jW(b:Sb)(l:List Int):Int:=if Zi b=[]then 0 else fN (cG b (Zi b) l).good (Zi b).length
def fF(b:Sb):Nat:=if Zi b=[]then 0 else(dE b (Zi b)).length
def g0(b:Sb):List Int:=if fF b=0 then[]else Yu b (Zi b)
def bT(b:Sb):Int:=if fF b=0 then 0 else(cG b (Zi b) (Yu b (Zi b))).lo
def cH(b:Sb):Int:=if fF b=0 then 0 else(cG b (Zi b) (Yu b (Zi b))).hi
def fT{b:Sb}(x y:α):(if bS b=0 then x else y)=if Zi b=[]then y else x:=by
 by_cases h:Zi b=[]
 ·rw[aT (λe=>fU.1 e h),iF h]
 rw[iF (fU.2 h),aT h]
def eV{b:Sb}(ok:bA b){l:List Int}(e:dP b.pk.length l):Zl b (Yq b l)=bS b:=by rw[mJ e,eE ok]
def cZ{b:Sb}:fF b≠0↔Zi b≠[]/\dE b (Zi b)≠[]:=by
 unfold fF;split
 ·rename_i h;exact⟨λe=>absurd rfl e,λe=>absurd h e.1⟩
 rename_i h;exact⟨λe=>⟨h,λf=>e (by rw[f];rfl)⟩,λe f=>e.2 (qAt.1 f)⟩
section
variable{P:aX}[Tz P][Loud P]{H:Hp}{b:Sb}
def oC(ok:bA b)(hb:Zr H b)(f:Yk H):LL.Zc P 19 #[b.v] H λv e=>aL H e/\v=.tuple #[vi (Zi b).length,vi 0]:=
 LL.Zc.mono (IC hb ok.sz' f) λv e h=>by rw[iF (jO ok),jO ok]at h;exact h
def nU(ok:bA b){l:List Int}(g:dP b.pk.length l)(p:aF H (.slice A l.length c) l)(j:l.length<=c)(hb:Zr H b)(o:Yk H)(f:aC H ⟨1,0,none⟩ [vf 284]) :
  LL.Zc P 24 #[b.v,.slice A l.length c] H λv i=>aL H i/\v=.tuple #[.agg #[vi (jR b l),vi (jL b l)],vi (bS b)]:=
 LL.Zc.mono (KH hb ok.sz' o f p j (by have:=g.len;have:=ok.n;omega)) λv i h=>by
  have e:ON b l=(jR b l,jL b l):=by rw[ON,eV ok g,fT,jR,jL];split<;>rfl
  rw[e,eV ok g]at h;exact h
def nH(ok:bA b){l:List Int}(g:dP b.pk.length l)(o:aF H (.slice A l.length c) l)(i:l.length<=c)(hb:Zr H b)(j:Yk H)(e:aC H ⟨1,0,none⟩ [vf 284]) :
  LL.Zc P 28 #[b.v,.slice A l.length c] H λv f=>aL H f/\v=.tuple #[vi (jW b l),vi (bS b)]:=
 LL.Zc.mono (FR hb ok.sz' j e o i (by have:=g.len;have:=ok.n;omega)) λv f h=>by rw[xB,eV ok g,fT]at h;exact h
def nJ(hO:P=PP)(ok:bA b)(hb:Zr H b)(i:Yk H)(f:aC H ⟨1,0,none⟩ [vf 284]) :
  LL.Zc P 30 #[b.v] H λv g=>aL H g/\v=.tuple #[vi (fF b:Nat),vi (bS b)]:=
 LL.Zc.mono (KI hO hb ok.sz' i f) λv g h=>by
  rw[eE ok,fT]at h;have e:((fF b:Nat):Int)=if Zi b=[]then 0 else((dE b (Zi b)).length:Int):=by unfold fF;split<;>rfl
  rw[e];exact h
def nW(i:P=PP)(ok:bA b)(hb:Zr H b)(t:Yk H)(j:aC H ⟨1,0,none⟩ [vf 284]) :
  LL.Zc P 32 #[b.v] H λv g=>aL H g/\∃A c,v=.tuple #[.slice A (g0 b).length c,.agg #[vi (bT b),vi (cH b)],vb (decide (fF b≠0)),vi (bS b)]/\(g0 b).length<=c/\aF g (.slice A (g0 b).length c) (g0 b):=
 LL.Zc.mono (PS i hb ok.sz' t j) λv g h=>by
  have l:Zl b 0=0↔Zi b≠[]:=by rw[eE ok,fU]
  obtain⟨n,⟨f,rfl⟩ | ⟨f,o,A,c,p,s,rfl⟩⟩:=h
  ·have e:fF b=0:=qAd λe=>f ⟨l.2 (cZ.1 e).1,(cZ.1 e).2⟩;rw[g0,bT,cH,iF e,iF e,iF e,qAo O,eE ok];exact⟨n,none,0,rfl,dO _,.nil _⟩
  have e:fF b≠0:=cZ.2 ⟨l.1 f,o⟩;rw[g0,bT,cH,aT e,aT e,aT e,decide_eq_true e,eI (l.1 f)];exact⟨n,A,c,rfl,s,p⟩
end
def Uy(n:Nat):Bool:=(List.range (ZB n).length).all λj=>(List.range (j+1)).all λi=>!decide (VJ ((ZB n).getD j []) ((ZB n).getD i [])<0)
def nL:(Uy 1 && Uy 2 && Uy 3 && Uy 4)=true:=by decide +kernel
def nM{n:Nat}(l:1<=n/\n<=4){k m:Nat}(j:m<=k)(e:k-1<(ZB n).length):¬ VJ (ZX n k) (ZX n m)<0:=by
 have h:=nL;rw[qAc,qAc,qAc]at h;obtain⟨⟨⟨g,i⟩,a3⟩,a4⟩:=h;have key:Uy n=true:=by have:n=1\/n=2\/n=3\/n=4:=O;rcases this with rfl | rfl | rfl | rfl<;>assumption
 have f:=IN.1 (IN.1 key (k-1) (qAl.2 e)) (m-1) (qAl.2 O);rw[ZX,ZX];simpa using f
def kY{b:Sb}(ok:bA b)(h:Zi b≠[])(s:dE b (Zi b)≠[]){p:List Int}(t:p∈ZB b.pk.length)(o:bK b (Zi b) p=true)(l:(cG b (Zi b) p).hi=(cG b (Zi b) (Yu b (Zi b))).hi):¬ VJ p (Yu b (Zi b))<0:=by obtain⟨k,g,e⟩:=eR h t o;obtain⟨m,_,i,_,_,_,j⟩:=dU h s;have f:=j k g (by rw[e];exact l);obtain⟨u,v,_⟩:=kK.1 g;have:=nM ok.n f O;rw[e,<-i]at this;exact this
def kW(b:Sb)(k:Nat):Nat:=(((ZB b.pk.length).take k).filter (bK b (Zi b))).length
def mD{b:Sb}(h:k<(ZB b.pk.length).length):kW b (k+1)=kW b k+if bK b (Zi b) (ZB b.pk.length)[k]=true then 1 else 0:=by rw[kW,kW,iN h,qBS,BY];cases hq:bK b (Zi b) (ZB b.pk.length)[k]<;>simp[hq]
def mU{b:Sb}(h:Zi b≠[]):kW b (ZB b.pk.length).length=fF b:=by rw[kW,IF,fF,aT h,<-iZ h,qAh]
def mE{b:Sb}(h:Zi b≠[]){p:List Int}:jW b p=1↔bK b (Zi b) p=true:=by rw[jW,aT h,gB,gD h,bK,IN]
def mL{n:Nat}(e:1<=n/\n<=4):(ZB n).length<=24:=by rw[<-iY e];exact(iX e.2 (dO _)).1
section
variable{P:aX}[Tz P][Loud P]{H:Hp}
def kZ(s:P=PP){b:Sb}(hb:Zr H b)(hg:Yk H)(C:aC H ⟨1,0,none⟩ [vf 284]) :
  iC.m P (tJ P gG λv _=>v=vb true) (Vv [b.v]) H:=by
 unfold iC Sb.v;refine Y ?_;refine Za [b.v] (lL hb) ?_;rintro v _ ⟨rfl,g,rfl,yI⟩;cases g with
 | false=>
  refine Y ?_;refine Za [] (bB s hg C) ?_;rintro v H1 ⟨_,rfl⟩;refine Y ?_;rfl
 | true=>
 have ok:=yI rfl;have hn:=ok.n;refine Y ?_;refine Za [b.v] (nJ s ok hb hg C) ?_;rintro v H1 ⟨i1,rfl⟩;refine Y ?_;refine Za [b.v] (nW s ok (hb.inc i1) (aC.inc hg i1) (aC.inc C i1)) ?_;rintro v H2 ⟨j2,As,cs,rfl,t,S⟩;have i2:=i1.trans j2;refine Y ?_;refine Za [b.v] (oC ok (hb.inc i2) (aC.inc hg i2)) ?_;rintro v H3 ⟨j3,rfl⟩;have i3:=i2.trans j3;have zX:=hb.inc i3;have FL:Yk H3:=aC.inc hg i3;have J:=aC.inc C i3;have S:=S.inc j3;have h81:=UI ok;by_cases i:Zi b=[]
 ·have l:fF b=0:=iF i;rw[show bS b=9 from iF i,i,show g0 b=[]from iF l,l];refine Y ?_;refine fH rfl rfl (Y ?_);refine Za [] (bB s FL J) ?_;rintro v H4 ⟨_,rfl⟩;refine Y ?_;rfl
 have vJ:=qAX.2 i;rw[eI i];refine Y ?_;refine fH rfl rfl ?_;rw[decide_eq_true (show(0:Int)<((Zi b).length:Int)by omega)];refine Y ?_;refine fH rfl rfl ?_;rw[mG (show fF b≠0↔((fF b:Nat):Int) > 0 by omega)];refine Y ?_;refine Za [b.v] (nI hn) ?_;rintro _ H4 ⟨i4,A,c,qs,rfl,Z,Qz⟩;have Gk:=zX.inc i4;have hg4:Yk H4:=aC.inc FL i4;have BP:=aC.inc J i4;have Ea:=S.inc i4;have BG:=Qz.len;have vK:=mL hn;refine Y ?_;refine ZO (α:=Bool) qs.length (λk f H'=>aL H4 H'/\(f=true->fF b≠0)/\(fF b≠0->g0 b∈(ZB b.pk.length).take k->f=true))
  (λk f=>[(1,vi 0),(3,vi (fF b:Nat)),(5,.slice As (g0 b).length cs),(6,vi 0),(7,vb (decide (fF b≠0))),(11,.slice A qs.length c),(12,vi (kW b k:Nat)),(13,vb f),(14,vi k)])
  (λ_ _=>[(1,b.cs),(6,[vi (bT b),vi (cH b)])]) false ⟨.refl _,λh=>by simp at h,λ_ h=>by simp at h⟩ V V ?_
 rintro k f H5 hk ⟨i5,fn,fy⟩;have EA:=Gk.inc i5;have M:Yk H5:=aC.inc hg4 i5;have z:=aC.inc BP i5;have Dz:=Ea.inc i5;refine OJ (λh1=>?_) (λh1=>?_)
 ·have B:k<qs.length:=O;have D:k<(ZB b.pk.length).length:=O;obtain⟨s1,s2⟩:=Qz.at_ k B D;have s1:=s1.inc i5;have o:=bY D;obtain⟨qA,qn,qc,eq⟩:∃A n c,qs[k]=(A,n,c):=⟨_,_,_,rfl⟩;rw[eq]at s1 s2;have Ra:=gH s1;have row:Enc.enc qs[k]=[.slice qA qn qc]:=by rw[eq];rfl
  have t:=mD D;have uP:=iN D;have Sd:=mE (b:=b) (p:=(ZB b.pk.length)[k]) i;have R:=gO hn o;have hgI:=kO (cG b (Zi b) (ZB b.pk.length)[k]).good (Zi b).length;have hck:kW b k<=k:=by rw[kW];refine qAz (qBd _ _) ?_;rw[qAj];omega
  generalize(ZB b.pk.length)[k]=p at *;simp only at Ra s2;subst Ra;refine Y ?_;refine Zz k (Z.inc i5) B λa ha=>?_;rw[row]at ha;refine Y ?_;refine Ya ha (Y ?_);refine Za [b.v,.slice qA p.length qc] (nH ok R s1 s2 EA M z) ?_;rintro v H6 ⟨W,rfl⟩;rw[eI i];have U:=i5.trans W;refine OJ (λX=>?_) (λX=>?_)
  ·have N:bK b (Zi b) p=false:=by rw[qBR];exact λe=>absurd (Sd.2 e) (by simpa using X)
   rw[N,aT (by decide)]at t;refine Y ?_;refine⟨(⟨k+1,O⟩,f),bN O,⟨U,fn,λh j=>?_⟩,⟨rfl,rfl,rfl,rfl,rfl,rfl,by rw[t];rfl,rfl,rfl,trivial⟩,V,rfl⟩;rw[uP,qAi,oR]at j;rcases j with j | j
   ·exact fy h j
   obtain⟨_,_,_,_,g,_⟩:=dU i (cZ.1 h).2;rw[<-j,g0,aT h,g]at N;simp at N
  have G:bK b (Zi b) p=true:=Sd.1 (by simpa using X);rw[G,iF rfl]at t;have F:dE b (Zi b)≠[]:=by obtain⟨m,j,_⟩:=eR i o G;exact List.ne_nil_of_mem j
  have l:fF b≠0:=cZ.2 ⟨i,F⟩;have tD:=kX i F o G;have nF:=kY ok i F o G;have eL:jR b p=(cG b (Zi b) p).lo:=aT i;have eH:jL b p=(cG b (Zi b) p).hi:=aT i;have oL:g0 b=Yu b (Zi b):=aT l;have o1:bT b=(cG b (Zi b) (Yu b (Zi b))).lo:=aT l;have o2:cH b=(cG b (Zi b) (Yu b (Zi b))).hi:=aT l;rw[<-eH,<-o2]at tD;rw[<-eH,<-o2,<-oL]at nF;have K:(g0 b).length<=1000000:=by obtain⟨_,_,_,g,_⟩:=dU i F;have:=(gO hn g).len;rw[oL];omega
  have aHm:=R.len;have T:p=g0 b->jR b p=bT b/\jL b p=cH b:=λe=>by rw[eL,eH,o1,o2,e,oL];exact⟨rfl,rfl⟩
  refine Y ?_;refine Zz k (Z.inc U) B λa ha=>?_;rw[row]at ha;refine Y ?_;refine Ya ha (Y ?_);refine Za [b.v,.slice qA p.length qc] (nU ok R (s1.inc W) s2 (EA.inc W) (aC.inc M W) (aC.inc z W)) ?_;rintro v H7 ⟨i7,rfl⟩;refine Zp OL ?_;rw[eI i];have I:=U.trans i7;have L:=Dz.inc (W.trans i7);have Pa:=s1.inc (W.trans i7);generalize jR b p=x at *;generalize jL b p=y at *;generalize cH b=u at *;generalize bT b=w at *;refine OB ?_;refine Z2 (ι:=Unit) (λ_ H'=>H7=H') (λ_=>[(1,vi 0),(3,vi (fF b:Nat)),(5,.slice As (g0 b).length cs),(6,vi 0),(7,vb (decide (fF b≠0))),(11,.slice A qs.length c),(12,vi (kW b (k+1):Nat)),(13,vb f),(14,vi k),(17,vi 0)])
   (λ_=>[(1,b.cs),(6,[vi w,vi u]),(17,[vi x,vi y])]) ?_ ?_
  ·rw[t];refine OJ (λh3=>?_) (λh3=>?_)
   ·exact absurd h3 O
   refine OJ (λh4=>?_) (λh4=>?_)
   ·refine Y ?_;refine Zz k (Z.inc I) B λa ha=>?_;rw[row]at ha;refine Y ?_;refine Ya ha (Y ?_);refine Za [.slice qA p.length qc,.slice As (g0 b).length cs] (oB Pa L O K) ?_;rintro v _ ⟨rfl,rfl⟩;rw[qAo (nF h4)];refine Y ?_;exact⟨(),rfl,V,V,rfl⟩
   refine Y ?_;exact⟨(),rfl,V,V,rfl⟩
  rintro _ _ rfl;refine Y ?_;refine Zz k (Z.inc I) B λa ha=>?_;rw[row]at ha;refine Y ?_;refine Ya ha (Y ?_);refine Za [.slice qA p.length qc,.slice As (g0 b).length cs] (EI Pa L O K) ?_;rintro v _ ⟨rfl,rfl⟩;by_cases e:p=g0 b
  ·obtain⟨g1,g2⟩:=T e;rw[decide_eq_true e];refine Y ?_;refine KQ (b:=decide (x=w/\y=u)) (xs:=#[vi x,vi y]) (ys:=#[vi w,vi u]) EC (λQ g H Z=>zY (.inr zJ) Q Z) rfl rfl ?_;rw[decide_eq_true (show x=w/\y=u from⟨g1,g2⟩)];refine Y ?_;exact⟨(⟨k+1,O⟩,true),bN O,⟨I,λ_=>l,λ_ _=>rfl⟩,V,V,rfl⟩
  rw[qAo e];refine Y ?_;refine⟨(⟨k+1,O⟩,f),bN O,⟨I,fn,λh j=>?_⟩,V,V,rfl⟩;rw[uP,qAi,oR]at j;rcases j with j | j
  ·exact fy h j
  exact absurd j.symm e
 have:k=qs.length:=O;subst this;rw[BG,mU i];rw[BG,IF]at fy;have hf:f=decide (fF b≠0):=by
  by_cases h:fF b≠0
  ·rw[decide_eq_true h];refine fy h ?_;rw[g0,aT h];obtain⟨_,_,_,g,_⟩:=dU i (cZ.1 h).2;exact g
  rw[qAo h];cases f with
  | false=>rfl
  | true=>exact absurd (fn rfl) h
 subst hf;refine OJ (λX=>?_) (λX=>?_)
 ·refine Y ?_;refine lV rfl rfl ?_;rw[qCn];refine Y ?_;refine Za [] (bB s M z) ?_;rintro v H6 ⟨_,rfl⟩;refine Y ?_;rfl
 exact absurd rfl X
end
