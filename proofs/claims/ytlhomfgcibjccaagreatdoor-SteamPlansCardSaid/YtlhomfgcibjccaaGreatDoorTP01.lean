import Derived.Test.YtlhomfgcibjccaaGreatDoorTP00
set_option linter.all false
set_option maxHeartbeats 8000000
set_option maxRecDepth 20000
section
open Go Go.LL Go.Conc Go.ConcM
namespace Go.Proofs.YtlhomfgcibjccaaGreatDoor
def rI:Tryz.pinned.checked.prog.funcNamed Rows.steamPlansRow.func=some 4:=U
def sH:(Rows.steamPlansRow.inPlace == Tryz.pinned.checked.prog.inPlace 4)=true:=U
def rD:(Rows.steamPlansRow.unfollowed == Tryz.pinned.checked.prog.unfollowed 4)=true:=U
def sI:(Rows.steamPlansRow.recurses == Tryz.pinned.checked.prog.recurses 4)=true:=U
def sJ:(Rows.steamPlansRow.named == Tryz.pinned.checked.prog.varsNamed 4)=true:=U
def sV:joinedFacts Tryz.pinned.checked.prog 4 Tryz.f4 Rows.steamPlansSpec Rows.steamPlansRow=true:=by unfold joinedFacts;exact aE (aE (aE (aE (aE (aE (aE (aE (aE (aE (aE (aE (aE (aE (aE (aE (aE (aE (aE (aE (aE (aE (aE (aE (aE (aE (aE (aE (aE (aE (aE U z4) gV) U) U) U) U) U) U) sH) rD) sI) sJ) U) U) U) U) U) U) U) U) U) U) U) fX) fY) U) U) U) U) U) U
def sK:Tryz.f4.isInstance Tryz.pinned.checked.prog Rows.steamPlansRow.origin Rows.steamPlansRow.targs:=of_decide_eq_true U
def sL:Tryz.f4.isWrapper Tryz.pinned.checked.prog Rows.steamPlansRow.wrapper Rows.steamPlansRow.mainSum:=by unfold Func.isWrapper;first | (rw[iF (by decide +kernel)];kernel_rfl) | (rw[aT (by decide +kernel)];exact⟨rfl,rfl⟩)
end Go.Proofs.YtlhomfgcibjccaaGreatDoor
end
section
open Go Go.LL
namespace Go.Proofs
section
variable{l:List Int}{n:Int}{j:Nat}
theorem fU:(l++[n]).getD j 0=if j<l.length then l.getD j 0 else if j=l.length then n else 0:=by
 simp only[qAa];by_cases h:j<l.length
 ·rw[iF h,qBf h]
 rw[aT h,qBP O];by_cases c:j=l.length
 ·subst c;simp
 rw[aT c,qAn (by simp;omega)];rfl
def pH{i:Nat}(h:j<i):(l.take i).getD j 0=l.getD j 0:=by simp only[qAa,qDJ h]
def rG{α:Type}{p:α->Prop}{l:List α}(f:j<l.length)(h:∀x∈l.take j,p x)(e:p l[j]):∀x∈l.take (j+1),p x:=by
 intro x c;rw[iN f]at c;rcases qAi.1 c with c | c
 ·exact h x c
 rw[oR.1 c];exact e
section
variable{P:aX}[Tz P][Loud P]{H:Hp}
def RP{lv:Value}(i:aF H lv l)(p:l.length<=1000000):LL.Zc P 40 #[lv,vi n] H λv e=>H=e/\v=vb (decide (n∈l)):=by
 refine aJ.m (bG sE) (args:=[lv,vi n]) rfl ?_;unfold l8;refine Y ?_;refine Zv l.length (λj e=>H=e/\∀x∈l.take j,x≠n) (λj=>[(0,lv),(1,vi n),(5,vi j)]) (λ_=>[]) ⟨rfl,by simp⟩ V trivial ?_;rintro j _ r ⟨rfl,g⟩;refine Y ?_;refine YE i rfl ?_;refine OJ (λk=>?_) (λk=>?_)
 ·have c:j<l.length:=O;refine Y ?_;refine Zz j i c λa o=>Y ?_;refine Ya o ?_;refine OJ (λf=>?_) (λf=>?_)
  ·refine Y ?_;exact⟨rfl,by rw[decide_eq_true (show n∈l by rw[<-f];exact bY c)];rfl⟩
  refine Y ?_;exact dM (I:=λj e=>H=e/\∀x∈l.take j,x≠n) (env:=λj=>[(0,lv),(1,vi n),(5,vi j)]) (box:=λ_=>[]) c ⟨rfl,rG c g f⟩ V trivial rfl
 have:j=l.length:=O;subst this;rw[IF]at g;refine Y ?_;exact⟨rfl,by rw[qAo (show ¬ n∈l from λh=>g n h rfl)];rfl⟩
end
end
end Go.Proofs
end
section
open Go Go.LL
namespace Go.LL
section
variable{sT E:TypeId}{bV dI m:Nat}{zv w:Value}{xs:List Value}{a:Addr}
section
variable{P:aX}{H:Hp}{d:Option Nat}{next:aM->Hp->Prop}{σ:aM}{x y:Operand}
def R1{T:TypeId}(Y:P.toProgram.underlying sT=some (.slice E))(ti:TI P.toProgram E bV zv dI)(Z:zv.cells.size=bV)(he:0<bV)
  (R:(m=0/\∃A c,w=.slice A 0 c)\/∃a c,w=.slice (some a) m c/\aC H a xs) (G:xs.length=m * bV) (M:(xs.all Value.cJ)=true) (U:m<=1000000000) (I:dI<=1000) (o:P.still H.gh=false)
  {K:Value->Hp->Prop} (k0:m=0->K (.slice (some a) 0 0) H) (k1:∀r p rest,H r=none->m<=p->(xs++rest).length=p * bV->K (.slice (some ⟨r,0,none⟩) m p) (H.ins r (.cells (xs++rest).toArray E))):bL P.toPQ (Builtin.append_ #[sT,sT] T #[.slice (some a) 0 0,w]) (λv _ S=>K v S) false H:=by
 obtain⟨CK,F,i2,i3,L⟩:=ti.ex;have C:∀Q g,Q m g H->bL P.toPQ (Builtin.lenOf w) Q g H:=by intro Q g k;rcases R with⟨rfl,A,c,rfl⟩ | ⟨a,c,rfl,_⟩<;>simpa[Builtin.lenOf,Zj]using k
 have f:∀(Q:Array Value->Bool->Hp->Prop) g,Q xs.toArray g H->bL P.toPQ (Builtin.firstCells bV m w) Q g H:=by
  intro Q g k;rcases R with⟨rfl,A,c,rfl⟩ | ⟨a,c,rfl,V⟩
  ·have:xs=[]:=qAb (by simpa using G);subst this;cases A<;>simpa[Builtin.firstCells,Zj,loadCells,loadCellsFrom]using k
  simp only[Builtin.firstCells];exact yS o V k G
 have D:∀(Q:Array Value->Bool->Hp->Prop) g,Q #[] g H->bL P.toPQ (Builtin.firstCells bV 0 (.slice (some a) 0 0)) Q g H:=by intro Q g k;simpa[Builtin.firstCells,Zj,loadCells,loadCellsFrom]using k
 simp only[Builtin.append_,qAH,qAV,qAT,Zg,Zw Y,Z4 F,i2,Zj,DO,qAw];refine C _ _ ?_;simp only[qBU,qBp];by_cases B:0+m<=0
 ·rw[iF B];have W:m=0:=O;subst W;have J:xs=[]:=qAb (by simpa using G);subst J;simp only[Zg,Zj];refine f _ _ ?_;simpa[storeCells,Zj]using k0 rfl
 rw[aT B];simp only[Zg,O1 F,L];rw[aT (by rintro⟨h,_⟩;simp[IntKind.max,IntKind.bits,IntKind.signed]at h;omega)];simp only[Zg,Zj,O1 F,L];have u:¬ Builtin.nextslicecap (0+m) 0 * dI > 2 ^ 48:=by have M:=B7 (need:=0+m) (old:=0) O;have h2:Builtin.nextslicecap (0+m) 0 * dI<=(2 * (0+m)+200) * 1000:=qBq M I;omega
 rw[aT u];simp only[Zg,Zj,choose];rw[bL];simp only[Question.forced,DO,qAw];refine⟨o,λt=>?_⟩;have z:0+m<=(Question.appendCap (0+m) 0 E).cut t:=by simp only[Question.cut];omega
 generalize(Question.appendCap (0+m) 0 E).cut t=p at z;rw[bL];have s:∀(Q:Unit->Bool->Hp->Prop),Q () false H->bL P.toPQ (askRoom (p * dI)) Q false H:=by
  intro Q k;unfold askRoom;split
  ·exact⟨.inr ⟨rfl,o⟩,k⟩
  exact k
 rw[O1 F,L];refine s _ ?_;refine D _ _ ?_;refine f _ _ ?_;simp only[UC F i3,newRow,Zg,newObj,Zj];refine⟨o,λr X=>?_⟩;have N:=k1 r p (Builtin.zeroCells zv.cells (p-(0+m))).toList X O (by simp only[BY,G,qBy,B8,Z];rw[<-qCi];congr 1;omega);have e:(#[]++xs.toArray++Builtin.zeroCells zv.cells (p-(0+m)))=(xs++(Builtin.zeroCells zv.cells (p-(0+m))).toList).toArray:=by simp
 rw[qAE]at e N;rw[qAE,e];exact N
def lT{T:TypeId}(v:P.toProgram.underlying sT=some (.slice E))(C:TI P.toProgram E bV zv dI)(B:zv.cells.size=bV)(p:0<bV)(i:σ.get x=some (.slice (some a) 0 0))(k:σ.get y=some w)
  (z:(m=0/\∃A c,w=.slice A 0 c)\/∃a c,w=.slice (some a) m c/\aC H a xs) (u:xs.length=m * bV) (o:(xs.all Value.cJ)=true) (e:m<=1000000000) (f:dI<=1000) (g:P.still H.gh=false)
  (k0:m=0->next (σ.set d (.slice (some a) 0 0)) H) (k1:∀r h rest,H r=none->m<=h->(xs++rest).length=h * bV->next (σ.set d (.slice (some ⟨r,0,none⟩) m h)) (H.ins r (.cells (xs++rest).toArray E))):(bE.raw (.call { callee:=.builtin .append,args:=#[x,y],argTypes:=#[sT,sT] }) T).m P d next σ H:=by
 refine YS (s:=Builtin.append_ #[sT,sT] T #[.slice (some a) 0 0,w]) (by simp[Op.operands,Call.operands,i,k]) (by simp[execOp,aR,resolve,invoke,builtin,i,k]) ?_;exact R1 (T:=T) v C B p z u o e f g k0 k1
end
end
end Go.LL
end
open Go Go.LL
namespace Go.Proofs
def lU{α:Type}[Enc α]{f H:Hp}{r c:Nat}{E:TypeId}{l:List α}{rest:List Value}(i:aL f H)(k:H r=none)(g:l.length<=c)(h:(Zb l++rest).length=c * Enc.sz α):dD f (H.ins r (.cells (Zb l++rest).toArray E)) E (.slice (some ⟨r,0,none⟩) l.length c) l (some r):=
 ⟨⟨VH l,.inr ⟨r,c,rest,rfl,rfl,Hp.aG _ _ _,h,g⟩⟩,λo e=>by obtain rfl:=iO e;exact YL i k⟩
section
variable{P:aX}[Tz P]{H:Hp}{d:Option Nat}{next:aM->Hp->Prop}{σ:aM}{x y:Operand}
def mW{α:Type}[Enc α]{o:Hp}{r:Nat}{sT E T:TypeId}{dI:Nat}{zv w:Value}{l:List α}(I:P.toProgram.underlying sT=some (.slice E))(K:TI P.toProgram E (Enc.sz α) zv dI)(J:zv.cells.size=Enc.sz α)(D:0<Enc.sz α)
  (G:o r=none) (C:H=o.ins r (.cells #[] E)) (U:aF H w l) (Q:((Zb l).all Value.cJ)=true) (s:l.length<=1000000000) (i:dI<=1000) (z:σ.get x=some (.slice (some ⟨r,0,none⟩) 0 0)) (B:σ.get y=some w) (k:P.still H.gh=false)
  (h:∀L p M,aL H p->dD o p E L l M->next (σ.set d L) p):(bE.raw (.call { callee:=.builtin .append,args:=#[x,y],argTypes:=#[sT,sT] }) T).m P d next σ H:=by
 have F:aL o H:=by rw[C];exact Zs G
 obtain⟨A,c,rfl,R⟩:=U;by_cases u:l=[]
 ·subst u;refine lT I K J D z B (m:=0) (xs:=[]) (.inl ⟨rfl,A,c,rfl⟩) (by simp) rfl O i k (λ_=>?_) λv V rest e g f=>?_
  ·exact h _ _ (some r) (.refl _) (by rw[C];exact yU G)
  exact h _ _ (some v) (Zs e) (lU (l:=([]:List α)) F e g f)
 obtain⟨a,rfl,S⟩:=R u;refine lT I K J D z B (m:=l.length) (xs:=Zb l) (.inr ⟨a,c,rfl,S⟩) (VH l) Q s i k (λN=>absurd (qAb N) u) λv V rest e g f=>?_;exact h _ _ (some v) (Zs e) (lU F e g f)
end
variable{α:Type}{qs:List bW}{ls:List (List Int)}{q:bW}{x y:Int}{ts:List N4}{key:Int->Int}{nd:Int->Bool}
theorem B4.aZ(n:B4){j:Nat}(z:Bool)(i:Nat)(c:i<4)(e:j<4):(n.put j z).get i=if i=j then z else n.get i:=by
 match i,j,c,e with
 | 0,0,_,_=>rfl
 | 0,1,_,_=>rfl
 | 0,2,_,_=>rfl
 | 0,3,_,_=>rfl
 | 1,0,_,_=>rfl
 | 1,1,_,_=>rfl
 | 1,2,_,_=>rfl
 | 1,3,_,_=>rfl
 | 2,0,_,_=>rfl
 | 2,1,_,_=>rfl
 | 2,2,_,_=>rfl
 | 2,3,_,_=>rfl
 | 3,0,_,_=>rfl
 | 3,1,_,_=>rfl
 | 3,2,_,_=>rfl
 | 3,3,_,_=>rfl
def gH(b:Sb)(t:N4):Nat->N4
 | 0=>t
 | j+1=>(gH b t j).put j (min (max (t.get j) (aD b j).lo) (aD b j).hi)
def eR(b:Sb)(l:List Int):Bool:=uW (gH b (Ys l) b.pk.length) (Ys l) && cB b (Ys l)
def bR(l:List Int)(j:Nat):List (List Int):=(List.range j).flatMap λ(i:Nat)=>if(i:Int)∈l then[]else[l++[(i:Int)]]
def dF(n:Nat):Nat->List (List Int)
 | 0=>[[]]
 | i+1=>(dF n i).flatMap λl=>bR l n
theorem pS(l:List Int)(j:Nat):bR l (j+1)=bR l j++if(j:Int)∈l then[]else[l++[(j:Int)]]:=by rw[bR,qBs,qBb,qAQ];rfl
def pV{β:Type}(f:α->List β){l:List α}{k:Nat}(h:k<l.length):(l.take (k+1)).flatMap f=(l.take k).flatMap f++f l[k]:=by rw[iN h,qBb,qAQ]
def ER:dF 1 1=ZB 1/\dF 2 2=ZB 2/\dF 3 3=ZB 3/\dF 4 4=ZB 4:=by decide +kernel
def pO{n:Nat}(h:1<=n/\n<=4):dF n n=ZB n:=by
 obtain⟨c,e,f,g⟩:=ER;have:n=1\/n=2\/n=3\/n=4:=O;rcases this with rfl | rfl | rfl | rfl
 ·exact c
 ·exact e
 ·exact f
 exact g
def ES:((List.range 5).all λn=>(List.range (n+1)).all λi=>decide ((dF n i).length<=24) && (dF n i).all λl=>decide (l.length<=4))=true:=by decide +kernel
def pY{n i:Nat}(f:n<=4)(e:i<=n):(dF n i).length<=24/\∀l∈dF n i,l.length<=4:=by have h:=IN.1 (IN.1 ES n (qAl.2 O)) i (qAl.2 O);rw[qAc,qAy,IN]at h;exact⟨h.1,λl c=>of_decide_eq_true (h.2 l c)⟩
def kT(l:List Int):∀j,(bR l j).length<=j
 | 0=>dO _
 | j+1=>by rw[pS,BY];have:=kT l j;split<;>simp<;>omega
def pG{n:Nat}:∀(L:List (List Int)),(L.flatMap λl=>bR l n).length<=L.length * n
 | []=>by simp
 | l :: L=>by rw[qAM,BY,qAs,qBY];have:=pG (n:=n) L;have:=kT l n;omega
structure cX(H:Hp)(qs:List bW)(ls:List (List Int)):Prop where
 len:qs.length=ls.length
 at_:∀i (h:i<qs.length) (h':i<ls.length),aF H (dN qs[i]) ls[i]/\qs[i].2.1<=qs[i].2.2
def cX.nil(H:Hp):cX H [] []:=⟨rfl,λi h=>by simp at h⟩
def cX.inc{H H':Hp}(h:cX H qs ls)(c:aL H H'):cX H' qs ls:=⟨h.len,λi a b=>⟨((h.at_ i a b).1).inc c,(h.at_ i a b).2⟩⟩
def cX.snoc{H:Hp}{l:List Int}(h:cX H qs ls)(g:aF H (dN q) l)(f:q.2.1<=q.2.2):cX H (qs++[q]) (ls++[l]):=by
 refine⟨by simp[h.len],λi a b=>?_⟩;have:=h.len;by_cases c:i<qs.length
 ·rw[qAp c,qAp O];exact h.at_ i c O
 simp only[BY,qAA]at a;have e:i=qs.length:=O;subst e;rw[qAr (dO _),qAr O];simp[this];exact⟨g,f⟩
def iA{H:Hp}{l:List Int}(h:aF H (dN q) l):q.2.1=l.length:=by obtain⟨_,_,e,_⟩:=h;simp only[Value.slice.injEq]at e;exact e.2.1
def fG(x y:N4):Prop:=∃i,i<4/\x.get i<y.get i/\∀j,j<i->x.get j=y.get j
def fG.fM{x y:N4}(h:fG x y)(c:fG y x):False:=by
 obtain⟨i,p,k,f⟩:=h;obtain⟨j,r,o,g⟩:=c;rcases qDi i j with e | e | e
 ·have:=g i e;omega
 ·subst e;omega
 have:=f j e;omega
def EQ{l c:List N4}(f:l.Pairwise fG)(g:c.Pairwise fG)(h:∀x,x∈l↔x∈c):l=c:=by have p:l.Perm c:=(qCh (f.imp λh e=>by subst e;exact h.fM h) (g.imp λh e=>by subst e;exact h.fM h)).2 h;exact p.eq_of_pairwise (le:=fG) (λa b _ _ x y=>(x.fM y).elim) f g
def kF{α:Type}{f:Int->List α}{g:Int}{x:α}:∀{c:Nat},x∈gT f g c↔∃v,g-c<v/\v<=g/\x∈f v
 | 0=>by
  rw[gT];constructor
  ·intro h;simp at h
  rintro⟨v,o,i,_⟩;omega
 | c+1=>by
  rw[gT,qAi,kF];constructor
  ·rintro(h | ⟨v,o,i,k⟩)
   ·exact⟨g-c,O,O,h⟩
   exact⟨v,O,i,k⟩
  rintro⟨v,o,i,k⟩;by_cases e:v=g-c
  ·subst e;exact .inl k
  exact .inr ⟨v,O,i,k⟩
def mJ{α:Type}{R:α->α->Prop}{f:Int->List α}{h:Int}(e:∀v,(f v).Pairwise R)(g:∀v w,v<w->∀x∈f v,∀y∈f w,R x y):∀c,(gT f h c).Pairwise R
 | 0=>by rw[gT];exact .nil
 | c+1=>by rw[gT,qBn];refine⟨e _,mJ e g c,λx i y k=>?_⟩;obtain⟨w,p,r,o⟩:=kF.1 k;exact g _ w O x i y o
def gR{b:Sb}:∀{r:Nat} {m x:N4},r<=b.pk.length->b.pk.length<=4->(x∈bX b r m↔(∀j,j<4->(j<b.pk.length-r\/b.pk.length<=j)->x.get j=m.get j)/\(∀j,b.pk.length-r<=j->j<b.pk.length->(aD b j).lo<=x.get j/\x.get j<=(aD b j).hi)/\cB b x=true)
 | 0,m,x,_,_=>by
  rw[bX];constructor
  ·intro h;split at h
   ·obtain rfl:=oR.1 h;exact⟨λ_ _ _=>rfl,λj o s=>O,by assumption⟩
   simp at h
  rintro⟨o,_,u⟩;have:x=m:=N4.ext' λj c=>o j c O;subst this;rw[iF u];simp
 | r+1,m,x,F,B=>by
  rw[bX,kF];obtain⟨i,A⟩:∃i,b.pk.length-(r+1)=i:=⟨_,rfl⟩;rw[A];constructor
  ·rintro⟨v,o,s,u⟩;obtain⟨g,k,p⟩:=(gR O B).1 u;refine⟨λj c C=>?_,λj D z=>?_,p⟩
   ·rw[g j c O,N4.aZ _ _ c,aT O]
   by_cases e:j=i
   ·subst e;have:=g j O O;rw[N4.aZ _ _ O,iF rfl]at this;omega
   exact k j O z
  rintro⟨g,k,p⟩;have:=k i O O;refine⟨x.get i,O,O,(gR O B).2 ⟨λj c C=>?_,λj o s=>k j O s,p⟩⟩;rw[N4.aZ _ _ c];split
  ·rename_i e;rw[e]
  exact g j c O
def lW{b:Sb}:∀{r:Nat} {m:N4},r<=b.pk.length->b.pk.length<=4->(bX b r m).Pairwise fG
 | 0,m,_,_=>by rw[bX];split<;>simp
 | r+1,m,u,c=>by
  rw[bX];obtain⟨i,k⟩:∃i,b.pk.length-(r+1)=i:=⟨_,rfl⟩;rw[k];refine mJ (λv=>lW O c) (λv w e x o y p=>?_) _;have g:=((gR O c).1 o).1;have f:=((gR O c).1 p).1;refine⟨i,O,?_,λj s=>?_⟩
  ·rw[g i O O,f i O O,N4.aZ _ _ O,N4.aZ _ _ O,iF rfl,iF rfl];exact e
  rw[g j O O,f j O O,N4.aZ _ _ O,N4.aZ _ _ O,aT O,aT O]
theorem lL(j:Nat)(c:j<4):(⟨0,0,0,0⟩:N4).get j=0:=by
 match j,c with
 | 0,_=>rfl
 | 1,_=>rfl
 | 2,_=>rfl
 | 3,_=>rfl
def RQ(b:Sb)(x:N4):Prop:=(∀j,j<b.pk.length->(aD b j).lo<=x.get j/\x.get j<=(aD b j).hi)/\∀j,j<4->b.pk.length<=j->x.get j=0
def hZ{b:Sb}(i:b.pk.length<=4){x:N4}:x∈Zi b↔RQ b x/\cB b x=true:=by
 rw[Zi,gR (dO _) i,qCv];constructor
 ·rintro⟨e,f,g⟩;exact⟨⟨λj c=>f j (qAI _) c,λj c h=>by rw[e j c (.inr h),lL j c]⟩,g⟩
 rintro⟨⟨e,f⟩,g⟩;exact⟨λj c h=>by rw[f j c O,lL j c],λj _ c=>e j c,g⟩
def uJ{b:Sb}(c:b.pk.length<=4):(Zi b).Pairwise fG:=lW (dO _) c
def gd(b:Sb)(l:List Int)(t:N4):Bool:=nT b (Yg b t l)
def pW{b:Sb}{l:List Int}:∀(ts:List N4) (s:Td),(ts.foldl (V2 b l) s).good=s.good+((ts.filter (gd b l)).length:Nat)
 | [],s=>by simp
 | t :: ts,s=>by
  rw[qBa,pW ts];show(if gd b l t=true then s.good+1 else s.good)+_=_;rw[qAN];by_cases h:gd b l t=true
  ·rw[iF h,iF h,qAs];omega
  rw[aT h,aT h]
def jU(b:Sb)(ts:List N4)(l:List Int):(cG b ts l).good=((ts.filter (gd b l)).length:Nat):=by rw[cG,pW];show(0:Int)+_=_;omega
def JN{p:α->Bool}{l:List α}:(l.filter p).length=l.length↔∀x∈l,p x=true:=by rw[qBA]
def lK{p:α->Bool}{l:List α}(h:l≠[]):fN ((l.filter p).length:Nat) (l.length:Nat)=1↔∀x∈l,p x=true:=by
 rw[<-JN];have:=qAX.2 h;unfold fN;split
 ·omega
 split
 ·omega
 omega
def eV(b:Sb)(ts:List N4)(p:List Int):Bool:=ts.all (gd b p)
def lS{b:Sb}{m:Nat}(h:ts≠[])(c:1<=m):UM b ts m=eV b ts (ZX b.pk.length m):=by rw[qBT,UM,qAc,qAy,qAy,jU,lK h,eV,IN];exact⟨λh=>h.2,λh=>⟨c,h⟩⟩
def jG{b:Sb}{ts:List N4}(h:ts≠[]):(dE b ts).map (ZX b.pk.length)=(ZB b.pk.length).filter (eV b ts):=by
 have e:ZB b.pk.length=((List.range (ZB b.pk.length).length).map (·+1)).map (ZX b.pk.length):=by refine qBl (by simp) λi f o=>?_;simp only[qAZ,qCl,ZX,qAU];exact(ZD f _).symm
 conv=>rhs;rw[e]
 rw[qDy,dE];congr 1;refine qBW λm g=>?_;obtain⟨k,_,rfl⟩:=qAB.1 g;exact lS h O
def oG(l:List Int)(y x:Int):Prop:=∃a c,l=a++y :: c/\x∈c
def oG.app{l:List Int}(h:oG l y x)(z:Int):oG (l++[z]) y x:=by obtain⟨a,c,rfl,h⟩:=h;exact⟨a,c++[z],by simp,by simp[h]⟩
def R4{l:List Int}(h:y∈l)(x:Int):oG (l++[x]) y x:=by obtain⟨a,c,rfl⟩:=qCy h;exact⟨a,c++[x],by simp,by simp⟩
def Kb(key:Int->Int)(l:List Int)(y x:Int):Prop:=key y<key x\/(key y=key x/\oG l y x)
theorem Kb.app{l:List Int}(h:Kb key l y x)(z:Int):Kb key (l++[z]) y x:=h.imp id λh=>⟨h.1,h.2.app z⟩
def Kb.le{l:List Int}(h:Kb key l y x):key y<=key x:=by
 rcases h with h | h
 ·omega
 omega
def pX{key:Int->Int}{x:Int}{l:List Int}:∀{A:List Int},(∀y∈A,y∈l)->A.Pairwise (λu v=>Kb key (l++[x]) v u)->(Ud key x A).Pairwise (λu v=>Kb key (l++[x]) v u)
 | [],_,_=>by rw[Ud];exact qAS _ _
 | y :: r,g,h=>by
  obtain⟨f,k⟩:=qAJ.1 h;rw[Ud];split
  ·rename_i i;refine qAJ.2 ⟨λv c=>?_,pX (λz p=>g z (by simp[p])) k⟩;rcases qAq.1 ((KP key x r).mem_iff.1 c)with e | e
   ·exact .inl (by rw[e];exact i)
   exact f v e
  rename_i i;refine qAJ.2 ⟨λv c=>?_,h⟩;have o:key v<=key y:=by
   rcases qAq.1 c with e | e
   ·rw[e];exact qAx _
   exact(f v e).le
  by_cases e:key v<key x
  ·exact .inl e
  exact .inr ⟨O,R4 (g v c) x⟩
def lJ(key:Int->Int)(l:List Int):∀j,j<=l.length->(VO key (l.take j)).Pairwise λu v=>Kb key (l.take j) v u
 | 0,_=>by simp[VO]
 | j+1,e=>by have c:j<l.length:=e;rw[iN c,PX];exact pX (λy f=>(IG key _).mem_iff.1 f) ((lJ key l j O).imp λh=>h.app _)
def sR(key:Int->Int)(l:List Int):(gN key l).Pairwise (Kb key l):=by have h:=lJ key l l.length (dO _);rw[IF]at h;rw[gN,qDn];exact h
def cH(key:Int->Int)(nd:Int->Bool)(l:List Int):Nat->Int
 | 0=>-1
 | j+1=>if nd (el l j)=true/\(cH key nd l j<0\/key (el l j)<key (cH key nd l j))then el l j else cH key nd l j
def yV{a c:List Int}{m:Int}(u:∀z∈a++m :: c,0<=z)(D:nd m=true)(v:∀z∈a,nd z=true->key m<key z)(A:∀z∈c,nd z=true->key m<=key z) :
  cH key nd (a++m :: c) (a++m :: c).length=m:=by
 have o:∀j,j<a.length->el (a++m :: c) j∈a:=λj f=>by rw[el,ZD (by simp;omega),qAp f];exact bY f
 have r:el (a++m :: c) a.length=m:=by simp[el]
 have p:∀j,a.length<j->j<(a++m :: c).length->el (a++m :: c) j∈c:=λj f C=>by rw[el,ZD C,qAr O];obtain⟨k,B⟩:∃k,j-a.length=k+1:=⟨j-a.length-1,O⟩;simp only[B,List.getElem_cons_succ];exact bY _
 have k1:∀j,j<=a.length->cH key nd (a++m :: c) j=-1\/(cH key nd (a++m :: c) j∈a/\nd (cH key nd (a++m :: c) j)=true):=by
  intro j;induction j with
  | zero=>intro _;exact .inl rfl
  | succ j ih=>
   intro f;rw[cH];split
   ·rename_i h;exact .inr ⟨o j f,h.1⟩
   exact ih O
 have G:cH key nd (a++m :: c) (a.length+1)=m:=by
  rw[cH,r,iF];refine⟨D,?_⟩;rcases k1 a.length (dO _)with e | ⟨g,i⟩
  ·exact .inl (by rw[e];decide)
  exact .inr (v _ g i)
 have I:∀j,a.length+1+j<=(a++m :: c).length->cH key nd (a++m :: c) (a.length+1+j)=m:=by
  intro j;induction j with
  | zero=>intro _;exact G
  | succ j ih=>
   intro f;have F:0<=m:=u m (by simp);rw[show a.length+1+(j+1)=(a.length+1+j)+1 by omega,cH,ih O,aT];rintro⟨s,J⟩;have:=A _ (p (a.length+1+j) O O) s;omega
 have:=I c.length (by simp;omega);rwa [show a.length+1+c.length=(a++m :: c).length by simp;omega]at this
theorem yW{l:List Int}{n:Nat}(F:l.Nodup)(T:∀z∈l,0<=z)(W:n<l.length)(A:∀z∈l,nd z=true↔z ∉ (gN key l).take n) :
  cH key nd l l.length=el (gN key l) n:=by
 have B:=tI key l;have s:n<(gN key l).length:=by rw[B.length_eq];exact W
 have r:(gN key l).Nodup:=B.nodup_iff.2 F;have C:=sR key l;have K:gN key l=(gN key l).take n++(gN key l)[n] :: (gN key l).drop (n+1):=by conv=>lhs;rw[<-qCw n (gN key l),qCc s]
 rw[el,ZD s];generalize(gN key l)[n]=m at *;generalize(gN key l).take n=L at *;generalize(gN key l).drop (n+1)=Q at *;rw[K]at B r C;have v:m∈l:=B.mem_iff.1 (by simp);obtain⟨a,c,rfl⟩:=qCy v;have G:m ∉ L:=λh=>(qBV.1 r).2.2 m h m (by simp) rfl;have f:∀z∈a++m :: c,z≠m->nd z=true->Kb key (a++m :: c) m z:=λz k J h=>by
  have U:z ∉ L:=(A z k).1 h;have V:z∈Q:=by
   have:=B.mem_iff.2 k;simp only[qAi,qAq]at this;rcases this with h | h | h
   ·exact absurd h U
   ·exact absurd h J
   exact h
  exact(qAJ.1 (qBn.1 C).2.1).1 z V
 obtain⟨Y,X,O⟩:=qBV.1 F;have u:m ∉ a:=λh=>O m h m (by simp) rfl;have I:m ∉ c:=(qCO.1 X).1;refine yV T ((A m v).2 G) (λz k h=>?_) (λz k h=>(f z (by simp[k]) (by rintro rfl;exact I k) h).le);rcases f z (by simp[k]) (by rintro rfl;exact u k) h with g | ⟨_,M,N,e,g⟩
 ·exact g
 exfalso;have:a=M/\m :: c=m :: N:=by
  have D:m ∉ M:=λS=>by have p:=F;rw[e]at p;exact(qBV.1 p).2.2 m S m (by simp) rfl
  rcases qDG.1 e with⟨t,o,i⟩ | ⟨t,o,i⟩
  ·cases t with
   | nil=>simp at o i;exact⟨o.symm,by rw[i]⟩
   | cons y t=>
    simp only[qBG,qBM]at i;exact absurd (by rw[o,<-i.1];simp) D
  cases t with
  | nil=>simp at o i;exact⟨o,by rw[i]⟩
  | cons y t=>
   simp only[qBG,qBM]at i;exact absurd (by rw[o,<-i.1];simp) u
 have R:c=N:=by have:=this.2;injection this
 subst R;exact O z k z (by simp[g]) rfl
structure cZ(n:Nat)(l:List Int):Prop where
 len:l.length=n
 nd:l.Nodup
 rg:∀z∈l,0<=z/\z<n
def cZ.at_{n:Nat}{l:List Int}(h:cZ n l){j:Nat}(e:j<n):0<=el l j/\el l j<n:=by
 have c:j<l.length:=by rw[h.len];exact e
 rw[el,ZD c];exact h.rg _ (bY c)
def cZ.perm{n:Nat}{l c:List Int}(h:cZ n l)(p:c.Perm l):cZ n c:=⟨p.length_eq.trans h.len,p.nodup_iff.2 h.nd,λz e=>h.rg z (p.mem_iff.1 e)⟩
section
variable{b:Sb}{t:N4}{l:List Int}
def s1(b:Sb)(t:N4)(l:List Int)(j:Nat):List Wk×List Int:=(l.take j).foldl (iG t) (tA b)
theorem uG{j:Nat}(c:j<l.length):s1 b t l (j+1)=iG t (s1 b t l j) (el l j):=by rw[s1,Oe _ _ c,el,ZD c];rfl
theorem iJ(c:l.length=b.pk.length):s1 b t l b.pk.length=fA b t l:=by rw[s1,<-c,IF];rfl
def iI(ok:bA b)(f:Yp t)(c:cZ b.pk.length l){j:Nat}(e:j<=b.pk.length):WB b.pk.length b.pl.toNat (20 * j) (s1 b t l j):=z7 ok f c.rg j (by rw[c.len];exact e)
def s2(b:Sb)(t:N4)(l:List Int)(j:Nat):List Wk×List Int:=((Ul b t l).take j).foldl (fK b) ((fA b t l).1,List.replicate b.hd.toNat 0)
def fT(c:cZ b.pk.length l):cZ b.pk.length (Ul b t l):=c.perm (tI _ _)
theorem mI(f:cZ b.pk.length l){j:Nat}(e:j<b.pk.length):s2 b t l (j+1)=fK b (s2 b t l j) (el (Ul b t l) j):=by
 have c:j<(Ul b t l).length:=by rw[(fT f).len];exact e
 rw[s2,Oe _ _ c,el,ZD c];rfl
theorem uH(c:cZ b.pk.length l):(s2 b t l b.pk.length).1=VN b t l:=by have h:=(fT (t:=t) c).len;rw[s2,<-h,IF];rfl
def kP(ok:bA b)(r:Yp t)(c:cZ b.pk.length l)(p:Nat):∀{j:Nat},j<=b.pk.length ->
  (s2 b t l j).1.length=b.pk.length/\(s2 b t l j).2.length=b.hd.toNat/\(bM (s2 b t l j).1 p).i=(bM (fA b t l).1 p).i/\(bM (s2 b t l j).1 p).o=(bM (fA b t l).1 p).o
 | 0,_=>by have h:=iI ok r c (dO _);rw[iJ c.len]at h;exact⟨h.l1,qBj,rfl,rfl⟩
 | j+1,u=>by
  obtain⟨f,s,g,k⟩:=kP ok r c p (j:=j) O;have v:=(fT (t:=t) c).at_ (j:=j) O;rw[mI c O];refine⟨qAg.trans f,qAg.trans s,?_⟩;show(bM ((s2 b t l j).1.set _ _) p).i=_/\(bM ((s2 b t l j).1.set _ _) p).o=_;rw[mC _ _ (by rw[f];omega)];split
  ·rename_i e;subst e;exact⟨g,k⟩
  exact⟨g,k⟩
end
def lV{b:Sb}{w:List Wk}:∀{j:Nat},j<=4->∀{i:Nat},i<4->((U2 b w j).1.get i=true↔i<j/\(bM w i).o+(aD b i).bJ<(bM w i).d)
 | 0,_,i,c=>by
  have:(U2 b w 0).1.get i=false:=by
   match i,c with
   | 0,_=>rfl
   | 1,_=>rfl
   | 2,_=>rfl
   | 3,_=>rfl
  rw[this];exact⟨λh=>by simp at h,λh=>O⟩
 | j+1,f,i,c=>by
  have ih:=@lV b w j O i c;rw[U2];show((U2 b w j).1.put j _).get i=true↔_;rw[B4.aZ _ _ _ c O];split
  ·rename_i e;subst e;rw[qAy];exact⟨λh=>⟨O,h⟩,λh=>h.2⟩
  rw[ih];exact⟨λh=>⟨O,h.2⟩,λh=>⟨O,h.2⟩⟩
def qM{c:B4}{z:Int}:∀{j:Nat},z∈cS c j↔∃i:Nat,i<j/\z=i/\c.get i=true
 | 0=>by rw[cS];exact⟨λh=>by simp at h,λ⟨i,h,_⟩=>O⟩
 | j+1=>by
  rw[cS];have ih:=@qM c z j;split
  ·rename_i h;rw[qAi,ih,oR];constructor
   ·rintro(⟨i,k,f,g⟩ | k)
    ·exact⟨i,O,f,g⟩
    exact⟨j,O,k,h⟩
   rintro⟨i,k,f,g⟩;by_cases e:i=j
   ·subst e;exact .inr f
   exact .inl ⟨i,O,f,g⟩
  rename_i h;rw[ih];constructor
  ·rintro⟨i,k,f,g⟩;exact⟨i,O,f,g⟩
  rintro⟨i,k,f,g⟩;by_cases e:i=j
  ·subst e;exact absurd g h
  exact⟨i,O,f,g⟩
def pQ{b:Sb}{t:N4}{l:List Int}{z:Int}:z∈gM b t l↔∃i:Nat,i<4/\z=i/\(Yg b t l).1.get i=true:=qM
def qK{b:Sb}{t:N4}{l:List Int}:gM b t l=[]↔pM (Yg b t l).1=true:=by
 constructor
 ·intro h;have key:∀i,i<4->(Yg b t l).1.get i=false:=λi p=>by
   cases e:(Yg b t l).1.get i with
   | false=>rfl
   | true=>
    have:(i:Int)∈gM b t l:=pQ.2 ⟨i,p,rfl,e⟩;rw[h]at this;simp at this
  have f:(Yg b t l).1.a=false:=key 0 (by decide);have g:(Yg b t l).1.b=false:=key 1 (by decide);have k:(Yg b t l).1.c=false:=key 2 (by decide);have o:(Yg b t l).1.d=false:=key 3 (by decide);rw[pM,f,g,k,o];rfl
 intro h;refine qCF.2 λz r=>?_;obtain⟨i,p,_,e⟩:=pQ.1 r;simp only[pM,qAc,qBe]at h;obtain⟨⟨⟨f,g⟩,k⟩,o⟩:=h;match i,p with
 | 0,_=>exact absurd e (by show ¬ (Yg b t l).1.a=true;rw[f];decide)
 | 1,_=>exact absurd e (by show ¬ (Yg b t l).1.b=true;rw[g];decide)
 | 2,_=>exact absurd e (by show ¬ (Yg b t l).1.c=true;rw[k];decide)
 | 3,_=>exact absurd e (by show ¬ (Yg b t l).1.d=true;rw[o];decide)
def yX:(∀p∈ZB 1,p.Nodup)/\(∀p∈ZB 2,p.Nodup)/\(∀p∈ZB 3,p.Nodup)/\(∀p∈ZB 4,p.Nodup):=by decide +kernel
def kO{n:Nat}(o:1<=n/\n<=4){p:List Int}(c:p∈ZB n):cZ n p:=by
 obtain⟨i,k⟩:=CW c;refine⟨i,?_,k⟩;obtain⟨e,f,g,h⟩:=yX;have:n=1\/n=2\/n=3\/n=4:=O;rcases this with rfl | rfl | rfl | rfl
 ·exact e p c
 ·exact f p c
 ·exact g p c
 exact h p c
def bS(b:Sb):Int:=if Zi b=[]then 9 else 0
def mE{b:Sb}(ok:bA b):Zl b 0=bS b:=by
 rw[Zl,jO ok,aT (by decide),aT (by decide),bS];by_cases h:Zi b=[]
 ·rw[iF h,iF (by rw[h];rfl)]
 rw[aT h,aT (by rw[qAt];exact h)]
def R3{b:Sb}(h:Zi b≠[]):bS b=0:=aT h
def gD{b:Sb}(ok:bA b){i:Nat}(h:i<b.pk.length):(1<=(aD b i).lo/\(aD b i).lo<=(aD b i).hi/\(aD b i).hi<=20)/\(aD b i).hi-(aD b i).lo<3/\(1<=(aD b i).bF/\(aD b i).bF<=20)/\(1<=(aD b i).bJ/\(aD b i).bJ<=20):=by rw[aD,ZD h];exact ok.pk i h
section
variable{P:aX}[Tz P][Loud P]{H:Hp}
def RR{b:Sb}(hn:1<=b.pk.length/\b.pk.length<=4) :
  LL.Zc P 47 #[b.v] H λv f=>aL H f/\∃A c qs,v=.slice A qs.length c/\aF f v qs/\cX f qs (ZB b.pk.length):=by
 refine aJ.m (bG JS) (args:=[b.v]) rfl ?_;unfold nH Sb.v;refine Y ?_;refine ZY (cs:=Zb [((none,0,0):bW)]) (OL _) rfl λT qE=>?_;have s8:aF (H.ins T (.cells (Zb [((none,0,0):bW)]).toArray 26)) (.slice (some ⟨T,0,none⟩) 1 1) [((none,0,0):bW)]:=Z0 (l:=[((none,0,0):bW)]);have i8:aL H (H.ins T (.cells (Zb [((none,0,0):bW)]).toArray 26)):=Zs qE;generalize H.ins T (.cells (Zb [((none,0,0):bW)]).toArray 26)=H1 at *;refine Y ?_;refine ZO (α:=(Option Addr×Nat)×List bW) b.pk.length (λi s f=>aL H f/\aF f (.slice s.1.1 s.2.length s.1.2) s.2/\cX f s.2 (dF b.pk.length i))
  (λi s=>[(1,vi 0),(2,.slice none 0 0),(3,.slice s.1.1 s.2.length s.1.2),(4,vi i)]) (λ_ _=>[(1,b.cs)]) ((some ⟨T,0,none⟩,1),[(none,0,0)])
  ⟨i8,s8,rfl,λi h h'=>by(obtain rfl:i=0:=by simpa using h);exact⟨.nil _,dO _⟩⟩ V V ?_
 rintro i ⟨⟨A3,c3⟩,qs⟩ H2 hi ⟨i2,s3,R⟩;simp only at s3 R;have tE:=R.len;have lG:=pY hn.2 (show i<=b.pk.length by omega);refine OJ (λh1=>?_) (λh1=>?_)
 ·have yL:i<b.pk.length:=O;refine Y ?_;refine ZO (α:=Hp×Value×List bW×Option Nat) qs.length (λk s f=>aL H2 s.1/\aL s.1 f/\dD s.1 f 26 s.2.1 s.2.2.1 s.2.2.2/\cX s.1 s.2.2.1 (((dF b.pk.length i).take k).flatMap λl=>bR l b.pk.length))
   (λk s=>[(1,vi 0),(2,.slice none 0 0),(3,.slice A3 qs.length c3),(4,vi i),(5,s.2.1),(6,vi k)]) (λ_ _=>[(1,b.cs)]) (H2,.slice none 0 0,[],none) ⟨.refl _,.refl _,.nil _ _ _,.nil _⟩ V V ?_
  rintro k ⟨G,v5,ps,b5⟩ H3 hk ⟨g1,Z,o5,l5⟩;simp only at g1 Z o5 l5;refine OJ (λh2=>?_) (λh2=>?_)
  ·have C:k<qs.length:=O;have D:k<(dF b.pk.length i).length:=O;obtain⟨sk,ck⟩:=R.at_ k C D;have vN:=pV (λl=>bR l b.pk.length) D;have F:=pG (n:=b.pk.length) ((dF b.pk.length i).take k);rw[qAj]at F;have F:(((dF b.pk.length i).take k).flatMap λl=>bR l b.pk.length).length<=96:=by refine qAz F (qAz (qBq (show min k _<=24 by omega) hn.2) (by decide))
   have CM:=lG.2 _ (bY D);generalize((dF b.pk.length i).take k).flatMap (λl=>bR l b.pk.length)=L at *;generalize(dF b.pk.length i)[k]=l at *;generalize qG:qs[k]=q at *;have N:=iA sk;obtain⟨qA,qn,qc⟩:=q;simp only at N ck;subst N;refine Y ?_;refine ZO (α:=Hp×Value×List bW×Option Nat) b.pk.length (λj s f=>aL H2 s.1/\aL s.1 f/\dD s.1 f 26 s.2.1 s.2.2.1 s.2.2.2/\cX s.1 s.2.2.1 (L++bR l j))
    (λj s=>[(1,vi 0),(2,.slice none 0 0),(3,.slice A3 qs.length c3),(4,vi i),(5,s.2.1),(6,vi k),(7,vi j)]) (λ_ _=>[(1,b.cs)]) (G,v5,ps,b5) ⟨g1,Z,o5,by rw[bR,qCC,qCp,qAf];exact l5⟩ V V ?_
   rintro j ⟨G2,w5,I,W⟩ H4 hj ⟨J,K,o6,S⟩;simp only at J K o6 S;have mO:=S.len;rw[BY]at mO;have vI:=kT l j;refine OJ (λh3=>?_) (λh3=>?_)
   ·have g9:j<b.pk.length:=O;have r:=pS l j;have u:=J.trans K;have row:Enc.enc qs[k]=[.slice qA l.length qc]:=by rw[qG];rfl
    refine Y ?_;refine Zz k (s3.inc u) C λa ha=>?_;rw[row]at ha;refine Y ?_;refine Ya ha (Y ?_);refine Za [.slice qA l.length qc,vi j] (RP (sk.inc u) O) ?_;rintro v _ ⟨rfl,rfl⟩;by_cases g:(j:Int)∈l
    ·rw[decide_eq_true g];rw[iF g,qAf]at r;refine Y ?_;exact⟨(⟨j+1,O⟩,(G2,w5,I,W)),bN O,⟨J,K,o6,by rw[r];exact S⟩,V,V,rfl⟩
    rw[qAo g];rw[aT g]at r;refine Y ?_;refine qZ (bI dW) (cD t3) (OL _) λr7 p=>Y ?_;refine Zz k ((s3.inc u).inc (Zs p)) C λa2 M=>?_;rw[row]at M;refine Y ?_;refine Ya M (Y ?_);refine mW (l:=l) (bI dW) (cD t3) rfl (by decide) p rfl ((sk.inc u).inc (Zs p)) (sG (λ_=>rfl) l) O O rfl rfl (OL _) λv8 H5 b8 i5 o8=>?_;have qD:aL H4 H5:=(Zs (o:=.cells #[] 3) p).trans i5;refine Y ?_;refine ZY (cs:=[vi (j:Int)]) (OL _) rfl λr9 Q=>Y ?_;refine U7 (l':=[(j:Int)]) (bI dW) (bI dW) (cD t3) rfl (by decide) (qD.trans (Zs Q)) (o8.ins Q) qY rfl (by simp;omega) O rfl rfl (OL _) λv9 H6 b9 k1 k2 k3=>?_;obtain⟨U,X,rfl,q9⟩:=jF k2;obtain⟨G',m1,m2,m3,m4⟩:=yR K o6 k1 k2;refine Y ?_;refine ZY (cs:=[.slice U (l++[(j:Int)]).length X]) (OL _) rfl λwL B=>Y ?_;refine U7 (l':=[((U,(l++[(j:Int)]).length,X):bW)]) (bI kU) (bI kU) (cD rO) rfl (by decide) (m2.trans (Zs B)) (m3.ins B) (Z0 (l:=[((U,(l++[(j:Int)]).length,X):bW)])) rfl (by simp;omega) O rfl rfl (OL _) λuY H7 vO n1 n2 n3=>Y ?_;exact⟨(⟨j+1,O⟩,(G',uY,I++[(U,(l++[(j:Int)]).length,X)],vO)),bN O,⟨J.trans m1,n1,n2,by rw[r,<-qAW];exact(S.inc m1).snoc m4 q9⟩,V,V,rfl⟩
   have:j=b.pk.length:=O;subst this;refine Y ?_;exact⟨(⟨k+1,O⟩,(G2,w5,I,W)),bN O,⟨J,K,o6,by rw[vN];exact S⟩,V,V,rfl⟩
  have:k=qs.length:=O;subst this;rw[tE,IF]at l5;obtain⟨A5,W,rfl,q5⟩:=jF o5;refine Y ?_;exact⟨(⟨i+1,O⟩,((A5,W),ps)),bN O,⟨(i2.trans g1).trans Z,o5.sl,l5.inc Z⟩,V,V,rfl⟩
 have:i=b.pk.length:=O;subst this;rw[pO hn]at R;refine Y ?_;exact⟨i2,A3,c3,qs,rfl,s3,R⟩
end
def JJ{f:Nat->Int}{l:List Nat}{j:Nat}(h:j<l.length):el (l.map f) j=f l[j]:=by rw[el,ZD (by simpa using h),qAZ]
def sO{b:Sb}(h:ts≠[])(B:dE b ts≠[]):∃m∈dE b ts,Yu b ts=ZX b.pk.length m/\Yu b ts∈ZB b.pk.length/\eV b ts (Yu b ts)=true /\
  (∀k∈dE b ts,(cG b ts (Yu b ts)).hi<=(cG b ts (ZX b.pk.length k)).hi)/\∀k∈dE b ts,(cG b ts (ZX b.pk.length k)).hi=(cG b ts (Yu b ts)).hi->m<=k:=by
 have c:=uF (l:=O4 b ts) (by simpa[O4]using B);have s:(O4 b ts).length=(dE b ts).length:=by rw[O4,qAh]
 rw[s]at c;have e:Yu b ts=ZX b.pk.length (dE b ts)[Zo (O4 b ts)]:=by rw[Yu,ZD c]
 have f:(dE b ts)[Zo (O4 b ts)]∈dE b ts:=bY c;obtain⟨v,D,z⟩:=kK.1 f;have C:ZX b.pk.length (dE b ts)[Zo (O4 b ts)]∈ZB b.pk.length:=by rw[ZX,ZD (show(dE b ts)[Zo (O4 b ts)]-1<(ZB b.pk.length).length by omega)];exact bY _
 have o:∀j (i:j<(dE b ts).length),el (O4 b ts) j=(cG b ts (ZX b.pk.length (dE b ts)[j])).hi:=λj i=>by rw[O4,JJ i]
 refine⟨_,f,e,by rw[e];exact C,by rw[e,<-lS h v];exact z,λk r=>?_,λk r A=>?_⟩
 ·obtain⟨j,i,rfl⟩:=qAk.1 r;have:=CV (l:=O4 b ts) (j:=j) O;rw[o j i,o _ c]at this;rw[e];exact this
 obtain⟨j,i,rfl⟩:=qAk.1 r;have F:=PU (l:=O4 b ts) (j:=j) O (by rw[o j i,o _ c,A,e]);by_cases u:Zo (O4 b ts)=j
 ·subst u;exact dO _
 exact qDB (qAY.1 (PV b ts) _ _ c i O)
def JM{b:Sb}:(V7 b ts=0/\∀n,n<3->dE (gE b n) ts=[])\/(1<=V7 b ts/\V7 b ts<=3/\dE (gE b (V7 b ts-1)) ts≠[]/\∀n,n+1<V7 b ts->dE (gE b n) ts=[]):=by
 have f:∀{l:List Nat},¬ l≠[]->l=[]:=λh=>qAd h;by_cases c:dE (gE b 0) ts≠[]
 ·have e:V7 b ts=1:=iF c;rw[e];exact .inr ⟨by decide,by decide,c,λn k=>O⟩
 by_cases g:dE (gE b 1) ts≠[]
 ·have e:V7 b ts=2:=by rw[V7,aT c,iF g]
  rw[e];refine .inr ⟨by decide,by decide,g,λn k=>?_⟩;obtain rfl:n=0:=O;exact f c
 by_cases i:dE (gE b 2) ts≠[]
 ·have e:V7 b ts=3:=by rw[V7,aT c,aT g,iF i]
  rw[e];refine .inr ⟨by decide,by decide,i,λn k=>?_⟩;have:n=0\/n=1:=O;rcases this with rfl | rfl
  ·exact f c
  exact f g
 have e:V7 b ts=0:=by rw[V7,aT c,aT g,aT i]
 rw[e];refine .inl ⟨rfl,λn k=>?_⟩;have:n=0\/n=1\/n=2:=O;rcases this with rfl | rfl | rfl
 ·exact f c
 ·exact f g
 exact f i
theorem JO(b:Sb)(n:Nat):Zi (gE b n)=Zi b:=Ia rfl (λ_=>⟨rfl,rfl⟩) λ_=>rfl
def kM{b:Sb}{t:N4}:∀{j:Nat},j<=4->∀{i:Nat},i<4->(gH b t j).get i=if i<j then min (max (t.get i) (aD b i).lo) (aD b i).hi else t.get i
 | 0,_,i,_=>by rw[gH,aT O]
 | j+1,f,i,c=>by
  rw[gH,N4.aZ _ _ c];by_cases e:i=j
  ·subst e;rw[iF rfl,iF O]
  rw[aT e,kM O c];by_cases h:i<j
  ·rw[iF h,iF O]
  rw[aT h,aT O]
theorem kZ{b:Sb}(ok:bA b){l:List Int}(o:l.length=b.pk.length):eR b l=true↔Ys l∈Zi b:=by
 have e:=ok.n;rw[eR,qAc,EL,hZ e.2];refine qDl ?_ qCH;constructor
 ·intro h;refine⟨λj c=>?_,λj c f=>?_⟩
  ·have:(gH b (Ys l) b.pk.length).get j=(Ys l).get j:=by rw[h]
   rw[kM e.2 O,iF c]at this;have:=(gD ok c).1;omega
  rw[fJ c,qAa,qAn O];rfl
 rintro⟨g,k⟩;refine N4.ext' λj c=>?_;rw[kM e.2 c];split
 ·rename_i f;have:=g j f;omega
 rfl
def R2{n:Nat}{l:List Int}{t:N4}(i:n<=4)(h:oV n l)(e:Yp t):0<=UG t l/\UG t l<=80:=by have c:=z6 e (n:=n) (l:=l) (λz f=>by have:=h.2 z f;omega) l.length (dO _);have g:=uD h;rw[IF]at c;omega
section
variable{P:aX}[Tz P][Loud P]{H:Hp}
def mD{l:List Int}{i:Nat}(c:i<l.length)(e:l.length<=4):(Ys l).get i=l[i]:=by rw[fJ O,ZD c]
theorem RV{u w:Value}{lt f:List Int}(G:aF H u lt)(s:aF H w f)(F:lt.length<=4)(B:∀z∈f,0<=z/\z<lt.length)(p:Yp (Ys lt))(K:f.length<=1000000) :
  LL.Zc P 135 #[u,w] H λv h=>H=h/\v=vi (UG (Ys lt) f):=by
 obtain⟨A,c,rfl,_⟩:=id s;refine aJ.m (bG I9) (args:=[u,.slice A f.length c]) rfl ?_;unfold mS;refine Y ?_;refine Zv f.length (λj h=>H=h) (λj=>[(0,u),(1,.slice A f.length c),(5,vi (UG (Ys lt) (f.take j))),(6,vi j)]) (λj=>[]) rfl V trivial ?_;rintro j _ J rfl;refine OJ (λD=>?_) (λD=>?_)
 ·have g:j<f.length:=O;have C:=B _ (bY g);have o:=ID (Ys lt) g;have L:=z6 (n:=4) p (l:=f) (λz C=>by have:=B z C;omega) j O;have M:=p f[j].toNat O;have r:f[j].toNat<lt.length:=O;have e:lt[f[j].toNat]=(Ys lt).get f[j].toNat:=(mD r F).symm;refine Y ?_;refine Zz j s g λa k=>Y ?_;refine Ya k (Y ?_);refine pN (i:=f[j].toNat) G rfl (by show some (vi f[j])=some (vi ((f[j].toNat:Nat):Int));congr 2;omega) rfl r λa k=>?_;rw[e]at k;refine Y ?_;refine Ya k (Y ?_);exact dM (I:=λj h=>H=h) (env:=λj=>[(0,u),(1,.slice A f.length c),(5,vi (UG (Ys lt) (f.take j))),(6,vi j)]) (box:=λ_=>[]) g rfl ⟨rfl,rfl,by rw[o];rfl,rfl,trivial⟩ trivial rfl
 have:j=f.length:=O;subst this;rw[IF];refine Y ?_;exact⟨rfl,rfl⟩
end
theorem iC{b:Sb}{i:Nat}(h:i<b.pk.length):Enc.enc b.pk[i]=[.string (aD b i).nm,vi (aD b i).lo,vi (aD b i).hi,vi (aD b i).bF,vi (aD b i).bJ]:=by rw[show b.pk[i]=aD b i from(ZD h _).symm];rfl
