import Derived.Test.YtlhomfgcibjccaaGreatDoorTK00
set_option linter.all false
set_option maxHeartbeats 8000000
set_option maxRecDepth 100000
section
open Go Go.LL Go.Conc Go.ConcM
namespace Go.Proofs.YtlhomfgcibjccaaGreatDoor
def nJ:Tryz.pinned.checked.prog.funcNamed Rows.steamKeptRow.func=some 6:=U
def nK:(Rows.steamKeptRow.inPlace == Tryz.pinned.checked.prog.inPlace 6)=true:=U
def nL:(Rows.steamKeptRow.unfollowed == Tryz.pinned.checked.prog.unfollowed 6)=true:=U
def nM:(Rows.steamKeptRow.recurses == Tryz.pinned.checked.prog.recurses 6)=true:=U
def nN:(Rows.steamKeptRow.named == Tryz.pinned.checked.prog.varsNamed 6)=true:=U
def nW:joinedFacts Tryz.pinned.checked.prog 6 Tryz.f6 Rows.steamKeptSpec Rows.steamKeptRow=true:=by unfold joinedFacts;exact aE (aE (aE (aE (aE (aE (aE (aE (aE (aE (aE (aE (aE (aE (aE (aE (aE (aE (aE (aE (aE (aE (aE (aE (aE (aE (aE (aE (aE (aE (aE U z4) gV) U) U) U) U) U) U) nK) nL) nM) nN) U) U) U) U) U) U) U) U) U) U) U) fX) fY) U) U) U) U) U) U
def mQ:Tryz.f6.isInstance Tryz.pinned.checked.prog Rows.steamKeptRow.origin Rows.steamKeptRow.targs:=of_decide_eq_true U
def mR:Tryz.f6.isWrapper Tryz.pinned.checked.prog Rows.steamKeptRow.wrapper Rows.steamKeptRow.mainSum:=by unfold Func.isWrapper;first | (rw[iF (by decide +kernel)];kernel_rfl) | (rw[aT (by decide +kernel)];exact⟨rfl,rfl⟩)
end Go.Proofs.YtlhomfgcibjccaaGreatDoor
end
section
open Go Go.LL
namespace Go.Proofs
structure fI where
 n:Int
 lo:0<=n
 hi:n<65536
instance:Enc fI:=⟨1,λu=>[.int .u16 u.n],λ_=>rfl⟩
def dP(l:List fI)(i:Int):Int:=if h:0<=i/\i.toNat<l.length then l[i.toNat].n else 0
def lU(l:List fI)(i:Int):0<=dP l i/\dP l i<65536:=by
 unfold dP;split
 ·exact⟨l[i.toNat].lo,l[i.toNat].hi⟩
 omega
section
variable{P:aX}[Tz P][Loud P]{H:Hp}
theorem vX{lv:Value}{l:List fI}{i:Int}(h:aF H lv l):LL.Zc P 110 #[lv,vi i] H λv o=>H=o/\v=vi (dP l i):=by
 have e:=h;obtain⟨A,c,rfl,B⟩:=h;refine aJ.m (bG HY) (args:=[_,vi i]) rfl ?_;unfold AZ;refine OJ (λf=>?_) (λf=>?_)
 ·refine OJ (λs=>?_) (λs=>?_)
  ·refine Y ?_;obtain⟨k,rfl⟩:=qBr f;have g:k<l.length:=O;refine pN e rfl rfl rfl g λa u=>Y ?_;refine Ya u (Y ?_);refine Vs (bI Tryz.underlying199) (bI Tryz.underlying3) rfl (Y ?_);have z:dP l (k:Int)=l[k].n:=by simp[dP,g]
   rw[z];refine⟨rfl,?_⟩;have:=l[k].lo;have:=l[k].hi;rw[Uk ⟨O,O⟩];rfl
  refine Y ?_;refine⟨rfl,?_⟩;rw[dP,qEc O];rfl
 refine Y ?_;refine⟨rfl,?_⟩;rw[dP,qEc O];rfl
end
section
open Go.Conc Go.ConcM
open YtlhomfgcibjccaaGreatDoor Go.ChangeShapes Go.WideShapes
section
variable{H:Type}{enc:TypeId×Value->H}{W:World}{base:Nat}{sp:Nat->Bool}{held:Bool}{fuel:Nat}{cs:List Value}{y:DataW H×List MemPlace}{r:Reach}{b0:Nat}{v:Value}{d:DataW H}{ps:List MemPlace}
def mD(h:DataW.trod enc Tryz.prog W base sp held fuel 199 cs=some y):∃u:fI,cs=Enc.enc u:=by obtain⟨n,rfl,_,c⟩:=DataW.trod_int Tryz.underlying199 h;simp only[Lit.wf,qAc,qAR]at c;have e:IntKind.u16.min=0:=rfl;have f:IntKind.u16.max=65535:=rfl;exact⟨⟨n,O,O⟩,rfl⟩
def sQ:Tryz.prog.cellsOf 199=1:=U
def mW:Tryz.prog.underlying 59=some (.slice 199):=U
def qI{α:Type}[Enc α]{t e:TypeId}(h:Tryz.prog.underlying t=some (.slice e))(i:Tryz.prog.cellsOf e=Enc.sz α)(c:0<Enc.sz α)
  (g:∀{n:Nat} {cs:List Value} {y:DataW H×List MemPlace},DataW.trod enc Tryz.prog W base sp held n e cs=some y->∃x:α,cs=Enc.enc x)
  (f:Value.okWide Tryz.prog W r b0 t v) (k:DataW.Trod enc Tryz.prog W base sp held t v d ps):∃l:List α,aF (lQ W) v l:=by
 obtain⟨fuel,o⟩:=k;obtain⟨a,len,cap,rfl⟩:=okWide_slice h f;obtain⟨v,u,l,s⟩:=EK h i c g o;have:Value.slice a len cap=v:=by simpa[Value.cells]using u
 exact⟨l,this ▸ s⟩
def lS(c:Value.okWide Tryz.prog W r b0 59 v)(e:DataW.Trod enc Tryz.prog W base sp held 59 v d ps):∃l:List fI,aF (lQ W) v l:=
 qI mW sQ (by decide) mD c e
def mV(c:Value.okWide Tryz.prog W r b0 5 v)(e:DataW.Trod enc Tryz.prog W base sp held 5 v d ps):∃n,v=.int .u8 n/\0<=n/\n<256:=by obtain⟨n,rfl,_,_,f⟩:=open_int Tryz.underlying5 c e;simp only[Lit.wf,qAc,qAR]at f;have g:IntKind.u8.min=0:=rfl;have h:IntKind.u8.max=255:=rfl;exact⟨n,rfl,O,O⟩
end
end
section
variable{j:Nat}{n a:Int}
def mS{α:Type}{p:α->Prop}{l:List α}(f:j<l.length)(h:∀x∈l.take j,p x)(e:p l[j]):∀x∈l.take (j+1),p x:=by
 intro x c;rw[iN f]at c;rcases qAi.1 c with c | c
 ·exact h x c
 rw[oR.1 c];exact e
section
variable{P:aX}[Tz P][Loud P]{H:Hp}
def vY{lv:Value}{l:List Int}(i:aF H lv l)(s:l.length<=1000000):LL.Zc P 40 #[lv,vi n] H λv e=>H=e/\v=vb (decide (n∈l)):=by
 refine aJ.m (bG sE) (args:=[lv,vi n]) rfl ?_;unfold l8;refine Y ?_;refine Zv l.length (λj e=>H=e/\∀x∈l.take j,x≠n) (λj=>[(0,lv),(1,vi n),(5,vi j)]) (λ_=>[]) ⟨rfl,by simp⟩ V trivial ?_;rintro j _ u ⟨rfl,g⟩;refine Y ?_;refine YE i rfl ?_;refine OJ (λk=>?_) (λk=>?_)
 ·have c:j<l.length:=O;refine Y ?_;refine Zz j i c λa o=>Y ?_;refine Ya o ?_;refine OJ (λf=>?_) (λf=>?_)
  ·refine Y ?_;exact⟨rfl,by rw[decide_eq_true (show n∈l by rw[<-f];exact bY c)];rfl⟩
  refine Y ?_;exact dM (I:=λj e=>H=e/\∀x∈l.take j,x≠n) (env:=λj=>[(0,lv),(1,vi n),(5,vi j)]) (box:=λ_=>[]) c ⟨rfl,mS c g f⟩ V trivial rfl
 have:j=l.length:=O;subst this;rw[IF]at g;refine Y ?_;exact⟨rfl,by rw[qAo (show ¬ n∈l from λh=>g n h rfl)];rfl⟩
end
def gW{m:Int}(h:0<=a)(c:0<m):0<=a.tmod m/\a.tmod m<m:=⟨qDc _ h,qCK _ c⟩
theorem pX{f:Nat->Int}:(List.range (j+1)).map f=(List.range j).map f++[f j]:=by rw[qBs,qBL];rfl
section
variable{P:aX}[Tz P][Loud P]{H:Hp}
def vZ{c:Int}(h:0<=a/\a<=c/\c<=99)(f:0<=n):LL.Zc P 109 #[.agg #[vi a,vi c],vi n] H λv e=>H=e/\v=vi (a+n.tmod (c-a+1)):=by refine aJ.m (bG sP) (args:=[.agg #[vi a,vi c],vi n]) rfl ?_;unfold lJ;refine Y ?_;refine lL rfl rfl O ?_;have:=gW (m:=c-a+1) f O;refine Y ?_;exact⟨rfl,rfl⟩
end
def mU{m:Int}{n:Nat}(h:0<=m)(c:0<n):∃i:Nat,i<n/\m.tmod n=i:=by have:=gW (m:=(n:Int)) h O;exact⟨(m.tmod n).toNat,O,O⟩
end
end Go.Proofs
end
section
open Go Go.LL
namespace Go.LL
section
variable{sT E:TypeId}{bV dI m:Nat}{zv w:Value}{xs:List Value}{a:Addr}
section
variable{P:aX}{H:Hp}{d:Option Nat}{next:aM->Hp->Prop}{σ:aM}{x y:Operand}
def wC{T:TypeId}(hu:P.toProgram.underlying sT=some (.slice E))(ti:TI P.toProgram E bV zv dI)(hz:zv.cells.size=bV)(he:0<bV)
  (S:(m=0/\∃A c,w=.slice A 0 c)\/∃a c,w=.slice (some a) m c/\aC H a xs) (I:xs.length=m * bV) (N:(xs.all Value.cJ)=true) (V:m<=1000000000) (J:dI<=1000) (o:P.still H.gh=false)
  {K:Value->Hp->Prop} (k0:m=0->K (.slice (some a) 0 0) H) (k1:∀r s rest,H r=none->m<=s->(xs++rest).length=s * bV->K (.slice (some ⟨r,0,none⟩) m s) (H.ins r (.cells (xs++rest).toArray E))):bL P.toPQ (Builtin.append_ #[sT,sT] T #[.slice (some a) 0 0,w]) (λv _ U=>K v U) false H:=by
 obtain⟨CK,G,i2,i3,M⟩:=ti.ex;have D:∀Q g,Q m g H->bL P.toPQ (Builtin.lenOf w) Q g H:=by intro Q g k;rcases S with⟨rfl,A,c,rfl⟩ | ⟨a,c,rfl,_⟩<;>simpa[Builtin.lenOf,Zj]using k
 have f:∀(Q:Array Value->Bool->Hp->Prop) g,Q xs.toArray g H->bL P.toPQ (Builtin.firstCells bV m w) Q g H:=by
  intro Q g k;rcases S with⟨rfl,A,c,rfl⟩ | ⟨a,c,rfl,X⟩
  ·have:xs=[]:=qAb (by simpa using I);subst this;cases A<;>simpa[Builtin.firstCells,Zj,loadCells,loadCellsFrom]using k
  simp only[Builtin.firstCells];exact yS o X k I
 have F:∀(Q:Array Value->Bool->Hp->Prop) g,Q #[] g H->bL P.toPQ (Builtin.firstCells bV 0 (.slice (some a) 0 0)) Q g H:=by intro Q g k;simpa[Builtin.firstCells,Zj,loadCells,loadCellsFrom]using k
 simp only[Builtin.append_,qAH,qAV,qAT,Zg,Zw hu,Z4 G,i2,Zj,DO,qAw];refine D _ _ ?_;simp only[qBU,qBp];by_cases C:0+m<=0
 ·rw[iF C];have Y:m=0:=O;subst Y;have L:xs=[]:=qAb (by simpa using I);subst L;simp only[Zg,Zj];refine f _ _ ?_;simpa[storeCells,Zj]using k0 rfl
 rw[aT C];simp only[Zg,O1 G,M];rw[aT (by rintro⟨h,_⟩;simp[IntKind.max,IntKind.bits,IntKind.signed]at h;omega)];simp only[Zg,Zj,O1 G,M];have z:¬ Builtin.nextslicecap (0+m) 0 * dI > 2 ^ 48:=by have N:=B7 (need:=0+m) (old:=0) O;have h2:Builtin.nextslicecap (0+m) 0 * dI<=(2 * (0+m)+200) * 1000:=qBq N J;omega
 rw[aT z];simp only[Zg,Zj,choose];rw[bL];simp only[Question.forced,DO,qAw];refine⟨o,λt=>?_⟩;have B:0+m<=(Question.appendCap (0+m) 0 E).cut t:=by simp only[Question.cut];omega
 generalize(Question.appendCap (0+m) 0 E).cut t=s at B;rw[bL];have u:∀(Q:Unit->Bool->Hp->Prop),Q () false H->bL P.toPQ (askRoom (s * dI)) Q false H:=by
  intro Q k;unfold askRoom;split
  ·exact⟨.inr ⟨rfl,o⟩,k⟩
  exact k
 rw[O1 G,M];refine u _ ?_;refine F _ _ ?_;refine f _ _ ?_;simp only[UC G i3,newRow,Zg,newObj,Zj];refine⟨o,λr Z=>?_⟩;have R:=k1 r s (Builtin.zeroCells zv.cells (s-(0+m))).toList Z O (by simp only[BY,I,qBy,B8,hz];rw[<-qCi];congr 1;omega);have e:(#[]++xs.toArray++Builtin.zeroCells zv.cells (s-(0+m)))=(xs++(Builtin.zeroCells zv.cells (s-(0+m))).toList).toArray:=by simp
 rw[qAE]at e R;rw[qAE,e];exact R
def lK{T:TypeId}(B:P.toProgram.underlying sT=some (.slice E))(F:TI P.toProgram E bV zv dI)(D:zv.cells.size=bV)(u:0<bV)(i:σ.get x=some (.slice (some a) 0 0))(k:σ.get y=some w)
  (C:(m=0/\∃A c,w=.slice A 0 c)\/∃a c,w=.slice (some a) m c/\aC H a xs) (z:xs.length=m * bV) (o:(xs.all Value.cJ)=true) (e:m<=1000000000) (f:dI<=1000) (g:P.still H.gh=false)
  (k0:m=0->next (σ.set d (.slice (some a) 0 0)) H) (k1:∀r h rest,H r=none->m<=h->(xs++rest).length=h * bV->next (σ.set d (.slice (some ⟨r,0,none⟩) m h)) (H.ins r (.cells (xs++rest).toArray E))):(bE.raw (.call { callee:=.builtin .append,args:=#[x,y],argTypes:=#[sT,sT] }) T).m P d next σ H:=by
 refine YS (s:=Builtin.append_ #[sT,sT] T #[.slice (some a) 0 0,w]) (by simp[Op.operands,Call.operands,i,k]) (by simp[execOp,aR,resolve,invoke,builtin,i,k]) ?_;exact wC (T:=T) B F D u C z o e f g k0 k1
end
end
end Go.LL
end
open Go Go.LL
namespace Go.Proofs
section
variable{α:Type}{H0:Hp}{r:Nat}{E:TypeId}
def kX[Enc α]{H:Hp}{c:Nat}{l:List α}{rest:List Value}(h:aL H0 H)(i:H r=none)(f:l.length<=c)(g:(Zb l++rest).length=c * Enc.sz α):dD H0 (H.ins r (.cells (Zb l++rest).toArray E)) E (.slice (some ⟨r,0,none⟩) l.length c) l (some r):=
 ⟨⟨VH l,.inr ⟨r,c,rest,rfl,rfl,Hp.aG _ _ _,g,f⟩⟩,λk e=>by obtain rfl:=iO e;exact YL h i⟩
section
variable{P:aX}[Tz P]{H:Hp}{d:Option Nat}{next:aM->Hp->Prop}{σ:aM}{x y:Operand}
def rG[Enc α]{sT T:TypeId}{dI:Nat}{zv w:Value}{l:List α}(J:P.toProgram.underlying sT=some (.slice E))(L:TI P.toProgram E (Enc.sz α) zv dI)(K:zv.cells.size=Enc.sz α)(F:0<Enc.sz α)
  (I:H0 r=none) (D:H=H0.ins r (.cells #[] E)) (V:aF H w l) (R:((Zb l).all Value.cJ)=true) (s:l.length<=1000000000) (i:dI<=1000) (B:σ.get x=some (.slice (some ⟨r,0,none⟩) 0 0)) (C:σ.get y=some w) (k:P.still H.gh=false)
  (h:∀M o N,aL H o->dD H0 o E M l N->next (σ.set d M) o):(bE.raw (.call { callee:=.builtin .append,args:=#[x,y],argTypes:=#[sT,sT] }) T).m P d next σ H:=by
 have G:aL H0 H:=by rw[D];exact Zs I
 obtain⟨A,c,rfl,S⟩:=V;by_cases u:l=[]
 ·subst u;refine lK J L K F B C (m:=0) (xs:=[]) (.inl ⟨rfl,A,c,rfl⟩) (by simp) rfl O i k (λ_=>?_) λz X rest e g f=>?_
  ·exact h _ _ (some r) (.refl _) (by rw[D];exact pP I)
  exact h _ _ (some z) (Zs e) (kX (l:=([]:List α)) G e g f)
 obtain⟨a,rfl,U⟩:=S u;refine lK J L K F B C (m:=l.length) (xs:=Zb l) (.inr ⟨a,c,rfl,U⟩) (VH l) R s i k (λQ=>absurd (qAb Q) u) λz X rest e g f=>?_;exact h _ _ (some z) (Zs e) (kX G e g f)
end
end
variable{qs:List bW}{ls:List (List Int)}{q:bW}{y x:Int}{key:Int->Int}{p:List Int}
section
variable{P:aX}[Tz P][Loud P]{H:Hp}
def nU{b:Sb}(hb:Zr H b):LL.Zc P 36 #[b.v] H λv c=>H=c/\∃g,v=vb g/\(g=true->bA b):=by
 refine aJ.m (bG uJ) (args:=[b.v]) rfl ?_;unfold mJ Sb.v;refine Y ?_;refine Za [b.v] (eO hb) ?_;rintro v _ ⟨rfl,g,rfl,e⟩;cases g with
 | true=>
  refine Y ?_;exact⟨rfl,false,rfl,λh=>by simp at h⟩
 | false=>
  refine Y ?_;refine Za [b.v] (cF hb (e rfl).sz) ?_;rintro v _ ⟨rfl,rfl⟩;refine Y ?_;exact⟨rfl,decide (ZF b=0),by simp[Y5],λh=>Ow (of_decide_eq_true h)⟩
end
def bR(l:List Int)(j:Nat):List (List Int):=(List.range j).flatMap λ(i:Nat)=>if(i:Int)∈l then[]else[l++[(i:Int)]]
def dF(n:Nat):Nat->List (List Int)
 | 0=>[[]]
 | i+1=>(dF n i).flatMap λl=>bR l n
theorem mG(l:List Int)(j:Nat):bR l (j+1)=bR l j++if(j:Int)∈l then[]else[l++[(j:Int)]]:=by rw[bR,qBs,qBb,qAQ];rfl
def sR{α β:Type}(f:α->List β){l:List α}{k:Nat}(h:k<l.length):(l.take (k+1)).flatMap f=(l.take k).flatMap f++f l[k]:=by rw[iN h,qBb,qAQ]
def sJ:dF 1 1=ZB 1/\dF 2 2=ZB 2/\dF 3 3=ZB 3/\dF 4 4=ZB 4:=by decide +kernel
def sN{n:Nat}(h:1<=n/\n<=4):dF n n=ZB n:=by
 obtain⟨c,e,f,g⟩:=sJ;have:n=1\/n=2\/n=3\/n=4:=O;rcases this with rfl | rfl | rfl | rfl
 ·exact c
 ·exact e
 ·exact f
 exact g
def sL:((List.range 5).all λn=>(List.range (n+1)).all λi=>decide ((dF n i).length<=24) && (dF n i).all λl=>decide (l.length<=4))=true:=by decide +kernel
def sK{n i:Nat}(f:n<=4)(e:i<=n):(dF n i).length<=24/\∀l∈dF n i,l.length<=4:=by have h:=IN.1 (IN.1 sL n (qAl.2 O)) i (qAl.2 O);rw[qAc,qAy,IN]at h;exact⟨h.1,λl c=>of_decide_eq_true (h.2 l c)⟩
def iX(l:List Int):∀j,(bR l j).length<=j
 | 0=>dO _
 | j+1=>by rw[mG,BY];have:=iX l j;split<;>simp<;>omega
def mH{n:Nat}:∀(L:List (List Int)),(L.flatMap λl=>bR l n).length<=L.length * n
 | []=>by simp
 | l :: L=>by rw[qAM,BY,qAs,qBY];have:=mH (n:=n) L;have:=iX l n;omega
structure cX(H:Hp)(qs:List bW)(ls:List (List Int)):Prop where
 len:qs.length=ls.length
 at_:∀i (h:i<qs.length) (h':i<ls.length),aF H (dN qs[i]) ls[i]/\qs[i].2.1<=qs[i].2.2
def cX.nil(H:Hp):cX H [] []:=⟨rfl,λi h=>by simp at h⟩
def cX.inc{H H':Hp}(h:cX H qs ls)(c:aL H H'):cX H' qs ls:=⟨h.len,λi a b=>⟨((h.at_ i a b).1).inc c,(h.at_ i a b).2⟩⟩
def cX.snoc{H:Hp}{l:List Int}(h:cX H qs ls)(g:aF H (dN q) l)(f:q.2.1<=q.2.2):cX H (qs++[q]) (ls++[l]):=by
 refine⟨by simp[h.len],λi a b=>?_⟩;have:=h.len;by_cases c:i<qs.length
 ·rw[qAp c,qAp O];exact h.at_ i c O
 simp only[BY,qAA]at a;have e:i=qs.length:=O;subst e;rw[qAr (dO _),qAr O];simp[this];exact⟨g,f⟩
def kF{H:Hp}{l:List Int}(h:aF H (dN q) l):q.2.1=l.length:=by obtain⟨_,_,e,_⟩:=h;simp only[Value.slice.injEq]at e;exact e.2.1
def oG(l:List Int)(y x:Int):Prop:=∃a c,l=a++y :: c/\x∈c
def oG.app{l:List Int}(h:oG l y x)(z:Int):oG (l++[z]) y x:=by obtain⟨a,c,rfl,h⟩:=h;exact⟨a,c++[z],by simp,by simp[h]⟩
def wD{l:List Int}(h:y∈l)(x:Int):oG (l++[x]) y x:=by obtain⟨a,c,rfl⟩:=qCy h;exact⟨a,c++[x],by simp,by simp⟩
def Kb(key:Int->Int)(l:List Int)(y x:Int):Prop:=key y<key x\/(key y=key x/\oG l y x)
theorem Kb.app{l:List Int}(h:Kb key l y x)(z:Int):Kb key (l++[z]) y x:=h.imp id λh=>⟨h.1,h.2.app z⟩
def Kb.le{l:List Int}(h:Kb key l y x):key y<=key x:=by
 rcases h with h | h
 ·omega
 omega
def mI{key:Int->Int}{x:Int}{l:List Int}:∀{A:List Int},(∀y∈A,y∈l)->A.Pairwise (λu v=>Kb key (l++[x]) v u)->(Ud key x A).Pairwise (λu v=>Kb key (l++[x]) v u)
 | [],_,_=>by rw[Ud];exact qAS _ _
 | y :: r,g,h=>by
  obtain⟨f,k⟩:=qAJ.1 h;rw[Ud];split
  ·rename_i i;refine qAJ.2 ⟨λv c=>?_,mI (λz s=>g z (by simp[s])) k⟩;rcases qAq.1 ((KP key x r).mem_iff.1 c)with e | e
   ·exact .inl (by rw[e];exact i)
   exact f v e
  rename_i i;refine qAJ.2 ⟨λv c=>?_,h⟩;have o:key v<=key y:=by
   rcases qAq.1 c with e | e
   ·rw[e];exact qAx _
   exact(f v e).le
  by_cases e:key v<key x
  ·exact .inl e
  exact .inr ⟨O,wD (g v c) x⟩
def jT(key:Int->Int)(l:List Int):∀j,j<=l.length->(VO key (l.take j)).Pairwise λu v=>Kb key (l.take j) v u
 | 0,_=>by simp[VO]
 | j+1,e=>by have c:j<l.length:=e;rw[iN c,PX];exact mI (λy f=>(IG key _).mem_iff.1 f) ((jT key l j O).imp λh=>h.app _)
def jU(key:Int->Int)(l:List Int):(gN key l).Pairwise (Kb key l):=by have h:=jT key l l.length (dO _);rw[IF]at h;rw[gN,qDn];exact h
def qF(r d:Nat->Int)(m:Nat):Nat->List Int
 | 0=>List.replicate m 0
 | j+1=>(qF r d m j).set (Zo (qF r d m j)) (max (r j) (el (qF r d m j) (Zo (qF r d m j)))+d j)
def qS(r d:Nat->Int)(m j:Nat):Int:=max (r j) (el (qF r d m j) (Zo (qF r d m j)))
def qC(r d:Nat->Int)(m:Nat)(z:Int)(n:Nat):Nat:=((List.range n).filter λj=>decide (qS r d m j<=z/\z<qS r d m j+d j)).length
def eE(z:Int)(l:List Int):Nat:=(l.filter λf=>decide (z<f)).length
def mF(p:Int->Bool)(v:Int):∀(l:List Int) (k:Nat) (_:k<l.length),((l.set k v).filter p).length+(if p (el l k)=true then 1 else 0)=(l.filter p).length+if p v=true then 1 else 0
 | [],k,h=>by simp at h
 | x :: l,0,_=>by show(((v :: l).filter p).length)+(if p x=true then 1 else 0)=_;rw[qAN,qAN];split<;>split<;>simp_all<;>omega
 | x :: l,k+1,h=>by
  have ih:=mF p v l k (by simpa using h);have e:el (x :: l) (k+1)=el l k:=by simp[el]
  rw[e];show((x :: l.set k v).filter p).length+_=_;rw[qAN,qAN];split
  ·rw[qAs,qAs];omega
  exact ih
def eV(r d:Nat->Int)(m:Nat):∀j,(qF r d m j).length=m
 | 0=>qBj
 | j+1=>by rw[qF,qAg,eV r d m j]
def iC{r d:Nat->Int}{m:Nat}(c:1<=m)(j:Nat):Zo (qF r d m j)<(qF r d m j).length:=uF (by intro e;have:=eV r d m j;rw[e]at this;simp at this;omega)
theorem iZ(r d:Nat->Int)(m:Nat)(z:Int)(n:Nat):qC r d m z (n+1)=qC r d m z n+if qS r d m n<=z/\z<qS r d m n+d n then 1 else 0:=by
 rw[qC,qBs,qBS,BY,qC];congr 1;by_cases h:qS r d m n<=z/\z<qS r d m n+d n
 ·rw[iF h,qAN,iF (decide_eq_true h)];rfl
 rw[aT h,qAN,aT (by simpa using h)];rfl
def mE{r d:Nat->Int}{m:Nat}(c:1<=m)(z:Int)(n:Nat):eE z (qF r d m (n+1))+(if z<el (qF r d m n) (Zo (qF r d m n))then 1 else 0)=eE z (qF r d m n)+if z<qS r d m n+d n then 1 else 0:=by have h:=mF (λf=>decide (z<f)) (qS r d m n+d n) (qF r d m n) _ (iC c n);simp only[qAy]at h;exact h
def kZ{r d:Nat->Int}{m:Nat}(f:1<=m)(e:∀j,0<=d j)(z:Int):∀n,qC r d m z n<=eE z (qF r d m n)
 | 0=>qAI _
 | n+1=>by have g:=iZ r d m z n;have c:=mE (r:=r) (d:=d) f z n;have h:=kZ (r:=r) f e z n;have i:el (qF r d m n) (Zo (qF r d m n))<=qS r d m n:=Int.le_max_right _ _;have k:=e n;split at g<;>split at c<;>split at c<;>omega
def kR{r d:Nat->Int}{m:Nat}(i:1<=m)(g:∀j,0<=d j){z:Int}(s:0<=z):∀{n:Nat},(∀j,j<n->r j<=z)->qC r d m z n=eE z (qF r d m n)
 | 0,h=>by
  have e:(List.replicate m (0:Int)).filter (λf=>decide (z<f))=[]:=by rw[qDg];intro a o;rw[List.eq_of_mem_replicate o];simp;omega
  show 0=((List.replicate m (0:Int)).filter _).length;rw[e];rfl
 | n+1,h=>by have k:=iZ r d m z n;have c:=mE (r:=r) (d:=d) i z n;have u:=kR (r:=r) i g s (n:=n) λj D=>h j O;have A:qS r d m n=max (r n) (el (qF r d m n) (Zo (qF r d m n))):=rfl;have B:=g n;have C:=h n O;split at k<;>split at c<;>split at c<;>omega
def uH(z:Int)(l:List Int):eE z l<=l.length:=qBd _ _
def uG{z:Int}{l:List Int}(h:∀k,k<l.length->z<el l k):eE z l=l.length:=by rw[eE,qBA];intro f e;obtain⟨k,c,rfl⟩:=qAk.1 e;have:=h k c;rw[el,ZD c]at this;exact decide_eq_true this
def rE{r d:Nat->Int}{m:Nat}(f:1<=m)(g:∀j,0<=d j)(j:Nat):el (qF r d m j) (Zo (qF r d m j))<=el (qF r d m (j+1)) (Zo (qF r d m (j+1))):=by
 have e:=iC (r:=r) (d:=d) f (j+1);generalize h:Zo (qF r d m (j+1))=k at *;have c:k<(qF r d m j).length:=by rw[eV]at e ⊢;exact e
 rw[qF,CE _ _ (iC f j)];have:=g j;split
 ·omega
 exact CV c
def iJ{r d:Nat->Int}{m:Nat}(h:1<=m)(c:∀j,0<=d j){N:Nat}(k:∀j,j+1<N->r j<=r (j+1)):∀{i j:Nat},i<=j->j<N->qS r d m i<=qS r d m j:=by
 intro i j f;induction j with
 | zero=>
  intro _;obtain rfl:i=0:=O;exact qAx _
 | succ j ih=>
  intro g;by_cases e:i=j+1
  ·rw[e];exact qAx _
  have o:=ih O O;have s:=rE (r:=r) h c j;have u:=k j g;have z:qS r d m j=max (r j) (el (qF r d m j) (Zo (qF r d m j))):=rfl;have A:qS r d m (j+1)=max (r (j+1)) (el (qF r d m (j+1)) (Zo (qF r d m (j+1)))):=rfl;omega
def k9{r d:Nat->Int}{m:Nat}(s:1<=m)(h:∀j,0<=d j){N i:Nat}(z:0<=r i)(u:∀j,j+1<N->r j<=r (j+1))(o:i<N)(B:r i<qS r d m i):qC r d m (qS r d m i-1) i=m:=by
 have A:qS r d m i=max (r i) (el (qF r d m i) (Zo (qF r d m i))):=rfl;have f:∀j,j<=i->r j<=r i:=by
  have:∀k,k<N->∀j,j<=k->r j<=r k:=by
   intro k;induction k with
   | zero=>
    intro _ j g;obtain rfl:j=0:=O;exact qAx _
   | succ k ih=>
    intro c j g;by_cases e:j=k+1
    ·rw[e];exact qAx _
    have:=ih O j O;have:=u k c;omega
  exact this i o
 rw[kR s h O λj g=>by have:=f j O;omega,uG,eV];intro k c;have:=CV c;omega
def pS{r d:Nat->Int}{m:Nat}(f:1<=m)(c:∀j,0<=d j){N i:Nat}(g:∀j,j+1<N->r j<=r (j+1))(k:i<N):∀{n:Nat},i<=n->n<=N->qC r d m (qS r d m i-1) n=qC r d m (qS r d m i-1) i:=by
 intro n o;induction n with
 | zero=>
  intro _;obtain rfl:i=0:=O;rfl
 | succ n ih=>
  intro h;by_cases e:i=n+1
  ·rw[e]
  have:=iJ (r:=r) f c g (i:=i) (j:=n) O O;rw[iZ,aT O,ih O O,qCW]
def kT{r d:Nat->Int}{m:Nat}(f:1<=m)(e:∀j,0<=d j)(z:Int)(n:Nat):qC r d m z n<=m:=by have g:=kZ (r:=r) f e z n;have c:=uH z (qF r d m n);rw[eV]at c;omega
def iY(P:Int->Bool)(l:List Int):∀{n:Nat},n<=l.length->((List.range n).filter λj=>P (el l j)).length=((l.take n).filter P).length
 | 0,_=>rfl
 | n+1,h=>by have c:n<l.length:=h;rw[qBs,qBS,BY,iY P l O,iN c,qBS,BY];congr 1;rw[qAN,qAN];have e:el l n=l[n]:=ZD c _;rw[e];split<;>simp
def kP{l:List Wk}{p q:Nat}(w:Wk)(h:q≠p):bM (l.set p w) q=bM l q:=by unfold bM;rw[qAa,qAa,qCD,aT (qAF h)]
structure bK(n:Nat)(l:List Int):Prop where
 len:l.length=n
 nd:l.Nodup
 rg:∀z∈l,0<=z/\z<n
def bK.at_{n:Nat}{l:List Int}(h:bK n l){j:Nat}(e:j<n):0<=el l j/\el l j<n:=by
 have c:j<l.length:=by rw[h.len];exact e
 rw[el,ZD c];exact h.rg _ (bY c)
def bK.inj{n:Nat}{l:List Int}(h:bK n l){i j:Nat}(k:i<n)(o:j<n)(e:(el l i).toNat=(el l j).toNat):i=j:=by
 have s:=h.at_ k;have u:=h.at_ o;have g:el l i=el l j:=O;have c:i<l.length:=by rw[h.len];exact k
 have f:j<l.length:=by rw[h.len];exact o
 rw[el,el,ZD c,ZD f]at g;exact(qBQ h.nd).1 g
def bK.perm{n:Nat}{l c:List Int}(h:bK n l)(p:c.Perm l):bK n c:=⟨p.length_eq.trans h.len,p.nodup_iff.2 h.nd,λz e=>h.rg z (p.mem_iff.1 e)⟩
section
variable{b:Sb}{t:N4}{l:List Int}
def s1(b:Sb)(t:N4)(l:List Int)(j:Nat):List Wk×List Int:=(l.take j).foldl (iG t) (tA b)
theorem iA{j:Nat}(c:j<l.length):s1 b t l (j+1)=iG t (s1 b t l j) (el l j):=by rw[s1,Oe _ _ c,el,ZD c];rfl
theorem hZ(c:l.length=b.pk.length):s1 b t l b.pk.length=fA b t l:=by rw[s1,<-c,IF];rfl
def fU(ok:bA b)(f:Yp t)(c:bK b.pk.length l){j:Nat}(e:j<=b.pk.length):WB b.pk.length b.pl.toNat (20 * j) (s1 b t l j):=z7 ok f c.rg j (by rw[c.len];exact e)
def kM(ok:bA b)(e:Yp t)(c:bK b.pk.length l):∀{j:Nat},j<=b.pk.length->(s1 b t l j).2=qF (λ_=>0) (λj=>t.get (el l j).toNat) b.pl.toNat j
 | 0,_=>rfl
 | j+1,f=>by have ih:=kM ok e c (j:=j) O;have h:=(fU ok e c (j:=j) O).fr (Zo (s1 b t l j).2);rw[iA (by rw[c.len];exact f),qF,<-ih];show(s1 b t l j).2.set _ _=_;rw[qCI h.1]
def kL(ok:bA b)(g:Yp t)(c:bK b.pk.length l){j:Nat}(f:j<b.pk.length):∀{k:Nat},j<k->k<=b.pk.length ->
  (bM (s1 b t l k).1 (el l j).toNat).i=qS (λ_=>0) (λj=>t.get (el l j).toNat) b.pl.toNat j /\
  (bM (s1 b t l k).1 (el l j).toNat).o=qS (λ_=>0) (λj=>t.get (el l j).toNat) b.pl.toNat j+t.get (el l j).toNat
 | 0,h,_=>absurd h (qBm _)
 | k+1,h,C=>by
  have D:=c.at_ f;by_cases e:j=k
  ·subst e;have s:=(fU ok g c (j:=j) O);have A:=s.fr (Zo (s1 b t l j).2);have B:qS (λ_=>0) (λj=>t.get (el l j).toNat) b.pl.toNat j=el (s1 b t l j).2 (Zo (s1 b t l j).2):=by rw[qS,<-kM ok g c O,qCI A.1]
   rw[iA (by rw[c.len];exact f),B];show(bM ((s1 b t l j).1.set _ _) _).i=_/\(bM ((s1 b t l j).1.set _ _) _).o=_;rw[mC _ _ (by rw[s.l1];omega),iF rfl];exact⟨rfl,rfl⟩
  rw[iA (by rw[c.len];omega)];show(bM ((s1 b t l k).1.set _ _) _).i=_/\(bM ((s1 b t l k).1.set _ _) _).o=_;rw[kP _ (λz=>e (c.inj f O z))];exact kL ok g c f O O
def s2(b:Sb)(t:N4)(l:List Int)(j:Nat):List Wk×List Int:=((Ul b t l).take j).foldl (fK b) ((fA b t l).1,List.replicate b.hd.toNat 0)
def dU(c:bK b.pk.length l):bK b.pk.length (Ul b t l):=c.perm (tI _ _)
theorem fG(f:bK b.pk.length l){j:Nat}(e:j<b.pk.length):s2 b t l (j+1)=fK b (s2 b t l j) (el (Ul b t l) j):=by
 have c:j<(Ul b t l).length:=by rw[(dU f).len];exact e
 rw[s2,Oe _ _ c,el,ZD c];rfl
theorem kN(c:bK b.pk.length l):(s2 b t l b.pk.length).1=VN b t l:=by have h:=(dU (t:=t) c).len;rw[s2,<-h,IF];rfl
def eR(ok:bA b)(s:Yp t)(c:bK b.pk.length l)(p:Nat):∀{j:Nat},j<=b.pk.length ->
  (s2 b t l j).1.length=b.pk.length/\(s2 b t l j).2.length=b.hd.toNat/\(bM (s2 b t l j).1 p).i=(bM (fA b t l).1 p).i/\(bM (s2 b t l j).1 p).o=(bM (fA b t l).1 p).o
 | 0,_=>by have h:=fU ok s c (dO _);rw[hZ c.len]at h;exact⟨h.l1,qBj,rfl,rfl⟩
 | j+1,z=>by
  obtain⟨f,u,g,k⟩:=eR ok s c p (j:=j) O;have A:=(dU (t:=t) c).at_ (j:=j) O;rw[fG c O];refine⟨qAg.trans f,qAg.trans u,?_⟩;show(bM ((s2 b t l j).1.set _ _) p).i=_/\(bM ((s2 b t l j).1.set _ _) p).o=_;rw[mC _ _ (by rw[f];omega)];split
  ·rename_i e;subst e;exact⟨g,k⟩
  exact⟨g,k⟩
abbrev rT(b:Sb)(t:N4)(l:List Int)(j:Nat):Int:=(bM (fA b t l).1 (el (Ul b t l) j).toNat).o
abbrev dT(b:Sb)(t:N4)(l:List Int)(j:Nat):Int:=(aD b (el (Ul b t l) j).toNat).bF
def iB(ok:bA b)(e:Yp t)(c:bK b.pk.length l):∀{j:Nat},j<=b.pk.length->(s2 b t l j).2=qF (rT b t l) (dT b t l) b.hd.toNat j
 | 0,_=>rfl
 | j+1,f=>by have ih:=iB ok e c (j:=j) O;have h:=(eR ok e c (el (Ul b t l) j).toNat (j:=j) O).2.2.2;rw[fG c O,qF,<-ih];show(s2 b t l j).2.set _ _=_;rw[h]
def kO(ok:bA b)(i:Yp t)(c:bK b.pk.length l){j:Nat}(f:j<b.pk.length):∀{k:Nat},j<k->k<=b.pk.length ->
  (bM (s2 b t l k).1 (el (Ul b t l) j).toNat).g=qS (rT b t l) (dT b t l) b.hd.toNat j/\(bM (s2 b t l k).1 (el (Ul b t l) j).toNat).d=qS (rT b t l) (dT b t l) b.hd.toNat j+dT b t l j
 | 0,h,_=>absurd h (qBm _)
 | k+1,h,F=>by
  have G:=(dU (t:=t) c).at_ f;by_cases e:j=k
  ·subst e;obtain⟨z,C,D,A⟩:=eR ok i c (el (Ul b t l) j).toNat (j:=j) O;have B:qS (rT b t l) (dT b t l) b.hd.toNat j=max (bM (s2 b t l j).1 (el (Ul b t l) j).toNat).o (el (s2 b t l j).2 (Zo (s2 b t l j).2)):=by rw[qS,<-iB ok i c O,A]
   rw[fG c f,B];show(bM ((s2 b t l j).1.set _ _) _).g=_/\(bM ((s2 b t l j).1.set _ _) _).d=_;rw[mC _ _ (by rw[z];omega),iF rfl];exact⟨rfl,rfl⟩
  rw[fG c O];show(bM ((s2 b t l k).1.set _ _) _).g=_/\(bM ((s2 b t l k).1.set _ _) _).d=_;rw[kP _ (λu=>e ((dU c).inj f O u))];exact kO ok i c f O O
end
def oG.pos{l:List Int}(hd:l.Nodup){i k:Nat}(z:i<l.length)(A:k<l.length)(h:oG l (el l i) (el l k)):i<k:=by
 obtain⟨a,c,e,u⟩:=h;obtain⟨q,D,g⟩:=qAk.1 u;have o:el l i=el l a.length:=by
  conv=>rhs;rw[e]
  simp[el]
 have s:el l k=el l (a.length+1+q):=by
  conv=>rhs;rw[e]
  rw[el,el,ZD (l:=a++el l i :: c) (by simp;omega),qAr O];have:a.length+1+q-a.length=q+1:=O;simp only[this,List.getElem_cons_succ];exact g.symm
 have f:l.length=a.length+1+c.length:=by
  conv=>lhs;rw[e]
  simp;omega
 have inj:∀{x y:Nat},x<l.length->y<l.length->el l x=el l y->x=y:=λB C e=>by rw[el,el,ZD B,ZD C]at e;exact(qBQ hd).1 e
 have:=inj z O o;have:=inj A O s;omega
section
variable{b:Sb}{t:N4}{l:List Int}
abbrev wZ(b:Sb)(t:N4)(l:List Int)(z:Int):Wk:=bM (VN b t l) z.toNat
abbrev rB:Nat->Int:=λ_=>0
abbrev dB(t:N4)(l:List Int):Nat->Int:=λj=>t.get (el l j).toNat
def jG(f:Yp t)(i:b.pk.length<=4)(c:bK b.pk.length l):∀j,0<=dB t l j:=λj=>by
 by_cases h:j<b.pk.length
 ·have:=c.at_ h;exact(f _ O).1
 have e:el l j=0:=by rw[el,qAa,qAn (by have:=c.len;omega)];rfl
 show 0<=t.get (el l j).toNat;rw[e];exact(f 0 (by decide)).1
def gH(ok:bA b)(p:Nat):0<=(aD b p).bF:=by
 by_cases h:p<b.pk.length
 ·have:=(ok.pk p h).2.2.1;rw[aD,ZD h];omega
 rw[aD,qAa,qAn O];exact qAx _
def gR(ok:bA b)(h:Yp t)(c:bK b.pk.length l){j:Nat}(g:j<b.pk.length) :
  (wZ b t l (el l j)).i=qS rB (dB t l) b.pl.toNat j/\(wZ b t l (el l j)).o=qS rB (dB t l) b.pl.toNat j+dB t l j:=by
 have e:=kL ok h c g (k:=b.pk.length) g (dO _);rw[hZ c.len]at e;have f:=eR ok h c (el l j).toNat (dO _);rw[kN c]at f;exact⟨f.2.2.1.trans e.1,f.2.2.2.trans e.2⟩
def eI(ok:bA b)(i:Yp t)(e:bK b.pk.length l){j:Nat}(h:j<b.pk.length) :
  (wZ b t l (el (Ul b t l) j)).g=qS (rT b t l) (dT b t l) b.hd.toNat j/\(wZ b t l (el (Ul b t l) j)).d=qS (rT b t l) (dT b t l) b.hd.toNat j+dT b t l j/\(wZ b t l (el (Ul b t l) j)).o=rT b t l j:=by
 have c:=kO ok i e h (k:=b.pk.length) h (dO _);have f:=eR ok i e (el (Ul b t l) j).toNat (dO _);rw[kN e]at c f;exact⟨c.1,c.2,f.2.2.2⟩
def fH(g:bK b.pk.length l){j:Nat}(i:j<b.pk.length):∃k,k<b.pk.length/\el (Ul b t l) k=el l j:=by
 have h:=dU (t:=t) g;have c:j<l.length:=by rw[g.len];exact i
 have o:el l j∈Ul b t l:=(tI _ _).mem_iff.2 (by rw[el,ZD c];exact bY c);obtain⟨k,f,e⟩:=qAk.1 o;exact⟨k,by rw[<-h.len];exact f,by rw[el,ZD f];exact e⟩
def iI(g:bK b.pk.length l):∀j,j+1<b.pk.length->rT b t l j<=rT b t l (j+1):=λj i=>by
 have f:=dU (t:=t) g;have c:j<(Ul b t l).length:=by rw[f.len];omega
 have e:j+1<(Ul b t l).length:=by rw[f.len];omega
 have h:=qAY.1 (jU (kD (fA b t l).1) l) j (j+1) c e O;have e1:el (Ul b t l) j=(Ul b t l)[j]:=ZD c _;have e2:el (Ul b t l) (j+1)=(Ul b t l)[j+1]:=ZD e _;show(bM _ (el (Ul b t l) j).toNat).o<=(bM _ (el (Ul b t l) (j+1)).toNat).o;rw[e1,e2];exact h.le
def pH(ok:bA b)(e:Yp t)(c:bK b.pk.length l)(j:Nat):0<=rT b t l j:=by have h:=(fU ok e c (dO _)).o (el (Ul b t l) j).toNat;rw[hZ c.len]at h;exact h.1
def rD(ok:bA b)(h:Yp t)(f:bK b.pk.length l){j:Nat}(z:j<b.pk.length) :
  0<=(wZ b t l (el l j)).i/\(wZ b t l (el l j)).o=(wZ b t l (el l j)).i+t.get (el l j).toNat/\(wZ b t l (el l j)).o<=(wZ b t l (el l j)).g/\(wZ b t l (el l j)).d=(wZ b t l (el l j)).g+(aD b (el l j).toNat).bF /\
  (∀i,i<=j->(wZ b t l (el l i)).i<=(wZ b t l (el l j)).i):=by
 have I:=ok.n;have J:=ok.pl;obtain⟨s,C⟩:=gR ok h f z;obtain⟨k,G,e⟩:=fH (t:=t) f z;obtain⟨u,A,B⟩:=eI ok h f G;have D:dT b t l k=(aD b (el l j).toNat).bF:=by show(aD b (el (Ul b t l) k).toNat).bF=_;rw[e]
 rw[e]at u A B;refine⟨by rw[s];exact qDd _ _,by rw[C,s],by rw[B,u];exact qDd _ _,by rw[A,u,D],λi F=>?_⟩;rw[s,(gR ok h f (show i<b.pk.length by omega)).1];exact iJ (N:=b.pk.length) O (jG h I.2 f) (λ_ _=>qAx _) F z
def lT(ok:bA b)(k:Yp t)(c:bK b.pk.length l)(z:Int){n:Nat}(h:n<=b.pk.length) :
  ((l.take n).filter λy=>decide ((wZ b t l y).i<=z/\z<(wZ b t l y).o)).length=qC rB (dB t l) b.pl.toNat z n:=by
 rw[<-iY _ l (by rw[c.len];exact h),qC];congr 1;refine qBW λj g=>?_;obtain⟨e,f⟩:=gR ok k c (show j<b.pk.length by have:=qAl.1 g;omega);rw[e,f]
def sH(ok:bA b)(g:Yp t)(f:bK b.pk.length l){j:Nat}(u:j<b.pk.length) :
  ((l.filter λy=>decide ((wZ b t l y).i<=(wZ b t l (el l j)).i/\(wZ b t l (el l j)).i<(wZ b t l y).o)).length:Int)<=b.pl:=by
 have k:=ok.n;have s:=ok.pl;have h:=lT ok g f (wZ b t l (el l j)).i (dO b.pk.length);have e:l.take b.pk.length=l:=by rw[<-f.len];exact IF
 rw[e]at h;rw[h];have:=kT (r:=rB) (show 1<=b.pl.toNat by omega) (jG g k.2 f) (wZ b t l (el l j)).i b.pk.length;omega
def sU(ok:bA b)(f:Yp t)(c:bK b.pk.length l){j:Nat}(k:j<b.pk.length)(g:0<(wZ b t l (el l j)).i) :
  (((l.take j).filter λy=>decide ((wZ b t l y).i<(wZ b t l (el l j)).i/\(wZ b t l (el l j)).i-1<(wZ b t l y).o)).length:Int)=b.pl:=by
 have s:=ok.n;have u:=ok.pl;have h:=lT ok f c ((wZ b t l (el l j)).i-1) (show j<=b.pk.length by omega);have e:(λy=>decide ((wZ b t l y).i<(wZ b t l (el l j)).i/\(wZ b t l (el l j)).i-1<(wZ b t l y).o))=λy=>decide ((wZ b t l y).i<=(wZ b t l (el l j)).i-1/\(wZ b t l (el l j)).i-1<(wZ b t l y).o):=by funext y;exact qBk.2 O
 rw[e,h];have z:=(gR ok f c k).1;rw[z]at g ⊢;have:=k9 (r:=rB) (N:=b.pk.length) (show 1<=b.pl.toNat by omega) (jG f s.2 c) (qAx _) (λ_ _=>qAx _) k g;rw[this];omega
def lV(ok:bA b)(s:Yp t)(h:bK b.pk.length l)(z:Int) :
  (l.filter λy=>decide ((wZ b t l y).g<=z/\z<(wZ b t l y).d)).length=qC (rT b t l) (dT b t l) b.hd.toNat z b.pk.length:=by
 have f:=dU (t:=t) h;have e:(Ul b t l).take b.pk.length=Ul b t l:=by rw[<-f.len];exact IF
 rw[<-((tI (kD (fA b t l).1) l).filter _).length_eq];show((Ul b t l).filter _).length=_;rw[<-e,<-iY _ _ (by rw[f.len];exact dO _),qC];congr 1;refine qBW λj o=>?_;obtain⟨i,k,_⟩:=eI ok s h (show j<b.pk.length from qAl.1 o);rw[i,k]
def rI(ok:bA b)(f:Yp t)(e:bK b.pk.length l)(z:Int) :
  ((l.filter λy=>decide ((wZ b t l y).g<=z/\z<(wZ b t l y).d)).length:Int)<=b.hd:=by
 have c:=ok.hd;rw[lV ok f e];have:=kT (r:=rT b t l) (show 1<=b.hd.toNat by omega) (λj=>gH ok _) z b.pk.length (d:=dT b t l);omega
def sV(ok:bA b)(s:Yp t)(c:bK b.pk.length l){j:Nat}(B:j<b.pk.length)(f:(wZ b t l (el l j)).o<(wZ b t l (el l j)).g) :
  ((l.filter λy=>decide ((wZ b t l y).g<(wZ b t l (el l j)).g/\(wZ b t l (el l j)).g-1<(wZ b t l y).d)).length:Int)=b.hd:=by
 have A:=ok.hd;have h:=lV ok s c ((wZ b t l (el l j)).g-1);have e:(λy=>decide ((wZ b t l y).g<(wZ b t l (el l j)).g/\(wZ b t l (el l j)).g-1<(wZ b t l y).d))=λy=>decide ((wZ b t l y).g<=(wZ b t l (el l j)).g-1/\(wZ b t l (el l j)).g-1<(wZ b t l y).d):=by funext y;exact qBk.2 O
 rw[e,h];obtain⟨k,i,e⟩:=fH (t:=t) c B;obtain⟨u,C,z⟩:=eI ok s c i;rw[<-e]at f ⊢;rw[u,z]at f;rw[u,pS (N:=b.pk.length) O (λj=>gH ok _) (iI c) i O (dO _),
  k9 (N:=b.pk.length) O (λj=>gH ok _) (pH ok s c k) (iI c) i f]
 omega
def sI(ok:bA b)(F:Yp t)(c:bK b.pk.length l){i k:Nat}(C:i<b.pk.length)(D:k<b.pk.length)
  (h:(wZ b t l (el l k)).o<(wZ b t l (el l i)).o\/((wZ b t l (el l k)).o=(wZ b t l (el l i)).o/\k<i)):(wZ b t l (el l k)).g<=(wZ b t l (el l i)).g:=by
 have J:=ok.hd;have B:=dU (t:=t) c;obtain⟨x,G,f⟩:=fH (t:=t) c C;obtain⟨y,K,s⟩:=fH (t:=t) c D;obtain⟨L,T,M⟩:=eI ok F c G;obtain⟨Q,U,R⟩:=eI ok F c K;have u:y<=x:=qAd λS=>by
  have z:x<(Ul b t l).length:=by rw[B.len];omega
  have A:y<(Ul b t l).length:=by rw[B.len];omega
  have e:=qAY.1 (jU (kD (fA b t l).1) l) x y z A O;have e1:el (Ul b t l) x=(Ul b t l)[x]:=ZD z _;have e2:el (Ul b t l) y=(Ul b t l)[y]:=ZD A _;have e:Kb (kD (fA b t l).1) l (Ul b t l)[x] (Ul b t l)[y]:=e;rw[<-e1,<-e2,f,s]at e;have k1:kD (fA b t l).1 (el l i)=(wZ b t l (el l i)).o:=by rw[<-f,M];rfl
  have k2:kD (fA b t l).1 (el l k)=(wZ b t l (el l k)).o:=by rw[<-s,R];rfl
  rcases e with e | ⟨e,I⟩
  ·omega
  have:=I.pos c.nd (by rw[c.len];exact C) (by rw[c.len];exact D);omega
 have:=iJ (r:=rT b t l) (d:=dT b t l) (m:=b.hd.toNat) (N:=b.pk.length) O (λj=>gH ok _) (iI c) u G;rw[<-f,<-s,L,Q];exact this
end
def qM:((ZB 1).all λp=>(List.range 1).all λi=>p.contains (i:Int))=true/\((ZB 2).all λp=>(List.range 2).all λi=>p.contains (i:Int))=true/\((ZB 3).all λp=>(List.range 3).all λi=>p.contains (i:Int))=true/\((ZB 4).all λp=>(List.range 4).all λi=>p.contains (i:Int))=true:=by decide +kernel
def pR:(∀p∈ZB 1,p.Nodup)/\(∀p∈ZB 2,p.Nodup)/\(∀p∈ZB 3,p.Nodup)/\(∀p∈ZB 4,p.Nodup):=by decide +kernel
def qL{n:Nat}(s:1<=n/\n<=4)(o:p∈ZB n){i:Nat}(k:i<n):(i:Int)∈p:=by
 obtain⟨c,e,f,g⟩:=qM;have key:((ZB n).all λp=>(List.range n).all λi=>p.contains (i:Int))=true->(i:Int)∈p:=λh=>by have:=IN.1 (IN.1 h p o) i (qAl.2 k);simpa using this
 have:n=1\/n=2\/n=3\/n=4:=O;rcases this with rfl | rfl | rfl | rfl
 ·exact key c
 ·exact key e
 ·exact key f
 exact key g
def pQ{n:Nat}(o:1<=n/\n<=4)(c:p∈ZB n):bK n p:=by
 obtain⟨i,k⟩:=CW c;refine⟨i,?_,k⟩;obtain⟨e,f,g,h⟩:=pR;have:n=1\/n=2\/n=3\/n=4:=O;rcases this with rfl | rfl | rfl | rfl
 ·exact e p c
 ·exact f p c
 ·exact g p c
 exact h p c
def kY{n:Nat}{l:List Int}(f:bK n l):∀j,j<=l.length->VB n l j=0
 | 0,_=>rfl
 | j+1,o=>by
  have c:j<l.length:=o;rw[VB,aT (by rw[kY f j O];decide),ZD c,aT (by have:=f.rg _ (bY c);omega),aT];intro h;obtain⟨z,s,e⟩:=qBg.1 h;have e:l[j]=z:=by simpa using e
  obtain⟨i,k,g⟩:=qAk.1 s;rw[qBC]at g;rw[qAj]at k;have:=(qBQ (h₀:=show i<l.length by omega) (h₁:=c) f.nd).1 (by rw[g,e]);omega
def qK{b:Sb}{l:List Int}(c:bK b.pk.length l):Yq b l=0:=by rw[Yq,aT (by rw[c.len];exact λh=>h rfl)];exact kY c _ (dO _)
def mT{b:Sb}{l:List Int}(c:l.length=b.pk.length)(f:∀z∈l,1<=z/\z<=20):Um b l=0:=by rw[Um,aT (by rw[c];exact λh=>h rfl),aT];intro h;obtain⟨z,g,e⟩:=qBg.1 h;have:=f z g;simp[uV]at e;omega
def gD{b:Sb}(ok:bA b){i:Nat}(h:i<b.pk.length):(1<=(aD b i).lo/\(aD b i).lo<=(aD b i).hi/\(aD b i).hi<=20)/\(aD b i).hi-(aD b i).lo<3/\(1<=(aD b i).bF/\(aD b i).bF<=20)/\(1<=(aD b i).bJ/\(aD b i).bJ<=20):=by rw[aD,ZD h];exact ok.pk i h
