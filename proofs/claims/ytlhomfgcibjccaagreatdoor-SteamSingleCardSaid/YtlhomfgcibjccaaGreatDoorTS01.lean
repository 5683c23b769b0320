import Derived.Test.YtlhomfgcibjccaaGreatDoorTS00
set_option linter.all false
set_option maxHeartbeats 8000000
set_option maxRecDepth 100000
section
open Go Go.LL Go.Conc Go.ConcM
namespace Go.Proofs.YtlhomfgcibjccaaGreatDoor
def mD:Tryz.pinned.checked.prog.funcNamed Rows.steamSingleRow.func=some 7:=U
def mV:(Rows.steamSingleRow.inPlace == Tryz.pinned.checked.prog.inPlace 7)=true:=U
def mW:(Rows.steamSingleRow.unfollowed == Tryz.pinned.checked.prog.unfollowed 7)=true:=U
def lT:(Rows.steamSingleRow.recurses == Tryz.pinned.checked.prog.recurses 7)=true:=U
def mE:(Rows.steamSingleRow.named == Tryz.pinned.checked.prog.varsNamed 7)=true:=U
def lS:joinedFacts Tryz.pinned.checked.prog 7 Tryz.f7 Rows.steamSingleSpec Rows.steamSingleRow=true:=by unfold joinedFacts;exact aE (aE (aE (aE (aE (aE (aE (aE (aE (aE (aE (aE (aE (aE (aE (aE (aE (aE (aE (aE (aE (aE (aE (aE (aE (aE (aE (aE (aE (aE (aE U z4) gV) U) U) U) U) U) U) mV) mW) lT) mE) U) U) U) U) U) U) U) U) U) U) U) fX) fY) U) U) U) U) U) U
def lU:Tryz.f7.isInstance Tryz.pinned.checked.prog Rows.steamSingleRow.origin Rows.steamSingleRow.targs:=of_decide_eq_true U
def mF:Tryz.f7.isWrapper Tryz.pinned.checked.prog Rows.steamSingleRow.wrapper Rows.steamSingleRow.mainSum:=by unfold Func.isWrapper;first | (rw[iF (by decide +kernel)];kernel_rfl) | (rw[aT (by decide +kernel)];exact⟨rfl,rfl⟩)
end Go.Proofs.YtlhomfgcibjccaaGreatDoor
end
section
open Go Go.LL
namespace Go.Proofs
structure fI where
 n:Int
 lo:0<=n
 hi:n<65536
instance:Enc fI:=⟨1,λu=>[.int .u16 u.n],λ_=>rfl⟩
def cZ(l:List fI)(i:Int):Int:=if h:0<=i/\i.toNat<l.length then l[i.toNat].n else 0
def lL(l:List fI)(i:Int):0<=cZ l i/\cZ l i<65536:=by
 unfold cZ;split
 ·exact⟨l[i.toNat].lo,l[i.toNat].hi⟩
 omega
section
variable{P:aX}[Tz P][Loud P]{H:Hp}
theorem sO{lv:Value}{l:List fI}{i:Int}(h:aF H lv l):LL.Zc P 110 #[lv,vi i] H λv o=>H=o/\v=vi (cZ l i):=by
 have e:=h;obtain⟨A,c,rfl,B⟩:=h;refine aJ.m (bG HY) (args:=[_,vi i]) rfl ?_;unfold AZ;refine OJ (λf=>?_) (λf=>?_)
 ·refine OJ (λs=>?_) (λs=>?_)
  ·refine Y ?_;obtain⟨k,rfl⟩:=qBr f;have g:k<l.length:=O;refine pN e rfl rfl rfl g λa u=>Y ?_;refine Ya u (Y ?_);refine Vs (bI Tryz.underlying199) (bI Tryz.underlying3) rfl (Y ?_);have z:cZ l (k:Int)=l[k].n:=by simp[cZ,g]
   rw[z];refine⟨rfl,?_⟩;have:=l[k].lo;have:=l[k].hi;rw[Uk ⟨O,O⟩];rfl
  refine Y ?_;refine⟨rfl,?_⟩;rw[cZ,qEc O];rfl
 refine Y ?_;refine⟨rfl,?_⟩;rw[cZ,qEc O];rfl
end
section
open Go.Conc Go.ConcM
open YtlhomfgcibjccaaGreatDoor Go.ChangeShapes Go.WideShapes
section
variable{H:Type}{enc:TypeId×Value->H}{W:World}{base:Nat}{sp:Nat->Bool}{held:Bool}{fuel:Nat}{cs:List Value}{y:DataW H×List MemPlace}{r:Reach}{b0:Nat}{v:Value}{d:DataW H}{ps:List MemPlace}
def lW(h:DataW.trod enc Tryz.prog W base sp held fuel 199 cs=some y):∃u:fI,cs=Enc.enc u:=by obtain⟨n,rfl,_,c⟩:=DataW.trod_int Tryz.underlying199 h;simp only[Lit.wf,qAc,qAR]at c;have e:IntKind.u16.min=0:=rfl;have f:IntKind.u16.max=65535:=rfl;exact⟨⟨n,O,O⟩,rfl⟩
def sJ:Tryz.prog.cellsOf 199=1:=U
def mM:Tryz.prog.underlying 59=some (.slice 199):=U
def pT{α:Type}[Enc α]{t e:TypeId}(h:Tryz.prog.underlying t=some (.slice e))(k:Tryz.prog.cellsOf e=Enc.sz α)(c:0<Enc.sz α)
  (g:∀{n:Nat} {cs:List Value} {y:DataW H×List MemPlace},DataW.trod enc Tryz.prog W base sp held n e cs=some y->∃x:α,cs=Enc.enc x)
  (f:Value.okWide Tryz.prog W r b0 t v) (o:DataW.Trod enc Tryz.prog W base sp held t v d ps):∃l:List α,aF (lQ W) v l:=by
 obtain⟨fuel,s⟩:=o;obtain⟨a,len,cap,rfl⟩:=okWide_slice h f;obtain⟨v,z,l,u⟩:=EK h k c g s;have:Value.slice a len cap=v:=by simpa[Value.cells]using z
 exact⟨l,this ▸ u⟩
def mJ(c:Value.okWide Tryz.prog W r b0 59 v)(e:DataW.Trod enc Tryz.prog W base sp held 59 v d ps):∃l:List fI,aF (lQ W) v l:=
 pT mM sJ (by decide) lW c e
def mL(c:Value.okWide Tryz.prog W r b0 5 v)(e:DataW.Trod enc Tryz.prog W base sp held 5 v d ps):∃n,v=.int .u8 n/\0<=n/\n<256:=by obtain⟨n,rfl,_,_,f⟩:=open_int Tryz.underlying5 c e;simp only[Lit.wf,qAc,qAR]at f;have g:IntKind.u8.min=0:=rfl;have h:IntKind.u8.max=255:=rfl;exact⟨n,rfl,O,O⟩
end
end
section
variable{j:Nat}{a:Int}
def mG{α:Type}{p:α->Prop}{l:List α}(f:j<l.length)(h:∀x∈l.take j,p x)(e:p l[j]):∀x∈l.take (j+1),p x:=by
 intro x c;rw[iN f]at c;rcases qAi.1 c with c | c
 ·exact h x c
 rw[oR.1 c];exact e
def qM{p q:Prop}[Decidable p][Decidable q](h:p↔q):(decide p != decide q)=false:=by
 by_cases c:q
 ·have f:=h.2 c;simp[f,c]
 have f:¬ p:=λe=>c (h.1 e);simp[f,c]
section
variable{P:aX}[Tz P][Loud P]{H:Hp}
def lM{lv:Value}{l:List Int}{n:Int}(k:aF H lv l)(u:l.length<=1000000):LL.Zc P 40 #[lv,vi n] H λv e=>H=e/\v=vb (decide (n∈l)):=by
 refine aJ.m (bG sE) (args:=[lv,vi n]) rfl ?_;unfold l8;refine Y ?_;refine Zv l.length (λj e=>H=e/\∀x∈l.take j,x≠n) (λj=>[(0,lv),(1,vi n),(5,vi j)]) (λ_=>[]) ⟨rfl,by simp⟩ V trivial ?_;rintro j _ z ⟨rfl,g⟩;refine Y ?_;refine YE k rfl ?_;refine OJ (λo=>?_) (λo=>?_)
 ·have c:j<l.length:=O;refine Y ?_;refine Zz j k c λa s=>Y ?_;refine Ya s ?_;refine OJ (λf=>?_) (λf=>?_)
  ·refine Y ?_;exact⟨rfl,by rw[decide_eq_true (show n∈l by rw[<-f];exact bY c)];rfl⟩
  refine Y ?_;exact dM (I:=λj e=>H=e/\∀x∈l.take j,x≠n) (env:=λj=>[(0,lv),(1,vi n),(5,vi j)]) (box:=λ_=>[]) c ⟨rfl,mG c g f⟩ V trivial rfl
 have:j=l.length:=O;subst this;rw[IF]at g;refine Y ?_;exact⟨rfl,by rw[qAo (show ¬ n∈l from λh=>g n h rfl)];rfl⟩
end
def fG{m:Int}(h:0<=a)(c:0<m):0<=a.tmod m/\a.tmod m<m:=⟨qDc _ h,qCK _ c⟩
theorem nJ{f:Nat->Int}:(List.range (j+1)).map f=(List.range j).map f++[f j]:=by rw[qBs,qBL];rfl
section
variable{P:aX}[Tz P][Loud P]{H:Hp}
def sQ{c n:Int}(h:0<=a/\a<=c/\c<=99)(f:0<=n):LL.Zc P 109 #[.agg #[vi a,vi c],vi n] H λv e=>H=e/\v=vi (a+n.tmod (c-a+1)):=by refine aJ.m (bG sI) (args:=[.agg #[vi a,vi c],vi n]) rfl ?_;unfold kP;refine Y ?_;refine jT rfl rfl O ?_;have:=fG (m:=c-a+1) f O;refine Y ?_;exact⟨rfl,rfl⟩
end
def lV{m:Int}{n:Nat}(h:0<=m)(c:0<n):∃i:Nat,i<n/\m.tmod n=i:=by have:=fG (m:=(n:Int)) h O;exact⟨(m.tmod n).toNat,O,O⟩
end
end Go.Proofs
end
section
open Go Go.LL
namespace Go.LL
section
variable{sT E:TypeId}{bV dI m:Nat}{zv w:Value}{xs:List Value}{a:Addr}
section
variable{P:aX}{H:Hp}{d:Option Nat}{next:aM->Hp->Prop}{σ:aM}{x y:Operand}
def sS{T:TypeId}(hu:P.toProgram.underlying sT=some (.slice E))(ti:TI P.toProgram E bV zv dI)(hz:zv.cells.size=bV)(he:0<bV)
  (S:(m=0/\∃A c,w=.slice A 0 c)\/∃a c,w=.slice (some a) m c/\aC H a xs) (I:xs.length=m * bV) (N:(xs.all Value.cJ)=true) (V:m<=1000000000) (J:dI<=1000) (o:P.still H.gh=false)
  {K:Value->Hp->Prop} (k0:m=0->K (.slice (some a) 0 0) H) (k1:∀r s rest,H r=none->m<=s->(xs++rest).length=s * bV->K (.slice (some ⟨r,0,none⟩) m s) (H.ins r (.cells (xs++rest).toArray E))):bL P.toPQ (Builtin.append_ #[sT,sT] T #[.slice (some a) 0 0,w]) (λv _ U=>K v U) false H:=by
 obtain⟨CK,G,i2,i3,M⟩:=ti.ex;have D:∀Q g,Q m g H->bL P.toPQ (Builtin.lenOf w) Q g H:=by intro Q g n;rcases S with⟨rfl,A,c,rfl⟩ | ⟨a,c,rfl,_⟩<;>simpa[Builtin.lenOf,Zj]using n
 have f:∀(Q:Array Value->Bool->Hp->Prop) g,Q xs.toArray g H->bL P.toPQ (Builtin.firstCells bV m w) Q g H:=by
  intro Q g n;rcases S with⟨rfl,A,c,rfl⟩ | ⟨a,c,rfl,X⟩
  ·have:xs=[]:=qAb (by simpa using I);subst this;cases A<;>simpa[Builtin.firstCells,Zj,loadCells,loadCellsFrom]using n
  simp only[Builtin.firstCells];exact yS o X n I
 have F:∀(Q:Array Value->Bool->Hp->Prop) g,Q #[] g H->bL P.toPQ (Builtin.firstCells bV 0 (.slice (some a) 0 0)) Q g H:=by intro Q g n;simpa[Builtin.firstCells,Zj,loadCells,loadCellsFrom]using n
 simp only[Builtin.append_,qAH,qAV,qAT,Zg,Zw hu,Z4 G,i2,Zj,DO,qAw];refine D _ _ ?_;simp only[qBU,qBp];by_cases C:0+m<=0
 ·rw[iF C];have Y:m=0:=O;subst Y;have L:xs=[]:=qAb (by simpa using I);subst L;simp only[Zg,Zj];refine f _ _ ?_;simpa[storeCells,Zj]using k0 rfl
 rw[aT C];simp only[Zg,O1 G,M];rw[aT (by rintro⟨h,_⟩;simp[IntKind.max,IntKind.bits,IntKind.signed]at h;omega)];simp only[Zg,Zj,O1 G,M];have z:¬ Builtin.nextslicecap (0+m) 0 * dI > 2 ^ 48:=by have N:=B7 (need:=0+m) (old:=0) O;have h2:Builtin.nextslicecap (0+m) 0 * dI<=(2 * (0+m)+200) * 1000:=qBq N J;omega
 rw[aT z];simp only[Zg,Zj,choose];rw[bL];simp only[Question.forced,DO,qAw];refine⟨o,λt=>?_⟩;have B:0+m<=(Question.appendCap (0+m) 0 E).cut t:=by simp only[Question.cut];omega
 generalize(Question.appendCap (0+m) 0 E).cut t=s at B;rw[bL];have u:∀(Q:Unit->Bool->Hp->Prop),Q () false H->bL P.toPQ (askRoom (s * dI)) Q false H:=by
  intro Q n;unfold askRoom;split
  ·exact⟨.inr ⟨rfl,o⟩,n⟩
  exact n
 rw[O1 G,M];refine u _ ?_;refine F _ _ ?_;refine f _ _ ?_;simp only[UC G i3,newRow,Zg,newObj,Zj];refine⟨o,λr Z=>?_⟩;have R:=k1 r s (Builtin.zeroCells zv.cells (s-(0+m))).toList Z O (by simp only[BY,I,qBy,B8,hz];rw[<-qCi];congr 1;omega);have e:(#[]++xs.toArray++Builtin.zeroCells zv.cells (s-(0+m)))=(xs++(Builtin.zeroCells zv.cells (s-(0+m))).toList).toArray:=by simp
 rw[qAE]at e R;rw[qAE,e];exact R
def kF{T:TypeId}(B:P.toProgram.underlying sT=some (.slice E))(F:TI P.toProgram E bV zv dI)(D:zv.cells.size=bV)(u:0<bV)(k:σ.get x=some (.slice (some a) 0 0))(n:σ.get y=some w)
  (C:(m=0/\∃A c,w=.slice A 0 c)\/∃a c,w=.slice (some a) m c/\aC H a xs) (z:xs.length=m * bV) (o:(xs.all Value.cJ)=true) (e:m<=1000000000) (f:dI<=1000) (g:P.still H.gh=false)
  (k0:m=0->next (σ.set d (.slice (some a) 0 0)) H) (k1:∀r h rest,H r=none->m<=h->(xs++rest).length=h * bV->next (σ.set d (.slice (some ⟨r,0,none⟩) m h)) (H.ins r (.cells (xs++rest).toArray E))):(bE.raw (.call { callee:=.builtin .append,args:=#[x,y],argTypes:=#[sT,sT] }) T).m P d next σ H:=by
 refine YS (s:=Builtin.append_ #[sT,sT] T #[.slice (some a) 0 0,w]) (by simp[Op.operands,Call.operands,k,n]) (by simp[execOp,aR,resolve,invoke,builtin,k,n]) ?_;exact sS (T:=T) B F D u C z o e f g k0 k1
end
end
end Go.LL
end
open Go Go.LL
namespace Go.Proofs
section
variable{α:Type}{H0:Hp}{r:Nat}{E:TypeId}
def jU[Enc α]{H:Hp}{c:Nat}{l:List α}{rest:List Value}(h:aL H0 H)(k:H r=none)(f:l.length<=c)(g:(Zb l++rest).length=c * Enc.sz α):dD H0 (H.ins r (.cells (Zb l++rest).toArray E)) E (.slice (some ⟨r,0,none⟩) l.length c) l (some r):=
 ⟨⟨VH l,.inr ⟨r,c,rest,rfl,rfl,Hp.aG _ _ _,g,f⟩⟩,λn e=>by obtain rfl:=iO e;exact YL h k⟩
section
variable{P:aX}[Tz P]{H:Hp}{d:Option Nat}{next:aM->Hp->Prop}{σ:aM}{x y:Operand}
def pR[Enc α]{sT T:TypeId}{dI:Nat}{zv w:Value}{l:List α}(J:P.toProgram.underlying sT=some (.slice E))(L:TI P.toProgram E (Enc.sz α) zv dI)(K:zv.cells.size=Enc.sz α)(F:0<Enc.sz α)
  (I:H0 r=none) (D:H=H0.ins r (.cells #[] E)) (V:aF H w l) (R:((Zb l).all Value.cJ)=true) (s:l.length<=1000000000) (k:dI<=1000) (B:σ.get x=some (.slice (some ⟨r,0,none⟩) 0 0)) (C:σ.get y=some w) (n:P.still H.gh=false)
  (h:∀M o N,aL H o->dD H0 o E M l N->next (σ.set d M) o):(bE.raw (.call { callee:=.builtin .append,args:=#[x,y],argTypes:=#[sT,sT] }) T).m P d next σ H:=by
 have G:aL H0 H:=by rw[D];exact Zs I
 obtain⟨A,c,rfl,S⟩:=V;by_cases u:l=[]
 ·subst u;refine kF J L K F B C (m:=0) (xs:=[]) (.inl ⟨rfl,A,c,rfl⟩) (by simp) rfl O k n (λ_=>?_) λz X rest e g f=>?_
  ·exact h _ _ (some r) (.refl _) (by rw[D];exact pU I)
  exact h _ _ (some z) (Zs e) (jU (l:=([]:List α)) G e g f)
 obtain⟨a,rfl,U⟩:=S u;refine kF J L K F B C (m:=l.length) (xs:=Zb l) (.inr ⟨a,c,rfl,U⟩) (VH l) R s k n (λQ=>absurd (qAb Q) u) λz X rest e g f=>?_;exact h _ _ (some z) (Zs e) (jU G e g f)
end
end
variable{i p ct cp:Nat}{qs:List bW}{ls:List (List Int)}{q:bW}{lt lp:List Int}{At Ap:Option Addr}
theorem B4.aZ(n:B4){j:Nat}(z:Bool)(i:Nat)(c:i<4)(e:j<4):(n.put j z).get i=if i=j then z else n.get i:=by
 match i,j,c,e with
 | 0,0,_,_=>rfl
 | 0,1,_,_=>rfl
 | 0,2,_,_=>rfl
 | 0,3,_,_=>rfl
 | 1,0,_,_=>rfl
 | 1,1,_,_=>rfl
 | 1,2,_,_=>rfl
 | 1,3,_,_=>rfl
 | 2,0,_,_=>rfl
 | 2,1,_,_=>rfl
 | 2,2,_,_=>rfl
 | 2,3,_,_=>rfl
 | 3,0,_,_=>rfl
 | 3,1,_,_=>rfl
 | 3,2,_,_=>rfl
 | 3,3,_,_=>rfl
section
variable{P:aX}[Tz P][Loud P]{H:Hp}
def mQ{b:Sb}(hb:Zr H b):LL.Zc P 36 #[b.v] H λv c=>H=c/\∃g,v=vb g/\(g=true->bA b):=by
 refine aJ.m (bG rI) (args:=[b.v]) rfl ?_;unfold kL Sb.v;refine Y ?_;refine Za [b.v] (eO hb) ?_;rintro v _ ⟨rfl,g,rfl,e⟩;cases g with
 | true=>
  refine Y ?_;exact⟨rfl,false,rfl,λh=>by simp at h⟩
 | false=>
  refine Y ?_;refine Za [b.v] (cF hb (e rfl).sz) ?_;rintro v _ ⟨rfl,rfl⟩;refine Y ?_;exact⟨rfl,decide (ZF b=0),by simp[Y5],λh=>Ow (of_decide_eq_true h)⟩
end
def bR(l:List Int)(j:Nat):List (List Int):=(List.range j).flatMap λ(i:Nat)=>if(i:Int)∈l then[]else[l++[(i:Int)]]
def dF(n:Nat):Nat->List (List Int)
 | 0=>[[]]
 | i+1=>(dF n i).flatMap λl=>bR l n
theorem kZ(l:List Int)(j:Nat):bR l (j+1)=bR l j++if(j:Int)∈l then[]else[l++[(j:Int)]]:=by rw[bR,qBs,qBb,qAQ];rfl
def qI{α β:Type}(f:α->List β){l:List α}{k:Nat}(h:k<l.length):(l.take (k+1)).flatMap f=(l.take k).flatMap f++f l[k]:=by rw[iN h,qBb,qAQ]
def pP:dF 1 1=ZB 1/\dF 2 2=ZB 2/\dF 3 3=ZB 3/\dF 4 4=ZB 4:=by decide +kernel
def qL{n:Nat}(h:1<=n/\n<=4):dF n n=ZB n:=by
 obtain⟨c,e,f,g⟩:=pP;have:n=1\/n=2\/n=3\/n=4:=O;rcases this with rfl | rfl | rfl | rfl
 ·exact c
 ·exact e
 ·exact f
 exact g
def qK:((List.range 5).all λn=>(List.range (n+1)).all λi=>decide ((dF n i).length<=24) && (dF n i).all λl=>decide (l.length<=4))=true:=by decide +kernel
def pQ{n:Nat}(f:n<=4)(e:i<=n):(dF n i).length<=24/\∀l∈dF n i,l.length<=4:=by have h:=IN.1 (IN.1 qK n (qAl.2 O)) i (qAl.2 O);rw[qAc,qAy,IN]at h;exact⟨h.1,λl c=>of_decide_eq_true (h.2 l c)⟩
def gD(l:List Int):∀j,(bR l j).length<=j
 | 0=>dO _
 | j+1=>by rw[kZ,BY];have:=gD l j;split<;>simp<;>omega
def kS{n:Nat}:∀(L:List (List Int)),(L.flatMap λl=>bR l n).length<=L.length * n
 | []=>by simp
 | l :: L=>by rw[qAM,BY,qAs,qBY];have:=kS (n:=n) L;have:=gD l n;omega
structure cX(H:Hp)(qs:List bW)(ls:List (List Int)):Prop where
 len:qs.length=ls.length
 at_:∀i (h:i<qs.length) (h':i<ls.length),aF H (dN qs[i]) ls[i]/\qs[i].2.1<=qs[i].2.2
def cX.nil(H:Hp):cX H [] []:=⟨rfl,λi h=>by simp at h⟩
def cX.inc{H H':Hp}(h:cX H qs ls)(c:aL H H'):cX H' qs ls:=⟨h.len,λi a b=>⟨((h.at_ i a b).1).inc c,(h.at_ i a b).2⟩⟩
def cX.snoc{H:Hp}{l:List Int}(h:cX H qs ls)(g:aF H (dN q) l)(f:q.2.1<=q.2.2):cX H (qs++[q]) (ls++[l]):=by
 refine⟨by simp[h.len],λi a b=>?_⟩;have:=h.len;by_cases c:i<qs.length
 ·rw[qAp c,qAp O];exact h.at_ i c O
 simp only[BY,qAA]at a;have e:i=qs.length:=O;subst e;rw[qAr (dO _),qAr O];simp[this];exact⟨g,f⟩
def gR{H:Hp}{l:List Int}(h:aF H (dN q) l):q.2.1=l.length:=by obtain⟨_,_,e,_⟩:=h;simp only[Value.slice.injEq]at e;exact e.2.1
def qF(r d:Nat->Int)(m:Nat):Nat->List Int
 | 0=>List.replicate m 0
 | j+1=>(qF r d m j).set (Zo (qF r d m j)) (max (r j) (el (qF r d m j) (Zo (qF r d m j)))+d j)
def qS(r d:Nat->Int)(m j:Nat):Int:=max (r j) (el (qF r d m j) (Zo (qF r d m j)))
def kX(p:Int->Bool)(v:Int):∀(l:List Int) (k:Nat) (_:k<l.length),((l.set k v).filter p).length+(if p (el l k)=true then 1 else 0)=(l.filter p).length+if p v=true then 1 else 0
 | [],k,h=>by simp at h
 | x :: l,0,_=>by show(((v :: l).filter p).length)+(if p x=true then 1 else 0)=_;rw[qAN,qAN];split<;>split<;>simp_all<;>omega
 | x :: l,k+1,h=>by
  have ih:=kX p v l k (by simpa using h);have e:el (x :: l) (k+1)=el l k:=by simp[el]
  rw[e];show((x :: l.set k v).filter p).length+_=_;rw[qAN,qAN];split
  ·rw[qAs,qAs];omega
  exact ih
def iX(r d:Nat->Int)(m:Nat):∀j,(qF r d m j).length=m
 | 0=>qBj
 | j+1=>by rw[qF,qAg,iX r d m j]
def pO{r d:Nat->Int}{m:Nat}(c:1<=m)(j:Nat):Zo (qF r d m j)<(qF r d m j).length:=uF (by intro e;have:=iX r d m j;rw[e]at this;simp at this;omega)
def gW{l:List Wk}{q:Nat}(w:Wk)(h:q≠p):bM (l.set p w) q=bM l q:=by unfold bM;rw[qAa,qAa,qCD,aT (qAF h)]
structure bK(n:Nat)(l:List Int):Prop where
 len:l.length=n
 nd:l.Nodup
 rg:∀z∈l,0<=z/\z<n
def bK.at_{n:Nat}{l:List Int}(h:bK n l){j:Nat}(e:j<n):0<=el l j/\el l j<n:=by
 have c:j<l.length:=by rw[h.len];exact e
 rw[el,ZD c];exact h.rg _ (bY c)
def bK.inj{n:Nat}{l:List Int}(h:bK n l){j:Nat}(k:i<n)(o:j<n)(e:(el l i).toNat=(el l j).toNat):i=j:=by
 have s:=h.at_ k;have u:=h.at_ o;have g:el l i=el l j:=O;have c:i<l.length:=by rw[h.len];exact k
 have f:j<l.length:=by rw[h.len];exact o
 rw[el,el,ZD c,ZD f]at g;exact(qBQ h.nd).1 g
def bK.perm{n:Nat}{l c:List Int}(h:bK n l)(p:c.Perm l):bK n c:=⟨p.length_eq.trans h.len,p.nodup_iff.2 h.nd,λz e=>h.rg z (p.mem_iff.1 e)⟩
section
variable{b:Sb}{t:N4}{l:List Int}
def s1(b:Sb)(t:N4)(l:List Int)(j:Nat):List Wk×List Int:=(l.take j).foldl (iG t) (tA b)
theorem fU{j:Nat}(c:j<l.length):s1 b t l (j+1)=iG t (s1 b t l j) (el l j):=by rw[s1,Oe _ _ c,el,ZD c];rfl
theorem fT(c:l.length=b.pk.length):s1 b t l b.pk.length=fA b t l:=by rw[s1,<-c,IF];rfl
def eR(ok:bA b)(f:Yp t)(c:bK b.pk.length l){j:Nat}(e:j<=b.pk.length):WB b.pk.length b.pl.toNat (20 * j) (s1 b t l j):=z7 ok f c.rg j (by rw[c.len];exact e)
def iI(ok:bA b)(e:Yp t)(c:bK b.pk.length l):∀{j:Nat},j<=b.pk.length->(s1 b t l j).2=qF (λ_=>0) (λj=>t.get (el l j).toNat) b.pl.toNat j
 | 0,_=>rfl
 | j+1,f=>by have ih:=iI ok e c (j:=j) O;have h:=(eR ok e c (j:=j) O).fr (Zo (s1 b t l j).2);rw[fU (by rw[c.len];exact f),qF,<-ih];show(s1 b t l j).2.set _ _=_;rw[qCI h.1]
def iJ(ok:bA b)(g:Yp t)(c:bK b.pk.length l){j:Nat}(f:j<b.pk.length):∀{k:Nat},j<k->k<=b.pk.length ->
  (bM (s1 b t l k).1 (el l j).toNat).i=qS (λ_=>0) (λj=>t.get (el l j).toNat) b.pl.toNat j /\
  (bM (s1 b t l k).1 (el l j).toNat).o=qS (λ_=>0) (λj=>t.get (el l j).toNat) b.pl.toNat j+t.get (el l j).toNat
 | 0,h,_=>absurd h (qBm _)
 | k+1,h,B=>by
  have C:=c.at_ f;by_cases e:j=k
  ·subst e;have n:=(eR ok g c (j:=j) O);have z:=n.fr (Zo (s1 b t l j).2);have A:qS (λ_=>0) (λj=>t.get (el l j).toNat) b.pl.toNat j=el (s1 b t l j).2 (Zo (s1 b t l j).2):=by rw[qS,<-iI ok g c O,qCI z.1]
   rw[fU (by rw[c.len];exact f),A];show(bM ((s1 b t l j).1.set _ _) _).i=_/\(bM ((s1 b t l j).1.set _ _) _).o=_;rw[mC _ _ (by rw[n.l1];omega),iF rfl];exact⟨rfl,rfl⟩
  rw[fU (by rw[c.len];omega)];show(bM ((s1 b t l k).1.set _ _) _).i=_/\(bM ((s1 b t l k).1.set _ _) _).o=_;rw[gW _ (λu=>e (c.inj f O u))];exact iJ ok g c f O O
def s2(b:Sb)(t:N4)(l:List Int)(j:Nat):List Wk×List Int:=((Ul b t l).take j).foldl (fK b) ((fA b t l).1,List.replicate b.hd.toNat 0)
def dP(c:bK b.pk.length l):bK b.pk.length (Ul b t l):=c.perm (tI _ _)
theorem eI(f:bK b.pk.length l){j:Nat}(e:j<b.pk.length):s2 b t l (j+1)=fK b (s2 b t l j) (el (Ul b t l) j):=by
 have c:j<(Ul b t l).length:=by rw[(dP f).len];exact e
 rw[s2,Oe _ _ c,el,ZD c];rfl
theorem hZ(c:bK b.pk.length l):(s2 b t l b.pk.length).1=VN b t l:=by have h:=(dP (t:=t) c).len;rw[s2,<-h,IF];rfl
def dU(ok:bA b)(n:Yp t)(c:bK b.pk.length l)(p:Nat):∀{j:Nat},j<=b.pk.length ->
  (s2 b t l j).1.length=b.pk.length/\(s2 b t l j).2.length=b.hd.toNat/\(bM (s2 b t l j).1 p).i=(bM (fA b t l).1 p).i/\(bM (s2 b t l j).1 p).o=(bM (fA b t l).1 p).o
 | 0,_=>by have h:=eR ok n c (dO _);rw[fT c.len]at h;exact⟨h.l1,qBj,rfl,rfl⟩
 | j+1,u=>by
  obtain⟨f,s,g,k⟩:=dU ok n c p (j:=j) O;have z:=(dP (t:=t) c).at_ (j:=j) O;rw[eI c O];refine⟨qAg.trans f,qAg.trans s,?_⟩;show(bM ((s2 b t l j).1.set _ _) p).i=_/\(bM ((s2 b t l j).1.set _ _) p).o=_;rw[mC _ _ (by rw[f];omega)];split
  ·rename_i e;subst e;exact⟨g,k⟩
  exact⟨g,k⟩
abbrev rT(b:Sb)(t:N4)(l:List Int)(j:Nat):Int:=(bM (fA b t l).1 (el (Ul b t l) j).toNat).o
abbrev dT(b:Sb)(t:N4)(l:List Int)(j:Nat):Int:=(aD b (el (Ul b t l) j).toNat).bF
def iB(ok:bA b)(e:Yp t)(c:bK b.pk.length l):∀{j:Nat},j<=b.pk.length->(s2 b t l j).2=qF (rT b t l) (dT b t l) b.hd.toNat j
 | 0,_=>rfl
 | j+1,f=>by have ih:=iB ok e c (j:=j) O;have h:=(dU ok e c (el (Ul b t l) j).toNat (j:=j) O).2.2.2;rw[eI c O,qF,<-ih];show(s2 b t l j).2.set _ _=_;rw[h]
def iA(ok:bA b)(n:Yp t)(c:bK b.pk.length l){j:Nat}(f:j<b.pk.length):∀{k:Nat},j<k->k<=b.pk.length ->
  (bM (s2 b t l k).1 (el (Ul b t l) j).toNat).g=qS (rT b t l) (dT b t l) b.hd.toNat j/\(bM (s2 b t l k).1 (el (Ul b t l) j).toNat).d=qS (rT b t l) (dT b t l) b.hd.toNat j+dT b t l j
 | 0,h,_=>absurd h (qBm _)
 | k+1,h,F=>by
  have G:=(dP (t:=t) c).at_ f;by_cases e:j=k
  ·subst e;obtain⟨z,C,D,A⟩:=dU ok n c (el (Ul b t l) j).toNat (j:=j) O;have B:qS (rT b t l) (dT b t l) b.hd.toNat j=max (bM (s2 b t l j).1 (el (Ul b t l) j).toNat).o (el (s2 b t l j).2 (Zo (s2 b t l j).2)):=by rw[qS,<-iB ok n c O,A]
   rw[eI c f,B];show(bM ((s2 b t l j).1.set _ _) _).g=_/\(bM ((s2 b t l j).1.set _ _) _).d=_;rw[mC _ _ (by rw[z];omega),iF rfl];exact⟨rfl,rfl⟩
  rw[eI c O];show(bM ((s2 b t l k).1.set _ _) _).g=_/\(bM ((s2 b t l k).1.set _ _) _).d=_;rw[gW _ (λu=>e ((dP c).inj f O u))];exact iA ok n c f O O
abbrev wZ(b:Sb)(t:N4)(l:List Int)(z:Int):Wk:=bM (VN b t l) z.toNat
abbrev rB:Nat->Int:=λ_=>0
abbrev dB(t:N4)(l:List Int):Nat->Int:=λj=>t.get (el l j).toNat
def kR(f:Yp t)(k:b.pk.length<=4)(c:bK b.pk.length l):∀j,0<=dB t l j:=λj=>by
 by_cases h:j<b.pk.length
 ·have:=c.at_ h;exact(f _ O).1
 have e:el l j=0:=by rw[el,qAa,qAn (by have:=c.len;omega)];rfl
 show 0<=t.get (el l j).toNat;rw[e];exact(f 0 (by decide)).1
def lK(ok:bA b)(h:Yp t)(c:bK b.pk.length l){j:Nat}(g:j<b.pk.length) :
  (wZ b t l (el l j)).i=qS rB (dB t l) b.pl.toNat j/\(wZ b t l (el l j)).o=qS rB (dB t l) b.pl.toNat j+dB t l j:=by
 have e:=iJ ok h c g (k:=b.pk.length) g (dO _);rw[fT c.len]at e;have f:=dU ok h c (el l j).toNat (dO _);rw[hZ c]at f;exact⟨f.2.2.1.trans e.1,f.2.2.2.trans e.2⟩
def qJ(ok:bA b)(n:Yp t)(e:bK b.pk.length l){j:Nat}(h:j<b.pk.length) :
  (wZ b t l (el (Ul b t l) j)).g=qS (rT b t l) (dT b t l) b.hd.toNat j/\(wZ b t l (el (Ul b t l) j)).d=qS (rT b t l) (dT b t l) b.hd.toNat j+dT b t l j/\(wZ b t l (el (Ul b t l) j)).o=rT b t l j:=by
 have c:=iA ok n e h (k:=b.pk.length) h (dO _);have f:=dU ok n e (el (Ul b t l) j).toNat (dO _);rw[hZ e]at c f;exact⟨c.1,c.2,f.2.2.2⟩
def mI(g:bK b.pk.length l){j:Nat}(n:j<b.pk.length):∃k,k<b.pk.length/\el (Ul b t l) k=el l j:=by
 have h:=dP (t:=t) g;have c:j<l.length:=by rw[g.len];exact n
 have o:el l j∈Ul b t l:=(tI _ _).mem_iff.2 (by rw[el,ZD c];exact bY c);obtain⟨k,f,e⟩:=qAk.1 o;exact⟨k,by rw[<-h.len];exact f,by rw[el,ZD f];exact e⟩
def nI(ok:bA b)(e:Yp t)(c:bK b.pk.length l)(j:Nat):0<=rT b t l j:=by have h:=(eR ok e c (dO _)).o (el (Ul b t l) j).toNat;rw[fT c.len]at h;exact h.1
end
def gB{b:Sb}{w:List Wk}:∀{j:Nat},j<=4->∀{i:Nat},i<4->((U2 b w j).1.get i=true↔i<j/\(bM w i).o+(aD b i).bJ<(bM w i).d)
 | 0,_,i,c=>by
  have:(U2 b w 0).1.get i=false:=by
   match i,c with
   | 0,_=>rfl
   | 1,_=>rfl
   | 2,_=>rfl
   | 3,_=>rfl
  rw[this];exact⟨λh=>by simp at h,λh=>O⟩
 | j+1,f,i,c=>by
  have ih:=@gB b w j O i c;rw[U2];show((U2 b w j).1.put j _).get i=true↔_;rw[B4.aZ _ _ _ c O];split
  ·rename_i e;subst e;rw[qAy];exact⟨λh=>⟨O,h⟩,λh=>h.2⟩
  rw[ih];exact⟨λh=>⟨O,h.2⟩,λh=>⟨O,h.2⟩⟩
def kY{c:B4}{z:Int}:∀{j:Nat},z∈cS c j↔∃i:Nat,i<j/\z=i/\c.get i=true
 | 0=>by rw[cS];exact⟨λh=>by simp at h,λ⟨i,h,_⟩=>O⟩
 | j+1=>by
  rw[cS];have ih:=@kY c z j;split
  ·rename_i h;rw[qAi,ih,oR];constructor
   ·rintro(⟨i,k,f,g⟩ | k)
    ·exact⟨i,O,f,g⟩
    exact⟨j,O,k,h⟩
   rintro⟨i,k,f,g⟩;by_cases e:i=j
   ·subst e;exact .inr f
   exact .inl ⟨i,O,f,g⟩
  rename_i h;rw[ih];constructor
  ·rintro⟨i,k,f,g⟩;exact⟨i,O,f,g⟩
  rintro⟨i,k,f,g⟩;by_cases e:i=j
  ·subst e;exact absurd g h
  exact⟨i,O,f,g⟩
def sL{b:Sb}{t:N4}{l:List Int}{z:Int}:z∈gM b t l↔∃i:Nat,i<4/\z=i/\(Yg b t l).1.get i=true:=kY
def cH(d:Nat->Int):Nat->Int
 | 0=>0
 | j+1=>cH d j+d j
def eE{d:Nat->Int}(c:∀j,0<=d j):∀j,0<=cH d j
 | 0=>qAx _
 | j+1=>by rw[cH];have:=eE c j;have:=c j;omega
def k9(x:Int):Zo [x]=0:=by have:=uF (l:=[x]) (by simp);simpa using this
def iY{d:Nat->Int}(c:∀j,0<=d j):∀j,qF rB d 1 j=[cH d j]
 | 0=>rfl
 | j+1=>by rw[qF,iY c j];have:=eE c j;rw[k9];show[max 0 (cH d j)+d j]=[cH d j+d j];rw[qCI this]
def oS{d:Nat->Int}(c:∀j,0<=d j)(j:Nat):qS rB d 1 j=cH d j:=by have:=eE c j;rw[qS,iY c j,k9];exact qCI this
def F2(l:List Int):Nat:=(l.filter λf=>decide (f=0)).length
def gH{r d:Nat->Int}{m:Nat}(c:1<=m):∀j,m<=F2 (qF r d m j)+j
 | 0=>by
  have:F2 (List.replicate m 0)=m:=by rw[F2,(qBA (l:=List.replicate m (0:Int))).2,qBj];intro a k;rw[List.eq_of_mem_replicate k];rfl
  show m<=F2 (List.replicate m 0)+0;omega
 | j+1=>by have ih:=gH (r:=r) (d:=d) c j;have h:=kX (λf=>decide (f=0)) (qS r d m j+d j) (qF r d m j) _ (pO c j);have e:F2 (qF r d m (j+1))=((List.set (qF r d m j) (Zo (qF r d m j)) (qS r d m j+d j)).filter λf=>decide (f=0)).length:=rfl;have g:F2 (qF r d m j)=((qF r d m j).filter λf=>decide (f=0)).length:=rfl;rw[<-e,<-g]at h;split at h<;>split at h<;>omega
def iZ{r d:Nat->Int}{m j:Nat}(o:1<=m)(z:j<m)(u:0<=r j):qS r d m j=r j:=by
 have h:=gH (r:=r) (d:=d) o j;have s:0<F2 (qF r d m j):=O;obtain⟨f,c⟩:=List.exists_mem_of_length_pos s;obtain⟨c,e⟩:=qAC.1 c;have e:=of_decide_eq_true e;obtain⟨k,g,rfl⟩:=qAk.1 c;have:=CV g;have n:el (qF r d m j) k=0:=by rw[el,ZD g];exact e
 rw[n]at this;rw[qS];exact Int.max_eq_left O
section
variable{b:Sb}{t:N4}{l:List Int}
def mS(ok:bA b)(h:Yp t)(g:bK b.pk.length l)(u:b.pl=1){j:Nat}(k:j<b.pk.length) :
  (wZ b t l (el l j)).i=cH (dB t l) j/\(wZ b t l (el l j)).o=cH (dB t l) j+t.get (el l j).toNat:=by
 obtain⟨c,f⟩:=lK ok h g k;have e:b.pl.toNat=1:=O;rw[e,oS (kR h ok.n.2 g)]at c f;exact⟨c,f⟩
def k8(ok:bA b)(C:Yp t)(z:bK b.pk.length l)(s:∀p:Nat,p<b.pk.length->(p:Int)∈l)(J:b.pl=b.pk.length)(K:b.hd=b.pk.length)(B:p<b.pk.length) :
  bM (VN b t l) p=⟨0,t.get p,t.get p,t.get p+(aD b p).bF⟩:=by
 have L:=ok.n;obtain⟨j,u,ej⟩:∃j,j<b.pk.length/\el l j=p:=by obtain⟨j,u,e⟩:=qAk.1 (s p B);exact⟨j,by rw[<-z.len];exact u,by rw[el,ZD u];exact e⟩
 obtain⟨o,g⟩:=lK ok C z u;obtain⟨k,G,e⟩:=mI (t:=t) z u;obtain⟨h,f,F⟩:=qJ ok C z G;rw[iZ (r:=rB) O O (qAx _)]at o g;rw[iZ (r:=rT b t l) O O (nI ok C z k)]at h f;rw[<-F]at h f;have D:dT b t l k=(aD b p).bF:=by show(aD b (el (Ul b t l) k).toNat).bF=_;rw[e,ej];rfl
 rw[e,ej]at h f;rw[ej]at o g;have I:wZ b t l (p:Int)=bM (VN b t l) p:=rfl;have gE:dB t l j=t.get p:=by show t.get (el l j).toNat=_;rw[ej];rfl
 rw[I]at o g h f;rw[D]at f;rw[gE]at g;generalize bM (VN b t l) p=w at *;obtain⟨Q,R,N,M⟩:=w;simp only at o g h f;subst o h;rw[f,g];simp only[rB,Int.zero_add]
end
def pX:((ZB 1).all λp=>(List.range 1).all λi=>p.contains (i:Int))=true/\((ZB 2).all λp=>(List.range 2).all λi=>p.contains (i:Int))=true/\((ZB 3).all λp=>(List.range 3).all λi=>p.contains (i:Int))=true/\((ZB 4).all λp=>(List.range 4).all λi=>p.contains (i:Int))=true:=by decide +kernel
def pY:(∀p∈ZB 1,p.Nodup)/\(∀p∈ZB 2,p.Nodup)/\(∀p∈ZB 3,p.Nodup)/\(∀p∈ZB 4,p.Nodup):=by decide +kernel
def pH{n:Nat}(s:1<=n/\n<=4){p:List Int}(o:p∈ZB n)(k:i<n):(i:Int)∈p:=by
 obtain⟨c,e,f,g⟩:=pX;have key:((ZB n).all λp=>(List.range n).all λi=>p.contains (i:Int))=true->(i:Int)∈p:=λh=>by have:=IN.1 (IN.1 h p o) i (qAl.2 k);simpa using this
 have:n=1\/n=2\/n=3\/n=4:=O;rcases this with rfl | rfl | rfl | rfl
 ·exact key c
 ·exact key e
 ·exact key f
 exact key g
def pV{n:Nat}(s:1<=n/\n<=4){p:List Int}(c:p∈ZB n):bK n p:=by
 obtain⟨k,o⟩:=CW c;refine⟨k,?_,o⟩;obtain⟨e,f,g,h⟩:=pY;have:n=1\/n=2\/n=3\/n=4:=O;rcases this with rfl | rfl | rfl | rfl
 ·exact e p c
 ·exact f p c
 ·exact g p c
 exact h p c
def jG{n:Nat}{l:List Int}(f:bK n l):∀j,j<=l.length->VB n l j=0
 | 0,_=>rfl
 | j+1,o=>by
  have c:j<l.length:=o;rw[VB,aT (by rw[jG f j O];decide),ZD c,aT (by have:=f.rg _ (bY c);omega),aT];intro h;obtain⟨z,s,e⟩:=qBg.1 h;have e:l[j]=z:=by simpa using e
  obtain⟨i,k,g⟩:=qAk.1 s;rw[qBC]at g;rw[qAj]at k;have:=(qBQ (h₀:=show i<l.length by omega) (h₁:=c) f.nd).1 (by rw[g,e]);omega
def pW{b:Sb}{l:List Int}(c:bK b.pk.length l):Yq b l=0:=by rw[Yq,aT (by rw[c.len];exact λh=>h rfl)];exact jG c _ (dO _)
def mH{b:Sb}{l:List Int}(c:l.length=b.pk.length)(f:∀z∈l,1<=z/\z<=20):Um b l=0:=by rw[Um,aT (by rw[c];exact λh=>h rfl),aT];intro h;obtain⟨z,g,e⟩:=qBg.1 h;have:=f z g;simp[uV]at e;omega
def fH{b:Sb}(ok:bA b)(h:i<b.pk.length):(1<=(aD b i).lo/\(aD b i).lo<=(aD b i).hi/\(aD b i).hi<=20)/\(aD b i).hi-(aD b i).lo<3/\(1<=(aD b i).bF/\(aD b i).bF<=20)/\(1<=(aD b i).bJ/\(aD b i).bJ<=20):=by rw[aD,ZD h];exact ok.pk i h
section
variable{P:aX}[Tz P][Loud P]{H:Hp}
def sR{b:Sb}(hn:1<=b.pk.length/\b.pk.length<=4) :
  LL.Zc P 47 #[b.v] H λv H'=>aL H H'/\∃A c qs,v=.slice A qs.length c/\aF H' v qs/\cX H' qs (ZB b.pk.length):=by
 refine aJ.m (bG rD) (args:=[b.v]) rfl ?_;unfold kO Sb.v;refine Y ?_;refine ZY (cs:=Zb [((none,0,0):bW)]) (OL _) rfl λT qE=>?_;have s8:aF (H.ins T (.cells (Zb [((none,0,0):bW)]).toArray 26)) (.slice (some ⟨T,0,none⟩) 1 1) [((none,0,0):bW)]:=Z0 (l:=[((none,0,0):bW)]);have i8:aL H (H.ins T (.cells (Zb [((none,0,0):bW)]).toArray 26)):=Zs qE;generalize H.ins T (.cells (Zb [((none,0,0):bW)]).toArray 26)=H1 at *;refine Y ?_;refine ZO (α:=(Option Addr×Nat)×List bW) b.pk.length (λi s H'=>aL H H'/\aF H' (.slice s.1.1 s.2.length s.1.2) s.2/\cX H' s.2 (dF b.pk.length i))
  (λi s=>[(1,vi 0),(2,.slice none 0 0),(3,.slice s.1.1 s.2.length s.1.2),(4,vi i)]) (λ_ _=>[(1,b.cs)]) ((some ⟨T,0,none⟩,1),[(none,0,0)])
  ⟨i8,s8,rfl,λi h h'=>by(obtain rfl:i=0:=by simpa using h);exact⟨.nil _,dO _⟩⟩ V V ?_
 rintro i ⟨⟨A3,c3⟩,qs⟩ H2 hi ⟨i2,s3,R⟩;simp only at s3 R;have tE:=R.len;have lG:=pQ hn.2 (show i<=b.pk.length by omega);refine OJ (λh1=>?_) (λh1=>?_)
 ·have yL:i<b.pk.length:=O;refine Y ?_;refine ZO (α:=Hp×Value×List bW×Option Nat) qs.length (λk s H'=>aL H2 s.1/\aL s.1 H'/\dD s.1 H' 26 s.2.1 s.2.2.1 s.2.2.2/\cX s.1 s.2.2.1 (((dF b.pk.length i).take k).flatMap λl=>bR l b.pk.length))
   (λk s=>[(1,vi 0),(2,.slice none 0 0),(3,.slice A3 qs.length c3),(4,vi i),(5,s.2.1),(6,vi k)]) (λ_ _=>[(1,b.cs)]) (H2,.slice none 0 0,[],none) ⟨.refl _,.refl _,.nil _ _ _,.nil _⟩ V V ?_
  rintro k ⟨G,v5,ps,b5⟩ H3 hk ⟨g1,g2,o5,l5⟩;simp only at g1 g2 o5 l5;refine OJ (λh2=>?_) (λh2=>?_)
  ·have C:k<qs.length:=O;have D:k<(dF b.pk.length i).length:=O;obtain⟨sk,ck⟩:=R.at_ k C D;have vN:=qI (λl=>bR l b.pk.length) D;have F:=kS (n:=b.pk.length) ((dF b.pk.length i).take k);rw[qAj]at F;have F:(((dF b.pk.length i).take k).flatMap λl=>bR l b.pk.length).length<=96:=by refine qAz F (qAz (qBq (show min k _<=24 by omega) hn.2) (by decide))
   have CM:=lG.2 _ (bY D);generalize((dF b.pk.length i).take k).flatMap (λl=>bR l b.pk.length)=L at *;generalize(dF b.pk.length i)[k]=l at *;generalize qG:qs[k]=q at *;have N:=gR sk;obtain⟨qA,qn,qc⟩:=q;simp only at N ck;subst N;refine Y ?_;refine ZO (α:=Hp×Value×List bW×Option Nat) b.pk.length (λj s H'=>aL H2 s.1/\aL s.1 H'/\dD s.1 H' 26 s.2.1 s.2.2.1 s.2.2.2/\cX s.1 s.2.2.1 (L++bR l j))
    (λj s=>[(1,vi 0),(2,.slice none 0 0),(3,.slice A3 qs.length c3),(4,vi i),(5,s.2.1),(6,vi k),(7,vi j)]) (λ_ _=>[(1,b.cs)]) (G,v5,ps,b5) ⟨g1,g2,o5,by rw[bR,qCC,qCp,qAf];exact l5⟩ V V ?_
   rintro j ⟨G2,w5,I,X⟩ H4 hj ⟨J,K,o6,S⟩;simp only at J K o6 S;have mO:=S.len;rw[BY]at mO;have vI:=gD l j;refine OJ (λh3=>?_) (λh3=>?_)
   ·have g9:j<b.pk.length:=O;have g:=kZ l j;have u:=J.trans K;have row:Enc.enc qs[k]=[.slice qA l.length qc]:=by rw[qG];rfl
    refine Y ?_;refine Zz k (s3.inc u) C λa ha=>?_;rw[row]at ha;refine Y ?_;refine Ya ha (Y ?_);refine Za [.slice qA l.length qc,vi j] (lM (sk.inc u) O) ?_;rintro v _ ⟨rfl,rfl⟩;by_cases e:(j:Int)∈l
    ·rw[decide_eq_true e];rw[iF e,qAf]at g;refine Y ?_;exact⟨(⟨j+1,O⟩,(G2,w5,I,X)),bN O,⟨J,K,o6,by rw[g];exact S⟩,V,V,rfl⟩
    rw[qAo e];rw[aT e]at g;refine Y ?_;refine qZ (bI dW) (cD t3) (OL _) λr7 f=>Y ?_;refine Zz k ((s3.inc u).inc (Zs f)) C λa2 M=>?_;rw[row]at M;refine Y ?_;refine Ya M (Y ?_);refine pR (l:=l) (bI dW) (cD t3) rfl (by decide) f rfl ((sk.inc u).inc (Zs f)) (sG (λ_=>rfl) l) O O rfl rfl (OL _) λv8 H5 b8 i5 o8=>?_;have qD:aL H4 H5:=(Zs (o:=.cells #[] 3) f).trans i5;refine Y ?_;refine ZY (cs:=[vi (j:Int)]) (OL _) rfl λr9 Q=>Y ?_;refine U7 (l':=[(j:Int)]) (bI dW) (bI dW) (cD t3) rfl (by decide) (qD.trans (Zs Q)) (o8.ins Q) qY rfl (by simp;omega) O rfl rfl (OL _) λv9 H6 b9 k1 k2 k3=>?_;obtain⟨U,Z,rfl,q9⟩:=jF k2;obtain⟨G',m1,m2,m3,m4⟩:=yR K o6 k1 k2;refine Y ?_;refine ZY (cs:=[.slice U (l++[(j:Int)]).length Z]) (OL _) rfl λwL B=>Y ?_;refine U7 (l':=[((U,(l++[(j:Int)]).length,Z):bW)]) (bI kU) (bI kU) (cD rO) rfl (by decide) (m2.trans (Zs B)) (m3.ins B) (Z0 (l:=[((U,(l++[(j:Int)]).length,Z):bW)])) rfl (by simp;omega) O rfl rfl (OL _) λuY H7 vO n1 n2 n3=>Y ?_;exact⟨(⟨j+1,O⟩,(G',uY,I++[(U,(l++[(j:Int)]).length,Z)],vO)),bN O,⟨J.trans m1,n1,n2,by rw[g,<-qAW];exact(S.inc m1).snoc m4 q9⟩,V,V,rfl⟩
   have:j=b.pk.length:=O;subst this;refine Y ?_;exact⟨(⟨k+1,O⟩,(G2,w5,I,X)),bN O,⟨J,K,o6,by rw[vN];exact S⟩,V,V,rfl⟩
  have:k=qs.length:=O;subst this;rw[tE,IF]at l5;obtain⟨A5,X,rfl,q5⟩:=jF o5;refine Y ?_;exact⟨(⟨i+1,O⟩,((A5,X),ps)),bN O,⟨(i2.trans g1).trans g2,o5.sl,l5.inc g2⟩,V,V,rfl⟩
 have:i=b.pk.length:=O;subst this;rw[qL hn]at R;refine Y ?_;exact⟨i2,A3,c3,qs,rfl,s3,R⟩
def rH{b:Sb}{n:Int}(B:1<=b.pk.length/\b.pk.length<=4)(F:0<=n/\n<256) :
  LL.Zc P 37 #[b.v,.int .u8 n] H λv s=>aL H s/\∃A c p,p∈ZB b.pk.length/\v=.slice A p.length c/\p.length<=c/\aF s (.slice A p.length c) p:=by
 refine aJ.m (bG sV) (args:=[b.v,.int .u8 n]) rfl ?_;unfold kM Sb.v;refine Y ?_;refine Za [b.v] (sR B) ?_;rintro v M ⟨J,A,c,qs,rfl,sq,C⟩;have G:=C.len;have I:=CZ B;have k:0<qs.length:=by obtain⟨N,Q,R,S⟩:=IB;have:b.pk.length=1\/b.pk.length=2\/b.pk.length=3\/b.pk.length=4:=O;rcases this with e | e | e | e<;>rw[e]at G<;>omega
 refine Y ?_;refine Vs (bI Tryz.underlying5) (bI Tryz.underlying3) rfl ?_;rw[Uk (show pZ n from⟨O,O⟩)];refine Y ?_;refine jT rfl rfl O ?_;obtain⟨i,z,D⟩:=lV (n:=qs.length) F.1 k;rw[D];have g:i<(ZB b.pk.length).length:=O;obtain⟨s1,s2⟩:=C.at_ i z g;have o:=gR s1;have h:=bY g;have row:Enc.enc qs[i]=[dN qs[i]]:=rfl;refine Y ?_;refine Zz i sq z λa u=>?_;rw[row]at u;generalize qs[i]=q at *;generalize(ZB b.pk.length)[i]=p at *;obtain⟨K,T,L⟩:=q;simp only at o s2;subst o;refine Y ?_;refine Ya u (Y ?_);exact⟨J,K,L,p,h,rfl,s2,s1⟩
end
def bT(b:Sb)(l:List fI)(n:Nat):List Int:=(List.range n).map λ(i:Nat)=>(aD b i).lo+(cZ l i).tmod ((aD b i).hi-(aD b i).lo+1)
def eV(b:Sb)(l:List fI)(n:Nat):(bT b l n).length=n:=by simp[bT]
def nK(b:Sb)(l:List fI){n:Nat}(h:i<n):(bT b l n).getD i 0=(aD b i).lo+(cZ l i).tmod ((aD b i).hi-(aD b i).lo+1):=by rw[ZD (by rw[eV];exact h)];simp[bT]
def nL{b:Sb}(ok:bA b)(l:List fI)(h:i<b.pk.length):(aD b i).lo<=(bT b l b.pk.length).getD i 0/\(bT b l b.pk.length).getD i 0<=(aD b i).hi:=by rw[nK b l h];have c:=(fH ok h).1;have:=fG (m:=(aD b i).hi-(aD b i).lo+1) (lL l i).1 O;omega
def nW{b:Sb}(ok:bA b)(l:List fI):∀z∈bT b l b.pk.length,1<=z/\z<=20:=λz f=>by
 obtain⟨i,e,rfl⟩:=qAk.1 f;have c:i<b.pk.length:=by rw[eV]at e;exact e
 have h:=nL ok l c;rw[ZD e]at h;have:=(fH ok c).1;omega
section
variable{P:aX}[Tz P][Loud P]{H:Hp}{b:Sb}
def kT(ok:bA b)(c:lt.length=b.pk.length)(e:∀z∈lt,1<=z/\z<=20)(f:bK b.pk.length lp):Z7 b lt lp=0:=by rw[Z7,jO ok,aT (by decide),mH c e,aT (by decide),pW f]
theorem lJ(ok:bA b)(B:lt.length=b.pk.length)(o:∀z∈lt,1<=z/\z<=20)(f:bK b.pk.length lp)(J:aF H (.slice At lt.length ct) lt)(I:aF H (.slice Ap lp.length cp) lp)(F:lp.length<=cp)(hb:Zr H b)(G:Yk H)(k:aC H ⟨1,0,none⟩ [vf 284]) :
  LL.Zc P 45 #[b.v,.slice At lt.length ct,.slice Ap lp.length cp] H λv g=>aL H g/\∃A c,v=.tuple #[.slice A b.pk.length c,vi 0]/\aF g (.slice A b.pk.length c) (VN b (Ys lt) lp):=
 LL.Zc.mono (KM hb ok.sz' G k J I F (by have:=ok.n;omega) (by have:=f.len;have:=ok.n;omega)) λv g h=>by
  rw[kT ok B o f]at h;obtain⟨C,w,rfl,⟨D,_⟩ | ⟨_,K,s⟩⟩:=h
  ·exact absurd rfl D
  obtain⟨A,c,rfl,_⟩:=id s.sl;have e:=(tH ok (uE o) f.len f.rg).1;have u:=s.sl;rw[e]at u ⊢;exact⟨C,A,c,rfl,u⟩
theorem sP(ok:bA b)(o:lt.length=b.pk.length)(s:∀z∈lt,1<=z/\z<=20)(k:bK b.pk.length lp)(F:aF H (.slice At lt.length ct) lt)(D:aF H (.slice Ap lp.length cp) lp)(B:lp.length<=cp)(hb:Zr H b)(C:Yk H)(g:aC H ⟨1,0,none⟩ [vf 284]) :
  LL.Zc P 46 #[b.v,.slice At lt.length ct,.slice Ap lp.length cp] H λv e=>aL H e/\∃A c,v=.tuple #[.slice A (gM b (Ys lt) lp).length c,vi 0]/\aF e (.slice A (gM b (Ys lt) lp).length c) (gM b (Ys lt) lp):=
 LL.Zc.mono (KL hb ok.sz' C g F D B (by have:=ok.n;omega) (by have:=k.len;have:=ok.n;omega)) λv e h=>by rw[kT ok o s k]at h;obtain⟨u,w,G,rfl,f⟩:=h;rw[iF rfl]at f;obtain⟨A,c,rfl,_⟩:=id f.sl;exact⟨u,A,c,rfl,f.sl⟩
end
section
variable{P:aX}[Tz P][Loud P]{H:Hp}
def nM(b:Sb)(l:List fI)(j:Nat):bT b l (j+1)=bT b l j++[(aD b j).lo+(cZ l j).tmod ((aD b j).hi-(aD b j).lo+1)]:=nJ
def mR{b:Sb}{lv:Value}{l:List fI}(ok:bA b)(hb:Zr H b)(M:aF H lv l):LL.Zc P 44 #[b.v,lv] H λv g=>aL H g/\∃A c,v=.slice A (bT b l b.pk.length).length c/\(bT b l b.pk.length).length<=c/\aF g (.slice A (bT b l b.pk.length).length c) (bT b l b.pk.length):=by
 have hn:=ok.n;refine aJ.m (bG sH) (args:=[b.v,lv]) rfl ?_;unfold kN Sb.v;refine Y ?_;refine ZO (α:=Value×Option Nat) b.pk.length (λj s g=>aL H g/\dD H g 3 s.1 (bT b l j) s.2) (λj s=>[(1,lv),(2,vi 0),(4,.slice none 0 0),(5,s.1),(6,vi j)]) (λ_ _=>[(2,b.cs)]) (.slice none 0 0,none) ⟨.refl _,.nil _ _ _⟩ V V ?_;rintro j ⟨v6,U⟩ S Z ⟨u,B⟩;simp only at B;have N:=eV b l j;refine OJ (λL=>?_) (λL=>?_)
 ·have f:j<b.pk.length:=O;obtain⟨X,_⟩:=fH ok f;have row:Enc.enc b.pk[j]=[.string (aD b j).nm,vi (aD b j).lo,vi (aD b j).hi,vi (aD b j).bF,vi (aD b j).bJ]:=by rw[show b.pk[j]=aD b j from(ZD f _).symm];rfl
  have D:=nM b l j;refine Y ?_;refine Zz j (hb.pk.inc u) f λa F=>?_;rw[row]at F;refine Y ?_;refine Zn (cs:=[vi (aD b j).lo,vi (aD b j).hi]) (OL _) rfl (YN (ds:=[vi (aD b j).bF,vi (aD b j).bJ]) (eY (n:=1) F rfl)) rfl (Y ?_);refine Za [lv,vi j] (sO (M.inc u)) ?_;rintro v _ ⟨rfl,rfl⟩;refine Y ?_;refine Za [.agg #[vi (aD b j).lo,vi (aD b j).hi],vi (cZ l j)] (sQ O (lL l j).1) ?_;rintro v _ ⟨rfl,rfl⟩;generalize(aD b j).lo+(cZ l j).tmod ((aD b j).hi-(aD b j).lo+1)=x at *;refine Y ?_;refine ZY (cs:=[vi x]) (OL _) rfl λr5 k=>?_;refine Zp OL (Y ?_);refine U7 (l':=[x]) (bI dW) (bI dW) (cD t3) rfl (by decide) (u.trans (Zs k)) (B.ins k) qY rfl (by simp only[qAA];omega) O rfl rfl (OL _) λR T J k1 G k3=>?_;rw[<-D]at G;refine Y ?_;exact⟨(⟨j+1,O⟩,(R,J)),bN O,⟨k1,G⟩,V,V,rfl⟩
 have:j=b.pk.length:=O;subst this;obtain⟨I,K,rfl,Q⟩:=jF B;refine Y ?_;exact⟨u,I,K,rfl,Q,B.sl⟩
end
theorem nN{b:Sb}(h:i<b.pk.length):Enc.enc b.pk[i]=[.string (aD b i).nm,vi (aD b i).lo,vi (aD b i).hi,vi (aD b i).bF,vi (aD b i).bJ]:=by rw[show b.pk[i]=aD b i from(ZD h _).symm];rfl
