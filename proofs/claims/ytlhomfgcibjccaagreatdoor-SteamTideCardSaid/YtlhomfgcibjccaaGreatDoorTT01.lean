import Derived.Test.YtlhomfgcibjccaaGreatDoorTT00
set_option linter.all false
set_option maxHeartbeats 8000000
set_option maxRecDepth 100000
section
open Go Go.LL Go.Conc Go.ConcM
namespace Go.Proofs.YtlhomfgcibjccaaGreatDoor
def pH:Tryz.pinned.checked.prog.funcNamed Rows.steamTideRow.func=some 10:=U
def pY:(Rows.steamTideRow.inPlace == Tryz.pinned.checked.prog.inPlace 10)=true:=U
def pO:(Rows.steamTideRow.unfollowed == Tryz.pinned.checked.prog.unfollowed 10)=true:=U
def oS:(Rows.steamTideRow.recurses == Tryz.pinned.checked.prog.recurses 10)=true:=U
def oB:(Rows.steamTideRow.named == Tryz.pinned.checked.prog.varsNamed 10)=true:=U
def pX:joinedFacts Tryz.pinned.checked.prog 10 Tryz.f10 Rows.steamTideSpec Rows.steamTideRow=true:=by unfold joinedFacts;exact aE (aE (aE (aE (aE (aE (aE (aE (aE (aE (aE (aE (aE (aE (aE (aE (aE (aE (aE (aE (aE (aE (aE (aE (aE (aE (aE (aE (aE (aE (aE U z4) gV) U) U) U) U) U) U) pY) pO) oS) oB) U) U) U) U) U) U) U) U) U) U) U) fX) fY) U) U) U) U) U) U
def oC:Tryz.f10.isInstance Tryz.pinned.checked.prog Rows.steamTideRow.origin Rows.steamTideRow.targs:=of_decide_eq_true U
def nU:Tryz.f10.isWrapper Tryz.pinned.checked.prog Rows.steamTideRow.wrapper Rows.steamTideRow.mainSum:=by unfold Func.isWrapper;first | (rw[iF (by decide +kernel)];kernel_rfl) | (rw[aT (by decide +kernel)];exact⟨rfl,rfl⟩)
end Go.Proofs.YtlhomfgcibjccaaGreatDoor
end
section
open Go Go.LL
namespace Go.Proofs
structure fI where
 n:Int
 lo:0<=n
 hi:n<65536
instance:Enc fI:=⟨1,λu=>[.int .u16 u.n],λ_=>rfl⟩
def bT(l:List fI)(i:Int):Int:=if h:0<=i/\i.toNat<l.length then l[i.toNat].n else 0
def eV(l:List fI)(i:Int):0<=bT l i/\bT l i<65536:=by
 unfold bT;split
 ·exact⟨l[i.toNat].lo,l[i.toNat].hi⟩
 omega
section
variable{P:aX}[Tz P][Loud P]{H:Hp}
theorem iX{lv:Value}{l:List fI}{i:Int}(h:aF H lv l):LL.Zc P 110 #[lv,vi i] H λv o=>H=o/\v=vi (bT l i):=by
 have e:=h;obtain⟨A,c,rfl,B⟩:=h;refine aJ.m (bG HY) (args:=[_,vi i]) rfl ?_;unfold AZ;refine OJ (λf=>?_) (λf=>?_)
 ·refine OJ (λs=>?_) (λs=>?_)
  ·refine Y ?_;obtain⟨k,rfl⟩:=qBr f;have g:k<l.length:=O;refine pN e rfl rfl rfl g λa u=>Y ?_;refine Ya u (Y ?_);refine Vs (bI Tryz.underlying199) (bI Tryz.underlying3) rfl (Y ?_);have z:bT l (k:Int)=l[k].n:=by simp[bT,g]
   rw[z];refine⟨rfl,?_⟩;have:=l[k].lo;have:=l[k].hi;rw[Uk ⟨O,O⟩];rfl
  refine Y ?_;refine⟨rfl,?_⟩;rw[bT,qEc O];rfl
 refine Y ?_;refine⟨rfl,?_⟩;rw[bT,qEc O];rfl
end
section
open Go.Conc Go.ConcM
open YtlhomfgcibjccaaGreatDoor Go.ChangeShapes Go.WideShapes
section
variable{H:Type}{enc:TypeId×Value->H}{W:World}{base:Nat}{sp:Nat->Bool}{held:Bool}{fuel:Nat}{cs:List Value}{y:DataW H×List MemPlace}{r:Reach}{b0:Nat}{v:Value}{d:DataW H}{ps:List MemPlace}
def nK(h:DataW.trod enc Tryz.prog W base sp held fuel 199 cs=some y):∃u:fI,cs=Enc.enc u:=by obtain⟨n,rfl,_,c⟩:=DataW.trod_int Tryz.underlying199 h;simp only[Lit.wf,qAc,qAR]at c;have e:IntKind.u16.min=0:=rfl;have f:IntKind.u16.max=65535:=rfl;exact⟨⟨n,O,O⟩,rfl⟩
def vX:Tryz.prog.cellsOf 199=1:=U
def nM:Tryz.prog.underlying 59=some (.slice 199):=U
def uL{α:Type}[Enc α]{t e:TypeId}(h:Tryz.prog.underlying t=some (.slice e))(k:Tryz.prog.cellsOf e=Enc.sz α)(c:0<Enc.sz α)
  (g:∀{n:Nat} {cs:List Value} {y:DataW H×List MemPlace},DataW.trod enc Tryz.prog W base sp held n e cs=some y->∃x:α,cs=Enc.enc x)
  (f:Value.okWide Tryz.prog W r b0 t v) (o:DataW.Trod enc Tryz.prog W base sp held t v d ps):∃l:List α,aF (lQ W) v l:=by
 obtain⟨fuel,s⟩:=o;obtain⟨a,len,cap,rfl⟩:=okWide_slice h f;obtain⟨v,z,l,u⟩:=EK h k c g s;have:Value.slice a len cap=v:=by simpa[Value.cells]using z
 exact⟨l,this ▸ u⟩
def jG(c:Value.okWide Tryz.prog W r b0 59 v)(e:DataW.Trod enc Tryz.prog W base sp held 59 v d ps):∃l:List fI,aF (lQ W) v l:=
 uL nM vX (by decide) nK c e
def nL(c:Value.okWide Tryz.prog W r b0 5 v)(e:DataW.Trod enc Tryz.prog W base sp held 5 v d ps):∃n,v=.int .u8 n/\0<=n/\n<256:=by obtain⟨n,rfl,_,_,f⟩:=open_int Tryz.underlying5 c e;simp only[Lit.wf,qAc,qAR]at f;have g:IntKind.u8.min=0:=rfl;have h:IntKind.u8.max=255:=rfl;exact⟨n,rfl,O,O⟩
end
end
section
variable{j:Nat}{n a:Int}
def nV{α:Type}{p:α->Prop}{l:List α}(f:j<l.length)(h:∀x∈l.take j,p x)(e:p l[j]):∀x∈l.take (j+1),p x:=by
 intro x c;rw[iN f]at c;rcases qAi.1 c with c | c
 ·exact h x c
 rw[oR.1 c];exact e
section
variable{P:aX}[Tz P][Loud P]{H:Hp}
def mT{lv:Value}{l:List Int}(k:aF H lv l)(u:l.length<=1000000):LL.Zc P 40 #[lv,vi n] H λv e=>H=e/\v=vb (decide (n∈l)):=by
 refine aJ.m (bG sE) (args:=[lv,vi n]) rfl ?_;unfold l8;refine Y ?_;refine Zv l.length (λj e=>H=e/\∀x∈l.take j,x≠n) (λj=>[(0,lv),(1,vi n),(5,vi j)]) (λ_=>[]) ⟨rfl,by simp⟩ V trivial ?_;rintro j _ z ⟨rfl,g⟩;refine Y ?_;refine YE k rfl ?_;refine OJ (λo=>?_) (λo=>?_)
 ·have c:j<l.length:=O;refine Y ?_;refine Zz j k c λa s=>Y ?_;refine Ya s ?_;refine OJ (λf=>?_) (λf=>?_)
  ·refine Y ?_;exact⟨rfl,by rw[decide_eq_true (show n∈l by rw[<-f];exact bY c)];rfl⟩
  refine Y ?_;exact dM (I:=λj e=>H=e/\∀x∈l.take j,x≠n) (env:=λj=>[(0,lv),(1,vi n),(5,vi j)]) (box:=λ_=>[]) c ⟨rfl,nV c g f⟩ V trivial rfl
 have:j=l.length:=O;subst this;rw[IF]at g;refine Y ?_;exact⟨rfl,by rw[qAo (show ¬ n∈l from λh=>g n h rfl)];rfl⟩
end
def gO{m:Int}(h:0<=a)(c:0<m):0<=a.tmod m/\a.tmod m<m:=⟨qDc _ h,qCK _ c⟩
theorem sI{f:Nat->Int}:(List.range (j+1)).map f=(List.range j).map f++[f j]:=by rw[qBs,qBL];rfl
section
variable{P:aX}[Tz P][Loud P]{H:Hp}
def CH{c:Int}(h:0<=a/\a<=c/\c<=99)(f:0<=n):LL.Zc P 109 #[.agg #[vi a,vi c],vi n] H λv e=>H=e/\v=vi (a+n.tmod (c-a+1)):=by refine aJ.m (bG y9) (args:=[.agg #[vi a,vi c],vi n]) rfl ?_;unfold lJ;refine Y ?_;refine gH rfl rfl O ?_;have:=gO (m:=c-a+1) f O;refine Y ?_;exact⟨rfl,rfl⟩
end
def nW{m:Int}{n:Nat}(h:0<=m)(c:0<n):∃i:Nat,i<n/\m.tmod n=i:=by have:=gO (m:=(n:Int)) h O;exact⟨(m.tmod n).toNat,O,O⟩
end
end Go.Proofs
end
section
open Go Go.LL
namespace Go.LL
section
variable{sT E:TypeId}{bV dI m:Nat}{zv w:Value}{xs:List Value}{a:Addr}
section
variable{P:aX}{H:Hp}{d:Option Nat}{next:aM->Hp->Prop}{σ:aM}{x y:Operand}
def yW{T:TypeId}(hu:P.toProgram.underlying sT=some (.slice E))(ti:TI P.toProgram E bV zv dI)(hz:zv.cells.size=bV)(he:0<bV)
  (S:(m=0/\∃A c,w=.slice A 0 c)\/∃a c,w=.slice (some a) m c/\aC H a xs) (I:xs.length=m * bV) (N:(xs.all Value.cJ)=true) (V:m<=1000000000) (J:dI<=1000) (o:P.still H.gh=false)
  {K:Value->Hp->Prop} (k0:m=0->K (.slice (some a) 0 0) H) (k1:∀r s rest,H r=none->m<=s->(xs++rest).length=s * bV->K (.slice (some ⟨r,0,none⟩) m s) (H.ins r (.cells (xs++rest).toArray E))):bL P.toPQ (Builtin.append_ #[sT,sT] T #[.slice (some a) 0 0,w]) (λv _ U=>K v U) false H:=by
 obtain⟨CK,G,i2,i3,M⟩:=ti.ex;have D:∀Q g,Q m g H->bL P.toPQ (Builtin.lenOf w) Q g H:=by intro Q g l;rcases S with⟨rfl,A,c,rfl⟩ | ⟨a,c,rfl,_⟩<;>simpa[Builtin.lenOf,Zj]using l
 have f:∀(Q:Array Value->Bool->Hp->Prop) g,Q xs.toArray g H->bL P.toPQ (Builtin.firstCells bV m w) Q g H:=by
  intro Q g l;rcases S with⟨rfl,A,c,rfl⟩ | ⟨a,c,rfl,X⟩
  ·have:xs=[]:=qAb (by simpa using I);subst this;cases A<;>simpa[Builtin.firstCells,Zj,loadCells,loadCellsFrom]using l
  simp only[Builtin.firstCells];exact yS o X l I
 have F:∀(Q:Array Value->Bool->Hp->Prop) g,Q #[] g H->bL P.toPQ (Builtin.firstCells bV 0 (.slice (some a) 0 0)) Q g H:=by intro Q g l;simpa[Builtin.firstCells,Zj,loadCells,loadCellsFrom]using l
 simp only[Builtin.append_,qAH,qAV,qAT,Zg,Zw hu,Z4 G,i2,Zj,DO,qAw];refine D _ _ ?_;simp only[qBU,qBp];by_cases C:0+m<=0
 ·rw[iF C];have Y:m=0:=O;subst Y;have L:xs=[]:=qAb (by simpa using I);subst L;simp only[Zg,Zj];refine f _ _ ?_;simpa[storeCells,Zj]using k0 rfl
 rw[aT C];simp only[Zg,O1 G,M];rw[aT (by rintro⟨h,_⟩;simp[IntKind.max,IntKind.bits,IntKind.signed]at h;omega)];simp only[Zg,Zj,O1 G,M];have z:¬ Builtin.nextslicecap (0+m) 0 * dI > 2 ^ 48:=by have N:=B7 (need:=0+m) (old:=0) O;have h2:Builtin.nextslicecap (0+m) 0 * dI<=(2 * (0+m)+200) * 1000:=qBq N J;omega
 rw[aT z];simp only[Zg,Zj,choose];rw[bL];simp only[Question.forced,DO,qAw];refine⟨o,λt=>?_⟩;have B:0+m<=(Question.appendCap (0+m) 0 E).cut t:=by simp only[Question.cut];omega
 generalize(Question.appendCap (0+m) 0 E).cut t=s at B;rw[bL];have u:∀(Q:Unit->Bool->Hp->Prop),Q () false H->bL P.toPQ (askRoom (s * dI)) Q false H:=by
  intro Q l;unfold askRoom;split
  ·exact⟨.inr ⟨rfl,o⟩,l⟩
  exact l
 rw[O1 G,M];refine u _ ?_;refine F _ _ ?_;refine f _ _ ?_;simp only[UC G i3,newRow,Zg,newObj,Zj];refine⟨o,λr Z=>?_⟩;have R:=k1 r s (Builtin.zeroCells zv.cells (s-(0+m))).toList Z O (by simp only[BY,I,qBy,B8,hz];rw[<-qCi];congr 1;omega);have e:(#[]++xs.toArray++Builtin.zeroCells zv.cells (s-(0+m)))=(xs++(Builtin.zeroCells zv.cells (s-(0+m))).toList).toArray:=by simp
 rw[qAE]at e R;rw[qAE,e];exact R
def kX{T:TypeId}(B:P.toProgram.underlying sT=some (.slice E))(F:TI P.toProgram E bV zv dI)(D:zv.cells.size=bV)(u:0<bV)(k:σ.get x=some (.slice (some a) 0 0))(l:σ.get y=some w)
  (C:(m=0/\∃A c,w=.slice A 0 c)\/∃a c,w=.slice (some a) m c/\aC H a xs) (z:xs.length=m * bV) (o:(xs.all Value.cJ)=true) (e:m<=1000000000) (f:dI<=1000) (g:P.still H.gh=false)
  (k0:m=0->next (σ.set d (.slice (some a) 0 0)) H) (k1:∀r h rest,H r=none->m<=h->(xs++rest).length=h * bV->next (σ.set d (.slice (some ⟨r,0,none⟩) m h)) (H.ins r (.cells (xs++rest).toArray E))):(bE.raw (.call { callee:=.builtin .append,args:=#[x,y],argTypes:=#[sT,sT] }) T).m P d next σ H:=by
 refine YS (s:=Builtin.append_ #[sT,sT] T #[.slice (some a) 0 0,w]) (by simp[Op.operands,Call.operands,k,l]) (by simp[execOp,aR,resolve,invoke,builtin,k,l]) ?_;exact yW (T:=T) B F D u C z o e f g k0 k1
end
end
end Go.LL
end
open Go Go.LL
namespace Go.Proofs
def kY{α:Type}[Enc α]{f H:Hp}{r c:Nat}{E:TypeId}{l:List α}{rest:List Value}(k:aL f H)(o:H r=none)(g:l.length<=c)(h:(Zb l++rest).length=c * Enc.sz α):dD f (H.ins r (.cells (Zb l++rest).toArray E)) E (.slice (some ⟨r,0,none⟩) l.length c) l (some r):=
 ⟨⟨VH l,.inr ⟨r,c,rest,rfl,rfl,Hp.aG _ _ _,h,g⟩⟩,λs e=>by obtain rfl:=iO e;exact YL k o⟩
section
variable{P:aX}[Tz P]{H:Hp}{d:Option Nat}{next:aM->Hp->Prop}{σ:aM}{x y:Operand}
def lL{α:Type}[Enc α]{s:Hp}{r:Nat}{sT E T:TypeId}{dI:Nat}{zv w:Value}{l:List α}(L:P.toProgram.underlying sT=some (.slice E))(N:TI P.toProgram E (Enc.sz α) zv dI)(M:zv.cells.size=Enc.sz α)(I:0<Enc.sz α)
  (K:s r=none) (G:H=s.ins r (.cells #[] E)) (Y:aF H w l) (U:((Zb l).all Value.cJ)=true) (z:l.length<=1000000000) (k:dI<=1000) (D:σ.get x=some (.slice (some ⟨r,0,none⟩) 0 0)) (F:σ.get y=some w) (o:P.still H.gh=false)
  (h:∀Q u R,aL H u->dD s u E Q l R->next (σ.set d Q) u):(bE.raw (.call { callee:=.builtin .append,args:=#[x,y],argTypes:=#[sT,sT] }) T).m P d next σ H:=by
 have J:aL s H:=by rw[G];exact Zs K
 obtain⟨A,c,rfl,V⟩:=Y;by_cases B:l=[]
 ·subst B;refine kX L N M I D F (m:=0) (xs:=[]) (.inl ⟨rfl,A,c,rfl⟩) (by simp) rfl O k o (λ_=>?_) λC Z rest e g f=>?_
  ·exact h _ _ (some r) (.refl _) (by rw[G];exact sP K)
  exact h _ _ (some C) (Zs e) (kY (l:=([]:List α)) J e g f)
 obtain⟨a,rfl,X⟩:=V B;refine kX L N M I D F (m:=l.length) (xs:=Zb l) (.inr ⟨a,c,rfl,X⟩) (VH l) U z k o (λS=>absurd (qAb S) B) λC Z rest e g f=>?_;exact h _ _ (some C) (Zs e) (kY J e g f)
end
variable{α:Type}{i ct cp:Nat}{qs:List bW}{ls:List (List Int)}{q:bW}{ts:List N4}{t:N4}{p lt lp:List Int}{At Ap:Option Addr}
theorem B4.aZ(n:B4){j:Nat}(z:Bool)(i:Nat)(c:i<4)(e:j<4):(n.put j z).get i=if i=j then z else n.get i:=by
 match i,j,c,e with
 | 0,0,_,_=>rfl
 | 0,1,_,_=>rfl
 | 0,2,_,_=>rfl
 | 0,3,_,_=>rfl
 | 1,0,_,_=>rfl
 | 1,1,_,_=>rfl
 | 1,2,_,_=>rfl
 | 1,3,_,_=>rfl
 | 2,0,_,_=>rfl
 | 2,1,_,_=>rfl
 | 2,2,_,_=>rfl
 | 2,3,_,_=>rfl
 | 3,0,_,_=>rfl
 | 3,1,_,_=>rfl
 | 3,2,_,_=>rfl
 | 3,3,_,_=>rfl
section
variable{P:aX}[Tz P][Loud P]{H:Hp}
def rG{b:Sb}(hb:Zr H b):LL.Zc P 36 #[b.v] H λv c=>H=c/\∃g,v=vb g/\(g=true->bA b):=by
 refine aJ.m (bG y0) (args:=[b.v]) rfl ?_;unfold mI Sb.v;refine Y ?_;refine Za [b.v] (eO hb) ?_;rintro v _ ⟨rfl,g,rfl,e⟩;cases g with
 | true=>
  refine Y ?_;exact⟨rfl,false,rfl,λh=>by simp at h⟩
 | false=>
  refine Y ?_;refine Za [b.v] (cF hb (e rfl).sz) ?_;rintro v _ ⟨rfl,rfl⟩;refine Y ?_;exact⟨rfl,decide (ZF b=0),by simp[Y5],λh=>Ow (of_decide_eq_true h)⟩
end
def bR(l:List Int)(j:Nat):List (List Int):=(List.range j).flatMap λ(i:Nat)=>if(i:Int)∈l then[]else[l++[(i:Int)]]
def dF(n:Nat):Nat->List (List Int)
 | 0=>[[]]
 | i+1=>(dF n i).flatMap λl=>bR l n
theorem lT(l:List Int)(j:Nat):bR l (j+1)=bR l j++if(j:Int)∈l then[]else[l++[(j:Int)]]:=by rw[bR,qBs,qBb,qAQ];rfl
def wA{β:Type}(f:α->List β){l:List α}{k:Nat}(h:k<l.length):(l.take (k+1)).flatMap f=(l.take k).flatMap f++f l[k]:=by rw[iN h,qBb,qAQ]
def uG:dF 1 1=ZB 1/\dF 2 2=ZB 2/\dF 3 3=ZB 3/\dF 4 4=ZB 4:=by decide +kernel
def uJ{n:Nat}(h:1<=n/\n<=4):dF n n=ZB n:=by
 obtain⟨c,e,f,g⟩:=uG;have:n=1\/n=2\/n=3\/n=4:=O;rcases this with rfl | rfl | rfl | rfl
 ·exact c
 ·exact e
 ·exact f
 exact g
def uI:((List.range 5).all λn=>(List.range (n+1)).all λi=>decide ((dF n i).length<=24) && (dF n i).all λl=>decide (l.length<=4))=true:=by decide +kernel
def uH{n:Nat}(f:n<=4)(e:i<=n):(dF n i).length<=24/\∀l∈dF n i,l.length<=4:=by have h:=IN.1 (IN.1 uI n (qAl.2 O)) i (qAl.2 O);rw[qAc,qAy,IN]at h;exact⟨h.1,λl c=>of_decide_eq_true (h.2 l c)⟩
def iZ(l:List Int):∀j,(bR l j).length<=j
 | 0=>dO _
 | j+1=>by rw[lT,BY];have:=iZ l j;split<;>simp<;>omega
def mE{n:Nat}:∀(L:List (List Int)),(L.flatMap λl=>bR l n).length<=L.length * n
 | []=>by simp
 | l :: L=>by rw[qAM,BY,qAs,qBY];have:=mE (n:=n) L;have:=iZ l n;omega
structure cX(H:Hp)(qs:List bW)(ls:List (List Int)):Prop where
 len:qs.length=ls.length
 at_:∀i (h:i<qs.length) (h':i<ls.length),aF H (dN qs[i]) ls[i]/\qs[i].2.1<=qs[i].2.2
def cX.nil(H:Hp):cX H [] []:=⟨rfl,λi h=>by simp at h⟩
def cX.inc{H H':Hp}(h:cX H qs ls)(c:aL H H'):cX H' qs ls:=⟨h.len,λi a b=>⟨((h.at_ i a b).1).inc c,(h.at_ i a b).2⟩⟩
def cX.snoc{H:Hp}{l:List Int}(h:cX H qs ls)(g:aF H (dN q) l)(f:q.2.1<=q.2.2):cX H (qs++[q]) (ls++[l]):=by
 refine⟨by simp[h.len],λi a b=>?_⟩;have:=h.len;by_cases c:i<qs.length
 ·rw[qAp c,qAp O];exact h.at_ i c O
 simp only[BY,qAA]at a;have e:i=qs.length:=O;subst e;rw[qAr (dO _),qAr O];simp[this];exact⟨g,f⟩
def kE{H:Hp}{l:List Int}(h:aF H (dN q) l):q.2.1=l.length:=by obtain⟨_,_,e,_⟩:=h;simp only[Value.slice.injEq]at e;exact e.2.1
def gd(b:Sb)(l:List Int)(t:N4):Bool:=nT b (Yg b t l)
def mF{b:Sb}{l:List Int}:∀(ts:List N4) (s:Td),(ts.foldl (V2 b l) s).good=s.good+((ts.filter (gd b l)).length:Nat)
 | [],s=>by simp
 | t :: ts,s=>by
  rw[qBa,mF ts];show(if gd b l t=true then s.good+1 else s.good)+_=_;rw[qAN];by_cases h:gd b l t=true
  ·rw[iF h,iF h,qAs];omega
  rw[aT h,aT h]
def gR(b:Sb)(ts:List N4)(l:List Int):(cG b ts l).good=((ts.filter (gd b l)).length:Nat):=by rw[cG,mF];show(0:Int)+_=_;omega
def mG{b:Sb}{l:List Int}:∀(ts:List N4) (s:Td),s.hi<=(ts.foldl (V2 b l) s).hi/\(∀t∈ts,(Yg b t l).2<=(ts.foldl (V2 b l) s).hi)/\((ts.foldl (V2 b l) s).hi=s.hi\/∃t∈ts,(ts.foldl (V2 b l) s).hi=(Yg b t l).2)
 | [],s=>⟨qAx _,λt h=>by simp at h,.inl rfl⟩
 | t :: ts,s=>by
  obtain⟨o,z,g⟩:=mG ts (V2 b l s t);rw[qBa];generalize ts.foldl (V2 b l) (V2 b l s t)=f at *;have e:(V2 b l s t).hi=max s.hi (Yg b t l).2:=rfl;rw[e]at o g;refine⟨O,λu k=>?_,?_⟩
  ·rcases qAq.1 k with rfl | k
   ·omega
   exact z u k
  rcases g with g | ⟨u,k,g⟩
  ·by_cases A:(Yg b t l).2<=s.hi
   ·exact .inl O
   exact .inr ⟨t,by simp,O⟩
  exact .inr ⟨u,by simp[k],g⟩
def nI(h:ts≠[]):ts.getD 0 ⟨0,0,0,0⟩∈ts:=by
 cases ts with
 | nil=>exact absurd rfl h
 | cons t ts=>exact qBv
def jU{b:Sb}{l:List Int}(h:ts≠[]):(∀t∈ts,(Yg b t l).2<=(cG b ts l).hi)/\∃t∈ts,(cG b ts l).hi=(Yg b t l).2:=by
 obtain⟨_,e,c⟩:=mG ts (iR b ts l);refine⟨e,?_⟩;rcases c with c | c
 ·exact⟨_,nI h,c⟩
 exact c
def vZ{p:α->Bool}{l:List α}:(l.filter p).length=l.length↔∀x∈l,p x=true:=by rw[qBA]
def v7{p:α->Bool}{l:List α}:(l.filter p).length=0↔∀x∈l,p x=false:=by rw[qAt,qDg];simp
def jT{p:α->Bool}{l:List α}(h:l≠[]):fN ((l.filter p).length:Nat) (l.length:Nat)=1↔∀x∈l,p x=true:=by
 rw[<-vZ];have:=qAX.2 h;unfold fN;split
 ·omega
 split
 ·omega
 omega
def nH{p:α->Bool}{l:List α}:fN ((l.filter p).length:Nat) (l.length:Nat)=2↔∀x∈l,p x=false:=by
 rw[<-v7];unfold fN;split
 ·omega
 split
 ·omega
 omega
def dP(b:Sb)(ts:List N4)(p:List Int):Bool:=ts.all (gd b p)
def lK{b:Sb}{m:Nat}(h:ts≠[])(c:1<=m):UM b ts m=dP b ts (ZX b.pk.length m):=by rw[qBT,UM,qAc,qAy,qAy,gR,jT h,dP,IN];exact⟨λh=>h.2,λh=>⟨c,h⟩⟩
def iC{b:Sb}{ts:List N4}(h:ts≠[]):(dE b ts).map (ZX b.pk.length)=(ZB b.pk.length).filter (dP b ts):=by
 have e:ZB b.pk.length=((List.range (ZB b.pk.length).length).map (·+1)).map (ZX b.pk.length):=by refine qBl (by simp) λi f l=>?_;simp only[qAZ,qCl,ZX,qAU];exact(ZD f _).symm
 conv=>rhs;rw[e]
 rw[qDy,dE];congr 1;refine qBW λm g=>?_;obtain⟨k,_,rfl⟩:=qAB.1 g;exact lK h O
def nN{b o:Sb}(c:o.pk.length=b.pk.length)(f:o.pl=b.pl)(g:o.hd=b.hd)(h:∀j,(aD o j).bF=(aD b j).bF):VN o=VN b:=by
 have e:fK o=fK b:=by funext s p;unfold fK;rw[h]
 funext t l;unfold VN GL Ul fA tA;rw[e,c,f,g]
structure cH(b o:Sb):Prop where
 pl:o.pl=b.pl
 hd:o.hd=b.hd
 td:b.td<=o.td
 n:o.pk.length=b.pk.length
 pk:∀j,(aD o j).lo=(aD b j).lo/\(aD o j).hi=(aD b j).hi/\(aD o j).bF=(aD b j).bF/\(aD b j).bJ<=(aD o j).bJ
 nt:o.nt=b.nt
def cH.boats{b o:Sb}(h:cH b o):Zi o=Zi b:=Ia h.n (λj=>⟨(h.pk j).1,(h.pk j).2.1⟩) λt=>by rw[cB,cB,h.nt]
def cH.work{b o:Sb}(h:cH b o):VN o=VN b:=nN h.n h.pl h.hd λj=>(h.pk j).2.2.1
def k9{b o:Sb}(h:∀j,(aD b j).bJ<=(aD o j).bJ)(w:List Wk):∀j,j<=4->(U2 o w j).2=(U2 b w j).2/\∀i,i<4->(U2 o w j).1.get i=true->(U2 b w j).1.get i=true
 | 0,_=>⟨rfl,λi f h=>by
   match i,f with
   | 0,_=>exact h
   | 1,_=>exact h
   | 2,_=>exact h
   | 3,_=>exact h⟩
 | j+1,l=>by
  obtain⟨g,k⟩:=k9 h w j O;rw[U2,U2];refine⟨by rw[g],λi f c=>?_⟩;simp only at c ⊢;rw[B4.aZ _ _ _ f O]at c ⊢;split
  ·rename_i e;rw[iF e]at c;have:=h j;have c:=of_decide_eq_true c;exact decide_eq_true O
  rename_i e;rw[aT e]at c;exact k i f c
def cH.res{b o:Sb}(h:cH b o){l:List Int}(c:(VN b t l).length<=4):(Yg o t l).2=(Yg b t l).2/\∀i,i<4->(Yg o t l).1.get i=true->(Yg b t l).1.get i=true:=by rw[Yg,Yg,h.work];exact k9 (λj=>(h.pk j).2.2.2) _ _ c
theorem yX(n:B4):pM n=true↔∀i,i<4->n.get i=false:=by
 unfold pM;constructor
 ·intro h i l;simp only[qAc,qBe]at h;match i,l with
  | 0,_=>exact h.1.1.1
  | 1,_=>exact h.1.1.2
  | 2,_=>exact h.1.2
  | 3,_=>exact h.2
 intro h;have e:n.a=false:=h 0 (by decide);have f:n.b=false:=h 1 (by decide);have g:n.c=false:=h 2 (by decide);have k:n.d=false:=h 3 (by decide);rw[e,f,g,k];rfl
def cH.gd{b o:Sb}(h:cH b o){l:List Int}(k:(VN b t l).length<=4)(g:Proofs.gd b l t=true):Proofs.gd o l t=true:=by
 obtain⟨s,f⟩:=h.res k;unfold Proofs.gd nT at *;rw[qAc,qAy,yX]at *;refine⟨λi c=>?_,by have:=h.td;omega⟩;cases e:(Yg o t l).1.get i with
 | false=>rfl
 | true=>have:=f i c e;rw[g.1 i c]at this;simp at this
structure eI(n:Nat)(l:List Int):Prop where
 len:l.length=n
 nd:l.Nodup
 rg:∀z∈l,0<=z/\z<n
def mW{c:B4}{z:Int}:∀{j:Nat},z∈cS c j↔∃i:Nat,i<j/\z=i/\c.get i=true
 | 0=>by rw[cS];exact⟨λh=>by simp at h,λ⟨i,h,_⟩=>O⟩
 | j+1=>by
  rw[cS];have ih:=@mW c z j;split
  ·rename_i h;rw[qAi,ih,oR];constructor
   ·rintro(⟨i,k,f,g⟩ | k)
    ·exact⟨i,O,f,g⟩
    exact⟨j,O,k,h⟩
   rintro⟨i,k,f,g⟩;by_cases e:i=j
   ·subst e;exact .inr f
   exact .inl ⟨i,O,f,g⟩
  rename_i h;rw[ih];constructor
  ·rintro⟨i,k,f,g⟩;exact⟨i,O,f,g⟩
  rintro⟨i,k,f,g⟩;by_cases e:i=j
  ·subst e;exact absurd g h
  exact⟨i,O,f,g⟩
def mV{b:Sb}{l:List Int}{z:Int}:z∈gM b t l↔∃i:Nat,i<4/\z=i/\(Yg b t l).1.get i=true:=mW
def rH:(∀p∈ZB 1,p.Nodup)/\(∀p∈ZB 2,p.Nodup)/\(∀p∈ZB 3,p.Nodup)/\(∀p∈ZB 4,p.Nodup):=by decide +kernel
def kZ{n:Nat}(o:1<=n/\n<=4)(c:p∈ZB n):eI n p:=by
 obtain⟨k,l⟩:=CW c;refine⟨k,?_,l⟩;obtain⟨e,f,g,h⟩:=rH;have:n=1\/n=2\/n=3\/n=4:=O;rcases this with rfl | rfl | rfl | rfl
 ·exact e p c
 ·exact f p c
 ·exact g p c
 exact h p c
def bS(b:Sb):Int:=if Zi b=[]then 9 else 0
def eR{b:Sb}(ok:bA b):Zl b 0=bS b:=by
 rw[Zl,jO ok,aT (by decide),aT (by decide),bS];by_cases h:Zi b=[]
 ·rw[iF h,iF (by rw[h];rfl)]
 rw[aT h,aT (by rw[qAt];exact h)]
def yY{b:Sb}(h:Zi b≠[]):bS b=0:=aT h
def gG{b:Sb}:bS b=0↔Zi b≠[]:=by
 unfold bS;split
 ·rename_i h;exact⟨λe=>by simp at e,λe=>absurd h e⟩
 rename_i h;exact⟨λ_=>h,λ_=>rfl⟩
def kR{n:Nat}{l:List Int}(f:eI n l):∀j,j<=l.length->VB n l j=0
 | 0,_=>rfl
 | j+1,o=>by
  have c:j<l.length:=o;rw[VB,aT (by rw[kR f j O];decide),ZD c,aT (by have:=f.rg _ (bY c);omega),aT];intro h;obtain⟨z,s,e⟩:=qBg.1 h;have e:l[j]=z:=by simpa using e
  obtain⟨i,k,g⟩:=qAk.1 s;rw[qBC]at g;rw[qAj]at k;have:=(qBQ (h₀:=show i<l.length by omega) (h₁:=c) f.nd).1 (by rw[g,e]);omega
def kS{b:Sb}{l:List Int}(c:eI b.pk.length l):Yq b l=0:=by rw[Yq,aT (by rw[c.len];exact λh=>h rfl)];exact kR c _ (dO _)
def nJ{b:Sb}{l:List Int}(c:l.length=b.pk.length)(f:∀z∈l,1<=z/\z<=20):Um b l=0:=by rw[Um,aT (by rw[c];exact λh=>h rfl),aT];intro h;obtain⟨z,g,e⟩:=qBg.1 h;have:=f z g;simp[uV]at e;omega
def fH{b:Sb}(ok:bA b)(h:i<b.pk.length):(1<=(aD b i).lo/\(aD b i).lo<=(aD b i).hi/\(aD b i).hi<=20)/\(aD b i).hi-(aD b i).lo<3/\(1<=(aD b i).bF/\(aD b i).bF<=20)/\(1<=(aD b i).bJ/\(aD b i).bJ<=20):=by rw[aD,ZD h];exact ok.pk i h
section
variable{P:aX}[Tz P][Loud P]{H:Hp}
def yV{b:Sb}(hn:1<=b.pk.length/\b.pk.length<=4) :
  LL.Zc P 47 #[b.v] H λv f=>aL H f/\∃A c qs,v=.slice A qs.length c/\aF f v qs/\cX f qs (ZB b.pk.length):=by
 refine aJ.m (bG y6) (args:=[b.v]) rfl ?_;unfold mL Sb.v;refine Y ?_;refine ZY (cs:=Zb [((none,0,0):bW)]) (OL _) rfl λU qE=>?_;have s8:aF (H.ins U (.cells (Zb [((none,0,0):bW)]).toArray 26)) (.slice (some ⟨U,0,none⟩) 1 1) [((none,0,0):bW)]:=Z0 (l:=[((none,0,0):bW)]);have i8:aL H (H.ins U (.cells (Zb [((none,0,0):bW)]).toArray 26)):=Zs qE;generalize H.ins U (.cells (Zb [((none,0,0):bW)]).toArray 26)=H1 at *;refine Y ?_;refine ZO (α:=(Option Addr×Nat)×List bW) b.pk.length (λi s f=>aL H f/\aF f (.slice s.1.1 s.2.length s.1.2) s.2/\cX f s.2 (dF b.pk.length i))
  (λi s=>[(1,vi 0),(2,.slice none 0 0),(3,.slice s.1.1 s.2.length s.1.2),(4,vi i)]) (λ_ _=>[(1,b.cs)]) ((some ⟨U,0,none⟩,1),[(none,0,0)])
  ⟨i8,s8,rfl,λi h h'=>by(obtain rfl:i=0:=by simpa using h);exact⟨.nil _,dO _⟩⟩ V V ?_
 rintro i ⟨⟨A3,c3⟩,qs⟩ H2 hi ⟨i2,s3,S⟩;simp only at s3 S;have tE:=S.len;have lG:=uH hn.2 (show i<=b.pk.length by omega);refine OJ (λh1=>?_) (λh1=>?_)
 ·have yL:i<b.pk.length:=O;refine Y ?_;refine ZO (α:=Hp×Value×List bW×Option Nat) qs.length (λk s f=>aL H2 s.1/\aL s.1 f/\dD s.1 f 26 s.2.1 s.2.2.1 s.2.2.2/\cX s.1 s.2.2.1 (((dF b.pk.length i).take k).flatMap λl=>bR l b.pk.length))
   (λk s=>[(1,vi 0),(2,.slice none 0 0),(3,.slice A3 qs.length c3),(4,vi i),(5,s.2.1),(6,vi k)]) (λ_ _=>[(1,b.cs)]) (H2,.slice none 0 0,[],none) ⟨.refl _,.refl _,.nil _ _ _,.nil _⟩ V V ?_
  rintro k ⟨G,v5,ps,b5⟩ H3 hk ⟨g1,g2,o5,l5⟩;simp only at g1 g2 o5 l5;refine OJ (λh2=>?_) (λh2=>?_)
  ·have D:k<qs.length:=O;have F:k<(dF b.pk.length i).length:=O;obtain⟨sk,ck⟩:=S.at_ k D F;have vN:=wA (λl=>bR l b.pk.length) F;have I:=mE (n:=b.pk.length) ((dF b.pk.length i).take k);rw[qAj]at I;have I:(((dF b.pk.length i).take k).flatMap λl=>bR l b.pk.length).length<=96:=by refine qAz I (qAz (qBq (show min k _<=24 by omega) hn.2) (by decide))
   have CM:=lG.2 _ (bY F);generalize((dF b.pk.length i).take k).flatMap (λl=>bR l b.pk.length)=L at *;generalize(dF b.pk.length i)[k]=l at *;generalize qG:qs[k]=q at *;have Q:=kE sk;obtain⟨qA,qn,qc⟩:=q;simp only at Q ck;subst Q;refine Y ?_;refine ZO (α:=Hp×Value×List bW×Option Nat) b.pk.length (λj s f=>aL H2 s.1/\aL s.1 f/\dD s.1 f 26 s.2.1 s.2.2.1 s.2.2.2/\cX s.1 s.2.2.1 (L++bR l j))
    (λj s=>[(1,vi 0),(2,.slice none 0 0),(3,.slice A3 qs.length c3),(4,vi i),(5,s.2.1),(6,vi k),(7,vi j)]) (λ_ _=>[(1,b.cs)]) (G,v5,ps,b5) ⟨g1,g2,o5,by rw[bR,qCC,qCp,qAf];exact l5⟩ V V ?_
   rintro j ⟨G2,w5,J,c5⟩ H4 hj ⟨K,M,o6,T⟩;simp only at K M o6 T;have mO:=T.len;rw[BY]at mO;have vI:=iZ l j;refine OJ (λh3=>?_) (λh3=>?_)
   ·have g9:j<b.pk.length:=O;have z:=lT l j;have B:=K.trans M;have row:Enc.enc qs[k]=[.slice qA l.length qc]:=by rw[qG];rfl
    refine Y ?_;refine Zz k (s3.inc B) D λa ha=>?_;rw[row]at ha;refine Y ?_;refine Ya ha (Y ?_);refine Za [.slice qA l.length qc,vi j] (mT (sk.inc B) O) ?_;rintro v _ ⟨rfl,rfl⟩;by_cases g:(j:Int)∈l
    ·rw[decide_eq_true g];rw[iF g,qAf]at z;refine Y ?_;exact⟨(⟨j+1,O⟩,(G2,w5,J,c5)),bN O,⟨K,M,o6,by rw[z];exact T⟩,V,V,rfl⟩
    rw[qAo g];rw[aT g]at z;refine Y ?_;refine qZ (bI dW) (cD t3) (OL _) λr7 u=>Y ?_;refine Zz k ((s3.inc B).inc (Zs u)) D λa2 N=>?_;rw[row]at N;refine Y ?_;refine Ya N (Y ?_);refine lL (l:=l) (bI dW) (cD t3) rfl (by decide) u rfl ((sk.inc B).inc (Zs u)) (sG (λ_=>rfl) l) O O rfl rfl (OL _) λv8 H5 b8 i5 o8=>?_;have qD:aL H4 H5:=(Zs (o:=.cells #[] 3) u).trans i5;refine Y ?_;refine ZY (cs:=[vi (j:Int)]) (OL _) rfl λr9 R=>Y ?_;refine U7 (l':=[(j:Int)]) (bI dW) (bI dW) (cD t3) rfl (by decide) (qD.trans (Zs R)) (o8.ins R) qY rfl (by simp;omega) O rfl rfl (OL _) λv9 H6 b9 k1 k2 k3=>?_;obtain⟨X,Z,rfl,q9⟩:=jF k2;obtain⟨G',m1,m2,m3,m4⟩:=yR M o6 k1 k2;refine Y ?_;refine ZY (cs:=[.slice X (l++[(j:Int)]).length Z]) (OL _) rfl λwL C=>Y ?_;refine U7 (l':=[((X,(l++[(j:Int)]).length,Z):bW)]) (bI kU) (bI kU) (cD rO) rfl (by decide) (m2.trans (Zs C)) (m3.ins C) (Z0 (l:=[((X,(l++[(j:Int)]).length,Z):bW)])) rfl (by simp;omega) O rfl rfl (OL _) λuY H7 vO n1 n2 n3=>Y ?_;exact⟨(⟨j+1,O⟩,(G',uY,J++[(X,(l++[(j:Int)]).length,Z)],vO)),bN O,⟨K.trans m1,n1,n2,by rw[z,<-qAW];exact(T.inc m1).snoc m4 q9⟩,V,V,rfl⟩
   have:j=b.pk.length:=O;subst this;refine Y ?_;exact⟨(⟨k+1,O⟩,(G2,w5,J,c5)),bN O,⟨K,M,o6,by rw[vN];exact T⟩,V,V,rfl⟩
  have:k=qs.length:=O;subst this;rw[tE,IF]at l5;obtain⟨A5,c5,rfl,q5⟩:=jF o5;refine Y ?_;exact⟨(⟨i+1,O⟩,((A5,c5),ps)),bN O,⟨(i2.trans g1).trans g2,o5.sl,l5.inc g2⟩,V,V,rfl⟩
 have:i=b.pk.length:=O;subst this;rw[uJ hn]at S;refine Y ?_;exact⟨i2,A3,c3,qs,rfl,s3,S⟩
def yU{b:Sb}{n:Int}(z:1<=b.pk.length/\b.pk.length<=4)(D:0<=n/\n<256) :
  LL.Zc P 37 #[b.v,.int .u8 n] H λv o=>aL H o/\∃A c p,p∈ZB b.pk.length/\v=.slice A p.length c/\p.length<=c/\aF o (.slice A p.length c) p:=by
 refine aJ.m (bG y4) (args:=[b.v,.int .u8 n]) rfl ?_;unfold lW Sb.v;refine Y ?_;refine Za [b.v] (yV z) ?_;rintro v L ⟨I,A,c,qs,rfl,sq,B⟩;have F:=B.len;have G:=CZ z;have k:0<qs.length:=by obtain⟨M,N,Q,R⟩:=IB;have:b.pk.length=1\/b.pk.length=2\/b.pk.length=3\/b.pk.length=4:=O;rcases this with e | e | e | e<;>rw[e]at F<;>omega
 refine Y ?_;refine Vs (bI Tryz.underlying5) (bI Tryz.underlying3) rfl ?_;rw[Uk (show pZ n from⟨O,O⟩)];refine Y ?_;refine gH rfl rfl O ?_;obtain⟨i,u,C⟩:=nW (n:=qs.length) D.1 k;rw[C];have g:i<(ZB b.pk.length).length:=O;obtain⟨s1,s2⟩:=B.at_ i u g;have l:=kE s1;have h:=bY g;have row:Enc.enc qs[i]=[dN qs[i]]:=rfl;refine Y ?_;refine Zz i sq u λa s=>?_;rw[row]at s;generalize qs[i]=q at *;generalize(ZB b.pk.length)[i]=p at *;obtain⟨J,S,K⟩:=q;simp only at l s2;subst l;refine Y ?_;refine Ya s (Y ?_);exact⟨I,J,K,p,h,rfl,s2,s1⟩
end
def vY{f:Nat->Int}{l:List Nat}{j:Nat}(h:j<l.length):el (l.map f) j=f l[j]:=by rw[el,ZD (by simpa using h),qAZ]
def kP{b:Sb}(h:ts≠[])(G:dE b ts≠[]):∃m∈dE b ts,Yu b ts=ZX b.pk.length m/\Yu b ts∈ZB b.pk.length/\dP b ts (Yu b ts)=true /\
  (∀k∈dE b ts,(cG b ts (Yu b ts)).hi<=(cG b ts (ZX b.pk.length k)).hi)/\∀k∈dE b ts,(cG b ts (ZX b.pk.length k)).hi=(cG b ts (Yu b ts)).hi->m<=k:=by
 have c:=uF (l:=O4 b ts) (by simpa[O4]using G);have A:(O4 b ts).length=(dE b ts).length:=by rw[O4,qAh]
 rw[A]at c;have e:Yu b ts=ZX b.pk.length (dE b ts)[Zo (O4 b ts)]:=by rw[Yu,ZD c]
 have f:(dE b ts)[Zo (O4 b ts)]∈dE b ts:=bY c;obtain⟨C,J,D⟩:=kK.1 f;have I:ZX b.pk.length (dE b ts)[Zo (O4 b ts)]∈ZB b.pk.length:=by rw[ZX,ZD (show(dE b ts)[Zo (O4 b ts)]-1<(ZB b.pk.length).length by omega)];exact bY _
 have s:∀j (o:j<(dE b ts).length),el (O4 b ts) j=(cG b ts (ZX b.pk.length (dE b ts)[j])).hi:=λj o=>by rw[O4,vY o]
 refine⟨_,f,e,by rw[e];exact I,by rw[e,<-lK h C];exact D,λk z=>?_,λk z F=>?_⟩
 ·obtain⟨j,o,rfl⟩:=qAk.1 z;have:=CV (l:=O4 b ts) (j:=j) O;rw[s j o,s _ c]at this;rw[e];exact this
 obtain⟨j,o,rfl⟩:=qAk.1 z;have K:=PU (l:=O4 b ts) (j:=j) O (by rw[s j o,s _ c,F,e]);by_cases B:Zo (O4 b ts)=j
 ·subst B;exact dO _
 exact qDB (qAY.1 (PV b ts) _ _ c o O)
def sQ{b:Sb}(h:ts≠[])(f:p∈ZB b.pk.length)(e:dP b ts p=true):∃m∈dE b ts,ZX b.pk.length m=p:=by
 have:p∈(dE b ts).map (ZX b.pk.length):=by rw[iC h];exact qAC.2 ⟨f,e⟩
 exact qAB.1 this
def pU{b:Sb}{ts:List N4}(h:ts≠[])(k:dE b ts≠[]){p:List Int}(l:p∈ZB b.pk.length)(g:dP b ts p=true):(cG b ts (Yu b ts)).hi<=(cG b ts p).hi:=by obtain⟨m,c,e⟩:=sQ h l g;obtain⟨_,_,_,_,_,f,_⟩:=kP h k;rw[<-e];exact f m c
def lU{b:Sb}:(V7 b ts=0/\∀n,n<3->dE (gE b n) ts=[])\/(1<=V7 b ts/\V7 b ts<=3/\dE (gE b (V7 b ts-1)) ts≠[]/\∀n,n+1<V7 b ts->dE (gE b n) ts=[]):=by
 have f:∀{l:List Nat},¬ l≠[]->l=[]:=λh=>qAd h;by_cases c:dE (gE b 0) ts≠[]
 ·have e:V7 b ts=1:=iF c;rw[e];exact .inr ⟨by decide,by decide,c,λn o=>O⟩
 by_cases g:dE (gE b 1) ts≠[]
 ·have e:V7 b ts=2:=by rw[V7,aT c,iF g]
  rw[e];refine .inr ⟨by decide,by decide,g,λn o=>?_⟩;obtain rfl:n=0:=O;exact f c
 by_cases k:dE (gE b 2) ts≠[]
 ·have e:V7 b ts=3:=by rw[V7,aT c,aT g,iF k]
  rw[e];refine .inr ⟨by decide,by decide,k,λn o=>?_⟩;have:n=0\/n=1:=O;rcases this with rfl | rfl
  ·exact f c
  exact f g
 have e:V7 b ts=0:=by rw[V7,aT c,aT g,aT k]
 rw[e];refine .inl ⟨rfl,λn o=>?_⟩;have:n=0\/n=1\/n=2:=O;rcases this with rfl | rfl | rfl
 ·exact f c
 ·exact f g
 exact f k
def cZ(b:Sb)(l:List fI)(n:Nat):List Int:=(List.range n).map λ(i:Nat)=>(aD b i).lo+(bT l i).tmod ((aD b i).hi-(aD b i).lo+1)
def gD(b:Sb)(l:List fI)(n:Nat):(cZ b l n).length=n:=by simp[cZ]
def sK(b:Sb)(l:List fI){n:Nat}(h:i<n):(cZ b l n).getD i 0=(aD b i).lo+(bT l i).tmod ((aD b i).hi-(aD b i).lo+1):=by rw[ZD (by rw[gD];exact h)];simp[cZ]
def sL{b:Sb}(ok:bA b)(l:List fI)(h:i<b.pk.length):(aD b i).lo<=(cZ b l b.pk.length).getD i 0/\(cZ b l b.pk.length).getD i 0<=(aD b i).hi:=by rw[sK b l h];have c:=(fH ok h).1;have:=gO (m:=(aD b i).hi-(aD b i).lo+1) (eV l i).1 O;omega
def sJ{b:Sb}(ok:bA b)(l:List fI):∀z∈cZ b l b.pk.length,1<=z/\z<=20:=λz f=>by
 obtain⟨i,e,rfl⟩:=qAk.1 f;have c:i<b.pk.length:=by rw[gD]at e;exact e
 have h:=sL ok l c;rw[ZD e]at h;have:=(fH ok c).1;omega
def jW(b:Sb)(l:List Int):Int:=if Zi b=[]then 0 else fN (cG b (Zi b) l).good (Zi b).length
def fF(b:Sb):Nat:=if Zi b=[]then 0 else(dE b (Zi b)).length
def g0(b:Sb):List Int:=if fF b=0 then[]else Yu b (Zi b)
def iB(b:Sb):Int:=if fF b=0 then 0 else(cG b (Zi b) (Yu b (Zi b))).lo
def eE(b:Sb):Int:=if fF b=0 then 0 else(cG b (Zi b) (Yu b (Zi b))).hi
def nR(b:Sb):Nat:=if Zi b=[]then 0 else V7 b (Zi b)
def iY{b:Sb}(x y:α):(if bS b=0 then x else y)=if Zi b=[]then y else x:=by
 by_cases h:Zi b=[]
 ·rw[aT (λe=>gG.1 e h),iF h]
 rw[iF (gG.2 h),aT h]
def uK{b:Sb}(ok:bA b){l:List Int}(c:eI b.pk.length l):Zl b (Yq b l)=bS b:=by rw[kS c,eR ok]
def gB{b:Sb}:fF b≠0↔Zi b≠[]/\dE b (Zi b)≠[]:=by
 unfold fF;split
 ·rename_i h;exact⟨λe=>absurd rfl e,λe=>absurd h e.1⟩
 rename_i h;exact⟨λe=>⟨h,λc=>e (by rw[c];rfl)⟩,λe c=>e.2 (qAt.1 c)⟩
section
variable{P:aX}[Tz P][Loud P]{H:Hp}{b:Sb}
def mS(ok:bA b){l:List Int}{A:Option Addr}{c:Nat}(g:eI b.pk.length l)(s:aF H (.slice A l.length c) l)(k:l.length<=c)(hb:Zr H b)(o:Yk H)(e:aC H ⟨1,0,none⟩ [vf 284]) :
  LL.Zc P 28 #[b.v,.slice A l.length c] H λv f=>aL H f/\v=.tuple #[vi (jW b l),vi (bS b)]:=
 LL.Zc.mono (FR hb ok.sz' o e s k (by have:=g.len;have:=ok.n;omega)) λv f h=>by rw[xB,uK ok g,iY]at h;exact h
def mU(c:P=PP)(ok:bA b)(hb:Zr H b)(k:Yk H)(f:aC H ⟨1,0,none⟩ [vf 284]) :
  LL.Zc P 30 #[b.v] H λv g=>aL H g/\v=.tuple #[vi (fF b:Nat),vi (bS b)]:=
 LL.Zc.mono (KI c hb ok.sz' k f) λv g h=>by
  rw[eR ok,iY]at h;have e:((fF b:Nat):Int)=if Zi b=[]then 0 else((dE b (Zi b)).length:Int):=by unfold fF;split<;>rfl
  rw[e];exact h
def mD(k:P=PP)(ok:bA b)(hb:Zr H b)(C:Yk H)(l:aC H ⟨1,0,none⟩ [vf 284]) :
  LL.Zc P 32 #[b.v] H λv g=>aL H g/\∃A c,v=.tuple #[.slice A (g0 b).length c,.agg #[vi (iB b),vi (eE b)],vb (decide (fF b≠0)),vi (bS b)]/\(g0 b).length<=c/\aF g (.slice A (g0 b).length c) (g0 b):=
 LL.Zc.mono (PS k hb ok.sz' C l) λv g h=>by
  have o:Zl b 0=0↔Zi b≠[]:=by rw[eR ok,gG]
  obtain⟨s,⟨f,rfl⟩ | ⟨f,u,A,c,z,B,rfl⟩⟩:=h
  ·have e:fF b=0:=qAd λe=>f ⟨o.2 (gB.1 e).1,(gB.1 e).2⟩;rw[g0,iB,eE,iF e,iF e,iF e,qAo O,eR ok];exact⟨s,none,0,rfl,dO _,.nil _⟩
  have e:fF b≠0:=gB.2 ⟨o.1 f,u⟩;rw[g0,iB,eE,aT e,aT e,aT e,decide_eq_true e,yY (o.1 f)];exact⟨s,A,c,rfl,B,z⟩
def mR(c:P=PP)(ok:bA b)(hb:Zr H b)(l:Yk H)(f:aC H ⟨1,0,none⟩ [vf 284]) :
  LL.Zc P 34 #[b.v] H λv g=>aL H g/\v=.tuple #[vi (nR b:Nat),vb (decide (nR b≠0)),vi (bS b)]:=
 LL.Zc.mono (TP c hb ok.sz' l f) λv g h=>by
  have e:(if Zl b 0=0 then V7 b (Zi b)else 0)=nR b:=by rw[eR ok,iY];rfl
  have k:decide (Zl b 0=0/\V7 b (Zi b)≠0)=decide (nR b≠0):=by
   refine qBk.2 ?_;rw[eR ok,gG,nR];split
   ·rename_i h;exact⟨λe=>absurd h e.1,λe=>absurd rfl e⟩
   rename_i h;exact⟨λe=>e.2,λe=>⟨h,e⟩⟩
  rw[e,k,eR ok]at h;exact h
def mH(ok:bA b)(c:lt.length=b.pk.length)(e:∀z∈lt,1<=z/\z<=20)(f:eI b.pk.length lp):Z7 b lt lp=0:=by rw[Z7,jO ok,aT (by decide),nJ c e,aT (by decide),kS f]
theorem lS(ok:bA b)(u:lt.length=b.pk.length)(l:∀z∈lt,1<=z/\z<=20)(f:eI b.pk.length lp)(I:aF H (.slice At lt.length ct) lt)(G:aF H (.slice Ap lp.length cp) lp)(D:lp.length<=cp)(hb:Zr H b)(F:Yk H)(k:aC H ⟨1,0,none⟩ [vf 284]) :
  LL.Zc P 45 #[b.v,.slice At lt.length ct,.slice Ap lp.length cp] H λv g=>aL H g/\∃A c,v=.tuple #[.slice A b.pk.length c,vi 0]/\aF g (.slice A b.pk.length c) (VN b (Ys lt) lp):=
 LL.Zc.mono (KM hb ok.sz' F k I G D (by have:=ok.n;omega) (by have:=f.len;have:=ok.n;omega)) λv g h=>by
  rw[mH ok u l f]at h;obtain⟨B,w,rfl,⟨C,_⟩ | ⟨_,J,o⟩⟩:=h
  ·exact absurd rfl C
  obtain⟨A,c,rfl,_⟩:=id o.sl;have e:=(tH ok (uE l) f.len f.rg).1;have s:=o.sl;rw[e]at s ⊢;exact⟨B,A,c,rfl,s⟩
theorem mQ(ok:bA b)(l:lt.length=b.pk.length)(o:∀z∈lt,1<=z/\z<=20)(k:eI b.pk.length lp)(D:aF H (.slice At lt.length ct) lt)(C:aF H (.slice Ap lp.length cp) lp)(u:lp.length<=cp)(hb:Zr H b)(B:Yk H)(g:aC H ⟨1,0,none⟩ [vf 284]) :
  LL.Zc P 46 #[b.v,.slice At lt.length ct,.slice Ap lp.length cp] H λv e=>aL H e/\∃A c,v=.tuple #[.slice A (gM b (Ys lt) lp).length c,vi 0]/\aF e (.slice A (gM b (Ys lt) lp).length c) (gM b (Ys lt) lp):=
 LL.Zc.mono (KL hb ok.sz' B g D C u (by have:=ok.n;omega) (by have:=k.len;have:=ok.n;omega)) λv e h=>by rw[mH ok l o k]at h;obtain⟨s,w,F,rfl,f⟩:=h;rw[iF rfl]at f;obtain⟨A,c,rfl,_⟩:=id f.sl;exact⟨s,A,c,rfl,f.sl⟩
end
section
variable{P:aX}[Tz P][Loud P]{H:Hp}
def sN(b:Sb)(l:List fI)(j:Nat):cZ b l (j+1)=cZ b l j++[(aD b j).lo+(bT l j).tmod ((aD b j).hi-(aD b j).lo+1)]:=sI
def qI{b:Sb}{lv:Value}{l:List fI}(ok:bA b)(hb:Zr H b)(M:aF H lv l):LL.Zc P 44 #[b.v,lv] H λv g=>aL H g/\∃A c,v=.slice A (cZ b l b.pk.length).length c/\(cZ b l b.pk.length).length<=c/\aF g (.slice A (cZ b l b.pk.length).length c) (cZ b l b.pk.length):=by
 have hn:=ok.n;refine aJ.m (bG y5) (args:=[b.v,lv]) rfl ?_;unfold mJ Sb.v;refine Y ?_;refine ZO (α:=Value×Option Nat) b.pk.length (λj s g=>aL H g/\dD H g 3 s.1 (cZ b l j) s.2) (λj s=>[(1,lv),(2,vi 0),(4,.slice none 0 0),(5,s.1),(6,vi j)]) (λ_ _=>[(2,b.cs)]) (.slice none 0 0,none) ⟨.refl _,.nil _ _ _⟩ V V ?_;rintro j ⟨v6,U⟩ S Z ⟨u,B⟩;simp only at B;have N:=gD b l j;refine OJ (λL=>?_) (λL=>?_)
 ·have f:j<b.pk.length:=O;obtain⟨X,_⟩:=fH ok f;have row:Enc.enc b.pk[j]=[.string (aD b j).nm,vi (aD b j).lo,vi (aD b j).hi,vi (aD b j).bF,vi (aD b j).bJ]:=by rw[show b.pk[j]=aD b j from(ZD f _).symm];rfl
  have D:=sN b l j;refine Y ?_;refine Zz j (hb.pk.inc u) f λa F=>?_;rw[row]at F;refine Y ?_;refine Zn (cs:=[vi (aD b j).lo,vi (aD b j).hi]) (OL _) rfl (YN (ds:=[vi (aD b j).bF,vi (aD b j).bJ]) (eY (n:=1) F rfl)) rfl (Y ?_);refine Za [lv,vi j] (iX (M.inc u)) ?_;rintro v _ ⟨rfl,rfl⟩;refine Y ?_;refine Za [.agg #[vi (aD b j).lo,vi (aD b j).hi],vi (bT l j)] (CH O (eV l j).1) ?_;rintro v _ ⟨rfl,rfl⟩;generalize(aD b j).lo+(bT l j).tmod ((aD b j).hi-(aD b j).lo+1)=x at *;refine Y ?_;refine ZY (cs:=[vi x]) (OL _) rfl λr5 k=>?_;refine Zp OL (Y ?_);refine U7 (l':=[x]) (bI dW) (bI dW) (cD t3) rfl (by decide) (u.trans (Zs k)) (B.ins k) qY rfl (by simp only[qAA];omega) O rfl rfl (OL _) λR T J k1 G k3=>?_;rw[<-D]at G;refine Y ?_;exact⟨(⟨j+1,O⟩,(R,J)),bN O,⟨k1,G⟩,V,V,rfl⟩
 have:j=b.pk.length:=O;subst this;obtain⟨I,K,rfl,Q⟩:=jF B;refine Y ?_;exact⟨u,I,K,rfl,Q,B.sl⟩
end
theorem rE{b:Sb}(h:i<b.pk.length):Enc.enc b.pk[i]=[.string (aD b i).nm,vi (aD b i).lo,vi (aD b i).hi,vi (aD b i).bF,vi (aD b i).bJ]:=by rw[show b.pk[i]=aD b i from(ZD h _).symm];rfl
