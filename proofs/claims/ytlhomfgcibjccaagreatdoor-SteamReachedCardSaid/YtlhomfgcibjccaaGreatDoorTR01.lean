import Derived.Test.YtlhomfgcibjccaaGreatDoorTR00
set_option linter.all false
set_option maxHeartbeats 8000000
set_option maxRecDepth 100000
section
open Go Go.LL Go.Conc Go.ConcM
namespace Go.Proofs.YtlhomfgcibjccaaGreatDoor
def pG:Tryz.pinned.checked.prog.funcNamed Rows.steamReachedRow.func=some 5:=U
def pV:(Rows.steamReachedRow.inPlace == Tryz.pinned.checked.prog.inPlace 5)=true:=U
def pW:(Rows.steamReachedRow.unfollowed == Tryz.pinned.checked.prog.unfollowed 5)=true:=U
def pH:(Rows.steamReachedRow.recurses == Tryz.pinned.checked.prog.recurses 5)=true:=U
def pX:(Rows.steamReachedRow.named == Tryz.pinned.checked.prog.varsNamed 5)=true:=U
def pU:joinedFacts Tryz.pinned.checked.prog 5 Tryz.f5 Rows.steamReachedSpec Rows.steamReachedRow=true:=by unfold joinedFacts;exact aE (aE (aE (aE (aE (aE (aE (aE (aE (aE (aE (aE (aE (aE (aE (aE (aE (aE (aE (aE (aE (aE (aE (aE (aE (aE (aE (aE (aE (aE (aE U z4) gV) U) U) U) U) U) U) pV) pW) pH) pX) U) U) U) U) U) U) U) U) U) U) U) fX) fY) U) U) U) U) U) U
def pY:Tryz.f5.isInstance Tryz.pinned.checked.prog Rows.steamReachedRow.origin Rows.steamReachedRow.targs:=of_decide_eq_true U
def pO:Tryz.f5.isWrapper Tryz.pinned.checked.prog Rows.steamReachedRow.wrapper Rows.steamReachedRow.mainSum:=by unfold Func.isWrapper;first | (rw[iF (by decide +kernel)];kernel_rfl) | (rw[aT (by decide +kernel)];exact⟨rfl,rfl⟩)
end Go.Proofs.YtlhomfgcibjccaaGreatDoor
end
section
open Go Go.LL
namespace Go.Proofs
section
open Go.Conc Go.ConcM
open YtlhomfgcibjccaaGreatDoor Go.ChangeShapes Go.WideShapes
section
variable{H:Type}{enc:TypeId×Value->H}{W:World}{base:Nat}{sp:Nat->Bool}{held:Bool}{fuel:Nat}{cs:List Value}{y:DataW H×List MemPlace}{r:Reach}{b0:Nat}{v:Value}{d:DataW H}{ps:List MemPlace}
def iC(c:Value.okWide Tryz.prog W r b0 5 v)(e:DataW.Trod enc Tryz.prog W base sp held 5 v d ps):∃n,v=.int .u8 n/\0<=n/\n<256:=by obtain⟨n,rfl,_,_,f⟩:=open_int Tryz.underlying5 c e;simp only[Lit.wf,qAc,qAR]at f;have h:IntKind.u8.min=0:=rfl;have j:IntKind.u8.max=255:=rfl;exact⟨n,rfl,O,O⟩
end
end
def oS{α:Type}{p:α->Prop}{l:List α}{j:Nat}(f:j<l.length)(h:∀x∈l.take j,p x)(e:p l[j]):∀x∈l.take (j+1),p x:=by
 intro x c;rw[iN f]at c;rcases qAi.1 c with c | c
 ·exact h x c
 rw[oR.1 c];exact e
section
variable{P:aX}[Tz P][Loud P]{H:Hp}
def hZ{lv:Value}{l:List Int}{n:Int}(o:aF H lv l)(A:l.length<=1000000):LL.Zc P 40 #[lv,vi n] H λv e=>H=e/\v=vb (decide (n∈l)):=by
 refine aJ.m (bG sE) (args:=[lv,vi n]) rfl ?_;unfold l8;refine Y ?_;refine Zv l.length (λj e=>H=e/\∀x∈l.take j,x≠n) (λj=>[(0,lv),(1,vi n),(5,vi j)]) (λ_=>[]) ⟨rfl,by simp⟩ V trivial ?_;rintro j _ B ⟨rfl,k⟩;refine Y ?_;refine YE o rfl ?_;refine OJ (λp=>?_) (λp=>?_)
 ·have c:j<l.length:=O;refine Y ?_;refine Zz j o c λa u=>Y ?_;refine Ya u ?_;refine OJ (λf=>?_) (λf=>?_)
  ·refine Y ?_;exact⟨rfl,by rw[decide_eq_true (show n∈l by rw[<-f];exact bY c)];rfl⟩
  refine Y ?_;exact dM (I:=λj e=>H=e/\∀x∈l.take j,x≠n) (env:=λj=>[(0,lv),(1,vi n),(5,vi j)]) (box:=λ_=>[]) c ⟨rfl,oS c k f⟩ V trivial rfl
 have:j=l.length:=O;subst this;rw[IF]at k;refine Y ?_;exact⟨rfl,by rw[qAo (show ¬ n∈l from λh=>k n h rfl)];rfl⟩
end
def nI{a m:Int}(h:0<=a)(c:0<m):0<=a.tmod m/\a.tmod m<m:=⟨qDc _ h,qCK _ c⟩
def iZ{m:Int}{n:Nat}(h:0<=m)(c:0<n):∃i:Nat,i<n/\m.tmod n=i:=by have:=nI (m:=(n:Int)) h O;exact⟨(m.tmod n).toNat,O,O⟩
end Go.Proofs
end
section
open Go Go.LL
namespace Go.LL
section
variable{sT E:TypeId}{bV dI m:Nat}{zv w:Value}{xs:List Value}{a:Addr}
section
variable{P:aX}{H:Hp}{d:Option Nat}{next:aM->Hp->Prop}{σ:aM}{x y:Operand}
def yZ{T:TypeId}(hu:P.toProgram.underlying sT=some (.slice E))(ti:TI P.toProgram E bV zv dI)(hz:zv.cells.size=bV)(he:0<bV)
  (S:(m=0/\∃A c,w=.slice A 0 c)\/∃a c,w=.slice (some a) m c/\aC H a xs) (I:xs.length=m * bV) (N:(xs.all Value.cJ)=true) (V:m<=1000000000) (J:dI<=1000) (n:P.still H.gh=false)
  {K:Value->Hp->Prop} (k0:m=0->K (.slice (some a) 0 0) H) (k1:∀r o rest,H r=none->m<=o->(xs++rest).length=o * bV->K (.slice (some ⟨r,0,none⟩) m o) (H.ins r (.cells (xs++rest).toArray E))):bL P.toPQ (Builtin.append_ #[sT,sT] T #[.slice (some a) 0 0,w]) (λv _ U=>K v U) false H:=by
 obtain⟨CK,G,i2,i3,M⟩:=ti.ex;have D:∀Q g,Q m g H->bL P.toPQ (Builtin.lenOf w) Q g H:=by intro Q g k;rcases S with⟨rfl,A,c,rfl⟩ | ⟨a,c,rfl,_⟩<;>simpa[Builtin.lenOf,Zj]using k
 have f:∀(Q:Array Value->Bool->Hp->Prop) g,Q xs.toArray g H->bL P.toPQ (Builtin.firstCells bV m w) Q g H:=by
  intro Q g k;rcases S with⟨rfl,A,c,rfl⟩ | ⟨a,c,rfl,X⟩
  ·have:xs=[]:=qAb (by simpa using I);subst this;cases A<;>simpa[Builtin.firstCells,Zj,loadCells,loadCellsFrom]using k
  simp only[Builtin.firstCells];exact yS n X k I
 have F:∀(Q:Array Value->Bool->Hp->Prop) g,Q #[] g H->bL P.toPQ (Builtin.firstCells bV 0 (.slice (some a) 0 0)) Q g H:=by intro Q g k;simpa[Builtin.firstCells,Zj,loadCells,loadCellsFrom]using k
 simp only[Builtin.append_,qAH,qAV,qAT,Zg,Zw hu,Z4 G,i2,Zj,DO,qAw];refine D _ _ ?_;simp only[qBU,qBp];by_cases C:0+m<=0
 ·rw[iF C];have Y:m=0:=O;subst Y;have L:xs=[]:=qAb (by simpa using I);subst L;simp only[Zg,Zj];refine f _ _ ?_;simpa[storeCells,Zj]using k0 rfl
 rw[aT C];simp only[Zg,O1 G,M];rw[aT (by rintro⟨h,_⟩;simp[IntKind.max,IntKind.bits,IntKind.signed]at h;omega)];simp only[Zg,Zj,O1 G,M];have u:¬ Builtin.nextslicecap (0+m) 0 * dI > 2 ^ 48:=by have N:=B7 (need:=0+m) (old:=0) O;have h2:Builtin.nextslicecap (0+m) 0 * dI<=(2 * (0+m)+200) * 1000:=qBq N J;omega
 rw[aT u];simp only[Zg,Zj,choose];rw[bL];simp only[Question.forced,DO,qAw];refine⟨n,λt=>?_⟩;have B:0+m<=(Question.appendCap (0+m) 0 E).cut t:=by simp only[Question.cut];omega
 generalize(Question.appendCap (0+m) 0 E).cut t=o at B;rw[bL];have p:∀(Q:Unit->Bool->Hp->Prop),Q () false H->bL P.toPQ (askRoom (o * dI)) Q false H:=by
  intro Q k;unfold askRoom;split
  ·exact⟨.inr ⟨rfl,n⟩,k⟩
  exact k
 rw[O1 G,M];refine p _ ?_;refine F _ _ ?_;refine f _ _ ?_;simp only[UC G i3,newRow,Zg,newObj,Zj];refine⟨n,λr Z=>?_⟩;have R:=k1 r o (Builtin.zeroCells zv.cells (o-(0+m))).toList Z O (by simp only[BY,I,qBy,B8,hz];rw[<-qCi];congr 1;omega);have e:(#[]++xs.toArray++Builtin.zeroCells zv.cells (o-(0+m)))=(xs++(Builtin.zeroCells zv.cells (o-(0+m))).toList).toArray:=by simp
 rw[qAE]at e R;rw[qAE,e];exact R
def mI{T:TypeId}(B:P.toProgram.underlying sT=some (.slice E))(F:TI P.toProgram E bV zv dI)(D:zv.cells.size=bV)(p:0<bV)(k:σ.get x=some (.slice (some a) 0 0))(n:σ.get y=some w)
  (C:(m=0/\∃A c,w=.slice A 0 c)\/∃a c,w=.slice (some a) m c/\aC H a xs) (u:xs.length=m * bV) (o:(xs.all Value.cJ)=true) (e:m<=1000000000) (f:dI<=1000) (h:P.still H.gh=false)
  (k0:m=0->next (σ.set d (.slice (some a) 0 0)) H) (k1:∀r j rest,H r=none->m<=j->(xs++rest).length=j * bV->next (σ.set d (.slice (some ⟨r,0,none⟩) m j)) (H.ins r (.cells (xs++rest).toArray E))):(bE.raw (.call { callee:=.builtin .append,args:=#[x,y],argTypes:=#[sT,sT] }) T).m P d next σ H:=by
 refine YS (s:=Builtin.append_ #[sT,sT] T #[.slice (some a) 0 0,w]) (by simp[Op.operands,Call.operands,k,n]) (by simp[execOp,aR,resolve,invoke,builtin,k,n]) ?_;exact yZ (T:=T) B F D p C u o e f h k0 k1
end
end
end Go.LL
end
open Go Go.LL
namespace Go.Proofs
def mM{α:Type}[Enc α]{f H:Hp}{r c:Nat}{E:TypeId}{l:List α}{rest:List Value}(k:aL f H)(n:H r=none)(h:l.length<=c)(j:(Zb l++rest).length=c * Enc.sz α):dD f (H.ins r (.cells (Zb l++rest).toArray E)) E (.slice (some ⟨r,0,none⟩) l.length c) l (some r):=
 ⟨⟨VH l,.inr ⟨r,c,rest,rfl,rfl,Hp.aG _ _ _,j,h⟩⟩,λo e=>by obtain rfl:=iO e;exact YL k n⟩
section
variable{P:aX}[Tz P]{H:Hp}{d:Option Nat}{next:aM->Hp->Prop}{σ:aM}{x y:Operand}
def lV{α:Type}[Enc α]{o:Hp}{r:Nat}{sT E T:TypeId}{dI:Nat}{zv w:Value}{l:List α}(L:P.toProgram.underlying sT=some (.slice E))(N:TI P.toProgram E (Enc.sz α) zv dI)(M:zv.cells.size=Enc.sz α)(I:0<Enc.sz α)
  (K:o r=none) (G:H=o.ins r (.cells #[] E)) (Y:aF H w l) (U:((Zb l).all Value.cJ)=true) (u:l.length<=1000000000) (k:dI<=1000) (D:σ.get x=some (.slice (some ⟨r,0,none⟩) 0 0)) (F:σ.get y=some w) (n:P.still H.gh=false)
  (h:∀Q p R,aL H p->dD o p E Q l R->next (σ.set d Q) p):(bE.raw (.call { callee:=.builtin .append,args:=#[x,y],argTypes:=#[sT,sT] }) T).m P d next σ H:=by
 have J:aL o H:=by rw[G];exact Zs K
 obtain⟨A,c,rfl,V⟩:=Y;by_cases B:l=[]
 ·subst B;refine mI L N M I D F (m:=0) (xs:=[]) (.inl ⟨rfl,A,c,rfl⟩) (by simp) rfl O k n (λ_=>?_) λC Z rest e j f=>?_
  ·exact h _ _ (some r) (.refl _) (by rw[G];exact sR K)
  exact h _ _ (some C) (Zs e) (mM (l:=([]:List α)) J e j f)
 obtain⟨a,rfl,X⟩:=V B;refine mI L N M I D F (m:=l.length) (xs:=Zb l) (.inr ⟨a,c,rfl,X⟩) (VH l) U u k n (λS=>absurd (qAb S) B) λC Z rest e j f=>?_;exact h _ _ (some C) (Zs e) (mM J e j f)
end
variable{s:ByteArray}{α:Type}{i:Nat}{qs:List bW}{ls:List (List Int)}{q:bW}{x:N4}{ts:List N4}{z:Int}
section
variable{P:aX}[Tz P][Loud P]{H:Hp}
def qK{b:Sb}(hb:Zr H b):LL.Zc P 36 #[b.v] H λv c=>H=c/\∃g,v=vb g/\(g=true->bA b):=by
 refine aJ.m (bG y5) (args:=[b.v]) rfl ?_;unfold mE Sb.v;refine Y ?_;refine Za [b.v] (eO hb) ?_;rintro v _ ⟨rfl,g,rfl,e⟩;cases g with
 | true=>
  refine Y ?_;exact⟨rfl,false,rfl,λh=>by simp at h⟩
 | false=>
  refine Y ?_;refine Za [b.v] (cF hb (e rfl).sz) ?_;rintro v _ ⟨rfl,rfl⟩;refine Y ?_;exact⟨rfl,decide (ZF b=0),by simp[Y5],λh=>Ow (of_decide_eq_true h)⟩
end
def MM:sZ Tryz.prog 50=some ([("Name",9,0),("Steam",36,1),("Hang",3,3),("Soft",3,4)],false):=U
def N5:CY Tryz.prog 50=false:=U
def a9:Yd Tryz.prog 9=some none:=U
def MB:Tryz.prog.underlying 9=some .string:=U
section
variable{P:aX}[Tz P]{H:Hp}{g:Bool}{d:Nat}
def N7{u:ByteArray}(Q:Bool->Bool->Hp->Prop):bL P.toPQ (Op.equalIn (d+1) 9 (.string s) (.string u)) Q g H↔Q (s == u) g H:=by simp only[Op.equalIn,Zg,Zw (bI (P:=P) MB),qBp,Zj]
def sS{cs:Array Value}{off:Nat}{v:Value}(h:cs[off]? = some v)(Q:Value->Bool->Hp->Prop):bL P.toPQ (part 9 cs off) Q g H↔Q v g H:=by simp only[part,Zg,OS (zZ (P:=P) a9),DO,qAw,h,Zj]
def wA{a b c e:Int}(Q:Bool->Bool->Hp->Prop)(g:Bool)(H:Hp)(h:Q true g H):bL P.toPQ (Op.equalIn (d+1+1+1) 50 (.agg #[.string s,vi a,vi b,vi c,vi e]) (.agg #[.string s,vi a,vi b,vi c,vi e])) Q g H:=by
 have G:∀(Q:Value->Bool->Hp->Prop) g H,bL P.toPQ (part 9 #[.string s,vi a,vi b,vi c,vi e] 0) Q g H↔Q (.string s) g H:=λQ g H=>sS rfl Q;have I:∀(Q:Value->Bool->Hp->Prop) g H,bL P.toPQ (part 36 #[.string s,vi a,vi b,vi c,vi e] 1) Q g H↔Q (.agg #[vi a,vi b]) g H:=λQ g H=>by rw[TW PN];rfl
 have J:∀(Q:Value->Bool->Hp->Prop) g H,bL P.toPQ (part 3 #[.string s,vi a,vi b,vi c,vi e] 3) Q g H↔Q (vi c) g H:=λQ g H=>Vo rfl Q;have K:∀(Q:Value->Bool->Hp->Prop) g H,bL P.toPQ (part 3 #[.string s,vi a,vi b,vi c,vi e] 4) Q g H↔Q (vi e) g H:=λQ g H=>Vo rfl Q;obtain⟨N,O,f3,f4,k,⟨n,L,B⟩,⟨o,M,C⟩,⟨u,t3,D⟩,⟨A,t4,F⟩,j⟩:=TX (p:=P.toProgram) (by rw[Tz.prog (P:=P)];exact MM);rw[Op.equalIn];simp only[Zg,Zw k,V0,j,DO,qAw,Zj];simp only[n,o,u,A,L,M,t3,t4,B,C,D,F,Zg,qCd,qCb,List.forIn_nil];have e:(s == s)=true:=by show(s.data == s.data)=true;simp
 simp[G,I,J,K,CR,N7,v7 (.inr zJ),Zg,Zj,e];exact h
end
def bR(l:List Int)(j:Nat):List (List Int):=(List.range j).flatMap λ(i:Nat)=>if(i:Int)∈l then[]else[l++[(i:Int)]]
def dF(n:Nat):Nat->List (List Int)
 | 0=>[[]]
 | i+1=>(dF n i).flatMap λl=>bR l n
theorem mU(l:List Int)(j:Nat):bR l (j+1)=bR l j++if(j:Int)∈l then[]else[l++[(j:Int)]]:=by rw[bR,qBs,qBb,qAQ];rfl
def wC{β:Type}(f:α->List β){l:List α}{k:Nat}(h:k<l.length):(l.take (k+1)).flatMap f=(l.take k).flatMap f++f l[k]:=by rw[iN h,qBb,qAQ]
def uH:dF 1 1=ZB 1/\dF 2 2=ZB 2/\dF 3 3=ZB 3/\dF 4 4=ZB 4:=by decide +kernel
def uK{n:Nat}(j:1<=n/\n<=4):dF n n=ZB n:=by
 obtain⟨c,e,f,h⟩:=uH;have:n=1\/n=2\/n=3\/n=4:=O;rcases this with rfl | rfl | rfl | rfl
 ·exact c
 ·exact e
 ·exact f
 exact h
def uJ:((List.range 5).all λn=>(List.range (n+1)).all λi=>decide ((dF n i).length<=24) && (dF n i).all λl=>decide (l.length<=4))=true:=by decide +kernel
def uI{n:Nat}(f:n<=4)(e:i<=n):(dF n i).length<=24/\∀l∈dF n i,l.length<=4:=by have h:=IN.1 (IN.1 uJ n (qAl.2 O)) i (qAl.2 O);rw[qAc,qAy,IN]at h;exact⟨h.1,λl c=>of_decide_eq_true (h.2 l c)⟩
def gW(l:List Int):∀j,(bR l j).length<=j
 | 0=>dO _
 | j+1=>by rw[mU,BY];have:=gW l j;split<;>simp<;>omega
def mD{n:Nat}:∀(L:List (List Int)),(L.flatMap λl=>bR l n).length<=L.length * n
 | []=>by simp
 | l :: L=>by rw[qAM,BY,qAs,qBY];have:=mD (n:=n) L;have:=gW l n;omega
structure cX(H:Hp)(qs:List bW)(ls:List (List Int)):Prop where
 len:qs.length=ls.length
 at_:∀i (h:i<qs.length) (h':i<ls.length),aF H (dN qs[i]) ls[i]/\qs[i].2.1<=qs[i].2.2
def cX.nil(H:Hp):cX H [] []:=⟨rfl,λi h=>by simp at h⟩
def cX.inc{H H':Hp}(h:cX H qs ls)(c:aL H H'):cX H' qs ls:=⟨h.len,λi a b=>⟨((h.at_ i a b).1).inc c,(h.at_ i a b).2⟩⟩
def cX.snoc{H:Hp}{l:List Int}(h:cX H qs ls)(j:aF H (dN q) l)(f:q.2.1<=q.2.2):cX H (qs++[q]) (ls++[l]):=by
 refine⟨by simp[h.len],λi a b=>?_⟩;have:=h.len;by_cases c:i<qs.length
 ·rw[qAp c,qAp O];exact h.at_ i c O
 simp only[BY,qAA]at a;have e:i=qs.length:=O;subst e;rw[qAr (dO _),qAr O];simp[this];exact⟨j,f⟩
def kL{H:Hp}{l:List Int}(h:aF H (dN q) l):q.2.1=l.length:=by obtain⟨_,_,e,_⟩:=h;simp only[Value.slice.injEq]at e;exact e.2.1
def bT(x y:N4):Prop:=∃i,i<4/\x.get i<y.get i/\∀j,j<i->x.get j=y.get j
def bT.fM{y:N4}(h:bT x y)(c:bT y x):False:=by
 obtain⟨i,p,n,f⟩:=h;obtain⟨j,u,o,k⟩:=c;rcases qDi i j with e | e | e
 ·have:=k i e;omega
 ·subst e;omega
 have:=f j e;omega
def uG{l c:List N4}(f:l.Pairwise bT)(j:c.Pairwise bT)(h:∀x,x∈l↔x∈c):l=c:=by have p:l.Perm c:=(qCh (f.imp λh e=>by subst e;exact h.fM h) (j.imp λh e=>by subst e;exact h.fM h)).2 h;exact p.eq_of_pairwise (le:=bT) (λa b _ _ x y=>(x.fM y).elim) f j
def gG{α:Type}{f:Int->List α}{j:Int}{x:α}:∀{c:Nat},x∈gT f j c↔∃v,j-c<v/\v<=j/\x∈f v
 | 0=>by
  rw[gT];constructor
  ·intro h;simp at h
  rintro⟨v,o,k,_⟩;omega
 | c+1=>by
  rw[gT,qAi,gG];constructor
  ·rintro(h | ⟨v,o,k,n⟩)
   ·exact⟨j-c,O,O,h⟩
   exact⟨v,O,k,n⟩
  rintro⟨v,o,k,n⟩;by_cases e:v=j-c
  ·subst e;exact .inl n
  exact .inr ⟨v,O,k,n⟩
def kM{α:Type}{R:α->α->Prop}{f:Int->List α}{j:Int}(e:∀v,(f v).Pairwise R)(h:∀v w,v<w->∀x∈f v,∀y∈f w,R x y):∀c,(gT f j c).Pairwise R
 | 0=>by rw[gT];exact .nil
 | c+1=>by rw[gT,qBn];refine⟨e _,kM e h c,λx k y n=>?_⟩;obtain⟨w,p,u,o⟩:=gG.1 n;exact h _ w O x k y o
def dU{b:Sb}:∀{r:Nat} {m x:N4},r<=b.pk.length->b.pk.length<=4->(x∈bX b r m↔(∀j,j<4->(j<b.pk.length-r\/b.pk.length<=j)->x.get j=m.get j)/\(∀j,b.pk.length-r<=j->j<b.pk.length->(aD b j).lo<=x.get j/\x.get j<=(aD b j).hi)/\cB b x=true)
 | 0,m,x,_,_=>by
  rw[bX];constructor
  ·intro h;split at h
   ·obtain rfl:=oR.1 h;exact⟨λ_ _ _=>rfl,λj o u=>O,by assumption⟩
   simp at h
  rintro⟨o,_,A⟩;have:x=m:=N4.ext' λj c=>o j c O;subst this;rw[iF A];simp
 | r+1,m,x,I,D=>by
  rw[bX,gG];obtain⟨i,C⟩:∃i,b.pk.length-(r+1)=i:=⟨_,rfl⟩;rw[C];constructor
  ·rintro⟨v,o,u,A⟩;obtain⟨k,n,p⟩:=(dU O D).1 A;refine⟨λj c F=>?_,λj G B=>?_,p⟩
   ·rw[k j c O,N4.aZ _ _ c,aT O]
   by_cases e:j=i
   ·subst e;have:=k j O O;rw[N4.aZ _ _ O,iF rfl]at this;omega
   exact n j O B
  rintro⟨k,n,p⟩;have:=n i O O;refine⟨x.get i,O,O,(dU O D).2 ⟨λj c F=>?_,λj o u=>n j O u,p⟩⟩;rw[N4.aZ _ _ c];split
  ·rename_i e;rw[e]
  exact k j c O
def k9{b:Sb}:∀{r:Nat} {m:N4},r<=b.pk.length->b.pk.length<=4->(bX b r m).Pairwise bT
 | 0,m,_,_=>by rw[bX];split<;>simp
 | r+1,m,u,c=>by
  rw[bX];obtain⟨i,k⟩:∃i,b.pk.length-(r+1)=i:=⟨_,rfl⟩;rw[k];refine kM (λv=>k9 O c) (λv w e x n y o=>?_) _;have g:=((dU O c).1 n).1;have f:=((dU O c).1 o).1;refine⟨i,O,?_,λj p=>?_⟩
  ·rw[g i O O,f i O O,N4.aZ _ _ O,N4.aZ _ _ O,iF rfl,iF rfl];exact e
  rw[g j O O,f j O O,N4.aZ _ _ O,N4.aZ _ _ O,aT O,aT O]
theorem iI(j:Nat)(c:j<4):(⟨0,0,0,0⟩:N4).get j=0:=by
 match j,c with
 | 0,_=>rfl
 | 1,_=>rfl
 | 2,_=>rfl
 | 3,_=>rfl
def iA(b:Sb)(x:N4):Prop:=(∀j,j<b.pk.length->(aD b j).lo<=x.get j/\x.get j<=(aD b j).hi)/\∀j,j<4->b.pk.length<=j->x.get j=0
def eI{b:Sb}(n:b.pk.length<=4):x∈Zi b↔iA b x/\cB b x=true:=by
 rw[Zi,dU (dO _) n,qCv];constructor
 ·rintro⟨e,f,h⟩;exact⟨⟨λj c=>f j (qAI _) c,λj c k=>by rw[e j c (.inr k),iI j c]⟩,h⟩
 rintro⟨⟨e,f⟩,h⟩;exact⟨λj c k=>by rw[f j c O,iI j c],λj _ c=>e j c,h⟩
def k8{b:Sb}(c:b.pk.length<=4):(Zi b).Pairwise bT:=k9 (dO _) c
theorem fH(b:Sb)(lo hi:Int)(h:i<b.pk.length)(j:Nat):aD (Vz b i lo hi) j=if j=i then{ aD b i with lo:=lo,hi:=hi }else aD b j:=by
 show(b.pk.set i _).getD j _=_;rw[qAa,qCD];by_cases e:j=i
 ·subst e;simp[h]
 rw[aT (qAF e),aT e];rfl
def eE(b:Sb)(i:Nat)(e c:Int):(Vz b i e c).pk.length=b.pk.length:=qAg
def mQ{b:Sb}{h f:Int}(A:b.pk.length<=4)(c:i<b.pk.length)(C:(aD b i).lo<=h)(D:f<=(aD b i).hi) :
  Zi (Vz b i h f)=(Zi b).filter λt=>decide (h<=t.get i/\t.get i<=f):=by
 have F:=eE b i h f;refine uG (k8 O) ((k8 A).filter _) λx=>?_;rw[eI O,qAC,eI A,iA,iA,F];have G:cB (Vz b i h f) x=cB b x:=rfl;rw[G,qAy];constructor
 ·rintro⟨⟨k,o⟩,p⟩;have n:=k i c;rw[fH _ _ _ c,iF rfl]at n;refine⟨⟨⟨λj u=>?_,o⟩,p⟩,n⟩;by_cases e:j=i
  ·subst e;exact⟨qCz C n.1,qCz n.2 D⟩
  have:=k j u;rwa [fH _ _ _ c,aT e]at this
 rintro⟨⟨⟨k,o⟩,p⟩,B⟩;refine⟨⟨λj u=>?_,o⟩,p⟩;rw[fH _ _ _ c];split
 ·rename_i e;rw[e];exact B
 exact k j u
def gd(b:Sb)(l:List Int)(t:N4):Bool:=nT b (Yg b t l)
def lS{b:Sb}{l:List Int}:∀(ts:List N4) (s:Td),(ts.foldl (V2 b l) s).good=s.good+((ts.filter (gd b l)).length:Nat)
 | [],s=>by simp
 | t :: ts,s=>by
  rw[qBa,lS ts];show(if gd b l t=true then s.good+1 else s.good)+_=_;rw[qAN];by_cases h:gd b l t=true
  ·rw[iF h,iF h,qAs];omega
  rw[aT h,aT h]
def kF(b:Sb)(ts:List N4)(l:List Int):(cG b ts l).good=((ts.filter (gd b l)).length:Nat):=by rw[cG,lS];show(0:Int)+_=_;omega
def mW{b:Sb}{l:List Int}:∀(ts:List N4) (s:Td),(ts.foldl (V2 b l) s).lo<=s.lo/\(∀t∈ts,(ts.foldl (V2 b l) s).lo<=(Yg b t l).2)/\((ts.foldl (V2 b l) s).lo=s.lo\/∃t∈ts,(ts.foldl (V2 b l) s).lo=(Yg b t l).2)
 | [],s=>⟨qAx _,λt h=>by simp at h,.inl rfl⟩
 | t :: ts,s=>by
  obtain⟨n,o,j⟩:=mW ts (V2 b l s t);rw[qBa];generalize ts.foldl (V2 b l) (V2 b l s t)=f at *;have e:(V2 b l s t).lo=min s.lo (Yg b t l).2:=rfl;rw[e]at n j;refine⟨O,λu k=>?_,?_⟩
  ·rcases qAq.1 k with rfl | k
   ·omega
   exact o u k
  rcases j with j | ⟨u,k,j⟩
  ·by_cases p:s.lo<=(Yg b t l).2
   ·exact .inl O
   exact .inr ⟨t,by simp,O⟩
  exact .inr ⟨u,by simp[k],j⟩
def mV{b:Sb}{l:List Int}:∀(ts:List N4) (s:Td),s.hi<=(ts.foldl (V2 b l) s).hi/\(∀t∈ts,(Yg b t l).2<=(ts.foldl (V2 b l) s).hi)/\((ts.foldl (V2 b l) s).hi=s.hi\/∃t∈ts,(ts.foldl (V2 b l) s).hi=(Yg b t l).2)
 | [],s=>⟨qAx _,λt h=>by simp at h,.inl rfl⟩
 | t :: ts,s=>by
  obtain⟨n,o,j⟩:=mV ts (V2 b l s t);rw[qBa];generalize ts.foldl (V2 b l) (V2 b l s t)=f at *;have e:(V2 b l s t).hi=max s.hi (Yg b t l).2:=rfl;rw[e]at n j;refine⟨O,λu k=>?_,?_⟩
  ·rcases qAq.1 k with rfl | k
   ·omega
   exact o u k
  rcases j with j | ⟨u,k,j⟩
  ·by_cases p:(Yg b t l).2<=s.hi
   ·exact .inl O
   exact .inr ⟨t,by simp,O⟩
  exact .inr ⟨u,by simp[k],j⟩
def kP(h:ts≠[]):ts.getD 0 ⟨0,0,0,0⟩∈ts:=by
 cases ts with
 | nil=>exact absurd rfl h
 | cons t ts=>exact qBv
def jU{b:Sb}{l:List Int}(h:ts≠[]):(∀t∈ts,(cG b ts l).lo<=(Yg b t l).2)/\∃t∈ts,(cG b ts l).lo=(Yg b t l).2:=by
 obtain⟨_,e,c⟩:=mW ts (iR b ts l);refine⟨e,?_⟩;rcases c with c | c
 ·exact⟨_,kP h,c⟩
 exact c
def jT{b:Sb}{l:List Int}(h:ts≠[]):(∀t∈ts,(Yg b t l).2<=(cG b ts l).hi)/\∃t∈ts,(cG b ts l).hi=(Yg b t l).2:=by
 obtain⟨_,e,c⟩:=mV ts (iR b ts l);refine⟨e,?_⟩;rcases c with c | c
 ·exact⟨_,kP h,c⟩
 exact c
def wB{p:α->Bool}{l:List α}:(l.filter p).length=l.length↔∀x∈l,p x=true:=by rw[qBA]
def kO{α:Type}{p:α->Bool}{l:List α}(h:l≠[]):fN ((l.filter p).length:Nat) (l.length:Nat)=1↔∀x∈l,p x=true:=by
 rw[<-wB];have:=qAX.2 h;unfold fN;split
 ·omega
 split
 ·omega
 omega
def nJ{b o:Sb}(c:o.pk.length=b.pk.length)(f:o.pl=b.pl)(h:o.hd=b.hd)(k:∀j,(aD o j).bF=(aD b j).bF):VN o=VN b:=by
 have e:fK o=fK b:=by funext s p;unfold fK;rw[k]
 funext t l;unfold VN GL Ul fA tA;rw[e,c,f,h]
def kR{b o:Sb}(h:∀j,(aD o j).bJ=(aD b j).bJ)(w:List Wk):∀j,U2 o w j=U2 b w j
 | 0=>rfl
 | j+1=>by rw[U2,U2,kR h w j,h]
def kY{b o:Sb}(c:o.pk.length=b.pk.length)(e:o.pl=b.pl)(f:o.hd=b.hd)(h:∀j,(aD o j).bF=(aD b j).bF)(k:∀j,(aD o j).bJ=(aD b j).bJ):Yg o=Yg b:=by funext t l;rw[Yg,Yg,nJ c e f h,kR k]
def oB{b o:Sb}(h:Yg o=Yg b)(c:o.td=b.td)(ts:List N4)(l:List Int):cG o ts l=cG b ts l:=by
 have e:V2 o l=V2 b l:=by funext s t;unfold V2 nT;rw[h,c]
 rw[cG,cG,e,iR,iR,h]
def qF(r d:Nat->Int)(m:Nat):Nat->List Int
 | 0=>List.replicate m 0
 | j+1=>(qF r d m j).set (Zo (qF r d m j)) (max (r j) (el (qF r d m j) (Zo (qF r d m j)))+d j)
def qS(r d:Nat->Int)(m j:Nat):Int:=max (r j) (el (qF r d m j) (Zo (qF r d m j)))
def pR{l:List Wk}{p q:Nat}(w:Wk)(h:q≠p):bM (l.set p w) q=bM l q:=by unfold bM;rw[qAa,qAa,qCD,aT (qAF h)]
structure bK(n:Nat)(l:List Int):Prop where
 len:l.length=n
 nd:l.Nodup
 rg:∀z∈l,0<=z/\z<n
def bK.at_{n:Nat}{l:List Int}(h:bK n l){j:Nat}(e:j<n):0<=el l j/\el l j<n:=by
 have c:j<l.length:=by rw[h.len];exact e
 rw[el,ZD c];exact h.rg _ (bY c)
def bK.inj{n:Nat}{l:List Int}(h:bK n l){j:Nat}(o:i<n)(p:j<n)(e:(el l i).toNat=(el l j).toNat):i=j:=by
 have u:=h.at_ o;have A:=h.at_ p;have k:el l i=el l j:=O;have c:i<l.length:=by rw[h.len];exact o
 have f:j<l.length:=by rw[h.len];exact p
 rw[el,el,ZD c,ZD f]at k;exact(qBQ h.nd).1 k
def bK.perm{n:Nat}{l c:List Int}(h:bK n l)(p:c.Perm l):bK n c:=⟨p.length_eq.trans h.len,p.nodup_iff.2 h.nd,λz e=>h.rg z (p.mem_iff.1 e)⟩
section
variable{b:Sb}{t:N4}{l:List Int}
def s1(b:Sb)(t:N4)(l:List Int)(j:Nat):List Wk×List Int:=(l.take j).foldl (iG t) (tA b)
theorem qJ(c:l.length=b.pk.length):s1 b t l b.pk.length=fA b t l:=by rw[s1,<-c,IF];rfl
def pP(ok:bA b)(f:Yp t)(c:bK b.pk.length l){j:Nat}(e:j<=b.pk.length):WB b.pk.length b.pl.toNat (20 * j) (s1 b t l j):=z7 ok f c.rg j (by rw[c.len];exact e)
def s2(b:Sb)(t:N4)(l:List Int)(j:Nat):List Wk×List Int:=((Ul b t l).take j).foldl (fK b) ((fA b t l).1,List.replicate b.hd.toNat 0)
def cH(c:bK b.pk.length l):bK b.pk.length (Ul b t l):=c.perm (tI _ _)
theorem eR(f:bK b.pk.length l){j:Nat}(e:j<b.pk.length):s2 b t l (j+1)=fK b (s2 b t l j) (el (Ul b t l) j):=by
 have c:j<(Ul b t l).length:=by rw[(cH f).len];exact e
 rw[s2,Oe _ _ c,el,ZD c];rfl
theorem pQ(c:bK b.pk.length l):(s2 b t l b.pk.length).1=VN b t l:=by have h:=(cH (t:=t) c).len;rw[s2,<-h,IF];rfl
def eV(ok:bA b)(u:Yp t)(c:bK b.pk.length l)(p:Nat):∀{j:Nat},j<=b.pk.length ->
  (s2 b t l j).1.length=b.pk.length/\(s2 b t l j).2.length=b.hd.toNat/\(bM (s2 b t l j).1 p).i=(bM (fA b t l).1 p).i/\(bM (s2 b t l j).1 p).o=(bM (fA b t l).1 p).o
 | 0,_=>by have h:=pP ok u c (dO _);rw[qJ c.len]at h;exact⟨h.l1,qBj,rfl,rfl⟩
 | j+1,B=>by
  obtain⟨f,A,k,n⟩:=eV ok u c p (j:=j) O;have C:=(cH (t:=t) c).at_ (j:=j) O;rw[eR c O];refine⟨qAg.trans f,qAg.trans A,?_⟩;show(bM ((s2 b t l j).1.set _ _) p).i=_/\(bM ((s2 b t l j).1.set _ _) p).o=_;rw[mC _ _ (by rw[f];omega)];split
  ·rename_i e;subst e;exact⟨k,n⟩
  exact⟨k,n⟩
abbrev rT(b:Sb)(t:N4)(l:List Int)(j:Nat):Int:=(bM (fA b t l).1 (el (Ul b t l) j).toNat).o
abbrev dT(b:Sb)(t:N4)(l:List Int)(j:Nat):Int:=(aD b (el (Ul b t l) j).toNat).bF
def gO(ok:bA b)(e:Yp t)(c:bK b.pk.length l):∀{j:Nat},j<=b.pk.length->(s2 b t l j).2=qF (rT b t l) (dT b t l) b.hd.toNat j
 | 0,_=>rfl
 | j+1,f=>by have ih:=gO ok e c (j:=j) O;have h:=(eV ok e c (el (Ul b t l) j).toNat (j:=j) O).2.2.2;rw[eR c O,qF,<-ih];show(s2 b t l j).2.set _ _=_;rw[h]
def kS(ok:bA b)(n:Yp t)(c:bK b.pk.length l){j:Nat}(f:j<b.pk.length):∀{k:Nat},j<k->k<=b.pk.length ->
  (bM (s2 b t l k).1 (el (Ul b t l) j).toNat).g=qS (rT b t l) (dT b t l) b.hd.toNat j/\(bM (s2 b t l k).1 (el (Ul b t l) j).toNat).d=qS (rT b t l) (dT b t l) b.hd.toNat j+dT b t l j
 | 0,h,_=>absurd h (qBm _)
 | k+1,h,G=>by
  have I:=(cH (t:=t) c).at_ f;by_cases e:j=k
  ·subst e;obtain⟨A,D,F,B⟩:=eV ok n c (el (Ul b t l) j).toNat (j:=j) O;have C:qS (rT b t l) (dT b t l) b.hd.toNat j=max (bM (s2 b t l j).1 (el (Ul b t l) j).toNat).o (el (s2 b t l j).2 (Zo (s2 b t l j).2)):=by rw[qS,<-gO ok n c O,B]
   rw[eR c f,C];show(bM ((s2 b t l j).1.set _ _) _).g=_/\(bM ((s2 b t l j).1.set _ _) _).d=_;rw[mC _ _ (by rw[A];omega),iF rfl];exact⟨rfl,rfl⟩
  rw[eR c O];show(bM ((s2 b t l k).1.set _ _) _).g=_/\(bM ((s2 b t l k).1.set _ _) _).d=_;rw[pR _ (λu=>e ((cH c).inj f O u))];exact kS ok n c f O O
abbrev wZ(b:Sb)(t:N4)(l:List Int)(z:Int):Wk:=bM (VN b t l) z.toNat
def wD(ok:bA b)(n:Yp t)(e:bK b.pk.length l){j:Nat}(h:j<b.pk.length) :
  (wZ b t l (el (Ul b t l) j)).g=qS (rT b t l) (dT b t l) b.hd.toNat j/\(wZ b t l (el (Ul b t l) j)).d=qS (rT b t l) (dT b t l) b.hd.toNat j+dT b t l j/\(wZ b t l (el (Ul b t l) j)).o=rT b t l j:=by
 have c:=kS ok n e h (k:=b.pk.length) h (dO _);have f:=eV ok n e (el (Ul b t l) j).toNat (dO _);rw[pQ e]at c f;exact⟨c.1,c.2,f.2.2.2⟩
end
def sH:((ZB 1).all λp=>(List.range 1).all λi=>p.contains (i:Int))=true/\((ZB 2).all λp=>(List.range 2).all λi=>p.contains (i:Int))=true/\((ZB 3).all λp=>(List.range 3).all λi=>p.contains (i:Int))=true/\((ZB 4).all λp=>(List.range 4).all λi=>p.contains (i:Int))=true:=by decide +kernel
def rD:(∀p∈ZB 1,p.Nodup)/\(∀p∈ZB 2,p.Nodup)/\(∀p∈ZB 3,p.Nodup)/\(∀p∈ZB 4,p.Nodup):=by decide +kernel
def sV{n:Nat}(u:1<=n/\n<=4){p:List Int}(o:p∈ZB n)(k:i<n):(i:Int)∈p:=by
 obtain⟨c,e,f,j⟩:=sH;have key:((ZB n).all λp=>(List.range n).all λi=>p.contains (i:Int))=true->(i:Int)∈p:=λh=>by have:=IN.1 (IN.1 h p o) i (qAl.2 k);simpa using this
 have:n=1\/n=2\/n=3\/n=4:=O;rcases this with rfl | rfl | rfl | rfl
 ·exact key c
 ·exact key e
 ·exact key f
 exact key j
def lK{n:Nat}(u:1<=n/\n<=4){p:List Int}(c:p∈ZB n):bK n p:=by
 obtain⟨k,o⟩:=CW c;refine⟨k,?_,o⟩;obtain⟨e,f,h,j⟩:=rD;have:n=1\/n=2\/n=3\/n=4:=O;rcases this with rfl | rfl | rfl | rfl
 ·exact e p c
 ·exact f p c
 ·exact h p c
 exact j p c
def bS(b:Sb):Int:=if Zi b=[]then 9 else 0
def mL{b:Sb}(ok:bA b):Zl b 0=bS b:=by
 rw[Zl,jO ok,aT (by decide),aT (by decide),bS];by_cases h:Zi b=[]
 ·rw[iF h,iF (by rw[h];rfl)]
 rw[aT h,aT (by rw[qAt];exact h)]
def fT{b:Sb}(h:Zi b≠[]):bS b=0:=aT h
def fU{b:Sb}:bS b=0↔Zi b≠[]:=by
 unfold bS;split
 ·rename_i h;exact⟨λe=>by simp at e,λe=>absurd h e⟩
 rename_i h;exact⟨λ_=>h,λ_=>rfl⟩
def lJ{n:Nat}{l:List Int}(f:bK n l):∀j,j<=l.length->VB n l j=0
 | 0,_=>rfl
 | j+1,p=>by
  have c:j<l.length:=p;rw[VB,aT (by rw[lJ f j O];decide),ZD c,aT (by have:=f.rg _ (bY c);omega),aT];intro h;obtain⟨z,u,e⟩:=qBg.1 h;have e:l[j]=z:=by simpa using e
  obtain⟨i,o,k⟩:=qAk.1 u;rw[qBC]at k;rw[qAj]at o;have:=(qBQ (h₀:=show i<l.length by omega) (h₁:=c) f.nd).1 (by rw[k,e]);omega
def rI{b:Sb}{l:List Int}(c:bK b.pk.length l):Yq b l=0:=by rw[Yq,aT (by rw[c.len];exact λh=>h rfl)];exact lJ c _ (dO _)
def lL{b:Sb}(h:i<b.pk.length):Yz b i=0:=iF ⟨O,O⟩
def sU{b:Sb}(ok:bA b)(h:i<b.pk.length):(1<=(aD b i).lo/\(aD b i).lo<=(aD b i).hi/\(aD b i).hi<=20)/\(aD b i).hi-(aD b i).lo<3/\(1<=(aD b i).bF/\(aD b i).bF<=20)/\(1<=(aD b i).bJ/\(aD b i).bJ<=20):=by rw[aD,ZD h];exact ok.pk i h
def nH{b:Sb}:z∈Vj b i↔∃t∈Zi b,t.get i=z:=by rw[Vj,qAB]
section
variable{P:aX}[Tz P][Loud P]{H:Hp}
def yV{b:Sb}(hn:1<=b.pk.length/\b.pk.length<=4) :
  LL.Zc P 47 #[b.v] H λv f=>aL H f/\∃A c qs,v=.slice A qs.length c/\aF f v qs/\cX f qs (ZB b.pk.length):=by
 refine aJ.m (bG y9) (args:=[b.v]) rfl ?_;unfold mH Sb.v;refine Y ?_;refine ZY (cs:=Zb [((none,0,0):bW)]) (OL _) rfl λZ qE=>?_;have s8:aF (H.ins Z (.cells (Zb [((none,0,0):bW)]).toArray 26)) (.slice (some ⟨Z,0,none⟩) 1 1) [((none,0,0):bW)]:=Z0 (l:=[((none,0,0):bW)]);have i8:aL H (H.ins Z (.cells (Zb [((none,0,0):bW)]).toArray 26)):=Zs qE;generalize H.ins Z (.cells (Zb [((none,0,0):bW)]).toArray 26)=H1 at *;refine Y ?_;refine ZO (α:=(Option Addr×Nat)×List bW) b.pk.length (λi s f=>aL H f/\aF f (.slice s.1.1 s.2.length s.1.2) s.2/\cX f s.2 (dF b.pk.length i))
  (λi s=>[(1,vi 0),(2,.slice none 0 0),(3,.slice s.1.1 s.2.length s.1.2),(4,vi i)]) (λ_ _=>[(1,b.cs)]) ((some ⟨Z,0,none⟩,1),[(none,0,0)])
  ⟨i8,s8,rfl,λi h h'=>by(obtain rfl:i=0:=by simpa using h);exact⟨.nil _,dO _⟩⟩ V V ?_
 rintro i ⟨⟨A3,c3⟩,qs⟩ H2 hi ⟨i2,s3,U⟩;simp only at s3 U;have tE:=U.len;have lG:=uI hn.2 (show i<=b.pk.length by omega);refine OJ (λh1=>?_) (λh1=>?_)
 ·have yL:i<b.pk.length:=O;refine Y ?_;refine ZO (α:=Hp×Value×List bW×Option Nat) qs.length (λk s f=>aL H2 s.1/\aL s.1 f/\dD s.1 f 26 s.2.1 s.2.2.1 s.2.2.2/\cX s.1 s.2.2.1 (((dF b.pk.length i).take k).flatMap λl=>bR l b.pk.length))
   (λk s=>[(1,vi 0),(2,.slice none 0 0),(3,.slice A3 qs.length c3),(4,vi i),(5,s.2.1),(6,vi k)]) (λ_ _=>[(1,b.cs)]) (H2,.slice none 0 0,[],none) ⟨.refl _,.refl _,.nil _ _ _,.nil _⟩ V V ?_
  rintro k ⟨G,v5,ps,b5⟩ H3 hk ⟨g1,g2,o5,l5⟩;simp only at g1 g2 o5 l5;refine OJ (λh2=>?_) (λh2=>?_)
  ·have I:k<qs.length:=O;have J:k<(dF b.pk.length i).length:=O;obtain⟨sk,ck⟩:=U.at_ k I J;have vN:=wC (λl=>bR l b.pk.length) J;have K:=mD (n:=b.pk.length) ((dF b.pk.length i).take k);rw[qAj]at K;have K:(((dF b.pk.length i).take k).flatMap λl=>bR l b.pk.length).length<=96:=by refine qAz K (qAz (qBq (show min k _<=24 by omega) hn.2) (by decide))
   have CM:=lG.2 _ (bY J);generalize((dF b.pk.length i).take k).flatMap (λl=>bR l b.pk.length)=L at *;generalize(dF b.pk.length i)[k]=l at *;generalize qG:qs[k]=q at *;have S:=kL sk;obtain⟨qA,qn,qc⟩:=q;simp only at S ck;subst S;refine Y ?_;refine ZO (α:=Hp×Value×List bW×Option Nat) b.pk.length (λj s f=>aL H2 s.1/\aL s.1 f/\dD s.1 f 26 s.2.1 s.2.2.1 s.2.2.2/\cX s.1 s.2.2.1 (L++bR l j))
    (λj s=>[(1,vi 0),(2,.slice none 0 0),(3,.slice A3 qs.length c3),(4,vi i),(5,s.2.1),(6,vi k),(7,vi j)]) (λ_ _=>[(1,b.cs)]) (G,v5,ps,b5) ⟨g1,g2,o5,by rw[bR,qCC,qCp,qAf];exact l5⟩ V V ?_
   rintro j ⟨G2,w5,M,c5⟩ H4 hj ⟨N,Q,o6,X⟩;simp only at N Q o6 X;have mO:=X.len;rw[BY]at mO;have vI:=gW l j;refine OJ (λh3=>?_) (λh3=>?_)
   ·have g9:j<b.pk.length:=O;have B:=mU l j;have C:=N.trans Q;have row:Enc.enc qs[k]=[.slice qA l.length qc]:=by rw[qG];rfl
    refine Y ?_;refine Zz k (s3.inc C) I λa ha=>?_;rw[row]at ha;refine Y ?_;refine Ya ha (Y ?_);refine Za [.slice qA l.length qc,vi j] (hZ (sk.inc C) O) ?_;rintro v _ ⟨rfl,rfl⟩;by_cases p:(j:Int)∈l
    ·rw[decide_eq_true p];rw[iF p,qAf]at B;refine Y ?_;exact⟨(⟨j+1,O⟩,(G2,w5,M,c5)),bN O,⟨N,Q,o6,by rw[B];exact X⟩,V,V,rfl⟩
    rw[qAo p];rw[aT p]at B;refine Y ?_;refine qZ (bI dW) (cD t3) (OL _) λr7 u=>Y ?_;refine Zz k ((s3.inc C).inc (Zs u)) I λa2 R=>?_;rw[row]at R;refine Y ?_;refine Ya R (Y ?_);refine lV (l:=l) (bI dW) (cD t3) rfl (by decide) u rfl ((sk.inc C).inc (Zs u)) (sG (λ_=>rfl) l) O O rfl rfl (OL _) λv8 H5 b8 i5 o8=>?_;have qD:aL H4 H5:=(Zs (o:=.cells #[] 3) u).trans i5;refine Y ?_;refine ZY (cs:=[vi (j:Int)]) (OL _) rfl λr9 T=>Y ?_;refine U7 (l':=[(j:Int)]) (bI dW) (bI dW) (cD t3) rfl (by decide) (qD.trans (Zs T)) (o8.ins T) qY rfl (by simp;omega) O rfl rfl (OL _) λv9 H6 b9 k1 k2 k3=>?_;obtain⟨A9,c9,rfl,q9⟩:=jF k2;obtain⟨G',m1,m2,m3,m4⟩:=yR Q o6 k1 k2;refine Y ?_;refine ZY (cs:=[.slice A9 (l++[(j:Int)]).length c9]) (OL _) rfl λwL F=>Y ?_;refine U7 (l':=[((A9,(l++[(j:Int)]).length,c9):bW)]) (bI kU) (bI kU) (cD rO) rfl (by decide) (m2.trans (Zs F)) (m3.ins F) (Z0 (l:=[((A9,(l++[(j:Int)]).length,c9):bW)])) rfl (by simp;omega) O rfl rfl (OL _) λuY H7 vO n1 n2 n3=>Y ?_;exact⟨(⟨j+1,O⟩,(G',uY,M++[(A9,(l++[(j:Int)]).length,c9)],vO)),bN O,⟨N.trans m1,n1,n2,by rw[B,<-qAW];exact(X.inc m1).snoc m4 q9⟩,V,V,rfl⟩
   have:j=b.pk.length:=O;subst this;refine Y ?_;exact⟨(⟨k+1,O⟩,(G2,w5,M,c5)),bN O,⟨N,Q,o6,by rw[vN];exact X⟩,V,V,rfl⟩
  have:k=qs.length:=O;subst this;rw[tE,IF]at l5;obtain⟨A5,c5,rfl,q5⟩:=jF o5;refine Y ?_;exact⟨(⟨i+1,O⟩,((A5,c5),ps)),bN O,⟨(i2.trans g1).trans g2,o5.sl,l5.inc g2⟩,V,V,rfl⟩
 have:i=b.pk.length:=O;subst this;rw[uK hn]at U;refine Y ?_;exact⟨i2,A3,c3,qs,rfl,s3,U⟩
def yU{b:Sb}{n:Int}(D:1<=b.pk.length/\b.pk.length<=4)(I:0<=n/\n<256) :
  LL.Zc P 37 #[b.v,.int .u8 n] H λv u=>aL H u/\∃A c p,p∈ZB b.pk.length/\v=.slice A p.length c/\p.length<=c/\aF u (.slice A p.length c) p:=by
 refine aJ.m (bG y6) (args:=[b.v,.int .u8 n]) rfl ?_;unfold lU Sb.v;refine Y ?_;refine Za [b.v] (yV D) ?_;rintro v Q ⟨L,A,c,qs,rfl,sq,F⟩;have J:=F.len;have K:=CZ D;have k:0<qs.length:=by obtain⟨R,S,T,U⟩:=IB;have:b.pk.length=1\/b.pk.length=2\/b.pk.length=3\/b.pk.length=4:=O;rcases this with e | e | e | e<;>rw[e]at J<;>omega
 refine Y ?_;refine Vs (bI Tryz.underlying5) (bI Tryz.underlying3) rfl ?_;rw[Uk (show pZ n from⟨O,O⟩)];refine Y ?_;refine lW rfl rfl O ?_;obtain⟨i,C,G⟩:=iZ (n:=qs.length) I.1 k;rw[G];have h:i<(ZB b.pk.length).length:=O;obtain⟨s1,s2⟩:=F.at_ i C h;have o:=kL s1;have j:=bY h;have row:Enc.enc qs[i]=[dN qs[i]]:=rfl;refine Y ?_;refine Zz i sq C λa B=>?_;rw[row]at B;generalize qs[i]=q at *;generalize(ZB b.pk.length)[i]=p at *;obtain⟨M,V,N⟩:=q;simp only at o s2;subst o;refine Y ?_;refine Ya B (Y ?_);exact⟨L,M,N,p,j,rfl,s2,s1⟩
end
def dG.res{b c:Sb}(h:dG b c):Yg c=Yg b:=kY (by rw[h.pk]) h.pl h.hd (λj=>by rw[h.at_]) λj=>by rw[h.at_]
def iH(i:Nat)(ts:List N4)(c:Int):Int:=((ts.filter λt=>decide (t.get i=c)).length:Int)
def sP{b:Sb}(e:b.pk.length<=4)(c:i<b.pk.length)(h:(aD b i).lo<=z/\z<=(aD b i).hi):((Zi (Vz b i z z)).length:Int)=iH i (Zi b) z:=by rw[mQ e c h.1 h.2,iH];congr 2;exact qBW λt _=>qBk.2 O
def jI(f:Int->Int)(c:Int):Nat->Int
 | 0=>0
 | k+1=>jI f c k+f (c+k)
theorem gD(i:Nat)(c:Int):∀k,jI (iH i []) c k=0
 | 0=>rfl
 | k+1=>by rw[jI,gD i c k];rfl
def vX(i:Nat)(t:N4)(ts:List N4)(c:Int):iH i (t :: ts) c=iH i ts c+if t.get i=c then 1 else 0:=by
 rw[iH,iH,qAN];by_cases h:t.get i=c
 ·rw[iF (decide_eq_true h),iF h,qAs];omega
 rw[aT (by simpa using h),aT h];omega
def gH(i:Nat)(t:N4)(ts:List N4)(c:Int):∀k,jI (iH i (t :: ts)) c k=jI (iH i ts) c k+if c<=t.get i/\t.get i<c+k then 1 else 0
 | 0=>by rw[jI,jI,aT O];rfl
 | k+1=>by rw[jI,jI,gH i t ts c k,vX];split<;>split<;>split<;>omega
def kN(i:Nat)(c:Int)(k:Nat):∀ts:List N4,(∀t∈ts,c<=t.get i/\t.get i<c+k)->jI (iH i ts) c k=ts.length
 | [],_=>gD i c k
 | t :: ts,h=>by rw[gH,kN i c k ts λu e=>h u (by simp[e]),iF (h t (by simp)),qAs];omega
def iM(b:Sb)(i:Nat):List Int:=Oh (lD (Vj b i))
def jR(b:Sb)(l:List Int):Int:=if Zi b=[]then 0 else(cG b (Zi b) l).lo
def jL(b:Sb)(l:List Int):Int:=if Zi b=[]then 0 else(cG b (Zi b) l).hi
def jW(b:Sb)(l:List Int):Int:=if Zi b=[]then 0 else fN (cG b (Zi b) l).good (Zi b).length
def nN{b:Sb}(x y:α):(if bS b=0 then x else y)=if Zi b=[]then y else x:=by
 by_cases h:Zi b=[]
 ·rw[aT (λe=>fU.1 e h),iF h]
 rw[iF (fU.2 h),aT h]
def gR{b:Sb}(ok:bA b){l:List Int}(c:bK b.pk.length l):Zl b (Yq b l)=bS b:=by rw[rI c,mL ok]
section
variable{P:aX}[Tz P][Loud P]{H:Hp}{b:Sb}
def nK(ok:bA b)(hb:Zr H b)(e:Yk H):LL.Zc P 19 #[b.v] H λv c=>aL H c/\v=.tuple #[vi (Zi b).length,vi 0]:=
 LL.Zc.mono (IC hb ok.sz' e) λv c h=>by rw[iF (jO ok),jO ok]at h;exact h
theorem yX(ok:bA b)(hi:i<b.pk.length)(hb:Zr H b)(o:Yk H):LL.Zc P 21 #[b.v,vi i] H λv f=>aL H f/\∃A c,v=.tuple #[.slice A (iM b i).length c,vi (bS b)]/\aF f (.slice A (iM b i).length c) (iM b i):=
 LL.Zc.mono (PR hb ok.sz' o) λv f h=>by
  rw[lL hi,mL ok,qAD]at h;obtain⟨j,w,rfl,⟨k,rfl⟩ | ⟨_,bb,h3⟩⟩:=h
  ·have n:Zi b=[]:=qAd λe=>k (fT e);have e:iM b i=[]:=by rw[iM,Vj,n];rfl
   rw[e];exact⟨j,none,0,rfl,.nil _⟩
  obtain⟨A,c,rfl,_⟩:=id h3.sl;exact⟨j,A,c,rfl,h3.sl⟩
def nL(ok:bA b){l:List Int}{A:Option Addr}{c:Nat}(j:bK b.pk.length l)(u:aF H (.slice A l.length c) l)(o:l.length<=c)(hb:Zr H b)(p:Yk H)(f:aC H ⟨1,0,none⟩ [vf 284]) :
  LL.Zc P 24 #[b.v,.slice A l.length c] H λv k=>aL H k/\v=.tuple #[.agg #[vi (jR b l),vi (jL b l)],vi (bS b)]:=
 LL.Zc.mono (KH hb ok.sz' p f u o (by have:=j.len;have:=ok.n;omega)) λv k h=>by
  have e:ON b l=(jR b l,jL b l):=by rw[ON,gR ok j,nN,jR,jL];split<;>rfl
  rw[e,gR ok j]at h;exact h
def nM(ok:bA b){l:List Int}{A:Option Addr}{c:Nat}(j:bK b.pk.length l)(p:aF H (.slice A l.length c) l)(k:l.length<=c)(hb:Zr H b)(o:Yk H)(e:aC H ⟨1,0,none⟩ [vf 284]) :
  LL.Zc P 28 #[b.v,.slice A l.length c] H λv f=>aL H f/\v=.tuple #[vi (jW b l),vi (bS b)]:=
 LL.Zc.mono (FR hb ok.sz' o e p k (by have:=j.len;have:=ok.n;omega)) λv f h=>by rw[xB,gR ok j,nN]at h;exact h
end
