import Derived.Test.YtlhomfgcibjccaaGreatDoorTE00
set_option linter.all false
set_option maxHeartbeats 8000000
set_option maxRecDepth 100000
section
open Go Go.LL Go.Conc Go.ConcM
namespace Go.Proofs.YtlhomfgcibjccaaGreatDoor
def pP:Tryz.pinned.checked.prog.funcNamed Rows.steamRealRow.func=some 16:=U
def qK:(Rows.steamRealRow.inPlace == Tryz.pinned.checked.prog.inPlace 16)=true:=U
def qL:(Rows.steamRealRow.unfollowed == Tryz.pinned.checked.prog.unfollowed 16)=true:=U
def qM:(Rows.steamRealRow.recurses == Tryz.pinned.checked.prog.recurses 16)=true:=U
def pR:(Rows.steamRealRow.named == Tryz.pinned.checked.prog.varsNamed 16)=true:=U
def pQ:joinedFacts Tryz.pinned.checked.prog 16 Tryz.f16 Rows.steamRealSpec Rows.steamRealRow=true:=by unfold joinedFacts;exact aE (aE (aE (aE (aE (aE (aE (aE (aE (aE (aE (aE (aE (aE (aE (aE (aE (aE (aE (aE (aE (aE (aE (aE (aE (aE (aE (aE (aE (aE (aE U z4) gV) U) U) U) U) U) U) qK) qL) qM) pR) U) U) U) U) U) U) U) U) U) U) U) fX) fY) U) U) U) U) U) U
def pS:Tryz.f16.isInstance Tryz.pinned.checked.prog Rows.steamRealRow.origin Rows.steamRealRow.targs:=of_decide_eq_true U
def pT:Tryz.f16.isWrapper Tryz.pinned.checked.prog Rows.steamRealRow.wrapper Rows.steamRealRow.mainSum:=by unfold Func.isWrapper;first | (rw[iF (by decide +kernel)];kernel_rfl) | (rw[aT (by decide +kernel)];exact⟨rfl,rfl⟩)
end Go.Proofs.YtlhomfgcibjccaaGreatDoor
end
section
open Go Go.LL
namespace Go.Proofs
structure fI where
 n:Int
 lo:0<=n
 hi:n<65536
instance:Enc fI:=⟨1,λu=>[.int .u16 u.n],λ_=>rfl⟩
def cZ(l:List fI)(i:Int):Int:=if h:0<=i/\i.toNat<l.length then l[i.toNat].n else 0
def nJ(l:List fI)(i:Int):0<=cZ l i/\cZ l i<65536:=by
 unfold cZ;split
 ·exact⟨l[i.toNat].lo,l[i.toNat].hi⟩
 omega
section
variable{P:aX}[Tz P][Loud P]{H:Hp}
theorem JR{lv:Value}{l:List fI}{i:Int}(g:aF H lv l):LL.Zc P 110 #[lv,vi i] H λv h=>H=h/\v=vi (cZ l i):=by
 have b:=g;obtain⟨A,c,rfl,u⟩:=g;refine aJ.m (bG HY) (args:=[_,vi i]) rfl ?_;unfold AZ;refine OJ (λe=>?_) (λe=>?_)
 ·refine OJ (λo=>?_) (λo=>?_)
  ·refine Y ?_;obtain⟨k,rfl⟩:=qBr e;have f:k<l.length:=O;refine pN b rfl rfl rfl f λa p=>Y ?_;refine Ya p (Y ?_);refine Vs (bI Tryz.underlying199) (bI Tryz.underlying3) rfl (Y ?_);have s:cZ l (k:Int)=l[k].n:=by simp[cZ,f]
   rw[s];refine⟨rfl,?_⟩;have:=l[k].lo;have:=l[k].hi;rw[Uk ⟨O,O⟩];rfl
  refine Y ?_;refine⟨rfl,?_⟩;rw[cZ,qEc O];rfl
 refine Y ?_;refine⟨rfl,?_⟩;rw[cZ,qEc O];rfl
end
section
open Go.Conc Go.ConcM
open YtlhomfgcibjccaaGreatDoor Go.ChangeShapes Go.WideShapes
section
variable{H:Type}{enc:TypeId×Value->H}{W:World}{base:Nat}{sp:Nat->Bool}{held:Bool}{fuel:Nat}{cs:List Value}{y:DataW H×List MemPlace}{r:Reach}{b0:Nat}{v:Value}{d:DataW H}{ps:List MemPlace}
def oS(h:DataW.trod enc Tryz.prog W base sp held fuel 199 cs=some y):∃u:fI,cs=Enc.enc u:=by obtain⟨n,rfl,_,b⟩:=DataW.trod_int Tryz.underlying199 h;simp only[Lit.wf,qAc,qAR]at b;have c:IntKind.u16.min=0:=rfl;have e:IntKind.u16.max=65535:=rfl;exact⟨⟨n,O,O⟩,rfl⟩
def EU:Tryz.prog.cellsOf 199=1:=U
def oC:Tryz.prog.underlying 59=some (.slice 199):=U
def v7{α:Type}[Enc α]{t e:TypeId}(g:Tryz.prog.underlying t=some (.slice e))(h:Tryz.prog.cellsOf e=Enc.sz α)(b:0<Enc.sz α)
  (f:∀{n:Nat} {cs:List Value} {y:DataW H×List MemPlace},DataW.trod enc Tryz.prog W base sp held n e cs=some y->∃x:α,cs=Enc.enc x)
  (c:Value.okWide Tryz.prog W r b0 t v) (k:DataW.Trod enc Tryz.prog W base sp held t v d ps):∃l:List α,aF (lQ W) v l:=by
 obtain⟨fuel,o⟩:=k;obtain⟨a,len,cap,rfl⟩:=okWide_slice g c;obtain⟨v,s,l,p⟩:=EK g h b f o;have:Value.slice a len cap=v:=by simpa[Value.cells]using s
 exact⟨l,this ▸ p⟩
def oB(b:Value.okWide Tryz.prog W r b0 59 v)(c:DataW.Trod enc Tryz.prog W base sp held 59 v d ps):∃l:List fI,aF (lQ W) v l:=
 v7 oC EU (by decide) oS b c
def kP(b:Value.okWide Tryz.prog W r b0 5 v)(c:DataW.Trod enc Tryz.prog W base sp held 5 v d ps):∃n,v=.int .u8 n/\0<=n/\n<256:=by obtain⟨n,rfl,_,_,e⟩:=open_int Tryz.underlying5 b c;simp only[Lit.wf,qAc,qAR]at e;have f:IntKind.u8.min=0:=rfl;have g:IntKind.u8.max=255:=rfl;exact⟨n,rfl,O,O⟩
end
end
section
variable{j:Nat}{n a:Int}
def pG{α:Type}{p:α->Prop}{l:List α}(e:j<l.length)(h:∀x∈l.take j,p x)(c:p l[j]):∀x∈l.take (j+1),p x:=by
 intro x b;rw[iN e]at b;rcases qAi.1 b with b | b
 ·exact h x b
 rw[oR.1 b];exact c
section
variable{P:aX}[Tz P][Loud P]{H:Hp}
def gW{lv:Value}{l:List Int}(g:aF H lv l)(p:l.length<=1000000):LL.Zc P 40 #[lv,vi n] H λv c=>H=c/\v=vb (decide (n∈l)):=by
 refine aJ.m (bG sE) (args:=[lv,vi n]) rfl ?_;unfold l8;refine Y ?_;refine Zv l.length (λj c=>H=c/\∀x∈l.take j,x≠n) (λj=>[(0,lv),(1,vi n),(5,vi j)]) (λ_=>[]) ⟨rfl,by simp⟩ V trivial ?_;rintro j _ s ⟨rfl,f⟩;refine Y ?_;refine YE g rfl ?_;refine OJ (λk=>?_) (λk=>?_)
 ·have b:j<l.length:=O;refine Y ?_;refine Zz j g b λa o=>Y ?_;refine Ya o ?_;refine OJ (λe=>?_) (λe=>?_)
  ·refine Y ?_;exact⟨rfl,by rw[decide_eq_true (show n∈l by rw[<-e];exact bY b)];rfl⟩
  refine Y ?_;exact dM (I:=λj c=>H=c/\∀x∈l.take j,x≠n) (env:=λj=>[(0,lv),(1,vi n),(5,vi j)]) (box:=λ_=>[]) b ⟨rfl,pG b f e⟩ V trivial rfl
 have:j=l.length:=O;subst this;rw[IF]at f;refine Y ?_;exact⟨rfl,by rw[qAo (show ¬ n∈l from λh=>f n h rfl)];rfl⟩
end
def iB{m:Int}(h:0<=a)(b:0<m):0<=a.tmod m/\a.tmod m<m:=⟨qDc _ h,qCK _ b⟩
theorem sS{f:Nat->Int}:(List.range (j+1)).map f=(List.range j).map f++[f j]:=by rw[qBs,qBL];rfl
section
variable{P:aX}[Tz P][Loud P]{H:Hp}
def I5{c:Int}(h:0<=a/\a<=c/\c<=99)(e:0<=n):LL.Zc P 109 #[.agg #[vi a,vi c],vi n] H λv b=>H=b/\v=vi (a+n.tmod (c-a+1)):=by refine aJ.m (bG ET) (args:=[.agg #[vi a,vi c],vi n]) rfl ?_;unfold lW;refine Y ?_;refine iJ rfl rfl O ?_;have:=iB (m:=c-a+1) e O;refine Y ?_;exact⟨rfl,rfl⟩
end
def kO{m:Int}{n:Nat}(h:0<=m)(b:0<n):∃i:Nat,i<n/\m.tmod n=i:=by have:=iB (m:=(n:Int)) h O;exact⟨(m.tmod n).toNat,O,O⟩
end
end Go.Proofs
end
section
open Go Go.LL
namespace Go.LL
section
variable{sT E:TypeId}{bV dI m:Nat}{zv w:Value}{xs:List Value}{a:Addr}
section
variable{P:aX}{H:Hp}{d:Option Nat}{next:aM->Hp->Prop}{σ:aM}{x y:Operand}
def JE{T:TypeId}(Z:P.toProgram.underlying sT=some (.slice E))(ti:TI P.toProgram E bV zv dI)(hz:zv.cells.size=bV)(he:0<bV)
  (R:(m=0/\∃A c,w=.slice A 0 c)\/∃a c,w=.slice (some a) m c/\aC H a xs) (G:xs.length=m * bV) (M:(xs.all Value.cJ)=true) (U:m<=1000000000) (I:dI<=1000) (l:P.still H.gh=false)
  {K:Value->Hp->Prop} (k0:m=0->K (.slice (some a) 0 0) H) (k1:∀r o rest,H r=none->m<=o->(xs++rest).length=o * bV->K (.slice (some ⟨r,0,none⟩) m o) (H.ins r (.cells (xs++rest).toArray E))):bL P.toPQ (Builtin.append_ #[sT,sT] T #[.slice (some a) 0 0,w]) (λv _ S=>K v S) false H:=by
 obtain⟨CK,F,i2,i3,L⟩:=ti.ex;have C:∀Q g,Q m g H->bL P.toPQ (Builtin.lenOf w) Q g H:=by intro Q g k;rcases R with⟨rfl,A,c,rfl⟩ | ⟨a,c,rfl,_⟩<;>simpa[Builtin.lenOf,Zj]using k
 have b:∀(Q:Array Value->Bool->Hp->Prop) g,Q xs.toArray g H->bL P.toPQ (Builtin.firstCells bV m w) Q g H:=by
  intro Q g k;rcases R with⟨rfl,A,c,rfl⟩ | ⟨a,c,rfl,V⟩
  ·have:xs=[]:=qAb (by simpa using G);subst this;cases A<;>simpa[Builtin.firstCells,Zj,loadCells,loadCellsFrom]using k
  simp only[Builtin.firstCells];exact yS l V k G
 have D:∀(Q:Array Value->Bool->Hp->Prop) g,Q #[] g H->bL P.toPQ (Builtin.firstCells bV 0 (.slice (some a) 0 0)) Q g H:=by intro Q g k;simpa[Builtin.firstCells,Zj,loadCells,loadCellsFrom]using k
 simp only[Builtin.append_,qAH,qAV,qAT,Zg,Zw Z,Z4 F,i2,Zj,DO,qAw];refine C _ _ ?_;simp only[qBU,qBp];by_cases B:0+m<=0
 ·rw[iF B];have X:m=0:=O;subst X;have J:xs=[]:=qAb (by simpa using G);subst J;simp only[Zg,Zj];refine b _ _ ?_;simpa[storeCells,Zj]using k0 rfl
 rw[aT B];simp only[Zg,O1 F,L];rw[aT (by rintro⟨h,_⟩;simp[IntKind.max,IntKind.bits,IntKind.signed]at h;omega)];simp only[Zg,Zj,O1 F,L];have s:¬ Builtin.nextslicecap (0+m) 0 * dI > 2 ^ 48:=by have M:=B7 (need:=0+m) (old:=0) O;have h2:Builtin.nextslicecap (0+m) 0 * dI<=(2 * (0+m)+200) * 1000:=qBq M I;omega
 rw[aT s];simp only[Zg,Zj,choose];rw[bL];simp only[Question.forced,DO,qAw];refine⟨l,λt=>?_⟩;have u:0+m<=(Question.appendCap (0+m) 0 E).cut t:=by simp only[Question.cut];omega
 generalize(Question.appendCap (0+m) 0 E).cut t=o at u;rw[bL];have p:∀(Q:Unit->Bool->Hp->Prop),Q () false H->bL P.toPQ (askRoom (o * dI)) Q false H:=by
  intro Q k;unfold askRoom;split
  ·exact⟨.inr ⟨rfl,l⟩,k⟩
  exact k
 rw[O1 F,L];refine p _ ?_;refine D _ _ ?_;refine b _ _ ?_;simp only[UC F i3,newRow,Zg,newObj,Zj];refine⟨l,λr Y=>?_⟩;have N:=k1 r o (Builtin.zeroCells zv.cells (o-(0+m))).toList Y O (by simp only[BY,G,qBy,B8,hz];rw[<-qCi];congr 1;omega);have e:(#[]++xs.toArray++Builtin.zeroCells zv.cells (o-(0+m)))=(xs++(Builtin.zeroCells zv.cells (o-(0+m))).toList).toArray:=by simp
 rw[qAE]at e N;rw[qAE,e];exact N
def mM{T:TypeId}(u:P.toProgram.underlying sT=some (.slice E))(D:TI P.toProgram E bV zv dI)(C:zv.cells.size=bV)(o:0<bV)(h:σ.get x=some (.slice (some a) 0 0))(k:σ.get y=some w)
  (B:(m=0/\∃A c,w=.slice A 0 c)\/∃a c,w=.slice (some a) m c/\aC H a xs) (p:xs.length=m * bV) (l:(xs.all Value.cJ)=true) (b:m<=1000000000) (e:dI<=1000) (f:P.still H.gh=false)
  (k0:m=0->next (σ.set d (.slice (some a) 0 0)) H) (k1:∀r g rest,H r=none->m<=g->(xs++rest).length=g * bV->next (σ.set d (.slice (some ⟨r,0,none⟩) m g)) (H.ins r (.cells (xs++rest).toArray E))):(bE.raw (.call { callee:=.builtin .append,args:=#[x,y],argTypes:=#[sT,sT] }) T).m P d next σ H:=by
 refine YS (s:=Builtin.append_ #[sT,sT] T #[.slice (some a) 0 0,w]) (by simp[Op.operands,Call.operands,h,k]) (by simp[execOp,aR,resolve,invoke,builtin,h,k]) ?_;exact JE (T:=T) u D C o B p l b e f k0 k1
end
end
end Go.LL
end
open Go Go.LL
namespace Go.Proofs
section
variable{α:Type}{H0:Hp}{r:Nat}{E:TypeId}
def lJ[Enc α]{H:Hp}{b:Nat}{l:List α}{rest:List Value}(g:aL H0 H)(h:H r=none)(c:l.length<=b)(f:(Zb l++rest).length=b * Enc.sz α):dD H0 (H.ins r (.cells (Zb l++rest).toArray E)) E (.slice (some ⟨r,0,none⟩) l.length b) l (some r):=
 ⟨⟨VH l,.inr ⟨r,b,rest,rfl,rfl,Hp.aG _ _ _,f,c⟩⟩,λk e=>by obtain rfl:=iO e;exact YL g h⟩
section
variable{P:aX}[Tz P]{H:Hp}{d:Option Nat}{next:aM->Hp->Prop}{σ:aM}{x y:Operand}
def vZ[Enc α]{sT T:TypeId}{dI:Nat}{zv w:Value}{l:List α}(J:P.toProgram.underlying sT=some (.slice E))(L:TI P.toProgram E (Enc.sz α) zv dI)(K:zv.cells.size=Enc.sz α)(F:0<Enc.sz α)
  (I:H0 r=none) (D:H=H0.ins r (.cells #[] E)) (V:aF H w l) (R:((Zb l).all Value.cJ)=true) (p:l.length<=1000000000) (g:dI<=1000) (B:σ.get x=some (.slice (some ⟨r,0,none⟩) 0 0)) (C:σ.get y=some w) (k:P.still H.gh=false)
  (h:∀M o N,aL H o->dD H0 o E M l N->next (σ.set d M) o):(bE.raw (.call { callee:=.builtin .append,args:=#[x,y],argTypes:=#[sT,sT] }) T).m P d next σ H:=by
 have G:aL H0 H:=by rw[D];exact Zs I
 obtain⟨A,c,rfl,S⟩:=V;by_cases s:l=[]
 ·subst s;refine mM J L K F B C (m:=0) (xs:=[]) (.inl ⟨rfl,A,c,rfl⟩) (by simp) rfl O g k (λ_=>?_) λu X rest b f e=>?_
  ·exact h _ _ (some r) (.refl _) (by rw[D];exact wB I)
  exact h _ _ (some u) (Zs b) (lJ (l:=([]:List α)) G b f e)
 obtain⟨a,rfl,U⟩:=S s;refine mM J L K F B C (m:=l.length) (xs:=Zb l) (.inr ⟨a,c,rfl,U⟩) (VH l) R p g k (λQ=>absurd (qAb Q) s) λu X rest b f e=>?_;exact h _ _ (some u) (Zs b) (lJ G b f e)
end
end
variable{α:Type}{i:Nat}{qs:List bW}{ls:List (List Int)}{q:bW}{ts:List N4}{t:N4}{z:Int}
def bT(b:Sb)(t:N4):Nat->N4
 | 0=>t
 | j+1=>(bT b t j).put j (min (max (t.get j) (aD b j).lo) (aD b j).hi)
def fG(b:Sb)(l:List Int):Bool:=uW (bT b (Ys l) b.pk.length) (Ys l) && cB b (Ys l)
def fH(b:Sb)(l:List Int):Int:=if ZF b≠0 then ZF b else Um b l
section
variable{P:aX}[Tz P][Loud P]{H:Hp}
def JY{b:Sb}{A:Option Addr}{c:Nat}{l:List Int}(hb:Zr H b)(N:b.Sz)(U:Yk H)(L:aF H (.slice A l.length c) l)(X:l.length<=1000000) :
  LL.Zc P 75 #[b.v,.slice A l.length c] H λv C=>aL H C/\v=.tuple #[vb (if fH b l=0 then fG b l else false),vi (fH b l)]:=by
 refine aJ.m (bG JM) (args:=[b.v,.slice A l.length c]) rfl ?_;unfold lU Sb.v;refine Y ?_;refine Za [b.v] (CG hb N U) ?_;rintro v H1 ⟨s,rfl⟩;refine OJ (λu=>?_) (λu=>?_)
 ·have e:fH b l=ZF b:=iF u;refine Y ?_;exact⟨s,by rw[e,aT u];rfl⟩
 have ok:=Ow (b:=b) u;have e:fH b l=Um b l:=aT O;rw[e];refine Y ?_;refine Za [b.v,.slice A l.length c] (Ih (L.inc s) X N.pk) ?_;rintro v _ ⟨rfl,rfl⟩;refine OJ (λI=>?_) (λI=>?_)
 ·refine Y ?_;exact⟨s,by rw[aT I];rfl⟩
 have h:Um b l=0:=O;have F:l.length<=4:=by have:=(CD h).1;have:=ok.n;omega
 have Z:=ok.n;rw[iF h,h];refine Y ?_;refine Za [.slice A l.length c] (Ii (L.inc s) F) ?_;rintro v R ⟨s2,rfl⟩;have B:=s.trans s2.inc;have ht:=uE (CD h).2;unfold fG;generalize Ys l=t at *;refine Y ?_;refine Zv b.pk.length (λj C=>R=C) (λj=>[(2,vi 0),(7,vi 0),(9,vi 0),(10,vi 0),(30,.slice b.A1 b.pk.length b.c1),(31,vi b.pk.length),(32,vi j)]) (λj=>[(2,b.cs),(7,b.cs),(9,t.cells),(10,(bT b t j).cells)]) rfl V V ?_;rintro j _ hj rfl;refine OJ (λT=>?_) (λT=>?_)
 ·have o:j<b.pk.length:=O;have k:j<4:=O;have S:b.pk[j]=aD b j:=(ZD o _).symm;refine Y ?_;refine Zz j (hb.pk.inc B) o λa J=>?_;rw[S]at J;have G:bT b t (j+1)=(bT b t j).put j (min (max (t.get j) (aD b j).lo) (aD b j).hi):=rfl;generalize aD b j=p at *;refine Y ?_;refine YA (cs:=[.string p.nm,vi p.lo,vi p.hi,vi p.bF,vi p.bJ]) J (Y ?_);refine CF (j:=j) rfl rfl k (Y ?_);refine FW (v:=vi (t.get j)) (OL _) rfl rfl (by
   match j,k with
   | 0,_=>rfl
   | 1,_=>rfl
   | 2,_=>rfl
   | 3,_=>rfl) ?_
  refine Y ?_;refine q8 rfl rfl (Y ?_);refine z5 rfl rfl (Y ?_);refine CF (j:=j) rfl rfl k (Y ?_);refine FX (OL _) rfl rfl rfl rfl (by show 0+j * 1+1<=4;omega) rfl ?_;have D:ZG (bT b t j).cells (0+j * 1) (Value.cells (vi (min (max (t.get j) p.lo) p.hi))).toList=(bT b t (j+1)).cells:=by rw[G];exact T4 _ _ k
  rw[D];refine Y ?_;exact⟨⟨j+1,O⟩,bN O,rfl,V,V,rfl⟩
 have:j=b.pk.length:=O;subst this;refine Y ?_;refine KQ (xs:=#[vi (bT b t b.pk.length).a,vi (bT b t b.pk.length).b,vi (bT b t b.pk.length).c,vi (bT b t b.pk.length).d]) (ys:=#[vi t.a,vi t.b,vi t.c,vi t.d]) (b:=uW (bT b t b.pk.length) t) y0 (λQ g H hq=>Hy Q hq) rfl rfl ?_;cases hz:uW (bT b t b.pk.length) t with
 | false=>
  refine Y ?_;exact⟨B,rfl⟩
 | true=>
  refine Y ?_;refine Za [b.v,Zu t] (Ic (hb.inc B) ok ht) ?_;rintro v H3 ⟨s3,rfl⟩;refine Y ?_;exact⟨B.trans s3.inc,rfl⟩
def sN{b:Sb}(hb:Zr H b):LL.Zc P 36 #[b.v] H λv c=>H=c/\∃g,v=vb g/\(g=true->bA b):=by
 refine aJ.m (bG JI) (args:=[b.v]) rfl ?_;unfold mV Sb.v;refine Y ?_;refine Za [b.v] (eO hb) ?_;rintro v _ ⟨rfl,g,rfl,e⟩;cases g with
 | true=>
  refine Y ?_;exact⟨rfl,false,rfl,λh=>by simp at h⟩
 | false=>
  refine Y ?_;refine Za [b.v] (cF hb (e rfl).sz) ?_;rintro v _ ⟨rfl,rfl⟩;refine Y ?_;exact⟨rfl,decide (ZF b=0),by simp[Y5],λh=>Ow (of_decide_eq_true h)⟩
end
def bR(l:List Int)(j:Nat):List (List Int):=(List.range j).flatMap λ(i:Nat)=>if(i:Int)∈l then[]else[l++[(i:Int)]]
def dF(n:Nat):Nat->List (List Int)
 | 0=>[[]]
 | i+1=>(dF n i).flatMap λl=>bR l n
theorem nN(l:List Int)(j:Nat):bR l (j+1)=bR l j++if(j:Int)∈l then[]else[l++[(j:Int)]]:=by rw[bR,qBs,qBb,qAQ];rfl
def yZ{β:Type}(f:α->List β){l:List α}{k:Nat}(h:k<l.length):(l.take (k+1)).flatMap f=(l.take k).flatMap f++f l[k]:=by rw[iN h,qBb,qAQ]
def y7:dF 1 1=ZB 1/\dF 2 2=ZB 2/\dF 3 3=ZB 3/\dF 4 4=ZB 4:=by decide +kernel
def vX{n:Nat}(g:1<=n/\n<=4):dF n n=ZB n:=by
 obtain⟨b,c,e,f⟩:=y7;have:n=1\/n=2\/n=3\/n=4:=O;rcases this with rfl | rfl | rfl | rfl
 ·exact b
 ·exact c
 ·exact e
 exact f
def y9:((List.range 5).all λn=>(List.range (n+1)).all λi=>decide ((dF n i).length<=24) && (dF n i).all λl=>decide (l.length<=4))=true:=by decide +kernel
def y8{n:Nat}(e:n<=4)(c:i<=n):(dF n i).length<=24/\∀l∈dF n i,l.length<=4:=by have h:=IN.1 (IN.1 y9 n (qAl.2 O)) i (qAl.2 O);rw[qAc,qAy,IN]at h;exact⟨h.1,λl b=>of_decide_eq_true (h.2 l b)⟩
def iY(l:List Int):∀j,(bR l j).length<=j
 | 0=>dO _
 | j+1=>by rw[nN,BY];have:=iY l j;split<;>simp<;>omega
def mQ{n:Nat}:∀(L:List (List Int)),(L.flatMap λl=>bR l n).length<=L.length * n
 | []=>by simp
 | l :: L=>by rw[qAM,BY,qAs,qBY];have:=mQ (n:=n) L;have:=iY l n;omega
structure cX(H:Hp)(qs:List bW)(ls:List (List Int)):Prop where
 len:qs.length=ls.length
 at_:∀i (h:i<qs.length) (h':i<ls.length),aF H (dN qs[i]) ls[i]/\qs[i].2.1<=qs[i].2.2
def cX.nil(H:Hp):cX H [] []:=⟨rfl,λi h=>by simp at h⟩
def cX.inc{H H':Hp}(h:cX H qs ls)(c:aL H H'):cX H' qs ls:=⟨h.len,λi a b=>⟨((h.at_ i a b).1).inc c,(h.at_ i a b).2⟩⟩
def cX.snoc{H:Hp}{l:List Int}(h:cX H qs ls)(g:aF H (dN q) l)(f:q.2.1<=q.2.2):cX H (qs++[q]) (ls++[l]):=by
 refine⟨by simp[h.len],λi a b=>?_⟩;have:=h.len;by_cases c:i<qs.length
 ·rw[qAp c,qAp O];exact h.at_ i c O
 simp only[BY,qAA]at a;have e:i=qs.length:=O;subst e;rw[qAr (dO _),qAr O];simp[this];exact⟨g,f⟩
def kS{H:Hp}{l:List Int}(h:aF H (dN q) l):q.2.1=l.length:=by obtain⟨_,_,e,_⟩:=h;simp only[Value.slice.injEq]at e;exact e.2.1
def k9{α:Type}{f:Int->List α}{b:Int}{x:α}:∀{c:Nat},x∈gT f b c↔∃v,b-c<v/\v<=b/\x∈f v
 | 0=>by
  rw[gT];constructor
  ·intro h;simp at h
  rintro⟨v,l,g,_⟩;omega
 | c+1=>by
  rw[gT,qAi,k9];constructor
  ·rintro(h | ⟨v,l,g,k⟩)
   ·exact⟨b-c,O,O,h⟩
   exact⟨v,O,g,k⟩
  rintro⟨v,l,g,k⟩;by_cases e:v=b-c
  ·subst e;exact .inl k
  exact .inr ⟨v,O,g,k⟩
def hZ{b:Sb}:∀{r:Nat} {m x:N4},r<=b.pk.length->b.pk.length<=4->(x∈bX b r m↔(∀j,j<4->(j<b.pk.length-r\/b.pk.length<=j)->x.get j=m.get j)/\(∀j,b.pk.length-r<=j->j<b.pk.length->(aD b j).lo<=x.get j/\x.get j<=(aD b j).hi)/\cB b x=true)
 | 0,m,x,_,_=>by
  rw[bX];constructor
  ·intro h;split at h
   ·obtain rfl:=oR.1 h;exact⟨λ_ _ _=>rfl,λj l p=>O,by assumption⟩
   simp at h
  rintro⟨l,_,s⟩;have:x=m:=N4.ext' λj c=>l j c O;subst this;rw[iF s];simp
 | r+1,m,x,F,B=>by
  rw[bX,k9];obtain⟨i,A⟩:∃i,b.pk.length-(r+1)=i:=⟨_,rfl⟩;rw[A];constructor
  ·rintro⟨v,l,p,s⟩;obtain⟨g,k,o⟩:=(hZ O B).1 s;refine⟨λj c C=>?_,λj D u=>?_,o⟩
   ·rw[g j c O,N4.aZ _ _ c,aT O]
   by_cases e:j=i
   ·subst e;have:=g j O O;rw[N4.aZ _ _ O,iF rfl]at this;omega
   exact k j O u
  rintro⟨g,k,o⟩;have:=k i O O;refine⟨x.get i,O,O,(hZ O B).2 ⟨λj c C=>?_,λj l p=>k j O p,o⟩⟩;rw[N4.aZ _ _ c];split
  ·rename_i e;rw[e]
  exact g j c O
theorem kF(j:Nat)(b:j<4):(⟨0,0,0,0⟩:N4).get j=0:=by
 match j,b with
 | 0,_=>rfl
 | 1,_=>rfl
 | 2,_=>rfl
 | 3,_=>rfl
def jT(b:Sb)(x:N4):Prop:=(∀j,j<b.pk.length->(aD b j).lo<=x.get j/\x.get j<=(aD b j).hi)/\∀j,j<4->b.pk.length<=j->x.get j=0
def kZ{b:Sb}(k:b.pk.length<=4){x:N4}:x∈Zi b↔jT b x/\cB b x=true:=by
 rw[Zi,hZ (dO _) k,qCv];constructor
 ·rintro⟨e,f,g⟩;exact⟨⟨λj c=>f j (qAI _) c,λj c h=>by rw[e j c (.inr h),kF j c]⟩,g⟩
 rintro⟨⟨e,f⟩,g⟩;exact⟨λj c h=>by rw[f j c O,kF j c],λj _ c=>e j c,g⟩
def gd(b:Sb)(l:List Int)(t:N4):Bool:=nT b (Yg b t l)
def mS{b:Sb}{l:List Int}:∀(ts:List N4) (s:Td),(ts.foldl (V2 b l) s).good=s.good+((ts.filter (gd b l)).length:Nat)
 | [],s=>by simp
 | t :: ts,s=>by
  rw[qBa,mS ts];show(if gd b l t=true then s.good+1 else s.good)+_=_;rw[qAN];by_cases h:gd b l t=true
  ·rw[iF h,iF h,qAs];omega
  rw[aT h,aT h]
def iA(b:Sb)(ts:List N4)(l:List Int):(cG b ts l).good=((ts.filter (gd b l)).length:Nat):=by rw[cG,mS];show(0:Int)+_=_;omega
def jG{c:N4}{w:B4}:∀{j:Nat},j<=4->∀{i:Nat},i<4->(Yv c w j).get i=if i<j/\w.get i=true then c.get i+1 else c.get i
 | 0,_,i,_=>by rw[Yv,aT O]
 | j+1,l,i,k=>by
  rw[Yv];have ih:=@jG c w j O i k;have g:=@jG c w j O j O;rw[aT O]at g;split
  ·rename_i h;rw[N4.aZ _ _ k];by_cases e:i=j
   ·subst e;rw[iF rfl,g,iF ⟨O,h⟩]
   rw[aT e,ih];by_cases b:i<j/\w.get i=true
   ·rw[iF b,iF ⟨O,b.2⟩]
   rw[aT b,aT (λf=>b ⟨O,f.2⟩)]
  rename_i h;rw[ih];by_cases e:i=j
  ·subst e;rw[aT O,aT (λf=>h f.2)]
  by_cases b:i<j/\w.get i=true
  ·rw[iF b,iF ⟨O,b.2⟩]
  rw[aT b,aT (λf=>b ⟨O,f.2⟩)]
def mR{b:Sb}{l:List Int}{i:Nat}(f:i<4):∀(ts:List N4) (s:Td),(ts.foldl (V2 b l) s).cold.get i=s.cold.get i+((ts.filter λt=>(Yg b t l).1.get i).length:Nat)
 | [],s=>by simp
 | t :: ts,s=>by
  rw[qBa,mR f ts];have e:(V2 b l s t).cold.get i=if(Yg b t l).1.get i=true then s.cold.get i+1 else s.cold.get i:=by
   show(Yv s.cold (Yg b t l).1 4).get i=_;rw[jG (dO _) f];by_cases h:(Yg b t l).1.get i=true
   ·rw[iF ⟨f,h⟩,iF h]
   rw[aT (λg=>h g.2),aT h]
  rw[e,qAN];by_cases h:(Yg b t l).1.get i=true
  ·rw[iF h,iF h,qAs];omega
  rw[aT h,aT h]
def pU(b:Sb)(ts:List N4)(l:List Int){i:Nat}(e:i<4):(cG b ts l).cold.get i=((ts.filter λt=>(Yg b t l).1.get i).length:Nat):=by
 rw[cG,mR e];have:(iR b ts l).cold.get i=0:=by
  match i,e with
  | 0,_=>rfl
  | 1,_=>rfl
  | 2,_=>rfl
  | 3,_=>rfl
 omega
def mU{b:Sb}{l:List Int}:∀(ts:List N4) (s:Td),(ts.foldl (V2 b l) s).lo<=s.lo/\(∀t∈ts,(ts.foldl (V2 b l) s).lo<=(Yg b t l).2)/\((ts.foldl (V2 b l) s).lo=s.lo\/∃t∈ts,(ts.foldl (V2 b l) s).lo=(Yg b t l).2)
 | [],s=>⟨qAx _,λt h=>by simp at h,.inl rfl⟩
 | t :: ts,s=>by
  obtain⟨o,p,g⟩:=mU ts (V2 b l s t);rw[qBa];generalize ts.foldl (V2 b l) (V2 b l s t)=f at *;have e:(V2 b l s t).lo=min s.lo (Yg b t l).2:=rfl;rw[e]at o g;refine⟨O,λu k=>?_,?_⟩
  ·rcases qAq.1 k with rfl | k
   ·omega
   exact p u k
  rcases g with g | ⟨u,k,g⟩
  ·by_cases A:s.lo<=(Yg b t l).2
   ·exact .inl O
   exact .inr ⟨t,by simp,O⟩
  exact .inr ⟨u,by simp[k],g⟩
def mT{b:Sb}{l:List Int}:∀(ts:List N4) (s:Td),s.hi<=(ts.foldl (V2 b l) s).hi/\(∀t∈ts,(Yg b t l).2<=(ts.foldl (V2 b l) s).hi)/\((ts.foldl (V2 b l) s).hi=s.hi\/∃t∈ts,(ts.foldl (V2 b l) s).hi=(Yg b t l).2)
 | [],s=>⟨qAx _,λt h=>by simp at h,.inl rfl⟩
 | t :: ts,s=>by
  obtain⟨o,p,g⟩:=mT ts (V2 b l s t);rw[qBa];generalize ts.foldl (V2 b l) (V2 b l s t)=f at *;have e:(V2 b l s t).hi=max s.hi (Yg b t l).2:=rfl;rw[e]at o g;refine⟨O,λu k=>?_,?_⟩
  ·rcases qAq.1 k with rfl | k
   ·omega
   exact p u k
  rcases g with g | ⟨u,k,g⟩
  ·by_cases A:(Yg b t l).2<=s.hi
   ·exact .inl O
   exact .inr ⟨t,by simp,O⟩
  exact .inr ⟨u,by simp[k],g⟩
def kE(h:ts≠[]):ts.getD 0 ⟨0,0,0,0⟩∈ts:=by
 cases ts with
 | nil=>exact absurd rfl h
 | cons t ts=>exact qBv
def kM{b:Sb}{l:List Int}(h:ts≠[]):(∀t∈ts,(cG b ts l).lo<=(Yg b t l).2)/\∃t∈ts,(cG b ts l).lo=(Yg b t l).2:=by
 obtain⟨_,e,c⟩:=mU ts (iR b ts l);refine⟨e,?_⟩;rcases c with c | c
 ·exact⟨_,kE h,c⟩
 exact c
def kL{b:Sb}{l:List Int}(h:ts≠[]):(∀t∈ts,(Yg b t l).2<=(cG b ts l).hi)/\∃t∈ts,(cG b ts l).hi=(Yg b t l).2:=by
 obtain⟨_,e,c⟩:=mT ts (iR b ts l);refine⟨e,?_⟩;rcases c with c | c
 ·exact⟨_,kE h,c⟩
 exact c
def yX{p:α->Bool}{l:List α}:(l.filter p).length=l.length↔∀x∈l,p x=true:=by rw[qBA]
def yY{p:α->Bool}{l:List α}:(l.filter p).length=0↔∀x∈l,p x=false:=by rw[qAt,qDg];simp
def gD{p:α->Bool}{l:List α}(h:l≠[]):fN ((l.filter p).length:Nat) (l.length:Nat)=1↔∀x∈l,p x=true:=by
 rw[<-yX];have:=qAX.2 h;unfold fN;split
 ·omega
 split
 ·omega
 omega
def kT{p:α->Bool}{l:List α}:fN ((l.filter p).length:Nat) (l.length:Nat)=2↔∀x∈l,p x=false:=by
 rw[<-yY];unfold fN;split
 ·omega
 split
 ·omega
 omega
def eR(b:Sb)(ts:List N4)(p:List Int):Bool:=ts.all (gd b p)
def mL{b:Sb}{m:Nat}(h:ts≠[])(c:1<=m):UM b ts m=eR b ts (ZX b.pk.length m):=by rw[qBT,UM,qAc,qAy,qAy,iA,gD h,eR,IN];exact⟨λh=>h.2,λh=>⟨c,h⟩⟩
def vY{b:Sb}(h:ts≠[]):(dE b ts).map (ZX b.pk.length)=(ZB b.pk.length).filter (eR b ts):=by
 have e:ZB b.pk.length=((List.range (ZB b.pk.length).length).map (·+1)).map (ZX b.pk.length):=by refine qBl (by simp) λi f l=>?_;simp only[qAZ,qCl,ZX,qAU];exact(ZD f _).symm
 conv=>rhs;rw[e]
 rw[qDy,dE];congr 1;refine qBW λm g=>?_;obtain⟨k,_,rfl⟩:=qAB.1 g;exact mL h O
structure dU(n:Nat)(l:List Int):Prop where
 len:l.length=n
 nd:l.Nodup
 rg:∀z∈l,0<=z/\z<n
def nM{c:B4}{z:Int}:∀{j:Nat},z∈cS c j↔∃i:Nat,i<j/\z=i/\c.get i=true
 | 0=>by rw[cS];exact⟨λh=>by simp at h,λ⟨i,h,_⟩=>O⟩
 | j+1=>by
  rw[cS];have ih:=@nM c z j;split
  ·rename_i h;rw[qAi,ih,oR];constructor
   ·rintro(⟨i,g,b,f⟩ | g)
    ·exact⟨i,O,b,f⟩
    exact⟨j,O,g,h⟩
   rintro⟨i,g,b,f⟩;by_cases e:i=j
   ·subst e;exact .inr b
   exact .inl ⟨i,O,b,f⟩
  rename_i h;rw[ih];constructor
  ·rintro⟨i,g,b,f⟩;exact⟨i,O,b,f⟩
  rintro⟨i,g,b,f⟩;by_cases e:i=j
  ·subst e;exact absurd f h
  exact⟨i,O,b,f⟩
def iX{b:Sb}{l:List Int}:z∈gM b t l↔∃i:Nat,i<4/\z=i/\(Yg b t l).1.get i=true:=nM
def nL{b:Sb}{l:List Int}:gM b t l=[]↔pM (Yg b t l).1=true:=by
 constructor
 ·intro h;have key:∀i,i<4->(Yg b t l).1.get i=false:=λi p=>by
   cases e:(Yg b t l).1.get i with
   | false=>rfl
   | true=>
    have:(i:Int)∈gM b t l:=iX.2 ⟨i,p,rfl,e⟩;rw[h]at this;simp at this
  have f:(Yg b t l).1.a=false:=key 0 (by decide);have g:(Yg b t l).1.b=false:=key 1 (by decide);have k:(Yg b t l).1.c=false:=key 2 (by decide);have o:(Yg b t l).1.d=false:=key 3 (by decide);rw[pM,f,g,k,o];rfl
 intro h;refine qCF.2 λz s=>?_;obtain⟨i,p,_,e⟩:=iX.1 s;simp only[pM,qAc,qBe]at h;obtain⟨⟨⟨f,g⟩,k⟩,o⟩:=h;match i,p with
 | 0,_=>exact absurd e (by show ¬ (Yg b t l).1.a=true;rw[f];decide)
 | 1,_=>exact absurd e (by show ¬ (Yg b t l).1.b=true;rw[g];decide)
 | 2,_=>exact absurd e (by show ¬ (Yg b t l).1.c=true;rw[k];decide)
 | 3,_=>exact absurd e (by show ¬ (Yg b t l).1.d=true;rw[o];decide)
def wD:(∀p∈ZB 1,p.Nodup)/\(∀p∈ZB 2,p.Nodup)/\(∀p∈ZB 3,p.Nodup)/\(∀p∈ZB 4,p.Nodup):=by decide +kernel
def lL{n:Nat}(l:1<=n/\n<=4){p:List Int}(b:p∈ZB n):dU n p:=by
 obtain⟨h,k⟩:=CW b;refine⟨h,?_,k⟩;obtain⟨c,e,f,g⟩:=wD;have:n=1\/n=2\/n=3\/n=4:=O;rcases this with rfl | rfl | rfl | rfl
 ·exact c p b
 ·exact e p b
 ·exact f p b
 exact g p b
def bS(b:Sb):Int:=if Zi b=[]then 9 else 0
def eE{b:Sb}(ok:bA b):Zl b 0=bS b:=by
 rw[Zl,jO ok,aT (by decide),aT (by decide),bS];by_cases h:Zi b=[]
 ·rw[iF h,iF (by rw[h];rfl)]
 rw[aT h,aT (by rw[qAt];exact h)]
def jU{b:Sb}(h:Zi b≠[]):bS b=0:=aT h
def gR{b:Sb}:bS b=0↔Zi b≠[]:=by
 unfold bS;split
 ·rename_i h;exact⟨λe=>by simp at e,λe=>absurd h e⟩
 rename_i h;exact⟨λ_=>h,λ_=>rfl⟩
def lK{n:Nat}{l:List Int}(c:dU n l):∀j,j<=l.length->VB n l j=0
 | 0,_=>rfl
 | j+1,k=>by
  have b:j<l.length:=k;rw[VB,aT (by rw[lK c j O];decide),ZD b,aT (by have:=c.rg _ (bY b);omega),aT];intro h;obtain⟨z,o,e⟩:=qBg.1 h;have e:l[j]=z:=by simpa using e
  obtain⟨i,g,f⟩:=qAk.1 o;rw[qBC]at f;rw[qAj]at g;have:=(qBQ (h₀:=show i<l.length by omega) (h₁:=b) c.nd).1 (by rw[f,e]);omega
def gG{b:Sb}{l:List Int}(c:dU b.pk.length l):Yq b l=0:=by rw[Yq,aT (by rw[c.len];exact λh=>h rfl)];exact lK c _ (dO _)
def kN{b:Sb}{l:List Int}(c:l.length=b.pk.length)(f:∀z∈l,1<=z/\z<=20):Um b l=0:=by rw[Um,aT (by rw[c];exact λh=>h rfl),aT];intro h;obtain⟨z,g,e⟩:=qBg.1 h;have:=f z g;simp[uV]at e;omega
def kX{b:Sb}(h:i<b.pk.length):Yz b i=0:=iF ⟨O,O⟩
def gO{b:Sb}(ok:bA b)(h:i<b.pk.length):(1<=(aD b i).lo/\(aD b i).lo<=(aD b i).hi/\(aD b i).hi<=20)/\(aD b i).hi-(aD b i).lo<3/\(1<=(aD b i).bF/\(aD b i).bF<=20)/\(1<=(aD b i).bJ/\(aD b i).bJ<=20):=by rw[aD,ZD h];exact ok.pk i h
def pV{b:Sb}:z∈Vj b i↔∃t∈Zi b,t.get i=z:=by rw[Vj,qAB]
section
variable{P:aX}[Tz P][Loud P]{H:Hp}
def I7{b:Sb}(hn:1<=b.pk.length/\b.pk.length<=4) :
  LL.Zc P 47 #[b.v] H λv H'=>aL H H'/\∃A c qs,v=.slice A qs.length c/\aF H' v qs/\cX H' qs (ZB b.pk.length):=by
 refine aJ.m (bG JL) (args:=[b.v]) rfl ?_;unfold mE Sb.v;refine Y ?_;refine ZY (cs:=Zb [((none,0,0):bW)]) (OL _) rfl λT qE=>?_;have s8:aF (H.ins T (.cells (Zb [((none,0,0):bW)]).toArray 26)) (.slice (some ⟨T,0,none⟩) 1 1) [((none,0,0):bW)]:=Z0 (l:=[((none,0,0):bW)]);have i8:aL H (H.ins T (.cells (Zb [((none,0,0):bW)]).toArray 26)):=Zs qE;generalize H.ins T (.cells (Zb [((none,0,0):bW)]).toArray 26)=H1 at *;refine Y ?_;refine ZO (α:=(Option Addr×Nat)×List bW) b.pk.length (λi s H'=>aL H H'/\aF H' (.slice s.1.1 s.2.length s.1.2) s.2/\cX H' s.2 (dF b.pk.length i))
  (λi s=>[(1,vi 0),(2,.slice none 0 0),(3,.slice s.1.1 s.2.length s.1.2),(4,vi i)]) (λ_ _=>[(1,b.cs)]) ((some ⟨T,0,none⟩,1),[(none,0,0)])
  ⟨i8,s8,rfl,λi h h'=>by(obtain rfl:i=0:=by simpa using h);exact⟨.nil _,dO _⟩⟩ V V ?_
 rintro i ⟨⟨A3,c3⟩,qs⟩ H2 hi ⟨i2,s3,R⟩;simp only at s3 R;have tE:=R.len;have lG:=y8 hn.2 (show i<=b.pk.length by omega);refine OJ (λh1=>?_) (λh1=>?_)
 ·have yL:i<b.pk.length:=O;refine Y ?_;refine ZO (α:=Hp×Value×List bW×Option Nat) qs.length (λk s H'=>aL H2 s.1/\aL s.1 H'/\dD s.1 H' 26 s.2.1 s.2.2.1 s.2.2.2/\cX s.1 s.2.2.1 (((dF b.pk.length i).take k).flatMap λl=>bR l b.pk.length))
   (λk s=>[(1,vi 0),(2,.slice none 0 0),(3,.slice A3 qs.length c3),(4,vi i),(5,s.2.1),(6,vi k)]) (λ_ _=>[(1,b.cs)]) (H2,.slice none 0 0,[],none) ⟨.refl _,.refl _,.nil _ _ _,.nil _⟩ V V ?_
  rintro k ⟨G,v5,ps,b5⟩ H3 hk ⟨g1,g2,o5,l5⟩;simp only at g1 g2 o5 l5;refine OJ (λh2=>?_) (λh2=>?_)
  ·have C:k<qs.length:=O;have D:k<(dF b.pk.length i).length:=O;obtain⟨sk,ck⟩:=R.at_ k C D;have vN:=yZ (λl=>bR l b.pk.length) D;have F:=mQ (n:=b.pk.length) ((dF b.pk.length i).take k);rw[qAj]at F;have F:(((dF b.pk.length i).take k).flatMap λl=>bR l b.pk.length).length<=96:=by refine qAz F (qAz (qBq (show min k _<=24 by omega) hn.2) (by decide))
   have CM:=lG.2 _ (bY D);generalize((dF b.pk.length i).take k).flatMap (λl=>bR l b.pk.length)=L at *;generalize(dF b.pk.length i)[k]=l at *;generalize qG:qs[k]=q at *;have N:=kS sk;obtain⟨qA,qn,qc⟩:=q;simp only at N ck;subst N;refine Y ?_;refine ZO (α:=Hp×Value×List bW×Option Nat) b.pk.length (λj s H'=>aL H2 s.1/\aL s.1 H'/\dD s.1 H' 26 s.2.1 s.2.2.1 s.2.2.2/\cX s.1 s.2.2.1 (L++bR l j))
    (λj s=>[(1,vi 0),(2,.slice none 0 0),(3,.slice A3 qs.length c3),(4,vi i),(5,s.2.1),(6,vi k),(7,vi j)]) (λ_ _=>[(1,b.cs)]) (G,v5,ps,b5) ⟨g1,g2,o5,by rw[bR,qCC,qCp,qAf];exact l5⟩ V V ?_
   rintro j ⟨G2,w5,I,X⟩ H4 hj ⟨J,K,o6,S⟩;simp only at J K o6 S;have mO:=S.len;rw[BY]at mO;have vI:=iY l j;refine OJ (λh3=>?_) (λh3=>?_)
   ·have g9:j<b.pk.length:=O;have g:=nN l j;have p:=J.trans K;have row:Enc.enc qs[k]=[.slice qA l.length qc]:=by rw[qG];rfl
    refine Y ?_;refine Zz k (s3.inc p) C λa ha=>?_;rw[row]at ha;refine Y ?_;refine Ya ha (Y ?_);refine Za [.slice qA l.length qc,vi j] (gW (sk.inc p) O) ?_;rintro v _ ⟨rfl,rfl⟩;by_cases e:(j:Int)∈l
    ·rw[decide_eq_true e];rw[iF e,qAf]at g;refine Y ?_;exact⟨(⟨j+1,O⟩,(G2,w5,I,X)),bN O,⟨J,K,o6,by rw[g];exact S⟩,V,V,rfl⟩
    rw[qAo e];rw[aT e]at g;refine Y ?_;refine qZ (bI dW) (cD t3) (OL _) λr7 f=>Y ?_;refine Zz k ((s3.inc p).inc (Zs f)) C λa2 M=>?_;rw[row]at M;refine Y ?_;refine Ya M (Y ?_);refine vZ (l:=l) (bI dW) (cD t3) rfl (by decide) f rfl ((sk.inc p).inc (Zs f)) (sG (λ_=>rfl) l) O O rfl rfl (OL _) λv8 H5 b8 i5 o8=>?_;have qD:aL H4 H5:=(Zs (o:=.cells #[] 3) f).trans i5;refine Y ?_;refine ZY (cs:=[vi (j:Int)]) (OL _) rfl λr9 Q=>Y ?_;refine U7 (l':=[(j:Int)]) (bI dW) (bI dW) (cD t3) rfl (by decide) (qD.trans (Zs Q)) (o8.ins Q) qY rfl (by simp;omega) O rfl rfl (OL _) λv9 H6 b9 k1 k2 k3=>?_;obtain⟨U,Z,rfl,q9⟩:=jF k2;obtain⟨G',m1,m2,m3,m4⟩:=yR K o6 k1 k2;refine Y ?_;refine ZY (cs:=[.slice U (l++[(j:Int)]).length Z]) (OL _) rfl λwL B=>Y ?_;refine U7 (l':=[((U,(l++[(j:Int)]).length,Z):bW)]) (bI kU) (bI kU) (cD rO) rfl (by decide) (m2.trans (Zs B)) (m3.ins B) (Z0 (l:=[((U,(l++[(j:Int)]).length,Z):bW)])) rfl (by simp;omega) O rfl rfl (OL _) λuY H7 vO n1 n2 n3=>Y ?_;exact⟨(⟨j+1,O⟩,(G',uY,I++[(U,(l++[(j:Int)]).length,Z)],vO)),bN O,⟨J.trans m1,n1,n2,by rw[g,<-qAW];exact(S.inc m1).snoc m4 q9⟩,V,V,rfl⟩
   have:j=b.pk.length:=O;subst this;refine Y ?_;exact⟨(⟨k+1,O⟩,(G2,w5,I,X)),bN O,⟨J,K,o6,by rw[vN];exact S⟩,V,V,rfl⟩
  have:k=qs.length:=O;subst this;rw[tE,IF]at l5;obtain⟨A5,X,rfl,q5⟩:=jF o5;refine Y ?_;exact⟨(⟨i+1,O⟩,((A5,X),ps)),bN O,⟨(i2.trans g1).trans g2,o5.sl,l5.inc g2⟩,V,V,rfl⟩
 have:i=b.pk.length:=O;subst this;rw[vX hn]at R;refine Y ?_;exact⟨i2,A3,c3,qs,rfl,s3,R⟩
def I6{b:Sb}{n:Int}(s:1<=b.pk.length/\b.pk.length<=4)(C:0<=n/\n<256) :
  LL.Zc P 37 #[b.v,.int .u8 n] H λv H'=>aL H H'/\∃A c p,p∈ZB b.pk.length/\v=.slice A p.length c/\p.length<=c/\aF H' (.slice A p.length c) p:=by
 refine aJ.m (bG JJ) (args:=[b.v,.int .u8 n]) rfl ?_;unfold mW Sb.v;refine Y ?_;refine Za [b.v] (I7 s) ?_;rintro v K ⟨G,A,c,qs,rfl,sq,u⟩;have D:=u.len;have F:=CZ s;have h:0<qs.length:=by obtain⟨L,M,N,Q⟩:=IB;have:b.pk.length=1\/b.pk.length=2\/b.pk.length=3\/b.pk.length=4:=O;rcases this with e | e | e | e<;>rw[e]at D<;>omega
 refine Y ?_;refine Vs (bI Tryz.underlying5) (bI Tryz.underlying3) rfl ?_;rw[Uk (show pZ n from⟨O,O⟩)];refine Y ?_;refine iJ rfl rfl O ?_;obtain⟨i,o,B⟩:=kO (n:=qs.length) C.1 h;rw[B];have f:i<(ZB b.pk.length).length:=O;obtain⟨s1,s2⟩:=u.at_ i o f;have k:=kS s1;have g:=bY f;have row:Enc.enc qs[i]=[dN qs[i]]:=rfl;refine Y ?_;refine Zz i sq o λa l=>?_;rw[row]at l;generalize qs[i]=q at *;generalize(ZB b.pk.length)[i]=p at *;obtain⟨I,R,J⟩:=q;simp only at k s2;subst k;refine Y ?_;refine Ya l (Y ?_);exact⟨G,I,J,p,g,rfl,s2,s1⟩
end
