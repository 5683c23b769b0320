import Derived.Test.YtlhomfgcibjccaaGreatDoorTL00
set_option linter.all false
set_option maxHeartbeats 8000000
set_option maxRecDepth 100000
section
open Go Go.LL Go.Conc Go.ConcM
namespace Go.Proofs.YtlhomfgcibjccaaGreatDoor
def pQ:Tryz.pinned.checked.prog.funcNamed Rows.steamLearntRow.func=some 14:=U
def qL:(Rows.steamLearntRow.inPlace == Tryz.pinned.checked.prog.inPlace 14)=true:=U
def qM:(Rows.steamLearntRow.unfollowed == Tryz.pinned.checked.prog.unfollowed 14)=true:=U
def pR:(Rows.steamLearntRow.recurses == Tryz.pinned.checked.prog.recurses 14)=true:=U
def pS:(Rows.steamLearntRow.named == Tryz.pinned.checked.prog.varsNamed 14)=true:=U
def qK:joinedFacts Tryz.pinned.checked.prog 14 Tryz.f14 Rows.steamLearntSpec Rows.steamLearntRow=true:=by unfold joinedFacts;exact aE (aE (aE (aE (aE (aE (aE (aE (aE (aE (aE (aE (aE (aE (aE (aE (aE (aE (aE (aE (aE (aE (aE (aE (aE (aE (aE (aE (aE (aE (aE U z4) gV) U) U) U) U) U) U) qL) qM) pR) pS) U) U) U) U) U) U) U) U) U) U) U) fX) fY) U) U) U) U) U) U
def pT:Tryz.f14.isInstance Tryz.pinned.checked.prog Rows.steamLearntRow.origin Rows.steamLearntRow.targs:=of_decide_eq_true U
def pG:Tryz.f14.isWrapper Tryz.pinned.checked.prog Rows.steamLearntRow.wrapper Rows.steamLearntRow.mainSum:=by unfold Func.isWrapper;first | (rw[iF (by decide +kernel)];kernel_rfl) | (rw[aT (by decide +kernel)];exact⟨rfl,rfl⟩)
end Go.Proofs.YtlhomfgcibjccaaGreatDoor
end
section
open Go Go.LL
namespace Go.Proofs
section
open Go.Conc Go.ConcM
open YtlhomfgcibjccaaGreatDoor Go.ChangeShapes Go.WideShapes
section
variable{H:Type}{enc:TypeId×Value->H}{W:World}{base:Nat}{sp:Nat->Bool}{held:Bool}{fuel:Nat}{cs:List Value}{y:DataW H×List MemPlace}{r:Reach}{b0:Nat}{v:Value}{d:DataW H}{ps:List MemPlace}
def gR(b:Value.okWide Tryz.prog W r b0 5 v)(c:DataW.Trod enc Tryz.prog W base sp held 5 v d ps):∃n,v=.int .u8 n/\0<=n/\n<256:=by obtain⟨n,rfl,_,_,e⟩:=open_int Tryz.underlying5 b c;simp only[Lit.wf,qAc,qAR]at e;have f:IntKind.u8.min=0:=rfl;have h:IntKind.u8.max=255:=rfl;exact⟨n,rfl,O,O⟩
def qI(e:Value.okWide Tryz.prog W r b0 36 v)(f:DataW.Trod enc Tryz.prog W base sp held 36 v d ps):∃a b,v=.agg #[vi a,vi b]:=by obtain⟨fuel,h⟩:=f;obtain⟨c,rfl⟩:=PW Tryz.underlying36 e;obtain⟨a,b,j⟩:=T3 h;obtain⟨c⟩:=c;exact⟨a,b,by simpa[Value.cells]using j⟩
end
end
def pV{α:Type}{p:α->Prop}{l:List α}{j:Nat}(e:j<l.length)(h:∀x∈l.take j,p x)(c:p l[j]):∀x∈l.take (j+1),p x:=by
 intro x b;rw[iN e]at b;rcases qAi.1 b with b | b
 ·exact h x b
 rw[oR.1 b];exact c
section
variable{P:aX}[Tz P][Loud P]{H:Hp}
def nU{lv:Value}{l:List Int}{n:Int}(k:aF H lv l)(t:l.length<=1000000):LL.Zc P 40 #[lv,vi n] H λv c=>H=c/\v=vb (decide (n∈l)):=by
 refine aJ.m (bG sE) (args:=[lv,vi n]) rfl ?_;unfold l8;refine Y ?_;refine Zv l.length (λj c=>H=c/\∀x∈l.take j,x≠n) (λj=>[(0,lv),(1,vi n),(5,vi j)]) (λ_=>[]) ⟨rfl,by simp⟩ V trivial ?_;rintro j _ u ⟨rfl,f⟩;refine Y ?_;refine YE k rfl ?_;refine OJ (λo=>?_) (λo=>?_)
 ·have b:j<l.length:=O;refine Y ?_;refine Zz j k b λa p=>Y ?_;refine Ya p ?_;refine OJ (λe=>?_) (λe=>?_)
  ·refine Y ?_;exact⟨rfl,by rw[decide_eq_true (show n∈l by rw[<-e];exact bY b)];rfl⟩
  refine Y ?_;exact dM (I:=λj c=>H=c/\∀x∈l.take j,x≠n) (env:=λj=>[(0,lv),(1,vi n),(5,vi j)]) (box:=λ_=>[]) b ⟨rfl,pV b f e⟩ V trivial rfl
 have:j=l.length:=O;subst this;rw[IF]at f;refine Y ?_;exact⟨rfl,by rw[qAo (show ¬ n∈l from λh=>f n h rfl)];rfl⟩
def EQ(a b c d:Int):LL.Zc P 69 #[.agg #[vi a,vi b],.agg #[vi c,vi d]] H λv e=>H=e/\v=.agg #[vi (max a c),vi (min b d)]:=by refine aJ.m (bG He) (args:=[.agg #[vi a,vi b],.agg #[vi c,vi d]]) rfl ?_;unfold MT;refine Y ?_;refine q8 rfl rfl (Y ?_);refine z5 rfl rfl (Y ?_);exact⟨rfl,rfl⟩
end
def pY{a m:Int}(h:0<=a)(b:0<m):0<=a.tmod m/\a.tmod m<m:=⟨qDc _ h,qCK _ b⟩
def gW{m:Int}{n:Nat}(h:0<=m)(b:0<n):∃i:Nat,i<n/\m.tmod n=i:=by have:=pY (m:=(n:Int)) h O;exact⟨(m.tmod n).toNat,O,O⟩
end Go.Proofs
end
section
open Go Go.LL
namespace Go.LL
section
variable{sT E:TypeId}{bV dI m:Nat}{zv w:Value}{xs:List Value}{a:Addr}
section
variable{P:aX}{H:Hp}{d:Option Nat}{next:aM->Hp->Prop}{σ:aM}{x y:Operand}
def EV{T:TypeId}(X:P.toProgram.underlying sT=some (.slice E))(ti:TI P.toProgram E bV zv dI)(Y:zv.cells.size=bV)(he:0<bV)
  (M:(m=0/\∃A c,w=.slice A 0 c)\/∃a c,w=.slice (some a) m c/\aC H a xs) (D:xs.length=m * bV) (J:(xs.all Value.cJ)=true) (R:m<=1000000000) (F:dI<=1000) (k:P.still H.gh=false)
  {K:Value->Hp->Prop} (k0:m=0->K (.slice (some a) 0 0) H) (k1:∀r l rest,H r=none->m<=l->(xs++rest).length=l * bV->K (.slice (some ⟨r,0,none⟩) m l) (H.ins r (.cells (xs++rest).toArray E))):bL P.toPQ (Builtin.append_ #[sT,sT] T #[.slice (some a) 0 0,w]) (λv _ N=>K v N) false H:=by
 obtain⟨CK,C,Z,i3,I⟩:=ti.ex;have z:∀Q g,Q m g H->bL P.toPQ (Builtin.lenOf w) Q g H:=by intro Q g j;rcases M with⟨rfl,A,c,rfl⟩ | ⟨a,c,rfl,_⟩<;>simpa[Builtin.lenOf,Zj]using j
 have b:∀(Q:Array Value->Bool->Hp->Prop) g,Q xs.toArray g H->bL P.toPQ (Builtin.firstCells bV m w) Q g H:=by
  intro Q g j;rcases M with⟨rfl,A,c,rfl⟩ | ⟨a,c,rfl,S⟩
  ·have:xs=[]:=qAb (by simpa using D);subst this;cases A<;>simpa[Builtin.firstCells,Zj,loadCells,loadCellsFrom]using j
  simp only[Builtin.firstCells];exact yS k S j D
 have B:∀(Q:Array Value->Bool->Hp->Prop) g,Q #[] g H->bL P.toPQ (Builtin.firstCells bV 0 (.slice (some a) 0 0)) Q g H:=by intro Q g j;simpa[Builtin.firstCells,Zj,loadCells,loadCellsFrom]using j
 simp only[Builtin.append_,qAH,qAV,qAT,Zg,Zw X,Z4 C,Z,Zj,DO,qAw];refine z _ _ ?_;simp only[qBU,qBp];by_cases u:0+m<=0
 ·rw[iF u];have U:m=0:=O;subst U;have G:xs=[]:=qAb (by simpa using D);subst G;simp only[Zg,Zj];refine b _ _ ?_;simpa[storeCells,Zj]using k0 rfl
 rw[aT u];simp only[Zg,O1 C,I];rw[aT (by rintro⟨h,_⟩;simp[IntKind.max,IntKind.bits,IntKind.signed]at h;omega)];simp only[Zg,Zj,O1 C,I];have o:¬ Builtin.nextslicecap (0+m) 0 * dI > 2 ^ 48:=by have J:=B7 (need:=0+m) (old:=0) O;have h2:Builtin.nextslicecap (0+m) 0 * dI<=(2 * (0+m)+200) * 1000:=qBq J F;omega
 rw[aT o];simp only[Zg,Zj,choose];rw[bL];simp only[Question.forced,DO,qAw];refine⟨k,λt=>?_⟩;have p:0+m<=(Question.appendCap (0+m) 0 E).cut t:=by simp only[Question.cut];omega
 generalize(Question.appendCap (0+m) 0 E).cut t=l at p;rw[bL];have n:∀(Q:Unit->Bool->Hp->Prop),Q () false H->bL P.toPQ (askRoom (l * dI)) Q false H:=by
  intro Q j;unfold askRoom;split
  ·exact⟨.inr ⟨rfl,k⟩,j⟩
  exact j
 rw[O1 C,I];refine n _ ?_;refine B _ _ ?_;refine b _ _ ?_;simp only[UC C i3,newRow,Zg,newObj,Zj];refine⟨k,λr V=>?_⟩;have L:=k1 r l (Builtin.zeroCells zv.cells (l-(0+m))).toList V O (by simp only[BY,D,qBy,B8,Y];rw[<-qCi];congr 1;omega);have e:(#[]++xs.toArray++Builtin.zeroCells zv.cells (l-(0+m)))=(xs++(Builtin.zeroCells zv.cells (l-(0+m))).toList).toArray:=by simp
 rw[qAE]at e L;rw[qAE,e];exact L
def mI{T:TypeId}(p:P.toProgram.underlying sT=some (.slice E))(z:TI P.toProgram E bV zv dI)(u:zv.cells.size=bV)(n:0<bV)(j:σ.get x=some (.slice (some a) 0 0))(k:σ.get y=some w)
  (t:(m=0/\∃A c,w=.slice A 0 c)\/∃a c,w=.slice (some a) m c/\aC H a xs) (o:xs.length=m * bV) (l:(xs.all Value.cJ)=true) (b:m<=1000000000) (e:dI<=1000) (f:P.still H.gh=false)
  (k0:m=0->next (σ.set d (.slice (some a) 0 0)) H) (k1:∀r h rest,H r=none->m<=h->(xs++rest).length=h * bV->next (σ.set d (.slice (some ⟨r,0,none⟩) m h)) (H.ins r (.cells (xs++rest).toArray E))):(bE.raw (.call { callee:=.builtin .append,args:=#[x,y],argTypes:=#[sT,sT] }) T).m P d next σ H:=by
 refine YS (s:=Builtin.append_ #[sT,sT] T #[.slice (some a) 0 0,w]) (by simp[Op.operands,Call.operands,j,k]) (by simp[execOp,aR,resolve,invoke,builtin,j,k]) ?_;exact EV (T:=T) p z u n t o l b e f k0 k1
end
end
end Go.LL
end
open Go Go.LL
namespace Go.Proofs
def lW{α:Type}[Enc α]{c H:Hp}{r b:Nat}{E:TypeId}{l:List α}{rest:List Value}(j:aL c H)(k:H r=none)(f:l.length<=b)(h:(Zb l++rest).length=b * Enc.sz α):dD c (H.ins r (.cells (Zb l++rest).toArray E)) E (.slice (some ⟨r,0,none⟩) l.length b) l (some r):=
 ⟨⟨VH l,.inr ⟨r,b,rest,rfl,rfl,Hp.aG _ _ _,h,f⟩⟩,λn e=>by obtain rfl:=iO e;exact YL j k⟩
section
variable{P:aX}[Tz P]{H:Hp}{d:Option Nat}{next:aM->Hp->Prop}{σ:aM}{x y:Operand}
def lV{α:Type}[Enc α]{n:Hp}{r:Nat}{sT E T:TypeId}{dI:Nat}{zv w:Value}{l:List α}(I:P.toProgram.underlying sT=some (.slice E))(K:TI P.toProgram E (Enc.sz α) zv dI)(J:zv.cells.size=Enc.sz α)(D:0<Enc.sz α)
  (G:n r=none) (C:H=n.ins r (.cells #[] E)) (U:aF H w l) (Q:((Zb l).all Value.cJ)=true) (p:l.length<=1000000000) (j:dI<=1000) (z:σ.get x=some (.slice (some ⟨r,0,none⟩) 0 0)) (B:σ.get y=some w) (k:P.still H.gh=false)
  (h:∀L o M,aL H o->dD n o E L l M->next (σ.set d L) o):(bE.raw (.call { callee:=.builtin .append,args:=#[x,y],argTypes:=#[sT,sT] }) T).m P d next σ H:=by
 have F:aL n H:=by rw[C];exact Zs G
 obtain⟨A,c,rfl,R⟩:=U;by_cases t:l=[]
 ·subst t;refine mI I K J D z B (m:=0) (xs:=[]) (.inl ⟨rfl,A,c,rfl⟩) (by simp) rfl O j k (λ_=>?_) λu V rest b f e=>?_
  ·exact h _ _ (some r) (.refl _) (by rw[C];exact sQ G)
  exact h _ _ (some u) (Zs b) (lW (l:=([]:List α)) F b f e)
 obtain⟨a,rfl,S⟩:=R t;refine mI I K J D z B (m:=l.length) (xs:=Zb l) (.inr ⟨a,c,rfl,S⟩) (VH l) Q p j k (λN=>absurd (qAb N) t) λu V rest b f e=>?_;exact h _ _ (some u) (Zs b) (lW F b f e)
end
section
open Go.Conc Go.ConcM
open YtlhomfgcibjccaaGreatDoor Go.ChangeShapes Go.WideShapes
section
variable{H:Type}{enc:TypeId×Value->H}{W:World}{base:Nat}{sp:Nat->Bool}{held:Bool}{fuel:Nat}{cs:List Value}{y:DataW H×List MemPlace}{r:Reach}{b0:Nat}{v:Value}{d:DataW H}{ps:List MemPlace}
def sO(b:Value.okWide Tryz.prog W r b0 85 v)(e:DataW.Trod enc Tryz.prog W base sp held 85 v d ps):∃x:Nt,v=.agg #[.slice x.A x.ps.length x.c,vi x.lo,vi x.hi]/\aF (lQ W) (.slice x.A x.ps.length x.c) x.ps:=by obtain⟨fuel,f⟩:=e;obtain⟨c,rfl⟩:=PW Tryz.underlying85 b;obtain⟨x,h⟩:=Hz f;obtain⟨c⟩:=c;exact⟨x.1,by simpa[Value.cells,Enc.enc]using h,x.2⟩
end
end
variable{x:Nt}{s:ByteArray}{α:Type}{i:Nat}{qs:List bW}{ls:List (List Int)}{q:bW}{ts:List N4}
def eK(b:Sb)(x:Nt):Sb:={ b with nt:=b.nt++[x] }
def dP(b:Sb)(x:Nt):Int:=if ZF b≠0 then ZF b else Vh (eK b x)
section
variable{P:aX}[Tz P][Loud P]{H:Hp}
def ER{b:Sb}(hb:Zr H b)(K:b.Sz)(Z:Yk H)(hx:aF H (.slice x.A x.ps.length x.c) x.ps)(R:x.ps.length<=1000000) :
  LL.Zc P 63 #[b.v,vR x] H λv X=>aL H X/\((dP b x≠0/\v=.tuple #[OO,vi (dP b x)])\/(dP b x=0/\bA (eK b x)/\∃u,dG (eK b x) u/\Zr X u/\v=.tuple #[u.v,vi 0])):=by
 refine aJ.m (bG y5) (args:=[b.v,vR x]) rfl ?_;unfold mG Sb.v;refine Y ?_;refine Za [b.v] (CG hb K Z) ?_;rintro v H1 ⟨S,rfl⟩;refine OJ (λD=>?_) (λD=>?_)
 ·have e:dP b x=ZF b:=iF D;refine Y ?_;exact⟨S,.inl ⟨by rw[e];exact D,by rw[e];rfl⟩⟩
 have ok:=Ow (b:=b) D;have SY:=ok.nn;have e:dP b x=Vh (eK b x):=aT O;rw[e];refine Y ?_;refine Za [.slice b.A2 b.nt.length b.c2] (Hw (hb.nt.inc S) O) ?_;rintro v2 L ⟨s2,b2,o2⟩;refine Zp OL (Y ?_);refine ZY (cs:=[.slice x.A x.ps.length x.c,vi x.lo,vi x.hi]) (OL _) rfl λJ z=>?_;refine Zp OL ?_;have dN:aF (L.ins J (.cells (List.toArray [.slice x.A x.ps.length x.c,vi x.lo,vi x.hi]) 85)) (.slice (some ⟨J,0,none⟩) 1 1) [x]:=Z0 (l:=[x]);have o3:=o2.ins (o:=.cells (List.toArray [.slice x.A x.ps.length x.c,vi x.lo,vi x.hi]) 85) z;have T:aL H1 (L.ins J (.cells (List.toArray [.slice x.A x.ps.length x.c,vi x.lo,vi x.hi]) 85)):=s2.inc.trans (Zs z);generalize L.ins J (.cells (List.toArray [.slice x.A x.ps.length x.c,vi x.lo,vi x.hi]) 85)=H3 at *;refine Y ?_;refine U7 (l':=[x]) (bI qO) (bI qO) (cD C4) rfl (by decide) T o3 dN rfl (by simp only[qAs,List.length_nil];omega) O rfl rfl (OL _) λv4 H4 b4 i4 o4 ch=>?_;obtain⟨B,C,rfl,q4⟩:=jF o4;have h:=S.trans i4;have Q:Zr H4 { eK b x with A2:=B,c2:=C }:=⟨(hb.pk.inc h),o4.sl,λy j=>by
  rcases qAi.1 j with j | j
  ·exact(hb.ps y j).inc h
  obtain rfl:=oR.1 j;exact hx.inc h,hb.q1,q4⟩
 have V:Sb.Sz { eK b x with A2:=B,c2:=C }:=⟨K.pk,by show(b.nt++[x]).length<=_;rw[BY];simp;omega,λy j=>by
  rcases qAi.1 j with j | j
  ·exact K.ps y j
  obtain rfl:=oR.1 j;exact R,K.nm⟩
 refine Y ?_;refine Za [Sb.v { eK b x with A2:=B,c2:=C }] (Ht Q V (aC.inc Z h)) ?_;rintro v H5 ⟨i5,hv⟩;rw[show Vh { eK b x with A2:=B,c2:=C }=Vh (eK b x)from PO ⟨rfl,rfl,rfl⟩ rfl rfl]at hv;rcases hv with⟨N,rfl⟩ | ⟨N,f,u,t,M,rfl⟩
 ·unfold OO;refine Y ?_;exact⟨h.trans i5,.inl ⟨N,rfl⟩⟩
 unfold Sb.v;rw[N];refine Y ?_;exact⟨h.trans i5,.inr ⟨rfl,⟨f.pl,f.hd,f.td,f.n,f.pk,f.nm,f.nn,f.nt⟩,u,⟨t.pl,t.hd,t.td,t.pk,t.nl,t.nt⟩,M,rfl⟩⟩
def rE{b:Sb}(hb:Zr H b):LL.Zc P 36 #[b.v] H λv c=>H=c/\∃g,v=vb g/\(g=true->bA b):=by
 refine aJ.m (bG yW) (args:=[b.v]) rfl ?_;unfold mV Sb.v;refine Y ?_;refine Za [b.v] (eO hb) ?_;rintro v _ ⟨rfl,g,rfl,e⟩;cases g with
 | true=>
  refine Y ?_;exact⟨rfl,false,rfl,λh=>by simp at h⟩
 | false=>
  refine Y ?_;refine Za [b.v] (cF hb (e rfl).sz) ?_;rintro v _ ⟨rfl,rfl⟩;refine Y ?_;exact⟨rfl,decide (ZF b=0),by simp[Y5],λh=>Ow (of_decide_eq_true h)⟩
end
def MM:sZ Tryz.prog 50=some ([("Name",9,0),("Steam",36,1),("Hang",3,3),("Soft",3,4)],false):=U
def N5:CY Tryz.prog 50=false:=U
def a9:Yd Tryz.prog 9=some none:=U
def MB:Tryz.prog.underlying 9=some .string:=U
section
variable{P:aX}[Tz P]{H:Hp}{g:Bool}{d:Nat}
def N7{u:ByteArray}(Q:Bool->Bool->Hp->Prop):bL P.toPQ (Op.equalIn (d+1) 9 (.string s) (.string u)) Q g H↔Q (s == u) g H:=by simp only[Op.equalIn,Zg,Zw (bI (P:=P) MB),qBp,Zj]
def rH{cs:Array Value}{off:Nat}{v:Value}(h:cs[off]? = some v)(Q:Value->Bool->Hp->Prop):bL P.toPQ (part 9 cs off) Q g H↔Q v g H:=by simp only[part,Zg,OS (zZ (P:=P) a9),DO,qAw,h,Zj]
def y8{a b c e:Int}(Q:Bool->Bool->Hp->Prop)(g:Bool)(H:Hp)(h:Q true g H):bL P.toPQ (Op.equalIn (d+1+1+1) 50 (.agg #[.string s,vi a,vi b,vi c,vi e]) (.agg #[.string s,vi a,vi b,vi c,vi e])) Q g H:=by
 have C:∀(Q:Value->Bool->Hp->Prop) g H,bL P.toPQ (part 9 #[.string s,vi a,vi b,vi c,vi e] 0) Q g H↔Q (.string s) g H:=λQ g H=>rH rfl Q;have D:∀(Q:Value->Bool->Hp->Prop) g H,bL P.toPQ (part 36 #[.string s,vi a,vi b,vi c,vi e] 1) Q g H↔Q (.agg #[vi a,vi b]) g H:=λQ g H=>by rw[TW PN];rfl
 have F:∀(Q:Value->Bool->Hp->Prop) g H,bL P.toPQ (part 3 #[.string s,vi a,vi b,vi c,vi e] 3) Q g H↔Q (vi c) g H:=λQ g H=>Vo rfl Q;have G:∀(Q:Value->Bool->Hp->Prop) g H,bL P.toPQ (part 3 #[.string s,vi a,vi b,vi c,vi e] 4) Q g H↔Q (vi e) g H:=λQ g H=>Vo rfl Q;obtain⟨K,L,f3,f4,k,⟨l,I,u⟩,⟨n,J,z⟩,⟨o,t3,A⟩,⟨t,t4,B⟩,j⟩:=TX (p:=P.toProgram) (by rw[Tz.prog (P:=P)];exact MM);rw[Op.equalIn];simp only[Zg,Zw k,V0,j,DO,qAw,Zj];simp only[l,n,o,t,I,J,t3,t4,u,z,A,B,Zg,qCd,qCb,List.forIn_nil];have e:(s == s)=true:=by show(s.data == s.data)=true;simp
 simp[C,D,F,G,CR,N7,y7 (.inr zJ),Zg,Zj,e];exact h
end
def bR(l:List Int)(j:Nat):List (List Int):=(List.range j).flatMap λ(i:Nat)=>if(i:Int)∈l then[]else[l++[(i:Int)]]
def dF(n:Nat):Nat->List (List Int)
 | 0=>[[]]
 | i+1=>(dF n i).flatMap λl=>bR l n
theorem nM(l:List Int)(j:Nat):bR l (j+1)=bR l j++if(j:Int)∈l then[]else[l++[(j:Int)]]:=by rw[bR,qBs,qBb,qAQ];rfl
def vZ{β:Type}(f:α->List β){l:List α}{k:Nat}(h:k<l.length):(l.take (k+1)).flatMap f=(l.take k).flatMap f++f l[k]:=by rw[iN h,qBb,qAQ]
def wD:dF 1 1=ZB 1/\dF 2 2=ZB 2/\dF 3 3=ZB 3/\dF 4 4=ZB 4:=by decide +kernel
def uI{n:Nat}(h:1<=n/\n<=4):dF n n=ZB n:=by
 obtain⟨b,c,e,f⟩:=wD;have:n=1\/n=2\/n=3\/n=4:=O;rcases this with rfl | rfl | rfl | rfl
 ·exact b
 ·exact c
 ·exact e
 exact f
def uH:((List.range 5).all λn=>(List.range (n+1)).all λi=>decide ((dF n i).length<=24) && (dF n i).all λl=>decide (l.length<=4))=true:=by decide +kernel
def uG{n:Nat}(e:n<=4)(c:i<=n):(dF n i).length<=24/\∀l∈dF n i,l.length<=4:=by have h:=IN.1 (IN.1 uH n (qAl.2 O)) i (qAl.2 O);rw[qAc,qAy,IN]at h;exact⟨h.1,λl b=>of_decide_eq_true (h.2 l b)⟩
def iX(l:List Int):∀j,(bR l j).length<=j
 | 0=>dO _
 | j+1=>by rw[nM,BY];have:=iX l j;split<;>simp<;>omega
def nN{n:Nat}:∀(L:List (List Int)),(L.flatMap λl=>bR l n).length<=L.length * n
 | []=>by simp
 | l :: L=>by rw[qAM,BY,qAs,qBY];have:=nN (n:=n) L;have:=iX l n;omega
structure cX(H:Hp)(qs:List bW)(ls:List (List Int)):Prop where
 len:qs.length=ls.length
 at_:∀i (h:i<qs.length) (h':i<ls.length),aF H (dN qs[i]) ls[i]/\qs[i].2.1<=qs[i].2.2
def cX.nil(H:Hp):cX H [] []:=⟨rfl,λi h=>by simp at h⟩
def cX.inc{H H':Hp}(h:cX H qs ls)(c:aL H H'):cX H' qs ls:=⟨h.len,λi a b=>⟨((h.at_ i a b).1).inc c,(h.at_ i a b).2⟩⟩
def cX.snoc{H:Hp}{l:List Int}(h:cX H qs ls)(j:aF H (dN q) l)(f:q.2.1<=q.2.2):cX H (qs++[q]) (ls++[l]):=by
 refine⟨by simp[h.len],λi a b=>?_⟩;have:=h.len;by_cases c:i<qs.length
 ·rw[qAp c,qAp O];exact h.at_ i c O
 simp only[BY,qAA]at a;have e:i=qs.length:=O;subst e;rw[qAr (dO _),qAr O];simp[this];exact⟨j,f⟩
def kR{H:Hp}{l:List Int}(h:aF H (dN q) l):q.2.1=l.length:=by obtain⟨_,_,e,_⟩:=h;simp only[Value.slice.injEq]at e;exact e.2.1
def eI(x y:N4):Prop:=∃i,i<4/\x.get i<y.get i/\∀j,j<i->x.get j=y.get j
def eI.fM{x y:N4}(h:eI x y)(b:eI y x):False:=by
 obtain⟨i,n,k,c⟩:=h;obtain⟨j,o,l,f⟩:=b;rcases qDi i j with e | e | e
 ·have:=f i e;omega
 ·subst e;omega
 have:=c j e;omega
def iY{l c:List N4}(f:l.Pairwise eI)(j:c.Pairwise eI)(h:∀x,x∈l↔x∈c):l=c:=by have p:l.Perm c:=(qCh (f.imp λh e=>by subst e;exact h.fM h) (j.imp λh e=>by subst e;exact h.fM h)).2 h;exact p.eq_of_pairwise (le:=eI) (λa b _ _ x y=>(x.fM y).elim) f j
def iI{α:Type}{f:Int->List α}{b:Int}{x:α}:∀{c:Nat},x∈gT f b c↔∃v,b-c<v/\v<=b/\x∈f v
 | 0=>by
  rw[gT];constructor
  ·intro h;simp at h
  rintro⟨v,l,j,_⟩;omega
 | c+1=>by
  rw[gT,qAi,iI];constructor
  ·rintro(h | ⟨v,l,j,k⟩)
   ·exact⟨b-c,O,O,h⟩
   exact⟨v,O,j,k⟩
  rintro⟨v,l,j,k⟩;by_cases e:v=b-c
  ·subst e;exact .inl k
  exact .inr ⟨v,O,j,k⟩
def kZ{α:Type}{R:α->α->Prop}{f:Int->List α}{h:Int}(b:∀v,(f v).Pairwise R)(e:∀v w,v<w->∀x∈f v,∀y∈f w,R x y):∀c,(gT f h c).Pairwise R
 | 0=>by rw[gT];exact .nil
 | c+1=>by rw[gT,qBn];refine⟨b _,kZ b e c,λx j y k=>?_⟩;obtain⟨w,q1,q2,l⟩:=iI.1 k;exact e _ w O x j y l
def eV{b:Sb}:∀{r:Nat} {m x:N4},r<=b.pk.length->b.pk.length<=4->(x∈bX b r m↔(∀j,j<4->(j<b.pk.length-r\/b.pk.length<=j)->x.get j=m.get j)/\(∀j,b.pk.length-r<=j->j<b.pk.length->(aD b j).lo<=x.get j/\x.get j<=(aD b j).hi)/\cB b x=true)
 | 0,m,x,_,_=>by
  rw[bX];constructor
  ·intro h;split at h
   ·obtain rfl:=oR.1 h;exact⟨λ_ _ _=>rfl,λj n p=>O,by assumption⟩
   simp at h
  rintro⟨n,_,t⟩;have:x=m:=N4.ext' λj c=>n j c O;subst this;rw[iF t];simp
 | r+1,m,x,D,A=>by
  rw[bX,iI];obtain⟨i,z⟩:∃i,b.pk.length-(r+1)=i:=⟨_,rfl⟩;rw[z];constructor
  ·rintro⟨v,n,p,t⟩;obtain⟨k,l,o⟩:=(eV O A).1 t;refine⟨λj c B=>?_,λj C u=>?_,o⟩
   ·rw[k j c O,N4.aZ _ _ c,aT O]
   by_cases e:j=i
   ·subst e;have:=k j O O;rw[N4.aZ _ _ O,iF rfl]at this;omega
   exact l j O u
  rintro⟨k,l,o⟩;have:=l i O O;refine⟨x.get i,O,O,(eV O A).2 ⟨λj c B=>?_,λj n p=>l j O p,o⟩⟩;rw[N4.aZ _ _ c];split
  ·rename_i e;rw[e]
  exact k j c O
def kX{b:Sb}:∀{r:Nat} {m:N4},r<=b.pk.length->b.pk.length<=4->(bX b r m).Pairwise eI
 | 0,m,_,_=>by rw[bX];split<;>simp
 | r+1,m,p,c=>by
  rw[bX];obtain⟨i,k⟩:∃i,b.pk.length-(r+1)=i:=⟨_,rfl⟩;rw[k];refine kZ (λv=>kX O c) (λv w e x l y n=>?_) _;have g:=((eV O c).1 l).1;have f:=((eV O c).1 n).1;refine⟨i,O,?_,λj o=>?_⟩
  ·rw[g i O O,f i O O,N4.aZ _ _ O,N4.aZ _ _ O,iF rfl,iF rfl];exact e
  rw[g j O O,f j O O,N4.aZ _ _ O,N4.aZ _ _ O,aT O,aT O]
theorem kF(j:Nat)(b:j<4):(⟨0,0,0,0⟩:N4).get j=0:=by
 match j,b with
 | 0,_=>rfl
 | 1,_=>rfl
 | 2,_=>rfl
 | 3,_=>rfl
def jT(b:Sb)(x:N4):Prop:=(∀j,j<b.pk.length->(aD b j).lo<=x.get j/\x.get j<=(aD b j).hi)/\∀j,j<4->b.pk.length<=j->x.get j=0
def gB{b:Sb}(l:b.pk.length<=4){x:N4}:x∈Zi b↔jT b x/\cB b x=true:=by
 rw[Zi,eV (dO _) l,qCv];constructor
 ·rintro⟨e,f,h⟩;exact⟨⟨λj c=>f j (qAI _) c,λj c k=>by rw[e j c (.inr k),kF j c]⟩,h⟩
 rintro⟨⟨e,f⟩,h⟩;exact⟨λj c k=>by rw[f j c O,kF j c],λj _ c=>e j c,h⟩
def cZ{b:Sb}(c:b.pk.length<=4):(Zi b).Pairwise eI:=kX (dO _) c
theorem gD(b:Sb)(lo hi:Int)(h:i<b.pk.length)(j:Nat):aD (Vz b i lo hi) j=if j=i then{ aD b i with lo:=lo,hi:=hi }else aD b j:=by
 show(b.pk.set i _).getD j _=_;rw[qAa,qCD];by_cases e:j=i
 ·subst e;simp[h]
 rw[aT (qAF e),aT e];rfl
def fU(b:Sb)(i:Nat)(e c:Int):(Vz b i e c).pk.length=b.pk.length:=qAg
def yU{b:Sb}{h f:Int}(u:b.pk.length<=4)(c:i<b.pk.length)(A:(aD b i).lo<=h)(B:f<=(aD b i).hi) :
  Zi (Vz b i h f)=(Zi b).filter λt=>decide (h<=t.get i/\t.get i<=f):=by
 have C:=fU b i h f;refine iY (cZ O) ((cZ u).filter _) λx=>?_;rw[gB O,qAC,gB u,jT,jT,C];have D:cB (Vz b i h f) x=cB b x:=rfl;rw[D,qAy];constructor
 ·rintro⟨⟨k,n⟩,o⟩;have l:=k i c;rw[gD _ _ _ c,iF rfl]at l;refine⟨⟨⟨λj p=>?_,n⟩,o⟩,l⟩;by_cases e:j=i
  ·subst e;exact⟨qCz A l.1,qCz l.2 B⟩
  have:=k j p;rwa [gD _ _ _ c,aT e]at this
 rintro⟨⟨⟨k,n⟩,o⟩,z⟩;refine⟨⟨λj p=>?_,n⟩,o⟩;rw[gD _ _ _ c];split
 ·rename_i e;rw[e];exact z
 exact k j p
def CH{b:Sb}(c:b.pk.length<=4):Zi (eK b x)=(Zi b).filter λt=>vU t x:=by
 refine iY (cZ (b:=eK b x) c) ((cZ c).filter _) λt=>?_;rw[gB (b:=eK b x) c,qAC,gB c];have j:cB (eK b x) t=(cB b t && vU t x):=by show(b.nt++[x]).all (vU t)=_;rw[qDQ];simp[cB]
 rw[j,qAc];exact⟨λ⟨e,f,h⟩=>⟨⟨e,f⟩,h⟩,λ⟨⟨e,f⟩,h⟩=>⟨e,f,h⟩⟩
def gd(b:Sb)(l:List Int)(t:N4):Bool:=nT b (Yg b t l)
def mR{b:Sb}{l:List Int}:∀(ts:List N4) (s:Td),(ts.foldl (V2 b l) s).good=s.good+((ts.filter (gd b l)).length:Nat)
 | [],s=>by simp
 | t :: ts,s=>by
  rw[qBa,mR ts];show(if gd b l t=true then s.good+1 else s.good)+_=_;rw[qAN];by_cases h:gd b l t=true
  ·rw[iF h,iF h,qAs];omega
  rw[aT h,aT h]
def iB(b:Sb)(ts:List N4)(l:List Int):(cG b ts l).good=((ts.filter (gd b l)).length:Nat):=by rw[cG,mR];show(0:Int)+_=_;omega
def jG{c:N4}{w:B4}:∀{j:Nat},j<=4->∀{i:Nat},i<4->(Yv c w j).get i=if i<j/\w.get i=true then c.get i+1 else c.get i
 | 0,_,i,_=>by rw[Yv,aT O]
 | j+1,n,i,l=>by
  rw[Yv];have ih:=@jG c w j O i l;have k:=@jG c w j O j O;rw[aT O]at k;split
  ·rename_i h;rw[N4.aZ _ _ l];by_cases e:i=j
   ·subst e;rw[iF rfl,k,iF ⟨O,h⟩]
   rw[aT e,ih];by_cases b:i<j/\w.get i=true
   ·rw[iF b,iF ⟨O,b.2⟩]
   rw[aT b,aT (λf=>b ⟨O,f.2⟩)]
  rename_i h;rw[ih];by_cases e:i=j
  ·subst e;rw[aT O,aT (λf=>h f.2)]
  by_cases b:i<j/\w.get i=true
  ·rw[iF b,iF ⟨O,b.2⟩]
  rw[aT b,aT (λf=>b ⟨O,f.2⟩)]
def mQ{b:Sb}{l:List Int}{i:Nat}(f:i<4):∀(ts:List N4) (s:Td),(ts.foldl (V2 b l) s).cold.get i=s.cold.get i+((ts.filter λt=>(Yg b t l).1.get i).length:Nat)
 | [],s=>by simp
 | t :: ts,s=>by
  rw[qBa,mQ f ts];have e:(V2 b l s t).cold.get i=if(Yg b t l).1.get i=true then s.cold.get i+1 else s.cold.get i:=by
   show(Yv s.cold (Yg b t l).1 4).get i=_;rw[jG (dO _) f];by_cases h:(Yg b t l).1.get i=true
   ·rw[iF ⟨f,h⟩,iF h]
   rw[aT (λj=>h j.2),aT h]
  rw[e,qAN];by_cases h:(Yg b t l).1.get i=true
  ·rw[iF h,iF h,qAs];omega
  rw[aT h,aT h]
def kT(b:Sb)(ts:List N4)(l:List Int)(e:i<4):(cG b ts l).cold.get i=((ts.filter λt=>(Yg b t l).1.get i).length:Nat):=by
 rw[cG,mQ e];have:(iR b ts l).cold.get i=0:=by
  match i,e with
  | 0,_=>rfl
  | 1,_=>rfl
  | 2,_=>rfl
  | 3,_=>rfl
 omega
def mT{b:Sb}{l:List Int}:∀(ts:List N4) (s:Td),(ts.foldl (V2 b l) s).lo<=s.lo/\(∀t∈ts,(ts.foldl (V2 b l) s).lo<=(Yg b t l).2)/\((ts.foldl (V2 b l) s).lo=s.lo\/∃t∈ts,(ts.foldl (V2 b l) s).lo=(Yg b t l).2)
 | [],s=>⟨qAx _,λt h=>by simp at h,.inl rfl⟩
 | t :: ts,s=>by
  obtain⟨n,o,j⟩:=mT ts (V2 b l s t);rw[qBa];generalize ts.foldl (V2 b l) (V2 b l s t)=f at *;have e:(V2 b l s t).lo=min s.lo (Yg b t l).2:=rfl;rw[e]at n j;refine⟨O,λu k=>?_,?_⟩
  ·rcases qAq.1 k with rfl | k
   ·omega
   exact o u k
  rcases j with j | ⟨u,k,j⟩
  ·by_cases p:s.lo<=(Yg b t l).2
   ·exact .inl O
   exact .inr ⟨t,by simp,O⟩
  exact .inr ⟨u,by simp[k],j⟩
def mS{b:Sb}{l:List Int}:∀(ts:List N4) (s:Td),s.hi<=(ts.foldl (V2 b l) s).hi/\(∀t∈ts,(Yg b t l).2<=(ts.foldl (V2 b l) s).hi)/\((ts.foldl (V2 b l) s).hi=s.hi\/∃t∈ts,(ts.foldl (V2 b l) s).hi=(Yg b t l).2)
 | [],s=>⟨qAx _,λt h=>by simp at h,.inl rfl⟩
 | t :: ts,s=>by
  obtain⟨n,o,j⟩:=mS ts (V2 b l s t);rw[qBa];generalize ts.foldl (V2 b l) (V2 b l s t)=f at *;have e:(V2 b l s t).hi=max s.hi (Yg b t l).2:=rfl;rw[e]at n j;refine⟨O,λu k=>?_,?_⟩
  ·rcases qAq.1 k with rfl | k
   ·omega
   exact o u k
  rcases j with j | ⟨u,k,j⟩
  ·by_cases p:(Yg b t l).2<=s.hi
   ·exact .inl O
   exact .inr ⟨t,by simp,O⟩
  exact .inr ⟨u,by simp[k],j⟩
def k9(h:ts≠[]):ts.getD 0 ⟨0,0,0,0⟩∈ts:=by
 cases ts with
 | nil=>exact absurd rfl h
 | cons t ts=>exact qBv
def kL{b:Sb}{l:List Int}(h:ts≠[]):(∀t∈ts,(cG b ts l).lo<=(Yg b t l).2)/\∃t∈ts,(cG b ts l).lo=(Yg b t l).2:=by
 obtain⟨_,e,c⟩:=mT ts (iR b ts l);refine⟨e,?_⟩;rcases c with c | c
 ·exact⟨_,k9 h,c⟩
 exact c
def kE{b:Sb}{l:List Int}(h:ts≠[]):(∀t∈ts,(Yg b t l).2<=(cG b ts l).hi)/\∃t∈ts,(cG b ts l).hi=(Yg b t l).2:=by
 obtain⟨_,e,c⟩:=mS ts (iR b ts l);refine⟨e,?_⟩;rcases c with c | c
 ·exact⟨_,k9 h,c⟩
 exact c
def y9{p:α->Bool}{l:List α}:(l.filter p).length=l.length↔∀x∈l,p x=true:=by rw[qBA]
def vY{p:α->Bool}{l:List α}:(l.filter p).length=0↔∀x∈l,p x=false:=by rw[qAt,qDg];simp
def hZ{p:α->Bool}{l:List α}(h:l≠[]):fN ((l.filter p).length:Nat) (l.length:Nat)=1↔∀x∈l,p x=true:=by
 rw[<-y9];have:=qAX.2 h;unfold fN;split
 ·omega
 split
 ·omega
 omega
def kS{p:α->Bool}{l:List α}:fN ((l.filter p).length:Nat) (l.length:Nat)=2↔∀x∈l,p x=false:=by
 rw[<-vY];unfold fN;split
 ·omega
 split
 ·omega
 omega
theorem pU(m n:Int):fN m n=0\/fN m n=1\/fN m n=2:=by
 unfold fN;split
 ·exact .inr (.inr rfl)
 split
 ·exact .inr (.inl rfl)
 exact .inl rfl
def dU(b:Sb)(ts:List N4)(p:List Int):Bool:=ts.all (gd b p)
def uK{b:Sb}{m:Nat}(h:ts≠[])(c:1<=m):UM b ts m=dU b ts (ZX b.pk.length m):=by rw[qBT,UM,qAc,qAy,qAy,iB,hZ h,dU,IN];exact⟨λh=>h.2,λh=>⟨c,h⟩⟩
def uJ{b:Sb}(h:ts≠[]):(dE b ts).map (ZX b.pk.length)=(ZB b.pk.length).filter (dU b ts):=by
 have e:ZB b.pk.length=((List.range (ZB b.pk.length).length).map (·+1)).map (ZX b.pk.length):=by refine qBl (by simp) λi f l=>?_;simp only[qAZ,qCl,ZX,qAU];exact(ZD f _).symm
 conv=>rhs;rw[e]
 rw[qDy,dE];congr 1;refine qBW λm j=>?_;obtain⟨k,_,rfl⟩:=qAB.1 j;exact uK h O
def pO{b o:Sb}(c:o.pk.length=b.pk.length)(f:o.pl=b.pl)(h:o.hd=b.hd)(k:∀j,(aD o j).bF=(aD b j).bF):VN o=VN b:=by
 have e:fK o=fK b:=by funext s p;unfold fK;rw[k]
 funext t l;unfold VN GL Ul fA tA;rw[e,c,f,h]
def lL{b o:Sb}(h:∀j,(aD o j).bJ=(aD b j).bJ)(w:List Wk):∀j,U2 o w j=U2 b w j
 | 0=>rfl
 | j+1=>by rw[U2,U2,lL h w j,h]
def iJ{b o:Sb}(c:o.pk.length=b.pk.length)(e:o.pl=b.pl)(f:o.hd=b.hd)(h:∀j,(aD o j).bF=(aD b j).bF)(k:∀j,(aD o j).bJ=(aD b j).bJ):Yg o=Yg b:=by funext t l;rw[Yg,Yg,pO c e f h,lL k]
def v7{b o:Sb}(h:Yg o=Yg b)(c:o.td=b.td)(l:List Int):gd o l=gd b l:=by funext t;rw[gd,gd,h,nT,nT,c]
def iA{b o:Sb}(h:Yg o=Yg b)(c:o.td=b.td)(ts:List N4)(l:List Int):cG o ts l=cG b ts l:=by
 have e:V2 o l=V2 b l:=by funext s t;unfold V2 nT;rw[h,c]
 rw[cG,cG,e,iR,iR,h]
def EU{b o:Sb}(h:Yg o=Yg b)(c:o.td=b.td)(ts:List N4)(p:List Int):dU o ts p=dU b ts p:=by rw[dU,dU,v7 h c]
structure eE(n:Nat)(l:List Int):Prop where
 len:l.length=n
 nd:l.Nodup
 rg:∀z∈l,0<=z/\z<n
def sS:(∀p∈ZB 1,p.Nodup)/\(∀p∈ZB 2,p.Nodup)/\(∀p∈ZB 3,p.Nodup)/\(∀p∈ZB 4,p.Nodup):=by decide +kernel
def sR{n:Nat}(l:1<=n/\n<=4){p:List Int}(b:p∈ZB n):eE n p:=by
 obtain⟨j,k⟩:=CW b;refine⟨j,?_,k⟩;obtain⟨c,e,f,h⟩:=sS;have:n=1\/n=2\/n=3\/n=4:=O;rcases this with rfl | rfl | rfl | rfl
 ·exact c p b
 ·exact e p b
 ·exact f p b
 exact h p b
def bS(b:Sb):Int:=if Zi b=[]then 9 else 0
def gH{b:Sb}(ok:bA b):Zl b 0=bS b:=by
 rw[Zl,jO ok,aT (by decide),aT (by decide),bS];by_cases h:Zi b=[]
 ·rw[iF h,iF (by rw[h];rfl)]
 rw[aT h,aT (by rw[qAt];exact h)]
def jU{b:Sb}(h:Zi b≠[]):bS b=0:=aT h
def gG{b:Sb}:bS b=0↔Zi b≠[]:=by
 unfold bS;split
 ·rename_i h;exact⟨λe=>by simp at e,λe=>absurd h e⟩
 rename_i h;exact⟨λ_=>h,λ_=>rfl⟩
def mL{n:Nat}{l:List Int}(b:eE n l):∀j,j<=l.length->VB n l j=0
 | 0,_=>rfl
 | j+1,f=>by
  have g9:j<l.length:=f;rw[VB,aT (by rw[mL b j O];decide),ZD g9,aT (by have:=b.rg _ (bY g9);omega),aT];intro h;obtain⟨z,k,e⟩:=qBg.1 h;have e:l[j]=z:=by simpa using e
  obtain⟨i,hi,c⟩:=qAk.1 k;rw[qBC]at c;rw[qAj]at hi;have:=(qBQ (h₀:=show i<l.length by omega) (h₁:=g9) b.nd).1 (by rw[c,e]);omega
def mM{b:Sb}{l:List Int}(c:eE b.pk.length l):Yq b l=0:=by rw[Yq,aT (by rw[c.len];exact λh=>h rfl)];exact mL c _ (dO _)
def fH{b:Sb}(h:i<b.pk.length):Yz b i=0:=iF ⟨O,O⟩
structure wG(b o:Sb):Prop where
 n:o.pk.length=b.pk.length
 res:Yg o=Yg b
 td:o.td=b.td
 sub:∀t∈Zi o,t∈Zi b
def wG.len{b o:Sb}(L:wG b o)(c:b.pk.length<=4):(Zi o).length<=(Zi b).length:=by
 have j:(Zi o).Nodup:=(cZ (by rw[L.n];exact c)).imp λh e=>by subst e;exact h.fM h
 have f:(Zi b).Nodup:=(cZ c).imp λh e=>by subst e;exact h.fM h
 have e:Zi o=(Zi b).filter λt=>decide (t∈Zi o):=by refine iY (cZ (by rw[L.n];exact c)) ((cZ c).filter _) λx=>?_;rw[qAC,qAy];exact⟨λh=>⟨L.sub x h,h⟩,λh=>h.2⟩
 rw[e];exact qBd _ _
def wG.pos{b o:Sb}(L:wG b o)(h:Zi o≠[]):Zi b≠[]:=by obtain⟨t,c⟩:=qCB _ h;intro e;have:=L.sub t c;rw[e]at this;simp at this
def k8{b:List N4}{p:N4->Bool}(j:b≠[])(c:∀t∈b,t∈ts):fN ((ts.filter p).length:Nat) (ts.length:Nat)=0\/fN ((ts.filter p).length:Nat) (ts.length:Nat)=fN ((b.filter p).length:Nat) (b.length:Nat):=by
 have k:ts≠[]:=by obtain⟨t,l⟩:=qCB _ j;intro e;have:=c t l;rw[e]at this;simp at this
 rcases pU ((ts.filter p).length:Nat) (ts.length:Nat)with h | h | h
 ·exact .inl h
 ·exact .inr (by rw[h];exact((hZ j).2 λx f=>(hZ k).1 h x (c x f)).symm)
 exact .inr (by rw[h];exact(kS.2 λx f=>kS.1 h x (c x f)).symm)
def wG.good{b o:Sb}(L:wG b o)(h:Zi o≠[])(p:List Int):fN (cG b (Zi b) p).good (Zi b).length=0\/fN (cG b (Zi b) p).good (Zi b).length=fN (cG o (Zi o) p).good (Zi o).length:=by rw[iA L.res L.td,iB,iB];exact k8 h L.sub
def wG.cold{b o:Sb}(L:wG b o)(h:Zi o≠[])(p:List Int)(c:i<4):fN ((cG b (Zi b) p).cold.get i) (Zi b).length=0\/fN ((cG b (Zi b) p).cold.get i) (Zi b).length=fN ((cG o (Zi o) p).cold.get i) (Zi o).length:=by rw[iA L.res L.td,kT _ _ _ c,kT _ _ _ c];exact k8 h L.sub
def wG.ends{b o:Sb}(L:wG b o)(h:Zi o≠[])(p:List Int):(cG b (Zi b) p).lo<=(cG o (Zi o) p).lo/\(cG o (Zi o) p).hi<=(cG b (Zi b) p).hi:=by rw[iA L.res L.td];obtain⟨_,t,c,e⟩:=kL (b:=b) (l:=p) h;obtain⟨_,u,f,j⟩:=kE (b:=b) (l:=p) h;have k:=(kL (b:=b) (l:=p) (L.pos h)).1 t (L.sub t c);have n:=(kE (b:=b) (l:=p) (L.pos h)).1 u (L.sub u f);omega
def vX{p q:α->Bool}{l:List α}(h:∀x∈l,p x=true->q x=true):(l.filter p).length<=(l.filter q).length:=by rw[<-qEm,<-qEm];exact List.countP_mono_left h
def mD{b:Sb}(h:ts≠[]):(dE b ts).length=((ZB b.pk.length).filter (dU b ts)).length:=by rw[<-uJ h,qAh]
def wG.plans{b o:Sb}(L:wG b o)(h:Zi o≠[]):(dE b (Zi b)).length<=(dE o (Zi o)).length:=by rw[mD (L.pos h),mD h,L.n];refine vX λp _ c=>?_;rw[EU L.res L.td];exact IN.2 λt e=>IN.1 c t (L.sub t e)
def pX{b:Sb}{z:Int}:z∈Vj b i↔∃t∈Zi b,t.get i=z:=by rw[Vj,qAB]
section
variable{P:aX}[Tz P][Loud P]{H:Hp}
def ET{b:Sb}(hn:1<=b.pk.length/\b.pk.length<=4) :
  LL.Zc P 47 #[b.v] H λv f=>aL H f/\∃A c qs,v=.slice A qs.length c/\aF f v qs/\cX f qs (ZB b.pk.length):=by
 refine aJ.m (bG y0) (args:=[b.v]) rfl ?_;unfold lU Sb.v;refine Y ?_;refine ZY (cs:=Zb [((none,0,0):bW)]) (OL _) rfl λU qE=>?_;have s8:aF (H.ins U (.cells (Zb [((none,0,0):bW)]).toArray 26)) (.slice (some ⟨U,0,none⟩) 1 1) [((none,0,0):bW)]:=Z0 (l:=[((none,0,0):bW)]);have i8:aL H (H.ins U (.cells (Zb [((none,0,0):bW)]).toArray 26)):=Zs qE;generalize H.ins U (.cells (Zb [((none,0,0):bW)]).toArray 26)=H1 at *;refine Y ?_;refine ZO (α:=(Option Addr×Nat)×List bW) b.pk.length (λi s f=>aL H f/\aF f (.slice s.1.1 s.2.length s.1.2) s.2/\cX f s.2 (dF b.pk.length i))
  (λi s=>[(1,vi 0),(2,.slice none 0 0),(3,.slice s.1.1 s.2.length s.1.2),(4,vi i)]) (λ_ _=>[(1,b.cs)]) ((some ⟨U,0,none⟩,1),[(none,0,0)])
  ⟨i8,s8,rfl,λi h h'=>by(obtain rfl:i=0:=by simpa using h);exact⟨.nil _,dO _⟩⟩ V V ?_
 rintro i ⟨⟨A3,c3⟩,qs⟩ H2 hi ⟨i2,s3,S⟩;simp only at s3 S;have tE:=S.len;have lG:=uG hn.2 (show i<=b.pk.length by omega);refine OJ (λh1=>?_) (λh1=>?_)
 ·have yL:i<b.pk.length:=O;refine Y ?_;refine ZO (α:=Hp×Value×List bW×Option Nat) qs.length (λk s f=>aL H2 s.1/\aL s.1 f/\dD s.1 f 26 s.2.1 s.2.2.1 s.2.2.2/\cX s.1 s.2.2.1 (((dF b.pk.length i).take k).flatMap λl=>bR l b.pk.length))
   (λk s=>[(1,vi 0),(2,.slice none 0 0),(3,.slice A3 qs.length c3),(4,vi i),(5,s.2.1),(6,vi k)]) (λ_ _=>[(1,b.cs)]) (H2,.slice none 0 0,[],none) ⟨.refl _,.refl _,.nil _ _ _,.nil _⟩ V V ?_
  rintro k ⟨G,v5,ps,b5⟩ H3 hk ⟨g1,g2,o5,l5⟩;simp only at g1 g2 o5 l5;refine OJ (λh2=>?_) (λh2=>?_)
  ·have D:k<qs.length:=O;have F:k<(dF b.pk.length i).length:=O;obtain⟨sk,ck⟩:=S.at_ k D F;have vN:=vZ (λl=>bR l b.pk.length) F;have I:=nN (n:=b.pk.length) ((dF b.pk.length i).take k);rw[qAj]at I;have I:(((dF b.pk.length i).take k).flatMap λl=>bR l b.pk.length).length<=96:=by refine qAz I (qAz (qBq (show min k _<=24 by omega) hn.2) (by decide))
   have CM:=lG.2 _ (bY F);generalize((dF b.pk.length i).take k).flatMap (λl=>bR l b.pk.length)=L at *;generalize(dF b.pk.length i)[k]=l at *;generalize qG:qs[k]=q at *;have Q:=kR sk;obtain⟨qA,qn,qc⟩:=q;simp only at Q ck;subst Q;refine Y ?_;refine ZO (α:=Hp×Value×List bW×Option Nat) b.pk.length (λj s f=>aL H2 s.1/\aL s.1 f/\dD s.1 f 26 s.2.1 s.2.2.1 s.2.2.2/\cX s.1 s.2.2.1 (L++bR l j))
    (λj s=>[(1,vi 0),(2,.slice none 0 0),(3,.slice A3 qs.length c3),(4,vi i),(5,s.2.1),(6,vi k),(7,vi j)]) (λ_ _=>[(1,b.cs)]) (G,v5,ps,b5) ⟨g1,g2,o5,by rw[bR,qCC,qCp,qAf];exact l5⟩ V V ?_
   rintro j ⟨G2,w5,J,Z⟩ H4 hj ⟨K,M,o6,T⟩;simp only at K M o6 T;have mO:=T.len;rw[BY]at mO;have vI:=iX l j;refine OJ (λh3=>?_) (λh3=>?_)
   ·have g9:j<b.pk.length:=O;have u:=nM l j;have z:=K.trans M;have row:Enc.enc qs[k]=[.slice qA l.length qc]:=by rw[qG];rfl
    refine Y ?_;refine Zz k (s3.inc z) D λa ha=>?_;rw[row]at ha;refine Y ?_;refine Ya ha (Y ?_);refine Za [.slice qA l.length qc,vi j] (nU (sk.inc z) O) ?_;rintro v _ ⟨rfl,rfl⟩;by_cases p:(j:Int)∈l
    ·rw[decide_eq_true p];rw[iF p,qAf]at u;refine Y ?_;exact⟨(⟨j+1,O⟩,(G2,w5,J,Z)),bN O,⟨K,M,o6,by rw[u];exact T⟩,V,V,rfl⟩
    rw[qAo p];rw[aT p]at u;refine Y ?_;refine qZ (bI dW) (cD t3) (OL _) λr7 t=>Y ?_;refine Zz k ((s3.inc z).inc (Zs t)) D λa2 N=>?_;rw[row]at N;refine Y ?_;refine Ya N (Y ?_);refine lV (l:=l) (bI dW) (cD t3) rfl (by decide) t rfl ((sk.inc z).inc (Zs t)) (sG (λ_=>rfl) l) O O rfl rfl (OL _) λv8 H5 b8 i5 o8=>?_;have qD:aL H4 H5:=(Zs (o:=.cells #[] 3) t).trans i5;refine Y ?_;refine ZY (cs:=[vi (j:Int)]) (OL _) rfl λr9 R=>Y ?_;refine U7 (l':=[(j:Int)]) (bI dW) (bI dW) (cD t3) rfl (by decide) (qD.trans (Zs R)) (o8.ins R) qY rfl (by simp;omega) O rfl rfl (OL _) λv9 H6 b9 k1 k2 k3=>?_;obtain⟨X,c9,rfl,q9⟩:=jF k2;obtain⟨G',m1,m2,m3,m4⟩:=yR M o6 k1 k2;refine Y ?_;refine ZY (cs:=[.slice X (l++[(j:Int)]).length c9]) (OL _) rfl λwL C=>Y ?_;refine U7 (l':=[((X,(l++[(j:Int)]).length,c9):bW)]) (bI kU) (bI kU) (cD rO) rfl (by decide) (m2.trans (Zs C)) (m3.ins C) (Z0 (l:=[((X,(l++[(j:Int)]).length,c9):bW)])) rfl (by simp;omega) O rfl rfl (OL _) λuY H7 vO n1 n2 n3=>Y ?_;exact⟨(⟨j+1,O⟩,(G',uY,J++[(X,(l++[(j:Int)]).length,c9)],vO)),bN O,⟨K.trans m1,n1,n2,by rw[u,<-qAW];exact(T.inc m1).snoc m4 q9⟩,V,V,rfl⟩
   have:j=b.pk.length:=O;subst this;refine Y ?_;exact⟨(⟨k+1,O⟩,(G2,w5,J,Z)),bN O,⟨K,M,o6,by rw[vN];exact T⟩,V,V,rfl⟩
  have:k=qs.length:=O;subst this;rw[tE,IF]at l5;obtain⟨A5,Z,rfl,q5⟩:=jF o5;refine Y ?_;exact⟨(⟨i+1,O⟩,((A5,Z),ps)),bN O,⟨(i2.trans g1).trans g2,o5.sl,l5.inc g2⟩,V,V,rfl⟩
 have:i=b.pk.length:=O;subst this;rw[uI hn]at S;refine Y ?_;exact⟨i2,A3,c3,qs,rfl,s3,S⟩
def ES{b:Sb}{n:Int}(z:1<=b.pk.length/\b.pk.length<=4)(D:0<=n/\n<256) :
  LL.Zc P 37 #[b.v,.int .u8 n] H λv o=>aL H o/\∃A c p,p∈ZB b.pk.length/\v=.slice A p.length c/\p.length<=c/\aF o (.slice A p.length c) p:=by
 refine aJ.m (bG yX) (args:=[b.v,.int .u8 n]) rfl ?_;unfold mW Sb.v;refine Y ?_;refine Za [b.v] (ET z) ?_;rintro v L ⟨I,A,c,qs,rfl,sq,B⟩;have F:=B.len;have G:=CZ z;have k:0<qs.length:=by obtain⟨M,N,Q,R⟩:=IB;have:b.pk.length=1\/b.pk.length=2\/b.pk.length=3\/b.pk.length=4:=O;rcases this with e | e | e | e<;>rw[e]at F<;>omega
 refine Y ?_;refine Vs (bI Tryz.underlying5) (bI Tryz.underlying3) rfl ?_;rw[Uk (show pZ n from⟨O,O⟩)];refine Y ?_;refine iZ rfl rfl O ?_;obtain⟨i,u,C⟩:=gW (n:=qs.length) D.1 k;rw[C];have h:i<(ZB b.pk.length).length:=O;obtain⟨s1,s2⟩:=B.at_ i u h;have l:=kR s1;have j:=bY h;have row:Enc.enc qs[i]=[dN qs[i]]:=rfl;refine Y ?_;refine Zz i sq u λa t=>?_;rw[row]at t;generalize qs[i]=q at *;generalize(ZB b.pk.length)[i]=p at *;obtain⟨J,S,K⟩:=q;simp only at l s2;subst l;refine Y ?_;refine Ya t (Y ?_);exact⟨I,J,K,p,j,rfl,s2,s1⟩
end
def dG.res{b c:Sb}(h:dG b c):Yg c=Yg b:=iJ (by rw[h.pk]) h.pl h.hd (λj=>by rw[h.at_]) λj=>by rw[h.at_]
