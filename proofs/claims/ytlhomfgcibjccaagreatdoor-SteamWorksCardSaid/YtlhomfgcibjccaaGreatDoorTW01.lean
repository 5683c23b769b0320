import Derived.Test.YtlhomfgcibjccaaGreatDoorTW00
set_option linter.all false
set_option maxHeartbeats 8000000
set_option maxRecDepth 100000
section
open Go Go.LL Go.Conc Go.ConcM
namespace Go.Proofs.YtlhomfgcibjccaaGreatDoor
def lU:Tryz.pinned.checked.prog.funcNamed Rows.steamWorksRow.func=some 15:=U
def mG:(Rows.steamWorksRow.inPlace == Tryz.pinned.checked.prog.inPlace 15)=true:=U
def mH:(Rows.steamWorksRow.unfollowed == Tryz.pinned.checked.prog.unfollowed 15)=true:=U
def lV:(Rows.steamWorksRow.recurses == Tryz.pinned.checked.prog.recurses 15)=true:=U
def mI:(Rows.steamWorksRow.named == Tryz.pinned.checked.prog.varsNamed 15)=true:=U
def mF:joinedFacts Tryz.pinned.checked.prog 15 Tryz.f15 Rows.steamWorksSpec Rows.steamWorksRow=true:=by unfold joinedFacts;exact aE (aE (aE (aE (aE (aE (aE (aE (aE (aE (aE (aE (aE (aE (aE (aE (aE (aE (aE (aE (aE (aE (aE (aE (aE (aE (aE (aE (aE (aE (aE U z4) gV) U) U) U) U) U) U) mG) mH) lV) mI) U) U) U) U) U) U) U) U) U) U) U) fX) fY) U) U) U) U) U) U
def lW:Tryz.f15.isInstance Tryz.pinned.checked.prog Rows.steamWorksRow.origin Rows.steamWorksRow.targs:=of_decide_eq_true U
def mJ:Tryz.f15.isWrapper Tryz.pinned.checked.prog Rows.steamWorksRow.wrapper Rows.steamWorksRow.mainSum:=by unfold Func.isWrapper;first | (rw[iF (by decide +kernel)];kernel_rfl) | (rw[aT (by decide +kernel)];exact⟨rfl,rfl⟩)
end Go.Proofs.YtlhomfgcibjccaaGreatDoor
end
open Go Go.LL
namespace Go.Proofs
section
open Go.Conc Go.ConcM
open YtlhomfgcibjccaaGreatDoor Go.ChangeShapes Go.WideShapes
section
variable{H:Type}{enc:TypeId×Value->H}{W:World}{base:Nat}{sp:Nat->Bool}{held:Bool}{fuel:Nat}{cs:List Value}{y:DataW H×List MemPlace}{r:Reach}{b0:Nat}{v:Value}{d:DataW H}{ps:List MemPlace}
def pO{α:Type}[Enc α]{t e:TypeId}(i:Tryz.prog.underlying t=some (.slice e))(j:Tryz.prog.cellsOf e=Enc.sz α)(f:0<Enc.sz α)
  (h:∀{n:Nat} {cs:List Value} {y:DataW H×List MemPlace},DataW.trod enc Tryz.prog W base sp held n e cs=some y->∃x:α,cs=Enc.enc x)
  (g:Value.okWide Tryz.prog W r b0 t v) (k:DataW.Trod enc Tryz.prog W base sp held t v d ps):∃l:List α,aF (lQ W) v l:=by
 obtain⟨fuel,m⟩:=k;obtain⟨a,len,cap,rfl⟩:=okWide_slice i g;obtain⟨v,p,l,o⟩:=EK i j f h m;have:Value.slice a len cap=v:=by simpa[Value.cells]using p
 exact⟨l,this ▸ o⟩
def pH(a:Value.okWide Tryz.prog W r b0 26 v)(e:DataW.Trod enc Tryz.prog W base sp held 26 v d ps):∃l:List Int,aF (lQ W) v l:=
 pO dW KT (by decide) (λh=>C5 h) a e
end
end
def mL{α:Type}{p:α->Prop}{l:List α}{j:Nat}(f:j<l.length)(h:∀x∈l.take j,p x)(e:p l[j]):∀x∈l.take (j+1),p x:=by
 intro x a;rw[iN f]at a;rcases qAi.1 a with a | a
 ·exact h x a
 rw[oR.1 a];exact e
section
variable{P:aX}[Tz P][Loud P]{H:Hp}
def sO{lv:Value}{l:List Int}{n:Int}(i:aF H lv l)(o:l.length<=1000000):LL.Zc P 40 #[lv,vi n] H λv e=>H=e/\v=vb (decide (n∈l)):=by
 refine aJ.m (bG sE) (args:=[lv,vi n]) rfl ?_;unfold l8;refine Y ?_;refine Zv l.length (λj e=>H=e/\∀x∈l.take j,x≠n) (λj=>[(0,lv),(1,vi n),(5,vi j)]) (λ_=>[]) ⟨rfl,by simp⟩ V trivial ?_;rintro j _ p ⟨rfl,g⟩;refine Y ?_;refine YE i rfl ?_;refine OJ (λk=>?_) (λk=>?_)
 ·have g9:j<l.length:=O;refine Y ?_;refine Zz j i g9 λa ha=>Y ?_;refine Ya ha ?_;refine OJ (λf=>?_) (λf=>?_)
  ·refine Y ?_;exact⟨rfl,by rw[decide_eq_true (show n∈l by rw[<-f];exact bY g9)];rfl⟩
  refine Y ?_;exact dM (I:=λj e=>H=e/\∀x∈l.take j,x≠n) (env:=λj=>[(0,lv),(1,vi n),(5,vi j)]) (box:=λ_=>[]) g9 ⟨rfl,mL g9 g f⟩ V trivial rfl
 have:j=l.length:=O;subst this;rw[IF]at g;refine Y ?_;exact⟨rfl,by rw[qAo (show ¬ n∈l from λh=>g n h rfl)];rfl⟩
end
section
open Go.Conc Go.ConcM
open YtlhomfgcibjccaaGreatDoor Go.ChangeShapes Go.WideShapes
section
variable{H:Type}{enc:TypeId×Value->H}{W:World}{base:Nat}{sp:Nat->Bool}{held:Bool}{fuel:Nat}{cs:List Value}{y:DataW H×List MemPlace}{r:Reach}{b0:Nat}{v:Value}{d:DataW H}{ps:List MemPlace}
def kY(a:Value.okWide Tryz.prog W r b0 26 v)(g:DataW.Trod enc Tryz.prog W base sp held 26 v d ps):∃(l:List Int) (A:Option Addr) (c:Nat),v=.slice A l.length c/\l.length<=c/\aF (lQ W) (.slice A l.length c) l:=by
 obtain⟨l,A,c,e,h⟩:=pH a g;subst e;obtain⟨fuel,f⟩:=g;have f:DataW.trod enc Tryz.prog W base sp held fuel 26 [.slice A l.length c]=some (d,ps):=by simpa[Value.cells]using f
 exact⟨l,A,c,rfl,TZ dW f,A,c,rfl,h⟩
end
end
variable{A:Option Addr}{c:Nat}{x y:Int}{key:Int->Int}{nd:Int->Bool}{w:Value}{lt:List Int}
theorem B4.aZ(n:B4){j:Nat}(z:Bool)(i:Nat)(a:i<4)(e:j<4):(n.put j z).get i=if i=j then z else n.get i:=by
 match i,j,a,e with
 | 0,0,_,_=>rfl
 | 0,1,_,_=>rfl
 | 0,2,_,_=>rfl
 | 0,3,_,_=>rfl
 | 1,0,_,_=>rfl
 | 1,1,_,_=>rfl
 | 1,2,_,_=>rfl
 | 1,3,_,_=>rfl
 | 2,0,_,_=>rfl
 | 2,1,_,_=>rfl
 | 2,2,_,_=>rfl
 | 2,3,_,_=>rfl
 | 3,0,_,_=>rfl
 | 3,1,_,_=>rfl
 | 3,2,_,_=>rfl
 | 3,3,_,_=>rfl
def bT(b:Sb)(t:N4):Nat->N4
 | 0=>t
 | j+1=>(bT b t j).put j (min (max (t.get j) (aD b j).lo) (aD b j).hi)
def dP(b:Sb)(l:List Int):Bool:=uW (bT b (Ys l) b.pk.length) (Ys l) && cB b (Ys l)
def cZ(b:Sb)(l:List Int):Int:=if ZF b≠0 then ZF b else Um b l
section
variable{P:aX}[Tz P][Loud P]{H:Hp}
def rH{b:Sb}{l:List Int}(hb:Zr H b)(J:b.Sz)(N:Yk H)(G:aF H (.slice A l.length c) l)(R:l.length<=1000000) :
  LL.Zc P 75 #[b.v,.slice A l.length c] H λv u=>aL H u/\v=.tuple #[vb (if cZ b l=0 then dP b l else false),vi (cZ b l)]:=by
 refine aJ.m (bG sN) (args:=[b.v,.slice A l.length c]) rfl ?_;unfold k9 Sb.v;refine Y ?_;refine Za [b.v] (CG hb J N) ?_;rintro v Z ⟨o,rfl⟩;refine OJ (λq=>?_) (λq=>?_)
 ·have e:cZ b l=ZF b:=iF q;refine Y ?_;exact⟨o,by rw[e,aT q];rfl⟩
 have ok:=Ow (b:=b) q;have e:cZ b l=Um b l:=aT O;rw[e];refine Y ?_;refine Za [b.v,.slice A l.length c] (Ih (G.inc o) R J.pk) ?_;rintro v _ ⟨rfl,rfl⟩;refine OJ (λD=>?_) (λD=>?_)
 ·refine Y ?_;exact⟨o,by rw[aT D];rfl⟩
 have h:Um b l=0:=O;have B:l.length<=4:=by have:=(CD h).1;have:=ok.n;omega
 have S:=ok.n;rw[iF h,h];refine Y ?_;refine Za [.slice A l.length c] (Ii (G.inc o) B) ?_;rintro v K ⟨s2,rfl⟩;have s:=o.trans s2.inc;have U:=uE (CD h).2;unfold dP;generalize Ys l=t at *;refine Y ?_;refine Zv b.pk.length (λj u=>K=u) (λj=>[(2,vi 0),(7,vi 0),(9,vi 0),(10,vi 0),(30,.slice b.A1 b.pk.length b.c1),(31,vi b.pk.length),(32,vi j)]) (λj=>[(2,b.cs),(7,b.cs),(9,t.cells),(10,(bT b t j).cells)]) rfl V V ?_;rintro j _ hj rfl;refine OJ (λM=>?_) (λM=>?_)
 ·have k:j<b.pk.length:=O;have i:j<4:=O;have L:b.pk[j]=aD b j:=(ZD k _).symm;refine Y ?_;refine Zz j (hb.pk.inc s) k λa E=>?_;rw[L]at E;have C:bT b t (j+1)=(bT b t j).put j (min (max (t.get j) (aD b j).lo) (aD b j).hi):=rfl;generalize aD b j=p at *;refine Y ?_;refine YA (cs:=[.string p.nm,vi p.lo,vi p.hi,vi p.bF,vi p.bJ]) E (Y ?_);refine CF (j:=j) rfl rfl i (Y ?_);refine FW (v:=vi (t.get j)) (OL _) rfl rfl (by
   match j,i with
   | 0,_=>rfl
   | 1,_=>rfl
   | 2,_=>rfl
   | 3,_=>rfl) ?_
  refine Y ?_;refine q8 rfl rfl (Y ?_);refine z5 rfl rfl (Y ?_);refine CF (j:=j) rfl rfl i (Y ?_);refine FX (OL _) rfl rfl rfl rfl (by show 0+j * 1+1<=4;omega) rfl ?_;have z:ZG (bT b t j).cells (0+j * 1) (Value.cells (vi (min (max (t.get j) p.lo) p.hi))).toList=(bT b t (j+1)).cells:=by rw[C];exact T4 _ _ i
  rw[z];refine Y ?_;exact⟨⟨j+1,O⟩,bN O,rfl,V,V,rfl⟩
 have:j=b.pk.length:=O;subst this;refine Y ?_;refine KQ (xs:=#[vi (bT b t b.pk.length).a,vi (bT b t b.pk.length).b,vi (bT b t b.pk.length).c,vi (bT b t b.pk.length).d]) (ys:=#[vi t.a,vi t.b,vi t.c,vi t.d]) (b:=uW (bT b t b.pk.length) t) pW (λQ g H T=>Hy Q T) rfl rfl ?_;cases hz:uW (bT b t b.pk.length) t with
 | false=>
  refine Y ?_;exact⟨s,rfl⟩
 | true=>
  refine Y ?_;refine Za [b.v,Zu t] (Ic (hb.inc s) ok U) ?_;rintro v H3 ⟨X,rfl⟩;refine Y ?_;exact⟨s.trans X.inc,rfl⟩
end
def hZ{α:Type}{f:Int->List α}{a:Int}{x:α}:∀{c:Nat},x∈gT f a c↔∃v,a-c<v/\v<=a/\x∈f v
 | 0=>by
  rw[gT];constructor
  ·intro h;simp at h
  rintro⟨v,j,g,_⟩;omega
 | c+1=>by
  rw[gT,qAi,hZ];constructor
  ·rintro(h | ⟨v,j,g,i⟩)
   ·exact⟨a-c,O,O,h⟩
   exact⟨v,O,g,i⟩
  rintro⟨v,j,g,i⟩;by_cases e:v=a-c
  ·subst e;exact .inl i
  exact .inr ⟨v,O,g,i⟩
def fU{b:Sb}:∀{r:Nat} {m x:N4},r<=b.pk.length->b.pk.length<=4->(x∈bX b r m↔(∀j,j<4->(j<b.pk.length-r\/b.pk.length<=j)->x.get j=m.get j)/\(∀j,b.pk.length-r<=j->j<b.pk.length->(aD b j).lo<=x.get j/\x.get j<=(aD b j).hi)/\cB b x=true)
 | 0,m,x,_,_=>by
  rw[bX];constructor
  ·intro h;split at h
   ·obtain rfl:=oR.1 h;exact⟨λ_ _ _=>rfl,λj n p=>O,by assumption⟩
   simp at h
  rintro⟨n,_,q⟩;have:x=m:=N4.ext' λj a=>n j a O;subst this;rw[iF q];simp
 | r+1,m,x,D,z=>by
  rw[bX,hZ];obtain⟨i,u⟩:∃i,b.pk.length-(r+1)=i:=⟨_,rfl⟩;rw[u];constructor
  ·rintro⟨v,n,p,q⟩;obtain⟨g,k,o⟩:=(fU O z).1 q;refine⟨λj a B=>?_,λj C s=>?_,o⟩
   ·rw[g j a O,N4.aZ _ _ a,aT O]
   by_cases e:j=i
   ·subst e;have:=g j O O;rw[N4.aZ _ _ O,iF rfl]at this;omega
   exact k j O s
  rintro⟨g,k,o⟩;have:=k i O O;refine⟨x.get i,O,O,(fU O z).2 ⟨λj a B=>?_,λj n p=>k j O p,o⟩⟩;rw[N4.aZ _ _ a];split
  ·rename_i e;rw[e]
  exact g j a O
theorem iB(j:Nat)(a:j<4):(⟨0,0,0,0⟩:N4).get j=0:=by
 match j,a with
 | 0,_=>rfl
 | 1,_=>rfl
 | 2,_=>rfl
 | 3,_=>rfl
def sP(b:Sb)(x:N4):Prop:=(∀j,j<b.pk.length->(aD b j).lo<=x.get j/\x.get j<=(aD b j).hi)/\∀j,j<4->b.pk.length<=j->x.get j=0
def iI{b:Sb}(i:b.pk.length<=4){x:N4}:x∈Zi b↔sP b x/\cB b x=true:=by
 rw[Zi,fU (dO _) i,qCv];constructor
 ·rintro⟨e,f,g⟩;exact⟨⟨λj a=>f j (qAI _) a,λj a h=>by rw[e j a (.inr h),iB j a]⟩,g⟩
 rintro⟨⟨e,f⟩,g⟩;exact⟨λj a h=>by rw[f j a O,iB j a],λj _ a=>e j a,g⟩
def gd(b:Sb)(l:List Int)(t:N4):Bool:=nT b (Yg b t l)
def oG(l:List Int)(y x:Int):Prop:=∃a c,l=a++y :: c/\x∈c
def oG.app{l:List Int}(h:oG l y x)(z:Int):oG (l++[z]) y x:=by obtain⟨a,c,rfl,h⟩:=h;exact⟨a,c++[z],by simp,by simp[h]⟩
def sH{l:List Int}(h:y∈l)(x:Int):oG (l++[x]) y x:=by obtain⟨a,c,rfl⟩:=qCy h;exact⟨a,c++[x],by simp,by simp⟩
def Kb(key:Int->Int)(l:List Int)(y x:Int):Prop:=key y<key x\/(key y=key x/\oG l y x)
theorem Kb.app{l:List Int}(h:Kb key l y x)(z:Int):Kb key (l++[z]) y x:=h.imp id λh=>⟨h.1,h.2.app z⟩
def Kb.le{l:List Int}(h:Kb key l y x):key y<=key x:=by
 rcases h with h | h
 ·omega
 omega
def kX{key:Int->Int}{x:Int}{l:List Int}:∀{A:List Int},(∀y∈A,y∈l)->A.Pairwise (λu v=>Kb key (l++[x]) v u)->(Ud key x A).Pairwise (λu v=>Kb key (l++[x]) v u)
 | [],_,_=>by rw[Ud];exact qAS _ _
 | y :: r,g,h=>by
  obtain⟨f,j⟩:=qAJ.1 h;rw[Ud];split
  ·rename_i i;refine qAJ.2 ⟨λv a=>?_,kX (λz m=>g z (by simp[m])) j⟩;rcases qAq.1 ((KP key x r).mem_iff.1 a)with e | e
   ·exact .inl (by rw[e];exact i)
   exact f v e
  rename_i i;refine qAJ.2 ⟨λv a=>?_,h⟩;have k:key v<=key y:=by
   rcases qAq.1 a with e | e
   ·rw[e];exact qAx _
   exact(f v e).le
  by_cases e:key v<key x
  ·exact .inl e
  exact .inr ⟨O,sH (g v a) x⟩
def iA(key:Int->Int)(l:List Int):∀j,j<=l.length->(VO key (l.take j)).Pairwise λu v=>Kb key (l.take j) v u
 | 0,_=>by simp[VO]
 | j+1,e=>by have a:j<l.length:=e;rw[iN a,PX];exact kX (λy f=>(IG key _).mem_iff.1 f) ((iA key l j O).imp λh=>h.app _)
def mW(key:Int->Int)(l:List Int):(gN key l).Pairwise (Kb key l):=by have h:=iA key l l.length (dO _);rw[IF]at h;rw[gN,qDn];exact h
def bK(key:Int->Int)(nd:Int->Bool)(l:List Int):Nat->Int
 | 0=>-1
 | j+1=>if nd (el l j)=true/\(bK key nd l j<0\/key (el l j)<key (bK key nd l j))then el l j else bK key nd l j
def oS{a c:List Int}{m:Int}(s:∀z∈a++m :: c,0<=z)(E:nd m=true)(u:∀z∈a,nd z=true->key m<key z)(B:∀z∈c,nd z=true->key m<=key z) :
  bK key nd (a++m :: c) (a++m :: c).length=m:=by
 have n:∀j,j<a.length->el (a++m :: c) j∈a:=λj f=>by rw[el,ZD (by simp;omega),qAp f];exact bY f
 have p:el (a++m :: c) a.length=m:=by simp[el]
 have o:∀j,a.length<j->j<(a++m :: c).length->el (a++m :: c) j∈c:=λj f D=>by rw[el,ZD D,qAr O];obtain⟨k,C⟩:∃k,j-a.length=k+1:=⟨j-a.length-1,O⟩;simp only[C,List.getElem_cons_succ];exact bY _
 have k1:∀j,j<=a.length->bK key nd (a++m :: c) j=-1\/(bK key nd (a++m :: c) j∈a/\nd (bK key nd (a++m :: c) j)=true):=by
  intro j;induction j with
  | zero=>intro _;exact .inl rfl
  | succ j ih=>
   intro f;rw[bK];split
   ·rename_i h;exact .inr ⟨n j f,h.1⟩
   exact ih O
 have G:bK key nd (a++m :: c) (a.length+1)=m:=by
  rw[bK,p,iF];refine⟨E,?_⟩;rcases k1 a.length (dO _)with e | ⟨g,i⟩
  ·exact .inl (by rw[e];decide)
  exact .inr (u _ g i)
 have I:∀j,a.length+1+j<=(a++m :: c).length->bK key nd (a++m :: c) (a.length+1+j)=m:=by
  intro j;induction j with
  | zero=>intro _;exact G
  | succ j ih=>
   intro f;have F:0<=m:=s m (by simp);rw[show a.length+1+(j+1)=(a.length+1+j)+1 by omega,bK,ih O,aT];rintro⟨q,J⟩;have:=B _ (o (a.length+1+j) O O) q;omega
 have:=I c.length (by simp;omega);rwa [show a.length+1+c.length=(a++m :: c).length by simp;omega]at this
theorem oB{l:List Int}{n:Nat}(F:l.Nodup)(T:∀z∈l,0<=z)(X:n<l.length)(B:∀z∈l,nd z=true↔z ∉ (gN key l).take n) :
  bK key nd l l.length=el (gN key l) n:=by
 have C:=tI key l;have q:n<(gN key l).length:=by rw[C.length_eq];exact X
 have p:(gN key l).Nodup:=C.nodup_iff.2 F;have D:=mW key l;have K:gN key l=(gN key l).take n++(gN key l)[n] :: (gN key l).drop (n+1):=by conv=>lhs;rw[<-qCw n (gN key l),qCc q]
 rw[el,ZD q];generalize(gN key l)[n]=m at *;generalize(gN key l).take n=L at *;generalize(gN key l).drop (n+1)=Q at *;rw[K]at C p D;have u:m∈l:=C.mem_iff.1 (by simp);obtain⟨a,c,rfl⟩:=qCy u;have G:m ∉ L:=λh=>(qBV.1 p).2.2 m h m (by simp) rfl;have f:∀z∈a++m :: c,z≠m->nd z=true->Kb key (a++m :: c) m z:=λz j J h=>by
  have U:z ∉ L:=(B z j).1 h;have V:z∈Q:=by
   have:=C.mem_iff.2 j;simp only[qAi,qAq]at this;rcases this with h | h | h
   ·exact absurd h U
   ·exact absurd h J
   exact h
  exact(qAJ.1 (qBn.1 D).2.1).1 z V
 obtain⟨Z,Y,O⟩:=qBV.1 F;have s:m ∉ a:=λh=>O m h m (by simp) rfl;have I:m ∉ c:=(qCO.1 Y).1;refine oS T ((B m u).2 G) (λz j h=>?_) (λz j h=>(f z (by simp[j]) (by rintro rfl;exact I j) h).le);rcases f z (by simp[j]) (by rintro rfl;exact s j) h with g | ⟨_,M,N,e,g⟩
 ·exact g
 exfalso;have:a=M/\m :: c=m :: N:=by
  have E:m ∉ M:=λS=>by have o:=F;rw[e]at o;exact(qBV.1 o).2.2 m S m (by simp) rfl
  rcases qDG.1 e with⟨t,k,i⟩ | ⟨t,k,i⟩
  ·cases t with
   | nil=>simp at k i;exact⟨k.symm,by rw[i]⟩
   | cons y t=>
    simp only[qBG,qBM]at i;exact absurd (by rw[k,<-i.1];simp) E
  cases t with
  | nil=>simp at k i;exact⟨k,by rw[i]⟩
  | cons y t=>
   simp only[qBG,qBM]at i;exact absurd (by rw[k,<-i.1];simp) s
 have R:c=N:=by have:=this.2;injection this
 subst R;exact O z j z (by simp[g]) rfl
structure cH(n:Nat)(l:List Int):Prop where
 len:l.length=n
 nd:l.Nodup
 rg:∀z∈l,0<=z/\z<n
def cH.at_{n:Nat}{l:List Int}(h:cH n l){j:Nat}(e:j<n):0<=el l j/\el l j<n:=by
 have a:j<l.length:=by rw[h.len];exact e
 rw[el,ZD a];exact h.rg _ (bY a)
def cH.perm{n:Nat}{l a:List Int}(h:cH n l)(p:a.Perm l):cH n a:=⟨p.length_eq.trans h.len,p.nodup_iff.2 h.nd,λz e=>h.rg z (p.mem_iff.1 e)⟩
section
variable{b:Sb}{t:N4}{l:List Int}
def s1(b:Sb)(t:N4)(l:List Int)(j:Nat):List Wk×List Int:=(l.take j).foldl (iG t) (tA b)
theorem mU{j:Nat}(a:j<l.length):s1 b t l (j+1)=iG t (s1 b t l j) (el l j):=by rw[s1,Oe _ _ a,el,ZD a];rfl
theorem eV(a:l.length=b.pk.length):s1 b t l b.pk.length=fA b t l:=by rw[s1,<-a,IF];rfl
def eR(ok:bA b)(f:Yp t)(a:cH b.pk.length l){j:Nat}(e:j<=b.pk.length):WB b.pk.length b.pl.toNat (20 * j) (s1 b t l j):=z7 ok f a.rg j (by rw[a.len];exact e)
def s2(b:Sb)(t:N4)(l:List Int)(j:Nat):List Wk×List Int:=((Ul b t l).take j).foldl (fK b) ((fA b t l).1,List.replicate b.hd.toNat 0)
def eE(a:cH b.pk.length l):cH b.pk.length (Ul b t l):=a.perm (tI _ _)
theorem iJ(f:cH b.pk.length l){j:Nat}(e:j<b.pk.length):s2 b t l (j+1)=fK b (s2 b t l j) (el (Ul b t l) j):=by
 have a:j<(Ul b t l).length:=by rw[(eE f).len];exact e
 rw[s2,Oe _ _ a,el,ZD a];rfl
theorem mD(a:cH b.pk.length l):(s2 b t l b.pk.length).1=VN b t l:=by have h:=(eE (t:=t) a).len;rw[s2,<-h,IF];rfl
def fT(ok:bA b)(m:Yp t)(a:cH b.pk.length l)(p:Nat):∀{j:Nat},j<=b.pk.length ->
  (s2 b t l j).1.length=b.pk.length/\(s2 b t l j).2.length=b.hd.toNat/\(bM (s2 b t l j).1 p).i=(bM (fA b t l).1 p).i/\(bM (s2 b t l j).1 p).o=(bM (fA b t l).1 p).o
 | 0,_=>by have h:=eR ok m a (dO _);rw[eV a.len]at h;exact⟨h.l1,qBj,rfl,rfl⟩
 | j+1,q=>by
  obtain⟨f,n,g,k⟩:=fT ok m a p (j:=j) O;have s:=(eE (t:=t) a).at_ (j:=j) O;rw[iJ a O];refine⟨qAg.trans f,qAg.trans n,?_⟩;show(bM ((s2 b t l j).1.set _ _) p).i=_/\(bM ((s2 b t l j).1.set _ _) p).o=_;rw[mC _ _ (by rw[f];omega)];split
  ·rename_i e;subst e;exact⟨g,k⟩
  exact⟨g,k⟩
end
def iC{b:Sb}{w:List Wk}:∀{j:Nat},j<=4->∀{i:Nat},i<4->((U2 b w j).1.get i=true↔i<j/\(bM w i).o+(aD b i).bJ<(bM w i).d)
 | 0,_,i,a=>by
  have:(U2 b w 0).1.get i=false:=by
   match i,a with
   | 0,_=>rfl
   | 1,_=>rfl
   | 2,_=>rfl
   | 3,_=>rfl
  rw[this];exact⟨λh=>by simp at h,λh=>O⟩
 | j+1,f,i,a=>by
  have ih:=@iC b w j O i a;rw[U2];show((U2 b w j).1.put j _).get i=true↔_;rw[B4.aZ _ _ _ a O];split
  ·rename_i e;subst e;rw[qAy];exact⟨λh=>⟨O,h⟩,λh=>h.2⟩
  rw[ih];exact⟨λh=>⟨O,h.2⟩,λh=>⟨O,h.2⟩⟩
def gD{b:Sb}(ok:bA b){i:Nat}(h:i<b.pk.length):(1<=(aD b i).lo/\(aD b i).lo<=(aD b i).hi/\(aD b i).hi<=20)/\(aD b i).hi-(aD b i).lo<3/\(1<=(aD b i).bF/\(aD b i).bF<=20)/\(1<=(aD b i).bJ/\(aD b i).bJ<=20):=by rw[aD,ZD h];exact ok.pk i h
def gH{b:Sb}{t:N4}:∀{j:Nat},j<=4->∀{i:Nat},i<4->(bT b t j).get i=if i<j then min (max (t.get i) (aD b i).lo) (aD b i).hi else t.get i
 | 0,_,i,_=>by rw[bT,aT O]
 | j+1,f,i,a=>by
  rw[bT,N4.aZ _ _ a];by_cases e:i=j
  ·subst e;rw[iF rfl,iF O]
  rw[aT e,gH O a];by_cases h:i<j
  ·rw[iF h,iF O]
  rw[aT h,aT O]
theorem rD{b:Sb}(ok:bA b){l:List Int}(m:l.length=b.pk.length):dP b l=true↔Ys l∈Zi b:=by
 have e:=ok.n;rw[dP,qAc,EL,iI e.2];refine qDl ?_ qCH;constructor
 ·intro h;refine⟨λj a=>?_,λj a f=>?_⟩
  ·have:(bT b (Ys l) b.pk.length).get j=(Ys l).get j:=by rw[h]
   rw[gH e.2 O,iF a]at this;have:=(gD ok a).1;omega
  rw[fJ a,qAa,qAn O];rfl
 rintro⟨g,k⟩;refine N4.ext' λj a=>?_;rw[gH e.2 a];split
 ·rename_i f;have:=g j f;omega
 rfl
def sV{n:Nat}{l:List Int}{t:N4}(i:n<=4)(h:oV n l)(e:Yp t):0<=UG t l/\UG t l<=80:=by have a:=z6 e (n:=n) (l:=l) (λz f=>by have:=h.2 z f;omega) l.length (dO _);have g:=uD h;rw[IF]at a;omega
section
variable{P:aX}[Tz P][Loud P]{H:Hp}
def pX{b:Sb}(n:Int)(e:b.pk.length<=1000000):LL.Zc P 89 #[b.v,vi n] H λv a=>H=a/\v=vb (decide (0<=n/\n<b.pk.length)):=by refine aJ.m (bG qI) (args:=[b.v,vi n]) rfl ?_;unfold kL Sb.v;refine Y ?_;refine Za [vi n,vi 0,vi (b.pk.length-1)] (pF _ _ _) ?_;rintro v _ ⟨rfl,rfl⟩;refine Y ?_;exact⟨rfl,qBc vb (qBk.2 O)⟩
def rI{z:Int}{l:List Int}:l.any (λx=>z == x)=decide (z∈l):=by rw[qBT,qBg,qAy];exact⟨λ⟨x,a,e⟩=>by rw[qDH]at e;rw[e];exact a,λh=>⟨z,h,qCn z⟩⟩
def uH{b:Sb}{l:List Int}(p:aF H (.slice A l.length c) l)(G:l.length<=c)(J:l.length<=1000000)(F:b.pk.length<=1000000) :
  LL.Zc P 79 #[b.v,.slice A l.length c] H λv n=>H=n/\v=vi (Yq b l):=by
 refine aJ.m (bG rG) (args:=[b.v,.slice A l.length c]) rfl ?_;unfold kE Sb.v;refine OJ (λu=>?_) (λu=>?_)
 ·refine Y ?_;exact⟨rfl,by rw[Yq,iF O];rfl⟩
 refine Y ?_;refine Zv l.length (λj n=>H=n/\VB b.pk.length l j=0) (λj=>[(1,.slice A l.length c),(2,vi 0),(5,vi j)]) (λj=>[(2,b.cs)]) ⟨rfl,rfl⟩ V V ?_;rintro j _ I ⟨rfl,s⟩;refine OJ (λB=>?_) (λB=>?_)
 ·have f:j<l.length:=O;have D:l.getD j 0=l[j]:=ZD f _;have e:VB b.pk.length l (j+1)=(if ¬ (0<=l[j]/\l[j]<b.pk.length)then 6 else if(l.take j).any (λz=>l[j] == z)then 5 else 0):=by rw[VB,aT (by rw[s];simp),D]
  rw[rI]at e;have stop:VB b.pk.length l (j+1)≠0->Yq b l=VB b.pk.length l (j+1):=λh=>by rw[Yq,aT O,PZ h _ O]
  refine Y ?_;refine Zz j p f λa o=>Y ?_;refine Ya o (Y ?_);refine Za [b.v,vi l[j]] (pX _ F) ?_;rintro v _ ⟨rfl,rfl⟩;refine OJ (λC=>?_) (λC=>?_)
  ·have q:=e.trans (iF O);refine Y ?_;exact⟨rfl,by rw[stop (by rw[q];decide),q];rfl⟩
  have g:=e.trans (aT O);refine Y ?_;refine IE (lo:=0) (hi:=j) (k:=.i64) (bI dW) (cD t3) rfl (.inl ⟨rfl,rfl⟩) ⟨_,rfl,rfl⟩ O O ?_;rw[PY,qBI,qBI];refine Y ?_;refine Zz j p f λa o=>Y ?_;refine Ya o (Y ?_);have E:(l.take j).length=j:=by rw[qAj];omega
  refine Za [.slice A j c,vi l[j]] (sO (P0 p O) O) ?_;rintro v _ ⟨rfl,rfl⟩;cases hag:decide (l[j]∈l.take j)with
  | true=>
   rw[hag]at g;refine Y ?_;exact⟨rfl,by rw[stop (by rw[g];decide),g];rfl⟩
  | false=>
   rw[hag]at g;refine Y ?_;exact⟨⟨j+1,O⟩,bN O,⟨rfl,g⟩,V,V,rfl⟩
 have:j=l.length:=O;subst this;refine Y ?_;exact⟨rfl,by rw[Yq,aT O,s];rfl⟩
theorem lM{b:Sb}{v:Value}{l:List Int}(i:aF H v l)(B:l.length<=1000000)(z:b.pk.length<=1000000) :
  LL.Zc P 133 #[b.v,v] H λv f=>H=f/\v=vi (Um b l):=by
 obtain⟨A,c,rfl,_⟩:=id i;refine aJ.m (bG qL) (args:=[b.v,.slice A l.length c]) rfl ?_;unfold kF Sb.v;refine OJ (λp=>?_) (λp=>?_)
 ·refine Y ?_;exact⟨rfl,by rw[Um,iF O];rfl⟩
 have k:Um b l=if l.any uV then 1 else 0:=by rw[Um,aT O]
 rw[k];refine Y ?_;refine Zv l.length (λj f=>H=f/\(l.take j).any uV=false) (λj=>[(1,.slice A l.length c),(2,vi 0),(5,vi j)]) (λj=>[(2,b.cs)]) ⟨rfl,rfl⟩ V V ?_;rintro j _ u ⟨rfl,h⟩;refine OJ (λq=>?_) (λq=>?_)
 ·have e:j<l.length:=O;have n:(l.take (j+1)).any uV=uV l[j]:=by rw[iN e,qDb,h];simp
  refine Y ?_;refine Zz j i e λa s=>Y ?_;refine Ya s (Y ?_);refine Za [vi l[j],vi 1,vi 20] (pF _ _ _) ?_;rintro v _ ⟨rfl,rfl⟩;refine OJ (λg=>?_) (λg=>?_)
  ·have o:l.any uV=true:=qBg.2 ⟨l[j],bY e,by rw[uV,qAo g];rfl⟩;rw[o];refine Y ?_;exact⟨rfl,rfl⟩
  refine Y ?_;exact⟨⟨j+1,O⟩,bN O,⟨rfl,by rw[n,uV,decide_eq_true g];rfl⟩,V,V,rfl⟩
 have:j=l.length:=O;subst this;rw[IF]at h;rw[h];refine Y ?_;exact⟨rfl,rfl⟩
def gG{b:Sb}{a:List Int}{h:Option Addr}{f:Nat}(hb:Zr H b)(i:b.Sz)(q:aF H w lt)(n:aF H (.slice h a.length f) a)(k:a.length<=f)(p:lt.length<=1000000)(o:a.length<=1000000) :
  LL.Zc P 127 #[b.v,w,.slice h a.length f] H λv j=>H=j/\v=vi (Z7 b lt a):=by
 refine aJ.m (bG pP) (args:=[b.v,w,.slice h a.length f]) rfl ?_;unfold kN Sb.v;refine Y ?_;refine Za [b.v] (cF hb i) ?_;rintro v _ ⟨rfl,rfl⟩;refine OJ (λe=>?_) (λe=>?_)
 ·refine Y ?_;exact⟨rfl,by rw[Z7,iF e];rfl⟩
 have e:ZF b=0:=by simpa using e
 refine Y ?_;refine Za [b.v,w] (lM q p i.1) ?_;rintro v _ ⟨rfl,rfl⟩;refine OJ (λg=>?_) (λg=>?_)
 ·refine Y ?_;exact⟨rfl,by rw[Z7,e,aT (by decide),iF g];rfl⟩
 have g:Um b lt=0:=by simpa using g
 refine Y ?_;refine Za [b.v,.slice h a.length f] (uH n k o i.1) ?_;rintro v _ ⟨rfl,rfl⟩;refine Y ?_;exact⟨rfl,by rw[Z7,e,aT (by decide),g,aT (by decide)];rfl⟩
def iX{l:List Int}{i:Nat}(a:i<l.length)(e:l.length<=4):(Ys l).get i=l[i]:=by rw[fJ O,ZD a]
theorem sR{u:Value}{ps:List Int}(E:aF H u lt)(q:aF H w ps)(D:lt.length<=4)(s:∀z∈ps,0<=z/\z<lt.length)(o:Yp (Ys lt))(G:ps.length<=1000000) :
  LL.Zc P 135 #[u,w] H λv g=>H=g/\v=vi (UG (Ys lt) ps):=by
 obtain⟨A,c,rfl,_⟩:=id q;refine aJ.m (bG pR) (args:=[u,.slice A ps.length c]) rfl ?_;unfold jU;refine Y ?_;refine Zv ps.length (λj g=>H=g) (λj=>[(0,u),(1,.slice A ps.length c),(5,vi (UG (Ys lt) (ps.take j))),(6,vi j)]) (λj=>[]) rfl V trivial ?_;rintro j _ F rfl;refine OJ (λC=>?_) (λC=>?_)
 ·have f:j<ps.length:=O;have B:=s _ (bY f);have k:=ID (Ys lt) f;have J:=z6 (n:=4) o (l:=ps) (λz B=>by have:=s z B;omega) j O;have K:=o ps[j].toNat O;have p:ps[j].toNat<lt.length:=O;have e:lt[ps[j].toNat]=(Ys lt).get ps[j].toNat:=(iX p D).symm;refine Y ?_;refine Zz j q f λa h=>Y ?_;refine Ya h (Y ?_);refine pN (i:=ps[j].toNat) E rfl (by show some (vi ps[j])=some (vi ((ps[j].toNat:Nat):Int));congr 2;omega) rfl p λa h=>?_;rw[e]at h;refine Y ?_;refine Ya h (Y ?_);exact dM (I:=λj g=>H=g) (env:=λj=>[(0,u),(1,.slice A ps.length c),(5,vi (UG (Ys lt) (ps.take j))),(6,vi j)]) (box:=λ_=>[]) f rfl ⟨rfl,rfl,by rw[k];rfl,rfl,trivial⟩ trivial rfl
 have:j=ps.length:=O;subst this;rw[IF];refine Y ?_;exact⟨rfl,rfl⟩
end
theorem gB{b:Sb}{i:Nat}(h:i<b.pk.length):Enc.enc b.pk[i]=[.string (aD b i).nm,vi (aD b i).lo,vi (aD b i).hi,vi (aD b i).bF,vi (aD b i).bJ]:=by rw[show b.pk[i]=aD b i from(ZD h _).symm];rfl
theorem gR{b:Sb}(ok:bA b){l:List Int}(e:l.length=b.pk.length):dP b l=true↔(∀j,j<b.pk.length->(aD b j).lo<=l.getD j 0/\l.getD j 0<=(aD b j).hi)/\cB b (Ys l)=true:=by
 have f:=ok.n;rw[rD ok e,iI f.2];refine qDl ⟨λh j a=>?_,λh=>⟨λj a=>?_,λj a g=>?_⟩⟩ qCH
 ·have:=h.1 j a;rwa [fJ O]at this
 ·rw[fJ O];exact h j a
 rw[fJ a,qAa,qAn O];rfl
section
variable{P:aX}[Tz P][Loud P]{H:Hp}
theorem lL{v:Value}{l:List Int}(k:aF H v l)(s:l.length<=1000000)(u:1<=l.length):LL.Zc P 165 #[v] H λw g=>H=g/\w=vi (Zo l):=by
 obtain⟨A,c,rfl,_⟩:=id k;refine aJ.m (bG pS) (args:=[.slice A l.length c]) rfl ?_;unfold jG;refine Y ?_;refine Zv (l.length-1) (λj g=>H=g) (λj=>[(0,.slice A l.length c),(3,vi (cO l (j+1))),(4,vi ((j:Int)+1))]) (λj=>[]) rfl ⟨rfl,by rw[cO,cO,aT (qCR _)];rfl,rfl,trivial⟩ trivial ?_;rintro j _ q rfl;refine OJ (λo=>?_) (λo=>?_)
 ·have f:j+1<l.length:=O;have n:cO l (j+1)<l.length:=by have:=EM (l:=l) (j+1) O;omega
  refine Y ?_;refine pN k rfl (by show some (vi ((j:Int)+1))=some (vi ((j+1:Nat):Int));rfl) rfl (i:=j+1) f λa p=>Y ?_;refine Ya p (Y ?_);refine Zz (cO l (j+1)) k n λa hb=>Y ?_;refine Ya hb ?_;rw[<-Uu f,<-Uu n];refine OJ (λh=>?_) (λh=>?_)
  ·have e:cO l (j+1+1)=j+1:=by rw[cO,iF h]
   refine Y ?_;exact⟨⟨j+1,O⟩,bN O,rfl,⟨rfl,by rw[e];rfl,rfl,trivial⟩,trivial,rfl⟩
  have e:cO l (j+1+1)=cO l (j+1):=by rw[cO,aT h]
  refine Y ?_;exact⟨⟨j+1,O⟩,bN O,rfl,⟨rfl,by rw[e];rfl,rfl,trivial⟩,trivial,rfl⟩
 have:j+1=l.length:=O;rw[this];refine Y ?_;exact⟨rfl,rfl⟩
theorem uG{b:Sb}{v:Value}{l:List Int}(ok:bA b)(hb:Zr H b)(J:aF H v l)(E:l.length=b.pk.length)(N:Yp (Ys l)) :
  LL.Zc P 134 #[b.v,v] H λw u=>H=u/\w=vb (dP b l):=by
 have T:=ok.n;have U:=ok.nn;obtain⟨A,c,rfl,_⟩:=id J;refine aJ.m (bG qM) (args:=[b.v,.slice A l.length c]) rfl ?_;unfold jT Sb.v;refine Y ?_;refine Zv l.length (λj u=>H=u/\∀k,k<j->(aD b k).lo<=l.getD k 0/\l.getD k 0<=(aD b k).hi) (λj=>[(1,.slice A l.length c),(2,vi 0),(5,vi j)]) (λj=>[(2,b.cs)]) ⟨rfl,λk C=>absurd C (qBm _)⟩ V V ?_;rintro j _ S ⟨rfl,C⟩;refine OJ (λR=>?_) (λR=>?_)
 ·have g:j<l.length:=O;have q:j<b.pk.length:=O;have Q:l.getD j 0=l[j]:=ZD g _;have row:=gB q;refine Y ?_;refine Zz j J g λa o=>Y ?_;refine Ya o (Y ?_);refine Zz j hb.pk q λa i=>?_;rw[row]at i;refine Y ?_;refine Zh (v:=vi (aD b j).lo) (OL _) rfl (by rw[add_zero];exact YN (cs:=[vi (aD b j).lo]) (ds:=[vi (aD b j).hi,vi (aD b j).bF,vi (aD b j).bJ]) (eY (n:=1) i rfl)) (Y ?_);refine Zz j hb.pk q λa i=>?_;rw[row]at i;refine Y ?_;refine Zh (v:=vi (aD b j).hi) (OL _) rfl (YN (cs:=[vi (aD b j).hi]) (ds:=[vi (aD b j).bF,vi (aD b j).bJ]) (eY (n:=1) (eY (n:=1) i rfl) rfl)) (Y ?_);refine Za [vi l[j],vi (aD b j).lo,vi (aD b j).hi] (pF _ _ _) ?_;rintro v _ ⟨rfl,rfl⟩;refine OJ (λB=>?_) (λB=>?_)
  ·refine Y ?_;have e:dP b l=false:=qBR.2 λh=>B (by rw[<-Q];exact((gR ok E).1 h).1 j q);exact⟨rfl,by rw[e];rfl⟩
  refine Y ?_;exact⟨⟨j+1,O⟩,bN O,⟨rfl,λk D=>by
   have D:k<j+1:=D;by_cases e:k=j
   ·subst e;rw[Q];exact B
   exact C k O⟩,V,V,rfl⟩
 have:j=l.length:=O;subst this;rw[E]at C;refine Y ?_;refine Zv b.nt.length (λj u=>H=u/\∀x∈b.nt.take j,vU (Ys l) x=true) (λj=>[(1,.slice A l.length c),(2,vi 0),(6,vi j)]) (λj=>[(2,b.cs)]) ⟨rfl,by simp⟩ V V ?_;rintro j _ S ⟨rfl,K⟩;refine OJ (λB=>?_) (λB=>?_)
 ·have g:j<b.nt.length:=O;obtain⟨Z,G,g3⟩:=ok.nt _ (bY g);have g4:=uD G;have g5:=sV T.2 G N;have M:Enc.enc b.nt[j]=[.slice b.nt[j].A b.nt[j].ps.length b.nt[j].c,vi b.nt[j].lo,vi b.nt[j].hi]:=rfl;refine Y ?_;refine Zz j hb.nt g λa o=>?_;rw[M]at o;refine Y ?_;refine Zh (v:=.slice b.nt[j].A b.nt[j].ps.length b.nt[j].c) (OL _) rfl (by rw[add_zero];exact YN (cs:=[.slice b.nt[j].A b.nt[j].ps.length b.nt[j].c]) (ds:=[vi b.nt[j].lo,vi b.nt[j].hi]) o) (Y ?_);refine Zz j hb.nt g λa o=>?_;rw[M]at o;refine Y ?_;refine Zh (v:=vi b.nt[j].lo) (OL _) rfl (by rw[add_zero];exact YN (cs:=[vi b.nt[j].lo]) (ds:=[vi b.nt[j].hi]) (eY (n:=1) o rfl)) (Y ?_);refine Zz j hb.nt g λa o=>?_;rw[M]at o;refine Y ?_;refine Zh (v:=vi b.nt[j].hi) (OL _) rfl (eY (n:=1) (eY (n:=1) o rfl) rfl) (Y ?_);refine Za [.slice A l.length c,.slice b.nt[j].A b.nt[j].ps.length b.nt[j].c] (sR J (hb.ps _ (bY g)) O (λz X=>by have:=G.2 z X;omega) N O) ?_;rintro v _ ⟨rfl,rfl⟩;refine FS (Y ?_);refine Za [vi (UG (Ys l) b.nt[j].ps),vi b.nt[j].lo,vi b.nt[j].hi] (pF _ _ _) ?_;rintro v _ ⟨rfl,rfl⟩;refine OJ (λI=>?_) (λI=>?_)
  ·refine Y ?_;have e:dP b l=false:=qBR.2 λh=>I (of_decide_eq_true (IN.1 ((gR ok E).1 h).2 _ (bY g)));exact⟨rfl,by rw[e];rfl⟩
  refine Y ?_;exact⟨⟨j+1,O⟩,bN O,⟨rfl,λx F=>by
   rw[iN g,qAi,oR]at F;rcases F with F | rfl
   ·exact K x F
   exact decide_eq_true I⟩,V,V,rfl⟩
 have:j=b.nt.length:=O;subst this;rw[IF]at K;refine Y ?_;exact⟨rfl,by rw[(gR ok E).2 ⟨C,IN.2 K⟩];rfl⟩
def sQ{b:Sb}{v:Value}{l:List Int}(hb:Zr H b)(h:b.Sz)(g:aF H v l)(o:l.length<=1000000) :
  LL.Zc P 76 #[b.v,v] H λw i=>H=i/\w=.tuple #[vb (if cZ b l=0 then dP b l else false),vi (cZ b l)]:=by
 refine aJ.m (bG rE) (args:=[b.v,v]) rfl ?_;unfold kT Sb.v;refine Y ?_;refine Za [b.v] (cF hb h) ?_;rintro v _ ⟨rfl,rfl⟩;refine OJ (λa=>?_) (λa=>?_)
 ·refine Y ?_;have e:cZ b l=ZF b:=iF a;exact⟨rfl,by rw[e,aT a];rfl⟩
 have a:ZF b=0:=by simpa using a
 have j:cZ b l=Um b l:=by rw[cZ,a,aT (by decide)]
 rw[j];refine Y ?_;refine Za [b.v,v] (lM g o h.1) ?_;rintro v _ ⟨rfl,rfl⟩;refine OJ (λf=>?_) (λf=>?_)
 ·refine Y ?_;exact⟨rfl,by rw[aT f];rfl⟩
 have f:Um b l=0:=by simpa using f
 have ok:=Ow (b:=b) (by simpa using a);obtain⟨k,n⟩:=CD f;refine Y ?_;refine Za [b.v,v] (uG ok hb g k (uE n)) ?_;rintro v _ ⟨rfl,rfl⟩;refine Y ?_;exact⟨rfl,by rw[f,iF rfl];rfl⟩
end
