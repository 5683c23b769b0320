import Derived.Test.YthmnpenamnoniaaGreatDoorP28
import Derived.Test.YthmnpenamnoniaaGreatDoorP29
set_option linter.all false
set_option maxHeartbeats 8000000
set_option maxRecDepth 20000
section
open Go Go.LL Go.Conc Go.ConcM
namespace Go.Proofs.YthmnpenamnoniaaGreatDoor
def TN:Tryz.pinned.checked.prog.funcNamed Rows.spileHeldRow.func=some 5:=U
def ZpG:joinedFacts Tryz.pinned.checked.prog 5 Tryz.f5 Rows.spileHeldSpec Rows.spileHeldRow=true:=U
def ZpF:Tryz.f5.isInstance Tryz.pinned.checked.prog Rows.spileHeldRow.origin Rows.spileHeldRow.targs:=of_decide_eq_true U
def ZpE:Tryz.f5.isWrapper Tryz.pinned.checked.prog Rows.spileHeldRow.wrapper Rows.spileHeldRow.mainSum:=by unfold Func.isWrapper;first | (rw[BY (by decide +kernel)];kernel_rfl) | (rw[bY (by decide +kernel)];exact⟨rfl,rfl⟩)
end Go.Proofs.YthmnpenamnoniaaGreatDoor
end
open Go Go.LL
namespace Go.Proofs
section
variable{b b' o:Bk}{i j:Nat}{n z:Int}{l L:List Int}{α:Type}{c:gA}
def Mm:n∈Vx b i↔(Zx b i).ml<=n/\n<=(Zx b i).mh:=by
 rw[Vx,qAj];constructor
 ·rintro⟨t,a,rfl⟩;rw[qAU]at a;omega
 rintro⟨d,e⟩;exact⟨(n-(Zx b i).ml).toNat,by rw[qAU];omega,O⟩
def ZpL(b:Bk)(i:Nat):(Vx b i).Nodup:=by rw[Vx,List.Nodup,qCv];exact List.nodup_range.imp λh e=>h O
theorem Zvn:(l++[n]).getD j 0=if j<l.length then l.getD j 0 else if j=l.length then n else 0:=by
 simp only[qAl];by_cases h:j<l.length
 ·rw[BY h,qAB h]
 rw[bY h,qAY O];by_cases a:j=l.length
 ·subst a;simp
 rw[bY a,qAF (by simp;omega)];rfl
def Zvm(h:j<i):(l.take i).getD j 0=l.getD j 0:=by simp only[qAl,List.getElem?_take_of_lt h]
def GQ{b:Bk}:∀{i:Nat} {l:List Int},l∈jZ b i↔l.length=i/\∀j,j<i->(Zx b j).ml<=l.getD j 0/\l.getD j 0<=(Zx b j).mh
 | 0,l=>by
  rw[jZ,iF];constructor
  ·rintro rfl;exact⟨rfl,λj h=>O⟩
  rintro⟨h,_⟩;exact qBD.1 h
 | i+1,l=>by
  rw[jZ,qCg];constructor
  ·rintro⟨m,k,g⟩;obtain⟨n,p,rfl⟩:=qAj.1 g;obtain⟨d,a⟩:=GQ.1 k;refine⟨by simp[d],λj f=>?_⟩;rw[Zvn];by_cases e:j<i
   ·rw[BY O];exact a j e
   rw[bY O,BY O];obtain rfl:j=i:=O;exact Mm.1 p
  rintro⟨d,a⟩;refine⟨l.take i,GQ.2 ⟨by rw[qBu];omega,λj f=>?_⟩,qAj.2 ⟨l.getD i 0,Mm.2 (a i O),?_⟩⟩
  ·rw[Zvm f];exact a j O
  have:=xJ (l:=l) (n:=i) O;rw[<-d,qAh]at this;exact this.symm
theorem Bt{b:Bk}:∀i:Nat,(jZ b i).Nodup
 | 0=>qCA _ _
 | i+1=>by
  rw[jZ,List.Nodup,List.pairwise_flatMap];refine⟨λl _=>?_,(Bt i).imp λa x d y f e=>?_⟩
  ·rw[qCv];exact(ZpL b i).imp λh e=>h (by simpa using e)
  obtain⟨n,_,rfl⟩:=qAj.1 d;obtain⟨k,_,rfl⟩:=qAj.1 f;exact a (List.append_inj_left' e rfl)
def MH{a:Int}{d:Nat}{k:ZQ}:∀{r:Nat},k∈cF a d r↔k.bf=a/\(d:Int)-r<k.bP/\k.bP<=d/\k.bP≠0
 | 0=>by rw[cF];simp;omega
 | r+1=>by
  have ih:=@MH a d k r;rw[cF];split
  ·rw[ih];constructor
   ·rintro⟨e,h,f,g⟩;exact⟨e,O,f,g⟩
   rintro⟨e,h,f,g⟩;exact⟨e,O,f,g⟩
  rw[DO,ih];obtain⟨p,q⟩:=k;simp only[ZQ.mk.injEq];omega
def Jl{n a:Nat}{k:ZQ}:∀{r:Nat},r+1<=n->(k∈bW n a r↔((n:Int)-r<=k.bf/\k.bf<n)/\-(a:Int)<=k.bP/\k.bP<=a/\k.bP≠0)
 | 0,_=>by rw[bW];simp;omega
 | r+1,h=>by rw[bW,qAi,MH,Jl O];omega
def MJ{a:Int}{d:Nat}:∀r:Nat,(cF a d r).Nodup
 | 0=>qCs
 | r+1=>by
  rw[cF];split
  ·exact MJ r
  refine qBY.2 ⟨λh=>?_,MJ r⟩;have:=MH.1 h;simp only at this;omega
def Jn{n f:Nat}:∀r:Nat,(bW n f r).Nodup
 | 0=>qCs
 | r+1=>by rw[bW];refine qCY.2 ⟨MJ _,Jn r,λx a y d e=>?_⟩;have g:=x9 _ x a;have h:=NT r y d;subst e;omega
def ZpP(v:Zw b):(ZB b).Nodup:=by rw[ZB];refine qBY.2 ⟨λh=>?_,Jn _⟩;have:=v.n;have:=(Jl O).1 h;simp only at this;omega
def sO(b:Bk):List Zs:=(jZ b b.aF.length).flatMap λl=>(ZB b).map λk=>(⟨Yq l,k.bf,k.bP⟩:Zs)
def ZvW{β:Type}(l:List α)(f:α->List β)(p:β->Bool):(l.flatMap f).filter p=l.flatMap λa=>(f a).filter p:=by
 induction l with
 | nil=>rfl
 | cons a l ih=>simp[qAJ,ih]
theorem MP(v:Zw b):Zd b=(sO b).filter (Uh b):=by rw[T8 v,sO,ZvW];rfl
def Zt7{m:List Int}(h:l.length=m.length)(f:l.length<=4)(e:Yq l=Yq m):l=m:=by
 refine qDe h λi a d=>?_;have:(Yq l).get i=(Yq m).get i:=by rw[e]
 rw[FY O,FY O,qAl,qAl,qAx a,qAx d]at this;simpa using this
def Zw6(v:Zw b):(sO b).Nodup:=by
 have u:=v.n;rw[sO,List.Nodup,List.pairwise_flatMap];refine⟨λl _=>?_,?_⟩
 ·rw[qCv];refine(ZpP v).imp λ{s t} h e=>h ?_;simp only[Zs.mk.injEq,true_and]at e;obtain⟨A,B⟩:=s;obtain⟨C,D⟩:=t;simp only at e;rw[e.1,e.2]
 refine List.Pairwise.imp_of_mem (λ{l m} d f a x g y p e=>?_) (Bt (b:=b) b.aF.length);obtain⟨k,_,rfl⟩:=qAj.1 g;obtain⟨w,_,rfl⟩:=qAj.1 p;simp only[Zs.mk.injEq]at e;have q:=(GQ.1 d).1;have r:=(GQ.1 f).1;exact a (Zt7 O O e.1)
def Zzj(v:Zw b):(Zd b).Nodup:=by rw[MP v];exact(Zw6 v).filter _
def Kf{α:Type}[DecidableEq α]:∀{l m:List α},l.Nodup->(∀x∈l,x∈m)->l.length<=m.length
 | [],_,_,_=>qBg _
 | a :: l,m,k,e=>by obtain⟨g,h⟩:=qBY.1 k;have d:=e a (qAs ..);have:=Kf (l:=l) (m:=m.erase a) h λx f=>(List.mem_erase_of_ne (by rintro rfl;exact g f)).2 (e x (qAc _ f));rw[List.length_erase_of_mem d]at this;have:=List.length_pos_of_mem d;rw[qAI];omega
theorem KT:∀(l:List Int) (f:Int),(ZG nH f l=f\/ZG nH f l∈l)/\f<=ZG nH f l/\∀x∈l,x<=ZG nH f l
 | [],f=>⟨.inl rfl,qAA _,by simp⟩
 | x :: l,f=>by
  have e:ZG nH f (x :: l)=ZG nH (if nH x f then x else f) l:=rfl;rw[e];by_cases d:nH x f=true
  ·rw[BY d];obtain⟨g,k,p⟩:=KT l x;have q:f<x:=of_decide_eq_true d;refine⟨.inr (DO.2 g),O,λy a=>?_⟩;rcases DO.1 a with rfl | a
   ·exact k
   exact p y a
  rw[bY d];obtain⟨g,k,p⟩:=KT l f;have q:¬ f<x:=λh=>d (decide_eq_true h);refine⟨g.imp id (qAc _),k,λy a=>?_⟩;rcases DO.1 a with rfl | a
  ·omega
  exact p y a
theorem KU:∀(l:List Int) (f:Int),(ZG m8 f l=f\/ZG m8 f l∈l)/\ZG m8 f l<=f/\∀x∈l,ZG m8 f l<=x
 | [],f=>⟨.inl rfl,qAA _,by simp⟩
 | x :: l,f=>by
  have e:ZG m8 f (x :: l)=ZG m8 (if m8 x f then x else f) l:=rfl;rw[e];by_cases d:m8 x f=true
  ·rw[BY d];obtain⟨g,k,p⟩:=KU l x;have q:x<f:=of_decide_eq_true d;refine⟨.inr (DO.2 g),O,λy a=>?_⟩;rcases DO.1 a with rfl | a
   ·exact k
   exact p y a
  rw[bY d];obtain⟨g,k,p⟩:=KU l f;have q:¬ x<f:=λh=>d (decide_eq_true h);refine⟨g.imp id (qAc _),k,λy a=>?_⟩;rcases DO.1 a with rfl | a
  ·omega
  exact p y a
def Zui(h:L≠[]):ZG nH (L.getD 0 0) (L.drop 1)∈L/\∀x∈L,x<=ZG nH (L.getD 0 0) (L.drop 1):=by
 cases L with
 | nil=>exact absurd rfl h
 | cons a l=>
  obtain⟨e,f,g⟩:=KT l a;refine⟨DO.2 e,λy d=>?_⟩;rcases DO.1 d with rfl | d
  ·exact f
  exact g y d
def Zuh(h:L≠[]):ZG m8 (L.getD 0 0) (L.drop 1)∈L/\∀x∈L,ZG m8 (L.getD 0 0) (L.drop 1)<=x:=by
 cases L with
 | nil=>exact absurd rfl h
 | cons a l=>
  obtain⟨e,f,g⟩:=KU l a;refine⟨DO.2 e,λy d=>?_⟩;rcases DO.1 d with rfl | d
  ·exact f
  exact g y d
def Au{n:Nat}:∀{l:List gA},(∀c∈l,(0<=c.p/\c.p<n)/\(-199<=c.gl/\c.gl<=c.gh/\c.gh<=199))->nI n l=0
 | [],_=>rfl
 | c :: l,h=>by have e:=h c (qAs ..);rw[nI,bY O,bY O];exact Au λd a=>h d (qAc _ a)
def A5(v:Zw b):ZC b=0:=by
 have h:VG b=0:=by rw[VG,BY ⟨v.op,v.sl⟩]
 have k:Y4 b=0:=by rw[Y4,bY (by have:=v.n;omega),BY];rw[qAp];intro p s;obtain⟨i,r,rfl⟩:=List.mem_iff_getElem.1 s;obtain⟨e,f,a3,g⟩:=v.aF i r;simp only[lQ,oR,qAv];exact⟨⟨⟨e,f⟩,a3⟩,g⟩
 have q:nI b.aF.length b.bJ=0:=Au v.bJ;rw[ZC,bY (by simp[h]),bY (by simp[k]),VU,bY (by have:=v.lA;omega),q]
def Ml:YR b=true↔0<(Zd b).length:=by rw[YR];cases Zd b<;>simp
def Ztq(v:Zw b):Zy b true=if 0<(Zd b).length then 0 else 9:=by
 rw[Zy,bY (by simp[A5 v]),bY (by simp)];by_cases h:0<(Zd b).length
 ·rw[bY O,BY h]
 rw[BY O,bY h]
def ZzM(v:Zw b):Us b=if 0<(Zd b).length then 0 else 9:=by
 rw[Us,bY (by simp[A5 v])];by_cases h:0<(Zd b).length
 ·rw[bY (by rw[Ml.2 h];simp),BY h]
 have:YR b=false:=by rw[Bool.eq_false_iff];exact λe=>h (Ml.1 e)
 rw[BY this,bY h]
def Zpp(h:i<b.aF.length):decide (0<=(i:Int)/\(i:Int)<b.aF.length)=true:=decide_eq_true ⟨O,O⟩
def Bu{b b':Bk}(h:b.aF=b'.aF):∀i,jZ b i=jZ b' i
 | 0=>rfl
 | i+1=>by
  have:Vx b i=Vx b' i:=by rw[Vx,Vx,Zx,Zx,h]
  rw[jZ,jZ,Bu h i,this]
def Zw5(h:b.aF=b'.aF)(a:b.sl=b'.sl):sO b=sO b':=by
 have:ZB b=ZB b':=by rw[ZB,ZB,h,a]
 rw[sO,sO,Bu h,h,this]
def Dk(h:b.op=b'.op)(a:b.aF.length=b'.aF.length)(x:Zs):Zm b x=Zm b' x:=by simp only[Zm,uY,h,a]
def ZqA(b:Bk)(c:gA)(x:Zs):Uh (ZM b c) x=(Uh b x && uT (Zm b x) c):=by have e:Zm (ZM b c) x=Zm b x:=Dk rfl rfl x;rw[Uh,e];show(b.bJ++[c]).all _=_;rw[qCI,Uh];simp
def T7(v:Zw b)(a:Zw (ZM b c)):Zd (ZM b c)=(Zd b).filter λx=>uT (Zm b x) c:=by rw[MP a,MP v,List.filter_filter,Zw5 (b:=ZM b c) (b':=b) rfl rfl];refine qCe λx _=>?_;rw[ZqA,Bool.and_comm]
def Qs(v:Zw b)(h:b.bJ.length<3)(e:0<=c.p/\c.p<b.aF.length)(f:-199<=c.gl/\c.gl<=c.gh/\c.gh<=199):Zw (ZM b c) where
 op:=v.op
 sl:=v.sl
 n:=v.n
 aF:=v.aF
 lA:=by show(b.bJ++[c]).length<=3;rw[IN,qAX];omega
 bJ:=λd a=>by
  rcases qAi.1 (show d∈b.bJ++[c]from a)with a | a
  ·exact v.bJ d a
  rw[iF.1 a];exact⟨e,f⟩
def ZvX{L:List α}{p:α->Bool}(h:∀x∈L,p x=true):L.filter p=L:=qBS.2 h
def Da{L:List α}{p:α->Bool}:(L.filter p).length=L.length↔∀x∈L,p x=true:=by
 constructor
 ·intro h x a;rw[<-qBS.1 (List.filter_sublist.eq_of_length h) x a]
 intro h;rw[ZvX h]
def MD{p:Nat}:z∈gapL b p↔∃x∈Zd b,(Zm b x).get p=z:=by rw[Dj rfl,(E5 _).2,qAj]
theorem Ztn:VL l=[]↔l=[]:=by
 constructor
 ·intro h;refine qBC.2 λx a=>?_;have:=((E5 l).2 x).2 a;rw[h]at this;simp at this
 rintro rfl;rfl
def Zo8(v:Zw b):Vp b=[]↔∀x∈Zd b,x.bP=0:=by rw[PU v,Ztn,List.map_eq_nil_iff,qCF];simp only[lB,qAK,qBf,Decidable.not_not]
def Mj:z∈Ue b↔∃x∈Zd b,YZ b (Zm b x)=z:=qAj
def Mc:z∈Uf b↔∃x∈Zd b,Y1 b (Zm b x)=z:=qAj
def Lt(h:0<(Zd b).length):(∀x∈Zd b,YZ b (Zm b x)<=V1 b)/\∃x∈Zd b,YZ b (Zm b x)=V1 b:=by
 have a:Ue b≠[]:=by intro e;have:(Ue b).length=(Zd b).length:=qAe _;rw[e]at this;simp at this;omega
 obtain⟨d,f⟩:=Zui a;exact⟨λx g=>f _ (Mj.2 ⟨x,g,rfl⟩),Mj.1 d⟩
def Ls(h:0<(Zd b).length):(∀x∈Zd b,Oe b<=Y1 b (Zm b x))/\∃x∈Zd b,Y1 b (Zm b x)=Oe b:=by
 have a:Uf b≠[]:=by intro e;have:(Uf b).length=(Zd b).length:=qAe _;rw[e]at this;simp at this;omega
 obtain⟨d,f⟩:=Zuh a;exact⟨λx g=>f _ (Mc.2 ⟨x,g,rfl⟩),Mc.1 d⟩
structure UH(b o:Bk):Prop where
 op:o.op=b.op
 n:o.aF.length=b.aF.length
 bd:∀i,i<b.aF.length->(Zx o i).bl=(Zx b i).bl/\(Zx o i).bh=(Zx b i).bh/\(Zx o i).w=(Zx b i).w
 sub:∀x∈Zd o,x∈Zd b
def Pt{L a:List α}{p:α->Bool}(g:∀x∈a,x∈L)(k:0<a.length):Ym (L.filter p).length L.length=0\/Ym (L.filter p).length L.length=Ym (a.filter p).length a.length:=by
 by_cases d:(L.filter p).length=0
 ·right;have e:(a.filter p).length=0:=by rw[qBD,qCF]at d ⊢;exact λx f=>d x (g x f)
  rw[Ym,BY d,Ym,BY e]
 by_cases e:(L.filter p).length=L.length
 ·right;have h:(a.filter p).length=a.length:=Da.2 λx f=>Da.1 e x (g x f);rw[Ym,bY d,BY e,Ym,bY O,BY h]
 left;rw[Ym,bY d,bY e]
def UH.len(h:UH b o)(a:Zw o):(Zd o).length<=(Zd b).length:=by
 classical
 exact Kf (Zzj a) h.sub
def UH.qY(h:UH b o)(x:Zs):Zm o x=Zm b x:=Dk h.op h.n x
def UH.gapL(h:UH b o)(d:z∈gapL o i):z∈gapL b i:=by obtain⟨x,a,e⟩:=MD.1 d;rw[h.qY]at e;exact MD.2 ⟨x,h.sub x a,e⟩
def Pm(v:Zw b):z∈Vp b↔∃x∈Zd b,x.bP≠0/\x.bf=z:=by
 rw[PU v,(E5 _).2,qAj];constructor
 ·rintro⟨x,d,e⟩;obtain⟨a,f⟩:=qAq.1 d;exact⟨x,a,by simpa[lB]using f,e⟩
 rintro⟨x,d,a,e⟩;exact⟨x,qAq.2 ⟨d,by simpa[lB]using a⟩,e⟩
def UH.when(h:UH b o)(v:Zw b)(f:Zw o)(d:z∈Vp o):z∈Vp b:=by obtain⟨x,a,e⟩:=(Pm f).1 d;exact(Pm v).2 ⟨x,h.sub x a,e⟩
def LF(f:o.aF.length=b.aF.length)(h:∀i,i<b.aF.length->(Zx o i).bl=(Zx b i).bl/\(Zx o i).bh=(Zx b i).bh/\(Zx o i).w=(Zx b i).w)(g:N4):YZ o g=YZ b g/\Y1 o g=Y1 b g:=by
 have k:VP o g=VP b g:=by rw[VP,VP,f];exact qCQ λi a=>by have:=(h i (qAU.1 a)).1;rw[Zx,Zx]at this;rw[this]
 have p:VQ o g=VQ b g:=by rw[VQ,VQ,f];exact qCQ λi a=>by obtain⟨_,d,e⟩:=h i (qAU.1 a);rw[Zx,Zx]at d e;rw[d,e]
 rw[YZ,YZ,Y1,Y1,k,p];exact⟨rfl,rfl⟩
def UH.J4(h:UH b o)(x:Zs):YH o x=YH b x:=by obtain⟨a,d⟩:=LF h.n h.bd (Zm b x);rw[YH,YH,h.qY,a,d]
def UH.had(h:UH b o)(a:0<(Zd o).length):Ym ((Zd b).filter (YH b)).length (Zd b).length=0\/Ym ((Zd b).filter (YH b)).length (Zd b).length=Ym ((Zd o).filter (YH o)).length (Zd o).length:=by have:(Zd o).filter (YH o)=(Zd o).filter (YH b):=qCe λx _=>h.J4 x;rw[this];exact Pt h.sub a
def UH.pos(h:UH b o)(a:0<(Zd o).length):0<(Zd b).length:=by obtain⟨x,d⟩:=List.exists_mem_of_length_pos a;exact List.length_pos_of_mem (h.sub x d)
def UH.surely(h:UH b o)(a:0<(Zd o).length)(r:V1 b<=Oe b):V1 o<=V1 b/\V1 o<=Oe o:=by have d:=h.pos a;obtain⟨_,x,g,e⟩:=Lt a;obtain⟨_,y,k,f⟩:=Ls a;have p:=(Lt d).1 x (h.sub x g);have q:=(Ls d).1 y (h.sub y k);rw[h.qY,(LF h.n h.bd _).1]at e;rw[h.qY,(LF h.n h.bd _).2]at f;omega
end
variable{l:List Int}{n m:Int}{v:Value}{F:Prop}
def tB{α:Type}{p:α->Prop}{l:List α}{j:Nat}(e:j<l.length)(h:∀x∈l.take j,p x)(d:p l[j]):∀x∈l.take (j+1),p x:=by
 intro x a;rw[iO e]at a;rcases qAi.1 a with a | a
 ·exact h x a
 rw[iF.1 a];exact d
section
variable{P:aY}[Tz P][Loud P]{H:Hp}
def ZAj{lv:Value}(k:Zj H lv l)(r:l.length<=1000000):LL.Za P 191 #[lv,vi n] H λv e=>H=e/\v=vb (decide (n∈l)):=by
 refine aI.m (bG c50) rfl ?_;unfold RA;refine Y ?_;refine ZF l.length (λj e=>H=e/\∀x∈l.take j,x≠n) (λj=>[(0,lv),(1,vi n),(5,vi j)]) (λ_=>[]) ⟨rfl,by simp⟩ V trivial ?_;rintro j _ s ⟨rfl,g⟩;refine Y ?_;refine ZK k rfl ?_;refine OJ (λp=>?_) (λp=>?_)
 ·have d:j<l.length:=O;refine Y ?_;refine Zo j k d λa q=>Y ?_;refine Z9 q ?_;refine OJ (λf=>?_) (λf=>?_)
  ·refine Y ?_;exact⟨rfl,by rw[decide_eq_true (show n∈l by rw[<-f];exact qAa d)];rfl⟩
  refine Y ?_;exact XR (I:=λj e=>H=e/\∀x∈l.take j,x≠n) (env:=λj=>[(0,lv),(1,vi n),(5,vi j)]) (box:=λ_=>[]) d ⟨rfl,tB d g f⟩ V trivial rfl
 have:j=l.length:=O;subst this;rw[qAh]at g;refine Y ?_;exact⟨rfl,by rw[qAy (show ¬ n∈l from λh=>g n h rfl)];rfl⟩
end
def nB(b:Bk):Nat:=(Zd b).length
def oS(b:Bk):Int:=if 0<nB b then 0 else 9
def B8{b:Bk}(v:Zw b):Zy b true=oS b:=Ztq v
def UU{b:Bk}(h:0<nB b):oS b=0:=BY h
def GA{b:Bk}(h:¬ 0<nB b):oS b=9:=bY h
def Kg{b:Bk}(h:¬ 0<nB b):Zd b=[]:=qBD.1 (by unfold nB at h;omega)
def Zo7{b:Bk}(v:Zw b)(h:¬ 0<nB b):Vp b=[]:=(Zo8 v).2 λx a=>by rw[Kg h]at a;simp at a
def Zvp{b:Bk}(h:¬ 0<nB b)(i:Nat):gapL b i=[]:=qBC.2 λz d=>by obtain⟨x,a,_⟩:=MD.1 d;rw[Kg h]at a;simp at a
def Pk{b:Bk}(v:Zw b):(Vp b).length<=1782:=by rw[PU v];have a:=Jk (((Zd b).filter lB).map Zs.bf);rw[qAe]at a;have d:=qBc lB (Zd b);have e:=V6 v;omega
def Di{b:Bk}(v:Zw b)(i:Nat):(gapL b i).length<=1782:=by rw[Dj rfl];have a:=Jk ((Zd b).map λx=>(Zm b x).get i);rw[qAe]at a;have d:=V6 v;omega
def ON(b:Bk):Int:=if 0<nB b then Ym ((Zd b).filter lB).length (nB b)else 0
def O8(b:Bk):Int:=if 0<nB b then Ym ((Zd b).filter (YH b)).length (nB b)else 0
def xE(b:Bk):Bool:=decide (0<nB b/\V1 b<=Oe b)
def xF(b:Bk):Int:=if 0<nB b/\V1 b<=Oe b then V1 b else 0
section
variable{P:aY}[Tz P][Loud P]{H:Hp}{bv:Value}{b:Bk}
def WF(v:Zw b)(hb:bK H bv b)(d:ZY H):LL.Za P 32 #[bv] H λu a=>bA H a/\u=.tuple #[vi (nB b),vi 0]:=
 LL.Za.mono (CF hb d (by have:=v.n;omega) (by have:=v.lA;omega)) λu a h=>⟨h.1,by rw[h.2,A5 v];rfl⟩
def WW(v:Zw b)(hb:bK H bv b)(e:ZY H):LL.Za P 33 #[bv] H λu d=>bA H d/\u=.tuple #[vi (ON b),vi (oS b)]:=
 LL.Za.mono (KL hb e (by have:=v.n;omega) (by have:=v.lA;omega)) λu d h=>⟨h.1,by
  rw[h.2,B8 v,ZpR v];have:(if oS b=0 then Ym ((Zd b).filter lB).length (Zd b).length else 0)=ON b:=by
   unfold ON;by_cases a:0<nB b
   ·rw[BY (UU a),BY a];rfl
   rw[bY (by rw[GA a];decide),bY a]
  rw[this]⟩
def WT(v:Zw b)(hb:bK H bv b)(e:ZY H):LL.Za P 16 #[bv] H λu d=>bA H d/\u=.tuple #[vi (O8 b),vi (oS b)]:=
 LL.Za.mono (WS hb e (by have:=v.n;omega) (by have:=v.lA;omega)) λu d h=>⟨h.1,by
  rw[h.2,B8 v];have:(if oS b=0 then Ym ((Zd b).filter (YH b)).length (Zd b).length else 0)=O8 b:=by
   unfold O8;by_cases a:0<nB b
   ·rw[BY (UU a),BY a];rfl
   rw[bY (by rw[GA a];decide),bY a]
  rw[this]⟩
def TP(v:Zw b)(hb:bK H bv b)(f:ZY H):LL.Za P 34 #[bv] H λu a=>bA H a/\∃A c,u=.tuple #[.slice A (Vp b).length c,vi (oS b)]/\Zj a (.slice A (Vp b).length c) (Vp b):=
 LL.Za.mono (TO hb f (by have:=v.n;omega) (by have:=v.lA;omega)) λu a h=>⟨h.1,by
  rw[B8 v]at h;obtain⟨w,g,rfl,o⟩:=h.2;have:(if oS b=0 then Vp b else[])=Vp b:=by
   split
   ·rfl
   rename_i d;rw[Zo7 v λe=>d (UU e)]
  rw[this]at o;obtain⟨A,c,rfl⟩:=Jr o;exact⟨A,c,rfl,o.sl⟩⟩
def WO{i:Nat}(g:i<b.aF.length)(v:Zw b)(hb:bK H bv b)(f:ZY H):LL.Za P 36 #[bv,vi i] H λu a=>bA H a/\∃A c,u=.tuple #[.slice A (gapL b i).length c,vi (oS b)]/\Zj a (.slice A (gapL b i).length c) (gapL b i):=
 LL.Za.mono (KI hb f (by have:=v.n;omega) (by have:=v.lA;omega)) λu a h=>⟨h.1,by
  rw[Zpp g,B8 v]at h;obtain⟨w,k,rfl,o⟩:=h.2;have:(if oS b=0 then gapL b (i:Int).toNat else[])=gapL b i:=by
   split
   ·rfl
   rename_i d;rw[Zvp λe=>d (UU e)]
  rw[this]at o;obtain⟨A,c,rfl⟩:=Jr o;exact⟨A,c,rfl,o.sl⟩⟩
def W0(v:Zw b)(hb:bK H bv b)(g:ZY H):LL.Za P 18 #[bv] H λu f=>bA H f/\u=.tuple #[vi (xF b),vb (xE b),vi (oS b)]:=
 LL.Za.mono (WZ hb g (by have:=v.n;omega) (by have:=v.lA;omega)) λu f h=>⟨h.1,by
  rw[h.2,xG,B8 v,xF,xE];by_cases a:0<nB b
  ·rw[BY (UU a)];by_cases d:V1 b<=Oe b
   ·rw[bY O,BY ⟨a,d⟩,decide_eq_true (show 0<nB b/\V1 b<=Oe b from⟨a,d⟩),UU a]
   rw[BY O,bY (λe=>d e.2),qAy (λe=>d e.2),UU a]
  rw[bY (by rw[GA a];decide),bY (λe=>a e.1),qAy (λe=>a e.1)]⟩
end
def NN{a:Int}(h:0<=a)(d:0<m):0<=a.tmod m/\a.tmod m<m:=⟨Int.tmod_nonneg _ h,Int.tmod_lt_of_pos _ d⟩
def ZvO{b:Bk}(h:U1 b=true):Zw b:=by simp only[U1,oR,qAv]at h;exact Y3 h.2
def Cf{b:Bk}(h:0<nB b):O8 b=Ym ((Zd b).filter (YH b)).length (nB b):=BY h
def Mk{b:Bk}(h:0<nB b):ON b=Ym ((Zd b).filter lB).length (nB b):=BY h
theorem ZwP{b:Bk}{c:gA}(v:Zw b)(a:Zw (ZM b c)):xU b c=oS (ZM b c):=by rw[xU,bY (by simp[A5 v]),ZzM a];rfl
def Qg{n:Nat}(h:0<=m)(a:0<n):∃i:Nat,i<n/\m.tmod n=i:=by have:=NN (m:=(n:Int)) h O;exact⟨(m.tmod n).toNat,O,O⟩
structure LeN(p q c d a e:Int)(su st:Bool):Prop where
 a1:p=0\/p=q
 a2:c=0\/c=d
 a3:su=true->st=true/\e<=a
def ZuQ{b o:Bk}(L:UH b o)(h:0<nB o):0<nB b/\LeN (ON b) (ON o) (O8 b) (O8 o) (xF b) (xF o) (xE b) (xE o):=by
 have hb:0<nB b:=L.pos h;refine⟨hb,?_,?_,λf=>?_⟩
 ·rw[Mk hb,Mk h];exact Pt L.sub h
 ·rw[Cf hb,Cf h];exact L.had h
 obtain⟨_,d⟩:=of_decide_eq_true f;obtain⟨e,a⟩:=L.surely h d;refine⟨decide_eq_true ⟨h,a⟩,?_⟩;rw[xF,BY ⟨h,a⟩,xF,BY ⟨hb,d⟩];exact e
section
variable{P:aY}[Tz P][Loud P]{H:Hp}
def Cm{u w:Value}{m:List Int}(g:Zj H u l)(r:Zj H w m)(h:∀z∈l,z∈m)(q:l.length<=1000000)(f:m.length<=1000000):LL.Za P 147 #[u,w] H λv e=>H=e/\v=vb true:=by
 refine aI.m (bG ZxS) rfl ?_;unfold Hy;refine Y ?_;refine ZF l.length (λj e=>H=e) (λj=>[(0,u),(1,w),(5,vi j)]) (λ_=>[]) rfl V trivial ?_;rintro j _ s rfl;refine Y ?_;refine ZK g rfl ?_;refine OJ (λk=>?_) (λk=>?_)
 ·have d:j<l.length:=O;refine Y ?_;refine Zo j g d λa p=>Y ?_;refine Z9 p (Y ?_);refine Zl (vs:=[w,vi l[j]]) (ZAj r f) ?_;rw[decide_eq_true (h _ (qAa d))];refine Y ?_;exact XR (I:=λj e=>H=e) (env:=λj=>[(0,u),(1,w),(5,vi j)]) (box:=λ_=>[]) d rfl V trivial rfl
 refine Y ?_;exact⟨rfl,rfl⟩
def Zzt{av bv:Value}{a b:Bk}(s:Zw a)(t:Zw b)(L:UH a b)(w:0<nB b)(B:bK H av a)(hb:bK H bv b)(e:ZY H)(hm:0<=m/\m<256):LL.Za P 87 #[av,bv,.int .u8 m] H λv H'=>bA H H'/\v=vb true:=by
 have hn:=s.n;have N:=B;have Q:=hb;obtain⟨_,_,rfl,⟨Ap,cp,rfl,_⟩,⟨Ac,cc,rfl,_⟩⟩:=N;obtain⟨_,_,rfl,⟨Bp,dp,rfl,_⟩,⟨Bc,dc,rfl,_⟩⟩:=Q;refine aI.m (bG c65) rfl ?_;unfold Q3;obtain⟨T,hN1,hN2,M⟩:=ZuQ L w;have jO:nB b<=nB a:=L.len t;have hNa:nB a<=1782:=V6 s;refine Y ?_;refine Uz (bL Tryz.underlying5) (bL Tryz.underlying3) rfl ?_;rw[Ud (show kQ m from⟨O,O⟩)];refine Y ?_;refine E0 rfl rfl O ?_;obtain⟨i,hi,ei⟩:=Qg (n:=a.aF.length) hm.1 O;rw[ei];have R:i<b.aF.length:=by rw[L.n];exact hi
 have g1:=Di s i;have g2:=Di t i;have w1:=Pk s;have w2:=Pk t;refine Y ?_;refine Zf (vs:=[.agg #[vi a.op,vi a.sl,.slice Ap a.aF.length cp,.slice Ac a.bJ.length cc]]) (WF s B e) ?_;rintro v H1 ⟨U,rfl⟩;refine Y ?_;refine Zf (vs:=[.agg #[vi b.op,vi b.sl,.slice Bp b.aF.length dp,.slice Bc b.bJ.length dc]]) (WF t (hb.inc U) (aC.inc e U)) ?_;rintro v H2 ⟨j2,rfl⟩;have V:=U.trans j2;refine Y ?_;refine Zf (vs:=[.agg #[vi a.op,vi a.sl,.slice Ap a.aF.length cp,.slice Ac a.bJ.length cc],vi i]) (WO hi s (B.inc V) (aC.inc e V)) ?_;rintro v H3 ⟨j3,A3,c3,rfl,s3⟩;have W:=V.trans j3;refine Y ?_;refine Zf (vs:=[.agg #[vi b.op,vi b.sl,.slice Bp b.aF.length dp,.slice Bc b.bJ.length dc],vi i]) (WO R t (hb.inc W) (aC.inc e W)) ?_;rintro v H4 ⟨j4,A4,c4,rfl,s4⟩;have X:=W.trans j4;refine Y ?_;refine Zf (vs:=[.agg #[vi a.op,vi a.sl,.slice Ap a.aF.length cp,.slice Ac a.bJ.length cc]]) (WW s (B.inc X) (aC.inc e X)) ?_;rintro v H5 ⟨j5,rfl⟩;have Z:=X.trans j5;refine Y ?_;refine Zf (vs:=[.agg #[vi b.op,vi b.sl,.slice Bp b.aF.length dp,.slice Bc b.bJ.length dc]]) (WW t (hb.inc Z) (aC.inc e Z)) ?_;rintro v H6 ⟨j6,rfl⟩;have i6:=Z.trans j6;refine Y ?_;refine Zf (vs:=[.agg #[vi a.op,vi a.sl,.slice Ap a.aF.length cp,.slice Ac a.bJ.length cc]]) (TP s (B.inc i6) (aC.inc e i6)) ?_;rintro v H7 ⟨j7,A7,c7,rfl,s7⟩;have i7:=i6.trans j7;refine Y ?_;refine Zf (vs:=[.agg #[vi b.op,vi b.sl,.slice Bp b.aF.length dp,.slice Bc b.bJ.length dc]]) (TP t (hb.inc i7) (aC.inc e i7)) ?_;rintro v H8 ⟨I,A8,c8,rfl,s8⟩;have i8:=i7.trans I;refine Y ?_;refine Zf (vs:=[.agg #[vi a.op,vi a.sl,.slice Ap a.aF.length cp,.slice Ac a.bJ.length cc]]) (WT s (B.inc i8) (aC.inc e i8)) ?_;rintro v H9 ⟨G,rfl⟩;have i9:=i8.trans G;refine Y ?_;refine Zf (vs:=[.agg #[vi b.op,vi b.sl,.slice Bp b.aF.length dp,.slice Bc b.bJ.length dc]]) (WT t (hb.inc i9) (aC.inc e i9)) ?_;rintro v vU ⟨g,rfl⟩;have C:=i9.trans g;refine Y ?_;refine Zf (vs:=[.agg #[vi a.op,vi a.sl,.slice Ap a.aF.length cp,.slice Ac a.bJ.length cc]]) (W0 s (B.inc C) (aC.inc e C)) ?_;rintro v yW ⟨k,rfl⟩;have D:=C.trans k;refine Y ?_;refine Zf (vs:=[.agg #[vi b.op,vi b.sl,.slice Bp b.aF.length dp,.slice Bc b.bJ.length dc]]) (W0 t (hb.inc D) (aC.inc e D)) ?_;rintro v J ⟨r,rfl⟩;have d:=D.trans r;have t3:Zj J (.slice A3 (gapL a i).length c3) (gapL a i):=s3.inc ((((((((j4.trans j5).trans j6).trans j7).trans I).trans G).trans g).trans k).trans r);have t4:=s4.inc (((((((j5.trans j6).trans j7).trans I).trans G).trans g).trans k).trans r);have t7:=s7.inc ((((I.trans G).trans g).trans k).trans r);have t8:=s8.inc (((G.trans g).trans k).trans r);rw[UU T,UU w];refine Y ?_;refine Zl (vs:=[vi (nB b),vi 1,vi (nB a)]) (Ub _ _ _) ?_;rw[decide_eq_true (show(1:Int)<=(nB b:Int)/\(nB b:Int)<=nB a from⟨O,O⟩)];refine Y ?_;refine Zl (vs:=[.slice A4 (gapL b i).length c4,.slice A3 (gapL a i).length c3]) (Cm t4 t3 (λz S=>L.gapL S) O O) (Y ?_);refine Zl (vs:=[.slice A8 (Vp b).length c8,.slice A7 (Vp a).length c7]) (Cm t8 t7 (λz S=>L.when s t S) O O) ?_;generalize ON a=p at *;generalize ON b=q at *;generalize O8 a=x at *;generalize O8 b=y at *;generalize xE a=su at *;generalize xE b=st at *;have fin:∀(σ:aL) (H':Hp),True:=λ_ _=>trivial;have Xc:∀{z:Bool},z=true->vb z=vb true:=λh=>by rw[h]
 cases su with
 | false=>
  refine OJ (λK=>?_) (λK=>?_)
  ·refine OJ (λA=>?_) (λA=>?_)
   ·refine Y ?_;exact⟨d,rfl⟩
   refine OJ (λf=>?_) (λf=>?_)
   ·refine Y ?_;exact⟨d,rfl⟩
   exact absurd f O
  refine OJ (λf=>?_) (λf=>?_)
  ·refine OJ (λA=>?_) (λA=>?_)
   ·refine Y ?_;exact⟨d,rfl⟩
   refine OJ (λE=>?_) (λE=>?_)
   ·refine Y ?_;exact⟨d,rfl⟩
   exact absurd E O
  exact absurd f O
 | true=>
  obtain⟨rfl,u⟩:=M rfl;refine OJ (λK=>?_) (λK=>?_)
  ·refine OJ (λA=>?_) (λA=>?_)
   ·refine Y ?_;exact⟨d,by rw[decide_eq_true u];rfl⟩
   refine OJ (λf=>?_) (λf=>?_)
   ·refine Y ?_;exact⟨d,by rw[decide_eq_true u];rfl⟩
   exact absurd f O
  refine OJ (λf=>?_) (λf=>?_)
  ·refine OJ (λA=>?_) (λA=>?_)
   ·refine Y ?_;exact⟨d,by rw[decide_eq_true u];rfl⟩
   refine OJ (λE=>?_) (λE=>?_)
   ·refine Y ?_;exact⟨d,by rw[decide_eq_true u];rfl⟩
   exact absurd E O
  exact absurd f O
end
structure e9 where
 (h lo hi:Int)
structure n7 where
 (fr to lo hi:Int)
structure jR where
 (h lg:Int) (iH:Bool)
instance:Enc e9:=⟨3,λp=>[vi p.h,vi p.lo,vi p.hi],λ_=>rfl⟩
instance:Enc n7:=⟨4,λp=>[vi p.fr,vi p.to,vi p.lo,vi p.hi],λ_=>rfl⟩
instance:Enc jR:=⟨3,λp=>[vi p.h,vi p.lg,vb p.iH],λ_=>rfl⟩
structure fZ where
 (pk:Int) (pt:List e9) (tp:List n7) (sk:List jR)
def ZJ(H:Hp)(v:Value)(f:fZ):Prop:=∃a c1 d c2 e c3,v=.agg #[vi f.pk,.slice a f.pt.length c1,.slice d f.tp.length c2,.slice e f.sk.length c3]/\Zj H (.slice a f.pt.length c1) f.pt/\Zj H (.slice d f.tp.length c2) f.tp/\Zj H (.slice e f.sk.length c3) f.sk
def ZJ.inc{H a:Hp}{f:fZ}(h:ZJ H v f)(i:bA H a):ZJ a v f:=by obtain⟨d,c1,e,c2,g,c3,k,p,q,r⟩:=h;exact⟨d,c1,e,c2,g,c3,k,p.inc i,q.inc i,r.inc i⟩
def yN(p:e9):Prop:=(0<=p.h/\p.h<=959)/\(0<=p.lo/\p.lo<=p.hi/\p.hi<=959)/\p.hi-p.lo<3
structure YB(l:List e9):Prop where
 n:2<=l.length/\l.length<=5
 pt:∀p∈l,yN p
 up:∀i (h:i+1<l.length),l[i].h<l[i+1].h
def VS(l:List e9):Int:=(l.getD 0 ⟨0,0,0⟩).h
def VR(l:List e9):Int:=(l.getD (l.length-1) ⟨0,0,0⟩).h
def sF(n:Nat)(t:n7):Prop:=((0<=t.fr/\t.fr<=(n:Int)-1)/\(0<=t.to/\t.to<=(n:Int)-1))/\t.fr<t.to/\(0<=t.lo/\t.lo<=t.hi/\t.hi<=9999)
def sE(l:List e9)(s:jR):Prop:=(VS l<=s.h/\s.h<=VR l)/\(0<=s.lg/\s.lg<=959)
structure xO(k:Nat)(l:List n7):Prop where
 n:l.length<=3
 t:∀t∈l,sF k t
structure yQ(l:List e9)(m:List jR):Prop where
 n:m.length<=3
 s:∀s∈m,sE l s
structure nM(f:fZ):Prop where
 pk:0<=f.pk/\f.pk<=20
 pt:YB f.pt
 tp:xO f.pt.length f.tp
 sk:yQ f.pt f.sk
def UF(v:Value)(F:Prop):Prop:=∃s:Int,v=vi s/\(s=0↔F)
def UF.no(a:n≠0)(h:¬ F):UF (vi n) F:=⟨n,rfl,λe=>absurd e a,λe=>absurd e h⟩
def UF.rI(h:F):UF (vi 0) F:=⟨0,rfl,λ_=>h,λ_=>rfl⟩
section
variable{P:aY}[Tz P][Loud P]{H:Hp}
def Zv6{f:fZ}(q:ZJ H v f)(x:1<=f.pt.length/\f.pt.length<=1000):LL.Za P 141 #[v,vi n] H λv g=>H=g/\v=vb (decide (VS f.pt<=n/\n<=VR f.pt)):=by obtain⟨r,c1,s,c2,t,c3,rfl,e,u,w⟩:=q;have k:VS f.pt=(f.pt[0]'O).h:=qAQ e9.h (Z8 O _);have p:VR f.pt=(f.pt[f.pt.length-1]'O).h:=qAQ e9.h (Z8 O _);have el:((f.pt.length:Int)-1)=((f.pt.length-1:Nat):Int):=O;refine aI.m (bG Zyu) rfl ?_;unfold Du;refine Y ?_;refine Zo 0 e O λa d=>Y ?_;refine Zg (OL _) rfl (by rw[add_zero];exact Z2 (cs:=[vi (f.pt[0]'O).h]) (ds:=[vi (f.pt[0]'O).lo,vi (f.pt[0]'O).hi]) d) (Y ?_);rw[el];refine Zo (f.pt.length-1) e O λa d=>Y ?_;refine Zg (OL _) rfl (by rw[add_zero];exact Z2 (cs:=[vi (f.pt[f.pt.length-1]'O).h]) (ds:=[vi (f.pt[f.pt.length-1]'O).lo,vi (f.pt[f.pt.length-1]'O).hi]) d) (Y ?_);refine Zl (vs:=[vi n,vi (f.pt[0]'O).h,vi (f.pt[f.pt.length-1]'O).h]) (Ub _ _ _) (Y ?_);exact⟨rfl,by rw[k,p];rfl⟩
def XB{f:fZ}(d:ZJ H v f)(r:f.pt.length<=1000):LL.Za P 140 #[v,vi n] H λv a=>H=a/\v=vb (decide (0<=n/\n<=(f.pt.length:Int)-1)):=by obtain⟨e,c1,g,c2,h,c3,rfl,k,p,q⟩:=d;refine aI.m (bG Zyv) rfl ?_;unfold Dt;refine Y ?_;refine Zl (vs:=[vi n,vi 0,vi ((f.pt.length:Int)-1)]) (Ub _ _ _) (Y ?_);exact⟨rfl,rfl⟩
def Zv1{s:Value}{l:List e9}(k:Zj H s l)(K:l.length<=1000):LL.Za P 77 #[s] H λv q=>H=q/\UF v (YB l):=by
 refine aI.m (bG ZyQ) rfl ?_;unfold Fa;refine Y ?_;refine ZK k rfl (Y ?_);refine Zl (vs:=[vi l.length,vi 2,vi 5]) (Ub _ _ _) ?_;refine OJ (λC=>?_) (λC=>?_)
 ·refine Y ?_;exact⟨rfl,.no (by decide) λh=>by have:=h.n;omega⟩
 refine Y ?_;refine ZF l.length (λj q=>H=q/\(∀p∈l.take j,yN p)/\∀i (e:i+1<j) (h:i+1<l.length),l[i].h<l[i+1].h) (λj=>[(0,s),(3,vi j)]) (λ_=>[]) ⟨rfl,by simp,O⟩ V trivial ?_;rintro j _ J ⟨rfl,x,A⟩;refine Y ?_;refine ZK k rfl ?_;refine OJ (λD=>?_) (λD=>?_)
 ·have d:j<l.length:=O;have f:¬ yN l[j]->¬ YB l:=λh r=>h (r.pt _ (qAa d));refine Y ?_;refine Zo j k d λa g=>Y ?_;refine Zg (OL _) rfl (by rw[add_zero];exact Z2 (cs:=[vi l[j].h]) (ds:=[vi l[j].lo,vi l[j].hi]) g) (Y ?_);refine Zl (vs:=[vi l[j].h,vi 0,vi 959]) (Ub _ _ _) ?_;refine OJ (λu=>?_) (λu=>?_)
  ·refine Y ?_;exact⟨rfl,.no (by decide) (f λh=>u h.1)⟩
  refine OB ?_;refine Y9 (ι:=Unit) (λ_ q=>H=q/\∀i (e:i+1<j+1) (h:i+1<l.length),l[i].h<l[i+1].h) (λ_=>[(0,s),(3,vi j)]) (λ_=>[]) ?_ ?_
  ·refine OJ (λE=>?_) (λE=>?_)
   ·obtain⟨t,rfl⟩:∃t,j=t+1:=⟨j-1,O⟩;have B:((t+1:Nat):Int)-1=(t:Int):=O;refine Y ?_;refine Zo (t+1) k d λa g=>Y ?_;refine Zg (OL _) rfl (by rw[add_zero];exact Z2 (cs:=[vi l[t+1].h]) (ds:=[vi l[t+1].lo,vi l[t+1].hi]) g) (Y ?_);rw[B];refine Zo t k O λa g=>Y ?_;refine Zg (OL _) rfl (by rw[add_zero];exact Z2 (cs:=[vi (l[t]'O).h]) (ds:=[vi (l[t]'O).lo,vi (l[t]'O).hi]) g) ?_;refine OJ (λG=>?_) (λG=>?_)
    ·refine Y ?_;exact⟨rfl,.no (by decide) λh=>by have:=h.up t d;omega⟩
    refine Y ?_;exact⟨(),⟨rfl,λi e h=>by
     rcases Nat.lt_succ_iff_lt_or_eq.1 e with r | r
     ·exact A i r h
     obtain rfl:i=t:=O;omega⟩,V,trivial,rfl⟩
   refine Y ?_;exact⟨(),⟨rfl,λi e h=>O⟩,V,trivial,rfl⟩
  rintro _ _ ⟨rfl,y⟩;refine Y ?_;refine Zo j k d λa g=>Y ?_;refine Z5 (cs:=[vi l[j].lo,vi l[j].hi]) (OL _) rfl (Un g rfl) rfl (Y ?_);refine Zl (vs:=[.agg #[vi l[j].lo,vi l[j].hi],vi 0,vi 959]) (xP _ _ _ _) ?_;refine OJ (λw=>?_) (λw=>?_)
  ·refine Y ?_;exact⟨rfl,.no (by decide) (f λh=>w h.2.1)⟩
  refine OJ (λI=>?_) (λI=>?_)
  ·refine Y ?_;exact⟨rfl,.no (by decide) (f λh=>by have:=h.2.2;omega)⟩
  refine Y ?_;exact⟨⟨j+1,O⟩,cZ O,⟨rfl,tB d x ⟨u,w,O⟩,y⟩,V,trivial,rfl⟩
 have:j=l.length:=O;subst this;rw[qAh]at x;refine Y ?_;exact⟨rfl,.rI ⟨O,x,λi e=>A i e e⟩⟩
def ZvZ{f:fZ}(x:ZJ H v f)(y:f.pt.length<=1000):LL.Za P 78 #[v] H λv q=>H=q/\UF v (xO f.pt.length f.tp):=by
 have k:=x;obtain⟨A,c1,B,c2,C,c3,rfl,M,J,N⟩:=x;refine aI.m (bG ZyP) rfl ?_;unfold Fb;refine OJ (λD=>?_) (λD=>?_)
 ·refine Y ?_;exact⟨rfl,.no (by decide) λh=>by have:=h.n;omega⟩
 refine Y ?_;refine ZF f.tp.length (λj q=>H=q/\∀p∈f.tp.take j,sF f.pt.length p) (λj=>[(1,vi 0),(3,vi j)]) (λ_=>[(1,[vi f.pk,.slice A f.pt.length c1,.slice B f.tp.length c2,.slice C f.sk.length c3])]) ⟨rfl,by simp⟩ V V ?_;rintro j _ Q ⟨rfl,w⟩;refine OJ (λE=>?_) (λE=>?_)
 ·have g:j<f.tp.length:=O;have d:¬ sF f.pt.length f.tp[j]->¬ xO f.pt.length f.tp:=λh I=>h (I.t _ (qAa g));have next:=λh=>tB g w (p:=sF f.pt.length) h
  refine Y ?_;refine Zo j J g λa K=>?_;generalize f.tp[j]=t at *;refine Y ?_;refine ZL (cs:=[vi t.fr,vi t.to,vi t.lo,vi t.hi]) K (Y ?_);refine Zl (vs:=[.agg #[vi f.pk,.slice A f.pt.length c1,.slice B f.tp.length c2,.slice C f.sk.length c3],vi t.fr]) (XB k y) ?_;refine OJ (λr=>?_) (λr=>?_)
  ·refine Y ?_;exact⟨rfl,.no (by decide) (d λh=>r h.1.1)⟩
  refine Y ?_;refine Zl (vs:=[.agg #[vi f.pk,.slice A f.pt.length c1,.slice B f.tp.length c2,.slice C f.sk.length c3],vi t.to]) (XB k y) ?_;refine OJ (λs=>?_) (λs=>?_)
  ·refine Y ?_;exact⟨rfl,.no (by decide) (d λh=>s h.1.2)⟩
  refine OJ (λG=>?_) (λG=>?_)
  ·refine Y ?_;exact⟨rfl,.no (by decide) (d λh=>by have:=h.2.1;omega)⟩
  refine Y ?_;refine Zl (vs:=[.agg #[vi t.lo,vi t.hi],vi 0,vi 9999]) (xP _ _ _ _) ?_;refine OJ (λu=>?_) (λu=>?_)
  ·refine Y ?_;exact⟨rfl,.no (by decide) (d λh=>u h.2.2)⟩
  refine Y ?_;exact⟨⟨j+1,O⟩,cZ O,⟨rfl,next ⟨⟨r,s⟩,O,u⟩⟩,V,V,rfl⟩
 have:j=f.tp.length:=O;subst this;rw[qAh]at w;refine Y ?_;exact⟨rfl,.rI ⟨O,w⟩⟩
def Zv0{f:fZ}(y:ZJ H v f)(I:1<=f.pt.length/\f.pt.length<=1000):LL.Za P 79 #[v] H λv q=>H=q/\UF v (yQ f.pt f.sk):=by
 have w:=y;obtain⟨A,c1,B,c2,C,c3,rfl,J,K,x⟩:=y;refine aI.m (bG ZyO) rfl ?_;unfold Fc;refine OJ (λD=>?_) (λD=>?_)
 ·refine Y ?_;exact⟨rfl,.no (by decide) λh=>by have:=h.n;omega⟩
 refine Y ?_;refine ZF f.sk.length (λj q=>H=q/\∀p∈f.sk.take j,sE f.pt p) (λj=>[(1,vi 0),(3,vi j)]) (λ_=>[(1,[vi f.pk,.slice A f.pt.length c1,.slice B f.tp.length c2,.slice C f.sk.length c3])]) ⟨rfl,by simp⟩ V V ?_;rintro j _ M ⟨rfl,t⟩;refine OJ (λE=>?_) (λE=>?_)
 ·have e:j<f.sk.length:=O;have g:¬ sE f.pt f.sk[j]->¬ yQ f.pt f.sk:=λh G=>h (G.s _ (qAa e));have next:=λh=>tB e t (p:=sE f.pt) h
  refine Y ?_;refine Zo j x e λa u=>Y ?_;refine Zg (OL _) rfl (by rw[add_zero];exact Z2 (cs:=[vi f.sk[j].h]) (ds:=[vi f.sk[j].lg,vb f.sk[j].iH]) u) (Y ?_);refine Zl (vs:=[.agg #[vi f.pk,.slice A f.pt.length c1,.slice B f.tp.length c2,.slice C f.sk.length c3],vi f.sk[j].h]) (Zv6 w I) ?_;refine OJ (λk=>?_) (λk=>?_)
  ·refine Y ?_;exact⟨rfl,.no (by decide) (g λh=>by rw[decide_eq_true h.1]at k;simp at k)⟩
  refine Y ?_;refine Zo j x e λa u=>Y ?_;refine Zg (OL _) rfl (Z2 (cs:=[vi f.sk[j].lg]) (ds:=[vb f.sk[j].iH]) (Un u rfl)) (Y ?_);refine Zl (vs:=[vi f.sk[j].lg,vi 0,vi 959]) (Ub _ _ _) ?_;refine OJ (λr=>?_) (λr=>?_)
  ·refine Y ?_;exact⟨rfl,.no (by decide) (g λh=>r h.2)⟩
  refine Y ?_;exact⟨⟨j+1,O⟩,cZ O,⟨rfl,next ⟨by simpa using k,r⟩⟩,V,V,rfl⟩
 have:j=f.sk.length:=O;subst this;rw[qAh]at t;refine Y ?_;exact⟨rfl,.rI ⟨O,t⟩⟩
def Dc{f:fZ}(w:ZJ H v f)(q:f.pt.length<=1000):LL.Za P 25 #[v] H λv x=>H=x/\UF v (nM f):=by
 have a:=w;obtain⟨B,c1,C,c2,D,c3,rfl,y,E,G⟩:=w;refine aI.m (bG Zy3) rfl ?_;unfold Gc;refine Y ?_;refine Zl (vs:=[vi f.pk,vi 0,vi 20]) (Ub _ _ _) ?_;refine OJ (λk=>?_) (λk=>?_)
 ·refine Y ?_;exact⟨rfl,.no (by decide) λh=>k h.pk⟩
 refine Y ?_;refine Zf (vs:=[.slice B f.pt.length c1]) (Zv1 y q) ?_;rintro v _ ⟨rfl,s,rfl,r⟩;refine OJ (λd=>?_) (λd=>?_)
 ·refine Y ?_;exact⟨rfl,.no d λh=>d (r.2 h.pt)⟩
 have p:=r.1 d;have I:=p.n;refine Y ?_;refine Zf (vs:=[.agg #[vi f.pk,.slice B f.pt.length c1,.slice C f.tp.length c2,.slice D f.sk.length c3]]) (ZvZ a q) ?_;rintro v _ ⟨rfl,J,rfl,u⟩;refine OJ (λg=>?_) (λg=>?_)
 ·refine Y ?_;exact⟨rfl,.no g λh=>g (u.2 h.tp)⟩
 refine Y ?_;refine Zf (vs:=[.agg #[vi f.pk,.slice B f.pt.length c1,.slice C f.tp.length c2,.slice D f.sk.length c3]]) (Zv0 a ⟨O,q⟩) ?_;rintro v _ ⟨rfl,A,rfl,t⟩;refine Y ?_;exact⟨rfl,A,rfl,λe=>⟨k,p,u.1 g,t.1 e⟩,λh=>t.2 h.sk⟩
def Zv7{f:fZ}(h:ZJ H v f):LL.Za P 72 #[v] H λv a=>H=a/\∃b,v=vb b/\(b=false->f.pt.length<=20):=by
 obtain⟨k,c1,p,c2,q,c3,rfl,r,s,t⟩:=h;refine aI.m (bG ZyV) rfl ?_;unfold Eu;refine OJ (λd=>?_) (λd=>?_)
 ·refine Y ?_;exact⟨rfl,_,rfl,λe=>by simp at e⟩
 refine OJ (λg=>?_) (λg=>?_)
 ·refine Y ?_;exact⟨rfl,_,rfl,λe=>by simp at e⟩
 refine Y ?_;exact⟨rfl,_,rfl,λe=>O⟩
def Zv8{f:fZ}(d:ZJ H v f):LL.Za P 20 #[v] H λv g=>H=g/\∃b,v=vb b/\(b=true->nM f):=by
 have a:=d;obtain⟨k,c1,p,c2,q,c3,rfl,r,t,u⟩:=d;refine aI.m (bG Zy8) rfl ?_;unfold Fx;refine Y ?_;refine Zf (vs:=[.agg #[vi f.pk,.slice k f.pt.length c1,.slice p f.tp.length c2,.slice q f.sk.length c3]]) (Zv7 a) ?_;rintro v _ ⟨rfl,b,rfl,hb⟩;cases b with
 | true=>
  refine Y ?_;exact⟨rfl,_,rfl,λe=>by simp at e⟩
 | false=>
  refine Y ?_;refine Zf (vs:=[.agg #[vi f.pk,.slice k f.pt.length c1,.slice p f.tp.length c2,.slice q f.sk.length c3]]) (Dc a (by have:=hb rfl;omega)) ?_;rintro v _ ⟨rfl,s,rfl,h⟩;refine Y ?_;exact⟨rfl,_,rfl,λe=>h.1 (by simpa using e)⟩
end
