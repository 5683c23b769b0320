import Derived.Test.YtmfealhfgccmfaaGreatDoorTS00
set_option linter.all false
open Go Go.LL
namespace Go.Proofs
variable{b:Bk}{i:Nat}{α β γ:Type}{l m:List Int}{H:Hp}{xs:List gJ}
def kG(b:Bk)(x:gJ):List Int:=(iZ b x).RI.take b.fM.length
def mV(b:Bk)(l:List Int)(a:List jL):List gJ:=(a.map λk=>(⟨YQ l,k.bf,k.gQ⟩:gJ)).filter (mJ b)
def qX(a:Int):Nat->List Int
 | 0=>[]
 | c+1=>(a-c) :: qX a c
def JM(f:Int->List gJ)(a:Int):∀c,kU f a c=(qX a c).flatMap f
 | 0=>rfl
 | c+1=>by rw[kU,qX,qAI,JM f a c]
def JL{a:Int}:∀{c:Nat},(qX a c).length=c/\∀t,t<c->(qX a c)[t]? = some (a-(c-1-t:Nat))
 | 0=>⟨rfl,λt h=>O⟩
 | c+1=>by
  obtain⟨d,e⟩:=@JL a c;refine⟨by rw[qX,qAF,d],λt f=>?_⟩;rw[qX];cases t with
  | zero=>simp
  | succ t=>rw[qBk,e t O];congr 2;omega
def Hz:qX (iH b i).mh ((iH b i).mh-(iH b i).ml+1).toNat=jM b i:=by
 obtain⟨f,e⟩:=@JL (iH b i).mh ((iH b i).mh-(iH b i).ml+1).toNat;have g:(jM b i).length=((iH b i).mh-(iH b i).ml+1).toNat:=by simp[jM]
 refine qCJ λt=>?_;by_cases d:t<((iH b i).mh-(iH b i).ml+1).toNat
 ·rw[e t d,jM,qCe,qDG d];show some ((iH b i).mh-((((iH b i).mh-(iH b i).ml+1).toNat-1-t:Nat):Int))=some ((iH b i).ml+(t:Int));congr 1;omega
 rw[qAT O,qAT O]
def BZ(b:Bk):Nat->List N4
 | 0=>[⟨0,0,0,0⟩]
 | i+1=>(BZ b i).flatMap λm=>(jM b i).map λn=>m.put i n
def Gq(l:List α)(f:α->List β)(g:β->List γ):(l.flatMap f).flatMap g=l.flatMap λa=>(f a).flatMap g:=by
 induction l with
 | nil=>rfl
 | cons a l ih=>simp[qAI,qDb,ih]
def ET(l:List α)(f:α->β)(g:β->List γ):(l.map f).flatMap g=l.flatMap λa=>g (f a):=by
 induction l with
 | nil=>rfl
 | cons a l ih=>simp[qAI,ih]
def Gp{l:List α}{f g:α->List β}(h:∀a∈l,f a=g a):l.flatMap f=l.flatMap g:=by
 induction l with
 | nil=>rfl
 | cons a l ih=>rw[qAI,qAI,h a (qAB ..),ih λx c=>h x (qAm _ c)]
def Fl{r:Nat}(h:b.fM.length=i+(r+1)):(BZ b (i+1)).flatMap (gN b r)=(BZ b i).flatMap (gN b (r+1)):=by rw[BZ,Gq];congr 1;funext m;rw[ET,gN,JM];have e:b.fM.length-(r+1)=i:=O;rw[e,Hz]
def IE{b:Bk}:∀(r i:Nat),b.fM.length=i+r->(BZ b i).flatMap (gN b r)=(BZ b b.fM.length).flatMap (gN b 0)
 | 0,i,h=>by rw[h,qCg]
 | r+1,i,h=>by rw[<-Fl h];exact IE r (i+1) O
def De(b:Bk):gT b=(BZ b b.fM.length).flatMap (gN b 0):=by rw[<-IE b.fM.length 0 O];simp[BZ,gT]
def E5{j:Nat}(a:j<4):(YQ l).get j=l.getD j 0:=N4.o0 _ a
def IG{b:Bk}(v:jB b):∀i,i<=b.fM.length->BZ b i=(mR b i).map YQ
 | 0,_=>rfl
 | i+1,h=>by
  have d:i<4:=by have:=v.n;omega
  rw[BZ,IG v i O,mR,ET,List.map_flatMap];refine Gp λl f=>?_;rw[qDV];refine qDa λn _=>?_;obtain⟨c,_⟩:=y6 v i O l f;refine N4.ext' λj a=>?_;rw[N4.iC _ _ a,E5 a];show _=(YQ (l++[n])).get j;rw[E5 a];simp only[qAp];by_cases e:j=i
  ·subst e;rw[qAa rfl,qBz O,c];simp
  rw[iF e];by_cases g:j<i
  ·rw[qAQ O]
  rw[qAT O,qAT (by rw[IN,qAW];omega)]
theorem M4(v:jB b):gT b=(mR b b.fM.length).flatMap λl=>mV b l (iA b):=by rw[De,IG v _ (DO _),ET];rfl
def Ff(v:jB b)(j:l.length=b.fM.length)(k:jL):oF b l k=kG b ⟨YQ l,k.bf,k.gQ⟩:=by
 have p:=v.n;have g:(kG b ⟨YQ l,k.bf,k.gQ⟩).length=b.fM.length:=by rw[kG,qAs];show min _ 4=_;omega
 have o:(oF b l k).length=b.fM.length:=by simp[oF,j]
 refine qCJ λi=>?_;by_cases f:i<b.fM.length
 ·have c:i<4:=O;rw[oF,qCe,qDG O];rw[kG,List.getElem?_take_of_lt f];have:(iZ b ⟨YQ l,k.bf,k.gQ⟩).RI[i]? = some ((iZ b ⟨YQ l,k.bf,k.gQ⟩).get i):=by
   match i,c with
   | 0,_=>rfl
   | 1,_=>rfl
   | 2,_=>rfl
   | 3,_=>rfl
  rw[this,iZ,N4.o0 _ c,qAa f,sY];show some _=some _;rw[E5 c]
 rw[qAT O,qAT O]
theorem Fe(v:jB b)(x:gJ)(c:i<b.fM.length):(kG b x).getD i 0=(iZ b x).get i:=by
 have d:=v.n;have a:i<4:=O;rw[kG,qAp,List.getElem?_take_of_lt c];match i,a with
 | 0,_=>rfl
 | 1,_=>rfl
 | 2,_=>rfl
 | 3,_=>rfl
def Ho(v:jB b)(x:gJ):yF b (kG b x)=mJ b x:=by
 rw[yF,mJ];have:∀c∈b.iE,decide (c.gl<=(kG b x).getD c.p.toNat 0/\(kG b x).getD c.p.toNat 0<=c.gh)=rH (iZ b x) c:=by intro c a;obtain⟨⟨g,j⟩,_⟩:=v.iE c a;rw[rH,Fe v x O]
 rw[qBQ,qAf,qAf];exact⟨λh c a=>by rw[<-this c a];exact h c a,λh c a=>by rw[this c a];exact h c a⟩
structure Q4 where
 m:Value
 (bf gQ:Int)
 g:Value
instance:Enc Q4:=⟨4,λq=>[q.m,vi q.bf,vi q.gQ,q.g],λ_=>rfl⟩
structure qF(b:Bk)(H:Hp)(AB:List Q4)(xs:List gJ):Prop where
 len:AB.length=xs.length
 at_:∀i (h:i<AB.length) (h':i<xs.length),AB[i].bf=xs[i].bf/\AB[i].gQ=xs[i].gQ/\dF H AB[i].g (kG b xs[i])
def qF.nil(b:Bk)(H:Hp):qF b H [] []:=⟨rfl,λi h=>by simp at h⟩
def qF.inc{H':Hp}{d:List Q4}(h:qF b H d xs)(j:fI H H'):qF b H' d xs:=⟨h.len,λi a c=>by obtain⟨e,f,g⟩:=h.at_ i a c;exact⟨e,f,g.inc j⟩⟩
def qF.pP{d:List Q4}{q:Q4}{x:gJ}(h:qF b H d xs)(k:q.bf=x.bf)(n:q.gQ=x.gQ)(o:dF H q.g (kG b x)):qF b H (d++[q]) (xs++[x]):=by
 have j:=h.len;refine⟨by simp[j],λi a c=>?_⟩;by_cases f:i<d.length
 ·rw[qBw f,qBw O];exact h.at_ i f O
 simp only[IN,qAW]at a;have e:i=d.length:=O;subst e;rw[qBL (DO _),qBL O];simp[j];exact⟨k,n,o⟩
def Bf(b:Bk)(H:Hp)(v:Value)(xs:List gJ):Prop:=∃a,dF H v a/\qF b H a xs
theorem Df(b:Bk)(l:List Int)(a:List jL)(k:jL):mV b l (a++[k])=mV b l a++if mJ b ⟨YQ l,k.bf,k.gQ⟩then[⟨YQ l,k.bf,k.gQ⟩]else[]:=by rw[mV,qBt,qDM,mV];congr 1;rw[qDK,qCy];rfl
def pB(x:Int):List Int->List Int
 | []=>[x]
 | y :: r=>if y<x then y :: pB x r else if y=x then y :: r else x :: y :: r
def nQ(l:List Int):List Int:=l.foldl (λo x=>pB x o) []
def IB(x:Int):∀l,(pB x l).length<=l.length+1
 | []=>by simp[pB]
 | y :: r=>by
  rw[pB];have:=IB x r;split
  ·simp only[qAF];omega
  split<;>simp
def Ga:∀l:List Int,(nQ l).length<=l.length:=by refine JK (by simp[nQ]) λl x ih=>?_;have:=IB x (nQ l);rw[nQ,qCs,IN,qAW];show(pB x (nQ l)).length<=_;omega
def IS:∀{l m:List Int},l.Pairwise (·<·)->m.Pairwise (·<·)->(∀x,x∈l↔x∈m)->l=m
 | [],[],_,_,_=>rfl
 | [],y :: m,_,_,h=>by have:=(h y).2 (qAB ..);simp at this
 | x :: l,[],_,_,h=>by have:=(h x).1 (qAB ..);simp at this
 | x :: l,y :: m,j,k,h=>by
  obtain⟨g,n⟩:=qBF.1 j;obtain⟨m1,o⟩:=qBF.1 k;have d:x=y:=by
   have e:=(h x).1 (qAB ..);have f:=(h y).2 (qAB ..);rcases qAi.1 e with rfl | e
   ·rfl
   rcases qAi.1 f with rfl | f
   ·rfl
   have:=g y f;have:=m1 x e;omega
  subst d;congr 1;refine IS n o λz=>⟨λc=>?_,λc=>?_⟩
  ·rcases qAi.1 ((h z).1 (qAm _ c))with rfl | a
   ·have:=g z c;omega
   exact a
  rcases qAi.1 ((h z).2 (qAm _ c))with rfl | a
  ·have:=m1 z c;omega
  exact a
def EW(x:Int):∀(l:List Int) (z:Int),z∈pB x l↔z=x\/z∈l
 | [],z=>by simp[pB]
 | y :: r,z=>by
  rw[pB];have ih:=EW x r z;split
  ·rw[qAi,ih,qAi];constructor
   ·rintro(h | h | h)
    ·exact .inr (.inl h)
    ·exact .inl h
    exact .inr (.inr h)
   rintro(h | h | h)
   ·exact .inr (.inl h)
   ·exact .inl h
   exact .inr (.inr h)
  split
  ·rename_i h;subst h;rw[qAi];constructor
   ·exact .inr
   rintro(h | h)
   ·exact .inl h
   exact h
  rw[qAi]
def IC(x:Int):∀{l:List Int},l.Pairwise (·<·)->(pB x l).Pairwise (·<·)
 | [],_=>by simp[pB]
 | y :: r,h=>by
  obtain⟨c,d⟩:=qBF.1 h;rw[pB];split
  ·rename_i e;refine qBF.2 ⟨λz a=>?_,IC x d⟩;rcases(EW x r z).1 a with rfl | a
   ·exact e
   exact c z a
  split
  ·exact h
  refine qBF.2 ⟨λz a=>?_,h⟩;rcases qAi.1 a with rfl | a
  ·omega
  have:=c z a;omega
def JC:∀l:List Int,(nQ l).Pairwise (·<·)/\∀z,z∈nQ l↔z∈l:=by
 refine JK ⟨.nil,λz=>qDe⟩ λl x ih=>?_;have e:nQ (l++[x])=pB x (nQ l):=by rw[nQ,qCs];rfl
 rw[e];refine⟨IC x ih.1,λz=>?_⟩;rw[EW,ih.2 z,qAj,iO];exact Or.comm
def Gg(h:l.Pairwise (·<=·))(f:∀z,z∈l↔z∈m):UE l=nQ m:=by obtain⟨a,c,_⟩:=ZmL h l.length (DO _);obtain⟨d,e⟩:=JC m;exact IS a d λz=>by rw[UE,c,e,qAh];exact f z
def HX{p:Nat}(a:m=(gT b).map λx=>(iZ b x).get p):gapL b p=nQ m:=by rw[gapL];exact Gg (Kn _) λz=>by rw[(HO _).mem_iff,a]
def Gb[Enc α]{a:Hp}{E:TypeId}{v:Value}{l:List α}{b:Option Nat}(h:gL a H E v l b):∃A c,v=.slice A l.length c:=by obtain⟨A,c,d,_⟩:=h.sl;exact⟨A,c,d⟩
