import Derived.Test.YtmfealhfgccmfaaGreatDoorTB01
set_option linter.all false
set_option maxHeartbeats 16000000
set_option maxRecDepth 20000
def aAy{G:Prop}(h:G:=by
  refine Y ?_;refine Zh (OL _) rfl (ZM (hj4.inc _ _ gn)) (Y ?_);rw[KY];refine ZP (vs:=[vi (b.ms.length-r:Nat)]) rfl rfl (Yv U (ih (p++[v]) _ _ _ O (by rw[IN,qAW];omega) ha4 hj4)) ?_;rintro w H5 ⟨a5,ha5,⟨rfl,To⟩ | ⟨rfl,To⟩⟩
  ·refine Y ?_;exact⟨(⟨k+1,O⟩,a5),gI O,⟨ha5.xR,To⟩,⟨rfl,rfl,rfl,rfl,rfl,sv,trivial⟩,trivial,rfl⟩
  refine Y ?_;exact⟨a5,ha5.xR,.inr ⟨rfl,To⟩⟩):G:=h
def aAw{G:Prop}(h:G:=by
  refine Y ?_;refine YL ha (Y ?_);refine ZP rfl rfl (hf _ (iN mF)) ?_;rintro w _ ⟨rfl,rfl⟩;have ht:=Hi mF lZ;cases hp:p l[j]with
  | true=>
   refine Y ?_;exact⟨rfl,j,rfl,λ_=>Hh mF hp,λ_=>O⟩
  | false=>
   rw[hp]at ht;refine Y ?_;exact⟨⟨j+1,O⟩,gI O,⟨rfl,ht⟩,V,trivial,rfl⟩):G:=h
def aAv{G:Prop}(h:G:=by
  rintro w _ ⟨rfl,n,rfl,e⟩;refine Y ?_;refine⟨rfl,?_⟩;show vb _=vb _;congr 1;cases h:l.any p with
  | true=>exact decide_eq_true (e.2 h)
  | false=>exact qAU λg=>by rw[e.1 g]at h;simp at h):G:=h
def aAs{G:Prop}(h:G:=by have:j=l.length:=O;subst this;rw[qAh]at lZ;refine Y ?_;exact⟨rfl,-1,rfl,λe=>O,λe=>by rw[lZ]at e;simp at e⟩):G:=h
def aAr{G:Prop}(h:G:=by refine Y ?_;exact⟨(⟨j+1,O⟩,(k,n+1)),q2,⟨rfl,aAD (up O)⟩,V,trivial,rfl⟩):G:=h
def aAq{G:Prop}(h:G:=by refine Y ?_;exact⟨(⟨j+1,O⟩,(k,n)),q2,⟨rfl,aAE (no O)⟩,V,trivial,rfl⟩):G:=h
open Go Go.LL
namespace Go.Proofs
variable{α:Type}{a:List Int}{fv:Value}{r jC:Nat}{E:TypeId}{z:Int}
def Hi{p:α->Bool}{l:List α}{j:Nat}(b:j<l.length)(h:(l.take j).any p=false):(l.take (j+1)).any p=p l[j]:=by rw[BY b,qDc,h,qDO,List.any_cons,List.any_nil,Bool.or_false]
def Hh{p:α->Bool}{l:List α}{j:Nat}(b:j<l.length)(h:p l[j]=true):l.any p=true:=qCj.2 ⟨_,iN b,h⟩
def spB(c b n:Int)(x:NK):Bool:=decide ((c<=x.lo/\x.lo<=x.hi/\x.hi<=b)/\x.hi-x.lo<n)
section
variable{P:fP}[Tz P][Loud P]{H:Hp}
def tB{b:BBk}:LL.Zb P 165 #[b.v] H λv c=>H=c/\v=vi b.ms.length:=by refine aU.m (fO Dp) rfl ?_;unfold HS BBk.v;refine Y ?_;exact⟨rfl,rfl⟩
def y8{b:BBk}(n:Int)(f:b.ms.length<=1000000):LL.Zb P 89 #[b.v,vi n] H λv e=>H=e/\v=vi (if 0<=n/\n<=(b.ms.length:Int)-1 then 0 else 6):=by
 refine aU.m (fO Dx) rfl ?_;unfold IB;show Zc.m _ _ _ _ _;unfold BBk.v;refine Y ?_;refine Zg (vs:=[b.v]) tB ?_;rintro w _ ⟨rfl,rfl⟩;refine Y ?_;refine Zg (vs:=[vi n,vi 0,vi ((b.ms.length:Int)-1)]) (nQ _ _ _) ?_;rintro w _ ⟨rfl,rfl⟩;by_cases h:0<=n/\n<=(b.ms.length:Int)-1
 ·rw[decide_eq_true h,qAa h];refine Y ?_;exact⟨rfl,rfl⟩
 rw[qAU h,iF h];refine Y ?_;exact⟨rfl,rfl⟩
def Wfo{b:BBk}:LL.Zb P 395 #[b.v] H λv o=>H=o/\∃s,v=vi s/\(s=0↔qW b):=by
 have j:¬ qW b->∃s,vi 1=vi s/\(s=0↔qW b):=λh=>⟨1,rfl,λe=>O,λg=>absurd g h⟩;refine aU.m (fO Dr) rfl ?_;unfold HU BBk.v;refine Y ?_;refine Zg (vs:=[vi b.bd,vi 0,vi 99]) (nQ _ _ _) ?_;rintro w _ ⟨rfl,rfl⟩;by_cases c:0<=b.bd/\b.bd<=99;rotate_left
 ·rw[qAU c];refine Y ?_;exact⟨rfl,j λg=>c g.1⟩
 rw[decide_eq_true c];refine Y ?_;refine Zg (vs:=[vi b.tw,vi 0,vi 99]) (nQ _ _ _) ?_;rintro w _ ⟨rfl,rfl⟩;by_cases f:0<=b.tw/\b.tw<=99;rotate_left
 ·rw[qAU f];refine Y ?_;exact⟨rfl,j λg=>f g.2.1⟩
 rw[decide_eq_true f];refine Y ?_;refine Zg (vs:=[vi b.tn,vi 0,vi 5]) (nQ _ _ _) ?_;rintro w _ ⟨rfl,rfl⟩;by_cases i:0<=b.tn/\b.tn<=5;rotate_left
 ·rw[qAU i];refine Y ?_;exact⟨rfl,j λg=>i g.2.2⟩
 rw[decide_eq_true i];refine Y ?_;exact⟨rfl,0,rfl,λ_=>⟨c,f,i⟩,λ_=>rfl⟩
def E5{a b i g n:Int}(k:-10000<=i/\g<=10000):LL.Zb P 90 #[.agg #[vi a,vi b],vi i,vi g,vi n] H λv j=>H=j/\v=vb (spB i g n ⟨a,b⟩):=by
 refine aU.m (fO Dw) rfl ?_;unfold IA spB;refine Y ?_;by_cases c:i<=a;rotate_left
 ·rw[qAU c];refine Y ?_;exact⟨rfl,by rw[qAU (λh=>c h.1.1)];rfl⟩
 rw[decide_eq_true c];refine Y ?_;by_cases e:a<=b;rotate_left
 ·rw[qAU e];refine Y ?_;exact⟨rfl,by rw[qAU (λh=>e h.1.2.1)];rfl⟩
 rw[decide_eq_true e];refine Y ?_;by_cases f:b<=g;rotate_left
 ·rw[qAU f];refine Y ?_;exact⟨rfl,by rw[qAU (λh=>f h.1.2.2)];rfl⟩
 rw[decide_eq_true f];refine Y ?_;exact⟨rfl,by show vb _=vb _;congr 1;rw[qCO];exact⟨λh=>⟨⟨c,e,f⟩,h⟩,λh=>h.2⟩⟩
def Wfv{x:NK}:LL.Zb P 399 #[.agg #[vi x.lo,vi x.hi]] H λv b=>H=b/\v=vb (!spB 0 959 3 x):=by refine aU.m (fO Dv) rfl ?_;unfold HZ;refine Y ?_;refine Zo (vs:=[.agg #[vi x.lo,vi x.hi],vi 0,vi 959,vi 3]) (E5 (by decide)) (Y ?_);exact⟨rfl,rfl⟩
def Wfx{v:Value}{l:List NK}{p:NK->Bool}(hf:∀x∈l,Z5 P fv #[.agg #[vi x.lo,vi x.hi]] H λv b=>H=b/\v=vb (p x))(c:dF H v l)(i:l.length<=1000000) :
  LL.Zb P 400 #[v,fv] H λv b=>H=b/\∃n:Int,v=vi n/\(0<=n↔l.any p=true):=by
 refine aU.m (fO Dy) rfl ?_;unfold IC;refine Y ?_;refine YH c rfl (Y ?_);refine ZC l.length (λj b=>H=b/\(l.take j).any p=false) (λj=>[(0,v),(1,fv),(7,vi l.length),(8,vi j)]) (λj=>[]) ⟨rfl,rfl⟩ V trivial ?_;rintro j _ h ⟨rfl,lZ⟩;refine OJ (λe=>?_) (λe=>?_)
 ·have mF:j<l.length:=O;refine Y ?_;refine ZB j c mF λa ha=>?_;have ha:aM H a [vi l[j].lo,vi l[j].hi]:=ha;exact aAw
 exact aAs
def WfD{v:Value}{l:List NK}{p:NK->Bool}(c:∀x∈l,Z5 P fv #[.agg #[vi x.lo,vi x.hi]] H λv b=>H=b/\v=vb (p x))(e:dF H v l)(f:l.length<=1000000) :
  LL.Zb P 398 #[v,fv] H λv b=>H=b/\v=vb (l.any p):=by
 refine aU.m (fO Du) rfl ?_;unfold HY;refine Y ?_;refine Z7 (vs:=[v,fv]) rfl (Wfx c e f) ?_;exact aAv
def IX{x:NK}:spB 0 959 3 x=true↔uJ x:=by unfold spB uJ;rw[qAN]
def Wft{b:BBk}(hb:gT H b)(l:b.ms.length<=1000000):LL.Zb P 396 #[b.v] H λv k=>H=k/\∃s,v=vi s/\(s=0↔uK b.ms):=by
 refine aU.m (fO Ds) rfl ?_;unfold HV;show Zc.m _ _ _ _ _;unfold BBk.v;refine Y ?_;refine Zo (vs:=[b.v]) tB (Y ?_);refine Zo (vs:=[vi b.ms.length,vi 3,vi 7]) (nQ _ _ _) ?_;by_cases j:(3:Int)<=b.ms.length/\(b.ms.length:Int)<=7;rotate_left
 ·rw[qAU j];exact aAk
 rw[decide_eq_true j];refine Y ?_;refine Zo (vs:=[.slice b.A1 b.ms.length b.c1,vf 399]) (WfD (p:=λx=>!spB 0 959 3 x) (λx _=>Yv U Wfv) hb.ms l) ?_;cases h:b.ms.any λx=>!spB 0 959 3 x with
 | true=>
  refine Y ?_;refine⟨rfl,1,rfl,λe=>O,λg=>?_⟩;obtain⟨x,n,e⟩:=qCj.1 h;obtain⟨i,f,rfl⟩:=List.getElem_of_mem n;rw[IX.2 (g.2 i f)]at e;simp at e
 | false=>
  refine Y ?_;refine⟨rfl,0,rfl,λ_=>⟨O,λi f=>?_⟩,λ_=>rfl⟩;have:=List.any_eq_false.1 h _ (iN f);exact IX.1 (by simpa using this)
def Wfq{b:BBk}(hb:gT H b)(B:b.ms.length<=1000000)(C:b.rl.length<=1000000):LL.Zb P 397 #[b.v] H λw A=>H=A/\∃s,w=vi s/\(s=0↔rU b.ms.length b.rl):=by
 refine aU.m (fO Dt) rfl ?_;unfold HX BBk.v;refine OJ (λI=>?_) (λI=>?_)
 ·exact aAk
 refine Y ?_;refine ZC b.rl.length (λj A=>H=A/\∀i (hi:i<b.rl.length),i<j->uL b.ms.length b.rl[i]) (λj=>[(1,vi 0),(12,.slice b.A2 b.rl.length b.c2),(13,vi b.rl.length),(14,vi j)]) (λ_=>[(1,b.cs)]) ⟨rfl,O⟩ V V ?_;rintro j _ L ⟨rfl,lZ⟩;unfold BBk.cs;refine OJ (λJ=>?_) (λJ=>?_)
 ·have l:j<b.rl.length:=O;have u:∀n:Int,n≠0->¬ uL b.ms.length b.rl[j]->∃s,vi n=vi s/\(s=0↔rU b.ms.length b.rl):=λn C h=>⟨n,rfl,λe=>absurd e C,λg=>absurd (g.2 j l) h⟩;have row:∀{a},aM H a (Enc.enc b.rl[j])->aM H a [vi b.rl[j].a,vi b.rl[j].b,vi b.rl[j].lo,vi b.rl[j].hi]:=λh=>h;generalize D:b.rl[j]=x at *;refine Y ?_;refine ZB j hb.rl l λa t=>?_;rw[D]at t;have t:=row t;refine Y ?_;refine YL t (Y ?_);refine Zg (vs:=[b.v,vi x.a]) (y8 _ B) ?_;rintro w _ ⟨rfl,rfl⟩;by_cases o:0<=x.a/\x.a<=(b.ms.length:Int)-1;rotate_left
  ·rw[iF o];refine Y ?_;exact⟨rfl,u 6 (by decide) λg=>o g.1.1⟩
  rw[qAa o];refine Y ?_;refine Zg (vs:=[b.v,vi x.b]) (y8 _ B) ?_;rintro w _ ⟨rfl,rfl⟩;by_cases p:0<=x.b/\x.b<=(b.ms.length:Int)-1;rotate_left
  ·rw[iF p];refine Y ?_;exact⟨rfl,u 6 (by decide) λg=>p g.1.2⟩
  rw[qAa p];refine OJ (λK=>?_) (λK=>?_)
  ·refine Y ?_;exact⟨rfl,u 7 (by decide) λg=>by have:=g.2.1;omega⟩
  refine Y ?_;refine Zg (vs:=[.agg #[vi x.lo,vi x.hi],vi (-959),vi 959,vi 1919]) (E5 (by decide)) ?_;rintro w _ ⟨rfl,rfl⟩;by_cases q:-959<=x.lo/\x.lo<=x.hi/\x.hi<=959;rotate_left
  ·rw[show spB (-959) 959 1919 ⟨x.lo,x.hi⟩=false from qAU λg=>q g.1];refine Y ?_;exact⟨rfl,u 1 (by decide) λg=>q g.2.2⟩
  rw[show spB (-959) 959 1919 ⟨x.lo,x.hi⟩=true from decide_eq_true ⟨q,by show x.hi-x.lo<1919;omega⟩];refine Y ?_;exact⟨⟨j+1,O⟩,gI O,⟨rfl,λi hi h=>by
   rcases qAv.1 h with G | rfl
   ·exact lZ i hi G
   rw[D];exact⟨⟨o,p⟩,O,q⟩⟩,V,V,rfl⟩
 exact aAl
def QR{b:BBk}(u:oE H)(hb:gT H b)(p:b.ms.length<=1000000)(l:b.rl.length<=1000000):LL.Zb P 88 #[b.v] H λv f=>H=f/\∃s,v=vi s/\(s=0↔BOk b):=by
 have o:∀n:Int,n≠0->¬ BOk b->∃s,vi n=vi s/\(s=0↔BOk b):=λn l h=>⟨n,rfl,λe=>absurd e l,λg=>absurd g h⟩;refine aU.m (fO Bh) rfl ?_;unfold HQ;show Zc.m _ _ _ _ _;unfold BBk.v;refine Y ?_;refine YL u (Y ?_);refine ZC 3 (λj f=>H=f/\(0<j->qW b)/\(1<j->uK b.ms)/\(2<j->rU b.ms.length b.rl)) (λj=>[(1,vi 0),(6,.agg #[vf 395,vf 396,vf 397]),(7,vi j)]) (λ_=>[(1,b.cs)]) ⟨rfl,O,O,O⟩ V V ?_;rintro j _ A ⟨rfl,k1,q,w⟩;unfold BBk.cs;refine OJ (λt=>?_) (λt=>?_)
 ·have k:j=0\/j=1\/j=2:=O;refine Y ?_;rcases k with rfl | rfl | rfl
  ·refine uH (fU y7) (fT y6) (rD EW) rfl rfl (i:=0) O rfl (Y ?_);refine ZP (vs:=[b.v]) rfl rfl (Yv U Wfo) ?_;rintro v _ ⟨rfl,s,rfl,e⟩;refine OJ (λc=>?_) (λc=>?_)
   ·refine Y ?_;exact⟨rfl,o s c λg=>c (e.2 g.st)⟩
   refine Y ?_;exact⟨⟨1,O⟩,(by show 3-1<3-0;omega),⟨rfl,λ_=>e.1 O,λh=>absurd (show _<_ from h) (by simp),λh=>absurd (show _<_ from h) (by simp)⟩,V,V,rfl⟩
  ·refine uH (fU y7) (fT y6) (rD EW) rfl rfl (i:=1) O rfl (Y ?_);refine ZP (vs:=[b.v]) rfl rfl (Yv U (Wft hb p)) ?_;rintro v _ ⟨rfl,s,rfl,e⟩;refine OJ (λc=>?_) (λc=>?_)
   ·refine Y ?_;exact⟨rfl,o s c λg=>c (e.2 g.ms)⟩
   refine Y ?_;exact⟨⟨2,O⟩,(by show 3-2<3-1;omega),⟨rfl,λ_=>k1 (by decide),λ_=>e.1 O,λh=>absurd (show _<_ from h) (by simp)⟩,V,V,rfl⟩
  refine uH (fU y7) (fT y6) (rD EW) rfl rfl (i:=2) O rfl (Y ?_);refine ZP (vs:=[b.v]) rfl rfl (Yv U (Wfq hb p l)) ?_;rintro v _ ⟨rfl,s,rfl,e⟩;refine OJ (λc=>?_) (λc=>?_)
  ·refine Y ?_;exact⟨rfl,o s c λg=>c (e.2 g.rl)⟩
  refine Y ?_;exact⟨⟨3,O⟩,(by show 3-3<3-2;omega),⟨rfl,λ_=>k1 (by decide),λ_=>q (by decide),λ_=>e.1 O⟩,V,V,rfl⟩
 refine Y ?_;exact⟨rfl,0,rfl,λ_=>⟨k1 O,q O,w O⟩,λ_=>rfl⟩
end
def uI:Tryz.prog.underlying 53=some (.slice 180):=U
def ET:Yw Tryz.prog 180=some (4,some (.agg #[vi 0,vi 0,vi 0,vi 0]),32):=U
def rH(l:List Int):List Int:=lB (mJ l)
def iZ:List Int->Int->Int->Int
 | [],_,n=>n
 | k :: r,a,n=>if k=0 then iZ r a n else iZ r k (if(k > 0/\a<0)\/(k<0/\a > 0)then n+1 else n)
def qS(m k:Int):Bool:=!decide (-m<=k/\k<=m)
def qF(b:BBk)(l:List Int):Bool:=(!(mJ l).any (qS b.bd)) && ((!(rH l).any (qS b.tw)) && decide (iZ (mJ l) 0 0<=b.tn))
def rlB(l:List Int)(r:BRl):Bool:=decide (r.lo<=l.getD r.b.toNat 0-l.getD r.a.toNat 0/\l.getD r.b.toNat 0-l.getD r.a.toNat 0<=r.hi)
def nE(b:BBk)(l:List Int):Bool:=!b.rl.any λr=>!rlB l r
def E7{l:List Int}{m:Int}(h:∀z∈l,-m<=z/\z<=m):∀z∈lB l,-(2 * m)<=z/\z<=2 * m:=by intro z c;obtain⟨i,b,rfl⟩:=qAz.1 c;rw[qX]at b;rw[<-ZG (by rw[qX];exact b) 0,M2 b,ZG O,ZG O];have e:=h _ (iN (show i+1<l.length by omega));have f:=h _ (iN (show i<l.length by omega));exact⟨O,O⟩
def WfE{H:Hp}{n c:Nat}(f:n<=a.length)(h:H r=some (.cells (nD a).toArray E,true)):dF H (.slice (some ⟨r,0,none⟩) n c) (a.take n):=by
 have b:(a.take n).length=n:=by rw[qAs];omega
 refine⟨some ⟨r,0,none⟩,c,by rw[b],λ_=>⟨_,rfl,?_⟩⟩;have e:nD a=Zd (a.take n)++nD (a.drop n):=by
  rw[UC,nD,nD];conv=>lhs;rw[<-qCq n a]
  rw[qBt]
 rw[e]at h;exact YN (ZM h)
section
variable{P:fP}[Tz P][Loud P]{H:Hp}{d:Option Nat}{next:fG->Hp->Prop}{σ:fG}{x y:Operand}
def rG{b ln i:Nat}{a:Addr}{k:IntKind}{n:Int}(c:σ.get x=some (.pointer (some a)))(f:σ.get y=some (.int k n))(e:n=(i:Int))(g:i<ln)
  (h:next (σ.set d (.pointer (some (a.add (i * b))))) H):(fR.nH b ln x y).m P d next σ H:=by
 subst e;simp only[fR.m,c,f];exact⟨a,rfl,⟨O,O⟩,by simpa using h⟩
end
section
variable{P:fP}[Tz P][Loud P]{H:Hp}
def Wfj(a b c e:Int):LL.Zb P 91 #[.agg #[vi a,vi b],.agg #[vi c,vi e]] H λv f=>H=f/\v=.tuple #[.agg #[vi (max a c),vi (min b e)],vb (decide (max a c<=min b e))]:=by refine aU.m (fO Da) rfl ?_;unfold JV;refine Y ?_;refine yG rfl rfl (Y ?_);refine EH rfl rfl (Y ?_);exact⟨rfl,rfl⟩
def WfJ{v:Value}{l:List BRl}(C:dF H v l)(h:l.length<=1000000):LL.Zb P 167 #[v] H λp i=>H.Sub i/\∃b,gL H i 180 p l b:=by
 have f:P.still H.gh=false:=Loud.fD _;obtain⟨A,c,rfl,o⟩:=C;refine aU.m (fO Dj) rfl ?_;unfold I4;refine Y ?_;refine yV (fU uI) rfl ?_;refine OJ (λn=>?_) (λn=>?_)
 ·refine Y ?_;have:l=[]:=qAb λh=>by obtain⟨a,rfl,_⟩:=o h;simp at n
  subst this;exact⟨.refl H,none,.nil H _ 180⟩
 refine Y ?_;refine rT (fU uI) (fT ET) f λr j=>Y ?_;have g:P.still (H.ins r (.cells #[] 180)).gh=false:=f;refine uG (l:=([]:List BRl)) (l':=l) (fU uI) (fU uI) (fT ET) rfl (by decide) (YB j) (H0:=H) (b:=some r) ⟨wA,λq e=>by obtain rfl:=aT e;exact j⟩ ⟨A,c,rfl,λh=>by obtain⟨a,t,u⟩:=o h;exact⟨a,t,u.sub (YB j)⟩⟩ (sU (λ_=>rfl) l) (by simp;omega) O rfl rfl g λp i s w k F=>Y ?_;exact⟨w,s,by rw[qAt]at k;exact k⟩
def EY{b:BBk}{a:List Int}(I:a.length=7)(K:b.ms.length<=7)(A:∀z∈a,-1000<=z/\z<=1000):LL.Zb P 310 #[b.v,x7 a] H λv i=>fI H i/\∃t,gL H i 3 v (mJ (a.take b.ms.length)) t:=by
 refine aU.m (fO Bg) rfl ?_;unfold NA;show Zc.m _ _ _ _ _;unfold BBk.v;refine Y ?_;refine Ug rfl (OL _) λr h=>?_;have j:=Zt (o:=.cells (nD a).toArray 189) h;have f:∀z∈a.take b.ms.length,-1000<=z/\z<=1000:=λz g=>A z (qDC g);have J:(a.take b.ms.length).length=b.ms.length:=by rw[qAs];omega
 refine Y ?_;refine Zo (vs:=[b.v]) tB (Y ?_);refine Ztb (hi:=b.ms.length) (k:=.i64) (fU Gz) (fT t3) O rfl (.inr ⟨_,rfl,rfl⟩) O (Y ?_);refine Zg (vs:=[.slice (some ⟨r,0,none⟩) b.ms.length 7]) (E8 (l:=a.take b.ms.length) (WfE O (Hp.aQ _ _ _)) O (λz g=>by have:=f z g;exact⟨O,O⟩)) ?_;rintro v D ⟨n,G,C⟩;have u:=E7 f;have w:=qX (a.take b.ms.length);refine Y ?_;refine Zg (vs:=[v]) (E8 C.sl O (λz g=>by have:=u z g;exact⟨O,O⟩)) ?_;rintro v F ⟨B,s,p⟩;refine Y ?_;exact⟨(j.trans n).trans B,s,p.own,λq e=>YP ((j.trans n)) (p.fresh q e)⟩
def NE{l:List Int}(h:∀z∈l,-1000<=z/\z<=1000):∀z∈mJ l,-4000<=z/\z<=4000:=λz b=>by have:=E7 (m:=2000) (λz b=>by have:=E7 h z b;omega) z b;omega
def sY(h:a.length=7):∃z0 b c e f g i,a=[z0,b,c,e,f,g,i]:=by
 match a,h with
 | [z0,b,c,e,f,g,i],_=>exact⟨_,_,_,_,_,_,_,rfl⟩
def Wfm{b:BBk}(i:a.length=7)(s:b.ms.length<=7)(j:∀z∈a,-1000<=z/\z<=1000):LL.Zb P 311 #[b.v,x7 a] H λv h=>fI H h/\∃p,gL H h 3 v (rH (a.take b.ms.length)) p:=by have t:∀z∈a.take b.ms.length,-1000<=z/\z<=1000:=λz g=>j z (qDC g);have hb:=NE t;have f:=E6 (a.take b.ms.length);rw[qAs]at f;have cB:=@EY P _ _ H b a i s j;generalize a.take b.ms.length=l at *;obtain⟨z0,A,B,C,D,F,G,rfl⟩:=sY i;refine aU.m (fO Bs) rfl ?_;unfold JF;show Zc.m _ _ _ _ _;unfold BBk.v;refine Y ?_;refine Zg (vs:=[b.v,x7 [z0,A,B,C,D,F,G]]) cB ?_;rintro v I ⟨k,K,w⟩;refine Y ?_;refine Zg (vs:=[v]) (E8 w.sl O (λz g=>by have:=hb z g;exact⟨O,O⟩)) ?_;rintro v J ⟨u,o,n⟩;refine Y ?_;exact⟨k.trans u,o,n.own,λq e=>YP k (n.fresh q e)⟩
def Wfn{b:BBk}(u:a.length=7)(F:b.ms.length<=7)(w:∀z∈a,-1000<=z/\z<=1000):LL.Zb P 312 #[b.v,x7 a] H λv i=>fI H i/\v=vi (iZ (mJ (a.take b.ms.length)) 0 0):=by
 have I:∀z∈a.take b.ms.length,-1000<=z/\z<=1000:=λz J=>w z (qDC J);have hb:=NE I;have t:=E6 (a.take b.ms.length);rw[qAs]at t;have cB:=@EY P _ _ H b a u F w;generalize mJ (a.take b.ms.length)=l at *;obtain⟨z0,R,S,T,U,W,X,rfl⟩:=sY u;refine aU.m (fO Bt) rfl ?_;unfold JH;show Zc.m _ _ _ _ _;unfold BBk.v;refine Y ?_;refine Zg (vs:=[b.v,x7 [z0,R,S,T,U,W,X]]) cB ?_;rintro v B ⟨K,Z,L⟩;have A:=L.sl;refine Y ?_;refine YH A rfl (Y ?_);refine Yp (α:=Int×Int) l.length (λj s i=>B=i/\iZ l 0 0=iZ (l.drop j) s.1 s.2/\0<=s.2/\s.2<=j) (λj s=>[(5,vi s.2),(6,vi s.1),(11,v),(12,vi l.length),(13,vi j)]) (λ_ _=>[]) (0,0) ⟨rfl,rfl,by decide,by decide⟩ V trivial ?_;rintro j ⟨m,n⟩ _ hj ⟨rfl,c,q,D⟩;simp only at c q D;refine OJ (λC=>?_) (λC=>?_)
 ·have e:j<l.length:=O;have hk:=hb _ (iN e);rw[qCv e,iZ]at c;refine Y ?_;refine ZB j A e λp G=>Y ?_;refine Z8 (v:=vi l[j]) G ?_;generalize l[j]=k at *;refine OJ (λo=>?_) (λo=>?_)
  ·rw[qAa o]at c;refine Y ?_;exact⟨(⟨j+1,O⟩,(m,n)),gI O,⟨rfl,c,q,by show n<=(j+1:Nat);omega⟩,V,trivial,rfl⟩
  rw[iF o]at c;have up:((k > 0/\m<0)\/(k<0/\m > 0))->iZ l 0 0=iZ (l.drop (j+1)) k (n+1):=λh=>by rw[c,qAa h]
  have no:¬ ((k > 0/\m<0)\/(k<0/\m > 0))->iZ l 0 0=iZ (l.drop (j+1)) k n:=λh=>by rw[c,iF h]
  have aAD:iZ l 0 0=iZ (l.drop (j+1)) k (n+1)->iZ l 0 0=iZ (l.drop (j+1)) (k,n+1).1 (k,n+1).2/\0<=(k,n+1).2/\(k,n+1).2<=((j+1:Nat):Int):=λh=>⟨h,by show 0<=n+1;omega,by show n+1<=_;omega⟩;have aAE:iZ l 0 0=iZ (l.drop (j+1)) k n->iZ l 0 0=iZ (l.drop (j+1)) (k,n).1 (k,n).2/\0<=(k,n).2/\(k,n).2<=((j+1:Nat):Int):=λh=>⟨h,q,by show n<=_;omega⟩;have q2:l.length-(j+1)<l.length-j:=gI O;clear c;refine OJ (λM=>?_) (λM=>?_)
  ·refine OJ (λN=>?_) (λN=>?_)
   ·exact aAr
   refine OJ (λf=>?_) (λf=>?_)
   ·exact absurd f O
   exact aAq
  refine OJ (λf=>?_) (λf=>?_)
  ·refine OJ (λQ=>?_) (λQ=>?_)
   ·exact aAr
   exact aAq
  exact absurd f O
 have:j=l.length:=O;subst this;rw[qCQ,iZ]at c;refine Y ?_;exact⟨K,by rw[c];rfl⟩
def M4{m:Int}:LL.Zb P 308 #[vi m] H λv b=>fI H b/\∃r,v=.func (.func 309) #[] #[pt r]/\b r=some (.cells #[vi m] 3,true):=by refine aU.m (fO Bq) rfl ?_;unfold JD;refine Y ?_;refine Ug rfl (OL _) λr c=>Y ?_;refine VW rfl rfl (Y ?_);exact⟨Zt c,r,rfl,Hp.aQ _ _ _⟩
def M3{m k:Int}(c:0<=m/\m<=1000)(h:H r=some (.cells #[vi m] 3,true)):LL.Zb P 309 #[vi k,pt r] H λv b=>H=b/\v=vb (qS m k):=by refine aU.m (fO Br) rfl ?_;unfold JE;refine Y ?_;refine Zh (OL _) rfl (ZM (cs:=[vi m]) h) (Y ?_);refine BO rfl ⟨O,O⟩ (Y ?_);refine Zh (OL _) rfl (ZM (cs:=[vi m]) h) (Y ?_);refine Zo (vs:=[vi k,vi (-m),vi m]) (nQ _ _ _) (Y ?_);exact⟨rfl,rfl⟩
def WfC{b:BBk}{a:List Int}(st:qW b)(h:a.length=7)(n:b.ms.length<=7)(o:∀z∈a,-1000<=z/\z<=1000):LL.Zb P 242 #[b.v,x7 a] H λv e=>fI H e/\v=vb (qF b (a.take b.ms.length)):=by
 have l:=E6 (a.take b.ms.length);rw[qAs]at l;have G:(rH (a.take b.ms.length)).length<=7:=by unfold rH;rw[qX];omega
 have cB:∀{H},LL.Zb P 310 #[b.v,x7 a] H λv e=>fI H e/\∃k,gL H e 3 v (mJ (a.take b.ms.length)) k:=EY h n o;have cT:∀{H},LL.Zb P 311 #[b.v,x7 a] H λv e=>fI H e/\∃k,gL H e 3 v (rH (a.take b.ms.length)) k:=Wfm h n o;have cU:∀{H},LL.Zb P 312 #[b.v,x7 a] H λv e=>fI H e/\v=vi (iZ (mJ (a.take b.ms.length)) 0 0):=Wfn h n o;obtain⟨R,S,T⟩:=st;unfold qF;generalize mJ (a.take b.ms.length)=J at *;generalize rH (a.take b.ms.length)=K at *;obtain⟨z0,s,t,u,w,A,B,rfl⟩:=sY h;refine aU.m (fO Bn) rfl ?_;unfold JB;show Zc.m _ _ _ _ _;unfold BBk.v;refine Y ?_;refine Zg (vs:=[b.v,x7 [z0,s,t,u,w,A,B]]) cB ?_;rintro v W ⟨p,b1,L⟩;refine Zz OL (Y ?_);refine ZP rfl rfl (Yv U (M4 (m:=b.bd))) ?_;rintro v2 X ⟨i,N,rfl,D⟩;refine Y ?_;refine Zg (vs:=[v,.func (.func 309) #[] #[pt N]]) (Zz8 (f:=qS b.bd) (λc _=>Yv U (M3 O D)) (L.sl.inc i) O (OL _)) ?_;rintro v3 _ ⟨rfl,rfl⟩;cases h1:J.any (qS b.bd)with
 | true=>
  refine Y ?_;exact⟨p.trans i,rfl⟩
 | false=>
 refine Y ?_;refine Zg (vs:=[b.v,x7 [z0,s,t,u,w,A,B]]) cT ?_;rintro V Z ⟨C,b4,M⟩;refine Zz OL (Y ?_);refine ZP rfl rfl (Yv U (M4 (m:=b.tw))) ?_;rintro v5 H5 ⟨q,Q,rfl,F⟩;refine Y ?_;refine Zg (vs:=[V,.func (.func 309) #[] #[pt Q]]) (Zz8 (f:=qS b.tw) (λc _=>Yv U (M3 O F)) (M.sl.inc q) O (OL _)) ?_;rintro v6 _ ⟨rfl,rfl⟩;cases h2:K.any (qS b.tw)with
 | true=>
  refine Y ?_;exact⟨((p.trans i).trans C).trans q,rfl⟩
 | false=>
 refine Y ?_;refine Zg (vs:=[b.v,x7 [z0,s,t,u,w,A,B]]) cU ?_;rintro v7 H7 ⟨I,rfl⟩;refine Zz OL (Y ?_);exact⟨(((p.trans i).trans C).trans q).trans I,rfl⟩
def Es{v:Value}{l:List BRl}{p:BRl->Bool}(hf:∀x∈l,Z5 P fv #[.agg #[vi x.a,vi x.b,vi x.lo,vi x.hi]] H λv c=>H=c/\v=vb (p x))(e:dF H v l)(k:l.length<=1000000) :
  LL.Zb P 351 #[v,fv] H λv c=>H=c/\∃n:Int,v=vi n/\(0<=n↔l.any p=true):=by
 refine aU.m (fO Bw) rfl ?_;unfold JJ;refine Y ?_;refine YH e rfl (Y ?_);refine ZC l.length (λj c=>H=c/\(l.take j).any p=false) (λj=>[(0,v),(1,fv),(7,vi l.length),(8,vi j)]) (λj=>[]) ⟨rfl,rfl⟩ V trivial ?_;rintro j _ i ⟨rfl,lZ⟩;refine OJ (λf=>?_) (λf=>?_)
 ·have mF:j<l.length:=O;refine Y ?_;refine ZB j e mF λa ha=>?_;have ha:aM H a [vi l[j].a,vi l[j].b,vi l[j].lo,vi l[j].hi]:=ha;exact aAw
 exact aAs
def Ep{v:Value}{l:List BRl}{p:BRl->Bool}(e:∀x∈l,Z5 P fv #[.agg #[vi x.a,vi x.b,vi x.lo,vi x.hi]] H λv c=>H=c/\v=vb (p x))(f:dF H v l)(g:l.length<=1000000) :
  LL.Zb P 313 #[v,fv] H λv c=>H=c/\v=vb (l.any p):=by
 refine aU.m (fO Bu) rfl ?_;unfold E4;refine Y ?_;refine Z7 (vs:=[v,fv]) rfl (Es e f g) ?_;exact aAv
def Wfg{x:BRl}(s:a.length=7)(l:∀z∈a,-1000<=z/\z<=1000)(h:H r=some (.cells (nD a).toArray E,true))(n:0<=x.a/\x.a<7)(o:0<=x.b/\x.b<7) :
  LL.Zb P 314 #[.agg #[vi x.a,vi x.b,vi x.lo,vi x.hi],pt r] H λv f=>H=f/\v=vb (!rlB a x):=by
 have j:((x.a.toNat:Nat):Int)=x.a:=O;have k:((x.b.toNat:Nat):Int)=x.b:=O;have g:aM H ⟨r,0,none⟩ (nD a):=ZM h;have at_:∀i,i<7->aM H ((⟨r,0,none⟩:Addr).add (i * 1)) [vi (a.getD i 0)]:=λi c=>by rw[qCo];exact UG g (EX O)
 have e:∀i,i<7->-1000<=a.getD i 0/\a.getD i 0<=1000:=λi c=>by rw[ZG O];exact l _ (iN _)
 have t:=e x.a.toNat O;have u:=e x.b.toNat O;refine aU.m (fO Bv) rfl ?_;unfold JI;refine Y ?_;refine rG (i:=x.b.toNat) rfl rfl k.symm O (Y ?_);refine Zh (OL _) rfl (at_ _ O) (Y ?_);refine rG (i:=x.a.toNat) rfl rfl j.symm O (Y ?_);refine Zh (OL _) rfl (at_ _ O) ?_;unfold rlB;generalize a.getD x.b.toNat 0=p at *;generalize a.getD x.a.toNat 0=q at *;refine Y ?_;refine Zo (vs:=[vi (p-q),vi x.lo,vi x.hi]) (nQ _ _ _) (Y ?_);exact⟨rfl,rfl⟩
def Wfr{b:BBk}{a:List Int}(hb:gT H b)(ok:BOk b)(h:a.length=7)(k:∀z∈a,-1000<=z/\z<=1000):LL.Zb P 243 #[b.v,x7 a] H λv f=>fI H f/\v=vb (nE b a):=by have q:=ok.ms.1;have n:=ok.rl.1;refine aU.m (fO Bo) rfl ?_;unfold JC;show Zc.m _ _ _ _ _;unfold BBk.v;refine Y ?_;refine Ug rfl (OL _) λr c=>?_;have e:=Zt (o:=.cells (nD a).toArray 189) c;refine Y ?_;refine VW rfl rfl (Y ?_);refine Zg (vs:=[.slice b.A2 b.rl.length b.c2,.func (.func 314) #[] #[pt r]]) (Ep (p:=λx=>!rlB a x) (λx l=>Yv U (by obtain⟨i,j,rfl⟩:=List.getElem_of_mem l;have g:=(ok.rl.2 i j).1;exact Wfg h k (Hp.aQ _ _ _) O O)) (hb.rl.inc e) O) ?_;rintro v _ ⟨rfl,rfl⟩;refine Y ?_;exact⟨e,rfl⟩
end
def iH(p:List Int):List Int:=p++List.replicate (7-p.length) 0
def bE(p:List Int):List Value:=[x7 (iH p)]
def kG(b:BBk):List (Int×Int):=b.ms.map λx=>(x.lo,x.hi)
def mV(b:BBk)(p:List Int)(v:Int):Bool:=decide (2<=p.length) && !decide (-b.bd<=v-2 * p.getD (p.length-1) 0+p.getD (p.length-2) 0/\v-2 * p.getD (p.length-1) 0+p.getD (p.length-2) 0<=b.bd)
def oF(b:BBk)(i:Nat)(p:List Int):List (List Int):=jB (mV b) (λ_=>true) ((kG b).drop i) p
def gJ(b:BBk):List (List Int):=oF b 0 []
def sX(c f b e:Nat):Value:=.func (.func 307) #[] #[pt c,pt f,pt b,pt e]
structure Hd(G:Hp)(bc:List Value)(rb ry ra rn:Nat)(y:Value)(E1 E2 E3:TypeId):Prop where
 b:G rb=some (.cells bc.toArray E1,true)
 n:G rn=some (.cells #[sX rb ry ra rn] E2,true)
 y:G ry=some (.cells #[y] E3,true)
 d1:rb≠ra
 d2:rn≠ra
 d3:ry≠ra
structure ArB(jC:Nat)(p a:List Int):Prop where
 len:a.length=7
 tk:a.take p.length=p
 dr:a.drop jC=List.replicate (7-jC) 0
 rg:∀z∈a,0<=z/\z<=959
def ArB.pad{p:List Int}(h:ArB jC p a)(b:p.length=jC):a=iH p:=by
 rw[iH,b,<-h.dr];conv=>lhs;rw[<-qCq jC a]
 rw[<-b,h.tk]
def ArB.put{p:List Int}(h:ArB jC p a)(c:p.length<jC)(i:jC<=7)(f:0<=z/\z<=959):ArB jC (p++[z]) (a.set p.length z) where
 len:=by rw[qAe];exact h.len
 tk:=by have g:=h.len;rw[IN,qAW,BY (by rw[qAe];omega),List.getElem_set_self,qCY (DO _),h.tk]
 dr:=by rw[List.drop_set,qAa c];exact h.dr
 rg:=λx e=>by
  rcases qCu e with b | b
  ·exact h.rg x b
  rw[b];exact f
def ArB.xR{p:List Int}(h:ArB jC (p++[z]) a):ArB jC p a where
 len:=h.len
 tk:=by
  have:=h.tk;rw[IN,qAW]at this;have b:=qAx (List.take p.length) this;rw[List.take_take,qBX (Nat.le_succ _),List.take_left']at b
  ·exact b
  rfl
 dr:=h.dr
 rg:=h.rg
def ArB.at_{p:List Int}(h:ArB jC p a){j:Nat}(b:j<p.length):a.getD j 0=p.getD j 0:=by
 have e:=h.tk;have f:=h.len;have c:p.length<=7:=by rw[<-e,qAs];omega
 rw[ZG O,ZG b];have:(a.take p.length)[j]'(by rw[e];exact b)=p[j]:=by simp only[e]
 rw[<-this,qDp]
def Wfz{b:BBk}{p:List Int}{i:Nat}(c:i=b.ms.length):oF b i p=[p]:=by subst c;rw[oF,kG,qCG (by rw[qAd];exact DO _),jB,qAa rfl]
theorem WfA{b:BBk}{p:List Int}{i:Nat}(e:i<b.ms.length):oF b i p=oJ (λv=>if mV b p v then[]else oF b (i+1) (p++[v])) b.ms[i].hi (b.ms[i].hi-b.ms[i].lo+1).toNat:=by
 have f:(kG b).drop i=(b.ms[i].lo,b.ms[i].hi) :: (kG b).drop (i+1):=by rw[qCv (by rw[kG,qAd];exact e)];simp[kG]
 rw[oF,f,jB];rfl
section
variable{P:fP}[Tz P][Loud P]{H:Hp}
def Wfi{b:BBk}{y:Value}{E1 E2 E3:TypeId}{M:List (List Value)}{I:Nat->Hp->Prop}{S:Hp->Prop}(ok:BOk b)(hI:∀n,Up (I n))(hS:Up S)(hN:∀n H,I n H->gT H b)
  (hy:∀n (hn:n<M.length) H,I n H->Z5 P y (M[n]).toArray H (λv C=>(v=.bool true/\I (n+1) C)\/(v=.bool false/\S C))) (A X f W:Nat) {G:Hp} (L:Hd G b.cs A X f W y E1 E2 E3) :
  ∀(r:Nat) (p a:List Int) (rest:List (List Value)) (H:Hp),r<=b.ms.length->p.length=b.ms.length-r->ArB b.ms.length p a->JG (G.ins f (.cells (nD a).toArray 189)) (kB M I ((oF b (b.ms.length-r) p).map bE++rest)) H ->
   LL.Zb P 307 #[vi (b.ms.length-r:Nat),pt A,pt X,pt f,pt W] H λv C=>∃J,ArB b.ms.length p J/\((v=vb true/\JG (G.ins f (.cells (nD J).toArray 189)) (kB M I rest) C)\/(v=vb false/\JG (G.ins f (.cells (nD J).toArray 189)) S C)):=by
 have hU:∀{a rest H},JG (G.ins f (.cells (nD a).toArray 189)) (kB M I rest) H->gT H b:=λl=>by obtain⟨p,_,_,h⟩:=l.up (BL hI);exact hN p _ h
 have gb:∀{a},(G.ins f (.cells (nD a).toArray 189)) A=some (.cells b.cs.toArray E1,true):=by intro a;rw[Hp.aR _ _ L.d1];exact L.b
 have gn:∀{a},(G.ins f (.cells (nD a).toArray 189)) W=some (.cells #[sX A X f W] E2,true):=by intro a;rw[Hp.aR _ _ L.d2];exact L.n
 have gy:∀{a},(G.ins f (.cells (nD a).toArray 189)) X=some (.cells #[y] E3,true):=by intro a;rw[Hp.aR _ _ L.d3];exact L.y
 have hn7:=ok.ms.1
 have hbd:=ok.st.1
 intro r
 induction r with
 | zero=>
  intro p a rest H hr hp K l;rw[Wfz O,qDK,qDy,bE,<-K.pad O]at l;refine aU.m (fO NG) rfl ?_;unfold CK;have Z:aM H ⟨A,0,none⟩ b.cs:=ZM (l.inc _ _ gb);have ca:aM H ⟨f,0,none⟩ (nD a):=ZM (l.inc _ _ (Hp.aQ _ _ _));have T:(nD a).length=7:=by rw[nD,qAd];exact K.len
  refine Y ?_;refine YL Z (Y ?_);refine Zo (vs:=[b.v]) tB ?_;refine OJ (λR=>?_) (λR=>?_);rotate_left
  ·exact absurd O R
  refine Y ?_;refine Zh (OL _) rfl (ZM (l.inc _ _ gy)) (Y ?_);refine Zn (OL _) rfl ca T (Y ?_);refine ZP (vs:=[x7 a]) rfl rfl (JG.call (λH h=>kB.call (S:=S) hy h) l) ?_;rintro v H7 ⟨Hc,F,rfl,q1,q2,(⟨rfl,q3⟩ | ⟨rfl,q3⟩)⟩
  ·refine Y ?_;exact⟨a,K,.inl ⟨rfl,Hc,F,rfl,q1,q2,q3⟩⟩
  refine Y ?_;exact⟨a,K,.inr ⟨rfl,Hc,F,rfl,q1,q2,q3⟩⟩
 | succ r ih=>
  intro p a rest H hr hp K l;have s:b.ms.length-(r+1)<b.ms.length:=O;have KY:((b.ms.length-(r+1):Nat):Int)+1=(b.ms.length-r:Nat):=O;have SJ:b.ms.length-(r+1)+1=b.ms.length-r:=O;rw[WfA s,SJ]at l;generalize b.ms.length-(r+1)=i at *;obtain⟨hrg,hwd⟩:=ok.ms.2 i s;refine aU.m (fO NG) rfl ?_;unfold CK;have bk:=hU l;have Z:aM H ⟨A,0,none⟩ b.cs:=ZM (l.inc _ _ gb);refine Y ?_;refine YL Z (Y ?_);refine Zo (vs:=[b.v]) tB ?_;refine OJ (λR=>?_) (λR=>?_)
  ·exact absurd R O
  refine Y ?_;refine Zh (OL _) rfl (by rw[add_zero];exact UG (j:=3) Z rfl) (Y ?_);refine ZB i bk.ms s λe D=>?_;have D:aM H e [vi b.ms[i].lo,vi b.ms[i].hi]:=D;refine Y ?_;refine Zh (v:=vi b.ms[i].lo) (OL _) rfl (by rw[add_zero];exact YN (cs:=[vi b.ms[i].lo]) (ds:=[vi b.ms[i].hi]) D) (Y ?_);generalize rA:(b.ms[i].hi-b.ms[i].lo+1).toNat=o at l;refine Yp (α:=List Int) o (λk J C=>ArB b.ms.length p J/\JG (G.ins f (.cells (nD J).toArray 189)) (kB M I ((oJ (λv=>if mV b p v then[]else oF b (b.ms.length-r) (p++[v])) b.ms[i].hi (o-k)).map bE++rest)) C)
   (λk _=>[(0,vi i),(1,pt A),(2,pt X),(3,pt f),(4,pt W),(7,vi (b.ms[i].lo+k))]) (λ_ _=>[]) a ⟨K,l⟩ ⟨rfl,rfl,rfl,rfl,rfl,by simp[fG.set],trivial⟩ trivial ?_
  rintro k a3 N hk ⟨u,q⟩;have bk3:=hU q;have cb3:aM N ⟨A,0,none⟩ b.cs:=ZM (q.inc _ _ gb);refine Y ?_;refine Zh (OL _) rfl (by rw[add_zero];exact UG (j:=3) cb3 rfl) (Y ?_);refine ZB i bk3.ms s λe D=>?_;have D:aM N e [vi b.ms[i].lo,vi b.ms[i].hi]:=D;refine Y ?_;refine Zh (v:=vi b.ms[i].hi) (OL _) rfl (mG D (n:=1) rfl) ?_;refine OJ (λh2=>?_) (λh2=>?_)
  ·have ha4:ArB b.ms.length (p++[b.ms[i].lo+k]) (a3.set p.length (b.ms[i].lo+k)):=u.put O hn7.2 ⟨O,O⟩;have V:p.length=i:=O;have Jn:=u.len;rw[V]at ha4;refine Y ?_;refine rG (i:=i) rfl rfl rfl O ?_;rw[VF f 0 (i * 1)];refine Y ?_;have T:(nD a3).length=7:=by rw[nD,qAd];exact u.len
   refine OH (b:=f) (off:=0+i * 1) (cs:=nD a3) (fT t3) rfl rfl (q.inc _ _ (Hp.aQ _ _ _)) rfl O rfl (OL _) ?_;have e5:ZR (nD a3) (0+i * 1) (Value.cells (vi (b.ms[i].lo+k))).toList=nD (a3.set i (b.ms[i].lo+k)):=by rw[qAJ,qCo];exact Hj _ _ O
   rw[e5];have hj4:=q.put (.cells (nD (a3.set i (b.ms[i].lo+k))).toArray 189) (Hp.aQ _ _ _);rw[Uy]at hj4;have e6:o-k=(o-(k+1))+1:=O;have e7:b.ms[i].hi-((o-(k+1):Nat):Int)=b.ms[i].lo+k:=O;rw[e6,oJ,qBt,qAE,e7]at hj4;have Q:aM (N.ins f (.cells (nD (a3.set i (b.ms[i].lo+k))).toArray 189)) ⟨A,0,none⟩ b.cs:=ZM (hj4.inc _ _ gb);have ca4:aM (N.ins f (.cells (nD (a3.set i (b.ms[i].lo+k))).toArray 189)) ⟨f,0,none⟩ (nD (a3.set i (b.ms[i].lo+k))):=VR;have hv:b.ms[i].lo+(k:Int)<=959:=O;have hv0:0<=b.ms[i].lo+(k:Int):=O;generalize hve:b.ms[i].lo+(k:Int)=v at *;generalize N.ins f (.cells (nD (a3.set i v)).toArray 189)=H4 at *;have at_:∀j,j<7->aM H4 ((⟨f,0,none⟩:Addr).add (j * 1)) [vi ((a3.set i v).getD j 0)]:=λj l=>by rw[qCo];exact UG ca4 (EX (by rw[qAe];omega))
   have sv:some (vi (v+1))=some (vi (b.ms[i].lo+(k+1:Nat))):=by congr 2;omega
   have hg:∀j,j<7->0<=(a3.set i v).getD j 0/\(a3.set i v).getD j 0<=959:=λj l=>by rw[ZG (by rw[qAe];omega)];exact ha4.rg _ (iN _)
   have g0:(a3.set i v).getD i 0=v:=by rw[ZG (by rw[qAe];omega),List.getElem_set_self]
   refine OJ (λh3=>?_) (λh3=>?_)
   ·have g1:(a3.set i v).getD (i-1) 0=p.getD (i-1) 0:=by rw[ha4.xR.at_ O]
    have g2:(a3.set i v).getD (i-2) 0=p.getD (i-2) 0:=by rw[ha4.xR.at_ O]
    have c0:=at_ i O;have c1:=at_ (i-1) O;have c2:=at_ (i-2) O;have k1:=hg (i-1) O;have k2:=hg (i-2) O;rw[g0]at c0;rw[g1]at c1 k1;rw[g2]at c2 k2;have B:mV b p v=!decide (-b.bd<=v-2 * p.getD (i-1) 0+p.getD (i-2) 0/\v-2 * p.getD (i-1) 0+p.getD (i-2) 0<=b.bd):=by unfold mV;rw[V,decide_eq_true (show 2<=i by omega),Bool.true_and]
    clear g0 g1 g2 hg at_;generalize p.getD (i-1) 0=x1 at *;generalize p.getD (i-2) 0=x2 at *;refine Y ?_;refine rG (i:=i) rfl rfl rfl O (Y ?_);refine Z8 c0 (Y ?_);refine rG (i:=i-1) rfl rfl O O (Y ?_);refine Z8 c1 (Y ?_);refine u7 rfl rfl ⟨O,O⟩ (Y ?_);refine rG (i:=i-2) rfl rfl O O (Y ?_);refine Z8 c2 (Y ?_);refine Zh (v:=vi b.bd) (OL _) rfl (by rw[add_zero,add_zero];exact YN (cs:=[vi b.bd]) Q) (Y ?_);refine Zh (v:=vi b.bd) (OL _) rfl (by rw[add_zero,add_zero];exact YN (cs:=[vi b.bd]) Q) (Y ?_);refine BO rfl ⟨O,O⟩ (Y ?_);refine Zg (vs:=[vi (v-2 * x1+x2),vi (-b.bd),vi b.bd]) (nQ _ _ _) ?_;rintro w _ ⟨rfl,rfl⟩;cases Tv:decide (-b.bd<=v-2 * x1+x2/\v-2 * x1+x2<=b.bd)with
    | false=>
     rw[B,Tv,qAa (by rfl),qBM,qAt]at hj4;refine Y ?_;exact⟨(⟨k+1,O⟩,a3.set i v),gI O,⟨ha4.xR,hj4⟩,⟨rfl,rfl,rfl,rfl,rfl,sv,trivial⟩,trivial,rfl⟩
    | true=>
     rw[B,Tv,iF (by simp)]at hj4;exact aAy
   rw[show mV b p v=false by unfold mV;rw[qAU O,qCL],iF (by simp)]at hj4;exact aAy
  have e6:o-k=0:=O;rw[e6,oJ,qBM,qAt]at q;refine Y ?_;exact⟨a3,u,.inl ⟨rfl,q⟩⟩
end
