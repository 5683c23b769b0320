import Derived.Test.YthmnpenamnoniaaGreatDoorP17
set_option linter.all false
set_option maxHeartbeats 400000
open Go Go.LL
namespace Go.Proofs
variable{r n c t1 o1 o2 off bP:Nat}{o:Obj}{a b:Bool}{cs:List Value}{xs:List (List Value)}{l:List Int}{t e E:TypeId}{A:Option Addr}{G:Prop}{fv bv zv:Value}{f:Int->Bool}{p:Program}{n1 n2:String}{ys:Array Value}
def bA(H h:Hp):Prop:=∀b x,H b=some x->h b=some x
def bA.refl(H:Hp):bA H H:=λ_ _ h=>h
def bA.trans{H j i:Hp}(h:bA H j)(k:bA j i):bA H i:=λb x m=>k b x (h b x m)
def _root_.Go.LL.Hp.Sub.inc{H i:Hp}(h:H.Sub i):bA H i:=h.mem
def Zk{H:Hp}(h:H r=none):bA H (H.ins r o):=(Yd h).mem
def Vb(H J:Hp):bA H (H.join J):=λ_ _ h=>Hp.aJ h
def _root_.Go.LL.aC.inc{H i:Hp}{a:Addr}(h:aC H a cs)(q:bA H i):aC i a cs:=by obtain⟨j,o,p,k,m⟩:=h;exact⟨j,o,p,q _ _ k,m⟩
def Zj.inc{α:Type}[Enc α]{H i:Hp}{v:Value}{l:List α}(h:Zj H v l)(u:bA H i):Zj i v l:=by obtain⟨A,c,j,k⟩:=h;refine⟨A,c,j,λs=>?_⟩;obtain⟨a,m,q⟩:=k s;exact⟨a,m,q.inc u⟩
def bK.inc{H i:Hp}{v:Value}{b:Bk}(h:bK H v b)(j:bA H i):bK i v b:=by obtain⟨u,k,m,q,s⟩:=h;exact⟨u,k,m,q.inc j,s.inc j⟩
def eS(xs:List (List Value))(I:Nat->Hp->Prop)(rest:List (List Value))(H:Hp):Prop:=∃p,p+rest.length=xs.length/\xs.drop p=rest/\I p H
def eS.start{I:Nat->Hp->Prop}{H:Hp}(h:I 0 H):eS xs I xs H:=⟨0,by simp,rfl,h⟩
def eS.tK{l:List (List Value)}{I:Nat->Hp->Prop}{H:Hp}(h:I 0 H)(e:xs=l):eS xs I l H:=by subst e;exact .start h
def eS.stop{I:Nat->Hp->Prop}{H:Hp}(h:eS xs I [] H):I xs.length H:=by obtain⟨p,i,_,j⟩:=h;simp at i;rw[<-i];exact j
def eS.call{P:aY}{y:Value}{I:Nat->Hp->Prop}{S:Hp->Prop}{x:List Value}{r:List (List Value)}{H:Hp}
  (w:∀n (z:n<xs.length) H,I n H->bR P y (xs[n]).toArray H (λv i=>(v=.bool true/\I (n+1) i)\/(v=.bool false/\S i))) (h:eS xs I (x :: r) H) :
  bR P y x.toArray H (λv i=>(v=.bool true/\eS xs I r i)\/(v=.bool false/\S i)):=by
 obtain⟨p,j,s,u⟩:=h;have k:p<xs.length:=by simp at j;omega
 have e:=List.drop_eq_getElem_cons k;rw[s]at e;have m:x=xs[p]:=by injection e
 have q:xs.drop (p+1)=r:=by injection e with _ e;exact e.symm
 rw[m];refine(w p k H u).mono ?_;rintro v i (⟨rfl,h⟩ | ⟨rfl,h⟩)
 ·exact .inl ⟨rfl,p+1,by simp at j;omega,q,h⟩
 exact .inr ⟨rfl,h⟩
structure ZQ where
 (bf bP:Int)
def YC(k:ZQ):Value:=.agg #[vi k.bf,vi k.bP]
instance:Enc ZQ:=⟨2,λk=>[vi k.bf,vi k.bP],λ_=>rfl⟩
def cF(i:Int)(h:Nat):Nat->List ZQ
 | 0=>[]
 | r+1=>if(h:Int)-r=0 then cF i h r else⟨i,h-r⟩ :: cF i h r
def bW(n h:Nat):Nat->List ZQ
 | 0=>[]
 | r+1=>cF ((n:Int)-(r+1:Nat)) h (2 * h+1)++bW n h r
def ZB(b:Bk):List ZQ:=⟨0,0⟩ :: bW b.aF.length b.sl.toNat (b.aF.length-1)
def UP(k:ZQ):List Value:=[YC k]
def ZtB{P:aY}{d:Option Nat}{next:aL->Hp->Prop}{σ:aL}{H:Hp}{x:Operand}{ty:TypeId}{n:Int}(e:σ.get x=some (vi n))(i:kQ (-n))(h:next (σ.set d (vi (-n))) H):(aR.raw (.unOp .neg t x) ty).m P d next σ H:=by refine YX (by simp[Op.operands,e]) (s:=Op.unary .neg (vi n)) (by simp[execOp,aN,e]) ?_;have:(0:Int)-n=-n:=O;simp only[Op.unary,Op.intArith,Zi,this,Ud i];exact h
section
variable{P:aY}[Tz P][Loud P]
def fM{b:Bk}{J:Value}(h0:0<=b.sl)(h1:b.sl<=1000)(h2:b.aF.length<=1000) :
  OE P (.func (.func 93) #[.agg #[vi b.op,vi b.sl,.slice A b.aF.length c,J]] #[]) (λ_=>True) ((ZB b).map UP):=by
 intro y I S H _ hI hS _ T z;obtain⟨i,hsl⟩:∃i:Nat,b.sl=i:=⟨b.sl.toNat,O⟩;have w:b.sl.toNat=i:=O;obtain⟨xs,u⟩:∃xs,xs=(ZB b).map UP:=⟨_,rfl⟩;have R:xs=UP ⟨0,0⟩ :: (bW b.aF.length i (b.aF.length-1)).map UP:=by rw[u,ZB,w,qBh]
 rw[<-u];have B:=eS.tK z R;rw[<-u]at T;refine Yg U ?_;refine aI.m (bG c95) rfl ?_;unfold QT;refine Y ?_;have:=OL (P:=P) H.gh;refine Y ?_;refine Yp rfl rfl (eS.call (S:=S) T B) ?_;rintro v H1 (⟨rfl,C⟩ | ⟨rfl,N⟩);rotate_left
 ·refine Y ?_;exact .inr N
 refine Y ?_;refine ZF (b.aF.length-1) (λj F=>eS xs I ((bW b.aF.length i (b.aF.length-1-j)).map UP) F) (λj=>[(1,y),(2,vi 0),(4,vi (j+1:Nat))]) (λ_=>[(2,[vi b.op,vi b.sl,.slice A b.aF.length c,J])]) C V V ?_;intro j Z hj s;have W:=OL (P:=P) Z.gh;refine OJ (λh3=>?_) (λh3=>?_)
 ·refine Y ?_;refine ZtB rfl ⟨O,O⟩ (Y ?_);have K:b.aF.length-1-j=(b.aF.length-1-(j+1))+1:=O;rw[K,bW,qBi]at s;have e2:((b.aF.length:Int)-((b.aF.length-1-(j+1))+1:Nat))=(j+1:Nat):=O;rw[e2]at s;refine ZF (2 * i+1) (λk F=>eS xs I ((cF (j+1:Nat) i (2 * i+1-k)).map UP++(bW b.aF.length i (b.aF.length-1-(j+1))).map UP) F) (λk=>[(1,y),(2,vi 0),(4,vi (j+1:Nat)),(5,vi (-b.sl+k))]) (λ_=>[(2,[vi b.op,vi b.sl,.slice A b.aF.length c,J])]) s ⟨rfl,rfl,rfl,by simp[aL.set],trivial⟩ V ?_;intro k H3 hk q;have X:=OL (P:=P) H3.gh;refine OJ (λh4=>?_) (λh4=>?_)
  ·have L:2 * i+1-k=(2 * i+1-(k+1))+1:=O;have e4:(i:Int)-(2 * i+1-(k+1):Nat)=-b.sl+k:=O;rw[L,cF,e4]at q;refine OJ (λM=>?_) (λM=>?_)
   ·rw[BY M]at q;refine Y ?_;refine⟨⟨k+1,O⟩,cZ O,q,⟨rfl,rfl,rfl,?_,trivial⟩,V,rfl⟩;show some (vi (-b.sl+k+1))=some (vi (-b.sl+(k+1:Nat)));congr 2;omega
   rw[bY M,qBh,qBk]at q;refine Y ?_;refine Yp rfl rfl (eS.call (S:=S) T q) ?_;rintro v H4 (⟨rfl,D⟩ | ⟨rfl,Q⟩)
   ·refine Y ?_;refine⟨⟨k+1,O⟩,cZ O,D,⟨rfl,rfl,rfl,?_,trivial⟩,V,rfl⟩;show some (vi (-b.sl+k+1))=some (vi (-b.sl+(k+1:Nat)));congr 2;omega
   refine Y ?_;exact .inr Q
  have L:2 * i+1-k=0:=O;rw[L,cF,qBJ,qAn]at q;refine Y ?_;refine⟨⟨j+1,O⟩,cZ O,q,⟨rfl,rfl,?_,trivial⟩,V,rfl⟩;show some (vi ((j+1:Nat)+1))=some (vi (j+1+1:Nat));congr 2
 have K:b.aF.length-1-j=0:=O;rw[K,bW,qBJ]at s;refine Y ?_;exact .inl s.stop
end
def PA(h:G:=by refine Y ?_;refine⟨.refl H,.inl ⟨?_,rfl⟩⟩;refine IF λhn=>?_;obtain⟨a,rfl,_⟩:=hh hn;simp at h1):G:=h
def N9(h:G:=by rintro w _ ⟨rfl,r,rfl,hr⟩;refine Y ?_;refine⟨rfl,?_⟩;show vb (decide (0<=r))=vb _;congr 1;rw[qCb,qAv];exact hr):G:=h
def Nz(h:G:=by
  refine Y ?_;refine ZK hs rfl (Y ?_);refine ZF l.length (λj H'=>H=H'/\(l.take j).any f=false) (λj=>[(0,v),(1,fv),(7,vi l.length),(8,vi j)]) (λj=>[]) ⟨rfl,rfl⟩ V trivial ?_;rintro j _ hj ⟨rfl,uD⟩;refine OJ (λh1=>?_) (λh1=>?_)
  ·have kP:j<l.length:=O;refine Y ?_;refine V3 hs rfl rfl rfl (i:=j) kP λa ha=>Y ?_;refine Z5 jT rfl ha rfl (Y ?_);refine Yp rfl rfl (hf l[j] (qAa kP)) ?_;rintro w _ ⟨rfl,rfl⟩;refine OJ (λh2=>?_) (λh2=>?_)
   ·refine Y ?_;exact⟨rfl,j,rfl,by simp only[Int.natCast_nonneg,true_iff];rw[qBR];exact⟨l[j],qAa kP,h2⟩⟩
   refine Y ?_;refine⟨⟨j+1,O⟩,cZ O,⟨rfl,?_⟩,V,trivial,rfl⟩;show(l.take (j+1)).any f=false;rw[iO kP,List.any_append,uD];simp[h2]
  have:j=l.length:=O;subst this;rw[qAh]at uD;refine Y ?_;exact⟨rfl,-1,rfl,by simp[uD]⟩):G:=h
def l4:Tryz.prog.underlying 23=some (.slice 101):=U
def CN:Tryz.prog.underlying 22=some (.slice 110):=U
def tI:ZU Tryz.prog 101=some (3,some (.agg #[vi 0,vi 0,vi 0]),24):=U
def QG:ZU Tryz.prog 110=some (5,some (.agg #[vi 0,vi 0,vi 0,vi 0,vi 0]),40):=U
def Od:Tryz.prog.underlying 115=some (.array 4 3):=U
def NJ:ZU Tryz.prog 115=some (4,some (.agg #[vi 0,vi 0,vi 0,vi 0]),32):=U
theorem uV{α:Type}[Enc α](h:∀a:α,((Enc.enc a).all Value.bS)=true):∀l:List α,((Zh l).all Value.bS)=true
 | []=>rfl
 | a :: l=>by have:=uV h l;simp only[Zh,qAJ,qCI]at this ⊢;rw[h,this];rfl
def XT(l:List gA):((Zh l).all Value.bS)=true:=uV (λ_=>rfl) l
def Zs6(l:List pU):((Zh l).all Value.bS)=true:=uV (λ_=>rfl) l
def yJ{P:aY}{d:Option Nat}{next:aL->Hp->Prop}{σ:aL}{H:Hp}{x:Operand}{t2 ty:TypeId}(s:P.toProgram.underlying t=some (.slice e))(j:σ.get x=some (.slice A n c))(h:next (σ.set d (vb A.isNone)) H) :
  (aR.bT (.binOp .eql t x (.const (.slice none 0 0)) t2) ty).m P d next σ H:=by
 have i:∀v,σ.get (.const v)=some v:=λv=>rfl;refine Y6 (by simp[Op.operands,j,i]) ?_ h;have:execOp (λx=>(σ.get x).getD undef) (aN (.binOp .eql t x (.const (.slice none 0 0)) t2) ty)=(do let v <-(do eqGuard .eql t x (.const (.slice none 0 0)) (.slice A n c) (.slice none 0 0);binOp .eql t (.slice A n c) (.slice none 0 0));pure (.value v)):=by simp[execOp,aN,j,i]
 rw[this];refine Ui λQ g H q=>?_;simp only[eqGuard,Ze,Zi];have key:∀d,bD P.toPQ (Op.equalIn (d+1) t (.slice A n c) (.slice none 0 0)) (λb g H=>Q (vb b) g H) g H:=by intro d;simp only[Op.equalIn,Ze,ZA s];cases A<;>exact q
 have:=key 9999;cases A<;>exact(Ze.2 this)
section
variable{P:aY}[Tz P]{H:Hp}
def ZAg{v:Value}(D:∀c∈l,bR P fv #[vi c] H λv q=>H=q/\v=vb (f c))(z:Zj H v l)(I:l.length<=1000000)(u:P.still H.gh=false) :
  LL.Za P 205 #[v,fv] H λv q=>H=q/\∃r:Int,v=vi r/\(0<=r↔l.any f=true):=by
 refine aI.m (bG Zxj) rfl ?_;unfold Gy;refine Y ?_;refine ZK z rfl (Y ?_);refine ZF l.length (λj q=>H=q/\(l.take j).any f=false) (λj=>[(0,v),(1,fv),(7,vi l.length),(8,vi j)]) (λj=>[]) ⟨rfl,rfl⟩ V trivial ?_;rintro j _ F ⟨rfl,h⟩;refine OJ (λB=>?_) (λB=>?_)
 ·have k:j<l.length:=O;refine Y ?_;refine V3 z rfl rfl rfl (i:=j) k λa C=>Y ?_;refine Zg u rfl C (Y ?_);refine Yp rfl rfl (D l[j] (qAa k)) ?_;rintro w _ ⟨rfl,rfl⟩;refine OJ (λs=>?_) (λs=>?_)
  ·refine Y ?_;exact⟨rfl,j,rfl,by simp only[Int.natCast_nonneg,true_iff];rw[qBR];exact⟨l[j],qAa k,s⟩⟩
  refine Y ?_;refine⟨⟨j+1,O⟩,cZ O,⟨rfl,?_⟩,V,trivial,rfl⟩;show(l.take (j+1)).any f=false;rw[iO k,List.any_append,h];simp[s]
 have:j=l.length:=O;subst this;rw[qAh]at h;refine Y ?_;exact⟨rfl,-1,rfl,by simp[h]⟩
def ZAv{v:Value}(j:∀c∈l,bR P fv #[vi c] H λv h=>H=h/\v=vb (f c))(q:Zj H v l)(k:l.length<=1000000)(i:P.still H.gh=false) :
  LL.Za P 153 #[v,fv] H λv h=>H=h/\v=vb (l.any f):=by
 refine aI.m (bG ZxC) rfl ?_;unfold Is;refine Y ?_;refine Zv (vs:=[v,fv]) rfl (ZAg j q k i) ?_;exact N9
def ZAf{f:gA->Bool}{v:Value}{l:List gA}(hf:∀c∈l,bR P fv #[.agg #[vi c.p,vi c.gl,vi c.gh]] H λv H'=>H=H'/\v=vb (f c))(hs:Zj H v l)(h:l.length<=1000000)(jT:P.still H.gh=false) :
  LL.Za P 224 #[v,fv] H λv H'=>H=H'/\∃r:Int,v=vi r/\(0<=r↔l.any f=true):=by
 refine aI.m (bG Zxi) rfl ?_;unfold Gz;exact Nz
def ZAu{f:gA->Bool}{v:Value}{l:List gA}(j:∀c∈l,bR P fv #[.agg #[vi c.p,vi c.gl,vi c.gh]] H λv h=>H=h/\v=vb (f c))(q:Zj H v l)(k:l.length<=1000000)(i:P.still H.gh=false) :
  LL.Za P 192 #[v,fv] H λv h=>H=h/\v=vb (l.any f):=by
 refine aI.m (bG Zxz) rfl ?_;unfold Gg;refine Y ?_;refine Zv (vs:=[v,fv]) rfl (ZAf j q k i) ?_;exact N9
def ZAh{f:Zs->Bool}{v:Value}{l:List Zs}(hf:∀c∈l,bR P fv #[ZP c] H λv H'=>H=H'/\v=vb (f c))(hs:Zj H v l)(h:l.length<=1000000)(jT:P.still H.gh=false) :
  LL.Za P 150 #[v,fv] H λv H'=>H=H'/\∃r:Int,v=vi r/\(0<=r↔l.any f=true):=by
 refine aI.m (bG ZxM) rfl ?_;unfold Ig;exact Nz
def ZAt{f:Zs->Bool}{v:Value}{l:List Zs}(j:∀c∈l,bR P fv #[ZP c] H λv h=>H=h/\v=vb (f c))(q:Zj H v l)(k:l.length<=1000000)(i:P.still H.gh=false) :
  LL.Za P 94 #[v,fv] H λv h=>H=h/\v=vb (l.any f):=by
 refine aI.m (bG c96) rfl ?_;unfold QS;refine Y ?_;refine Zv (vs:=[v,fv]) rfl (ZAh j q k i) ?_;exact N9
def ZAy{v:Value}(F:Zj H v l)(K:l.length<=1000000)(h:P.still H.gh=false) :
  LL.Za P 120 #[v] H λs j=>H.Sub j/\((l=[]/\s=.slice none 0 0)\/∃b,cS H j 3 s l b):=by
 obtain⟨A,c,rfl,hh⟩:=F;refine aI.m (bG ZxA) rfl ?_;unfold Gf;refine Y ?_;refine yJ (bL eW) rfl ?_;refine OJ (λh1=>?_) (λh1=>?_)
 ·exact PA
 refine Y ?_;refine Oj (bL eW) (bH t3) h λr k=>Y ?_;have i:P.still (H.ins r (.cells #[] 3)).gh=false:=h;refine OZ (l:=([]:List Int)) (l':=l) (bL eW) (bL eW) (bH t3) rfl (by decide) (Yd k) (H0:=H) (b:=some r) ⟨wR,λq e=>by obtain rfl:=iN e;exact k⟩ ⟨A,c,rfl,λhn=>by obtain⟨a,z,B⟩:=hh hn;exact⟨a,z,B.sub (Yd k)⟩⟩ (KX l) (by simp;omega) O rfl rfl i λs j w C u J=>Y ?_;exact⟨C,.inr ⟨w,by rw[qAn]at u;exact u⟩⟩
def WJ{v:Value}{l:List gA}(F:Zj H v l)(K:l.length<=1000000)(h:P.still H.gh=false) :
  LL.Za P 111 #[v] H λs j=>H.Sub j/\((l=[]/\s=.slice none 0 0)\/∃b,cS H j 101 s l b):=by
 obtain⟨A,c,rfl,hh⟩:=F;refine aI.m (bG Zx6) rfl ?_;unfold Iy;refine Y ?_;refine yJ (bL l4) rfl ?_;refine OJ (λh1=>?_) (λh1=>?_)
 ·exact PA
 refine Y ?_;refine Oj (bL l4) (bH tI) h λr k=>Y ?_;have i:P.still (H.ins r (.cells #[] 101)).gh=false:=h;refine OZ (l:=([]:List gA)) (l':=l) (bL l4) (bL l4) (bH tI) rfl (by decide) (Yd k) (H0:=H) (b:=some r) ⟨wR,λq e=>by obtain rfl:=iN e;exact k⟩ ⟨A,c,rfl,λhn=>by obtain⟨a,z,B⟩:=hh hn;exact⟨a,z,B.sub (Yd k)⟩⟩ (XT l) (by simp;omega) O rfl rfl i λs j w C u J=>Y ?_;exact⟨C,.inr ⟨w,by rw[qAn]at u;exact u⟩⟩
def WK{v:Value}{l:List pU}(F:Zj H v l)(K:l.length<=1000000)(h:P.still H.gh=false) :
  LL.Za P 114 #[v] H λs j=>H.Sub j/\((l=[]/\s=.slice none 0 0)\/∃b,cS H j 110 s l b):=by
 obtain⟨A,c,rfl,hh⟩:=F;refine aI.m (bG ZxX) rfl ?_;unfold Ht;refine Y ?_;refine yJ (bL CN) rfl ?_;refine OJ (λh1=>?_) (λh1=>?_)
 ·exact PA
 refine Y ?_;refine Oj (bL CN) (bH QG) h λr k=>Y ?_;have i:P.still (H.ins r (.cells #[] 110)).gh=false:=h;refine OZ (l:=([]:List pU)) (l':=l) (bL CN) (bL CN) (bH QG) rfl (by decide) (Yd k) (H0:=H) (b:=some r) ⟨wR,λq e=>by obtain rfl:=iN e;exact k⟩ ⟨A,c,rfl,λhn=>by obtain⟨a,z,B⟩:=hh hn;exact⟨a,z,B.sub (Yd k)⟩⟩ (Zs6 l) (by simp;omega) O rfl rfl i λs j w C u J=>Y ?_;exact⟨C,.inr ⟨w,by rw[qAn]at u;exact u⟩⟩
end
def uT(g:N4)(c:gA):Bool:=decide (c.gl<=g.get c.p.toNat/\g.get c.p.toNat<=c.gh)
def Uh(b:Bk)(x:Zs):Bool:=b.bJ.all (uT (Zm b x))
def WI(b:Bk):Prop:=∀c∈b.bJ,0<=c.p/\c.p<4
section
variable{P:aY}[Tz P]{H:Hp}
def ZqB{c:gA}{g:N4}(z:aC H ⟨r,0,none⟩ g.cells)(D:0<=c.p/\c.p<4)(i:P.still H.gh=false):LL.Za P 193 #[.agg #[vi c.p,vi c.gl,vi c.gh],.pointer (some ⟨r,0,none⟩)] H λv q=>H=q/\v=vb (!uT g c):=by
 obtain⟨n,k⟩:∃n:Nat,c.p=n:=⟨c.p.toNat,O⟩;have h:n<4:=O;refine aI.m (bG Zxy) rfl ?_;unfold Gh;rw[k];refine Y ?_;refine Kt (bL Od) (bH t3) rfl rfl h (Y ?_);have w:aC H ((⟨r,0,none⟩:Addr).add (n * 1)) [vi (g.get n)]:=by
  obtain⟨C,o,p,s,u⟩:=z;refine⟨CI rfl _,o,p,by rw[vQ];exact s,λj B=>?_⟩;have:j=0:=by simpa using B
  subst this;rw[vR];have e:=u (0+n * 1) (by show 0+n * 1<4;omega);rw[xT _ h]at e;simpa using e
 refine Zg i rfl w (Y ?_);refine Zv (vs:=[vi (g.get n),vi c.gl,vi c.gh]) rfl (On _ _ _) ?_;rintro v _ ⟨rfl,rfl⟩;refine Y ?_;exact⟨rfl,by rw[uT,k];rfl⟩
def Zqz{b:Bk}{x:Zs}(hb:bK H bv b)(ok:EH b)(w:CG x)(u:WI b)(J:b.bJ.length<=1000000)(i:P.still H.gh=false):LL.Za P 149 #[bv,ZP x] H λv C=>H.Sub C/\v=vb (Uh b x):=by
 have q:=hb;obtain⟨K,z,rfl,M,I⟩:=hb;refine aI.m (bG ZxO) rfl ?_;unfold Ic;refine Y ?_;refine Zv (vs:=[.agg #[vi b.op,vi b.sl,K,z],ZP x]) rfl (O9 q ok w i) ?_;rintro v _ ⟨rfl,rfl⟩;refine Y ?_;refine ZV (bH NJ) i λr B=>?_;have h:∀o,P.still (H.ins r o).gh=false:=λo=>i;refine Y ?_;refine Yz (bH NJ) (cs:=[vi 0,vi 0,vi 0,vi 0]) rfl rfl (Hp.aD _ _ _) rfl rfl rfl (h _) ?_;have D:(H.ins r (.cells (Value.agg #[vi 0,vi 0,vi 0,vi 0]).cells 115)).ins r (.cells (ZD (Zm b x)).cells 115)=H.ins r (.cells (Zm b x).cells.toArray 115):=by
  refine Hp.ext' (λc=>?_) rfl;by_cases e:c=r
  ·subst e;rw[Hp.aD,Hp.aD];rfl
  rw[Hp.aE _ _ e,Hp.aE _ _ e,Hp.aE _ _ e]
 rw[D];refine Y ?_;refine Y8 rfl rfl (Y ?_);refine Zv (vs:=[z,.func (.func 193) #[] #[.pointer (some ⟨r,0,none⟩)]]) rfl (ZAu (f:=λc=>!uT (Zm b x) c) (l:=b.bJ) (λc s=>?_) (I.sub (Yd B)) J (h _)) ?_
 ·exact Yg U (ZqB ⟨rfl,_,_,Hp.aD _ _ _,λj L=>by simp[Obj.fT]⟩ (u c s) (h _))
 rintro v _ ⟨rfl,rfl⟩;refine Y ?_;refine⟨Yd B,?_⟩;show vb _=vb _;congr 1;rw[Uh,List.all_eq_not_any_not]
end
def lO(p:Program)(t:TypeId):Option (List (String×TypeId×Nat)×Bool):=match p.underlying t with | some (.struct h)=>some (h.toList.map (λf=>(f.name,f.type,f.offset)),p.stoodInHeld t) | _=>none
def xC{t2:Nat}(h:lO p t=some ([(n1,t1,o1),(n2,t2,o2)],b)):∃i j:Field,p.underlying t=some (.struct #[i,j])/\(i.name=n1/\i.type=t1/\i.offset=o1)/\(j.name=n2/\j.type=t2/\j.offset=o2)/\p.stoodInHeld t=b:=by
 unfold lO at h;split at h
 ·rename_i k q;obtain⟨k⟩:=k;simp only[aT,qAL]at h;obtain⟨h,m⟩:=h;match k,h with
  | [i,j],h=>
   simp only[qBh,qBJ,qAD,qAL]at h;exact⟨i,j,q,h.1,h.2.1,m⟩
 simp at h
def Qw{m:String}{t2 t3 q:Nat}(h:lO p t=some ([(n1,t1,o1),(n2,t2,o2),(m,t3,q)],b)):∃i j f3:Field,p.underlying t=some (.struct #[i,j,f3])/\(i.name=n1/\i.type=t1/\i.offset=o1)/\(j.name=n2/\j.type=t2/\j.offset=o2)/\(f3.name=m/\f3.type=t3/\f3.offset=q)/\p.stoodInHeld t=b:=by
 unfold lO at h;split at h
 ·rename_i k u;obtain⟨k⟩:=k;simp only[aT,qAL]at h;obtain⟨h,s⟩:=h;match k,h with
  | [i,j,f3],h=>
   simp only[qBh,qBJ,qAD,qAL]at h;exact⟨i,j,f3,u,h.1,h.2.1,h.2.2.1,s⟩
 simp at h
def CP:lO Tryz.prog 31=some ([("Before",3,0),("By",3,1)],false):=U
def HO:lO Tryz.prog 56=some ([("Low",3,0),("High",3,1)],false):=U
def nQ:Tryz.prog.underlying 3=some (.int .i64):=U
def QE:Tryz.prog.underlying 4=some .bool:=U
def TM:Yi Tryz.prog 56=some (some 2):=U
section
variable{P:aY}[Tz P]{H:Hp}{g:Bool}{d:Nat}
def YL{cs:Array Value}{v:Value}(h:cs[off]? = some v)(Q:Value->Bool->Hp->Prop):bD P.toPQ (part 3 cs off) Q g H↔Q v g H:=by simp only[part,Ze,sJ (pF (P:=P) a3),dO,qAf,h,Zi]
def Js{t:Nat}{cs:Array Value}(h:Yi Tryz.prog t=some (some n))(Q:Value->Bool->Hp->Prop):bD P.toPQ (part t cs off) Q g H↔Q (.agg (cs.extract off (off+n))) g H:=by obtain⟨i,j,k,m⟩:=xR (pF (P:=P) h);simp only[part,Ze,m,qAH,Yf j,k,Zi]
def uK{a b:Int}(Q:Bool->Bool->Hp->Prop):bD P.toPQ (Op.equalIn (d+1) 3 (vi a) (vi b)) Q g H↔Q (decide (a=b)) g H:=by
 simp only[Op.equalIn,Ze,ZA (bL (P:=P) nQ),qAH,Zi];have:(a == b)=decide (a=b):=by rw[qCb];simp
 rw[this]
def wH(i:lO Tryz.prog t=some ([("Before",3,0),("By",3,1)],false)\/lO Tryz.prog t=some ([("Low",3,0),("High",3,1)],false)){a b c e:Int}(Q:Bool->Bool->Hp->Prop)(j:Q (decide (a=c/\b=e)) g H):bD P.toPQ (Op.equalIn (d+1+1) t (.agg #[vi a,vi b]) (.agg #[vi c,vi e])) Q g H:=by
 have s:∀(x y:Int) (Q:Value->Bool->Hp->Prop) g H,bD P.toPQ (part 3 #[vi x,vi y] 0) Q g H↔Q (vi x) g H:=λx y Q g H=>YL rfl Q;have u:∀(x y:Int) (Q:Value->Bool->Hp->Prop) g H,bD P.toPQ (part 3 #[vi x,vi y] 1) Q g H↔Q (vi y) g H:=λx y Q g H=>YL rfl Q;rcases i with i | i
 all_goals
  obtain⟨w,z,q,⟨n1,t1,o1⟩,⟨n2,t2,o2⟩,i⟩:=xC (p:=P.toProgram) (by rw[Tz.prog (P:=P)];exact i)
  rw[Op.equalIn]
  simp only[Ze,ZA q,Vu,i,dO,qAf,Zi]
  simp only[n1,n2,t1,t2,o1,o2,Ze,qBx,qBs,List.forIn_nil]
  by_cases k:a=c<;>by_cases m:b=e<;>simp[s,u,uK,Ze,Zi,k,m]at j ⊢<;>exact j
def Ab(j:lO Tryz.prog t=some ([("Before",3,0),("By",3,1)],false)\/lO Tryz.prog t=some ([("Low",3,0),("High",3,1)],false)){a b c e:Int}(Q:Bool->Bool->Hp->Prop):bD P.toPQ (Op.equalIn (d+1+1) t (.agg #[vi a,vi b]) (.agg #[vi c,vi e])) Q g H↔Q (decide (a=c/\b=e)) g H:=by
 refine⟨λh=>?_,wH j Q⟩;have s:∀(x y:Int) (Q:Value->Bool->Hp->Prop) g H,bD P.toPQ (part 3 #[vi x,vi y] 0) Q g H↔Q (vi x) g H:=λx y Q g H=>YL rfl Q;have u:∀(x y:Int) (Q:Value->Bool->Hp->Prop) g H,bD P.toPQ (part 3 #[vi x,vi y] 1) Q g H↔Q (vi y) g H:=λx y Q g H=>YL rfl Q;rcases j with j | j
 all_goals
  obtain⟨w,z,q,⟨n1,t1,o1⟩,⟨n2,t2,o2⟩,j⟩:=xC (p:=P.toProgram) (by rw[Tz.prog (P:=P)];exact j)
  rw[Op.equalIn]at h
  simp only[Ze,ZA q,Vu,j,dO,qAf,Zi]at h
  simp only[n1,n2,t1,t2,o1,o2,Ze,qBx,qBs,List.forIn_nil]at h
  by_cases k:a=c<;>by_cases m:b=e<;>simp[s,u,uK,Ze,Zi,k,m]at h ⊢<;>exact h
def u6(a b:N4):Bool:=decide (a.a=b.a/\a.b=b.b/\a.c=b.c/\a.d=b.d)
def Zwx{a b:N4}(Q:Bool->Bool->Hp->Prop)(i:Q (u6 a b) g H):bD P.toPQ (Op.equalIn (d+1+1) 115 (ZD a) (ZD b)) Q g H:=by have D:∀(x y z u:Int) (Q:Value->Bool->Hp->Prop) g H,bD P.toPQ (part 3 #[vi x,vi y,vi z,vi u] 0) Q g H↔Q (vi x) g H:=λx y z u Q g H=>YL rfl Q;have F:∀(x y z u:Int) (Q:Value->Bool->Hp->Prop) g H,bD P.toPQ (part 3 #[vi x,vi y,vi z,vi u] 1) Q g H↔Q (vi y) g H:=λx y z u Q g H=>YL rfl Q;have I:∀(x y z u:Int) (Q:Value->Bool->Hp->Prop) g H,bD P.toPQ (part 3 #[vi x,vi y,vi z,vi u] 2) Q g H↔Q (vi z) g H:=λx y z u Q g H=>YL rfl Q;have J:∀(x y z u:Int) (Q:Value->Bool->Hp->Prop) g H,bD P.toPQ (part 3 #[vi x,vi y,vi z,vi u] 3) Q g H↔Q (vi u) g H:=λx y z u Q g H=>YL rfl Q;obtain⟨C,w,B,K,L⟩:=(bH (P:=P) t3).ex;rw[Op.equalIn];simp only[ZD,Ze,ZA (bL (P:=P) Od),Yf w,B,Zi];unfold u6 at i;have s:List.range' 0 4=[0,1,2,3]:=rfl;simp only[qCL,Std.Legacy.Range.size,qBV,qBX,Nat.div_one,s,qBs,List.forIn_nil,Ze];by_cases j:a.a=b.a<;>by_cases k:a.b=b.b<;>by_cases m:a.c=b.c<;>by_cases q:a.d=b.d<;>simp[D,F,I,J,uK,Ze,Zi,j,k,m,q]at i ⊢<;>exact i
end
def Pa(h:G:=by
  rw[this];refine Ui λQ g H hq=>?_;have wD:P.toProgram.eqGuardType P.toProgram.depth t=false:=by rw[Tz.prog (P:=P)];exact hg
  rw[Ze];unfold eqGuard;simp only[Ze,Zi,qCU,dO,qAf];rw[Vu,Vu,wD];simp only[qCt,qAH,Zi];exact Ze.2 (hE _ _ _ hq)):G:=h
def uW(p:Program)(t:TypeId):Bool:=p.eqGuardType p.depth t
def DG:uW Tryz.prog 31=false:=U
def g49:uW Tryz.prog 56=false:=U
section
variable{P:aY}[Tz P]{H:Hp}{d:Option Nat}{next:aL->Hp->Prop}{σ:aL}{x y:Operand}{ty t2:TypeId}{v:Value}
def Kp{xs:Array Value}(hg:uW Tryz.prog t=false)(hE:∀(Q:Bool->Bool->Hp->Prop) (g:Bool) (H:Hp),Q b g H->bD P.toPQ (Op.equalIn (9998+1+1) t (.agg xs) (.agg ys)) Q g H)(i:σ.get x=some (.agg xs))(j:σ.get y=some (.agg ys))(h:next (σ.set d (vb b)) H) :
  (aR.bT (.binOp .eql t x y t2) ty).m P d next σ H:=by
 refine Y6 (by simp[Op.operands,i,j]) ?_ h;have:execOp (λx=>(σ.get x).getD undef) (aN (.binOp .eql t x y t2) ty)=(do let v <-(do eqGuard .eql t x y (.agg xs) (.agg ys);binOp .eql t (.agg xs) (.agg ys));pure (.value v)):=by simp[execOp,aN,i,j]
 exact Pa
def yI{xs:Array Value}(hg:uW Tryz.prog t=false)(hE:∀(Q:Bool->Bool->Hp->Prop) (g:Bool) (H:Hp),Q b g H->bD P.toPQ (Op.equalIn (9998+1+1) t (.agg xs) (.agg ys)) Q g H)(i:σ.get x=some (.agg xs))(j:σ.get y=some (.agg ys))(h:next (σ.set d (vb !b)) H) :
  (aR.bT (.binOp .neq t x y t2) ty).m P d next σ H:=by
 refine Y6 (by simp[Op.operands,i,j]) ?_ h;have:execOp (λx=>(σ.get x).getD undef) (aN (.binOp .neq t x y t2) ty)=(do let v <-(do eqGuard .neq t x y (.agg xs) (.agg ys);binOp .neq t (.agg xs) (.agg ys));pure (.value v)):=by simp[execOp,aN,i,j]
 exact Pa
def Zwt(d:Nat)(Q:Bool->Bool->Hp->Prop)(g:Bool)(H:Hp)(h:Q (a == b) g H):bD P.toPQ (Op.equalIn (d+1) 4 (vb a) (vb b)) Q g H:=by simp only[Op.equalIn,Ze,ZA (bL (P:=P) QE),Zi];exact h
def Aa(Q:Bool->Bool->Hp->Prop)(g:Bool)(H:Hp)(h:Q (a == b) g H):bD P.toPQ (Op.equalIn (9999+1) 4 (vb a) (vb b)) Q g H:=Zwt 9999 Q g H h
def ZtI(i:σ.get x=some (vb a))(j:σ.get y=some (vb b))(h:next (σ.set d (vb (a == b))) H):(aR.bT (.binOp .eql 4 x y t2) ty).m P d next σ H:=by
 refine Y6 (by simp[Op.operands,i,j]) ?_ h;have:execOp (λx=>(σ.get x).getD undef) (aN (.binOp .eql 4 x y t2) ty)=(do let v <-(do eqGuard .eql 4 x y (vb a) (vb b);binOp .eql 4 (vb a) (vb b));pure (.value v)):=by simp[execOp,aN,i,j]
 rw[this];refine Ui λQ g H k=>?_;simp only[eqGuard,Ze,Zi];exact Ze.2 (Aa _ _ _ k)
def ZtC(i:σ.get x=some (vb a))(j:σ.get y=some (vb b))(h:next (σ.set d (vb (a != b))) H):(aR.bT (.binOp .neq 4 x y t2) ty).m P d next σ H:=by
 refine Y6 (by simp[Op.operands,i,j]) ?_ h;have:execOp (λx=>(σ.get x).getD undef) (aN (.binOp .neq 4 x y t2) ty)=(do let v <-(do eqGuard .neq 4 x y (vb a) (vb b);binOp .neq 4 (vb a) (vb b));pure (.value v)):=by simp[execOp,aN,i,j]
 rw[this];refine Ui λQ g H k=>?_;simp only[eqGuard,Ze,Zi];exact Ze.2 (Aa _ _ _ k)
def Jg{len J hi:Nat}{a:Addr}{k:IntKind}{w:Option Operand}(D:P.toProgram.underlying t=some (.array len e))(M:TI P.toProgram e J zv bP)(C:0<len)(j:σ.get x=some (.pointer (some a)))(q:(w=none/\hi=len)\/∃z,w=some z/\σ.get z=some (.int k (hi:Int)))(K:hi<=len)
  (h:next (σ.set d (.slice (some a) hi len)) H):(aR.bT (.slice t x none w none) ty).m P d next σ H:=by
 obtain⟨L,F,I,N,R⟩:=M.ex;have s:(0:Int)<=(hi:Int)/\(hi:Int)<=(len:Nat):=⟨O,O⟩;have B:a.add (0 * J)=a:=by rw[Nat.zero_mul];rfl
 have i:¬ len=0:=O;rcases q with⟨rfl,rfl⟩ | ⟨z,rfl,q⟩
 ·refine Y6 (by simp[Op.operands,j]) ?_ h;have:execOp (λx=>(σ.get x).getD undef) (aN (.slice t x none none none) ty)=(do let v <-Instr.sliceAt t (.pointer (some a)) none none none;pure (.value v)):=by simp[execOp,aN,j]
  rw[this];refine Ui λQ g H u=>?_;simp only[Instr.sliceAt,Ze,ZA D,Instr.sureAddr,Instr.sliceBounds,Zi,Yf F,I,B,bY i,qBV];exact u
 refine Y6 (by simp[Op.operands,j,q]) ?_ h;have:execOp (λx=>(σ.get x).getD undef) (aN (.slice t x none (some z) none) ty)=(do let v <-Instr.sliceAt t (.pointer (some a)) none (some (.int k (hi:Int))) none;pure (.value v)):=by simp[execOp,aN,j,q]
 rw[this];refine Ui λQ g H u=>?_;simp only[Instr.sliceAt,Ze,ZA D,Instr.sureAddr,Instr.sliceBounds,Instr.sliceBound,asIntOf,Zi,BY s,Yf F,I,B,bY i,qBV,qBd];exact u
def ZtL{B z T C:TypeId}{j D:Nat}{w:Value}(O:P.toProgram.underlying B=some (.slice E))(W:TI P.toProgram E 1 zv bP)(F:σ.get x=some (.slice (some ⟨r,0,none⟩) j D))(I:σ.get y=some w)(R:Zj H w l)(N:l.length<=j)(X:j=cs.length)(hb:H r=some (.cells cs.toArray C (0,0),true))(u:P.still H.gh=false)
  (h:next (σ.set d (vi l.length)) (H.ins r (.cells (l.map vi++cs.drop l.length).toArray C))):(aR.raw (.call { callee:=.builtin .copy,args:=#[x,y],argTypes:=#[B,z] }) T).m P d next σ H:=by
 obtain⟨V,S,U,Y,Z⟩:=W.ex;refine YX (s:=Builtin.copy_ #[B,z] T #[.slice (some ⟨r,0,none⟩) j D,w]) (by simp[Op.operands,Call.operands,F,I]) (by simp[execOp,aN,resolve,invoke,builtin,F,I]) ?_;obtain⟨A,c,rfl,M⟩:=R;have q:Nat.min l.length j=l.length:=Nat.min_eq_left N;simp only[Builtin.copy_,qAt,qBr,qAW,Ze,ZA O,Builtin.lenOf,Zi,q,Yf S,U];have i:∀(Q:Array Value->Bool->Hp->Prop),Q (l.map vi).toArray false H->bD P.toPQ (Builtin.firstCells 1 l.length (.slice A l.length c)) Q false H:=by
  intro Q K;by_cases J:l=[]
  ·subst J;cases A<;>simpa[Builtin.firstCells,Zi,loadCells,loadCellsFrom]using K
  obtain⟨a,rfl,k⟩:=M J;rw[UD]at k;simp only[Builtin.firstCells];exact B4 u k K (by simp)
 refine i _ ?_;refine vM _ _ (l.map vi) 0 0 cs H u hb (by simp[Value.bS]) (by simp;omega) ?_;simpa[goInt]using h
end
def YD{H:Hp}{h:Obj}:(H.ins r o).ins r h=H.ins r h:=by
 refine Hp.ext' (λc=>?_) rfl;by_cases e:c=r
 ·subst e;rw[Hp.aD,Hp.aD]
 rw[Hp.aE _ _ e,Hp.aE _ _ e,Hp.aE _ _ e]
def ZW{H:Hp}:aC (H.ins r (.cells cs.toArray E)) ⟨r,0,none⟩ cs:=⟨rfl,_,_,Hp.aD _ _ _,λj h=>by simp[Obj.fT]⟩
def Yq(l:List Int):N4:=.of λi=>l.getD i 0
def VM(b:Bk)(l:List Int)(i h:Int):Int:=if l.length≠b.aF.length then 2 else if l.all (λn=>decide (i<=n/\n<=h))then 0 else 1
def YH(b:Bk)(x:Zs):Bool:=decide (YZ b (Zm b x)<=Y1 b (Zm b x))
def Zs.cH(x:Zs):Bool:=!decide (x.bf=0/\x.bP=0)
section
variable{P:aY}[Tz P]{H:Hp}
def Ztu(n j i:Int){k q:Nat}(u:aC H ⟨k,0,none⟩ [vi j])(w:aC H ⟨q,0,none⟩ [vi i])(h:P.still H.gh=false):LL.Za P 154 #[vi n,.pointer (some ⟨k,0,none⟩),.pointer (some ⟨q,0,none⟩)] H λv s=>H=s/\v=vb (!decide (j<=n/\n<=i)):=by refine aI.m (bG ZxB) rfl ?_;unfold Ge;refine Y ?_;refine Zg h rfl u (Y ?_);refine Zg h rfl w (Y ?_);refine Zv (vs:=[vi n,vi j,vi i]) rfl (On _ _ _) ?_;rintro v _ ⟨rfl,rfl⟩;refine Y ?_;exact⟨rfl,rfl⟩
theorem Jj{v:Value}{b:Bk}(s j:Int)(hb:bK H bv b)(F:Zj H v l)(M:l.length<=1000000)(k:P.still H.gh=false):LL.Za P 99 #[bv,v,vi s,vi j] H λv I=>H.Sub I/\v=vi (VM b l s j):=by
 obtain⟨T,R,rfl,N,S⟩:=hb;refine aI.m (bG ZxV) rfl ?_;unfold Hv;refine Y ?_;refine YG rfl k λC B=>Y ?_;refine YG rfl k λD w=>?_;have i:∀o Q,P.still ((H.ins C o).ins D Q).gh=false:=λ_ _=>k;have h:H.Sub ((H.ins C (.cells (vi s).cells 3)).ins D (.cells (vi j).cells 3)):=(Yd B).trans (Yd w);refine Y ?_;refine ZK (F.sub h) rfl (Y ?_);refine ZK (N.sub h) rfl ?_;refine OJ (λK=>?_) (λK=>?_)
 ·refine Y ?_;exact⟨h,by rw[VM,BY O];rfl⟩
 refine Y ?_;refine Y8 rfl rfl (Y ?_);refine Zv (vs:=[v,.func (.func 154) #[] #[.pointer (some ⟨C,0,none⟩),.pointer (some ⟨D,0,none⟩)]]) rfl (ZAv (f:=λn=>!decide (s<=n/\n<=j)) (l:=l) (λc L=>?_) (F.sub h) M (i _ _)) ?_
 ·exact Yg U (Ztu c s j (ZW.inc (Zk w)) ZW (i _ _))
 rintro v _ ⟨rfl,rfl⟩;refine Y ?_;have e:(l.any λn=>!decide (s<=n/\n<=j))=!(l.all λn=>decide (s<=n/\n<=j)):=by rw[List.any_eq_not_all_not];simp
 refine OI (λu=>?_) (λu=>?_)
 ·refine Y ?_;refine⟨h,?_⟩;rw[e]at u;rw[VM,bY O,bY (by simpa using u)];rfl
 refine Y ?_;refine⟨h,?_⟩;rw[e]at u;rw[VM,bY O,BY (by simpa using u)];rfl
def LU{v:Value}(z:Zj H v l)(q:l.length<=4)(j:P.still H.gh=false):LL.Za P 100 #[v] H λv u=>H.Sub u/\v=ZD (Yq l):=by
 refine aI.m (bG ZxU) rfl ?_;unfold Hw;refine Y ?_;refine ZV (bH NJ) j λr s=>?_;have i:∀o,P.still (H.ins r o).gh=false:=λ_=>j;refine Y ?_;refine Jg (hi:=4) (k:=.i64) (bL Od) (bH t3) O rfl (.inl ⟨rfl,rfl⟩) O (Y ?_);refine ZtL (cs:=[vi 0,vi 0,vi 0,vi 0]) (bL eW) (bH t3) rfl rfl (z.sub (Yd s)) q rfl (Hp.aD _ _ _) (i _) ?_;rw[YD];have e:l.map vi++[vi 0,vi 0,vi 0,vi 0].drop l.length=(Yq l).cells:=by
  match l,q with
  | [],_=>rfl
  | [a],_=>rfl
  | [a,b],_=>rfl
  | [a,b,c],_=>rfl
  | [a,b,c,d],_=>rfl
  | a :: b :: c :: d :: e :: l,h=>simp at h
 rw[e];refine Y ?_;refine Z5 (i _) rfl ZW rfl (Y ?_);exact⟨Yd s,rfl⟩
def ZuH{b:Bk}{n:N4}(hb:bK H bv b)(M:b.aF.length<=4)(S:1<=b.aF.length)(w:P.still H.gh=false):LL.Za P 53 #[bv,ZD n] H λv K=>H.Sub K/\∃B,cS H K 3 v (n.kX.take b.aF.length) B:=by
 obtain⟨U,R,rfl,N,T⟩:=hb;refine aI.m (bG ZxP) rfl ?_;unfold Ib;refine Y ?_;refine YG rfl w λr F=>?_;have z:∀o,P.still (H.ins r o).gh=false:=λ_=>w;refine Y ?_;refine ZK (N.sub (Yd F)) rfl (Y ?_);refine Jg (hi:=b.aF.length) (k:=.i64) (bL Od) (bH t3) O rfl (.inr ⟨_,rfl,rfl⟩) O (Y ?_);have s:(n.kX.take b.aF.length).length=b.aF.length:=by simp[N4.kX];omega
 have C:aC (H.ins r (.cells (ZD n).cells 115)) ⟨r,0,none⟩ (Zh (n.kX.take b.aF.length)):=by
  refine⟨rfl,_,_,Hp.aD _ _ _,λj D=>?_⟩;rw[UD]at D ⊢;simp only[qAe,s]at D;rw[qCw,qBo,BY D];show(#[vi n.a,vi n.b,vi n.c,vi n.d]:Array Value)[0+j]? = Option.map vi [n.a,n.b,n.c,n.d][j]?;match j,(show j<4 by omega)with
  | 0,_=>rfl
  | 1,_=>rfl
  | 2,_=>rfl
  | 3,_=>rfl
 refine Zv (vs:=[.slice (some ⟨r,0,none⟩) b.aF.length 4]) rfl (ZAy (l:=n.kX.take b.aF.length) ⟨_,4,by rw[s],λ_=>⟨_,rfl,C⟩⟩ O (z _)) ?_;rintro v Q ⟨I,h | ⟨B,h⟩⟩
 ·rw[h.1]at s;simp at s;omega
 refine Y ?_;exact⟨(Yd F).trans I,B,h.own,λq e=>by
  have:=h.fresh q e;cases hh:H q with
  | none=>rfl
  | some y=>rw[(Yd F).mem q y hh]at this;simp at this⟩
def XD{b:Bk}{x:Zs}(hb:bK H bv b)(ok:EH b)(s:CG x)(D:1<=b.aF.length)(q:EJ b)(F:(Zm b x).Sm)(i:P.still H.gh=false):LL.Za P 67 #[bv,ZP x] H λv B=>H.Sub B/\v=vb (YH b x):=by
 have j:=hb;obtain⟨z,u,rfl,J,I⟩:=hb;refine aI.m (bG ZyZ) rfl ?_;unfold Ep;refine Y ?_;refine Zv (vs:=[.agg #[vi b.op,vi b.sl,z,u],ZP x]) rfl (O9 j ok s i) ?_;rintro v _ ⟨rfl,rfl⟩;refine Y ?_;refine Zv (vs:=[.agg #[vi b.op,vi b.sl,z,u],ZD (Zm b x)]) rfl (FM j ok.le D q F i) ?_;rintro v C ⟨h,rfl⟩;have w:P.still C.gh=false:=by rw[h.gh];exact i
 refine EG h.gh (Y ?_);exact⟨h,rfl⟩
def Mg{x:Zs}(j:P.still H.gh=false):LL.Za P 91 #[ZP x] H λv h=>H=h/\v=vb x.cH:=by refine aI.m (bG c92) rfl ?_;unfold QV;refine Y ?_;refine yI (xs:=#[vi x.bf,vi x.bP]) (ys:=#[vi 0,vi 0]) DG (λQ g H i=>wH (.inl CP) Q i) rfl rfl (Y ?_);exact⟨rfl,rfl⟩
def Zo6(i:P.still H.gh=false):LL.Za P 65 #[bv] H λv h=>H=h/\v=vb true:=by refine aI.m (bG c90) rfl ?_;unfold QX;refine Y ?_;exact⟨rfl,rfl⟩
end
def JG(G:Hp)(A:Hp->Prop)(H:Hp):Prop:=∃h F:Hp,H=h.join F/\h.Comp F/\bA G F/\A h
def JG.up{G:Hp}{A:Hp->Prop}{H:Hp}(k:Up A)(h:JG G A H):A H:=by obtain⟨m,F,rfl,i,_,j⟩:=h;exact k _ _ i j
def JG.inc{G:Hp}{A:Hp->Prop}{H:Hp}(h:JG G A H):bA G H:=by obtain⟨k,F,rfl,i,j,_⟩:=h;exact λb x hb=>Hp.aP i (j b x hb)
def JG.of{G:Hp}{A B:Hp->Prop}{H:Hp}(h:JG G A H)(q:∀i,A i->B i){G':Hp}(s:bA G' G):JG G' B H:=by obtain⟨i,F,rfl,j,k,m⟩:=h;exact⟨i,F,rfl,j,s.trans k,q _ m⟩
def JG.new{G:Hp}{A:Hp->Prop}{H:Hp}(h:JG G A H)(o:Obj)(u:H r=none):JG (G.ins r o) A (H.ins r o):=by
 obtain⟨m,F,rfl,j,q,s⟩:=h;obtain⟨c1,c2⟩:=Hp.cI.1 u;refine⟨m,F.ins r o,(Hp.eN c1).symm,⟨λb x y i k=>?_,j.gh⟩,λb x hb=>?_,s⟩
 ·by_cases e:b=r
  ·subst e;rw[c1]at i;simp at i
  rw[Hp.aE _ _ e]at k;exact j.mem b x y i k
 by_cases e:b=r
 ·subst e;rw[Hp.aD]at hb ⊢;exact hb
 rw[Hp.aE _ _ e]at hb ⊢;exact q b x hb
def JG.put{G:Hp}{A:Hp->Prop}{H:Hp}(h:JG G A H)(m:Obj)(z:G r=some (o,true)):JG (G.ins r m) A (H.ins r m):=by
 obtain⟨i,F,rfl,j,q,u⟩:=h;have c2:=q r _ z;have c1:i r=none:=by
  cases w:i r with
  | none=>rfl
  | some x=>have:=j.mem r x _ w c2;rw[this.1]at this;simp at this
 refine⟨i,F.ins r m,(Hp.eN c1).symm,⟨λb x y k s=>?_,j.gh⟩,λb x hb=>?_,u⟩
 ·by_cases e:b=r
  ·subst e;rw[c1]at k;simp at k
  rw[Hp.aE _ _ e]at s;exact j.mem b x y k s
 by_cases e:b=r
 ·subst e;rw[Hp.aD]at hb ⊢;exact hb
 rw[Hp.aE _ _ e]at hb ⊢;exact q b x hb
def JG.sub{G:Hp}{A:Hp->Prop}{H i:Hp}(h:JG G A H)(q:H.Sub i):JG G A i:=by
 classical
 obtain⟨k,F,rfl,s,w,B⟩:=h
 refine⟨k,⟨λb=>if F b=none then(if k b=none then i b else none)else F b,F.gh⟩,Hp.ext' (λb=>?_) ?_,⟨λb x y u j=>?_,s.gh⟩,λb x hb=>?_,B⟩
 ·show i b=_;simp only[Hp.aQ];cases hc:k b with
  | some x=>exact q.mem b x (Hp.aJ hc)
  | none=>
   cases m:F b with
   | none=>simp
   | some y=>simp;exact q.mem b y (by simp[Hp.aQ,hc,m])
 ·rw[q.gh];rfl
 ·have j:(if F b=none then(if k b=none then i b else none)else F b)=some y:=j;rw[u]at j;cases m:F b with
  | none=>simp[m]at j
  | some z=>simp[m]at j;subst j;exact s.mem b x z u m
 ·show(if F b=none then(if k b=none then i b else none)else F b)=some x;rw[w b x hb];simp
def JG.call{P:aY}{y:Value}{args:Array Value}{G:Hp}{A:Hp->Prop}{B:Value->Hp->Prop}{H:Hp}(z:∀H,A H->bR P y args H B)(h:JG G A H):bR P y args H (λv j=>JG G (B v) j):=by obtain⟨k,F,rfl,m,q,s⟩:=h;refine((z k s).frame m).mono ?_;rintro v j ⟨i,rfl,u,w⟩;exact⟨i,F,rfl,u,q,w⟩
def JG.closed{G:Hp}{A:Hp->Prop}:Up (JG G A):=by rintro H J m ⟨h,F,rfl,i,j,k⟩;exact⟨h,F.join J,Hp.cO _ _ _,i.join_r m.of_join_left,j.trans (Vb F J),k⟩
def uP{rest:List (List Value)}{I:Nat->Hp->Prop}(k:∀n,Up (I n)):Up (eS xs I rest):=by rintro H J m ⟨p,h,i,j⟩;exact⟨p,h,i,k p H J m j⟩
theorem VV{H:Hp}{a:Addr}(h:aC H a cs){j:Nat}{v:Value}(i:cs[j]? = some v):aC H (a.add j) [v]:=by
 obtain⟨m,o,p,q,s⟩:=h;have w:j<cs.length:=(List.getElem?_eq_some_iff.1 i).1;refine⟨CI m _,o,p,by rw[vQ];exact q,λk u=>?_⟩;have:k=0:=by simpa using u
 subst this;rw[vR,qBB,s j w,i];rfl
def eC(f:Int->List Zs)(h:Int):Nat->List Zs
 | 0=>[]
 | c+1=>f (h-c)++eC f h c
def Zx(b:Bk)(i:Nat):pU:=b.aF.getD i ⟨0,0,0,0,0⟩
def bM(b:Bk):Nat->N4->List Zs
 | 0,m=>((ZB b).map λk=>(⟨m,k.bf,k.bP⟩:Zs)).filter (Uh b)
 | r+1,m=>eC (λv=>bM b r (m.put (b.aF.length-(r+1)) v)) (Zx b (b.aF.length-(r+1))).mh ((Zx b (b.aF.length-(r+1))).mh-(Zx b (b.aF.length-(r+1))).ml+1).toNat
def Zd(b:Bk):List Zs:=bM b b.aF.length ⟨0,0,0,0⟩
def Uq(x:Zs):List Value:=[ZP x]
