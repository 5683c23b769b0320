import Derived.Test.YtlhomfgcibjccaaGreatDoorTK01
set_option linter.all false
set_option maxHeartbeats 8000000
set_option maxRecDepth 20000
open Go Go.LL
namespace Go.Proofs
variable{lt lp:List Int}{lv:Value}{G:Prop}
section
variable{P:aX}[Tz P][Loud P]{H:Hp}
def wA{b:Sb}(hn:1<=b.pk.length/\b.pk.length<=4) :
  LL.Zc P 47 #[b.v] H λv e=>aL H e/\∃A c f,v=.slice A f.length c/\aF e v f/\cX e f (ZB b.pk.length):=by
 refine aJ.m (bG sO) (args:=[b.v]) rfl ?_;unfold lM Sb.v;refine Y ?_;refine ZY (cs:=Zb [((none,0,0):bW)]) (OL _) rfl λM qE=>?_;have s8:aF (H.ins M (.cells (Zb [((none,0,0):bW)]).toArray 26)) (.slice (some ⟨M,0,none⟩) 1 1) [((none,0,0):bW)]:=Z0 (l:=[((none,0,0):bW)]);have i8:aL H (H.ins M (.cells (Zb [((none,0,0):bW)]).toArray 26)):=Zs qE;generalize H.ins M (.cells (Zb [((none,0,0):bW)]).toArray 26)=H1 at *;refine Y ?_;refine ZO (α:=(Option Addr×Nat)×List bW) b.pk.length (λi s e=>aL H e/\aF e (.slice s.1.1 s.2.length s.1.2) s.2/\cX e s.2 (dF b.pk.length i))
  (λi s=>[(1,vi 0),(2,.slice none 0 0),(3,.slice s.1.1 s.2.length s.1.2),(4,vi i)]) (λ_ _=>[(1,b.cs)]) ((some ⟨M,0,none⟩,1),[(none,0,0)])
  ⟨i8,s8,rfl,λi h h'=>by(obtain rfl:i=0:=by simpa using h);exact⟨.nil _,dO _⟩⟩ V V ?_
 rintro i ⟨⟨Z,c3⟩,f⟩ H2 hi ⟨i2,X,J⟩;simp only at X J;have tE:=J.len;have lG:=sK hn.2 (show i<=b.pk.length by omega);refine OJ (λh1=>?_) (λh1=>?_)
 ·have yL:i<b.pk.length:=O;refine Y ?_;refine ZO (α:=Hp×Value×List bW×Option Nat) f.length (λk s e=>aL H2 s.1/\aL s.1 e/\dD s.1 e 26 s.2.1 s.2.2.1 s.2.2.2/\cX s.1 s.2.2.1 (((dF b.pk.length i).take k).flatMap λl=>bR l b.pk.length))
   (λk s=>[(1,vi 0),(2,.slice none 0 0),(3,.slice Z f.length c3),(4,vi i),(5,s.2.1),(6,vi k)]) (λ_ _=>[(1,b.cs)]) (H2,.slice none 0 0,[],none) ⟨.refl _,.refl _,.nil _ _ _,.nil _⟩ V V ?_
  rintro k ⟨G,v5,ps,b5⟩ H3 hk ⟨g1,S,U,T⟩;simp only at g1 S U T;refine OJ (λh2=>?_) (λh2=>?_)
  ·have x:k<f.length:=O;have y:k<(dF b.pk.length i).length:=O;obtain⟨sk,ck⟩:=J.at_ k x y;have vN:=sR (λl=>bR l b.pk.length) y;have z:=mH (n:=b.pk.length) ((dF b.pk.length i).take k);rw[qAj]at z;have z:(((dF b.pk.length i).take k).flatMap λl=>bR l b.pk.length).length<=96:=by refine qAz z (qAz (qBq (show min k _<=24 by omega) hn.2) (by decide))
   have CM:=lG.2 _ (bY y);generalize((dF b.pk.length i).take k).flatMap (λl=>bR l b.pk.length)=L at *;generalize(dF b.pk.length i)[k]=l at *;generalize qG:f[k]=q at *;have F:=kF sk;obtain⟨qA,qn,qc⟩:=q;simp only at F ck;subst F;refine Y ?_;refine ZO (α:=Hp×Value×List bW×Option Nat) b.pk.length (λj s e=>aL H2 s.1/\aL s.1 e/\dD s.1 e 26 s.2.1 s.2.2.1 s.2.2.2/\cX s.1 s.2.2.1 (L++bR l j))
    (λj s=>[(1,vi 0),(2,.slice none 0 0),(3,.slice Z f.length c3),(4,vi i),(5,s.2.1),(6,vi k),(7,vi j)]) (λ_ _=>[(1,b.cs)]) (G,v5,ps,b5) ⟨g1,S,U,by rw[bR,qCC,qCp,qAf];exact T⟩ V V ?_
   rintro j ⟨G2,w5,B,Q⟩ H4 hj ⟨C,D,W,K⟩;simp only at C D W K;have mO:=K.len;rw[BY]at mO;have vI:=iX l j;refine OJ (λh3=>?_) (λh3=>?_)
   ·have g9:j<b.pk.length:=O;have r:=mG l j;have t:=C.trans D;have row:Enc.enc f[k]=[.slice qA l.length qc]:=by rw[qG];rfl
    refine Y ?_;refine Zz k (X.inc t) x λa ha=>?_;rw[row]at ha;refine Y ?_;refine Ya ha (Y ?_);refine Za [.slice qA l.length qc,vi j] (vY (sk.inc t) O) ?_;rintro v _ ⟨rfl,rfl⟩;by_cases g:(j:Int)∈l
    ·rw[decide_eq_true g];rw[iF g,qAf]at r;refine Y ?_;exact⟨(⟨j+1,O⟩,(G2,w5,B,Q)),bN O,⟨C,D,W,by rw[r];exact K⟩,V,V,rfl⟩
    rw[qAo g];rw[aT g]at r;refine Y ?_;refine qZ (bI dW) (cD t3) (OL _) λr7 p=>Y ?_;refine Zz k ((X.inc t).inc (Zs p)) x λa2 E=>?_;rw[row]at E;refine Y ?_;refine Ya E (Y ?_);refine rG (l:=l) (bI dW) (cD t3) rfl (by decide) p rfl ((sk.inc t).inc (Zs p)) (sG (λ_=>rfl) l) O O rfl rfl (OL _) λv8 H5 b8 i5 o8=>?_;have qD:aL H4 H5:=(Zs (o:=.cells #[] 3) p).trans i5;refine Y ?_;refine ZY (cs:=[vi (j:Int)]) (OL _) rfl λr9 I=>Y ?_;refine U7 (l':=[(j:Int)]) (bI dW) (bI dW) (cD t3) rfl (by decide) (qD.trans (Zs I)) (o8.ins I) qY rfl (by simp;omega) O rfl rfl (OL _) λv9 H6 b9 k1 k2 k3=>?_;obtain⟨N,R,rfl,q9⟩:=jF k2;obtain⟨G',m1,m2,m3,m4⟩:=yR D W k1 k2;refine Y ?_;refine ZY (cs:=[.slice N (l++[(j:Int)]).length R]) (OL _) rfl λwL w=>Y ?_;refine U7 (l':=[((N,(l++[(j:Int)]).length,R):bW)]) (bI kU) (bI kU) (cD rO) rfl (by decide) (m2.trans (Zs w)) (m3.ins w) (Z0 (l:=[((N,(l++[(j:Int)]).length,R):bW)])) rfl (by simp;omega) O rfl rfl (OL _) λuY H7 vO n1 n2 n3=>Y ?_;exact⟨(⟨j+1,O⟩,(G',uY,B++[(N,(l++[(j:Int)]).length,R)],vO)),bN O,⟨C.trans m1,n1,n2,by rw[r,<-qAW];exact(K.inc m1).snoc m4 q9⟩,V,V,rfl⟩
   have:j=b.pk.length:=O;subst this;refine Y ?_;exact⟨(⟨k+1,O⟩,(G2,w5,B,Q)),bN O,⟨C,D,W,by rw[vN];exact K⟩,V,V,rfl⟩
  have:k=f.length:=O;subst this;rw[tE,IF]at T;obtain⟨A5,Q,rfl,q5⟩:=jF U;refine Y ?_;exact⟨(⟨i+1,O⟩,((A5,Q),ps)),bN O,⟨(i2.trans g1).trans S,U.sl,T.inc S⟩,V,V,rfl⟩
 have:i=b.pk.length:=O;subst this;rw[sN hn]at J;refine Y ?_;exact⟨i2,Z,c3,f,rfl,X,J⟩
def v7{b:Sb}{n:Int}(o:1<=b.pk.length/\b.pk.length<=4)(u:0<=n/\n<256) :
  LL.Zc P 37 #[b.v,.int .u8 n] H λv l=>aL H l/\∃A c p,p∈ZB b.pk.length/\v=.slice A p.length c/\p.length<=c/\aF l (.slice A p.length c) p:=by
 refine aJ.m (bG uK) (args:=[b.v,.int .u8 n]) rfl ?_;unfold mL Sb.v;refine Y ?_;refine Za [b.v] (wA o) ?_;rintro v H1 ⟨i1,A,c,k,rfl,sq,r⟩;have w:=r.len;have x:=CZ o;have h:0<k.length:=by obtain⟨B,C,D,E⟩:=IB;have:b.pk.length=1\/b.pk.length=2\/b.pk.length=3\/b.pk.length=4:=O;rcases this with e | e | e | e<;>rw[e]at w<;>omega
 refine Y ?_;refine Vs (bI Tryz.underlying5) (bI Tryz.underlying3) rfl ?_;rw[Uk (show pZ n from⟨O,O⟩)];refine Y ?_;refine lL rfl rfl O ?_;obtain⟨i,hi,s⟩:=mU (n:=k.length) u.1 h;rw[s];have f:i<(ZB b.pk.length).length:=O;obtain⟨s1,s2⟩:=r.at_ i hi f;have j:=kF s1;have g:=bY f;have row:Enc.enc k[i]=[dN k[i]]:=rfl;refine Y ?_;refine Zz i sq hi λa ha=>?_;rw[row]at ha;generalize k[i]=q at *;generalize(ZB b.pk.length)[i]=p at *;obtain⟨y,F,z⟩:=q;simp only at j s2;subst j;refine Y ?_;refine Ya ha (Y ?_);exact⟨i1,y,z,p,g,rfl,s2,s1⟩
end
def cH(b:Sb)(l:List fI)(n:Nat):List Int:=(List.range n).map λ(i:Nat)=>(aD b i).lo+(dP l i).tmod ((aD b i).hi-(aD b i).lo+1)
def fT(b:Sb)(l:List fI)(n:Nat):(cH b l n).length=n:=by simp[cH]
def pO(b:Sb)(l:List fI){n i:Nat}(h:i<n):(cH b l n).getD i 0=(aD b i).lo+(dP l i).tmod ((aD b i).hi-(aD b i).lo+1):=by rw[ZD (by rw[fT];exact h)];simp[cH]
def oS{b:Sb}(ok:bA b)(l:List fI){i:Nat}(h:i<b.pk.length):(aD b i).lo<=(cH b l b.pk.length).getD i 0/\(cH b l b.pk.length).getD i 0<=(aD b i).hi:=by rw[pO b l h];have a:=(gD ok h).1;have:=gW (m:=(aD b i).hi-(aD b i).lo+1) (lU l i).1 O;omega
def pY{b:Sb}(ok:bA b)(l:List fI):∀z∈cH b l b.pk.length,1<=z/\z<=20:=λz d=>by
 obtain⟨i,c,rfl⟩:=qAk.1 d;have a:i<b.pk.length:=by rw[fT]at c;exact c
 have h:=oS ok l a;rw[ZD c]at h;have:=(gD ok a).1;omega
section
variable{P:aX}[Tz P][Loud P]{H:Hp}{b:Sb}
def sS(ok:bA b)(a:lt.length=b.pk.length)(c:∀z∈lt,1<=z/\z<=20)(d:bK b.pk.length lp):Z7 b lt lp=0:=by rw[Z7,jO ok,aT (by decide),mT a c,aT (by decide),qK d]
theorem wB(ok:bA b){j i:Option Addr}{k f:Nat}(p:lt.length=b.pk.length)(l:∀z∈lt,1<=z/\z<=20)(a:bK b.pk.length lp)(x:aF H (.slice j lt.length k) lt)(u:aF H (.slice i lp.length f) lp)(s:lp.length<=f)(hb:Zr H b)(t:Yk H)(g:aC H ⟨1,0,none⟩ [vf 284]) :
  LL.Zc P 45 #[b.v,.slice j lt.length k,.slice i lp.length f] H λv d=>aL H d/\∃A c,v=.tuple #[.slice A b.pk.length c,vi 0]/\aF d (.slice A b.pk.length c) (VN b (Ys lt) lp):=
 LL.Zc.mono (KM hb ok.sz' t g x u s (by have:=ok.n;omega) (by have:=a.len;have:=ok.n;omega)) λv d h=>by
  rw[sS ok p l a]at h;obtain⟨q,w,rfl,⟨r,_⟩ | ⟨_,y,m⟩⟩:=h
  ·exact absurd rfl r
  obtain⟨A,c,rfl,_⟩:=id m.sl;have e:=(tH ok (uE l) a.len a.rg).1;have o:=m.sl;rw[e]at o ⊢;exact⟨q,A,c,rfl,o⟩
end
section
variable{P:aX}[Tz P][Loud P]{H:Hp}
def oB(b:Sb)(l:List fI)(j:Nat):cH b l (j+1)=cH b l j++[(aD b j).lo+(dP l j).tmod ((aD b j).hi-(aD b j).lo+1)]:=pX
def nH{b:Sb}{l:List fI}(ok:bA b)(hb:Zr H b)(D:aF H lv l):LL.Zc P 44 #[b.v,lv] H λv f=>aL H f/\∃A c,v=.slice A (cH b l b.pk.length).length c/\(cH b l b.pk.length).length<=c/\aF f (.slice A (cH b l b.pk.length).length c) (cH b l b.pk.length):=by
 have Q:=ok.n;refine aJ.m (bG uL) (args:=[b.v,lv]) rfl ?_;unfold mM Sb.v;refine Y ?_;refine ZO (α:=Value×Option Nat) b.pk.length (λj s f=>aL H f/\dD H f 3 s.1 (cH b l j) s.2) (λj s=>[(1,lv),(2,vi 0),(4,.slice none 0 0),(5,s.1),(6,vi j)]) (λ_ _=>[(2,b.cs)]) (.slice none 0 0,none) ⟨.refl _,.nil _ _ _⟩ V V ?_;rintro j ⟨U,L⟩ J N ⟨k,p⟩;simp only at p;have E:=fT b l j;refine OJ (λC=>?_) (λC=>?_)
 ·have e:j<b.pk.length:=O;obtain⟨M,_⟩:=gD ok e;have row:Enc.enc b.pk[j]=[.string (aD b j).nm,vi (aD b j).lo,vi (aD b j).hi,vi (aD b j).bF,vi (aD b j).bJ]:=by rw[show b.pk[j]=aD b j from(ZD e _).symm];rfl
  have r:=oB b l j;refine Y ?_;refine Zz j (hb.pk.inc k) e λa t=>?_;rw[row]at t;refine Y ?_;refine Zn (cs:=[vi (aD b j).lo,vi (aD b j).hi]) (OL _) rfl (YN (ds:=[vi (aD b j).bF,vi (aD b j).bJ]) (eY (n:=1) t rfl)) rfl (Y ?_);refine Za [lv,vi j] (vX (D.inc k)) ?_;rintro v _ ⟨rfl,rfl⟩;refine Y ?_;refine Za [.agg #[vi (aD b j).lo,vi (aD b j).hi],vi (dP l j)] (vZ O (lU l j).1) ?_;rintro v _ ⟨rfl,rfl⟩;generalize(aD b j).lo+(dP l j).tmod ((aD b j).hi-(aD b j).lo+1)=x at *;refine Y ?_;refine ZY (cs:=[vi x]) (OL _) rfl λT h=>?_;refine Zp OL (Y ?_);refine U7 (l':=[x]) (bI dW) (bI dW) (cD t3) rfl (by decide) (k.trans (Zs h)) (p.ins h) qY rfl (by simp only[qAA];omega) O rfl rfl (OL _) λI K y k1 u R=>?_;rw[<-r]at u;refine Y ?_;exact⟨(⟨j+1,O⟩,(I,y)),bN O,⟨k1,u⟩,V,V,rfl⟩
 have:j=b.pk.length:=O;subst this;obtain⟨w,z,rfl,F⟩:=jF p;refine Y ?_;exact⟨k,w,z,rfl,F,p.sl⟩
end
theorem oC{b:Sb}{i:Nat}(h:i<b.pk.length):Enc.enc b.pk[i]=[.string (aD b i).nm,vi (aD b i).lo,vi (aD b i).hi,vi (aD b i).bF,vi (aD b i).bJ]:=by rw[show b.pk[i]=aD b i from(ZD h _).symm];rfl
def rH{b:Sb}{t:N4}{l:List Int}(ok:bA b)(i:Yp t)(c:bK b.pk.length l){p:Nat}(u:(p:Int)∈l):0<=(bM (VN b t l) p).d/\(bM (VN b t l) p).d<=200:=by
 have y:=ok.n;have g:=dU (t:=t) c;obtain⟨k,m,e⟩:=qAk.1 (show(p:Int)∈Ul b t l from(tI _ _).mem_iff.2 u);have a:k<b.pk.length:=by rw[<-g.len];exact m
 have q:el (Ul b t l) k=p:=by rw[el,ZD m];exact e
 have h:=(eI ok i c a).2.1;have x:=c.len;have f:=z7 ok i c.rg l.length (dO _);rw[IF]at f;have r:=EN ok f.l1 f.o O (l:=Ul b t l) g.rg k O;have s:0<=el (s2 b t l k).2 (Zo (s2 b t l k).2)/\el (s2 b t l k).2 (Zo (s2 b t l k).2)<=20 * l.length+20 * k:=r.fr _;rw[iB ok i c O]at s;have v:0<=rT b t l k/\rT b t l k<=20 * l.length:=f.o _;have w:0<=dT b t l k/\dT b t l k<=20:=by have z:=g.at_ a;have:=(ok.pk (el (Ul b t l) k).toNat O).2.2.1;rw[dT,aD,ZD (show(el (Ul b t l) k).toNat<b.pk.length by omega)];omega
 rw[q,qS]at h;have h:(bM (VN b t l) p).d=_:=h;rw[h];omega
def k8(h:G:=by
  refine OJ (λh8=>?_) (λh8=>?_)
  ·refine OJ (λh9=>?_) (λh9=>?_)
   ·exact absurd (SK h8) (by simpa using h9)
   exact kS
  exact kS):G:=h
def gB{G:Prop} (h:G:=by refine Y ?_;exact⟨⟨k+1,O⟩,bN O,rfl,⟨rfl,rfl,rfl,rfl,rfl,rfl,by rw[Rf];rfl,by rw[Re];rfl,by rw[hq3];rfl,by rw[Ek];rfl,rfl,trivial⟩,V,rfl⟩):G:=h
def kS(h:G:=by refine Y ?_;exact dM (I:=λj H'=>W=H') (env:=λj=>[(3,vi 0),(7,.slice U T.length X),(8,.slice A p.length c),(9,.slice Aw b.pk.length cw),(11,vi j)]) (box:=λ_=>[(3,b.cs)]) L rfl V V rfl):G:=h
def cZ(h:G:=by refine Y ?_;exact⟨(),rfl,V,V,rfl⟩):G:=h
def bT(Q:Int->Bool)(p:List Int)(k:Nat):Int:=((p.take k).filter Q).length
def gG{Q:Int->Bool}{p:List Int}{k:Nat}(h:k<p.length):bT Q p (k+1)=bT Q p k+if Q p[k]=true then 1 else 0:=by rw[bT,bT,iN h,qBS,BY];cases hq:Q p[k]<;>simp[hq]
def gO(Q:Int->Bool)(p:List Int)(k:Nat):0<=bT Q p k/\bT Q p k<=k:=by have a:=qBd Q (p.take k);rw[qAj]at a;rw[bT];omega
section
variable{P:aX}[Tz P][Loud P]{H:Hp}
theorem nI(hO:P=PP){b:Sb}{l:List fI}{m:Int}(hb:Zr H b)(lG:aF H lv l)(hm:0<=m/\m<256)(hg:Yk H)(zS:aC H ⟨1,0,none⟩ [vf 284]) :
  lW.m P (tJ P kE λv _=>v=vb true) (Vv [b.v,lv,.int .u8 m]) H:=by
 unfold lW Sb.v;refine Y ?_;refine Za [b.v] (nU hb) ?_;rintro v _ ⟨rfl,g,rfl,yI⟩;cases g with
 | false=>
  refine Y ?_;refine Za [] (bB hO hg zS) ?_;rintro v H1 ⟨_,rfl⟩;refine Y ?_;rfl
 | true=>
 have ok:=yI rfl;have hn:=ok.n;refine Y ?_;refine Za [b.v,lv] (nH ok hb lG) ?_;rintro v H1 ⟨t,U,X,rfl,Ga,hT⟩;refine Zp OL (Y ?_);refine Za [b.v,.int .u8 m] (v7 hn hm) ?_;rintro v H2 ⟨j2,A,c,p,BH,rfl,hc,hl⟩;have i2:=t.trans j2;have F:=pQ hn BH;have HK:=λ(k:Nat) (hk:k<b.pk.length)=>qL hn BH hk;have hT:=hT.inc j2;have TG:=hb.inc i2;have KC:Yk H2:=aC.inc hg i2;have Z:=aC.inc zS i2;have t1:=fT b l b.pk.length;have t2:=pY ok l;have ht:=uE t2;generalize cH b l b.pk.length=T at *;refine Y ?_;refine Za [b.v,.slice U T.length X,.slice A p.length c] (wB ok t1 t2 F hT hl hc TG KC Z) ?_;rintro v W ⟨j3,Aw,cw,rfl,hw⟩;have wl:=(tH ok ht F.len F.rg).1;have wd:∀i:Nat,i<b.pk.length->0<=(wZ b (Ys T) p i).d/\(wZ b (Ys T) p i).d<=200:=λk hk=>rH ok ht F (HK k hk);have Dm:=λ{j:Nat} (hj:j<b.pk.length)=>rD ok ht F hj;have Dn:=λ{j:Nat} (hj:j<b.pk.length)=>sH ok ht F hj;have M:=λ{j:Nat} (hj:j<b.pk.length) h=>sU ok ht F hj h;have Dp:=rI ok ht F;have SK:=λ{j:Nat} (hj:j<b.pk.length) h=>sV ok ht F hj h;have N:=λ{i k:Nat} (hi:i<b.pk.length) (hk:k<b.pk.length) h=>sI ok ht F hi hk h;have J:=hl.inc j3;have hT3:=hT.inc j3;have zX:=TG.inc j3;have FL:Yk W:=aC.inc KC j3;have Fu:=aC.inc Z j3;have J6:∀i:Nat,(h:i<(VN b (Ys T) p).length)->wZ b (Ys T) p i=(VN b (Ys T) p)[i]:=λi h=>ZD h _;generalize wZ b (Ys T) p=R at *;generalize VN b (Ys T) p=w at *;have vK:=F.len;have D5:∀j,(h:j<p.length)->∃i:Nat,p[j]=i/\i<b.pk.length/\el p j=i:=λj h=>by have hr:=F.rg _ (bY h);exact⟨p[j].toNat,O,O,by rw[el,ZD h];omega⟩
 refine OJ (λh0=>?_) (λh0=>?_)
 ·exact absurd (by omega:(b.pk.length:Int)=T.length) h0
 refine Y ?_;refine Zv p.length (λj D=>W=D) (λj=>[(3,vi 0),(7,.slice U T.length X),(8,.slice A p.length c),(9,.slice Aw b.pk.length cw),(11,vi j)]) (λ_=>[(3,b.cs)]) rfl V V ?_;rintro j _ hj rfl;refine OJ (λh1=>?_) (λh1=>?_)
 ·have L:j<p.length:=O;have I:j<b.pk.length:=O;obtain⟨i,hi,K,Sf⟩:=D5 j L;have KB:i<T.length:=O;have NJ:i<w.length:=O;have eT:(Ys T).get i=T[i]:=by rw[fJ O,ZD KB]
  obtain⟨k1,k2,k3,k4,k5⟩:=Dm I;have Dn:=Dn I;have M:=M I;have Dp:=Dp ((R (el p j)).g);have SK:=SK I;have N:=λ{k:Nat} (hk:k<b.pk.length) h=>N (i:=j) I hk h;have hwd:=wd i K;have hTi:=t2 _ (bY KB);have uR:=gD ok K;have row:=oC K;have hRi:=J6 i NJ;rw[Sf,qAD]at k2 k4;rw[Sf]at k1 k3 k5 Dn M Dp SK N;rw[eT]at k2;have rr:Enc.enc w[i]=[vi (R i).i,vi (R i).o,vi (R i).g,vi (R i).d]:=by rw[hRi];rfl
  generalize hy:R (i:Int)=y at *;generalize hTe:T[i]=x at *;refine Y ?_;refine Zz j J L λa C=>?_;rw[hi]at C;refine Y ?_;refine Ya (v:=vi (i:Int)) C (Y ?_);refine Zz i hw NJ λa2 u=>?_;rw[rr]at u;refine Y ?_;refine YA (cs:=[vi y.i,vi y.o,vi y.g,vi y.d]) u ?_;refine OB ?_;refine Z2 (ι:=Unit) (λ_ D=>W=D) (λ_=>[(3,vi 0),(7,.slice U T.length X),(8,.slice A p.length c),(9,.slice Aw b.pk.length cw),(11,vi j),(12,vi 0)]) (λ_=>[(3,b.cs),(12,[vi y.i,vi y.o,vi y.g,vi y.d])]) ?_ ?_
  ·refine OJ (λh2=>?_) (λh2=>?_)
   ·exact absurd h2 O
   refine Y ?_;refine Zz j J L λa C=>?_;rw[hi]at C;refine Y ?_;refine Ya (v:=vi (i:Int)) C (Y ?_);refine Zz i hT3 KB λa3 Sj=>?_;rw[hTe]at Sj;refine Y ?_;refine Ya (v:=vi x) Sj ?_;refine OJ (λh3=>?_) (λh3=>?_)
   ·exact absurd k2 (by simpa using h3)
   refine OJ (λh3=>?_) (λh3=>?_)
   ·exact absurd h3 O
   refine Y ?_;refine Zz j J L λa C=>?_;rw[hi]at C;refine Y ?_;refine Ya (v:=vi (i:Int)) C (Y ?_);refine Zz i zX.pk K λa FN=>?_;rw[row]at FN;refine Y ?_;refine Zh (v:=vi (aD b i).bF) (OL _) rfl (YN (ds:=[vi (aD b i).bJ]) (eY (n:=3) FN rfl)) ?_;refine OJ (λf=>?_) (λf=>?_)
   ·exact absurd k4 (by simpa using f)
   refine OJ (λr=>?_) (λr=>?_)
   ·have Sa:j-1<p.length:=O;have e1:(j:Int)-1=((j-1:Nat):Int):=O;obtain⟨i0,gQ,aHI,Fy⟩:=D5 (j-1) Sa;have NL:i0<w.length:=O;have k6:=k5 (j-1) O;rw[Fy,J6 i0 NL]at k6;refine Y ?_;rw[e1];refine Zz (j-1) J Sa λa C=>?_;rw[gQ]at C;refine Y ?_;refine Ya (v:=vi (i0:Int)) C (Y ?_);refine Zz i0 hw NL λa2 u=>Y ?_;refine Zh (v:=vi w[i0].i) (OL _) rfl (YN (ds:=[vi w[i0].o,vi w[i0].g,vi w[i0].d]) u) ?_;refine OJ (λB=>?_) (λB=>?_)
    ·exact absurd B O
    refine Y ?_;exact⟨(),rfl,V,V,rfl⟩
   refine Y ?_;exact⟨(),rfl,V,V,rfl⟩
  rintro _ _ rfl;refine Y ?_;refine Zv p.length (λk D=>W=D) (λk=>[(3,vi 0),(7,.slice U T.length X),(8,.slice A p.length c),(9,.slice Aw b.pk.length cw),(11,vi j),(12,vi 0),
   (13,vi (bT (λz=>decide ((R z).i<=y.i/\y.i<(R z).o)) p k)),(14,vi (bT (λz=>decide ((R z).i<y.i/\y.i-1<(R z).o)) p (min k j))),(15,vi (bT (λz=>decide ((R z).g<=y.g/\y.g<(R z).d)) p k)),(16,vi (bT (λz=>decide ((R z).g<y.g/\y.g-1<(R z).d)) p k)),(17,vi k)])
   (λ_=>[(3,b.cs),(12,[vi y.i,vi y.o,vi y.g,vi y.d])]) rfl ⟨rfl,rfl,rfl,rfl,rfl,rfl,rfl,by rw[Nat.zero_min];rfl,rfl,rfl,rfl,trivial⟩ V ?_
  rintro k _ hk rfl;refine OJ (λh2=>?_) (λh2=>?_)
  ·have E:k<p.length:=O;have hkn:k<b.pk.length:=O;obtain⟨t,FK,Fp,Fx⟩:=D5 k E;have NK:t<w.length:=O;have n1:=gG (Q:=λz=>decide ((R z).i<=y.i/\y.i<(R z).o)) E;have n2:=gG (Q:=λz=>decide ((R z).i<y.i/\y.i-1<(R z).o)) E;have n3:=gG (Q:=λz=>decide ((R z).g<=y.g/\y.g<(R z).d)) E;have n4:=gG (Q:=λz=>decide ((R z).g<y.g/\y.g-1<(R z).d)) E;have r1:=gO (λz=>decide ((R z).i<=y.i/\y.i<(R z).o)) p k;have r2:=gO (λz=>decide ((R z).i<y.i/\y.i-1<(R z).o)) p (min k j);have r3:=gO (λz=>decide ((R z).g<=y.g/\y.g<(R z).d)) p k;have r4:=gO (λz=>decide ((R z).g<y.g/\y.g-1<(R z).d)) p k;have Pp:=N hkn;have wd1:=wd t Fp;rw[Fx]at Pp;rw[FK]at n1 n2 n3 n4;have rr1:Enc.enc w[t]=[vi (R t).i,vi (R t).o,vi (R t).g,vi (R t).d]:=by rw[J6 t NK];rfl
   simp only[qAR]at n1 n2 n3 n4;generalize Rf:bT (λz=>decide ((R z).i<=y.i/\y.i<(R z).o)) p (k+1)=m1 at *;generalize hq3:bT (λz=>decide ((R z).g<=y.g/\y.g<(R z).d)) p (k+1)=m3 at *;generalize Ek:bT (λz=>decide ((R z).g<y.g/\y.g-1<(R z).d)) p (k+1)=m4 at *;have S:bT (λz=>decide ((R z).i<y.i/\y.i-1<(R z).o)) p (min (k+1) j)=bT (λz=>decide ((R z).i<y.i/\y.i-1<(R z).o)) p (min k j)+if k<j/\(R t).i<y.i/\y.i-1<(R t).o then 1 else 0:=by
    by_cases Rv:k<j
    ·rw[qCr (show k+1<=j by omega),qCr (show k<=j by omega),n2];by_cases e:(R t).i<y.i/\y.i-1<(R t).o
     ·rw[iF e,iF ⟨Rv,e⟩]
     rw[aT e,aT (λh=>e h.2)]
    rw[qEg (show j<=k+1 by omega),qEg (show j<=k by omega),aT (λh=>Rv h.1),qBO]
   generalize Re:bT (λz=>decide ((R z).i<y.i/\y.i-1<(R z).o)) p (min (k+1) j)=m2 at *;generalize bT (λz=>decide ((R z).i<=y.i/\y.i<(R z).o)) p k=c1 at *;generalize bT (λz=>decide ((R z).i<y.i/\y.i-1<(R z).o)) p (min k j)=c2 at *;generalize bT (λz=>decide ((R z).g<=y.g/\y.g<(R z).d)) p k=c3 at *;generalize bT (λz=>decide ((R z).g<y.g/\y.g-1<(R z).d)) p k=c4 at *;generalize R (t:Int)=q at *;refine Y ?_;refine Zz k J E λa C=>?_;rw[FK]at C;refine Y ?_;refine Ya (v:=vi (t:Int)) C (Y ?_);refine Zz t hw NK λa2 u=>?_;rw[rr1]at u;refine Y ?_;refine YA (cs:=[vi q.i,vi q.o,vi q.g,vi q.d]) u ?_;refine OB ?_;refine Z2 (ι:=Unit) (λ_ D=>W=D) (λ_=>[(3,vi 0),(7,.slice U T.length X),(8,.slice A p.length c),(9,.slice Aw b.pk.length cw),(11,vi j),(12,vi 0),(13,vi m1),(14,vi c2),(15,vi c3),(16,vi c4),(17,vi k),(18,vi 0)])
    (λ_=>[(3,b.cs),(12,[vi y.i,vi y.o,vi y.g,vi y.d]),(18,[vi q.i,vi q.o,vi q.g,vi q.d])]) ?_ ?_
   ·refine OJ (λr=>?_) (λr=>?_)
    ·refine OJ (λf=>?_) (λf=>?_)
     ·rw[n1,iF ⟨r,f⟩];exact cZ
     rw[n1,aT (λh=>f h.2),qBO];exact cZ
    rw[n1,aT (λh=>r h.1),qBO];exact cZ
   rintro _ _ rfl;refine Z2 (ι:=Unit) (λ_ D=>W=D) (λ_=>[(3,vi 0),(7,.slice U T.length X),(8,.slice A p.length c),(9,.slice Aw b.pk.length cw),(11,vi j),(12,vi 0),(13,vi m1),(14,vi m2),(15,vi c3),(16,vi c4),(17,vi k),(18,vi 0)])
    (λ_=>[(3,b.cs),(12,[vi y.i,vi y.o,vi y.g,vi y.d]),(18,[vi q.i,vi q.o,vi q.g,vi q.d])]) ?_ ?_
   ·refine OJ (λr=>?_) (λr=>?_)
    ·refine OJ (λf=>?_) (λf=>?_)
     ·refine OJ (λB=>?_) (λB=>?_)
      ·rw[S,iF ⟨O,f,B⟩];exact cZ
      rw[S,aT (λh=>B h.2.2),qBO];exact cZ
     rw[S,aT (λh=>f h.2.1),qBO];exact cZ
    rw[S,aT (λh=>r O),qBO];exact cZ
   rintro _ _ rfl;refine Z2 (ι:=Unit) (λ_ D=>W=D) (λ_=>[(3,vi 0),(7,.slice U T.length X),(8,.slice A p.length c),(9,.slice Aw b.pk.length cw),(11,vi j),(12,vi 0),(13,vi m1),(14,vi m2),(15,vi m3),(16,vi c4),(17,vi k),(18,vi 0)])
    (λ_=>[(3,b.cs),(12,[vi y.i,vi y.o,vi y.g,vi y.d]),(18,[vi q.i,vi q.o,vi q.g,vi q.d])]) ?_ ?_
   ·refine OJ (λr=>?_) (λr=>?_)
    ·refine OJ (λf=>?_) (λf=>?_)
     ·rw[n3,iF ⟨r,f⟩];exact cZ
     rw[n3,aT (λh=>f h.2),qBO];exact cZ
    rw[n3,aT (λh=>r h.1),qBO];exact cZ
   rintro _ _ rfl;refine Z2 (ι:=Unit) (λ_ D=>W=D) (λ_=>[(3,vi 0),(7,.slice U T.length X),(8,.slice A p.length c),(9,.slice Aw b.pk.length cw),(11,vi j),(12,vi 0),(13,vi m1),(14,vi m2),(15,vi m3),(16,vi m4),(17,vi k),(18,vi 0)])
    (λ_=>[(3,b.cs),(12,[vi y.i,vi y.o,vi y.g,vi y.d]),(18,[vi q.i,vi q.o,vi q.g,vi q.d])]) ?_ ?_
   ·refine OJ (λr=>?_) (λr=>?_)
    ·refine OJ (λf=>?_) (λf=>?_)
     ·rw[n4,iF ⟨r,f⟩];exact cZ
     rw[n4,aT (λh=>f h.2),qBO];exact cZ
    rw[n4,aT (λh=>r h.1),qBO];exact cZ
   rintro _ _ rfl;have kt:¬ ((q.o<y.o\/(q.o=y.o/\k<j))/\q.g > y.g):=λh=>by have:=Pp h.1;omega
   refine OJ (λr=>?_) (λr=>?_)
   ·refine OJ (λf=>?_) (λf=>?_)
    ·exact absurd f (λh=>kt ⟨.inl r,h⟩)
    refine OJ (λB=>?_) (λB=>?_)
    ·exact absurd B O
    exact gB
   refine OJ (λf=>?_) (λf=>?_)
   ·refine OJ (λB=>?_) (λB=>?_)
    ·refine OJ (λh7=>?_) (λh7=>?_)
     ·exact absurd h7 (λh=>kt ⟨.inr ⟨f,O⟩,h⟩)
     exact gB
    exact gB
   exact gB
  have:k=p.length:=O;subst this;rw[show bT (λz=>decide ((R z).i<y.i/\y.i-1<(R z).o)) p (min p.length j)=((p.take j).filter λz=>decide ((R z).i<y.i/\y.i-1<(R z).o)).length by rw[bT,qEg (show j<=p.length by omega)]];simp only[bT,IF];generalize((p.filter λz=>decide ((R z).i<=y.i/\y.i<(R z).o)).length:Int)=d1 at *;generalize(((p.take j).filter λz=>decide ((R z).i<y.i/\y.i-1<(R z).o)).length:Int)=d2 at *;generalize((p.filter λz=>decide ((R z).g<=y.g/\y.g<(R z).d)).length:Int)=d3 at *;generalize((p.filter λz=>decide ((R z).g<y.g/\y.g-1<(R z).d)).length:Int)=d4 at *;refine OJ (λr=>?_) (λr=>?_)
  ·exact absurd r O
  refine OJ (λf=>?_) (λf=>?_)
  ·exact absurd f O
  refine OJ (λB=>?_) (λB=>?_)
  ·refine OJ (λh7=>?_) (λh7=>?_)
   ·exact absurd (M B) (by simpa using h7)
   exact k8
  exact k8
 refine Y ?_;refine Za [] (bB hO FL Fu) ?_;rintro v H6 ⟨_,rfl⟩;refine Y ?_;rfl
end
