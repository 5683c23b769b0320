import Derived.Test.YtlhomfgcibjccaaGreatDoorTT01
set_option linter.all false
set_option maxHeartbeats 8000000
set_option maxRecDepth 20000
open Go Go.LL
namespace Go.Proofs
variable{k:Nat}{lv:Value}{t:N4}{G:Prop}
def kF(s:Int):∀(l:List Pk) (i:Nat) (h:i<l.length) (rest:List Value),ZG (Zb l++rest) (i * 5+4) [vi s]=Zb (l.set i { l[i]with bJ:=s })++rest
 | [],i,h,_=>by simp at h
 | p :: l,0,h,rest=>by simp[Zb,Enc.enc,ZG]
 | p :: l,i+1,h,rest=>by
  have ih:=kF s l i (by simpa using h) rest;have e:Zb (p :: l)++rest=Enc.enc p++(Zb l++rest):=by simp[Zb]
  rw[e,show(i+1) * 5+4=5+(i * 5+4)by omega,LB (n:=5) (Enc.len p),ih];simp[Zb]
def zI(b:Sb)(l:List fI)(j:Nat):Int:=min 20 ((aD b j).bJ+(bT l j).tmod 4)
def fL(b:Sb)(l:List fI):Nat->List Pk
 | 0=>b.pk
 | j+1=>(fL b l j).set j { aD b j with bJ:=zI b l j }
def dU(b:Sb)(l:List fI):∀j,(fL b l j).length=b.pk.length
 | 0=>rfl
 | j+1=>by rw[fL,qAg,dU b l j]
def gW(b:Sb)(l:List fI):∀{j:Nat} {k:Nat} (h:k<(fL b l j).length),(fL b l j)[k]=if k<j then{ aD b k with bJ:=zI b l k }else aD b k
 | 0,k,h=>by rw[aT (qBm _)];exact(ZD h _).symm
 | j+1,k,h=>by
  have a:k<(fL b l j).length:=by rw[dU]at h ⊢;exact h
  have ih:=gW b l a;simp only[fL,qCg];by_cases e:j=k
  ·subst e;rw[iF rfl,iF O]
  rw[aT e,ih];by_cases g:k<j
  ·rw[iF g,iF O]
  rw[aT g,aT O]
def bK(b:Sb)(l:List fI)(A:Option Addr)(c:Nat):Sb:={ b with td:=min 200 (b.td+(bT l 5).tmod 9),pk:=fL b l b.pk.length,A1:=A,c1:=c }
def kL(b:Sb)(l:List fI)(A:Option Addr)(c:Nat)(h:k<b.pk.length):aD (bK b l A c) k={ aD b k with bJ:=zI b l k }:=by
 have d:k<(fL b l b.pk.length).length:=by rw[dU];exact h
 rw[show aD (bK b l A c) k=(fL b l b.pk.length)[k]from ZD d _,gW,iF h]
def fG{x m:Int}(b:0<=x)(a:0<m):0<=x.tmod m/\x.tmod m<m:=by rw[Int.tmod_eq_emod_of_nonneg b];exact⟨Int.emod_nonneg _ O,Int.emod_lt_of_pos _ a⟩
def kT{b:Sb}(ok:bA b)(l:List fI)(h:k<b.pk.length):(aD b k).bJ<=zI b l k/\zI b l k<=20:=by have:=fG (m:=4) (eV l k).1 (by decide);have:=fH ok h;unfold zI;omega
def pP{b:Sb}(ok:bA b)(l:List fI)(A:Option Addr)(c:Nat):cH b (bK b l A c):=by
 have f:=fG (m:=9) (eV l 5).1 (by decide);have:=ok.td;refine⟨rfl,rfl,?_,dU _ _ _,λj=>?_,rfl⟩
 ·show b.td<=min 200 (b.td+(bT l 5).tmod 9);omega
 by_cases h:j<b.pk.length
 ·rw[kL _ _ _ _ h];exact⟨rfl,rfl,rfl,(kT ok l h).1⟩
 have e:¬ j<(fL b l b.pk.length).length:=by rw[dU];exact h
 have d:aD (bK b l A c) j=aD b j:=by show(fL b l b.pk.length).getD j _=b.pk.getD j _;rw[qAa,qAa,qAn O,qAn O]
 rw[d];exact⟨rfl,rfl,rfl,qAx _⟩
def qJ{b:Sb}(ok:bA b)(l:List fI)(A:Option Addr)(c:Nat):bA (bK b l A c):=by
 have B:=fG (m:=9) (eV l 5).1 (by decide);have u:=ok.td;have a:(bK b l A c).pk.length=b.pk.length:=dU _ _ _;have o:∀k (h:k<(bK b l A c).pk.length),(bK b l A c).pk[k]={ aD b k with bJ:=zI b l k }:=λk h=>by rw[<-kL b l A c (by rw[<-a];exact h)];exact(ZD h _).symm
 have p:∀k (h:k<(bK b l A c).pk.length),(bK b l A c).pk[k].nm=(b.pk[k]'(by rw[<-a];exact h)).nm:=λk h=>by rw[o,show aD b k=b.pk[k]'(by rw[<-a];exact h)from ZD _ _]
 refine⟨ok.pl,ok.hd,?_,by rw[a];exact ok.n,λj f=>?_,λj f=>?_,ok.nn,by rw[a];exact ok.nt⟩
 ·show 0<=min 200 (b.td+(bT l 5).tmod 9)/\min 200 (b.td+(bT l 5).tmod 9)<=200;omega
 ·have e:j<b.pk.length:=by rw[<-a];exact f
  obtain⟨w,y,z,C⟩:=fH ok e;have:=kT ok l e;rw[o];exact⟨w,y,z,by show 1<=zI b l j/\zI b l j<=20;omega⟩
 have e:j<b.pk.length:=by rw[<-a];exact f
 obtain⟨r,i⟩:=ok.nm j e;rw[p];refine⟨r,?_⟩;rw[qDj]at i ⊢;intro x v;obtain⟨k,s,rfl⟩:=qAk.1 v;rw[qAj]at s;rw[qBC,p];have g:k<(b.pk.take j).length:=by rw[qAj];omega
 have:=i _ (bY g);rw[qBC]at this;exact this
section
variable{P:aX}[Tz P][Loud P]{H:Hp}
def wD{u w:Value}{l m:List Int}(e:aF H u l)(n:aF H w m)(h:∀z∈l,z∈m)(i:l.length<=1000000)(d:m.length<=1000000):LL.Zc P 53 #[u,w] H λv c=>H=c/\v=vb true:=by
 refine aJ.m (bG y8) (args:=[u,w]) rfl ?_;unfold lM;refine Y ?_;refine Zv l.length (λj c=>H=c) (λj=>[(0,u),(1,w),(5,vi j)]) (λ_=>[]) rfl V trivial ?_;rintro j _ o rfl;refine Y ?_;refine YE e rfl ?_;refine OJ (λf=>?_) (λf=>?_)
 ·have b:j<l.length:=O;refine Y ?_;refine Zz j e b λa g=>Y ?_;refine Ya g (Y ?_);refine Za [w,vi l[j]] (mT n d) ?_;rintro v _ ⟨rfl,rfl⟩;rw[decide_eq_true (h _ (bY b))];refine Y ?_;exact dM (I:=λj c=>H=c) (env:=λj=>[(0,u),(1,w),(5,vi j)]) (box:=λ_=>[]) b rfl V trivial rfl
 refine Y ?_;exact⟨rfl,rfl⟩
theorem pG{b:Sb}{l:List fI}(ok:bA b)(hb:Zr H b)(s:aF H lv l):LL.Zc P 51 #[b.v,lv] H λv f=>aL H f/\∃A c,v=(bK b l A c).v/\Zr f (bK b l A c):=by
 have S:=ok.n;have J:=ok.td;have T:=fG (m:=9) (eV l 5).1 (by decide);refine aJ.m (bG y7) (args:=[b.v,lv]) rfl ?_;unfold mM Sb.v;refine Y ?_;refine Za [lv,vi 5] (iX (i:=5) s) ?_;rintro v _ ⟨rfl,rfl⟩;refine Zp OL (Y ?_);refine gH rfl rfl (by decide) (Y ?_);refine z5 rfl rfl (Y ?_);refine qZ (bI wE) (cD zB) (OL _) λU g=>Y ?_;refine lL (l:=b.pk) (bI wE) (cD zB) rfl (by decide) g rfl (hb.pk.inc (Zs g)) (sG (λ_=>rfl) b.pk) O O rfl rfl (OL _) λW z Q M y=>?_;have w:aL H z:=(Zs (o:=.cells #[] 50) g).trans M;obtain⟨_,⟨_,D,_⟩ | ⟨r,cap,rest,rfl,rfl,f3,f4,f5⟩⟩:=id y.own
 ·exact absurd D O
 have F:=y.fresh r rfl;refine Y ?_;refine Zv b.pk.length (λj f=>aL H f/\f r=some (.cells (Zb (fL b l j)++rest).toArray 50,true)) (λj=>[(1,lv),(2,vi 0),(4,vi 0),(5,vi 0),(6,vi j)])
  (λ_=>[(2,b.cs),(4,[vi 0,vi 0,vi 0,.slice none 0 0,.slice none 0 0]),(5,[vi b.pl,vi b.hd,vi (min 200 (b.td+(bT l 5).tmod 9)),.slice (some ⟨r,0,none⟩) b.pk.length cap,.slice b.A2 b.nt.length b.c2])]) ⟨w,f3⟩ V V ?_
 rintro j N R ⟨h,f6⟩;refine OJ (λC=>?_) (λC=>?_)
 ·have d:j<b.pk.length:=O;have row:=rE d;have E:=fH ok d;have u:j<(fL b l j).length:=by rw[dU];exact d
  have K:=fG (m:=4) (eV l j).1 (by decide);refine Y ?_;refine Zz j (hb.pk.inc h) d λa q=>?_;rw[row]at q;refine Y ?_;refine Zh (v:=vi (aD b j).bJ) (OL _) rfl (eY (n:=4) q rfl) (Y ?_);refine Za [lv,vi j] (iX (s.inc h)) ?_;rintro v _ ⟨rfl,rfl⟩;refine FS (Y ?_);refine gH rfl rfl (by decide) (Y ?_);refine z5 rfl rfl (Y ?_);refine OD rfl rfl d (Y ?_);have p:((⟨r,0,none⟩:Addr).add (j * 5)).add 4=⟨r,j * 5+4,none⟩:=by rw[Vx,Vx,qAE]
  rw[p];refine wF (v:=vi (zI b l j)) (cs:=Zb (fL b l j)++rest) (cD t3) rfl rfl f6 rfl (by rw[BY,VH,dU];show j * 5+4+1<=b.pk.length * 5+_;omega) rfl (OL _) ?_;have B:ZG (Zb (fL b l j)++rest) (j * 5+4) (Value.cells (vi (zI b l j))).toList=Zb (fL b l (j+1))++rest:=by show ZG _ _ [vi _]=_;rw[kF (zI b l j) _ j u rest,fL,gW,aT (Nat.lt_irrefl _)]
  rw[B];refine Y ?_;exact dM (I:=λj f=>aL H f/\f r=some (.cells (Zb (fL b l j)++rest).toArray 50,true)) (env:=λj=>[(1,lv),(2,vi 0),(4,vi 0),(5,vi 0),(6,vi j)])
   (box:=λ_=>[(2,b.cs),(4,[vi 0,vi 0,vi 0,.slice none 0 0,.slice none 0 0]),(5,[vi b.pl,vi b.hd,vi (min 200 (b.td+(bT l 5).tmod 9)),.slice (some ⟨r,0,none⟩) b.pk.length cap,.slice b.A2 b.nt.length b.c2])]) d ⟨FT h F,Hp.aG _ _ _⟩ V V rfl
 have:j=b.pk.length:=O;subst this;refine Y ?_;refine⟨h,some ⟨r,0,none⟩,cap,?_,⟨_,cap,rfl,λ_=>⟨_,rfl,YN (ds:=rest) (ZA f6)⟩⟩,hb.nt.inc h,λx L=>(hb.ps x L).inc h,?_,hb.q2⟩
 ·show Value.agg _=Value.agg #[vi b.pl,vi b.hd,vi (min 200 (b.td+(bT l 5).tmod 9)),.slice (some ⟨r,0,none⟩) (fL b l b.pk.length).length cap,.slice b.A2 b.nt.length b.c2];rw[dU];rfl
 show(fL b l b.pk.length).length<=cap;rw[dU];exact f5
end
def fU{b:Sb}(ok:bA b)(c:Yp t){p:List Int}(a:p∈ZB b.pk.length):(VN b t p).length<=4:=by have h:=kZ ok.n a;have:=ok.n;rw[(tH ok c h.len h.rg).1];omega
def kM{b o:Sb}(S:cH b o)(ok:bA b){c:List N4}(e:∀t∈c,Yp t){p:List Int}(d:p∈ZB b.pk.length)(h:dP b c p=true):dP o c p=true:=by rw[dP,IN]at h ⊢;exact λt a=>S.gd (fU ok (e t a) d) (h t a)
def pR{b o:Sb}(S:cH b o)(ok:bA b){f:List N4}(a:f≠[])(q:∀t∈f,Yp t){p:List Int}(n:p∈ZB b.pk.length):(cG o f p).hi=(cG b f p).hi:=by have e:∀t∈f,(Yg o t p).2=(Yg b t p).2:=λt g=>(S.res (fU ok (q t g) n)).1;obtain⟨r,h,c,u⟩:=jU (b:=b) (l:=p) a;obtain⟨s,i,d,v⟩:=jU (b:=o) (l:=p) a;have j:=s h c;have m:=r i d;rw[e h c]at j;rw[<-e i d]at m;omega
def kN{b o:Sb}(S:cH b o)(ok:bA b){a:List N4}(c:a≠[])(i:∀t∈a,Yp t):(dE b a).length<=(dE o a).length:=by
 have d:=qBc List.length (iC (b:=b) c);have f:=qBc List.length (iC (b:=o) c);rw[qAh]at d f;rw[d,f,S.n];refine List.Sublist.length_le ?_;have e:(ZB b.pk.length).filter (dP b a)=((ZB b.pk.length).filter (dP o a)).filter (dP b a):=by
  rw[List.filter_filter];refine qBW λp g=>?_;cases h:dP b a p with
  | false=>rfl
  | true=>rw[kM S ok i g h];rfl
 rw[e];exact List.filter_sublist
def pS{b o:Sb}(S:cH b o)(ok:bA b){a:List N4}(c:a≠[])(d:∀t∈a,Yp t)(h:dE b a≠[]):dE o a≠[]:=by have:=kN S ok c d;have:=qAX.2 h;exact qAX.1 O
def qL{b o:Sb}(S:cH b o)(ok:bA b){p:List Int}(d:p∈ZB b.pk.length)(h:jW b p=1):jW o p=1:=by
 have e:=S.boats;unfold jW at h ⊢;rw[e];by_cases a:Zi b=[]
 ·rw[iF a]at h;simp at h
 rw[aT a]at h ⊢;rw[gR,jT a]at h ⊢;exact λt c=>S.gd (fU ok (vV ok t c) d) (h t c)
def qM{b o:Sb}(S:cH b o)(ok:bA b){p:List Int}(d:p∈ZB b.pk.length)(h:jW o p=2):jW b p=2:=by
 have f:=S.boats;unfold jW at h ⊢;rw[f]at h;by_cases c:Zi b=[]
 ·rw[iF c]at h;simp at h
 rw[aT c]at h ⊢;rw[gR,nH]at h ⊢;intro t a;cases e:gd b p t with
 | false=>rfl
 | true=>
  have:=S.gd (fU ok (vV ok t a) d) e;rw[h t a]at this;simp at this
def kO{b o:Sb}(S:cH b o)(ok:bA b):fF b<=fF o:=by
 have c:=S.boats;unfold fF;rw[c];by_cases a:Zi b=[]
 ·rw[iF a,iF a];exact dO _
 rw[aT a,aT a];exact kN S ok a (vV ok)
def pT{b o:Sb}(S:cH b o)(ok:bA b)(h:fF b≠0):fF o≠0/\eE o<=eE b:=by
 have d:fF o≠0:=by have:=kO S ok;omega
 refine⟨d,?_⟩;obtain⟨e,j⟩:=gB.1 h;obtain⟨_,c⟩:=gB.1 d;have f:=S.boats;have g:=vV ok;rw[f]at c;obtain⟨_,_,_,c3,i,_⟩:=kP e j;have a:=pU (b:=o) (p:=Yu b (Zi b)) e c (by rw[S.n];exact c3) (kM S ok g c3 i);rw[pR S ok e g c3]at a;rw[eE,aT d,eE,aT h,f];exact a
def wC{b o:Sb}(S:cH b o)(n:Nat):cH (gE b n) (gE o n):=⟨S.pl,rfl,S.td,S.n,S.pk,S.nt⟩
def wB{b:Sb}(ok:bA b){n:Nat}(h:n<3):bA (gE b n):=⟨ok.pl,by show 1<=(n:Int)+1/\(n:Int)+1<=3;omega,ok.td,ok.n,ok.pk,ok.nm,ok.nn,ok.nt⟩
def qK{b o:Sb}(S:cH b o)(ok:bA b)(h:nR b≠0):nR o≠0/\nR o<=nR b:=by
 have e:=S.boats;unfold nR at h ⊢;rw[e];by_cases a:Zi b=[]
 ·rw[iF a]at h;exact absurd rfl h
 rw[aT a]at h;rw[aT a,aT a];rcases lU (b:=b) (ts:=Zi b)with⟨g,_⟩ | ⟨l,m,d,_⟩
 ·exact absurd g h
 have c:=pS (wC S (V7 b (Zi b)-1)) (wB ok O) a (vV ok) d;rcases lU (b:=o) (ts:=Zi b)with⟨_,f⟩ | ⟨i,j,_,f4⟩
 ·exact absurd (f _ O) c
 refine⟨O,qAd λn=>c (f4 _ O)⟩
def pQ{b o:Sb}(S:cH b o)(ok:bA b)(f:Yp t){p:List Int}(d:p∈ZB b.pk.length):∀z∈gM o t p,z∈gM b t p:=λz g=>by obtain⟨i,a,e,c⟩:=mV.1 g;exact mV.2 ⟨i,a,e,(S.res (fU ok f d)).2 i a c⟩
def iA(h:G:=by
  refine OJ (λk1=>?_) (λk1=>?_);rotate_left
  ·exact absurd (show((q1:Nat):Int)<=q2 by omega) k1
  exact fT):G:=h
def hZ(h:G:=by
  refine OJ (λk1=>?_) (λk1=>?_);rotate_left
  ·exact absurd (show((q1:Nat):Int)<=q2 by omega) k1
  refine OJ (λk2=>?_) (λk2=>?_);rotate_left
  ·exact absurd f4.2 k2
  exact fT):G:=h
def iI(h:G:=by
  refine OJ (λk1=>?_) (λk1=>?_);rotate_left
  ·exact absurd (show((q1:Nat):Int)<=q2 by omega) k1
  refine OJ (λk3=>?_) (λk3=>?_);rotate_left
  ·exact absurd (show((e2:Nat):Int)<=e1 by omega) k3
  exact fT):G:=h
def iJ(h:G:=by
  refine OJ (λk1=>?_) (λk1=>?_);rotate_left
  ·exact absurd (show((q1:Nat):Int)<=q2 by omega) k1
  refine OJ (λk2=>?_) (λk2=>?_);rotate_left
  ·exact absurd f4.2 k2
  refine OJ (λk3=>?_) (λk3=>?_);rotate_left
  ·exact absurd (show((e2:Nat):Int)<=e1 by omega) k3
  exact fT):G:=h
def fT(h:G:=by refine Y ?_;refine Za [] (bB hO BP NQ) ?_;rintro v No ⟨_,rfl⟩;refine Y ?_;rfl):G:=h
section
variable{P:aX}[Tz P][Loud P]{H:Hp}
def pW(hO:P=PP){b:Sb}{lw:Value}{l i:List fI}{m:Int}(hb:Zr H b)(lG:aF H lv l)(Fb:aF H lw i)(hm:0<=m/\m<256)(hg:Yk H)(zS:aC H ⟨1,0,none⟩ [vf 284]) :
  lV.m P (tJ P k8 λv _=>v=vb true) (Vv [b.v,lv,lw,.int .u8 m]) H:=by
 unfold lV Sb.v;refine Y ?_;refine Za [b.v] (rG hb) ?_;rintro v _ ⟨rfl,g,rfl,yI⟩;cases g with
 | false=>
  refine Y ?_;refine Za [] (bB hO hg zS) ?_;rintro v H1 ⟨_,rfl⟩;refine Y ?_;rfl
 | true=>
 have ok:=yI rfl;have hn:=ok.n;refine Y ?_;refine Za [b.v,lw] (pG ok hb Fb) ?_;rintro _ H0 ⟨i0,j,q,rfl,CO⟩;have r:=qJ ok i j q;have S:=pP ok i j q;rw[show(bK b i j q).v=.agg #[vi (bK b i j q).pl,vi (bK b i j q).hd,vi (bK b i j q).td,.slice (bK b i j q).A1 (bK b i j q).pk.length (bK b i j q).c1,.slice (bK b i j q).A2 (bK b i j q).nt.length (bK b i j q).c2]from rfl];generalize bK b i j q=o at *;refine Y ?_;refine Za [b.v,lv] (qI ok (hb.inc i0) (lG.inc i0)) ?_;rintro v H1 ⟨i1,At,ct,rfl,Ga,U⟩;refine Zp OL (Y ?_);refine Za [b.v,.int .u8 m] (yU hn hm) ?_;rintro v H2 ⟨j2,A,c,p,D,rfl,V,hl⟩;have i2:=(i0.trans i1).trans j2;have W:=kZ hn D;have R:eI o.pk.length p:=by rw[S.n];exact W
 have U:=U.inc j2;have M:=hb.inc i2;have u:=CO.inc (i1.trans j2);have w:Yk H2:=aC.inc hg i2;have e:=aC.inc zS i2;have t1:=gD b l b.pk.length;have t2:=sJ ok l;have ht:=uE t2;generalize cZ b l b.pk.length=T at *;have Nu:T.length=o.pk.length:=by rw[S.n];exact t1
 have N:=pQ S ok ht D;have hwk:VN o (Ys T) p=VN b (Ys T) p:=by rw[S.work]
 have wl:=(tH ok ht W.len W.rg).1;refine Y ?_;refine Za [b.v,.slice At T.length ct,.slice A p.length c] (lS ok t1 t2 W U hl V M w e) ?_;rintro v H3 ⟨j3,A3,c3,rfl,hw3⟩;refine Y ?_;refine Za [o.v,.slice At T.length ct,.slice A p.length c] (lS r Nu t2 R (U.inc j3) (hl.inc j3) V (u.inc j3) (aC.inc w j3) (aC.inc e j3)) ?_;rintro v H4 ⟨j4,A4,c4,rfl,Qs⟩;have X:=j3.trans j4;refine Y ?_;refine Za [b.v,.slice At T.length ct,.slice A p.length c] (mQ ok t1 t2 W (U.inc X) (hl.inc X) V (M.inc X) (aC.inc w X) (aC.inc e X)) ?_;rintro v H5 ⟨j5,A5,c5,rfl,hw5⟩;have Z:=X.trans j5;refine Y ?_;refine Za [o.v,.slice At T.length ct,.slice A p.length c] (mQ r Nu t2 R (U.inc Z) (hl.inc Z) V (u.inc Z) (aC.inc w Z) (aC.inc e Z)) ?_;rintro v H6 ⟨j6,A6,c6,rfl,hw6⟩;have i6:=Z.trans j6;have C:=M.inc i6;have h:=u.inc i6;have d:Yk H6:=aC.inc w i6;have a:=aC.inc e i6;have mO:=hl.inc i6;rw[hwk]at Qs;have cl1:=B9 (Yg b (Ys T) p).1 4;have cl2:=B9 (Yg o (Ys T) p).1 4;refine Y ?_;refine Za [.slice A3 b.pk.length c3,.slice A4 o.pk.length c4] (TY (hw3.inc ((j4.trans j5).trans j6)) (Qs.inc (j5.trans j6)) O) ?_;rintro v _ ⟨rfl,rfl⟩;refine Y ?_;refine Za [.slice A6 (gM o (Ys T) p).length c6,.slice A5 (gM b (Ys T) p).length c5] (wD hw6 (hw5.inc j6) N (by show(cS _ 4).length<=_;omega) (by show(cS _ 4).length<=_;omega)) ?_;rintro v _ ⟨rfl,rfl⟩;refine Y ?_;refine Za [b.v,.slice A p.length c] (mS ok W mO V C d a) ?_;rintro v H7 ⟨i7,rfl⟩;refine Y ?_;refine Za [o.v,.slice A p.length c] (mS r R (mO.inc i7) V (h.inc i7) (aC.inc d i7) (aC.inc a i7)) ?_;rintro v H8 ⟨j8,rfl⟩;have i8:=i7.trans j8;refine Y ?_;refine Za [b.v] (mU hO ok (C.inc i8) (aC.inc d i8) (aC.inc a i8)) ?_;rintro v H9 ⟨j9,rfl⟩;have i9:=i8.trans j9;refine Y ?_;refine Za [o.v] (mU hO r (h.inc i9) (aC.inc d i9) (aC.inc a i9)) ?_;rintro v J0 ⟨J5,rfl⟩;have E:=i9.trans J5;refine Y ?_;refine Za [b.v] (mD hO ok (C.inc E) (aC.inc d E) (aC.inc a E)) ?_;rintro v L7 ⟨SO,As,cs,rfl,_,Qv⟩;have F:=E.trans SO;refine Y ?_;refine Za [o.v] (mD hO r (h.inc F) (aC.inc d F) (aC.inc a F)) ?_;rintro v L6 ⟨SN,At2,ct2,rfl,_,D3⟩;have I:=F.trans SN;refine Y ?_;refine Za [b.v] (mR hO ok (C.inc I) (aC.inc d I) (aC.inc a I)) ?_;rintro v Nr ⟨SM,rfl⟩;have J:=I.trans SM;refine Y ?_;refine Za [o.v] (mR hO r (h.inc J) (aC.inc d J) (aC.inc a J)) ?_;rintro v Np ⟨SL,rfl⟩;have SQ:=J.trans SL;have BP:Yk Np:=aC.inc d SQ;have NQ:=aC.inc a SQ;have f1:=qL S ok D;have f2:=qM S ok D;have f3:=kO S ok;have f4:=pT S ok;have f5:=qK S ok;have hbs:bS o=bS b:=by unfold bS;rw[S.boats]
 rw[hbs];generalize jW b p=K at *;generalize jW o p=g2 at *;generalize fF b=q1 at *;generalize fF o=q2 at *;generalize eE b=u1 at *;generalize eE o=u2 at *;generalize nR b=e1 at *;generalize nR o=e2 at *;have hb9:bS b=0\/bS b=9:=by unfold bS;split;exact .inr rfl;exact .inl rfl
 rcases hb9 with h9 | h9;all_goals rw[h9]
 ·by_cases hq:q1=0
  ·rw[qAo (show ¬ q1≠0 from λx=>x hq)];by_cases Q:e1=0
   ·rw[qAo (show ¬ e1≠0 from λx=>x Q)];by_cases s:K=1
    ·obtain rfl:=s;obtain rfl:=f1 rfl;exact iA
    by_cases f:K=2
    ·obtain rfl:=f;exact iA
    have L:g2≠2:=λx=>f (f2 x);refine OJ (λy=>?_) (λy=>?_);rotate_left
    ·exact absurd y (by simpa using s)
    refine OJ (λz=>?_) (λz=>?_)
    ·exact absurd z f
    refine OJ (λB=>?_) (λB=>?_);rotate_left
    ·exact absurd B (by simpa using L)
    exact iA
   have f5:=f5 Q;rw[decide_eq_true Q,decide_eq_true f5.1];by_cases s:K=1
   ·obtain rfl:=s;obtain rfl:=f1 rfl;exact iI
   by_cases f:K=2
   ·obtain rfl:=f;exact iI
   have L:g2≠2:=λx=>f (f2 x);refine OJ (λy=>?_) (λy=>?_);rotate_left
   ·exact absurd y (by simpa using s)
   refine OJ (λz=>?_) (λz=>?_)
   ·exact absurd z f
   refine OJ (λB=>?_) (λB=>?_);rotate_left
   ·exact absurd B (by simpa using L)
   exact iI
  have f4:=f4 hq;rw[decide_eq_true hq,decide_eq_true f4.1];by_cases Q:e1=0
  ·rw[qAo (show ¬ e1≠0 from λx=>x Q)];by_cases s:K=1
   ·obtain rfl:=s;obtain rfl:=f1 rfl;exact hZ
   by_cases f:K=2
   ·obtain rfl:=f;exact hZ
   have L:g2≠2:=λx=>f (f2 x);refine OJ (λy=>?_) (λy=>?_);rotate_left
   ·exact absurd y (by simpa using s)
   refine OJ (λz=>?_) (λz=>?_)
   ·exact absurd z f
   refine OJ (λB=>?_) (λB=>?_);rotate_left
   ·exact absurd B (by simpa using L)
   exact hZ
  have f5:=f5 Q;rw[decide_eq_true Q,decide_eq_true f5.1];by_cases s:K=1
  ·obtain rfl:=s;obtain rfl:=f1 rfl;exact iJ
  by_cases f:K=2
  ·obtain rfl:=f;exact iJ
  have L:g2≠2:=λx=>f (f2 x);refine OJ (λy=>?_) (λy=>?_);rotate_left
  ·exact absurd y (by simpa using s)
  refine OJ (λz=>?_) (λz=>?_)
  ·exact absurd z f
  refine OJ (λB=>?_) (λB=>?_);rotate_left
  ·exact absurd B (by simpa using L)
  exact iJ
 exact fT
end
