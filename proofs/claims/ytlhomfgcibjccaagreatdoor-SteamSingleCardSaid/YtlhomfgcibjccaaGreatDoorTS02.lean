import Derived.Test.YtlhomfgcibjccaaGreatDoorTS01
set_option linter.all false
set_option maxHeartbeats 8000000
set_option maxRecDepth 20000
open Go Go.LL
namespace Go.Proofs
def fQ(b:Sb)(p h:Int):Sb:={ b with pl:=p,hd:=h }
def gG{b:Sb}(ok:bA b){p h:Int}(c:1<=p/\p<=3)(a:1<=h/\h<=3):bA (fQ b p h):=⟨c,a,ok.td,ok.n,ok.pk,ok.nm,ok.nn,ok.nt⟩
def gO{b:Sb}{H:Hp}(hb:Zr H b)(p h:Int):Zr H (fQ b p h):=⟨hb.pk,hb.nt,hb.ps,hb.q1,hb.q2⟩
def sN{b:Sb}{t:N4}{l:List Int}(ok:bA b)(g:Yp t)(c:bK b.pk.length l)(a:∀p:Nat,p<b.pk.length->(p:Int)∈l)(j:b.pl=b.pk.length)(m:b.hd=b.pk.length){i:Nat}(o:i<b.pk.length) :
  (i:Int)∈gM b t l↔(aD b i).bF > (aD b i).bJ:=by
 have s:=(tH ok g c.len c.rg).1;have r:=ok.n;have f:=k8 ok g c a j m o;rw[sL];constructor
 ·rintro⟨k,q,e,d⟩;obtain rfl:i=k:=O;rw[Yg,gB O q,f]at d;have:=d.2;simp only at this;omega
 intro h;refine⟨i,O,rfl,?_⟩;rw[Yg,gB O O,f];exact⟨O,by show t.get i+_<t.get i+_;omega⟩
def sK(b:Sb)(t:N4)(l:List Int):(gM b t l).length<=1000000:=qAz (B9 _ _) (by decide)
section
variable{P:aX}[Tz P][Loud P]{H:Hp}
theorem mU(hO:P=PP){b:Sb}{lv:Value}{l:List fI}{m:Int}(hb:Zr H b)(lG:aF H lv l)(hm:0<=m/\m<256)(hg:Yk H)(zS:aC H ⟨1,0,none⟩ [vf 284]) :
  kE.m P (tJ P iC λv _=>v=vb true) (Vv [b.v,lv,.int .u8 m]) H:=by
 unfold kE Sb.v;refine Y ?_;refine Za [b.v] (mQ hb) ?_;rintro v _ ⟨rfl,g,rfl,yI⟩;cases g with
 | false=>
  refine Y ?_;refine Za [] (bB hO hg zS) ?_;rintro v H1 ⟨_,rfl⟩;refine Y ?_;rfl
 | true=>
 have ok:=yI rfl;have hn:=ok.n;refine Y ?_;refine Za [b.v,lv] (mR ok hb lG) ?_;rintro v H1 ⟨i1,At,ct,rfl,Ga,hT⟩;refine Zp OL (Y ?_);refine Za [b.v,.int .u8 m] (rH hn hm) ?_;rintro v H2 ⟨j2,A,c,p,BH,rfl,hc,hl⟩;have i2:=i1.trans j2;have F:=pV hn BH;have S:=λ(k:Nat) (hk:k<b.pk.length)=>pH hn BH hk;have hT:=hT.inc j2;have Z:=hb.inc i2;have KC:Yk H2:=aC.inc hg i2;have K:=aC.inc zS i2;have t1:=eV b l b.pk.length;have t2:=nW ok l;have ht:=uE t2;generalize bT b l b.pk.length=T at *;have DW:=gG ok (p:=1) (h:=b.hd) (by decide) ok.hd;have Qu:=t2;have w1:=tH DW ht F.len F.rg;have Cd:=λ(j:Nat) (hj:j<b.pk.length)=>mS (l:=p) DW ht F rfl hj;have hdn:=kR (l:=p) ht hn.2 F;refine Y ?_;refine Za [(fQ b 1 b.hd).v,.slice At T.length ct,.slice A p.length c] (lJ DW t1 t2 F hT hl hc (gO Z _ _) KC K) ?_;rintro v H3 ⟨D,Aw,cw,rfl,hw⟩;have i3:=i2.trans D;have wl:(VN (fQ b 1 b.hd) (Ys T) p).length=b.pk.length:=w1.1;have wo:=w1.2;rw[show(fQ b 1 b.hd).pk.length=b.pk.length from rfl]at hw ⊢;have hz:∀z,wZ (fQ b 1 b.hd) (Ys T) p z=bM (VN (fQ b 1 b.hd) (Ys T) p) z.toNat:=λ_=>rfl;generalize VN (fQ b 1 b.hd) (Ys T) p=w at *;have J6:∀i,(h:i<b.pk.length)->bM w i=w[i]'O:=λi h=>ZD O _;refine OJ (λh0=>?_) (λh0=>?_)
 ·exact absurd (by omega:(b.pk.length:Int)=T.length) h0
 refine Y ?_;refine Zv p.length (λj H'=>H3=H') (λj=>[(3,vi 0),(7,.slice At T.length ct),(8,.slice A p.length c),(9,vi 0),(10,.slice Aw b.pk.length cw),(12,vi (cH (dB (Ys T) p) j)),(13,vi j)]) (λ_=>[(3,b.cs),(9,[vi 1,vi b.hd,vi b.td,.slice b.A1 b.pk.length b.c1,.slice b.A2 b.nt.length b.c2])]) rfl V V ?_;rintro j _ hj rfl;refine OJ (λh1=>?_) (λh1=>?_)
 ·have B:j<p.length:=O;have r:j<b.pk.length:=by rw[<-F.len];exact B
  have hr:=F.rg _ (bY B);obtain⟨i,hi⟩:∃i:Nat,p[j]=i:=⟨p[j].toNat,O⟩;have vL:i<b.pk.length:=O;have R:i<T.length:=O;have NJ:i<w.length:=O;have e1:el p j=i:=by rw[el,ZD B,hi]
  obtain⟨s1,s2⟩:=Cd j r;rw[e1,hz,qAD,J6 i vL]at s1 s2;have eT:(Ys T).get i=T[i]:=by rw[fJ O,ZD R]
  rw[eT]at s2;have BB:cH (dB (Ys T) p) (j+1)=cH (dB (Ys T) p) j+T[i]:=by show cH (dB (Ys T) p) j+dB (Ys T) p j=_;rw[show dB (Ys T) p j=(Ys T).get (el p j).toNat from rfl,e1,qAD,eT]
  have Eb:=eE hdn j;have hwo:=wo i;rw[J6 i vL]at hwo;have hTi:=t2 _ (bY R);generalize cH (dB (Ys T) p) j=s at *;have rr:Enc.enc w[i]=[vi s,vi (s+T[i]),vi w[i].g,vi w[i].d]:=by rw[<-s1,show w[i].i+T[i]=w[i].o by rw[s2,s1]];rfl
  rw[<-s2]at BB;generalize G:T[i]=x at *;refine Y ?_;refine Zz j (hl.inc D) B λa E=>?_;rw[hi]at E;refine Y ?_;refine Ya (v:=vi (i:Int)) E (Y ?_);refine Zz i hw NJ λa2 J=>?_;rw[rr]at J;refine Y ?_;refine Zh (v:=vi s) (OL _) rfl (YN (ds:=[vi (s+x),vi w[i].g,vi w[i].d]) J) ?_;refine OJ (λh2=>?_) (λh2=>?_)
  ·exact absurd h2 (by simp)
  refine Y ?_;refine Zz j (hl.inc D) B λa E=>?_;rw[hi]at E;refine Y ?_;refine Ya (v:=vi (i:Int)) E (Y ?_);refine Zz i hw NJ λa2 J=>?_;rw[rr]at J;refine Y ?_;refine Zh (v:=vi (s+x)) (OL _) rfl (YN (ds:=[vi w[i].g,vi w[i].d]) (eY (n:=1) J rfl)) (Y ?_);refine Zz j (hl.inc D) B λa E=>?_;rw[hi]at E;refine Y ?_;refine Ya (v:=vi (i:Int)) E (Y ?_);refine Zz i (hT.inc D) R λa3 f=>?_;rw[G]at f;refine Y ?_;refine Ya (v:=vi x) f ?_;refine OJ (λh3=>?_) (λh3=>?_)
  ·exact absurd h3 (by simp)
  refine Y ?_;refine Zz j (hl.inc D) B λa E=>?_;rw[hi]at E;refine Y ?_;refine Ya (v:=vi (i:Int)) E (Y ?_);refine Zz i (hT.inc D) R λa3 f=>?_;rw[G]at f;refine Y ?_;refine Ya (v:=vi x) f (Y ?_);exact⟨⟨j+1,O⟩,bN O,rfl,⟨rfl,rfl,rfl,rfl,rfl,by rw[BB,s2];rfl,rfl,trivial⟩,V,rfl⟩
 have vK:=F.len;refine OJ (λh2=>?_) (λh2=>?_)
 ·refine Y ?_;refine Za [] (bB hO (aC.inc KC D) (aC.inc K D)) ?_;rintro v H4 ⟨_,rfl⟩;refine Y ?_;rfl
 have hn3:b.pk.length<=3:=O;refine OJ (λh3=>?_) (λh3=>?_)
 ·exact absurd h3 O
 have N:=gG ok (p:=p.length) (h:=p.length) O O;have zX:=gO (Z.inc D) p.length p.length;have FL:Yk H3:=aC.inc KC D;have L:=aC.inc K D;have tE:=hl.inc D;have W:=hT.inc D;have hq:(fQ b p.length p.length).pl=(fQ b p.length p.length).pk.length:=qBc Int.ofNat vK;have NR:=λ{k:Nat} (hk:k<b.pk.length)=>k8 (b:=fQ b p.length p.length) N ht F S hq hq (p:=k) hk;have NV:=λ{k:Nat} (hk:k<b.pk.length)=>sN (b:=fQ b p.length p.length) N ht F S hq hq (i:=k) hk;have jQ:=sK (fQ b p.length p.length) (Ys T) p;have wl3:(VN (fQ b p.length p.length) (Ys T) p).length=b.pk.length:=(tH N ht F.len F.rg).1;refine Y ?_;refine Za [(fQ b p.length p.length).v,.slice At T.length ct,.slice A p.length c] (lJ N t1 t2 F W tE hc zX FL L) ?_;rintro v H4 ⟨j4,Ax,cx,rfl,hx⟩;refine Y ?_;refine Za [(fQ b p.length p.length).v,.slice At T.length ct,.slice A p.length c] (sP N t1 t2 F (W.inc j4) (tE.inc j4) hc (zX.inc j4) (aC.inc FL j4) (aC.inc L j4)) ?_;rintro v H5 ⟨j5,Ac,cc,rfl,wT⟩;have i5:=j4.trans j5;have Qr:=hx.inc j5;have X:=W.inc i5;have EA:=(Z.inc D).inc i5;have HH:Yk H5:=aC.inc FL i5;have vM:=aC.inc L i5;rw[show(fQ b p.length p.length).pk.length=b.pk.length from rfl]at Qr ⊢;rw[show aD (fQ b p.length p.length)=aD b from rfl]at *;generalize VN (fQ b p.length p.length) (Ys T) p=y at *;generalize gM (fQ b p.length p.length) (Ys T) p=C at *;refine OJ (λh4=>?_) (λh4=>?_)
 ·exact absurd (by omega:(b.pk.length:Int)=T.length) h4
 refine Y ?_;refine Zv b.pk.length (λj H'=>H5=H') (λj=>[(3,vi 0),(7,.slice At T.length ct),(10,.slice Ax b.pk.length cx),(14,.slice Ac C.length cc),(16,vi j)]) (λ_=>[(3,b.cs)]) rfl V V ?_;rintro j _ hj rfl;refine OJ (λh5=>?_) (λh5=>?_)
 ·have r:j<b.pk.length:=O;have M:j<T.length:=O;have Ry:j<y.length:=O;have uR:=fH ok r;have row:=nN r;have hTj:=t2 _ (bY M);have ry:Enc.enc y[j]=[vi 0,vi T[j],vi T[j],vi (T[j]+(aD b j).bF)]:=by have e:=NR r;rw[show bM y j=y[j]from ZD Ry _,fJ O,ZD M]at e;rw[e];rfl
  have hcj:=NV r;generalize G:T[j]=x at *;refine Y ?_;refine Zz j Qr Ry λa E=>?_;rw[ry]at E;refine Y ?_;refine YA (cs:=[vi 0,vi x,vi x,vi (x+(aD b j).bF)]) E (Y ?_);refine Zz j X M λa3 f=>?_;rw[G]at f;refine Y ?_;refine Ya (v:=vi x) f (Y ?_);refine Zz j X M λa3 f=>?_;rw[G]at f;refine Y ?_;refine Ya (v:=vi x) f (Y ?_);refine Zz j X M λa3 f=>?_;rw[G]at f;refine Y ?_;refine Ya (v:=vi x) f (Y ?_);refine Zz j EA.pk r λa u=>?_;rw[row]at u;refine Y ?_;refine Zh (v:=vi (aD b j).bF) (OL _) rfl (YN (ds:=[vi (aD b j).bJ]) (eY (n:=3) u rfl)) (Y ?_);refine CA (b:=true) (xs:=#[vi 0,vi x,vi x,vi (x+(aD b j).bF)]) (ys:=#[vi 0,vi x,vi x,vi (x+(aD b j).bF)]) Sq (λQ g H hq=>Tm (a:=⟨0,x,x,x+(aD b j).bF⟩) Q g H hq) rfl rfl (Y ?_);refine Zz j EA.pk r λa u=>?_;rw[row]at u;refine Y ?_;refine Zh (v:=vi (aD b j).bF) (OL _) rfl (YN (ds:=[vi (aD b j).bJ]) (eY (n:=3) u rfl)) (Y ?_);refine Zz j EA.pk r λa u=>?_;rw[row]at u;refine Y ?_;refine Zh (v:=vi (aD b j).bJ) (OL _) rfl (eY (n:=4) u rfl) (Y ?_);refine Za [.slice Ac C.length cc,vi j] (lM wT jQ) ?_;rintro v _ ⟨rfl,rfl⟩;refine FS (Y ?_);refine pS rfl rfl ?_;rw[qM hcj];refine Y ?_;exact dM (I:=λj H'=>H5=H') (env:=λj=>[(3,vi 0),(7,.slice At T.length ct),(10,.slice Ax b.pk.length cx),(14,.slice Ac C.length cc),(16,vi j)]) (box:=λ_=>[(3,b.cs)]) r rfl V V rfl
 refine Y ?_;refine Za [] (bB hO HH vM) ?_;rintro v H6 ⟨_,rfl⟩;refine Y ?_;rfl
end
