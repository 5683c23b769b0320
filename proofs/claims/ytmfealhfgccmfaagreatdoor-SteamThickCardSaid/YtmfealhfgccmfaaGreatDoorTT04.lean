import Derived.Test.YtmfealhfgccmfaaGreatDoorTT03
set_option linter.all false
set_option maxHeartbeats 8000000
set_option maxRecDepth 20000
open Go Go.LL
namespace Go.Proofs
variable{n c:Int}{v lv:Value}
def CN:Tryz.prog.underlying 57=some (.slice 45):=U
def QZ:Yw Tryz.prog 45=some (1,some (.slice none 0 0),24):=U
def qF(n:Nat)(l:List Int):Prop:=l.length=n/\∀x∈l,0<=x/\x<=959
def jM(f:jV)(i:Nat):List Int:=(List.range ((yL f.pt i).hi-(yL f.pt i).lo+1).toNat).map λ(t:Nat)=>(yL f.pt i).lo+t
def jL(f:jV):Nat->List (List Int)
 | 0=>[[]]
 | i+1=>(jL f i).flatMap λl=>(jM f i).map λn=>l++[n]
def HU{f:jV}(v:iH f.pt){i:Nat}(a:i<f.pt.length):(jM f i).length<=3:=by obtain⟨e,b,h,j⟩:=iA v a;rw[jM,qAd,qBo,e];omega
def M9{f:jV}(v:iH f.pt):∀i,i<=f.pt.length->(jL f i).length<=3 ^ i
 | 0,_=>by simp[jL]
 | i+1,a=>by rw[jL,qCC];exact qAP (HD (k:=3) λl b=>by rw[qAd];exact HU v O) (qAV _ (M9 v i O))
def BN{f:jV}(v:iH f.pt):∀i,i<=f.pt.length->∀l∈jL f i,qF i l
 | 0,_,l,a=>by rw[jL,iO]at a;subst a;exact⟨rfl,by simp⟩
 | i+1,q,l,a=>by
  rw[jL,qCP]at a;obtain⟨m,p,a⟩:=a;obtain⟨n,h,rfl⟩:=qAy.1 a;obtain⟨k,o⟩:=BN v i O m p;refine⟨by simp[k],λx b=>?_⟩;rcases qAj.1 b with b | b
  ·exact o x b
  rw[iO.1 b];rw[jM,qAy]at h;obtain⟨t,j,rfl⟩:=h;obtain⟨e,r,s,u⟩:=iA v (show i<f.pt.length by omega);rw[qAA]at j;rw[e]at j ⊢;omega
section
variable{P:fP}[Tz P][Loud P]{H:Hp}
def Ez(z:0<=n/\n<=4000000):LL.Zb P 320 #[vi n] H λv i=>H=i/\∃k:Int,v=vi k/\0<=k/\k<=2097152:=by
 refine aU.m (fO Wfj) rfl ?_;unfold JI;refine Y ?_;refine Yp 1048576 (λj (k:Int) i=>H=i/\0<=k/\k+2 * (1048576-(j:Int))<=2097152) (λj k=>[(0,vi n),(3,vi k),(4,vi (1048576-(j:Int)))]) (λ_ _=>[]) 0 ⟨rfl,O,O⟩ V trivial ?_;rintro j k _ x ⟨rfl,p,t⟩;refine OJ (λr=>?_) (λr=>?_)
 ·obtain⟨q,u⟩:∃q:Int,q=1048576-(j:Int):=⟨_,rfl⟩;rw[<-u];have w:0<q/\q<=1048576:=O;have h:q.tdiv 2=q / 2:=qBA O;have f:∀b:Int,0<=b->b+2 * (q / 2)<=2097152->∃a:{ j:Nat // j<=1048576 }×Int,1048576-a.1.1<1048576-j/\(H=H/\0<=a.2/\a.2+2 * (1048576-(a.1.1:Int))<=2097152)/\a.2=b/\1048576-(a.1.1:Int)=q / 2:=λb p t=>⟨(⟨(1048576-q / 2).toNat,O⟩,b),by show 1048576-(1048576-q / 2).toNat<_;omega,⟨rfl,p,by show b+2 * (1048576-(((1048576-q / 2).toNat:Nat):Int))<=_;omega⟩,rfl,by show 1048576-(((1048576-q / 2).toNat:Nat):Int)=_;omega⟩;have y:0<=(k+q) * (k+q)/\(k+q) * (k+q)<=4398046511104:=by
   have e:(k+q) * (k+q)=(((k+q).toNat * (k+q).toNat:Nat):Int):=by rw[qDd,Int.toNat_of_nonneg O]
   have:=qBK (show(k+q).toNat<=2097152 by omega) (show(k+q).toNat<=2097152 by omega);omega
  refine Y ?_;refine u7 rfl rfl ⟨O,O⟩ ?_;refine OJ (λs=>?_) (λs=>?_)
  ·refine Y ?_;refine yC rfl rfl (by decide) (by rw[h];exact⟨O,O⟩) ?_;rw[h];obtain⟨a,l,o,a3,a4⟩:=f (k+q) O O;refine Y ?_;exact⟨a,l,o,⟨rfl,by rw[a3];rfl,by rw[a4];rfl,trivial⟩,trivial,rfl⟩
  refine Y ?_;refine yC rfl rfl (by decide) (by rw[h];exact⟨O,O⟩) ?_;rw[h];obtain⟨a,l,o,a3,a4⟩:=f k O O;refine Y ?_;exact⟨a,l,o,⟨rfl,by rw[a3];rfl,by rw[a4];rfl,trivial⟩,trivial,rfl⟩
 refine Y ?_;exact⟨rfl,k,rfl,p,O⟩
def Hn{a:Int}(h:-919681<=n/\n<=919681)(hb:1<=a/\a<=959):LL.Zb P 321 #[vi n,vi a] H λv e=>H=e/\∃k:Int,v=vi k/\-1000000<=k/\k<=1000000:=by
 refine aU.m (fO Wfi) rfl ?_;unfold JJ;have l:=E9 (b:=a) h;have o:-900000000<=n.tdiv a * a/\n.tdiv a * a<=900000000:=by have i:(n.tdiv a * a).natAbs=(n.tdiv a).natAbs * a.natAbs:=Int.natAbs_mul _ _;have j:(n.tdiv a).natAbs * a.natAbs<=919681 * 959:=qBK O O;omega
 refine Y ?_;refine yC rfl rfl O ⟨O,O⟩ (Y ?_);refine u7 rfl rfl ⟨O,O⟩ ?_;refine OJ (λf=>?_) (λf=>?_)
 ·refine Y ?_;exact⟨rfl,_,rfl,O,O⟩
 refine Y ?_;exact⟨rfl,_,rfl,O,O⟩
def Et{f:jV}{l:List Int}{x:Int}(A:gJ H v f)(q:iH f.pt)(o:dF H lv l)(C:qF f.pt.length l)(N:kD f.pt<=x/\x<=jY f.pt):LL.Zb P 255 #[v,lv,vi x] H λv s=>H=s/\∃k:Int,v=vi k:=by
 obtain⟨w,c1,y,c2,z,c3,rfl,t,J,K⟩:=A;refine aU.m (fO Wfn) rfl ?_;obtain⟨D,r⟩:=C;generalize f.pt=p at *;have M:=q.n;have I:jY p=(p[p.length-1]'O).h:=qAx mH.h (ZG O _);have G:kD p=(p[0]'O).h:=qAx mH.h (ZG O _);have R:=(iA q (show 0<p.length by omega)).2.1;have S:=(iA q (show p.length-1<p.length by omega)).2.1;unfold JE;refine Y ?_;refine ZC (p.length-2) (λj s=>H=s) (λj=>[(1,lv),(2,vi x),(3,vi 0),(6,vi 0),(7,vi j)]) (λ_=>[(3,[vi f.pk,.slice w p.length c1,.slice y f.tp.length c2,.slice z f.sk.length c3])]) rfl V V ?_;rintro j _ L rfl;have i:j+1<p.length:=O;refine Y ?_;refine ZB (j+1) t i λa e=>Y ?_;refine Zh (OL _) rfl (by rw[add_zero];exact YN (cs:=[vi p[j+1].h]) (ds:=[vi p[j+1].lo,vi p[j+1].hi]) e) ?_;refine OJ (λu=>?_) (λu=>?_)
 ·have B:j<p.length-2:=by
   rcases qBh j (p.length-2)with h | h
   ·exact h
   obtain rfl:j=p.length-2:=O;simp only[show p.length-2+1=p.length-1 by omega]at u;omega
  refine Y ?_;exact⟨⟨j+1,O⟩,gI O,rfl,V,V,rfl⟩
 have W:=r _ (iN (show j<l.length by omega));have F:=r _ (iN (show j+1<l.length by omega));have T:=(iA q (show j<p.length by omega)).2.1;have U:=(iA q i).2.1;have up:=q.up j i;have E:=lT (a:=(l[j+1]'O)-(l[j]'O)) (b:=x-p[j].h) ⟨O,O⟩ ⟨O,O⟩;refine Y ?_;refine ZB j t O λa e=>Y ?_;refine Zh (OL _) rfl (by rw[add_zero];exact YN (cs:=[vi (p[j]'O).h]) (ds:=[vi (p[j]'O).lo,vi (p[j]'O).hi]) e) (Y ?_);refine ZB (j+1) t i λa e=>Y ?_;refine Zh (OL _) rfl (by rw[add_zero];exact YN (cs:=[vi p[j+1].h]) (ds:=[vi p[j+1].lo,vi p[j+1].hi]) e) (Y ?_);refine ZB j o O λa e=>Y ?_;refine Z8 e (Y ?_);refine ZB (j+1) o O λa e=>Y ?_;refine Z8 e (Y ?_);refine ZB j o O λa e=>Y ?_;refine Z8 e (Y ?_);refine u7 rfl rfl ⟨O,O⟩ (Y ?_);refine Zg (vs:=[vi (((l[j+1]'O)-(l[j]'O)) * (x-p[j].h)),vi (p[j+1].h-p[j].h)]) (Hn E ⟨O,O⟩) ?_;rintro v _ ⟨rfl,k,rfl,k1,Q⟩;refine Y ?_;exact⟨rfl,_,rfl⟩
def Ev{f:jV}{l:List Int}{a k:Nat}(E:gJ H v f)(w:iH f.pt)(r:dF H lv l)(F:qF f.pt.length l)(D:a+k<f.pt.length):LL.Zb P 254 #[v,lv,vi a,vi ((a+k:Nat):Int)] H λv i=>H=i/\∃k:Int,v=vi k:=by
 obtain⟨x,c1,y,c2,A,c3,rfl,B,L,M⟩:=E;refine aU.m (fO Wfo) rfl ?_;obtain⟨G,q⟩:=F;generalize f.pt=p at *;have Q:=w.n;unfold JD;refine Y ?_;refine Yp k (λj (s:Int) i=>H=i/\0<=s/\s<=j * 2097152) (λj s=>[(1,lv),(3,vi ((a+k:Nat):Int)),(4,vi 0),(8,vi 0),(9,vi s),(10,vi ((a+j:Nat):Int))]) (λ_ _=>[(4,[vi f.pk,.slice x p.length c1,.slice y f.tp.length c2,.slice A f.sk.length c3])]) 0 ⟨rfl,O,O⟩ V V ?_;rintro j s _ N ⟨rfl,s1,s2⟩;refine OJ (λC=>?_) (λC=>?_)
 ·have u:j<k:=O;have o:a+j+1<p.length:=O;have J:=iA w (show a+j<p.length by omega);have K:=iA w o;have U:=J.2.1;have W:=K.2.1;have X:=q _ (iN (show a+j<l.length by omega));have Z:=q _ (iN (show a+j+1<l.length by omega));have m1:=lT (a:=p[a+j+1].h-(p[a+j]'O).h) (b:=p[a+j+1].h-(p[a+j]'O).h) ⟨O,O⟩ ⟨O,O⟩;have R:=lT (a:=(l[a+j+1]'O)-(l[a+j]'O)) (b:=(l[a+j+1]'O)-(l[a+j]'O)) ⟨O,O⟩ ⟨O,O⟩;have sq:∀z:Int,0<=z * z:=λz=>by
   rcases Int.le_total 0 z with h | h
   ·exact Int.mul_nonneg h h
   have:=Int.mul_nonneg (show 0<=-z by omega) (show 0<=-z by omega);rwa [Int.neg_mul_neg]at this
  have S:=sq (p[a+j+1].h-(p[a+j]'O).h);have T:=sq ((l[a+j+1]'O)-(l[a+j]'O));refine Y ?_;refine ZB (a+j+1) B o λt e=>Y ?_;refine Zh (OL _) rfl (by rw[add_zero];exact YN (cs:=[vi p[a+j+1].h]) (ds:=[vi p[a+j+1].lo,vi p[a+j+1].hi]) e) (Y ?_);refine ZB (a+j) B O λt e=>Y ?_;refine Zh (OL _) rfl (by rw[add_zero];exact YN (cs:=[vi (p[a+j]'O).h]) (ds:=[vi (p[a+j]'O).lo,vi (p[a+j]'O).hi]) e) (Y ?_);refine ZB (a+j+1) r O λt e=>Y ?_;refine Z8 e (Y ?_);refine ZB (a+j) r O λt e=>Y ?_;refine Z8 e (Y ?_);refine u7 rfl rfl ⟨O,O⟩ (Y ?_);refine u7 rfl rfl ⟨O,O⟩ (Y ?_);refine Zg (vs:=[vi ((p[a+j+1].h-(p[a+j]'O).h) * (p[a+j+1].h-(p[a+j]'O).h)+((l[a+j+1]'O)-(l[a+j]'O)) * ((l[a+j+1]'O)-(l[a+j]'O)))]) (Ez ⟨O,O⟩) ?_;rintro v _ ⟨rfl,z,rfl,z1,z2⟩;refine Y ?_;refine uI (I:=λj (s:Int) i=>H=i/\0<=s/\s<=j * 2097152) (env:=λj s=>[(1,lv),(3,vi ((a+k:Nat):Int)),(4,vi 0),(8,vi 0),(9,vi s),(10,vi ((a+j:Nat):Int))]) (box:=λ_ _=>[(4,[vi f.pk,.slice x p.length c1,.slice y f.tp.length c2,.slice A f.sk.length c3])]) (s+z) u ⟨rfl,O,O⟩ V V rfl
 refine Y ?_;exact⟨rfl,_,rfl⟩
def Hu{f:jV}{l:List Int}{t:zI}(j:gJ H v f)(x:iH f.pt)(i:dF H lv l)(w:qF f.pt.length l)(y:oF f.pt.length t):LL.Zb P 180 #[v,lv,.agg #[vi t.fr,vi t.to,vi t.lo,vi t.hi]] H λv r=>H=r/\∃b,v=vb b:=by have h:=j;obtain⟨o,c1,p,c2,q,c3,rfl,A,B,C⟩:=j;refine aU.m (fO WfA) rfl ?_;unfold I2;obtain⟨⟨D,E⟩,t3,t4⟩:=y;obtain⟨a,s⟩:∃a:Nat,t.fr=a:=⟨t.fr.toNat,O⟩;obtain⟨k0,u⟩:∃k0:Nat,t.to=((a+k0:Nat):Int):=⟨(t.to-t.fr).toNat,O⟩;rw[s,u];refine Y ?_;refine Zg (vs:=[.agg #[vi f.pk,.slice o f.pt.length c1,.slice p f.tp.length c2,.slice q f.sk.length c3],lv,vi a,vi ((a+k0:Nat):Int)]) (Ev h x i w O) ?_;rintro v _ ⟨rfl,z,rfl⟩;refine Zz OL (Y ?_);refine Zo (vs:=[vi z,vi t.lo,vi t.hi]) (O2 _ _ _) (Y ?_);exact⟨rfl,_,rfl⟩
def Ho{f:jV}{l:List Int}{k:rN}(i:gJ H v f)(t:iH f.pt)(e:dF H lv l)(s:qF f.pt.length l)(r:oE f.pt k):LL.Zb P 181 #[v,lv,.agg #[vi k.h,vi k.lg,vb k.fit]] H λv q=>H=q/\∃b,v=vb b:=by have a:=i;obtain⟨j,c1,o,c2,p,c3,rfl,u,w,x⟩:=i;refine aU.m (fO Wfz) rfl ?_;unfold I3;refine Y ?_;refine Zg (vs:=[.agg #[vi f.pk,.slice j f.pt.length c1,.slice o f.tp.length c2,.slice p f.sk.length c3],lv,vi k.h]) (Et a t e s r.1) ?_;rintro v _ ⟨rfl,z,rfl⟩;refine Zz OL (Y ?_);refine Cb rfl rfl (Y ?_);exact⟨rfl,_,rfl⟩
def Ey{f:jV}{l:List Int}(B:gJ H v f)(e:yI f)(w:dF H lv l)(C:qF f.pt.length l):LL.Zb P 111 #[v,lv] H λv p=>H=p/\∃b,v=vb b:=by
 have q:=B;obtain⟨y,c1,z,c2,A,c3,rfl,N,F,G⟩:=B;refine aU.m (fO WfO) rfl ?_;unfold JN;have L:=e.tp.n;have K:=e.sk.n;refine Y ?_;refine ZC f.tp.length (λj p=>H=p) (λj=>[(1,lv),(2,vi 0),(5,vi j)]) (λ_=>[(2,[vi f.pk,.slice y f.pt.length c1,.slice z f.tp.length c2,.slice A f.sk.length c3])]) rfl V V ?_;rintro j _ Q rfl;refine OJ (λD=>?_) (λD=>?_)
 ·have u:j<f.tp.length:=O;have M:=e.tp.t _ (iN u);refine Y ?_;refine ZB j F u λa x=>?_;generalize f.tp[j]=t at *;refine Y ?_;refine YL (cs:=[vi t.fr,vi t.to,vi t.lo,vi t.hi]) x (Y ?_);refine Zg (Hu q e.pt w C M) ?_;rintro v _ ⟨rfl,b,rfl⟩;cases b with
  | false=>
   refine Y ?_;exact⟨rfl,_,rfl⟩
  | true=>
   refine Y ?_;exact⟨⟨j+1,O⟩,gI O,rfl,V,V,rfl⟩
 refine Y ?_;refine ZC f.sk.length (λj p=>H=p) (λj=>[(1,lv),(2,vi 0),(6,vi j)]) (λ_=>[(2,[vi f.pk,.slice y f.pt.length c1,.slice z f.tp.length c2,.slice A f.sk.length c3])]) rfl V V ?_;rintro i _ I rfl;refine OJ (λE=>?_) (λE=>?_)
 ·have r:i<f.sk.length:=O;have J:=e.sk.s _ (iN r);refine Y ?_;refine ZB i G r λa x=>?_;generalize f.sk[i]=t at *;refine Y ?_;refine YL (cs:=[vi t.h,vi t.lg,vb t.fit]) x (Y ?_);refine Zg (Ho q e.pt w C J) ?_;rintro v _ ⟨rfl,b,rfl⟩;cases b with
  | false=>
   refine Y ?_;exact⟨rfl,_,rfl⟩
  | true=>
   refine Y ?_;exact⟨⟨i+1,O⟩,gI O,rfl,V,V,rfl⟩
 refine Y ?_;exact⟨rfl,_,rfl⟩
theorem Eu{f:jV}(hf:gJ H v f)(hF:yI f) :
  LL.Zb P 36 #[v] H λv h=>fI H h/\∃A c n,v=.slice A n c:=by
 have SP:=hf;have v:=hF.pt;have hn:=v.n;obtain⟨A1,c1,A2,c2,A3,c3,rfl,hp,_,_⟩:=hf;refine aU.m (fO WfW) rfl ?_;unfold IA;refine Y ?_;refine Z4 (cs:=[.slice none 0 0]) (OL _) rfl λM B5=>?_;have s0:dF (H.ins M (.cells [Value.slice none 0 0].toArray 45)) (.slice (some ⟨M,0,none⟩) 1 1) [Value.slice none 0 0]:=kV;have l0:qD (H.ins M (.cells [Value.slice none 0 0].toArray 45)) [Value.slice none 0 0] (jL f 0):=(qD.nil _).pP (.nil _);have i0:fI H (H.ins M (.cells [Value.slice none 0 0].toArray 45)):=Zt B5;generalize H.ins M (.cells [Value.slice none 0 0].toArray 45)=H0 at *;refine Y ?_;refine Yp (α:=Value×List Value) f.pt.length (λi s h=>fI H h/\dF h s.1 s.2/\qD h s.2 (jL f i)) (λi s=>[(1,vi 0),(3,s.1),(4,vi i)]) (λ_ _=>[(1,[vi f.pk,.slice A1 f.pt.length c1,.slice A2 f.tp.length c2,.slice A3 f.sk.length c3])]) (.slice (some ⟨M,0,none⟩) 1 1,[.slice none 0 0]) ⟨i0,s0,l0⟩ V V ?_;rintro i ⟨v3,Q⟩ z hi ⟨i1,N,l3⟩;simp only at N l3;have Jn:=l3.len;have Sy:=M9 v i hi;have Wu:3 ^ i<=3 ^ 5:=qAR (by decide) O;refine OJ (λh1=>?_) (λh1=>?_)
 ·have x:i<f.pt.length:=O;have RY:=HU v x;obtain⟨T,p1,p2,p3⟩:=iA v x;refine Y ?_;refine Yp (α:=Hp×Value×List Value×Option Nat) Q.length (λk s h=>fI z s.1/\fI s.1 h/\gL s.1 h 45 s.2.1 s.2.2.1 s.2.2.2/\qD s.1 s.2.2.1 (((jL f i).take k).flatMap λl=>(jM f i).map λn=>l++[n]))
   (λk s=>[(1,vi 0),(3,v3),(4,vi i),(5,s.2.1),(6,vi k)]) (λ_ _=>[(1,[vi f.pk,.slice A1 f.pt.length c1,.slice A2 f.tp.length c2,.slice A3 f.sk.length c3])]) (z,.slice none 0 0,[],none) ⟨.refl z,.refl z,.nil _ _ _,.nil _⟩ V V ?_
  rintro k ⟨G,v5,ws,b5⟩ H2 hk ⟨S,F,o5,l5⟩;simp only at S F o5 l5;have Ti:=l5.len;have hwl:ws.length<=k * 3:=by rw[Ti];refine qAP (HD (k:=3) λl hl=>by rw[qAd];exact RY) (qAV _ (by rw[qAs];omega))
  refine Y ?_;refine YH (N.inc (S.trans F)) rfl ?_;refine OJ (λh2=>?_) (λh2=>?_)
  ·have j:k<Q.length:=O;have o:k<(jL f i).length:=O;have K0:=m6 (f:=λl=>(jM f i).map λn=>l++[n]) o;obtain⟨DK,DJ⟩:=BN v i O (jL f i)[k] (iN o);have u:=l3.at_ k j o;generalize(jL f i)[k]=l at *;generalize(List.flatMap (λl=>(jM f i).map λn=>l++[n]) ((jL f i).take k))=L at *;refine Y ?_;refine ZB i ((hp.inc i1).inc (S.trans F)) x λa q=>Y ?_;refine Zh (OL _) rfl (by rw[add_zero];exact YN (cs:=[vi f.pt[i].lo]) (ds:=[vi f.pt[i].hi]) (mG q rfl)) (Y ?_);have rA:(jM f i).length=(f.pt[i].hi-f.pt[i].lo+1).toNat:=by rw[jM,qAd,qBo,T]
   refine Yp (α:=Hp×Value×List Value×Option Nat) (jM f i).length (λt s h=>fI z s.1/\fI s.1 h/\gL s.1 h 45 s.2.1 s.2.2.1 s.2.2.2/\qD s.1 s.2.2.1 (L++((jM f i).take t).map λn=>l++[n]))
    (λt s=>[(1,vi 0),(3,v3),(4,vi i),(5,s.2.1),(6,vi k),(7,vi (f.pt[i].lo+t))]) (λ_ _=>[(1,[vi f.pk,.slice A1 f.pt.length c1,.slice A2 f.tp.length c2,.slice A3 f.sk.length c3])]) (G,v5,ws,b5) ⟨S,F,o5,by simpa using l5⟩ ⟨rfl,rfl,rfl,rfl,rfl,by simp[fG.set],trivial⟩ V ?_
   rintro t ⟨G1,v6,D,b6⟩ R ht ⟨J,K,o6,l6⟩;simp only at J K o6 l6;have KT:=l6.len;refine Y ?_;refine ZB i ((hp.inc i1).inc (J.trans K)) x λa q=>Y ?_;refine Zh (OL _) rfl (mG (cs:=[vi f.pt[i].lo,vi f.pt[i].hi]) (mG q rfl) rfl) ?_;refine OJ (λh3=>?_) (λh3=>?_)
   ·have RU:t<(jM f i).length:=O;have RV:(jM f i)[t]=f.pt[i].lo+t:=by simp[jM,T]
    have RS:(L++((jM f i).take (t+1)).map λn=>l++[n])=(L++((jM f i).take t).map λn=>l++[n])++[l++[f.pt[i].lo+t]]:=by rw[BY RU,qBt,RV,qAE];rfl
    have Z:D.length<=800:=by rw[KT,IN,qAd,qAs];omega
    refine Y ?_;refine rT (fU jR) (fT t3) (OL _) λr1 U=>?_;have o7:gL R (R.ins r1 (.cells #[] 3)) 3 (.slice (some ⟨r1,0,none⟩) 0 0) ([]:List Int) (some r1):=N9 U;have q3:fI R (R.ins r1 (.cells #[] 3)):=Zt U;generalize R.ins r1 (.cells #[] 3)=H4 at *;refine Y ?_;refine ZB k ((N.inc (J.trans K)).inc q3) j λa q=>Y ?_;refine Z8 q (Y ?_);refine VX (l':=l) (fU jR) (fU jR) (fT t3) rfl (by decide) q3 o7 (u.inc ((J.trans K).trans q3)) (W6 l) (by simp;omega) O rfl rfl (OL _) λv8 H5 b8 q4 I _=>Y ?_;refine Z4 (cs:=[vi (f.pt[i].lo+t)]) (OL _) rfl λr2 W=>Y ?_;refine VX (l':=[f.pt[i].lo+t]) (fU jR) (fU jR) (fT t3) rfl (by decide) (q4.trans (Zt W)) (I.ins W) qK rfl (by simp;omega) O rfl rfl (OL _) λv9 H6 b9 q5 o9 _=>?_;rw[qAt]at o9;obtain⟨G2,w1,w2,w3,w4⟩:=PA K o6 q5 o9;obtain⟨A9,c9,rfl,_⟩:=id w4;refine Y ?_;refine Z4 (cs:=[.slice A9 (l++[f.pt[i].lo+↑t]).length c9]) (OL _) rfl λr3 r=>Y ?_;refine VX (l':=[Value.slice A9 (l++[f.pt[i].lo+↑t]).length c9]) (fU CN) (fU CN) (fT QZ) rfl (by decide) (w2.trans (Zt r)) (w3.ins r) kV rfl (by simp;omega) O rfl rfl (OL _) λE H7 B q6 C _=>Y ?_;refine⟨(⟨t+1,O⟩,(G2,E,D++[.slice A9 (l++[f.pt[i].lo+↑t]).length c9],B)),gI O,⟨J.trans w1,q6,C,by rw[RS];exact(l6.inc w1).pP w4⟩,⟨rfl,rfl,rfl,rfl,rfl,?_,trivial⟩,V,rfl⟩;show some (vi (f.pt[i].lo+t+1))=some (vi (f.pt[i].lo+(t+1:Nat)));congr 2;omega
   have:t=(jM f i).length:=O;subst this;rw[qAh]at l6;refine Y ?_;exact⟨(⟨k+1,O⟩,(G1,v6,D,b6)),gI O,⟨J,K,o6,by rw[K0];exact l6⟩,V,V,rfl⟩
  have:k=Q.length:=O;subst this;rw[qAH O]at l5;refine Y ?_;exact⟨(⟨i+1,O⟩,(v5,ws)),gI O,⟨(i1.trans S).trans F,o5.sl,l5.inc F⟩,V,V,rfl⟩
 have:i=f.pt.length:=O;subst this;refine Y ?_;refine Yp (α:=Value×List Value×Option Nat) Q.length (λk s h=>fI z h/\gL z h 45 s.1 s.2.1 s.2.2/\s.2.1.length<=k) (λk s=>[(1,vi 0),(3,v3),(8,s.1),(9,vi k)]) (λ_ _=>[(1,[vi f.pk,.slice A1 f.pt.length c1,.slice A2 f.tp.length c2,.slice A3 f.sk.length c3])]) (.slice none 0 0,[],none) ⟨.refl _,.nil _ _ _,DO _⟩ V V ?_;rintro k ⟨v8,D,b8⟩ H2 hk ⟨y,I,Z⟩;simp only at I Z;refine Y ?_;refine YH (N.inc y) rfl ?_;refine OJ (λh2=>?_) (λh2=>?_)
 ·have j:k<Q.length:=O;have o:k<(jL f f.pt.length).length:=O;have X:=BN v f.pt.length (DO _) (jL f f.pt.length)[k] (iN o);have u:=l3.at_ k j o;generalize(jL f f.pt.length)[k]=l at *;have Rq:∃w,w=Q[k]:=⟨_,rfl⟩;obtain⟨w,hw⟩:=Rq;refine Y ?_;refine ZB k (N.inc y) j λa q=>?_;rw[<-hw]at q u;refine Y ?_;refine Z8 q (Y ?_);refine Zg (Ey (SP.inc (i1.trans y)) hF (u.inc y) X) ?_;rintro v _ ⟨rfl,b,rfl⟩;cases b with
  | false=>
   refine Y ?_;exact⟨(⟨k+1,O⟩,(v8,D,b8)),gI O,⟨y,I,by show D.length<=k+1;omega⟩,V,V,rfl⟩
  | true=>
   refine Y ?_;refine ZB k (N.inc y) j λa q=>?_;rw[<-hw]at q;refine Y ?_;refine Z8 q ?_;obtain⟨Aw,cw,rfl,_⟩:=id u;refine Y ?_;refine Z4 (cs:=[.slice Aw l.length cw]) (OL _) rfl λr3 r=>Y ?_;refine VX (l':=[Value.slice Aw l.length cw]) (fU CN) (fU CN) (fT QZ) rfl (by decide) (y.trans (Zt r)) (I.ins r) kV rfl (by simp;omega) O rfl rfl (OL _) λE H7 B q6 C _=>Y ?_;exact⟨(⟨k+1,O⟩,(E,D++[.slice Aw l.length cw],B)),gI O,⟨q6,C,by simp;omega⟩,V,V,rfl⟩
 refine Y ?_;obtain⟨A,c,rfl,_⟩:=I.sl;exact⟨i1.trans y,_,_,_,rfl⟩
end
def Hw:rP Tryz.prog 212=some ([("Height",3,0),("Breadth",31,1)],false):=U
def Hx:rP Tryz.prog 217=some ([("From",3,0),("To",3,1),("Girth",31,2)],false):=U
def s71:rP Tryz.prog 91=some ([("Height",3,0),("Long",3,1),("Fits",4,2)],false):=U
def Bs:BM Tryz.prog 212=false:=U
def Bt:BM Tryz.prog 217=false:=U
def g71:BM Tryz.prog 91=false:=U
def a4f:Ym Tryz.prog 4=some none:=U
section
variable{P:fP}[Tz P]{H:Hp}{g:Bool}{d:Nat}
def Ci{a:Array Value}{off:Nat}{v:Value}(h:a[off]? = some v)(Q:Value->Bool->Hp->Prop):fZ P.toPQ (part 4 a off) Q g H↔Q v g H:=by simp only[part,Zf,OW (rD (P:=P) a4f),oR,qAq,h,Zj]
def Cu{a b:Bool}(Q:Bool->Bool->Hp->Prop):fZ P.toPQ (Op.equalIn (d+1) 4 (vb a) (vb b)) Q g H↔Q (a == b) g H:=by simp only[Op.equalIn,Zf,ZA (fU (P:=P) Ph),Zj]
def Cp{a:mH}(Q:Bool->Bool->Hp->Prop)(e:Q true g H):fZ P.toPQ (Op.equalIn (d+1+1+1) 212 (.agg #[vi a.h,vi a.lo,vi a.hi]) (.agg #[vi a.h,vi a.lo,vi a.hi])) Q g H:=by have o:∀(x y z:Int) (Q:Value->Bool->Hp->Prop) g H,fZ P.toPQ (part 3 #[vi x,vi y,vi z] 0) Q g H↔Q (vi x) g H:=λx y z Q g H=>Vg rfl Q;have q:∀(x y z:Int) (Q:Value->Bool->Hp->Prop) g H,fZ P.toPQ (part 31 #[vi x,vi y,vi z] 1) Q g H↔Q (.agg #[vi y,vi z]) g H:=λx y z Q g H=>L7 N7 Q;obtain⟨t,u,i,⟨j,r,l⟩,⟨k,s,m⟩,f⟩:=HJ (p:=P.toProgram) (by rw[Tz.prog (P:=P)];exact Hw);rw[Op.equalIn];simp only[Zf,ZA i,Vw,f,oR,qAq,Zj];simp only[j,k,r,s,l,m,Zf,qBr,qBp,List.forIn_nil];simp[o,q,yT,oC (.inr C7),Zf,Zj];exact e
def Cq{a:zI}(Q:Bool->Bool->Hp->Prop)(e:Q true g H):fZ P.toPQ (Op.equalIn (d+1+1+1) 217 (.agg #[vi a.fr,vi a.to,vi a.lo,vi a.hi]) (.agg #[vi a.fr,vi a.to,vi a.lo,vi a.hi])) Q g H:=by have q:∀(x y z u:Int) (Q:Value->Bool->Hp->Prop) g H,fZ P.toPQ (part 3 #[vi x,vi y,vi z,vi u] 0) Q g H↔Q (vi x) g H:=λx y z u Q g H=>Vg rfl Q;have r:∀(x y z u:Int) (Q:Value->Bool->Hp->Prop) g H,fZ P.toPQ (part 3 #[vi x,vi y,vi z,vi u] 1) Q g H↔Q (vi y) g H:=λx y z u Q g H=>Vg rfl Q;have s:∀(x y z u:Int) (Q:Value->Bool->Hp->Prop) g H,fZ P.toPQ (part 31 #[vi x,vi y,vi z,vi u] 2) Q g H↔Q (.agg #[vi z,vi u]) g H:=λx y z u Q g H=>L7 N7 Q;obtain⟨A,B,f3,h,⟨i,t,l⟩,⟨j,w,m⟩,⟨k,t3,o⟩,f⟩:=C5 (p:=P.toProgram) (by rw[Tz.prog (P:=P)];exact Hx);rw[Op.equalIn];simp only[Zf,ZA h,Vw,f,oR,qAq,Zj];simp only[i,j,k,t,w,t3,l,m,o,Zf,qBr,qBp,List.forIn_nil];simp[q,r,s,yT,oC (.inr C7),Zf,Zj];exact e
def Cv{a:rN}(Q:Bool->Bool->Hp->Prop)(e:Q true g H):fZ P.toPQ (Op.equalIn (d+1+1) 91 (.agg #[vi a.h,vi a.lg,vb a.fit]) (.agg #[vi a.h,vi a.lg,vb a.fit])) Q g H:=by have r:∀(x y:Int) (z:Bool) (Q:Value->Bool->Hp->Prop) g H,fZ P.toPQ (part 3 #[vi x,vi y,vb z] 0) Q g H↔Q (vi x) g H:=λx y z Q g H=>Vg rfl Q;have s:∀(x y:Int) (z:Bool) (Q:Value->Bool->Hp->Prop) g H,fZ P.toPQ (part 3 #[vi x,vi y,vb z] 1) Q g H↔Q (vi y) g H:=λx y z Q g H=>Vg rfl Q;have t:∀(x y:Int) (z:Bool) (Q:Value->Bool->Hp->Prop) g H,fZ P.toPQ (part 4 #[vi x,vi y,vb z] 2) Q g H↔Q (vb z) g H:=λx y z Q g H=>Ci rfl Q;obtain⟨A,B,f3,i,⟨j,u,m⟩,⟨k,w,o⟩,⟨l,t3,q⟩,f⟩:=C5 (p:=P.toProgram) (by rw[Tz.prog (P:=P)];exact s71);rw[Op.equalIn];simp only[Zf,ZA i,Vw,f,oR,qAq,Zj];simp only[j,k,l,u,w,t3,m,o,q,Zf,qBr,qBp,List.forIn_nil];simp[r,s,t,yT,Cu,Zf,Zj];exact e
end
section
variable{P:fP}[Tz P][Loud P]{H:Hp}
theorem Ew{f:jV}{k:rN}(u:gJ H v f)(t:yI f):LL.Zb P 39 #[v,.agg #[vi k.h,vi k.lg,vb k.fit]] H λv o=>fI H o/\gJ o v (lB f k):=by obtain⟨A,c1,B,c2,C,c3,rfl,q,r,s⟩:=u;refine aU.m (fO WfT) rfl ?_;unfold ID;have L:=t.sk.n;refine Y ?_;refine rT (fU zN) (fT NM) (OL _) λi b=>?_;refine Zz OL ?_;have y:gL H (H.ins i (.cells #[] 91)) 91 (.slice (some ⟨i,0,none⟩) 0 0) ([]:List rN) (some i):=N9 b;have p:fI H (H.ins i (.cells #[] 91)):=Zt b;generalize H.ins i (.cells #[] 91)=E at *;refine Y ?_;refine VX (l':=f.sk) (fU zN) (fU zN) (fT NM) rfl (by decide) p y (s.inc p) (HT _) (by simp;omega) O rfl rfl (OL _) λQ F I w z _=>?_;refine Zz OL (Y ?_);refine Z4 (cs:=[vi k.h,vi k.lg,vb k.fit]) (OL _) rfl λN e=>?_;refine Zz OL (Y ?_);refine VX (l':=[k]) (fU zN) (fU zN) (fT NM) rfl (by decide) (w.trans (Zt e)) (z.ins e) (Z3 (l:=[k])) rfl (by simp;omega) O rfl rfl (OL _) λR G J k1 x M=>?_;have j:=x.sl;rw[qAt]at j;obtain⟨D,K,rfl,_⟩:=id j;refine Y ?_;exact⟨k1,_,_,_,_,_,_,rfl,q.inc k1,r.inc k1,j⟩
def Fa{u w:Value}{f:jV}(K:yI f)(X:gJ H u f)(Z:gJ H w f):LL.Zb P 38 #[u,w] H λv p=>H=p/\v=vb true:=by
 obtain⟨A,c1,B,c2,C,c3,rfl,L,M,a3⟩:=X;obtain⟨D,G,E,I,F,J,rfl,N,R,S⟩:=Z;refine aU.m (fO WfU) rfl ?_;unfold IC;have n1:=K.pt.n;have n2:=K.tp.n;have n3:=K.sk.n;have x:∀{z:Int},(!decide (z=z))=false:=λ{z}=>by rw[decide_eq_true rfl];rfl
 refine Y ?_;rw[x];refine Y ?_;rw[x];refine Y ?_;rw[x];refine Y ?_;rw[x];refine Y ?_;refine ZC f.pt.length (λj p=>H=p) (λj=>[(2,vi 0),(3,vi 0),(5,vi j)]) (λ_=>[(2,[vi f.pk,.slice A f.pt.length c1,.slice B f.tp.length c2,.slice C f.sk.length c3]),(3,[vi f.pk,.slice D f.pt.length G,.slice E f.tp.length I,.slice F f.sk.length J])]) rfl V V ?_;rintro j _ hj rfl;refine OJ (λT=>?_) (λT=>?_)
 ·have r:j<f.pt.length:=O;refine Y ?_;refine ZB j L r λa o=>Y ?_;refine YL o (Y ?_);refine ZB j N r λa o=>Y ?_;refine YL o (Y ?_);refine CB (b:=true) (xs:=#[vi f.pt[j].h,vi f.pt[j].lo,vi f.pt[j].hi]) (ys:=#[vi f.pt[j].h,vi f.pt[j].lo,vi f.pt[j].hi]) Bs (λQ g H t=>Cp Q t) rfl rfl (Y ?_);exact⟨⟨j+1,O⟩,gI O,rfl,V,V,rfl⟩
 refine Y ?_;refine ZC f.tp.length (λj p=>H=p) (λj=>[(2,vi 0),(3,vi 0),(6,vi j)]) (λ_=>[(2,[vi f.pk,.slice A f.pt.length c1,.slice B f.tp.length c2,.slice C f.sk.length c3]),(3,[vi f.pk,.slice D f.pt.length G,.slice E f.tp.length I,.slice F f.sk.length J])]) rfl V V ?_;rintro i _ y rfl;refine OJ (λU=>?_) (λU=>?_)
 ·have q:i<f.tp.length:=O;refine Y ?_;refine ZB i M q λa o=>Y ?_;refine YL o (Y ?_);refine ZB i R q λa o=>Y ?_;refine YL o (Y ?_);refine CB (b:=true) (xs:=#[vi f.tp[i].fr,vi f.tp[i].to,vi f.tp[i].lo,vi f.tp[i].hi]) (ys:=#[vi f.tp[i].fr,vi f.tp[i].to,vi f.tp[i].lo,vi f.tp[i].hi]) Bt (λQ g H t=>Cq Q t) rfl rfl (Y ?_);exact⟨⟨i+1,O⟩,gI O,rfl,V,V,rfl⟩
 refine Y ?_;refine ZC f.sk.length (λj p=>H=p) (λj=>[(2,vi 0),(3,vi 0),(7,vi j)]) (λ_=>[(2,[vi f.pk,.slice A f.pt.length c1,.slice B f.tp.length c2,.slice C f.sk.length c3]),(3,[vi f.pk,.slice D f.pt.length G,.slice E f.tp.length I,.slice F f.sk.length J])]) rfl V V ?_;rintro k _ hk rfl;refine OJ (λW=>?_) (λW=>?_)
 ·have s:k<f.sk.length:=O;refine Y ?_;refine ZB k a3 s λa o=>Y ?_;refine YL o (Y ?_);refine ZB k S s λa o=>Y ?_;refine YL o (Y ?_);refine CB (b:=true) (xs:=#[vi f.sk[k].h,vi f.sk[k].lg,vb f.sk[k].fit]) (ys:=#[vi f.sk[k].h,vi f.sk[k].lg,vb f.sk[k].fit]) g71 (λQ g H t=>Cv Q t) rfl rfl (Y ?_);exact⟨⟨k+1,O⟩,gI O,rfl,V,V,rfl⟩
 refine Y ?_;exact⟨rfl,rfl⟩
def Wf6{a:Int}(h:0<=a/\a<=c/\c<=959)(e:0<=n):LL.Zb P 118 #[.agg #[vi a,vi c],vi n] H λv b=>H=b/\v=vi (a+n.tmod (c-a+1)):=by refine aU.m (fO WfY) rfl ?_;unfold HY;refine Y ?_;refine HH rfl rfl O ?_;have:=Zob (m:=c-a+1) e O;refine Y ?_;exact⟨rfl,rfl⟩
def Hh{a:Int}:LL.Zb P 119 #[vi a,vi c] H λv b=>H=b/\v=.agg #[vi a,vi c]:=by refine aU.m (fO WfH) rfl ?_;unfold JV;refine Y ?_;exact⟨rfl,rfl⟩
def Wf9{f:jV}{m:Int}(q:gJ H v f)(b:iH f.pt)(l:0<=m/\m<65536):LL.Zb P 41 #[v,.int .u16 m] H λv o=>H=o/\∃x,v=vi x/\kD f.pt<=x/\x<=jY f.pt:=by
 obtain⟨r,c1,s,c2,t,c3,rfl,i,y,z⟩:=q;refine aU.m (fO WfR) rfl ?_;unfold IG;generalize f.pt=p at *;have A:=b.n;have u:kD p=(p[0]'O).h:=qAx mH.h (ZG O _);have w:jY p=(p[p.length-1]'O).h:=qAx mH.h (ZG O _);have B:=(iA b (show 0<p.length by omega)).2.1;have C:=(iA b (show p.length-1<p.length by omega)).2.1;have mono:∀j (k:j<p.length),(p[0]'O).h<=p[j].h:=by
  intro j;induction j with
  | zero=>exact λ_=>qAO _
  | succ j ih=>intro k;have:=ih O;have:=b.up j k;omega
 have m0:=mono (p.length-1) O;have el:((p.length:Int)-1)=((p.length-1:Nat):Int):=O;refine Y ?_;refine ZB 0 i O λa e=>Y ?_;refine Zh (OL _) rfl (by rw[add_zero];exact YN (cs:=[vi (p[0]'O).h]) (ds:=[vi (p[0]'O).lo,vi (p[0]'O).hi]) e) (Y ?_);rw[el];refine ZB (p.length-1) i O λa e=>Y ?_;refine Zh (OL _) rfl (by rw[add_zero];exact YN (cs:=[vi (p[p.length-1]'O).h]) (ds:=[vi (p[p.length-1]'O).lo,vi (p[p.length-1]'O).hi]) e) (Y ?_);refine VC (fU Tryz.underlying89) (fU Tryz.underlying3) rfl ?_;rw[V8 (show rY m from⟨O,O⟩)];refine Y ?_;refine Zo (vs:=[vi (p[0]'O).h,vi (p[p.length-1]'O).h]) Hh ?_;refine Zz OL (Y ?_);refine Zo (vs:=[.agg #[vi (p[0]'O).h,vi (p[p.length-1]'O).h],vi m]) (Wf6 ⟨O,O,O⟩ l.1) ?_;have:=Zob (a:=m) (m:=(p[p.length-1]'O).h-(p[0]'O).h+1) l.1 O;refine Y ?_;exact⟨rfl,_,rfl,O,O⟩
theorem Gs(B:P=PP){b:Sb}{f:jV}{k:rN}{p h m:Int}(hb:Zq H b)(hp:0<=p/\p<256)(U:gJ H v f)(hh:0<=h/\h<65536)(hm:0<=m/\m<256)(V:Yb H)(C:aM H ⟨3,0,none⟩ [vf 407])(o:aM H ⟨2,0,none⟩ [vf 401,vf 402,vf 403]) :
  EM.m P (CJ P IX λv _=>v=vb true) (VO [b.v,.int .u8 p,v,.int .u16 h,.agg #[vi k.h,vi k.lg,vb k.fit],.int .u8 m]) H:=by
 have a:=U;obtain⟨A1,c1,A2,c2,A3,c3,rfl,_,_,_⟩:=U;have done:∀{R:Hp},fI H R->LL.Zb P 10 #[] R λv _=>v=vb true:=λW=>LL.Zb.mono (mL B (aM.inc V W) (aM.inc C W)) λv _ h=>h.2;unfold Sb.v EM;refine Y ?_;refine Zg (sG hb) ?_;rintro v _ ⟨rfl,t,rfl,K⟩;cases t with
 | false=>
  refine Y ?_;refine Zg (done (.refl _)) ?_;rintro v S rfl;refine Y ?_;rfl
 | true=>
 have ok:=K rfl;refine Y ?_;refine Z7 rfl (Cw a) ?_;rintro v _ ⟨rfl,t,rfl,K⟩;cases t with
 | false=>
  refine Y ?_;refine Zg (done (.refl _)) ?_;rintro v S rfl;refine Y ?_;rfl
 | true=>
 have y:=K rfl;have hn:=y.pt.n;refine Y ?_;refine Z7 rfl (Eu a y) ?_;rintro v S ⟨F,A,c,n,rfl⟩;refine OJ (λg1=>?_) (λg1=>?_)
 ·refine Y ?_;refine Zg (done F) ?_;rintro v H2 rfl;refine Y ?_;rfl
 refine Y ?_;refine Z7 rfl (Wf5 (k:=k) (aM.inc o F) (a.inc F) O) ?_;rintro v H2 ⟨i2,⟨s,g2,rfl⟩ | ⟨u,w,rfl,Z⟩⟩
 ·refine OJ (λT=>?_) (λT=>?_)
  ·refine Y ?_;refine Zg (done (F.trans i2)) ?_;rintro v H3 rfl;refine Y ?_;rfl
  exact absurd T g2
 have i:=F.trans i2;have G:tB f:=⟨y,λe=>by obtain⟨r,hr⟩:=qBu _ u.2;have:=EQ hr;rw[e]at this;simp at this⟩;have q:=Z;obtain⟨B1,d1,B2,d2,B3,d3,rfl,_,_,_⟩:=Z;refine Y ?_;refine Z7 rfl (Ew (k:=k) (a.inc i) y) ?_;rintro v H3 ⟨l,X⟩;have L:=X;obtain⟨C1,e1,C2,e2,C3,e3,rfl,_,_,_⟩:=X;refine Zz OL (Y ?_);refine Z7 rfl (Fa u.1 (q.inc l) L) ?_;rintro v _ ⟨rfl,rfl⟩;refine Y ?_;refine Z7 rfl (HR (q.inc l) (by have:=u.1.pt.n;omega)) ?_;rintro v _ ⟨rfl,s,rfl,I⟩;have J:=I.2 u.1;subst J;refine Y ?_;refine Z7 rfl (Wf9 (a.inc (i.trans l)) y.pt hh) ?_;rintro v _ ⟨rfl,x,rfl,hx⟩;refine Y ?_;refine Z7 rfl (IJ (aM.inc o (i.trans l)) (a.inc (i.trans l)) G hx) ?_;rintro v H4 ⟨Q,xl,xh,rfl,N,M⟩;refine Y ?_;refine Z7 rfl (IJ (aM.inc o ((i.trans l).trans Q)) (q.inc (l.trans Q)) u hx) ?_;rintro v H5 ⟨i5,yl,yh,rfl,E,D⟩;have j:=((i.trans l).trans Q).trans i5;have sub:∀z,z∈(gT (lB f k)).map (λr=>vZ (lB f k).pt r x)->z∈(gT f).map (λr=>vZ f.pt r x):=λz hz=>by obtain⟨r,h1,h2⟩:=qAy.1 hz;exact qAy.2 ⟨r,EQ h1,h2⟩
 have q1:=N.2 _ (sub _ E.1);have q2:=M.2 _ (sub _ D.1);have q3:=E.2 _ D.1;refine Y ?_;refine Zg (Gz B ok (hb.inc j) hp hm ⟨q1,q3,q2⟩ (aM.inc V j) (aM.inc C j)) ?_;rintro v H6 ⟨i6,rfl⟩;refine Y ?_;refine Zg (done (j.trans i6)) ?_;rintro v H7 rfl;refine Y ?_;rfl
end
