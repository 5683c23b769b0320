import Derived.Test.YtlhomfgcibjccaaGreatDoorTB02
set_option linter.all false
set_option maxHeartbeats 8000000
set_option maxRecDepth 20000
open Go Go.LL
namespace Go.Proofs
variable{qs:List bW}{ts:List N4}{α:Type}{n:Int}{A Ap:Option Addr}{c cp:Nat}{l:List Int}
def qT(b:Sb)(own:Int):List N4:=if Zl b own=0 then Zi b else[]
def ER{b:Sb}{own:Int}:∀t∈qT b own,t∈Zi b:=λt a=>by
 unfold qT at a;split at a
 ·exact a
 simp at a
def mH{b:Sb}(ok:bA b){own:Int}(h:own≠0):Zl b own=own:=by rw[Zl,jO ok,aT (by decide),iF h]
def iI{b:Sb}{own:Int}(h:Zl b own=0):bA b/\own=0/\Zi b≠[]:=by
 unfold Zl at h;by_cases a:ZF b=0
 ·rw[a,aT (by decide)]at h;by_cases d:own=0
  ·rw[aT O]at h;refine⟨Ow a,d,λe=>?_⟩;rw[e]at h;exact absurd h (by decide)
  rw[iF d]at h;exact absurd h d
 rw[iF a]at h;exact absurd h a
def iC{b:Sb}{own:Int}(h:Zl b own=0):qT b own=Zi b:=iF h
def gH{H:Hp}{b:Sb}(ok:bA b)(h:cX H qs (ts.map (tL b.pk.length)))(e:∀t∈ts,t∈Zi b){i:Nat}(m:i<qs.length) :
  ∃a:i<ts.length,aF H (dN qs[i]) (tL b.pk.length ts[i])/\(tL b.pk.length ts[i]).length=b.pk.length/\Ys (tL b.pk.length ts[i])=ts[i]/\Yp ts[i]:=by
 have d:=ok.n;have p:=h.len;rw[qAh]at p;have a:i<ts.length:=O;obtain⟨f,_⟩:=h.at_ i m (by rw[qAh];exact a);rw[qAZ]at f;have g:=e _ (bY a);refine⟨a,f,gB d.2 _,lU d.2 λj o k=>?_,vV ok _ g⟩;exact((gR d.2).1 g).1.2 j o k
def AE(b:Sb)(n:Int):List Int:=if Zl b (Yz b n)=0 then bT (Vj b n.toNat)else[]
def sN(b:Sb)(i:Nat):Oh (lD (Vj b i))=bT (Vj b i):=JF (KR _) λz=>(CC _).mem_iff
def k8(k n:Nat):fH k n=fN k n:=by unfold fH fN;simp only[Int.natCast_eq_zero,Int.natCast_inj]
theorem pS(p:α->Bool){L:List α}{j:Nat}(a:j<L.length):((L.take (j+1)).filter p).length=((L.take j).filter p).length+if p L[j]=true then 1 else 0:=by rw[pW p a,BY];split<;>rfl
def pR(p:α->Bool)(L:List α)(j:Nat):((L.take j).filter p).length<=L.length:=qAz (qBd _ _) (by rw[qAj];omega)
section
variable{P:aX}[Tz P][Loud P]{H:Hp}
def iJ{b:Sb}{own:Int}(hb:Zr H b)(ok:bA b) :
  LL.Zc P 90 #[b.v,vi own] H λv d=>aL H d/\∃A c qs,v=.tuple #[.slice A qs.length c,vi (Zl b own)]/\aF d (.slice A qs.length c) qs/\cX d qs ((qT b own).map (tL b.pk.length)):=by
 refine aJ.m (bG JY) rfl ?_;unfold mQ Sb.v;refine OJ (λa=>?_) (λa=>?_)
 ·refine Y ?_;have e:=mH ok a;exact⟨.refl _,none,0,[],by rw[e];rfl,.nil _,by rw[qT,e,aT a];exact .nil _⟩
 have a:own=0:=by simpa using a
 subst a;refine Y ?_;refine Za [b.v] (rE hb ok) ?_;rintro v k ⟨j,A,c,qs,rfl,s1,g⟩;rw[pQ ok]at g;have i:=g.len;rw[qAh]at i;refine OJ (λh=>?_) (λh=>?_)
 ·have f:Zi b=[]:=qAt.1 O;have e:Zl b 0=9:=by rw[mG ok,bS,iF f]
  refine Y ?_;exact⟨j,none,0,[],by rw[e];rfl,.nil _,by rw[qT,e,aT (by decide)];exact .nil _⟩
 have f:Zi b≠[]:=λe=>h (by rw[i,e];rfl);have e:Zl b 0=0:=by rw[mG ok,R4 f]
 refine Y ?_;exact⟨j,A,c,qs,by rw[e];rfl,s1,by rw[iC e];exact g⟩
def RL{b:Sb}(hb:Zr H b)(h:b.Sz):LL.Zc P 20 #[b.v] H λv e=>aL H e/\v=.tuple #[vi (if ZF b=0 then(Zi b).length else 0),vi (ZF b)]:=by
 refine aJ.m (bG JP) rfl ?_;unfold nV Sb.v;refine Y ?_;refine Za [b.v] (cF hb h) ?_;rintro v _ ⟨rfl,rfl⟩;refine OJ (λa=>?_) (λa=>?_)
 ·refine Y ?_;exact⟨.refl _,by rw[aT a];rfl⟩
 have a:ZF b=0:=by simpa using a
 have ok:=Ow a;refine Y ?_;refine Za [b.v] (rE hb ok) ?_;rintro v i ⟨f,A,c,qs,rfl,s1,g⟩;have d:=g.len;rw[pQ ok,qAh]at d;refine Y ?_;exact⟨f,by rw[iF a,a,<-d];rfl⟩
def RY{b:Sb}(hb:Zr H b)(F:b.Sz):LL.Zc P 22 #[b.v,vi n] H λv f=>aL H f/\∃u,v=.tuple #[u,vi (Zl b (Yz b n))]/\aF f u (AE b n):=by
 refine aJ.m (bG JQ) rfl ?_;unfold nI Sb.v;refine Y ?_;refine Za [b.v] (cF hb F) ?_;rintro v _ ⟨rfl,rfl⟩;refine OJ (λd=>?_) (λd=>?_)
 ·have e:Zl b (Yz b n)=ZF b:=iF d;refine Y ?_;exact⟨.refl _,_,by rw[e];rfl,by rw[AE,e,aT d];exact .nil _⟩
 have d:ZF b=0:=by simpa using d
 have ok:=Ow d;have Q:=ok.n;refine Y ?_;refine Za [b.v,vi n] (jG _ F.1) ?_;rintro v _ ⟨rfl,rfl⟩;refine OJ (λq=>?_) (λq=>?_)
 ·have j:Yz b n=6:=aT q;have e:Zl b (Yz b n)=6:=by rw[j];exact mH ok (by decide)
  refine Y ?_;exact⟨.refl _,_,by rw[e];rfl,by rw[AE,e,aT (by decide)];exact .nil _⟩
 have j:Yz b n=0:=iF q;rw[j];obtain⟨p,rfl⟩:=qBr q.1;have y:p<b.pk.length:=O;refine Y ?_;refine Za [b.v,vi 0] (iJ hb ok) ?_;rintro v C ⟨R,A,c,qs,rfl,s1,E⟩;have B:=ER (b:=b) (own:=0);have K:AE b p=bT ((qT b 0).map λt=>t.get p):=by
  rw[AE,j,qT];split
  ·rfl
  rfl
 rw[K];have D:=E.len;rw[qAh]at D;have N:qs.length<=81:=by
  rw[D,qT];split
  ·exact UI ok
  exact qAI _
 generalize qT b 0=ts at *;refine Y ?_;refine ZO (α:=Value×Option Nat) qs.length (λk s f=>aL C f/\dD C f 3 s.1 ((ts.take k).map λt=>t.get p) s.2)
  (λk s=>[(1,vi p),(7,.slice A qs.length c),(8,vi (Zl b 0)),(9,s.1),(10,vi k)]) (λ_ _=>[]) (.slice none 0 0,none) ⟨.refl _,.nil _ _ _⟩ V trivial ?_
 rintro k ⟨X,b8⟩ Z hk ⟨o,r⟩;simp only at r;have z:((ts.take k).map λt=>t.get p).length<=81:=by rw[qAh,qAj];omega
 refine OJ (λM=>?_) (λM=>?_)
 ·have g:k<qs.length:=O;obtain⟨x,q1,q2,q3,q4⟩:=gH ok E B g;have i:Enc.enc qs[k]=[dN qs[k]]:=rfl;have J:(tL b.pk.length ts[k])[p]'(by rw[q2];exact y)=ts[k].get p:=by rw[<-ZD _ 0,gO y Q.2]
  have w:(ts.take (k+1)).map (λt=>t.get p)=(ts.take k).map (λt=>t.get p)++[ts[k].get p]:=by rw[iN x,qBL];rfl
  refine Y ?_;refine Zz k (s1.inc o) g λG a=>?_;rw[i]at a;refine Y ?_;refine Ya (v:=dN qs[k]) a (Y ?_);refine Zz p (q1.inc o) (by rw[q2];exact y) λG a=>?_;rw[J]at a;refine Y ?_;refine Ya (v:=vi (ts[k].get p)) a (Y ?_);refine ZY (cs:=[vi (ts[k].get p)]) (OL _) rfl λr5 h=>Y ?_;refine U7 (l':=[ts[k].get p]) (bI dW) (bI dW) (cD t3) rfl (by decide) (o.trans (Zs h)) (r.ins h) qY rfl (by simp only[qAA];omega) O rfl rfl (OL _) λW H4 I k1 k2 k3=>?_;rw[<-w]at k2;refine Y ?_;exact⟨(⟨k+1,O⟩,(W,I)),bN O,⟨k1,k2⟩,V,trivial,rfl⟩
 have:k=ts.length:=O;subst this;rw[IF]at r z;refine Y ?_;refine Za [X] (RU r.sl O) ?_;rintro v H5 ⟨S,bb,T⟩;refine Y ?_;exact⟨(R.trans o).trans S,_,rfl,T.sl⟩
def RN{b:Sb}(hb:Zr H b)(ok:bA b)(s1:aF H (.slice A qs.length c) qs)(x:cX H qs (ts.map (tL b.pk.length)))(k:∀t∈ts,t∈Zi b)(U:1<=ts.length/\ts.length<=81)(I:aF H (.slice Ap l.length cp) l)(J:cZ b.pk.length l) :
  LL.Zc P 94 #[b.v,.slice A qs.length c,.slice Ap l.length cp] H λv p=>aL H p/\v=.agg #[vi (cG b ts l).lo,vi (cG b ts l).hi]:=by
 have W:=ok.n;have w:=x.len;rw[qAh]at w;refine aJ.m (bG JZ) rfl ?_;unfold mR Sb.v;have E:∀j (u:j<ts.length),(ts.take (j+1)).foldl (V2 b l) (iR b ts l)=V2 b l ((ts.take j).foldl (V2 b l) (iR b ts l)) ts[j]:=λj u=>Oe _ _ u;have D:0<qs.length:=O;obtain⟨e,y,z,o,B⟩:=gH ok x k D;have d:Enc.enc qs[0]=[dN qs[0]]:=rfl;have C:ts.getD 0 ⟨0,0,0,0⟩=ts[0]:=ZD e _;have g:=E 0 e;rw[qCa,List.foldl_nil]at g;have r:((ts.take (0+1)).foldl (V2 b l) (iR b ts l)).lo=(Yg b ts[0] l).2:=by rw[g,V2,iR,C];exact Int.min_self _
 have q:((ts.take (0+1)).foldl (V2 b l) (iR b ts l)).hi=(Yg b ts[0] l).2:=by rw[g,V2,iR,C];exact Int.max_self _
 refine Y ?_;refine Zz 0 s1 D λL a=>?_;rw[d]at a;refine Y ?_;refine Ya (v:=dN qs[0]) a (Y ?_);refine Za [b.v,dN qs[0],.slice Ap l.length cp] (kL hb ok y z (by rw[o];exact B) I J) ?_;rintro v R ⟨N,rfl⟩;rw[o];refine Y ?_;refine Zv (qs.length-1) (λj p=>aL H p) (λj=>[(1,.slice A qs.length c),(2,.slice Ap l.length cp),(3,vi 0),(6,vi 0),(8,vi 0),(9,vi ((j:Int)+1))]) (λj=>[(3,b.cs),(6,[vi 0,vi 0]),(8,[vi ((ts.take (j+1)).foldl (V2 b l) (iR b ts l)).lo,vi ((ts.take (j+1)).foldl (V2 b l) (iR b ts l)).hi])]) N V ⟨rfl,rfl,by rw[r,q];rfl,trivial⟩ ?_;rintro j S u f;refine OJ (λM=>?_) (λM=>?_)
 ·have h:j+1<qs.length:=O;obtain⟨e,y,z,o,B⟩:=gH ok (x.inc f) k h;have d:Enc.enc qs[j+1]=[dN qs[j+1]]:=rfl;have g:=E (j+1) e;generalize(ts.take (j+1)).foldl (V2 b l) (iR b ts l)=F at *;refine Y ?_;refine pN (s1.inc f) rfl (by show some (vi ((j:Int)+1))=some (vi ((j+1:Nat):Int));rfl) rfl (i:=j+1) h λL a=>?_;rw[d]at a;refine Y ?_;refine Ya (v:=dN qs[j+1]) a (Y ?_);refine Za [b.v,dN qs[j+1],.slice Ap l.length cp] (kL (hb.inc f) ok y z (by rw[o];exact B) (I.inc f) J) ?_;rintro v T ⟨Q,rfl⟩;rw[o];refine Y ?_;refine z5 rfl rfl (Y ?_);refine q8 rfl rfl (Y ?_);exact⟨⟨j+1,O⟩,bN O,f.trans Q,V,⟨rfl,rfl,by rw[g];rfl,trivial⟩,rfl⟩
 have:j+1=ts.length:=O;rw[this,IF];refine Y ?_;exact⟨f,rfl⟩
def RO{b:Sb}(hb:Zr H b)(k:b.Sz)(i:aF H (.slice A l.length c) l)(s:l.length<=c)(t:l.length<=1000000) :
  LL.Zc P 25 #[b.v,.slice A l.length c] H λv p=>aL H p/\v=.tuple #[.agg #[vi (ON b l).1,vi (ON b l).2],vi (Zl b (Yq b l))]:=by
 refine aJ.m (bG JR) rfl ?_;unfold nJ Sb.v;refine Y ?_;refine Za [b.v] (cF hb k) ?_;rintro v _ ⟨rfl,rfl⟩;refine OJ (λd=>?_) (λd=>?_)
 ·have e:Zl b (Yq b l)=ZF b:=iF d;refine Y ?_;exact⟨.refl _,by rw[ON,e,aT d];rfl⟩
 have d:ZF b=0:=by simpa using d
 have ok:=Ow d;refine Y ?_;refine Za [b.v,.slice A l.length c] (kE i s t k.1) ?_;rintro v _ ⟨rfl,rfl⟩;refine Zp OL (Y ?_);refine Za [b.v,vi (Yq b l)] (iJ hb ok) ?_;rintro v z ⟨g,o,c1,qs,rfl,s1,j⟩;refine OJ (λa=>?_) (λa=>?_)
 ·refine Y ?_;exact⟨g,by rw[ON,aT a];rfl⟩
 have a:Zl b (Yq b l)=0:=by simpa using a
 obtain⟨_,q,r⟩:=iI a;obtain⟨w,x,y⟩:=U5 q;rw[iC a]at j;have f:=qAX.2 r;refine Y ?_;refine Za [b.v,.slice o qs.length c1,.slice A l.length c] (RN (hb.inc g) ok s1 j (λ_ h=>h) ⟨f,UI ok⟩ (i.inc g) ⟨w,y,x⟩) ?_;rintro v B ⟨u,rfl⟩;refine Y ?_;exact⟨g.trans u,by rw[ON,iF a,a];rfl⟩
def RR{b:Sb}(hb:Zr H b)(J:b.Sz)(M:aF H (.slice A l.length c) l)(X:l.length<=c)(hm:l.length<=1000000) :
  LL.Zc P 27 #[b.v,.slice A l.length c,vi n] H λv q=>aL H q/\v=.tuple #[vi (CX b l n),vi (Zl b (Oc b l n))]:=by
 refine aJ.m (bG JS) rfl ?_;unfold nW Sb.v;refine Y ?_;refine Za [b.v] (cF hb J) ?_;rintro v _ ⟨rfl,rfl⟩;refine OJ (λk=>?_) (λk=>?_)
 ·have e:Zl b (Oc b l n)=ZF b:=iF k;refine Y ?_;exact⟨.refl _,by rw[CX,e,aT k];rfl⟩
 have k:ZF b=0:=by simpa using k
 have ok:=Ow k;have hn:=ok.n;refine Y ?_;refine Za [b.v,.slice A l.length c] (kE M X hm J.1) ?_;rintro v _ ⟨rfl,rfl⟩;refine OB ?_;refine Z2 (ι:=Unit) (λ_ q=>H=q) (λ_=>[(1,.slice A l.length c),(2,vi n),(3,vi 0),(9,vi (Oc b l n))]) (λ_=>[(3,b.cs)]) ?_ ?_
 ·refine OJ (λa=>?_) (λa=>?_)
  ·have e:Oc b l n=Yz b n:=by rw[Oc,aT O]
   refine Y ?_;refine Za [b.v,vi n] (jG _ J.1) ?_;rintro v _ ⟨rfl,rfl⟩;refine OJ (λr=>?_) (λr=>?_)
   ·rw[e,show Yz b n=6 from aT r];refine Y ?_;exact⟨(),rfl,V,V,rfl⟩
   rw[e,show Yz b n=0 from iF r,a];refine Y ?_;exact⟨(),rfl,V,V,rfl⟩
  have e:Oc b l n=Yq b l:=iF a;rw[e];refine Y ?_;exact⟨(),rfl,V,V,rfl⟩
 rintro _ _ rfl;refine Y ?_;refine Za [b.v,vi (Oc b l n)] (iJ hb ok) ?_;rintro v T ⟨I,S,c1,qs,rfl,s1,E⟩;refine OJ (λa=>?_) (λa=>?_)
 ·refine Y ?_;exact⟨I,by rw[CX,aT a];rfl⟩
 have a:Zl b (Oc b l n)=0:=by simpa using a
 obtain⟨_,C,g3⟩:=iI a;have L:Yq b l=0:=qAd λh=>by rw[Oc,iF h]at C;exact h C
 have W:0<=n/\n<b.pk.length:=qAd λh=>by rw[Oc,L,aT (by decide),Yz,aT h]at C;exact absurd C (by decide)
 obtain⟨p1,p2,p3⟩:=U5 L;rw[iC a]at E;have d:=E.len;rw[qAh]at d;have F:=UI ok;obtain⟨p,rfl⟩:=qBr W.1;have w:p<4:=O;rw[CX,iF a,qAD,sK _ _ _ w,a];have f:∀t∈Zi b,t∈Zi b:=λ_ h=>h;generalize y:Zi b=ts at E d F f;have f:∀t∈ts,t∈Zi b:=by rw[y];exact λ_ h=>h
 refine Y ?_;refine Zv qs.length (λj q=>aL T q) (λj=>[(1,.slice A l.length c),(2,vi p),(3,vi 0),(10,.slice S qs.length c1),(12,vi ((ts.take j).filter λt=>(Yg b t l).1.get p).length),(13,vi j)]) (λj=>[(3,b.cs)]) (.refl _) V V ?_;rintro j H2 hj o;have Z:=pR (λt=>(Yg b t l).1.get p) ts j;refine OJ (λr=>?_) (λr=>?_)
 ·have u:j<qs.length:=O;have z:=I.trans o;obtain⟨G,q1,q2,Q,q4⟩:=gH ok (E.inc o) f u;have B:Enc.enc qs[j]=[dN qs[j]]:=rfl;have i:=pS (λt=>(Yg b t l).1.get p) G;refine Y ?_;refine Zz j (s1.inc o) u λa2 s=>?_;rw[B]at s;refine Y ?_;refine Ya (v:=dN qs[j]) s (Y ?_);refine Za [b.v,dN qs[j],.slice A l.length c] (rG (hb.inc z) ok q1 q2 (by rw[Q];exact q4) (M.inc z) ⟨p1,p3,p2⟩) ?_;rintro v H3 ⟨N,R⟩;rw[Q]at R;refine Zp OL (Y ?_);refine Za [v,vi p] (qI R (qAz (B9 _ _) (by decide))) ?_;rintro v _ ⟨rfl,rfl⟩;have K:(p:Int)∈gM b ts[j] l↔(Yg b ts[j] l).1.get p=true:=by rw[kP];exact⟨λ⟨x,hx,e,g⟩=>by(obtain rfl:p=x:=by omega);exact g,λg=>⟨p,w,rfl,g⟩⟩
  cases D:(Yg b ts[j] l).1.get p with
  | true=>
   rw[decide_eq_true (K.2 D)];have i:=i.trans (by rw[iF D]);refine Y ?_;exact⟨⟨j+1,O⟩,bN O,o.trans N,⟨rfl,rfl,rfl,rfl,by rw[i];rfl,rfl,trivial⟩,V,rfl⟩
  | false=>
   rw[qAo (show ¬ (p:Int)∈gM b ts[j] l from λhh=>absurd (K.1 hh) (by rw[D];decide))];have i:=i.trans (by rw[aT (by rw[D];decide)]);refine Y ?_;exact⟨⟨j+1,O⟩,bN O,o.trans N,⟨rfl,rfl,rfl,rfl,by rw[i];rfl,rfl,trivial⟩,V,rfl⟩
 have:j=ts.length:=O;subst this;rw[IF];refine Y ?_;refine Za [vi (ts.filter λt=>(Yg b t l).1.get p).length,vi qs.length] (qJ _ _) ?_;rintro v _ ⟨rfl,rfl⟩;refine Y ?_;exact⟨I.trans o,by rw[k8,d];rfl⟩
def RP{b:Sb}{w:Value}{T:List Int}{t:N4}(hb:Zr H b)(ok:bA b)(g:aF H w T)(a:T.length=b.pk.length)(e:Ys T=t)(k:Yp t)(i:aF H (.slice A l.length c) l)(j:cZ b.pk.length l) :
  LL.Zc P 146 #[b.v,w,.slice A l.length c] H λv o=>aL H o/\v=vb (gd b l t):=by
 subst e;refine aJ.m (bG JB) rfl ?_;unfold mW Sb.v;refine Y ?_;refine Za [b.v,w,.slice A l.length c] (rG hb ok g a k i j) ?_;rintro v r ⟨d,q⟩;refine Y ?_;refine YE q rfl ?_;refine OJ (λf=>?_) (λf=>?_)
 ·have e:pM (Yg b (Ys T) l).1=true:=pT.1 (qAt.1 O);refine Y ?_;refine Za [b.v,w,.slice A l.length c] (kL (hb.inc d) ok (g.inc d) a k (i.inc d) j) ?_;rintro v s ⟨p,rfl⟩;refine Zp OL (Y ?_);exact⟨d.trans p,by rw[gd,nT,e];rfl⟩
 have e:pM (Yg b (Ys T) l).1=false:=qBR.2 λh=>f (by rw[pT.2 h];rfl);refine Y ?_;exact⟨d,by rw[gd,nT,e];rfl⟩
def RX{b:Sb}(hb:Zr H b)(ok:bA b)(s1:aF H (.slice A qs.length c) qs)(q:cX H qs (ts.map (tL b.pk.length)))(o:∀t∈ts,t∈Zi b)(u:ts.length<=81)(x:aF H (.slice Ap l.length cp) l)(y:cZ b.pk.length l) :
  LL.Zc P 100 #[b.v,.slice A qs.length c,.slice Ap l.length cp] H λv i=>aL H i/\v=vi (fN (cG b ts l).good ts.length):=by
 have g:=q.len;rw[qAh]at g;refine aJ.m (bG I6) rfl ?_;unfold mT Sb.v;rw[sL];refine Y ?_;refine Zv qs.length (λj i=>aL H i) (λj=>[(1,.slice A qs.length c),(2,.slice Ap l.length cp),(3,vi 0),(7,vi ((ts.take j).filter (gd b l)).length),(8,vi j)]) (λj=>[(3,b.cs)]) (.refl _) V V ?_;rintro j E I a;have w:=pR (gd b l) ts j;refine OJ (λs=>?_) (λs=>?_)
 ·have f:j<qs.length:=O;obtain⟨k,z,B,C,D⟩:=gH ok (q.inc a) o f;have h:Enc.enc qs[j]=[dN qs[j]]:=rfl;have d:=pS (gd b l) k;refine Y ?_;refine Zz j (s1.inc a) f λG e=>?_;rw[h]at e;refine Y ?_;refine Ya (v:=dN qs[j]) e (Y ?_);refine Za [b.v,dN qs[j],.slice Ap l.length cp] (RP (hb.inc a) ok z B C D (x.inc a) y) ?_;rintro v F ⟨p,rfl⟩;cases hg:gd b l ts[j]with
  | true=>
   have d:=d.trans (by rw[iF hg]);refine Y ?_;exact⟨⟨j+1,O⟩,bN O,a.trans p,⟨rfl,rfl,rfl,by rw[d];rfl,rfl,trivial⟩,V,rfl⟩
  | false=>
   have d:=d.trans (by rw[aT (by rw[hg];decide)]);refine Y ?_;exact⟨⟨j+1,O⟩,bN O,a.trans p,⟨rfl,rfl,rfl,by rw[d];rfl,rfl,trivial⟩,V,rfl⟩
 have:j=ts.length:=O;subst this;rw[IF];refine Y ?_;refine Za [vi (ts.filter (gd b l)).length,vi qs.length] (qJ _ _) ?_;rintro v _ ⟨rfl,rfl⟩;refine Y ?_;exact⟨a,by rw[k8,g];rfl⟩
def RQ{b:Sb}(hb:Zr H b)(j:b.Sz)(g:aF H (.slice A l.length c) l)(q:l.length<=c)(r:l.length<=1000000) :
  LL.Zc P 29 #[b.v,.slice A l.length c] H λv o=>aL H o/\v=.tuple #[vi (xB b l),vi (Zl b (Yq b l))]:=by
 refine aJ.m (bG JU) rfl ?_;unfold nK Sb.v;refine Y ?_;refine Za [b.v] (cF hb j) ?_;rintro v _ ⟨rfl,rfl⟩;refine OJ (λd=>?_) (λd=>?_)
 ·have e:Zl b (Yq b l)=ZF b:=iF d;refine Y ?_;exact⟨.refl _,by rw[xB,e,aT d];rfl⟩
 have d:ZF b=0:=by simpa using d
 have ok:=Ow d;refine Y ?_;refine Za [b.v,.slice A l.length c] (kE g q r j.1) ?_;rintro v _ ⟨rfl,rfl⟩;refine Zp OL (Y ?_);refine Za [b.v,vi (Yq b l)] (iJ hb ok) ?_;rintro v x ⟨f,k,c1,qs,rfl,s1,i⟩;refine OJ (λa=>?_) (λa=>?_)
 ·refine Y ?_;exact⟨f,by rw[xB,aT a];rfl⟩
 have a:Zl b (Yq b l)=0:=by simpa using a
 obtain⟨_,p,z⟩:=iI a;obtain⟨t,u,w⟩:=U5 p;rw[iC a]at i;refine Y ?_;refine Za [b.v,.slice k qs.length c1,.slice A l.length c] (RX (hb.inc f) ok s1 i (λ_ h=>h) (UI ok) (g.inc f) ⟨t,w,u⟩) ?_;rintro v y ⟨s,rfl⟩;refine Y ?_;exact⟨f.trans s,by rw[xB,iF a,a];rfl⟩
end
def k9{b:Sb}:(AE b n).length<=1000000:=by
 unfold AE;split
 ·rename_i h;obtain⟨ok,_,_⟩:=iI h;have a:=lV (Vj b n.toNat);have d:=UI ok;rw[Vj,qAh]at a;exact qAz a O
 exact qAI _
section
variable{P:aX}[Tz P][Loud P]{H:Hp}
theorem sQ(j:P=PP){b:Sb}{a:List Int}(hb:Zr H b)(k:aF H (.slice Ap a.length cp) a)(d:a.length<=cp)(i:Yk H)(e:aC H ⟨1,0,none⟩ [vf 284]) :
  nH.m P (tJ P mM λv _=>v=vb true) (Vv [b.v,.slice Ap a.length cp,vi n]) H:=by
 unfold nH Sb.v;refine Y ?_;refine Za [b.v] (eO hb) ?_;rintro v _ ⟨rfl,g,rfl,t⟩;cases g with
 | true=>
  refine Y ?_;refine Za [] (bB j i e) ?_;rintro v E ⟨_,rfl⟩;refine Y ?_;rfl
 | false=>
 have f:=(t rfl).sz;refine OJ (λF=>?_) (λF=>?_)
 ·refine Y ?_;refine Za [] (bB j i e) ?_;rintro v E ⟨_,rfl⟩;refine Y ?_;rfl
 have o:a.length<=1000000:=O;clear F;refine Y ?_;refine Za [b.v] (IC hb f i) ?_;rintro v E ⟨R,rfl⟩;refine Y ?_;refine Za [b.v] (RL (hb.inc R) f) ?_;rintro v H2 ⟨j2,rfl⟩;have y:=R.trans j2;refine OJ (λG=>?_) (λG=>?_)
 ·exact absurd G (by simp)
 refine OJ (λI=>?_) (λI=>?_)
 ·exact absurd I (by simp)
 refine Y ?_;refine Za [b.v,vi n] (PR (hb.inc y) f (aC.inc i y)) ?_;rintro v W ⟨j3,w,rfl,hw⟩;have S:=y.trans j3;have x:aF W w (AE b n):=by
  unfold AE;rcases hw with⟨h,rfl⟩ | ⟨h,bb,ow⟩
  ·rw[aT h];exact .nil _
  rw[iF h,<-sN];exact ow.sl
 refine Y ?_;refine Za [b.v,vi n] (RY (hb.inc S) f) ?_;rintro v H4 ⟨T,u,rfl,Z⟩;have r:=S.trans T;refine Y ?_;refine Za [w,u] (EI (x.inc T) Z k9 k9) ?_;rintro v _ ⟨rfl,rfl⟩;rw[decide_eq_true (show AE b n=AE b n from rfl)];refine OJ (λJ=>?_) (λJ=>?_)
 ·exact absurd J (by simp)
 refine Y ?_;refine Za [b.v,.slice Ap a.length cp] (KH (hb.inc r) f (aC.inc i r) (aC.inc e r) (k.inc r) d o) ?_;rintro v H5 ⟨j5,rfl⟩;have z:=r.trans j5;refine Y ?_;refine Za [b.v,.slice Ap a.length cp] (RO (hb.inc z) f (k.inc z) d o) ?_;rintro v H6 ⟨j6,rfl⟩;have s:=z.trans j6;refine Y ?_;refine CA (b:=decide ((ON b a).1=(ON b a).1/\(ON b a).2=(ON b a).2)) EC (λQ g H X=>zY (.inr zJ) Q X) rfl rfl ?_;rw[decide_eq_true (show(ON b a).1=(ON b a).1/\(ON b a).2=(ON b a).2 from⟨rfl,rfl⟩)];refine OJ (λK=>?_) (λK=>?_)
 ·exact absurd K (by simp)
 refine Y ?_;refine Za [b.v,.slice Ap a.length cp,vi n] (TQ (hb.inc s) f (aC.inc i s) (aC.inc e s) (k.inc s) d o) ?_;rintro v H7 ⟨j7,rfl⟩;have B:=s.trans j7;refine Y ?_;refine Za [b.v,.slice Ap a.length cp,vi n] (RR (hb.inc B) f (k.inc B) d o) ?_;rintro v H8 ⟨j8,rfl⟩;have i8:=B.trans j8;refine OJ (λL=>?_) (λL=>?_)
 ·exact absurd L (by simp)
 refine OJ (λM=>?_) (λM=>?_)
 ·exact absurd M (by simp)
 refine Y ?_;refine Za [b.v,.slice Ap a.length cp] (FR (hb.inc i8) f (aC.inc i i8) (aC.inc e i8) (k.inc i8) d o) ?_;rintro v H9 ⟨j9,rfl⟩;have C:=i8.trans j9;refine Y ?_;refine Za [b.v,.slice Ap a.length cp] (RQ (hb.inc C) f (k.inc C) d o) ?_;rintro v U ⟨D,rfl⟩;have q:=C.trans D;refine OJ (λN=>?_) (λN=>?_);rotate_left
 ·exact absurd rfl N
 refine OJ (λp=>?_) (λp=>?_);rotate_left
 ·exact absurd rfl p
 refine Y ?_;refine Za [] (bB j (aC.inc i q) (aC.inc e q)) ?_;rintro v V ⟨_,rfl⟩;refine Y ?_;rfl
end
