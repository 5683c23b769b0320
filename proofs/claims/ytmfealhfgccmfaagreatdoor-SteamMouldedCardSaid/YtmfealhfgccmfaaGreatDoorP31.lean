import Derived.Test.YtmfealhfgccmfaaGreatDoorP21
import Derived.Test.YtmfealhfgccmfaaGreatDoorP29
import Derived.Test.YtmfealhfgccmfaaGreatDoorP30
set_option linter.all false
set_option maxHeartbeats 8000000
set_option maxRecDepth 20000
def D6{G:Prop}(h:G:=by refine Y ?_;exact⟨⟨j+1,O⟩,gI O,rfl,⟨rfl,rfl,by rw[e];rfl,rfl,rfl,trivial⟩,V,rfl⟩):G:=h
def TY{G:Prop}(h:G:=by
  refine⟨?_,Hp.aQ _ _ _,?_⟩
  ·rw[Hp.aR _ _ (qAo n3),Hp.aR _ _ (qAo n3),Hp.aR _ _ (qAo n1)];exact Hp.aQ _ _ _
  rw[Hp.aR _ _ (qAo n2),Hp.aR _ _ (qAo n2),<-Jd];exact Hp.aQ _ _ _):G:=h
open Go Go.LL
namespace Go.Proofs
variable{l fr:List Int}{n c r j cap p f ro rf m:Nat}{b:Sb}{fv v zv cv:Value}{N:Hp->Prop}{A:Option Addr}{α:Type}{rest:List Value}{key:Int->Int}{G:Hp}
def ZgQ:Yw Tryz.prog 321=some (1,some .nilFunc,8):=U
def Zet:Yw Tryz.prog 239=some (4,some (.agg #[vi 0,vi 0,vi 0,vi 0]),32):=U
def ZgA:Tryz.prog.underlying 247=some (.slice 239):=U
def Zon:Yw Tryz.prog 247=some (1,some (.slice none 0 0),24):=U
theorem ZiP{l:List N4}(a:n<(l.map DC).length):(l.map DC)[n]=[ZI (l[n]'(by simpa using a))]:=by rw[qBn];rfl
def Zg6{α:Type}{f:Int->List α}{hi:Int}{k:Nat}(a:∀v,(f v).length<=k):∀c,(oJ f hi c).length<=c * k
 | 0=>by simp[oJ]
 | c+1=>by rw[oJ,IN,qBx];have:=a (hi-c);have:=Zg6 (hi:=hi) a c;omega
def Zhm{b:Sb}(ok:gY b):∀r,r<=b.pk.length->∀m,(hU b r m).length<=3 ^ r
 | 0,_,m=>by rw[hU];split<;>simp
 | r+1,i,m=>by rw[hU];have g:b.pk.length-(r+1)<b.pk.length:=O;have e:gA b (b.pk.length-(r+1))=b.pk[b.pk.length-(r+1)]:=ZG g _;have h:=ok.pk _ g;rw[<-e]at h;refine qAP (Zg6 (λv=>Zhm ok r O _) _) ?_;rw[qCC,qDT];exact Nat.mul_le_mul_left _ O
def Uw(ok:gY b):(Za b).length<=81:=by have h:=Zhm ok b.pk.length (DO _) ⟨0,0,0,0⟩;have e:3 ^ b.pk.length<=3 ^ 4:=qAR O ok.n.2;unfold Za;omega
def Vp(b:Sb):Bool:=!(Za b).isEmpty
def YC(b:Sb)(w:Value):Value:=.agg #[vi b.pl,vi b.hd,vi b.td,.slice b.A1 b.pk.length b.c1,.slice b.A2 b.nt.length b.c2,w]
def Oc:Value:=.agg #[vi 0,vi 0,vi 0,.slice none 0 0,.slice none 0 0,.slice none 0 0]
def Zp(b:Sb)(own:Int):Int:=if ZN b≠0 then ZN b else if own≠0 then own else if(Za b).length=0 then 9 else 0
section
variable{P:fP}[Tz P][Loud P]{H:Hp}
def mO(ok:gY b):yW P (.func (.func 131) #[b.v] #[]) (λH=>Zq H b) ((Za b).map DC):=by
 rintro y I S H ⟨W,T,V,E⟩ F J L M t;have Jd:y.cells=#[y]:=by rw[E];rfl
 refine Yv U ?_;refine aU.m (fO Zyy) rfl ?_;unfold ZkG Sb.v;generalize D:(Za b).map DC=O at *;have u:JG .nil (kB O I ((Za b).map DC++[])) H:=⟨H,.nil,(Hp.hZ H).symm,Hp.iJ H,λb x h=>by simp[Hp.nil]at h,by rw[qAl,D];exact .start t⟩;refine Y ?_;refine Ug rfl (OL _) λi C=>?_;have w:=u.new (.cells b.v.cells 238) C;refine Y ?_;refine Ug rfl (OL _) λk o=>?_;have z:=w.new (.cells y.cells 320) o;refine Y ?_;refine VY (fT ZgQ) (OL _) λg e=>?_;have B:=z.new (.cells (Value.nilFunc).cells 321) e;have n1:k≠i:=by rintro rfl;rw[Hp.aQ]at o;simp at o
 have n2:g≠k:=by rintro rfl;rw[Hp.aQ]at e;simp at e
 have n3:g≠i:=by rintro rfl;rw[Hp.aR _ _ (qAo n1),Hp.aQ]at e;simp at e
 refine Y ?_;refine VW rfl rfl (Y ?_);refine VV (v:=Ns i g k) (fT ZgQ) rfl rfl (Hp.aQ _ _ _) rfl rfl (OL _) ?_;have s:=B.put (.cells #[Ns i g k] 321) (Hp.aQ _ _ _);have K:Znm ((((Hp.nil.ins i (.cells b.v.cells 238)).ins k (.cells y.cells 320)).ins g (.cells (Value.nilFunc).cells 321)).ins g (.cells #[Ns i g k] 321)) b.cs i g k y 238 321 320:=by exact TY
 refine Y ?_;refine Zh (OL _) rfl (ZM (s.inc _ _ K.n)) (Y ?_);have a:=ZoS ok F J L M i g k K b.pk.length ⟨0,0,0,0⟩ [] _ (DO _) ZlJ s;rw[qCf]at a;refine ZP rfl rfl (Yv U a) ?_;rintro v Q (⟨rfl,h7⟩ | ⟨rfl,h7⟩)
 ·refine Y ?_;exact .inl (h7.up (BL F)).stop
 refine Y ?_;exact .inr (h7.up J)
def ZeD(hb:Zq H b)(ok:gY b):LL.Zb P 146 #[b.v] H λv a=>fI H a/\v=vb (Vp b):=by
 refine aU.m (fO Zyf) rfl ?_;unfold Zkn Sb.v;refine Y ?_;refine Ug rfl (OL _) λR s=>Y ?_;refine VY (fT t4) (OL _) λu g=>?_;have C:fI H ((H.ins R (.cells b.v.cells 238)).ins u (.cells (vb false).cells 4)):=(Zt s).trans (Zt g);have K:H u=none:=YP (Zt s) g;refine Y ?_;refine Zn (cs:=b.cs) (OL _) rfl (aM.inc (VR (cs:=b.cs)) (Zt g)) rfl (Y ?_);refine VW rfl rfl (Y ?_);refine L9 OL rfl (mO ok) (λx Q=>by obtain⟨k,_,rfl⟩:=qAy.1 Q;rfl)
  (λn a=>n=0/\fI H a/\a u=some (.cells #[vb false] 4,true)) (λe a=>e=.ret/\fI H a/\aM a ⟨u,0,none⟩ [vb true]/\Vp b=true) ⟨rfl,C,Hp.aQ _ _ _⟩
  (λn a J O ⟨w,z,B⟩=>⟨w,z.trans (Um _ _),Hp.eN B⟩) (λe a J O ⟨w,z,B,M⟩=>⟨w,z.trans (Um _ _),B.inc (Um _ _),M⟩) (λn a h=>hb.inc h.2.1) ?_ ?_ ?_
 ·rintro n t F ⟨rfl,o,q⟩;have i:Vp b=true:=by
   rw[qAd]at t;cases hh:Za b with
   | nil=>rw[hh]at t;simp at t
   | cons x l=>rw[Vp,hh];rfl
  rw[ZiP t];refine Y ?_;refine VV (fT t4) rfl rfl q rfl rfl (OL _) (Y ?_);exact⟨rfl,qC o K,VR,i⟩
 ·rintro F ⟨I,o,q⟩;have D:Vp b=false:=by rw[qAd]at I;rw[Vp,qAr I];rfl
  refine Y ?_;refine VV (fT t4) rfl rfl q rfl rfl (OL _) (Y ?_);refine HG (vs:=[vb false]) rfl (OL _) ⟨⟨_,rfl,VR⟩,trivial⟩ ?_;exact⟨qC o K,by rw[D];rfl⟩
 rintro e F S ⟨rfl,o,q,L⟩;refine Y ?_;refine HG (vs:=[vb true]) rfl (OL _) ⟨⟨_,rfl,q⟩,trivial⟩ ?_;exact⟨o,by rw[L];rfl⟩
def ZAd{l:List N4}(W:yW P fv N (l.map DC))(hN:∀a,fI H a->N a)(hl:l.length<=1000000):LL.Zb P 198 #[.slice none 0 0,fv] H λv a=>fI H a/\∃g,gL H a 239 v l g:=by
 refine aU.m (fO Zx4) rfl ?_;unfold Zkc;refine Y ?_;refine Ug rfl (OL _) λC F=>Y ?_;refine L9 OL rfl W (λx hx=>by obtain⟨k,_,rfl⟩:=qAy.1 hx;rfl)
  (λn a=>fI H a/\∃v g,a C=some (.cells #[v] 247,true)/\gL H a 239 v (l.take n) g/\g≠some C) (λe a=>False) ⟨Zt F,_,none,Hp.aQ _ _ _,.nil H _ 239,by simp⟩
  (λn a J V ⟨h1,v,g,U,h3,h4⟩=>⟨h1.trans (Um _ _),v,g,Hp.eN U,h3.inc (Um _ _),h4⟩) (λe a J V h=>h) (λn a h=>hN _ h.1) ?_ ?_ ?_
 ·rintro n X L ⟨M,v,g,R,D,T⟩;rw[ZiP X];rw[qAd]at X;have u:l.take (n+1)=l.take n++[l[n]]:=by rw[BY X]
  generalize l[n]=x at *;have U:H C=none:=F;refine Y ?_;refine VY (fT Zet) (OL _) λr5 t=>Y ?_;refine yU (v:=ZI x) (fT Zet) (cs:=[vi 0,vi 0,vi 0,vi 0]) rfl rfl (Hp.aQ _ _ _) rfl rfl rfl (OL _) ?_;rw[Uy];have Q:=M.trans (Zt (o:=.cells (ZI x).cells 239) t);have s:=Zt (o:=.cells (ZI x).cells 239) t _ _ R;have S:=D.ins (o:=.cells (ZI x).cells 239) t;have c5:aM (L.ins r5 (.cells (ZI x).cells 239)) ⟨r5,0,none⟩ x.cells:=VR;generalize L.ins r5 (.cells (ZI x).cells 239)=H4 at *;refine Y ?_;refine Zh (OL _) rfl (ZM (cs:=[v]) s) (Y ?_);refine YL c5 (Y ?_);refine Z4 (cs:=x.cells) (OL _) rfl λr6 i=>Y ?_;have NU:v.cells=#[v]/\Value.gM v=true:=by obtain⟨_,⟨e,_⟩ | ⟨_,_,_,_,e,_⟩⟩:=D.own<;>(subst e;exact⟨rfl,rfl⟩)
  refine VX (l':=[x]) (fU ZgA) (fU ZgA) (fT Zet) rfl (by decide) (Q.trans (Zt i)) (S.ins i) (Z3 (l:=[x])) rfl (by simp;omega) O rfl rfl (OL _) λK H6 b' k1 Z k3=>?_;have g6:H6 C=some (.cells #[v] 247,true):=k3.keep C _ (Zt i _ _ s) (λe=>T e);have I:K.cells=#[K]/\Value.gM K=true:=by obtain⟨_,⟨e,_⟩ | ⟨_,_,_,_,e,_⟩⟩:=Z.own<;>(subst e;exact⟨rfl,rfl⟩)
  have E:b'≠some C:=by
   rcases k3.new with rfl | ⟨q,rfl,hq⟩
   ·exact T
   rintro e;obtain rfl:=aT e;rw[Zt i _ _ s]at hq;simp at hq
  refine Y ?_;refine VV (v:=K) (fT Zon) rfl rfl g6 I.1 I.2 (OL _) (Y ?_);refine⟨qC k1 U,K,b',Hp.aQ _ _ _,?_,E⟩;rw[u];refine⟨Z.own.sub λc z e V=>?_,Z.fresh⟩;rw[Hp.aR _ _ (by rintro rfl;exact E e)];exact V
 ·rintro L ⟨M,v,g,R,D,T⟩;rw[qAd,qAh]at D;refine Y ?_;refine Zh (OL _) rfl (ZM (cs:=[v]) R) (Y ?_);exact⟨M,g,D⟩
 rintro e L he h;exact h.elim
def ZnB{l:List N4}(e:yW P fv N (l.map DC))(i:∀a,fI H a->N a)(k:l.length<=1000000):LL.Zb P 130 #[fv] H λv a=>fI H a/\∃g,gL H a 239 v l g:=by refine aU.m (fO Zyz) rfl ?_;unfold ZkH;refine Y ?_;refine Zg (ZAd e i k) ?_;rintro v a h;refine Y ?_;exact h
def Zgc(hb:Zq H b)(s:b.Sz)(k:Yb H):LL.Zb P 52 #[b.v] H λv h=>fI H h/\v=.tuple #[vi (if ZN b=0 then(Za b).length else 0),vi (ZN b)]:=by
 refine aU.m (fO ZyZ) rfl ?_;unfold Zk7 Sb.v;refine Y ?_;refine Zg (HN hb s k) ?_;rintro v u ⟨a,rfl⟩;refine OJ (λe=>?_) (λe=>?_)
 ·refine Y ?_;exact⟨a,by rw[iF e];rfl⟩
 have val:=Ob (b:=b) e;have i:=Uw val;refine Y ?_;refine VW rfl rfl (Y ?_);refine Zg (ZnB (mO val) (λh o=>(hb.inc a).inc o) O) ?_;rintro v w ⟨g,z,q⟩;obtain⟨t,B,rfl,_⟩:=q.sl;refine Y ?_;exact⟨a.trans g,by rw[qAa e,e];rfl⟩
def OC{own:Int}(hb:Zq H b)(F:b.Sz)(D:Yb H)(C:∀i,fI H i->Z5 P fv #[b.v] i λv h=>fI i h/\v=vi own) :
  LL.Zb P 132 #[b.v,fv] H λv h=>fI H h/\((Zp b own≠0/\v=.tuple #[Oc,vi (Zp b own)])\/(Zp b own=0/\gY b/\1<=(Za b).length/\∃w q,v=.tuple #[YC b w,vi 0]/\gL H h 239 w (Za b) q)):=by
 refine aU.m (fO Zyx) rfl ?_;unfold ZkF Sb.v;refine Y ?_;refine Zg (HN hb F D) ?_;rintro v i ⟨a,rfl⟩;refine OJ (λk=>?_) (λk=>?_)
 ·refine Y ?_;exact⟨a,.inl ⟨by rw[Zp,qAa k];exact k,by rw[Zp,qAa k];rfl⟩⟩
 have val:=Ob (b:=b) k;have u:=Uw val;refine Y ?_;refine ZP (vs:=[b.v]) rfl rfl (C i a) ?_;rintro v J ⟨g,rfl⟩;refine OJ (λs=>?_) (λs=>?_)
 ·have e:Zp b own=own:=by rw[Zp,iF O,qAa s]
  refine Y ?_;exact⟨a.trans g,.inl ⟨by rw[e];exact s,by rw[e];rfl⟩⟩
 refine Y ?_;refine VW rfl rfl (Y ?_);refine Zg (ZnB (mO val) (λh E=>((hb.inc a).inc g).inc E) O) ?_;rintro v K ⟨o,q,t⟩;obtain⟨I,L,rfl,_⟩:=t.sl;refine OJ (λB=>?_) (λB=>?_)
 ·have e:Zp b own=9:=by rw[Zp,iF O,iF O,qAa O]
  refine Y ?_;exact⟨(a.trans g).trans o,.inl ⟨by rw[e];decide,by rw[e];rfl⟩⟩
 have e:Zp b own=0:=by rw[Zp,iF O,iF O,iF O]
 refine Y ?_;exact⟨(a.trans g).trans o,.inr ⟨e,val,O,_,q,rfl,t.own,λr z=>YP (a.trans g) (t.fresh r z)⟩⟩
end
def Vq(n:Nat)(l:List Int):Nat->Int
 | 0=>0
 | j+1=>if Vq n l j≠0 then Vq n l j else if ¬ (0<=l.getD j 0/\l.getD j 0<n)then 6 else if(l.take j).any (λz=>l.getD j 0 == z)then 5 else 0
def Yo(b:Sb)(l:List Int):Int:=if l.length≠b.pk.length then 2 else Vq b.pk.length l l.length
def An(z:Int):Bool:=!decide (1<=z/\z<=20)
def Ut(b:Sb)(l:List Int):Int:=if l.length≠b.pk.length then 2 else if l.any An then 1 else 0
def YG(b:Sb)(n:Int):Int:=if 0<=n/\n<b.pk.length then 0 else 6
def ZhZ{n:Nat}{l:List Int}{j:Nat}(h:Vq n l j≠0):∀k,j<=k->Vq n l k=Vq n l j
 | 0,a=>by have:j=0:=O;rw[this]
 | k+1,a=>by
  by_cases e:j=k+1
  ·rw[e]
  have:=ZhZ h k O;rw[Vq,qAa (by rw[this];exact h),this]
section
variable{P:fP}[Tz P][Loud P]{H:Hp}
def ZzV{n:Int}(i:dF H v l)(s:l.length<=1000000) :
  LL.Zb P 266 #[v,vi n] H λv g=>H=g/\∃r:Int,v=vi r/\(0<=r↔l.any (λz=>n == z)=true):=by
 refine aU.m (fO ZxG) rfl ?_;unfold ZjO;refine Y ?_;refine YH i rfl (Y ?_);refine ZC l.length (λj g=>H=g/\(l.take j).any (λz=>n == z)=false) (λj=>[(0,v),(1,vi n),(7,vi l.length),(8,vi j)]) (λj=>[]) ⟨rfl,rfl⟩ V trivial ?_;rintro j _ q ⟨rfl,xW⟩;refine OJ (λk=>?_) (λk=>?_)
 ·have e:j<l.length:=O;refine Y ?_;refine ZB j i e λa o=>Y ?_;refine Z8 o ?_;refine OJ (λh=>?_) (λh=>?_)
  ·refine Y ?_;exact⟨rfl,j,rfl,by simp only[qDj,true_iff];rw[qCj];exact⟨l[j],iN e,by simpa using h⟩⟩
  refine Y ?_;refine⟨⟨j+1,O⟩,gI O,⟨rfl,?_⟩,V,trivial,rfl⟩;show(l.take (j+1)).any (λz=>n == z)=false;rw[BY e,qDc,xW];simp[h]
 exact LO
def Zgi{n:Int}(e:dF H v l)(g:l.length<=1000000) :
  LL.Zb P 206 #[v,vi n] H λv a=>H=a/\v=vb (l.any (λz=>n == z)):=by
 refine aU.m (fO ZxX) rfl ?_;unfold Zj5;refine Y ?_;refine Z7 (vs:=[v,vi n]) rfl (ZzV e g) ?_;exact S4
def ZeW(u:dF H (.slice A l.length c) l)(I:l.length<=c)(K:l.length<=1000000)(F:b.pk.length<=1000000) :
  LL.Zb P 138 #[b.v,.slice A l.length c] H λv q=>H=q/\v=vi (Yo b l):=by
 refine aU.m (fO Zys) rfl ?_;unfold ZkA Sb.v;refine OJ (λw=>?_) (λw=>?_)
 ·refine Y ?_;exact⟨rfl,by rw[Yo,qAa O];rfl⟩
 refine Y ?_;refine ZC l.length (λj q=>H=q/\Vq b.pk.length l j=0) (λj=>[(1,.slice A l.length c),(2,vi 0),(14,.slice A l.length c),(15,vi l.length),(16,vi j)]) (λj=>[(2,b.cs)]) ⟨rfl,rfl⟩ V V ?_;rintro j _ J ⟨rfl,t⟩;refine OJ (λB=>?_) (λB=>?_)
 ·have i:j<l.length:=O;have E:l.getD j 0=l[j]:=ZG i _;have e:Vq b.pk.length l (j+1)=(if ¬ (0<=l[j]/\l[j]<b.pk.length)then 6 else if(l.take j).any (λz=>l[j] == z)then 5 else 0):=by rw[Vq,iF (by rw[t];simp),E]
  have stop:Vq b.pk.length l (j+1)≠0->Yo b l=Vq b.pk.length l (j+1):=λh=>by rw[Yo,iF O,ZhZ h _ O]
  refine Y ?_;refine ZB j u i λa D=>Y ?_;refine Z8 D (Y ?_);refine Zo (ZfA _ F) ?_;refine OJ (λC=>?_) (λC=>?_)
  ·have s:=e.trans (qAa O);refine Y ?_;exact⟨rfl,by rw[stop (by rw[s];decide),s];rfl⟩
  have g:=e.trans (iF O);refine Y ?_;refine PC (lo:=0) (hi:=j) (k:=.i64) (fU jR) (fT t3) rfl (.inl ⟨rfl,rfl⟩) ⟨_,rfl,rfl⟩ O O ?_;rw[W9,qBl,qBl];refine Y ?_;refine Zo (Zgi (ZgN u O) (by rw[qAs];omega)) ?_;cases hag:(l.take j).any (λz=>l[j] == z)with
  | true=>
   rw[hag]at g;refine Y ?_;exact⟨rfl,by rw[stop (by rw[g];decide),g];rfl⟩
  | false=>
   rw[hag]at g;refine Y ?_;exact⟨⟨j+1,O⟩,gI O,⟨rfl,g⟩,V,V,rfl⟩
 have:j=l.length:=O;subst this;refine Y ?_;exact⟨rfl,by rw[Yo,iF O,t];rfl⟩
def Zof(z:Int):LL.Zb P 260 #[vi z] H λv a=>H=a/\v=vb (An z):=by refine aU.m (fO ZxL) rfl ?_;unfold ZjT;refine Y ?_;refine Z7 (vs:=[vi z,vi 1,vi 20]) rfl (Uc _ _ _) ?_;exact DU
def Zoe(g:dF H (.slice A l.length c) l)(h:l.length<=1000000)(i:b.pk.length<=1000000) :
  LL.Zb P 192 #[b.v,.slice A l.length c] H λv a=>H=a/\v=vi (Ut b l):=by
 refine aU.m (fO Zx7) rfl ?_;unfold Zkf Sb.v;refine OJ (λe=>?_) (λe=>?_)
 ·refine Y ?_;exact⟨rfl,by rw[Ut,qAa O];rfl⟩
 refine Y ?_;refine Zo (Zz8 (f:=An) (λz _=>Yv U (Zof z)) g h (OL _)) ?_;cases h2:l.any An with
 | true=>
  refine Y ?_;exact⟨rfl,by rw[Ut,iF O,h2];rfl⟩
 | false=>
  refine Y ?_;exact⟨rfl,by rw[Ut,iF O,h2];rfl⟩
def ZnS:LL.Zb P 139 #[b.v] H λv a=>fI H a/\v=vi 0:=by refine aU.m (fO Zyq) rfl ?_;unfold Zky Sb.v;refine Y ?_;exact⟨.refl _,rfl⟩
def lO(P:fP)(H:Hp)(fv:Value)(b:Sb)(own:Int):Prop:=∀a,fI H a->Z5 P fv #[b.v] a λv e=>fI a e/\v=vi own
def Ng:lO P H (vf 139) b 0:=λa _=>Yv U ZnS
def ZtL{n:Int}(h:aM H ⟨r,0,none⟩ [vi n])(g:b.pk.length<=1000000):LL.Zb P 201 #[b.v,pt r] H λv a=>H=a/\v=vi (YG b n):=by
 refine aU.m (fO Zx3) rfl ?_;unfold Zkb Sb.v;refine Y ?_;refine Z8 h (Y ?_);refine Zo (ZfA _ g) ?_;refine OJ (λe=>?_) (λe=>?_)
 ·refine Y ?_;exact⟨rfl,by rw[YG,iF O];rfl⟩
 refine Y ?_;exact⟨rfl,by rw[YG,qAa O];rfl⟩
def Zff(n:Int)(i:b.pk.length<=1000000):LL.Zb P 133 #[vi n] H λv a=>H.Sub a/\v.cells=#[v]/\Value.gM v=true/\lO P a v b (YG b n):=by refine aU.m (fO Zyw) rfl ?_;unfold ZkE;refine Y ?_;refine Ug rfl (OL _) λr k=>Y ?_;refine VW rfl rfl (Y ?_);refine⟨YB k,rfl,rfl,λo h=>Yv U (LL.Zb.mono (ZtL (aM.inc (VR (cs:=[vi n])) h) i) λv q ⟨e,g⟩=>e ▸ ⟨.refl _,g⟩)⟩
def ZtM(k:aM H ⟨r,0,none⟩ [.slice A l.length c])(g:dF H (.slice A l.length c) l)(e:l.length<=c)(i:l.length<=1000000)(h:b.pk.length<=1000000) :
  LL.Zb P 203 #[b.v,pt r] H λv a=>H=a/\v=vi (Yo b l):=by
 refine aU.m (fO Zx0) rfl ?_;unfold Zj8 Sb.v;refine Y ?_;refine Z8 k (Y ?_);refine Zo (ZeW g e i h) (Y ?_);exact⟨rfl,rfl⟩
def Zis(o:dF H (.slice A l.length c) l)(k:l.length<=c)(s:l.length<=1000000)(q:b.pk.length<=1000000) :
  LL.Zb P 134 #[.slice A l.length c] H λv a=>H.Sub a/\v.cells=#[v]/\Value.gM v=true/\lO P a v b (Yo b l):=by
 refine aU.m (fO Zyv) rfl ?_;unfold ZkD;refine Y ?_;refine Ug rfl (OL _) λr h=>Y ?_;refine VW rfl rfl (Y ?_);refine⟨YB h,rfl,rfl,λt g=>Yv U (LL.Zb.mono (ZtM (aM.inc (VR (cs:=[.slice A l.length c])) g) ((o.inc (Zt h)).inc g) k s q) λv u ⟨e,i⟩=>e ▸ ⟨.refl _,i⟩)⟩
def Yu(b:Sb)(i:Nat):List Int:=(Za b).map λt=>t.get i
theorem Znl{n:Int}(hb:Zq H b)(X:b.Sz)(hg:Yb H):LL.Zb P 53 #[b.v,vi n] H λv h=>fI H h/\∃w,v=.tuple #[w,vi (Zp b (YG b n))] /\
  ((Zp b (YG b n)≠0/\w=.slice none 0 0)\/(Zp b (YG b n)=0/\∃Q,gL H h 3 w (UE (sB (Yu b n.toNat))) Q)):=by
 refine aU.m (fO ZyY) rfl ?_;unfold Zk6 Sb.v;refine Y ?_;refine Zg (Zff n X.pk) ?_;rintro fv H1 ⟨M,e1,e2,C⟩;refine Zz OL (Y ?_);refine Zg (OC (hb.sub M) X (aM.sub hg M) C) ?_;rintro v F ⟨i2,hv⟩;have g:=M.inc.trans i2;generalize z:Zp b (YG b n)=o at *;refine Zz OL ?_;rcases hv with⟨E,rfl⟩ | ⟨E,ok,U,w,Q,rfl,ow⟩
 ·unfold Oc;refine OJ (λR=>?_) (λR=>?_)
  ·refine Y ?_;exact⟨g,_,rfl,.inl ⟨E,rfl⟩⟩
  exact absurd R E
 subst E;have hn:0<=n/\n<b.pk.length:=qAb λhh=>by
  rw[Zp,YG,iF hh]at z;split at z
  ·rename_i q;exact q z
  rw[qAa (by decide)]at z;exact absurd z (by decide)
 have T:=Uw ok;have D:=ow.sl;obtain⟨Z,cw,rfl,_⟩:=id D;have J:vi n=vi (n.toNat:Int):=by congr 1;omega
 have u:n.toNat<4:=by have:=ok.n;omega
 rw[J];generalize n.toNat=i at *;unfold YC;refine Y ?_;refine Yp (α:=Value×Option Nat) (Za b).length (λj s h=>fI F h/\gL F h 3 s.1 ((Yu b i).take j) s.2)
  (λj s=>[(1,vi i),(8,s.1),(22,.slice Z (Za b).length cw),(23,vi (Za b).length),(24,vi j)]) (λ_ _=>[]) (.slice none 0 0,none) ⟨.refl _,.nil F _ 3⟩ V trivial ?_
 rintro j ⟨s,bs⟩ H3 hj ⟨L,os⟩;simp only at os;refine OJ (λh2=>?_) (λh2=>?_)
 ·have k:j<(Za b).length:=O;have K:(Yu b i).take (j+1)=(Yu b i).take j++[(Za b)[j].get i]:=by rw[BY (by simpa[Yu]using k)];simp[Yu]
  have hE:Zd [(Za b)[j]]=(Za b)[j].cells:=rfl;refine Y ?_;refine ZB j (D.inc L) k λa ha=>?_;generalize(Za b)[j]=t at *;refine Y ?_;refine YL (cs:=t.cells) ha (Y ?_);refine sV (j:=i) rfl rfl u (Y ?_);refine wB (v:=vi (t.get i)) (OL _) rfl rfl (by
   match i,u with
   | 0,_=>rfl
   | 1,_=>rfl
   | 2,_=>rfl
   | 3,_=>rfl) ?_
  refine Y ?_;refine Z4 (cs:=[vi (t.get i)]) (OL _) rfl λr6 B=>Y ?_;have pS:((Yu b i).take j).length<=81:=by rw[qAs];omega
  refine VX (l':=[t.get i]) (fU jR) (fU jR) (fT t3) rfl (by decide) (L.trans (Zt B)) (os.ins B) (Z3 (l:=[t.get i])) rfl (by simp only[qAF,List.length_nil];omega) O rfl rfl (OL _) λv' H6 b' k1 k2 k3=>Y ?_;refine⟨(⟨j+1,O⟩,(v',b')),gI O,⟨k1,by rw[K];exact k2⟩,V,trivial,rfl⟩
 have:j=(Za b).length:=O;subst this;have K:(Yu b i).take (Za b).length=Yu b i:=qAH (by simp[Yu]);rw[K]at os;have S:(Yu b i).length=(Za b).length:=by simp[Yu]
 refine Y ?_;refine Zg (ZzH L os (by intro e;rw[e]at S;simp at S;omega) O) ?_;rintro v H4 ⟨i4,o4⟩;refine Y ?_;refine Zg (Zz9 i4 o4 (by rw[(HO _).length_eq];omega)) ?_;rintro w H5 ⟨i5,I,W⟩;refine Y ?_;exact⟨g.trans i5,_,rfl,.inr ⟨rfl,I,W.own,λr e=>YP g (W.fresh r e)⟩⟩
end
section
variable{P:fP}{H:Hp}{d:Option Nat}{next:fG->Hp->Prop}{σ:fG}{x:Operand}{ty:TypeId}
def Zfc{T E:TypeId}{i a:Nat}(F:P.toProgram.underlying T=some (.slice E))(S:TI P.toProgram E i zv a)(t:1<=n/\n<=1000)(hb:a<=1000)(J:1<=i)(e:σ.get x=some (vi n))(nO:P.still H.gh=false)
  (h:∀r,H r=none->next (σ.set d (.slice (some ⟨r,0,none⟩) n n)) (H.ins r (.cells ((Array.range (n * i)).map (zv.cells[· % zv.cells.size]!)) E))):(fR.raw (.makeSlice T x x) ty).m P d next σ H:=by
 obtain⟨R,q,K,L,M⟩:=S.ex;refine YX (by simp[Op.operands,e]) (s:=Instr.makeSlice T (vi n) (vi n)) (by simp[execOp,fL,e]) ?_;have I:IntKind.i64.wrap (n:Int)=n:=V8 ⟨O,O⟩;have k:a * n<=1000 * 1000:=qBK hb t.2;have D:decide ((a:Int) * (n:Int) > 2 ^ 48)=false:=by have w:((a * n:Nat):Int)<=((1000 * 1000:Nat):Int):=Int.ofNat_le.2 k;rw[qDd]at w;exact qAU O
 have B:decide ((n:Int)<0)=false:=qAU O;have z:decide ((n:Int) > n)=false:=qAU O;have o:¬ n * i=0:=by have:=qBK t.1 J;omega
 simp only[Instr.makeSlice,Zf,ZA F,asInt,asIntOf,Zj,UL q,M,I,Yc q,K,D,B,z,Bool.or_self,oR,qAq];have g:∀(Q:Unit->Bool->Hp->Prop),Q () false H->fZ P.toPQ (askRoom ((n:Int).toNat * a)) Q false H:=by exact AZ
 refine g _ ?_;simp only[qAL,iF o,Us q L,newRow,Zf,newObj,Zj];exact⟨nO,λr C=>h r C⟩
end
theorem Zeb[Enc α](x:α)(h:zv.cells=(Enc.enc x).toArray)(t:0<Enc.sz α)(n:Nat):(Array.range (n * Enc.sz α)).map (zv.cells[· % zv.cells.size]!)=(Zd (List.replicate n x)).toArray:=by
 have a:(Enc.enc x).length=Enc.sz α:=Enc.len x;refine Array.ext' ?_;rw[h];refine qCJ λi=>?_;simp only[Array.toList_map,Array.toList_range,qCe];by_cases q:i<n * Enc.sz α
 ·have s:i / Enc.sz α<n:=Nat.div_lt_of_lt_mul (by rw[qDT];exact q);have o:i % Enc.sz α<Enc.sz α:=qDo _ t;have e:=PT (List.replicate n x) (i / Enc.sz α) (i % Enc.sz α) (by simpa using s) o;rw[Nat.div_add_mod']at e;rw[e,qDG q];simp only[qBC,List.size_toArray,a,List.getElem_replicate];rw[getElem!_pos (Enc.enc x).toArray (i % Enc.sz α) (by simpa[a]using o),qAZ (by rw[a];exact o)];simp
 rw[qAT (l:=List.range _) (by simpa using q),qAT (by rw[Y7,qCb];omega)];rfl
def iR(l:List Int):Nat->Nat
 | 0=>0
 | j+1=>if el l j<el l (iR l j)then j else iR l j
def Zs(l:List Int):Nat:=iR l l.length
def XK{l:List Int}:∀j,0<j->iR l j<j
 | 0,h=>absurd h (Nat.lt_irrefl _)
 | 1,_=>by rw[iR,iR,iF (Int.lt_irrefl _)];exact Nat.one_pos
 | j+2,_=>by
  rw[iR];split
  ·omega
  have:=XK (l:=l) (j+1) (Nat.succ_pos _);omega
def XJ(h:l≠[]):Zs l<l.length:=XK _ (qBY.2 h)
def Lv{l:List Int}:∀{n:Nat} (j:Nat),j<n->el l (iR l n)<=el l j
 | 0,j,h=>absurd h (qBW _)
 | n+1,j,h=>by
  rw[iR];split
  ·rename_i a;by_cases e:j=n
   ·rw[e];exact qAO _
   have:=Lv (l:=l) (n:=n) j O;omega
  rename_i a;by_cases e:j=n
  ·rw[e];omega
  exact Lv j O
def ZlT(h:j<l.length):el l (Zs l)<=el l j:=Lv j h
section
variable{P:fP}[Tz P][Loud P]{H:Hp}
def Zl7(n:Int):LL.Zb P 407 #[vi n] H λv a=>H=a/\v=vi n:=by refine aU.m (fO Zxi) rfl ?_;unfold Zjq;refine Y ?_;exact⟨rfl,rfl⟩
def ZlB(k:dF H v l)(z:l.length<=1000000):LL.Zb P 194 #[.agg #[vf 407],v] H λw h=>H=h/\w=vi (Zs l):=by
 refine aU.m (fO ZxR) rfl ?_;unfold ZjZ;refine Y ?_;refine YH k rfl (Y ?_);refine ZC l.length (λj h=>H=h) (λj=>[(1,v),(2,vi 0),(5,vi (iR l j)),(8,vi l.length),(9,vi j)]) (λj=>[(2,[vf 407])]) rfl V V ?_;rintro j _ u rfl;refine OJ (λs=>?_) (λs=>?_)
 ·have g:j<l.length:=O;have o:iR l j<l.length:=by
   by_cases q:j=0
   ·rw[q,iR];omega
   have:=XK (l:=l) j O;omega
  refine Y ?_;refine ZB j k g λa t=>Y ?_;refine Z8 t (Y ?_);refine ZB (iR l j) k o λa hb=>Y ?_;refine Z8 hb (Y ?_);refine ZP rfl rfl (Yv U (Zl7 _)) ?_;rintro w _ ⟨rfl,rfl⟩;refine Y ?_;refine ZP rfl rfl (Yv U (Zl7 _)) ?_;rintro w _ ⟨rfl,rfl⟩;refine Y ?_;rw[<-V1 g,<-V1 o];refine OI (λi=>?_) (λi=>?_)
  ·have e:iR l (j+1)=j:=by rw[iR,qAa i]
   exact D6
  have e:iR l (j+1)=iR l j:=by rw[iR,iF i]
  exact D6
 have:j=l.length:=O;subst this;refine Y ?_;exact⟨rfl,rfl⟩
end
def Ul(key:Int->Int)(x:Int):List Int->List Int
 | []=>[x]
 | y :: r=>if key x<key y then y :: Ul key x r else x :: y :: r
def VU(key:Int->Int)(l:List Int):List Int:=l.foldl (λa x=>Ul key x a) []
def QB(key:Int->Int)(l:List Int):List Int:=(VU key l).reverse
def ZlG(key:Int->Int)(x:Int):∀A:List Int,(Ul key x A).Perm (x :: A)
 | []=>.refl _
 | y :: r=>by
  rw[Ul];split
  ·exact((ZlG key x r).cons y).trans (.swap x y r)
  exact .refl _
def ZoK(key:Int->Int)(l:List Int)(x:Int):VU key (l++[x])=Ul key x (VU key l):=by simp[VU,qCs]
def ZlX(key:Int->Int):∀(l A:List Int),(l.foldl (λa x=>Ul key x a) A).Perm (l++A)
 | [],A=>.refl _
 | x :: l,A=>by refine(ZlX key l _).trans ?_;refine((ZlG key x A).append_left l).trans ?_;exact List.perm_middle
def ZeF(key:Int->Int)(l:List Int):(VU key l).Perm l:=by have:=ZlX key l [];rwa [qAl]at this
def Mp(key:Int->Int)(l:List Int):(QB key l).Perm l:=(List.reverse_perm _).trans (ZeF key l)
theorem ZlF{key:Int->Int}{x:Int}:∀{A:List Int} {k:Nat},(∀y∈A.take k,key x<key y)->(A.length<=k\/∃y r,A.drop k=y :: r/\¬ key x<key y)->Ul key x A=A.take k++x :: A.drop k
 | [],k,_,_=>by simp[Ul]
 | y :: r,0,_,h=>by
  rcases h with h | ⟨z,t,e,h⟩
  ·simp at h
  simp only[List.drop_zero,qBg]at e;obtain⟨rfl,rfl⟩:=e;rw[Ul,iF h];rfl
 | y :: r,k+1,a,h=>by rw[Ul,qAa (a y (by simp))];rw[ZlF (k:=k) (λz g=>a z (by simp[g])) (by simpa using h)];rfl
def Zoy(p s:List Int)(x y:Int):((p++y :: x :: s).set (p.length+1) y).set p.length x=p++x :: y :: s:=by rw[List.set_append_right _ _ O,List.set_append_right _ _ O];simp
def Zv8(p s:List Int)(y:Int):el (p++y :: s) p.length=y:=by simp[el]
def Zv7(p s:List Int)(x y:Int):el (p++y :: x :: s) (p.length+1)=x:=by simp[el,qBz]
section
variable{P:fP}[Tz P][Loud P]{H:Hp}
def Zgj(P:fP)(H:Hp)(r:Nat)(cv:Value)(key:Int->Int)(l:List Int):Prop:=
 ∀a,(∀b x,b≠r->H b=some x->a b=some x)->∀p∈l,∀q∈l,Z5 P cv #[vi p,vi q] a λv e=>a=e/\v=vi (key p-key q)
def Zvf(hA:H r=some (.cells (Zd l++rest).toArray 3 (0,0),true))(hl:l.length<=1000000)(hc:Zgj P H r cv key l) :
  LL.Zb P 325 #[.slice (some ⟨r,0,none⟩) l.length cap,vi 0,vi l.length,cv] H λ_ u=>AR H u r (QB key l) rest:=by
 refine aU.m (fO Zxu) rfl ?_;unfold ZjC;have h0:(VU key (l.take (0+1))).reverse++l.drop (0+1)=l:=by
  cases l with
  | nil=>rfl
  | cons x t=>simp[VU,Ul]
 refine Y ?_;refine ZC (l.length-1) (λm u=>AR H u r ((VU key (l.take (m+1))).reverse++l.drop (m+1)) rest) (λm=>[(0,.slice (some ⟨r,0,none⟩) l.length cap),(1,vi 0),(2,vi l.length),(3,cv),(8,vi ((m+1:Nat):Int))]) (λ_=>[]) (by rw[h0];exact AR.of hA) V trivial ?_;rintro m H1 hm L;refine OJ (λg1=>?_) (λg1=>?_)
 ·have o:m+1<l.length:=O;generalize i:VU key (l.take (m+1))=A at *;have hAl:A.length=m+1:=by rw[<-i,(ZeF key _).length_eq,qAs];omega
  have S:∀z∈A,z∈l:=λz g=>qDC ((ZeF key (l.take (m+1))).mem_iff.1 (i ▸ g));obtain⟨x,U⟩:∃x,x=l[m+1]:=⟨_,rfl⟩;have W:x∈l:=U ▸ iN o;have hd:l.drop (m+1)=x :: l.drop (m+2):=by rw[U];exact CI o
  have q:VU key (l.take (m+1+1))=Ul key x A:=by rw[BY o,ZoK,i,U]
  refine Y ?_;refine ZC (m+1) (λk u=>AR H u r ((A.drop k).reverse++x :: ((A.take k).reverse++l.drop (m+2))) rest/\∀y∈A.take k,key x<key y)
   (λk=>[(0,.slice (some ⟨r,0,none⟩) l.length cap),(1,vi 0),(2,vi l.length),(3,cv),(8,vi ((m+1:Nat):Int)),(9,vi ((m+1-k:Nat):Int))]) (λ_=>[]) ⟨by rw[hd]at L;simpa using L,by simp⟩ V trivial ?_
  rintro k H2 hk ⟨a,J⟩;have C:(A.length<=k\/∃y r,A.drop k=y :: r/\¬ key x<key y)->(A.drop k).reverse++x :: ((A.take k).reverse++l.drop (m+2))=(VU key (l.take (m+1+1))).reverse++l.drop (m+1+1):=λh=>by rw[q,ZlF J h];simp
  have I:((A.drop k).reverse++x :: ((A.take k).reverse++l.drop (m+2))).length=l.length:=by simp;omega
  refine OJ (λha=>?_) (λha=>?_)
  ·have e:k<A.length:=O;obtain⟨y,X⟩:∃y,y=A[k]:=⟨_,rfl⟩;have Z:y∈l:=S y (X ▸ iN e);have E:A.drop k=y :: A.drop (k+1):=by rw[X];exact CI e
   have K:A.take (k+1)=A.take k++[y]:=by rw[BY e,X]
   have D:(A.drop k).reverse++x :: ((A.take k).reverse++l.drop (m+2))=(A.drop (k+1)).reverse++y :: x :: ((A.take k).reverse++l.drop (m+2)):=by rw[E];simp
   have s:(A.drop (k+1)).reverse.length=m-k:=by simp;omega
   have F:m+1-k=m-k+1:=O;rw[D]at a I;have Q:el ((A.drop (k+1)).reverse++y :: x :: ((A.take k).reverse++l.drop (m+2))) (m-k)=y:=by rw[<-s];exact Zv8 _ _ _
   have R:el ((A.drop (k+1)).reverse++y :: x :: ((A.take k).reverse++l.drop (m+2))) (m-k+1)=x:=by rw[<-s];exact Zv7 _ _ _ _
   have B:(((A.drop (k+1)).reverse++y :: x :: ((A.take k).reverse++l.drop (m+2))).set (m-k+1) y).set (m-k) x=(A.drop (k+1)).reverse++x :: ((A.take (k+1)).reverse++l.drop (m+2)):=by rw[<-s,Zoy,K];simp
   generalize hcc:(A.drop (k+1)).reverse++y :: x :: ((A.take k).reverse++l.drop (m+2))=c at *;obtain⟨j,hj⟩:∃j,m-k=j:=⟨_,rfl⟩;rw[hj]at Q R B F;rw[F];refine Y ?_;refine Zi (j+1) rfl rfl rfl O (Y ?_);refine Zh (OL _) rfl (a.cA O rfl) (Y ?_);refine Zi j rfl rfl O O (Y ?_);refine Zh (OL _) rfl (a.cA O rfl) (Y ?_);rw[Q,R];refine ZP (vs:=[vi x,vi y]) rfl rfl (hc H2 a.keep x W y Z) ?_;rintro v _ ⟨rfl,rfl⟩;refine OJ (λT=>?_) (λT=>?_)
   ·refine Y ?_;refine Zi j rfl rfl O O (Y ?_);refine Zh (Loud.fD _) rfl (AR.cA a O rfl) (Y ?_);refine Zi (j+1) rfl rfl O O (Y ?_);refine Zh (Loud.fD _) rfl (AR.cA a O rfl) (Y ?_);refine Zi (j+1) rfl rfl O O (Y ?_);refine Av a O (Ot _ _) rfl rfl λHW M=>?_;refine Zz Loud.fD (Y ?_);refine Zi j rfl rfl O O (Y ?_);refine Av M (by rw[qAe];omega) (Ot _ _) rfl rfl λH4 w=>?_;rw[Q,R,B]at w;refine Y ?_;refine⟨⟨k+1,O⟩,(by show m+1-(k+1)<j+1;omega),⟨w,λz g=>?_⟩,⟨rfl,rfl,rfl,rfl,rfl,?_,trivial⟩,trivial,rfl⟩
    ·rw[K]at g;rcases qAj.1 g with g | g
     ·exact J z g
     obtain rfl:=iO.1 g;omega
    show some (vi ((j+1:Nat)-1:Int))=some (vi ((m+1-(k+1):Nat):Int));congr 2;omega
   refine Y ?_;have hf:=C (.inr ⟨y,_,E,O⟩);rw[D]at hf;rw[hf]at a;exact⟨⟨m+1,O⟩,gI O,a,V,trivial,rfl⟩
  have e:A.length<=k:=O;rw[C (.inl e)]at a;refine Y ?_;exact⟨⟨m+1,O⟩,gI O,a,V,trivial,rfl⟩
 have h2:VU key (l.take (m+1))=VU key l:=by rw[qAH O]
 rw[h2,qCG O,qAl]at L;refine Y ?_;exact L
def ZoJ(k:H r=some (.cells (Zd l++rest).toArray 3 (0,0),true))(q:l.length<20)(o:Zgj P H r cv key l) :
  LL.Zb P 262 #[.slice (some ⟨r,0,none⟩) l.length cap,vi l.length,cv] H λ_ a=>AR H a r (QB key l) rest:=by
 refine aU.m (fO ZxF) rfl ?_;unfold ZjN;refine Y ?_;refine ZC 0 (λ_ a=>H=a) (λ_=>[(0,.slice (some ⟨r,0,none⟩) l.length cap),(1,vi l.length),(2,cv),(6,vi 20),(7,vi 0),(8,vi 20)]) (λ_=>[]) rfl V trivial ?_;rintro _ _ _ rfl;refine OJ (λe=>?_) (λe=>?_)
 ·exact absurd e O
 refine Y ?_;refine Zg (Zvf k O o) ?_;rintro v h i;refine Y ?_;refine ZC 0 (λ_ a=>h=a) (λ_=>[(1,vi l.length),(6,vi 20)]) (λ_=>[]) rfl V trivial ?_;rintro _ _ _ rfl;refine OJ (λg=>?_) (λg=>?_)
 ·exact absurd g O
 refine Y ?_;exact i
def ZzJ(g:H r=some (.cells (Zd l++rest).toArray 3 (0,0),true))(i:l.length<20)(h:Zgj P H r cv key l) :
  LL.Zb P 196 #[.slice (some ⟨r,0,none⟩) l.length cap,cv] H λ_ a=>AR H a r (QB key l) rest:=by
 refine aU.m (fO ZxQ) rfl ?_;unfold ZjY;refine Y ?_;refine Zg (ZoJ g i h) ?_;rintro v k e;refine Y ?_;exact e
end
structure Wk where
 (i o g d:Int)
def Wk.cells(w:Wk):List Value:=[vi w.i,vi w.o,vi w.g,vi w.d]
instance:Enc Wk:=⟨4,Wk.cells,λ_=>rfl⟩
def Wk.put(w:Wk):Nat->Int->Wk
 | 0,z=>{ w with i:=z }
 | 1,z=>{ w with o:=z }
 | 2,z=>{ w with g:=z }
 | _,z=>{ w with d:=z }
def Wk.get(w:Wk):Nat->Int
 | 0=>w.i
 | 1=>w.o
 | 2=>w.g
 | _=>w.d
def jH(l:List Wk)(p:Nat):Wk:=l.getD p ⟨0,0,0,0⟩
def QH{l:List Wk}(w:Wk)(q:Nat)(h:p<l.length):jH (l.set p w) q=if q=p then w else jH l q:=by
 unfold jH;rw[qAp,qAp,qDR];by_cases e:q=p
 ·subst e;simp[h]
 rw[iF (qAo e),iF e]
def Zei{l:List Wk}(h:p<l.length):jH l p=l[p]:=ZG h _
def Zg0(z:Int){f:Nat}(g:f<4):∀(l:List Wk) (p:Nat) (_:p<l.length),ZR (Zd l) (p * 4+f) [vi z]=Zd (l.set p ((jH l p).put f z))
 | [],p,h=>by simp at h
 | w :: l,0,h=>by
  match f,g with
  | 0,_=>simp[Zd,Enc.enc,ZR,Wk.put,Wk.cells,jH]
  | 1,_=>simp[Zd,Enc.enc,ZR,Wk.put,Wk.cells,jH]
  | 2,_=>simp[Zd,Enc.enc,ZR,Wk.put,Wk.cells,jH]
  | 3,_=>simp[Zd,Enc.enc,ZR,Wk.put,Wk.cells,jH]
 | w :: l,p+1,h=>by
  have ih:=Zg0 z g l p (by simpa using h);have e:Zd (w :: l)=Enc.enc w++Zd l:=by simp[Zd]
  rw[e,show(p+1) * 4+f=4+(p * 4+f)by omega,Ag (n:=4) (Enc.len w),ih];simp[Zd,jH]
theorem Zmv(w:Wk)(a:f<4):(Enc.enc w)[f]? = some (vi (w.get f)):=by
 match f,a with
 | 0,_=>rfl
 | 1,_=>rfl
 | 2,_=>rfl
 | 3,_=>rfl
structure WK(G H:Hp)(ro rf:Nat)(out:List Wk)(fr:List Int):Prop where
 keep:∀b x,b≠ro->b≠rf->G b=some x->H b=some x
 out:H ro=some (.cells (Zd out).toArray 140,true)
 fr:H rf=some (.cells (Zd fr++[]).toArray 3,true)
 ne:ro≠rf
def WK.inc{a H:Hp}{out:List Wk}(h:WK G H ro rf out fr)(i:fI a G)(e:a ro=none)(g:a rf=none):fI a H:=
 λb x hb=>h.keep b x (by rintro rfl;rw[e]at hb;simp at hb) (by rintro rfl;rw[g]at hb;simp at hb) (i b x hb)
def WK.ar{H:Hp}{out:List Wk}(h:WK G H ro rf out fr):AR H H rf fr []:=AR.of h.fr
def WK.iD{H e:Hp}{out:List Wk}{iD:List Int}(h:WK G H ro rf out fr)(a:AR H e rf iD []):WK G e ro rf out iD:=
 ⟨λb x i g hb=>a.keep b x g (h.keep b x i g hb),a.keep _ _ h.ne h.out,a.at_,h.ne⟩
def WK.sl{H:Hp}{out:List Wk}(h:WK G H ro rf out fr):dF H (.slice (some ⟨rf,0,none⟩) fr.length c) fr:=by have:=h.fr;rw[qAl]at this;exact⟨_,c,rfl,λ_=>⟨_,rfl,ZM this⟩⟩
def WK.cW{H:Hp}{out:List Wk}(h:WK G H ro rf out fr)(f:Nat)(g:f<4)(i:p<out.length):aM H (((⟨ro,0,none⟩:Addr).add (p * 4)).add f) [vi ((jH out p).get f)]:=by
 rw[VF,VF,qAJ];refine⟨rfl,_,_,h.out,λk q=>?_⟩;have a:k=0:=by simpa using q
 subst a;have e:=PT out p f i g;rw[Zmv _ g,<-Zei i]at e;have o:(Zd out)[p * 4+f]? = some (vi ((jH out p).get f)):=e;simpa[Obj.nC]using o
section
variable{P:fP}[Tz P][Loud P]{H:Hp}{d:Option Nat}{next:fG->Hp->Prop}{σ:fG}{x y:Operand}
def Kw{a:Addr}{ty:Nat}{out:List Wk}{z:Int}(h:WK G H ro rf out fr)(u:p<out.length)(s:f<4)(e:a=((⟨ro,0,none⟩:Addr).add (p * 4)).add f)(i:σ.get x=some (.pointer (some a)))(o:σ.get y=some (vi z))
  (t:∀g,WK G g ro rf (out.set p ((jH out p).put f z)) fr->next (σ.set d undef) g):(fR.raw (.store 3 x y) ty).m P d next σ H:=by
 subst e;rw[VF,VF,qAJ]at i;refine OH (fT t3) i o h.out rfl (by rw[Y7];show p * 4+f+1<=out.length * 4;omega) rfl (Loud.fD _) ?_;rw[show(vi z).cells.toList=[vi z]from rfl,Zg0 z s out p u];refine t _ ⟨λb x k q hb=>?_,Hp.aQ _ _ _,?_,h.ne⟩
 ·rw[Hp.aR _ _ k];exact h.keep b x k q hb
 rw[Hp.aR _ _ (qAo h.ne)];exact h.fr
end
def qZ(t:N4)(s:List Wk×List Int)(p:Int):List Wk×List Int:=
 (s.1.set p.toNat { jH s.1 p.toNat with i:=el s.2 (Zs s.2),o:=el s.2 (Zs s.2)+t.get p.toNat },s.2.set (Zs s.2) (el s.2 (Zs s.2)+t.get p.toNat))
def nV(b:Sb)(s:List Wk×List Int)(p:Int):List Wk×List Int:=
 (s.1.set p.toNat { jH s.1 p.toNat with g:=max (jH s.1 p.toNat).o (el s.2 (Zs s.2)),d:=max (jH s.1 p.toNat).o (el s.2 (Zs s.2))+(gA b p.toNat).jG },s.2.set (Zs s.2) (max (jH s.1 p.toNat).o (el s.2 (Zs s.2))+(gA b p.toNat).jG))
def BU(b:Sb):List Wk×List Int:=(List.replicate b.pk.length ⟨0,0,0,0⟩,List.replicate b.pl.toNat 0)
def uE(b:Sb)(t:N4)(l:List Int):List Wk×List Int:=l.foldl (qZ t) (BU b)
def XQ(out:List Wk)(p:Int):Int:=(jH out p.toNat).o
def Ua(b:Sb)(t:N4)(l:List Int):List Int:=QB (XQ (uE b t l).1) l
def RD(b:Sb)(out:List Wk)(l:List Int):List Wk×List Int:=l.foldl (nV b) (out,List.replicate b.hd.toNat 0)
def Vn(b:Sb)(t:N4)(l:List Int):List Wk:=(RD b (uE b t l).1 (Ua b t l)).1
structure WB(n m:Nat)(c:Int)(s:List Wk×List Int):Prop where
 l1:s.1.length=n
 l2:s.2.length=m
 fr:∀k,0<=el s.2 k/\el s.2 k<=c
 o:∀p,0<=(jH s.1 p).o/\(jH s.1 p).o<=c
def WB.zero:WB n m 0 (List.replicate n ⟨0,0,0,0⟩,List.replicate m 0):=by
 refine⟨qCb,qCb,λk=>?_,λp=>?_⟩
 ·have:el (List.replicate m (0:Int)) k=0:=by unfold el;rw[qAp,List.getElem?_replicate];split<;>rfl
  show 0<=el (List.replicate m (0:Int)) k/\el (List.replicate m (0:Int)) k<=0;omega
 have:jH (List.replicate n ⟨0,0,0,0⟩) p=⟨0,0,0,0⟩:=by unfold jH;rw[qAp,List.getElem?_replicate];split<;>rfl
 show 0<=(jH (List.replicate n ⟨0,0,0,0⟩) p).o/\_;rw[this];exact⟨by decide,by decide⟩
def WB.fl{c:Int}{s:List Wk×List Int}(h:WB n m c s)(a:1<=m):Zs s.2<s.2.length:=XJ (by intro e;have:=h.l2;rw[e]at this;simp at this;omega)
def WB.qZ{c:Int}{s:List Wk×List Int}{t:N4}(h:WB n m c s)(g:1<=m)(u:YA t){p:Int}(i:p.toNat<n)(a:p.toNat<4):WB n m (c+20) (qZ t s p):=by
 have w:=h.fr (Zs s.2);have z:=u p.toNat a;have e:=h.fl g;refine⟨(qAe).trans h.l1,(qAe).trans h.l2,λk=>?_,λq=>?_⟩
 ·have:=h.fr k;show 0<=el (s.2.set _ _) k/\el (s.2.set _ _) k<=_;rw[MK _ _ e];split<;>omega
 have:=h.o q;show 0<=(jH (s.1.set _ _) q).o/\(jH (s.1.set _ _) q).o<=_;rw[QH _ _ (by rw[h.l1];exact i)];split
 ·show 0<=el s.2 (Zs s.2)+t.get p.toNat/\el s.2 (Zs s.2)+t.get p.toNat<=_;omega
 omega
def WB.nV{c:Int}{s:List Wk×List Int}(h:WB n m c s)(e:1<=m){p:Int}(g:p.toNat<n)(u:1<=(gA b p.toNat).jG/\(gA b p.toNat).jG<=20):WB n m (c+20) (nV b s p):=by
 have i:=h.fr (Zs s.2);have t:=h.o p.toNat;have a:=h.fl e;refine⟨(qAe).trans h.l1,(qAe).trans h.l2,λk=>?_,λq=>?_⟩
 ·have:=h.fr k;show 0<=el (s.2.set _ _) k/\el (s.2.set _ _) k<=_;rw[MK _ _ a];split<;>omega
 have:=h.o q;show 0<=(jH (s.1.set _ _) q).o/\(jH (s.1.set _ _) q).o<=_;rw[QH _ _ (by rw[h.l1];exact g)];split
 ·show 0<=(jH s.1 p.toNat).o/\(jH s.1 p.toNat).o<=_;omega
 omega
theorem Om{β:Type}(f:β->α->β)(s:β){l:List α}(h:j<l.length):(l.take (j+1)).foldl f s=f ((l.take j).foldl f s) l[j]:=by rw[BY h,qCs];rfl
def Ld{b:Sb}{t:N4}(ok:gY b)(g:YA t){l:List Int}(e:∀z∈l,0<=z/\z<b.pk.length):∀j,j<=l.length->WB b.pk.length b.pl.toNat (20 * j) ((l.take j).foldl (qZ t) (BU b))
 | 0,_=>WB.zero
 | j+1,i=>by have a:j<l.length:=i;have h:=e _ (iN a);have:=ok.n;have:=ok.pl;rw[Om _ _ a,show(20 * ((j+1:Nat):Int))=20 * j+20 by omega];exact(Ld ok g e j O).qZ O g O O
def Lf{b:Sb}(ok:gY b){out:List Wk}{c:Int}(s:out.length=b.pk.length)(i:∀p,0<=(jH out p).o/\(jH out p).o<=c)(t:0<=c){l:List Int}(q:∀z∈l,0<=z/\z<b.pk.length) :
  ∀j,j<=l.length->WB b.pk.length b.hd.toNat (c+20 * j) ((l.take j).foldl (nV b) (out,List.replicate b.hd.toNat 0))
 | 0,_=>⟨s,qCb,λk=>by have:=(WB.zero (n:=0) (m:=b.hd.toNat)).fr k;have h:0<=el (List.replicate b.hd.toNat (0:Int)) k/\el (List.replicate b.hd.toNat (0:Int)) k<=0:=this;show 0<=el (List.replicate b.hd.toNat 0) k/\el (List.replicate b.hd.toNat 0) k<=_;omega,λp=>by have:=i p;show 0<=(jH out p).o/\(jH out p).o<=_;omega⟩
 | j+1,w=>by have e:j<l.length:=w;have h:=q _ (iN e);have:=ok.n;have:=ok.hd;have u:gA b l[j].toNat=b.pk[l[j].toNat]'O:=ZG _ _;have B:=ok.pk l[j].toNat O;rw[Om _ _ e,show(c+20 * ((j+1:Nat):Int))=c+20 * j+20 by omega];exact(Lf ok s i t q j O).nV O O (by rw[u];exact B.2.2.1)
