import Derived.Test.YtmfealhfgccmfaaGreatDoorTM02
set_option linter.all false
set_option maxHeartbeats 8000000
set_option maxRecDepth 20000
def vN{G:Prop}(h:G:=by refine Y ?_;exact⟨g1,b',by rw[qAt]at g2;exact g2⟩):G:=h
def F6{G:Prop}(h:G:=by
  refine OJ (λh2=>?_) (λh2=>?_)
  ·refine Y ?_;exact⟨i1,.inr ⟨hg,s,h1,rfl⟩⟩
  exact absurd h2 h1):G:=h
open Go Go.LL
namespace Go.Proofs
variable{jC n r c2 c3 cap c4:Nat}{p:List Int}{z:Int}{α:Type}{rest:List Value}{H' H1 H5:Hp}{E:TypeId}{A2 A3 A4:Option Addr}{bd:List qY}{tp:List nF}{b5:Option Nat}
def iV.cs(m:iV):List Value:=[vi m.kC,.slice m.A1 m.pc.length m.c1,.slice m.A2 m.bd.length m.c2,.slice m.A3 m.tp.length m.c3]
def lG(p:List Int):List Int:=p++List.replicate (3-p.length) 0
def mE(p:List Int):List Value:=[x7 (lG p)]
def jL(m:iV):List (Int×Int):=m.pc.map λp=>(p.lo,p.hi)
def nQ(m:iV)(i:Nat)(p:List Int):List (List Int):=iZ (λ_ _=>false) (λp=>kG m (lG p)) ((jL m).drop i) p
def jB(m:iV):List (List Int):=nQ m 0 []
def qF(b c a d:Nat):Value:=.func (.func 318) #[] #[pt b,pt a,pt d,pt c]
structure HS(G:Hp)(bc:List Value)(rb rn ra ry:Nat)(y:Value)(E1 E2 E3:TypeId):Prop where
 b:G rb=some (.cells bc.toArray E1,true)
 n:G rn=some (.cells #[qF rb rn ra ry] E2,true)
 y:G ry=some (.cells #[y] E3,true)
 d1:rb≠ra
 d2:rn≠ra
 d3:ry≠ra
structure wG(jC:Nat)(p a:List Int):Prop where
 len:a.length=3
 tk:a.take p.length=p
 dr:a.drop jC=List.replicate (3-jC) 0
 rg:∀z∈a,0<=z/\z<=40
def wG.pad{a:List Int}(h:wG jC p a)(b:p.length=jC):a=lG p:=by
 rw[lG,b,<-h.dr];conv=>lhs;rw[<-qCq jC a]
 rw[<-b,h.tk]
def wG.put{a:List Int}(h:wG jC p a)(c:p.length<jC)(g:jC<=3)(e:0<=z/\z<=40):wG jC (p++[z]) (a.set p.length z) where
 len:=by rw[qAe];exact h.len
 tk:=by have f:=h.len;rw[IN,qAW,BY (by rw[qAe];omega),List.getElem_set_self,qCY (DO _),h.tk]
 dr:=by rw[List.drop_set,qAa c];exact h.dr
 rg:=λx d=>by
  rcases qCu d with b | b
  ·exact h.rg x b
  rw[b];exact e
def wG.xR{a:List Int}(h:wG jC (p++[z]) a):wG jC p a where
 len:=h.len
 tk:=by
  have:=h.tk;rw[IN,qAW]at this;have b:=qAx (List.take p.length) this;rw[List.take_take,qBX (Nat.le_succ _),List.take_left']at b
  ·exact b
  rfl
 dr:=h.dr
 rg:=h.rg
def Gm{m:iV}{a:List Int}{i:Nat}(h:wG m.pc.length p a)(c:p.length=m.pc.length)(b:i=m.pc.length):nQ m i p=if kG m a then[p]else[]:=by subst b;rw[nQ,jL,qCG (by rw[qAd];exact DO _),iZ,<-h.pad c]
theorem Gk{m:iV}{i:Nat}(b:i<m.pc.length):nQ m i p=oJ (λv=>nQ m (i+1) (p++[v])) m.pc[i].hi (m.pc[i].hi-m.pc[i].lo+1).toNat:=by
 have c:(jL m).drop i=(m.pc[i].lo,m.pc[i].hi) :: (jL m).drop (i+1):=by rw[qCv (by rw[jL,qAd];exact b)];simp[jL]
 rw[nQ,c,iZ];rfl
section
variable{P:fP}[Tz P][Loud P]{H:Hp}
def Fp{m:iV}{y:Value}{E1 E2 E3:TypeId}{N:List (List Value)}{I:Nat->Hp->Prop}{S:Hp->Prop}(ok:oH m)(hlp:∀t∈m.tp,t.pl.length<=1000000)(hI:∀n,Up (I n))(hS:Up S)(hN:∀n H,I n H->gT H m)
  (hy:∀n (hn:n<N.length) H,I n H->Z5 P y (N[n]).toArray H (λv C=>(v=.bool true/\I (n+1) C)\/(v=.bool false/\S C))) (A X e Z:Nat) {G:Hp} (M:HS G m.cs A X e Z y E1 E2 E3) :
  ∀(r:Nat) (p a:List Int) (rest:List (List Value)) (H:Hp),r<=m.pc.length->p.length=m.pc.length-r->wG m.pc.length p a->JG (G.ins e (.cells (nD a).toArray 210)) (kB N I ((nQ m (m.pc.length-r) p).map mE++rest)) H ->
   LL.Zb P 318 #[vi (m.pc.length-r:Nat),pt A,pt e,pt Z,pt X] H λv C=>∃L,wG m.pc.length p L/\((v=vb true/\JG (G.ins e (.cells (nD L).toArray 210)) (kB N I rest) C)\/(v=vb false/\JG (G.ins e (.cells (nD L).toArray 210)) S C)):=by
 have J:∀{a rest H},JG (G.ins e (.cells (nD a).toArray 210)) (kB N I rest) H->gT H m:=λg=>by obtain⟨p,_,_,h⟩:=g.up (BL hI);exact hN p _ h
 have gb:∀{a},(G.ins e (.cells (nD a).toArray 210)) A=some (.cells m.cs.toArray E1,true):=by intro a;rw[Hp.aR _ _ M.d1];exact M.b
 have gn:∀{a},(G.ins e (.cells (nD a).toArray 210)) X=some (.cells #[qF A X e Z] E2,true):=by intro a;rw[Hp.aR _ _ M.d2];exact M.n
 have gy:∀{a},(G.ins e (.cells (nD a).toArray 210)) Z=some (.cells #[y] E3,true):=by intro a;rw[Hp.aR _ _ M.d3];exact M.y
 have hn3:=ok.n1
 intro r
 induction r with
 | zero=>
  intro p a rest H hr hp s g;rw[Gm s O O]at g;refine aU.m (fO IB) rfl ?_;unfold y9;have bk:=J g;have Q:aM H ⟨A,0,none⟩ m.cs:=ZM (g.inc _ _ gb);have ca:aM H ⟨e,0,none⟩ (nD a):=ZM (g.inc _ _ (Hp.aQ _ _ _));have D:(nD a).length=3:=by rw[nD,qAd];exact s.len
  refine Y ?_;refine Zh (OL _) rfl (UG (j:=1) Q rfl) ?_;refine OJ (λR=>?_) (λR=>?_);rotate_left
  ·exact absurd O R
  refine Y ?_;refine YL Q (Y ?_);refine Zn (OL _) rfl ca D (Y ?_);refine Zg (vs:=[m.v,x7 a]) (Fv bk ok s.len s.rg hlp) ?_;rintro v H1 ⟨s1,rfl⟩;have q:=g.sub s1;cases hmr:kG m a with
  | false=>
   rw[hmr,iF (by simp)]at q;refine Y ?_;exact⟨a,s,.inl ⟨rfl,q⟩⟩
  | true=>
   rw[hmr,qAa rfl,qDK,qDy,mE,<-s.pad O]at q;refine Y ?_;refine Zh (OL _) rfl (ZM (q.inc _ _ gy)) (Y ?_);refine Zn (OL _) rfl (ca.inc s1.inc) D (Y ?_);refine ZP (vs:=[x7 a]) rfl rfl (JG.call (λH h=>kB.call (S:=S) hy h) q) ?_;rintro v H7 ⟨Hc,F,rfl,q1,q2,(⟨rfl,q3⟩ | ⟨rfl,q3⟩)⟩
   ·refine Y ?_;exact⟨a,s,.inl ⟨rfl,Hc,F,rfl,q1,q2,q3⟩⟩
   refine Y ?_;exact⟨a,s,.inr ⟨rfl,Hc,F,rfl,q1,q2,q3⟩⟩
 | succ r ih=>
  intro p a rest H hr hp s g;have w:m.pc.length-(r+1)<m.pc.length:=O;have KY:((m.pc.length-(r+1):Nat):Int)+1=(m.pc.length-r:Nat):=O;have SJ:m.pc.length-(r+1)+1=m.pc.length-r:=O;rw[Gk w,SJ]at g;generalize m.pc.length-(r+1)=i at *;have W:=ok.pc i w;have hrg:=W.rg;have hwd:=W.wd;have B:Enc.enc m.pc[i]=[.string m.pc[i].nm,vi m.pc[i].lo,vi m.pc[i].hi,vi m.pc[i].br]:=rfl;refine aU.m (fO IB) rfl ?_;unfold y9;have bk:=J g;have Q:aM H ⟨A,0,none⟩ m.cs:=ZM (g.inc _ _ gb);refine Y ?_;refine Zh (OL _) rfl (UG (j:=1) Q rfl) ?_;refine OJ (λR=>?_) (λR=>?_)
  ·exact absurd R O
  refine Y ?_;refine Zh (OL _) rfl (UG (j:=1) Q rfl) (Y ?_);refine ZB i bk.pc w λb hb=>?_;rw[B]at hb;refine Y ?_;refine Zh (v:=vi m.pc[i].lo) (OL _) rfl (UG (j:=1) hb rfl) (Y ?_);generalize rA:(m.pc[i].hi-m.pc[i].lo+1).toNat=f at g;refine Yp (α:=List Int) f (λk L C=>wG m.pc.length p L/\JG (G.ins e (.cells (nD L).toArray 210)) (kB N I ((oJ (λv=>nQ m (m.pc.length-r) (p++[v])) m.pc[i].hi (f-k)).map mE++rest)) C)
   (λk _=>[(0,vi i),(1,pt A),(2,pt e),(3,pt Z),(4,pt X),(7,vi (m.pc[i].lo+k))]) (λ_ _=>[]) a ⟨s,g⟩ ⟨rfl,rfl,rfl,rfl,rfl,by simp[fG.set],trivial⟩ trivial ?_
  rintro k a3 H3 hk ⟨u,l⟩;have bk3:=J l;have cb3:aM H3 ⟨A,0,none⟩ m.cs:=ZM (l.inc _ _ gb);refine Y ?_;refine Zh (OL _) rfl (UG (j:=1) cb3 rfl) (Y ?_);refine ZB i bk3.pc w λb hb=>?_;rw[B]at hb;refine Y ?_;refine Zh (v:=vi m.pc[i].hi) (OL _) rfl (UG (j:=2) hb rfl) ?_;refine OJ (λh2=>?_) (λh2=>?_)
  ·have T:wG m.pc.length (p++[m.pc[i].lo+k]) (a3.set p.length (m.pc[i].lo+k)):=u.put O hn3.2 ⟨O,O⟩;have KP:p.length=i:=O;rw[KP]at T;refine Y ?_;refine W7 (fU rH) (fT t3) rfl rfl (i:=i) O ?_;rw[VF e 0 (i * 1)];refine Y ?_;have D:(nD a3).length=3:=by rw[nD,qAd];exact u.len
   refine OH (b:=e) (off:=0+i * 1) (cs:=nD a3) (fT t3) rfl rfl (l.inc _ _ (Hp.aQ _ _ _)) rfl O rfl (OL _) ?_;have e5:ZR (nD a3) (0+i * 1) (Value.cells (vi (m.pc[i].lo+k))).toList=nD (a3.set i (m.pc[i].lo+k)):=by rw[qAJ,qCo];exact HV _ _ (by have:=u.len;omega)
   rw[e5];have x:=l.put (.cells (nD (a3.set i (m.pc[i].lo+k))).toArray 210) (Hp.aQ _ _ _);rw[Uy]at x;have e6:f-k=(f-(k+1))+1:=O;have e7:m.pc[i].hi-((f-(k+1):Nat):Int)=m.pc[i].lo+k:=O;rw[e6,oJ,qBt,qAE,e7]at x;refine Y ?_;refine Zh (OL _) rfl (ZM (x.inc _ _ gn)) (Y ?_);rw[KY];refine ZP (vs:=[vi (m.pc.length-r:Nat)]) rfl rfl (Yv U (ih (p++[m.pc[i].lo+k]) _ _ _ O (by rw[IN,qAW];omega) T x)) ?_;rintro v H5 ⟨a5,V,⟨rfl,K⟩ | ⟨rfl,K⟩⟩
   ·refine Y ?_;refine⟨(⟨k+1,O⟩,a5),gI O,⟨V.xR,K⟩,⟨rfl,rfl,rfl,rfl,rfl,?_,trivial⟩,trivial,rfl⟩;show some (vi (m.pc[i].lo+k+1))=some (vi (m.pc[i].lo+(k+1:Nat)));congr 2;omega
   refine Y ?_;exact⟨a5,V.xR,.inr ⟨rfl,K⟩⟩
  have e6:f-k=0:=O;rw[e6,oJ,qBM,qAt]at l;refine Y ?_;exact⟨a3,u,.inl ⟨rfl,l⟩⟩
end
structure Ar(n:Nat) where
 l:List Int
 h:l.length=n
instance (n:Nat):Enc (Ar n):=⟨n,λx=>nD x.l,λx=>by rw[nD,qAd];exact x.h⟩
def zA(p:List Int):Ar 3:=⟨(p++List.replicate 3 0).take 3,by simp⟩
def Gd(h:p.length<=3):(zA p).l=lG p:=by show(p++List.replicate 3 0).take 3=_;rw[List.take_append,qAH h,List.take_replicate,qBX O,lG]
def gJ(m:iV):List (Ar 3):=(jB m).map zA
def Gh{m:iV}(ok:oH m)(h:p∈jB m):p.length=m.pc.length:=by have:=EY _ _ p h;simpa[jL]using this
def JN{m:iV}(ok:oH m):(jB m).length<=27:=by have h:=EZ (vX:=λ_ _=>false) (ok:=λp=>kG m (lG p)) (jL m) [] (λb hb=>by obtain⟨x,c,rfl⟩:=qAy.1 hb;obtain⟨i,a,rfl⟩:=qAz.1 c;exact(ok.pc i a).wd);have d:3 ^ (jL m).length<=3 ^ 3:=qAR O (by rw[jL,qAd];exact ok.n1.2);have e:jB m=iZ (λ_ _=>false) (λp=>kG m (lG p)) (jL m) []:=rfl;rw[e];omega
def Bg(h:jC<=3):wG jC [] [0,0,0] where
 len:=rfl
 tk:=rfl
 dr:=by
  match jC,h with
  | 0,_=>rfl
  | 1,_=>rfl
  | 2,_=>rfl
  | 3,_=>rfl
 rg:=λz a=>by simp at a;omega
def Gc(n:Nat)(x:Ar n):((Zd [x]).all Value.gM)=true:=by show((nD x.l++[]).all Value.gM)=true;rw[qAl];exact Bf _
theorem Gi{m:iV}(ok:oH m)(b:n<((jB m).map mE).length):((jB m).map mE)[n]=[x7 ((gJ m)[n]'(by rw[gJ,qAd];simpa using b)).l]:=by
 rw[qBn];have a:n<(jB m).length:=by simpa using b
 have e:(gJ m)[n]'(by rw[gJ,qAd];exact a)=zA (jB m)[n]:=by simp[gJ]
 rw[e,Gd (by rw[Gh ok (iN a)];exact ok.n1.2)];rfl
def FB:Yw Tryz.prog 157=some (1,some .nilFunc,8):=U
def BN:Tryz.prog.underlying 203=some (.slice 210):=U
def CK:Yw Tryz.prog 203=some (1,some (.slice none 0 0),24):=U
section
variable{P:fP}[Tz P][Loud P]{H:Hp}
def tK{m:iV}(ok:oH m)(J:∀t∈m.tp,t.pl.length<=1000000):yW P (.func (.func 253) #[m.v] #[]) (λH=>gT H m) ((jB m).map mE):=by
 rintro y I S H ⟨yf,ya,yb,O⟩ W X hN hy q;have N:y.cells=#[y]:=by rw[O];rfl
 have K:=ok.n1;refine Yv U ?_;refine aU.m (fO Br) rfl ?_;unfold EO iV.v;generalize M:(jB m).map mE=xs at *;have A:JG .nil (kB xs I ((jB m).map mE++[])) H:=⟨H,.nil,(Hp.hZ H).symm,Hp.iJ H,λb x h=>by simp[Hp.nil]at h,by rw[qAl,M];exact .start q⟩;refine Y ?_;refine Ug rfl (OL _) λk L=>?_;have B:=A.new (.cells m.v.cells 202) L;refine Y ?_;refine Ug rfl (OL _) λl o=>?_;have C:=B.new (.cells y.cells 422) o;refine Y ?_;refine VY (fT sX) (OL _) λc f=>?_;have D:=C.new (.cells (Value.agg #[vi 0,vi 0,vi 0]).cells 210) f;refine Y ?_;refine VY (fT FB) (OL _) λi a=>?_;have F:=D.new (.cells (Value.nilFunc).cells 157) a;have s:l≠k:=by rintro rfl;rw[Hp.aQ]at o;simp at o
 have Q:c≠l:=by rintro rfl;rw[Hp.aQ]at f;simp at f
 have R:c≠k:=by rintro rfl;rw[Hp.aR _ _ (qAo s),Hp.aQ]at f;simp at f
 have T:i≠c:=by rintro rfl;rw[Hp.aQ]at a;simp at a
 have n5:i≠l:=by rintro rfl;rw[Hp.aR _ _ (qAo Q),Hp.aQ]at a;simp at a
 have n6:i≠k:=by rintro rfl;rw[Hp.aR _ _ (qAo R),Hp.aR _ _ (qAo s),Hp.aQ]at a;simp at a
 refine Y ?_;refine VW rfl rfl (Y ?_);refine VV (v:=qF k i c l) (fT FB) rfl rfl (Hp.aQ _ _ _) rfl rfl (OL _) ?_;have j:=F.put (.cells #[qF k i c l] 157) (Hp.aQ _ _ _);generalize V:(((((Hp.nil.ins k (.cells m.v.cells 202)).ins l (.cells y.cells 422)).ins c (.cells (Value.agg #[vi 0,vi 0,vi 0]).cells 210)).ins i (.cells (Value.nilFunc).cells 157)).ins i (.cells #[qF k i c l] 157))=G at j;have Z:HS G m.cs k i c l y 202 157 422:=by
  subst V;refine⟨?_,Hp.aQ _ _ _,?_,qAo R,T,qAo Q⟩
  ·rw[Hp.aR _ _ (qAo n6),Hp.aR _ _ (qAo n6),Hp.aR _ _ (qAo R),Hp.aR _ _ (qAo s)];exact Hp.aQ _ _ _
  rw[Hp.aR _ _ (qAo n5),Hp.aR _ _ (qAo n5),Hp.aR _ _ (qAo Q),<-N];exact Hp.aQ _ _ _
 have u:G c=some (.cells (nD [0,0,0]).toArray 210,true):=by subst V;rw[Hp.aR _ _ (qAo T),Hp.aR _ _ (qAo T)];exact Hp.aQ _ _ _
 have w:G=G.ins c (.cells (nD [0,0,0]).toArray 210):=Hp.ext' (λb=>by
  by_cases e:b=c
  ·subst e;rw[Hp.aQ];exact u
  rw[Hp.aR _ _ e]) rfl
 refine Y ?_;refine Zh (OL _) rfl (ZM (j.inc _ _ Z.n)) (Y ?_);rw[w]at j;have d:=Fp ok J W X hN hy k i c l Z m.pc.length [] [0,0,0] [] _ (DO _) (by simp) (Bg K.2) (by rw[qCf];exact j);rw[qCf]at d;refine ZP rfl rfl (Yv U d) ?_;rintro v H7 ⟨a',_,⟨rfl,h7⟩ | ⟨rfl,h7⟩⟩
 ·refine Y ?_;exact .inl (h7.up (BL W)).stop
 refine Y ?_;exact .inr (h7.up X)
def Fe{m:iV}(hm:gT H m)(ok:oH m)(U:∀t∈m.tp,t.pl.length<=1000000):LL.Zb P 179 #[m.v] H λv j=>fI H j/\∃s,gL H j 210 v (gJ m) s:=by
 have pD:(gJ m).length<=27:=by rw[gJ,qAd];exact JN ok
 have W:(gJ m).length=(jB m).length:=by rw[gJ,qAd]
 refine aU.m (fO Cz) rfl ?_;unfold JH iV.v;refine Y ?_;refine Ug rfl (OL _) λr1 V=>?_;have i1:=Zt (o:=.cells m.v.cells 202) V;have b1:aM (H.ins r1 (.cells m.v.cells 202)) ⟨r1,0,none⟩ m.cs:=VR;have e1:(Value.agg #[vi m.kC,.slice m.A1 m.pc.length m.c1,.slice m.A2 m.bd.length m.c2,.slice m.A3 m.tp.length m.c3]).cells=m.v.cells:=rfl;rw[e1];generalize H.ins r1 (.cells m.v.cells 202)=H1 at *;refine Y ?_;refine VY (fT CK) (OL _) λD y=>?_;have h0:H D=none:=YP i1 y;refine Y ?_;refine Zn (OL _) rfl (b1.inc (Zt y)) rfl (Y ?_);refine VW rfl rfl (Y ?_);refine L9 OL rfl (tK ok U) (λx hx=>by obtain⟨k,_,rfl⟩:=qAy.1 hx;rfl)
  (λn j=>fI H j/\∃v s,j D=some (.cells #[v] 203,true)/\gL H j 210 v ((gJ m).take n) s/\s≠some D) (λe j=>False) ⟨i1.trans (Zt y),_,none,Hp.aQ _ _ _,.nil _ _ _,by simp⟩
  (λn j J T ⟨F,v,s,G,C,I⟩=>⟨F.trans (Um _ _),v,s,Hp.eN G,C.inc (Um _ _),I⟩) (λe j J T h=>h) (λn j h=>hm.inc h.1) ?_ ?_ ?_
 ·rintro n hn N ⟨F,v,s,G,C,I⟩;rw[Gi ok hn];rw[qAd]at hn;have B:(gJ m).take (n+1)=(gJ m).take n++[(gJ m)[n]'O]:=by rw[BY O]
  generalize(gJ m)[n]'O=x at *;obtain⟨l,Q⟩:=x;obtain⟨d,f,g,rfl⟩:∃a b c,l=[a,b,c]:=by
   match l,Q with
   | [a,b,c],_=>exact⟨a,b,c,rfl⟩
  have ex:(⟨[d,f,g],Q⟩:Ar 3).l=[d,f,g]:=rfl;rw[ex];refine Y ?_;refine VY (fT sX) (OL _) λr5 A=>Y ?_;refine yU (v:=x7 [d,f,g]) (fT sX) (cs:=[vi 0,vi 0,vi 0]) rfl rfl (Hp.aQ _ _ _) rfl rfl rfl (OL _) ?_;rw[Uy];have R:=F.trans (Zt (o:=.cells (x7 [d,f,g]).cells 210) A);have w:=Zt (o:=.cells (x7 [d,f,g]).cells 210) A _ _ G;have S:=C.ins (o:=.cells (x7 [d,f,g]).cells 210) A;have c5:aM (N.ins r5 (.cells (x7 [d,f,g]).cells 210)) ⟨r5,0,none⟩ [vi d,vi f,vi g]:=VR;generalize N.ins r5 (.cells (x7 [d,f,g]).cells 210)=H4 at *;refine Y ?_;refine Zh (OL _) rfl (ZM (cs:=[v]) w) (Y ?_);refine YL c5 (Y ?_);refine Z4 (cs:=[vi d,vi f,vi g]) (OL _) rfl λr6 u=>Y ?_;refine VX (l':=[(⟨[d,f,g],Q⟩:Ar 3)]) (fU BN) (fU BN) (fT sX) rfl (by decide) (R.trans (Zt u)) (S.ins u) (Z3 (l:=[(⟨[d,f,g],Q⟩:Ar 3)])) (Gc 3 _) (by simp;omega) O rfl rfl (OL _) λM H6 b' k1 Z k3=>?_;have g6:H6 D=some (.cells #[v] 203,true):=k3.keep D _ (Zt u _ _ w) (λe=>I e);have L:M.cells=#[M]/\Value.gM M=true:=by obtain⟨_,⟨e,_⟩ | ⟨_,_,_,_,e,_⟩⟩:=Z.own<;>(subst e;exact⟨rfl,rfl⟩)
  have K:b'≠some D:=by
   rcases k3.new with rfl | ⟨q,rfl,hq⟩
   ·exact I
   rintro e;obtain rfl:=aT e;rw[Zt u _ _ w]at hq;simp at hq
  refine Y ?_;refine VV (v:=M) (fT CK) rfl rfl g6 L.1 L.2 (OL _) (Y ?_);refine⟨qC k1 h0,M,b',Hp.aQ _ _ _,?_,K⟩;rw[B];refine⟨Z.own.sub λc z e T=>?_,Z.fresh⟩;rw[Hp.aR _ _ (by rintro rfl;exact K e)];exact T
 ·rintro N ⟨F,v,s,G,C,I⟩;rw[qAd,<-W,qAh]at C;refine Y ?_;refine Zh (OL _) rfl (ZM (cs:=[v]) G) (Y ?_);exact⟨F,s,C⟩
 rintro e N he h;exact h.elim
end
def mNo:Value:=.agg #[vi 0,.slice none 0 0,.slice none 0 0,.slice none 0 0,.slice none 0 0]
def y6(m:iV)(w:Value):Value:=.agg #[vi m.kC,.slice m.A1 m.pc.length m.c1,.slice m.A2 m.bd.length m.c2,.slice m.A3 m.tp.length m.c3,w]
def mJ(m:iV):Prop:=oH m/\jB m≠[]
def iH(x:Ar 3):Int:=x.l.getD 0 0+x.l.getD 1 0+x.l.getD 2 0
section
variable{P:fP}[Tz P][Loud P]{H:Hp}
def Fq{m:iV}:LL.Zb P 109 #[m.v] H λv a=>H=a/\v=vi 0:=by refine aU.m (fO Bj) rfl ?_;unfold IT;refine Y ?_;exact⟨rfl,rfl⟩
theorem JR{m:iV}(o:gT H m)(pre:nE m)(a:∀t∈m.tp,t.pl.length<=1000000)(h:m.tp.length<=1000000) :
  LL.Zb P 108 #[m.v,vf 109] H λv k=>fI H k/\((mJ m/\∃A c,v=.tuple #[y6 m (.slice A (gJ m).length c),vi 0]/\dF k (.slice A (gJ m).length c) (gJ m))\/(¬ mJ m/\∃s,s≠0/\v=.tuple #[mNo,vi s])):=by
 refine aU.m (fO Dn) rfl ?_;unfold EM iV.v;refine Y ?_;refine Zg (vs:=[m.v]) (JO o pre a h) ?_;rintro v H1 ⟨d,s,rfl,b⟩;refine OJ (λf=>?_) (λf=>?_)
 ·refine Y ?_;exact⟨d,.inr ⟨λg=>f (b.2 g.1),s,f,rfl⟩⟩
 have ok:=b.1 O;refine Y ?_;refine ZP (vs:=[m.v]) rfl rfl (Yv U Fq) ?_;rintro v _ ⟨rfl,rfl⟩;refine Y ?_;refine Zg (vs:=[m.v]) (Fe (o.inc d) ok a) ?_;rintro v w ⟨q,x,u⟩;have j:=u.sl;obtain⟨A,c,rfl,_⟩:=id j;have i:(gJ m).length=(jB m).length:=by rw[gJ,qAd]
 refine OJ (λl=>?_) (λl=>?_)
 ·refine Y ?_;exact⟨d.trans q,.inr ⟨λg=>g.2 (qBj.1 O),9,by decide,rfl⟩⟩
 refine Y ?_;exact⟨d.trans q,.inl ⟨⟨ok,λe=>l (by rw[i,e];rfl)⟩,A,c,rfl,j⟩⟩
def iA(l:List Int):Int×Int:=match l with
 | []=>(0,0)
 | a :: r=>(jY a r,kD a r)
theorem wD{l:List Int}(h:l≠[]):iA (l++[z])=(min (iA l).1 z,max (iA l).2 z):=by
 cases l with
 | nil=>exact absurd rfl h
 | cons a r=>rw[qBa,iA,E9,E8];rfl
def JP{m:iV}(hm:gT H m)(pre:nE m)(K:∀t∈m.tp,t.pl.length<=1000000)(I:m.tp.length<=1000000) :
  LL.Zb P 34 #[m.v] H λv w=>fI H w/\((mJ m/\v=.tuple #[.agg #[vi (iA ((gJ m).map iH)).1,vi (iA ((gJ m).map iH)).2],vi 0])\/(¬ mJ m/\∃s,s≠0/\v=.tuple #[.agg #[vi 0,vi 0],vi s])):=by
 refine aU.m (fO Dh) rfl ?_;unfold IL iV.v;refine Y ?_;refine Zg (vs:=[m.v,vf 109]) (JR hm pre K I) ?_;rintro v H1 ⟨i1,⟨hg,A,c,rfl,sl⟩ | ⟨hg,s,h1,rfl⟩⟩;rotate_left
 ·exact F6
 have T:(gJ m).length<=27:=by rw[gJ,qAd];exact JN hg.1
 have L:∀x∈gJ m,∀z∈x.l,0<=z/\z<=40:=λx M z Q=>by
  obtain⟨p,hp,rfl⟩:=qAy.1 M;have G:=EX (a:=0) (c:=40) (jL m) [] (λb hb=>by obtain⟨y,N,rfl⟩:=qAy.1 hb;obtain⟨i,F,rfl⟩:=qAz.1 N;have:=(hg.1.pc i F).rg;exact⟨by show 0<=m.pc[i].lo;omega,this.2.2⟩) (λy N=>by simp at N) p hp;have Q:z∈(p++List.replicate 3 0).take 3:=Q;rcases qAj.1 (qDC Q)with h | h
  ·exact G z h
  rw[(List.mem_replicate.1 h).2];decide
 unfold y6;refine Y ?_;refine ZC (gJ m).length (λj w=>H1=w) (λj=>[(1,vi 0),(2,vi 0),(3,vi 0),(4,vi 0),(5,vi 0),(6,vi 0),(22,.slice A (gJ m).length c),(23,vi (gJ m).length),(24,vi j)])
  (λj=>[(2,[vi 0,vi 0]),(6,[vi (iA (((gJ m).map iH).take j)).1,vi (iA (((gJ m).map iH).take j)).2])]) rfl V V ?_
 rintro j _ hj rfl;refine OJ (λX=>?_) (λX=>?_)
 ·have q:j<(gJ m).length:=O;have M:=iN q;have o:((gJ m).map iH).take (j+1)=((gJ m).map iH).take j++[iH (gJ m)[j]]:=by rw[BY (by rw[qAd];exact q),qBn]
  have u:=L _ M;refine Y ?_;refine ZB j sl q λa ha=>?_;generalize(gJ m)[j]=x at *;obtain⟨l,S⟩:=x;obtain⟨d,f,g,rfl⟩:∃a b c,l=[a,b,c]:=by
   match l,S with
   | [a,b,c],_=>exact⟨a,b,c,rfl⟩
  have r1:=u d (by simp);have r2:=u f (by simp);have r3:=u g (by simp);have es:iH ⟨[d,f,g],S⟩=d+f+g:=rfl;rw[es]at o;refine Y ?_;refine YL (cs:=[vi d,vi f,vi g]) ha (Y ?_);refine ZC 3 (λk w=>H1=w) (λk=>[(1,vi 0),(2,vi 0),(3,vi 0),(4,vi 0),(5,vi 0),(6,vi 0),(7,vi j),(8,vi 0),(9,vi (([d,f,g].take k).sum)),(22,.slice A (gJ m).length c),(23,vi (gJ m).length),(24,vi j),(29,.agg #[vi d,vi f,vi g]),(30,vi k)])
   (λk=>[(2,[vi 0,vi 0]),(6,[vi (iA (((gJ m).map iH).take j)).1,vi (iA (((gJ m).map iH).take j)).2]),(8,[vi d,vi f,vi g])]) rfl V V ?_
  rintro k _ hk rfl;refine OJ (λZ=>?_) (λZ=>?_)
  ·have J:k=0\/k=1\/k=2:=O;rcases J with rfl | rfl | rfl
   ·refine Y ?_;refine uH (v:=vi d) (fU rH) (fT t3) (rD a3) rfl rfl (i:=0) O rfl ?_;have B:([d,f,g].take 0).sum=0:=rfl;have C:([d,f,g].take (0+1)).sum=0+d:=by simp
    rw[B];refine Y ?_;exact⟨⟨1,O⟩,(by show 3-1<3-0;omega),rfl,⟨rfl,rfl,rfl,rfl,rfl,rfl,rfl,rfl,by rw[C];rfl,rfl,rfl,rfl,rfl,rfl,trivial⟩,V,rfl⟩
   ·refine Y ?_;refine uH (v:=vi f) (fU rH) (fT t3) (rD a3) rfl rfl (i:=1) O rfl ?_;have B:([d,f,g].take 1).sum=d:=by simp
    have C:([d,f,g].take (1+1)).sum=d+f:=by simp
    rw[B];refine Y ?_;exact⟨⟨2,O⟩,(by show 3-2<3-1;omega),rfl,⟨rfl,rfl,rfl,rfl,rfl,rfl,rfl,rfl,by rw[C];rfl,rfl,rfl,rfl,rfl,rfl,trivial⟩,V,rfl⟩
   refine Y ?_;refine uH (v:=vi g) (fU rH) (fT t3) (rD a3) rfl rfl (i:=2) O rfl ?_;have B:([d,f,g].take 2).sum=d+f:=by simp
   have C:([d,f,g].take (2+1)).sum=d+f+g:=by simp;omega
   rw[B];refine Y ?_;exact⟨⟨3,O⟩,(by show 3-3<3-2;omega),rfl,⟨rfl,rfl,rfl,rfl,rfl,rfl,rfl,rfl,by rw[C];rfl,rfl,rfl,rfl,rfl,rfl,trivial⟩,V,rfl⟩
  have:k=3:=O;subst this;have W:([d,f,g].take 3).sum=d+f+g:=by simp;omega
  rw[W];generalize d+f+g=z at *;have U:∀{R F:Int},R=(iA (((gJ m).map iH).take (j+1))).1->F=(iA (((gJ m).map iH).take (j+1))).2->[vi R,vi F]=[vi (iA (((gJ m).map iH).take (j+1))).1,vi (iA (((gJ m).map iH).take (j+1))).2]:=λh1 h2=>by rw[h1,h2]
  refine OJ (λh5=>?_) (λh5=>?_)
  ·have G:j=0:=O;subst G;refine Y ?_;refine EH rfl rfl (Y ?_);refine yG rfl rfl (Y ?_);refine⟨⟨0+1,O⟩,gI O,rfl,V,⟨rfl,?_,trivial⟩,rfl⟩;refine qAx some (U ?_ ?_)
   ·rw[o];simp[iA,jY]
   rw[o];simp[iA,kD]
  have D:((gJ m).map iH).take j≠[]:=by intro e;have:=qAx List.length e;rw[qAs,qAd]at this;have h6:min j (gJ m).length=0:=this;omega
  refine Y ?_;refine EH rfl rfl (Y ?_);refine yG rfl rfl (Y ?_);refine⟨⟨j+1,O⟩,gI O,rfl,V,⟨rfl,?_,trivial⟩,rfl⟩;refine qAx some (U ?_ ?_)
  ·rw[o,wD D]
  rw[o,wD D]
 have:j=(gJ m).length:=O;subst this;rw[show((gJ m).map iH).take (gJ m).length=(gJ m).map iH from qAH (by rw[qAd];exact DO _)];refine Y ?_;exact⟨i1,.inl ⟨hg,rfl⟩⟩
end
def mV:Tryz.prog.underlying 69=some (.slice 73):=U
def pH:Yw Tryz.prog 73=some (3,some (.agg #[.slice none 0 0,vi 0,vi 0]),40):=U
def sY:Tryz.prog.underlying 52=some (.slice 31):=U
section
variable{P:fP}[Tz P][Loud P]{H:Hp}
def Wft{v:Value}{l:List wF}(w:dF H v l)(g:l.length<=1000000):LL.Zb P 250 #[v] H λo h=>H.Sub h/\∃b,gL H h 191 o l b:=by
 have d:P.still H.gh=false:=Loud.fD _;obtain⟨A,c,rfl,k⟩:=w;refine aU.m (fO Bo) rfl ?_;unfold IX;refine Y ?_;refine yV (fU QX) rfl ?_;refine OJ (λj=>?_) (λj=>?_)
 ·refine Y ?_;have:l=[]:=qAb λg=>by obtain⟨a,rfl,_⟩:=k g;simp at j
  subst this;exact⟨.refl H,none,.nil H _ 191⟩
 refine Y ?_;refine rT (fU QX) (fT rG) d λr i=>Y ?_;have f:P.still (H.ins r (.cells #[] 191)).gh=false:=d;refine uG (l:=([]:List wF)) (l':=l) (fU QX) (fU QX) (fT rG) rfl (by decide) (YB i) (H0:=H) (b:=some r) ⟨wA,λq e=>by obtain rfl:=aT e;exact i⟩ ⟨A,c,rfl,λg=>by obtain⟨a,s,t⟩:=k g;exact⟨a,s,t.sub (YB i)⟩⟩ (sU (λ_=>rfl) l) (by simp;omega) O rfl rfl f λo h b' g1 g2 y=>?_;exact vN
def Wfu{v:Value}{l:List qY}(w:dF H v l)(g:l.length<=1000000):LL.Zb P 251 #[v] H λo h=>H.Sub h/\∃b,gL H h 197 o l b:=by
 have d:P.still H.gh=false:=Loud.fD _;obtain⟨A,c,rfl,k⟩:=w;refine aU.m (fO Bq) rfl ?_;unfold EN;refine Y ?_;refine yV (fU NL) rfl ?_;refine OJ (λj=>?_) (λj=>?_)
 ·refine Y ?_;have:l=[]:=qAb λg=>by obtain⟨a,rfl,_⟩:=k g;simp at j
  subst this;exact⟨.refl H,none,.nil H _ 197⟩
 refine Y ?_;refine rT (fU NL) (fT tB) d λr i=>Y ?_;have f:P.still (H.ins r (.cells #[] 197)).gh=false:=d;refine uG (l:=([]:List qY)) (l':=l) (fU NL) (fU NL) (fT tB) rfl (by decide) (YB i) (H0:=H) (b:=some r) ⟨wA,λq e=>by obtain rfl:=aT e;exact i⟩ ⟨A,c,rfl,λg=>by obtain⟨a,s,t⟩:=k g;exact⟨a,s,t.sub (YB i)⟩⟩ (sU (λ_=>rfl) l) (by simp;omega) O rfl rfl f λo h b' g1 g2 y=>?_;exact vN
def HQ{v:Value}{l:List nF}(w:dF H v l)(g:l.length<=1000000):LL.Zb P 101 #[v] H λo h=>H.Sub h/\∃b,gL H h 73 o l b:=by
 have d:P.still H.gh=false:=Loud.fD _;obtain⟨A,c,rfl,k⟩:=w;refine aU.m (fO Dk) rfl ?_;unfold IQ;refine Y ?_;refine yV (fU mV) rfl ?_;refine OJ (λj=>?_) (λj=>?_)
 ·refine Y ?_;have:l=[]:=qAb λg=>by obtain⟨a,rfl,_⟩:=k g;simp at j
  subst this;exact⟨.refl H,none,.nil H _ 73⟩
 refine Y ?_;refine rT (fU mV) (fT pH) d λr i=>Y ?_;have f:P.still (H.ins r (.cells #[] 73)).gh=false:=d;refine uG (l:=([]:List nF)) (l':=l) (fU mV) (fU mV) (fT pH) rfl (by decide) (YB i) (H0:=H) (b:=some r) ⟨wA,λq e=>by obtain rfl:=aT e;exact i⟩ ⟨A,c,rfl,λg=>by obtain⟨a,s,t⟩:=k g;exact⟨a,s,t.sub (YB i)⟩⟩ (sU (λ_=>rfl) l) (by simp;omega) O rfl rfl f λo h b' g1 g2 y=>?_;exact vN
def Wfs{v:Value}{l:List NK}(w:dF H v l)(g:l.length<=1000000):LL.Zb P 92 #[v] H λo h=>H.Sub h/\∃b,gL H h 31 o l b:=by
 have d:P.still H.gh=false:=Loud.fD _;obtain⟨A,c,rfl,k⟩:=w;refine aU.m (fO Di) rfl ?_;unfold IM;refine Y ?_;refine yV (fU sY) rfl ?_;refine OJ (λj=>?_) (λj=>?_)
 ·refine Y ?_;have:l=[]:=qAb λg=>by obtain⟨a,rfl,_⟩:=k g;simp at j
  subst this;exact⟨.refl H,none,.nil H _ 31⟩
 refine Y ?_;refine rT (fU sY) (fT Po) d λr i=>Y ?_;have f:P.still (H.ins r (.cells #[] 31)).gh=false:=d;refine uG (l:=([]:List NK)) (l':=l) (fU sY) (fU sY) (fT Po) rfl (by decide) (YB i) (H0:=H) (b:=some r) ⟨wA,λq e=>by obtain rfl:=aT e;exact i⟩ ⟨A,c,rfl,λg=>by obtain⟨a,s,t⟩:=k g;exact⟨a,s,t.sub (YB i)⟩⟩ (sU (λ_=>rfl) l) (by simp;omega) O rfl rfl f λo h b' g1 g2 y=>?_;exact vN
end
structure lT(m m':iV):Prop where
 kC:m'.kC=m.kC
 pc:m'.pc=m.pc
 bl:m'.bd.length=m.bd.length
 bd:∀i (h:i<m.bd.length) (h':i<m'.bd.length),m'.bd[i].nm=m.bd[i].nm/\m'.bd[i].lg=m.bd[i].lg/\m'.bd[i].kn=m.bd[i].kn
 tl:m'.tp.length=m.tp.length
 tp:∀i (h:i<m.tp.length) (h':i<m'.tp.length),m'.tp[i].pl=m.tp[i].pl/\m'.tp[i].lo=m.tp[i].lo/\m'.tp[i].hi=m.tp[i].hi
def lT.right{m l:iV}(h:lT m l)(n:List Int):kG l n=kG m n:=by
 have e:∀(t j:nF),j.pl=t.pl->j.lo=t.lo->j.hi=t.hi->FK n j=FK n t:=λt j c d f=>by unfold FK;rw[c,d,f]
 unfold kG;rw[qBQ,qAf,qAf];constructor
 ·intro g t k;obtain⟨i,b,rfl⟩:=qAz.1 k;have a:i<l.tp.length:=by rw[h.tl];exact b
  obtain⟨c,d,f⟩:=h.tp i b a;rw[<-e _ _ c d f];exact g _ (iN a)
 intro g t k;obtain⟨i,a,rfl⟩:=qAz.1 k;have b:i<m.tp.length:=by rw[<-h.tl];exact a
 obtain⟨c,d,f⟩:=h.tp i b a;rw[e _ _ c d f];exact g _ (iN b)
theorem lT.boats{m a:iV}(h:lT m a):jB a=jB m:=by
 have b:jL a=jL m:=by rw[jL,h.pc];rfl
 have c:(λp=>kG a (lG p))=λp=>kG m (lG p):=funext λp=>h.right _;rw[jB,nQ,b,c];rfl
def lF(m:iV)(t:nF):iV:={ m with tp:=m.tp++[t] }
def BO{m:iV}{t:nF}(h:p∈jB (lF m t)):p∈jB m:=by refine E5 (ok:=λp=>kG m (lG p)) (Qu:=λp=>kG (lF m t) (lG p)) (λp a=>?_) (jL m) (jL m) [] rfl (λi _ _=>⟨qAO _,qAO _⟩) p h;have a:(m.tp++[t]).all (FK (lG p))=true:=a;rw[qBO,qAc]at a;exact a.1
def M7:Yw Tryz.prog 45=some (1,some (.slice none 0 0),24):=U
def M8:Yw Tryz.prog 52=some (1,some (.slice none 0 0),24):=U
def E7[Enc α]{l:List α}{i f:Nat}{v:Value}{x:α}(c:i<l.length)(o:f<Enc.sz α)(e:ZR (Enc.enc l[i]) f [v]=Enc.enc x):ZR (Zd l++rest) (i * Enc.sz α+f) [v]=Zd (l.set i x)++rest:=by
 have k:l=l.take i++l[i] :: l.drop (i+1):=by simp
 have h:Zd l=Zd (l.take i)++(Enc.enc l[i]++Zd (l.drop (i+1))):=by
  conv=>lhs;rw[k]
  rw[yX,show l[i] :: l.drop (i+1)=[l[i]]++l.drop (i+1)from rfl,yX,IH]
 have j:Zd (l.set i x)=Zd (l.take i)++(Enc.enc x++Zd (l.drop (i+1))):=by rw[qDJ,qAa c,yX,show x :: l.drop (i+1)=[x]++l.drop (i+1)from rfl,yX,IH]
 have m:(Zd (l.take i)).length=i * Enc.sz α:=by rw[Y7,qAs,qBX (qDh c)]
 have hb:(Enc.enc l[i]).length=Enc.sz α:=Enc.len _;rw[h,j,<-e];generalize Zd (l.take i)=X at *;generalize Zd (l.drop (i+1))=Y at *;generalize Enc.enc l[i]=Z at *;rw[<-m];unfold ZR;have d:(X++(Z++Y)++rest).take (X.length+f)=X++Z.take f:=by
  rw[show X++(Z++Y)++rest=(X++Z.take f)++(Z.drop f++(Y++rest))by
   conv=>lhs;rw[<-qCq f Z]
   simp only[qAE]]
  exact List.take_left' (by rw[IN,qAs];omega)
 have g:(X++(Z++Y)++rest).drop (X.length+f+[v].length)=Z.drop (f+1)++(Y++rest):=by
  rw[show X++(Z++Y)++rest=(X++Z.take (f+1))++(Z.drop (f+1)++(Y++rest))by
   conv=>lhs;rw[<-qCq (f+1) Z]
   simp only[qAE]]
  exact List.drop_left' (by rw[IN,qAs];simp;omega)
 rw[d,g];simp only[qAE,qAW]
def nA(H:Hp)(b:Option Nat):Hp:=⟨λa=>if some a=b then none else H a,H.gh⟩
def qS(H:Hp)(b:Option Nat):fI (nA H b) H:=λa x h=>by
 simp only[nA]at h;split at h
 ·exact absurd h (by simp)
 exact h
def qE{H:Hp}(i:fI H H')(b:Option Nat):fI (nA H b) (nA H' b):=λa x h=>by
 simp only[nA]at h ⊢;split at h
 ·exact absurd h (by simp)
 rename_i c;rw[iF c];exact i a x h
def uI{H:Hp}{o:Obj}:fI (nA H (some r)) (nA (H.ins r o) (some r)):=λa x h=>by
 simp only[nA]at h ⊢;split at h
 ·exact absurd h (by simp)
 rename_i b;rw[iF b,Hp.aR _ _ (by rintro rfl;exact b rfl)];exact h
def II{c H:Hp}{b:Option Nat}(i:fI c H)(h:∀r,b=some r->c r=none):fI c (nA H b):=λa x d=>by
 simp only[nA];split
 ·rename_i e;rw[h a e.symm]at d;exact absurd d (by simp)
 exact i a x d
def y0(H:Hp)(b c:Option Nat):fI (nA (nA H b) c) (nA (nA H c) b):=λa x h=>by
 simp only[nA]at h ⊢;split at h
 ·exact absurd h (by simp)
 rename_i d;split at h
 ·exact absurd h (by simp)
 rename_i e;rw[iF e,iF d];exact h
def gL.er[Enc α]{a H:Hp}{v:Value}{l:List α}{b c:Option Nat}(h:gL a H E v l b)(f:∀r,c=some r->a r≠none):gL a (nA H c) E v l b:=
 ⟨h.own.sub λq y e g=>by simp only[nA];rw[iF (λd=>f q d.symm (h.fresh q e)),g],h.fresh⟩
def gL.base[Enc α]{a H:Hp}{v:Value}{l:List α}{b:Option Nat}(h:gL H1 H E v l b)(i:fI a H1):gL a H E v l b:=
 ⟨h.own,λr e=>by
  cases c:a r with
  | none=>rfl
  | some x=>have:=i r x c;rw[h.fresh r e]at this;exact absurd this (by simp)⟩
def gL.put[Enc α]{a H:Hp}{v:Value}{l:List α}{b:Option Nat}(h:gL a H E v l b)(d:b≠some r)(o:Obj):gL a (H.ins r o) E v l b:=
 ⟨h.own.sub λq y e c=>by rw[Hp.aR _ _ (by rintro rfl;exact d e)];exact c,h.fresh⟩
def gL.at[Enc α]{c H:Hp}{v:Value}{l:List α}{b:Option Nat}(h:gL c H E v l b):∀r,b=some r->H r≠none:=λr e=>by
 obtain⟨_,⟨_,_,a⟩ | ⟨q,_,_,d,_,a,_⟩⟩:=h.own
 ·rw[a]at e;exact absurd e (by simp)
 rw[d]at e;obtain rfl:=aT e;rw[a];simp
structure FH(H1:Hp)(m:iV)(A2:Option Addr)(c2:Nat)(b2:Option Nat)(A3:Option Addr)(c3:Nat)(b3:Option Nat)(H':Hp)(bd:List qY)(tp:List nF):Prop where
 inc:fI H1 H'
 o2:gL H1 H' 197 (.slice A2 m.bd.length c2) bd b2
 o3:gL H1 H' 73 (.slice A3 m.tp.length c3) tp b3
 ap:k8 b2 b3
 bl:bd.length=m.bd.length
 be:∀i (h:i<m.bd.length) (h':i<bd.length),bd[i].nm=m.bd[i].nm/\bd[i].lg=m.bd[i].lg/\bd[i].kn=m.bd[i].kn
 tl:tp.length=m.tp.length
 te:∀i (h:i<m.tp.length) (h':i<tp.length),tp[i].pl=m.tp[i].pl/\tp[i].lo=m.tp[i].lo/\tp[i].hi=m.tp[i].hi
 kn:∀x∈bd,dF (nA (nA H' b2) b3) (.slice x.A x.kn.length x.c) x.kn
 pl:∀x∈tp,dF (nA (nA H' b2) b3) (.slice x.A x.pl.length x.c) x.pl
def FH.bdS{m:iV}{a:Option Nat}{j:Nat}
  (J:FH H1 m A2 c2 (some r) A3 c3 a H' bd tp) (B:j<bd.length) (v:(.slice A2 m.bd.length c2:Value)=.slice (some ⟨r,0,none⟩) bd.length cap) (y:(Zd bd++rest).length=cap * 3) (A:bd.length<=cap) (u:H1 r=none)
  (g:fI H' H5) (w:gL H' H5 31 (.slice A4 bd[j].kn.length c4) bd[j].kn b5) :
  FH H1 m A2 c2 (some r) A3 c3 a (H5.ins r (.cells (Zd (bd.set j ⟨bd[j].nm,bd[j].lg,A4,bd[j].kn,c4⟩)++rest).toArray 197)) (bd.set j ⟨bd[j].nm,bd[j].lg,A4,bd[j].kn,c4⟩) tp:=by
 have b:a≠some r:=J.ap r rfl;have o:fI (nA (nA H' (some r)) a) (nA (nA (H5.ins r (.cells (Zd (bd.set j ⟨bd[j].nm,bd[j].lg,A4,bd[j].kn,c4⟩)++rest).toArray 197)) (some r)) a):=qE ((qE g _).trans uI) a;refine⟨qC (J.inc.trans g) u,⟨⟨Y7 (α:=qY) _,.inr ⟨r,cap,rest,rfl,by rw[qAe];exact v,Hp.aQ _ _ _,?_,by rw[qAe];exact A⟩⟩,λq e=>by obtain rfl:=aT e;exact u⟩,gL.put (J.o3.inc g) b _,J.ap,by rw[qAe];exact J.bl,?_,J.tl,J.te,?_,λx d=>(J.pl x d).inc o⟩
 ·refine Eq.trans ?_ y;rw[IN,IN,Y7,Y7,qAe]
 ·intro i h k;have l:i<bd.length:=by rw[qAe]at k;exact k
  rw[qDu];split
  ·rename_i e;subst e;exact J.be j h l
  exact J.be i h l
 intro x d;rcases qCu d with d | rfl
 ·exact(J.kn x d).inc o
 exact(((w.er (c:=some r) λq e=>by obtain rfl:=aT e;exact J.o2.at r rfl).er (c:=a) (J.o3.at)).sl).inc (qE uI a)
def FH.tpS{m:iV}{a:Option Nat}{j:Nat}
  (J:FH H1 m A2 c2 a A3 c3 (some r) H' bd tp) (A:j<tp.length) (u:(.slice A3 m.tp.length c3:Value)=.slice (some ⟨r,0,none⟩) tp.length cap) (w:(Zd tp++rest).length=cap * 3) (y:tp.length<=cap) (t:H1 r=none)
  (k:fI H' H5) (v:gL H' H5 3 (.slice A4 tp[j].pl.length c4) tp[j].pl b5) :
  FH H1 m A2 c2 a A3 c3 (some r) (H5.ins r (.cells (Zd (tp.set j ⟨A4,tp[j].pl,c4,tp[j].lo,tp[j].hi⟩)++rest).toArray 73)) bd (tp.set j ⟨A4,tp[j].pl,c4,tp[j].lo,tp[j].hi⟩):=by
 have d:a≠some r:=J.ap.symm r rfl;have o:fI (nA (nA H' a) (some r)) (nA (nA (H5.ins r (.cells (Zd (tp.set j ⟨A4,tp[j].pl,c4,tp[j].lo,tp[j].hi⟩)++rest).toArray 73)) a) (some r)):=
  (y0 _ _ _).trans ((qE ((qE k _).trans uI) a).trans (y0 _ _ _))
 refine⟨qC (J.inc.trans k) t,gL.put (J.o2.inc k) d _,⟨⟨Y7 (α:=nF) _,.inr ⟨r,cap,rest,rfl,by rw[qAe];exact u,Hp.aQ _ _ _,?_,by rw[qAe];exact y⟩⟩,λq e=>by obtain rfl:=aT e;exact t⟩,J.ap,J.bl,J.be,by rw[qAe];exact J.tl,?_,λx f=>(J.kn x f).inc o,?_⟩
 ·refine Eq.trans ?_ w;rw[IN,IN,Y7,Y7,qAe]
 ·intro i h l;have b:i<tp.length:=by rw[qAe]at l;exact l
  rw[qDu];split
  ·rename_i e;subst e;exact J.te j h b
  exact J.te i h b
 intro x f;rcases qCu f with f | rfl
 ·exact(J.pl x f).inc o
 exact(((v.er (c:=some r) λq e=>by obtain rfl:=aT e;exact J.o3.at r rfl).er (c:=a) (J.o2.at)).sl).inc ((qE uI a).trans (y0 _ _ _))
def HU(r k f:Nat):(((⟨r,0,none⟩:Addr).add (k * 3)).add f)=⟨r,k * 3+f,none⟩:=by rw[VF,VF,qAJ]
def gL.ne[Enc α]{d H:Hp}{v:Value}{l:List α}{b:Option Nat}(h:gL d H E v l b)(c:l≠[]):∃r cap rest,b=some r/\v=.slice (some ⟨r,0,none⟩) l.length cap/\H r=some (.cells (Zd l++rest).toArray E (0,0),true)/\(Zd l++rest).length=cap * Enc.sz α/\l.length<=cap/\d r=none:=by
 obtain⟨j,⟨_,a,_⟩ | ⟨r,cap,rest,e,a,f,g,i⟩⟩:=h.own
 ·exact absurd (qBj.1 a) c
 exact⟨r,cap,rest,e,a,f,g,i,h.fresh r e⟩
def gL.cqp[Enc α]{d H:Hp}{l:List α}{b:Option Nat}{A:Option Addr}{c:Nat}(h:gL d H E (.slice A n c) l b):l.length<=c:=by
 obtain⟨g,⟨e,a,_⟩ | ⟨r,cap,rest,e,a,i,j,f⟩⟩:=h.own
 ·rw[a];exact qBf _
 obtain⟨_,_,rfl⟩:=Value.slice.inj a;exact f
section
variable{P:fP}[Tz P][Loud P]{H:Hp}
theorem Fl{m:iV}(K:gT H m)(l1:m.pc.length<=1000000)(l2:m.bd.length<=1000000)(l3:m.tp.length<=1000000)(l4:∀x∈m.bd,x.kn.length<=1000000)(l5:∀x∈m.tp,x.pl.length<=1000000) :
  LL.Zb P 176 #[m.v] H λv t=>fI H t/\∃B,v=B.v/\gT t B/\lT m B/\∃b,gL H t 73 (.slice B.A3 B.tp.length B.c3) B.tp b:=by
 refine aU.m (fO Bm) rfl ?_;unfold IV iV.v;refine Y ?_;refine Zg (vs:=[.slice m.A1 m.pc.length m.c1]) (Wft K.pc l1) ?_;rintro v1 H1 ⟨F,b1,X⟩;obtain⟨R,c1,rfl,_⟩:=id X.sl;refine⟨(OL _).trans (OL _).symm,?_⟩;refine Y ?_;refine Zg (vs:=[.slice m.A2 m.bd.length m.c2]) (Wfu (K.bd.sub F) l2) ?_;rintro v2 H2 ⟨N,G,q⟩;obtain⟨A2,c2,rfl,_⟩:=id q.sl;refine⟨(OL _).trans (OL _).symm,?_⟩;refine Y ?_;refine Zg (vs:=[.slice m.A3 m.tp.length m.c3]) (HQ (K.tp.sub (F.trans N)) l3) ?_;rintro v3 H3 ⟨s3,D,s⟩;obtain⟨A3,c3,rfl,_⟩:=id s.sl;refine⟨(OL _).trans (OL _).symm,?_⟩;refine Y ?_;have hI:fI H1 (nA (nA H3 G) D):=II (II (N.inc.trans s3.inc) q.fresh) (s.base N.inc).fresh;have J0:FH H1 m A2 c2 G A3 c3 D H3 m.bd m.tp:=
  ⟨N.inc.trans s3.inc,q.inc s3.inc,s.base N.inc,λr e e3=>q.at r e (s.fresh r e3),rfl,λ_ _ _=>⟨rfl,rfl,rfl⟩,rfl,λ_ _ _=>⟨rfl,rfl,rfl⟩,
   λx y=>(K.kn x y).inc (F.inc.trans hI),λx y=>(K.pl x y).inc (F.inc.trans hI)⟩
 refine ZC m.bd.length (λj t=>∃bd,FH H1 m A2 c2 G A3 c3 D t bd m.tp) (λj=>[(1,vi 0),(2,vi 0),(20,.slice A2 m.bd.length c2),(21,vi m.bd.length),(22,vi j)])
  (λj=>[(1,[vi m.kC,.slice R m.pc.length c1,.slice A2 m.bd.length c2,.slice A3 m.tp.length c3]),(2,[vi 0,.slice none 0 0,.slice none 0 0,.slice none 0 0])]) ⟨_,J0⟩ V V ?_
 rintro j H4 hj ⟨bd,J⟩;refine OJ (λS=>?_) (λS=>?_)
 ·have f:j<m.bd.length:=O;have d:j<bd.length:=by rw[J.bl];exact f
  obtain⟨r,cap,rest,rfl,I,Z,M,q3,q4⟩:=gL.ne J.o2 (by rintro rfl;simp at d);have i:=iN d;have h:bd[j].kn.length<=1000000:=by rw[(J.be j f d).2.2];exact l4 _ (iN f)
  have w:dF H4 (.slice bd[j].A bd[j].kn.length bd[j].c) bd[j].kn:=(J.kn _ i).inc ((qS _ _).trans (qS _ _));have C:=J.o2.sl;have g:=I;rw[J.bl]at g;obtain⟨u,_,U⟩:=Value.slice.inj g;refine Y ?_;refine ZB j C d λa W=>Y ?_;refine YL (cs:=[.string bd[j].nm,vi bd[j].lg,.slice bd[j].A bd[j].kn.length bd[j].c]) W (Y ?_);refine Zg (vs:=[.slice bd[j].A bd[j].kn.length bd[j].c]) (Wfs w h) ?_;rintro v4 H5 ⟨Q,b5,L⟩;obtain⟨A4,c4,rfl,_⟩:=id L.sl;refine⟨(OL _).trans (OL _).symm,?_⟩;refine Y ?_;refine CL (a:=⟨r,0,none⟩) (by rw[<-u];rfl) rfl f (Y ?_);refine OH (fT M8) (qAx (λa=>some (Value.pointer (some a))) (HU r j 2)) rfl (Q.inc _ _ Z) rfl (by rw[M];show j * 3+2+1<=cap * 3;omega) rfl (OL _) ?_;rw[show ZR (Zd bd++rest) (j * 3+2) (Value.slice A4 bd[j].kn.length c4).cells.toList=Zd (bd.set j ⟨bd[j].nm,bd[j].lg,A4,bd[j].kn,c4⟩)++rest from E7 (α:=qY) d (by decide) rfl];refine Y ?_;exact⟨⟨j+1,O⟩,gI O,⟨_,J.bdS d I M q3 q4 Q.inc L⟩,V,V,rfl⟩
 refine Y ?_;clear hj S;refine ZC m.tp.length (λj t=>∃tp,FH H1 m A2 c2 G A3 c3 D t bd tp) (λj=>[(1,vi 0),(2,vi 0),(37,.slice A3 m.tp.length c3),(38,vi m.tp.length),(39,vi j)])
  (λj=>[(1,[vi m.kC,.slice R m.pc.length c1,.slice A2 m.bd.length c2,.slice A3 m.tp.length c3]),(2,[vi 0,.slice none 0 0,.slice none 0 0,.slice none 0 0])]) ⟨_,J⟩ V V ?_
 clear J;rintro k T hk ⟨tp,J⟩;refine OJ (λS=>?_) (λS=>?_)
 ·have f:k<m.tp.length:=O;have d:k<tp.length:=by rw[J.tl];exact f
  obtain⟨r,cap,rest,rfl,I,Z,M,q3,q4⟩:=gL.ne J.o3 (by rintro rfl;simp at d);have i:=iN d;have h:tp[k].pl.length<=1000000:=by rw[(J.te k f d).1];exact l5 _ (iN f)
  have w:dF T (.slice tp[k].A tp[k].pl.length tp[k].c) tp[k].pl:=(J.pl _ i).inc ((qS _ _).trans (qS _ _));have C:=J.o3.sl;have g:=I;rw[J.tl]at g;obtain⟨u,_,U⟩:=Value.slice.inj g;refine Y ?_;refine ZB k C d λa W=>Y ?_;refine YL (cs:=[.slice tp[k].A tp[k].pl.length tp[k].c,vi tp[k].lo,vi tp[k].hi]) W (Y ?_);refine Zg (vs:=[.slice tp[k].A tp[k].pl.length tp[k].c]) (PF w h) ?_;rintro v4 H5 ⟨Q,b5,L⟩;obtain⟨A4,c4,rfl,_⟩:=id L.sl;refine⟨(OL _).trans (OL _).symm,?_⟩;refine Y ?_;refine CL (a:=⟨r,0,none⟩) (by rw[<-u];rfl) rfl f (Y ?_);refine OH (fT M7) (qAx (λa=>some (Value.pointer (some a))) (HU r k 0)) rfl (Q.inc _ _ Z) rfl (by rw[M];show k * 3+0+1<=cap * 3;omega) rfl (OL _) ?_;rw[show ZR (Zd tp++rest) (k * 3+0) (Value.slice A4 tp[k].pl.length c4).cells.toList=Zd (tp.set k ⟨A4,tp[k].pl,c4,tp[k].lo,tp[k].hi⟩)++rest from E7 (α:=nF) d (by decide) rfl];refine Y ?_;exact⟨⟨k+1,O⟩,gI O,⟨_,J.tpS d I M q3 q4 Q.inc L⟩,V,V,rfl⟩
 refine Y ?_;have up:fI (nA (nA T G) D) T:=(qS _ _).trans (qS _ _);refine⟨F.inc.trans J.inc,⟨m.kC,m.pc,bd,tp,R,c1,A2,c2,A3,c3⟩,?_,⟨X.sl.inc J.inc,?_,?_,λx y=>(J.kn x y).inc up,λx y=>(J.pl x y).inc up,?_,?_⟩,⟨rfl,rfl,J.bl,J.be,J.tl,J.te⟩,D,?_⟩
 ·show _=Value.agg _;rw[J.bl,J.tl];rfl
 ·have:=J.o2.sl;rw[<-J.bl]at this;exact this
 ·have:=J.o3.sl;rw[<-J.tl]at this;exact this
 ·exact X.cqp
 ·have:=J.o2.cqp;exact this
 have:=(J.o3.base F.inc);rw[<-J.tl]at this;exact this
end
