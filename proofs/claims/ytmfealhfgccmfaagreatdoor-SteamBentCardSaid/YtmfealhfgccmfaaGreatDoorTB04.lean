import Derived.Test.YtmfealhfgccmfaaGreatDoorTB03
set_option linter.all false
set_option maxHeartbeats 8000000
set_option maxRecDepth 100000
open Go Go.LL
namespace Go.Proofs
section
variable{m:BBk}
def pcS(m:BBk)(i:Nat):NK:=m.ms.getD i ⟨0,0⟩
def kD(m:BBk)(i:Nat):List Int:=(List.range ((pcS m i).hi-(pcS m i).lo+1).toNat).map λ(t:Nat)=>(pcS m i).lo+t
def rbL(m:BBk):Nat->List (List Int)
 | 0=>[[]]
 | i+1=>(rbL m i).flatMap λl=>(kD m i).map λn=>l++[n]
def wD(ok:BOk m){i:Nat}(a:i<m.ms.length):pcS m i=m.ms[i]/\(0<=m.ms[i].lo/\m.ms[i].lo<=m.ms[i].hi/\m.ms[i].hi<=959)/\m.ms[i].hi-m.ms[i].lo<3:=⟨ZG a _,(ok.ms.2 i a).1,(ok.ms.2 i a).2⟩
def IJ(ok:BOk m){i:Nat}(a:i<m.ms.length):(kD m i).length<=3:=by obtain⟨e,b,c⟩:=wD ok a;rw[kD,qAd,qBo,e];omega
def IQ{m:BBk}(ok:BOk m):∀i,i<=m.ms.length->(rbL m i).length<=3 ^ i
 | 0,_=>by simp[rbL]
 | i+1,a=>by rw[rbL,qCC];exact qAP (HD (k:=3) λl b=>by rw[qAd];exact IJ ok O) (qAV _ (IQ ok i O))
def y0{m:BBk}(ok:BOk m):∀i,i<=m.ms.length->∀l∈rbL m i,WfH i l
 | 0,_,l,a=>by rw[rbL,iO]at a;subst a;exact⟨rfl,by simp⟩
 | i+1,k,l,a=>by
  rw[rbL,qCP]at a;obtain⟨u,j,a⟩:=a;obtain⟨n,c,rfl⟩:=qAy.1 a;obtain⟨g,h⟩:=y0 ok i O u j;refine⟨by simp[g],λx b=>?_⟩;rcases qAj.1 b with b | b
  ·exact h x b
  rw[iO.1 b];rw[kD,qAy]at c;obtain⟨t,f,rfl⟩:=c;obtain⟨e,o,p⟩:=wD ok (show i<m.ms.length by omega);rw[qAA]at f;rw[e]at f ⊢;omega
section
variable{P:fP}[Tz P][Loud P]{H:Hp}
theorem Ez(hm:gT H m)(ok:BOk m) :
  LL.Zb P 20 #[m.v] H λv j=>fI H j/\∃A c n,v=.slice A n c:=by
 have hn:=ok.ms.1;have hp:=hm.ms;refine aU.m (fO Cp) rfl ?_;unfold IH BBk.v;refine Y ?_;refine Z4 (cs:=[.slice none 0 0]) (OL _) rfl λU B5=>?_;have s0:dF (H.ins U (.cells [Value.slice none 0 0].toArray 45)) (.slice (some ⟨U,0,none⟩) 1 1) [Value.slice none 0 0]:=kV;have l0:qD (H.ins U (.cells [Value.slice none 0 0].toArray 45)) [Value.slice none 0 0] (rbL m 0):=(qD.nil _).pP (.nil _);have i0:fI H (H.ins U (.cells [Value.slice none 0 0].toArray 45)):=Zt B5;generalize H.ins U (.cells [Value.slice none 0 0].toArray 45)=H0 at *;refine Y ?_;refine Yp (α:=Value×List Value) m.ms.length (λi s j=>fI H j/\dF j s.1 s.2/\qD j s.2 (rbL m i)) (λi s=>[(1,vi 0),(3,s.1),(4,vi i)]) (λ_ _=>[(1,[vi m.bd,vi m.tw,vi m.tn,.slice m.A1 m.ms.length m.c1,.slice m.A2 m.rl.length m.c2])]) (.slice (some ⟨U,0,none⟩) 1 1,[.slice none 0 0]) ⟨i0,s0,l0⟩ V V ?_;rintro i ⟨v3,vs⟩ E Q ⟨i1,X,l3⟩;simp only at X l3;have Jn:=l3.len;have Sy:=IQ ok i Q;have Wu:3 ^ i<=3 ^ 7:=qAR (by decide) O;refine OJ (λh1=>?_) (λh1=>?_)
 ·have B:i<m.ms.length:=O;have RY:=IJ ok B;obtain⟨FZ,p1,p2⟩:=wD ok B;refine Y ?_;refine Yp (α:=Hp×Value×List Value×Option Nat) vs.length (λk s j=>fI E s.1/\fI s.1 j/\gL s.1 j 45 s.2.1 s.2.2.1 s.2.2.2/\qD s.1 s.2.2.1 (((rbL m i).take k).flatMap λl=>(kD m i).map λn=>l++[n]))
   (λk s=>[(1,vi 0),(3,v3),(4,vi i),(5,s.2.1),(6,vi k)]) (λ_ _=>[(1,[vi m.bd,vi m.tw,vi m.tn,.slice m.A1 m.ms.length m.c1,.slice m.A2 m.rl.length m.c2])]) (E,.slice none 0 0,[],none) ⟨.refl E,.refl E,.nil _ _ _,.nil _⟩ V V ?_
  rintro k ⟨G,v5,ws,b5⟩ H2 hk ⟨Z,N,o5,l5⟩;simp only at Z N o5 l5;have Ti:=l5.len;have hwl:ws.length<=k * 3:=by rw[Ti];refine qAP (HD (k:=3) λl hl=>by rw[qAd];exact RY) (qAV _ (by rw[qAs];omega))
  refine Y ?_;refine YH (X.inc (Z.trans N)) rfl ?_;refine OJ (λh2=>?_) (λh2=>?_)
  ·have p:k<vs.length:=O;have q:k<(rbL m i).length:=O;have K0:=m6 (f:=λl=>(kD m i).map λn=>l++[n]) q;obtain⟨DK,DJ⟩:=y0 ok i O (rbL m i)[k] (iN q);have z:=l3.at_ k p q;generalize(rbL m i)[k]=l at *;generalize(List.flatMap (λl=>(kD m i).map λn=>l++[n]) ((rbL m i).take k))=L at *;refine Y ?_;refine ZB i ((hp.inc i1).inc (Z.trans N)) B λa h=>?_;have h:aM H2 a [vi m.ms[i].lo,vi m.ms[i].hi]:=h;refine Y ?_;refine Zh (v:=vi m.ms[i].lo) (OL _) rfl (by rw[add_zero];exact YN (cs:=[vi m.ms[i].lo]) (ds:=[vi m.ms[i].hi]) h) (Y ?_);have rA:(kD m i).length=(m.ms[i].hi-m.ms[i].lo+1).toNat:=by rw[kD,qAd,qBo,FZ]
   refine Yp (α:=Hp×Value×List Value×Option Nat) (kD m i).length (λt s j=>fI E s.1/\fI s.1 j/\gL s.1 j 45 s.2.1 s.2.2.1 s.2.2.2/\qD s.1 s.2.2.1 (L++((kD m i).take t).map λn=>l++[n]))
    (λt s=>[(1,vi 0),(3,v3),(4,vi i),(5,s.2.1),(6,vi k),(7,vi (m.ms[i].lo+t))]) (λ_ _=>[(1,[vi m.bd,vi m.tw,vi m.tn,.slice m.A1 m.ms.length m.c1,.slice m.A2 m.rl.length m.c2])]) (G,v5,ws,b5) ⟨Z,N,o5,by simpa using l5⟩ ⟨rfl,rfl,rfl,rfl,rfl,by simp[fG.set],trivial⟩ V ?_
   rintro t ⟨G1,v6,J,b6⟩ M ht ⟨S,T,o6,l6⟩;simp only at S T o6 l6;have KT:=l6.len;refine Y ?_;refine ZB i ((hp.inc i1).inc (S.trans T)) B λa h=>?_;have h:aM M a [vi m.ms[i].lo,vi m.ms[i].hi]:=h;refine Y ?_;refine Zh (v:=vi m.ms[i].hi) (OL _) rfl (mG h (n:=1) rfl) ?_;refine OJ (λh3=>?_) (λh3=>?_)
   ·have RU:t<(kD m i).length:=O;have RV:(kD m i)[t]=m.ms[i].lo+t:=by simp[kD,FZ]
    have RS:(L++((kD m i).take (t+1)).map λn=>l++[n])=(L++((kD m i).take t).map λn=>l++[n])++[l++[m.ms[i].lo+t]]:=by rw[BY RU,qBt,RV,qAE];rfl
    have Rs:J.length<=8000:=by rw[KT,IN,qAd,qAs];omega
    refine Y ?_;refine rT (fU jR) (fT t3) (OL _) λr1 NZ=>?_;have o7:gL M (M.ins r1 (.cells #[] 3)) 3 (.slice (some ⟨r1,0,none⟩) 0 0) ([]:List Int) (some r1):=N9 NZ;have q3:fI M (M.ins r1 (.cells #[] 3)):=Zt NZ;generalize M.ins r1 (.cells #[] 3)=H4 at *;refine Y ?_;refine ZB k ((X.inc (S.trans T)).inc q3) p λa h=>Y ?_;refine Z8 h (Y ?_);refine VX (l':=l) (fU jR) (fU jR) (fT t3) rfl (by decide) q3 o7 (z.inc ((S.trans T).trans q3)) (W6 l) (by simp;omega) O rfl rfl (OL _) λv8 H5 b8 q4 R _=>Y ?_;refine Z4 (cs:=[vi (m.ms[i].lo+t)]) (OL _) rfl λr2 R6=>Y ?_;refine VX (l':=[m.ms[i].lo+t]) (fU jR) (fU jR) (fT t3) rfl (by decide) (q4.trans (Zt R6)) (R.ins R6) qK rfl (by simp;omega) O rfl rfl (OL _) λv9 H6 b9 q5 o9 _=>?_;rw[qAt]at o9;obtain⟨G2,w1,w2,w3,w4⟩:=PA T o6 q5 o9;obtain⟨A9,c9,rfl,_⟩:=id w4;refine Y ?_;refine Z4 (cs:=[.slice A9 (l++[m.ms[i].lo+↑t]).length c9]) (OL _) rfl λr3 u=>Y ?_;refine VX (l':=[Value.slice A9 (l++[m.ms[i].lo+↑t]).length c9]) (fU CN) (fU CN) (fT QZ) rfl (by decide) (w2.trans (Zt u)) (w3.ins u) kV rfl (by simp;omega) O rfl rfl (OL _) λK H7 F q6 I _=>Y ?_;refine⟨(⟨t+1,O⟩,(G2,K,J++[.slice A9 (l++[m.ms[i].lo+↑t]).length c9],F)),gI O,⟨S.trans w1,q6,I,by rw[RS];exact(l6.inc w1).pP w4⟩,⟨rfl,rfl,rfl,rfl,rfl,?_,trivial⟩,V,rfl⟩;show some (vi (m.ms[i].lo+t+1))=some (vi (m.ms[i].lo+(t+1:Nat)));congr 2;omega
   have:t=(kD m i).length:=O;subst this;rw[qAh]at l6;refine Y ?_;exact⟨(⟨k+1,O⟩,(G1,v6,J,b6)),gI O,⟨S,T,o6,by rw[K0];exact l6⟩,V,V,rfl⟩
  have:k=vs.length:=O;subst this;rw[qAH O]at l5;refine Y ?_;exact⟨(⟨i+1,O⟩,(v5,ws)),gI O,⟨(i1.trans Z).trans N,o5.sl,l5.inc N⟩,V,V,rfl⟩
 have:i=m.ms.length:=O;subst this;refine Y ?_;refine Yp (α:=Value×List Value×Option Nat) vs.length (λk s j=>fI E j/\gL E j 45 s.1 s.2.1 s.2.2/\s.2.1.length<=k) (λk s=>[(1,vi 0),(3,v3),(8,s.1),(9,vi k)]) (λ_ _=>[(1,[vi m.bd,vi m.tw,vi m.tn,.slice m.A1 m.ms.length m.c1,.slice m.A2 m.rl.length m.c2])]) (.slice none 0 0,[],none) ⟨.refl _,.nil _ _ _,DO _⟩ V V ?_;rintro k ⟨v8,J,b8⟩ H2 hk ⟨D,R,Rs⟩;simp only at R Rs;refine Y ?_;refine YH (X.inc D) rfl ?_;refine OJ (λh2=>?_) (λh2=>?_)
 ·have p:k<vs.length:=O;have q:k<(rbL m m.ms.length).length:=O;have C:=y0 ok m.ms.length (DO _) (rbL m m.ms.length)[k] (iN q);have z:=l3.at_ k p q;generalize(rbL m m.ms.length)[k]=l at *;have Rq:∃w,w=vs[k]:=⟨_,rfl⟩;obtain⟨w,hw⟩:=Rq;refine Y ?_;refine ZB k (X.inc D) p λa h=>?_;rw[<-hw]at h z;refine Y ?_;refine Z8 h (Y ?_);refine Zg (vs:=[.agg #[vi m.bd,vi m.tw,vi m.tn,.slice m.A1 m.ms.length m.c1,.slice m.A2 m.rl.length m.c2],w]) (Ey (hm.inc (i1.trans D)) ok (z.inc D) C.1 (λx hx=>by have:=C.2 x hx;omega)) ?_;rintro v H9 ⟨i9,b,rfl⟩;cases b with
  | false=>
   refine Y ?_;exact⟨(⟨k+1,O⟩,(v8,J,b8)),gI O,⟨D.trans i9,R.inc i9,by show J.length<=k+1;omega⟩,V,V,rfl⟩
  | true=>
   refine Y ?_;refine ZB k (X.inc (D.trans i9)) p λa h=>?_;rw[<-hw]at h;refine Y ?_;refine Z8 h ?_;obtain⟨Aw,cw,rfl,_⟩:=id z;refine Y ?_;refine Z4 (cs:=[.slice Aw l.length cw]) (OL _) rfl λr3 u=>Y ?_;refine VX (l':=[Value.slice Aw l.length cw]) (fU CN) (fU CN) (fT QZ) rfl (by decide) ((D.trans i9).trans (Zt u)) ((R.inc i9).ins u) kV rfl (by simp;omega) O rfl rfl (OL _) λK H7 F q6 I _=>Y ?_;exact⟨(⟨k+1,O⟩,(K,J++[.slice Aw l.length cw],F)),gI O,⟨q6,I,by simp;omega⟩,V,V,rfl⟩
 refine Y ?_;obtain⟨A,c,rfl,_⟩:=R.sl;exact⟨i1.trans D,_,_,_,rfl⟩
end
def M9{b:BBk}{i:Nat}{x:NK}(a:i<b.ms.length)(g:b.ms[i].lo<=x.lo)(k:x.hi<=b.ms[i].hi){p:List Int}(h:p∈iA (mkB b i x)):p∈iA b:=by
 obtain⟨c,f⟩:=qAu.1 h;refine qAu.2 ⟨?_,f⟩;refine IU (vX:=mV b) (ok:=λ_=>true) (Qu:=λ_=>true) (λp h=>h) (kG b) (kG (mkB b i x)) [] (by simp[kG,mkB]) (λj n l=>?_) p c;simp only[kG,mkB,qBn,qDu];split
 ·rename_i e;subst e;exact⟨g,k⟩
 exact⟨qAO _,qAO _⟩
section
variable{P:fP}[Tz P][Loud P]{H:Hp}
theorem Hw(E:P=PP){b:Sb}{c:BBk}{p q s m L K:Int}(hb:Zq H b)(w:0<=p/\p<256)(D:gT H c)(hq:0<=q/\q<256)(hs':0<=s/\s<256)(hm:0<=m/\m<256)(hg:Yb H)(F:aM H ⟨3,0,none⟩ [vf 407])(B:oE H) :
  ID.m P (CJ P IK λv _=>v=vb true) (VO [b.v,.int .u8 p,c.v,.int .u8 q,.int .u8 s,.agg #[vi L,vi K],.int .u8 m]) H:=by
 have done:∀{H':Hp},fI H H'->LL.Zb P 10 #[] H' λv _=>v=vb true:=λg=>LL.Zb.mono (mL E (aM.inc hg g) (aM.inc F g)) λv _ h=>h.2;unfold ID;show Zc.m _ _ _ _ _;unfold BBk.v;refine Y ?_;refine Zg (vs:=[b.v]) (sG hb) ?_;rintro v _ ⟨rfl,x,rfl,hx⟩;cases x with
 | false=>
  refine Y ?_;refine Zg (vs:=[]) (done (.refl _)) ?_;rintro v H1 rfl;refine Y ?_;rfl
 | true=>
 have ok:=hx rfl;refine Y ?_;refine Zg (vs:=[c.v]) (WfB D) ?_;rintro v _ ⟨rfl,x,rfl,hx⟩;cases x with
 | false=>
  refine Y ?_;refine Zg (vs:=[]) (done (.refl _)) ?_;rintro v H1 rfl;refine Y ?_;rfl
 | true=>
 have f:=hx rfl;have n1:=f.ms.1;have n2:=f.rl.1;refine Y ?_;refine Zg (vs:=[c.v]) (Ez D f) ?_;rintro v H1 ⟨G,A,c1,n,rfl⟩;refine OJ (λg1=>?_) (λg1=>?_)
 ·refine Y ?_;refine Zg (vs:=[]) (done G) ?_;rintro v R rfl;refine Y ?_;rfl
 refine Y ?_;refine VC (fU Tryz.underlying5) (fU Tryz.underlying3) rfl ?_;rw[V8 (show rY q from⟨O,O⟩)];refine Y ?_;refine HH rfl rfl O ?_;obtain⟨i,g,ei⟩:=PB (n:=c.ms.length) hq.1 O;rw[ei];refine Y ?_;refine VC (fU Tryz.underlying5) (fU Tryz.underlying3) rfl ?_;rw[V8 (show rY s from⟨O,O⟩)];refine Y ?_;refine HH rfl rfl O ?_;obtain⟨k,hk,ek⟩:=PB (n:=c.ms.length) hs'.1 O;rw[ek];refine Y ?_;refine Zg (vs:=[c.v,vi i,.agg #[vi L,vi K]]) (Wfs (aM.inc B G) (D.inc G) f g) ?_;rintro v R ⟨i2,⟨gd,o,rfl,X,J⟩ | ⟨e,V,rfl⟩⟩;rotate_left
 ·unfold b0V;refine OJ (λh1=>?_) (λh1=>?_)
  ·refine Y ?_;refine Zg (vs:=[]) (done (G.trans i2)) ?_;rintro v S rfl;refine Y ?_;rfl
  exact absurd h1 V
 have C:=G.trans i2;have sub:∀z∈lG o k,z∈lG c k:=λz hz=>by obtain⟨p,w,e⟩:=E9.1 hz;rw[J.boats]at w;exact E9.2 ⟨p,M9 g (by show _<=max _ _;omega) (by show min _ _<=_;omega) w,e⟩
 have l:lT o:=J.good gd;have T:lT c:=⟨f,λe=>by obtain⟨p,w⟩:=qBu _ gd.2;have:=M9 g (by show _<=max _ _;omega) (by show min _ _<=_;omega) w;rw[e]at this;simp at this⟩;have hol:o.ms.length=c.ms.length:=by rw[J.ms];exact qAe
 have hor:o.rl.length=c.rl.length:=by rw[J.rl];rfl
 have ne2:lG o k≠[]:=λe=>by obtain⟨p,w⟩:=qBu _ l.2;have:p.getD k 0∈lG o k:=E9.2 ⟨p,w,rfl⟩;rw[e]at this;simp at this
 have I:∀{a},aM R a (Enc.enc c.ms[i])->aM R a [vi c.ms[i].lo,vi c.ms[i].hi]:=λh=>h;have cM:=λ{S:Hp} (h:gT S c)=>Wfu (P:=P) (i:=i) (x:=⟨max c.ms[i].lo L,min c.ms[i].hi K⟩) h O g;generalize hy:c.ms[i]=y at *;unfold BBk.v;refine Y ?_;refine ZB i (D.ms.inc C) g λa U=>?_;have U:=I (hy ▸ U);refine Y ?_;refine YL U (Y ?_);refine Zo (vs:=[.agg #[vi y.lo,vi y.hi],.agg #[vi L,vi K]]) (WfI _ _ _ _) ?_;refine⟨(OL _).trans (OL _).symm,?_⟩;refine Y ?_;refine Zg (vs:=[c.v,vi i,.agg #[vi (max y.lo L),vi (min y.hi K)]]) (cM (D.inc C)) ?_;rintro v S ⟨N,o2,rfl,Z,so2⟩;refine Zz OL ?_;unfold BBk.v;refine Y ?_;refine Zo (vs:=[o.v,o2.v]) (Wfp (X.inc N) Z (J.symm.trans so2) O O) (Y ?_);refine Zg (vs:=[o.v]) (IP (X.inc N) O O) ?_;rintro v _ ⟨rfl,e,rfl,V⟩;obtain rfl:e=0:=V.2 l.1;have t:=C.trans N;refine Y ?_;refine Zg (vs:=[c.v,vi k]) (NB (aM.inc B t) (D.inc t) T hk) ?_;rintro v H4 ⟨i4,A1,c1,rfl,s4⟩;refine Y ?_;refine Zg (vs:=[o.v,vi k]) (NB (aM.inc B (t.trans i4)) (X.inc (N.trans i4)) l O) ?_;rintro v H5 ⟨i5,A2,c2,rfl,s5⟩;have u:=(t.trans i4).trans i5;have l1:=M5 f k;have l2:=M5 l.1 k;generalize lG o k=m2 at *;generalize lG c k=m1 at *;obtain⟨M,Q,rfl⟩:∃a r,m2=a :: r:=by
  cases m2 with
  | nil=>exact absurd rfl ne2
  | cons a r=>exact⟨a,r,rfl⟩
 obtain⟨z1,r1,rfl⟩:∃a r,m1=a :: r:=by
  cases m1 with
  | nil=>exact absurd (sub M (by simp)) (by simp)
  | cons a r=>exact⟨a,r,rfl⟩
 obtain⟨e1,e2⟩:=Hr sub;have e3:=Hq Q M;refine Y ?_;refine Zo (vs:=[.slice A1 (z1 :: r1).length c1]) (EO (s4.inc i5) O) (Y ?_);refine Zo (vs:=[.slice A2 (M :: Q).length c2]) (EO s5 O) (Y ?_);refine Zg (vs:=[b.v,.int .u8 p,.agg #[vi (jL z1 r1),vi (jY z1 r1)],.agg #[vi (jL M Q),vi (jY M Q)],.int .u8 m]) (QP E ok (hb.inc u) w hm ⟨e1,e3,e2⟩ (aM.inc hg u) (aM.inc F u)) ?_;rintro v H6 ⟨i6,rfl⟩;refine Y ?_;refine Zg (vs:=[]) (done (u.trans i6)) ?_;rintro v H7 rfl;refine Y ?_;rfl
end
end
open Go.Conc Go.ConcM
open YtmfealhfgccmfaaGreatDoor Go.ChangeShapes Go.WideShapes
def Cb:Tryz.prog.cellsOf 55=5:=U
def Ca:Tryz.prog.cellsOf 53=1:=U
def NH:Tryz.prog.cellsOf 180=4:=U
section
variable{H:Type}{enc:TypeId×Value->H}{W:World}{base:Nat}{sp:Nat->Bool}{held:Bool}{fuel:Nat}{cs:List Value}{y:DataW H×List MemPlace}{r:Reach}{b0:Nat}{v:Value}{d:DataW H}{ps:List MemPlace}
def Wff(h:DataW.trod enc Tryz.prog W base sp held fuel 180 cs=some y):∃x:BRl,cs=Enc.enc x:=by
 obtain⟨xs,n,rfl,_,t,o,l⟩:=DataW.trod_struct Tryz.underlying180 h;rw[NH]at t;obtain⟨B,u⟩:=VI (xs:=xs) (i:=0) (by rw[o];decide);obtain⟨C,w⟩:=VI (xs:=xs) (i:=1) (by rw[o];decide);obtain⟨D,z⟩:=VI (xs:=xs) (i:=2) (by rw[o];decide);have p:DataW.trod enc Tryz.prog W base sp held n 3 ((cs.drop 0).take (Tryz.prog.cellsOf 3))=xs[0]?:=l 0 _ rfl;have q:DataW.trod enc Tryz.prog W base sp held n 3 ((cs.drop 1).take (Tryz.prog.cellsOf 3))=xs[1]?:=l 1 _ rfl;have s:DataW.trod enc Tryz.prog W base sp held n 31 ((cs.drop 2).take (Tryz.prog.cellsOf 31))=xs[2]?:=l 2 _ rfl;rw[u]at p;rw[w]at q;rw[z]at s;obtain⟨a,j⟩:=OO p;obtain⟨b,hb⟩:=OO q;obtain⟨c,e,k⟩:=CC s;rw[u4]at j hb;rw[CD]at k;have j:=UD j;have hb:=UD hb;have f:=qAx (·[0]?) k;have g:=qAx (·[1]?) k;simp[qBv,qBq]at f g;refine⟨⟨a,b,c,e⟩,u6 t λi A=>?_⟩;match i,A with
 | 0,_=>exact j
 | 1,_=>exact hb
 | 2,_=>exact f
 | 3,_=>exact g
theorem Bf(h:DataW.trod enc Tryz.prog W base sp held fuel 55 cs=some y):∃b:BBk,Value.agg cs.toArray=b.v/\gT (oX W) b:=by
 obtain⟨xs,n,rfl,_,u,j,g⟩:=DataW.trod_struct Tryz.underlying55 h;rw[Cb]at u;obtain⟨M,B⟩:=VI (xs:=xs) (i:=0) (by rw[j];decide);obtain⟨N,C⟩:=VI (xs:=xs) (i:=1) (by rw[j];decide);obtain⟨O,D⟩:=VI (xs:=xs) (i:=2) (by rw[j];decide);obtain⟨Q,E⟩:=VI (xs:=xs) (i:=3) (by rw[j];decide);obtain⟨R,F⟩:=VI (xs:=xs) (i:=4) (by rw[j];decide);have q:DataW.trod enc Tryz.prog W base sp held n 3 ((cs.drop 0).take (Tryz.prog.cellsOf 3))=xs[0]?:=g 0 _ rfl;have s:DataW.trod enc Tryz.prog W base sp held n 3 ((cs.drop 1).take (Tryz.prog.cellsOf 3))=xs[1]?:=g 1 _ rfl;have t:DataW.trod enc Tryz.prog W base sp held n 3 ((cs.drop 2).take (Tryz.prog.cellsOf 3))=xs[2]?:=g 2 _ rfl;have f3:DataW.trod enc Tryz.prog W base sp held n 52 ((cs.drop 3).take (Tryz.prog.cellsOf 52))=xs[3]?:=g 3 _ rfl;have f4:DataW.trod enc Tryz.prog W base sp held n 53 ((cs.drop 4).take (Tryz.prog.cellsOf 53))=xs[4]?:=g 4 _ rfl;rw[B]at q;rw[C]at s;rw[D]at t;rw[E]at f3;rw[F]at f4;obtain⟨a,k⟩:=OO q;obtain⟨b,hb⟩:=OO s;obtain⟨c,l⟩:=OO t;obtain⟨K,e,w,z⟩:=yB (α:=NK) Tryz.underlying52 CD (by decide) (λh=>Ht h) f3;obtain⟨L,f,x,A⟩:=yB (α:=BRl) Tryz.underlying53 NH (by decide) (λh=>Wff h) f4;obtain⟨o,c1,rfl,_⟩:=id z;obtain⟨p,c2,rfl,_⟩:=id A;rw[e]at f3;rw[f]at f4;have I:=Kk Tryz.underlying52 f3;have J:=Kk Tryz.underlying53 f4;rw[u4]at k hb l;rw[Cc]at e;rw[Ca]at f;have k:=UD k;have hb:=UD hb;have l:=UD l;have e:=UD e;have f:=UD f;refine⟨⟨a,b,c,w,x,o,c1,p,c2⟩,?_,z,A,I,J⟩;have:cs=[vi a,vi b,vi c,.slice o w.length c1,.slice p x.length c2]:=u6 u λi G=>by
  match i,G with
  | 0,_=>exact k
  | 1,_=>exact hb
  | 2,_=>exact l
  | 3,_=>exact e
  | 4,_=>exact f
 rw[this];rfl
def Be(a:Value.okWide Tryz.prog W r b0 55 v)(g:DataW.Trod enc Tryz.prog W base sp held 55 v d ps):∃b:BBk,v=b.v/\gT (oX W) b:=by obtain⟨fuel,h⟩:=g;obtain⟨c,rfl⟩:=L6 Tryz.underlying55 a;obtain⟨b,e,f⟩:=Bf h;exact⟨b,by rw[<-e];simp[Value.cells],f⟩
end
