import Derived.Test.YthmnpenamnoniaaGreatDoorP31
set_option linter.all false
set_option maxHeartbeats 16000000
set_option maxRecDepth 20000
section
open Go Go.LL
namespace Go.Proofs
section
variable{f:fZ}{A1 A2 A3:Option Addr}{c1 c2 c3:Nat}{v:Value}
def Qb:ZU Tryz.prog 305=some (1,some (.map none),8):=U
def Qc:ZU Tryz.prog 306=some (1,some .nilFunc,8):=U
def Pz:ZU Tryz.prog 156=some (1,some (.slice none 0 0),24):=U
def Qn:Tryz.prog.underlying 156=some (.slice 166):=U
def NL:ZU Tryz.prog 166=some (5,some (.agg #[vi 0,vi 0,vi 0,vi 0,vi 0]),40):=U
def yF{G:Hp}{a b:Nat}{x:Obj×Bool}(c:G a=some x)(hb:G b=none):a≠b:=by rintro rfl;rw[c]at hb;simp at hb
def Pr:(⟨0,0,0,0,0⟩:R5).Ok:=by
 intro j a;match j,a with
 | 0,_ | 1,_ | 2,_ | 3,_ | 4,_=>exact⟨by decide,by decide⟩
def Zts(l:List R5):((Zh l).all Value.bS)=true:=uV (λ_=>rfl) l
def Qt{f:Int->List R5}{hi:Int}{B:Nat}(h:∀v,(f v).length<=B):∀c,(fC f hi c).length<=c * B
 | 0=>by simp[fC]
 | c+1=>by rw[fC,IN,qBU];have:=Qt h c (hi:=hi);have:=h (hi-c);omega
def Nm{f:fZ}(a:YB f.pt):∀k m,k<=f.pt.length->(Vk f k m).length<=3 ^ k
 | 0,m,_=>by rw[Vk];split<;>simp
 | k+1,m,h=>by obtain⟨e,i,j,n⟩:=Yy a (show f.pt.length-(k+1)<f.pt.length by omega);rw[Vk,e];have:=Qt (f:=λv=>Vk f k (m.put (f.pt.length-(k+1)) v)) (hi:=(f.pt[f.pt.length-(k+1)]'O).hi) (λv=>Nm a k (m.put (f.pt.length-(k+1)) v) O) ((f.pt[f.pt.length-(k+1)]'O).hi-(f.pt[f.pt.length-(k+1)]'O).lo+1).toNat;have b:((f.pt[f.pt.length-(k+1)]'O).hi-(f.pt[f.pt.length-(k+1)]'O).lo+1).toNat<=3:=O;have g:=qBz (3 ^ k) b;rw[qDb,Nat.mul_comm (3 ^ k) 3];omega
def Nk(a:YB f.pt):(ZN f).length<=243:=by have h:=Nm a f.pt.length ⟨0,0,0,0,0⟩ (AT _);have b:3 ^ f.pt.length<=3 ^ 5:=qAZ (by decide) a.n.2;exact qAE h b
section
variable{P:aY}[Tz P][Loud P]
def Zvw(hF:nM f) :
  OE P (.func (.func 188) #[.agg #[vi f.pk,.slice A1 f.pt.length c1,.slice A2 f.tp.length c2,.slice A3 f.sk.length c3]] #[]) (λH=>ZJ H (.agg #[vi f.pk,.slice A1 f.pt.length c1,.slice A2 f.tp.length c2,.slice A3 f.sk.length c3]) f) ((ZN f).map Ug):=by
 rintro y I S H ⟨yf,ya,yb,Xh⟩ hI hS hN hy Z;have Xi:y.cells=#[y]:=by rw[Xh];rfl
 refine Yg U ?_;refine aI.m (bG Zyj) (args:=[.agg #[vi f.pk,.slice A1 f.pt.length c1,.slice A2 f.tp.length c2,.slice A3 f.sk.length c3],y]) rfl ?_;unfold Ef;generalize IL:(ZN f).map Ug=z at *;have JE:JG .nil (eS z I ((ZN f).map Ug++[])) H:=⟨H,.nil,(Hp.dF H).symm,Hp.dI H,λb x h=>by simp[Hp.nil]at h,by rw[qAw,IL];exact .start Z⟩;refine Y ?_;refine YG rfl (OL _) λe IZ=>?_;obtain⟨G1,g1b,Q⟩:∃G1:Hp,G1 e=some (.cells [vi f.pk,.slice A1 f.pt.length c1,.slice A2 f.tp.length c2,.slice A3 f.sk.length c3].toArray 155,true)/\JG G1 (eS z I ((ZN f).map Ug++[])) (H.ins e (.cells (Value.agg #[vi f.pk,.slice A1 f.pt.length c1,.slice A2 f.tp.length c2,.slice A3 f.sk.length c3]).cells 155)):=⟨_,Hp.aD _ _ _,JE.new _ IZ⟩;generalize H.ins e (.cells (Value.agg #[vi f.pk,.slice A1 f.pt.length c1,.slice A2 f.tp.length c2,.slice A3 f.sk.length c3]).cells 155)=H1 at *;refine Y ?_;refine YG rfl (OL _) λj X=>?_;have hG1:=Z7 Q.inc X;obtain⟨A,i2,G,R⟩:∃A:Hp,bA G1 A/\A j=some (.cells #[y] 303,true)/\JG A (eS z I ((ZN f).map Ug++[])) (H1.ins j (.cells y.cells 303)):=⟨_,Zk hG1,by rw[<-Xi];exact Hp.aD _ _ _,Q.new _ X⟩;generalize H1.ins j (.cells y.cells 303)=H2 at *;have F:=i2 _ _ g1b;refine Y ?_;refine PL (kv:=fS) (OL _) λn V=>?_;have t:=Z7 R.inc V;obtain⟨B,i3,K,u⟩:∃B:Hp,bA A B/\B n=some (Zu fS [],true)/\JG B (eS z I ((ZN f).map Ug++[])) (H2.ins n (Zu fS [])):=⟨_,Zk t,Hp.aD _ _ _,R.new _ V⟩;generalize H2.ins n (Zu fS [])=H3 at *;have Wu:=yF F t;have Wt:=yF G t;have J:=i3 _ _ F;have L:=i3 _ _ G;refine Y ?_;refine ZV (bH Qb) (OL _) λg w=>?_;have o:=Z7 u.inc w;have hj4:=u.new (.cells (Value.map none).cells 305) w;have Wv:=yF K o;have nlb:=yF J o;have nly:=yF L o;refine Y ?_;refine Yo (v:=.map (some n)) (bH Qb) rfl rfl (Hp.aD _ _ _) rfl rfl (OL _) ?_;rw[YD];have p:=u.new (.cells #[.map (some n)] 305) w;obtain⟨C,i5,g5l,p⟩:∃C:Hp,bA B C/\C g=some (.cells #[.map (some n)] 305,true)/\JG C (eS z I ((ZN f).map Ug++[])) (H3.ins g (.cells #[.map (some n)] 305)):=⟨_,Zk o,Hp.aD _ _ _,p⟩;generalize H3.ins g (.cells #[.map (some n)] 305)=H5 at *;have M:=i5 _ _ K;have g5b:=i5 _ _ J;have g5y:=i5 _ _ L;refine Y ?_;refine ZV (bH Qc) (OL _) λi W=>?_;have O:=Z7 p.inc W;have Ws:=yF M O;refine Y ?_;refine Y8 rfl rfl (Y ?_);refine Yo (v:=sX e g j i) (bH Qc) rfl rfl (Hp.aD _ _ _) rfl rfl (OL _) ?_;rw[YD];have q:=p.new (.cells #[sX e g j i] 306) W;obtain⟨D,i6,N,q⟩:∃D:Hp,bA C D/\D i=some (.cells #[sX e g j i] 306,true)/\JG D (eS z I ((ZN f).map Ug++[])) (H5.ins i (.cells #[sX e g j i] 306)):=⟨_,Zk O,Hp.aD _ _ _,q⟩;generalize H5.ins i (.cells #[sX e g j i] 306)=H6 at *;have hf:tE D [vi f.pk,.slice A1 f.pt.length c1,.slice A2 f.tp.length c2,.slice A3 f.sk.length c3] e g n j i y:=
  ⟨i6 _ _ g5b,i6 _ _ g5l,i6 _ _ g5y,N,⟨[],λk h=>absurd rfl h,i6 _ _ M⟩,⟨qAm Wu,Wv,qAm Wt,Ws⟩⟩
 refine Y ?_;refine Zg (OL _) rfl (ZE (cs:=[sX e g j i]) (q.inc _ _ N)) (Y ?_);have c:=ZvC hF hI hS hN hy e g n j i f.pt.length ⟨0,0,0,0,0⟩ [] _ _ (AT _) Pr hf q;rw[qDa]at c;refine Yp (vs:=[YW ⟨0,0,0,0,0⟩,vi 0]) rfl rfl (Yg U c) ?_;rintro v H7 (⟨rfl,G7,_,h7⟩ | ⟨rfl,G7,h7⟩)
 ·refine Y ?_;exact .inl (h7.up (uP hI)).stop
 refine Y ?_;exact .inr (h7.up hS)
theorem Zqs{l:List R5}{n:Nat}(a:n<(l.map Ug).length):(l.map Ug)[n]=[YW (l[n]'(by simpa using a))]:=by rw[qBQ];rfl
def Zv4{H:Hp}(hf:ZJ H v f)(hF:nM f):LL.Za P 142 #[v] H λv b=>bA H b/\∃g,cS H b 166 v (ZN f) g:=by
 have Q:=hf;have jO:=Nk hF.pt;obtain⟨A1,c1,A2,c2,A3,c3,rfl,h1,h2,h3⟩:=hf;refine aI.m (bG Zyt) rfl ?_;unfold Dv;refine Y ?_;refine YG rfl (OL _) λX S=>?_;have i1:=Zk (o:=.cells (Value.agg #[vi f.pk,.slice A1 f.pt.length c1,.slice A2 f.tp.length c2,.slice A3 f.sk.length c3]).cells 155) S;have b1:aC (H.ins X (.cells (Value.agg #[vi f.pk,.slice A1 f.pt.length c1,.slice A2 f.tp.length c2,.slice A3 f.sk.length c3]).cells 155)) ⟨X,0,none⟩ [vi f.pk,.slice A1 f.pt.length c1,.slice A2 f.tp.length c2,.slice A3 f.sk.length c3]:=ZW;generalize H.ins X (.cells (Value.agg #[vi f.pk,.slice A1 f.pt.length c1,.slice A2 f.tp.length c2,.slice A3 f.sk.length c3]).cells 155)=H1 at *;refine Y ?_;refine ZV (bH Pz) (OL _) λA p=>?_;have h0:H A=none:=Z7 i1 p;refine Y ?_;refine Z5 (OL _) rfl (b1.inc (Zk p)) rfl (Y ?_);refine Y8 rfl rfl (Y ?_);refine u7 OL rfl (Zvw (A1:=A1) (A2:=A2) (A3:=A3) (c1:=c1) (c2:=c2) (c3:=c3) hF) (λx hx=>by obtain⟨k,_,rfl⟩:=qAj.1 hx;rfl)
  (λn b=>bA H b/\∃v g,b A=some (.cells #[v] 156,true)/\cS H b 166 v ((ZN f).take n) g/\g≠some A) (λe b=>False) ⟨i1.trans (Zk p),_,none,Hp.aD _ _ _,.nil _ _ _,by simp⟩
  (λn b J N ⟨B,v,g,C,w,D⟩=>⟨B.trans (Vb _ _),v,g,Hp.aJ C,w.inc (Vb _ _),D⟩) (λe b J N h=>h) (λn b h=>Q.inc h.1) ?_ ?_ ?_
 ·rintro n R K ⟨B,v,g,C,w,D⟩;rw[Zqs R];rw[qAe]at R;have u:(ZN f).take (n+1)=(ZN f).take n++[(ZN f)[n]]:=by rw[iO R]
  generalize(ZN f)[n]=x at *;refine Y ?_;refine ZV (bH NL) (OL _) λZ t=>Y ?_;refine Yz (v:=YW x) (bH NL) (cs:=[vi 0,vi 0,vi 0,vi 0,vi 0]) rfl rfl (Hp.aD _ _ _) rfl rfl rfl (OL _) ?_;rw[YD];have L:=B.trans (Zk (o:=.cells (YW x).cells 166) t);have j:=Zk (o:=.cells (YW x).cells 166) t _ _ C;have M:=w.ins (o:=.cells (YW x).cells 166) t;have c5:aC (K.ins Z (.cells (YW x).cells 166)) ⟨Z,0,none⟩ x.cells:=ZW;generalize K.ins Z (.cells (YW x).cells 166)=H4 at *;refine Y ?_;refine Zg (OL _) rfl (ZE (cs:=[v]) j) (Y ?_);refine ZL c5 (Y ?_);refine Z0 (cs:=x.cells) (OL _) rfl λr6 i=>Y ?_;refine YN (l':=[x]) (bL Qn) (bL Qn) (bH NL) rfl (by decide) (L.trans (Zk i)) (M.ins i) (YJ (l:=[x])) (Zts _) (by simp;omega) O rfl rfl (OL _) λI H6 b' k1 V k3=>?_;have g6:H6 A=some (.cells #[v] 156,true):=k3.keep A _ (Zk i _ _ j) (λe=>D e);have G:I.cells=#[I]/\Value.bS I=true:=by obtain⟨_,⟨e,_⟩ | ⟨_,_,_,_,e,_⟩⟩:=V.own<;>(subst e;exact⟨rfl,rfl⟩)
  have F:b'≠some A:=by
   rcases k3.new with rfl | ⟨q,rfl,hq⟩
   ·exact D
   rintro e;obtain rfl:=iN e;rw[Zk i _ _ j]at hq;simp at hq
  refine Y ?_;refine Yo (v:=I) (bH Pz) rfl rfl g6 G.1 G.2 (OL _) (Y ?_);refine⟨Yr k1 h0,I,b',Hp.aD _ _ _,?_,F⟩;rw[u];refine⟨V.own.sub λc z e N=>?_,V.fresh⟩;rw[Hp.aE _ _ (by rintro rfl;exact F e)];exact N
 ·rintro K ⟨B,v,g,C,w,D⟩;rw[qAe,qAh]at w;refine Y ?_;refine Zg (OL _) rfl (ZE (cs:=[v]) C) (Y ?_);exact⟨B,g,w⟩
 rintro e K he h;exact h.elim
end
def PD{G:Prop} (h:G:=by refine Y ?_;refine⟨.refl H,.inl ⟨?_,rfl⟩⟩;refine IF λhn=>?_;obtain⟨a,rfl,_⟩:=hh hn;simp at h1):G:=h
def u64:Tryz.prog.underlying 64=some (.slice 147):=U
def CM:Tryz.prog.underlying 65=some (.slice 152):=U
def oB:Tryz.prog.underlying 66=some (.slice 71):=U
def Pu:ZU Tryz.prog 147=some (3,some (.agg #[vi 0,vi 0,vi 0]),24):=U
def Px:ZU Tryz.prog 152=some (4,some (.agg #[vi 0,vi 0,vi 0,vi 0]),32):=U
def vV:ZU Tryz.prog 71=some (3,some (.agg #[vi 0,vi 0,vb false]),24):=U
def Zvz(l:List e9):((Zh l).all Value.bS)=true:=uV (λ_=>rfl) l
def Zvs(l:List n7):((Zh l).all Value.bS)=true:=uV (λ_=>rfl) l
def Dg(l:List jR):((Zh l).all Value.bS)=true:=uV (λ_=>rfl) l
abbrev XS:Value:=.agg #[vi 0,.slice none 0 0,.slice none 0 0,.slice none 0 0]
abbrev Ztr:Value:=.agg #[vi 0,.slice none 0 0,.slice none 0 0,.slice none 0 0,.slice none 0 0]
def UQ(f:fZ)(k:jR):fZ:={ f with sk:=f.sk++[k] }
def wL(f:fZ):Prop:=nM f/\ZN f≠[]
section
variable{P:aY}[Tz P][Loud P]{H:Hp}
def ZAA{l:List e9}(z:Zj H v l)(D:l.length<=1000000)(g:P.still H.gh=false) :
  LL.Za P 138 #[v] H λk i=>H.Sub i/\((l=[]/\k=.slice none 0 0)\/∃b,cS H i 147 k l b):=by
 obtain⟨A,c,rfl,hh⟩:=z;refine aI.m (bG Zyy) rfl ?_;unfold Dq;refine Y ?_;refine yJ (bL u64) rfl ?_;refine OJ (λh1=>?_) (λh1=>?_)
 ·exact PD
 refine Y ?_;refine Oj (bL u64) (bH Pu) g λr j=>Y ?_;have h:P.still (H.ins r (.cells #[] 147)).gh=false:=g;refine OZ (l:=([]:List e9)) (l':=l) (bL u64) (bL u64) (bH Pu) rfl (by decide) (Yd j) (H0:=H) (b:=some r) ⟨wR,λq e=>by obtain rfl:=iN e;exact j⟩ ⟨A,c,rfl,λhn=>by obtain⟨a,p,t⟩:=hh hn;exact⟨a,p,t.sub (Yd j)⟩⟩ (Zvz l) (by simp;omega) O rfl rfl h λk i o u n C=>Y ?_;exact⟨u,.inr ⟨o,by rw[qAn]at n;exact n⟩⟩
def ZAz{l:List n7}(z:Zj H v l)(D:l.length<=1000000)(g:P.still H.gh=false) :
  LL.Za P 139 #[v] H λk i=>H.Sub i/\((l=[]/\k=.slice none 0 0)\/∃b,cS H i 152 k l b):=by
 obtain⟨A,c,rfl,hh⟩:=z;refine aI.m (bG Zyx) rfl ?_;unfold Dr;refine Y ?_;refine yJ (bL CM) rfl ?_;refine OJ (λh1=>?_) (λh1=>?_)
 ·exact PD
 refine Y ?_;refine Oj (bL CM) (bH Px) g λr j=>Y ?_;have h:P.still (H.ins r (.cells #[] 152)).gh=false:=g;refine OZ (l:=([]:List n7)) (l':=l) (bL CM) (bL CM) (bH Px) rfl (by decide) (Yd j) (H0:=H) (b:=some r) ⟨wR,λq e=>by obtain rfl:=iN e;exact j⟩ ⟨A,c,rfl,λhn=>by obtain⟨a,p,t⟩:=hh hn;exact⟨a,p,t.sub (Yd j)⟩⟩ (Zvs l) (by simp;omega) O rfl rfl h λk i o u n C=>Y ?_;exact⟨u,.inr ⟨o,by rw[qAn]at n;exact n⟩⟩
def WL{l:List jR}(z:Zj H v l)(D:l.length<=1000000)(g:P.still H.gh=false) :
  LL.Za P 75 #[v] H λk i=>H.Sub i/\((l=[]/\k=.slice none 0 0)\/∃b,cS H i 71 k l b):=by
 obtain⟨A,c,rfl,hh⟩:=z;refine aI.m (bG ZyS) rfl ?_;unfold Ey;refine Y ?_;refine yJ (bL oB) rfl ?_;refine OJ (λh1=>?_) (λh1=>?_)
 ·exact PD
 refine Y ?_;refine Oj (bL oB) (bH vV) g λr j=>Y ?_;have h:P.still (H.ins r (.cells #[] 71)).gh=false:=g;refine OZ (l:=([]:List jR)) (l':=l) (bL oB) (bL oB) (bH vV) rfl (by decide) (Yd j) (H0:=H) (b:=some r) ⟨wR,λq e=>by obtain rfl:=iN e;exact j⟩ ⟨A,c,rfl,λhn=>by obtain⟨a,p,t⟩:=hh hn;exact⟨a,p,t.sub (Yd j)⟩⟩ (Dg l) (by simp;omega) O rfl rfl h λk i o u n C=>Y ?_;exact⟨u,.inr ⟨o,by rw[qAn]at n;exact n⟩⟩
def ZvB:LL.Za P 137 #[.agg #[vi f.pk,.slice A1 f.pt.length c1,.slice A2 f.tp.length c2,.slice A3 f.sk.length c3]] H λv a=>H=a/\v=vi 0:=by refine aI.m (bG Zyz) rfl ?_;unfold Dp;refine Y ?_;exact⟨rfl,rfl⟩
theorem XO{n:Value}{q:Int}(u:aC H ⟨0,0,none⟩ [vf 261,vf 262,vf 263])(o:ZJ H (.agg #[vi f.pk,.slice A1 f.pt.length c1,.slice A2 f.tp.length c2,.slice A3 f.sk.length c3]) f)(w:f.pt.length<=1000)
  (z:nM f->bR P n #[.agg #[vi f.pk,.slice A1 f.pt.length c1,.slice A2 f.tp.length c2,.slice A3 f.sk.length c3]] H λv g=>H=g/\v=vi q) :
  LL.Za P 81 #[.agg #[vi f.pk,.slice A1 f.pt.length c1,.slice A2 f.tp.length c2,.slice A3 f.sk.length c3],n] H λv g=>bA H g/\((∃s:Int,s≠0/\v=.tuple #[Ztr,vi s]/\¬ (wL f/\q=0)) \/
   ((wL f/\q=0)/\∃A c,v=.tuple #[.agg #[vi f.pk,.slice A1 f.pt.length c1,.slice A2 f.tp.length c2,.slice A3 f.sk.length c3,.slice A (ZN f).length c],vi 0]/\∃j,cS H g 166 (.slice A (ZN f).length c) (ZN f) j)):=by
 refine aI.m (bG ZyL) rfl ?_
 unfold Fg
 refine Y ?_
 refine Zf (vs:=[.agg #[vi f.pk,.slice A1 f.pt.length c1,.slice A2 f.tp.length c2,.slice A3 f.sk.length c3]]) (W3 u o w) ?_
 rintro v _ ⟨rfl,s,rfl,b⟩
 refine Y ?_
 refine OI (λi=>?_) (λi=>?_)
 ·refine Y ?_;exact⟨.refl _,.inl ⟨s,i,rfl,λh=>i (b.2 h.1.1)⟩⟩
 have b:=b.1 i
 refine Y ?_
 refine Yp (vs:=[.agg #[vi f.pk,.slice A1 f.pt.length c1,.slice A2 f.tp.length c2,.slice A3 f.sk.length c3]]) rfl rfl (z b) ?_
 rintro v _ ⟨rfl,rfl⟩
 refine Y ?_
 refine OI (λa=>?_) (λa=>?_)
 ·refine Y ?_;exact⟨.refl _,.inl ⟨q,a,rfl,λh=>a h.2⟩⟩
 have a:q=0:=a
 subst a
 refine Y ?_
 refine Zf (vs:=[.agg #[vi f.pk,.slice A1 f.pt.length c1,.slice A2 f.tp.length c2,.slice A3 f.sk.length c3]]) (Zv4 o b) ?_
 rintro v C ⟨p,j,t⟩
 have B:=t.sl
 obtain⟨A,c,rfl,_⟩:=id B
 refine Y ?_
 refine OI (λk=>?_) (λk=>?_)
 ·refine Y ?_;exact⟨p,.inl ⟨9,by decide,rfl,λh=>h.1.2 (qBD.1 O)⟩⟩
 ·refine Y ?_;exact⟨p,.inr ⟨⟨⟨b,λe=>by rw[e]at k;simp at k⟩,rfl⟩,A,c,rfl,j,t⟩⟩
theorem Zv5(I:aC H ⟨0,0,none⟩ [vf 261,vf 262,vf 263])(p:ZJ H (.agg #[vi f.pk,.slice A1 f.pt.length c1,.slice A2 f.tp.length c2,.slice A3 f.sk.length c3]) f)(J:f.pt.length<=1000) :
  LL.Za P 76 #[.agg #[vi f.pk,.slice A1 f.pt.length c1,.slice A2 f.tp.length c2,.slice A3 f.sk.length c3]] H λv k=>bA H k/\((∃s:Int,s≠0/\v=.tuple #[XS,vi s]) \/
   (wL f/\∃w,v=.tuple #[w,vi 0]/\ZJ k w f)):=by
 refine aI.m (bG ZyR) rfl ?_
 unfold Ez
 refine Y ?_
 refine Zf (vs:=[.agg #[vi f.pk,.slice A1 f.pt.length c1,.slice A2 f.tp.length c2,.slice A3 f.sk.length c3],.func (.func 137) #[] #[]]) (XO I p J λ_=>Yg U ZvB) ?_
 rintro v N ⟨b,⟨s,o,rfl,_⟩ | ⟨⟨a,_⟩,A,c,rfl,_,_⟩⟩
 ·refine OJ (λh=>?_) (λh=>?_)
  ·refine Y ?_;exact⟨b,.inl ⟨s,o,rfl⟩⟩
  exact absurd h o
 ·refine Y ?_;obtain⟨_,_,_,_,_,_,e,K,L,M⟩:=id (p.inc b);obtain⟨rfl,rfl,rfl,rfl,rfl,rfl⟩:_/\_/\_/\_/\_/\_:=by simp only[Value.agg.injEq,qBe,qAD,Value.slice.injEq]at e;exact⟨e.2.1.1,e.2.1.2.2,e.2.2.1.1,e.2.2.1.2.2,e.2.2.2.1.1,e.2.2.2.1.2.2⟩
  have k1:=a.1.pt.n;have Z:=a.1.tp.n;have k3:=a.1.sk.n;refine Y ?_;refine Zf (vs:=[.slice A1 f.pt.length c1]) (ZAA K O (OL _)) ?_;rintro v Q ⟨g,h⟩;obtain⟨V,q⟩:=OT h;obtain⟨z,D,rfl,_⟩:=id q.sl;refine Zr OL (Y ?_);refine Zf (vs:=[.slice A2 f.tp.length c2]) (ZAz (L.inc g.inc) O (OL _)) ?_;rintro v R ⟨i,h⟩;obtain⟨W,t⟩:=OT h;obtain⟨B,F,rfl,_⟩:=id t.sl;refine Zr OL (Y ?_);refine Zf (vs:=[.slice A3 f.sk.length c3]) (WL ((M.inc g.inc).inc i.inc) O (OL _)) ?_;rintro v S ⟨j,h⟩;obtain⟨X,u⟩:=OT h;obtain⟨C,G,rfl,_⟩:=id u.sl;refine Zr OL (Y ?_);exact⟨((b.trans g.inc).trans i.inc).trans j.inc,.inr ⟨a,_,rfl,z,D,B,F,C,G,rfl,(q.sl.inc i.inc).inc j.inc,t.sl.inc j.inc,u.sl⟩⟩
theorem Zz1{k:jR}(o:aC H ⟨0,0,none⟩ [vf 261,vf 262,vf 263])(j:ZJ H (.agg #[vi f.pk,.slice A1 f.pt.length c1,.slice A2 f.tp.length c2,.slice A3 f.sk.length c3]) f)(p:f.pt.length<=1000) :
  LL.Za P 22 #[.agg #[vi f.pk,.slice A1 f.pt.length c1,.slice A2 f.tp.length c2,.slice A3 f.sk.length c3],.agg #[vi k.h,vi k.lg,vb k.iH]] H λv i=>bA H i/\((∃s:Int,s≠0/\v=.tuple #[XS,vi s]) \/
   (wL (UQ f k)/\∃w,v=.tuple #[w,vi 0]/\ZJ i w (UQ f k))):=by
 refine aI.m (bG Zy6) rfl ?_
 unfold Fz
 refine Y ?_
 refine Zf (vs:=[.agg #[vi f.pk,.slice A1 f.pt.length c1,.slice A2 f.tp.length c2,.slice A3 f.sk.length c3]]) (W3 o j p) ?_
 rintro v _ ⟨rfl,s,rfl,b⟩
 refine Y ?_
 refine OI (λc=>?_) (λc=>?_)
 ·refine Y ?_;exact⟨.refl _,.inl ⟨s,c,rfl⟩⟩
 have b:=b.1 c
 obtain⟨_,_,_,_,_,_,e,F,G,I⟩:=id j
 obtain⟨rfl,rfl,rfl,rfl,rfl,rfl⟩:_/\_/\_/\_/\_/\_:=by simp only[Value.agg.injEq,qBe,qAD,Value.slice.injEq]at e;exact⟨e.2.1.1,e.2.1.2.2,e.2.2.1.1,e.2.2.1.2.2,e.2.2.2.1.1,e.2.2.2.1.2.2⟩
 have k1:=b.pt.n
 have C:=b.sk.n
 refine Y ?_
 refine Zf (vs:=[.slice A3 f.sk.length c3]) (WL I O (OL _)) ?_
 rintro v K ⟨g,h⟩
 obtain⟨N,D⟩:=OT h
 refine Zr OL ?_
 refine Y ?_
 refine Z0 (cs:=[vi k.h,vi k.lg,vb k.iH]) (OL _) rfl λS a=>?_
 refine Zr OL ?_
 refine Y ?_
 refine YN (l':=[k]) (bL oB) (bL oB) (bH vV) rfl (by decide) (g.inc.trans (Zk a)) (D.ins a) (YJ (l:=[k])) rfl (by simp;omega) O rfl rfl (OL _) λU L Q k1 B C=>?_
 have u:=B.sl
 obtain⟨J,R,rfl,_⟩:=id u
 refine Y ?_
 refine Zf (vs:=[.agg #[vi f.pk,.slice A1 f.pt.length c1,.slice A2 f.tp.length c2,.slice J (f.sk++[k]).length R]]) (Zv5 (f:=UQ f k) (aC.inc o k1) ⟨_,_,_,_,_,_,rfl,F.inc k1,G.inc k1,u⟩ p) ?_
 rintro v M ⟨t,⟨s,z,rfl⟩ | ⟨A,w,rfl,q⟩⟩
 ·refine Y ?_;exact⟨k1.trans t,.inl ⟨s,z,rfl⟩⟩
 ·obtain⟨_,_,_,_,_,_,rfl,_⟩:=id q;refine Y ?_;exact⟨k1.trans t,.inr ⟨A,_,rfl,q⟩⟩
end
end
end Go.Proofs
end
section
open Go Go.LL
namespace Go.LL
section
variable{sT E T:TypeId}{bP r0 c0:Nat}{zv s x0:Value}{cs:List Value}{a0:Addr}
def sD(H:Hp)(E:TypeId)(v:Value)(cs:List Value)(r:Nat):Prop:=
 ∃cap pre rest,v=.slice (some ⟨r,pre.length,none⟩) cs.length cap/\H r=some (.cells (pre++(cs++rest)).toArray E (0,0),true)/\cs.length<=cap/\cap<=cs.length+rest.length
section
variable{P:aY}{H:Hp}{d:Option Nat}{next:aL->Hp->Prop}{σ:aL}{x y:Operand}
def ZzB(hu:P.toProgram.underlying sT=some (.slice E))(ti:TI P.toProgram E 1 zv bP)(hz:zv.cells.size=1)
  (U:sD H E s cs r0) (hw:aC H a0 [x0]) (I:Value.bS x0=true) (hb1:cs.length+1<=1000000000) (L:bP<=1000) (i:P.still H.gh=false)
  {K:Value->Hp->Prop} (h:∀W q ,(∃R X,W=.slice (some R) (cs.length+1) X/\aC q R (cs++[x0]))->sD q E s cs r0->(∀c y,H c=some y->r0≠c->q c=some y)->K W q):bD P.toPQ (Builtin.append_ #[sT,sT] T #[s,.slice (some a0) 1 c0]) (λv _ q=>K v q) false H:=by
 obtain⟨Xf,G,i2,i3,N⟩:=ti.ex;have ho0:=U;obtain⟨cap,pre,rest,rfl,J,h4,h5⟩:=U;generalize S:cs.length=n at *;have b:∀(Q:Array Value->Bool->Hp->Prop) g,Q [x0].toArray g H->bD P.toPQ (Builtin.firstCells 1 1 (.slice (some a0) 1 c0)) Q g H:=by intro Q g m;simp only[Builtin.firstCells];exact B4 i hw m rfl
 have F:∀(Q:Array Value->Bool->Hp->Prop) g,Q cs.toArray g H->bD P.toPQ (Builtin.firstCells 1 n (.slice (some ⟨r0,pre.length,none⟩) n cap)) Q g H:=by intro Q g m;simp only[Builtin.firstCells];refine B4 (cs:=cs) i ⟨rfl,_,_,J,λj B=>?_⟩ m O;simp only[Obj.fT,qAt];rw[qAY O,Nat.add_sub_cancel_left,qAB B]
 have D:∀(Q:Nat->Bool->Hp->Prop) g,Q 1 g H->bD P.toPQ (Builtin.lenOf (.slice (some a0) 1 c0)) Q g H:=by intro Q g m;simpa[Builtin.lenOf,Zi]using m
 simp only[Builtin.append_,qAt,qBr,qAW,Ze,ZA hu,Yf G,i2,Zi,dO,qAf];refine D _ _ ?_;simp only[qCt,qAH];by_cases C:n+1<=cap
 ·rw[BY C];simp only[Ze,Zi];refine b _ _ ?_;have ha:(⟨r0,pre.length,none⟩:Addr).add (n * 1)=⟨r0,pre.length+n,none⟩:=by rw[vP rfl,qCz]
  rw[ha];have p:1<=rest.length:=O;obtain⟨z,a,rfl⟩:∃z a,rest=z :: a:=by
   cases rest with
   | nil=>simp at p
   | cons z t=>exact⟨z,t,rfl⟩
  refine vM _ _ [x0] (pre.length+n) 0 (pre++(cs++z :: a)) H i J (by simp[I]) (by simp;omega) ?_;have Y:(pre++(cs++z :: a)).take (pre.length+n+0)=pre++cs:=by rw[qBB,<-qAS,qBE (by simp;omega),qAz (by simp;omega)]
  have Z:(pre++(cs++z :: a)).drop (pre.length+n+0+[x0].length)=a:=by rw[qBB,<-qAS,qDf,qBb (by simp;omega),qAn];rw[show pre.length+n+[x0].length-(pre++cs).length=1 by simp;omega];rfl
  rw[Y,Z];refine h _ _ ⟨_,_,rfl,rfl,_,_,Hp.aD _ _ _,λj B=>?_⟩ ⟨cap,pre,x0 :: a,by rw[S],?_,O,by simp at h5 ⊢;omega⟩ λc y o M=>?_
  ·simp only[Obj.fT,qAt];rw[qAS,qAS,qAY O,Nat.add_sub_cancel_left,<-qAS,qAB B]
  ·rw[Hp.aD];simp
  rw[Hp.aE _ _ (by rintro rfl;exact M rfl)];exact o
 rw[bY C];simp only[Ze,OH G,N];rw[bY (by rintro⟨h,_⟩;simp[IntKind.max,IntKind.bits,IntKind.signed]at h;omega)];simp only[Ze,Zi,OH G,N];have w:¬ Builtin.nextslicecap (n+1) cap * bP > 2 ^ 48:=by have I:=Lo (need:=n+1) (old:=cap) O;have h2:Builtin.nextslicecap (n+1) cap * bP<=(2 * (n+1)+200) * 1000:=qBN I L;omega
 rw[bY w];simp only[Ze,Zi,choose];rw[bD];simp only[Question.forced,dO,qAf];refine⟨i,λt=>?_⟩;have A:n+1<=(Question.appendCap (n+1) cap E).cut t:=by simp only[Question.cut];omega
 generalize(Question.appendCap (n+1) cap E).cut t=V at A;rw[bD];have u:∀(Q:Unit->Bool->Hp->Prop),Q () false H->bD P.toPQ (askRoom (V * bP)) Q false H:=by
  intro Q m;unfold askRoom;split
  ·exact⟨.inr ⟨rfl,i⟩,m⟩
  exact m
 rw[OH G,N];refine u _ ?_;refine F _ _ ?_;refine b _ _ ?_;simp only[Uu G i3,newRow,Ze,newObj,Zi];refine⟨i,λr hr=>?_⟩;have k:∀c y,H c=some y->(H.ins r (.cells (cs.toArray++[x0].toArray++Builtin.zeroCells zv.cells (V-(n+1))) E)) c=some y:=λc y o=>by rw[Hp.aE _ _ (by rintro rfl;rw[hr]at o;simp at o)];exact o
 refine h _ _ ⟨_,_,rfl,rfl,_,_,Hp.aD _ _ _,λj B=>?_⟩ ⟨cap,pre,rest,by rw[S],k _ _ J,O,O⟩ λc y o _=>k c y o;simp only[Obj.fT,qAP];rw[Array.getElem?_append_left (by simpa using B)];simp
def Kn(t:P.toProgram.underlying sT=some (.slice E))(z:TI P.toProgram E 1 zv bP)(w:zv.cells.size=1)(j:σ.get x=some s)(k:σ.get y=some (.slice (some a0) 1 c0))
  (q:sD H E s cs r0) (u:aC H a0 [x0]) (p:Value.bS x0=true) (b:cs.length+1<=1000000000) (e:bP<=1000) (g:P.still H.gh=false)
  (h:∀n a ,(∃i o,n=.slice (some i) (cs.length+1) o/\aC a i (cs++[x0]))->sD a E s cs r0->(∀c y,H c=some y->r0≠c->a c=some y)->next (σ.set d n) a):(aR.raw (.call { callee:=.builtin .append,args:=#[x,y],argTypes:=#[sT,sT] }) T).m P d next σ H:=by
 refine YX (s:=Builtin.append_ #[sT,sT] T #[s,.slice (some a0) 1 c0]) (by simp[Op.operands,Call.operands,j,k]) (by simp[execOp,aN,resolve,invoke,builtin,j,k]) ?_;exact ZzB (T:=T) t z w q u p b e g h
end
end
end Go.LL
end
open Go Go.LL
namespace Go.Proofs
section
variable{l:List Int}{v:Value}{H0:Hp}
def yK(n:Int)(l:List Int):Prop:=n∈l/\∀z∈l,n<=z
def yL(n:Int)(l:List Int):Prop:=n∈l/\∀z∈l,z<=n
section
variable{P:aY}[Tz P][Loud P]{H:Hp}
theorem Qd(h:1<=l.length):l.take 1=[l[0]]:=by
 match l,h with
 | a :: t,_=>rfl
def ZAd(g:Zj H v l)(t:1<=l.length/\l.length<=1000000):LL.Za P 190 #[v] H λv b=>H=b/\∃n,v=vi n/\yL n l:=by
 refine aI.m (bG Zyg) rfl ?_;unfold Ei;refine Y ?_;refine ZK g rfl ?_;refine OJ (λo=>?_) (λo=>?_)
 ·exact absurd o O
 refine Y ?_;refine Zo 0 g O λa i=>Y ?_;refine Z9 i (Y ?_);refine Z4 (l.length-1) (λj (m:Int) b=>H=b/\yL m (l.take (j+1))) (λj m=>[(0,v),(3,vi m),(4,vi ((j:Int)+1))]) (λ_ _=>[]) (l[0]'O) ⟨rfl,by rw[Qd t.1];exact⟨iF.2 rfl,λz k=>by rw[iF.1 k];exact qAA _⟩⟩ V trivial ?_;rintro j m _ u ⟨rfl,e⟩;refine Y ?_;refine ZK g rfl ?_;refine OJ (λq=>?_) (λq=>?_)
 ·have c:j+1<l.length:=O;have p:(j:Int)+1=((j+1:Nat):Int):=rfl;refine Y ?_;rw[p];refine Zo (j+1) g c λa i=>Y ?_;refine Z9 i (Y ?_);refine CD rfl rfl (Y ?_);refine D9 (I:=λj (m:Int) b=>H=b/\yL m (l.take (j+1))) (env:=λj m=>[(0,v),(3,vi m),(4,vi ((j:Int)+1))]) (box:=λ_ _=>[]) (max m l[j+1]) O ⟨rfl,?_⟩ V trivial rfl;rw[iO c];refine⟨?_,λz k=>?_⟩
  ·rcases Int.le_total m l[j+1]with h | h
   ·rw[Int.max_eq_right h];exact List.mem_append_right _ (iF.2 rfl)
   rw[Int.max_eq_left h];exact qCj _ e.1
  rcases qAi.1 k with h | h
  ·have:=e.2 z h;omega
  rw[iF.1 h];omega
 refine Y ?_;rw[qAz O]at e;exact⟨rfl,m,rfl,e⟩
def ZAc(g:Zj H v l)(t:1<=l.length/\l.length<=1000000):LL.Za P 189 #[v] H λv b=>H=b/\∃n,v=vi n/\yK n l:=by
 refine aI.m (bG Zyi) rfl ?_;unfold Eg;refine Y ?_;refine ZK g rfl ?_;refine OJ (λo=>?_) (λo=>?_)
 ·exact absurd o O
 refine Y ?_;refine Zo 0 g O λa i=>Y ?_;refine Z9 i (Y ?_);refine Z4 (l.length-1) (λj (m:Int) b=>H=b/\yK m (l.take (j+1))) (λj m=>[(0,v),(3,vi m),(4,vi ((j:Int)+1))]) (λ_ _=>[]) (l[0]'O) ⟨rfl,by rw[Qd t.1];exact⟨iF.2 rfl,λz k=>by rw[iF.1 k];exact qAA _⟩⟩ V trivial ?_;rintro j m _ u ⟨rfl,e⟩;refine Y ?_;refine ZK g rfl ?_;refine OJ (λq=>?_) (λq=>?_)
 ·have c:j+1<l.length:=O;have p:(j:Int)+1=((j+1:Nat):Int):=rfl;refine Y ?_;rw[p];refine Zo (j+1) g c λa i=>Y ?_;refine Z9 i (Y ?_);refine PM rfl rfl (Y ?_);refine D9 (I:=λj (m:Int) b=>H=b/\yK m (l.take (j+1))) (env:=λj m=>[(0,v),(3,vi m),(4,vi ((j:Int)+1))]) (box:=λ_ _=>[]) (min m l[j+1]) O ⟨rfl,?_⟩ V trivial rfl;rw[iO c];refine⟨?_,λz k=>?_⟩
  ·rcases Int.le_total m l[j+1]with h | h
   ·rw[Int.min_eq_left h];exact qCj _ e.1
   rw[Int.min_eq_right h];exact List.mem_append_right _ (iF.2 rfl)
  rcases qAi.1 k with h | h
  ·have:=e.2 z h;omega
  rw[iF.1 h];omega
 refine Y ?_;rw[qAz O]at e;exact⟨rfl,m,rfl,e⟩
def ZvN{x:Int}{r:Nat}(W:sD H 3 v (Zh l) r)(A:bA H0 H)(S:H0 r=none)(hn:l.length<=100000) :
  LL.Za P 146 #[vi x,v] H λv g=>bA H0 g/\∃B A,v=.agg #[vi B,vi A]/\yK B (x :: l)/\yL A (x :: l):=by
 have p:(Zh l).length=l.length:=by rw[UC];exact qCz _
 have i:∀{R:Value} {g:Hp},(∃n I,R=.slice (some n) ((Zh l).length+1) I/\aC g n (Zh l++[vi x]))->Zj g R (l++[x]):=by rintro _ g ⟨n,I,rfl,q⟩;refine⟨some n,I,by rw[p,IN];rfl,λ_=>⟨n,rfl,?_⟩⟩;rw[xZ,Zwz];exact q
 have w:∀{F g:Hp},bA H0 F->(∀c y,F c=some y->r≠c->g c=some y)->bA H0 g:=λU V c y q=>V c y (U c y q) (by rintro rfl;rw[S]at q;simp at q);refine aI.m (bG Zyp) rfl ?_;unfold Dz;refine Y ?_;refine Z0 (cs:=[vi x]) (OL _) rfl λC t=>?_;have M:sD (H.ins C (.cells [vi x].toArray 3)) 3 v (Zh l) r:=by obtain⟨cap,pre,rest,e,J,K⟩:=W;exact⟨cap,pre,rest,e,Zk t _ _ J,K⟩
 have c1:aC (H.ins C (.cells [vi x].toArray 3)) ⟨C,0,none⟩ [vi x]:=ZW;have X:=A.trans (Zk (o:=.cells [vi x].toArray 3) t);generalize H.ins C (.cells [vi x].toArray 3)=F at *;refine Y ?_;refine Kn (bL eW) (bH t3) rfl rfl rfl M c1 rfl O O (OL _) λv2 G k1 k2 k3=>?_;have Z:=w X k3;refine Y ?_;refine Zf (vs:=[v2]) (ZAc (l:=l++[x]) (i k1) ⟨by simp,by rw[IN];show l.length+1<=_;omega⟩) ?_;rintro v _ ⟨rfl,B,rfl,k⟩;refine Y ?_;refine PM rfl rfl (Y ?_);refine Z0 (cs:=[vi x]) (OL _) rfl λD u=>?_;have N:sD (G.ins D (.cells [vi x].toArray 3)) 3 v (Zh l) r:=by obtain⟨cap,pre,rest,e,J,K⟩:=k2;exact⟨cap,pre,rest,e,Zk u _ _ J,K⟩
 have c3:aC (G.ins D (.cells [vi x].toArray 3)) ⟨D,0,none⟩ [vi x]:=ZW;have i3:=Z.trans (Zk (o:=.cells [vi x].toArray 3) u);generalize G.ins D (.cells [vi x].toArray 3)=H3 at *;refine Y ?_;refine Kn (bL eW) (bH t3) rfl rfl rfl N c3 rfl O O (OL _) λv4 H4 m1 m2 m3=>?_;have i4:=w i3 m3;refine Y ?_;refine Zf (vs:=[v4]) (ZAd (l:=l++[x]) (i m1) ⟨by simp,by rw[IN];show l.length+1<=_;omega⟩) ?_;rintro v _ ⟨rfl,L,rfl,j⟩;refine Y ?_;refine CD rfl rfl (Y ?_);refine⟨i4,min x B,max x L,rfl,?_,?_⟩
 ·have a:=k.2 x (by simp);rw[Int.min_eq_right a];exact⟨(qAi.1 k.1).elim (λh=>qAc _ h) (λh=>by rw[iF.1 h];exact qAs),λz Q=>k.2 z ((DO.1 Q).elim (λh=>by rw[h];simp) λh=>qCj _ h)⟩
 have a:=j.2 x (by simp);rw[Int.max_eq_right a];exact⟨(qAi.1 j.1).elim (λh=>qAc _ h) (λh=>by rw[iF.1 h];exact qAs),λz Q=>j.2 z ((DO.1 Q).elim (λh=>by rw[h];simp) λh=>qCj _ h)⟩
def Zvu{b:Option Nat}(n:cS H0 H 3 v l b)(e:bA H0 H)(z:1<=l.length/\l.length<=100000) :
  LL.Za P 83 #[v] H λv A=>bA H0 A/\∃lo e,v=.agg #[vi lo,vi e]/\yK lo l/\yL e l:=by
 have p:=n.sl;obtain⟨I,⟨_,J,_⟩ | ⟨r,cap,rest,rfl,rfl,h,i,C⟩⟩:=n.own
 ·omega
 have o:=n.fresh r rfl;obtain⟨x,t,rfl⟩:∃x t,l=x :: t:=by
  match l,z with
  | a :: t,_=>exact⟨a,t,rfl⟩
 refine aI.m (bG ZyJ) rfl ?_;unfold Fi;refine Y ?_;refine Zo 0 p (by simp) λa D=>Y ?_;refine Z9 D (Y ?_);refine Oh (bL eW) (bH t3) (lo:=1) rfl rfl (by simp) ?_;have g:Zh (x :: t)=[vi x]++Zh t:=rfl;have q:(Zh t).length=t.length:=by rw[UC];exact qCz _
 have c:sD H 3 (.slice (if cap=1 then some ⟨r,0,none⟩else(some (⟨r,0,none⟩:Addr)).map (·.add (1 * 1))) ((x :: t).length-1) (cap-1)) (Zh t) r:=by
  have B:cap * Enc.sz Int=cap:=qCz _;rw[g]at h i;rw[B]at i;simp only[IN,qAI,List.length_nil,q]at i C;by_cases u:cap=1
  ·subst u;have:t=[]:=qBD.1 O;subst this;exact⟨0,[],[vi x]++rest,by simp[Zh],by simpa[Zh]using h,by simp[Zh],by simp⟩
  refine⟨cap-1,[vi x],rest,?_,by rw[<-qAS];exact h,O,O⟩;rw[bY u,q];rfl
 generalize(Value.slice (if cap=1 then some ⟨r,0,none⟩else(some (⟨r,0,none⟩:Addr)).map (·.add (1 * 1))) ((x :: t).length-1) (cap-1))=w at *;refine Y ?_;refine Zf (vs:=[vi x,w]) (ZvN c e o (by simp at z;omega)) ?_;rintro v G ⟨F,lo,j,rfl,k⟩;refine Y ?_;exact⟨F,lo,j,rfl,k⟩
end
end
variable{f:fZ}{r:R5}{v:Value}{x:Int}{r3:Nat}
def xH:ZU Tryz.prog 158=some (5,some (.agg #[vi 0,.slice none 0 0,.slice none 0 0,.slice none 0 0,.slice none 0 0]),104):=U
def LI{α:Type}{f:Int->List α}{b:Int}{x:α}:∀c:Nat,x∈fC f b c↔∃j:Nat,j<c/\x∈f (b-j)
 | 0=>by simp[fC]
 | c+1=>by
  rw[fC,qAi,LI c];constructor
  ·rintro(h | ⟨j,g,a⟩)
   ·exact⟨c,O,h⟩
   exact⟨j,O,a⟩
  rintro⟨j,g,a⟩;by_cases e:j=c
  ·exact .inl (e ▸ a)
  exact .inr ⟨j,O,a⟩
def Nn{f:fZ}(b:YB f.pt){r:R5}:∀k m,k<=f.pt.length->m.Ok->r∈Vk f k m->r.Ok
 | 0,m,_,a,h=>by
  rw[Vk]at h;split at h
  ·rw[iF.1 h];exact a
  simp at h
 | k+1,m,i,a,h=>by obtain⟨e,n,o,p⟩:=Yy b (show f.pt.length-(k+1)<f.pt.length by omega);rw[Vk,e,LI]at h;obtain⟨j,g,c⟩:=h;exact Nn b k _ O (Jx a ⟨O,O⟩) c
def Zqr(a:YB f.pt)(h:r∈ZN f):r.Ok:=Nn a _ _ (AT _) Pr h
def Zvx{k:jR}(h:U0 (UQ f k) r=true):U0 f r=true:=by have e:U0 (UQ f k) r=(f.tp.all (rJ f.pt r) && (f.sk++[k]).all (tO f.pt r)):=rfl;rw[e,qCI]at h;rw[U0];simp only[oR]at h ⊢;exact⟨h.1,h.2.1⟩
def No{f:fZ}{s:jR}{r:R5}:∀k m,r∈Vk (UQ f s) k m->r∈Vk f k m
 | 0,m,h=>by
  rw[Vk]at h ⊢;split at h
  ·rename_i g;rw[BY (Zvx g)];exact h
  simp at h
 | k+1,m,h=>by rw[Vk,LI]at h ⊢;obtain⟨j,a,b⟩:=h;exact⟨j,a,No k _ b⟩
def Nl{s:jR}(h:r∈ZN (UQ f s)):r∈ZN f:=No _ _ h
section
variable{P:aY}[Tz P][Loud P]{H:Hp}
def ZuJ{c:Nat}(b:ZJ H v f)(i:1<=f.pt.length/\f.pt.length<=1000)(j:VS f.pt<=x/\x<=VR f.pt)(c2:aC H ⟨c,0,none⟩ [vi x])(c3:aC H ⟨r3,0,none⟩ [vi 0]) :
  LL.Za P 143 #[v,pt c,pt r3] H λv e=>H=e/\v=vi 0:=by
 have a:=b;obtain⟨A1,c1,A2,g,A3,h,rfl,k,n,o⟩:=b;refine aI.m (bG Zys) rfl ?_;unfold Dw;refine Y ?_;refine Z9 c2 (Y ?_);refine Zl (vs:=[.agg #[vi f.pk,.slice A1 f.pt.length c1,.slice A2 f.tp.length g,.slice A3 f.sk.length h],vi x]) (TZ a i) ?_;rw[decide_eq_true j];refine Y ?_;refine Z9 c3 (Y ?_);refine Zl (vs:=[vi 0,vi 0,vi 959]) (sV _ _ _) (Y ?_);exact⟨rfl,rfl⟩
def LB{z:Int}:LL.Za P 82 #[vi x,vi z] H λv c=>bA H c/\∃b r3,v=.func (.func 143) #[] #[pt b,pt r3]/\aC c ⟨b,0,none⟩ [vi x]/\aC c ⟨r3,0,none⟩ [vi z]:=by refine aI.m (bG ZyK) rfl ?_;unfold Fh;refine Y ?_;refine YG rfl (OL _) λb e=>?_;have n:=Zk (o:=.cells (vi x).cells 3) e;have j:aC (H.ins b (.cells (vi x).cells 3)) ⟨b,0,none⟩ [vi x]:=ZW;generalize H.ins b (.cells (vi x).cells 3)=h at *;refine Y ?_;refine YG rfl (OL _) λr3 g=>?_;have i:=Zk (o:=.cells (vi z).cells 3) g;have k:aC (h.ins r3 (.cells (vi z).cells 3)) ⟨r3,0,none⟩ [vi z]:=ZW;generalize h.ins r3 (.cells (vi z).cells 3)=p at *;refine Y ?_;refine Y8 rfl rfl (Y ?_);exact⟨n.trans i,b,r3,rfl,j.inc i,k⟩
def Zzs{a:Nat}{A1 A2 A3:Option Addr}{c1 c2 c3:Nat}{w:Value}(c:ZJ H (.agg #[vi f.pk,.slice A1 f.pt.length c1,.slice A2 f.tp.length c2,.slice A3 f.sk.length c3]) f)(e:YB f.pt)(g:r.Ok)(h:VS f.pt<=x/\x<=VR f.pt)
  (j:aC H ⟨a,0,none⟩ ([vi f.pk,.slice A1 f.pt.length c1,.slice A2 f.tp.length c2,.slice A3 f.sk.length c3]++[w])) (i:aC H ⟨r3,0,none⟩ [vi x]) :
  LL.Za P 85 #[YW r,pt a,pt r3] H λv b=>H=b/\v=vi (lW f.pt r x):=by
 refine aI.m (bG ZyH) rfl ?_;unfold Fl;refine Y ?_;refine Z5 (OL _) rfl (by rw[add_zero];exact Z2 j) rfl (Y ?_);refine Z9 i (Y ?_);refine Zl (vs:=[.agg #[vi f.pk,.slice A1 f.pt.length c1,.slice A2 f.tp.length c2,.slice A3 f.sk.length c3],YW r,vi x]) (TY c e g h) (Y ?_);exact⟨rfl,rfl⟩
theorem Zpm{k:Value}{l:List R5}{g:R5->Int}(q:Zj H v l)(N:l.length<=1000)(D:∀r∈l,∀e,bA H e->bR P k #[YW r] e λw p=>e=p/\w=vi (g r)) :
  LL.Za P 84 #[v,k] H λJ e=>bA H e/\∃z,cS H e 3 J (l.map g) z:=by
 obtain⟨A,c,rfl,F⟩:=id q;refine aI.m (bG ZyI) rfl ?_;unfold Fj;refine Y ?_;refine Z4 (α:=Value×Option Nat) l.length (λj s e=>bA H e/\cS H e 3 s.1 ((l.take j).map g) s.2) (λj s=>[(1,k),(5,s.1),(8,.slice A l.length c),(9,vi l.length),(10,vi j)]) (λ_ _=>[]) (.slice none 0 0,none) ⟨.refl _,.nil _ _ _⟩ V trivial ?_;rintro j ⟨w,b⟩ t M ⟨n,o⟩;simp only at o;refine OJ (λB=>?_) (λB=>?_)
 ·have h:j<l.length:=O;refine Y ?_;refine Zo j (q.inc n) h λa C=>Y ?_;refine ZL C (Y ?_);refine Yp (vs:=[YW l[j]]) rfl rfl (D _ (qAa h) t n) ?_;rintro v _ ⟨rfl,rfl⟩;refine Y ?_;refine Z0 (cs:=[vi (g l[j])]) (OL _) rfl λR i=>Y ?_;refine YN (l':=[g l[j]]) (bL eW) (bL eW) (bH t3) rfl (by decide) (n.trans (Zk i)) (o.ins i) (YJ (l:=[g l[j]])) (KX _) (by simp;omega) O rfl rfl (OL _) λK L u k1 G Q=>Y ?_;refine D9 (I:=λj (s:Value×Option Nat) e=>bA H e/\cS H e 3 s.1 ((l.take j).map g) s.2) (env:=λj s=>[(1,k),(5,s.1),(8,.slice A l.length c),(9,vi l.length),(10,vi j)]) (box:=λ_ _=>[]) (K,u) h ⟨k1,?_⟩ V trivial rfl;rw[iO h,qBi];exact G
 have:j=l.length:=O;subst this;rw[qAh]at o;refine Y ?_;exact⟨n,b,o⟩
def T1{bv:Value}(hg:aC H ⟨0,0,none⟩ [vf 261,vf 262,vf 263])(hf:ZJ H bv f)(X:wL f)(hx:VS f.pt<=x/\x<=VR f.pt) :
  LL.Za P 27 #[bv,vi x] H λv C=>bA H C/\∃lo I,v=.tuple #[.agg #[vi lo,vi I],vi 0]/\yK lo ((ZN f).map λr=>lW f.pt r x)/\yL I ((ZN f).map λr=>lW f.pt r x):=by
 have K:=hf;have hn:=X.1.pt.n;obtain⟨A1,c1,A2,c2,A3,c3,rfl,_⟩:=hf;refine aI.m (bG Zy1) rfl ?_;unfold En;refine OB ?_;refine YG rfl (OL _) λr3 CW=>?_;have B:=Zk (o:=.cells (vi x).cells 3) CW;have W:aC (H.ins r3 (.cells (vi x).cells 3)) ⟨r3,0,none⟩ [vi x]:=ZW;generalize H.ins r3 (.cells (vi x).cells 3)=H1 at *;refine OB ?_;refine Y9 (ι:=Nat×Value) (λs C=>bA H C/\aC C ⟨r3,0,none⟩ [vi x]/\∃A c,s.2=.slice A (ZN f).length c/\Zj C s.2 (ZN f)/\aC C ⟨s.1,0,none⟩ ([vi f.pk,.slice A1 f.pt.length c1,.slice A2 f.tp.length c2,.slice A3 f.sk.length c3]++[s.2])) (λs=>[(3,pt r3),(4,vi 0),(5,vi 0),(6,pt s.1),(7,vi 0)]) (λ_=>[(4,[vi 0,vi 0])]) ?_ ?_
 ·have L:∀{w:Hp} {Q R:Nat},bA H w->aC w ⟨Q,0,none⟩ [vi x]->aC w ⟨R,0,none⟩ [vi 0]->LL.Za P 81 #[.agg #[vi f.pk,.slice A1 f.pt.length c1,.slice A2 f.tp.length c2,.slice A3 f.sk.length c3],.func (.func 143) #[] #[pt Q,pt R]] w λv C=>bA w C/\∃A c,v=.tuple #[.agg #[vi f.pk,.slice A1 f.pt.length c1,.slice A2 f.tp.length c2,.slice A3 f.sk.length c3,.slice A (ZN f).length c],vi 0]/\∃F,cS w C 166 (.slice A (ZN f).length c) (ZN f) F:=by
   intro w Q R Z M N;refine LL.Za.mono (XO (q:=0) (aC.inc hg Z) (K.inc Z) O λ_=>Yg (first:=#[]) (cap:=#[pt Q,pt R]) (args:=#[.agg #[vi f.pk,.slice A1 f.pt.length c1,.slice A2 f.tp.length c2,.slice A3 f.sk.length c3]]) U (ZuJ (K.inc Z) O hx M N)) ?_;rintro v C ⟨j,⟨s,_,_,h⟩ | ⟨_,h⟩⟩
   ·exact absurd ⟨X,rfl⟩ h
   exact⟨j,h⟩
  refine ZtY (OL _) ?_ ?_ ?_
  ·refine Y ?_;refine Z9 W (Y ?_);refine ZV (bH xH) (OL _) λk i=>?_;refine K7 OL (λb y hb=>Zk i _ _ hb) ?_;have t:=Zk (o:=.cells (Value.agg #[vi 0,.slice none 0 0,.slice none 0 0,.slice none 0 0,.slice none 0 0]).cells 158) i;have J:(H1.ins k (.cells (Value.agg #[vi 0,.slice none 0 0,.slice none 0 0,.slice none 0 0,.slice none 0 0]).cells 158)) k=some (.cells [vi 0,.slice none 0 0,.slice none 0 0,.slice none 0 0,.slice none 0 0].toArray 158 (0,0),true):=Hp.aD _ _ _;generalize H1.ins k (.cells (Value.agg #[vi 0,.slice none 0 0,.slice none 0 0,.slice none 0 0,.slice none 0 0]).cells 158)=w at *;refine Y ?_;refine Zf (vs:=[vi x,vi 0]) LB ?_;rintro v S ⟨j,Q,R,rfl,M,N⟩;refine Zr OL (Y ?_);refine Zf (vs:=[.agg #[vi f.pk,.slice A1 f.pt.length c1,.slice A2 f.tp.length c2,.slice A3 f.sk.length c3],.func (.func 143) #[] #[pt Q,pt R]]) (L ((B.trans t).trans j) M N) ?_;rintro v H4 ⟨u,A,c,rfl,F,D⟩;refine Y ?_;refine Yz (v:=.agg #[vi f.pk,.slice A1 f.pt.length c1,.slice A2 f.tp.length c2,.slice A3 f.sk.length c3,.slice A (ZN f).length c]) (bH xH) rfl rfl (u _ _ (j _ _ J)) rfl rfl rfl (OL _) ?_;refine Zr OL (Y ?_);refine⟨(k,.slice A (ZN f).length c),⟨Yr (((B.trans t).trans j).trans u) (Z7 B i),W.inc (Yr ((t.trans j).trans u) (i)),A,c,rfl,cS.sl (H0:=H) (E:=166) (b:=F) ⟨D.own.sub λa z e G=>?_,λq e=>?_⟩,ZW⟩,V,V,rfl⟩
   ·rw[Hp.aE _ _ (by rintro rfl;have:=D.fresh _ e;rw[j _ _ J]at this;simp at this)];exact G
   exact Z7 ((B.trans t).trans j) (D.fresh q e)
  ·refine Y ?_;refine Z9 W (Y ?_);refine Zf (vs:=[vi x,vi 0]) LB ?_;rintro v w ⟨j,Q,R,rfl,M,N⟩;refine Zr OL (Y ?_);refine ZV (bH xH) (OL _) λk i=>?_;refine Zr OL ?_;have t:=Zk (o:=.cells (Value.agg #[vi 0,.slice none 0 0,.slice none 0 0,.slice none 0 0,.slice none 0 0]).cells 158) i;have J:(w.ins k (.cells (Value.agg #[vi 0,.slice none 0 0,.slice none 0 0,.slice none 0 0,.slice none 0 0]).cells 158)) k=some (.cells [vi 0,.slice none 0 0,.slice none 0 0,.slice none 0 0,.slice none 0 0].toArray 158 (0,0),true):=Hp.aD _ _ _;generalize w.ins k (.cells (Value.agg #[vi 0,.slice none 0 0,.slice none 0 0,.slice none 0 0,.slice none 0 0]).cells 158)=S at *;refine Y ?_;refine Zf (vs:=[.agg #[vi f.pk,.slice A1 f.pt.length c1,.slice A2 f.tp.length c2,.slice A3 f.sk.length c3],.func (.func 143) #[] #[pt Q,pt R]]) (L ((B.trans j).trans t) (M.inc t) (N.inc t)) ?_;rintro v H4 ⟨u,A,c,rfl,F,D⟩;refine Y ?_;refine Yz (v:=.agg #[vi f.pk,.slice A1 f.pt.length c1,.slice A2 f.tp.length c2,.slice A3 f.sk.length c3,.slice A (ZN f).length c]) (bH xH) rfl rfl (u _ _ J) rfl rfl rfl (OL _) ?_;refine Zr OL (Y ?_);refine⟨(k,.slice A (ZN f).length c),⟨Yr (((B.trans j).trans t).trans u) (Z7 (B.trans j) i),W.inc (Yr ((j.trans t).trans u) (Z7 j i)),A,c,rfl,cS.sl (H0:=H) (E:=166) (b:=F) ⟨D.own.sub λa z e G=>?_,λq e=>?_⟩,ZW⟩,V,V,rfl⟩
   ·rw[Hp.aE _ _ (by rintro rfl;have:=D.fresh _ e;rw[J]at this;simp at this)];exact G
   exact Z7 ((B.trans j).trans t) (D.fresh q e)
  refine Y ?_;refine Z9 W (Y ?_);refine Zf (vs:=[vi x,vi 0]) LB ?_;rintro v w ⟨j,Q,R,rfl,M,N⟩;refine Zr OL (Y ?_);refine Zf (vs:=[.agg #[vi f.pk,.slice A1 f.pt.length c1,.slice A2 f.tp.length c2,.slice A3 f.sk.length c3],.func (.func 143) #[] #[pt Q,pt R]]) (L (B.trans j) M N) ?_;rintro v S ⟨u,A,c,rfl,F,D⟩;refine Y ?_;refine ZV (bH xH) (OL _) λk i=>?_;refine Zr OL ?_;have k4:∀a z,F=some a->S a=some z->k≠a:=λa z e G e2=>by subst e2;rw[i]at G;simp at G
  have t:=Zk (o:=.cells (Value.agg #[vi 0,.slice none 0 0,.slice none 0 0,.slice none 0 0,.slice none 0 0]).cells 158) i;have J:(S.ins k (.cells (Value.agg #[vi 0,.slice none 0 0,.slice none 0 0,.slice none 0 0,.slice none 0 0]).cells 158)) k=some (.cells [vi 0,.slice none 0 0,.slice none 0 0,.slice none 0 0,.slice none 0 0].toArray 158 (0,0),true):=Hp.aD _ _ _;generalize S.ins k (.cells (Value.agg #[vi 0,.slice none 0 0,.slice none 0 0,.slice none 0 0,.slice none 0 0]).cells 158)=H4 at *;refine Y ?_;refine Yz (v:=.agg #[vi f.pk,.slice A1 f.pt.length c1,.slice A2 f.tp.length c2,.slice A3 f.sk.length c3,.slice A (ZN f).length c]) (bH xH) rfl rfl (J) rfl rfl rfl (OL _) ?_;refine Zr OL (Y ?_);refine⟨(k,.slice A (ZN f).length c),⟨Yr (((B.trans j).trans u).trans t) (Z7 ((B.trans j).trans u) i),W.inc (Yr ((j.trans u).trans t) (Z7 (j.trans u) i)),A,c,rfl,cS.sl (H0:=H) (E:=166) (b:=F) ⟨D.own.sub λa z e G=>?_,λq e=>?_⟩,ZW⟩,V,V,rfl⟩
  ·rw[Hp.aE _ _ (qAm (k4 _ _ e G))];exact t _ _ G
  exact Z7 (B.trans j) (D.fresh q e)
 rintro⟨k,_⟩ w ⟨Z,b2,A,c,rfl,s2,b6⟩;simp only at s2 b6;refine Y ?_;refine Zg (OL _) rfl (Un b6 rfl) (Y ?_);refine Y8 rfl rfl (Y ?_);have jO:=Nk X.1.pt;refine Zf (vs:=[.slice A (ZN f).length c,.func (.func 85) #[] #[pt k,pt r3]]) (Zpm (g:=λr=>lW f.pt r x) s2 O λr hr C I=>Yg (first:=#[]) (cap:=#[pt k,pt r3]) (args:=#[YW r]) U (Zzs (K.inc (Z.trans I)) X.1.pt (Zqr X.1.pt hr) hx (b6.inc I) (b2.inc I))) ?_;rintro v S ⟨j,F,o3⟩;refine Y ?_;refine Zf (vs:=[v]) (Zvu o3 j ⟨?_,by simp;omega⟩) ?_
 ·rw[qAe];exact qCR.2 X.2
 rintro v H4 ⟨u,lo,I,rfl,k1,k2⟩;refine Y ?_;exact⟨Z.trans u,lo,I,rfl,k1,k2⟩
end
