import Derived.Test.YthmnpenamnoniaaGreatDoorP19
set_option linter.all false
set_option maxHeartbeats 1000000
open Go Go.LL
namespace Go.Proofs
variable{j r i off n:Nat}{bv lv:Value}{b:Bk}{k:ZQ}{G H0:Hp}{l:List Int}{lo hi:Int}{rest:List Value}{a:Addr}
def Ue(b:Bk):List Int:=(Zd b).map λx=>YZ b (Zm b x)
def Uf(b:Bk):List Int:=(Zd b).map λx=>Y1 b (Zm b x)
def V1(b:Bk):Int:=ZG nH ((Ue b).getD 0 0) ((Ue b).drop 1)
def Oe(b:Bk):Int:=ZG m8 ((Uf b).getD 0 0) ((Uf b).drop 1)
def xG(b:Bk):Value:=
 if Zy b true=0 then(if V1 b > Oe b then .tuple #[vi 0,vb false,vi 0]else .tuple #[vi (V1 b),vb true,vi 0])else .tuple #[vi 0,vb false,vi (Zy b true)]
def map_take{α β:Type}(f:α->β){l:List α}(c:j<l.length):(l.map f).take (j+1)=(l.map f).take j++[f l[j]]:=by rw[iO (by simpa using c)];simp
def Uw(k:ZQ)(x:Zs):Bool:=x.cH && decide (x.bf=k.bf/\x.bP=k.bP)
def w9(b:Bk):List ZQ:=(ZB b).filter λk=>(Zd b).any (Uw k)
def QF:Tryz.prog.underlying 89=some (.slice 31):=U
def QH:ZU Tryz.prog 89=some (1,some (.slice none 0 0),24):=U
def OK:ZU Tryz.prog 137=some (5,some LR,88):=U
section
variable{P:aY}[Tz P][Loud P]{H:Hp}
def WZ(hb:bK H bv b)(hg:ZY H)(hl:b.aF.length<=1000000)(X:b.bJ.length<=1000000) :
  LL.Za P 18 #[bv] H λv D=>bA H D/\v=xG b:=by
 have u:=hb;obtain⟨pv,cv,rfl,hp,hc⟩:=hb;refine aI.m (bG c33) rfl ?_;unfold RK;refine Y ?_;refine Zf (vs:=[.agg #[vi b.op,vi b.sl,pv,cv],vf 65]) (vD (fB:=true) u hg hl X xN) ?_;rintro v g ⟨f,⟨C,rfl⟩ | ⟨C,vW,wI,w,bb,e,rfl,ow⟩⟩
 ·refine OJ (λU=>?_) (λU=>?_)
  ·refine Y ?_;exact⟨f,by rw[xG,bY C];rfl⟩
  exact absurd U C
 simp only[Value.agg.injEq,qBe,qAD,qBP]at e;obtain⟨_,_,rfl,rfl⟩:=e;obtain⟨zK,k9⟩:=OV C;have val:=Y3 zK;have jO:=V6 val;have hn:=val.n;obtain⟨Ap,cp,rfl,uB⟩:=hp;obtain⟨Ac,cc,rfl,pP⟩:=hc;have hw:=ow.sl;obtain⟨Aw,cw,rfl,_⟩:=ow.sl;refine Y ?_;refine Z4 (α:=Value×Value×Option Nat×Option Nat) (Zd b).length (λj s D=>bA g D/\cS g D 3 s.1 ((Ue b).take j) s.2.2.1/\cS g D 3 s.2.1 ((Uf b).take j) s.2.2.2/\eA s.2.2.1 s.2.2.2)
  (λj s=>[(3,vb false),(5,vi 0),(6,s.1),(7,s.2.1),(20,.slice Aw (Zd b).length cw),(21,vi (Zd b).length),(22,vi j)]) (λj s=>[(5,[vi b.op,vi b.sl,.slice Ap b.aF.length cp,.slice Ac b.bJ.length cc,.slice Aw (Zd b).length cw])]) (.slice none 0 0,.slice none 0 0,none,none) ⟨.refl g,.nil g g 3,.nil g g 3,.none _⟩ V V ?_
 rintro j ⟨v5,v6,b5,b6⟩ H2 hj ⟨c,M,R,J⟩;simp only at M R J;refine OJ (λU=>?_) (λU=>?_)
 ·have h:j<(Zd b).length:=O;have hx:=vS val (Zd b)[j] (qAa h);have e5:=map_take (λx=>YZ b (Zm b x)) h;have e6:=map_take (λx=>Y1 b (Zm b x)) h;have l5:((Ue b).take j).length=j:=by simp[Ue];omega
  have l6:((Uf b).take j).length=j:=by simp[Uf];omega
  refine Y ?_;refine Zo j (hw.inc c) h λa I=>Y ?_;refine ZL I ?_;generalize(Zd b)[j]=x at *;refine Y ?_;refine Zl (vs:=[.agg #[vi b.op,vi b.sl,.slice Ap b.aF.length cp,.slice Ac b.bJ.length cc],ZP x]) (O9 (u.inc (f.trans c)) val.eI.bk (sL hx) (OL _)) (Y ?_);refine Zf (vs:=[.agg #[vi b.op,vi b.sl,.slice Ap b.aF.length cp,.slice Ac b.bJ.length cc],ZD (Zm b x)]) (FM (u.inc (f.trans c)) hn.2 O val.eI.aF (EA val hx) (OL _)) ?_;rintro v H3 ⟨z,rfl⟩;have L:=c.trans z.inc;have N:=M.inc z.inc;have Wp:=R.inc z.inc;refine Zr OL (Y ?_);refine Z0 (cs:=[vi (YZ b (Zm b x))]) (OL _) rfl λr1 o=>?_;refine Zr OL (Y ?_);refine YN (l':=[YZ b (Zm b x)]) (bL eW) (bL eW) (bH t3) rfl (by decide) (L.trans (Zk o)) (N.ins o) vK rfl (by rw[l5];simp;omega) O rfl rfl (OL _) λS H4 E Z Q c2=>?_;obtain⟨q,K⟩:=(N.ins o).eT (Wp.ins o) J c2;refine Zr OL (Y ?_);refine Z0 (cs:=[vi (Y1 b (Zm b x))]) (OL _) rfl λr2 p=>?_;refine Zr OL (Y ?_);refine YN (l':=[Y1 b (Zm b x)]) (bL eW) (bL eW) (bH t3) rfl (by decide) (Z.trans (Zk p)) (q.ins p) vK rfl (by rw[l6];simp;omega) O rfl rfl (OL _) λT H5 F zV B c3=>?_;obtain⟨A,t⟩:=(q.ins p).eT (Q.ins p) K.symm c3;refine Y ?_;refine⟨(⟨j+1,O⟩,(S,T,E,F)),cZ O,⟨zV,?_,?_,t.symm⟩,V,V,rfl⟩
  ·show cS g H5 3 S (((Zd b).map λx=>YZ b (Zm b x)).take (j+1)) E;rw[e5];exact A
  show cS g H5 3 T (((Zd b).map λx=>Y1 b (Zm b x)).take (j+1)) F;rw[e6];exact B
 have:j=(Zd b).length:=O;subst this;have l5:(Ue b).length=(Zd b).length:=by simp[Ue]
 have l6:(Uf b).length=(Zd b).length:=by simp[Uf]
 rw[qAz O]at M R;obtain⟨a5,c5,f1,f2⟩:=xI M.own O;obtain⟨a6,c6,f3,f4⟩:=xI R.own O;have s5:=M.sl;have s6:=R.sl;have n5:(Ue b).getD 0 0=(Ue b)[0]:=Z8 O 0;have n6:(Uf b).getD 0 0=(Uf b)[0]:=Z8 O 0;subst f1 f3;refine Y ?_;refine Zo 0 s5 O λa I=>Y ?_;refine Z9 I (Y ?_);refine Oh (lo:=1) (bL eW) (bH t3) rfl rfl O (Y ?_);refine Zl (vs:=[vf 70,vi (Ue b)[0],_]) (EU Cc _ f2 (by simp;omega) (OL _)) (Y ?_);refine Zo 0 s6 O λa I=>Y ?_;refine Z9 I (Y ?_);refine Oh (lo:=1) (bL eW) (bH t3) rfl rfl O (Y ?_);refine Zl (vs:=[vf 71,vi (Uf b)[0],_]) (EU Db _ f4 (by simp;omega) (OL _)) (Y ?_);rw[<-n5,<-n6];refine OI (λW=>?_) (λW=>?_)
 ·refine Y ?_;exact⟨f.trans c,by rw[xG,BY C,BY (by exact W)];rfl⟩
 refine Y ?_;exact⟨f.trans c,by rw[xG,BY C,bY (by exact W)];rfl⟩
def Zz3{x:Zs}(o:aC H ⟨r,0,none⟩ [vi k.bf,vi k.bP]):LL.Za P 95 #[ZP x,pt r] H λv h=>H=h/\v=vb (Uw k x):=by
 refine aI.m (bG c97) rfl ?_;unfold QR;refine Y ?_;refine Zl (vs:=[ZP x]) (Mg (OL _)) ?_;refine OJ (λf=>?_) (λf=>?_)
 ·refine Y ?_;refine ZL o (Y ?_);refine Kp (xs:=#[vi x.bf,vi x.bP]) (ys:=#[vi k.bf,vi k.bP]) DG (λQ g H p=>wH (.inl CP) Q p) rfl rfl (Y ?_);have e:x.cH=true:=by rw[Zs.cH,qAy f];rfl
  exact⟨rfl,by rw[Uw,e];rfl⟩
 have e:x.cH=false:=by rw[Zs.cH,decide_eq_true f];rfl
 refine Y ?_;exact⟨rfl,by rw[Uw,e];rfl⟩
def WX(hb:bK H bv b)(hg:ZY H)(hl:b.aF.length<=1000000)(rV:b.bJ.length<=1000000) :
  LL.Za P 35 #[bv] H λv B=>bA H B/\((Zy b true≠0/\v=.tuple #[.slice none 0 0,vi (Zy b true)])\/(Zy b true=0/\∃w u,v=.tuple #[w,vi 0]/\cS H B 31 w (w9 b) u)):=by
 have nX:=hb;obtain⟨pv,cv,rfl,hp,hc⟩:=hb;refine aI.m (bG c26) rfl ?_;unfold RP;refine Y ?_;refine YG rfl (OL _) λr1 rS=>?_;have A:=Zk (o:=.cells (Value.agg #[vi b.op,vi b.sl,pv,cv]).cells 25) rS;have c1:aC (H.ins r1 (.cells (Value.agg #[vi b.op,vi b.sl,pv,cv]).cells 25)) ⟨r1,0,none⟩ [vi b.op,vi b.sl,pv,cv]:=ZW;generalize H.ins r1 (.cells (Value.agg #[vi b.op,vi b.sl,pv,cv]).cells 25)=H1 at *;refine Y ?_;refine ZL c1 (Y ?_);refine Zf (vs:=[.agg #[vi b.op,vi b.sl,pv,cv],vf 65]) (vD (fB:=true) (nX.inc A) (aC.inc hg A) hl rV xN) ?_;rintro v H2 ⟨I,⟨hz,rfl⟩ | ⟨hz,vW,wI,w,u,e,rfl,ow⟩⟩
 ·refine Y ?_;refine ZV (bH OK) (OL _) λr4 L=>Y ?_;refine Yz (v:=LR) (bH OK) (cs:=[vi 0,vi 0,.slice none 0 0,.slice none 0 0,.slice none 0 0]) rfl rfl (Hp.aD _ _ _) rfl rfl rfl (OL _) ?_;rw[YD];refine OJ (λh1=>?_) (λh1=>?_)
  ·refine Y ?_;exact⟨(A.trans I).trans (Zk L),.inl ⟨hz,rfl⟩⟩
  exact absurd h1 hz
 simp only[Value.agg.injEq,qBe,qAD,qBP]at e;obtain⟨_,_,rfl,rfl⟩:=e;obtain⟨zK,k9⟩:=OV hz;have val:=Y3 zK;have jO:=V6 val;have SD:=NA val;obtain⟨R,T,rfl,uB⟩:=hp;obtain⟨Q,S,rfl,pP⟩:=hc;have hw:=ow.sl;obtain⟨W,X,rfl,_⟩:=ow.sl;refine Y ?_;refine ZV (bH OK) (OL _) λr4 L=>Y ?_;refine Yz (v:=wQ b (.slice R b.aF.length T) (.slice Q b.bJ.length S) (.slice W (Zd b).length X)) (bH OK) (cs:=[vi 0,vi 0,.slice none 0 0,.slice none 0 0,.slice none 0 0]) rfl rfl (Hp.aD _ _ _) rfl rfl rfl (OL _) ?_;rw[YD];have K:=Zk (o:=.cells (wQ b (.slice R b.aF.length T) (.slice Q b.bJ.length S) (.slice W (Zd b).length X)).cells 137) L;have c4:aC (H2.ins r4 (.cells (wQ b (.slice R b.aF.length T) (.slice Q b.bJ.length S) (.slice W (Zd b).length X)).cells 137)) ⟨r4,0,none⟩ [vi b.op,vi b.sl,.slice R b.aF.length T,.slice Q b.bJ.length S,.slice W (Zd b).length X]:=ZW;generalize H2.ins r4 (.cells (wQ b (.slice R b.aF.length T) (.slice Q b.bJ.length S) (.slice W (Zd b).length X)).cells 137)=H4 at *;refine Y ?_;refine ZV (bH QH) (OL _) λV M=>Y ?_;have c4':=c4.inc (Zk (o:=.cells (Value.slice none 0 0).cells 89) M);have J7:aC (H4.ins V (.cells (Value.slice none 0 0).cells 89)) ⟨r4,0,none⟩ [vi b.op,vi b.sl,.slice R b.aF.length T,.slice Q b.bJ.length S]:=by
  obtain⟨k1,o,p,k2,k3⟩:=c4';exact⟨k1,o,p,k2,λj hj=>by
   rw[k3 j (by simp at hj ⊢;omega)];match j,hj with
   | 0,_=>rfl
   | 1,_=>rfl
   | 2,_=>rfl
   | 3,_=>rfl⟩
 refine ZL J7 (Y ?_);refine Y8 rfl rfl (Y ?_);refine u7 OL rfl (fM val.eI.y7 (by have:=val.sl;omega) (by have:=val.n;omega)) (λx hx=>by obtain⟨k,_,rfl⟩:=qAj.1 hx;rfl)
  (λn B=>bA H4 B/\∃v u,B V=some (.cells #[v] 89,true)/\cS H4 B 31 v (((ZB b).take n).filter λk=>(Zd b).any (Uw k)) u/\u≠some V) (λe B=>False) ⟨Zk M,_,none,Hp.aD _ _ _,.nil H4 _ 31,by simp⟩
  (λn B J hc ⟨h1,v,u,h2,h3,h4⟩=>⟨h1.trans (Vb _ _),v,u,Hp.aJ h2,h3.inc (Vb _ _),h4⟩) (λe B J hc h=>h) (λ_ _ _=>trivial) ?_ ?_ ?_
 ·rintro n hn H5 ⟨g1,v,u,g2,Z,g4⟩;have qT:n<(ZB b).length:=by simpa using hn
  have nE:(ZB b).take (n+1)=(ZB b).take n++[(ZB b)[n]]:=by rw[iO qT]
  have zL:((ZB b).map UP)[n]=[YC (ZB b)[n]]:=by rw[qBQ];rfl
  rw[zL];rw[nE,qCa];have nV:(((ZB b).take n).filter λk=>(Zd b).any (Uw k)).length<=22:=qAE (qBc _ _) (qAE (List.length_take_le _ _) O);generalize(ZB b)[n]=k at *;refine Y ?_;refine ZV (bH tH) (OL _) λr7 N=>Y ?_;refine Yz (v:=YC k) (bH tH) (cs:=[vi 0,vi 0]) rfl rfl (Hp.aD _ _ _) rfl rfl rfl (OL _) ?_;rw[YD];have C:=g1.trans (Zk (o:=.cells (YC k).cells 31) N);have D:=Zk (o:=.cells (YC k).cells 31) N _ _ g2;have S8:=Z.ins (o:=.cells (YC k).cells 31) N;have c7:aC (H5.ins r7 (.cells (YC k).cells 31)) ⟨r7,0,none⟩ [vi k.bf,vi k.bP]:=ZW;generalize H5.ins r7 (.cells (YC k).cells 31)=H6 at *;refine Y ?_;refine Zg (OL _) rfl (VV (j:=4) (c4.inc C) rfl) (Y ?_);refine Y8 rfl rfl (Y ?_);refine Zf (vs:=[.slice W (Zd b).length X,.func (.func 95) #[] #[pt r7]]) (ZAt (f:=Uw k) (l:=Zd b) (λx hx=>Yg U (Zz3 c7)) ((hw.inc K).inc C) O (OL _)) ?_;rintro w _ ⟨rfl,rfl⟩;refine OJ (λh2=>?_) (λh2=>?_)
  ·refine Y ?_;refine Zg (OL _) rfl (ZE (cs:=[v]) D) (Y ?_);refine ZL c7 (Y ?_);refine Z0 (cs:=[vi k.bf,vi k.bP]) (OL _) rfl λr8 E=>Y ?_;refine YN (l':=[k]) (bL QF) (bL QF) (bH tH) rfl (by decide) (C.trans (Zk E)) (S8.ins E) (YJ (l:=[k])) rfl (by simp only[qAX];omega) O rfl rfl (OL _) λv' H7 b' k1 k2 k3=>?_;have g6:H7 V=some (.cells #[v] 89,true):=k3.keep V _ (Zk E _ _ D) (λe=>g4 e);have R9:=Ji k2.sl;have gN:b'≠some V:=by
    rcases k3.new with rfl | ⟨q,rfl,hq⟩
    ·exact g4
    rintro e;obtain rfl:=iN e;rw[Zk E _ _ D]at hq;simp at hq
   refine Y ?_;refine Yo (v:=v') (bH QH) rfl rfl g6 R9.1 R9.2 (OL _) (Y ?_);refine⟨Yr k1 M,v',b',Hp.aD _ _ _,?_,gN⟩;rw[qBv,BY h2,List.filter_nil];refine⟨k2.own.sub λc z e hc=>?_,k2.fresh⟩;rw[Hp.aE _ _ (by rintro rfl;exact gN e)];exact hc
  refine Y ?_;refine⟨C,v,u,D,?_,g4⟩;rw[qBv,bY (by simp[h2]),List.filter_nil,qAw];exact S8
 ·rintro H5 ⟨g1,v,u,g2,Z,g4⟩;rw[qAe,qAh]at Z;refine Y ?_;refine Zg (OL _) rfl (ZE (cs:=[v]) g2) (Y ?_);refine⟨((A.trans I).trans K).trans g1,.inr ⟨hz,v,u,rfl,Z.own,λq e=>?_⟩⟩;have:=Z.fresh q e;exact Z7 ((A.trans I).trans K) this
 rintro e H5 he h;exact h.elim
end
def Pb{G:Prop} (h:G:=by refine Y ?_;refine Yz (v:=ZP ⟨Yq l,k.bf,k.bP⟩) (cs:=UI.cells) (bH UN) rfl rfl (by rw[Hp.aE _ _ (qAm qL)];exact k8 _ _ b7) rfl rfl rfl (OL _) (Y ?_);refine Yo (bH y6) rfl rfl (by rw[Hp.aE _ _ (qAm oT),Hp.aE _ _ (qAm rP)];exact k8 _ _ b8) rfl rfl (OL _) ?_;obtain⟨k1,k2,k3,k4⟩:=fA (c6:=[vi b.op,vi b.sl,.slice Ap b.aF.length cp,cv]) (c7:=(⟨Yq l,k.bf,k.bP⟩:Zs).cells) (c8:=[vi 0]) (E6:=113) (E7:=117) (E8:=34) qL rP oT (j8.trans k8) z6 z7 z8;refine Y ?_;exact⟨rfl,hqk ▸ nG,k1,k2,k3,k4⟩):G:=h
def Oa:Value:=.agg #[vi 0,vi 0,.slice none 0 0,.slice none 0 0]
def UI:Zs:=⟨⟨0,0,0,0⟩,0,0⟩
instance:DecidableEq ZQ:=λa b=>decidable_of_iff (a.bf=b.bf/\a.bP=b.bP) ⟨λ⟨h1,h2⟩=>by cases a;cases b;simp_all,λh=>by subst h;exact⟨rfl,rfl⟩⟩
def Vm(b:Bk)(l:List Int)(k:ZQ):Int:=if ZC b≠0 then ZC b else if VM b l 0 99≠0 then VM b l 0 99 else if k∈ZB b then 0 else 6
def uZ(b:Bk)(bv:Value)(l:List Int)(k:ZQ):Value:=if Vm b l k=0 then .tuple #[bv,ZP ⟨Yq l,k.bf,k.bP⟩,vi 0]else .tuple #[Oa,ZP UI,vi (Vm b l k)]
def tA:ZU Tryz.prog 113=some (4,some Oa,64):=U
def y6:ZU Tryz.prog 34=some (1,some (vi 0),8):=U
def NP(h:VM b l lo hi=0):l.length=b.aF.length/\∀n∈l,lo<=n/\n<=hi:=by
 unfold VM at h;split at h
 ·simp at h
 split at h
 ·rename_i c e;refine⟨IF c,λn f=>by simpa using qAp.1 e n f⟩
 simp at h
def fA{H:Hp}{c e f:Nat}{c6 c7 c8:List Value}{E6 E7 E8:TypeId}(o:c≠e)(q:c≠f)(s:e≠f)(hi:bA H0 H)(g:H0 c=none)(h:H0 e=none)(m:H0 f=none) :
  bA H0 (((H.ins c (.cells c6.toArray E6)).ins e (.cells c7.toArray E7)).ins f (.cells c8.toArray E8))/\aC (((H.ins c (.cells c6.toArray E6)).ins e (.cells c7.toArray E7)).ins f (.cells c8.toArray E8)) ⟨c,0,none⟩ c6 /\
  aC (((H.ins c (.cells c6.toArray E6)).ins e (.cells c7.toArray E7)).ins f (.cells c8.toArray E8)) ⟨e,0,none⟩ c7/\aC (((H.ins c (.cells c6.toArray E6)).ins e (.cells c7.toArray E7)).ins f (.cells c8.toArray E8)) ⟨f,0,none⟩ c8:=by
 refine⟨Yr (Yr (Yr hi g) h) m,ZE (p:=true) (E:=E6) ?_,ZE (p:=true) (E:=E7) ?_,ZW⟩
 ·rw[Hp.aE _ _ q,Hp.aE _ _ o];exact Hp.aD _ _ _
 rw[Hp.aE _ _ s];exact Hp.aD _ _ _
section
variable{P:aY}[Tz P][Loud P]{H:Hp}
def Zve(hb:bK H bv b)(L:Zj H lv l)(hg:ZY H)(hl:b.aF.length<=1000000)(rV:b.bJ.length<=1000000)(SP:l.length<=1000000) :
  LL.Za P 52 #[bv,lv,YC k] H λv F=>bA H F/\v=uZ b bv l k:=by
 have nX:=hb;obtain⟨D,cv,rfl,hp,hc⟩:=hb;obtain⟨l1,l2⟩:=Ji L;refine aI.m (bG ZxQ) rfl ?_;unfold Ia;refine Y ?_;refine YG rfl (OL _) λr3 CW=>Y ?_;refine YG rfl (OL _) λr4 SG=>Y ?_;refine YG rfl (OL _) λr5 wA=>Y ?_;refine ZV (bH tA) (OL _) λR Z=>Y ?_;refine ZV (bH UN) (OL _) λU B=>Y ?_;refine ZV (bH y6) (OL _) λV w=>?_;have i3:=Zk (o:=.cells (Value.agg #[vi b.op,vi b.sl,D,cv]).cells 25) CW;have i4:=Zk (o:=.cells lv.cells 29) SG;have i5:=Zk (o:=.cells (YC k).cells 31) wA;have i6:=Zk (o:=.cells Oa.cells 113) Z;have i7:=Zk (o:=.cells (ZP UI).cells 117) B;have i8:=Zk (o:=.cells (vi 0).cells 34) w;have z6:H R=none:=Z7 ((i3.trans i4).trans i5) Z;have z7:H U=none:=Z7 (((i3.trans i4).trans i5).trans i6) B;have z8:H V=none:=Z7 ((((i3.trans i4).trans i5).trans i6).trans i7) w;have qL:R≠U:=by rintro rfl;rw[Hp.aD]at B;simp at B
 have oT:U≠V:=by rintro rfl;rw[Hp.aD]at w;simp at w
 have rP:R≠V:=by rintro rfl;rw[Hp.aE _ _ qL,Hp.aD]at w;simp at w
 obtain⟨z,S4,j8,b3,b4,b5,X,b7,b8⟩:∃z:Hp,z=(((((H.ins r3 (.cells (Value.agg #[vi b.op,vi b.sl,D,cv]).cells 25)).ins r4 (.cells lv.cells 29)).ins r5 (.cells (YC k).cells 31)).ins R (.cells Oa.cells 113)).ins U (.cells (ZP UI).cells 117)).ins V (.cells (vi 0).cells 34)/\bA H z /\
   z r3=some (.cells #[vi b.op,vi b.sl,D,cv] 25,true)/\z r4=some (.cells #[lv] 29,true)/\z r5=some (.cells #[vi k.bf,vi k.bP] 31,true)/\z R=some (.cells Oa.cells 113,true)/\z U=some (.cells (ZP UI).cells 117,true)/\z V=some (.cells #[vi 0] 34,true):=
  ⟨_,rfl,((((i3.trans i4).trans i5).trans i6).trans i7).trans i8,i8 _ _ (i7 _ _ (i6 _ _ (i5 _ _ (i4 _ _ (Hp.aD _ _ _))))),i8 _ _ (i7 _ _ (i6 _ _ (i5 _ _ (by rw[<-l1];exact Hp.aD _ _ _)))),i8 _ _ (i7 _ _ (i6 _ _ (Hp.aD _ _ _))),i8 _ _ (i7 _ _ (Hp.aD _ _ _)),i8 _ _ (Hp.aD _ _ _),Hp.aD _ _ _⟩
 have e0:(((((H.ins r3 (.cells (Value.agg #[vi b.op,vi b.sl,D,cv]).cells 25)).ins r4 (.cells lv.cells 29)).ins r5 (.cells (YC k).cells 31)).ins R (.cells Oa.cells 113)).ins U (.cells (Value.agg #[vi 0,vi 0,vi 0,vi 0,vi 0,vi 0]).cells 117)).ins V (.cells (vi 0).cells 34)=z:=S4.symm;rw[e0];clear e0 S4 i3 i4 i5 i6 i7 i8 CW SG wA Z B w;refine Y ?_;refine Z5 (cs:=[vi b.op,vi b.sl,D,cv]) (OL _) rfl (ZE b3) rfl (Y ?_);refine Zl (vs:=[.agg #[vi b.op,vi b.sl,D,cv]]) (U9 (nX.inc j8) (aC.inc hg j8) hl rV (OL _)) ?_;refine OJ (λS=>?_) (λS=>?_)
 ·refine Y ?_;refine Yz (v:=Oa) (bH tA) rfl rfl X rfl rfl rfl (OL _) (Y ?_);refine Yz (v:=ZP UI) (cs:=UI.cells) (bH UN) rfl rfl (by rw[Hp.aE _ _ (qAm qL)];exact b7) rfl rfl rfl (OL _) (Y ?_);refine Yo (bH y6) rfl rfl (by rw[Hp.aE _ _ (qAm oT),Hp.aE _ _ (qAm rP)];exact b8) rfl rfl (OL _) ?_;obtain⟨k1,k2,k3,k4⟩:=fA (c6:=[vi 0,vi 0,.slice none 0 0,.slice none 0 0]) (c7:=UI.cells) (c8:=[vi (ZC b)]) (E6:=113) (E7:=117) (E8:=34) qL rP oT j8 z6 z7 z8;refine Y ?_;refine UY (vs:=[Oa,ZP UI,vi (ZC b)]) rfl (OL _) ⟨⟨_,_,rfl,rfl,rfl,k2⟩,⟨_,_,rfl,rfl,rfl,k3⟩,⟨_,rfl,k4⟩,trivial⟩ ?_;have e:Vm b l k=ZC b:=by rw[Vm,BY S]
  exact⟨k1,by rw[uZ,e,bY S];rfl⟩
 have val:=Y3 S;refine Y ?_;refine Z5 (cs:=[vi b.op,vi b.sl,D,cv]) (OL _) rfl (ZE b3) rfl (Y ?_);refine ZV (bH tA) (OL _) λtP qR=>Y ?_;refine Yz (v:=.agg #[vi b.op,vi b.sl,D,cv]) (bH tA) (cs:=[vi 0,vi 0,.slice none 0 0,.slice none 0 0]) rfl rfl (Hp.aD _ _ _) rfl rfl (by obtain⟨A,c,rfl,_⟩:=hp;obtain⟨A',c',rfl,_⟩:=hc;rfl) (OL _) ?_;rw[YD];have M:=Zk (o:=.cells (Value.agg #[vi b.op,vi b.sl,D,cv]).cells 113) qR;have K:aC (z.ins tP (.cells (Value.agg #[vi b.op,vi b.sl,D,cv]).cells 113)) ⟨tP,0,none⟩ [vi b.op,vi b.sl,D,cv]:=ZW;generalize z.ins tP (.cells (Value.agg #[vi b.op,vi b.sl,D,cv]).cells 113)=vU at *;refine Y ?_;refine ZL K (Y ?_);refine Zg (OL _) rfl (ZE (cs:=[lv]) (M _ _ b4)) (Y ?_);refine Zf (vs:=[.agg #[vi b.op,vi b.sl,D,cv],lv,vi 0,vi 99]) (Jj 0 99 (nX.inc (j8.trans M)) (L.inc (j8.trans M)) SP (OL _)) ?_;rintro v yW ⟨N,rfl⟩;have s:=M.trans N.inc;refine OJ (λT=>?_) (λT=>?_)
 ·refine Y ?_;refine Yz (v:=Oa) (bH tA) rfl rfl (s _ _ X) rfl rfl rfl (OL _) (Y ?_);refine Yz (v:=ZP UI) (cs:=UI.cells) (bH UN) rfl rfl (by rw[Hp.aE _ _ (qAm qL)];exact s _ _ b7) rfl rfl rfl (OL _) (Y ?_);refine Yo (bH y6) rfl rfl (by rw[Hp.aE _ _ (qAm oT),Hp.aE _ _ (qAm rP)];exact s _ _ b8) rfl rfl (OL _) ?_;obtain⟨k1,k2,k3,k4⟩:=fA (c6:=[vi 0,vi 0,.slice none 0 0,.slice none 0 0]) (c7:=UI.cells) (c8:=[vi (VM b l 0 99)]) (E6:=113) (E7:=117) (E8:=34) qL rP oT (j8.trans s) z6 z7 z8;refine Y ?_;refine UY (vs:=[Oa,ZP UI,vi (VM b l 0 99)]) rfl (OL _) ⟨⟨_,_,rfl,rfl,rfl,k2⟩,⟨_,_,rfl,rfl,rfl,k3⟩,⟨_,rfl,k4⟩,trivial⟩ ?_;have e:Vm b l k=VM b l 0 99:=by rw[Vm,bY O,BY T]
  exact⟨k1,by rw[uZ,e,bY T];rfl⟩
 have jO:=NP T;have hn:=val.n;refine Y ?_;refine Z5 (OL _) rfl (K.sub N) rfl (Y ?_);refine Y8 rfl rfl (Y ?_);have hpv:=hp;obtain⟨Ap,cp,rfl,_⟩:=hp;refine u7 OL rfl (fM val.eI.y7 (by have:=val.sl;omega) O) (λx hx=>by obtain⟨k,_,rfl⟩:=qAj.1 hx;rfl)
  (λn F=>bA yW F/\k ∉ (ZB b).take n) (λe F=>e=.ret/\k∈ZB b/\bA H F/\aC F ⟨R,0,none⟩ [vi b.op,vi b.sl,.slice Ap b.aF.length cp,cv]/\aC F ⟨U,0,none⟩ (⟨Yq l,k.bf,k.bP⟩:Zs).cells/\aC F ⟨V,0,none⟩ [vi 0]) ⟨.refl _,by simp⟩
  (λn F J hc ⟨S,T⟩=>⟨S.trans (Vb _ _),T⟩) (λe F J hc ⟨S,T,h3,h4,h5,h6⟩=>⟨S,T,h3.trans (Vb _ _),h4.inc (Vb _ _),h5.inc (Vb _ _),h6.inc (Vb _ _)⟩) (λ_ _ _=>trivial) ?_ ?_ ?_
 ·rintro n hn I ⟨g1,g2⟩;have qT:n<(ZB b).length:=by simpa using hn
  have nE:(ZB b).take (n+1)=(ZB b).take n++[(ZB b)[n]]:=by rw[iO qT]
  have zL:((ZB b).map UP)[n]=[YC (ZB b)[n]]:=by rw[qBQ];rfl
  have nG:(ZB b)[n]∈ZB b:=qAa qT;rw[zL];rw[nE];generalize(ZB b)[n]=q at *;refine Y ?_;refine ZV (bH tH) (OL _) λjI uA=>Y ?_;refine Yz (v:=YC q) (bH tH) (cs:=[vi 0,vi 0]) rfl rfl (Hp.aD _ _ _) rfl rfl rfl (OL _) ?_;rw[YD];have t:=g1.trans (Zk (o:=.cells (YC q).cells 31) uA);have AP:aC (I.ins jI (.cells (YC q).cells 31)) ⟨jI,0,none⟩ [vi q.bf,vi q.bP]:=ZW;generalize I.ins jI (.cells (YC q).cells 31)=QC at *;have u:=s.trans t;refine Y ?_;refine ZL AP (Y ?_);refine Z5 (cs:=[vi k.bf,vi k.bP]) (OL _) rfl (ZE (u _ _ b5)) rfl (Y ?_);refine Kp (xs:=#[vi q.bf,vi q.bP]) (ys:=#[vi k.bf,vi k.bP]) DG (λQ g H hq=>wH (.inl CP) Q hq) rfl rfl ?_;refine OJ (λh3=>?_) (λh3=>?_)
  ·have hqk:q=k:=by cases q;cases k;obtain⟨S7,S6⟩:=h3;simp only at S7 S6;subst S7 S6;rfl
   have fin:∀W:Hp,bA QC W->∀{σ:aL},σ.env 6=some (pt R)->σ.env 7=some (pt U)->σ.env 8=some (pt V)->True:=λ_ _ _ _ _ _=>trivial;refine YY ?_;refine Lj (OL _) ?_ ?_
   ·refine Y ?_;refine Z5 (OL _) rfl ((K.sub N).inc t) rfl (Y ?_);refine Zg (OL _) rfl (ZE (cs:=[lv]) (u _ _ b4)) (Y ?_);refine Z5 (cs:=[vi k.bf,vi k.bP]) (OL _) rfl (ZE (u _ _ b5)) rfl (Y ?_);refine Zf (vs:=[lv]) (LU (L.inc (j8.trans u)) O (OL _)) ?_;rintro v W ⟨C,rfl⟩;refine K7 OL C.inc ?_;have k8:=u.trans C.inc;refine Y ?_;refine Yz (v:=.agg #[vi b.op,vi b.sl,.slice Ap b.aF.length cp,cv]) (bH tA) rfl rfl (k8 _ _ X) rfl rfl (by obtain⟨A',c',rfl,_⟩:=hc;rfl) (OL _) ?_;refine Zr OL ?_;exact Pb
   refine Y ?_;refine Z5 (OL _) rfl ((K.sub N).inc t) rfl (Y ?_);refine Zg (OL _) rfl (ZE (cs:=[lv]) (u _ _ b4)) (Y ?_);refine Zf (vs:=[lv]) (LU (L.inc (j8.trans u)) O (OL _)) ?_;rintro v W ⟨C,rfl⟩;refine K7 OL C.inc ?_;have k8:=u.trans C.inc;refine Y ?_;refine Yz (v:=.agg #[vi b.op,vi b.sl,.slice Ap b.aF.length cp,cv]) (bH tA) rfl rfl (k8 _ _ X) rfl rfl (by obtain⟨A',c',rfl,_⟩:=hc;rfl) (OL _) (Y ?_);have Ww:r5≠R:=by rintro rfl;rw[b5]at X;simp[Oa,Value.cells]at X
   refine Z5 (cs:=[vi k.bf,vi k.bP]) (OL _) rfl (ZE (p:=true) (E:=31) (by rw[Hp.aE _ _ Ww];exact k8 _ _ b5)) rfl ?_;exact Pb
  refine Y ?_;refine⟨t,?_⟩;rw[qAi,iF];rintro(h | rfl)
  ·exact g2 h
  exact h3 ⟨rfl,rfl⟩
 ·rintro I ⟨g1,g2⟩;rw[qAe,qAh]at g2;have t:=s.trans g1;refine Y ?_;refine Yz (v:=Oa) (bH tA) rfl rfl (t _ _ X) rfl rfl rfl (OL _) (Y ?_);refine Yz (v:=ZP UI) (cs:=UI.cells) (bH UN) rfl rfl (by rw[Hp.aE _ _ (qAm qL)];exact t _ _ b7) rfl rfl rfl (OL _) (Y ?_);refine Yo (bH y6) rfl rfl (by rw[Hp.aE _ _ (qAm oT),Hp.aE _ _ (qAm rP)];exact t _ _ b8) rfl rfl (OL _) ?_;obtain⟨k1,k2,k3,k4⟩:=fA (c6:=[vi 0,vi 0,.slice none 0 0,.slice none 0 0]) (c7:=UI.cells) (c8:=[vi 6]) (E6:=113) (E7:=117) (E8:=34) qL rP oT (j8.trans t) z6 z7 z8;refine Y ?_;refine UY (vs:=[Oa,ZP UI,vi 6]) rfl (OL _) ⟨⟨_,_,rfl,rfl,rfl,k2⟩,⟨_,_,rfl,rfl,rfl,k3⟩,⟨_,rfl,k4⟩,trivial⟩ ?_;have e:Vm b l k=6:=by rw[Vm,bY O,bY O,bY g2]
  exact⟨k1,by rw[uZ,e,bY (by decide)];rfl⟩
 rintro e I he ⟨rfl,hm,g1,g2,g3,g4⟩;have e:Vm b l k=0:=by rw[Vm,bY O,bY O,BY hm]
 refine Y ?_;refine UY (vs:=[.agg #[vi b.op,vi b.sl,.slice Ap b.aF.length cp,cv],ZP ⟨Yq l,k.bf,k.bP⟩,vi 0]) rfl (OL _) ⟨⟨_,_,rfl,rfl,rfl,g2⟩,⟨_,_,rfl,rfl,rfl,g3⟩,⟨_,rfl,g4⟩,trivial⟩ ?_;exact⟨g1,by rw[uZ,BY e];rfl⟩
end
def Zvf(h:Vm b l k=0):Zw b/\l.length=b.aF.length/\jQ (Yq l)/\(-3<=k.bP/\k.bP<=3):=by
 unfold Vm at h;split at h
 ·contradiction
 rename_i g;split at h
 ·contradiction
 rename_i m;split at h
 ·rename_i o;have v:=Y3 (b:=b) (IF λh=>g h);obtain⟨e,f⟩:=NP (IF λh=>m h);refine⟨v,e,λj p=>?_,Mi v k o⟩;rw[Yq,N4.fO _ p];by_cases c:j<l.length
  ·rw[Z8 c];exact f _ (qAa c)
  rw[qAl,qAF O];simp
 simp at h
def BL(l:List Int)(k:ZQ):Zs:=⟨Yq l,k.bf,k.bP⟩
def EB(b:Bk)(l:List Int)(k:ZQ):List Int:=if Vm b l k=0 then(Zm b (BL l k)).kX.take b.aF.length else[]
section
variable{P:aY}[Tz P][Loud P]{H:Hp}
def ZAl(hb:bK H bv b)(q:Zj H lv l)(B:ZY H)(C:b.aF.length<=1000000)(o:b.bJ.length<=1000000)(p:l.length<=1000000) :
  LL.Za P 9 #[bv,lv,YC k] H λv u=>bA H u/\∃w,v=.tuple #[w,vi (Vm b l k)]/\Zj u w (EB b l k):=by
 have e:=hb;obtain⟨U,S,rfl,E,A⟩:=hb;refine aI.m (bG c74) rfl ?_;unfold Q2;refine Y ?_;refine Zf (vs:=[.agg #[vi b.op,vi b.sl,U,S],lv,YC k]) (Zve e q B C o p) ?_;rintro v L ⟨c,rfl⟩;by_cases h:Vm b l k=0
 ·obtain⟨val,T,t,g⟩:=Zvf h;have D:=val.n;have F:jQ (BL l k).m/\-3<=(BL l k).bP/\(BL l k).bP<=3:=⟨t,g⟩;rw[uZ,BY h];obtain⟨K,R,rfl,_⟩:=E;obtain⟨J,Q,rfl,_⟩:=A;refine Y ?_;refine Zl (vs:=[.agg #[vi b.op,vi b.sl,.slice K b.aF.length R,.slice J b.bJ.length Q],ZP (BL l k)]) (O9 (e.inc c) val.eI.bk (sL F) (OL _)) ?_;refine Zr OL (Y ?_);refine Zf (vs:=[.agg #[vi b.op,vi b.sl,.slice K b.aF.length R,.slice J b.bJ.length Q],ZD (Zm b (BL l k))]) (ZuH (e.inc c) D.2 O (OL _)) ?_;rintro v M ⟨s,N,I⟩;refine Y ?_;refine⟨c.trans s.inc,v,by rw[h];rfl,?_⟩;rw[EB,BY h];exact I.sl
 rw[uZ,bY h];refine OJ (λz=>?_) (λz=>?_)
 ·refine Y ?_;refine⟨c,_,rfl,?_⟩;rw[EB,bY h];exact .nil _
 exact absurd z h
end
def w7(b:Bk)(l:List Int):Int:=if ZC b≠0 then ZC b else VM b l (-199) 199
def FL(b:Bk)(l:List Int):Value:=
 if w7 b l≠0 then .tuple #[.agg #[vi 0,vi 0],vb false,vi (w7 b l)]
 else if YZ b (Yq l) > Y1 b (Yq l)then .tuple #[.agg #[vi 0,vi 0],vb false,vi 0]
 else .tuple #[.agg #[vi (YZ b (Yq l)),vi (Y1 b (Yq l))],vb true,vi 0]
def Zt8(e:lo<=0/\0<=hi)(h:∀n∈l,lo<=n/\n<=hi)(f:j<4):lo<=(Yq l).get j/\(Yq l).get j<=hi:=by
 rw[Yq,N4.fO _ f];by_cases c:j<l.length
 ·rw[Z8 c];exact h _ (qAa c)
 rw[qAl,qAF O];simpa using e
def BI(b:Bk)(i:Nat):Int:=(Zx b i).bh-(Zx b i).bl-(Zx b i).w
def dW(b:Bk):Nat->Nat
 | 0=>0
 | j+1=>if BI b j<BI b (dW b j)then j else dW b j
def M2(b:Bk):∀j,dW b j<=j-1
 | 0=>AT 0
 | j+1=>by have:=M2 b j;unfold dW;split<;>omega
def FG(b:Bk):Value:=if ZC b≠0 then .tuple #[vi 0,vi 0,vi (ZC b)]else .tuple #[vi (dW b b.aF.length:Nat),vi (BI b (dW b b.aF.length)),vi 0]
section
variable{P:aY}[Tz P][Loud P]{H:Hp}
def Zz4(hb:bK H bv b)(o:Zj H lv l)(B:ZY H)(D:b.aF.length<=1000000)(t:b.bJ.length<=1000000)(u:l.length<=1000000) :
  LL.Za P 37 #[bv,lv] H λv w=>bA H w/\v=FL b l:=by
 have f:=hb;obtain⟨T,R,rfl,F,A⟩:=hb;refine aI.m (bG DI) rfl ?_;unfold Q7;refine Y ?_;refine Zl (vs:=[.agg #[vi b.op,vi b.sl,T,R]]) (U9 f B D t (OL _)) ?_;refine OJ (λp=>?_) (λp=>?_)
 ·refine Y ?_;have e:w7 b l=ZC b:=by rw[w7,BY p]
  exact⟨.refl _,by rw[FL,e,BY p];rfl⟩
 have val:=Y3 p;have E:=val.n;have e:w7 b l=VM b l (-199) 199:=by rw[w7,bY O]
 rw[FL,e];obtain⟨J,Q,rfl,_⟩:=F;obtain⟨I,N,rfl,_⟩:=A;refine Y ?_;refine Zf (vs:=[.agg #[vi b.op,vi b.sl,.slice J b.aF.length Q,.slice I b.bJ.length N],lv,vi (-199),vi 199]) (Jj (-199) 199 f o u (OL _)) ?_;rintro v K ⟨c,rfl⟩;refine OJ (λq=>?_) (λq=>?_)
 ·refine Y ?_;exact⟨c.inc,by rw[BY q];rfl⟩
 obtain⟨S,s⟩:=NP q;rw[bY O];refine Y ?_;refine Zf (vs:=[lv]) (LU (o.sub c) O (OL _)) ?_;rintro v L ⟨g,rfl⟩;refine Zr OL (Y ?_);refine Zf (vs:=[.agg #[vi b.op,vi b.sl,.slice J b.aF.length Q,.slice I b.bJ.length N],ZD (Yq l)]) (FM (f.sub (c.trans g)) E.2 O val.eI.aF (λj C=>by have:=Zt8 (l:=l) (lo:=-199) (hi:=199) O s C;exact⟨O,O⟩) (OL _)) ?_;rintro v M ⟨h,rfl⟩;refine OJ (λz=>?_) (λz=>?_)
 ·refine Y ?_;exact⟨((c.trans g).trans h).inc,by rw[BY O];rfl⟩
 refine Y ?_;exact⟨((c.trans g).trans h).inc,by rw[bY O];rfl⟩
def Zz7{q A:Value}(p:aC H ⟨r,0,none⟩ [vi b.op,vi b.sl,q,A])(o:Zj H q b.aF)(f:j<b.aF.length)(g:EJ b):LL.Za P 101 #[vi j,pt r] H λv z=>H=z/\v=vi (BI b j):=by refine aI.m (bG ZxT) rfl ?_;unfold Hx;have c:Zx b j=b.aF[j]:=Z8 f _;have s:=g.bl j f;have t:=g.bh j f;have u:=g.w j f;rw[<-c]at s t u;obtain⟨B,C⟩:=s;obtain⟨a3,D⟩:=t;obtain⟨E,F⟩:=u;refine Y ?_;refine Zg (OL _) rfl (VV p (j:=2) rfl) (Y ?_);refine Zo j o f λa e=>?_;rw[<-c]at e;refine Y ?_;refine Zg (OL _) rfl (show aC H (a.add 3) _ from VV e (j:=3) rfl) (Y ?_);refine Zg (OL _) rfl (VV p (j:=2) rfl) (Y ?_);refine Zo j o f λa e=>?_;rw[<-c]at e;refine Y ?_;refine Zg (OL _) rfl (VV e (j:=2) rfl) (Y ?_);refine Zg (OL _) rfl (VV p (j:=2) rfl) (Y ?_);refine Zo j o f λa e=>?_;rw[<-c]at e;refine Y ?_;refine Zg (OL _) rfl (VV e (j:=4) rfl) (Y ?_);exact⟨rfl,rfl⟩
theorem Zz6(hb:bK H bv b)(Q:ZY H)(R:b.aF.length<=1000000)(E:b.bJ.length<=1000000) :
  LL.Za P 38 #[bv] H λv g=>bA H g/\v=FG b:=by
 have B:=hb;obtain⟨pv,W,rfl,L,N⟩:=hb;obtain⟨f,h,rfl,S⟩:=id L;obtain⟨s,t,rfl,_⟩:=N;refine aI.m (bG c60) rfl ?_;unfold Q6;refine Y ?_;refine YG rfl (OL _) λr T=>?_;have q:=Zk (o:=.cells (Value.agg #[vi b.op,vi b.sl,.slice f b.aF.length h,.slice s b.bJ.length t]).cells 25) T;have c1:aC (H.ins r (.cells (Value.agg #[vi b.op,vi b.sl,.slice f b.aF.length h,.slice s b.bJ.length t]).cells 25)) ⟨r,0,none⟩ [vi b.op,vi b.sl,.slice f b.aF.length h,.slice s b.bJ.length t]:=ZW;have C:=B.inc q;have D:ZY _:=aC.inc Q q;have F:=L.inc q;show Zb.m _ _ _ _ _;generalize X:H.ins r (.cells (Value.agg #[vi b.op,vi b.sl,.slice f b.aF.length h,.slice s b.bJ.length t]).cells 25)=u at *;refine Y ?_;refine ZL c1 (Y ?_);refine Zl (vs:=[.agg #[vi b.op,vi b.sl,.slice f b.aF.length h,.slice s b.bJ.length t]]) (U9 C D R E (OL _)) ?_;refine OJ (λw=>?_) (λw=>?_)
 ·refine Y ?_;exact⟨q,by rw[FG,BY w];rfl⟩
 have val:=Y3 w;have hn:=val.n;refine Y ?_;refine Y8 rfl rfl (Y ?_);refine Zg (OL _) rfl (VV c1 (j:=2) rfl) (Y ?_);have A:∀j:Nat,j<b.aF.length->bR P (.func (.func 101) #[] #[pt r]) #[vi j] u λv g=>u=g/\v=vi (BI b j):=λj K=>Yg U (Zz7 c1 F K val.eI.aF);have Z:∀j:Nat,dW b j<b.aF.length\/b.aF.length<j:=λj=>by have:=M2 b j;omega
 refine ZF b.aF.length (λj g=>u=g) (λj=>[(1,pt r),(2,vi (dW b j:Nat)),(6,.func (.func 101) #[] #[pt r]),(15,.slice f b.aF.length h),(16,vi b.aF.length),(17,vi j)]) (λj=>[]) rfl V trivial ?_;rintro j _ K rfl;have p:dW b j<b.aF.length:=by have:=M2 b j;omega
 refine OJ (λM=>?_) (λM=>?_)
 ·refine Y ?_;refine Yp (vs:=[vi j]) rfl rfl (A j O) ?_;rintro v _ ⟨rfl,rfl⟩;refine Y ?_;refine Yp (vs:=[vi (dW b j:Nat)]) rfl rfl (A _ p) ?_;rintro v _ ⟨rfl,rfl⟩;refine OJ (λz=>?_) (λz=>?_)
  ·refine Y ?_;refine⟨⟨j+1,O⟩,cZ O,rfl,⟨rfl,?_,rfl,rfl,rfl,rfl,trivial⟩,trivial,rfl⟩;show _=some (vi (dW b (j+1):Nat));rw[dW,BY z];rfl
  refine Y ?_;refine⟨⟨j+1,O⟩,cZ O,rfl,⟨rfl,?_,rfl,rfl,rfl,rfl,trivial⟩,trivial,rfl⟩;show _=some (vi (dW b (j+1):Nat));rw[dW,bY z];rfl
 have:j=b.aF.length:=O;subst this;refine Y ?_;refine Yp (vs:=[vi (dW b b.aF.length:Nat)]) rfl rfl (A _ p) ?_;rintro v _ ⟨rfl,rfl⟩;refine Y ?_;exact⟨q,by rw[FG,bY O];rfl⟩
end
def el(l:List Int)(i:Nat):Int:=l.getD i 0
def sS(h:i<l.length):el l i=l[i]:=Z8 h 0
def DV(x:Int)(j:Nat)(h:i<l.length):el (l.set i x) j=if j=i then x else el l j:=by
 unfold el;rw[qAl,qAl,List.getElem?_set];by_cases e:j=i
 ·subst e;simp[h]
 rw[bY (qAm e),bY e]
structure AR(G H:Hp)(r:Nat)(l:List Int)(rest:List Value):Prop where
 keep:∀b x,b≠r->G b=some x->H b=some x
 at_:H r=some (.cells (Zh l++rest).toArray 3 (0,0),true)
def AR.of{H:Hp}(h:H r=some (.cells (Zh l++rest).toArray 3 (0,0),true)):AR H H r l rest:=⟨λ_ _ _ h=>h,h⟩
def AR.trans{H e:Hp}{g:List Int}{c:List Value}(h:AR G H r l rest)(f:AR H e r g c):AR G e r g c:=⟨λb x hb m=>f.keep b x hb (h.keep b x hb m),f.at_⟩
def AR.set{H:Hp}(h:AR G H r l rest)(e:List Int)(c:List Value):AR G (H.ins r (.cells (Zh e++c).toArray 3)) r e c:=
 ⟨λb x hb f=>by rw[Hp.aE _ _ hb];exact h.keep b x hb f,Hp.aD _ _ _⟩
def AR.new{H:Hp}{e:Nat}{o:Obj}(h:AR G H r l rest)(c:H e=none):AR G (H.ins e o) r l rest:=
 ⟨λb x hb f=>(Yd c).mem _ _ (h.keep b x hb f),(Yd c).mem _ _ h.at_⟩
def AR.inc{c H:Hp}(h:AR G H r l rest)(hi:bA c G)(f:c r=none):bA c H:=
 λb x hb=>h.keep b x (λe=>by rw[e,f]at hb;simp at hb) (hi b x hb)
theorem ZwA(l:List Int)(i:Nat)(h:i<l.length):(Zh l)[i]? = some (vi (el l i)):=by rw[UD,qCw,qAx h,sS h];rfl
def V5(l:List Int):(Zh l).length=l.length:=by rw[UD,qAe]
def AR.cell{H:Hp}(h:AR G H r l rest)(f:j<l.length)(e:off=j):aC H ⟨r,off,none⟩ [vi (el l j)]:=by
 subst e;refine⟨rfl,_,_,h.at_,λk g=>?_⟩;have c:k=0:=by simpa using g
 subst c;have:(Zh l++rest)[off]? = some (vi (el l off)):=by rw[qAB (by rw[V5];exact f),ZwA l off f]
 simpa[Obj.fT]using this
theorem TV(r o n:Nat):(⟨r,o,none⟩:Addr).add n=⟨r,o+n,none⟩:=by
 unfold Addr.add;split
 ·rename_i h;subst h;rfl
 rfl
def ZX(r k:Nat):(⟨r,0,none⟩:Addr).add (k * 1)=⟨r,k,none⟩:=by rw[TV,qAP,qCz]
def ZzN(r i k:Nat):((⟨r,0,none⟩:Addr).add (i * 1)).add (k * 1)=⟨r,i+k,none⟩:=by rw[ZX,TV,qCz]
def AR.cA{H:Hp}(h:AR G H r l rest)(c:i<l.length)(e:i=j:=by omega):aC H ((⟨r,0,none⟩:Addr).add (i * 1)) [vi (el l j)]:=
 ZX r i ▸ h.cell (off:=i) (j:=j) O e
def AR.cAA{H:Hp}{k:Nat}(h:AR G H r l rest)(c:i+k<l.length)(e:i+k=j:=by omega):aC H (((⟨r,0,none⟩:Addr).add (i * 1)).add (k * 1)) [vi (el l j)]:=
 ZzN r i k ▸ h.cell (off:=i+k) (j:=j) O e
def ZpB(l:List Int)(rest:List Value)(n:Int)(f:j<l.length):ZZ (Zh l++rest) j [vi n]=Zh (l.set j n)++rest:=by
 unfold ZZ;have c:j<=(Zh l).length:=by rw[V5];omega
 have e:j+1<=(Zh l).length:=by rw[V5];omega
 rw[qBE c,show([vi n]:List Value).length=1 from rfl,List.drop_append_of_le_length e,UD,UD,List.map_set,List.set_eq_take_append_cons_drop,BY (by simpa using f)];simp
def ZwM(l:List Int)(rest:List Value){k:Nat}(c:k<=l.length):(Zh l++rest).take k++List.replicate (l.length-k) (vi 0)++(Zh l++rest).drop (k+(l.length-k))=Zh (l.take k++List.replicate (l.length-k) 0)++rest:=by rw[qBE (by rw[V5];exact c),show k+(l.length-k)=(Zh l).length by rw[V5];omega,List.drop_left,xZ,UD,UD,UD,List.map_take,List.map_replicate]
section
variable{P:aY}[Tz P][Loud P]{H:Hp}{d:Option Nat}{next:aL->Hp->Prop}{σ:aL}{x y:Operand}
def Zn{f ln c:Nat}{k:IntKind}{n:Int}(j:Nat)(g:σ.get x=some (.slice (some a) ln c))(o:σ.get y=some (.int k n))(e:n=(j:Int))(p:j<ln)(h:next (σ.set d (.pointer (some (a.add (j * f))))) H):(aR.bX f x y).m P d next σ H:=by subst e;exact vB g o p h
def Z6{q:Nat}{n:Int}(h:AR G H r l rest)(o:j<l.length)(e:a=⟨r,j,none⟩)(f:σ.get x=some (.pointer (some a)))(g:σ.get y=some (vi n))
  (p:∀c,AR G c r (l.set j n) rest->next (σ.set d undef) c):(aR.raw (.store 3 x y) q).m P d next σ H:=by
 subst e;refine AQ (bH t3) f g h.at_ rfl (by rw[IN,V5];omega) rfl (Loud.bB _) ?_;rw[show(vi n).cells.toList=[vi n]from rfl,ZpB l rest n o];exact p _ (h.set _ _)
def PZ(n:Nat):(Builtin.zeroCells #[vi 0] n).toList=List.replicate n (vi 0):=by simp only[Builtin.zeroCells];refine qDe (by simp) λi c e=>?_;simp[Nat.mod_one]
def ZtM{T cap:Nat}(h:AR G H r l rest)(w:off<l.length)(e:a=⟨r,off,none⟩)(p:n=l.length-off)(g:σ.get x=some (.slice (some a) n cap))
  (q:∀f,AR G f r (l.take off++List.replicate (l.length-off) 0) rest->next (σ.set d undef) f):(aR.raw (.call { callee:=.builtin .clear,args:=#[x],argTypes:=#[29] }) T).m P d next σ H:=by
 subst e p;obtain⟨v,t,z,u,A⟩:=(bH (P:=P) t3).ex;refine YX (s:=Builtin.clear_ #[29] T #[.slice (some ⟨r,off,none⟩) (l.length-off) cap]) (by simp[Op.operands,Call.operands,g]) (by simp[execOp,aN,resolve,invoke,builtin,g]) ?_;have c:∃m,l.length-off=m+1:=⟨l.length-off-1,O⟩;obtain⟨m,o⟩:=c;rw[o];simp only[Builtin.clear_,qAt,qBr,Ze,ZA (bL (P:=P) eW),Uu t u,Zi];refine vM _ _ _ off 0 (Zh l++rest) H (Loud.bB _) h.at_ ?_ ?_ ?_
 ·rw[show(vi 0).cells=#[vi 0]from rfl,PZ];simp[Value.bS]
 ·rw[show(vi 0).cells=#[vi 0]from rfl,PZ];simp[V5];omega
 rw[show(vi 0).cells=#[vi 0]from rfl,PZ,<-o];simp only[qBB,List.length_replicate];rw[ZwM l rest O];exact q _ (h.set _ _)
end
def Z1(l:List Int):Nat->List Int
 | 0=>[]
 | n+1=>if n≠0/\el l n=el l (n-1)then Z1 l n else Z1 l n++[el l n]
def U5(l:List Int):List Int:=Z1 l l.length
def MU(c:n≠0)(h:el l n=el l (n-1)):Z1 l (n+1)=Z1 l n:=by rw[Z1,BY ⟨c,h⟩]
def MV(h:¬ el l n=el l (n-1)):Z1 l (n+1)=Z1 l n++[el l n]:=by rw[Z1,bY (λc=>h c.2)]
theorem XU(l:List Int):Z1 l 1=[el l 0]:=by rw[Z1,bY (by simp)];rfl
def xJ(h:n<l.length):l.take (n+1)=l.take n++[el l n]:=by rw[iO h,sS h]
def ZpY(x:Int)(h:n<l.length):(l.set n x).take (n+1)=l.take n++[x]:=by rw[xJ (by simpa using h),DV _ _ h,BY rfl,qCP (AT n)]
section
variable{P:aY}[Tz P][Loud P]{H:Hp}
theorem WM{v:Value}{K:Option Nat}(hi:bA H0 H)(F:cS H0 H 3 v l K)(hl:l.length<=1000000) :
  LL.Za P 92 #[v] H λw B=>bA H0 B/\∃N,cS H0 B 3 w (U5 l) N:=by
 refine aI.m (bG c94) rfl ?_;unfold QU;obtain⟨X,⟨rfl,h2,U⟩ | ⟨r,cap,rest,h1,rfl,U,W,h5⟩⟩:=id F.own
 ·have:l=[]:=qAo h2;subst this;refine Y ?_;exact⟨hi,K,F⟩
 have I:H0 r=none:=F.fresh r h1;rw[IN,V5]at W;have h4':l.length+rest.length=cap * 1:=W;refine OJ (λQ=>?_) (λQ=>?_)
 ·refine Y ?_;refine⟨hi,K,?_⟩;have:U5 l=l:=by
   match l,Q with
   | [],_=>rfl
   | [x],_=>rfl
   | x :: y :: t,h=>simp at h;omega
  rw[this];exact F
 have Q:2<=l.length:=O;refine Y ?_;refine ZF (l.length-1) (λj B=>H=B/\Z1 l (j+1)=l.take (j+1)) (λj=>[(0,.slice (some ⟨r,0,none⟩) l.length cap),(3,vi ((j+1:Nat):Int))]) (λj=>[]) ⟨rfl,by rw[XU,xJ O];rfl⟩ V trivial ?_;rintro j _ hj ⟨rfl,A⟩;have s:=AR.of U;refine OJ (λD=>?_) (λD=>?_)
 ·have D:j+1<l.length:=O;refine Y ?_;refine vB rfl rfl D (Y ?_);refine Zg (OL _) rfl (s.cA D rfl) (Y ?_);refine Zn j rfl rfl O O (Y ?_);refine Zg (OL _) rfl (s.cA O rfl) ?_;refine OJ (λR=>?_) (λR=>?_)
  ·have E:¬ cap=j+1:=O;refine Y ?_;refine Oh (lo:=j+1) (bL eW) (bH t3) rfl rfl O ?_;rw[bY E];have z:Z1 l (j+2)=l.take (j+1):=by rw[MU O (by simpa using R),A]
   refine Y ?_;refine Z4 (α:=List Int) (l.length-(j+1)-1) (λi c B=>AR H B r c rest/\c.length=l.length/\c.take (Z1 l (j+1+i+1)).length=Z1 l (j+1+i+1)/\(∀x,j+1+i<=x->el c x=el l x)/\(Z1 l (j+1+i+1)).length<=j+1+i/\1<=(Z1 l (j+1+i+1)).length)
    (λi c=>[(0,.slice (some ⟨r,0,none⟩) l.length cap),(3,vi ((Z1 l (j+1+i+1)).length:Nat)),(4,.slice (some ((⟨r,0,none⟩:Addr).add ((j+1) * 1))) (l.length-(j+1)) (cap-(j+1))),(5,vi ((i+1:Nat):Int))]) (λi c=>[]) l ?_ ⟨rfl,?_,rfl,rfl,trivial⟩ trivial ?_
   ·have e2:(Z1 l (j+1+0+1)).length=j+1:=by rw[show j+1+0+1=j+2 from rfl,z,qBu];omega
    exact⟨s,rfl,by rw[e2];exact z.symm,λ_ _=>rfl,O,O⟩
   ·show some (vi _)=some (vi _);rw[show j+1+0+1=j+2 from rfl,z,qBu,Nat.min_eq_left O]
   rintro i c H2 oW ⟨C,p,q,g,JC,JB⟩;generalize f:(Z1 l (j+1+i+1)).length=k at *;have T:l.length-(j+1)<=1000000:=O;refine OJ (λM=>?_) (λM=>?_)
   ·have M:i+1<l.length-(j+1):=O;refine Y ?_;refine vB rfl rfl M (Y ?_);refine Zg (OL _) rfl (C.cAA (j:=j+1+(i+1)) O rfl) (Y ?_);refine Zn i rfl rfl O O (Y ?_);refine Zg (OL _) rfl (C.cAA (j:=j+1+i) O rfl) ?_;rw[g _ O,g _ O];refine OJ (λS=>?_) (λS=>?_)
    ·refine Y ?_;refine vB rfl rfl M (Y ?_);refine Zg (OL _) rfl (C.cAA (j:=j+1+(i+1)) O rfl) ?_;rw[g _ O];refine Y ?_;refine vB rfl rfl (show k<l.length by omega) (Y ?_);refine Z6 (j:=k) C O (ZX _ _) rfl rfl λZ o=>?_;have u:Z1 l (j+1+(i+1)+1)=Z1 l (j+1+i+1)++[el l (j+1+(i+1))]:=MV (n:=j+1+(i+1)) S;have L:(Z1 l (j+1+(i+1)+1)).length=k+1:=by rw[u,IN,f];rfl
     refine Y ?_;refine⟨(⟨i+1,O⟩,c.set k (el l (j+1+(i+1)))),cZ O,⟨o,by simpa using p,?_,λx J=>?_,by rw[L];show k+1<=j+1+(i+1);omega,by rw[L];omega⟩,⟨rfl,?_,rfl,rfl,trivial⟩,trivial,rfl⟩
     ·rw[L,ZpY _ O,q,u]
     ·have J:j+1+(i+1)<=x:=J;rw[DV _ _ O,bY O];exact g x O
     show _=some (vi ((Z1 l (j+1+(i+1)+1)).length:Nat));rw[L];rfl
    have u:Z1 l (j+1+(i+1)+1)=Z1 l (j+1+i+1):=MU (n:=j+1+(i+1)) O S;refine Y ?_;refine⟨(⟨i+1,O⟩,c),cZ O,⟨C,p,?_,λx J=>g x (by have J:j+1+(i+1)<=x:=J;omega),by rw[u,f];show k<=j+1+(i+1);omega,by rw[u,f];omega⟩,⟨rfl,?_,rfl,rfl,trivial⟩,trivial,rfl⟩
    ·rw[u,f,q]
    show _=some (vi ((Z1 l (j+1+(i+1)+1)).length:Nat));rw[u,f];rfl
   have hm:j+1+i+1=l.length:=O;rw[hm]at q f;refine Y ?_;refine Oh (lo:=k) (bL eW) (bH t3) rfl rfl O ?_;rw[bY O];refine Y ?_;refine ZtM C O (ZX _ _) (by rw[p]) rfl λZ o=>Y ?_;refine Zty (k:=.i64) (lo:=0) (hi:=k) (bL eW) (bH t3) rfl (.inl ⟨rfl,rfl⟩) ⟨_,rfl,rfl⟩ (qBg _) O (Y ?_);have hz:¬ cap=0:=O;refine⟨(o.inc hi I),some r,⟨⟨?_,.inr ⟨r,cap,List.replicate (c.length-k) (vi 0)++rest,rfl,?_,?_,?_,?_⟩⟩,λr' e=>by obtain rfl:=iN e;exact I⟩⟩
   ·rw[V5];show _=(U5 l).length * 1;omega
   ·rw[bY hz];show Value.slice (some ((⟨r,0,none⟩:Addr).add (0 * 1))) (k-0) (cap-0)=_;rw[ZX,qBV,qBV,<-f];rfl
   ·have h:=o.at_;rw[q,xZ,show Zh (List.replicate (c.length-k) (0:Int))=List.replicate (c.length-k) (vi 0)by rw[UD,List.map_replicate],qAS]at h;exact h
   ·rw[IN,IN,V5,List.length_replicate,p];show(Z1 l l.length).length+_=cap * 1;rw[f];omega
   show(Z1 l l.length).length<=cap;omega
  refine Y ?_;refine⟨⟨j+1,O⟩,cZ O,⟨rfl,?_⟩,V,trivial,rfl⟩;rw[MV (by simpa using R),A,xJ D]
 have:j+1=l.length:=O;refine Y ?_;refine⟨hi,K,?_⟩;have:U5 l=l:=by rw[U5,<-this,A,this,qAh]
 rw[this];exact F
end
