import Derived.Test.YthmnpenamnoniaaGreatDoorP14
import Derived.Test.YthmnpenamnoniaaGreatDoorP26
set_option linter.all false
set_option maxHeartbeats 4000000
set_option maxRecDepth 20000
open Go Go.LL
namespace Go.Proofs
section
variable{H H':Hp}{v:Value}{b:Bk}
def Pf{G:Prop} (h:G:=by refine Y ?_;refine ZtJ (α:=N4) (m:=bV m (Zm b x) (ZH m (Zm b x))) (a:=Zm b x) (kv:=ZD) (w:=ZH m (Zm b x)+1) rfl (by rw[(MG m (Zm b x) _).1];rfl) rfl (Hp.aD _ _ _) (by rw[(MG m (Zm b x) _).1];exact(MG m (Zm b x) _).2) (OL _) ?_;rw[YD,hO];refine Y ?_;exact⟨⟨j+1,O⟩,cZ O,⟨Yr i9 rQ,by rw[Hp.aE _ _ S5];exact CV,by rw[vZ];exact Hp.aD _ _ _⟩,V,trivial,rfl⟩):G:=h
def Zpt:ZU Tryz.prog 186=some (2,some (.agg #[.int .i32 0,.int .u32 0]),8):=U
def Zps:ZU Tryz.prog 193=some (2,some (.agg #[.int .u64 0,.int .u32 0]),16):=U
def Pw:ZU Tryz.prog 195=some (1,some (.map none),8):=U
noncomputable abbrev PP:aY:=vX Tryz.prog
noncomputable instance:Tz PP:=⟨rfl⟩
noncomputable instance:Loud PP:=⟨λ_=>rfl⟩
instance (c:Cx):Tz (pm c):=⟨rfl⟩
instance (c:Cx):Loud (pm c):=⟨λ_=>rfl⟩
def Dl{a:N4}:∀{m:List (N4×Int)},(∀p∈m,0<=p.2)->ZH m a<=VJ (λ_=>true) m
 | [],_=>qAA _
 | (k,v) :: r,h=>by have d:=h (k,v) (qAs ..);have e:=Dl (a:=a) λp c=>h p (qAc _ c);have f:=EC (a:=a) λp c=>h p (qAc (k,v) c);rw[ZH,VJ,BY rfl];simp only at d;split<;>omega
def Zuc(b:Bk):∀L:List Zs,VJ (λ_=>true) (Vs b L)<=L.length:=by
 refine xA (qAA _) λL x ih=>?_;rw[FW,yE,IN,qAX];split
 ·rw[NG,BY rfl];omega
 omega
def Vt(H H':Hp):Prop:=∀b o p,H b=some (o,p)->∃c,H' b=some (o,c)/\(c=true->p=true)
def Vt.trans{c:Hp}(h:Vt H H')(d:Vt H' c):Vt H c:=λb o p hb=>by obtain⟨m,f,g⟩:=h b o p hb;obtain⟨q,k,l⟩:=d b o m f;exact⟨q,k,λe=>g (l e)⟩
theorem bA.gM(h:bA H H'):Vt H H':=λb o p hb=>⟨p,h _ _ hb,id⟩
def Vt.refl(H:Hp):Vt H H:=(bA.refl H).gM
def _root_.Go.LL.aC.gM{a:Addr}{c:List Value}(h:aC H a c)(hi:Vt H H'):aC H' a c:=by obtain⟨d,o,p,e,f⟩:=h;obtain⟨k,g,_⟩:=hi _ _ _ e;exact⟨d,o,k,g,f⟩
def Zj.gM{α:Type}[Enc α]{l:List α}(h:Zj H v l)(m:Vt H H'):Zj H' v l:=by obtain⟨A,c,d,e⟩:=h;refine⟨A,c,d,λk=>?_⟩;obtain⟨a,f,g⟩:=e k;exact⟨a,f,g.gM m⟩
def bK.gM(h:bK H v b)(c:Vt H H'):bK H' v b:=by obtain⟨k,d,e,f,g⟩:=h;exact⟨k,d,e,f.gM c,g.gM c⟩
def rN(H:Hp)(g:List Nat):Hp:=⟨λb=>(H b).map λx=>(x.1,false),g⟩
theorem M0(H:Hp)(g:List Nat)(b:Nat):rN H g b=(H b).map λx=>(x.1,false):=rfl
def M1(H:Hp)(g:List Nat):Vt H (rN H g):=λb o p hb=>⟨false,by rw[M0,hb];rfl,by simp⟩
def Nh(H:Hp)(g:List Nat):(rN H g).Less H:=λb o pm hb=>by rw[M0]at hb;obtain⟨x,d,c⟩:=qAk.1 hb;obtain⟨f,e⟩:=x;simp only[qAL]at c;obtain⟨rfl,rfl⟩:=c;exact⟨e,d,by simp⟩
def Zqx(H:Hp)(g e:List Nat):(rN H g).Dis (rN H e):=λb x y c d=>by rw[M0]at c d;rw[c]at d;obtain rfl:=iN d;obtain⟨z,f,rfl⟩:=qAk.1 c;exact⟨rfl,rfl⟩
def BF(H:Hp)(g:List Nat):Vt H (H.tagged g):=Vt.refl H
theorem Jv{p c:Nat}{l:List Nat}(h:wS b p c l H):∀x y,H x=some y->y.2=true:=by
 obtain⟨v,q,k,m,s,o,_⟩:=h;intro x y d;rcases o x (by rw[d];simp)with rfl | e
 ·rw[k]at d;obtain rfl:=iN d;rfl
 obtain⟨_,⟨_,_,f⟩ | ⟨r,cap,rest,f,_,g,_⟩⟩:=m
 ·rw[f]at e;simp at e
 rw[f]at e;obtain rfl:=iN e;rw[g]at d;obtain rfl:=iN d;rfl
section
theorem ZAa{P:aY}[Tz P][Loud P](JS:P=PP){bv:Value}(hb:bK H bv b)(hg:ZY H)(hl:b.aF.length<=1000000)(rV:b.bJ.length<=1000000) :
  LL.Za P 39 #[bv] H λv N=>bA H N/\v=.tuple #[vi (if Zy b true=0 then(O2 b).s else 0),vi (if Zy b true=0 then(O2 b).k else 0),vi (Zy b true)]:=by
 have nX:=hb
 obtain⟨pv,cv,rfl,hp,hc⟩:=hb
 obtain⟨Ap,cp,rfl,uB⟩:=id hp
 obtain⟨Ac,cc,rfl,pP⟩:=id hc
 refine aI.m (bG c35) rfl ?_
 unfold RJ
 refine Y ?_
 refine Zf (vs:=[.agg #[vi b.op,vi b.sl,.slice Ap b.aF.length cp,.slice Ac b.bJ.length cc],vf 65]) (vD (fB:=true) nX hg hl rV xN) ?_
 rintro v H1 ⟨nW,rT⟩
 have J:(Zy b true≠0/\∃o,v=.tuple #[o,vi (Zy b true)]/\o.cells.size=5/\(o.cells.toList.all Value.bS)=true)\/(Zy b true=0/\∃Q S bb,v=.tuple #[.agg #[vi b.op,vi b.sl,.slice Ap b.aF.length cp,.slice Ac b.bJ.length cc,.slice Q (Zd b).length S],vi 0]/\cS H H1 117 (.slice Q (Zd b).length S) (Zd b) bb):=by
  rcases rT with⟨J,rfl⟩ | ⟨J,vW,wI,w,bb,e,rfl,ow⟩
  ·exact .inl ⟨J,_,rfl,rfl,rfl⟩
  simp only[Value.agg.injEq,qBe,qAD,qBP]at e;obtain⟨_,_,rfl,rfl⟩:=e;obtain⟨Q,S,rfl,_⟩:=id ow.sl;exact .inr ⟨J,Q,S,bb,rfl,ow⟩
 clear rT
 rcases J with⟨J,o,rfl,ho1,I5⟩ | ⟨J,Q,S,bb,rfl,ow⟩
 ·refine Y ?_;refine ZV (bH OK) (OL _) λr5 wA=>Y ?_;refine Yz (bH OK) rfl rfl (cs:=[vi 0,vi 0,.slice none 0 0,.slice none 0 0,.slice none 0 0]) (Hp.aD _ _ _) ho1 rfl I5 (OL _) ?_;rw[YD];have I:bA H1 (H1.ins r5 (.cells o.cells 137)):=Zk wA;refine OJ (λh1=>?_) (λh1=>?_)
  ·refine Y ?_;exact⟨nW.trans I,by rw[bY J,bY J];rfl⟩
  exact absurd h1 J
 have val:=Y3 (OV J).1
 have jO:=V6 val
 refine Y ?_
 refine ZV (bH OK) (OL _) λr5 wA=>Y ?_
 refine Yz (v:=.agg #[vi b.op,vi b.sl,.slice Ap b.aF.length cp,.slice Ac b.bJ.length cc,.slice Q (Zd b).length S]) (bH OK) rfl rfl (cs:=[vi 0,vi 0,.slice none 0 0,.slice none 0 0,.slice none 0 0]) (Hp.aD _ _ _) rfl rfl rfl (OL _) ?_
 rw[YD]
 have oW:=Zk (o:=.cells (Value.agg #[vi b.op,vi b.sl,.slice Ap b.aF.length cp,.slice Ac b.bJ.length cc,.slice Q (Zd b).length S]).cells 137) wA
 have c5:aC (H1.ins r5 (.cells (Value.agg #[vi b.op,vi b.sl,.slice Ap b.aF.length cp,.slice Ac b.bJ.length cc,.slice Q (Zd b).length S]).cells 137)) ⟨r5,0,none⟩ [vi b.op,vi b.sl,.slice Ap b.aF.length cp,.slice Ac b.bJ.length cc,.slice Q (Zd b).length S]:=ZW
 have C6:bK (H1.ins r5 (.cells (Value.agg #[vi b.op,vi b.sl,.slice Ap b.aF.length cp,.slice Ac b.bJ.length cc,.slice Q (Zd b).length S]).cells 137)) (.agg #[vi b.op,vi b.sl,.slice Ap b.aF.length cp,.slice Ac b.bJ.length cc]) b:=(nX.inc nW).inc oW
 have IM:Zj (H1.ins r5 (.cells (Value.agg #[vi b.op,vi b.sl,.slice Ap b.aF.length cp,.slice Ac b.bJ.length cc,.slice Q (Zd b).length S]).cells 137)) (.slice Q (Zd b).length S) (Zd b):=ow.sl.inc oW
 generalize H1.ins r5 (.cells (Value.agg #[vi b.op,vi b.sl,.slice Ap b.aF.length cp,.slice Ac b.bJ.length cc,.slice Q (Zd b).length S]).cells 137)=H2 at *
 refine Y ?_
 refine ZV (bH Zpt) (OL _) λM hM=>?_
 have qW:=Zk (o:=.cells (Value.agg #[.int .i32 0,.int .u32 0]).cells 186) hM
 have AL:(H2.ins M (.cells (Value.agg #[.int .i32 0,.int .u32 0]).cells 186)) M=some (.cells #[.int .i32 (0:Nat),.int .u32 (0:Nat)] 186 (0,0),true):=Hp.aD _ _ _
 generalize H2.ins M (.cells (Value.agg #[.int .i32 0,.int .u32 0]).cells 186)=H3 at *
 refine Y ?_
 refine ZV (bH Zps) (OL _) λW hW=>?_
 have pO:=Zk (o:=.cells (Value.agg #[.int .u64 0,.int .u32 0]).cells 193) hW
 have C8:(H3.ins W (.cells (Value.agg #[.int .u64 0,.int .u32 0]).cells 193)) W=some (.cells #[.int .u64 (0:Nat),.int .u32 (0:Nat)] 193 (0,0),true):=Hp.aD _ _ _
 have JV:M≠W:=by rintro rfl;rw[AL]at hW;simp at hW
 generalize H3.ins W (.cells (Value.agg #[.int .u64 0,.int .u32 0]).cells 193)=H4 at *
 refine Y ?_
 refine ZV (bH Pv) (OL _) λG v7=>?_
 have I:=Zk (o:=.cells (Value.slice none 0 0).cells 194) v7
 have JX:(H4.ins G (.cells (Value.slice none 0 0).cells 194)) G=some (.cells #[.slice none 0 0] 194 (0,0),true):=Hp.aD _ _ _
 have hFM:G≠M:=by rintro rfl;rw[pO _ _ AL]at v7;simp at v7
 have hFW:G≠W:=by rintro rfl;rw[C8]at v7;simp at v7
 generalize H4.ins G (.cells (Value.slice none 0 0).cells 194)=H5 at *
 have D:bA H2 H5:=(qW.trans pO).trans I
 have hM2:H2 M=none:=hM
 have hW2:H2 W=none:=Z7 qW hW
 have hF2:H2 G=none:=Z7 (qW.trans pO) v7
 refine Y ?_
 refine PL (α:=N4) (kv:=ZD) (OL _) λX rQ=>?_
 have SR:=Zk (o:=Zu ZD ([]:List (N4×Int))) rQ
 refine Y ?_
 refine ZV (bH Pw) (OL _) λr9 rR=>?_
 have hi7:=Zk (o:=.cells (Value.map none).cells 195) rR
 have S5:r9≠X:=by rintro rfl;rw[Hp.aD]at rR;simp at rR
 have wG:H5 r9=none:=Z7 SR rR
 refine Y ?_
 refine Yo (bH Pw) rfl rfl (Hp.aD _ _ _) rfl rfl (OL _) ?_
 rw[YD]
 have IU:bA H5 ((H5.ins X (Zu ZD ([]:List (N4×Int)))).ins r9 (.cells #[.map (some X)] 195))/\((H5.ins X (Zu ZD ([]:List (N4×Int)))).ins r9 (.cells #[.map (some X)] 195)) r9=some (.cells #[.map (some X)] 195 (0,0),true)/\((H5.ins X (Zu ZD ([]:List (N4×Int)))).ins r9 (.cells #[.map (some X)] 195)) X=some (Zu ZD (Vs b ((Zd b).take 0)),true):=
  ⟨SR.trans (Zk rR),Hp.aD _ _ _,by rw[Hp.aE _ _ (qAm S5),Hp.aD];rfl⟩
 generalize(H5.ins X (Zu ZD ([]:List (N4×Int)))).ins r9 (.cells #[.map (some X)] 195)=H7 at *
 obtain⟨g1,g2,g3⟩:=IU
 refine Y ?_
 refine Zg (OL _) rfl (VV (j:=4) ((c5.inc D).inc g1) rfl) (Y ?_)
 refine ZF (Zd b).length (λj N=>bA H5 N/\N r9=some (.cells #[.map (some X)] 195 (0,0),true)/\N X=some (Zu ZD (Vs b ((Zd b).take j)),true))
  (λj=>[(1,vi 0),(2,vi 0),(3,vi 0),(4,vi 0),(5,pt r5),(6,pt M),(7,pt W),(8,pt G),(9,pt r9),(24,.slice Q (Zd b).length S),(25,vi (Zd b).length),(26,vi j)])
  (λj=>[]) ⟨g1,g2,g3⟩ V trivial ?_
 rintro j H8 hj ⟨i8,m9,mm⟩
 have c58:=(c5.inc D).inc i8
 refine OJ (λh1=>?_) (λh1=>?_)
 ·have kP:j<(Zd b).length:=O;have F:=vS val _ (qAa kP);have vZ:=FW b ((Zd b).take j) (Zd b)[j];rw[<-iO kP,yE]at vZ;have nG:=Bv b ((Zd b).take j);refine Y ?_;refine Zo j ((IM.inc D).inc i8) kP λa ha=>Y ?_;refine ZL ha (Y ?_);refine Z5 (cs:=[vi b.op,vi b.sl,.slice Ap b.aF.length cp,.slice Ac b.bJ.length cc]) (OL _) rfl (by rw[add_zero];exact Z2 (ds:=[_]) c58) rfl (Y ?_);refine Zf (vs:=[.agg #[vi b.op,vi b.sl,.slice Ap b.aF.length cp,.slice Ac b.bJ.length cc],ZP (Zd b)[j]]) (XD ((C6.inc D).inc i8) val.eI.bk (sL F) (by have:=val.n;omega) val.eI.aF (EA val F) (OL _)) ?_;rintro v H9 ⟨s9,rfl⟩;have i9:=i8.trans s9.inc;have CV:=s9.mem _ _ m9;have CU:=s9.mem _ _ mm;have DI:=(c5.inc D).inc i9;refine OJ (λh2=>?_) (λh2=>?_)
  ·rw[show YH b (Zd b)[j]=true from decide_eq_true h2,BY rfl]at vZ;have qQ:=Bw b;have hgn:0<=ZH (Vs b ((Zd b).take j)) (Zm b (Zd b)[j]):=EC λp hp=>(nG p hp).2;have aAU:ZH (Vs b ((Zd b).take j)) (Zm b (Zd b)[j])<=1000000:=by have h3:=Dl (a:=Zm b (Zd b)[j]) λp hp=>(nG p hp).2;have h4:=Zuc b ((Zd b).take j);rw[qBu]at h4;omega
   generalize hq:(Zd b)[j]=x at *;generalize hmq:Vs b ((Zd b).take j)=m at *;refine Lj (OL _) ?_ ?_
   ·refine Y ?_;refine Zg (OL _) rfl (ZE CV) (Y ?_);refine Z5 (cs:=[vi b.op,vi b.sl,.slice Ap b.aF.length cp,.slice Ac b.bJ.length cc]) (OL _) rfl (by rw[add_zero];exact Z2 (ds:=[_]) DI) rfl (Y ?_);refine Zl (vs:=[.agg #[vi b.op,vi b.sl,.slice Ap b.aF.length cp,.slice Ac b.bJ.length cc],ZP x]) (O9 ((C6.inc D).inc i9) val.eI.bk (sL F) (OL _)) (Y ?_);refine GH (α:=N4) (m:=m) (a:=Zm b x) (kv:=ZD) (bL BG) EF (bH t3) rfl rfl CU (OL _) (Y ?_);refine Jd (α:=N4) (m:=m) (a:=Zm b x) (kv:=ZD) (bL BG) EF (bH t3) rfl rfl CU (OL _) ?_;refine Zr OL ?_;exact Pf
   refine Y ?_;refine Zg (OL _) rfl (ZE CV) (Y ?_);refine Z5 (cs:=[vi b.op,vi b.sl,.slice Ap b.aF.length cp,.slice Ac b.bJ.length cc]) (OL _) rfl (by rw[add_zero];exact Z2 (ds:=[_]) DI) rfl (Y ?_);refine Zl (vs:=[.agg #[vi b.op,vi b.sl,.slice Ap b.aF.length cp,.slice Ac b.bJ.length cc],ZP x]) (O9 ((C6.inc D).inc i9) val.eI.bk (sL F) (OL _)) (Y ?_);refine Jd (α:=N4) (m:=m) (a:=Zm b x) (kv:=ZD) (bL BG) EF (bH t3) rfl rfl CU (OL _) (Y ?_);refine GH (α:=N4) (m:=bV m (Zm b x) (ZH m (Zm b x))) (a:=Zm b x) (kv:=ZD) (bL BG) EF (bH t3) rfl rfl (Hp.aD _ _ _) (OL _) ?_;rw[ED,BY rfl];exact Pf
  rw[show YH b (Zd b)[j]=false from qAy h2]at vZ;simp only[dO,qAf]at vZ;refine Y ?_;exact⟨⟨j+1,O⟩,cZ O,⟨i9,CV,by rw[vZ];exact CU⟩,V,trivial,rfl⟩
 have:j=(Zd b).length:=O
 subst this
 rw[qAh]at mm
 refine OB ?_
 refine Zt5 ?_
 subst JS
 let R:Hp:=⟨λx=>if x=M\/x=W\/x=G then none else H8 x,[]⟩
 let Hl:Hp:=⟨λx=>if x=G then H8 x else none,[]⟩
 have DC:∀x,R x=if x=M\/x=W\/x=G then none else H8 x:=λx=>rfl
 have DD:∀x,Hl x=if x=G then H8 x else none:=λx=>rfl
 have hM8:H8 M=some (.cells #[.int .i32 (0:Nat),.int .u32 (0:Nat)] 186 (0,0),true):=(((pO.trans I).trans i8) _ _ AL)
 have hW8:H8 W=some (.cells #[.int .u64 (0:Nat),.int .u32 (0:Nat)] 193 (0,0),true):=(I.trans i8) _ _ C8
 have hF8:H8 G=some (.cells #[.slice none 0 0] 194 (0,0),true):=i8 _ _ JX
 have hS:yR H8 M W 186 193 R Hl:=by
  refine⟨JV,hM8,hW8,λx y F=>?_,λx y F=>?_⟩
  ·rw[DC]at F;by_cases e:x=M\/x=W\/x=G
   ·rw[BY e]at F;simp at F
   rw[bY e]at F;exact⟨F,λh=>e (.inl h),λh=>e (.inr (.inl h)),by rw[DD,bY λh=>e (.inr (.inr h))]⟩
  rw[DD]at F;by_cases e:x=G
  ·subst e;rw[BY rfl]at F;exact⟨F,hFM,hFW⟩
  rw[bY e]at F;simp at F
 have SC:∀x y,H2 x=some y->R x=some y:=λx y h=>by
  have h8:=(D.trans i8) _ _ h;rw[DC,bY]
  ·exact h8
  rintro(rfl | rfl | rfl)
  ·rw[hM2]at h;simp at h
  ·rw[hW2]at h;simp at h
  rw[hF2]at h;simp at h
 have AB:bA H2 R:=SC
 have JY:R r9=some (.cells #[.map (some X)] 195 (0,0),true):=by
  rw[DC,bY]
  ·exact m9
  rintro(e | e | e)
  ·rw[e,I _ _ (pO _ _ AL)]at wG;simp at wG
  ·rw[e,I _ _ C8]at wG;simp at wG
  rw[e,JX]at wG;simp at wG
 have IX:R X=some (Zu ZD (Vs b (Zd b)),true):=by
  rw[DC,bY]
  ·exact mm
  rintro(e | e | e)
  ·rw[e,I _ _ (pO _ _ AL)]at rQ;simp at rQ
  ·rw[e,I _ _ C8]at rQ;simp at rQ
  rw[e,JX]at rQ;simp at rQ
 have I8:∀x y,R x=some y->H8 x=some y:=λx y h=>(hS.own x y h).1
 refine Zwq (K:=1195) (need:=λbase j=>decide (0<Yv b (((j-base:Nat):Int)-597))) (PI:=λbase=>wS b G base) hS (λbase=>⟨.slice none 0 0,none,by rw[DD,BY rfl];exact hF8,.nil _ _ _,by simp,λx F=>?_,qCs,λj hj=>by simp at hj⟩)
  (λbase n0 old=>⟨JV,λl H=>Jv,by show 1195<=100000000;decide,λl H g h=>h⟩) λbase n0 old S0=>?_
 ·by_cases e:x=G
  ·exact .inl e
  rw[DD,bY e]at F;exact absurd rfl F
 clear_value R Hl
 have ok:Cx.Ok { M:=M,W:=W,base:=base,n0:=n0,old:=old,tM:=186,tW:=193,K:=1195,need:=λj=>decide (0<Yv b (((j-base:Nat):Int)-597)),PI:=wS b G base }:=⟨JV,λl H=>Jv,by show 1195<=100000000;decide,λl H g h=>h⟩
 obtain⟨c,t⟩:∃c:Cx,c={ M:=M,W:=W,base:=base,n0:=n0,old:=old,tM:=186,tW:=193,K:=1195,need:=λj=>decide (0<Yv b (((j-base:Nat):Int)-597)),PI:=wS b G base }:=⟨_,rfl⟩
 rw[<-t]at ok ⊢
 have cM:c.M=M:=by rw[t]
 have cW:c.W=W:=by rw[t]
 have cB:c.base=base:=by rw[t]
 have cK:c.K=1195:=by rw[t]
 have cN:∀j,c.need j=decide (0<Yv b (((j-base:Nat):Int)-597)):=λj=>by rw[t]
 have cP:c.PI=wS b G c.base:=by rw[t]
 clear t
 obtain⟨P',T⟩:∃P',P'=pm c:=⟨_,rfl⟩
 have iT:Tz P':=T ▸ inferInstance
 have iL:Loud P':=T ▸ inferInstance
 have U:∀g,P'.still g=false:=Loud.bB
 have uE:∀{n:Nat} {H:Hp},H.gh=[30,n]->LL.Za P' 102 #[pt W,vi 1] H λ_ N=>N=H.tagged [33,n]:=λ{n H} h=>by rw[T,<-cW];exact ZzP ok h
 have zO:∀{H:Hp},H.gh=[30,1195]->LL.Za P' 108 #[pt W] H λ_ N=>WR c H N:=λ{H} h=>by rw[T,<-cW];exact Zo9 ok (by rw[cK];exact h)
 have hgo:∀{wk nr:Bool} {n jI:Nat} {H:Hp},H.gh=[30,n]->n<1195->Vt R H->H jI=some (.cells #[vi n] 3 (0,0),true)->Zp P' (pure (.spawn { target:=.fn (.func 103) #[pt W,pt jI,pt r9,pt r5,pt M,pt G],args:=#[]++([]:List Value).toArray })) wk nr (H.tagged [33,n]) λv K=>v=undef/\K=rN (H.tagged [33,n]) [30,n+1]:=by
  intro wk nr n jI H oX hn hi AM;rw[T];have C0:Vt R (rN (H.tagged [33,n]) [1]):=(hi.trans (BF H _)).trans (M1 _ _);refine Zur ok ⟨_,_,rfl⟩ (λw=>rfl) rfl (by rw[cK];exact hn) (Nh _ _) (Nh _ _) (Zqx _ _ _) rfl rfl (ZqJ Tryz.func103 rfl rfl ?_);obtain⟨pm',SJ,_⟩:=C0 _ _ _ IX;have kG:c.need (c.base+n)=decide (0<Yv b ((n:Int)-597)):=by rw[cN,cB,show base+n-base=n by omega]
  have:=Zo3 (pv:=.slice Ap b.aF.length cp) (cv:=.slice Ac b.bJ.length cc) (w:=.slice Q (Zd b).length S) ok val hn rfl kG cP (H:=rN (H.tagged [33,n]) [1]) rfl (jI:=jI) ((ZE AM).gM ((BF H _).trans (M1 _ _))) ((ZE JY).gM C0) SJ ((c5.inc AB).gM C0) ((C6.inc AB).gM C0);rw[cM,cW]at this;exact this
 have AG:∀{N yV:Hp},Vt R N->QA H8 N yV->bA H yV:=by
  intro N yV hi hu x y F;have tX:H2 x=some y:=oW _ _ (nW _ _ F);have zM:=SC _ _ tX;have R8:=I8 _ _ zM;obtain⟨o,p⟩:=y;obtain⟨p',h1,h2⟩:=hi _ _ _ zM;cases hz2:yV x with
  | none=>rw[(hu.dom x).1 hz2]at h1;simp at h1
  | some z=>
   obtain⟨k1,k2,k3,k4⟩:=hu.val x z _ hz2 h1;obtain⟨o',Wj⟩:=z;simp only at k1 k2 k3 k4;subst k1;congr 2;cases p with
   | true=>exact k3 ⟨_,R8⟩
   | false=>
    cases Wj with
    | false=>rfl
    | true=>exact(h2 (k4 _ R8 rfl)).symm
 rw[show(aZ Tryz.prog c).prgM=P' from T.symm]
 clear T
 refine Y ?_
 refine ZF 1195 (λj N=>N.gh=[30,j]/\Vt R N) (λj=>[(1,vi 0),(2,vi 0),(3,vi 0),(4,vi 0),(5,pt r5),(6,pt M),(7,pt W),(8,pt G),(9,pt r9),(44,vi j)]) (λ_=>[]) ⟨rfl,BF R _⟩ V trivial ?_
 rintro n H9 hn ⟨SV,i9⟩
 refine OJ (λh1=>?_) (λh1=>?_)
 ·have qT:n<1195:=O;refine Y ?_;refine ZV (bH t3) (U _) λjI uA=>Y ?_;refine Yo (bH t3) rfl rfl (Hp.aD _ _ _) rfl rfl (U _) ?_;rw[YD];have R6:Vt R (H9.ins jI (.cells #[vi n] 3)):=i9.trans (Zk uA).gM;have AP:(H9.ins jI (.cells #[vi n] 3)) jI=some (.cells #[vi n] 3 (0,0),true):=Hp.aD _ _ _;have AF:(H9.ins jI (.cells #[vi n] 3)).gh=[30,n]:=SV;generalize H9.ins jI (.cells #[vi n] 3)=vU at *;refine Y ?_;refine Zf (vs:=[pt W,vi 1]) (uE AF) ?_;rintro v _ rfl;refine Y ?_;refine Y8 rfl rfl (Y ?_);refine ZtH (f:=103) (first:=#[]) (vs:=[]) rfl rfl (hgo AF qT R6 AP) ?_;rintro v _ ⟨rfl,rfl⟩;refine Y ?_;exact⟨⟨n+1,O⟩,cZ O,⟨rfl,(R6.trans (BF vU _)).trans (M1 _ _)⟩,V,trivial,rfl⟩
 have:n=1195:=O
 subst this
 refine Y ?_
 refine Zf (vs:=[pt W]) (zO SV) ?_
 rintro v _ ⟨l,yU,zY,JP,hin,hnd,kO,kH,rfl⟩
 rw[cP]at zY
 obtain⟨fv,bb2,p1,p2,p3,p4,p5,p6⟩:=zY
 have hJ:∀x y,yU x=some y->((H9.tagged [40]).join yU) x=some y:=λx y h=>Hp.aP kH h
 have oX:((H9.tagged [40]).join yU).gh=[40]:=by rw[Hp.bI,kO];rfl
 have R4:Vt R ((H9.tagged [40]).join yU):=(i9.trans (BF H9 [40])).trans (Vb _ _).gM
 have HZ:eY ((H9.tagged [40]).join yU) 198 2 fv (Zh (l.map (Vy b c.base))) (l.map (Vy b c.base)).length bb2:=by rw[qAe];exact p2.sub λx y _ h=>hJ x y h
 have f11:=hJ _ _ p1
 generalize(H9.tagged [40]).join yU=yW at *
 have hL:VK (l.map (Vy b c.base))=O2 b:=by
  refine Zub (λj h1 h2 h3=>?_) λj hj=>?_
  ·refine JP j h1 (by rw[cK];exact h2) ?_;rw[cN,<-cB];exact decide_eq_true h3
  obtain⟨h1,h2,h3⟩:=hin j hj;rw[cK]at h2;rw[cN,<-cB]at h3;exact⟨h1,h2,of_decide_eq_true h3⟩
 have hll:l.length<=1195:=F7 _ _ l p5 p6
 have I9:(l.map (Vy b c.base)).length=l.length:=qAe _
 generalize l.map (Vy b c.base)=L at *
 obtain⟨A,c',JJ,_⟩:=HZ.cells
 subst JJ
 refine Y ?_
 refine Zg (U _) rfl (ZE f11) ?_
 refine OJ (λh2=>?_) (λh2=>?_)
 ·have:L=[]:=qAo O;subst this;refine Y ?_;refine⟨oX,λyV hu=>?_⟩;refine Y ?_;refine⟨AG R4 hu,?_⟩;rw[BY J,BY J,J,<-hL];rfl
 have Z:1<=L.length:=O
 obtain⟨A2,c2,f1,f2⟩:=xI HZ Z
 have Sb:Zj yW (.slice A L.length c') L:=⟨A,c',rfl,λhn=>by obtain⟨A3,c3,q1,q2⟩:=HZ.cells;obtain⟨a,q3,q4⟩:=q2 O;simp only[Value.slice.injEq]at q1;obtain⟨rfl,_,rfl⟩:=q1;exact⟨a,q3,q4⟩⟩
 simp only[Value.slice.injEq]at f1
 obtain⟨rfl,_,rfl⟩:=f1
 refine Y ?_
 refine Zg (U _) rfl (ZE f11) (Y ?_)
 refine Zo 0 Sb Z λa ha=>Y ?_
 refine Z5 (U _) rfl ha rfl (Y ?_)
 refine Zg (U _) rfl (ZE f11) (Y ?_)
 refine Oh (lo:=1) (bL P1) (bH Py) rfl rfl Z (Y ?_)
 refine Zl (vs:=[vf 110,tQ L[0],_]) (Zzv L[0] f2 (by rw[qCD];omega) (U _)) ?_
 have AJ:ZG Yl L[0] (L.drop 1)=O2 b:=by rw[<-hL,VK,Z8 Z]
 rw[AJ]
 refine Y ?_
 refine⟨oX,λyV hu=>?_⟩
 refine Y ?_
 refine⟨AG R4 hu,?_⟩
 rw[BY J,BY J,J];rfl
end
end
section
open Go.Z
def KF:Zb:=(sq [o 6 (.aS 6 [6] 0),o 8 (.aS 8 [8] 2),o 10 (.aS 10 [10] 4),m0 12] (S (sq [l 20 6 4 6,c1 21 19 20,o 22 (.not 21),m 23 22,gf 23 24 (.cY 8 (some 4) 8),gf 23 25 (.call 20 [24]),gf 23 26 (.not 25),po 27 23 26,m 28 27,gf 28 29 (.cY 8 (some 4) 8),gf 28 30 (.call 21 [29]),gf 28 31 (.len 30),gf 28 32 (.bC .eql 31 (k 0)),po 33 28 32] (cr 33 [c0 34 7,m 12 34])) (sq [l 36 8 4 8,l 37 10 3 10,c2 38 22 36 37,m 35 38,x 39 35 0,x 40 35 1,o 13 (.aO 13 [13] [z0,s0,s0,s0]),ls 13 4 13 39,m 14 40] (S (sq [m 41 14,bk 42 .neq 41 0] (cr 42 [c0 43 7,m 12 43])) (S (S (.drawn [l 44 13 4 13,l 45 8 4 8,l 46 10 3 10,(c2 47 24 45 46,(some false)),c2 48 23 44 47,o 49 (.not 48),m 50 49,gf 50 51 (.cY 13 (some 4) 13),gf 50 52 (.call 25 [51]),gf 50 53 (.bC .neq 52 (k 0)),po 54 50 53]) (cr 54 [m0 12])) (sq [l 55 8 4 8,m 56 3,c2 57 26 55 56,m 15 57] (sq [l 59 8 4 8,m 60 15,c2 61 27 59 60,m 58 61,x 62 58 0,x 63 58 1,o 16 (.aO 16 [16] [z0,z0]),ls 16 2 16 62,m 17 63] (sq [l 65 13 4 13,m 66 15,c2 67 27 65 66,m 64 67,x 68 64 0,x 69 64 1,o 18 (.aO 18 [18] [z0,z0]),ls 18 2 18 68,m 19 69] (sq [m 70 17,bk 71 .eql 70 0,m 72 71,mt 72 73 19,gt 72 74 (.bC .eql 73 (k 0)),pa 75 72 74,m 76 75,gt 76 77 (.cY 6 (some 4) 6),mt 76 78 1,gt 76 79 (.cY 16 (some 2) 16),gt 76 80 (.cY 18 (some 2) 18),mt 76 81 5,gt 76 82 (.call 28 [77,78,79,80,81]),pa 83 76 82,m 84 83,gt 84 85 (.call 7 []),pa 86 84 85,m 12 86] .ret)))))))))
def Mr:List Zc:=[(.aK 12)]
def Zzc:aI Tryz.prog 5 6 KF Mr:=bE [(6,6),(8,8),(10,10),(13,13),(16,16),(18,18)] Tryz.func5
end
variable{bv u w v:Value}{b:Bk}{a:List Int}{n r j i:Nat}{α β γ:Type}{E:TypeId}
section
variable{P:aY}[Tz P][Loud P]{H:Hp}
def ZAk(hb:bK H bv b):LL.Za P 29 #[bv] H λv c=>H=c/\v=vb (decide (20<b.aF.length) || decide (20<b.bJ.length)):=by
 obtain⟨h,g,rfl,f,e⟩:=hb;refine aI.m (bG c17) rfl ?_;unfold RX;refine Y ?_;refine ZK f rfl ?_;refine OJ (λd=>?_) (λd=>?_)
 ·refine Y ?_;exact⟨rfl,by rw[decide_eq_true (show 20<b.aF.length by omega)];rfl⟩
 refine Y ?_;refine ZK e rfl (Y ?_);refine⟨rfl,?_⟩;rw[qAy (show ¬ 20<b.aF.length by omega),Bool.false_or];exact qAQ vb (qDd.2 O)
def xP(a b f e:Int):LL.Za P 15 #[.agg #[vi a,vi b],vi f,vi e] H λv g=>H=g/\v=vb (decide (f<=a/\a<=b/\b<=e)):=by refine aI.m (bG ZxW) rfl ?_;unfold Hu;refine OJ (λc=>?_) (λc=>?_)<;>refine Y ?_;refine OI (λd=>?_) (λd=>?_)<;>refine Y ?_<;>exact⟨rfl,by simp[Yn,c,d]⟩;exact⟨rfl,by simp[Yn,c]⟩
def ZuY(hb:bK H bv b)(n:Int)(g:b.aF.length<=1000000):LL.Za P 88 #[bv,vi n] H λv c=>H=c/\v=vb (decide (0<=n/\n<b.aF.length)):=by obtain⟨h,e,rfl,d,f⟩:=hb;refine aI.m (bG Zy9) rfl ?_;unfold Fw;refine Y ?_;refine ZK d rfl (Y ?_);refine Zl (vs:=[vi n,vi 0,vi (b.aF.length-1)]) (Ub _ _ _) (Y ?_);exact⟨rfl,qAQ vb (qDd.2 O)⟩
def ZAp{b:List Int}(g:Zj H u a)(hb:Zj H w b)(y:a.length<=1000000)(o:b.length<=1000000):LL.Za P 119 #[u,w] H λv e=>H=e/\v=vb (decide (a=b)):=by
 refine aI.m (bG c25) rfl ?_;unfold RQ;refine Y ?_;refine ZK g rfl (Y ?_);refine ZK hb rfl ?_;refine OJ (λh=>?_) (λh=>?_)
 ·refine Y ?_;exact⟨rfl,by rw[qAy (show ¬ a=b by rintro rfl;exact h rfl)];rfl⟩
 have k:a.length=b.length:=O;refine Y ?_;refine ZF a.length (λj e=>H=e/\a.take j=b.take j) (λj=>[(0,u),(1,w),(5,vi j)]) (λ_=>[]) ⟨rfl,rfl⟩ V trivial ?_;rintro j _ x ⟨rfl,c⟩;refine Y ?_;refine ZK g rfl ?_;refine OJ (λl=>?_) (λl=>?_)
 ·have d:j<a.length:=O;refine Y ?_;refine Zo j g d λp s=>Y ?_;refine Z9 s (Y ?_);refine Zo j hb O λq t=>Y ?_;refine Z9 t ?_;refine OJ (λf=>?_) (λf=>?_)
  ·refine Y ?_;exact⟨rfl,by rw[qAy (show ¬ a=b by rintro rfl;exact f rfl)];rfl⟩
  refine Y ?_;exact⟨⟨j+1,O⟩,cZ O,⟨rfl,by rw[iO d,iO (show j<b.length by omega),c,f]⟩,V,trivial,rfl⟩
 have:j=a.length:=O;subst this;rw[qAh,qAz O]at c;refine Y ?_;exact⟨rfl,by rw[decide_eq_true c];rfl⟩
end
def Un{H:Hp}{a:Addr}{cs c:List Value}(h:aC H a cs)(e:cs.drop n=c):aC H (a.add n) c:=by subst e;obtain⟨d,o,p,f,g⟩:=h;refine⟨CI d _,o,p,by rw[vQ];exact f,λj k=>?_⟩;rw[qCD]at k;rw[vR,qCl,g _ O,qBp]
section
variable{P:aY}[Tz P][Loud P]{H:Hp}
theorem ZAC(hb:bK H bv b)(N:b.aF.length<=1000000)(Q:b.bJ.length<=1000000):LL.Za P 30 #[bv] H λv k=>H=k/\v=vi (ZC b):=by
 have t:=hb;obtain⟨W,T,rfl,F,x⟩:=hb;obtain⟨B,D,rfl,R⟩:=id F;obtain⟨A,C,rfl,L⟩:=id x;refine aI.m (bG c64) rfl ?_;unfold Q4;refine Y ?_;refine Zl (vs:=[vi b.op,vi 0,vi 99]) (Ub _ _ _) (Y ?_);have g:VG b=if(0<=b.op/\b.op<=99)/\(0<=b.sl/\b.sl<=3)then 0 else 1:=rfl
 refine OI (λG=>?_) (λG=>?_)
 ·have:VG b=1:=by rw[g,bY O]
  refine Y ?_;exact⟨rfl,by rw[ZC,BY O,this];rfl⟩
 refine Y ?_;refine Zl (vs:=[vi b.sl,vi 0,vi 3]) (Ub _ _ _) ?_;refine OJ (λI=>?_) (λI=>?_)
 ·have:VG b=1:=by rw[g,bY O]
  refine Y ?_;exact⟨rfl,by rw[ZC,BY O,this];rfl⟩
 have U:VG b=0:=by rw[g,BY O]
 refine Y ?_;refine Zl (vs:=[vi b.aF.length,vi 2,vi 4]) (Ub _ _ _) ?_;refine OJ (λJ=>?_) (λJ=>?_)
 ·have:Y4 b=2:=by rw[Y4,BY O]
  refine Y ?_;exact⟨rfl,by rw[ZC,bY O,BY O,this];rfl⟩
 refine Y ?_;refine ZF b.aF.length (λj k=>H=k/\(b.aF.take j).all lQ=true) (λj=>[(1,vi 0),(3,vi j)]) (λ_=>[(1,[vi b.op,vi b.sl,.slice B b.aF.length D,.slice A b.bJ.length C])]) ⟨rfl,by simp⟩ V V ?_;rintro j _ M ⟨rfl,c⟩;refine OJ (λK=>?_) (λK=>?_)
 ·have f:j<b.aF.length:=O;refine Y ?_;refine Zo j F f λa l=>Y ?_;refine ZL l (Y ?_);refine Zl (vs:=[.agg #[vi b.aF[j].ml,vi b.aF[j].mh],vi 0,vi 99]) (xP _ _ _ _) (Y ?_);have next:lQ b.aF[j]=true->(b.aF.take (j+1)).all lQ=true:=λh=>by rw[ER f,c,h];rfl
  have stop:lQ b.aF[j]=false->ZC b=1:=λh=>by
   have:Y4 b=1:=by rw[Y4,bY O,EQ f h];rfl
   rw[ZC,bY O,BY O,this]
  unfold lQ at next stop
  refine OI (λo=>?_) (λo=>?_)
  ·refine Y ?_;exact⟨rfl,by rw[stop (by simp[o])];rfl⟩
  refine OJ (λs=>?_) (λs=>?_)
  ·refine Y ?_;exact⟨rfl,by rw[stop (by simp;omega)];rfl⟩
  refine Y ?_;refine Zl (vs:=[.agg #[vi b.aF[j].bl,vi b.aF[j].bh],vi 0,vi 199]) (xP _ _ _ _) ?_;refine OJ (λp=>?_) (λp=>?_)
  ·refine Y ?_;exact⟨rfl,by rw[stop (by simp;omega)];rfl⟩
  refine Y ?_;refine Zl (vs:=[vi b.aF[j].w,vi 0,vi 199]) (Ub _ _ _) ?_;refine OJ (λq=>?_) (λq=>?_)
  ·refine Y ?_;exact⟨rfl,by rw[stop (by simp;omega)];rfl⟩
  refine Y ?_;exact⟨⟨j+1,O⟩,cZ O,⟨rfl,next (by simp;omega)⟩,V,V,rfl⟩
 have:j=b.aF.length:=O;subst this;rw[qAh]at c;have S:Y4 b=0:=by rw[Y4,bY O,BY c]
 have y:ZC b=VU b:=by rw[ZC,bY O,bY O]
 rw[y];refine OJ (λo=>?_) (λo=>?_)
 ·refine Y ?_;exact⟨rfl,by rw[VU,BY O];rfl⟩
 refine Y ?_;refine ZF b.bJ.length (λj k=>H=k/\nI b.aF.length b.bJ=nI b.aF.length (b.bJ.drop j)) (λj=>[(1,vi 0),(5,vi j)]) (λ_=>[(1,[vi b.op,vi b.sl,.slice B b.aF.length D,.slice A b.bJ.length C])]) ⟨rfl,rfl⟩ V V ?_;rintro j _ M ⟨rfl,c⟩;refine OJ (λs=>?_) (λs=>?_)
 ·have f:j<b.bJ.length:=O;rw[xY f,nI]at c;refine Y ?_;refine Zo j x f λa l=>Y ?_;refine Zg (OL _) rfl (VV (j:=0) l rfl) (Y ?_);refine Zl (vs:=[.agg #[vi b.op,vi b.sl,.slice B b.aF.length D,.slice A b.bJ.length C],vi b.bJ[j].p]) (ZuY t _ N) ?_;refine OJ (λp=>?_) (λp=>?_)
  ·refine Y ?_;exact⟨rfl,by rw[VU,bY O,c,BY p];rfl⟩
  refine Y ?_;refine Zo j x f λa l=>Y ?_;refine Z5 (cs:=[vi b.bJ[j].gl,vi b.bJ[j].gh]) (OL _) rfl (Un (n:=1) l rfl) rfl (Y ?_);refine Zl (vs:=[.agg #[vi b.bJ[j].gl,vi b.bJ[j].gh],vi (-199),vi 199]) (xP _ _ _ _) ?_;refine OJ (λq=>?_) (λq=>?_)
  ·refine Y ?_;exact⟨rfl,by rw[VU,bY O,c,bY O,BY q];rfl⟩
  refine Y ?_;rw[bY O,bY O]at c;exact⟨⟨j+1,O⟩,cZ O,⟨rfl,c⟩,V,V,rfl⟩
 refine Y ?_;have:j=b.bJ.length:=O;subst this;rw[qCE]at c;exact⟨rfl,by rw[VU,bY O,c];rfl⟩
end
def Ztm[Enc α]{H:Hp}{l:List α}(c:H r=none):cS H (H.ins r (.cells (Zh l).toArray E)) E (.slice (some ⟨r,0,none⟩) l.length l.length) l (some r):=
 ⟨⟨UC l,.inr ⟨r,l.length,[],rfl,rfl,by rw[qAw];exact Hp.aD _ _ _,by rw[qAw];exact UC l,AT _⟩⟩,λd e=>by obtain rfl:=iN e;exact c⟩
def NV[Enc α]{H:Hp}(c:H r=none):cS H (H.ins r (.cells #[] E)) E (.slice (some ⟨r,0,none⟩) 0 0) ([]:List α) (some r):=Ztm (l:=([]:List α)) c
def M7{H:Hp}:Zj (H.ins r (.cells [v].toArray E)) (.slice (some ⟨r,0,none⟩) 1 1) [v]:=YJ (l:=[v])
def Zu2{H:Hp}{x:Int}:Zj (H.ins r (.cells [vi x].toArray E)) (.slice (some ⟨r,0,none⟩) 1 1) [x]:=YJ (l:=[x])
section
variable{P:aY}[Tz P][Loud P]{H:Hp}
def Zz5{a b:List ZQ}(l:Zj H u a)(hb:Zj H w b)(D:a.length<=1000000)(A:b.length<=1000000):LL.Za P 48 #[u,w] H λv k=>H=k/\(a=b->v=vb true)/\(v=vb true->a=b)/\∃x,v=vb x:=by
 refine aI.m (bG c28) rfl ?_;unfold RO;refine Y ?_;refine ZK l rfl (Y ?_);refine ZK hb rfl ?_;refine OJ (λs=>?_) (λs=>?_)
 ·refine Y ?_;exact⟨rfl,by rintro rfl;exact absurd rfl s,λh=>by simp[Yn]at h,false,rfl⟩
 have t:a.length=b.length:=O;refine Y ?_;refine ZF a.length (λj k=>H=k/\a.take j=b.take j) (λj=>[(0,u),(1,w),(5,vi j)]) (λ_=>[]) ⟨rfl,rfl⟩ V trivial ?_;rintro j _ C ⟨rfl,c⟩;refine Y ?_;refine ZK l rfl ?_;refine OJ (λz=>?_) (λz=>?_)
 ·have d:j<a.length:=O;refine Y ?_;refine Zo j l d λp B=>Y ?_;refine ZL B (Y ?_);refine Zo j hb O λq o=>Y ?_;refine ZL o (Y ?_);refine yI (b:=decide (a[j].bf=b[j].bf/\a[j].bP=b[j].bP)) (xs:=#[vi a[j].bf,vi a[j].bP]) (ys:=#[vi b[j].bf,vi b[j].bP]) DG (λQ g H o=>wH (.inl CP) Q o) rfl rfl ?_;refine OJ (λf=>?_) (λf=>?_)
  ·refine Y ?_;exact⟨rfl,by rintro rfl;exact absurd ⟨rfl,rfl⟩ f,λh=>by simp[Yn]at h,false,rfl⟩
  have e:a[j]=b[j]:=by generalize a[j]=x at *;generalize b[j]=y at *;obtain⟨F,G⟩:=x;obtain⟨I,J⟩:=y;simp only at f;obtain⟨rfl,rfl⟩:=f;rfl
  refine Y ?_;exact⟨⟨j+1,O⟩,cZ O,⟨rfl,by rw[iO d,iO (show j<b.length by omega),c,e]⟩,V,trivial,rfl⟩
 have:j=a.length:=O;subst this;rw[qAh,qAz O]at c;refine Y ?_;exact⟨rfl,λ_=>rfl,λ_=>c,true,rfl⟩
end
def Vx(b:Bk)(i:Nat):List Int:=(List.range ((Zx b i).mh-(Zx b i).ml+1).toNat).map λ(t:Nat)=>(Zx b i).ml+t
def jZ(b:Bk):Nat->List (List Int)
 | 0=>[[]]
 | i+1=>(jZ b i).flatMap λl=>(Vx b i).map λn=>l++[n]
def ZvK{f:α->List β}{l:List α}(c:j<l.length):(l.take (j+1)).flatMap f=(l.take j).flatMap f++f l[j]:=by rw[iO c,List.flatMap_append];simp
def L9{α β:Type}{f:α->List β}{k:Nat}:∀{l:List α},(∀x∈l,(f x).length<=k)->(l.flatMap f).length<=l.length * k
 | [],_=>by simp
 | a :: l,h=>by have d:=h a (qAs ..);have e:=L9 (f:=f) (k:=k) (l:=l) λx c=>h x (qAc _ c);rw[qAJ,IN,qAI,qBU];omega
def Bs{b:Bk}(v:Zw b):∀i,i<=b.aF.length->∀l∈jZ b i,l.length=i/\∀x∈l,0<=x/\x<=99
 | 0,_,l,c=>by rw[jZ,iF]at c;subst c;simp
 | i+1,o,l,c=>by
  rw[jZ,qCg]at c;obtain⟨m,k,c⟩:=c;obtain⟨n,e,rfl⟩:=qAj.1 c;obtain⟨g,h⟩:=Bs v i O m k;refine⟨by simp[g],λx d=>?_⟩;rcases qAi.1 d with d | d
  ·exact h x d
  rw[iF.1 d];rw[Vx,qAj]at e;obtain⟨t,f,rfl⟩:=e;rw[qAU]at f;rw[show Zx b i=b.aF[i]from Z8 O _]at f ⊢;have:=v.aF i O;omega
def Zzi(b:Bk)(l:List Int)(c:List ZQ):List Zs:=(c.map λk=>(⟨Yq l,k.bf,k.bP⟩:Zs)).filter (Uh b)
def OM(d:Int):Nat->List Int
 | 0=>[]
 | c+1=>(d-c) :: OM d c
def Mo(f:Int->List Zs)(d:Int):∀c,eC f d c=(OM d c).flatMap f
 | 0=>rfl
 | c+1=>by rw[eC,OM,qAJ,Mo f d c]
def Mn{d:Int}:∀{c:Nat},(OM d c).length=c/\∀t,t<c->(OM d c)[t]? = some (d-(c-1-t:Nat))
 | 0=>⟨rfl,λt h=>O⟩
 | c+1=>by
  obtain⟨e,f⟩:=@Mn d c;refine⟨by rw[OM,qAI,e],λt g=>?_⟩;rw[OM];cases t with
  | zero=>simp
  | succ t=>rw[qAW,f t O];congr 2;omega
def ZpK:OM (Zx b i).mh ((Zx b i).mh-(Zx b i).ml+1).toNat=Vx b i:=by
 obtain⟨g,f⟩:=@Mn (Zx b i).mh ((Zx b i).mh-(Zx b i).ml+1).toNat;have h:(Vx b i).length=((Zx b i).mh-(Zx b i).ml+1).toNat:=by simp[Vx]
 refine qCZ λt=>?_;by_cases e:t<((Zx b i).mh-(Zx b i).ml+1).toNat
 ·rw[f t e,Vx,qCw,List.getElem?_range e];show some ((Zx b i).mh-((((Zx b i).mh-(Zx b i).ml+1).toNat-1-t:Nat):Int))=some ((Zx b i).ml+(t:Int));congr 1;omega
 rw[qAF O,qAF O]
def pL(b:Bk):Nat->List N4
 | 0=>[⟨0,0,0,0⟩]
 | i+1=>(pL b i).flatMap λm=>(Vx b i).map λn=>m.put i n
def ZvL(l:List α)(f:α->List β)(g:β->List γ):(l.flatMap f).flatMap g=l.flatMap λa=>(f a).flatMap g:=by
 induction l with
 | nil=>rfl
 | cons a l ih=>simp[qAJ,List.flatMap_append,ih]
def L8(l:List α)(f:α->β)(g:β->List γ):(l.map f).flatMap g=l.flatMap λa=>g (f a):=by
 induction l with
 | nil=>rfl
 | cons a l ih=>simp[qAJ,ih]
def ZvM{l:List α}{f g:α->List β}(h:∀a∈l,f a=g a):l.flatMap f=l.flatMap g:=by
 induction l with
 | nil=>rfl
 | cons a l ih=>rw[qAJ,qAJ,h a (qAs ..),ih λx c=>h x (qAc _ c)]
def Zux(h:b.aF.length=i+(r+1)):(pL b (i+1)).flatMap (bM b r)=(pL b i).flatMap (bM b (r+1)):=by rw[pL,ZvL];congr 1;funext m;rw[L8,bM,Mo];have e:b.aF.length-(r+1)=i:=O;rw[e,ZpK]
def Bb{b:Bk}:∀(r i:Nat),b.aF.length=i+r->(pL b i).flatMap (bM b r)=(pL b b.aF.length).flatMap (bM b 0)
 | 0,i,h=>by rw[h,qBB]
 | r+1,i,h=>by rw[<-Zux h];exact Bb r (i+1) O
def Zzk(b:Bk):Zd b=(pL b b.aF.length).flatMap (bM b 0):=by rw[<-Bb b.aF.length 0 O];simp[pL,Zd]
def FY{l:List Int}(c:j<4):(Yq l).get j=l.getD j 0:=N4.fO _ c
def Bd{b:Bk}(v:Zw b):∀i,i<=b.aF.length->pL b i=(jZ b i).map Yq
 | 0,_=>rfl
 | i+1,k=>by
  have f:i<4:=by have:=v.n;omega
  rw[pL,Bd v i O,jZ,L8,List.map_flatMap];refine ZvM λl g=>?_;rw[List.map_map];refine qCQ λn _=>?_;obtain⟨d,_⟩:=Bs v i O l g;refine N4.ext' λj c=>?_;rw[N4.eD _ _ c,FY c];show _=(Yq (l++[n])).get j;rw[FY c];simp only[qAl];by_cases e:j=i
  ·subst e;rw[BY rfl,qAY O,d];simp
  rw[bY e];by_cases h:j<i
  ·rw[qAB O]
  rw[qAF O,qAF (by rw[IN,qAX];omega)]
theorem T8(v:Zw b):Zd b=(jZ b b.aF.length).flatMap λl=>Zzi b l (ZB b):=by rw[Zzk,Bd v _ (AT _),L8];rfl
def gK(x:Int):List Int->List Int
 | []=>[x]
 | y :: r=>if y<x then y :: gK x r else if y=x then y :: r else x :: y :: r
def VL(l:List Int):List Int:=l.foldl (λo x=>gK x o) []
def Cj(x:Int):∀l,(gK x l).length<=l.length+1
 | []=>by simp[gK]
 | y :: r=>by
  rw[gK];have:=Cj x r;split
  ·simp only[qAI];omega
  split<;>simp
def Jk:∀l:List Int,(VL l).length<=l.length:=by refine xA (by simp[VL]) λl x ih=>?_;have:=Cj x (VL l);rw[VL,qBA,IN,qAX];show(gK x (VL l)).length<=_;omega
section
variable{P:aY}[Tz P][Loud P]{H:Hp}
def lB(x:Zs):Bool:=!decide (x.bP=0)
end
def Me(k:ZQ)(x:Zs):Bool:=decide (x.bf=k.bf/\x.bP=k.bP)
def Mh(b:Bk):List ZQ:=((ZB b).drop 1).filter λk=>(Zd b).any (Me k)
def cJ:Bk:=⟨10,1,[⟨4,4,0,12,4⟩,⟨5,6,1,12,4⟩,⟨4,4,0,10,4⟩],[⟨2,6,7⟩]⟩
def TE:ZC cJ=0:=U
def TD:Vm cJ [4,6,4] ⟨2,1⟩=0:=by rw[Vm,bY (by rw[TE];decide),bY (by show ¬ (VM cJ [4,6,4] 0 99≠0);exact λh=>h U),BY];show(⟨2,1⟩:ZQ)∈ZB cJ;rw[show ZB cJ=[⟨0,0⟩,⟨1,-1⟩,⟨1,1⟩,⟨2,-1⟩,⟨2,1⟩]by kernel_rfl];simp
def ex3:(Zm cJ (BL [4,6,4] ⟨2,1⟩)).kX.take cJ.aF.length=[6,4,7]:=U
def J5:(Zd cJ).length=6:=U
def ex5:((Zd cJ).filter Zs.cH).length=4:=U
def uJ:Zy cJ true=0:=U
def ex7:Vp cJ=[1,2]:=U
def ex8:w9 cJ=[⟨1,1⟩,⟨2,1⟩]:=U
def ex9:gapL cJ 1=[4,5,6]:=U
def Zwp:gapL cJ 2=[6,7]:=U
def Zwo:FL cJ [6,5,6]=.tuple #[.agg #[vi (-4),vi 0],vb true,vi 0]:=U
def Zwn:FG cJ=.tuple #[vi 2,vi 6,vi 0]:=U
def Zwm:((Zd cJ).filter (YH cJ)).length=6:=U
def Zwl:xG cJ=.tuple #[vi (-3),vb true,vi 0]:=U
def Zwk:O2 cJ=⟨-3,6⟩:=U
def Zwj:CJ cJ=(1,3):=U
def Zwi:xU cJ ⟨2,6,6⟩=0:=U
theorem L4:(Zd (ZM cJ ⟨2,6,6⟩)).length=2/\ZC (ZM cJ ⟨2,6,6⟩)=0:=by constructor<;>kernel_rfl
theorem Ad:((Zd (ZM cJ ⟨2,6,6⟩)).filter Zs.cH).length=0/\Zy (ZM cJ ⟨2,6,6⟩) true=0:=by constructor<;>kernel_rfl
def Zwh:vE cJ 1 6 6=0:=U
theorem Ae:(Zd (Vl cJ 1 6 6)).length=3/\ZC (Vl cJ 1 6 6)=0:=by constructor<;>kernel_rfl
def Zwg:x7 cJ 0=0:=U
theorem Af:(Zd (uX cJ 0)).length=2/\ZC (uX cJ 0)=0:=by constructor<;>kernel_rfl
def DH:Bk:=ZM (ZM cJ ⟨0,6,6⟩) ⟨0,5,5⟩
theorem DY:ZC DH=0/\YR DH=false/\MT DH=[2]:=by refine⟨?_,?_,?_⟩<;>kernel_rfl
theorem Zwa:Value.tuple #[vi (if Zy cJ true=0 then Ym ((Zd cJ).filter Zs.cH).length (Zd cJ).length else 0),vi (Zy cJ true)]=.tuple #[vi 0,vi 0]:=by rw[uJ,BY rfl,ex5,J5];rfl
theorem Zwc:Value.tuple #[vi (if Zy cJ true=0 then Ym ((Zd cJ).filter (YH cJ)).length (Zd cJ).length else 0),vi (Zy cJ true)]=.tuple #[vi 1,vi 0]:=by rw[uJ,BY rfl,Zwm,J5];rfl
def Zwb:Value.tuple #[vi (if Zy cJ true=0 then(O2 cJ).s else 0),vi (if Zy cJ true=0 then(O2 cJ).k else 0),vi (Zy cJ true)]=.tuple #[vi (-3),vi 6,vi 0]:=by rw[uJ,BY rfl,BY rfl,Zwk]
def Zwf:Value.tuple #[vi (if Zy cJ true=0 then(CJ cJ).1 else 0),vi (if Zy cJ true=0 then(CJ cJ).2 else 0),vi (Zy cJ true)]=.tuple #[vi 1,vi 3,vi 0]:=by rw[uJ,BY rfl,BY rfl,Zwj]
def DZ(c:(Zd b).length=n)(d:ZC b=0):Value.tuple #[vi (if ZC b=0 then(Zd b).length else 0),vi (ZC b)]=.tuple #[vi n,vi 0]:=by rw[d,BY rfl,c]
theorem Zv9:Value.tuple #[vi (if Zy (ZM cJ ⟨2,6,6⟩) true=0 then Ym ((Zd (ZM cJ ⟨2,6,6⟩)).filter Zs.cH).length (Zd (ZM cJ ⟨2,6,6⟩)).length else 0),vi (Zy (ZM cJ ⟨2,6,6⟩) true)]=.tuple #[vi 2,vi 0]:=by rw[Ad.2,BY rfl,Ad.1,L4.1];rfl
def MN{H:Hp}{s:Int}(h:yY H v s b)(l:s=0):∃pa e c d,v=.tuple #[.agg #[vi b.op,vi b.sl,.slice pa b.aF.length e,.slice c b.bJ.length d],vi 0]/\bK H (.agg #[vi b.op,vi b.sl,.slice pa b.aF.length e,.slice c b.bJ.length d]) b:=by subst l;obtain⟨w,rfl,f⟩:=h;rw[BY rfl]at f;obtain⟨_,_,rfl,⟨pa,e,rfl,g⟩,⟨c,d,rfl,k⟩⟩:=f;exact⟨pa,e,c,d,rfl,_,_,rfl,⟨_,_,rfl,g⟩,⟨_,_,rfl,k⟩⟩
section
variable{P:aY}[Tz P][Loud P]{H:Hp}
def uO(a b:Int):LL.Za P 49 #[vi a,vi b] H λv c=>H=c/\v=.agg #[vi a,vi b]:=by refine aI.m (bG c62) rfl ?_;unfold Q5;refine Y ?_;exact⟨rfl,rfl⟩
def wP(a:Int):LL.Za P 42 #[vi a] H λv c=>H=c/\v=.agg #[vi a,vi a]:=by refine aI.m (bG c49) rfl ?_;unfold RB;refine Y ?_;refine Zl (vs:=[vi a,vi a]) (uO a a) (Y ?_);exact⟨rfl,rfl⟩
def ZuI{b:List Int}(e:Zj H u a)(hb:Zj H w b)(f:a.length<=1000000)(c:b.length<=1000000):LL.Za P 47 #[u,w] H λv d=>H=d/\v=vb (decide (a=b)):=by refine aI.m (bG c86) rfl ?_;unfold Q0;refine Y ?_;refine Zv (vs:=[u,w]) rfl (ZAp e hb f c) ?_;rintro v _ ⟨rfl,rfl⟩;refine Y ?_;exact⟨rfl,rfl⟩
theorem WH{c:gA}(hb:bK H bv b)(x:b.bJ.length<=1000000) :
  LL.Za P 46 #[bv,.agg #[vi c.p,vi c.gl,vi c.gh]] H λv h=>bA H h/\bK h v (ZM b c):=by
 obtain⟨T,R,rfl,l,k⟩:=hb;obtain⟨F,Q,rfl,y⟩:=id l;obtain⟨D,N,rfl,t⟩:=id k;refine aI.m (bG c51) rfl ?_;unfold Q9;refine Y ?_;refine Oj (bL l4) (bH tI) (OL _) λg e=>?_;have A:cS H (H.ins g (.cells #[] 101)) 101 (.slice (some ⟨g,0,none⟩) 0 0) ([]:List gA) (some g):=NV e;have o:bA H (H.ins g (.cells #[] 101)):=Zk e;generalize H.ins g (.cells #[] 101)=G at *;refine Zr OL (Y ?_);refine YN (l':=b.bJ) (bL l4) (bL l4) (bH tI) rfl (by decide) o A (k.inc o) (XT _) (by simp;omega) O rfl rfl (OL _) λV I K z B _=>?_;refine Zr OL (Y ?_);refine Z0 (cs:=[vi c.p,vi c.gl,vi c.gh]) (OL _) rfl λU f=>?_;refine Zr OL (Y ?_);refine YN (l':=[c]) (bL l4) (bL l4) (bH tI) rfl (by decide) (z.trans (Zk f)) (B.ins f) M8 rfl (by simp;omega) O rfl rfl (OL _) λW J L k1 q S=>?_;rw[qAn]at q;have s:=q.sl;obtain⟨C,M,rfl,_⟩:=id s;refine Y ?_;exact⟨k1,_,_,rfl,l.inc k1,s⟩
def ZAo:LL.Za P 31 #[] H λv p=>bA H p/\∃f g,v=.agg #[vi 10,vi 1,.slice (some ⟨f,0,none⟩) 3 3,.slice (some ⟨g,0,none⟩) 1 1]/\bK p v cJ:=by refine aI.m (bG c85) rfl ?_;unfold Q1;refine Y ?_;refine Zl (vs:=[vi 4]) (wP 4) (Y ?_);refine Zl (vs:=[vi 0,vi 12]) (uO 0 12) (Y ?_);refine Zl (vs:=[vi 5,vi 6]) (uO 5 6) (Y ?_);refine Zl (vs:=[vi 1,vi 12]) (uO 1 12) (Y ?_);refine Zl (vs:=[vi 4]) (wP 4) (Y ?_);refine Zl (vs:=[vi 0,vi 10]) (uO 0 10) (Y ?_);refine Z0 (cs:=Zh cJ.aF) (OL _) rfl λf k=>?_;have t:Zj (H.ins f (.cells (Zh cJ.aF).toArray 110)) (.slice (some ⟨f,0,none⟩) 3 3) cJ.aF:=YJ (l:=cJ.aF);have s:bA H (H.ins f (.cells (Zh cJ.aF).toArray 110)):=Zk k;generalize H.ins f (.cells (Zh cJ.aF).toArray 110)=h at *;refine Y ?_;refine Zl (vs:=[vi 6,vi 7]) (uO 6 7) (Y ?_);refine Z0 (cs:=Zh cJ.bJ) (OL _) rfl λg o=>?_;have x:Zj (h.ins g (.cells (Zh cJ.bJ).toArray 101)) (.slice (some ⟨g,0,none⟩) 1 1) cJ.bJ:=YJ (l:=cJ.bJ);have q:bA h (h.ins g (.cells (Zh cJ.bJ).toArray 101)):=Zk o;generalize h.ins g (.cells (Zh cJ.bJ).toArray 101)=y at *;refine Y ?_;exact⟨s.trans q,f,g,rfl,_,_,rfl,t.inc q,x⟩
end
