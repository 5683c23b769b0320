import Derived.Test.YtmfealhfgccmfaaGreatDoorTS02
set_option linter.all false
set_option maxHeartbeats 4000000
set_option maxRecDepth 20000
def GF{G:Prop}(h:G:=by
  have:lT b=1:=by rw[hcs,iF O]
  refine Y ?_;exact⟨rfl,by rw[jY,qAa O,this];rfl⟩):G:=h
def GD{G:Prop}(h:G:=by rw[<-vK]at g2;refine Y ?_;exact⟨(⟨j+1,O⟩,(v8,b8)),gI O,⟨g1,g2⟩,V,V,rfl⟩):G:=h
open Go Go.LL
namespace Go.Proofs
variable{bv fv:Value}{N:Hp->Prop}{c:nT}
def EM:Yw Tryz.prog 350=some (1,some .nilFunc,8):=U
section
variable{P:fP}[Tz P][Loud P]
def qQ{b:Bk}{p k:Value}(gd:BO b) :
  yW P (.func (.func 155) #[.agg #[vi b.op,vi b.sl,p,k]] #[]) (λH=>iM H (.agg #[vi b.op,vi b.sl,p,k]) b) ((gT b).map oE):=by
 rintro y I S H ⟨T,Q,R,B⟩ C D K L o;have A:y.cells=#[y]:=by rw[B];rfl
 refine Yv U ?_;refine aU.m (fO c87) rfl ?_;unfold n87;generalize z:(gT b).map oE=M at *;have r:JG .nil (kB M I ((gT b).map oE++[])) H:=⟨H,.nil,(Hp.hZ H).symm,Hp.iJ H,λb x h=>by simp[Hp.nil]at h,by rw[qAl,z];exact .start o⟩;refine Y ?_;refine Ug rfl (OL _) λf w=>?_;have s:=r.new (.cells (Value.agg #[vi b.op,vi b.sl,p,k]).cells 151) w;refine Y ?_;refine Ug rfl (OL _) λg i=>?_;have t:=s.new (.cells y.cells 349) i;refine Y ?_;refine VY (fT EM) (OL _) λe d=>?_;have u:=t.new (.cells (Value.nilFunc).cells 350) d;have F:g≠f:=by rintro rfl;rw[Hp.aQ]at i;simp at i
 have G:e≠g:=by rintro rfl;rw[Hp.aQ]at d;simp at d
 have J:e≠f:=by rintro rfl;rw[Hp.aR _ _ (qAo F),Hp.aQ]at d;simp at d
 refine Y ?_;refine VW rfl rfl (Y ?_);refine VV (v:=y7 f e g) (fT EM) rfl rfl (Hp.aQ _ _ _) rfl rfl (OL _) ?_;have l:=u.put (.cells #[y7 f e g] 350) (Hp.aQ _ _ _);have E:Ig ((((Hp.nil.ins f (.cells (Value.agg #[vi b.op,vi b.sl,p,k]).cells 151)).ins g (.cells y.cells 349)).ins e (.cells (Value.nilFunc).cells 350)).ins e (.cells #[y7 f e g] 350)) [vi b.op,vi b.sl,p,k] f e g y 151 350 349:=by
  refine⟨?_,Hp.aQ _ _ _,?_⟩
  ·rw[Hp.aR _ _ (qAo J),Hp.aR _ _ (qAo J),Hp.aR _ _ (qAo F)];exact Hp.aQ _ _ _
  rw[Hp.aR _ _ (qAo G),Hp.aR _ _ (qAo G),<-A];exact Hp.aQ _ _ _
 refine Y ?_;refine Zh (OL _) rfl (ZM (l.inc _ _ E.n)) (Y ?_);have a:=Fo gd C D K L f e g b.fM.length ⟨0,0,0,0⟩ [] _ _ (DO _) QR E l;rw[qCf]at a;refine ZP rfl rfl (Yv U a) ?_;rintro v O (⟨rfl,h7⟩ | ⟨rfl,h7⟩)
 ·refine Y ?_;exact .inl (h7.up (BL C)).stop
 refine Y ?_;exact .inr (h7.up D)
def Hy{H:Hp}{b:Bk}(hb:iM H bv b)(gd:BO b):LL.Zb P 152 #[bv] H λv a=>fI H a/\v=vb (qE b):=by
 have u:=hb;obtain⟨A,q,rfl,O,E⟩:=hb;refine aU.m (fO Dk) rfl ?_;unfold JQ;refine Y ?_;refine Ug rfl (OL _) λL j=>Y ?_;refine VY (fT t4) (OL _) λp d=>?_;have w:fI H ((H.ins L (.cells (Value.agg #[vi b.op,vi b.sl,A,q]).cells 151)).ins p (.cells (vb false).cells 4)):=(Zt j).trans (Zt d);have D:H p=none:=YP (Zt j) d;refine Y ?_;refine Zn (cs:=[vi b.op,vi b.sl,A,q]) (OL _) rfl (aM.inc (VR (cs:=[vi b.op,vi b.sl,A,q])) (Zt d)) rfl (Y ?_);refine VW rfl rfl (Y ?_);refine L9 OL rfl (qQ gd) (λx K=>by obtain⟨k,_,rfl⟩:=qAy.1 K;rfl)
  (λn a=>n=0/\fI H a/\a p=some (.cells #[vb false] 4,true)) (λe a=>e=.ret/\fI H a/\aM a ⟨p,0,none⟩ [vb true]/\qE b=true) ⟨rfl,w,Hp.aQ _ _ _⟩
  (λn a J E ⟨r,s,t⟩=>⟨r,s.trans (Um _ _),Hp.eN t⟩) (λe a J E ⟨r,s,t,I⟩=>⟨r,s.trans (Um _ _),t.inc (Um _ _),I⟩) (λn a h=>u.inc h.2.1) ?_ ?_ ?_
 ·rintro n o B ⟨rfl,g,i⟩;have f:qE b=true:=by
   rw[qAd]at o;cases hh:gT b with
   | nil=>rw[hh]at o;simp at o
   | cons x l=>rw[qE,hh];rfl
  rw[M2 o];refine Y ?_;refine VV (fT t4) rfl rfl i rfl rfl (OL _) (Y ?_);exact⟨rfl,qC g D,VR,f⟩
 ·rintro B ⟨C,g,i⟩;have y:qE b=false:=by rw[qAd]at C;rw[qE,qAr C];rfl
  refine Y ?_;refine VV (fT t4) rfl rfl i rfl rfl (OL _) (Y ?_);refine HG (vs:=[vb false]) rfl (OL _) ⟨⟨_,rfl,VR⟩,trivial⟩ ?_;exact⟨qC g D,by rw[y];rfl⟩
 rintro e B M ⟨rfl,g,i,G⟩;refine Y ?_;refine HG (vs:=[vb true]) rfl (OL _) ⟨⟨_,rfl,i⟩,trivial⟩ ?_;exact⟨g,by rw[G];rfl⟩
end
def IV:Tryz.prog.underlying 152=some (.slice 162):=U
def Hh:Yw Tryz.prog 152=some (1,some (.slice none 0 0),24):=U
section
variable{P:fP}[Tz P][Loud P]{H:Hp}
def Be{l:List gJ}(K:yW P fv N (l.map oE))(hN:∀a,fI H a->N a)(hl:l.length<=1000000):LL.Zb P 220 #[.slice none 0 0,fv] H λv a=>fI H a/\∃b,gL H a 162 v l b:=by
 refine aU.m (fO Bs) rfl ?_;unfold I2;refine Y ?_;refine Ug rfl (OL _) λr u=>Y ?_;refine L9 OL rfl K (λx hx=>by obtain⟨k,_,rfl⟩:=qAy.1 hx;rfl)
  (λn a=>fI H a/\∃v b,a r=some (.cells #[v] 152,true)/\gL H a 162 v (l.take n) b/\b≠some r) (λe a=>False) ⟨Zt u,_,none,Hp.aQ _ _ _,.nil H _ 162,by simp⟩
  (λn a J I ⟨X,v,b,G,Z,h4⟩=>⟨X.trans (Um _ _),v,b,Hp.eN G,Z.inc (Um _ _),h4⟩) (λe a J I h=>h) (λn a h=>hN _ h.1) ?_ ?_ ?_
 ·rintro n L A ⟨B,v,b,D,s,F⟩;rw[M2 L];rw[qAd]at L;have i:l.take (n+1)=l.take n++[l[n]]:=by rw[BY L]
  generalize l[n]=x at *;have G:H r=none:=u;refine Y ?_;refine VY (fT vA) (OL _) λQ g=>Y ?_;refine yU (v:=l8 x) (fT vA) (cs:=[vi 0,vi 0,vi 0,vi 0,vi 0,vi 0]) rfl rfl (Hp.aQ _ _ _) rfl rfl rfl (OL _) ?_;rw[Uy];have C:=B.trans (Zt (o:=.cells (l8 x).cells 162) g);have f:=Zt (o:=.cells (l8 x).cells 162) g _ _ D;have E:=s.ins (o:=.cells (l8 x).cells 162) g;have V:aM (A.ins Q (.cells (l8 x).cells 162)) ⟨Q,0,none⟩ x.cells:=VR;generalize A.ins Q (.cells (l8 x).cells 162)=H4 at *;refine Y ?_;refine Zh (OL _) rfl (ZM (cs:=[v]) f) (Y ?_);refine YL V (Y ?_);refine Z4 (cs:=x.cells) (OL _) rfl λr6 d=>Y ?_;have NU:v.cells=#[v]/\Value.gM v=true:=by obtain⟨_,⟨e,_⟩ | ⟨_,_,_,_,e,_⟩⟩:=s.own<;>(subst e;exact⟨rfl,rfl⟩)
  refine VX (l':=[x]) (fU IV) (fU IV) (fT vA) rfl (by decide) (C.trans (Zt d)) (E.ins d) (Z3 (l:=[x])) rfl (by simp;omega) O rfl rfl (OL _) λy U R k1 M T=>?_;have W:U r=some (.cells #[v] 152,true):=T.keep r _ (Zt d _ _ f) (λe=>F e);have w:y.cells=#[y]/\Value.gM y=true:=by obtain⟨_,⟨e,_⟩ | ⟨_,_,_,_,e,_⟩⟩:=M.own<;>(subst e;exact⟨rfl,rfl⟩)
  have t:R≠some r:=by
   rcases T.new with rfl | ⟨q,rfl,S⟩
   ·exact F
   rintro e;obtain rfl:=aT e;rw[Zt d _ _ f]at S;simp at S
  refine Y ?_;refine VV (v:=y) (fT Hh) rfl rfl W w.1 w.2 (OL _) (Y ?_);refine⟨qC k1 G,y,R,Hp.aQ _ _ _,?_,t⟩;rw[i];refine⟨M.own.sub λc z e I=>?_,M.fresh⟩;rw[Hp.aR _ _ (by rintro rfl;exact t e)];exact I
 ·rintro A ⟨B,v,b,D,s,F⟩;rw[qAd,qAh]at s;refine Y ?_;refine Zh (OL _) rfl (ZM (cs:=[v]) D) (Y ?_);exact⟨B,b,s⟩
 rintro e A he h;exact h.elim
def Dq{l:List gJ}(b:yW P fv N (l.map oE))(e:∀a,fI H a->N a)(f:l.length<=1000000):LL.Zb P 154 #[fv] H λv a=>fI H a/\∃d,gL H a 162 v l d:=by refine aU.m (fO Bo) rfl ?_;unfold IZ;refine Y ?_;refine Zg (vs:=[.slice none 0 0,fv]) (Be b e f) ?_;rintro v a h;refine Y ?_;exact h
def Fz{b:Bk}{a:Bool}(hb:iM H bv b)(D:qS H)(F:b.fM.length<=1000000)(r:b.iE.length<=1000000)(C:Z5 P fv #[bv] H λv d=>H=d/\v=vb a) :
  LL.Zb P 74 #[bv,fv] H λv d=>fI H d/\((kD b a≠0/\v=.tuple #[Fp,vi (kD b a)])\/(kD b a=0/\∃t q w n,bv=.agg #[vi b.op,vi b.sl,t,q]/\v=.tuple #[Fx b t q w,vi 0]/\gL H d 162 w (gT b) n)):=by
 have g:=hb;obtain⟨t,q,rfl,x,u⟩:=hb;have one:∀{α:Type} [Enc α] {v:Value} {l:List α},dF H v l->v.cells=#[v]/\Value.gM v=true:=λh=>by obtain⟨A,c,rfl,_⟩:=h;exact⟨rfl,rfl⟩
 obtain⟨L,M⟩:=one x;obtain⟨Q,R⟩:=one u;obtain⟨k,p,rfl,G⟩:=x;obtain⟨j,o,rfl,B⟩:=u;refine aU.m (fO c89) rfl ?_;unfold n89;refine Y ?_;refine Zo (vs:=[.agg #[vi b.op,vi b.sl,.slice k b.fM.length p,.slice j b.iE.length o]]) (EO g D F r (OL _)) ?_;refine OJ (λf=>?_) (λf=>?_)
 ·refine Y ?_;exact⟨.refl H,.inl ⟨by rw[kD,qAa f];exact f,by rw[kD,qAa f];rfl⟩⟩
 have val:=tB f;refine Y ?_;refine ZP (vs:=[.agg #[vi b.op,vi b.sl,.slice k b.fM.length p,.slice j b.iE.length o]]) rfl rfl C ?_;rintro v _ ⟨rfl,rfl⟩;refine Y ?_;cases a with
 | false=>
  refine Y ?_;have e:kD b false=6:=by rw[kD,iF O,qAa rfl]
  exact⟨.refl H,.inl ⟨by rw[e];decide,by rw[e];rfl⟩⟩
 | true=>
  refine Y ?_;refine VW rfl rfl (Y ?_);refine Zg (vs:=[.func (.func 155) #[.agg #[vi b.op,vi b.sl,.slice k b.fM.length p,.slice j b.iE.length o]] #[]]) (Dq (qQ val.good) (λd E=>g.inc E) (by have:=BN val;omega)) ?_;rintro v J ⟨i,n,y⟩;obtain⟨I,K,rfl,_⟩:=y.sl;refine OJ (λz=>?_) (λz=>?_)
  ·have e:kD b true=9:=by rw[kD,iF O,iF (by simp),qAa O]
   refine Y ?_;exact⟨i,.inl ⟨by rw[e];decide,by rw[e];rfl⟩⟩
  have e:kD b true=0:=by rw[kD,iF O,iF (by simp),iF O]
  refine Y ?_;exact⟨i,.inr ⟨e,_,_,_,n,rfl,rfl,y⟩⟩
end
instance:DecidableEq jL:=λa b=>decidable_of_iff (a.bf=b.bf/\a.gQ=b.gQ) ⟨λ⟨h1,h2⟩=>by cases a;cases b;simp_all,λh=>by subst h;exact⟨rfl,rfl⟩⟩
section
variable{P:fP}[Tz P][Loud P]{H:Hp}
def Dt{b:Bk}{r:Nat}{n:Int}(hb:iM H bv b)(f:b.fM.length<=1000000)(g:aM H ⟨r,0,none⟩ [vi n]):LL.Zb P 75 #[bv,pt r] H λv d=>H=d/\v=vb (decide (0<=n/\n<b.fM.length)):=by have a:=hb;obtain⟨h,e,rfl,j,i⟩:=hb;refine aU.m (fO c98) rfl ?_;unfold n98;refine Y ?_;refine Z8 g (Y ?_);refine Zo (vs:=[.agg #[vi b.op,vi b.sl,h,e],vi n]) (ID a n f (OL _)) (Y ?_);exact⟨rfl,rfl⟩
def Du{b:Bk}{n:Int}(hb:iM H bv b)(hg:qS H)(hl:b.fM.length<=1000000)(Q:b.iE.length<=1000000) :
  LL.Zb P 15 #[bv,vi n] H λv u=>fI H u/\∃w J,v=.tuple #[w,vi (kD b (decide (0<=n/\n<b.fM.length)))]/\gL H u 3 w (if kD b (decide (0<=n/\n<b.fM.length))=0 then gapL b n.toNat else[]) J:=by
 have l:=hb;obtain⟨pv,cv,rfl,hp,hc⟩:=hb;refine aU.m (fO c29) rfl ?_;unfold n29;refine Y ?_;refine Ug rfl (OL _) λG R=>?_;have d:=Zt (o:=.cells (vi n).cells 3) R;have c1:aM (H.ins G (.cells (vi n).cells 3)) ⟨G,0,none⟩ [vi n]:=VR;generalize H.ins G (.cells (vi n).cells 3)=H1 at *;refine Y ?_;refine VW rfl rfl (Y ?_);refine Zg (vs:=[.agg #[vi b.op,vi b.sl,pv,cv],.func (.func 75) #[] #[pt G]]) (Fz (l.inc d) (aM.inc hg d) hl Q (Yv U (Dt (n:=n) (l.inc d) hl c1))) ?_;generalize S:decide (0<=n/\n<b.fM.length)=th;rintro v y ⟨f,⟨h,rfl⟩ | ⟨h,pv',cv',w,J,e,rfl,ow⟩⟩
 ·refine OJ (λK=>?_) (λK=>?_)
  ·refine Y ?_;exact⟨d.trans f,_,none,rfl,by rw[iF h];exact .nil _ _ _⟩
  exact absurd K h
 have k:th=true:=by
  cases th
  ·rw[kD]at h;split at h
   ·contradiction
   simp at h
  rfl
 have Sv:=of_decide_eq_true (S.trans k);subst k;obtain⟨p,rfl⟩:∃p:Nat,n=p:=⟨n.toNat,O⟩;simp only[Value.agg.injEq,qDn,qBg,qCw]at e;obtain⟨_,_,rfl,rfl⟩:=e;obtain⟨W,A⟩:=Fw h;have val:=tB W;have pD:=BN val;obtain⟨Ap,cp,rfl,St⟩:=hp;obtain⟨Ac,cc,rfl,SQ⟩:=hc;have hw:=ow.sl;obtain⟨Aw,cw,rfl,_⟩:=ow.sl;refine Y ?_;refine Yp (α:=Value×Option Nat) (gT b).length (λj s u=>fI H u/\fI y u/\gL y u 3 s.1 (((gT b).take j).map λx=>(iZ b x).get p) s.2)
  (λj s=>[(3,pt G),(4,.slice none 0 0),(5,vi 0),(6,vi 0),(8,s.1),(21,.slice Aw (gT b).length cw),(22,vi (gT b).length),(23,vi j)]) (λj s=>[(6,[vi b.op,vi b.sl,.slice Ap b.fM.length cp,.slice Ac b.iE.length cc,.slice Aw (gT b).length cw])]) (.slice none 0 0,none) ⟨d.trans f,.refl y,.nil y y 3⟩ V V ?_
 rintro j ⟨v8,b8⟩ H3 hj ⟨D,t,F⟩;simp only at F;refine OJ (λK=>?_) (λK=>?_)
 ·have q:j<(gT b).length:=O;have hx:=Dd val _ (iN q);refine Y ?_;refine ZB j (hw.inc t) q λa ha=>Y ?_;refine YL ha (Y ?_);refine Zh (OL _) rfl (c1.inc (f.trans t)) (Y ?_);refine Zo (vs:=[.agg #[vi b.op,vi b.sl,.slice Ap b.fM.length cp,.slice Ac b.iE.length cc],l8 (gT b)[j]]) (HY (l.inc D) val.good.bk (Db hx) (OL _)) ?_;refine ZuR ?_;have B:p<4:=by have:=val.n;omega
  have T:(((gT b).take (j+1)).map λx=>(iZ b x).get p)=(((gT b).take j).map λx=>(iZ b x).get p)++[(iZ b (gT b)[j]).get p]:=by rw[BY q,qBt];rfl
  generalize(gT b)[j]=x at *;refine Y ?_;refine uH (fU HL) (fT t3) (rD a3) rfl rfl (i:=p) B (v:=vi ((iZ b x).get p)) (by have:=Kg (iZ b x) B;rw[qAJ]at this;simpa[N4.cells]using this) (Y ?_);refine Z4 (cs:=[vi ((iZ b x).get p)]) (OL _) rfl λr5 C=>?_;refine Zz OL (Y ?_);refine VX (l':=[(iZ b x).get p]) (fU jR) (fU jR) (fT t3) rfl (by decide) (t.trans (Zt C)) (F.ins C) XA rfl (by simp;omega) O rfl rfl (OL _) λI H4 z k1 k2 k3=>Y ?_;refine⟨(⟨j+1,O⟩,(I,z)),gI O,⟨(d.trans f).trans k1,k1,?_⟩,V,V,rfl⟩;show gL y H4 3 I (((gT b).take (j+1)).map λx=>(iZ b x).get p) z;rw[T];exact k2
 have:j=(gT b).length:=O;subst this;rw[qAh]at F;have X:gL H H3 3 v8 ((gT b).map λx=>(iZ b x).get p) b8:=⟨F.own,λr hr=>YP (d.trans f) (F.fresh r hr)⟩;refine Y ?_;refine Zg (vs:=[v8]) (ZzH D X (λe=>by rw[qDF]at e;rw[e]at A;simp at A) (by simp;omega)) ?_;rintro w H4 ⟨L,o9⟩;refine Y ?_;refine Zg (vs:=[v8]) (Zz9 L o9 (by rw[(HO _).length_eq];simp;omega)) ?_;rintro v H5 ⟨M,J,Z⟩;refine Y ?_;refine⟨M,v,J,by rw[h];rfl,?_⟩;rw[qAa h];exact Z
end
def JH{H:Hp}{r:Nat}:dF (H.ins r (.cells [vi c.p,vi c.gl,vi c.gh].toArray 33)) (.slice (some ⟨r,0,none⟩) 1 1) [c]:=Z3 (l:=[c])
section
variable{P:fP}[Tz P][Loud P]{H:Hp}
theorem Cs{b:Bk}(hb:iM H bv b)(x:qS H)(r:b.fM.length<=1000000)(i:b.iE.length<=1000000) :
  LL.Zb P 70 #[bv] H λv p=>fI H p/\Pd p v (rG b) b:=by
 have e:=hb;obtain⟨I,G,rfl,s,q⟩:=hb;refine aU.m (fO Dm) rfl ?_;unfold JS;obtain⟨k,n,rfl,y⟩:=id s;obtain⟨j,l,rfl,w⟩:=id q;refine Y ?_;refine Zo (vs:=[.agg #[vi b.op,vi b.sl,.slice k b.fM.length n,.slice j b.iE.length l]]) (EO e x r i (OL _)) ?_;refine OJ (λd=>?_) (λd=>?_)
 ·refine Y ?_;exact⟨.refl _,by rw[rG,qAa d];exact ES d⟩
 have val:=tB d;refine Y ?_;refine Zg (vs:=[.agg #[vi b.op,vi b.sl,.slice k b.fM.length n,.slice j b.iE.length l]]) (Hy e val.good) ?_;rintro v B ⟨a,rfl⟩;refine OJ (λo=>?_) (λo=>?_)
 ·refine Y ?_;exact⟨a,by rw[rG,iF (by simpa using d),qAa o];exact ES (by decide)⟩
 refine Y ?_;refine Zg (vs:=[.slice k b.fM.length n]) (Dp (s.inc a) r (OL _)) ?_;rintro v C ⟨f,h⟩;obtain⟨E,t⟩:=E8 h;obtain⟨z,c2,rfl,_⟩:=id t.sl;refine Zz OL (Y ?_);refine Zg (vs:=[.slice j b.iE.length l]) (ND ((q.inc a).inc f.inc) i (OL _)) ?_;rintro v D ⟨g,h⟩;obtain⟨F,u⟩:=E8 h;obtain⟨A,c3,rfl,_⟩:=id u.sl;refine Zz OL (Y ?_);refine⟨(a.trans f.inc).trans g.inc,?_⟩;rw[rG,iF (by simpa using d),iF (by simp[o])];exact⟨_,rfl,by rw[qAa rfl];exact⟨_,_,rfl,t.sl.inc g.inc,u.sl⟩⟩
theorem Bh{b:Bk}(hb:iM H bv b)(r:qS H)(s:b.fM.length<=1000000)(d:b.iE.length<=1000000) :
  LL.Zb P 11 #[bv,.agg #[vi c.p,vi c.gl,vi c.gh]] H λv l=>fI H l/\Pd l v (uJ b c) (kR b c):=by
 have f:=hb;obtain⟨Q,L,rfl,t,q⟩:=hb;refine aU.m (fO c41) rfl ?_;unfold n41;obtain⟨k,o,rfl,C⟩:=id t;obtain⟨j,n,rfl,B⟩:=id q;refine Y ?_;refine Zo (vs:=[.agg #[vi b.op,vi b.sl,.slice k b.fM.length o,.slice j b.iE.length n]]) (EO f r s d (OL _)) ?_;refine OJ (λa=>?_) (λa=>?_)
 ·refine Y ?_;exact⟨.refl _,by rw[uJ,qAa a];exact ES a⟩
 have val:=tB a;have:=val.L3;refine Y ?_;refine Zg (vs:=[.slice j b.iE.length n]) (ND q d (OL _)) ?_;rintro v F ⟨g,h⟩;obtain⟨J,E⟩:=E8 h;refine Zz OL (Y ?_);refine Z4 (cs:=[vi c.p,vi c.gl,vi c.gh]) (OL _) rfl λR e=>?_;refine Zz OL (Y ?_);refine VX (l':=[c]) (fU zO) (fU zO) (fT NN) rfl (by decide) (g.inc.trans (Zt e)) (E.ins e) JH rfl (by simp;omega) O rfl rfl (OL _) λS G K k1 D M=>?_;have x:=D.sl;obtain⟨y,z,rfl,_⟩:=id x;refine Y ?_;refine Zg (vs:=[.agg #[vi b.op,vi b.sl,.slice k b.fM.length o,.slice y (b.iE++[c]).length z]]) (Cs (b:=kR b c) ⟨_,_,rfl,t.inc k1,x⟩ (aM.inc r k1) s (by simp[kR];omega)) ?_;rintro v I ⟨i,w,rfl,u⟩;obtain⟨_,_,rfl,⟨_,_,rfl,_⟩,⟨_,_,rfl,_⟩⟩:=id u;refine Y ?_;have A:uJ b c=rG (kR b c):=iF (by simpa using a);refine⟨k1.trans i,?_⟩;rw[A];exact⟨_,rfl,u⟩
def Dw{b:Bk}(hb:iM H bv b):LL.Zb P 43 #[bv] H λv a=>H=a/\v=vb (decide (20<b.fM.length) || decide (20<b.iE.length)):=by
 obtain⟨h,g,rfl,f,e⟩:=hb;refine aU.m (fO c17) rfl ?_;unfold n17;refine Y ?_;refine YH f rfl ?_;refine OJ (λd=>?_) (λd=>?_)
 ·refine Y ?_;exact⟨rfl,by rw[decide_eq_true (show 20<b.fM.length by omega)];rfl⟩
 refine Y ?_;refine YH e rfl (Y ?_);refine⟨rfl,?_⟩;rw[qAU (show ¬ 20<b.fM.length by omega),qDO];exact qAx vb (qCO.2 O)
def Fh{b:Bk}(hb:iM H bv b)(n:Int)(g:b.fM.length<=1000000):LL.Zb P 73 #[bv,vi n] H λv a=>H=a/\v=vb (decide (0<=n/\n<b.fM.length)):=by obtain⟨h,e,rfl,d,f⟩:=hb;refine aU.m (fO Dh) rfl ?_;unfold JN;refine Y ?_;refine YH d rfl (Y ?_);refine Zo (vs:=[vi n,vi 0,vi (b.fM.length-1)]) (O2 _ _ _) (Y ?_);exact⟨rfl,qAx vb (qCO.2 O)⟩
end
def Ht{H:Hp}{r:Nat}{k:jL}:dF (H.ins r (.cells [vi k.bf,vi k.gQ].toArray 105)) (.slice (some ⟨r,0,none⟩) 1 1) [k]:=Z3 (l:=[k])
def zA:Tryz.prog.underlying 103=some (.slice 105):=U
section
variable{P:fP}[Tz P][Loud P]{H:Hp}
theorem NB{b:Bk}(hb:iM H bv b)(G:b.fM.length<=1000000)(I:b.iE.length<=1000000):LL.Zb P 14 #[bv] H λv f=>H=f/\v=vi (jY b):=by
 have u:=hb;obtain⟨Q,L,rfl,z,x⟩:=hb;obtain⟨q,s,rfl,J⟩:=id z;obtain⟨o,r,rfl,E⟩:=id x;refine aU.m (fO c64) rfl ?_;unfold n64;refine Y ?_;refine Zo (vs:=[vi b.op,vi 0,vi 99]) (O2 _ _ _) (Y ?_);have hcs:lT b=if(0<=b.op/\b.op<=99)/\(0<=b.sl/\b.sl<=3)then 0 else 1:=rfl
 refine OI (λA=>?_) (λA=>?_)
 ·exact GF
 refine Y ?_;refine Zo (vs:=[vi b.sl,vi 0,vi 3]) (O2 _ _ _) ?_;refine OJ (λB=>?_) (λB=>?_)
 ·exact GF
 have M:lT b=0:=by rw[hcs,qAa O]
 refine Y ?_;refine Zo (vs:=[vi b.fM.length,vi 2,vi 4]) (O2 _ _ _) ?_;refine OJ (λC=>?_) (λC=>?_)
 ·have:lF b=2:=by rw[lF,qAa O]
  refine Y ?_;exact⟨rfl,by rw[jY,iF O,qAa O,this];rfl⟩
 refine Y ?_;refine ZC b.fM.length (λj f=>H=f/\(b.fM.take j).all vI=true) (λj=>[(1,vi 0),(3,vi j)]) (λ_=>[(1,[vi b.op,vi b.sl,.slice q b.fM.length s,.slice o b.iE.length r])]) ⟨rfl,by simp⟩ V V ?_;rintro j _ F ⟨rfl,lZ⟩;refine OJ (λD=>?_) (λD=>?_)
 ·have e:j<b.fM.length:=O;refine Y ?_;refine ZB j z e λa g=>Y ?_;refine YL g (Y ?_);refine Zo (vs:=[.agg #[vi b.fM[j].ml,vi b.fM[j].mh],vi 0,vi 99]) (CA _ _ _ _) (Y ?_);have next:vI b.fM[j]=true->(b.fM.take (j+1)).all vI=true:=λh=>by rw[ER e,lZ,h];rfl
  have stop:vI b.fM[j]=false->jY b=1:=λh=>by
   have:lF b=1:=by rw[lF,iF O,EQ e h];rfl
   rw[jY,iF O,qAa O,this]
  unfold vI at next stop
  refine OI (λk=>?_) (λk=>?_)
  ·refine Y ?_;exact⟨rfl,by rw[stop (by simp[k])];rfl⟩
  refine OJ (λt=>?_) (λt=>?_)
  ·exact rQ
  refine Y ?_;refine Zo (vs:=[.agg #[vi b.fM[j].bl,vi b.fM[j].bh],vi 0,vi 199]) (CA _ _ _ _) ?_;refine OJ (λh7=>?_) (λh7=>?_)
  ·exact rQ
  refine Y ?_;refine Zo (vs:=[vi b.fM[j].w,vi 0,vi 199]) (O2 _ _ _) ?_;refine OJ (λl=>?_) (λl=>?_)
  ·exact rQ
  refine Y ?_;exact⟨⟨j+1,O⟩,gI O,⟨rfl,next (by simp;omega)⟩,V,V,rfl⟩
 have:j=b.fM.length:=O;subst this;rw[qAh]at lZ;have K:lF b=0:=by rw[lF,iF O,qAa lZ]
 have y:jY b=nE b:=by rw[jY,iF O,iF O]
 rw[y];refine OJ (λk=>?_) (λk=>?_)
 ·refine Y ?_;exact⟨rfl,by rw[nE,qAa O];rfl⟩
 refine Y ?_;refine ZC b.iE.length (λj f=>H=f/\x6 b.fM.length b.iE=x6 b.fM.length (b.iE.drop j)) (λj=>[(1,vi 0),(5,vi j)]) (λ_=>[(1,[vi b.op,vi b.sl,.slice q b.fM.length s,.slice o b.iE.length r])]) ⟨rfl,rfl⟩ V V ?_;rintro j _ F ⟨rfl,lZ⟩;refine OJ (λt=>?_) (λt=>?_)
 ·have e:j<b.iE.length:=O;rw[CI e,x6]at lZ;refine Y ?_;refine ZB j x e λa g=>Y ?_;refine Zh (OL _) rfl (UG (j:=0) g rfl) (Y ?_);refine Zo (vs:=[.agg #[vi b.op,vi b.sl,.slice q b.fM.length s,.slice o b.iE.length r],vi b.iE[j].p]) (Fh u _ G) ?_;refine OJ (λh7=>?_) (λh7=>?_)
  ·refine Y ?_;exact⟨rfl,by rw[nE,iF O,lZ,qAa h7];rfl⟩
  refine Y ?_;refine ZB j x e λa g=>Y ?_;refine Zn (cs:=[vi b.iE[j].gl,vi b.iE[j].gh]) (OL _) rfl (mG (n:=1) g rfl) rfl (Y ?_);refine Zo (vs:=[.agg #[vi b.iE[j].gl,vi b.iE[j].gh],vi (-199),vi 199]) (CA _ _ _ _) ?_;refine OJ (λl=>?_) (λl=>?_)
  ·refine Y ?_;exact⟨rfl,by rw[nE,iF O,lZ,iF O,qAa l];rfl⟩
  refine Y ?_;rw[iF O,iF O]at lZ;exact⟨⟨j+1,O⟩,gI O,⟨rfl,lZ⟩,V,V,rfl⟩
 exact GG
theorem Cq{b:Bk}(hb:iM H bv b)(h0:0<=b.sl)(h1:b.sl<=100)(h2:b.fM.length<=100)(U:1<=b.fM.length) :
  LL.Zb P 45 #[bv] H λv d=>fI H d/\∃M,gL H d 105 v ((iA b).drop 1) M:=by
 obtain⟨pv,cv,rfl,hp,Z⟩:=hb;obtain⟨C,G,rfl,St⟩:=id hp;obtain⟨B,F,rfl,SQ⟩:=id Z;obtain⟨sl,y⟩:∃sl:Nat,b.sl=sl:=⟨b.sl.toNat,O⟩;have u:(iA b).drop 1=hY b.fM.length sl (b.fM.length-1):=by rw[iA,y];rfl
 rw[u];have hol:=E7 b.fM.length sl;refine aU.m (fO c56) rfl ?_;unfold n56;refine Y ?_;refine Yp (α:=Value×List jL×Option Nat) (b.fM.length-1) (λj s d=>fI H d/\gL H d 105 s.1 s.2.1 s.2.2/\s.2.1++hY b.fM.length sl (b.fM.length-1-j)=hY b.fM.length sl (b.fM.length-1)/\s.2.1.length<=j * 300)
  (λj s=>[(1,vi 0),(3,s.1),(4,vi (j+1:Nat))]) (λ_ _=>[(1,[vi b.op,vi b.sl,.slice C b.fM.length G,.slice B b.iE.length F])]) (.slice none 0 0,[],none) ⟨.refl H,.nil _ _ _,rfl,by simp⟩ V V ?_
 rintro j ⟨v3,I,D⟩ H1 hj ⟨i,A,g,o⟩;simp only at A g o;refine OJ (λW=>?_) (λW=>?_)
 ·have mF:j<b.fM.length-1:=O;refine Y ?_;refine JB rfl ⟨O,O⟩ (Y ?_);have Q:b.fM.length-1-j=(b.fM.length-1-(j+1))+1:=O;rw[Q,hY]at g;have R:((b.fM.length:Int)-((b.fM.length-1-(j+1))+1:Nat))=(j+1:Nat):=O;rw[R]at g;refine Yp (α:=Value×List jL×Option Nat) (2 * sl+1) (λk s d=>fI H d/\gL H d 105 s.1 s.2.1 s.2.2/\s.2.1++(iX (j+1:Nat) sl (2 * sl+1-k)++hY b.fM.length sl (b.fM.length-1-(j+1)))=hY b.fM.length sl (b.fM.length-1)/\s.2.1.length<=j * 300+k)
   (λk s=>[(1,vi 0),(3,s.1),(4,vi (j+1:Nat)),(5,vi (-b.sl+k))]) (λ_ _=>[(1,[vi b.op,vi b.sl,.slice C b.fM.length G,.slice B b.iE.length F])]) (v3,I,D) ⟨i,A,g,by show I.length<=j * 300+0;omega⟩ ⟨rfl,rfl,rfl,by simp[fG.set],trivial⟩ V ?_
  rintro k ⟨J,h,E⟩ K hk ⟨f,q,e,p⟩;simp only at q e p;refine OJ (λX=>?_) (λX=>?_)
  ·have Jo:k<2 * sl+1:=O;have S:2 * sl+1-k=(2 * sl+1-(k+1))+1:=O;have T:(sl:Int)-(2 * sl+1-(k+1):Nat)=-b.sl+k:=O;rw[S,iX,T]at e;refine OJ (λt=>?_) (λt=>?_)
   ·rw[iF t,qBa]at e;refine Y ?_;refine Z4 (cs:=[vi (j+1:Nat),vi (-b.sl+k)]) (OL _) rfl λr1 n=>Y ?_;have l:=Ht (H:=K) (r:=r1) (k:=⟨(j+1:Nat),-b.sl+k⟩);generalize x:(⟨(j+1:Nat),-b.sl+k⟩:jL)=z at *;refine VX (l':=[z]) (fU zA) (fU zA) (fT Ip) rfl (by decide) (f.trans (Zt n)) (q.ins n) (by subst x;exact l) rfl (by simp;omega) O rfl rfl (OL _) λv5 H3 L k1 k2 k3=>Y ?_;refine⟨(⟨k+1,O⟩,(v5,h++[z],L)),gI O,⟨k1,k2,by rw[qAE];exact e,by show(h++[z]).length<=j * 300+(k+1);rw[IN,qAW];omega⟩,⟨rfl,rfl,rfl,?_,trivial⟩,V,rfl⟩;exact vQ
   rw[qAa t]at e;refine Y ?_;refine⟨(⟨k+1,O⟩,(J,h,E)),gI O,⟨f,q,e,by show h.length<=j * 300+(k+1);omega⟩,⟨rfl,rfl,rfl,?_,trivial⟩,V,rfl⟩;exact vQ
  have w:2 * sl+1-k=0:=O;rw[w,iX,qAt]at e;refine Y ?_;refine⟨(⟨j+1,O⟩,(J,h,E)),gI O,⟨f,q,e,by show h.length<=(j+1) * 300;omega⟩,⟨rfl,rfl,?_,trivial⟩,V,rfl⟩;show some (vi ((j+1:Nat)+1))=some (vi (j+1+1:Nat));congr 2
 have:j=b.fM.length-1:=O;subst this;rw[qCf,hY,qAl]at g;subst g;refine Y ?_;exact⟨i,D,A⟩
def Dv{lv:Value}{b:Bk}{l:List Int}{k:jL}(hb:iM H bv b)(i:dF H lv l)(L:l.length<=1000000)(D:Sm b.op)(p:∀x∈l,Sm x)(C:Sm k.gQ) :
  LL.Zb P 46 #[bv,lv,.agg #[vi k.bf,vi k.gQ]] H λv h=>fI H h/\∃w,gL H h 3 v (oF b l k) w:=by
 obtain⟨F,y,rfl,M,J⟩:=hb;obtain⟨S,T⟩:=D;obtain⟨k1,Q⟩:=C;refine aU.m (fO c75) rfl ?_;unfold n75;refine Y ?_;refine Yp (α:=Value×Option Nat) l.length (λj s h=>fI H h/\gL H h 3 s.1 ((oF b l k).take j) s.2) (λj s=>[(1,lv),(3,vi 0),(5,vi 0),(7,s.1),(8,vi j)]) (λ_ _=>[(3,[vi b.op,vi b.sl,F,y]),(5,[vi k.bf,vi k.gQ])]) (.slice none 0 0,none) ⟨.refl H,.nil _ _ _⟩ V V ?_;rintro j ⟨U,u⟩ I K ⟨e,n⟩;simp only at n;have r:(oF b l k).length=l.length:=by simp[oF]
 refine Y ?_;refine YH (i.inc e) rfl ?_;refine OJ (λA=>?_) (λA=>?_)
 ·have g:j<l.length:=O;obtain⟨m1,R⟩:=p l[j] (iN g);have vK:(oF b l k).take (j+1)=(oF b l k).take j++[b.op-l[j]+if k.bf<=j then k.gQ else 0]:=by rw[BY O];simp[oF,qAp,g]
  have E:((oF b l k).take j).length<=j:=by rw[qAs];omega
  refine Y ?_;refine ZB j (i.inc e) g λa B=>Y ?_;refine Z8 B ?_;refine OJ (λo=>?_) (λo=>?_)
  ·rw[qAa o]at vK;refine Y ?_;refine Z4 (cs:=[vi (b.op-l[j]+k.gQ)]) (OL _) rfl λG f=>Y ?_;refine VX (l':=[b.op-l[j]+k.gQ]) (fU jR) (fU jR) (fT t3) rfl (by decide) (e.trans (Zt f)) (n.ins f) qK rfl (by simp;omega) O rfl rfl (OL _) λv8 t b8 g1 g2 z=>?_;exact GD
  rw[iF o,Int.add_zero]at vK;refine Y ?_;refine Z4 (cs:=[vi (b.op-l[j])]) (OL _) rfl λG f=>Y ?_;refine VX (l':=[b.op-l[j]]) (fU jR) (fU jR) (fT t3) rfl (by decide) (e.trans (Zt f)) (n.ins f) qK rfl (by simp;omega) O rfl rfl (OL _) λv8 t b8 g1 g2 z=>?_;exact GD
 have:j=l.length:=O;subst this;rw[qAH O]at n;refine Y ?_;exact⟨e,u,n⟩
def Fa{s:Value}{b:Bk}{g:List Int}(hb:iM H bv b)(w:dF H s g)(C:b.iE.length<=1000000)(t:∀c∈b.iE,0<=c.p/\c.p<g.length) :
  LL.Zb P 47 #[bv,s] H λv r=>H=r/\v=vb (yF b g):=by
 obtain⟨E,z,rfl,G,y⟩:=hb;refine aU.m (fO Bm) rfl ?_;unfold JX;refine Y ?_;refine ZC b.iE.length (λj r=>H=r/\((b.iE.take j).all λc=>decide (c.gl<=g.getD c.p.toNat 0/\g.getD c.p.toNat 0<=c.gh))=true) (λj=>[(1,s),(2,vi 0),(5,vi j)]) (λ_=>[(2,[vi b.op,vi b.sl,E,z])]) ⟨rfl,rfl⟩ V V ?_;rintro j _ F ⟨rfl,e⟩;refine Y ?_;refine YH y rfl ?_;refine OJ (λA=>?_) (λA=>?_)
 ·have h:j<b.iE.length:=O;obtain⟨c1,c2⟩:=t b.iE[j] (iN h);have k:=ER (f:=λc:nT=>decide (c.gl<=g.getD c.p.toNat 0/\g.getD c.p.toNat 0<=c.gh)) h;have l:=EQ (f:=λc:nT=>decide (c.gl<=g.getD c.p.toNat 0/\g.getD c.p.toNat 0<=c.gh)) h;obtain⟨p,n⟩:∃p:Nat,b.iE[j].p=p:=⟨b.iE[j].p.toNat,O⟩;have o:p<g.length:=O;refine Y ?_;refine ZB j y h λa B=>Y ?_;refine YL B (Y ?_);refine yZ w rfl (by rw[<-n];rfl) rfl (i:=p) o λq D=>Y ?_;refine Z8 D (Y ?_);refine Zo (vs:=[vi g[p],vi b.iE[j].gl,vi b.iE[j].gh]) (O2 _ _ _) ?_;have u:g.getD b.iE[j].p.toNat 0=g[p]:=by rw[n,qAL];exact ZG o _
  simp only[u]at k l;refine OJ (λx=>?_) (λx=>?_)
  ·refine Y ?_;exact⟨rfl,by rw[yF,l (qAU x)];rfl⟩
  refine Y ?_;exact⟨⟨j+1,O⟩,gI O,⟨rfl,by rw[k,e,decide_eq_true O];rfl⟩,V,V,rfl⟩
 have:j=b.iE.length:=O;subst this;rw[qAh]at e;refine Y ?_;exact⟨rfl,by rw[yF,e];rfl⟩
theorem Dy{b:Bk}(hb:iM H bv b)(v:jB b) :
  LL.Zb P 44 #[bv] H λv g=>fI H g/\∃q,dF g v q/\qD g q (mR b b.fM.length):=by
 have hn:=v.n;obtain⟨pv,X,rfl,hp,hc⟩:=hb;refine aU.m (fO Bn) rfl ?_;unfold IY;refine Y ?_;refine Z4 (cs:=[.slice none 0 0]) (OL _) rfl λx B5=>?_;have s0:dF (H.ins x (.cells [Value.slice none 0 0].toArray 45)) (.slice (some ⟨x,0,none⟩) 1 1) [Value.slice none 0 0]:=kV;have l0:qD (H.ins x (.cells [Value.slice none 0 0].toArray 45)) [Value.slice none 0 0] (mR b 0):=(qD.nil _).pP (.nil _);have i0:fI H (H.ins x (.cells [Value.slice none 0 0].toArray 45)):=Zt B5;generalize H.ins x (.cells [Value.slice none 0 0].toArray 45)=H0 at *;refine Y ?_;refine Yp (α:=Value×List Value) b.fM.length (λi s g=>fI H g/\dF g s.1 s.2/\qD g s.2 (mR b i)) (λi s=>[(1,vi 0),(3,s.1),(4,vi i)]) (λ_ _=>[(1,[vi b.op,vi b.sl,pv,X])]) (.slice (some ⟨x,0,none⟩) 1 1,[.slice none 0 0]) ⟨i0,s0,l0⟩ V V ?_;rintro i ⟨v3,q⟩ y hi ⟨J,S,R⟩;simp only at S R;have Jn:=R.len;have Sy:=EY v i hi;have Wu:3 ^ i<=3 ^ 4:=qAR (by decide) O;refine Y ?_;refine YH (hp.inc J) rfl ?_;refine OJ (λh1=>?_) (λh1=>?_)
 ·have h:i<b.fM.length:=O;have RY:=IK v h;have D:iH b i=b.fM[i]:=ZG h _;obtain⟨p1,p2,_⟩:=v.fM i h;refine Y ?_;refine Yp (α:=Hp×Value×List Value×Option Nat) q.length (λk s g=>fI y s.1/\fI s.1 g/\gL s.1 g 45 s.2.1 s.2.2.1 s.2.2.2/\qD s.1 s.2.2.1 (((mR b i).take k).flatMap λl=>(jM b i).map λn=>l++[n]))
   (λk s=>[(1,vi 0),(3,v3),(4,vi i),(5,s.2.1),(6,vi k)]) (λ_ _=>[(1,[vi b.op,vi b.sl,pv,X])]) (y,.slice none 0 0,[],none) ⟨.refl y,.refl y,.nil _ _ _,.nil _⟩ V V ?_
  rintro k ⟨G,v5,ws,b5⟩ H2 hk ⟨A,r,o5,K⟩;simp only at A r o5 K;have Ti:=K.len;have hwl:ws.length<=k * 3:=by rw[Ti];refine qAP (HD (k:=3) λl hl=>by rw[qAd];exact RY) (qAV _ (by rw[qAs];omega))
  refine Y ?_;refine YH (S.inc (A.trans r)) rfl ?_;refine OJ (λh2=>?_) (λh2=>?_)
  ·have C:k<q.length:=O;have p:k<(mR b i).length:=O;have Z:=m6 (f:=λl=>(jM b i).map λn=>l++[n]) p;obtain⟨DK,DJ⟩:=y6 v i O (mR b i)[k] (iN p);have Je:=R.at_ k C p;generalize(mR b i)[k]=l at *;generalize(List.flatMap (λl=>(jM b i).map λn=>l++[n]) ((mR b i).take k))=L at *;refine Y ?_;refine ZB i ((hp.inc J).inc (A.trans r)) h λa B=>Y ?_;refine Zh (OL _) rfl (UG (j:=0) (M7 B) rfl) (Y ?_);have rA:(jM b i).length=(b.fM[i].mh-b.fM[i].ml+1).toNat:=by rw[jM,qAd,qBo,D]
   refine Yp (α:=Hp×Value×List Value×Option Nat) (jM b i).length (λt s g=>fI y s.1/\fI s.1 g/\gL s.1 g 45 s.2.1 s.2.2.1 s.2.2.2/\qD s.1 s.2.2.1 (L++((jM b i).take t).map λn=>l++[n]))
    (λt s=>[(1,vi 0),(3,v3),(4,vi i),(5,s.2.1),(6,vi k),(7,vi (b.fM[i].ml+t))]) (λ_ _=>[(1,[vi b.op,vi b.sl,pv,X])]) (G,v5,ws,b5) ⟨A,r,o5,by simpa using K⟩ ⟨rfl,rfl,rfl,rfl,rfl,by simp[fG.set],trivial⟩ V ?_
   rintro t ⟨G1,v6,us,b6⟩ z ht ⟨u,w,o6,M⟩;simp only at u w o6 M;have KT:=M.len;refine Y ?_;refine ZB i ((hp.inc J).inc (u.trans w)) h λa B=>Y ?_;refine Zh (OL _) rfl (UG (j:=1) (M7 B) rfl) ?_;refine OJ (λh3=>?_) (λh3=>?_)
   ·have RU:t<(jM b i).length:=O;have RV:(jM b i)[t]=b.fM[i].ml+t:=by simp[jM,D]
    have RS:(L++((jM b i).take (t+1)).map λn=>l++[n])=(L++((jM b i).take t).map λn=>l++[n])++[l++[b.fM[i].ml+t]]:=by rw[BY RU,qBt,RV,qAE];rfl
    have Rs:us.length<=300:=by rw[KT,IN,qAd,qAs];omega
    refine Y ?_;refine rT (fU jR) (fT t3) (OL _) λQ E=>?_;have o7:gL z (z.ins Q (.cells #[] 3)) 3 (.slice (some ⟨Q,0,none⟩) 0 0) ([]:List Int) (some Q):=N9 E;have q3:fI z (z.ins Q (.cells #[] 3)):=Zt E;generalize z.ins Q (.cells #[] 3)=H4 at *;refine Y ?_;refine ZB k ((S.inc (u.trans w)).inc q3) C λa B=>Y ?_;refine Z8 B (Y ?_);refine VX (l':=l) (fU jR) (fU jR) (fT t3) rfl (by decide) q3 o7 (Je.inc ((u.trans w).trans q3)) (W6 l) (by simp;omega) O rfl rfl (OL _) λv8 H5 b8 q4 o8 _=>Y ?_;refine Z4 (cs:=[vi (b.fM[i].ml+t)]) (OL _) rfl λr2 F=>Y ?_;refine VX (l':=[b.fM[i].ml+t]) (fU jR) (fU jR) (fT t3) rfl (by decide) (q4.trans (Zt F)) (o8.ins F) qK rfl (by simp;omega) O rfl rfl (OL _) λv9 H6 b9 q5 o9 _=>?_;rw[qAt]at o9;obtain⟨G2,w1,w2,w3,w4⟩:=PA w o6 q5 o9;obtain⟨T,W,rfl,_⟩:=id w4;refine Y ?_;refine Z4 (cs:=[.slice T (l++[b.fM[i].ml+↑t]).length W]) (OL _) rfl λr3 I=>Y ?_;refine VX (l':=[Value.slice T (l++[b.fM[i].ml+↑t]).length W]) (fU IW) (fU IW) (fT t34) rfl (by decide) (w2.trans (Zt I)) (w3.ins I) kV rfl (by simp;omega) O rfl rfl (OL _) λPg H7 U q6 Qv _=>Y ?_;refine⟨(⟨t+1,O⟩,(G2,Pg,us++[.slice T (l++[b.fM[i].ml+↑t]).length W],U)),gI O,⟨u.trans w1,q6,Qv,by rw[RS];exact(M.inc w1).pP w4⟩,⟨rfl,rfl,rfl,rfl,rfl,?_,trivial⟩,V,rfl⟩;show some (vi (b.fM[i].ml+t+1))=some (vi (b.fM[i].ml+(t+1:Nat)));congr 2;omega
   have:t=(jM b i).length:=O;subst this;rw[qAh]at M;refine Y ?_;exact⟨(⟨k+1,O⟩,(G1,v6,us,b6)),gI O,⟨u,w,o6,by rw[Z];exact M⟩,V,V,rfl⟩
  have:k=q.length:=O;subst this;rw[qAH O]at K;refine Y ?_;exact⟨(⟨i+1,O⟩,(v5,ws)),gI O,⟨(J.trans A).trans r,o5.sl,K.inc r⟩,V,V,rfl⟩
 have:i=b.fM.length:=O;subst this;refine Y ?_;exact⟨J,q,S,R⟩
end
