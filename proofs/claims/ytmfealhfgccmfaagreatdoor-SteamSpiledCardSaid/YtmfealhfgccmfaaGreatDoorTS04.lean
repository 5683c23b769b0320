import Derived.Test.YtmfealhfgccmfaaGreatDoorTS03
set_option linter.all false
set_option maxHeartbeats 8000000
set_option maxRecDepth 100000
def GH{G:Prop}(h:G:=by
  simp only[qAi,forall_eq_or_imp];constructor
  ·rintro⟨h1,h2⟩;exact⟨O,O,h2⟩
  rintro⟨h1,h2,h3⟩;exact⟨O,h3⟩):G:=h
open Go Go.LL
namespace Go.Proofs
section
variable{bv:Value}{b:Bk}
instance:Enc Q4:=⟨4,λq=>[q.m,vi q.bf,vi q.gQ,q.g],λ_=>rfl⟩
def Hi:Yw Tryz.prog 110=some (4,some (.agg #[.slice none 0 0,vi 0,vi 0,.slice none 0 0]),64):=U
def IU:Tryz.prog.underlying 36=some (.slice 110):=U
section
variable{P:fP}[Tz P][Loud P]{H:Hp}
theorem Bg(hb:iM H bv b)(v:jB b) :
  LL.Zb P 9 #[bv] H λw F=>fI H F/\Bf b F w (gT b):=by
 have hn:=v.n;have M:=hb;obtain⟨pv,cv,rfl,hp,hc⟩:=hb;have pD:=BN v;refine aU.m (fO c88) rfl ?_;unfold n88;refine Y ?_;refine Zg (vs:=[.agg #[vi b.op,vi b.sl,pv,cv]]) (Dy M v) ?_;rintro mv X ⟨i1,vs,s1,l1⟩;refine Y ?_;refine Z4 (cs:=[vi 0,vi 0]) (OL _) rfl λr2 R6=>?_;have o2:gL X (X.ins r2 (.cells (Zd [(⟨0,0⟩:jL)]).toArray 105)) 105 (.slice (some ⟨r2,0,none⟩) 1 1) [(⟨0,0⟩:jL)] (some r2):=N8 R6;have i2:fI X (X.ins r2 (.cells (Zd [(⟨0,0⟩:jL)]).toArray 105)):=Zt R6;show ZW P _ _ _ (X.ins r2 (.cells (Zd [(⟨0,0⟩:jL)]).toArray 105));generalize X.ins r2 (.cells (Zd [(⟨0,0⟩:jL)]).toArray 105)=H2 at *;refine Y ?_;refine Zg (vs:=[.agg #[vi b.op,vi b.sl,pv,cv]]) (Cq ((M.inc i1).inc i2) v.sl.1 (by have:=v.sl;omega) O O) ?_;rintro sv H3 ⟨i3,bb3,o3⟩;have FY:=JI v;refine Y ?_;refine VX (l':=(iA b).drop 1) (fU zA) (fU zA) (fT Ip) rfl (by decide) (i2.trans i3) (o2.inc i3) o3.sl (Hu _) (by simp;omega) O rfl rfl (OL _) λv5 Z b5 i4 o5 _=>?_;have Jf:[(⟨0,0⟩:jL)]++(iA b).drop 1=iA b:=rfl;rw[Jf]at o5;have s5:=o5.sl;have T:=s1.inc i4;have l14:=l1.inc i4;have hb4:=(M.inc i1).inc i4;have i04:=i1.trans i4;refine Y ?_;have DQ:=l1.len;have hmk:=EY v _ (DO _);have Wu:3 ^ b.fM.length<=3 ^ 4:=qAR (by decide) hn.2;have B:=M4 v;refine Yp (α:=Hp×Value×List Q4×Option Nat) vs.length (λj s F=>fI Z s.1/\fI s.1 F/\gL s.1 F 110 s.2.1 s.2.2.1 s.2.2.2/\qF b s.1 s.2.2.1 (((mR b b.fM.length).take j).flatMap λl=>mV b l (iA b)))
  (λj s=>[(1,vi 0),(3,s.2.1),(4,mv),(5,v5),(6,vi j)]) (λ_ _=>[(1,[vi b.op,vi b.sl,pv,cv])]) (Z,.slice none 0 0,[],none) ⟨.refl Z,.refl Z,.nil _ _ _,.nil _ _⟩ V V ?_
 rintro j ⟨G,v3,I,b3⟩ H5 hj ⟨g1,g2,o6,r6⟩;simp only at g1 g2 o6 r6;refine Y ?_;refine YH (T.inc (g1.trans g2)) rfl ?_;refine OJ (λh1=>?_) (λh1=>?_)
 ·have N:j<vs.length:=O;have Q:j<(mR b b.fM.length).length:=O;have K0:=m6 (f:=λl=>mV b l (iA b)) Q;obtain⟨DK,DJ⟩:=y6 v _ (DO _) (mR b b.fM.length)[j] (iN Q);have Je:=l14.at_ j N Q;have Rv:∀k,((((mR b b.fM.length).take j).flatMap λl=>mV b l (iA b))++mV b (mR b b.fM.length)[j] ((iA b).take k)).length<=81 * 22+22:=by
   intro k;rw[IN];have a1:=HD (f:=λl=>mV b l (iA b)) (k:=22) (l:=(mR b b.fM.length).take j) λl _=>by have:=qBN (mJ b) ((iA b).map λk=>(⟨YQ l,k.bf,k.gQ⟩:gJ));rw[qAd]at this;rw[mV];omega
   have a2:(mV b (mR b b.fM.length)[j] ((iA b).take k)).length<=22:=by have:=qBN (mJ b) (((iA b).take k).map λk=>(⟨YQ (mR b b.fM.length)[j],k.bf,k.gQ⟩:gJ));rw[qAd,qAs]at this;rw[mV];omega
   have a3:((mR b b.fM.length).take j).length<=81:=by rw[qAs];omega
   have a4:((mR b b.fM.length).take j).length * 22<=81 * 22:=qAV _ a3;omega
  generalize(mR b b.fM.length)[j]=l at *;generalize(List.flatMap (λl=>mV b l (iA b)) ((mR b b.fM.length).take j))=L at *;refine Y ?_;refine Yp (α:=Hp×Value×List Q4×Option Nat) (iA b).length (λk s F=>fI Z s.1/\fI s.1 F/\gL s.1 F 110 s.2.1 s.2.2.1 s.2.2.2/\qF b s.1 s.2.2.1 (L++mV b l ((iA b).take k)))
   (λk s=>[(1,vi 0),(3,s.2.1),(4,mv),(5,v5),(6,vi j),(7,vi k)]) (λ_ _=>[(1,[vi b.op,vi b.sl,pv,cv])]) (G,v3,I,b3) ⟨g1,g2,o6,by simpa[mV]using r6⟩ V V ?_
  rintro k ⟨G1,v4,kH,b4⟩ H6 hk ⟨u,z,o7,r7⟩;simp only at u z o7 r7;have R3:=r7.len;have aNW:=Rv k;refine Y ?_;refine YH (s5.inc (u.trans z)) rfl ?_;refine OJ (λh2=>?_) (λh2=>?_)
  ·have C:k<(iA b).length:=O;have vK:(iA b).take (k+1)=(iA b).take k++[(iA b)[k]]:=BY C;have p:=Df b l ((iA b).take k) (iA b)[k];rw[<-vK]at p;have hsi:=E4 v _ (iN C);obtain⟨g,R⟩:∃g,g=(iA b)[k]:=⟨_,rfl⟩;rw[<-R]at p hsi;obtain⟨A,i,S,aNV⟩:=id Je;have Ry:dF Z (.slice A l.length i) l:=by rw[<-S];exact Je
   refine Y ?_;refine ZB j (T.inc (u.trans z)) N λa ha=>?_;have J:aM H6 a [.slice A l.length i]:=by rw[<-S];exact ha
   refine Y ?_;refine Z8 J (Y ?_);refine ZB k (s5.inc (u.trans z)) C λa2 K=>?_;have t:aM H6 a2 [vi g.bf,vi g.gQ]:=by rw[R];exact K
   refine Y ?_;refine YL t (Y ?_);refine Zg (vs:=[.agg #[vi b.op,vi b.sl,pv,cv],.slice A l.length i,.agg #[vi g.bf,vi g.gQ]]) (Dv (hb4.inc (u.trans z)) (Ry.inc (u.trans z)) O ⟨by have:=v.op;omega,by have:=v.op;omega⟩ (λx hx=>by have:=DJ x hx;exact⟨O,O⟩) ⟨O,O⟩) ?_;rintro gv H7 ⟨i7,b7,o8⟩;rw[Ff v DK]at o8;obtain⟨U,c8,rfl,_⟩:=id o8.sl;refine Y ?_;refine Zg (vs:=[.agg #[vi b.op,vi b.sl,pv,cv],.slice U (kG b ⟨YQ l,g.bf,g.gQ⟩).length c8]) (Fa ((hb4.inc (u.trans z)).inc i7) o8.sl (by have:=v.L3;omega) (λc hc=>⟨(v.iE c hc).1.1,by
    have h2:=(v.iE c hc).1.2;have:(kG b ⟨YQ l,g.bf,g.gQ⟩).length=b.fM.length:=by rw[kG,qAs];show min _ 4=_;omega
    rw[this];exact h2⟩)) ?_
   rintro v9 _ ⟨rfl,rfl⟩;rw[Ho v];refine OJ (λh3=>?_) (λh3=>?_)
   ·rw[h3,qAa rfl]at p;obtain⟨G2,w1,w2,w3,w4⟩:=PA z o7 i7 o8;have w12:=(u.trans z).trans i7;refine Y ?_;refine ZB j (T.inc w12) N λa ha=>?_;have J:aM H7 a [.slice A l.length i]:=by rw[<-S];exact ha
    refine Y ?_;refine Z8 J (Y ?_);refine ZB k (s5.inc w12) C λa2 K=>?_;have t:aM H7 a2 [vi g.bf,vi g.gQ]:=by rw[R];exact K
    refine Y ?_;refine YL t (Y ?_);refine Z4 (cs:=[.slice A l.length i,vi g.bf,vi g.gQ,.slice U (kG b ⟨YQ l,g.bf,g.gQ⟩).length c8]) (OL _) rfl λrq hrq=>?_;refine Zz OL ?_;have hq:=Z3 (H:=H7) (r:=rq) (E:=110) (c:=1) (l:=[(⟨.slice A l.length i,g.bf,g.gQ,.slice U (kG b ⟨YQ l,g.bf,g.gQ⟩).length c8⟩:Q4)]);have hq1:((Zd [(⟨.slice A l.length i,g.bf,g.gQ,.slice U (kG b ⟨YQ l,g.bf,g.gQ⟩).length c8⟩:Q4)]).all Value.gM)=true:=rfl;have hsn:=(r7.inc w1).pP (q:=⟨.slice A l.length i,g.bf,g.gQ,.slice U (kG b ⟨YQ l,g.bf,g.gQ⟩).length c8⟩) (x:=⟨YQ l,g.bf,g.gQ⟩) rfl rfl w4;generalize hqq:(⟨.slice A l.length i,g.bf,g.gQ,.slice U (kG b ⟨YQ l,g.bf,g.gQ⟩).length c8⟩:Q4)=q at *;refine Y ?_;refine VX (l':=[q]) (fU IU) (fU IU) (fT Hi) rfl (by decide) (w2.trans (Zt hrq)) (w3.ins hrq) (by subst hqq;exact hq) hq1 (by simp;omega) O rfl rfl (OL _) λPg H8 b10 g3 Qv _=>Y ?_;exact⟨(⟨k+1,O⟩,(G2,Pg,kH++[q],b10)),gI O,⟨u.trans w1,g3,Qv,by rw[p,<-qAE];exact hsn⟩,V,V,rfl⟩
   rw[h3]at p;simp only[oR,qAq,qAl]at p;refine Y ?_;exact⟨(⟨k+1,O⟩,(G1,v4,kH,b4)),gI O,⟨u,z.trans i7,o7.inc i7,by rw[p];exact r7⟩,V,V,rfl⟩
  have:k=(iA b).length:=O;subst this;rw[qAh]at r7;refine Y ?_;exact⟨(⟨j+1,O⟩,(G1,v4,kH,b4)),gI O,⟨u,z,o7,by rw[K0];exact r7⟩,V,V,rfl⟩
 have:j=vs.length:=O;subst this;rw[qAH O,<-B]at r6;refine Y ?_;exact⟨(i04.trans g1).trans g2,I,o6.sl,r6.inc g2⟩
theorem Bi{c:nT}(hb:iM H bv b)(s:b.iE.length<=1000000) :
  LL.Zb P 13 #[bv,.agg #[vi c.p,vi c.gl,vi c.gh]] H λv i=>fI H i/\iM i v (kR b c):=by
 obtain⟨N,L,rfl,k,j⟩:=hb;obtain⟨B,K,rfl,t⟩:=id k;obtain⟨A,J,rfl,q⟩:=id j;refine aU.m (fO c51) rfl ?_;unfold n51;refine Y ?_;refine rT (fU zO) (fT NN) (OL _) λh f=>?_;have w:gL H (H.ins h (.cells #[] 33)) 33 (.slice (some ⟨h,0,none⟩) 0 0) ([]:List nT) (some h):=N9 f;have l:fI H (H.ins h (.cells #[] 33)):=Zt f;generalize H.ins h (.cells #[] 33)=C at *;refine Zz OL (Y ?_);refine VX (l':=b.iE) (fU zO) (fU zO) (fT NN) rfl (by decide) l w (j.inc l) (HS _) (by simp;omega) O rfl rfl (OL _) λR D F u x _=>?_;refine Zz OL (Y ?_);refine Z4 (cs:=[vi c.p,vi c.gl,vi c.gh]) (OL _) rfl λQ g=>?_;refine Zz OL (Y ?_);refine VX (l':=[c]) (fU zO) (fU zO) (fT NN) rfl (by decide) (u.trans (Zt g)) (x.ins g) JH rfl (by simp;omega) O rfl rfl (OL _) λS E G k1 n M=>?_;rw[qAt]at n;have o:=n.sl;obtain⟨z,I,rfl,_⟩:=id o;refine Y ?_;exact⟨k1,_,_,rfl,k.inc k1,o⟩
theorem Ds(hb:iM H bv b):LL.Zb P 8 #[bv] H λv j=>H=j/\v=vb (sX b):=by
 have c:=hb;obtain⟨i,g,rfl,q,p⟩:=hb;refine aU.m (fO c48) rfl ?_;unfold n48;refine Y ?_;refine Zo (vs:=[.agg #[vi b.op,vi b.sl,i,g]]) (Dw c) ?_;refine OJ (λf=>?_) (λf=>?_)
 ·refine Y ?_;simp only[qBi,Bool.or_eq_false_iff,qBU]at f;refine Zo (vs:=[.agg #[vi b.op,vi b.sl,i,g]]) (NB c O O) (Y ?_);refine⟨rfl,?_⟩;have e:∀z:Int,(z == 0)=decide (z=0):=λz=>by rw[qBQ];simp
  have k:b.fM.length<=20:=O;have l:b.iE.length<=20:=O;simp[Y3,sX,f,k,l,e]
 refine Y ?_;refine⟨rfl,?_⟩;simp only[Bool.not_eq_false',qDZ,Bool.not_eq_false,qBP,qAK]at f;have:sX b=false:=by rw[Bool.eq_false_iff];intro h;simp only[sX,qAc,qAK]at h;omega
 rw[this];rfl
end
end
section
open Go.Conc Go.ConcM
open YtmfealhfgccmfaaGreatDoor
section
variable{H:Type}{enc:TypeId×Value->H}{W:World}{base:Nat}{sp:Nat->Bool}{held:Bool}{fuel:Nat}{cs:List Value}{y:DataW H×List MemPlace}
def M8:Tryz.prog.cellsOf 33=3:=U
def M9:Tryz.prog.cellsOf 146=5:=U
def Cf:Tryz.prog.cellsOf 26=1:=U
def Cg:Tryz.prog.cellsOf 27=1:=U
def Ch:Tryz.prog.cellsOf 29=4:=U
def HR(h:DataW.trod enc Tryz.prog W base sp held fuel 33 cs=some y):∃x:nT,cs=Enc.enc x:=by
 obtain⟨xs,n,rfl,_,m,o,l⟩:=DataW.trod_struct Tryz.underlying33 h;rw[M8]at m;obtain⟨t,p⟩:=VI (xs:=xs) (i:=0) (by rw[o];decide);obtain⟨u,q⟩:=VI (xs:=xs) (i:=1) (by rw[o];decide);have j:DataW.trod enc Tryz.prog W base sp held n 3 ((cs.drop 0).take (Tryz.prog.cellsOf 3))=xs[0]?:=l 0 _ rfl;have k:DataW.trod enc Tryz.prog W base sp held n 31 ((cs.drop 1).take (Tryz.prog.cellsOf 31))=xs[1]?:=l 1 _ rfl;rw[p]at j;rw[q]at k;obtain⟨a,g⟩:=OO j;obtain⟨b,c,hb⟩:=CC k;rw[u4]at g;rw[CD]at hb;have g:=UD g;have e:=qAx (·[0]?) hb;have f:=qAx (·[1]?) hb;simp[qBv,qBq]at e f;refine⟨⟨a,b,c⟩,u6 m λi s=>?_⟩;match i,s with
 | 0,_=>exact g
 | 1,_=>exact e
 | 2,_=>exact f
def Ge(h:DataW.trod enc Tryz.prog W base sp held fuel 146 cs=some y):∃x:zD,cs=Enc.enc x:=by
 obtain⟨xs,n,rfl,_,u,p,o⟩:=DataW.trod_struct Tryz.underlying146 h;rw[M9]at u;obtain⟨C,w⟩:=VI (xs:=xs) (i:=0) (by rw[p];decide);obtain⟨D,z⟩:=VI (xs:=xs) (i:=1) (by rw[p];decide);obtain⟨E,A⟩:=VI (xs:=xs) (i:=2) (by rw[p];decide);have q:DataW.trod enc Tryz.prog W base sp held n 31 ((cs.drop 0).take (Tryz.prog.cellsOf 31))=xs[0]?:=o 0 _ rfl;have s:DataW.trod enc Tryz.prog W base sp held n 31 ((cs.drop 2).take (Tryz.prog.cellsOf 31))=xs[1]?:=o 1 _ rfl;have t:DataW.trod enc Tryz.prog W base sp held n 3 ((cs.drop 4).take (Tryz.prog.cellsOf 3))=xs[2]?:=o 2 _ rfl;rw[w]at q;rw[z]at s;rw[A]at t;obtain⟨a,b,m⟩:=CC q;obtain⟨c,d,hb⟩:=CC s;obtain⟨e,l⟩:=OO t;rw[CD]at m hb;rw[u4]at l;have l:=UD l;have f:=qAx (·[0]?) m;have g:=qAx (·[1]?) m;have j:=qAx (·[0]?) hb;have k:=qAx (·[1]?) hb;simp[qBv,qBq]at f g j k;refine⟨⟨a,b,c,d,e⟩,u6 u λi B=>?_⟩;match i,B with
 | 0,_=>exact f
 | 1,_=>exact g
 | 2,_=>exact j
 | 3,_=>exact k
 | 4,_=>exact l
def Cz(h:DataW.trod enc Tryz.prog W base sp held fuel 29 cs=some y):∃b,iM (oX W) (.agg cs.toArray) b:=by
 obtain⟨xs,n,rfl,_,s,j,f⟩:=DataW.trod_struct Tryz.underlying29 h;rw[Ch]at s;obtain⟨D,w⟩:=VI (xs:=xs) (i:=0) (by rw[j];decide);obtain⟨E,x⟩:=VI (xs:=xs) (i:=1) (by rw[j];decide);obtain⟨F,z⟩:=VI (xs:=xs) (i:=2) (by rw[j];decide);obtain⟨G,A⟩:=VI (xs:=xs) (i:=3) (by rw[j];decide);have o:DataW.trod enc Tryz.prog W base sp held n 3 ((cs.drop 0).take (Tryz.prog.cellsOf 3))=xs[0]?:=f 0 _ rfl;have p:DataW.trod enc Tryz.prog W base sp held n 3 ((cs.drop 1).take (Tryz.prog.cellsOf 3))=xs[1]?:=f 1 _ rfl;have q:DataW.trod enc Tryz.prog W base sp held n 26 ((cs.drop 2).take (Tryz.prog.cellsOf 26))=xs[2]?:=f 2 _ rfl;have f3:DataW.trod enc Tryz.prog W base sp held n 27 ((cs.drop 3).take (Tryz.prog.cellsOf 27))=xs[3]?:=f 3 _ rfl;rw[w]at o;rw[x]at p;rw[z]at q;rw[A]at f3;obtain⟨a,c⟩:=OO o;obtain⟨b,hb⟩:=OO p;obtain⟨t,g,C,l⟩:=yB (α:=zD) Tryz.underlying26 M9 (by decide) (λh=>Ge h) q;obtain⟨m,e,u,k⟩:=yB (α:=nT) Tryz.underlying27 M8 (by decide) (λh=>HR h) f3;rw[u4]at c hb;rw[Cf]at g;rw[Cg]at e;have c:=UD c;have hb:=UD hb;have g:=UD g;have e:=UD e;refine⟨⟨a,b,C,u⟩,t,m,?_,l,k⟩;have:cs=[vi a,vi b,t,m]:=u6 s λi B=>by
  match i,B with
  | 0,_=>exact c
  | 1,_=>exact hb
  | 2,_=>exact g
  | 3,_=>exact e
 rw[this]
set_option maxRecDepth 100000 in
def Cy{r:Reach}{b0:Nat}{v:Value}{d:DataW H}{ps:List MemPlace}(e:Value.okWide Tryz.prog W r b0 29 v)(f:DataW.Trod enc Tryz.prog W base sp held 29 v d ps):∃b,iM (oX W) v b:=by obtain⟨fuel,g⟩:=f;obtain⟨c,rfl⟩:=L6 Tryz.underlying29 e;have:=Cz g;simpa[Value.cells]using this
end
end
section
open Go.Conc Go.ConcM
open YtmfealhfgccmfaaGreatDoor Go.ChangeShapes Go.WideShapes
section
variable{H:Type}{enc:TypeId×Value->H}{W:World}{base:Nat}{sp:Nat->Bool}{held:Bool}{fuel:Nat}{cs:List Value}{y:DataW H×List MemPlace}{r:Reach}{b0:Nat}{v:Value}{d:DataW H}{ps:List MemPlace}
def Ci(e:Value.okWide Tryz.prog W r b0 33 v)(f:DataW.Trod enc Tryz.prog W base sp held 33 v d ps):∃c:nT,v=.agg #[vi c.p,vi c.gl,vi c.gh]:=by obtain⟨fuel,g⟩:=f;obtain⟨c,rfl⟩:=L6 Tryz.underlying33 e;obtain⟨x,h⟩:=HR g;obtain⟨c⟩:=c;exact⟨x,by simpa[Value.cells,Enc.enc]using h⟩
end
end
section
open Go.Conc Go.ConcM
open YtmfealhfgccmfaaGreatDoor
def EX:J4:=[("ribband/spile.checks",Rows.laid_ribband_spile_checks),("ribband/steam.checks",Rows.laid_ribband_steam_checks),("ribband/steam.first",Rows.laid_ribband_steam_first)]
def BA:Tryz.prog.globalNamed "ribband/spile.checks" = some 0:=U
def zX:(Tryz.prog.globals[0]?).map (·.type)=some 280:=U
def Cc:Tryz.prog.cellsOf 280=3:=U
def Cd:Tryz.prog.cellsOf 279=1:=U
def Gi(os:Os)(args:Array Value):laidMetH Tryz.prog EX ((World.doorLaid Tryz.prog 600 os).forCall (λ_ _=>0) ⟨#[],args,[]⟩).memory:=
 laidMetH_of_parts3 (fuel:=8) (laidMet_of_run' 8 U U) U U
set_option maxRecDepth 100000 in
def Fg{W:World}{L:J4}(J:("ribband/spile.checks",Rows.laid_ribband_spile_checks)∈L)(h:laidMetH Tryz.prog L W):qS (oX W):=by
 obtain⟨g,t,cs,fuel,p,z,M,N,G⟩:=h.funcs J;obtain rfl:=aT (BA.symm.trans z);obtain rfl:=aT (zX.symm.trans M);obtain⟨xs,n,rfl,O,A,K,x⟩:=DataW.trod_array Tryz.underlying280 G;rw[Cc]at A;have s:=x 0 (by decide);have u:=x 1 (by decide);have w:=x 2 (by decide);rw[Cd]at s u w;obtain⟨D,E,F,rfl⟩:∃a b c,xs=[a,b,c]:=by
  match xs,K with
  | [a,b,c],_=>exact⟨a,b,c,rfl⟩
 obtain⟨c0,c1,c2,i⟩:∃a b c,cs.toList=[a,b,c]:=by
  match h:cs.toList,A with
  | [a,b,c],_=>exact⟨a,b,c,rfl⟩
 rw[i]at s u w;have l:DataW.agg [.held [40,114,105,98,98,97,110,100,47,115,112,105,108,101,46,98,111,111,107,41,46,99,111,109,112,97,115,115],.held [40,114,105,98,98,97,110,100,47,115,112,105,108,101,46,98,111,111,107,41,46,112,111,105,110,116,115],.held [40,114,105,98,98,97,110,100,47,115,112,105,108,101,46,98,111,111,107,41,46,99,104,101,99,107,101,100]]=DataW.agg [D.1,E.1,F.1]:=(Prod.mk.inj O).1;simp only[DataW.agg.injEq,qBg,qCw]at l;obtain⟨k0,k1,B⟩:=l;obtain⟨Q,z0⟩:=D;obtain⟨R,T⟩:=E;obtain⟨S,V⟩:=F;dsimp only at k0 k1 B;subst k0 k1 B;obtain rfl:=Go.func_of_trod (f0:=391) Tryz.underlying279 U s;obtain rfl:=Go.func_of_trod (f0:=392) Tryz.underlying279 U u;obtain rfl:=Go.func_of_trod (f0:=393) Tryz.underlying279 U w;have k:cs=#[vf 391,vf 392,vf 393]:=by rw[<-qBT (xs:=cs),i]
 subst k;have m:=World.var?_cell z N;obtain⟨_,o,q,_⟩:=V4 (m 0);refine⟨rfl,o,false,by rw[MD];rw[q];rfl,λj I=>?_⟩;match j,I with
 | 0,_=>obtain⟨_,C,e,f⟩:=V4 (m 0);rw[q]at e;obtain rfl:=aT e;exact f
 | 1,_=>obtain⟨_,C,e,f⟩:=V4 (m 1);rw[q]at e;obtain rfl:=aT e;exact f
 | 2,_=>obtain⟨_,C,e,f⟩:=V4 (m 2);rw[q]at e;obtain rfl:=aT e;exact f
end
section
variable{a:Int}
def gH(b:Sb)(x:Nt):Sb:={ b with nt:=b.nt++[x] }
def rU(b:Sb)(x:Nt):Int:=if ZN b≠0 then ZN b else Y9 (gH b x)
section
variable{P:fP}[Tz P][Loud P]{H:Hp}
def Cm{b:Sb}{x:Nt}(hb:Zq H b)(D:b.Sz)(R:Yb H)(hx:dF H (.slice x.A x.ps.length x.c) x.ps)(J:x.ps.length<=1000000) :
  LL.Zb P 81 #[b.v,W8 x] H λv Q=>fI H Q/\((rU b x≠0/\v=.tuple #[OS,vi (rU b x)])\/(rU b x=0/\gY (gH b x)/\∃p,iP (gH b x) p/\Zq Q p/\v=.tuple #[p.v,vi 0])):=by
 refine aU.m (fO Di) rfl ?_;unfold JO Sb.v;refine Y ?_;refine Zg (vs:=[b.v]) (HN hb D R) ?_;rintro v V ⟨K,rfl⟩;refine OJ (λu=>?_) (λu=>?_)
 ·have e:rU b x=ZN b:=qAa u;refine Y ?_;exact⟨K,.inl ⟨by rw[e];exact u,by rw[e];rfl⟩⟩
 have ok:=Ob (b:=b) u;have Sv:=ok.nn;have e:rU b x=Y9 (gH b x):=iF O;rw[e];refine Y ?_;refine Zg (vs:=[.slice b.A2 b.nt.length b.c2]) (ZAa (hb.nt.inc K) O) ?_;rintro v2 E ⟨s2,b2,o2⟩;refine Zz OL (Y ?_);refine Z4 (cs:=[.slice x.A x.ps.length x.c,vi x.lo,vi x.hi]) (OL _) rfl λC q=>?_;refine Zz OL ?_;have mD:dF (E.ins C (.cells (List.toArray [.slice x.A x.ps.length x.c,vi x.lo,vi x.hi]) 137)) (.slice (some ⟨C,0,none⟩) 1 1) [x]:=Z3 (l:=[x]);have o3:=o2.ins (o:=.cells (List.toArray [.slice x.A x.ps.length x.c,vi x.lo,vi x.hi]) 137) q;have L:fI V (E.ins C (.cells (List.toArray [.slice x.A x.ps.length x.c,vi x.lo,vi x.hi]) 137)):=s2.inc.trans (Zt q);generalize E.ins C (.cells (List.toArray [.slice x.A x.ps.length x.c,vi x.lo,vi x.hi]) 137)=H3 at *;refine Y ?_;refine VX (l':=[x]) (fU uB) (fU uB) (fT JY) rfl (by decide) L o3 mD rfl (by simp only[qAF,List.length_nil];omega) O rfl rfl (OL _) λv4 X b4 i4 U ch=>?_;obtain⟨s,t,rfl,q4⟩:=OA U;have g:=K.trans i4;have I:Zq X { gH b x with A2:=s,c2:=t }:=⟨(hb.pk.inc g),U.sl,λy h=>by
  rcases qAj.1 h with h | h
  ·exact(hb.ps y h).inc g
  obtain rfl:=iO.1 h;exact hx.inc g,hb.q1,q4⟩
 have N:Sb.Sz { gH b x with A2:=s,c2:=t }:=⟨D.pk,by show(b.nt++[x]).length<=_;rw[IN];simp;omega,λy h=>by
  rcases qAj.1 h with h | h
  ·exact D.ps y h
  obtain rfl:=iO.1 h;exact J,D.nm⟩
 refine Y ?_;refine Zg (vs:=[Sb.v { gH b x with A2:=s,c2:=t }]) (Xy I N (aM.inc R g)) ?_;rintro v H5 ⟨T,S⟩;rw[show Y9 { gH b x with A2:=s,c2:=t }=Y9 (gH b x)from Xx ⟨rfl,rfl,rfl⟩ rfl rfl]at S;rcases S with⟨G,rfl⟩ | ⟨G,f,p,k,F,rfl⟩
 ·unfold OS;refine Y ?_;exact⟨g.trans T,.inl ⟨G,rfl⟩⟩
 unfold Sb.v;rw[G];refine Y ?_;exact⟨g.trans T,.inr ⟨rfl,⟨f.pl,f.hd,f.td,f.n,f.pk,f.nm,f.nn,f.nt⟩,p,⟨k.pl,k.hd,k.td,k.pk,k.nl,k.nt⟩,F,rfl⟩⟩
end
def y0{b:Sb}{x:Nt}(c:b.pk.length<=4):Za (gH b x)=(Za b).filter λt=>rE t x:=by
 refine Kh (CE (b:=gH b x) c) ((CE c).filter _) λt=>?_;rw[jW (b:=gH b x) c,qAu,jW c];have h:hV (gH b x) t=(hV b t && rE t x):=by show(b.nt++[x]).all (rE t)=_;rw[qBO];simp[hV]
 rw[h,qAc];exact⟨λ⟨e,f,g⟩=>⟨⟨e,f⟩,g⟩,λ⟨⟨e,f⟩,g⟩=>⟨e,f,g⟩⟩
def JA{b:Sb}{x:Nt}(ok:gY b)(e:b.nt.length<3)(h:x.ps≠[]/\FI b.pk.length x.ps/\(0<=x.lo/\x.lo<=x.hi/\x.hi<=80)):gY (gH b x) where
 pl:=ok.pl
 hd:=ok.hd
 td:=ok.td
 n:=ok.n
 pk:=ok.pk
 nm:=ok.nm
 nn:=by show(b.nt++[x]).length<=3;simp;omega
 nt:=λy c=>by
  rcases qAj.1 c with c | c
  ·exact ok.nt y c
  rw[iO.1 c];exact h
def Fs{b:Sb}{x:Nt}(ok:gY b)(c:gY (gH b x)):rU b x=bS (gH b x):=by rw[rU,O9 ok,iF (by decide),pF c]
def Fj{b o p:Sb}{x y:Nt}(ok:gY b)(f:y.ps=x.ps)(i:x.lo<=y.lo)(j:y.hi<=x.hi)(c:iP (gH b x) o)(e:iP (gH b y) p):uC o p where
 n:=by rw[e.pk,c.pk];rfl
 res:=(e.res.trans (Ki (o:=gH b y) (b:=gH b x) rfl rfl rfl (λ_=>rfl) λ_=>rfl)).trans c.res.symm
 td:=by rw[e.td,c.td];rfl
 sub:=λt g=>by rw[e.boats,y0 ok.n.2,qAu]at g;rw[c.boats,y0 ok.n.2,qAu];have h:=g.2;rw[rE,qAN,f]at h;exact⟨g.1,by rw[rE,qAN];exact⟨O,O⟩⟩
def Ft{b:Sb}{x y:Nt}(ok:gY b)(c:y.ps=x.ps)(f:x.lo<=y.lo)(g:y.hi<=x.hi)(h:bS (gH b y)=0):bS (gH b x)=0:=by rw[EG]at h ⊢;obtain⟨t,e⟩:=qBu _ h;rw[y0 ok.n.2,qAu,rE,qAN,c]at e;rw[y0 ok.n.2];exact qDi (qAu.2 ⟨e.1,by rw[rE,qAN];exact⟨O,O⟩⟩)
def gU(n m f:Nat):Nat->List Int
 | 0=>[(f:Int)]
 | j+1=>gU n m f j++(if(m >>> (f+1+j)) % 2=1 then[((f+1+j:Nat):Int)]else[])
def IJ{n m f:Nat}:∀j,f+j<n->(gU n m f j).Pairwise (·<·)/\∀z∈gU n m f j,0<=z/\z<=(f+j:Nat)
 | 0,h=>⟨qBV _ _,λz c=>by rw[iO.1 c];omega⟩
 | j+1,h=>by
  obtain⟨g,e⟩:=IJ (n:=n) (m:=m) (f:=f) j O;rw[gU];split
  ·refine⟨qCS.2 ⟨g,qBV _ _,λz c y i=>?_⟩,λz c=>?_⟩
   ·have:=e z c;rw[iO.1 i];omega
   rcases qAj.1 c with c | c
   ·have:=e z c;omega
   rw[iO.1 c];omega
  rw[qAl];exact⟨g,λz c=>by have:=e z c;omega⟩
def NH{n m f:Nat}:∀j,gU n m f j≠[]
 | 0=>by simp[gU]
 | j+1=>λh=>NH (n:=n) (m:=m) (f:=f) j (by rw[gU]at h;exact(qCH.1 h).1)
def NG{n m f:Nat}:∀j,(gU n m f j).length<=j+1
 | 0=>by simp[gU]
 | j+1=>by
  have:=NG (n:=n) (m:=m) (f:=f) j;rw[gU,IN];split
  ·simp;omega
  simp;omega
def lB(a:Int):List Int->Int
 | []=>a
 | x :: l=>lB (min a x) l
def lG(a:Int):List Int->Int
 | []=>a
 | x :: l=>lG (max a x) l
def y9{z:Int}:∀(l:List Int) (a:Int),z<=lB a l↔z<=a/\∀x∈l,z<=x
 | [],a=>by simp[lB]
 | x :: l,a=>by rw[lB,y9 l];exact GH
def y8{z:Int}:∀(l:List Int) (a:Int),lG a l<=z↔a<=z/\∀x∈l,x<=z
 | [],a=>by simp[lG]
 | x :: l,a=>by rw[lG,y8 l];exact GH
def Gs:∀(l:List Int) (a:Int),lB a l<=lG a l:=λl a=>by have c:=(y9 (z:=lB a l) l a).1 (qAO _);have e:=(y8 (z:=lG a l) l a).1 (qAO _);omega
def QO{c:Int}{l m:List Int}(h:∀z∈c :: m,z∈a :: l):lB a l<=lB c m/\lG c m<=lG a l:=by
 have f:=(y9 (z:=lB a l) l a).1 (qAO _);have g:=(y8 (z:=lG a l) l a).1 (qAO _);have k1:∀z∈a :: l,lB a l<=z/\z<=lG a l:=λz e=>by
  rcases qAi.1 e with rfl | e
  ·exact⟨f.1,g.1⟩
  exact⟨f.2 z e,g.2 z e⟩
 refine⟨(y9 _ _).2 ⟨(k1 c (h c (by simp))).1,λz e=>(k1 z (h z (by simp[e]))).1⟩,(y8 _ _).2 ⟨(k1 c (h c (by simp))).2,λz e=>(k1 z (h z (by simp[e]))).2⟩⟩
section
variable{P:fP}[Tz P][Loud P]{H:Hp}
def Gt{b:Sb}(hb:Zq H b):LL.Zb P 7 #[b.v] H λv c=>H=c/\∃t,v=vb t/\(t=true->gY b/\b.nt.length<3):=by
 refine aU.m (fO Bz) rfl ?_;unfold I7 Sb.v;refine Y ?_;refine Zg (vs:=[b.v]) (sG hb) ?_;rintro v _ ⟨rfl,g,rfl,f⟩;cases g with
 | false=>
  refine Y ?_;exact⟨rfl,_,rfl,λe=>by simp at e⟩
 | true=>
  refine Y ?_;exact⟨rfl,_,rfl,λe=>⟨f rfl,by have:=of_decide_eq_true e;omega⟩⟩
end
theorem IR{x:Int}:∀(l:List Int) (a:Int),lB a (l++[x])=min (lB a l) x
 | [],_=>rfl
 | y :: l,a=>by rw[qBa,lB,IR l];rfl
theorem IQ{x:Int}:∀(l:List Int) (a:Int),lG a (l++[x])=max (lG a l) x
 | [],_=>rfl
 | y :: l,a=>by rw[qBa,lG,IQ l];rfl
def Hr{m j:Nat}(c:j<=8):ZH .shr .u8 (m:Int) (j:Int)=.int .u8 ((m / 2 ^ j:Nat):Int):=by show Value.int .u8 (Int.fdiv (m:Int) (2 ^ min (j:Int).toNat 8))=_;have e:min (j:Int).toNat 8=j:=O;rw[e];congr 1;rw[qBJ _ (by exact qDA (Int.pow_pos (by decide)))];simp
theorem Cu{x:Nat}(g:x<256):ZH .and .u8 (x:Int) 1=.int .u8 ((x % 2:Nat):Int):=by
 have c:(BitVec.ofInt 8 (x:Nat)).toNat=x:=by simp[qCl];omega
 have e:(BitVec.ofInt 8 (1:Int)).toNat=1:=rfl;have f:(BitVec.ofInt 8 (x:Nat) &&& BitVec.ofInt 8 1).toNat=x % 2:=by rw[qCk,c,e,qDI]
 show Value.int .u8 (IntKind.u8.wrap ((BitVec.ofInt 8 (x:Nat) &&& BitVec.ofInt 8 1).toNat:Nat))=_;rw[f];have:x % 2<2:=qDo _ (by decide);generalize x % 2=z at *;match z,this with
 | 0,_=>rfl
 | 1,_=>rfl
section
variable{P:fP}[Tz P][Loud P]{H:Hp}
def IP{v:Value}{r:List Int}(g:dF H v (a :: r))(u:(a :: r).length<=1000000) :
  LL.Zb P 16 #[v] H λw h=>H=h/\w=.tuple #[.agg #[vi (lB a r),vi (lG a r)],vb true]:=by
 have o:(a :: r).length=r.length+1:=rfl;refine aU.m (fO Ca) rfl ?_;unfold I8;refine Y ?_;refine YH g rfl (Y ?_);refine ZB 0 g O λp n=>Y ?_;refine Z8 n (Y ?_);refine Zg (vs:=[vi a]) (P1 _) ?_;rintro w _ ⟨rfl,rfl⟩;refine Y ?_;refine ZC r.length (λj h=>H=h) (λj=>[(0,v),(2,vi 0),(3,vb false),(4,vi 0),(5,vi ((1+j:Nat):Int))]) (λj=>[(2,[vi 0,vi 0]),(4,[vi (lB a (r.take j)),vi (lG a (r.take j))])]) rfl V V ?_;rintro j _ t rfl;refine Y ?_;refine YH g rfl ?_;refine OJ (λl=>?_) (λl=>?_)
 ·have f:1+j<(a :: r).length:=O;have i:j<r.length:=O;have k:(a :: r)[1+j]=r[j]:=by simp[qDU 1 j]
  refine Y ?_;refine ZB (1+j) g f λq c=>?_;rw[k]at c;refine Y ?_;refine Z8 c (Y ?_);refine EH rfl rfl (Y ?_);refine ZB (1+j) g f λs e=>?_;rw[k]at e;refine Y ?_;refine Z8 e (Y ?_);refine yG rfl rfl (Y ?_);refine Zg (vs:=[vi (min (lB a (r.take j)) r[j]),vi (max (lG a (r.take j)) r[j])]) (MW _ _) ?_;rintro w _ ⟨rfl,rfl⟩;refine Y ?_;refine⟨⟨j+1,O⟩,gI O,rfl,⟨rfl,rfl,rfl,rfl,?_,trivial⟩,⟨rfl,?_,trivial⟩,rfl⟩
  ·show some (vi (((1+j:Nat):Int)+1))=some (vi ((1+(j+1):Nat):Int));congr 2
  rw[BY i,IR,IQ];rfl
 have:j=r.length:=O;subst this;rw[qAh];refine Y ?_;exact⟨rfl,rfl⟩
def NF{b:Sb}{x:Nt}(ok:gY b)(f:gY (gH b x))(hb:Zq H b)(m:Yb H)(o:dF H (.slice x.A x.ps.length x.c) x.ps)(n:x.ps.length<=1000000) :
  LL.Zb P 81 #[b.v,W8 x] H λv i=>fI H i/\∃(c:Sb) (s:Int),v=.tuple #[c.v,vi s]/\((s=9/\bS (gH b x)≠0)\/(s=0/\bS (gH b x)=0/\iP (gH b x) c/\gY c/\Zq i c)):=
 LL.Zb.mono (Cm hb ok.oI m o n) λv i h=>by
  rw[Fs ok f]at h;obtain⟨j,⟨e,rfl⟩ | ⟨e,_,c,k,l,rfl⟩⟩:=h
  ·refine⟨j,tC,_,rfl,.inl ⟨?_,e⟩⟩;unfold bS at e ⊢;split
   ·rfl
   rename_i g;rw[iF g]at e;exact absurd rfl e
  exact⟨j,c,0,rfl,.inr ⟨rfl,e,k,k.ok f,l⟩⟩
theorem Fu(DT:P=PP){b:Sb}{q k I G w u:Int}(ok:gY b)(R:b.nt.length<3)(hb:Zq H b)(hq:0<=q/\q<256)(hk:0<=k/\k<256)(hx:I<=w/\w<=u/\u<=G)(hg:Yb H)(KZ:aM H ⟨3,0,none⟩ [vf 407]) :
  LL.Zb P 17 #[b.v,.int .u8 q,.agg #[vi I,vi G],.agg #[vi w,vi u],.int .u8 k] H λv X=>fI H X/\v=vb true:=by
 have hn:=ok.n;refine aU.m (fO Cb) rfl ?_;unfold I9 Sb.v;refine Y ?_;refine Zo (vs:=[.agg #[vi I,vi G],.agg #[vi w,vi u]]) (mQ hx) (Y ?_);refine VC (fU Tryz.underlying5) (fU Tryz.underlying3) rfl ?_;rw[V8 (show rY q from⟨O,O⟩)];have Sp:0<=q.tdiv 16/\q.tdiv 16<256:=by rw[qBA hq.1];omega
 refine Y ?_;refine yC rfl rfl (by decide) ⟨O,O⟩ (Y ?_);refine HH rfl rfl O ?_;obtain⟨f,hf,ef⟩:=PB (n:=b.pk.length) Sp.1 O;rw[ef];obtain⟨m,rfl⟩:∃m:Nat,q=m:=⟨q.toNat,O⟩;refine Y ?_;refine Z4 (cs:=[vi f]) (OL _) rfl λo S=>?_;have i1:fI H (H.ins o (.cells [vi f].toArray 3)):=Zt S;have o1:gL H (H.ins o (.cells [vi f].toArray 3)) 3 (.slice (some ⟨o,0,none⟩) 1 1) [(f:Int)] (some o):=N8 (l:=[(f:Int)]) S;have c1:aM (H.ins o (.cells [vi f].toArray 3)) ⟨o,0,none⟩ [vi f]:=ZM (Hp.aQ _ _ _);generalize H.ins o (.cells [vi f].toArray 3)=H1 at *;refine Y ?_;refine ZB 0 o1.sl (by simp) λa ha=>Y ?_;refine Z8 (v:=vi f) ha (Y ?_);refine Yp (α:=Value×Option Nat) (b.pk.length-(f+1)) (λj s X=>fI H X/\gL H X 3 s.1 (gU b.pk.length m f j) s.2)
  (λj s=>[(1,.int .u8 (m:Int)),(4,.int .u8 k),(5,vi 0),(7,vi 0),(8,vi 0),(10,vb false),(11,s.1),(12,vi ((f+1+j:Nat):Int))]) (λ_ _=>[(5,b.cs),(7,[vi I,vi G]),(8,[vi w,vi u])]) (.slice (some ⟨o,0,none⟩) 1 1,some o) ⟨i1,o1⟩ V V ?_
 rintro j ⟨v,bb⟩ H2 hj ⟨J,o2⟩;have K8:=NG (n:=b.pk.length) (m:=m) (f:=f) j;refine OJ (λZ=>?_) (λZ=>?_)
 ·refine Y ?_;refine EJ rfl rfl (.inl rfl) O (Hr O) ?_;have Tb:m / 2 ^ (f+1+j)<256:=qBB (qDx _ _) O;refine Y ?_;refine ME rfl rfl (.inl rfl) (Cu Tb) ?_;refine OJ (λM=>?_) (λM=>?_)
  ·refine Y ?_;refine Z4 (cs:=[vi ((f+1+j:Nat):Int)]) (OL _) rfl λr2 T=>Y ?_;refine VX (l':=[((f+1+j:Nat):Int)]) (fU jR) (fU jR) (fT t3) rfl (by decide) (J.trans (Zt T)) (o2.ins T) XA rfl (by simp;omega) O rfl rfl (OL _) λv3 H3 b3 k1 k2 k3=>Y ?_;have eb:gU b.pk.length m f j++[((f+1+j:Nat):Int)]=gU b.pk.length m f (j+1):=by rw[gU,qAa (by rw[qCt];omega)]
   refine⟨(⟨j+1,O⟩,(v3,b3)),gI O,⟨k1,by rw[<-eb];exact k2⟩,V,V,rfl⟩
  refine Y ?_;have eb:gU b.pk.length m f (j+1)=gU b.pk.length m f j:=by rw[gU,iF (by rw[qCt];omega),qAl]
  refine⟨(⟨j+1,O⟩,(v,bb)),gI O,⟨J,by rw[eb];exact o2⟩,V,V,rfl⟩
 have hje:j=b.pk.length-(f+1):=O;have N:=hb.inc J;have D:Yb H2:=aM.inc hg J;have Q:=aM.inc KZ J;have E:=o2.sl;have L:=IJ (n:=b.pk.length) (m:=m) (f:=f) j O;have h:=NH (n:=b.pk.length) (m:=m) (f:=f) j;generalize gU b.pk.length m f j=ps at *;obtain⟨A,g,rfl,_⟩:=id E;have p:FI b.pk.length ps:=⟨L.1,λz hz=>by have:=L.2 z hz;omega⟩;have c1:=jE (lo:=0) (hi:=80) hx.1;have c2:=jE (lo:=0) (hi:=80) hx.2.1;have c3:=jE (lo:=0) (hi:=80) hx.2.2;have c4:=jJ (x:=I) (show(0:Int)<=80 by decide);have c5:=jJ (x:=G) (show(0:Int)<=80 by decide);have c6:=jJ (x:=w) (show(0:Int)<=80 by decide);have c7:=jJ (x:=u) (show(0:Int)<=80 by decide);refine Y ?_;refine Zo (vs:=[.agg #[vi I,vi G],vi 0,vi 80]) m7 ?_;refine Zz OL ?_;generalize OT I 0 80=B at *;generalize OT G 0 80=C at *;have RE:gY (gH b ⟨A,ps,g,B,C⟩):=JA ok R ⟨h,p,by show 0<=B;omega,by show B<=C;omega,by show C<=80;omega⟩;refine Y ?_;refine Zg (vs:=[b.v,.agg #[.slice A ps.length g,vi B,vi C]]) (NF (x:=⟨A,ps,g,B,C⟩) ok RE N D E (by show ps.length<=_;omega)) ?_;rintro v H3 ⟨K,c,s,rfl,hv⟩;refine Zz OL ?_;unfold Sb.v;refine Y ?_;refine Zo (vs:=[.agg #[vi w,vi u],vi 0,vi 80]) m7 ?_;refine Zz OL ?_;generalize OT w 0 80=a3 at *;generalize OT u 0 80=a4 at *;refine Y ?_;refine Zg (vs:=[b.v,.agg #[.slice A ps.length g,vi a3,vi a4]]) (NF (x:=⟨A,ps,g,a3,a4⟩) ok (JA ok R ⟨h,p,by show 0<=a3;omega,by show a3<=a4;omega,by show a4<=80;omega⟩) (N.inc K) (aM.inc D K) (E.inc K) (by show ps.length<=_;omega)) ?_;rintro v H4 ⟨i4,d,t,rfl,hw⟩;refine Zz OL ?_;unfold Sb.v;refine Y ?_;refine Zg (vs:=[b.v,c.v,d.v,vi s,vi t,.int .u8 k,.int .u8 (m:Int)]) (qI DT ?_ hk hq (aM.inc D (K.trans i4)) (aM.inc Q (K.trans i4))) ?_
 ·rcases hw with⟨rfl,M⟩ | ⟨rfl,M,F,Qt,hd⟩
  ·rcases hv with⟨rfl,_⟩ | ⟨rfl,_⟩
   ·exact .inl ⟨rfl,.inl rfl⟩
   exact .inl ⟨rfl,.inr rfl⟩
  rcases hv with⟨rfl,Z⟩ | ⟨rfl,Z,U,NR,hc⟩
  ·exact absurd (Ft (x:=⟨A,ps,g,B,C⟩) (y:=⟨A,ps,g,a3,a4⟩) ok rfl c1 c3 M) Z
  have h:Za d≠[]:=by rw[F.boats];exact EG.1 M
  exact .inr ⟨rfl,rfl,NR,Qt,by rw[U.pk];rfl,by rw[F.pk];rfl,Fj (x:=⟨A,ps,g,B,C⟩) (y:=⟨A,ps,g,a3,a4⟩) ok rfl c1 c3 U F,h,hc.inc i4,hd⟩
 rintro v H5 ⟨i5,rfl⟩;refine Y ?_;exact⟨((J.trans K).trans i4).trans i5,rfl⟩
end
end
variable{av:Value}{a:Bk}
def Fb:BM Tryz.prog 146=false:=U
def Gr:BM Tryz.prog 33=false:=U
section
variable{P:fP}[Tz P][Loud P]{H:Hp}
theorem Co{bv:Value}{b:Bk}(X:iM H av a)(hb:iM H bv b)(hl:a.fM.length<=1000000)(hl2:a.iE.length<=1000000):LL.Zb P 12 #[av,bv] H λv o=>H=o/\(a=b->v=vb true)/\(v=vb true->a=b)/\∃x,v=vb x:=by
 obtain⟨pa,ca,rfl,u,s⟩:=X;obtain⟨pb,cb,rfl,z,t⟩:=hb;obtain⟨I,M,rfl,_⟩:=id u;obtain⟨G,L,rfl,_⟩:=id s;obtain⟨K,R,rfl,_⟩:=id z;obtain⟨J,N,rfl,_⟩:=id t;refine aU.m (fO c43) rfl ?_;unfold n43;have n:a≠b->(a=b->vb false=vb true)/\(vb false=vb true->a=b)/\∃x,vb false=vb x:=λh=>⟨λe=>absurd e h,λe=>by simp at e,false,rfl⟩;refine OJ (λA=>?_) (λA=>?_)
 ·refine Y ?_;exact⟨rfl,n λe=>A (by rw[e])⟩
 refine OJ (λB=>?_) (λB=>?_)
 ·refine Y ?_;exact⟨rfl,n λe=>B (by rw[e])⟩
 refine OJ (λS=>?_) (λS=>?_)
 ·refine Y ?_;exact⟨rfl,n λe=>S (by rw[e])⟩
 refine OJ (λT=>?_) (λT=>?_)
 ·refine Y ?_;exact⟨rfl,n λe=>T (by rw[e])⟩
 have D:a.fM.length=b.fM.length:=O;have hc:a.iE.length=b.iE.length:=O;refine Y ?_;refine ZC a.fM.length (λj o=>H=o/\a.fM.take j=b.fM.take j) (λj=>[(2,vi 0),(3,vi 0),(5,vi j)]) (λ_=>[(2,[vi a.op,vi a.sl,.slice I a.fM.length M,.slice G a.iE.length L]),(3,[vi b.op,vi b.sl,.slice K b.fM.length R,.slice J b.iE.length N])]) ⟨rfl,rfl⟩ V V ?_;rintro j _ Z ⟨rfl,C⟩;refine OJ (λU=>?_) (λU=>?_)
 ·have i:j<a.fM.length:=O;refine Y ?_;refine ZB j u i λp D=>Y ?_;refine YL D (Y ?_);refine ZB j z O λq l=>Y ?_;refine YL l (Y ?_);refine CB (b:=yE a.fM[j] b.fM[j]) (xs:=#[vi a.fM[j].ml,vi a.fM[j].mh,vi a.fM[j].bl,vi a.fM[j].bh,vi a.fM[j].w]) (ys:=#[vi b.fM[j].ml,vi b.fM[j].mh,vi b.fM[j].bl,vi b.fM[j].bh,vi b.fM[j].w]) Fb (λQ g H l=>Gk Q l) rfl rfl ?_;refine OJ (λE=>?_) (λE=>?_)
  ·refine Y ?_;refine⟨rfl,n ?_⟩;rintro rfl;exact E ⟨rfl,rfl,rfl,rfl,rfl⟩
  have e:=Gd.1 (decide_eq_true E);refine Y ?_;exact⟨⟨j+1,O⟩,gI O,⟨rfl,IT i O C e⟩,V,V,rfl⟩
 have:j=a.fM.length:=O;subst this;rw[qAh,qAH O]at C;refine Y ?_;refine ZC a.iE.length (λj o=>H=o/\a.iE.take j=b.iE.take j) (λj=>[(2,vi 0),(3,vi 0),(6,vi j)]) (λ_=>[(2,[vi a.op,vi a.sl,.slice I a.fM.length M,.slice G a.iE.length L]),(3,[vi b.op,vi b.sl,.slice K b.fM.length R,.slice J b.iE.length N])]) ⟨rfl,rfl⟩ V V ?_;rintro j _ Z ⟨rfl,k⟩;refine OJ (λh7=>?_) (λh7=>?_)
 ·have i:j<a.iE.length:=O;refine Y ?_;refine ZB j s i λp D=>Y ?_;refine YL D (Y ?_);refine ZB j t O λq l=>Y ?_;refine YL l (Y ?_);refine CB (b:=yD a.iE[j] b.iE[j]) (xs:=#[vi a.iE[j].p,vi a.iE[j].gl,vi a.iE[j].gh]) (ys:=#[vi b.iE[j].p,vi b.iE[j].gl,vi b.iE[j].gh]) Gr (λQ g H l=>Gj Q l) rfl rfl ?_;refine OJ (λF=>?_) (λF=>?_)
  ·refine Y ?_;refine⟨rfl,n ?_⟩;rintro rfl;exact F ⟨rfl,rfl,rfl⟩
  have e:=Ck.1 (decide_eq_true F);refine Y ?_;exact⟨⟨j+1,O⟩,gI O,⟨rfl,IT i O k e⟩,V,V,rfl⟩
 have:j=a.iE.length:=O;subst this;rw[qAh,qAH O]at k;refine Y ?_;refine⟨rfl,λ_=>rfl,λ_=>?_,true,rfl⟩;obtain⟨a1,a2,a3,a4⟩:=a;obtain⟨b1,b2,b3,b4⟩:=b;simp only at A B C k;subst A B C k;rfl
def Cp{bv:Value}{b:Bk}(g:iM H av a)(hb:iM H bv b)(i:a.fM.length<=1000000)(c:a.iE.length<=1000000)(e:a=b):LL.Zb P 12 #[av,bv] H λv f=>H=f/\v=vb true:=
 LL.Zb.mono (Co g hb i c) λ_ _ h=>⟨h.1,h.2.1 e⟩
end
section
variable{P:fP}[Tz P][Loud P]{H:Hp}{bv:Value}{b:Bk}
def NE{i:Nat}(k:i<b.fM.length)(v:jB b)(hb:iM H bv b)(j:qS H):LL.Zb P 15 #[bv,vi i] H λu f=>fI H f/\∃A c,u=.tuple #[.slice A (gapL b i).length c,vi (oS b)]/\dF f (.slice A (gapL b i).length c) (gapL b i):=
 LL.Zb.mono (Du hb j (by have:=v.n;omega) (by have:=v.L3;omega)) λu f h=>⟨h.1,by
  rw[Hj k,Fv v]at h;obtain⟨w,l,rfl,o⟩:=h.2;have:(if oS b=0 then gapL b (i:Int).toNat else[])=gapL b i:=by
   split
   ·rfl
   rename_i g;rw[Fc λe=>g (E6 e)]
  rw[this]at o;obtain⟨A,c,rfl⟩:=Gb o;exact⟨A,c,rfl,o.sl⟩⟩
end
section
variable{P:fP}[Tz P][Loud P]{H:Hp}
theorem Gv(s:P=PP){bv:Value}{b:Sb}{d:Bk}{c:nT}{q p m:Int}(hb:Zq H b)(hq:0<=q/\q<256)(hd:iM H bv d)(hp:0<=p/\p<256)(hm:0<=m/\m<256)(hg:Yb H)(B:aM H ⟨3,0,none⟩ [vf 407])(k:qS H) :
  E0.m P (CJ P JF λv _=>v=vb true) (VO [b.v,.int .u8 q,bv,.int .u8 p,.agg #[vi c.p,vi c.gl,vi c.gh],.int .u8 m]) H:=by
 have e:=hd;obtain⟨_,_,rfl,⟨Ap,cp,rfl,_⟩,⟨Ac,cc,rfl,_⟩⟩:=hd;have done:∀{H':Hp},fI H H'->LL.Zb P 10 #[] H' λv _=>v=vb true:=λC=>LL.Zb.mono (mL s (aM.inc hg C) (aM.inc B C)) λv _ h=>h.2;unfold Sb.v E0;refine Y ?_;refine Zg (vs:=[b.v]) (Gt hb) ?_;rintro v _ ⟨rfl,t,rfl,ht⟩;cases t with
 | false=>
  refine Y ?_;refine Zg (vs:=[]) (done (.refl _)) ?_;rintro v H1 rfl;refine Y ?_;rfl
 | true=>
 obtain⟨ok,R⟩:=ht rfl;refine Y ?_;refine Z7 rfl (Ds e) ?_;rintro v _ ⟨rfl,rfl⟩;cases hf:sX d with
 | false=>
  refine Y ?_;refine Zg (vs:=[]) (done (.refl _)) ?_;rintro v H1 rfl;refine Y ?_;rfl
 | true=>
 have val:=Gn hf;have hn:=val.n;have hcn:=val.L3;refine Y ?_;refine Z7 rfl (Bg e val) ?_;rintro v H1 ⟨F,AB,⟨A,c1,rfl,_⟩,_⟩;refine OJ (λg1=>?_) (λg1=>?_)
 ·refine Y ?_;refine Zg (vs:=[]) (done F) ?_;rintro v H2 rfl;refine Y ?_;rfl
 refine Y ?_;refine Z7 rfl (Bh (c:=c) (e.inc F) (aM.inc k F) O O) ?_;rintro v H2 ⟨i2,w⟩;obtain⟨K,V,N,J,T,M,x1,x2,rfl,f⟩:=Cw w;clear w;have l:=F.trans i2;refine OJ (λE=>?_) (λE=>?_)
 ·refine Y ?_;refine Zg (vs:=[]) (done l) ?_;rintro v H3 rfl;refine Y ?_;rfl
 have E:uJ d c=0:=O;obtain⟨o,X⟩:=Cl E;rw[qAa E]at f;have hvn:=o.n;have hvc:=o.L3;refine Y ?_;refine Zg (vs:=[.agg #[vi d.op,vi d.sl,.slice Ap d.fM.length cp,.slice Ac d.iE.length cc],.agg #[vi c.p,vi c.gl,vi c.gh]]) (Bi (c:=c) (e.inc l) O) ?_;rintro u H3 ⟨G,Q⟩;refine Zz OL (Y ?_);refine Zo (vs:=[.agg #[vi x1,vi x2,.slice K V N,.slice J T M],u]) (Cp (f.inc G) Q O O rfl) (Y ?_);refine Zo (vs:=[.agg #[vi x1,vi x2,.slice K V N,.slice J T M]]) (NB (f.inc G) O O) ?_;rw[JJ o];have g:=l.trans G;refine Y ?_;refine VC (fU Tryz.underlying5) (fU Tryz.underlying3) rfl ?_;rw[V8 (show rY p from⟨O,O⟩)];refine Y ?_;refine HH rfl rfl O ?_;obtain⟨i,C,ei⟩:=PB (n:=d.fM.length) hp.1 O;rw[ei];refine Y ?_;refine Zg (vs:=[.agg #[vi d.op,vi d.sl,.slice Ap d.fM.length cp,.slice Ac d.iE.length cc],vi i]) (NE C val (e.inc g) (aM.inc k g)) ?_;rintro v H4 ⟨S,A1,c1,rfl,s4⟩;refine Y ?_;refine Zg (vs:=[.agg #[vi x1,vi x2,.slice K V N,.slice J T M],vi i]) (NE (b:=kR d c) C o (f.inc (G.trans S)) (aM.inc k (g.trans S))) ?_;rintro v H5 ⟨i5,A2,c2,rfl,s5⟩;have j:=(g.trans S).trans i5;have L:=Fi val o;have pd:0<nB d:=L.pos X;rw[E6 pd,E6 X];have l1:=HV val i;have l2:=HV o i;have sub:∀z∈gapL (kR d c) i,z∈gapL d i:=λz hz=>L.gapL hz;have U:gapL (kR d c) i≠[]:=by obtain⟨x,hx⟩:=qDY X;exact qDi (y5.2 ⟨x,hx,rfl⟩)
 generalize gapL (kR d c) i=m2 at *;generalize gapL d i=m1 at *;obtain⟨D,I,rfl⟩:∃a r,m2=a :: r:=by
  cases m2 with
  | nil=>exact absurd rfl U
  | cons a r=>exact⟨a,r,rfl⟩
 obtain⟨z1,Z,rfl⟩:∃a r,m1=a :: r:=by
  cases m1 with
  | nil=>exact absurd (sub D (by simp)) (by simp)
  | cons a r=>exact⟨a,r,rfl⟩
 obtain⟨e1,e2⟩:=QO sub;have e3:=Gs I D;refine Y ?_;refine Zo (vs:=[.slice A1 (z1 :: Z).length c1]) (IP (s4.inc i5) O) (Y ?_);refine Zo (vs:=[.slice A2 (D :: I).length c2]) (IP s5 O) (Y ?_);refine Zg (vs:=[b.v,.int .u8 q,.agg #[vi (lB z1 Z),vi (lG z1 Z)],.agg #[vi (lB D I),vi (lG D I)],.int .u8 m]) (Fu s ok R (hb.inc j) hq hm ⟨e1,e3,e2⟩ (aM.inc hg j) (aM.inc B j)) ?_;rintro v H6 ⟨i6,rfl⟩;refine Y ?_;refine Zg (vs:=[]) (done (j.trans i6)) ?_;rintro v H7 rfl;refine Y ?_;rfl
end
