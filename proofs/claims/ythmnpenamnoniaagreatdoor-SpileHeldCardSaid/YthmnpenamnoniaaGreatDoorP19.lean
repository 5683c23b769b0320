import Derived.Test.YthmnpenamnoniaaGreatDoorP18
set_option linter.all false
set_option maxHeartbeats 1000000
open Go Go.LL
namespace Go.Proofs
variable{G G' H0 H':Hp}{E1 E2 E3 E:TypeId}{r:Nat}{b:Bk}{pv cv bv v w fv:Value}{l:List Zs}{b':Option Nat}{α:Type}{N:Hp->Prop}
def t4:ZU Tryz.prog 4=some (1,some (vb false),1):=U
def tH:ZU Tryz.prog 31=some (2,some (.agg #[vi 0,vi 0]),16):=U
def UN:ZU Tryz.prog 117=some (6,some (.agg #[vi 0,vi 0,vi 0,vi 0,vi 0,vi 0]),48):=U
abbrev pt(r:Nat):Value:=.pointer (some ⟨r,0,none⟩)
structure Good(b:Bk):Prop where
 bk:EH b
 aF:EJ b
 bJ:WI b
 TG:b.bJ.length<=1000000
 pW:2<=b.aF.length
 y7:0<=b.sl
 HJ:b.sl<=3
 wide:∀i (h:i<b.aF.length),b.aF[i].mh-b.aF[i].ml<3
 ml:∀i (h:i<b.aF.length),Sm b.aF[i].ml
 mh:∀i (h:i<b.aF.length),Sm b.aF[i].mh
def F6(a c e:Nat):Value:=.func (.func 148) #[] #[pt a,pt c,pt e]
structure CK(G:Hp)(bc:List Value)(rb rn ry:Nat)(y:Value)(E1 E2 E3:TypeId):Prop where
 b:G rb=some (.cells bc.toArray E1,true)
 n:G rn=some (.cells #[F6 rb rn ry] E2,true)
 y:G ry=some (.cells #[y] E3,true)
def CK.inc{a:List Value}{rb c e:Nat}{y:Value}(h:CK G a rb c e y E1 E2 E3)(hi:bA G G'):CK G' a rb c e y E1 E2 E3:=⟨hi _ _ h.b,hi _ _ h.n,hi _ _ h.y⟩
def Z7{H:Hp}(e:bA G H)(a:H r=none):G r=none:=by
 cases c:G r with
 | none=>rfl
 | some x=>rw[e r x c]at a;simp at a
def Yr(a:bA G G'){o:Obj}(c:G r=none):bA G (G'.ins r o):=λb x hb=>by rw[Hp.aE _ _ (by rintro rfl;rw[c]at hb;simp at hb)];exact a b x hb
def ZE{H:Hp}{cs:List Value}{p:Bool}(h:H r=some (.cells cs.toArray E,p)):aC H ⟨r,0,none⟩ cs:=⟨rfl,_,_,h,λj a=>by simp[Obj.fT]⟩
def MK{e:Int}{a:Nat}(c:a<=1000):∀r,r<=2 * a+1->∀k∈cF e a r,Sm k.bP
 | 0,_,k,h=>by simp[cF]at h
 | r+1,f,k,h=>by
  rw[cF]at h;split at h
  ·exact MK c r O k h
  rcases DO.1 h with rfl | h
  ·exact⟨by show -100000<=(a:Int)-r;omega,by show(a:Int)-r<=100000;omega⟩
  exact MK c r O k h
def Jo{n c:Nat}(a:c<=1000):∀r,∀k∈bW n c r,Sm k.bP
 | 0,k,h=>by simp[bW]at h
 | r+1,k,h=>by
  rw[bW]at h;rcases qAi.1 h with h | h
  ·exact MK a _ (AT _) k h
  exact Jo a r k h
def ZpO(a:0<=b.sl)(c:b.sl<=1000):∀k∈ZB b,Sm k.bP:=by
 intro k h;rcases DO.1 h with rfl | h
 ·exact⟨by show(-100000:Int)<=0;omega,by show(0:Int)<=100000;omega⟩
 exact Jo O _ k h
section
variable{P:aY}[Tz P][Loud P]
def ZtT{y:Value}{xs:List (List Value)}{I:Nat->Hp->Prop}{S:Hp->Prop}(gd:Good b)(hI:∀n,Up (I n))(hS:Up S)(hN:∀n H,I n H->bK H (.agg #[vi b.op,vi b.sl,pv,cv]) b)
  (hy:∀n (hn:n<xs.length) H,I n H->bR P y (xs[n]).toArray H (λv o=>(v=.bool true/\I (n+1) o)\/(v=.bool false/\S o))) (rb rn ry:Nat) :
  ∀(r:Nat) (m:N4) (rest:List (List Value)) (H G:Hp),r<=b.aF.length->m.Sm->CK G [vi b.op,vi b.sl,pv,cv] rb rn ry y E1 E2 E3->JG G (eS xs I ((bM b r m).map Uq++rest)) H ->
   LL.Za P 148 #[ZD m,vi (b.aF.length-r:Nat),pt rb,pt rn,pt ry] H λv o=>(v=vb true/\JG G (eS xs I rest) o)\/(v=vb false/\JG G S o):=by
 have wE:∀rest H,eS xs I rest H->bK H (.agg #[vi b.op,vi b.sl,pv,cv]) b:=λrest H ⟨p,_,_,h⟩=>hN p H h
 have nV:=gd.bk.le
 intro r
 induction r with
 | zero=>
  intro m rest H G hr hm hf T;rw[bM]at T;refine aI.m (bG WE) rfl ?_;unfold LP;refine Y ?_;refine YG rfl (OL _) λB Z=>?_;have W:=T.new (.cells (ZD m).cells 115) Z;have g5:=Z7 T.inc Z;refine Y ?_;refine ZV (bH t4) (OL _) λM z=>?_;have t:=W.new (.cells (vb false).cells 4) z;have g7:G M=none:=Z7 ((Zk g5).trans W.inc) z;have k9:B≠M:=by rintro rfl;rw[Hp.aD]at z;simp at z
  obtain⟨C,L,a5,a7,t⟩:∃C:Hp,bA G C/\C B=some (.cells m.cells.toArray 115,true)/\C M=some (.cells #[vb false] 4,true)/\JG C (eS xs I ((((ZB b).map λk=>(⟨m,k.bf,k.bP⟩:Zs)).filter (Uh b)).map Uq++rest)) ((H.ins B (.cells (ZD m).cells 115)).ins M (.cells (vb false).cells 4)):=
   ⟨_,Yr (Zk g5) g7,by rw[Hp.aE _ _ k9];exact Hp.aD _ _ _,Hp.aD _ _ _,t⟩
  generalize(H.ins B (.cells (ZD m).cells 115)).ins M (.cells (vb false).cells 4)=H2 at *;have R:∀{q o},JG C (eS xs I q) o->aC o (⟨rb,0,none⟩:Addr) [vi b.op,vi b.sl,pv,cv]/\Zj o pv b.aF:=by intro q o V;obtain⟨vW,wI,e,hp,hc⟩:=wE _ _ (V.up (uP hI));simp only[Value.agg.injEq,qBe,qAD,qBP]at e;obtain⟨_,_,rfl,rfl⟩:=e;exact⟨ZE ((hf.inc (L.trans V.inc)).b),hp⟩
  have AH:=hf.inc L;obtain⟨c1,p1⟩:=R t;refine Y ?_;refine Zg (OL _) rfl (VV (j:=2) c1 rfl) (Y ?_);refine ZK p1 rfl ?_;refine OJ (λh1=>?_) (λh1=>?_)
  ·exact absurd h1 O
  refine Y ?_;refine ZL c1 (Y ?_);refine Y8 rfl rfl (Y ?_);obtain⟨A,cp,hA,_⟩:=p1;subst hA;refine u7 OL rfl (fM gd.y7 (by have:=gd.HJ;omega) O) (λx hx=>by obtain⟨k,_,rfl⟩:=qAj.1 hx;rfl)
   (λn o=>JG C (eS xs I (((((ZB b).drop n).map λk=>(⟨m,k.bf,k.bP⟩:Zs)).filter (Uh b)).map Uq++rest)) o)
   (λe o=>e=.ret/\JG G S o/\aC o ⟨M,0,none⟩ [vb false]) t (λn=>JG.closed) (λe o J hc ⟨h1,h2,h3⟩=>⟨h1,JG.closed _ _ hc h2,h3.inc (Vb _ _)⟩) (λ_ _ _=>trivial) ?_ ?_ ?_
  ·intro n hn H3 f;have qT:n<(ZB b).length:=by simpa using hn
   obtain⟨k,hk⟩:∃k,k=(ZB b)[n]:=⟨_,rfl⟩;have zL:((ZB b).map UP)[n]=[YC k]:=by rw[qBQ,hk];rfl
   rw[zL];rw[xY qT,<-hk,qBh]at f;obtain⟨x,hx⟩:∃x:Zs,x=⟨m,k.bf,k.bP⟩:=⟨_,rfl⟩;rw[<-hx]at f;have Wm:CG x:=by subst hx;refine⟨hm,?_⟩;have:=ZpO gd.y7 (by have:=gd.HJ;omega) k (by rw[hk];exact qAa qT);exact this
   refine Y ?_;refine ZV (bH tH) (OL _) λr9 rR=>Y ?_;refine Yz (v:=YC k) (bH tH) (cs:=[vi 0,vi 0]) rfl rfl (Hp.aD _ _ _) rfl rfl rfl (OL _) ?_;rw[YD];have D:=(f.new (.cells (YC k).cells 31) rR).of (λ_ h=>h) (G':=C) (Zk (Z7 f.inc rR));refine Y ?_;refine Z5 (cs:=m.cells) (OL _) rfl (ZE (D.inc _ _ a5)) rfl (Y ?_);refine ZL (cs:=[vi k.bf,vi k.bP]) ZW (Y ?_);refine ZV (bH UN) (OL _) λtP qR=>Y ?_;refine Yz (v:=ZP x) (bH UN) (cs:=[vi 0,vi 0,vi 0,vi 0,vi 0,vi 0]) rfl (by rw[hx];rfl) (Hp.aD _ _ _) rfl rfl rfl (OL _) ?_;rw[YD];have K:=(D.new (.cells (ZP x).cells 117) qR).of (λ_ h=>h) (G':=C) (Zk (Z7 D.inc qR));have DJ:aC ((H3.ins r9 (.cells (YC k).cells 31)).ins tP (.cells (ZP x).cells 117)) ⟨tP,0,none⟩ x.cells:=ZW;generalize(H3.ins r9 (.cells (YC k).cells 31)).ins tP (.cells (ZP x).cells 117)=H5 at *;refine Y ?_;refine Z5 (OL _) rfl (R K).1 rfl (Y ?_);refine ZL DJ (Y ?_);refine Zf (Zqz (wE _ _ (K.up (uP hI))) gd.bk Wm gd.bJ gd.TG (OL _)) ?_;rintro v H6 ⟨SE,rfl⟩;have X:=K.sub SE;have J8:=DJ.sub SE;refine OJ (λh2=>?_) (λh2=>?_)
   ·rw[qBv,BY h2,qBh,qBk]at X;refine Y ?_;refine Zg (OL _) rfl (ZE (X.inc _ _ AH.y)) (Y ?_);refine ZL J8 (Y ?_);refine Yp (vs:=[ZP x]) rfl rfl (JG.call (λH h=>eS.call (S:=S) hy h) X) ?_;rintro v H7 ⟨Hc,F,rfl,q1,q2,(⟨rfl,q3⟩ | ⟨rfl,q3⟩)⟩
    ·refine Y ?_;exact⟨Hc,F,rfl,q1,q2,q3⟩
    have SQ:JG C S (Hc.join F):=⟨Hc,F,rfl,q1,q2,q3⟩;refine Y ?_;refine Yo (bH t4) rfl rfl (SQ.inc _ _ a7) rfl rfl (OL _) (Y ?_);exact⟨rfl,(SQ.put _ a7).of (λ_ h=>h) (Yr L g7),ZW⟩
   rw[qBv,bY (by simp[h2])]at X;refine Y ?_;exact X
  ·intro H3 f;rw[qAe,qCE,qBJ,List.filter_nil,qBJ,qAn]at f;refine Y ?_;refine Yo (bH t4) rfl rfl (f.inc _ _ a7) rfl rfl (OL _) (Y ?_);refine UY (vs:=[vb true]) rfl (OL _) ⟨⟨_,rfl,ZW⟩,trivial⟩ ?_;exact .inl ⟨rfl,(f.put _ a7).of (λ_ h=>h) (Yr L g7)⟩
  rintro e H3 he ⟨rfl,f,SX⟩;refine Y ?_;refine UY (vs:=[vb false]) rfl (OL _) ⟨⟨_,rfl,SX⟩,trivial⟩ ?_;exact .inr ⟨rfl,f⟩
 | succ r ih=>
  intro m rest H G hr hm hf T;rw[bM]at T;have hi:b.aF.length-(r+1)<b.aF.length:=O;have nW:((b.aF.length-(r+1):Nat):Int)+1=(b.aF.length-r:Nat):=O;generalize b.aF.length-(r+1)=i at *;have pO:i<4:=O;have I1:Zx b i=b.aF[i]:=Z8 hi _;rw[I1]at T;obtain⟨q1,q2⟩:=gd.ml i hi;obtain⟨q3,q4⟩:=gd.mh i hi;refine aI.m (bG WE) rfl ?_;unfold LP;refine Y ?_;refine YG rfl (OL _) λB Z=>?_;have W:=T.new (.cells (ZD m).cells 115) Z;have g5:=Z7 T.inc Z;refine Y ?_;refine ZV (bH t4) (OL _) λM z=>?_;have t:=W.new (.cells (vb false).cells 4) z;have g7:G M=none:=Z7 ((Zk g5).trans W.inc) z;have k9:B≠M:=by rintro rfl;rw[Hp.aD]at z;simp at z
  obtain⟨C,L,a5,a7,t⟩:∃C:Hp,bA G C/\C B=some (.cells m.cells.toArray 115,true)/\C M=some (.cells #[vb false] 4,true)/\JG C (eS xs I ((eC (λv=>bM b r (m.put i v)) b.aF[i].mh (b.aF[i].mh-b.aF[i].ml+1).toNat).map Uq++rest)) ((H.ins B (.cells (ZD m).cells 115)).ins M (.cells (vb false).cells 4)):=
   ⟨_,Yr (Zk g5) g7,by rw[Hp.aE _ _ k9];exact Hp.aD _ _ _,Hp.aD _ _ _,t⟩
  generalize(H.ins B (.cells (ZD m).cells 115)).ins M (.cells (vb false).cells 4)=H2 at *;have R:∀{G' o q},bA G G'->JG G' (eS xs I q) o->aC o ((⟨rb,0,none⟩:Addr).add 2) [pv]/\Zj o pv b.aF:=by intro G' o q hG' V;obtain⟨vW,wI,e,hp,hc⟩:=wE _ _ (V.up (uP hI));simp only[Value.agg.injEq,qBe,qAD,qBP]at e;obtain⟨_,_,rfl,rfl⟩:=e;exact⟨VV (ZE ((hf.inc (hG'.trans V.inc)).b)) rfl,hp⟩
  obtain⟨c1,p1⟩:=R L t;refine Y ?_;refine Z9 c1 (Y ?_);refine ZK p1 rfl ?_;refine OJ (λh1=>?_) (λh1=>?_);rotate_left
  ·exact absurd O h1
  refine Y ?_;refine Z9 c1 (Y ?_);refine Zo i p1 hi λa ha=>Y ?_;refine Zg (OL _) rfl (VV (j:=0) ha rfl) (Y ?_);generalize iD:(b.aF[i].mh-b.aF[i].ml+1).toNat=Q at t;refine Z4 (α:=N4×Hp) Q (λk s o=>bA G s.2/\s.2 B=some (.cells s.1.cells.toArray 115,true)/\s.2 M=some (.cells #[vb false] 4,true)/\(∀v,s.1.put i v=m.put i v) /\
    JG s.2 (eS xs I ((eC (λv=>bM b r (m.put i v)) b.aF[i].mh (Q-k)).map Uq++rest)) o)
   (λk s=>[(1,vi i),(2,pt rb),(3,pt rn),(4,pt ry),(5,pt B),(7,pt M),(8,vi (b.aF[i].ml+k))]) (λ_ _=>[]) (m,C) ⟨L,a5,a7,λ_=>rfl,t⟩ ⟨rfl,rfl,rfl,rfl,rfl,rfl,by simp[aL.set],trivial⟩ trivial ?_
  rintro k ⟨m',G3⟩ H3 hk ⟨DF,KE,DL,zX,f⟩;simp only at DF KE DL zX f;obtain⟨c3,p3⟩:=R DF f;refine Y ?_;refine Z9 c3 (Y ?_);refine Zo i p3 hi λa ha=>Y ?_;refine Zg (OL _) rfl (VV (j:=1) ha rfl) ?_;refine OJ (λh2=>?_) (λh2=>?_)
  ·refine Y ?_;refine Kt (bL Od) (bH t3) rfl rfl pO (Y ?_);have zV:ZZ m'.cells (0+i * 1) [vi (b.aF[i].ml+k)]=(m.put i (b.aF[i].ml+k)).cells:=by rw[xD _ _ pO,zX]
   have uE:(⟨B,0,none⟩:Addr).add (i * 1)=⟨B,i * 1,none⟩:=by rw[vP rfl,qAP]
   rw[uE];have D:=f.put (.cells (m.put i (b.aF[i].ml+k)).cells.toArray 115) KE;have JW:bA G (G3.ins B (.cells (m.put i (b.aF[i].ml+k)).cells.toArray 115)):=Yr DF g5;have CY:(m.put i (b.aF[i].ml+k)).Sm:=by
    intro j T;rw[N4.eD _ _ T];split
    ·exact⟨O,O⟩
    exact hm j T
   refine AQ (cs:=m'.cells) (bH t3) rfl rfl (f.inc _ _ KE) rfl (by show i * 1+1<=4;omega) rfl (OL _) ?_;have e5:ZZ m'.cells (i * 1) (Value.cells (vi (b.aF[i].ml+k))).toList=(m.put i (b.aF[i].ml+k)).cells:=by rw[<-zV,qAP];rfl
   rw[e5];have TL:(G3.ins B (.cells (m.put i (b.aF[i].ml+k)).cells.toArray 115)) B=some (.cells (m.put i (b.aF[i].ml+k)).cells.toArray 115,true):=Hp.aD _ _ _;have KD:(G3.ins B (.cells (m.put i (b.aF[i].ml+k)).cells.toArray 115)) M=some (.cells #[vb false] 4,true):=by rw[Hp.aE _ _ (qAm k9)];exact DL
   generalize G3.ins B (.cells (m.put i (b.aF[i].ml+k)).cells.toArray 115)=G4 at *;generalize H3.ins B (.cells (m.put i (b.aF[i].ml+k)).cells.toArray 115)=H4 at *;have SW:=hf.inc JW;have e6:Q-k=(Q-(k+1))+1:=O;have e7:b.aF[i].mh-((Q-(k+1):Nat):Int)=b.aF[i].ml+k:=O;rw[e6,eC,qBi,qAS,e7]at D;refine Y ?_;refine Zg (OL _) rfl (ZE (D.inc _ _ SW.n)) (Y ?_);refine Z5 (OL _) rfl (ZE (D.inc _ _ TL)) rfl (Y ?_);rw[nW];refine Yp rfl rfl (Yg U (ih (m.put i (b.aF[i].ml+k)) _ H4 G4 O CY SW D)) ?_;rintro v H5 (⟨rfl,K⟩ | ⟨rfl,K⟩)
   ·refine Y ?_;refine⟨(⟨k+1,O⟩,(m.put i (b.aF[i].ml+k),G4)),cZ O,⟨JW,TL,KD,λv=>N4.hO _ _ _,K⟩,⟨rfl,rfl,rfl,rfl,rfl,rfl,?_,trivial⟩,trivial,rfl⟩;show some (vi (b.aF[i].ml+k+1))=some (vi (b.aF[i].ml+(k+1:Nat)));congr 2;omega
   refine Y ?_;refine Yo (bH t4) rfl rfl (K.inc _ _ KD) rfl rfl (OL _) (Y ?_);refine UY (vs:=[vb false]) rfl (OL _) ⟨⟨_,rfl,ZW⟩,trivial⟩ ?_;exact .inr ⟨rfl,(K.put _ KD).of (λ_ h=>h) (Yr JW g7)⟩
  have e6:Q-k=0:=O;rw[e6,eC,qBJ,qAn]at f;refine Y ?_;refine Yo (bH t4) rfl rfl (f.inc _ _ DL) rfl rfl (OL _) (Y ?_);refine UY (vs:=[vb true]) rfl (OL _) ⟨⟨_,rfl,ZW⟩,trivial⟩ ?_;exact .inl ⟨rfl,(f.put _ DL).of (λ_ h=>h) (Yr DF g7)⟩
end
def Qa:ZU Tryz.prog 235=some (1,some .nilFunc,8):=U
def ZoW:(⟨0,0,0,0⟩:N4).Sm:=by
 intro j a;match j,a with
 | 0,_=>exact⟨by decide,by decide⟩
 | 1,_=>exact⟨by decide,by decide⟩
 | 2,_=>exact⟨by decide,by decide⟩
 | 3,_=>exact⟨by decide,by decide⟩
section
variable{P:aY}[Tz P][Loud P]
def fQ(Q:Good b) :
  OE P (.func (.func 90) #[.agg #[vi b.op,vi b.sl,pv,cv]] #[]) (λH=>bK H (.agg #[vi b.op,vi b.sl,pv,cv]) b) ((Zd b).map Uq):=by
 rintro y I S H ⟨yf,X,Z,D⟩ F J R T o;have C:y.cells=#[y]:=by rw[D];rfl
 refine Yg U ?_;refine aI.m (bG c87) rfl ?_;unfold QZ;generalize B:(Zd b).map Uq=V at *;have s:JG .nil (eS V I ((Zd b).map Uq++[])) H:=⟨H,.nil,(Hp.dF H).symm,Hp.dI H,λb x h=>by simp[Hp.nil]at h,by rw[qAw,B];exact .start o⟩;refine Y ?_;refine YG rfl (OL _) λf A=>?_;have t:=s.new (.cells (Value.agg #[vi b.op,vi b.sl,pv,cv]).cells 113) A;refine Y ?_;refine YG rfl (OL _) λg i=>?_;have u:=t.new (.cells y.cells 142) i;refine Y ?_;refine ZV (bH Qa) (OL _) λe c=>?_;have z:=u.new (.cells (Value.nilFunc).cells 235) c;have L:g≠f:=by rintro rfl;rw[Hp.aD]at i;simp at i
 have M:e≠g:=by rintro rfl;rw[Hp.aD]at c;simp at c
 have O:e≠f:=by rintro rfl;rw[Hp.aE _ _ (qAm L),Hp.aD]at c;simp at c
 refine Y ?_;refine Y8 rfl rfl (Y ?_);refine Yo (v:=F6 f e g) (bH Qa) rfl rfl (Hp.aD _ _ _) rfl rfl (OL _) ?_;have k:=z.put (.cells #[F6 f e g] 235) (Hp.aD _ _ _);have K:CK ((((Hp.nil.ins f (.cells (Value.agg #[vi b.op,vi b.sl,pv,cv]).cells 113)).ins g (.cells y.cells 142)).ins e (.cells (Value.nilFunc).cells 235)).ins e (.cells #[F6 f e g] 235)) [vi b.op,vi b.sl,pv,cv] f e g y 113 235 142:=by
  refine⟨?_,Hp.aD _ _ _,?_⟩
  ·rw[Hp.aE _ _ (qAm O),Hp.aE _ _ (qAm O),Hp.aE _ _ (qAm L)];exact Hp.aD _ _ _
  rw[Hp.aE _ _ (qAm M),Hp.aE _ _ (qAm M),<-C];exact Hp.aD _ _ _
 refine Y ?_;refine Zg (OL _) rfl (ZE (k.inc _ _ K.n)) (Y ?_);have a:=ZtT Q F J R T f e g b.aF.length ⟨0,0,0,0⟩ [] _ _ (AT _) ZoW K k;rw[qDa]at a;refine Yp rfl rfl (Yg U a) ?_;rintro v W (⟨rfl,q⟩ | ⟨rfl,q⟩)
 ·refine Y ?_;exact .inl (q.up (uP F)).stop
 refine Y ?_;exact .inr (q.up J)
theorem MO{n:Nat}(a:n<(l.map Uq).length):(l.map Uq)[n]=[ZP (l[n]'(by simpa using a))]:=by rw[qBQ];rfl
def YR(b:Bk):Bool:=!(Zd b).isEmpty
def NB{H:Hp}(hb:bK H bv b)(M:Good b):LL.Za P 115 #[bv] H λv a=>bA H a/\v=vb (YR b):=by
 have u:=hb;obtain⟨pv,cv,rfl,T,I⟩:=hb;refine aI.m (bG Zyh) rfl ?_;unfold Eh;refine Y ?_;refine YG rfl (OL _) λR j=>Y ?_;refine ZV (bH t4) (OL _) λp c=>?_;have z:bA H ((H.ins R (.cells (Value.agg #[vi b.op,vi b.sl,pv,cv]).cells 113)).ins p (.cells (vb false).cells 4)):=(Zk j).trans (Zk c);have F:H p=none:=Z7 (Zk j) c;refine Y ?_;refine Z5 (cs:=[vi b.op,vi b.sl,pv,cv]) (OL _) rfl (aC.inc (ZW (cs:=[vi b.op,vi b.sl,pv,cv])) (Zk c)) rfl (Y ?_);refine Y8 rfl rfl (Y ?_);refine u7 OL rfl (fQ M) (λx Q=>by obtain⟨k,_,rfl⟩:=qAj.1 Q;rfl)
  (λn a=>n=0/\bA H a/\a p=some (.cells #[vb false] 4,true)) (λe a=>e=.ret/\bA H a/\aC a ⟨p,0,none⟩ [vb true]/\YR b=true) ⟨rfl,z,Hp.aD _ _ _⟩
  (λn a J I ⟨q,s,t⟩=>⟨q,s.trans (Vb _ _),Hp.aJ t⟩) (λe a J I ⟨q,s,t,O⟩=>⟨q,s.trans (Vb _ _),t.inc (Vb _ _),O⟩) (λn a h=>u.inc h.2.1) ?_ ?_ ?_
 ·rintro n o C ⟨rfl,g,i⟩;have f:YR b=true:=by
   rw[qAe]at o;cases hh:Zd b with
   | nil=>rw[hh]at o;simp at o
   | cons x l=>rw[YR,hh];rfl
  rw[MO o];refine Y ?_;refine Yo (bH t4) rfl rfl i rfl rfl (OL _) (Y ?_);exact⟨rfl,Yr g F,ZW,f⟩
 ·rintro C ⟨D,g,i⟩;have A:YR b=false:=by rw[qAe]at D;rw[YR,qAo D];rfl
  refine Y ?_;refine Yo (bH t4) rfl rfl i rfl rfl (OL _) (Y ?_);refine UY (vs:=[vb false]) rfl (OL _) ⟨⟨_,rfl,ZW⟩,trivial⟩ ?_;exact⟨Yr g F,by rw[A];rfl⟩
 rintro e C S ⟨rfl,g,i,L⟩;refine Y ?_;refine UY (vs:=[vb true]) rfl (OL _) ⟨⟨_,rfl,i⟩,trivial⟩ ?_;exact⟨g,by rw[L];rfl⟩
end
def Av{n:Nat}:∀{l:List gA},nI n l=0->∀c∈l,(0<=c.p/\c.p<n)/\(-199<=c.gl/\c.gl<=c.gh/\c.gh<=199)
 | [],_,c,h=>by simp at h
 | a :: l,h,c,e=>by
  rw[nI]at h;split at h
  ·simp at h
  split at h
  ·simp at h
  rcases DO.1 e with rfl | e
  ·exact⟨O,O⟩
  exact Av h c e
structure Zw(b:Bk):Prop where
 op:0<=b.op/\b.op<=99
 sl:0<=b.sl/\b.sl<=3
 n:2<=b.aF.length/\b.aF.length<=4
 aF:∀i (h:i<b.aF.length),(0<=b.aF[i].ml/\b.aF[i].ml<=b.aF[i].mh/\b.aF[i].mh<=99)/\b.aF[i].mh-b.aF[i].ml<3/\(0<=b.aF[i].bl/\b.aF[i].bl<=b.aF[i].bh/\b.aF[i].bh<=199)/\(0<=b.aF[i].w/\b.aF[i].w<=199)
 lA:b.bJ.length<=3
 bJ:∀c∈b.bJ,(0<=c.p/\c.p<b.aF.length)/\(-199<=c.gl/\c.gl<=c.gh/\c.gh<=199)
def Y3(h:ZC b=0):Zw b:=by
 unfold ZC at h;split at h
 ·rename_i c;exact absurd h c
 rename_i c;split at h
 ·rename_i a;exact absurd h a
 rename_i a;have c:VG b=0:=IF c;have a:Y4 b=0:=IF a;have g:(0<=b.op/\b.op<=99)/\(0<=b.sl/\b.sl<=3):=by
  unfold VG at c;split at c
  ·assumption
  simp at c
 unfold Y4 at a;split at a
 ·simp at a
 rename_i j;have k:b.aF.all lQ=true:=by
  split at a
  ·assumption
  simp at a
 have f:2<=b.aF.length/\b.aF.length<=4:=IF j;unfold VU at h;split at h
 ·simp at h
 refine⟨g.1,g.2,f,λi m=>?_,O,Av h⟩;have:=qAp.1 k b.aF[i] (qAa m);simp only[lQ,oR,qAv]at this;exact⟨this.1.1.1,this.1.1.2,this.1.2,this.2⟩
def Zw.eI(v:Zw b):Good b where
 bk:=⟨⟨by have:=v.op;omega,by have:=v.op;omega⟩,v.n.2⟩
 aF:=⟨λi h=>by obtain⟨_,_,e,_⟩:=v.aF i h;exact⟨O,O⟩,λi h=>by obtain⟨_,_,e,_⟩:=v.aF i h;exact⟨O,O⟩,λi h=>by obtain⟨_,_,_,j⟩:=v.aF i h;exact⟨O,O⟩⟩
 bJ:=λc f=>by have a:=(v.bJ c f).1;have g:=v.n.2;exact⟨a.1,O⟩
 TG:=by have:=v.lA;omega
 pW:=v.n.1
 y7:=v.sl.1
 HJ:=v.sl.2
 wide:=λi h=>(v.aF i h).2.1
 ml:=λi h=>by obtain⟨a,_⟩:=v.aF i h;exact⟨O,O⟩
 mh:=λi h=>by obtain⟨a,_⟩:=v.aF i h;exact⟨O,O⟩
def Ci(a:Int)(c:Nat):∀r,(cF a c r).length<=r
 | 0=>by simp[cF]
 | r+1=>by
  rw[cF];have:=Ci a c r;split
  ·omega
  simp;omega
def Jm(n a:Nat):∀r,(bW n a r).length<=r * (2 * a+1)
 | 0=>by simp[bW]
 | r+1=>by rw[bW,IN];have e:=Ci ((n:Int)-(r+1:Nat)) a (2 * a+1);have f:=Jm n a r;have c:=qBU r (2 * a+1);rw[Nat.succ_eq_add_one]at c;omega
def NA(v:Zw b):(ZB b).length<=22:=by obtain⟨f,g⟩:=v.sl;obtain⟨h,i⟩:=v.n;have:=Jm b.aF.length b.sl.toNat (b.aF.length-1);have e:(b.aF.length-1) * (2 * b.sl.toNat+1)<=3 * 7:=qBN O O;simp only[ZB,qAI];omega
def Qu{f:Int->List Zs}{hi:Int}{k:Nat}(a:∀v,(f v).length<=k):∀c,(eC f hi c).length<=c * k
 | 0=>by simp[eC]
 | c+1=>by rw[eC,IN,qBU];have:=a (hi-c);have:=Qu (hi:=hi) a c;omega
def De{b:Bk}(v:Zw b):∀r,r<=b.aF.length->∀m,(bM b r m).length<=3 ^ r * 22
 | 0,_,m=>by rw[bM];have c:=qBc (Uh b) ((ZB b).map λk=>(⟨m,k.bf,k.bP⟩:Zs));have g:=NA v;rw[qAe]at c;omega
 | r+1,i,m=>by rw[bM];have c:=Qu (f:=λv=>bM b r (m.put (b.aF.length-(r+1)) v)) (hi:=(Zx b (b.aF.length-(r+1))).mh) (λw=>De v r O _) ((Zx b (b.aF.length-(r+1))).mh-(Zx b (b.aF.length-(r+1))).ml+1).toNat;have hi:b.aF.length-(r+1)<b.aF.length:=O;have e:Zx b (b.aF.length-(r+1))=b.aF[b.aF.length-(r+1)]:=Z8 hi _;obtain⟨_,h,_⟩:=v.aF _ hi;rw[e]at c ⊢;refine qAE c ?_;rw[qDb,Nat.mul_comm (3 ^ r) 3,Nat.mul_assoc];exact qBz _ O
def V6(v:Zw b):(Zd b).length<=1782:=by have c:=De v b.aF.length (AT _) ⟨0,0,0,0⟩;have e:3 ^ b.aF.length<=3 ^ 4:=qAZ O v.n.2;unfold Zd;omega
def Ar{H:Hp}{b:Option Nat}(g:bA H0 H)(f:∀r,b=some r->H0 r=none)(c:pV H H' b b'):bA H0 H':=
 λd y a=>c.keep d y (g d y a) (λe=>by rw[f d e]at a;simp at a)
def cS.o8[Enc α]{H:Hp}{l:List α}{b:Option Nat}(f:bA H0 H)(h:cS H0 H E v l b)(c:pV H H' b b'):∀r,b'=some r->H0 r=none:=by
 rcases c.new with rfl | ⟨r,rfl,a⟩
 ·exact h.fresh
 intro g e;obtain rfl:=iN e;exact Z7 f a
def cS.inc[Enc α]{H:Hp}{l:List α}{b:Option Nat}(h:cS H0 H E v l b)(hi:bA H H'):cS H0 H' E v l b:=⟨h.own.sub λc y _ a=>hi c y a,h.fresh⟩
section
variable{P:aY}{H:Hp}{d:Option Nat}{next:aL->Hp->Prop}{σ:aL}{x y:Operand}
def YN[Enc α]{I p T:TypeId}{i:Nat}{K s:Value}{l l':List α}{b:Option Nat}(D:P.toProgram.underlying I=some (.slice E))(o:P.toProgram.underlying p=some (.slice E))(J:TI P.toProgram E (Enc.sz α) K i)(F:K.cells.size=Enc.sz α)(B:0<Enc.sz α)
  (q:bA H0 H) (f:cS H0 H E s l b) (Q:Zj H w l') (L:((Zh l').all Value.bS)=true) (j:l.length+l'.length<=1000000000) (k:i<=1000) (u:σ.get x=some s) (z:σ.get y=some w) (n:P.still H.gh=false)
  (h:∀g H' b',bA H0 H'->cS H0 H' E g (l++l') b'->pV H H' b b'->next (σ.set d g) H'):(aR.raw (.call { callee:=.builtin .append,args:=#[x,y],argTypes:=#[I,p] }) T).m P d next σ H:=by
 obtain⟨A,c,rfl,M⟩:=Q;by_cases C:l'=[]
 ·subst C;refine CA D o J F B u z f.own (m:=0) (xs:=[]) (.inl ⟨rfl,A,c,rfl⟩) (by simp) rfl j k n λg H' b' t e=>?_;exact h g H' b' (Ar q f.fresh e) ⟨by simpa using t,f.o8 q e⟩ e
 obtain⟨a,rfl,O⟩:=M C;refine CA D o J F B u z f.own (m:=l'.length) (xs:=Zh l') (.inr ⟨a,c,rfl,O⟩) (UC l') L j k n λg H' b' t e=>?_;refine h g H' b' (Ar q f.fresh e) ⟨?_,f.o8 q e⟩ e;rw[xZ,IN];exact t
end
def Qk:Tryz.prog.underlying 135=some (.slice 117):=U
def Zpu:ZU Tryz.prog 135=some (1,some (.slice none 0 0),24):=U
section
variable{P:aY}[Tz P][Loud P]{H:Hp}
def CF(hb:bK H bv b)(M:ZY H)(Q:b.aF.length<=1000000)(q:b.bJ.length<=1000000):LL.Za P 32 #[bv] H λv f=>bA H f/\v=.tuple #[vi (if ZC b=0 then(Zd b).length else 0),vi (ZC b)]:=by
 have j:=hb;obtain⟨pv,cv,rfl,U,C⟩:=hb;refine aI.m (bG c19) rfl ?_;unfold RU;refine Y ?_;refine YG rfl (OL _) λz t=>?_;have a:=Zk (o:=.cells (Value.agg #[vi b.op,vi b.sl,pv,cv]).cells 25) t;have c1:aC (H.ins z (.cells (Value.agg #[vi b.op,vi b.sl,pv,cv]).cells 25)) ⟨z,0,none⟩ [vi b.op,vi b.sl,pv,cv]:=ZW;generalize H.ins z (.cells (Value.agg #[vi b.op,vi b.sl,pv,cv]).cells 25)=F at *;refine Y ?_;refine ZL c1 (Y ?_);refine Zl (U9 (j.inc a) (aC.inc M a) Q q (OL _)) ?_;refine OJ (λg=>?_) (λg=>?_)
 ·refine Y ?_;exact⟨a,by rw[bY g];rfl⟩
 have val:=Y3 g;have D:=V6 val;refine Y ?_;refine ZV (bH t3) (OL _) λS c=>?_;have O:=Zk (o:=.cells (vi 0).cells 3) c;refine Y ?_;refine Yo (bH t3) rfl rfl (Hp.aD _ _ _) rfl rfl (OL _) ?_;rw[YD];refine Y ?_;refine Z5 (OL _) rfl (c1.inc (Zk c)) rfl (Y ?_);refine Y8 rfl rfl (Y ?_);refine u7 OL rfl (fQ (pv:=pv) (cv:=cv) val.eI) (λx R=>by obtain⟨k,_,rfl⟩:=qAj.1 R;rfl)
  (λn f=>n<=(Zd b).length/\bA F f/\f S=some (.cells #[vi n] 3,true)) (λe f=>False) ⟨qBg _,Zk c,Hp.aD _ _ _⟩
  (λn f J C ⟨g,K,L⟩=>⟨g,K.trans (Vb _ _),Hp.aJ L⟩) (λe f J C h=>h) (λn f h=>(j.inc a).inc h.2.1) ?_ ?_ ?_
 ·rintro n s B ⟨I,p,i⟩;rw[MO s];rw[qAe]at s;refine Y ?_;refine Zg (OL _) rfl (ZE (cs:=[vi n]) i) (Y ?_);refine Yo (bH t3) rfl rfl i rfl rfl (OL _) (Y ?_);exact⟨s,Yr p c,Hp.aD _ _ _⟩
 ·rintro B ⟨I,p,i⟩;rw[qAe]at i;refine Y ?_;refine Zg (OL _) rfl (ZE (cs:=[vi (Zd b).length]) i) (Y ?_);exact⟨a.trans p,by rw[BY g,g];rfl⟩
 rintro e B T h;exact h.elim
end
def wQ(b:Bk)(pv cv w:Value):Value:=.agg #[vi b.op,vi b.sl,pv,cv,w]
def LR:Value:=.agg #[vi 0,vi 0,.slice none 0 0,.slice none 0 0,.slice none 0 0]
def Zy(b:Bk)(a:Bool):Int:=if ZC b≠0 then ZC b else if a=false then 6 else if(Zd b).length=0 then 9 else 0
section
variable{P:aY}[Tz P][Loud P]{H:Hp}
def ZAF(T:OE P fv N (l.map Uq))(hN:∀H',bA H H'->N H')(hl:l.length<=1000000):LL.Za P 185 #[.slice none 0 0,fv] H λv H'=>bA H H'/\∃a,cS H H' 117 v l a:=by
 refine aI.m (bG Zxx) rfl ?_;unfold Gi;refine Y ?_;refine YG rfl (OL _) λt B=>Y ?_;refine u7 OL rfl T (λx hx=>by obtain⟨k,_,rfl⟩:=qAj.1 hx;rfl)
  (λn H'=>bA H H'/\∃v a,H' t=some (.cells #[v] 135,true)/\cS H H' 117 v (l.take n) a/\a≠some t) (λe H'=>False) ⟨Zk B,_,none,Hp.aD _ _ _,.nil H _ 117,by simp⟩
  (λn H' J S ⟨h1,v,a,R,h3,h4⟩=>⟨h1.trans (Vb _ _),v,a,Hp.aJ R,h3.inc (Vb _ _),h4⟩) (λe H' J S h=>h) (λn H' h=>hN _ h.1) ?_ ?_ ?_
 ·rintro n U F ⟨I,v,a,L,u,Q⟩;rw[MO U];rw[qAe]at U;have j:l.take (n+1)=l.take n++[l[n]]:=by rw[iO U]
  generalize l[n]=x at *;have R:H t=none:=B;refine Y ?_;refine ZV (bH UN) (OL _) λW i=>Y ?_;refine Yz (v:=ZP x) (bH UN) (cs:=[vi 0,vi 0,vi 0,vi 0,vi 0,vi 0]) rfl rfl (Hp.aD _ _ _) rfl rfl rfl (OL _) ?_;rw[YD];have K:=I.trans (Zk (o:=.cells (ZP x).cells 117) i);have g:=Zk (o:=.cells (ZP x).cells 117) i _ _ L;have M:=u.ins (o:=.cells (ZP x).cells 117) i;have c5:aC (F.ins W (.cells (ZP x).cells 117)) ⟨W,0,none⟩ x.cells:=ZW;generalize F.ins W (.cells (ZP x).cells 117)=H4 at *;refine Y ?_;refine Zg (OL _) rfl (ZE (cs:=[v]) g) (Y ?_);refine ZL c5 (Y ?_);refine Z0 (cs:=x.cells) (OL _) rfl λr6 f=>Y ?_;have hv1:v.cells=#[v]/\Value.bS v=true:=by obtain⟨_,⟨e,_⟩ | ⟨_,_,_,_,e,_⟩⟩:=u.own<;>(subst e;exact⟨rfl,rfl⟩)
  refine YN (l':=[x]) (bL Qk) (bL Qk) (bH UN) rfl (by decide) (K.trans (Zk f)) (M.ins f) (YJ (l:=[x])) rfl (by simp;omega) O rfl rfl (OL _) λD H6 b' k1 V Z=>?_;have g6:H6 t=some (.cells #[v] 135,true):=Z.keep t _ (Zk f _ _ g) (λe=>Q e);have C:D.cells=#[D]/\Value.bS D=true:=by obtain⟨_,⟨e,_⟩ | ⟨_,_,_,_,e,_⟩⟩:=V.own<;>(subst e;exact⟨rfl,rfl⟩)
  have A:b'≠some t:=by
   rcases Z.new with rfl | ⟨q,rfl,X⟩
   ·exact Q
   rintro e;obtain rfl:=iN e;rw[Zk f _ _ g]at X;simp at X
  refine Y ?_;refine Yo (v:=D) (bH Zpu) rfl rfl g6 C.1 C.2 (OL _) (Y ?_);refine⟨Yr k1 R,D,b',Hp.aD _ _ _,?_,A⟩;rw[j];refine⟨V.own.sub λc z e S=>?_,V.fresh⟩;rw[Hp.aE _ _ (by rintro rfl;exact A e)];exact S
 ·rintro F ⟨I,v,a,L,u,Q⟩;rw[qAe,qAh]at u;refine Y ?_;refine Zg (OL _) rfl (ZE (cs:=[v]) L) (Y ?_);exact⟨I,a,u⟩
 rintro e F he h;exact h.elim
def ZAx(a:OE P fv N (l.map Uq))(e:∀H',bA H H'->N H')(f:l.length<=1000000):LL.Za P 134 #[fv] H λv H'=>bA H H'/\∃c,cS H H' 117 v l c:=by refine aI.m (bG ZxN) rfl ?_;unfold Ie;refine Y ?_;refine Zf (ZAF a e f) ?_;rintro v H' h;refine Y ?_;exact h
def vD{fB:Bool}(hb:bK H bv b)(F:ZY H)(J:b.aF.length<=1000000)(k:b.bJ.length<=1000000)(D:bR P fv #[bv] H λv a=>H=a/\v=vb fB) :
  LL.Za P 64 #[bv,fv] H λv a=>bA H a/\((Zy b fB≠0/\v=.tuple #[LR,vi (Zy b fB)])\/(Zy b fB=0/\∃pv cv w j,bv=.agg #[vi b.op,vi b.sl,pv,cv]/\v=.tuple #[wQ b pv cv w,vi 0]/\cS H a 117 w (Zd b) j)):=by
 have g:=hb;obtain⟨pv,cv,rfl,p,o⟩:=hb;have dS:∀{α:Type} [Enc α] {v:Value} {l:List α},Zj H v l->v.cells=#[v]/\Value.bS v=true:=λh=>by obtain⟨A,c,rfl,_⟩:=h;exact⟨rfl,rfl⟩
 obtain⟨R,S⟩:=dS p;obtain⟨T,U⟩:=dS o;obtain⟨t,z,rfl,K⟩:=p;obtain⟨s,u,rfl,C⟩:=o;refine aI.m (bG c89) rfl ?_;unfold QY;refine Y ?_;refine Zl (U9 g F J k (OL _)) ?_;refine OJ (λf=>?_) (λf=>?_)
 ·refine Y ?_;exact⟨.refl H,.inl ⟨by rw[Zy,BY f];exact f,by rw[Zy,BY f];rfl⟩⟩
 have val:=Y3 f;refine Y ?_;refine Yp (vs:=[.agg #[vi b.op,vi b.sl,.slice t b.aF.length z,.slice s b.bJ.length u]]) rfl rfl D ?_;rintro v _ ⟨rfl,rfl⟩;refine Y ?_;cases fB with
 | false=>
  refine Y ?_;have e:Zy b false=6:=by rw[Zy,bY O,BY rfl]
  exact⟨.refl H,.inl ⟨by rw[e];decide,by rw[e];rfl⟩⟩
 | true=>
  refine Y ?_;refine Y8 rfl rfl (Y ?_);refine Zf (ZAx (fQ val.eI) (λa I=>g.inc I) (by have:=V6 val;omega)) ?_;rintro v M ⟨i,j,q⟩;obtain⟨L,Q,rfl,_⟩:=q.sl;refine OJ (λB=>?_) (λB=>?_)
  ·have e:Zy b true=9:=by rw[Zy,bY O,bY (by simp),BY O]
   refine Y ?_;exact⟨i,.inl ⟨by rw[e];decide,by rw[e];rfl⟩⟩
  have e:Zy b true=0:=by rw[Zy,bY O,bY (by simp),bY O]
  refine Y ?_;exact⟨i,.inr ⟨e,_,_,_,j,rfl,rfl,q⟩⟩
end
def jQ(m:N4):Prop:=∀j,j<4->0<=m.get j/\m.get j<=99
def MI{c:Int}{a:Nat}:∀r,r<=2 * a+1->∀k∈cF c a r,k.bf=c/\-(a:Int)<=k.bP/\k.bP<=a/\k.bP≠0
 | 0,_,k,h=>by simp[cF]at h
 | r+1,f,k,h=>by
  rw[cF]at h;split at h
  ·exact MI r O k h
  rename_i e;rcases DO.1 h with rfl | h
  ·exact⟨rfl,by show -(a:Int)<=(a:Int)-r;omega,by show(a:Int)-r<=a;omega,e⟩
  exact MI r O k h
def NU{n sl:Nat}:∀r,r+1<=n->∀k∈bW n sl r,(1<=k.bf/\k.bf<n)/\-(sl:Int)<=k.bP/\k.bP<=sl/\k.bP≠0
 | 0,_,k,h=>by simp[bW]at h
 | r+1,e,k,h=>by
  rw[bW]at h;rcases qAi.1 h with h | h
  ·obtain⟨c,a⟩:=MI _ (AT _) k h;exact⟨⟨O,O⟩,a⟩
  exact NU r O k h
def Mi(v:Zw b):∀k∈ZB b,-3<=k.bP/\k.bP<=3:=by
 intro k h;have:=v.sl;have:=v.n;rcases DO.1 h with rfl | h
 ·exact⟨by show(-3:Int)<=0;omega,by show(0:Int)<=3;omega⟩
 have:=NU _ O k h;omega
def Qv{f:Int->List Zs}{a:Int}{x:Zs}:∀{c:Nat},x∈eC f a c->∃v,a-c<v/\v<=a/\x∈f v
 | 0,h=>by simp[eC]at h
 | c+1,h=>by
  rw[eC]at h;rcases qAi.1 h with h | h
  ·exact⟨a-c,O,O,h⟩
  obtain⟨v,i,e,g⟩:=Qv h;exact⟨v,O,e,g⟩
def Dd{b:Bk}(v:Zw b):∀r,r<=b.aF.length->∀m,jQ m->∀x∈bM b r m,jQ x.m/\-3<=x.bP/\x.bP<=3
 | 0,_,m,c,x,h=>by rw[bM]at h;obtain⟨k,i,rfl⟩:=qAj.1 (qAq.1 h).1;exact⟨c,Mi v k i⟩
 | r+1,p,m,c,x,h=>by
  rw[bM]at h;have e:b.aF.length-(r+1)<b.aF.length:=O;rw[show Zx b (b.aF.length-(r+1))=b.aF[b.aF.length-(r+1)]from Z8 e _]at h;obtain⟨q,_⟩:=v.aF _ e;obtain⟨w,n,o,g⟩:=Qv h;refine Dd v r O _ (λj f=>?_) x g;rw[N4.eD _ _ f];split
  ·omega
  exact c j f
def ZoX:jQ ⟨0,0,0,0⟩:=by
 intro j a;match j,a with
 | 0,_=>exact⟨by decide,by decide⟩
 | 1,_=>exact⟨by decide,by decide⟩
 | 2,_=>exact⟨by decide,by decide⟩
 | 3,_=>exact⟨by decide,by decide⟩
def vS(v:Zw b):∀x∈Zd b,jQ x.m/\-3<=x.bP/\x.bP<=3:=Dd v _ (AT _) _ ZoX
def sL{x:Zs}(h:jQ x.m/\-3<=x.bP/\x.bP<=3):CG x:=⟨λj a=>by have:=h.1 j a;exact⟨O,O⟩,⟨O,O⟩⟩
def Zvo{x:Zs}(v:Zw b)(h:jQ x.m/\-3<=x.bP/\x.bP<=3):∀j,j<4->-102<=(Zm b x).get j/\(Zm b x).get j<=102:=by
 intro j a;have:=h.1 j a;have:=v.op;rw[Zm,N4.fO _ a];split
 ·unfold uY;split<;>omega
 omega
def EA{x:Zs}(v:Zw b)(h:jQ x.m/\-3<=x.bP/\x.bP<=3):(Zm b x).Sm:=λj a=>by have:=Zvo v h j a;exact⟨O,O⟩
def Ym(k n:Nat):Int:=if k=0 then 2 else if k=n then 1 else 0
def ZvV{f:α->Bool}{l:List α}{j:Nat}(a:j<l.length):((l.take (j+1)).filter f).length=((l.take j).filter f).length+if f l[j]then 1 else 0:=by rw[iO a,qCa,IN];cases h:f l[j]<;>simp[qBv,h]
section
variable{P:aY}[Tz P][Loud P]{H:Hp}
def Ps{f:Zs->Bool}(n:Zj H w l)(C:l.length<=1000000)(z:(pv.cells=#[pv]/\Value.bS pv=true)/\(cv.cells=#[cv]/\Value.bS cv=true))(t:∀x∈l,∀H',bA H H'->bR P fv #[ZP x] H' λv k=>bA H' k/\v=vb (f x)) :
  LL.Za P 66 #[wQ b pv cv w,fv] H λv H'=>bA H H'/\v=vi (Ym (l.filter f).length l.length):=by
 refine aI.m (bG c91) rfl ?_;unfold QW;refine Y ?_;refine ZK n rfl (Y ?_);refine ZF l.length (λj H'=>bA H H') (λj=>[(1,fv),(2,vi 0),(5,vi ((l.take j).filter f).length),(9,w),(10,vi l.length),(11,vi j)]) (λj=>[(2,[vi b.op,vi b.sl,pv,cv,w])]) (.refl H) V V ?_;intro j o B c;refine OJ (λp=>?_) (λp=>?_)
 ·have e:j<l.length:=O;have i:=ZvV (f:=f) e;have u:((l.take j).filter f).length<=l.length:=qAE (qBc _ _) (by rw[qBu];omega);refine Y ?_;refine Zo j (n.inc c) e λa s=>Y ?_;refine ZL s (Y ?_);refine Yp (vs:=[ZP l[j]]) rfl rfl (t l[j] (qAa e) o c) ?_;rintro v A ⟨h,rfl⟩;refine OJ (λg=>?_) (λg=>?_)
  ·rw[BY g]at i;refine Y ?_;exact⟨⟨j+1,O⟩,cZ O,c.trans h,⟨rfl,rfl,by rw[i];rfl,rfl,rfl,rfl,trivial⟩,V,rfl⟩
  rw[bY (by simp[g])]at i;refine Y ?_;exact⟨⟨j+1,O⟩,cZ O,c.trans h,⟨rfl,rfl,by rw[i];rfl,rfl,rfl,rfl,trivial⟩,V,rfl⟩
 have:j=l.length:=O;subst this;rw[qAh];refine OJ (λg=>?_) (λg=>?_)
 ·refine Y ?_;exact⟨c,by rw[Ym,BY O];rfl⟩
 refine Y ?_;refine ZK (n.inc c) rfl ?_;refine OJ (λq=>?_) (λq=>?_)
 ·refine Y ?_;exact⟨c,by rw[Ym,bY O,BY O];rfl⟩
 refine Y ?_;exact⟨c,by rw[Ym,bY O,bY O];rfl⟩
def xN:bR P (vf 65) #[bv] H λv a=>H=a/\v=vb true:=Yg U (Zo6 (Loud.bB _))
def OV(h:Zy b true=0):ZC b=0/\1<=(Zd b).length:=by
 unfold Zy at h;split at h
 ·exact absurd h (by assumption)
 split at h
 ·simp at h
 split at h
 ·simp at h
 exact⟨O,O⟩
def Ji[Enc α]{H:Hp}{l:List α}(h:Zj H v l):v.cells=#[v]/\Value.bS v=true:=by obtain⟨A,c,rfl,_⟩:=h;exact⟨rfl,rfl⟩
def KL(hb:bK H bv b)(u:ZY H)(z:b.aF.length<=1000000)(j:b.bJ.length<=1000000) :
  LL.Za P 33 #[bv] H λv k=>bA H k/\v=.tuple #[vi (if Zy b true=0 then Ym ((Zd b).filter Zs.cH).length (Zd b).length else 0),vi (Zy b true)]:=by
 have h:=hb;obtain⟨pv,cv,rfl,A,s⟩:=hb;refine aI.m (bG c21) rfl ?_;unfold RS;refine Y ?_;refine Zf (vD (fB:=true) h u z j xN) ?_;rintro v K ⟨c,⟨a,rfl⟩ | ⟨a,D,p,w,M,e,rfl,n⟩⟩
 ·refine OJ (λg=>?_) (λg=>?_)
  ·refine Y ?_;exact⟨c,by rw[bY a];rfl⟩
  exact absurd g a
 simp only[Value.agg.injEq,qBe,qAD,qBP]at e;obtain⟨_,_,rfl,rfl⟩:=e;have:=V6 (Y3 (OV a).1);obtain⟨I,R,rfl,B⟩:=A;obtain⟨F,Q,rfl,t⟩:=s;have C:=n.sl;obtain⟨J,S,rfl,_⟩:=n.sl;refine Y ?_;refine Zf (vs:=[wQ b _ _ _,vf 91]) (Ps (l:=Zd b) (f:=Zs.cH) C O ⟨⟨rfl,rfl⟩,⟨rfl,rfl⟩⟩ (λx V k T=>(Yg U (Mg (OL _))).mono λv o ⟨g,q⟩=>⟨g ▸ .refl _,q⟩)) ?_;rintro v L ⟨i,rfl⟩;refine Y ?_;exact⟨c.trans i,by rw[BY a,a];rfl⟩
def WS(hb:bK H bv b)(A:ZY H)(C:b.aF.length<=1000000)(j:b.bJ.length<=1000000) :
  LL.Za P 16 #[bv] H λv k=>bA H k/\v=.tuple #[vi (if Zy b true=0 then Ym ((Zd b).filter (YH b)).length (Zd b).length else 0),vi (Zy b true)]:=by
 have g:=hb;obtain⟨pv,cv,rfl,D,u⟩:=hb;refine aI.m (bG c31) rfl ?_;unfold RL;refine Y ?_;refine Zf (vD (fB:=true) g A C j xN) ?_;rintro v Q ⟨a,⟨c,rfl⟩ | ⟨c,J,s,w,S,e,rfl,p⟩⟩
 ·refine OJ (λh=>?_) (λh=>?_)
  ·refine Y ?_;exact⟨a,by rw[bY c];rfl⟩
  exact absurd h c
 simp only[Value.agg.injEq,qBe,qAD,qBP]at e;obtain⟨_,_,rfl,rfl⟩:=e;have val:=Y3 (OV c).1;have:=V6 val;obtain⟨L,V,rfl,F⟩:=D;obtain⟨K,T,rfl,z⟩:=u;have I:=p.sl;obtain⟨M,W,rfl,_⟩:=p.sl;refine Y ?_;refine Y8 rfl rfl (Y ?_);refine Zf (vs:=[wQ b _ _ _,.func (.func 67) #[.agg #[vi b.op,vi b.sl,.slice L b.aF.length V,.slice K b.bJ.length T]] #[]]) (Ps (l:=Zd b) (f:=YH b) I O ⟨⟨rfl,rfl⟩,⟨rfl,rfl⟩⟩
  (λx o k B=>(Yg U (XD ((g.inc a).inc B) val.eI.bk (sL (vS val x o)) (by have:=val.n;omega) val.eI.aF (EA val (vS val x o)) (OL _))).mono λv q ⟨h,t⟩=>⟨h.inc,t⟩)) ?_
 rintro v R ⟨i,rfl⟩;refine Y ?_;exact⟨a.trans i,by rw[BY c,c];rfl⟩
end
