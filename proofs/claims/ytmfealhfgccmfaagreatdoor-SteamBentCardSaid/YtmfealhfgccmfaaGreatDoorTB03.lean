import Derived.Test.YtmfealhfgccmfaaGreatDoorTB02
set_option linter.all false
set_option maxHeartbeats 16000000
set_option maxRecDepth 20000
def aAm{G:Prop}(h:G:=by
  refine Y ?_;refine ZB j s1 mF λp hp=>Y ?_;refine Zh (OL _) rfl (ld hp) ?_;refine OJ (λge=>?_) (λge=>?_)
  ·refine Y ?_;refine ZB j s1 mF λp hp=>Y ?_;refine Zh (OL _) rfl (ld hp) (Y ?_);exact⟨(⟨j+1,O⟩,(n,k)),q2,⟨rfl,aAo (n) O O⟩,V,trivial,rfl⟩
  refine Y ?_;exact⟨(⟨j+1,O⟩,(n,m)),q2,⟨rfl,aAo (n) O O⟩,V,trivial,rfl⟩):G:=h
def aAx{G:Prop}(h:G:=by
  refine Y ?_;refine ZB j s1 mF λp hp=>Y ?_;refine Zh (OL _) rfl (ld hp) ?_;refine OJ (λge=>?_) (λge=>?_)
  ·refine Y ?_;refine ZB j s1 mF λp hp=>Y ?_;refine Zh (OL _) rfl (ld hp) (Y ?_);exact⟨(⟨j+1,O⟩,(n+1,k)),q2,⟨rfl,aAo (n+1) O O⟩,V,trivial,rfl⟩
  refine Y ?_;exact⟨(⟨j+1,O⟩,(n+1,m)),q2,⟨rfl,aAo (n+1) O O⟩,V,trivial,rfl⟩):G:=h
def aAt{G:Prop}(h:G:=by refine⟨some ⟨r,0,none⟩,cap,by rw[qAe],λ_=>⟨_,rfl,?_⟩⟩;exact YN (ZM (Hp.aQ _ _ _))):G:=h
open Go Go.LL
namespace Go.Proofs
variable{m k:BBk}
def okB(b:BBk)(p:List Int):Bool:=qF b p && nE b p
def iA(b:BBk):List (List Int):=(gJ b).filter (okB b)
def kR(p:List Int):Ar 7:=⟨(p++List.replicate 7 0).take 7,by simp⟩
def JL{p:List Int}(h:p.length<=7):(kR p).l=iH p:=by show(p++List.replicate 7 0).take 7=_;rw[List.take_append,qAH h,List.take_replicate,qBX O,iH]
def jM(b:BBk):List (Ar 7):=(iA b).map kR
def NC{b:BBk}(ok:BOk b){p:List Int}(h:p∈gJ b):p.length=b.ms.length:=by have:=EM _ _ p h;simpa[kG]using this
def ND{b:BBk}(ok:BOk b):(gJ b).length<=2187:=by have h:=IT (vX:=mV b) (ok:=λ_=>true) (kG b) [] (λe a=>by obtain⟨x,f,rfl⟩:=qAy.1 a;obtain⟨i,c,rfl⟩:=qAz.1 f;exact(ok.ms.2 i c).2);have j:3 ^ (kG b).length<=3 ^ 7:=qAR O (by rw[kG,qAd];exact ok.ms.1.2);have e:gJ b=jB (mV b) (λ_=>true) (kG b) []:=rfl;rw[e];omega
def Wfw{b:BBk}(ok:BOk b):∀p∈gJ b,∀x∈p,0<=x/\x<=959:=
 IS (kG b) [] (λe a=>by obtain⟨x,f,rfl⟩:=qAy.1 a;obtain⟨i,c,rfl⟩:=qAz.1 f;have:=(ok.ms.2 i c).1;exact⟨this.1,this.2.2⟩) (by simp)
def Gg{p:List Int}(h:∀x∈p,0<=x/\x<=959):∀z∈iH p,-1000<=z/\z<=1000:=λz b=>by
 rcases qAj.1 b with a | a
 ·have:=h z a;omega
 have:=List.eq_of_mem_replicate a;omega
def Fa{b:BBk}{p:List Int}(ok:BOk b)(l:p.length=b.ms.length):nE b (iH p)=nE b p:=by
 have e:∀i,i<p.length->(iH p).getD i 0=p.getD i 0:=λi f=>by rw[iH,qAp,qAQ f,<-qAp]
 have h:∀r∈b.rl,(!rlB (iH p) r)=!rlB p r:=λr a=>by obtain⟨i,f,rfl⟩:=List.getElem_of_mem a;have g:=(ok.rl.2 i f).1;unfold rlB;rw[e _ O,e _ O]
 unfold nE;congr 1;rw[qBQ,qCj,qCj];exact⟨λ⟨r,a,c⟩=>⟨r,a,by rw[<-h r a];exact c⟩,λ⟨r,a,c⟩=>⟨r,a,by rw[h r a];exact c⟩⟩
def WfG{jC:Nat}(h:jC<=7):ArB jC [] [0,0,0,0,0,0,0] where
 len:=rfl
 tk:=rfl
 dr:=by
  match jC,h with
  | 0,_ | 1,_ | 2,_ | 3,_ | 4,_ | 5,_ | 6,_ | 7,_=>rfl
 rg:=λz a=>by simp at a;omega
def EV:Tryz.prog.underlying 182=some (.slice 189):=U
def EU:Yw Tryz.prog 182=some (1,some (.slice none 0 0),24):=U
section
variable{P:fP}[Tz P][Loud P]{H:Hp}
def aAe{b:BBk}(ok:BOk b):yW P (.func (.func 241) #[b.v] #[]) (λH=>gT H b) ((gJ b).map bE):=by
 rintro y I S H ⟨yf,ya,yb,K⟩ R T Z hy s;have J:y.cells=#[y]:=by rw[K];rfl
 have D:=ok.ms.1;refine Yv U ?_;refine aU.m (fO Bm) rfl ?_;unfold JA BBk.v;generalize F:(gJ b).map bE=xs at *;have w:JG .nil (kB xs I ((gJ b).map bE++[])) H:=⟨H,.nil,(Hp.hZ H).symm,Hp.iJ H,λb x h=>by simp[Hp.nil]at h,by rw[qAl,F];exact .start s⟩;refine Y ?_;refine Ug rfl (OL _) λp E=>?_;have z:=w.new (.cells b.v.cells 173) E;refine Y ?_;refine Ug rfl (OL _) λq r=>?_;have A:=z.new (.cells y.cells 365) r;refine Y ?_;refine VY (fT vA) (OL _) λc i=>?_;have B:=A.new (.cells (Value.agg #[vi 0,vi 0,vi 0,vi 0,vi 0,vi 0,vi 0]).cells 189) i;refine Y ?_;refine VY (fT ES) (OL _) λl a=>?_;have C:=B.new (.cells (Value.nilFunc).cells 157) a;have L:q≠p:=by rintro rfl;rw[Hp.aQ]at r;simp at r
 have M:c≠q:=by rintro rfl;rw[Hp.aQ]at i;simp at i
 have N:c≠p:=by rintro rfl;rw[Hp.aR _ _ (qAo L),Hp.aQ]at i;simp at i
 have O:l≠c:=by rintro rfl;rw[Hp.aQ]at a;simp at a
 have W:l≠q:=by rintro rfl;rw[Hp.aR _ _ (qAo M),Hp.aQ]at a;simp at a
 have X:l≠p:=by rintro rfl;rw[Hp.aR _ _ (qAo N),Hp.aR _ _ (qAo L),Hp.aQ]at a;simp at a
 refine Y ?_;refine VW rfl rfl (Y ?_);refine VV (v:=sX p q c l) (fT ES) rfl rfl (Hp.aQ _ _ _) rfl rfl (OL _) ?_;have o:=C.put (.cells #[sX p q c l] 157) (Hp.aQ _ _ _);generalize Q:(((((Hp.nil.ins p (.cells b.v.cells 173)).ins q (.cells y.cells 365)).ins c (.cells (Value.agg #[vi 0,vi 0,vi 0,vi 0,vi 0,vi 0,vi 0]).cells 189)).ins l (.cells (Value.nilFunc).cells 157)).ins l (.cells #[sX p q c l] 157))=G at o;have V:Hd G b.cs p q c l y 173 157 365:=by
  subst Q;refine⟨?_,Hp.aQ _ _ _,?_,qAo N,O,qAo M⟩
  ·rw[Hp.aR _ _ (qAo X),Hp.aR _ _ (qAo X),Hp.aR _ _ (qAo N),Hp.aR _ _ (qAo L)];exact Hp.aQ _ _ _
  rw[Hp.aR _ _ (qAo W),Hp.aR _ _ (qAo W),Hp.aR _ _ (qAo M),<-J];exact Hp.aQ _ _ _
 have t:G c=some (.cells (nD [0,0,0,0,0,0,0]).toArray 189,true):=by subst Q;rw[Hp.aR _ _ (qAo O),Hp.aR _ _ (qAo O)];exact Hp.aQ _ _ _
 have u:G=G.ins c (.cells (nD [0,0,0,0,0,0,0]).toArray 189):=Hp.ext' (λb=>by
  by_cases e:b=c
  ·subst e;rw[Hp.aQ];exact t
  rw[Hp.aR _ _ e]) rfl
 refine Y ?_;refine Zh (OL _) rfl (ZM (o.inc _ _ V.n)) (Y ?_);rw[u]at o;have f:=Wfi ok R T Z hy p q c l V b.ms.length [] [0,0,0,0,0,0,0] [] _ (DO _) (by simp) (WfG D.2) (by rw[qCf];exact o);rw[qCf]at f;refine ZP rfl rfl (Yv U f) ?_;rintro v H7 ⟨a',_,⟨rfl,h7⟩ | ⟨rfl,h7⟩⟩
 ·refine Y ?_;exact .inl (h7.up (BL R)).stop
 refine Y ?_;exact .inr (h7.up T)
def Wfk{b:BBk}(hm:gT H b)(ok:BOk b):LL.Zb P 169 #[b.v] H λv f=>fI H f/\∃j,gL H f 189 v (jM b) j:=by
 have pD:=ND ok;refine aU.m (fO Dl) rfl ?_;unfold I6 BBk.v;refine Y ?_;refine Ug rfl (OL _) λr NZ=>?_;have i1:=Zt (o:=.cells b.v.cells 173) NZ;have b1:aM (H.ins r (.cells b.v.cells 173)) ⟨r,0,none⟩ b.cs:=VR;have e1:(Value.agg #[vi b.bd,vi b.tw,vi b.tn,.slice b.A1 b.ms.length b.c1,.slice b.A2 b.rl.length b.c2]).cells=b.v.cells:=rfl;rw[e1];have gb1:(H.ins r (.cells b.v.cells 173)) r=some (.cells b.cs.toArray 173,true):=Hp.aQ _ _ _;have aAQ:H r=none:=NZ;generalize H.ins r (.cells b.v.cells 173)=H1 at *;refine Y ?_;refine VY (fT EU) (OL _) λR y=>?_;have h0:H R=none:=YP i1 y;have n12:r≠R:=by rintro rfl;rw[gb1]at y;simp at y
 refine Y ?_;refine Zn (OL _) rfl (b1.inc (Zt y)) rfl (Y ?_);refine VW rfl rfl (Y ?_);refine L9 OL rfl (aAe ok) (λx hx=>by obtain⟨k,_,rfl⟩:=qAy.1 hx;rfl)
  (λn f=>fI H f/\(∃v j,f R=some (.cells #[v] 182,true)/\gL H f 189 v ((((gJ b).take n).filter (okB b)).map kR) j/\(j≠some R/\j≠some r))/\f r=some (.cells b.cs.toArray 173,true)) (λe f=>False) ⟨i1.trans (Zt y),⟨_,none,Hp.aQ _ _ _,.nil _ _ _,by simp⟩,Zt y _ _ gb1⟩
  (λn f J hc ⟨g1,⟨v,j,g2,Z,S⟩,g5⟩=>⟨g1.trans (Um _ _),⟨v,j,Hp.eN g2,Z.inc (Um _ _),S⟩,Hp.eN g5⟩) (λe f J hc h=>h) (λn f h=>hm.inc h.1) ?_ ?_ ?_
 ·rintro n hn H3 ⟨g1,⟨v,j,g2,Z,S⟩,gb3⟩;rw[qBn];rw[qAd]at hn;have L:=iN hn;have V:=NC ok L;have hpr:=Wfw ok _ L;have a:(((gJ b).take (n+1)).filter (okB b)).map kR=(((gJ b).take n).filter (okB b)).map kR++if okB b (gJ b)[n]then[kR (gJ b)[n]]else[]:=by rw[BY hn,qDM,qBt];cases h:okB b (gJ b)[n]<;>simp[h]
  have rA:((((gJ b).take n).filter (okB b)).map kR).length<=2187:=by rw[qAd];refine qAP (qBN _ _) ?_;rw[qAs];omega
  have h7:=JL (p:=(gJ b)[n]) (by have:=ok.ms.1;omega);have FZ:(iH (gJ b)[n]).take b.ms.length=(gJ b)[n]:=by rw[iH,<-V,List.take_left'];rfl
  have U:∀z∈iH (gJ b)[n],-1000<=z/\z<=1000:=Gg hpr;have Sa:=Fa (p:=(gJ b)[n]) ok V;have u:(iH (gJ b)[n]).length=7:=by rw[<-h7];exact(kR _).h
  have cF:∀{H},LL.Zb P 242 #[b.v,x7 (iH (gJ b)[n])] H λv f=>fI H f/\v=vb (qF b (gJ b)[n]):=by intro H;have:=@WfC P _ _ H b _ ok.st u ok.ms.1.2 U;rw[FZ]at this;exact this
  have cR:∀{H},gT H b->LL.Zb P 243 #[b.v,x7 (iH (gJ b)[n])] H λv f=>fI H f/\v=vb (nE b (gJ b)[n]):=by intro H h;have:=@Wfr P _ _ H b _ h ok u U;rw[Sa]at this;exact this
  have hx:kR (gJ b)[n]=⟨iH (gJ b)[n],u⟩:=by
   have:(kR (gJ b)[n]).l=iH (gJ b)[n]:=h7;cases hpp:kR (gJ b)[n]with
   | mk l h=>rw[hpp]at this;subst this;rfl
  rw[hx]at a;have hok:okB b (gJ b)[n]=(qF b (gJ b)[n] && nE b (gJ b)[n]):=rfl;rw[hok]at a;clear hok;unfold bE;clear U FZ Sa h7 hx hpr V L;generalize qF b (gJ b)[n]=fb at *;generalize nE b (gJ b)[n]=rb at *;generalize iH (gJ b)[n]=l at *;obtain⟨z0,C,D,E,F,G,I,rfl⟩:=sY u;refine Y ?_;refine VY (fT vA) (OL _) λr5 Q=>Y ?_;refine yU (v:=x7 [z0,C,D,E,F,G,I]) (fT vA) (cs:=[vi 0,vi 0,vi 0,vi 0,vi 0,vi 0,vi 0]) rfl rfl (Hp.aQ _ _ _) rfl rfl rfl (OL _) ?_;rw[Uy];have K:=g1.trans (Zt (o:=.cells (x7 [z0,C,D,E,F,G,I]).cells 189) Q);have s:=Zt (o:=.cells (x7 [z0,C,D,E,F,G,I]).cells 189) Q _ _ g2;have N:=Z.ins (o:=.cells (x7 [z0,C,D,E,F,G,I]).cells 189) Q;have t:=Zt (o:=.cells (x7 [z0,C,D,E,F,G,I]).cells 189) Q _ _ gb3;have c5:aM (H3.ins r5 (.cells (x7 [z0,C,D,E,F,G,I]).cells 189)) ⟨r5,0,none⟩ [vi z0,vi C,vi D,vi E,vi F,vi G,vi I]:=VR;generalize H3.ins r5 (.cells (x7 [z0,C,D,E,F,G,I]).cells 189)=H4 at *;have hb4:gT H4 b:=hm.inc K;have T:aM H4 ⟨r,0,none⟩ b.cs:=ZM t;refine Y ?_;refine YL T (Y ?_);refine YL c5 (Y ?_);refine Zg (vs:=[b.v,x7 [z0,C,D,E,F,G,I]]) cF ?_;rintro w X ⟨M,rfl⟩;have stop:∀{X},fI H4 X->((((gJ b).take (n+1)).filter (okB b)).map kR=(((gJ b).take n).filter (okB b)).map kR)->fI H X/\(∃v j,X R=some (.cells #[v] 182,true)/\gL H X 189 v ((((gJ b).take (n+1)).filter (okB b)).map kR) j/\(j≠some R/\j≠some r))/\X r=some (.cells b.cs.toArray 173,true):=λi e=>⟨K.trans i,⟨v,j,i _ _ s,by rw[e];exact N.inc i,S⟩,i _ _ t⟩;cases fb with
  | false=>
   refine Y ?_;exact stop M (by rw[a,iF (by simp),qAl])
  | true=>
  refine Y ?_;refine Zn (OL _) rfl (T.inc M) rfl (Y ?_);refine Zn (OL _) rfl (c5.inc M) rfl (Y ?_);refine Zg (vs:=[b.v,x7 [z0,C,D,E,F,G,I]]) (cR (hb4.inc M)) ?_;rintro w H6 ⟨W,rfl⟩;cases rb with
  | false=>
   refine Y ?_;exact stop (M.trans W) (by rw[a,iF (by simp),qAl])
  | true=>
  clear stop;rw[qAa (by simp)]at a;have K:=(K.trans M).trans W;have s:=W _ _ (M _ _ s);have t:=W _ _ (M _ _ t);have N:=(N.inc M).inc W;have c5:=(c5.inc M).inc W;clear M W hb4 T;refine Y ?_;refine Zh (OL _) rfl (ZM (cs:=[v]) s) (Y ?_);refine YL c5 (Y ?_);refine Z4 (cs:=[vi z0,vi C,vi D,vi E,vi F,vi G,vi I]) (OL _) rfl λr6 A=>Y ?_;refine VX (l':=[(⟨[z0,C,D,E,F,G,I],u⟩:Ar 7)]) (fU EV) (fU EV) (fT vA) rfl (by decide) (K.trans (Zt A)) (N.ins A) (Z3 (l:=[(⟨[z0,C,D,E,F,G,I],u⟩:Ar 7)])) (Ck 7 _) (by simp only[qAW];omega) O rfl rfl (OL _) λv' H7 b' k1 k2 k3=>?_;have g6:H7 R=some (.cells #[v] 182,true):=k3.keep R _ (Zt A _ _ s) (λe=>S.1 e);have hv':v'.cells=#[v']/\Value.gM v'=true:=by obtain⟨_,⟨e,_⟩ | ⟨_,_,_,_,e,_⟩⟩:=k2.own<;>(subst e;exact⟨rfl,rfl⟩)
  have oB:b'≠some R/\b'≠some r:=by
   rcases k3.new with rfl | ⟨q,rfl,hq⟩
   ·exact S
   constructor<;>rintro e<;>obtain rfl:=aT e
   ·rw[Zt A _ _ s]at hq;simp at hq
   rw[Zt A _ _ t]at hq;simp at hq
  refine Y ?_;refine VV (v:=v') (fT EU) rfl rfl g6 hv'.1 hv'.2 (OL _) (Y ?_);refine⟨qC k1 h0,⟨v',b',Hp.aQ _ _ _,?_,oB⟩,?_⟩;rotate_left
  ·rw[Hp.aR _ _ n12];exact k3.keep r _ (Zt A _ _ t) (λe=>S.2 e)
  rw[a];refine⟨k2.own.sub λc z e hc=>?_,k2.fresh⟩;rw[Hp.aR _ _ (by rintro rfl;exact oB.1 e)];exact hc
 ·rintro H3 ⟨g1,⟨v,j,g2,Z,S⟩,gb3⟩;rw[qAd,qAh]at Z;refine Y ?_;refine Zh (OL _) rfl (ZM (cs:=[v]) g2) (Y ?_);exact⟨g1,j,Z⟩
 rintro e H3 he h;exact h.elim
end
def lT(b:BBk):Prop:=BOk b/\iA b≠[]
def b0V:Value:=.agg #[vi 0,vi 0,vi 0,.slice none 0 0,.slice none 0 0]
def bNo:Value:=.agg #[vi 0,vi 0,vi 0,.slice none 0 0,.slice none 0 0,.slice none 0 0]
def EZ(b:BBk)(w:Value):Value:=.agg #[vi b.bd,vi b.tw,vi b.tn,.slice b.A1 b.ms.length b.c1,.slice b.A2 b.rl.length b.c2,w]
structure lF(m k:BBk):Prop where
 bd:k.bd=m.bd
 tw:k.tw=m.tw
 tn:k.tn=m.tn
 ms:k.ms=m.ms
 rl:k.rl=m.rl
def lF.ok(h:lF m k)(o:BOk m):BOk k:=by obtain⟨_,_,_,_,_,_,_,_,_⟩:=m;obtain⟨_,_,_,_,_,_,_,_,_⟩:=k;obtain⟨rfl,rfl,rfl,rfl,rfl⟩:=h;exact⟨o.st,o.ms,o.rl⟩
theorem lF.boats(h:lF m k):iA k=iA m:=by obtain⟨_,_,_,_,_,_,_,_,_⟩:=m;obtain⟨_,_,_,_,_,_,_,_,_⟩:=k;obtain⟨rfl,rfl,rfl,rfl,rfl⟩:=h;rfl
def lF.good(h:lF m k)(g:lT m):lT k:=⟨h.ok g.1,by rw[h.boats];exact g.2⟩
def lG(b:BBk)(k:Nat):List Int:=UE (sB ((iA b).map λp=>p.getD k 0))
def M6(b:BBk)(k:Nat):lG b k=l8 ((iA b).map λp=>p.getD k 0):=Cd (Kn _) λz=>(HO _).mem_iff
def E9{b:BBk}{k:Nat}{z:Int}:z∈lG b k↔∃p∈iA b,p.getD k 0=z:=by rw[M6,(JK _).2,qAy]
def QQ{b:BBk}(ok:BOk b):(iA b).length<=2187:=qAP (qBN _ _) (ND ok)
def M5{b:BBk}(ok:BOk b)(k:Nat):(lG b k).length<=2187:=by rw[M6];have:=Cl ((iA b).map λp=>p.getD k 0);rw[qAd]at this;have:=QQ ok;omega
section
variable{P:fP}[Tz P][Loud P]{H:Hp}
def Wfh{b:BBk}:LL.Zb P 166 #[b.v] H λv a=>H=a/\v=vi 0:=by refine aU.m (fO Di) rfl ?_;unfold I3;refine Y ?_;exact⟨rfl,rfl⟩
def Ci{b:BBk}{r:Nat}{k:Int}(c:b.ms.length<=1000000)(h:H r=some (.cells #[vi k] 3,true)):LL.Zb P 97 #[b.v,pt r] H λv a=>H=a/\v=vi (if 0<=k/\k<=(b.ms.length:Int)-1 then 0 else 6):=by refine aU.m (fO Dg) rfl ?_;unfold I1;show Zc.m _ _ _ _ _;unfold BBk.v;refine Y ?_;refine Zh (OL _) rfl (ZM (cs:=[vi k]) h) (Y ?_);refine Zo (vs:=[b.v,vi k]) (y8 _ c) (Y ?_);exact⟨rfl,rfl⟩
theorem NF{b:BBk}{n:Value}{s:Int}(u:oE H)(hb:gT H b)(w:b.ms.length<=1000000)(x:b.rl.length<=1000000)(t:Z5 P n #[b.v] H λv a=>H=a/\v=vi s) :
  LL.Zb P 96 #[b.v,n] H λv a=>fI H a/\((lT b/\s=0/\∃A c,v=.tuple #[EZ b (.slice A (jM b).length c),vi 0]/\dF a (.slice A (jM b).length c) (jM b))\/(¬ (lT b/\s=0)/\∃e,e≠0/\v=.tuple #[bNo,vi e])):=by
 refine aU.m (fO Df) rfl ?_;unfold I0;show Zc.m _ _ _ _ _;unfold BBk.v;refine Y ?_;refine Zg (vs:=[b.v]) (QR u hb w x) ?_;rintro v _ ⟨rfl,e,rfl,p⟩;refine OJ (λf=>?_) (λf=>?_)
 ·refine Y ?_;exact⟨.refl _,.inr ⟨λg=>f (p.2 g.1.1),e,f,rfl⟩⟩
 have ok:=p.1 O;refine Y ?_;refine ZP (vs:=[b.v]) rfl rfl t ?_;rintro v _ ⟨rfl,rfl⟩;refine OJ (λh=>?_) (λh=>?_)
 ·refine Y ?_;exact⟨.refl _,.inr ⟨λg=>h g.2,s,h,rfl⟩⟩
 have j:s=0:=O;refine Y ?_;refine Zg (vs:=[b.v]) (Wfk hb ok) ?_;rintro v r ⟨q,z,y⟩;have l:dF r v (jM b):=y.sl;obtain⟨A,c,rfl,_⟩:=id l;have i:(jM b).length=(iA b).length:=by rw[jM,qAd]
 refine OJ (λo=>?_) (λo=>?_)
 ·refine Y ?_;exact⟨q,.inr ⟨λg=>g.1.2 (qBj.1 O),9,by decide,rfl⟩⟩
 refine Y ?_;exact⟨q,.inl ⟨⟨ok,λe=>o (by rw[i,e];rfl)⟩,j,A,c,rfl,l⟩⟩
theorem Wfl{b:BBk}(x:oE H)(hb:gT H b)(q:b.ms.length<=1000000)(r:b.rl.length<=1000000) :
  LL.Zb P 93 #[b.v] H λv n=>fI H n/\((lT b/\∃k,v=.tuple #[k.v,vi 0]/\gT n k/\lF b k)\/(¬ lT b/\∃e,e≠0/\v=.tuple #[b0V,vi e])):=by
 refine aU.m (fO Dc) rfl ?_;unfold JX;show Zc.m _ _ _ _ _;unfold BBk.v;refine Y ?_;refine Zg (vs:=[b.v,vf 166]) (NF (s:=0) x hb q r (Yv U Wfh)) ?_;rintro v y ⟨a,⟨g,_,A,c,rfl,f⟩ | ⟨g,e,o,rfl⟩⟩;rotate_left
 ·refine OJ (λp=>?_) (λp=>?_)
  ·refine Y ?_;exact⟨a,.inr ⟨λh=>g ⟨h,rfl⟩,e,o,rfl⟩⟩
  exact absurd p o
 unfold EZ;refine Y ?_;refine Zg (vs:=[.slice b.A1 b.ms.length b.c1]) (He (hb.ms.inc a) q) ?_;rintro E z ⟨t,C,i⟩;obtain⟨l,c2,rfl,_⟩:=id i.sl;refine⟨(OL _).trans (OL _).symm,?_⟩;refine Y ?_;refine Zg (vs:=[.slice b.A2 b.rl.length b.c2]) (WfJ (hb.rl.inc (a.trans t.inc)) r) ?_;rintro F B ⟨u,D,j⟩;obtain⟨w,c3,rfl,_⟩:=id j.sl;refine⟨(OL _).trans (OL _).symm,?_⟩;refine Y ?_;exact⟨(a.trans t.inc).trans u.inc,.inl ⟨g,⟨b.bd,b.tw,b.tn,b.ms,b.rl,l,c2,w,c3⟩,rfl,⟨i.sl.inc u.inc,j.sl,i.cap,j.cap⟩,⟨rfl,rfl,rfl,rfl,rfl⟩⟩⟩
theorem NB{b:BBk}{k:Nat}(hg:oE H)(hb:gT H b)(gd:lT b)(hk:k<b.ms.length) :
  LL.Zb P 26 #[b.v,vi k] H λv q=>fI H q/\∃A c,v=.tuple #[.slice A (lG b k).length c,vi 0]/\dF q (.slice A (lG b k).length c) (lG b k):=by
 have ok:=gd.1;have n1:=ok.ms.1;have n2:=ok.rl.1;have K8:=QQ ok;refine aU.m (fO Cv) rfl ?_;unfold JQ;show Zc.m _ _ _ _ _;unfold BBk.v;refine Y ?_;refine Ug rfl (OL _) λr L=>?_;have M:=Zt (o:=.cells #[vi k] 3) L;have x:(H.ins r (.cells #[vi k] 3)) r=some (.cells #[vi k] 3,true):=Hp.aQ _ _ _;show ZW P _ _ _ (H.ins r (.cells #[vi k] 3));generalize H.ins r (.cells #[vi k] 3)=H1 at *;refine Y ?_;refine VW rfl rfl (Y ?_);refine Zg (vs:=[b.v,.func (.func 97) #[] #[pt r]]) (NF (s:=0) (aM.inc hg M) (hb.inc M) O O (by have:=@Ci P _ _ H1 b r k O x;rw[qAa ⟨O,O⟩]at this;exact Yv U this)) ?_;rintro v S ⟨X,⟨_,_,A,c,rfl,sl⟩ | ⟨g,_⟩⟩;rotate_left
 ·exact absurd ⟨gd,rfl⟩ g
 unfold EZ;have R3:(jM b).length=(iA b).length:=by rw[jM,qAd]
 have J:=X _ _ x;refine Y ?_;refine Yp (α:=Value×Option Nat) (jM b).length (λj s q=>fI S q/\gL S q 3 s.1 (((iA b).take j).map λp=>p.getD k 0) s.2) (λj s=>[(2,vi 0),(3,pt r),(8,s.1),(21,.slice A (jM b).length c),(22,vi (jM b).length),(23,vi j)]) (λ_ _=>[]) (.slice none 0 0,none) ⟨.refl _,.nil _ _ _⟩ V trivial ?_;rintro j ⟨Q,b8⟩ T hj ⟨F,D⟩;simp only at D;refine OJ (λh1=>?_) (λh1=>?_)
 ·have I:j<(jM b).length:=O;have u:j<(iA b).length:=O;have Jg:(iA b)[j].length=b.ms.length:=NC ok ((qAu.1 (iN u)).1);have f:(jM b)[j].l=iH (iA b)[j]:=by
   have:(jM b)[j]=kR (iA b)[j]:=by simp[jM]
   rw[this];exact JL O
  have h7:(iH (iA b)[j]).length=7:=by rw[<-f];exact(jM b)[j].h
  have t:(iH (iA b)[j]).getD k 0=(iA b)[j].getD k 0:=by rw[iH,qAp,qAQ O,<-qAp]
  have B:((iA b).take (j+1)).map (λp=>p.getD k 0)=((iA b).take j).map (λp=>p.getD k 0)++[(iA b)[j].getD k 0]:=by rw[BY u,qBt];rfl
  have W:(((iA b).take j).map λp=>p.getD k 0).length<=2187:=by rw[qAd,qAs];omega
  refine Y ?_;refine ZB j (sl.inc F) I λa E=>?_;have E:aM T a (nD (jM b)[j].l):=E;rw[f]at E;rw[<-t]at B;generalize(iA b)[j].getD k 0=z at *;generalize iH (iA b)[j]=l at *;have K:k<7:=O;have i:(nD l)[0+k * 1]? = some (vi (l.getD k 0)):=by rw[qAJ,qCo];exact EX O
  obtain⟨z0,z1,z2,z3,z4,z5,z6,rfl⟩:=sY h7;refine Y ?_;refine YL E (Y ?_);refine Zh (OL _) rfl (ZM (cs:=[vi k]) (F _ _ J)) (Y ?_);refine sV (j:=k) rfl rfl K (Y ?_);refine wB (OL _) rfl rfl i (Y ?_);refine Z4 (cs:=[vi ([z0,z1,z2,z3,z4,z5,z6].getD k 0)]) (OL _) rfl λr5 y=>Y ?_;refine VX (l':=[[z0,z1,z2,z3,z4,z5,z6].getD k 0]) (fU jR) (fU jR) (fT t3) rfl (by decide) (F.trans (Zt y)) (D.ins y) XA rfl (by simp only[qAW];omega) O rfl rfl (OL _) λR H4 G k1 Z k3=>?_;rw[<-B]at Z;refine Y ?_;exact⟨(⟨j+1,O⟩,(R,G)),gI O,⟨k1,Z⟩,V,trivial,rfl⟩
 have:j=(jM b).length:=O;subst this;rw[qAH O]at D;have C:=M.trans X;have N:gL H T 3 Q ((iA b).map λp=>p.getD k 0) b8:=⟨D.own,λr L=>YP C (D.fresh r L)⟩;refine Y ?_;refine Zg (vs:=[Q]) (ZzH (C.trans F) N (λe=>gd.2 (qDF.1 e)) (by rw[qAd];omega)) ?_;rintro w H4 ⟨i4,o9⟩;refine Y ?_;refine Zg (vs:=[Q]) (Zz9 i4 o9 (by rw[(HO _).length_eq,qAd];omega)) ?_;rintro v H5 ⟨i5,bb,o5⟩;have s5:dF H5 v (lG b k):=o5.sl;obtain⟨A5,c5,rfl,_⟩:=id s5;refine Y ?_;exact⟨i5,A5,c5,rfl,s5⟩
end
def mkB(b:BBk)(i:Nat)(x:NK):BBk:={ b with ms:=b.ms.set i x }
def lF.trans{a b c:BBk}(h:lF a b)(k:lF b c):lF a c:=⟨by rw[k.bd,h.bd],by rw[k.tw,h.tw],by rw[k.tn,h.tn],by rw[k.ms,h.ms],by rw[k.rl,h.rl]⟩
def lF.symm{a b:BBk}(h:lF a b):lF b a:=⟨h.bd.symm,h.tw.symm,h.tn.symm,h.ms.symm,h.rl.symm⟩
def y5{α:Type}[Enc α]{x:α}:∀(l:List α) (rest:List Value) (j:Nat) (_:j<l.length),ZR (Zd l++rest) (j * Enc.sz α) (Enc.enc x)=Zd (l.set j x)++rest
 | [],_,j,b=>by simp at b
 | y :: l,rest,0,_=>by simp only[Zd,qAI,List.set_cons_zero,ZR,qDg,List.take_zero,qAt,qAJ,Enc.len,qAE];rw[qDv,qCG (by rw[Enc.len];exact DO _),Enc.len];simp
 | y :: l,rest,j+1,b=>by
  have ih:=y5 (x:=x) l rest j (by simpa using b);have e:Zd (y :: l)++rest=Enc.enc y++(Zd l++rest):=by simp[Zd]
  rw[e,qBx,qDU,Ag (n:=Enc.sz α) (Enc.len y),ih];simp[Zd]
section
variable{P:fP}[Tz P][Loud P]{H:Hp}
def Wfs{b:BBk}{i:Nat}{j h:Int}(J:oE H)(hb:gT H b)(ok:BOk b)(f:i<b.ms.length) :
  LL.Zb P 21 #[b.v,vi i,.agg #[vi j,vi h]] H λv I=>fI H I/\((lT (mkB b i ⟨max b.ms[i].lo j,min b.ms[i].hi h⟩)/\∃k,v=.tuple #[k.v,vi 0]/\gT I k/\lF (mkB b i ⟨max b.ms[i].lo j,min b.ms[i].hi h⟩) k)\/∃e,e≠0/\v=.tuple #[b0V,vi e]):=by
 have M:=ok.ms.1;have n2:=ok.rl.1;refine aU.m (fO Cq) rfl ?_;unfold II;show Zc.m _ _ _ _ _;unfold BBk.v;refine Y ?_;refine Zg (vs:=[b.v]) (QR J hb O O) ?_;rintro v _ ⟨rfl,s,rfl,B⟩;obtain rfl:s=0:=B.2 ok;refine Y ?_;have cS:=@y8 P _ _ H b i O;rw[qAa ⟨O,O⟩]at cS;refine Zo (vs:=[b.v,vi i]) cS (Y ?_);refine Zo (vs:=[.agg #[vi j,vi h],vi 0,vi 959,vi 960]) (E5 (by decide)) ?_;cases RY:spB 0 959 960 ⟨j,h⟩with
 | false=>
  refine Y ?_;exact⟨.refl _,.inr ⟨1,by decide,rfl⟩⟩
 | true=>
 refine Y ?_;refine ZB i hb.ms f λa w=>?_;have w:aM H a [vi b.ms[i].lo,vi b.ms[i].hi]:=w;generalize b.ms[i]=y at *;refine Y ?_;refine YL w (Y ?_);refine Zo (vs:=[.agg #[vi y.lo,vi y.hi],.agg #[vi j,vi h]]) (Wfj _ _ _ _) ?_;refine⟨(OL _).trans (OL _).symm,?_⟩;cases B8:decide (max y.lo j<=min y.hi h)with
 | false=>
  refine Y ?_;exact⟨.refl _,.inr ⟨9,by decide,rfl⟩⟩
 | true=>
 refine Y ?_;refine Zg (vs:=[.slice b.A1 b.ms.length b.c1]) (He hb.ms O) ?_;rintro v2 p ⟨U,b2,V⟩;obtain⟨r,cap,rest,rfl,rfl,N,W,q4,X⟩:=gL.ne V (by intro e;rw[e]at M;simp at M);generalize K:(⟨max y.lo j,min y.hi h⟩:NK)=x at *;have E:max y.lo j=x.lo:=by rw[<-K]
 have D:min y.hi h=x.hi:=by rw[<-K]
 rw[E,D];refine Y ?_;refine CL (a:=⟨r,0,none⟩) rfl rfl f (Y ?_);refine OH (b:=r) (off:=i * 2) (cs:=Zd b.ms++rest) (fT Po) (qAx (λa=>some (Value.pointer (some a))) (by rw[VF,qAJ])) rfl N rfl (by rw[W];show i * 2+2<=cap * 2;omega) rfl (OL _) ?_;show ZW P _ _ _ (p.ins r (.cells (ZR (Zd b.ms++rest) (i * Enc.sz NK) (Enc.enc x)).toArray 31));rw[y5 (x:=x) b.ms rest i f];have q:fI H (p.ins r (.cells (Zd (b.ms.set i x)++rest).toArray 31)):=qC U.inc X;have A:dF (p.ins r (.cells (Zd (b.ms.set i x)++rest).toArray 31)) (.slice (some ⟨r,0,none⟩) b.ms.length cap) (b.ms.set i x):=by exact aAt
 generalize p.ins r (.cells (Zd (b.ms.set i x)++rest).toArray 31)=R at *;have z:gT R ⟨b.bd,b.tw,b.tn,b.ms.set i x,b.rl,some ⟨r,0,none⟩,cap,b.A2,b.c2⟩:=⟨by rw[qAe];exact A,hb.rl.inc q,by rw[qAe];omega,hb.q2⟩;have C:(⟨b.bd,b.tw,b.tn,b.ms.set i x,b.rl,some ⟨r,0,none⟩,cap,b.A2,b.c2⟩:BBk).v=.agg #[vi b.bd,vi b.tw,vi b.tn,.slice (some ⟨r,0,none⟩) b.ms.length cap,.slice b.A2 b.rl.length b.c2]:=by unfold BBk.v;rw[qAe]
 have cA:=Wfl (P:=P) (aM.inc J q) z (by rw[qAe];omega) (by show b.rl.length<=_;omega);rw[C]at cA;refine Y ?_;refine Z7 rfl cA ?_;rintro v H5 ⟨L,⟨g,k,rfl,T,Z⟩ | ⟨_,e,S,rfl⟩⟩
 ·have Q:lF (mkB b i x) ⟨b.bd,b.tw,b.tn,b.ms.set i x,b.rl,some ⟨r,0,none⟩,cap,b.A2,b.c2⟩:=⟨rfl,rfl,rfl,rfl,rfl⟩;unfold BBk.v;refine Y ?_;exact⟨q.trans L,.inl ⟨Q.symm.good g,k,rfl,T,Q.trans Z⟩⟩
 unfold b0V;refine Y ?_;exact⟨q.trans L,.inr ⟨e,S,rfl⟩⟩
theorem Wfu{b:BBk}{i:Nat}{x:NK}(hb:gT H b)(E:b.ms.length<=1000000)(h:i<b.ms.length) :
  LL.Zb P 23 #[b.v,vi i,.agg #[vi x.lo,vi x.hi]] H λv q=>fI H q/\∃k,v=k.v/\gT q k/\lF (mkB b i x) k:=by
 refine aU.m (fO Cs) rfl ?_;unfold JO;show Zc.m _ _ _ _ _;unfold BBk.v;refine Y ?_;refine rT (fU pH) (fT Po) (OL _) λl j=>?_;have z:gL H (H.ins l (.cells #[] 31)) 31 (.slice (some ⟨l,0,none⟩) 0 0) ([]:List NK) (some l):=N9 j;have s:=Zt (o:=.cells #[] 31) j;generalize H.ins l (.cells #[] 31)=C at *;refine Y ?_;refine VX (l':=b.ms) (fU pH) (fU pH) (fT Po) rfl (by decide) s z (hb.ms.inc s) (sU (λ_=>rfl) b.ms) (by simp;omega) O rfl rfl (OL _) λG n D y u _=>?_;rw[qAt]at u;obtain⟨r,cap,rest,rfl,rfl,w,A,F,B⟩:=gL.ne u (by intro e;rw[e]at h;simp at h);refine Y ?_;refine CL (a:=⟨r,0,none⟩) rfl rfl h (Y ?_);refine OH (b:=r) (off:=i * 2) (cs:=Zd b.ms++rest) (fT Po) (qAx (λa=>some (Value.pointer (some a))) (by rw[VF,qAJ])) rfl w rfl (by rw[A];show i * 2+2<=cap * 2;omega) rfl (OL _) ?_;show ZW P _ _ _ (n.ins r (.cells (ZR (Zd b.ms++rest) (i * Enc.sz NK) (Enc.enc x)).toArray 31));rw[y5 (x:=x) b.ms rest i h];have t:fI H (n.ins r (.cells (Zd (b.ms.set i x)++rest).toArray 31)):=qC y B;have p:dF (n.ins r (.cells (Zd (b.ms.set i x)++rest).toArray 31)) (.slice (some ⟨r,0,none⟩) b.ms.length cap) (b.ms.set i x):=by exact aAt
 refine Y ?_;refine⟨t,⟨b.bd,b.tw,b.tn,b.ms.set i x,b.rl,some ⟨r,0,none⟩,cap,b.A2,b.c2⟩,?_,⟨by rw[qAe];exact p,hb.rl.inc t,by rw[qAe];omega,hb.q2⟩,⟨rfl,rfl,rfl,rfl,rfl⟩⟩;show _=Value.agg _;rw[qAe];rfl
end
def CN:Tryz.prog.underlying 57=some (.slice 45):=U
def QZ:Yw Tryz.prog 45=some (1,some (.slice none 0 0),24):=U
def WfH(n:Nat)(l:List Int):Prop:=l.length=n/\∀x∈l,0<=x/\x<=959
def Hn:rP Tryz.prog 180=some ([("A",3,0),("B",3,1),("Rise",31,2)],false):=U
def Cg:BM Tryz.prog 180=false:=U
section
variable{P:fP}[Tz P]{H:Hp}{g:Bool}{d:Nat}
def Cf{a:BRl}(Q:Bool->Bool->Hp->Prop)(e:Q true g H):fZ P.toPQ (Op.equalIn (d+1+1+1) 180 (.agg #[vi a.a,vi a.b,vi a.lo,vi a.hi]) (.agg #[vi a.a,vi a.b,vi a.lo,vi a.hi])) Q g H:=by have r:∀(x y z u:Int) (Q:Value->Bool->Hp->Prop) g H,fZ P.toPQ (part 3 #[vi x,vi y,vi z,vi u] 0) Q g H↔Q (vi x) g H:=λx y z u Q g H=>Vg rfl Q;have s:∀(x y z u:Int) (Q:Value->Bool->Hp->Prop) g H,fZ P.toPQ (part 3 #[vi x,vi y,vi z,vi u] 1) Q g H↔Q (vi y) g H:=λx y z u Q g H=>Vg rfl Q;have t:∀(x y z u:Int) (Q:Value->Bool->Hp->Prop) g H,fZ P.toPQ (part 31 #[vi x,vi y,vi z,vi u] 2) Q g H↔Q (.agg #[vi z,vi u]) g H:=λx y z u Q g H=>L7 N7 Q;obtain⟨A,B,f3,h,⟨i,v,n⟩,⟨j,w,o⟩,⟨l,t3,q⟩,f⟩:=C5 (p:=P.toProgram) (by rw[Tz.prog (P:=P)];exact Hn);rw[Op.equalIn];simp only[Zf,ZA h,Vw,f,oR,qAq,Zj];simp only[i,j,l,v,w,t3,n,o,q,Zf,qBr,qBp,List.forIn_nil];simp[r,s,t,yT,oC (.inr C7),Zf,Zj];exact e
end
section
variable{P:fP}[Tz P][Loud P]{H:Hp}
def Wfp(L:gT H m)(K:gT H k)(T:lF m k)(R:m.ms.length<=1000000)(S:m.rl.length<=1000000):LL.Zb P 22 #[m.v,k.v] H λv q=>H=q/\v=vb true:=by
 have r:∀{z:Int},(!decide (z=z))=false:=λ{z}=>by rw[decide_eq_true rfl];rfl
 obtain⟨U,Z,X,w,x,y,c1,A,c2⟩:=m;obtain⟨n,p,o,c,e,B,I,C,J⟩:=k;obtain⟨rfl,rfl,rfl,rfl,rfl⟩:=T;have D:=L.ms;have E:=L.rl;have F:=K.ms;have G:=K.rl;simp only at D E F G R S;refine aU.m (fO Cr) rfl ?_;unfold JN BBk.v;simp only;refine Y ?_;rw[r];refine Y ?_;rw[r];refine Y ?_;rw[r];refine Y ?_;rw[r];refine Y ?_;rw[r];refine Y ?_;refine ZC c.length (λj q=>H=q) (λj=>[(2,vi 0),(3,vi 0),(5,vi j)]) (λ_=>[(2,[vi n,vi p,vi o,.slice y c.length c1,.slice A e.length c2]),(3,[vi n,vi p,vi o,.slice B c.length I,.slice C e.length J])]) rfl V V ?_;rintro j _ W rfl;refine OJ (λM=>?_) (λM=>?_)
 ·have t:j<c.length:=O;refine Y ?_;refine ZB j D t λa f=>?_;have f:aM H a [vi c[j].lo,vi c[j].hi]:=f;refine Y ?_;refine YL f (Y ?_);refine ZB j F t λa f=>?_;have f:aM H a [vi c[j].lo,vi c[j].hi]:=f;refine Y ?_;refine YL f (Y ?_);refine CB (b:=decide (c[j].lo=c[j].lo/\c[j].hi=c[j].hi)) (xs:=#[vi c[j].lo,vi c[j].hi]) (ys:=#[vi c[j].lo,vi c[j].hi]) Kc (λQ g H u=>WT (.inr C7) Q u) rfl rfl ?_;rw[decide_eq_true (⟨rfl,rfl⟩:c[j].lo=c[j].lo/\c[j].hi=c[j].hi)];refine Y ?_;exact⟨⟨j+1,O⟩,gI O,rfl,V,V,rfl⟩
 refine Y ?_;refine ZC e.length (λj q=>H=q) (λj=>[(2,vi 0),(3,vi 0),(6,vi j)]) (λ_=>[(2,[vi n,vi p,vi o,.slice y c.length c1,.slice A e.length c2]),(3,[vi n,vi p,vi o,.slice B c.length I,.slice C e.length J])]) rfl V V ?_;rintro i _ h rfl;refine OJ (λN=>?_) (λN=>?_)
 ·have s:i<e.length:=O;refine Y ?_;refine ZB i E s λa f=>?_;have f:aM H a [vi e[i].a,vi e[i].b,vi e[i].lo,vi e[i].hi]:=f;refine Y ?_;refine YL f (Y ?_);refine ZB i G s λa f=>?_;have f:aM H a [vi e[i].a,vi e[i].b,vi e[i].lo,vi e[i].hi]:=f;refine Y ?_;refine YL f (Y ?_);refine CB (b:=true) (xs:=#[vi e[i].a,vi e[i].b,vi e[i].lo,vi e[i].hi]) (ys:=#[vi e[i].a,vi e[i].b,vi e[i].lo,vi e[i].hi]) Cg (λQ g H u=>Cf Q u) rfl rfl (Y ?_);exact⟨⟨i+1,O⟩,gI O,rfl,V,V,rfl⟩
 refine Y ?_;exact⟨rfl,rfl⟩
def IM{v:Value}{l:List Int}{m:Int}(e:dF H v l)(o:l.length<=1000000)(n:0<=m/\m<=1000):LL.Zb P 237 #[v,vi m] H λw a=>H=a/\∃b,w=vb b:=by
 refine aU.m (fO Dm) rfl ?_;unfold E0;refine Y ?_;refine ZC l.length (λj a=>H=a) (λj=>[(0,v),(1,vi m),(5,vi j)]) (λ_=>[]) rfl V trivial ?_;rintro j _ i rfl;refine Y ?_;refine YH e rfl ?_;refine OJ (λf=>?_) (λf=>?_)
 ·have c:j<l.length:=O;refine Y ?_;refine ZB j e c λp h=>Y ?_;refine Z8 (v:=vi l[j]) h (Y ?_);refine BO rfl ⟨O,O⟩ (Y ?_);refine Zg (vs:=[vi l[j],vi (-m),vi m]) (O2 _ _ _) ?_;rintro w _ ⟨rfl,rfl⟩;generalize decide (-m<=l[j]/\l[j]<=m)=b;cases b
  ·refine Y ?_;exact⟨rfl,_,rfl⟩
  refine Y ?_;exact⟨⟨j+1,O⟩,gI O,rfl,V,trivial,rfl⟩
 refine Y ?_;exact⟨rfl,_,rfl⟩
def BN{v:Value}{l:List Int}(n:dF H v l)(Q:l.length<=1000)(o:∀z∈l,0<=z/\z<=1000):LL.Zb P 238 #[v] H λw b=>fI H b/\∃(k:List Int) (C:Option Nat),gL H b 3 w k C/\k.length<=1000/\∀z∈k,-4000<=z/\z<=4000:=by
 refine aU.m (fO Dn) rfl ?_;unfold I7;refine Y ?_;refine Yp (α:=Value×List Int×Option Nat) l.length (λj s b=>fI H b/\gL H b 3 s.1 s.2.1 s.2.2/\s.2.1.length<=j/\∀z∈s.2.1,-4000<=z/\z<=4000) (λj s=>[(0,v),(3,s.1),(4,vi ((j+1:Nat):Int))]) (λ_ _=>[]) (.slice none 0 0,[],none) ⟨.refl _,.nil _ _ _,DO _,by simp⟩ V trivial ?_;rintro j ⟨T,k,A⟩ I N ⟨a,t,E,q⟩;simp only at t E q;refine Y ?_;refine YH (n.inc a) rfl ?_;refine OJ (λD=>?_) (λD=>?_)
 ·have c:j+2<l.length:=O;have K:=o _ (iN (show j<l.length by omega));have L:=o _ (iN (show j+1<l.length by omega));have M:=o _ (iN c);refine Y ?_;refine yZ (n.inc a) rfl (by rw[show(((j+1:Nat):Int)-1)=(j:Int)by omega];rfl) rfl (i:=j) O λp e=>Y ?_;refine Z8 (v:=vi l[j]) e (Y ?_);refine ZB (j+2) (n.inc a) c λp e=>Y ?_;refine Z8 (v:=vi l[j+2]) e (Y ?_);refine ZB (j+1) (n.inc a) O λp e=>Y ?_;refine Z8 (v:=vi l[j+1]) e ?_;generalize l[j]=u at *;generalize l[j+1]=x at *;generalize l[j+2]=y at *;refine Y ?_;refine u7 rfl rfl ⟨O,O⟩ (Y ?_);refine Z4 (cs:=[vi (u+y-2 * x)]) (OL _) rfl λS f=>?_;refine Zz OL (Y ?_);refine VX (l':=[u+y-2 * x]) (fU jR) (fU jR) (fT t3) rfl (by decide) (a.trans (Zt f)) (t.ins f) qK rfl (by simp only[qAW];omega) O rfl rfl (OL _) λG J B k1 F R=>Y ?_;refine⟨(⟨j+1,O⟩,(G,k++[u+y-2 * x],B)),gI O,⟨k1,F,by show(k++[_]).length<=j+1;rw[IN,qAW];omega,λz r=>?_⟩,V,trivial,rfl⟩;rcases qAj.1 r with h | h
  ·exact q z h
  rw[iO.1 h];omega
 refine Y ?_;exact⟨a,k,A,t,O,q⟩
def Ew{v:Value}{l:List Int}(E:dF H v l)(G:l.length<=1000)(I:∀z∈l,0<=z/\z<=1000):LL.Zb P 239 #[v] H λw b=>fI H b/\∃(k:List Int) (B:Option Nat),gL H b 3 w k B/\k.length<=1000:=by
 refine aU.m (fO Bj) rfl ?_;unfold I8;refine Y ?_;refine Zg (vs:=[v]) (BN E G I) ?_;rintro w u ⟨x,a,S,K,F,f⟩;have q:=K.sl;refine Y ?_;refine Yp (α:=Value×List Int×Option Nat) a.length (λj s b=>fI u b/\gL u b 3 s.1 s.2.1 s.2.2/\s.2.1.length<=j) (λj s=>[(3,w),(4,s.1),(5,vi ((j+1:Nat):Int))]) (λ_ _=>[]) (.slice none 0 0,[],none) ⟨.refl _,.nil _ _ _,DO _⟩ V trivial ?_;rintro j ⟨X,k,y⟩ M T ⟨h,o,D⟩;simp only at o D;refine Y ?_;refine YH (q.inc h) rfl ?_;refine OJ (λC=>?_) (λC=>?_)
 ·have c:j+1<a.length:=O;have Q:=f _ (iN (show j<a.length by omega));have R:=f _ (iN c);refine Y ?_;refine ZB (j+1) (q.inc h) c λp n=>Y ?_;refine Z8 (v:=vi a[j+1]) n (Y ?_);refine yZ (q.inc h) rfl (by rw[show(((j+1:Nat):Int)-1)=(j:Int)by omega];rfl) rfl (i:=j) O λp n=>Y ?_;refine Z8 (v:=vi a[j]) n ?_;generalize a[j]=r at *;generalize a[j+1]=t at *;refine Y ?_;refine Z4 (cs:=[vi (t-r)]) (OL _) rfl λW e=>?_;refine Zz OL (Y ?_);refine VX (l':=[t-r]) (fU jR) (fU jR) (fT t3) rfl (by decide) (h.trans (Zt e)) (o.ins e) qK rfl (by simp only[qAW];omega) O rfl rfl (OL _) λL N A k1 J U=>Y ?_;exact⟨(⟨j+1,O⟩,(L,k++[t-r],A)),gI O,⟨k1,J,by show(k++[_]).length<=j+1;rw[IN,qAW];omega⟩,V,trivial,rfl⟩
 refine Y ?_;exact⟨x.trans h,k,y,o.base x,O⟩
def Ev{v:Value}{l:List Int}(u:dF H v l)(y:l.length<=1000)(A:∀z∈l,0<=z/\z<=1000):LL.Zb P 240 #[v] H λw e=>fI H e/\∃n,w=vi n:=by
 refine aU.m (fO Bl) rfl ?_;unfold I9;refine Y ?_;refine Zg (vs:=[v]) (BN u y A) ?_;rintro w f ⟨C,b,I,D,x,B⟩;have s1:=D.sl;refine Y ?_;refine Yp (α:=Int×Int) b.length (λj s e=>f=e/\0<=s.1/\s.1<=j) (λj s=>[(3,w),(4,vi s.1),(5,vi s.2),(6,vi j)]) (λ_ _=>[]) (0,0) ⟨rfl,by decide,by decide⟩ V trivial ?_;rintro j ⟨n,m⟩ _ K ⟨rfl,r,i⟩;simp only at r i;refine Y ?_;refine YH s1 rfl ?_;refine OJ (λq=>?_) (λq=>?_)
 ·have mF:j<b.length:=O;have q2:b.length-(j+1)<b.length-j:=gI O;generalize t:b[j]=k at *;have ld:∀{p},aM f p (Enc.enc b[j])->aM f p [vi k]:=λh=>by rw[t]at h;exact h
  have aAo:∀(a:Int),0<=a->a<=(j:Int)+1->0<=a/\a<=((j+1:Nat):Int):=λa i J=>⟨i,O⟩;refine Y ?_;refine ZB j s1 mF λp hp=>Y ?_;refine Zh (OL _) rfl (ld hp) ?_;refine OJ (λE=>?_) (λE=>?_)
  ·refine OJ (λF=>?_) (λF=>?_)
   ·exact aAx
   refine Y ?_;refine ZB j s1 mF λp hp=>Y ?_;refine Zh (OL _) rfl (ld hp) ?_;refine OJ (λc=>?_) (λc=>?_)
   ·exact absurd c O
   exact aAm
  refine Y ?_;refine ZB j s1 mF λp hp=>Y ?_;refine Zh (OL _) rfl (ld hp) ?_;refine OJ (λc=>?_) (λc=>?_)
  ·refine OJ (λG=>?_) (λG=>?_)
   ·exact aAx
   exact aAm
  exact aAm
 refine Y ?_;exact⟨C,n,rfl⟩
def Er{b:BBk}{v:Value}{l:List Int}(st:qW b)(c:dF H v l)(e:l.length<=1000)(f:∀z∈l,0<=z/\z<=1000):LL.Zb P 163 #[b.v,v] H λw i=>fI H i/\∃t,w=vb t:=by
 obtain⟨s,u,x⟩:=st;refine aU.m (fO Dh) rfl ?_;unfold I2 BBk.v;refine Y ?_;refine Zg (vs:=[v]) (BN c e f) ?_;rintro B D ⟨a,J,G,q,j,_⟩;refine Zz OL (Y ?_);refine Zg (vs:=[B,vi b.bd]) (IM q.sl O O) ?_;rintro L _ ⟨rfl,y,rfl⟩;cases y with
 | false=>
  refine Y ?_;exact⟨a,_,rfl⟩
 | true=>
 refine Y ?_;refine Zg (vs:=[v]) (Ew (c.inc a) e f) ?_;rintro C E ⟨h,K,I,r,o⟩;refine Zz OL (Y ?_);refine Zg (vs:=[C,vi b.tw]) (IM r.sl O O) ?_;rintro M _ ⟨rfl,A,rfl⟩;cases A with
 | false=>
  refine Y ?_;exact⟨a.trans h,_,rfl⟩
 | true=>
 refine Y ?_;refine Zg (vs:=[v]) (Ev (c.inc (a.trans h)) e f) ?_;rintro N F ⟨p,n,rfl⟩;refine Zz OL (Y ?_);exact⟨(a.trans h).trans p,_,rfl⟩
def Ey{b:BBk}{w:Value}{l:List Int}(hb:gT H b)(ok:BOk b)(A:dF H w l)(el:l.length=b.ms.length)(D:∀x∈l,0<=x/\x<=1000):LL.Zb P 87 #[b.v,w] H λv u=>fI H u/\∃t,v=vb t:=by
 have W:=ok.ms.1;have X:=ok.rl.1;refine aU.m (fO Cz) rfl ?_;unfold JU BBk.v;refine Y ?_;refine ZC l.length (λj u=>H=u) (λj=>[(1,w),(2,vi 0),(5,vi j)]) (λ_=>[(2,[vi b.bd,vi b.tw,vi b.tn,.slice b.A1 b.ms.length b.c1,.slice b.A2 b.rl.length b.c2])]) rfl V V ?_;rintro j _ T rfl;refine Y ?_;refine YH A rfl ?_;refine OJ (λK=>?_) (λK=>?_)
 ·have B:j<l.length:=O;have y:j<b.ms.length:=O;have row:∀{a},aM H a (Enc.enc b.ms[j])->aM H a [vi b.ms[j].lo,vi b.ms[j].hi]:=λh=>h;refine Y ?_;refine ZB j A B λp C=>Y ?_;refine Z8 (v:=vi l[j]) C (Y ?_);refine ZB j hb.ms y λa f=>?_;have f:=row f;refine Y ?_;refine Zh (v:=vi b.ms[j].lo) (OL _) rfl (by rw[add_zero];exact YN (cs:=[vi b.ms[j].lo]) (ds:=[vi b.ms[j].hi]) f) (Y ?_);refine ZB j hb.ms y λS o=>?_;have o:=row o;refine Y ?_;refine Zh (v:=vi b.ms[j].hi) (OL _) rfl (mG o (n:=1) rfl) (Y ?_);refine Zo (vs:=[vi l[j],vi b.ms[j].lo,vi b.ms[j].hi]) (O2 _ _ _) ?_;generalize decide (b.ms[j].lo<=l[j]/\l[j]<=b.ms[j].hi)=t;cases t
  ·refine Y ?_;exact⟨.refl _,_,rfl⟩
  refine Y ?_;exact⟨⟨j+1,O⟩,gI O,rfl,V,V,rfl⟩
 refine Y ?_;refine ZC b.rl.length (λj u=>H=u) (λj=>[(1,w),(2,vi 0),(6,vi j)]) (λ_=>[(2,[vi b.bd,vi b.tw,vi b.tn,.slice b.A1 b.ms.length b.c1,.slice b.A2 b.rl.length b.c2])]) rfl V V ?_;rintro k _ U rfl;refine OJ (λL=>?_) (λL=>?_)
 ·have z:k<b.rl.length:=O;obtain⟨⟨Z,t2⟩,-⟩:=ok.rl.2 k z;refine Y ?_;refine ZB k hb.rl z λa f=>?_;have f:aM H a [vi b.rl[k].a,vi b.rl[k].b,vi b.rl[k].lo,vi b.rl[k].hi]:=f;generalize b.rl[k]=x at *;have G:((x.a.toNat:Nat):Int)=x.a:=O;have I:((x.b.toNat:Nat):Int)=x.b:=O;have va:=D _ (iN (show x.a.toNat<l.length by omega));have Q:=D _ (iN (show x.b.toNat<l.length by omega));refine Y ?_;refine YL f (Y ?_);refine yZ A rfl (by rw[<-I];rfl) rfl (i:=x.b.toNat) O λp C=>Y ?_;refine Z8 (v:=vi l[x.b.toNat]) C (Y ?_);refine yZ A rfl (by rw[<-G];rfl) rfl (i:=x.a.toNat) O λq M=>Y ?_;refine Z8 (v:=vi l[x.a.toNat]) M ?_;generalize l[x.a.toNat]=E at *;generalize l[x.b.toNat]=F at *;refine Y ?_;refine Zo (vs:=[vi (F-E),vi x.lo,vi x.hi]) (O2 _ _ _) ?_;generalize decide (x.lo<=F-E/\F-E<=x.hi)=t;cases t
  ·refine Y ?_;exact⟨.refl _,_,rfl⟩
  refine Y ?_;exact⟨⟨k+1,O⟩,gI O,rfl,V,V,rfl⟩
 refine Y ?_;refine Zg (vs:=[b.v,w]) (Er ok.st A O D) ?_;rintro v R ⟨N,t,rfl⟩;refine Y ?_;exact⟨N,_,rfl⟩
end
