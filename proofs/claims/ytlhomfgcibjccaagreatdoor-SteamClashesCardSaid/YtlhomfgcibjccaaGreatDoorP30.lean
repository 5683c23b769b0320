import Derived.Test.YtlhomfgcibjccaaGreatDoorP29
set_option linter.all false
set_option maxHeartbeats 8000000
set_option maxRecDepth 20000
section
open Go Go.LL
namespace Go.Proofs
section
variable{G:Prop}{α:Type}{I:Nat->Hp->Prop}{y v:Value}{xs:List (List Int)}{S:Hp->Prop}{Hv:Hp}{b:Sb}{E1 E2 E3:TypeId}
theorem Zh0(h:G:=by refine Y ?_;refine Oa (l':=[(i:Int)]) (dC oO) (dC oO) (eI t3) rfl (by decide) G1.bA o4 GZ rfl (by simp only[qAO,List.length_nil];omega) O rfl rfl (OL _) λv5 H5 b5 k1 k2 k3=>?_;have El:H2.Sub H5:=⟨k1,k3.gh.trans G1.gh⟩;exact Zh2):G:=h
theorem Zh1(h:G:=by refine Y ?_;refine Oa (l':=[(i:Int)]) (dC oO) (dC oO) (eI t3) rfl (by decide) G1.bA o4 GZ rfl (by simp only[qAO,List.length_nil];omega) O rfl rfl (OL _) λv5 H5 b5 k1 k2 k3=>?_;have El:H2.Sub H5:=⟨k1,k3.gh.trans G1.gh⟩;refine Y ?_;refine Zg (OL _) rfl (cn El) ?_;exact Zh2):G:=h
theorem Zh2(h:G:=by
  refine Y ?_;refine ZN (vs:=[v5]) rfl rfl (key H5 v5 b5 El k2) ?_;rintro w H6 (⟨rfl,Hy⟩ | ⟨rfl,Hy⟩)
  ·refine Y ?_;exact⟨⟨i+1,O⟩,dX O,Hy,V,trivial,rfl⟩
  refine Y ?_;exact .inr ⟨rfl,Hy.of (λ_ h=>h) KU⟩):G:=h
theorem ZgY:Ym Tryz.prog 237=some (1,some .nilFunc,8):=U
def UL(n:Nat):Nat->List Int->List (List Int)
 | 0,l=>[l]
 | r+1,l=>(List.range n).flatMap λ(i:Nat)=>if l.any (λz=>(i:Int) == z)then[]else UL n r (l++[(i:Int)])
def ZD(n:Nat):List (List Int):=UL n n []
def UA(l:List Int)(v:Value)(Hv:Hp):Prop:=∃A c,v=.slice A l.length c/\l.length<=c/\aV Hv v l/\(∀x y,Hv x=some y->y.2=true)/\(l≠[]->∃r rest,A=some ⟨r,0,none⟩/\Hv r=some (.cells (Zb l++rest).toArray 3 (0,0),true))
def Ui(xs:List α)(I:Nat->Hp->Prop)(rest:List α)(H:Hp):Prop:=∃p,p+rest.length=xs.length/\xs.drop p=rest/\I p H
theorem Ui.start{xs:List α}{H:Hp}(h:I 0 H):Ui xs I xs H:=⟨0,by simp,rfl,h⟩
theorem Ui.stop{xs:List α}{H:Hp}(h:Ui xs I [] H):I xs.length H:=by obtain⟨p,h1,_,h3⟩:=h;simp at h1;rw[<-h1];exact h3
theorem Zn4{xs rest:List α}(hI:∀n,Up (I n)):Up (Ui xs I rest):=by rintro H J hc ⟨p,h1,h2,h3⟩;exact⟨p,h1,h2,hI p H J hc h3⟩
def Kt(P:bF)(y:Value)(xs:List (List Int))(I:Nat->Hp->Prop)(S:Hp->Prop):Prop:=
 ∀n (hn:n<xs.length) v Hv H,UA xs[n] v Hv->Hv.gh=[]->H.Comp Hv->I n H->ZX P y #[v] (H.join Hv) (λw H'=>(w=.bool true/\I (n+1) H')\/(w=.bool false/\S H'))
theorem Ui.call{P:bF}{x:List Int}{r:List (List Int)}{H:Hp}(hy:Kt P y xs I S)(h:Ui xs I (x :: r) H)(hp:UA x v Hv)(hg:Hv.gh=[])(hc:H.Comp Hv) :
  ZX P y #[v] (H.join Hv) (λw H'=>(w=.bool true/\Ui xs I r H')\/(w=.bool false/\S H')):=by
 obtain⟨p,h1,h2,h3⟩:=h;have rS:p<xs.length:=by simp at h1;omega
 have e:=qCt rS;rw[h2]at e;have e1:x=xs[p]:=by injection e
 have e2:xs.drop (p+1)=r:=by injection e with _ e;exact e.symm
 subst e1;refine(hy p rS v Hv H hp hg hc h3).mono ?_;rintro w H' (⟨rfl,h⟩ | ⟨rfl,h⟩)
 ·exact .inl ⟨rfl,p+1,by simp at h1;omega,e2,h⟩
 exact .inr ⟨rfl,h⟩
theorem JG.add{G:Hp}{A:Hp->Prop}{H:Hp}(h:JG G A H)(hc:H.Comp Hv):JG (G.join Hv) A (H.join Hv):=by
 obtain⟨Hc,F,rfl,h1,h2,h3⟩:=h;have c1:F.Comp Hv:=Hp.Comp.cG h1 hc;refine⟨Hc,F.join Hv,Hp.cV _ _ _,h1.mY hc.bX,λb x hb=>?_,h3⟩;cases hg:G b with
 | some y=>rw[Hp.aK hg]at hb;obtain rfl:=dO hb;exact Hp.aK (h2 _ _ hg)
 | none=>
  have:Hv b=some x:=by simpa[Hp.aX,hg]using hb
  exact Hp.aS c1 this
theorem ZuT[Enc α]{H0 H:Hp}{E:TypeId}{l:List α}{b:Option Nat}(hs:H0.Sub H)(ho:fZ H0 H E v l b):∃H5 Hv:Hp,H=H5.join Hv/\H5.Comp Hv/\Hv.gh=[]/\H0.Sub H5/\∃A c,v=.slice A l.length c/\l.length<=c/\aV Hv v l/\(∀x y,Hv x=some y->y.2=true)/\(l≠[]->∃r rest,A=some ⟨r,0,none⟩/\Hv r=some (.cells (Zb l++rest).toArray E (0,0),true)):=by
 obtain⟨h0,⟨rfl,h2,h3⟩ | ⟨r,cap,rest,rfl,rfl,h3,h4,h5⟩⟩:=id ho.own
 ·have hl:l=[]:=qAf h2;subst hl;exact⟨H,.nil,(Hp.dT H).symm,Hp.eO H,rfl,hs,none,0,rfl,aC _,⟨none,0,rfl,λh=>absurd rfl h⟩,λx y h=>by simp[Hp.nil]at h,λh=>absurd rfl h⟩
 have hr:=ho.fresh r rfl;refine⟨⟨λq=>if q=r then none else H q,H.gh⟩,Hp.nil.ins r (.cells (Zb l++rest).toArray E),Hp.ext' (λq=>?_) ?_,⟨λq x y hx hy=>?_,.inr rfl⟩,rfl,⟨λq x hq=>?_,hs.gh⟩,_,cap,rfl,h5,⟨_,cap,rfl,λ_=>⟨_,rfl,YM (ZC (Hp.aF _ _ _))⟩⟩,λx y h=>?_,λ_=>⟨r,rest,rfl,Hp.aF _ _ _⟩⟩
 ·simp only[Hp.aX,Hp.eD];show H q=match (if q=r then none else H q)with | some x=>some x | none=>if q=r then _ else none
  by_cases e:q=r
  ·subst e;simp[h3]
  simp only[e,qAk];cases H q<;>rfl
 ·rw[Hp.bP];simp[Hp.ins,Hp.nil]
 ·have hx:(if q=r then none else H q)=some x:=hx;by_cases e:q=r
  ·rw[iO e]at hx;simp at hx
  rw[Hp.aE _ _ e]at hy;simp[Hp.nil]at hy
 ·show(if q=r then none else H q)=some x;rw[bY (by rintro rfl;rw[hr]at hq;simp at hq)];exact hs.mem _ _ hq
 by_cases e:x=r
 ·subst e;rw[Hp.aF]at h;obtain rfl:=dO h;rfl
 rw[Hp.aE _ _ e]at h;simp[Hp.nil]at h
def LS(rb ry rn:Nat):Value:=.func (.func 199) #[] #[pt rb,pt ry,pt rn]
structure RD(G:Hp)(bc:List Value)(rb rn ry:Nat)(y:Value)(E1 E2 E3:TypeId):Prop where
 b:G rb=some (.cells bc.toArray E1,true)
 n:G rn=some (.cells #[LS rb ry rn] E2,true)
 y:G ry=some (.cells #[y] E3,true)
theorem RD.bA{G G':Hp}{bc:List Value}{rb rn ry:Nat}(h:RD G bc rb rn ry y E1 E2 E3)(hi:bO G G'):RD G' bc rb rn ry y E1 E2 E3:=⟨hi _ _ h.b,hi _ _ h.n,hi _ _ h.y⟩
section
variable{P:bF}[Tz P][Loud P]{H:Hp}
theorem RI{l:List Int}(hl:aV H v l)(hn:l.length<=1000000):LL.Zc P 157 #[v] H λv' H'=>H.Sub H'/\∃b,fZ H H' 3 v' l b:=by
 refine LL.Zc.mono (ZnM hl hn (Loud.aL _)) ?_;rintro v' H' ⟨s,(⟨rfl,rfl⟩ | h)⟩
 ·exact⟨s,none,.nil H _ 3⟩
 exact⟨s,h⟩
theorem Zsz(hI:∀n,Up (I n))(hS:Up S)(tQ:b.pk.length<=1000)(hy:Kt P y xs I S)(rb rn ry:Nat) :
  ∀(r:Nat) (l:List Int) (rest:List (List Int)) (G H Hv:Hp) (v:Value),l.length+r=b.pk.length->RD G b.cs rb rn ry y E1 E2 E3->UA l v Hv->Hv.gh=[]->H.Comp Hv->JG G (Ui xs I (UL b.pk.length r l++rest)) H ->
   LL.Zc P 199 #[v,pt rb,pt ry,pt rn] (H.join Hv) λw H'=>(w=vb true/\JG G (Ui xs I rest) H')\/(w=vb false/\JG G S H'):=by
 intro r
 induction r with
 | zero=>
  rintro l rest G H Hv v hr hf ⟨A,c,rfl,hc,jR,kR,GG⟩ hg gD hj;rw[UL]at hj;refine aO.m (cF Zne) (args:=[.slice A l.length c,pt rb,pt ry,pt rn]) rfl ?_;unfold Nj;have hG:bO G (H.join Hv):=hj.bA.trans (Ue H Hv);refine Y ?_;refine Zg (OL _) rfl (Ux (j:=3) (ZC (hG _ _ hf.b)) rfl) (Y ?_);refine OI (λh1=>?_) (λh1=>?_);rotate_left
  ·exact absurd O h1
  refine Y ?_;refine Zg (OL _) rfl (ZC (hG _ _ hf.y)) (Y ?_);have oX:JG G (λK=>∃Hc:Hp,K=Hc.join Hv/\Hc.Comp Hv/\Ui xs I ([l]++rest) Hc) (H.join Hv):=by obtain⟨Hc,F,rfl,q1,q2,q3⟩:=hj;have c1:Hc.Comp Hv:=gD.bX;have c2:F.Comp Hv:=Hp.Comp.cG q1 gD;exact⟨Hc.join Hv,F,Hp.fT c2.symm,Hp.Comp.gX q1 c2.symm,q2,Hc,rfl,c1,q3⟩
  refine ZN (vs:=[.slice A l.length c]) rfl rfl (JG.call (B:=λw H'=>(w=.bool true/\Ui xs I rest H')\/(w=.bool false/\S H')) ?_ oX) ?_
  ·rintro K ⟨Hc,rfl,q1,q2⟩;exact q2.call hy ⟨A,c,rfl,hc,jR,kR,GG⟩ hg q1
  rintro w H7 ⟨Hc,F,rfl,q1,q2,(⟨rfl,q3⟩ | ⟨rfl,q3⟩)⟩
  ·refine Y ?_;exact .inl ⟨rfl,Hc,F,rfl,q1,q2,q3⟩
  refine Y ?_;exact .inr ⟨rfl,Hc,F,rfl,q1,q2,q3⟩
 | succ r ih=>
  rintro l rest G H Hv v hr hf ⟨A,c,rfl,hc,jR,kR,GG⟩ hg gD hj;rw[UL]at hj;refine aO.m (cF Zne) (args:=[.slice A l.length c,pt rb,pt ry,pt rn]) rfl ?_;unfold Nj;have KU:bO G (G.join Hv):=Ue G Hv;have qE:=hj.add gD;have hGv:∀{K:Hp},bO (G.join Hv) K->bO G K:=λh=>KU.trans h;have Gc:∀{K:Hp} {A':Hp->Prop},JG (G.join Hv) A' K->aV K (.slice A l.length c) l:=λh=>by
   have C3:G.Comp Hv:=by obtain⟨Hc,F,rfl,q1,q2,_⟩:=hj;have:=Hp.Comp.cG q1 gD;exact⟨λb x y h1 h2=>this.mem b x y (q2 _ _ h1) h2,.inr hg⟩
   exact aV.bA jR (λb x hb=>h.bA _ _ (Hp.aS C3 hb))
  generalize H.join Hv=H1 at *;have Iq:=hf.bA KU;have cb:∀{K:Hp} {A':Hp->Prop},JG (G.join Hv) A' K->aD K ⟨rb,0,none⟩ b.cs:=λh=>ZC (h.bA _ _ Iq.b);refine Y ?_;refine Zg (OL _) rfl (Ux (j:=3) (cb qE) rfl) (Y ?_);refine OI (λh1=>?_) (λh1=>?_)
  ·exact absurd h1 O
  refine Y ?_;refine Zg (OL _) rfl (Ux (j:=3) (cb qE) rfl) (Y ?_);refine Zw b.pk.length (λi H'=>JG (G.join Hv) (Ui xs I (((List.range b.pk.length).drop i).flatMap (λi:Nat=>if l.any (λz=>(i:Int) == z)then[]else UL b.pk.length r (l++[(i:Int)]))++rest)) H')
   (λi=>[(0,.slice A l.length c),(1,pt rb),(2,pt ry),(3,pt rn),(20,vi b.pk.length),(21,vi i)]) (λ_=>[]) qE V trivial ?_
  rintro i H2 hi oX;refine Y ?_;refine OI (λh2=>?_) (λh2=>?_)
  ·have gJ:i<(List.range b.pk.length).length:=by rw[qBx];omega
   have xU:=Gc oX;rw[JZ gJ,List.getElem_range,qAL,qBy]at oX;have oG:l.length<=1000000:=O;cases hc:l.any (λz=>(i:Int) == z)with
   | true=>
    rw[hc,iO rfl,qAx]at oX;have gS:=Kq (P:=P) (n:=(i:Int)) xU oG;rw[hc]at gS;refine Y ?_;refine Zji (OL _) ?_ ?_ ?_ ?_;all_goals
     refine Y ?_
     refine Za (vs:=[.slice A l.length c,vi (i:Int)]) rfl gS ?_
     rintro v _ ⟨rfl,rfl⟩
     refine Y ?_
     exact⟨⟨i+1,O⟩,dX O,oX,V,trivial,rfl⟩
   | false=>
    rw[hc,bY (by decide)]at oX;have gS:=Kq (P:=P) (n:=(i:Int)) xU oG;rw[hc]at gS;have key:∀(H4:Hp) (v':Value) (b':Option Nat),H2.Sub H4->fZ H2 H4 3 v' (l++[(i:Int)]) b'->ZX P (LS rb ry rn) #[v'] H4 λw H'=>(w=vb true/\JG (G.join Hv) (Ui xs I (((List.range b.pk.length).drop (i+1)).flatMap (λi:Nat=>if l.any (λz=>(i:Int) == z)then[]else UL b.pk.length r (l++[(i:Int)]))++rest)) H')\/(w=vb false/\JG (G.join Hv) S H'):=by intro H4 v' b' s4 o4;obtain⟨H5,Hv5,rfl,c5,g5,s5,A5,Q4,e5,le5,sl5,ow5,bk5⟩:=ZuT s4 o4;exact Yk U (ih (l++[(i:Int)]) _ (G.join Hv) H5 Hv5 v' (by simp;omega) Iq ⟨A5,Q4,e5,le5,sl5,ow5,bk5⟩ g5 c5 (oX.sub s5))
    have cn:∀{K:Hp},H2.Sub K->aD K ⟨rn,0,none⟩ [LS rb ry rn]:=λh=>ZC ((oX.sub h).bA _ _ Iq.n);refine Y ?_;refine Zji (OL _) ?_ ?_ ?_ ?_
    ·refine Y ?_;refine Za (vs:=[.slice A l.length c,vi (i:Int)]) rfl gS ?_;rintro v _ ⟨rfl,rfl⟩;refine Y ?_;refine Zg (OL _) rfl (cn ⟨λ_ _ h=>h,rfl⟩) (Y ?_);refine Z0 (cs:=[vi (i:Int)]) (OL _) rfl λr6 oF=>?_;refine Ac (Yg oF) ?_;have s3:=Yg (o:=.cells (List.toArray [vi (i:Int)]) 3) oF;have nC:aV (H2.ins r6 (.cells (List.toArray [vi (i:Int)]) 3)) (.slice (some ⟨r6,0,none⟩) 1 1) [(i:Int)]:=Z2 (l:=[(i:Int)]);generalize H2.ins r6 (.cells (List.toArray [vi (i:Int)]) 3)=H3 at *;refine Y ?_;refine Za (vs:=[.slice A l.length c]) rfl (RI (xU.sub s3) oG) ?_;rintro v' H4 ⟨s4,bb,ow⟩;refine Ac s4 ?_;have G1:H2.Sub H4:=⟨λ_ _ h=>s4.mem _ _ (s3.mem _ _ h),s4.gh.trans s3.gh⟩;have o4:fZ H2 H4 3 v' l bb:=⟨ow.own,λr e=>YK s3.bA (ow.fresh r e)⟩;have GZ:=nC.sub s4;exact Zh0
    ·refine Y ?_;refine Za (vs:=[.slice A l.length c,vi (i:Int)]) rfl gS ?_;rintro v _ ⟨rfl,rfl⟩;refine Y ?_;refine Zg (OL _) rfl (cn ⟨λ_ _ h=>h,rfl⟩) (Y ?_);refine Za (vs:=[.slice A l.length c]) rfl (RI xU oG) ?_;rintro v' H3 ⟨s3,bb,ow⟩;refine Ac s3 (Y ?_);refine Z0 (cs:=[vi (i:Int)]) (OL _) rfl λr6 oF=>?_;refine Ac (Yg oF) ?_;have NA:=Yg (o:=.cells (List.toArray [vi (i:Int)]) 3) oF;have GZ:aV (H3.ins r6 (.cells (List.toArray [vi (i:Int)]) 3)) (.slice (some ⟨r6,0,none⟩) 1 1) [(i:Int)]:=Z2 (l:=[(i:Int)]);have o4:=ow.ins (o:=.cells (List.toArray [vi (i:Int)]) 3) oF;have G1:H2.Sub (H3.ins r6 (.cells (List.toArray [vi (i:Int)]) 3)):=⟨λ_ _ h=>NA.mem _ _ (s3.mem _ _ h),NA.gh.trans s3.gh⟩;generalize H3.ins r6 (.cells (List.toArray [vi (i:Int)]) 3)=H4 at *;exact Zh0
    ·refine Y ?_;refine Za (vs:=[.slice A l.length c,vi (i:Int)]) rfl gS ?_;rintro v _ ⟨rfl,rfl⟩;refine Y ?_;refine Z0 (cs:=[vi (i:Int)]) (OL _) rfl λr6 oF=>?_;refine Zq OL ?_;have s3:=Yg (o:=.cells (List.toArray [vi (i:Int)]) 3) oF;have nC:aV (H2.ins r6 (.cells (List.toArray [vi (i:Int)]) 3)) (.slice (some ⟨r6,0,none⟩) 1 1) [(i:Int)]:=Z2 (l:=[(i:Int)]);generalize H2.ins r6 (.cells (List.toArray [vi (i:Int)]) 3)=H3 at *;refine Y ?_;refine Za (vs:=[.slice A l.length c]) rfl (RI (xU.sub s3) oG) ?_;rintro v' H4 ⟨s4,bb,ow⟩;have G1:H2.Sub H4:=⟨λ_ _ h=>s4.mem _ _ (s3.mem _ _ h),s4.gh.trans s3.gh⟩;have o4:fZ H2 H4 3 v' l bb:=⟨ow.own,λr e=>YK s3.bA (ow.fresh r e)⟩;have GZ:=nC.sub s4;exact Zh1
    refine Y ?_;refine Za (vs:=[.slice A l.length c,vi (i:Int)]) rfl gS ?_;rintro v _ ⟨rfl,rfl⟩;refine Y ?_;refine Za (vs:=[.slice A l.length c]) rfl (RI xU oG) ?_;rintro v' H3 ⟨s3,bb,ow⟩;refine Zq OL (Y ?_);refine Z0 (cs:=[vi (i:Int)]) (OL _) rfl λr6 oF=>?_;have NA:=Yg (o:=.cells (List.toArray [vi (i:Int)]) 3) oF;have GZ:aV (H3.ins r6 (.cells (List.toArray [vi (i:Int)]) 3)) (.slice (some ⟨r6,0,none⟩) 1 1) [(i:Int)]:=Z2 (l:=[(i:Int)]);have o4:=ow.ins (o:=.cells (List.toArray [vi (i:Int)]) 3) oF;have G1:H2.Sub (H3.ins r6 (.cells (List.toArray [vi (i:Int)]) 3)):=⟨λ_ _ h=>NA.mem _ _ (s3.mem _ _ h),NA.gh.trans s3.gh⟩;generalize H3.ins r6 (.cells (List.toArray [vi (i:Int)]) 3)=H4 at *;exact Zh1
  have:i=b.pk.length:=O;subst this;rw[qCE (by simp),List.flatMap_nil,qAx]at oX;refine Y ?_;exact .inl ⟨rfl,oX.of (λ_ h=>h) KU⟩
def Zy2(n:Nat)(k:Nat)(vs:List Value)(Hv:Hp):Prop:=∃v,vs=[v]/\∃h:k<(ZD n).length,UA (ZD n)[k] v Hv
theorem ZsC(tQ:b.pk.length<=1000):K5 P (.func (.func 152) #[b.v] #[]) (λ_=>True) (ZD b.pk.length).length (Zy2 b.pk.length):=by
 rintro y I S H ⟨yf,ya,yb,Fl⟩ hI hS hN hr HK;have hy:Kt P y (ZD b.pk.length) I S:=λn hn v Hv H hp hg hc hi=>hr n hn [v] Hv H ⟨v,rfl,hn,hp⟩ hg hc hi;have Fo:y.cells=#[y]:=by rw[Fl];rfl
 refine Yk U ?_;refine aO.m (cF Zxb) (args:=[b.v,y]) rfl ?_;unfold Zku Sb.v;have qE:JG .nil (Ui (ZD b.pk.length) I (UL b.pk.length b.pk.length []++[])) H:=⟨H,.nil,(Hp.dT H).symm,Hp.eO H,λb x h=>by simp[Hp.nil]at h,by rw[qAj];exact .start HK⟩;refine Y ?_;refine V9 rfl (OL _) λrb PC=>?_;have x7:=qE.new (.cells b.v.cells 108) PC;refine Y ?_;refine V9 rfl (OL _) λry HP=>?_;have oX:=x7.new (.cells y.cells 237) HP;refine Y ?_;refine Vs (eI ZgY) (OL _) λrn AY=>?_;have s8:=oX.new (.cells (Value.nilFunc).cells 237) AY;have n1:ry≠rb:=by rintro rfl;rw[Hp.aF]at HP;simp at HP
 have n2:rn≠ry:=by rintro rfl;rw[Hp.aF]at AY;simp at AY
 have n3:rn≠rb:=by rintro rfl;rw[Hp.aE _ _ (qAi n1),Hp.aF]at AY;simp at AY
 refine Y ?_;refine VP rfl rfl (Y ?_);refine Vp (v:=LS rb ry rn) (eI ZgY) rfl rfl (Hp.aF _ _ _) rfl rfl (OL _) ?_;have BM:=s8.dD (.cells #[LS rb ry rn] 237) (Hp.aF _ _ _);have hf:RD ((((Hp.nil.ins rb (.cells b.v.cells 108)).ins ry (.cells y.cells 237)).ins rn (.cells (Value.nilFunc).cells 237)).ins rn (.cells #[LS rb ry rn] 237)) b.cs rb rn ry y 108 237 237:=by
  refine⟨?_,Hp.aF _ _ _,?_⟩
  ·rw[Hp.aE _ _ (qAi n3),Hp.aE _ _ (qAi n3),Hp.aE _ _ (qAi n1)];exact Hp.aF _ _ _
  rw[Hp.aE _ _ (qAi n2),Hp.aE _ _ (qAi n2),<-Fo];exact Hp.aF _ _ _
 refine Y ?_;refine Zg (OL _) rfl (ZC (BM.bA _ _ hf.n)) (Y ?_);have gS:=Zsz hI hS tQ hy rb rn ry b.pk.length [] [] _ _ .nil (.slice none 0 0) (by simp) hf ⟨none,0,rfl,aC _,⟨none,0,rfl,λh=>absurd rfl h⟩,λx y h=>by simp[Hp.nil]at h,λh=>absurd rfl h⟩ rfl (Hp.eO _) BM;rw[Hp.dT]at gS;refine ZN (vs:=[.slice none 0 0]) rfl rfl (Yk U gS) ?_;rintro v H7 (⟨rfl,h7⟩ | ⟨rfl,h7⟩)
 ·refine Y ?_;exact .inl (h7.up (Zn4 hI)).stop
 refine Y ?_;exact .inr (h7.up hS)
end
end
end Go.Proofs
end
section
open Go Go.LL
namespace Go.LL
def Mx(p:Program):bF:={ toProgram:=p,still:=λ_=>false,stillNil:=λ_ _=>rfl,toEnv:=Env.lone }
theorem Ld{P:bF}{f:FuncId}{args:Array Value}{H:Hp}{Post:Value->Hp->Prop}(bB:P.still H.gh=false)(rA:∀v K J,K.Comp J->Post v K->Post v (K.join J))(h:Zc (Mx P.toProgram) f args H Post):Zc P f args H λv H'=>Post v H'/\H'.gh=H.gh:=by
 intro G c cs bU hG;have hR:=h (λfr bJ K=>∃v,fr=c.finish v/\bJ=cs/\Post v K) c cs (λfr bJ K J hc ⟨v,e1,e2,e3⟩=>⟨v,e1,e2,rA v K J hc e3⟩) (λv H' hv=>.stop ⟨v,rfl,rfl,hv⟩);refine hR (λfr bJ K=>K.gh=H.gh->Reach P G fr bJ K) ?_ ?_ ?_ rfl
 ·rintro fr bJ K ⟨v,rfl,rfl,hv⟩ hk;exact hG v K ⟨hv,hk⟩
 ·rintro fr bJ K hs hk;refine .step ⟨λmain w hw=>?_,λhe=>?_⟩
  ·obtain⟨bW,Jz,w',H',es,h1,h2,h3,h4⟩:=hs.1 main w hw;exact⟨bW,Jz,w',H',es,h1,h2,h3 (h2.gh.trans hk),h4⟩
  rw[hk,bB]at he;simp at he
 intro fr bJ K hs;exact hs.elim
end Go.LL
end
open Go Go.LL
namespace Go.Proofs
noncomputable abbrev PL:bF:=Mx Tryz.prog
noncomputable instance:Tz PL:=⟨rfl⟩
noncomputable instance:Loud PL:=⟨λ_=>rfl⟩
variable{b:Sb}{ts:List N4}{p:List Int}{n c cw i:Nat}{P:bF}{H:Hp}{A Aw:Option Addr}{l:List Nat}
noncomputable instance (c:Cx)(i:Nat):Tz (pw c i):=⟨rfl⟩
def ZZ(n m:Nat):List Int:=(ZD n).getD (m-1) []
def UN(b:Sb)(ts:List N4)(m:Nat):Bool:=decide (1<=m) && decide (L9 (kX b ts (ZZ b.pk.length m)).kT ts.length=1)
structure Te where
 (td:Td) (A:Option Addr) (n c:Nat)
instance:Enc Te:=⟨8,λe=>e.td.cs (.slice e.A e.n e.c),λ_=>rfl⟩
structure UB(b:Sb)(ts:List N4)(p:List Int)(e:Te)(Hl:Hp):Prop where
 td:e.td=kX b ts p
 n:e.n=p.length
 c:p.length<=e.c
 bk:∃r rest,e.A=some ⟨r,0,none⟩/\Hl r=some (.cells (Zb p++rest).toArray 3 (0,0),true)
theorem UB.sl{e:Te}{Hl:Hp}(h:UB b ts p e Hl):aV Hl (.slice e.A e.n e.c) p:=by obtain⟨r,rest,h1,h2⟩:=h.bk;exact⟨e.A,e.c,by rw[h.n],λ_=>⟨_,h1,YM (ZC h2)⟩⟩
structure TF(b:Sb)(ts:List N4)(rF:Nat)(v:Value)(bb:Option Nat)(es:List Te)(l:List Nat)(Hl:Hp):Prop where
 at_:Hl rF=some (.cells #[v] 130,true)
 own:jH Hl 122 8 v (Zb es) es.length bb
 ne:bb≠some rF
 all:∀x y,Hl x=some y->y.2=true
 len:es.length=l.length
 JE:∀k (h1:k<l.length) (h2:k<es.length),UB b ts (ZZ b.pk.length l[k]) es[k] Hl
 nd:l.Nodup
 rg:∀m∈l,1<=m/\m<=(ZD b.pk.length).length
def SD(b:Sb)(ts:List N4)(rF:Nat)(l:List Nat)(Hl:Hp):Prop:=∃v bb es,TF b ts rF v bb es l Hl
theorem ZgQ:Tryz.prog.underlying 130=some (.slice 122):=U
theorem Zg1:Ym Tryz.prog 130=some (1,some (.slice none 0 0),24):=U
theorem Zg2:Ym Tryz.prog 122=some (8,some (.agg #[.slice none 0 0,vi 0,vi 0,vi 0,vi 0,vi 0,vi 0,vi 0]),80):=U
theorem TK:Ym Tryz.prog 26=some (1,some (.slice none 0 0),24):=U
def Xk(p:Program)(t:TypeId):Option TypeId:=match p.underlying t with | some (.chan _ e)=>some e | _=>none
theorem ZvP{p:Program}{t e:TypeId}(h:Xk p t=some e):∃d,p.underlying t=some (.chan d e):=by unfold Xk at h;split at h<;>simp only[iF,reduceCtorEq]at h;subst h;exact⟨_,‹_›⟩
theorem ZgN:∃d,Tryz.prog.underlying 179=some (.chan d 26):=ZvP U
theorem XL:∀(N:Nat) (l:List Nat),l.Nodup->(∀m∈l,1<=m/\m<=N)->l.length<=N
 | 0,l,_,h=>by
  cases l with
  | nil=>simp
  | cons x l=>have:=h x (qBu ..);omega
 | N+1,l,hn,h=>by
  by_cases hm:N+1∈l
  ·have h1:=XL N (l.erase (N+1)) (hn.erase _) λj hj=>by obtain⟨h2,h3⟩:=(hn.mem_erase_iff).1 hj;have:=h j h3;omega
   rw[List.length_erase_of_mem hm]at h1;omega
  have:=XL N l hn λj hj=>by
   have h3:=h j hj;have:j≠N+1:=by rintro rfl;exact hm hj
   omega
  omega
theorem ZsB:(ZD 1).length<=24/\(ZD 2).length<=24/\(ZD 3).length<=24/\(ZD 4).length<=24:=by decide +kernel
theorem Cn(h:1<=n/\n<=4):(ZD n).length<=24:=by obtain⟨h1,h2,h3,h4⟩:=ZsB;have:n=1\/n=2\/n=3\/n=4:=O;rcases this with rfl | rfl | rfl | rfl<;>assumption
theorem Zis{n:Nat}:∀(r:Nat) (l p:List Int),p∈UL n r l->(∀z∈l,0<=z/\z<n)->p.length=l.length+r/\∀z∈p,0<=z/\z<n
 | 0,l,p,h,hl=>by obtain rfl:=DO.1 h;exact⟨rfl,hl⟩
 | r+1,l,p,h,hl=>by
  rw[UL,List.mem_flatMap]at h;obtain⟨i,hi,h⟩:=h;split at h
  ·simp at h
  obtain⟨h1,h2⟩:=Zis r _ p h (λz hz=>by
   rcases qAS.1 hz with hz | hz
   ·exact hl z hz
   obtain rfl:=DO.1 hz;have:=qAq.1 hi;omega)
  exact⟨by rw[h1];simp;omega,h2⟩
theorem Zir(h:p∈ZD n):p.length=n/\∀z∈p,0<=z/\z<n:=by obtain⟨h1,h2⟩:=Zis n [] p h (by simp);exact⟨by simpa using h1,h2⟩
section
theorem Zod[Tz P](hP:P.toProgram=Tryz.prog)(bB:P.still H.gh=false){l:List Int}(hb:Zs H b)(ok:fN b)(hg:aD H ⟨1,0,none⟩ [vf 284])(iM:aV H (.slice Aw ts.length cw) ts)(dJ:1<=ts.length/\ts.length<=1000)(ht:∀t∈ts,Yp t)
  (hl:aV H (.slice A l.length c) l) (oG:l.length=b.pk.length) (sU:∀z∈l,0<=z/\z<b.pk.length) :
  LL.Zc P 93 #[ZW b (.slice Aw ts.length cw),.slice A l.length c] H λv H'=>(bO H H'/\v=zC (kX b ts l) (.slice A l.length c))/\H'.gh=H.gh:=by
 refine Ld bB (λv K J hc h=>⟨h.1.trans (Ue _ _),h.2⟩) ?_;rw[hP];exact Ca (P:=PL) hb ok hg iM dJ ht hl oG sU
theorem ZoD[Tz P](hP:P.toProgram=Tryz.prog)(bB:P.still H.gh=false)(jX:Int):LL.Zc P 97 #[ZW b (.slice A n c),vi jX] H λv H'=>(bO H H'/\v=vi (L9 jX n))/\H'.gh=H.gh:=by refine Ld bB (λv K J hc h=>⟨h.1.trans (Ue _ _),h.2⟩) ?_;rw[hP];exact LL.Zc.mono (Py (P:=PL) jX) λv H' ⟨e,e2⟩=>⟨e ▸ .refl _,e2⟩
end
theorem L7{c:Cx}(h:H.cg=l)(h1:1<=cd l/\cd l<=19):(pw c i).still H.gh=false:=by
 subst h;show((H.gh.headD 0 == 0) || (decide (20<=cd (ZP H.gh)) && decide (cd (ZP H.gh)<=24)))=false;unfold Hp.cg at h1;generalize H.gh=g at *;match g with
 | []=>simp[ZP,cd]at h1
 | 0 :: t=>simp[ZP,cd]at h1
 | (n+1) :: t=>
  simp only[List.headD_cons];rw[show((n+1 == 0)=false)from by simp,Bool.false_or];simp;omega
theorem MG(h:H.gh=(n+1) :: l):H.cg=l/\H.hd=n:=by unfold Hp.cg Hp.hd;rw[h];exact⟨rfl,rfl⟩
section
theorem Zoz{c:Cx}(ok:c.Ok){rF rC r1:Nat}(val:fN b)(dJ:1<=ts.length/\ts.length<=1000)(BN:∀t∈ts,Yp t)
  (Xm:c.PI=SD b ts rF) (cN:c.N=(ZD b.pk.length).length) (qI:c.need=UN b ts) (EY:c.msg=λm v Hm=>UA (ZZ b.pk.length m) v Hm)
   (hg:H.gh=[1,1]) (hC:aD H ⟨rC,0,none⟩ [.chan (some c.ch)]) (h1:aD H ⟨r1,0,none⟩ [vi b.pl,vi b.hd,vi b.td,.slice b.A1 b.pk.length b.c1,.slice b.A2 b.nt.length b.c2,.slice Aw ts.length cw])
  (hb:Zs H b) (hw:aV H (.slice Aw ts.length cw) ts) (fU:aD H ⟨1,0,none⟩ [vf 284]) :
  Y2 (pw c i) .deferred 148 #[ptr c.W,pt rC,pt r1,ptr c.M,pt rF] H λ_ H'=>H'.gh=lv 0:=by
 have bB:(pw c i).still H.gh=false:=by rw[hg];rfl
 have hN:=Cn val.n;obtain⟨Q1,hu⟩:=ZgN;refine aO.mK (P:=pw c i) (.inr rfl) Zxd (args:=[ptr c.W,pt rC,pt r1,ptr c.M,pt rF]) rfl ?_;unfold Zkw;refine Y ?_;refine Np (vs:=[ptr c.W]) rfl (Y ?_);refine Zg bB rfl hC (Y ?_);refine S6 (ι:=Nat) (λh H'=>bO H H'/\H'.hd=h/\h<=c.N/\((H'.cg=[1]/\c.need h=false)\/H'.cg=[19])) (λh=>c.N-h) (λ_=>[(0,ptr c.W),(1,pt rC),(2,pt r1),(3,ptr c.M),(4,pt rF),(7,.chan (some c.ch))]) (λ_=>[]) 0
  ⟨.refl H,by unfold Hp.hd;rw[hg];rfl,qAR _,.inl ⟨by unfold Hp.cg;rw[hg];rfl,ok.TR⟩⟩ V trivial ?_
 rintro h H1 ⟨i1,e1,e2,e3⟩;have st1:(pw c i).still H1.gh=false:=by
  rcases e3 with⟨e,_⟩ | e
  ·exact L7 e (by simp[cd])
  exact L7 e (by simp[cd])
 refine Y ?_;refine Zta (p:=Tryz.prog) hu (ZgV TK) (by rw[e1];exact e3) rfl (λm v Hm F9 oZ m1 m2 m3 hm=>?_) ?_
 ·rw[e1]at m3;rw[EY]at hm;obtain⟨A,cp,rfl,EL,jR,kR,GG⟩:=hm;have iG:ZZ b.pk.length m∈ZD b.pk.length:=by unfold ZZ;rw[ZA O];exact IN _
  obtain⟨Eo,pl2⟩:=Zir iG;have dG:ZZ b.pk.length m≠[]:=by intro e;rw[e]at Eo;have:=val.n;simp at Eo;omega
  obtain⟨re,rest,rfl,CY⟩:=GG dG;have hc:H1.Comp Hm:=⟨oZ,.inr F9⟩;have mK:∀x y,Hm x=some y->((H1.join Hm).tagged ((m+1) :: [1])) x=some y:=λx y h=>Hp.aS hc h;have iK:bO H ((H1.join Hm).tagged ((m+1) :: [1])):=λx y h=>Hp.aK (i1 _ _ h);have gK:((H1.join Hm).tagged ((m+1) :: [1])).gh=(m+1) :: [1]:=rfl;have dK:∀x y,H x=some y->Hm x=none:=λx y h=>by
   cases hh:Hm x with
   | none=>rfl
   | some z=>
    obtain⟨e4,e5⟩:=oZ x y z (i1 _ _ h) hh;have:=kR x z hh;rw[e4,this]at e5;simp at e5
  generalize(H1.join Hm).tagged ((m+1) :: [1])=K at *;have slK:=jR.bA (H':=K) (λx y h=>mK x y h);have tn:=Qf (b:=b) (ts:=ts) (l:=ZZ b.pk.length m) ts.length (aC _);generalize hp:ZZ b.pk.length m=p at *;have Dx:(pw c i).still K.gh=false:=L7 (MG gK).1 (by simp[cd]);refine Y ?_;refine Zl (cs:=[vi b.pl,vi b.hd,vi b.td,.slice b.A1 b.pk.length b.c1,.slice b.A2 b.nt.length b.c2,.slice Aw ts.length cw]) Dx rfl (h1.bA iK) rfl (Y ?_);refine Za (vs:=[ZW b (.slice Aw ts.length cw),.slice (some ⟨re,0,none⟩) p.length cp]) rfl (Zod rfl Dx (hb.bA iK) val (fU.bA iK) (hw.bA iK) dJ BN slK Eo pl2) ?_;rintro v H2 ⟨⟨i2,rfl⟩,g2⟩;have KK:(pw c i).still H2.gh=false:=by rw[g2];exact Dx
  refine Y ?_;refine Zl (cs:=[vi b.pl,vi b.hd,vi b.td,.slice b.A1 b.pk.length b.c1,.slice b.A2 b.nt.length b.c2,.slice Aw ts.length cw]) KK rfl ((h1.bA iK).bA i2) rfl (Y ?_);refine Za (vs:=[ZW b (.slice Aw ts.length cw),vi (kX b ts p).kT]) rfl (ZoD rfl KK _) ?_;rintro v H3 ⟨⟨i3,rfl⟩,g3⟩;have Jr:H3.gh=(m+1) :: [1]:=g3.trans (g2.trans gK);obtain⟨Xl,WG⟩:=MG Jr;have Tk:bO H H3:=(iK.trans i2).trans i3;have m3:∀x y,Hm x=some y->H3 x=some y:=λx y h=>i3 _ _ (i2 _ _ (mK x y h));refine Y ?_;refine OI (λh4=>?_) (λh4=>?_)
  ·have hn:c.need m=true:=by rw[qI,UN,hp];simp[h4,m1]
   refine Y ?_
   refine Za (vs:=[ptr c.M]) rfl (Zuc ok (by rw[WG];exact hn) Xl) ?_
   rintro v _ ⟨l,Hl,PJ,C2,_,cZ,gD,rfl⟩
   rw[WG]at C2
   rw[Xm]at PJ
   obtain⟨fv,bb,es,eK⟩:=PJ
   have hJ:∀x y,Hl x=some y->((H3.tagc (12 :: l)).join Hl) x=some y:=λx y h=>Hp.aS gD h
   have i4:bO H3 ((H3.tagc (12 :: l)).join Hl):=λx y h=>Hp.aK h
   have g4:((H3.tagc (12 :: l)).join Hl).gh=(m+1) :: 12 :: l:=by rw[Hp.bP,cZ,qAj];show(H3.hd+1) :: 12 :: l=_;rw[WG]
   have dL:∀x y,H3 x=some y->Hl x=none:=λx y h=>by
    cases hh:Hl x with
    | none=>rfl
    | some z=>
     obtain⟨e4,e5⟩:=gD.mem x y z h hh;have:=eK.all x z hh;rw[e4,this]at e5;simp at e5
   generalize(H3.tagc (12 :: l)).join Hl=H4 at *
   have Rq:(pw c i).still H4.gh=false:=L7 (MG g4).1 (by simp[cd])
   have T6:l.length<=24:=qAT (XL _ l eK.nd eK.rg) hN
   have pV:=eK.len
   refine Y ?_
   refine Zg Rq rfl (ZC (hJ _ _ eK.at_)) ?_
   refine Y ?_
   refine Z0 (cs:=(kX b ts p).cs (.slice (some ⟨re,0,none⟩) p.length cp)) Rq rfl λr7 KP=>?_
   have i5:=Zt (o:=.cells ((kX b ts p).cs (.slice (some ⟨re,0,none⟩) p.length cp)).toArray 122) KP
   have g5:(H4.ins r7 (.cells ((kX b ts p).cs (.slice (some ⟨re,0,none⟩) p.length cp)).toArray 122)).gh=(m+1) :: 12 :: l:=g4
   have c7:aD (H4.ins r7 (.cells ((kX b ts p).cs (.slice (some ⟨re,0,none⟩) p.length cp)).toArray 122)) ⟨r7,0,none⟩ ((kX b ts p).cs (.slice (some ⟨re,0,none⟩) p.length cp)):=VJ
   generalize H4.ins r7 (.cells ((kX b ts p).cs (.slice (some ⟨re,0,none⟩) p.length cp)).toArray 122)=H5 at *
   have DX:(pw c i).still H5.gh=false:=L7 (MG g5).1 (by simp[cd])
   have o5:jH H5 122 8 fv (Zb es) es.length bb:=eK.own.sub λx y _ h=>i5 _ _ (hJ _ _ h)
   have f5:=i5 _ _ (hJ _ _ eK.at_)
   have TT:bO H3 H5:=i4.trans i5
   refine Y ?_
   refine S9 (m:=1) (xs:=(kX b ts p).cs (.slice (some ⟨re,0,none⟩) p.length cp)) (dC ZgQ) (dC ZgQ) (eI Zg2) rfl (by decide) rfl rfl o5 (.inr ⟨_,1,rfl,c7⟩) rfl rfl O (by decide) DX λv' H6 b' o6 ch=>?_
   have f6:=ch.keep _ _ f5 eK.ne
   have g6:H6.gh=(m+1) :: 12 :: l:=ch.gh.trans g5
   have st6:(pw c i).still H6.gh=false:=L7 (MG g6).1 (by simp[cd])
   have PO:b'≠some rF:=by
    rcases ch.new with rfl | ⟨r,rfl,hr⟩
    ·exact eK.ne
    intro e;obtain rfl:=dO e;rw[f5]at hr;simp at hr
   obtain⟨A',c',ev,_⟩:=o6.cells
   subst ev
   refine Y ?_
   refine Vp (eI Zg1) rfl rfl f6 rfl rfl st6 ?_
   obtain⟨e',WF⟩:∃e':Te,e'=⟨kX b ts p,some ⟨re,0,none⟩,p.length,cp⟩:=⟨_,rfl⟩
   have o7:jH (H6.ins rF (.cells #[.slice A' (es.length+1) c'] 130)) 122 8 (.slice A' (es.length+1) c') (Zb (es++[e'])) (es++[e']).length b':=by
    have e9:Zb (es++[e'])=Zb es++(kX b ts p).cs (.slice (some ⟨re,0,none⟩) p.length cp):=by rw[LJ,WF];simp[Zb,Enc.enc]
    rw[e9,qAc,List.length_singleton];refine o6.sub λx y e h=>?_;rw[Hp.aE _ _ (by rintro rfl;exact PO e)];exact h
   have f7:(H6.ins rF (.cells #[.slice A' (es.length+1) c'] 130)) rF=some (.cells #[.slice A' (es.length+1) c'] 130,true):=Hp.aF _ _ _
   have g7:(H6.ins rF (.cells #[.slice A' (es.length+1) c'] 130)).gh=(m+1) :: 12 :: l:=g6
   have k7:∀x y,x≠rF->H5 x=some y->bb≠some x->(H6.ins rF (.cells #[.slice A' (es.length+1) c'] 130)) x=some y:=λx y hx h1 h2=>by rw[Hp.aE _ _ hx];exact ch.keep _ _ h1 h2
   generalize H6.ins rF (.cells #[.slice A' (es.length+1) c'] 130)=H7 at *
   have C6:∀x,bb=some x->∃cs,Hl x=some (.cells cs 122 (0,0),true):=λx hx=>by
    obtain⟨_,⟨_,_,e⟩ | ⟨r,cap,eZ,e,_,h9,_⟩⟩:=eK.own
    ·rw[hx]at e;simp at e
    rw[hx]at e;obtain rfl:=dO e;exact⟨_,h9⟩
   have Wl:∀x y,H3 x=some y->bb≠some x:=λx y h e=>by obtain⟨cs,h9⟩:=C6 x e;rw[dL x y h]at h9;simp at h9
   have Wt:∀x y,H3 x=some y->x≠rF:=λx y h e=>by subst e;have:=dL _ _ h;rw[eK.at_]at this;simp at this
   have k3:∀x y,H3 x=some y->H7 x=some y:=λx y h=>k7 x y (Wt x y h) (TT _ _ h) (Wl x y h)
   let D:Nat->Prop:=λx=>x=rF\/b'=some x\/((Hl x).isSome=true/\bb≠some x)\/(Hm x).isSome=true
   have hD:∀x,D x=(x=rF\/b'=some x\/((Hl x).isSome=true/\bb≠some x)\/(Hm x).isSome=true):=λx=>rfl
   let DE:Hp:=⟨λx=>if x=rF\/b'=some x\/((Hl x).isSome=true/\bb≠some x)\/(Hm x).isSome=true then none else H7 x,(m+1) :: 12 :: l⟩
   let KI:Hp:=⟨λx=>if x=rF\/b'=some x\/((Hl x).isSome=true/\bb≠some x)\/(Hm x).isSome=true then H7 x else none,[]⟩
   have h0:∀x,DE x=if D x then none else H7 x:=λx=>rfl
   have kM:∀x,KI x=if D x then H7 x else none:=λx=>rfl
   have hj:H7=DE.join KI:=by
    refine Hp.ext' (λx=>?_) (by rw[g7,Hp.bP];simp[DE,KI]);rw[Hp.aX,h0,kM];by_cases e:D x
    ·simp[e]
    simp only[e,qAk];cases H7 x<;>rfl
   have QG:DE.Comp KI:=⟨λx y z hy hz=>by
    rw[h0]at hy;rw[kM]at hz;by_cases e:D x
    ·rw[iO e]at hy;simp at hy
    rw[bY e]at hz;simp at hz,.inr rfl⟩
   have TN:∀x y,D x->H7 x=some y->KI x=some y:=λx y e h=>by rw[kM,iO e];exact h
   have mD:∀r cs,Hl r=some (.cells cs 3 (0,0),true)->D r/\H7 r=some (.cells cs 3 (0,0),true):=λr cs h=>by
    have q1:bb≠some r:=λe=>by obtain⟨bJ,h9⟩:=C6 r e;rw[h]at h9;simp at h9
    have q2:r≠rF:=by rintro rfl;have:=eK.at_;rw[h]at this;simp at this
    exact⟨.inr (.inr (.inl ⟨by rw[h];rfl,q1⟩)),k7 r _ q2 (i5 _ _ (hJ _ _ h)) q1⟩
   have Gu:c.PI (l++[m]) KI:=by
    rw[Xm];refine⟨_,b',es++[e'],⟨TN _ _ (.inl rfl) f7,o7.sub λx y e h=>TN _ _ (.inr (.inl e)) h,PO,λx y hy=>?_,by rw[qAc,qAc,pV];rfl,λk k1 k2=>?_,?_,λq hq=>?_⟩⟩
    ·rw[kM]at hy;by_cases e:D x
     ·rw[iO e]at hy;rcases e with rfl | e | ⟨e,e8⟩ | e
      ·rw[f7]at hy;obtain rfl:=dO hy;rfl
      ·obtain⟨_,⟨_,_,q⟩ | ⟨r,cap,eZ,q,_,h9,_⟩⟩:=o7
       ·rw[e]at q;simp at q
       rw[e]at q;obtain rfl:=dO q;rw[h9]at hy;obtain rfl:=dO hy;rfl
      ·obtain⟨z,hz⟩:=qBi.1 e;by_cases ex:x=rF
       ·subst ex;rw[f7]at hy;obtain rfl:=dO hy;rfl
       have:=k7 x z ex (i5 _ _ (hJ _ _ hz)) e8;rw[this]at hy;obtain rfl:=dO hy;exact eK.all x _ hz
      obtain⟨z,hz⟩:=qBi.1 e;have:=k3 x z (m3 _ _ hz);rw[this]at hy;obtain rfl:=dO hy;exact kR x _ hz
     rw[bY e]at hy;simp at hy
    ·by_cases hk:k<l.length
     ·have q1:(l++[m])[k]=l[k]:=qBP hk;have q2:(es++[e'])[k]=es[k]'O:=qBP O;rw[q1,q2];obtain⟨a1,a2,a3,r,eZ,a4,a5⟩:=eK.JE k hk O;obtain⟨a6,a7⟩:=mD r _ a5;exact⟨a1,a2,a3,r,eZ,a4,TN _ _ a6 a7⟩
     have yY:k=l.length:=by simp at k1;omega
     subst yY;have q1:(l++[m])[l.length]=m:=by simp
     have q2:(es++[e'])[l.length]=e':=by simp[<-pV]
     rw[q1,q2,hp,WF];exact⟨rfl,rfl,EL,re,rest,rfl,TN _ _ (.inr (.inr (.inr (by rw[CY];rfl)))) (k3 _ _ (m3 _ _ CY))⟩
    ·rw[List.nodup_append];exact⟨eK.nd,by simp,λx hx y hy=>by rw[DO.1 hy];rintro rfl;exact C2 hx⟩
    rcases qAS.1 hq with hq | hq
    ·exact eK.rg q hq
    rw[DO.1 hq];omega
   have iH0:bO H DE:=λx y h=>by
    have h3:=Tk _ _ h;rw[h0,bY]
    ·exact k3 _ _ h3
    rintro(e | e | ⟨e,_⟩ | e)
    ·exact Wt x y h3 e
    ·rcases ch.new with rfl | ⟨r,rfl,hr⟩
     ·exact Wl x y h3 e
     obtain rfl:=dO e;rw[TT _ _ h3]at hr;simp at hr
    ·rw[dL x y h3]at e;simp at e
    rw[dK x y h]at e;simp at e
   have gp0:DE.gh=(m+1) :: 12 :: l:=rfl
   clear_value DE KI
   obtain⟨cg0,uX⟩:=MG gp0
   refine Y ?_
   rw[hj]
   refine Za (vs:=[ptr c.M]) rfl (Zn5 ok (kd:=.normal) (.inl rfl) QG cg0 (by rw[uX];exact Gu)).pE ?_
   rintro v _ rfl
   refine Y ?_
   exact⟨m,O,⟨iH0,uX,m2,.inr rfl⟩,V,trivial,rfl⟩
  have hn:c.need m=false:=by rw[qI,UN,hp];simp[h4]
  refine Y ?_;exact⟨m,O,⟨Tk,WG,m2,.inl ⟨Xl,hn⟩⟩,V,trivial,rfl⟩
 refine Y ?_;refine Nc rfl rfl ?_;refine Zty (P:=pw c i) Tryz.func149 rfl rfl ?_;exact Y2.mono (Zvw ok (kd:=.deferred) (.inr rfl) (H:=H1.tagged [1,19,1]) rfl) λv H' e=>by rw[e];rfl
end
