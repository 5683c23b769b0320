import Derived.Test.YtlhomfgcibjccaaGreatDoorP10
set_option linter.all false
namespace Go.LL
section
variable{G:Prop}{b i j k:Nat}{l:List Nat}{u:Trace}
theorem Zia(h:G:=by
  have hl:=h.bI.AH b nH hb;rcases tT with⟨e,e2⟩ | e
  ·intro hn;rw[(Uf e (by simp[cd])).2,hn]at e2;simp at e2
  rw[(Uf e (by simp[cd])).1]at hl;exact hl.2.2 (.inr (by simp[cd]))):G:=h
theorem Zib(h:G:=by
  constructor
  ·rintro⟨j,h1,h2⟩;by_cases e:j=b
   ·subst e;rw[jU]at h2;simp[cd]at h2
   rw[fI j e]at h2;exact⟨j,h1,h2⟩
  rintro⟨j,h1,h2⟩;by_cases e:j=b
  ·subst e;omega
  exact⟨j,h1,by rw[fI j e];exact h2⟩):G:=h
open Go.Conc
open Go.ConcN (sumTo upd sumTo_upd upd_ne upd_same)
theorem SR{f:Nat->Nat}:∀{n:Nat},(∀i,i<n->f i=0)->sumTo n f=0
 | 0,_=>rfl
 | n+1,h=>by rw[sumTo,SR λi hi=>h i O,h n O]
theorem Zg6{f:Nat->Nat}:∀{n:Nat},sumTo n f≠0->∃i,i<n/\f i≠0
 | 0,h=>absurd rfl h
 | n+1,h=>by
  by_cases e:f n=0
  ·rw[sumTo,e,qBY]at h;obtain⟨i,h1,h2⟩:=Zg6 h;exact⟨i,O,h2⟩
  exact⟨n,O,e⟩
theorem Pw{f:Nat->Nat}{b:Nat}:∀{n:Nat},b<=n->(∀i,i<n->f i<=1)->(∀i,i<b->f i=0)->sumTo n f<=n-b
 | 0,_,_,_=>qAR _
 | n+1,hb,h1,h2=>by
  rw[sumTo];by_cases e:b=n+1
  ·rw[SR λi hi=>h2 i O,h2 n O];omega
  have:=Pw (f:=f) (b:=b) (n:=n) O (λi hi=>h1 i O) h2;have:=h1 n O;omega
structure Cx extends TC where
 tM:TypeId
 tW:TypeId
 K:Nat
 need:Nat->Bool
 PI:List Nat->Hp->Prop
 N:Nat
 msg:Nat->Value->Hp->Prop
structure Ts where
 tag:Nat->List Nat
 next:Nat
 more:Nat
 mu:Mu
 wg:Wg
 kP:List Nat
 hd:Nat->Nat
 iR:Nat
 cls:Bool
 cn:Nat
abbrev Ts.pm(s:Ts):Nat:=s.more+s.iR
def ZP:List Nat->List Nat
 | (_+1) :: l=>l
 | _=>[]
def GO:List Nat->Nat
 | (n+1) :: _=>n
 | _=>0
def pP(l:List Nat)(h:Nat):Nat:=if cd l=0 then 0 else h+1
def ZG(s:Ts)(j:Nat):List Nat:=pP (s.tag j) (s.hd j) :: s.tag j
def Hp.cg(H:Hp):List Nat:=ZP H.gh
def Hp.hd(H:Hp):Nat:=GO H.gh
def Hp.tagc(H:Hp)(l:List Nat):Hp:=H.tagged ((H.hd+1) :: l)
theorem Vb(H:Hp)(l:List Nat):(H.tagc l).cg=l:=rfl
theorem UF(H:Hp)(l:List Nat)(b:Nat):H.tagc l b=H b:=rfl
def J4(c:Cx)(x:Mu):Obj:=.cells #[.int .i32 (x.st:Nat),.int .u32 (x.sm:Nat)] c.tM
def U1(c:Cx)(y:Wg):Obj:=.cells #[.int .u64 ((y.v * 4294967296+y.wt:Nat):Int),.int .u32 (y.wm:Nat)] c.tW
def Uw(s:Ts):Obj:=.chan 0 #[] s.cls s.cn s.cn false
def hO(c:Cx)(s:Ts):Hp:=((Hp.nil.ins c.ch (Uw s)).ins c.M (J4 c s.mu)).ins c.W (U1 c s.wg)
def df(c:Nat):Nat:=one ((2<=c && c<=10) || (14<=c && c<=18) || (21<=c && c<=24) || c == 31 || c == 32 || (34<=c && c<=38))
def Oo(n m:Prop)(c:Nat):Prop:=(c=1->¬ m)/\(2<=c->c<=12->n/\¬ m)/\(c=0\/13<=c->n->m)
structure bK(c:Cx)(s:Ts):Prop where
 mu:s.mu.aJ s.tag s.next
 wg:s.wg.aJ s.tag s.next s.more
 oS:∀j,j<s.next->s.mu.dM (Mu.mu s.mu s.pm s.tag s.next) (s.tag j)
 oQ:∀v,(s.tag 0=[35,v]->s.wg.v<=v)/\(s.tag 0=[34,v]->s.wg.v<v)
 nV:∀k n,k<=33->s.tag 0=[k,n]->s.next=c.base+n
 tk:∀j,j<s.next->cd (s.tag j)=12->s.tag j=12 :: s.kP
 num:s.next+s.more=c.base+c.K
 pos:1<=c.base
 nb:c.base<=s.next
 kO:∀j,1<=j->j<c.base->s.tag j=[0]
 kW:∀j,c.base<=j->j<s.next->cd (s.tag j)<=24/\(cd (s.tag j)=0->s.tag j=[0])
 HC:s.kP.Nodup
 qY:∀m∈s.kP,1<=m/\m+s.iR<=c.N/\c.need m=true
 AH:∀j,c.base<=j->j<s.next->Oo (c.need (s.hd j)=true) (s.hd j∈s.kP) (cd (s.tag j))
 uX:(s.cls=true->s.hd 0=0/\s.iR=0)/\(s.cls=false->s.hd 0=s.iR+1)
 FU:s.iR<=c.N
 C5:∀j,c.base<=j->j<s.next->s.hd j+s.iR<=c.N
 uS:∀j k,c.base<=j->j<s.next->c.base<=k->k<s.next->1<=s.hd j->s.hd j=s.hd k->j=k
 pC:∀m,1<=m->m+s.iR<=c.N->c.need m=true->m∈s.kP\/∃j,c.base<=j/\j<s.next/\s.hd j=m
 run:s.cls=false->∀j,c.base<=j->j<s.next->1<=cd (s.tag j)/\cd (s.tag j)<=19/\s.tag j≠[19,1]
 yT:34<=cd (s.tag 0)->s.cls=true
def YZ(s:Ts):Prop:=∃j,j<s.next/\(cd (s.tag j)=12\/cd (s.tag j)=40)
def Y6(s:Ts)(j:Nat):Prop:=20<=cd (s.tag j)\/cd (s.tag j)=0
def Cm(c:Cx)(Hs:Hp)(b:Nat):Prop:=(∃x,Hs b=some x)/\b≠c.M/\b≠c.W/\b≠c.ch
structure ZM(c:Cx)(s:Ts)(Hs:Hp)(t:Trace):Prop where
 bI:bK c s
 tr:Tr c.toTC s.next (Y6 s) (Cm c Hs) t
 deaf:∀j,c.live s.next j->cd (s.tag j)≠0->Deaf t j=df (cd (s.tag j))
 gL:cd (s.tag 0)=40->(∀q x a,t[q]? = some x->x.act.touch? = some a->a.loc.isMemory=true->Knows t 0 q\/(a.kind=.atomic/\(c.old a.loc\/c.Sh a.loc)))/\t.HandedOver
 heap:(YZ s/\Hs=hO c s)\/(¬ YZ s/\∃Hl:Hp,Hs=(hO c s).join Hl/\(hO c s).Comp Hl/\c.PI s.kP Hl)
structure Cx.Ok(c:Cx):Prop where
 ne:c.M≠c.W
 AG:c.ch≠c.M
 AF:c.ch≠c.W
 pos:1<=c.K
 TR:c.need 0=false
 own:∀l H,c.PI l H->∀b x,H b=some x->x.2=true
 FH:c.K<=100000000
 aP:∀l H g,c.PI l H->c.PI l (H.tagged g)
def ZS(s:Ts)(j:Nat):Prop:=(cd (s.tag j)=7/\s.mu.sm=0)\/(cd (s.tag j)=36/\s.wg.wm=0)
def Yw(l:List Nat):Prop:=(1<=cd l/\cd l<=19)\/30<=cd l
def Z5(l:List Nat):Prop:=20<=cd l/\cd l<=24
def UX(g:List Nat):Prop:=Yw (ZP g)
def JT(g:List Nat):Prop:=Z5 (ZP g)
def UW(c:Cx)(d:Bool)(g:List Nat):Prop:=if d then 3<=g.headD 0/\g.tail=[30,c.K]else(ZP g=[1]/\c.need (GO g)=false)\/ZP g=[19]
def bG(p:Program)(c:Cx):Vx p where
 S:=Ts
 tag:=ZG
 next:=Ts.next
 more:=Ts.pm
 Inv:=ZM c
 Blk:=ZS
 act:=UX
 hsh:=JT
 left:=[0,0]
 stl:=λg=>g.headD 0 == 0 || (decide (20<=cd (ZP g)) && decide (cd (ZP g)<=24))
 stlNil:=rfl
 ch:=c.ch
 cls:=Ts.cls
 can:=UW c
 puts:=λg g' v Hm=>∃r,g=(r+3) :: [30,c.K]/\g'=(r+2) :: [30,c.K]/\c.msg (c.N-r) v Hm
 gets:=λg g' v Hm=>∃m,g'=(m+1) :: [1]/\1<=m/\m<=c.N/\GO g<m/\c.msg m v Hm
 shut:=λ_=>[1,19,1]
theorem J6{c:Cx}(h:c.M≠c.W)(s:Ts):hO c s c.M=some (J4 c s.mu,true):=by unfold hO;rw[Hp.aE _ _ h,Hp.aF]
theorem J7(c:Cx)(s:Ts):hO c s c.W=some (U1 c s.wg,true):=Hp.aF _ _ _
theorem J5{c:Cx}(h1:c.ch≠c.M)(h2:c.ch≠c.W)(s:Ts):hO c s c.ch=some (Uw s,true):=by unfold hO;rw[Hp.aE _ _ h2,Hp.aE _ _ h1,Hp.aF]
theorem Aq{c:Cx}{s:Ts}(h1:b≠c.M)(h2:b≠c.W)(h3:b≠c.ch):hO c s b=none:=by unfold hO;rw[Hp.aE _ _ h2,Hp.aE _ _ h1,Hp.aE _ _ h3];rfl
theorem ZlA{c:Cx}{s s':Ts}(h1:b≠c.M)(h2:b≠c.W)(hc:Uw s'=Uw s):hO c s' b=hO c s b:=by unfold hO;rw[Hp.aE _ _ h2,Hp.aE _ _ h1,Hp.aE _ _ h2,Hp.aE _ _ h1,hc]
theorem Ur{c:Cx}{s:Ts}{y:Obj×Bool}(h:hO c s b=some y):(b=c.M\/b=c.W\/b=c.ch)/\y.2=true:=by
 unfold hO at h;by_cases h1:b=c.W
 ·subst h1;rw[Hp.aF]at h;exact⟨.inr (.inl rfl),by rw[<-dO h]⟩
 rw[Hp.aE _ _ h1]at h;by_cases h2:b=c.M
 ·subst h2;rw[Hp.aF]at h;exact⟨.inl rfl,by rw[<-dO h]⟩
 rw[Hp.aE _ _ h2]at h;by_cases h3:b=c.ch
 ·subst h3;rw[Hp.aF]at h;exact⟨.inr (.inr rfl),by rw[<-dO h]⟩
 rw[Hp.aE _ _ h3]at h;simp[Hp.nil]at h
section
variable{c:Cx}{s:Ts}{Hs:Hp}{t:Trace}
theorem ZM.mw(h:ZM c s Hs t){x:Obj×Bool}(hb:hO c s b=some x):Hs b=some x:=by
 rcases h.heap with⟨_,e⟩ | ⟨_,Hl,e,_⟩
 ·rw[e];exact hb
 rw[e];exact Hp.aK hb
theorem ZM.yH(ok:c.Ok)(h:ZM c s Hs t):Hs c.M=some (J4 c s.mu,true):=h.mw (J6 ok.ne s)
theorem ZM.yG(h:ZM c s Hs t):Hs c.W=some (U1 c s.wg,true):=h.mw (J7 c s)
theorem ZM.C8(ok:c.Ok)(h:ZM c s Hs t):Hs c.ch=some (Uw s,true):=h.mw (J5 ok.AG ok.AF s)
theorem X7{g:List Nat}(h:ZG s i=g)(hz:cd (ZP g)≠0):s.tag i=ZP g/\s.hd i=GO g:=by
 subst h;unfold ZG pP at hz ⊢;by_cases e:cd (s.tag i)=0
 ·rw[iO e]at hz;exact absurd rfl hz
 rw[bY e];exact⟨rfl,rfl⟩
theorem Uf(h:ZP (ZG s i)=l)(hl:cd l≠0):s.tag i=l/\GO (ZG s i)=s.hd i:=by obtain⟨h1,h2⟩:=X7 (i:=i) rfl (by rw[h];exact hl);exact⟨h1.trans h,h2.symm⟩
theorem RM(h:bK c s)(hj:j<s.next)(hc:30<=cd (s.tag j)):j=0:=by
 rcases qAv j with h0 | h0
 ·exact h0
 rcases qAH j c.base with h1 | h1
 ·rw[h.kO j h0 h1]at hc;simp[cd]at hc
 have:=(h.kW j h1 hj).1;omega
theorem bK.cS(h:bK c s):0<s.next:=by have:=h.pos;have:=h.nb;omega
theorem bK.over(h:bK c s)(h0:37<=cd (s.tag 0))(hb:c.base<=j)(hj:j<s.next):s.tag j=[0]:=by
 obtain⟨g1,g2,g3,g4,g5,g6⟩:=h.wg;have hv:=g6 h0;obtain⟨_,_,zL,zE⟩:=g5 O;have zW:Ct cW s.tag s.next=0:=O;obtain⟨h1,h2⟩:=h.kW j hb hj;have a1:=Ct.le cW s.tag hj;have a2:=Ct.le cL s.tag hj;have a3:=Ct.le cE s.tag hj;refine h2 (oR λdG=>?_);have:∀n:Fin 25,n.val≠0->cW n.val+cL n.val+cE n.val=1:=by decide
 have:=this ⟨cd (s.tag j),O⟩ dG;simp only at this;omega
theorem ZmC{old:Loc->Prop}{t:Trace}(hu:∀op∈u,op.g=0\/op.act.touch? = none)
  (h:(∀q x a,t[q]? = some x->x.act.touch? = some a->a.loc.isMemory=true->Knows t 0 q\/(a.kind=.atomic/\old a.loc))/\t.HandedOver) :
  (∀q x a,(t++u)[q]? = some x->x.act.touch? = some a->a.loc.isMemory=true->Knows (t++u) 0 q\/(a.kind=.atomic/\old a.loc))/\(t++u).HandedOver:=by
 refine⟨λq x a hx ha hm=>?_,handedOver_app h.2 hu⟩;rcases getElem?_append_cases hx with⟨_,h1⟩ | ⟨_,h1⟩
 ·exact(h.1 q x a h1 ha hm).imp (·.app u) id
 rcases hu x h1 with h2 | h2
 ·have:=knows_own hx;rw[h2]at this;exact .inl this
 rw[h2]at ha;simp at ha
theorem bK.live(ok:c.Ok)(h:bK c s)(D:Nat->Option Bool)(hb:∀j,j<s.next->ZG s j≠[0,0]->ZS s j\/(s.cls=false/\∃d,D j=some d/\UW c d (ZG s j)))(hD:∀j k,D j=some true->D k=some false->False):False:=by
 have hm:=h.wg.main;have nl:∀j,cd (s.tag j)≠0->ZG s j≠[0,0]:=by
  intro j hj e;have:s.tag j=[0]:=by simpa[ZG]using qAC List.tail e
  rw[this]at hj;exact hj rfl
 have h0:(cd (s.tag 0)=36/\s.wg.wm=0)\/(s.cls=false/\D 0=some true/\s.tag 0=[30,c.K]):=by
  rcases hb 0 h.cS (nl 0 O)with(⟨h1,_⟩ | h1) | ⟨h1,d,h2,h3⟩
  ·omega
  ·exact .inl h1
  right;cases d with
  | true=>exact⟨h1,h2,h3.2⟩
  | false=>
   exfalso;rcases h3 with⟨e,_⟩ | e
   ·rw[(Uf e (by simp[cd])).1]at hm;simp[cd]at hm
   rw[(Uf e (by simp[cd])).1]at hm;simp[cd]at hm
 have nr:∀j,j<s.next->j≠0->cd (s.tag j)=0\/(cd (s.tag j)=7/\s.mu.sm=0):=by
  intro j hj qE;by_cases e:cd (s.tag j)=0
  ·exact .inl e
  have bV:cd (s.tag j)<=24:=by
   rcases qAH j c.base with h1 | h1
   ·rw[h.kO j O h1];decide
   exact(h.kW j h1 hj).1
  rcases hb j hj (nl j e)with(h1 | h1) | ⟨h1,d,h2,h3⟩
  ·exact .inr h1
  ·omega
  exfalso;cases d with
  | true=>
   have h4:s.tag j=[30,c.K]:=h3.2;rw[h4]at bV;simp[cd]at bV
  | false=>
   rcases h0 with h4 | h4
   ·have:=h.yT O;rw[h1]at this;simp at this
   exact hD 0 j h4.2.1 h2
 have c0:cd (s.tag 0)=36\/cd (s.tag 0)=30:=h0.imp (·.1) λh=>by rw[h.2.2];rfl
 have cls:∀j,j<s.next->cd (s.tag j)=0\/(cd (s.tag j)=7/\s.mu.sm=0)\/cd (s.tag j)=36\/cd (s.tag j)=30:=by
  intro j hj;by_cases e:j=0
  ·subst e;exact .inr (.inr c0)
  exact(nr j hj e).imp id .inl
 have z:∀f:Nat->Nat,f 0=0->f 7=0->f 36=0->f 30=0->Ct f s.tag s.next=0:=by intro f h0 h7 Wx WM;refine SR λi hi=>?_;rcases cls i hi with e | ⟨e,_⟩ | e | e<;>rw[e]<;>assumption
 have zH:=z Zk rfl rfl rfl rfl;have zT:=z cT rfl rfl rfl rfl;have zA:=z cA rfl rfl rfl rfl;have zU:=z cU rfl rfl rfl rfl;have zR:=z cR rfl rfl rfl rfl;have zL:=z cL rfl rfl rfl rfl;have zE:=z cE rfl rfl rfl rfl;obtain⟨f1,f2,f3,f4,f5,f6⟩:=h.mu;by_cases hq:Ct cQ s.tag s.next=0
 ·have nw:∀j,j<s.next->j≠0->cd (s.tag j)=0:=by
   intro j hj qE;rcases nr j hj qE with e | ⟨e,_⟩
   ·exact e
   have:=Ct.le cQ s.tag hj;rw[e,hq]at this;exact absurd this (by decide)
  rcases h0 with h0 | ⟨h1,_,h2⟩
  ·have zW:Ct cW s.tag s.next=0:=by
    refine SR λi hi=>?_;by_cases e:i=0
    ·subst e;rw[h0.1];rfl
    rw[nw i hi e];rfl
   obtain⟨g1,g2,g3,g4,g5,g6⟩:=h.wg;rw[h0.1]at g1;replace g1:s.wg.v=Ct cW s.tag s.next+0:=g1;have:=g4 h0.1;omega
  have hn:=h.nV 30 c.K O h2
  have hp:=ok.pos
  have gI:=h.pos
  have:=(h.run h1 c.base (aC _) O).1
  rw[nw c.base O O]at this
  omega
 obtain⟨i,hi,pU⟩:=Zg6 hq;have hs:s.mu.sm=0:=by
  rcases cls i hi with e | ⟨_,e⟩ | e | e
  ·rw[e]at pU;exact absurd rfl pU
  ·exact e
  ·rw[e]at pU;exact absurd rfl pU
  rw[e]at pU;exact absurd rfl pU
 rcases qAv s.mu.S with h0 | h0
 ·have:=f5 h0;omega
 have:=f6 O;omega
theorem Zvy(hu:∀op∈u,RL i Hs op)(j:Nat):Deaf (t++u) j=Deaf t j:=by
 by_cases h:j=i
 ·subst h;obtain⟨l⟩:=u;rw[Deaf_append];have hl:∀op∈l,RL j Hs op:=λop h=>hu op (by simpa using h);clear hu;generalize Deaf t j=d;induction l generalizing d with
  | nil=>rfl
  | cons y l ih=>
   rw[qBF];have:deafStep j d y=d:=by obtain⟨_,h2⟩:=hl y (by simp);rcases h2 with⟨loc,wr,ha,_⟩ | ⟨f,ha⟩ | ha<;>simp[deafStep,ha]
   rw[this];exact ih (λop h=>hl op (by simp[h])) d
 exact Deaf_other t (qAi h) u λop bH=>(hu op bH).1
theorem ZvA(f:Nat->Nat)(tag:Nat->List Nat)(hi:i<k)(h:f (cd l)=f (cd (tag i))):Ct f (upd tag i l) k=Ct f tag k:=by have:=counts (tag:=tag) (l:=l) hi f;omega
theorem Mu.dM.keep{x x':Mu}{m m':Nat}(h:x.dM m l)(hm:m'<=m)(bB:m'=m->x'.st=x.st)(h9:cd l=9->x.S=1->x'.S=1/\x.n<=x'.n):x'.dM m' l:=by
 have key:∀v k,(m<=k/\(m=k->x.st=v))->(m'<=k/\(m'=k->x'.st=v)):=by rintro v k ⟨h1,h2⟩;refine⟨O,λe=>?_⟩;have:m'=m:=O;rw[bB this];exact h2 O
 unfold Mu.dM at h ⊢;split
 ·exact key _ _ h
 ·exact key _ _ h
 ·exact⟨(key _ _ ⟨h.1,h.2.1⟩).1,(key _ _ ⟨h.1,h.2.1⟩).2,h.2.2⟩
 ·obtain⟨h1,h2,h3⟩:=h;obtain⟨h4,h5⟩:=h9 rfl h1;exact⟨h4,h2,O⟩
 ·exact qBj hm h
 ·exact qBj hm h
 ·exact qBj hm h
 ·exact qBj hm h
 ·exact qBj hm h
 ·exact h
 ·exact h
 ·exact h
 ·exact h
 trivial
theorem Li{t:Trace}(hu:∀op∈u,∀d,deafStep j d op=d):Deaf (t++u) j=Deaf t j:=by
 obtain⟨l⟩:=u;rw[Deaf_append];have hl:∀op∈l,∀d,deafStep j d op=d:=λop h=>hu op (by simpa using h);clear hu;generalize Deaf t j=d;show l.foldl _ d=d;induction l generalizing d with
 | nil=>rfl
 | cons y l ih=>
  rw[qBF,hl y (by simp)];exact ih (λop h=>hl op (by simp[h])) d
theorem Mu.aJ.Jv{x:Mu}{tag M0:Nat->List Nat}(F:x.aJ tag k)(h:∀f:Nat->Nat,f 1=f 19\/f=dQ->f≠dQ->Ct f M0 k=Ct f tag k):x.aJ M0 k:=by
 have e:=λ(f:Nat->Nat) h1 h2=>h f (.inl h1) h2;obtain⟨f1,f2,f3,f4,f5,f6⟩:=F;have n:∀f:Nat->Nat,f 1=0->f≠dQ:=λf h1 h2=>by rw[h2]at h1;exact absurd h1 (by decide)
 have aH:=e Zk rfl (n _ rfl);have aT:=e cT rfl (n _ rfl);have aQ:=e cQ rfl (n _ rfl);have aA:=e cA rfl (n _ rfl);have aU:=e cU rfl (n _ rfl);have aR:=e cR rfl (n _ rfl);refine⟨?_,f2,f3,f4,?_,?_⟩
 ·rw[aH];exact f1
 ·rw[aQ,aT,aA,aR,aU];exact f5
 rw[aQ,aT,aA,aR];exact f6
theorem bK.v8(h:bK c s)(hb:c.base<=b)(bV:b<s.next)(hg:cd (s.tag b)=1\/cd (s.tag b)=19)(hl:cd l=1\/cd l=19) :
  s.mu.aJ (upd s.tag b l) s.next/\(∀m,s.wg.aJ (upd s.tag b l) s.next m↔s.wg.aJ s.tag s.next m):=by
 have gF:b≠0:=by have:=h.pos;omega
 have cc:∀f:Nat->Nat,f 1=f 19->Ct f (upd s.tag b l) s.next=Ct f s.tag s.next:=by intro f hf;refine ZvA f s.tag bV ?_;rcases hg with e | e<;>rcases hl with e' | e'<;>rw[e,e']<;>first | rfl | exact hf | exact hf.symm
 refine⟨h.mu.Jv λf h1 h2=>cc f (h1.resolve_right h2),λm=>?_⟩;have t0:upd s.tag b l 0=s.tag 0:=upd_ne _ _ (qAi gF);have wW:=cc cW rfl;have wL:=cc cL rfl;have wE:=cc cE rfl;constructor
 ·rintro⟨g1,g2,g3,g4,g5,g6⟩;rw[t0]at g1 g2 g3 g4 g5 g6;rw[wW]at g1;rw[wL,wE]at g4;rw[wL,wE]at g5;exact⟨g1,g2,g3,g4,g5,g6⟩
 rintro⟨g1,g2,g3,g4,g5,g6⟩;refine⟨?_,?_,?_,?_,?_,?_⟩<;>rw[t0]
 ·rw[wW];exact g1
 ·exact g2
 ·exact g3
 ·rw[wL,wE];exact g4
 ·rw[wL,wE];exact g5
 exact g6
theorem Zoj{p:Program}(ok:c.Ok):(bG p c).Sound where
 own:=by
  intro(s:Ts) Hs t h b x hx;rcases(show ZM c s Hs t from h).heap with⟨_,e⟩ | ⟨_,Hl,e,hc,hp⟩
  ·rw[e]at hx;exact(Ur hx).2
  rw[e]at hx;simp only[Hp.aX]at hx;cases hh:hO c s b with
  | some z=>rw[hh]at hx;rw[<-dO hx];exact(Ur hh).2
  | none=>rw[hh]at hx;exact ok.own _ _ hp b x hx
 zO:=by
  intro(s:Ts) Hs t i u h hi ha hu;have h:ZM c s Hs t:=h;have ha:Yw (ZP (ZG s i)):=ha;have ha:(1<=cd (s.tag i)/\cd (s.tag i)<=19)\/30<=cd (s.tag i):=by
   have hz:cd (ZP (ZG s i))≠0:=by unfold Yw at ha;omega
   rw[(X7 rfl hz).1];exact ha
  have gZ:c.live s.next i:=by
   refine⟨hi,?_⟩;rcases qAv i with h0 | h0
   ·exact .inl h0
   rcases qAH i c.base with h1 | h1
   ·rw[h.bI.kO i h0 h1]at ha;simp[cd]at ha
   exact .inr h1
  refine⟨h.bI,h.tr.lone gZ (λh0 hd=>?_) (Hs:=Hs) (by rw[h.yH ok];simp) (by rw[h.yG];simp) (by rw[h.C8 ok];simp) (λb hb=>by obtain⟨x,hx⟩:=hb.1;rw[hx];simp) hu,λj hj hc=>by rw[Zvy hu];exact h.deaf j hj hc,λnI=>ZmC (old:=λl=>c.old l\/c.Sh l) (λop bH=>?_) (h.gL nI),h.heap⟩;rotate_left
  ·rcases gZ.2 with h1 | h1
   ·exact .inl ((hu op bH).1.trans h1)
   exfalso;rw[h.bI.over O h1 hi]at ha;simp[cd]at ha
  rcases gZ.2 with h1 | h1
  ·exact h0 h1
  have:=(h.bI.kW i h1 hi).1;unfold Y6 at hd;omega
 mute:=by
  intro(s:Ts) Hs t i u h hi ht hu
  have h:ZM c s Hs t:=h
  have ht:ZG s i=[0,0]:=ht
  have ht:s.tag i=[0]:=by simpa[ZG]using qAC List.tail ht
  refine⟨h.bI,h.tr.gV λop bH=>?_,λj hj hc=>?_,λnI=>ZmC (old:=λl=>c.old l\/c.Sh l) (λop bH=>?_) (h.gL nI),h.heap⟩
  rotate_right
  ·obtain⟨_,h2⟩:=hu op bH;rcases h2 with h2 | h2<;>rw[h2]<;>exact .inr rfl
  ·obtain⟨_,h2⟩:=hu op bH;rcases h2 with h2 | h2<;>rw[h2]<;>exact⟨rfl,by simp,by simp⟩
  ·have:i≠j:=by rintro rfl;rw[ht]at hc;exact hc rfl
   rw[Deaf_other t this u λop bH=>(hu op bH).1];exact h.deaf j hj hc
 live:=by intro(s:Ts) Hs t D h hb hD;exact(show ZM c s Hs t from h).bI.live ok D hb hD
 chan:=by intro(s:Ts) Hs t h;exact⟨s.cn,(show ZM c s Hs t from h).C8 ok⟩
 hears:=by
  intro(s:Ts) Hs t j d h hj hc;have h:ZM c s Hs t:=h;have hc:UW c d (ZG s j):=hc;have key:cd (s.tag j)=30\/cd (s.tag j)=1\/cd (s.tag j)=19:=by
   cases d with
   | true=>exact .inl (by rw[show s.tag j=[30,c.K]from hc.2];rfl)
   | false=>
    right;rcases hc with⟨e,_⟩ | e
    ·left;rw[(Uf e (by simp[cd])).1];rfl
    right;rw[(Uf e (by simp[cd])).1];rfl
  have hl:c.live s.next j:=by
   refine⟨hj,?_⟩;rcases qAv j with h0 | h0
   ·exact .inl h0
   rcases qAH j c.base with h1 | h1
   ·rw[h.bI.kO j h0 h1]at key;simp[cd]at key
   exact .inr h1
  rw[h.deaf j hl O];rcases key with e | e | e<;>rw[e]<;>rfl
 FL:=by
  intro(s:Ts) Hs t j h hj hc;have h:ZM c s Hs t:=h;have hc:UW c false (ZG s j):=hc;rintro rfl;have hm:=h.bI.wg.main;rcases hc with⟨e,_⟩ | e
  ·rw[(Uf e (by simp[cd])).1]at hm;simp[cd]at hm
  rw[(Uf e (by simp[cd])).1]at hm;simp[cd]at hm
 FG:=by
  intro(s:Ts) Hs t j h hj hc;have h:ZM c s Hs t:=h;have hc:UW c true (ZG s j):=hc;have ht:s.tag j=[30,c.K]:=hc.2;have:=RM h.bI hj (by rw[ht];simp[cd]);subst this;have h3:=hc.1;simp only[ZG,List.headD_cons,pP,ht]at h3;rw[bY (by simp[cd])]at h3;show s.cls=false;cases bU:s.cls with
  | false=>rfl
  | true=>have:=(h.bI.uX.1 bU).1;omega
 pD:=by
  intro d g h;have h:UW c d g:=h;show UX g;cases d with
  | true=>
   obtain⟨h1,h2⟩:=h;match g,h1,h2 with
   | (n+1) :: l,h1,h2=>
    have h2:l=[30,c.K]:=h2;subst h2;exact .inr (by simp[cd,ZP])
  | false=>
   refine .inl ?_;rcases h with⟨e,_⟩ | e<;>rw[e]<;>simp[cd]
 FK:=by intro(s:Ts) Hs t j h hj hc;have h:ZM c s Hs t:=h;have hc:UW c true (ZG s j):=hc;exact RM h.bI hj (by rw[show s.tag j=[30,c.K]from hc.2];simp[cd])
 meet:=by
  intro(s:Ts) Hs t b n g' v Hm h h0 hb gF bU tD rV tT hp;have h:ZM c s Hs t:=h;have bU:s.cls=false:=bU;have hb:b<s.next:=hb;have tT:UW c false (ZG s b):=tT;obtain⟨r,e0,rfl,IB⟩:=hp;have e0:ZG s 0=(r+3) :: [30,c.K]:=e0;have AS:s.tag 0=[30,c.K]:=by simpa[ZG]using qAC List.tail e0
  have hh0:s.hd 0=r+2:=by have:=qAC (λl=>l.headD 0) e0;simp only[ZG,List.headD_cons,pP,AS]at this;rw[bY (by simp[cd])]at this;omega
  have xZ:s.iR=r+1:=by have:=h.bI.uX.2 bU;omega
  have aI8:=h.bI.FU;have iH:cd (s.tag b)=1\/cd (s.tag b)=19:=by
   rcases tT with⟨e,_⟩ | e
   ·left;rw[(Uf e (by simp[cd])).1];rfl
   right;rw[(Uf e (by simp[cd])).1];rfl
  have nH:c.base<=b:=by
   rcases qAH b c.base with h1 | h1
   ·rw[h.bI.kO b O h1]at iH;simp[cd]at iH
   exact h1
  have hn:n=s.cn:=by have:=h.C8 ok;have tD:Hs.mem c.ch=some (Obj.chan 0 #[] false n n false,true):=tD;rw[tD]at this;simp[Uw]at this;exact this.2
  subst hn;have BQ:c.need (s.hd b)=true->s.hd b∈s.kP:=by exact Zia
  let m:=c.N-r
  have hm:m=c.N-r:=rfl;have x9:GO (ZG s b)<m:=by
   have e1:GO (ZG s b)=s.hd b:=by unfold ZG pP;rw[bY O];rfl
   have:=h.bI.C5 b nH hb;omega
  let s':Ts:={ s with tag:=upd s.tag b [1],hd:=upd (upd s.hd 0 (r+1)) b m,iR:=r,cn:=s.cn+1 }
  have QH:=h.bI.v8 (l:=[1]) nH hb iH (.inl rfl);have fI:∀j,j≠b->s'.tag j=s.tag j:=λj hj=>upd_ne _ _ hj;have jU:s'.tag b=[1]:=upd_same _ _ _;have oJ:∀j,j≠b->j≠0->s'.hd j=s.hd j:=λj h1 h2=>by show upd (upd s.hd 0 (r+1)) b m j=_;rw[upd_ne _ _ h1,upd_ne _ _ h2]
  have jO:s'.hd b=m:=upd_same _ _ _;have QA:s'.hd 0=r+1:=by show upd (upd s.hd 0 (r+1)) b m 0=_;rw[upd_ne _ _ (qAi gF),upd_same]
  have tag0:s'.tag 0=[30,c.K]:=by rw[fI 0 (qAi gF)];exact AS
  have rT:Mu.mu s.mu s'.pm s'.tag s.next<=Mu.mu s.mu s.pm s.tag s.next:=by have:=counts (tag:=s.tag) (l:=[1]) hb dQ;have e1:dQ (cd [1])=6:=rfl;have e2:Ct dQ s'.tag s.next=Ct dQ (upd s.tag b [1]) s.next:=rfl;unfold Mu.mu;show Ct dQ s'.tag s.next+s.mu.sm+6 * (s.more+r)<=Ct dQ s.tag s.next+s.mu.sm+6 * (s.more+s.iR);omega
  have fY:bK c s':=by
   refine⟨QH.1,(QH.2 _).2 h.bI.wg,λj hj=>?_,λv=>?_,λk n hk hl=>?_,λj hj hc=>?_,h.bI.num,h.bI.pos,h.bI.nb,λj h1 h2=>?_,λj h1 h2=>?_,h.bI.HC,λj hj=>?_,λj h1 h2=>?_,⟨λe=>?_,λ_=>?_⟩,?_,λj h1 h2=>?_,λj k h1 h2 h3 h4 h5 h6=>?_,λq h1 h2 h3=>?_,λ_ j h1 h2=>?_,λh1=>?_⟩
   ·by_cases e:j=b
    ·subst e;rw[jU];trivial
    rw[fI j e];exact(h.bI.oS j hj).keep rT (λ_=>rfl) λ_ hS=>⟨hS,aC _⟩
   ·rw[tag0];simp
   ·rw[tag0]at hl;have:=h.bI.nV 30 c.K O AS;simp at hl;show s.next=c.base+n;omega
   ·by_cases e:j=b
    ·subst e;rw[jU]at hc;simp[cd]at hc
    rw[fI j e]at hc ⊢;exact h.bI.tk j hj hc
   ·rw[fI j O];exact h.bI.kO j h1 h2
   ·by_cases e:j=b
    ·subst e;rw[jU];simp[cd]
    rw[fI j e];exact h.bI.kW j h1 h2
   ·obtain⟨a1,a2,a3⟩:=h.bI.qY j hj;exact⟨a1,by show j+r<=_;omega,a3⟩
   ·by_cases e:j=b
    ·subst e;rw[jU,jO];refine⟨λ_ IE=>?_,λe=>by simp[cd]at e,λe=>by simp[cd]at e⟩;have:=(h.bI.qY _ IE).2.1;omega
    have:j≠0:=by have:=h.bI.pos;omega
    rw[fI j e,oJ j e this];exact h.bI.AH j h1 h2
   ·have e:s.cls=true:=e;rw[bU]at e;simp at e
   ·rw[QA]
   ·show r<=c.N;omega
   ·show s'.hd j+r<=c.N;by_cases e:j=b
    ·subst e;rw[jO];omega
    rw[oJ j e (by have:=h.bI.pos;omega)];have:=h.bI.C5 j h1 h2;omega
   ·have pos:=h.bI.pos;by_cases e:j=b
    ·by_cases e':k=b
     ·rw[e,e']
     exfalso;subst e;rw[jO,oJ k e' O]at h6;have:=h.bI.C5 k h3 h4;omega
    by_cases e':k=b
    ·exfalso;subst e';rw[jO,oJ j e O]at h6;have:=h.bI.C5 j h1 h2;omega
    rw[oJ j e O]at h5 h6;rw[oJ k e' O]at h6;exact h.bI.uS j k h1 h2 h3 h4 h5 h6
   ·have h2:q+r<=c.N:=h2;by_cases e:q=m
    ·exact .inr ⟨b,nH,hb,by rw[jO,e]⟩
    rcases h.bI.pC q h1 O h3 with h4 | ⟨j,j1,j2,j3⟩
    ·exact .inl h4
    by_cases e':j=b
    ·subst e';rw[<-j3]at h3;exact .inl (j3 ▸ BQ h3)
    exact .inr ⟨j,j1,j2,by rw[oJ j e' (by have:=h.bI.pos;omega)];exact j3⟩
   ·by_cases e:j=b
    ·subst e;rw[jU];simp[cd]
    rw[fI j e];exact h.bI.run bU j h1 h2
   rw[tag0]at h1;simp[cd]at h1
  have rB:YZ s'↔YZ s:=by exact Zib
  have PS:(hO c s).ins c.ch (.chan 0 #[] false (s.cn+1) (s.cn+1) false)=hO c s':=by
   refine Hp.ext' (λq=>?_) rfl;by_cases e:q=c.ch
   ·subst e;rw[Hp.aF,J5 ok.AG ok.AF];show _=some (Obj.chan 0 #[] s.cls (s.cn+1) (s.cn+1) false,true);rw[bU]
   rw[Hp.aE _ _ e];unfold hO;by_cases e1:q=c.W
   ·subst e1;rw[Hp.aF,Hp.aF]
   rw[Hp.aE _ _ e1,Hp.aE _ _ e1];by_cases e2:q=c.M
   ·subst e2;rw[Hp.aF,Hp.aF]
   rw[Hp.aE _ _ e2,Hp.aE _ _ e2,Hp.aE _ _ e,Hp.aE _ _ e]
  refine⟨s',(m+1) :: [1],⟨m,rfl,O,O,x9,IB⟩,λj=>?_,rfl,?_,bU,λj hj=>?_,λu FY CX=>?_⟩
  ·show ZG s' j=_;by_cases e0:j=0
   ·subst e0;rw[iO rfl];show pP (s'.tag 0) (s'.hd 0) :: s'.tag 0=_;rw[tag0,QA];rfl
   rw[bY e0];by_cases e:j=b
   ·subst e;rw[iO rfl];show pP (s'.tag j) (s'.hd j) :: s'.tag j=_;rw[jU,jO];rfl
   rw[bY e];show pP (s'.tag j) (s'.hd j) :: s'.tag j=ZG s j;rw[fI j e,oJ j e e0];rfl
  ·show s.more+r<s.more+s.iR;omega
  ·have hj:ZS s j:=hj;show ZS s' j;unfold ZS at hj ⊢;have:j≠b:=by rintro rfl;omega
   rw[fI j this];exact hj
  have hq:∀op∈u,op.act.touch? = none/\(∀a,op.act≠.mark a):=by intro op bH;rcases CX op bH with e | e | e | e<;>rw[e]<;>exact⟨rfl,by simp⟩
  refine⟨fY,(h.tr.gV (u:=u) λop bH=>?_).sub (λj hj=>?_) (λq hq=>?_),λj hj hc=>?_,λnI=>?_,?_⟩
  ·obtain⟨h1,h2⟩:=hq op bH;exact⟨h1,h2 _,h2 _,λe=>absurd e (h2 _)⟩
  ·unfold Y6 at hj ⊢;by_cases e:j=b
   ·subst e;rw[jU]at hj;simp[cd]at hj
   rw[fI j e]at hj;exact hj
  ·obtain⟨⟨x,hx⟩,h1,h2,h3⟩:=hq;have hx:(Hs.ins c.ch (.chan 0 #[] false (s.cn+1) (s.cn+1) false)) q=some x:=hx;rw[Hp.aE _ _ h3]at hx;exact⟨⟨x,hx⟩,h1,h2,h3⟩
  ·rw[Li λop bH d=>by rcases CX op bH with e | e | e | e<;>simp[deafStep,e]];by_cases e:j=b
   ·subst e;rw[jU,h.deaf j hj O];rcases iH with e | e<;>rw[e]<;>rfl
   rw[fI j e]at hc ⊢;exact h.deaf j hj hc
  ·rw[tag0]at nI;simp[cd]at nI
  rcases h.heap with⟨h1,h2⟩ | ⟨h1,Hl,h2,h3,h4⟩
  ·exact .inl ⟨rB.2 h1,by rw[h2];exact PS⟩
  refine .inr ⟨λh=>h1 (rB.1 h),Hl,?_,?_,h4⟩
  ·rw[h2,<-PS];refine Hp.ext' (λq=>?_) rfl;show(((hO c s).join Hl).ins c.ch (.chan 0 #[] false (s.cn+1) (s.cn+1) false)) q=_;simp only[Hp.eD,Hp.aX];by_cases e:q=c.ch
   ·rw[iO e,iO e]
   rw[bY e,bY e]
  refine⟨λq x y hx hy=>?_,.inl rfl⟩;rcases(Ur hx).1 with rfl | rfl | rfl
  ·have:=h3.eS (J6 ok.ne s);rw[this]at hy;simp at hy
  ·have:=h3.eS (J7 c s);rw[this]at hy;simp at hy
  have:=h3.eS (J5 ok.AG ok.AF s);rw[this]at hy;simp at hy
 FI:=by
  intro(s:Ts) Hs t b h hb bU tT;have h:ZM c s Hs t:=h;have hb:b<s.next:=hb;have bU:s.cls=true:=bU;have tT:UW c false (ZG s b):=tT;have iH:cd (s.tag b)=1\/cd (s.tag b)=19:=by
   rcases tT with⟨e,_⟩ | e
   ·left;rw[(Uf e (by simp[cd])).1];rfl
   right;rw[(Uf e (by simp[cd])).1];rfl
  have gF:b≠0:=by rintro rfl;have:=h.bI.wg.main;omega
  have nH:c.base<=b:=by
   rcases qAH b c.base with h1 | h1
   ·rw[h.bI.kO b O h1]at iH;simp[cd]at iH
   exact h1
  have BQ:c.need (s.hd b)=true->s.hd b∈s.kP:=by exact Zia
  let s':Ts:={ s with tag:=upd s.tag b [19,1],hd:=upd s.hd b 0 }
  have QH:=h.bI.v8 (l:=[19,1]) nH hb iH (.inr rfl);have fI:∀j,j≠b->s'.tag j=s.tag j:=λj hj=>upd_ne _ _ hj;have jU:s'.tag b=[19,1]:=upd_same _ _ _;have oJ:∀j,j≠b->s'.hd j=s.hd j:=λj h1=>upd_ne _ _ h1;have jO:s'.hd b=0:=upd_same _ _ _;have rT:Mu.mu s.mu s.pm s'.tag s.next<=Mu.mu s.mu s.pm s.tag s.next:=by have:=counts (tag:=s.tag) (l:=[19,1]) hb dQ;have e1:dQ (cd [19,1])=0:=rfl;have e2:Ct dQ s'.tag s.next=Ct dQ (upd s.tag b [19,1]) s.next:=rfl;unfold Mu.mu;omega
  have fY:bK c s':=by
   refine⟨QH.1,(QH.2 _).2 h.bI.wg,λj hj=>?_,λv=>?_,λk n hk hl=>?_,λj hj hc=>?_,h.bI.num,h.bI.pos,h.bI.nb,λj h1 h2=>?_,λj h1 h2=>?_,h.bI.HC,h.bI.qY,λj h1 h2=>?_,⟨λe=>?_,λe=>?_⟩,h.bI.FU,λj h1 h2=>?_,λj k h1 h2 h3 h4 h5 h6=>?_,λq h1 h2 h3=>?_,λe=>?_,λh1=>bU⟩
   ·by_cases e:j=b
    ·subst e;rw[jU];trivial
    rw[fI j e];exact(h.bI.oS j hj).keep rT (λ_=>rfl) λ_ hS=>⟨hS,aC _⟩
   ·rw[fI 0 (qAi gF)];exact h.bI.oQ v
   ·rw[fI 0 (qAi gF)]at hl;exact h.bI.nV k n hk hl
   ·by_cases e:j=b
    ·subst e;rw[jU]at hc;simp[cd]at hc
    rw[fI j e]at hc ⊢;exact h.bI.tk j hj hc
   ·rw[fI j O];exact h.bI.kO j h1 h2
   ·by_cases e:j=b
    ·subst e;rw[jU];simp[cd]
    rw[fI j e];exact h.bI.kW j h1 h2
   ·by_cases e:j=b
    ·subst e;rw[jU,jO];refine⟨λe=>by simp[cd]at e,λ_ e=>by simp[cd]at e,λ_ e=>?_⟩;rw[ok.TR]at e;simp at e
    rw[fI j e,oJ j e];exact h.bI.AH j h1 h2
   ·rw[oJ 0 (qAi gF)];exact h.bI.uX.1 e
   ·rw[oJ 0 (qAi gF)];exact h.bI.uX.2 e
   ·by_cases e:j=b
    ·subst e;rw[jO];have:=h.bI.FU;show 0+s.iR<=_;omega
    rw[oJ j e];exact h.bI.C5 j h1 h2
   ·by_cases e:j=b
    ·subst e;rw[jO]at h5;omega
    rw[oJ j e]at h5 h6;by_cases e':k=b
    ·subst e';rw[jO]at h6;omega
    rw[oJ k e']at h6;exact h.bI.uS j k h1 h2 h3 h4 h5 h6
   ·rcases h.bI.pC q h1 h2 h3 with h4 | ⟨j,j1,j2,j3⟩
    ·exact .inl h4
    by_cases e':j=b
    ·subst e';rw[<-j3]at h3;exact .inl (j3 ▸ BQ h3)
    exact .inr ⟨j,j1,j2,by rw[oJ j e'];exact j3⟩
   have e:s.cls=false:=e;rw[bU]at e;simp at e
  have rB:YZ s'↔YZ s:=by exact Zib
  refine⟨s',λj=>?_,rfl,aC _,bU,λj hj=>?_,λu hu=>?_⟩
  ·show ZG s' j=_;by_cases e:j=b
   ·subst e;rw[iO rfl];show pP (s'.tag j) (s'.hd j) :: s'.tag j=_;rw[jU,jO];rfl
   rw[bY e];show pP (s'.tag j) (s'.hd j) :: s'.tag j=ZG s j;rw[fI j e,oJ j e];rfl
  ·have hj:ZS s j:=hj;show ZS s' j;unfold ZS at hj ⊢;have:j≠b:=by rintro rfl;omega
   rw[fI j this];exact hj
  refine⟨fY,(h.tr.gV (u:=u) λop bH=>?_).sub (λj hj=>?_) (λq hq=>hq),λj hj hc=>?_,λnI=>?_,?_⟩
  ·rw[(hu op bH).2];exact⟨rfl,by simp,by simp,λe=>by simp at e⟩
  ·unfold Y6 at hj ⊢;by_cases e:j=b
   ·subst e;rw[jU]at hj;simp[cd]at hj
   rw[fI j e]at hj;exact hj
  ·rw[Li λop bH d=>by simp[deafStep,(hu op bH).2]];by_cases e:j=b
   ·subst e;rw[jU,h.deaf j hj O];rcases iH with e | e<;>rw[e]<;>rfl
   rw[fI j e]at hc ⊢;exact h.deaf j hj hc
  ·exfalso;rw[fI 0 (qAi gF)]at nI;have:=h.bI.over O nH hb;rw[this]at iH;simp[cd]at iH
  exact h.heap.imp (λ⟨a,b⟩=>⟨rB.2 a,b⟩) λ⟨a,Hl,b,cc,d⟩=>⟨λh=>a (rB.1 h),Hl,b,cc,d⟩
 actLeft:=by simp[bG,UX,Yw,ZP,cd]
 hshLeft:=by simp[bG,JT,Z5,ZP,cd]
 tG:=by intro d;simp[bG,UX,Yw,ZP,cd,lv]
 m9:=by intro g h1 h2;simp only[bG,UX,JT,Yw,Z5]at h1 h2;omega
 AX:=by intro d;simp[bG,JT,Z5,ZP,cd,lv]
 FF:=by intro d;simp[bG,lv]
 zI:=by intro g h;simp only[bG,JT,Z5]at h ⊢;simp[h.1,h.2]
end
end
variable{l:List Nat}{es lI:Array Event}{w':World}{P:Program}{main wk nr:Bool}{fr:Frame}{nx:Value->Frame}{cs:List Frame}{sm:Sem Next}
open Go.Conc
open Go.ConcN (sumTo upd sumTo_upd upd_ne upd_same)
section
variable{p:Program}{c:Cx}{i:Nat}{H:Hp}{s:Ts}{Hs:Hp}{t:Trace}{w:World}
theorem Mg(ok:c.Ok){Hl:Hp}(hc:(hO c s).Comp Hl):Hl c.M=none/\Hl c.W=none/\Hl c.ch=none:=⟨hc.eS (J6 ok.ne s),hc.eS (J7 c s),hc.eS (J5 ok.AG ok.AF s)⟩
theorem YC(hA:dH (bG p c) i H s Hs t w)(hz:cd H.cg≠0):s.tag i=H.cg/\s.hd i=H.hd:=X7 (show ZG s i=H.gh from hA.tag) hz
theorem RW{s s':Ts}(h1:s'.tag=upd s.tag i l)(h2:s'.hd=s.hd)(j:Nat):ZG s' j=if j=i then pP l (s.hd i) :: l else ZG s j:=by
 unfold ZG;rw[h1,h2,V0];by_cases e:j=i
 ·subst e;rw[iO rfl,iO rfl]
 rw[bY e,bY e]
theorem J2{h:Nat}(hl:cd l≠0):pP l h=h+1:=bY hl
theorem RO{j:Nat}{fn:FuncId}{pos:String}(h:∀j,c.live s.next j->cd (s.tag j)≠0->Deaf t j=df (cd (s.tag j)))(qF:cd l≠0->deafBehind (Deaf t i) es=df (cd l))(hj:c.live s.next j)(iH:cd (upd s.tag i l j)≠0) :
  Deaf (t++MemOp.ofEvents i fn pos es) j=df (cd (upd s.tag i l j)):=by
 by_cases e:j=i
 ·subst e;rw[upd_same]at iH ⊢;rw[Deaf_own];exact qF iH
 rw[upd_ne _ _ e]at iH ⊢;rw[Deaf_other t (qAi e) _ λop bH=>by obtain⟨e,_,rfl⟩:=Go.Conc.mem_ofEvents bH;rfl];exact h j hj iH
theorem SZ(hA:dH (bG p c) i H s Hs t w)(ht:s.tag i≠[0]):c.live s.next i:=by
 refine⟨hA.lt,?_⟩;rcases qAv i with h0 | h0
 ·exact .inl h0
 rcases qAH i c.base with h1 | h1
 ·exact absurd ((show ZM c s Hs t from hA.inv).bI.kO i h0 h1) ht
 exact .inr h1
theorem ZvC(ok:c.Ok)(hA:dH (bG p c) i H s Hs t w)(hi:c.live s.next i){x':Mu}{y':Wg}
  (fY:bK c { s with mu:=x',wg:=y',tag:=upd s.tag i l }) (pN:FE c.toTC i (Deaf t i) es) (EJ:∀e∈es,∀B,c.M<B->c.W<B->(MemAct.ofEvent e).low B)
  (qF:cd l≠0->deafBehind (Deaf t i) es=df (cd l)) (uR:cd (s.tag i)≠12/\cd (s.tag i)≠40) (aI3:cd l≠12/\cd l≠40) (hz:cd (s.tag i)≠0) (tB:20<=cd l\/cd l=0->Y6 s i)
  (hM:w'.heap[c.M]? = some (J4 c x')) (hW:w'.heap[c.W]? = some (U1 c y')) (pT:∀b,b≠c.M->b≠c.W->w'.heap[b]? = w.heap[b]?) (fP:w'.heap.size=w.heap.size) (uQ:wB w w') :
  ∃eG,∀fn pos,gN (bG p c) i s Hs t w H (MemOp.ofEvents i fn pos es) { s with mu:=x',wg:=y',tag:=upd s.tag i l } eG w'/\∀g,g9 i Hs w H (t++MemOp.ofEvents i fn pos es) eG w' (H.tagged g):=by
 have hI:ZM c s Hs t:=hA.inv;have aM:=hI.yH ok;have aW:=hI.yG;let s':Ts:={ s with mu:=x',wg:=y',tag:=upd s.tag i l }
 have rB:YZ s'↔YZ s:=by
  constructor
  ·rintro⟨j,h1,h2⟩;by_cases e:j=i
   ·subst e;simp only[s',upd_same]at h2;omega
   simp only[s',upd_ne _ _ e]at h2;exact⟨j,h1,h2⟩
  rintro⟨j,h1,h2⟩;by_cases e:j=i
  ·subst e;omega
  exact⟨j,h1,by simp only[s',upd_ne _ _ e];exact h2⟩
 have ES:H c.M=none:=by
  cases hh:H c.M with
  | none=>rfl
  | some y=>have:=hA.dis c.M _ _ hh aM;rw[this.1]at this;simp at this
 have ER:H c.W=none:=by
  cases hh:H c.W with
  | none=>rfl
  | some y=>have:=hA.dis c.W _ _ hh aW;rw[this.1]at this;simp at this
 have PH:∃eG:Hp,((YZ s'/\eG=hO c s')\/(¬ YZ s'/\∃Hl:Hp,eG=(hO c s').join Hl/\(hO c s').Comp Hl/\c.PI s'.kP Hl))/\(∀b,b≠c.M->b≠c.W->eG b=Hs b)/\eG c.M=some (J4 c x',true)/\eG c.W=some (U1 c y',true):=by
  rcases hI.heap with⟨h1,h2⟩ | ⟨h1,Hl,h2,h3,h4⟩
  ·refine⟨hO c s',.inl ⟨rB.2 h1,rfl⟩,λb b1 b2=>?_,J6 ok.ne s',J7 c s'⟩;rw[h2];exact ZlA b1 b2 rfl
  obtain⟨p1,p2,p3⟩:=Mg ok h3;refine⟨(hO c s').join Hl,.inr ⟨λh=>h1 (rB.1 h),Hl,rfl,⟨λb y z hy hz=>?_,by left;rfl⟩,h4⟩,λb b1 b2=>?_,Hp.aK (J6 ok.ne s'),Hp.aK (J7 c s')⟩
  ·rcases(Ur hy).1 with rfl | rfl | rfl
   ·rw[p1]at hz;simp at hz
   ·rw[p2]at hz;simp at hz
   rw[p3]at hz;simp at hz
  rw[h2];simp only[Hp.aX,ZlA (s:=s) (s':=s') b1 b2 rfl]
 obtain⟨eG,tA,qC,sM,sW⟩:=PH;have bV:c.M<w.heap.size/\c.W<w.heap.size:=⟨hA.leS.lt aM,hA.leS.lt aW⟩;have PX:eG.le w':=by
  intro b o pm hb;by_cases b1:b=c.M
  ·subst b1;rw[sM]at hb;rw[hM];simp only[iF,qAG]at hb;rw[hb.1]
  by_cases b2:b=c.W
  ·subst b2;rw[sW]at hb;rw[hW];simp only[iF,qAG]at hb;rw[hb.1]
  rw[qC b b1 b2]at hb;rw[pT b b1 b2];exact hA.leS b o pm hb
 have kK:H.le w':=by
  intro b o pm hb;have b1:b≠c.M:=by rintro rfl;rw[ES]at hb;simp at hb
  have b2:b≠c.W:=by rintro rfl;rw[ER]at hb;simp at hb
  rw[pT b b1 b2];exact hA.le b o pm hb
 have oZ:H.Dis eG:=by
  intro b x y hx hy;have b1:b≠c.M:=by rintro rfl;rw[ES]at hx;simp at hx
  have b2:b≠c.W:=by rintro rfl;rw[ER]at hx;simp at hx
  rw[qC b b1 b2]at hy;exact hA.dis b x y hx hy
 have hsh:∀{op:MemOp} {fn pos},op∈MemOp.ofEvents i fn pos es->∀a,op.act.touch? = some a->a.loc.isMemory=true->c.toTC.Sh a.loc/\a.kind≠.plain/\(a.kind=.said->i=0):=by intro op fn pos bH a ha hm;obtain⟨e,he,rfl⟩:=Go.Conc.mem_ofEvents bH;obtain⟨k,hk,T7⟩:=qCa.1 he;obtain⟨h1,h2,h3,_⟩:=(pN k e (by rw[qAE hk,T7])).2 a ha hm;exact⟨h1,h2,h3⟩
 refine⟨eG,λfn pos=>⟨⟨by rw[fP];exact aC _,?_,PX,?_,uQ,?_,?_,?_,?_⟩,λg=>⟨kK,oZ,?_,?_⟩⟩⟩
 ·intro b _ _ hn;exact pT b (by rintro rfl;exact hn _ aM) (by rintro rfl;exact hn _ aW)
 ·intro b x hx;refine .inr ?_;by_cases b1:b=c.M
  ·subst b1;exact⟨_,.inr aM,λh=>by simp at h⟩
  by_cases b2:b=c.W
  ·subst b2;exact⟨_,.inr aW,λh=>by simp at h⟩
  rw[qC b b1 b2]at hx;exact⟨x,.inr hx,λ_=>rfl⟩
 ·intro op bH x hx b hb;obtain⟨⟨b',eY,h⟩,_⟩:=hsh bH x hx (Lb hb);rw[hb]at eY;obtain rfl:=dO eY;refine .inl ?_;rcases h with rfl | rfl
  ·exact⟨_,true,.inr aM,λ_=>rfl⟩
  exact⟨_,true,.inr aW,λ_=>rfl⟩
 ·intro said q a ha op bH b hb hc;have hmb:b.loc.isMemory=true:=by rw[<-hc.1];exact hc.2.1
  obtain⟨h1,h2,h3⟩:=hsh bH b hb hmb;exact hI.tr.known hi h1 h2 h3 ha hc
 ·intro op bH;obtain⟨e,he,rfl⟩:=Go.Conc.mem_ofEvents bH;rw[fP];exact EJ e he _ bV.1 bV.2
 ·refine⟨fY,?_,λj hj iH=>RO hI.deaf qF hj iH,λnI=>?_,tA⟩;rotate_left
  ·exfalso;rcases hi.2 with h0 | h0
   ·subst h0;simp only[upd_same]at nI;omega
   have:i≠0:=by have:=hI.bI.pos;omega
   simp only[upd_ne _ _ (qAi this)]at nI;rw[hI.bI.over O h0 hi.1]at hz;exact hz rfl
  refine(hI.tr.tU hi (λb hb=>⟨hb.2.1,hb.2.2.1⟩) ⟨ok.AG,ok.AF⟩ pN).sub (λj hj=>?_) (λb hb=>?_)
  ·unfold Y6 at hj;simp only at hj;by_cases e:j=i
   ·subst e;rw[upd_same]at hj;exact tB hj
   rw[upd_ne _ _ e]at hj;exact hj
  obtain⟨⟨x,hx⟩,b1,b2,b3⟩:=hb;rw[qC b b1 b2]at hx;exact⟨⟨x,hx⟩,b1,b2,b3⟩
 ·exact λb x hx=>.inr ⟨x,.inl hx,λ_=>rfl⟩
 have:eR (t++MemOp.ofEvents i fn pos es) i H:=hA.perm.own λop bH=>.inl (by obtain⟨e,_,rfl⟩:=Go.Conc.mem_ofEvents bH;rfl);exact this
theorem Ov(ha:KZ P fr nx sm wk nr){v:Value}{w:World}(hr:sm.runT P w #[]=(.ok (.value v) w',lI)) :
  stepG P main (bT fr cs) w=.go (bT (nx v) cs) w' (seen P fr.fn lI):=ha.val _ _ _ _ _ _ hr
theorem Pv(ha:KZ P fr nx sm wk nr){w:World}(hr:sm.runT P w #[]=(.halt .blocked w,lI)) :
  stepG P main (bT fr cs) w=.go (gP fr cs) w #[]:=by
 rcases ha.halt with h | h
 ·obtain⟨v,w',es,e⟩:=h w;rw[hr]at e;simp at e
 exact h _ _ _ _ hr
end
