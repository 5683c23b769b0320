import Derived.Test.YtmfealhfgccmfaaGreatDoorP10
import Derived.Test.YtmfealhfgccmfaaGreatDoorP11
set_option linter.all false
def T4{G:Prop}(h:G:=by
  rw[Hp.aR _ _ e];unfold kQ;by_cases e1:q=c.W
  ·subst e1;rw[Hp.aQ,Hp.aQ]
  rw[Hp.aR _ _ e1,Hp.aR _ _ e1];by_cases e2:q=c.M
  ·subst e2;rw[Hp.aQ,Hp.aQ]
  rw[Hp.aR _ _ e2,Hp.aR _ _ e2,Hp.aR _ _ e,Hp.aR _ _ e]):G:=h
def T0{G:Prop}(h:G:=by
  refine⟨λq x y hx hy=>?_,.inl rfl⟩;rcases(Ux hx).1 with rfl | rfl | rfl
  ·have:=h3.jX (P5 ok.ne s);rw[this]at hy;simp at hy
  ·have:=h3.jX (P6 c s);rw[this]at hy;simp at hy
  have:=h3.jX (P4 ok.BX ok.BW s);rw[this]at hy;simp at hy):G:=h
def D4{G:Prop}(h:G:=by
  rcases qBd s.mu.S with h0 | h0
  ·have:=f5 h0;omega
  have:=f6 O;omega):G:=h
def TU{G:Prop}(h:G:=by
  constructor
  ·rintro⟨j,h1,h2⟩;by_cases e:j=b
   ·subst e;rw[nJ]at h2;simp[cd]at h2
   rw[kJ j e]at h2;exact⟨j,h1,h2⟩
  rintro⟨j,h1,h2⟩;by_cases e:j=b
  ·subst e;omega
  exact⟨j,h1,by rw[kJ j e];exact h2⟩):G:=h
def TO{G:Prop}(h:G:=by
  have hl:=h.cnt.lwk b pL hb;rcases B9 with⟨e,e2⟩ | e
  ·intro hn;rw[(VN e (by simp[cd])).2,hn]at e2;simp at e2
  rw[(VN e (by simp[cd])).1]at hl;exact hl.2.2 (.inr (by simp[cd]))):G:=h
def S0{G:Prop}(h:G:=by
  by_cases e:j=b
  ·subst e;rw[nJ,h.deaf j hj O];rcases tV with e | e<;>rw[e]<;>rfl
  rw[kJ j e]at hc ⊢;exact h.deaf j hj hc):G:=h
def G9{G:Prop}(h:G:=by
  by_cases e:j=b
  ·subst e;rw[nJ];trivial
  rw[kJ j e];exact(h.cnt.says j hj).keep Jk (λ_=>rfl) λ_ hS=>⟨hS,DO _⟩):G:=h
def vS{G:Prop}(h:G:=by rw[(VN e (by simp[cd])).1]at hm;simp[cd]at hm):G:=h
def GM{G:Prop}(h:G:=by
  rcases B9 with⟨e,_⟩ | e
  ·left;rw[(VN e (by simp[cd])).1];rfl
  right;rw[(VN e (by simp[cd])).1];rfl):G:=h
def GK{G:Prop}(h:G:=by
  rcases qBh b c.base with h1 | h1
  ·rw[h.cnt.olds b O h1]at tV;simp[cd]at tV
  exact h1):G:=h
def GJ{G:Prop}(h:G:=by
  have hj:ZY s j:=hj;show ZY s' j;unfold ZY at hj ⊢;have:j≠b:=by rintro rfl;omega
  rw[kJ j this];exact hj):G:=h
namespace Go.LL
section
variable{b i j k:Nat}{l:List Nat}{u:Trace}
open Go.Conc
open Go.ConcN (sumTo upd sumTo_upd upd_ne upd_same)
def Ai{f:Nat->Nat}:∀{n:Nat},(∀i,i<n->f i=0)->sumTo n f=0
 | 0,_=>rfl
 | n+1,h=>by rw[sumTo,Ai λi a=>h i O,h n O]
def ZgX{f:Nat->Nat}:∀{n:Nat},sumTo n f≠0->∃i,i<n/\f i≠0
 | 0,h=>absurd rfl h
 | n+1,h=>by
  by_cases e:f n=0
  ·rw[sumTo,e,qCg]at h;obtain⟨i,d,a⟩:=ZgX h;exact⟨i,O,a⟩
  exact⟨n,O,e⟩
def ZeA{f:Nat->Nat}{b:Nat}:∀{n:Nat},b<=n->(∀i,i<n->f i<=1)->(∀i,i<b->f i=0)->sumTo n f<=n-b
 | 0,_,_,_=>qBf _
 | n+1,hb,d,a=>by
  rw[sumTo];by_cases e:b=n+1
  ·rw[Ai λi g=>a i O,a n O];omega
  have:=ZeA (f:=f) (b:=b) (n:=n) O (λi g=>d i O) a;have:=d n O;omega
structure Cx extends TC where
 tM:TypeId
 tW:TypeId
 K:Nat
 need:Nat->Bool
 PI:List Nat->Hp->Prop
 N:Nat
 msg:Nat->Value->Hp->Prop
structure Ts where
 tag:Nat->List Nat
 next:Nat
 more:Nat
 mu:Mu
 wg:Wg
 m9:List Nat
 hd:Nat->Nat
 lK:Nat
 cls:Bool
 cn:Nat
abbrev Ts.pm(s:Ts):Nat:=s.more+s.lK
def ZV:List Nat->List Nat
 | (_+1) :: l=>l
 | _=>[]
def OP:List Nat->Nat
 | (n+1) :: _=>n
 | _=>0
def qU(l:List Nat)(h:Nat):Nat:=if cd l=0 then 0 else h+1
def ZO(s:Ts)(j:Nat):List Nat:=qU (s.tag j) (s.hd j) :: s.tag j
def Hp.cg(H:Hp):List Nat:=ZV H.gh
def Hp.hd(H:Hp):Nat:=OP H.gh
def Hp.tagc(H:Hp)(l:List Nat):Hp:=H.tagged ((H.hd+1) :: l)
theorem ZQ(H:Hp)(l:List Nat):(H.tagc l).cg=l:=rfl
theorem UO(H:Hp)(l:List Nat)(b:Nat):H.tagc l b=H b:=rfl
def MN(c:Cx)(x:Mu):Obj:=.cells #[.int .i32 (x.st:Nat),.int .u32 (x.sm:Nat)] c.tM
def U9(c:Cx)(y:Wg):Obj:=.cells #[.int .u64 ((y.v * 4294967296+y.wt:Nat):Int),.int .u32 (y.wm:Nat)] c.tW
def UF(s:Ts):Obj:=.chan 0 #[] s.cls s.cn s.cn false
def kQ(c:Cx)(s:Ts):Hp:=((Hp.nil.ins c.ch (UF s)).ins c.M (MN c s.mu)).ins c.W (U9 c s.wg)
def df(c:Nat):Nat:=one ((2<=c && c<=10) || (14<=c && c<=18) || (21<=c && c<=24) || c == 31 || c == 32 || (34<=c && c<=38))
def Ov(n m:Prop)(c:Nat):Prop:=(c=1->¬ m)/\(2<=c->c<=12->n/\¬ m)/\(c=0\/13<=c->n->m)
structure fY(c:Cx)(s:Ts):Prop where
 mu:s.mu.fF s.tag s.next
 wg:s.wg.fF s.tag s.next s.more
 says:∀j,j<s.next->s.mu.lO (Mu.mu s.mu s.pm s.tag s.next) (s.tag j)
 saysM:∀v,(s.tag 0=[35,v]->s.wg.v<=v)/\(s.tag 0=[34,v]->s.wg.v<v)
 cntN:∀k n,k<=33->s.tag 0=[k,n]->s.next=c.base+n
 tk:∀j,j<s.next->cd (s.tag j)=12->s.tag j=12 :: s.m9
 num:s.next+s.more=c.base+c.K
 pos:1<=c.base
 nb:c.base<=s.next
 olds:∀j,1<=j->j<c.base->s.tag j=[0]
 works:∀j,c.base<=j->j<s.next->cd (s.tag j)<=24/\(cd (s.tag j)=0->s.tag j=[0])
 lnd:s.m9.Nodup
 lmem:∀m∈s.m9,1<=m/\m+s.lK<=c.N/\c.need m=true
 lwk:∀j,c.base<=j->j<s.next->Ov (c.need (s.hd j)=true) (s.hd j∈s.m9) (cd (s.tag j))
 hd0:(s.cls=true->s.hd 0=0/\s.lK=0)/\(s.cls=false->s.hd 0=s.lK+1)
 mle:s.lK<=c.N
 hdw:∀j,c.base<=j->j<s.next->s.hd j+s.lK<=c.N
 hinj:∀j k,c.base<=j->j<s.next->c.base<=k->k<s.next->1<=s.hd j->s.hd j=s.hd k->j=k
 compl:∀m,1<=m->m+s.lK<=c.N->c.need m=true->m∈s.m9\/∃j,c.base<=j/\j<s.next/\s.hd j=m
 run:s.cls=false->∀j,c.base<=j->j<s.next->1<=cd (s.tag j)/\cd (s.tag j)<=19/\s.tag j≠[19,1]
 NS:34<=cd (s.tag 0)->s.cls=true
def Va(s:Ts):Prop:=∃j,j<s.next/\(cd (s.tag j)=12\/cd (s.tag j)=40)
def Vi(s:Ts)(j:Nat):Prop:=20<=cd (s.tag j)\/cd (s.tag j)=0
def Lg(c:Cx)(Hs:Hp)(b:Nat):Prop:=(∃x,Hs b=some x)/\b≠c.M/\b≠c.W/\b≠c.ch
structure ZU(c:Cx)(s:Ts)(Hs:Hp)(t:Trace):Prop where
 cnt:fY c s
 tr:Tr c.toTC s.next (Vi s) (Lg c Hs) t
 deaf:∀j,c.live s.next j->cd (s.tag j)≠0->Deaf t j=df (cd (s.tag j))
 fin:cd (s.tag 0)=40->(∀q x a,t[q]? = some x->x.act.touch? = some a->a.loc.isMemory=true->Knows t 0 q\/(a.kind=.atomic/\(c.old a.loc\/c.Sh a.loc)))/\t.HandedOver
 heap:(Va s/\Hs=kQ c s)\/(¬ Va s/\∃Hl:Hp,Hs=(kQ c s).join Hl/\(kQ c s).Comp Hl/\c.PI s.m9 Hl)
structure Cx.Ok(c:Cx):Prop where
 ne:c.M≠c.W
 BX:c.ch≠c.M
 BW:c.ch≠c.W
 pos:1<=c.K
 Ja:c.need 0=false
 own:∀l H,c.PI l H->∀b x,H b=some x->x.2=true
 FQ:c.K<=100000000
 fL:∀l H g,c.PI l H->c.PI l (H.tagged g)
def ZY(s:Ts)(j:Nat):Prop:=(cd (s.tag j)=7/\s.mu.sm=0)\/(cd (s.tag j)=36/\s.wg.wm=0)
def YI(l:List Nat):Prop:=(1<=cd l/\cd l<=19)\/30<=cd l
def Yf(l:List Nat):Prop:=20<=cd l/\cd l<=24
def U2(g:List Nat):Prop:=YI (ZV g)
def M1(g:List Nat):Prop:=Yf (ZV g)
def U1(c:Cx)(d:Bool)(g:List Nat):Prop:=if d then 3<=g.headD 0/\g.tail=[30,c.K]else(ZV g=[1]/\c.need (OP g)=false)\/ZV g=[19]
def fX(p:Program)(c:Cx):VG p where
 S:=Ts
 tag:=ZO
 next:=Ts.next
 more:=Ts.pm
 Inv:=ZU c
 Blk:=ZY
 act:=U2
 hsh:=M1
 left:=[0,0]
 stl:=λg=>g.headD 0 == 0 || (decide (20<=cd (ZV g)) && decide (cd (ZV g)<=24))
 stlNil:=rfl
 ch:=c.ch
 cls:=Ts.cls
 can:=U1 c
 puts:=λg d v a=>∃r,g=(r+3) :: [30,c.K]/\d=(r+2) :: [30,c.K]/\c.msg (c.N-r) v a
 gets:=λg d v a=>∃m,d=(m+1) :: [1]/\1<=m/\m<=c.N/\OP g<m/\c.msg m v a
 shut:=λ_=>[1,19,1]
def P5{c:Cx}(h:c.M≠c.W)(s:Ts):kQ c s c.M=some (MN c s.mu,true):=by unfold kQ;rw[Hp.aR _ _ h,Hp.aQ]
def P6(c:Cx)(s:Ts):kQ c s c.W=some (U9 c s.wg,true):=Hp.aQ _ _ _
def P4{c:Cx}(a:c.ch≠c.M)(d:c.ch≠c.W)(s:Ts):kQ c s c.ch=some (UF s,true):=by unfold kQ;rw[Hp.aR _ _ d,Hp.aR _ _ a,Hp.aQ]
theorem Mh{c:Cx}{s:Ts}(a:b≠c.M)(d:b≠c.W)(e:b≠c.ch):kQ c s b=none:=by unfold kQ;rw[Hp.aR _ _ d,Hp.aR _ _ a,Hp.aR _ _ e];rfl
def Zla{c:Cx}{s s':Ts}(a:b≠c.M)(d:b≠c.W)(e:UF s'=UF s):kQ c s' b=kQ c s b:=by unfold kQ;rw[Hp.aR _ _ d,Hp.aR _ _ a,Hp.aR _ _ d,Hp.aR _ _ a,e]
def Ux{c:Cx}{s:Ts}{y:Obj×Bool}(h:kQ c s b=some y):(b=c.M\/b=c.W\/b=c.ch)/\y.2=true:=by
 unfold kQ at h;by_cases a:b=c.W
 ·subst a;rw[Hp.aQ]at h;exact⟨.inr (.inl rfl),by rw[<-aT h]⟩
 rw[Hp.aR _ _ a]at h;by_cases d:b=c.M
 ·subst d;rw[Hp.aQ]at h;exact⟨.inl rfl,by rw[<-aT h]⟩
 rw[Hp.aR _ _ d]at h;by_cases e:b=c.ch
 ·subst e;rw[Hp.aQ]at h;exact⟨.inr (.inr rfl),by rw[<-aT h]⟩
 rw[Hp.aR _ _ e]at h;simp[Hp.nil]at h
section
variable{c:Cx}{s:Ts}{Hs:Hp}{t:Trace}
def ZU.mw(h:ZU c s Hs t){x:Obj×Bool}(hb:kQ c s b=some x):Hs b=some x:=by
 rcases h.heap with⟨_,e⟩ | ⟨_,a,e,_⟩
 ·rw[e];exact hb
 rw[e];exact Hp.eN hb
def ZU.atM(ok:c.Ok)(h:ZU c s Hs t):Hs c.M=some (MN c s.mu,true):=h.mw (P5 ok.ne s)
def ZU.atW(h:ZU c s Hs t):Hs c.W=some (U9 c s.wg,true):=h.mw (P6 c s)
def ZU.atC(ok:c.Ok)(h:ZU c s Hs t):Hs c.ch=some (UF s,true):=h.mw (P4 ok.BX ok.BW s)
def Lw{g:List Nat}(h:ZO s i=g)(a:cd (ZV g)≠0):s.tag i=ZV g/\s.hd i=OP g:=by
 subst h;unfold ZO qU at a ⊢;by_cases e:cd (s.tag i)=0
 ·rw[qAa e]at a;exact absurd rfl a
 rw[iF e];exact⟨rfl,rfl⟩
def VN(h:ZV (ZO s i)=l)(e:cd l≠0):s.tag i=l/\OP (ZO s i)=s.hd i:=by obtain⟨a,d⟩:=Lw (i:=i) rfl (by rw[h];exact e);exact⟨a.trans h,d.symm⟩
def X4(h:fY c s)(f:j<s.next)(e:30<=cd (s.tag j)):j=0:=by
 rcases qBd j with a | a
 ·exact a
 rcases qBh j c.base with d | d
 ·rw[h.olds j a d]at e;simp[cd]at e
 have:=(h.works j d f).1;omega
def fY.next0(h:fY c s):0<s.next:=by have:=h.pos;have:=h.nb;omega
def fY.over(h:fY c s)(g:37<=cd (s.tag 0))(hb:c.base<=j)(a:j<s.next):s.tag j=[0]:=by
 obtain⟨r,v,y,z,e,f⟩:=h.wg;have B:=f g;obtain⟨_,_,D,C⟩:=e O;have E:Ct cW s.tag s.next=0:=O;obtain⟨A,m⟩:=h.works j hb a;have o:=Ct.le cW s.tag a;have q:=Ct.le cL s.tag a;have a3:=Ct.le cE s.tag a;refine m (qAb λd=>?_);have:∀n:Fin 25,n.val≠0->cW n.val+cL n.val+cE n.val=1:=by decide
 have:=this ⟨cd (s.tag j),O⟩ d;simp only at this;omega
theorem Zmc{old:Loc->Prop}{t:Trace}(m:∀op∈u,op.g=0\/op.act.touch? = none)
  (h:(∀q x a,t[q]? = some x->x.act.touch? = some a->a.loc.isMemory=true->Knows t 0 q\/(a.kind=.atomic/\old a.loc))/\t.HandedOver) :
  (∀q x a,(t++u)[q]? = some x->x.act.touch? = some a->a.loc.isMemory=true->Knows (t++u) 0 q\/(a.kind=.atomic/\old a.loc))/\(t++u).HandedOver:=by
 refine⟨λq x a n f o=>?_,handedOver_app h.2 m⟩;rcases getElem?_append_cases n with⟨_,d⟩ | ⟨_,d⟩
 ·exact(h.1 q x a d f o).imp (·.app u) id
 rcases m x d with e | e
 ·have:=knows_own n;rw[e]at this;exact .inl this
 rw[e]at f;simp at f
theorem fY.live(ok:c.Ok)(h:fY c s)(D:Nat->Option Bool)(hb:∀j,j<s.next->ZO s j≠[0,0]->ZY s j\/(s.cls=false/\∃d,D j=some d/\U1 c d (ZO s j)))(L:∀j k,D j=some true->D k=some false->False):False:=by
 have hm:=h.wg.main;have nl:∀j,cd (s.tag j)≠0->ZO s j≠[0,0]:=by
  intro j m e;have:s.tag j=[0]:=by simpa[ZO]using qAx List.tail e
  rw[this]at m;exact m rfl
 have h0:(cd (s.tag 0)=36/\s.wg.wm=0)\/(s.cls=false/\D 0=some true/\s.tag 0=[30,c.K]):=by
  rcases hb 0 h.next0 (nl 0 O)with(⟨a,_⟩ | a) | ⟨a,d,n,y⟩
  ·omega
  ·exact .inl a
  right;cases d with
  | true=>exact⟨a,n,y.2⟩
  | false=>
   exfalso;rcases y with⟨e,_⟩ | e
   ·exact vS
   exact vS
 have nr:∀j,j<s.next->j≠0->cd (s.tag j)=0\/(cd (s.tag j)=7/\s.mu.sm=0):=by
  intro j m q;by_cases e:cd (s.tag j)=0
  ·exact .inl e
  have r:cd (s.tag j)<=24:=by
   rcases qBh j c.base with a | a
   ·rw[h.olds j O a];decide
   exact(h.works j a m).1
  rcases hb j m (nl j e)with(a | a) | ⟨a,d,n,y⟩
  ·exact .inr a
  ·omega
  exfalso;cases d with
  | true=>
   have A:s.tag j=[30,c.K]:=y.2;rw[A]at r;simp[cd]at r
  | false=>
   rcases h0 with A | A
   ·have:=h.NS O;rw[a]at this;simp at this
   exact L 0 j A.2.1 n
 have c0:cd (s.tag 0)=36\/cd (s.tag 0)=30:=h0.imp (·.1) λh=>by rw[h.2.2];rfl
 have cls:∀j,j<s.next->cd (s.tag j)=0\/(cd (s.tag j)=7/\s.mu.sm=0)\/cd (s.tag j)=36\/cd (s.tag j)=30:=by
  intro j m;by_cases e:j=0
  ·subst e;exact .inr (.inr c0)
  exact(nr j m e).imp id .inl
 have z:∀f:Nat->Nat,f 0=0->f 7=0->f 36=0->f 30=0->Ct f s.tag s.next=0:=by intro f h0 h7 J I;refine Ai λi o=>?_;rcases cls i o with e | ⟨e,_⟩ | e | e<;>rw[e]<;>assumption
 have zH:=z Yz rfl rfl rfl rfl;have zT:=z cT rfl rfl rfl rfl;have Z:=z cA rfl rfl rfl rfl;have zU:=z cU rfl rfl rfl rfl;have zR:=z cR rfl rfl rfl rfl;have zL:=z cL rfl rfl rfl rfl;have zE:=z cE rfl rfl rfl rfl;obtain⟨N,Q,f3,f4,f5,f6⟩:=h.mu;by_cases E:Ct cQ s.tag s.next=0
 ·have F:∀j,j<s.next->j≠0->cd (s.tag j)=0:=by
   intro j m q;rcases nr j m q with e | ⟨e,_⟩
   ·exact e
   have:=Ct.le cQ s.tag m;rw[e,E]at this;exact absurd this (by decide)
  rcases h0 with h0 | ⟨a,_,n⟩
  ·have zW:Ct cW s.tag s.next=0:=by
    refine Ai λi o=>?_;by_cases e:i=0
    ·subst e;rw[h0.1];rfl
    rw[F i o e];rfl
   obtain⟨B,R,S,G,T,U⟩:=h.wg;rw[h0.1]at B;replace B:s.wg.v=Ct cW s.tag s.next+0:=B;have:=G h0.1;omega
  have V:=h.cntN 30 c.K O n
  have W:=ok.pos
  have M:=h.pos
  have:=(h.run a c.base (DO _) O).1
  rw[F c.base O O]at this
  omega
 obtain⟨i,o,g⟩:=ZgX E;have X:s.mu.sm=0:=by
  rcases cls i o with e | ⟨_,e⟩ | e | e
  ·rw[e]at g;exact absurd rfl g
  ·exact e
  ·rw[e]at g;exact absurd rfl g
  rw[e]at g;exact absurd rfl g
 exact D4
def Zwg(g:∀op∈u,X2 i Hs op)(j:Nat):Deaf (t++u) j=Deaf t j:=by
 by_cases h:j=i
 ·subst h;obtain⟨l⟩:=u;rw[Deaf_append];have m:∀op∈l,X2 j Hs op:=λop h=>g op (by simpa using h);clear g;generalize Deaf t j=d;induction l generalizing d with
  | nil=>rfl
  | cons y l ih=>
   rw[qBG];have:deafStep j d y=d:=by obtain⟨_,n⟩:=m y (by simp);rcases n with⟨loc,o,a,_⟩ | ⟨f,a⟩ | a<;>simp[deafStep,a]
   rw[this];exact ih (λop h=>m op (by simp[h])) d
 exact Deaf_other t (qAo h) u λop e=>(g op e).1
def Zwi(f:Nat->Nat)(tag:Nat->List Nat)(a:i<k)(h:f (cd l)=f (cd (tag i))):Ct f (upd tag i l) k=Ct f tag k:=by have:=counts (tag:=tag) (l:=l) a f;omega
def Mu.lO.keep{x f:Mu}{m a:Nat}(h:x.lO m l)(d:a<=m)(o:a=m->f.st=x.st)(y:cd l=9->x.S=1->f.S=1/\x.n<=f.n):f.lO a l:=by
 have key:∀v k,(m<=k/\(m=k->x.st=v))->(a<=k/\(a=k->f.st=v)):=by rintro v k ⟨q,g⟩;refine⟨O,λe=>?_⟩;have:a=m:=O;rw[o this];exact g O
 unfold Mu.lO at h ⊢;split
 ·exact key _ _ h
 ·exact key _ _ h
 ·exact⟨(key _ _ ⟨h.1,h.2.1⟩).1,(key _ _ ⟨h.1,h.2.1⟩).2,h.2.2⟩
 ·obtain⟨q,g,z⟩:=h;obtain⟨r,A⟩:=y rfl q;exact⟨r,g,O⟩
 ·exact qBB d h
 ·exact qBB d h
 ·exact qBB d h
 ·exact qBB d h
 ·exact qBB d h
 ·exact h
 ·exact h
 ·exact h
 ·exact h
 trivial
def ZfT{t:Trace}(e:∀op∈u,∀d,deafStep j d op=d):Deaf (t++u) j=Deaf t j:=by
 obtain⟨l⟩:=u;rw[Deaf_append];have a:∀op∈l,∀d,deafStep j d op=d:=λop h=>e op (by simpa using h);clear e;generalize Deaf t j=d;show l.foldl _ d=d;induction l generalizing d with
 | nil=>rfl
 | cons y l ih=>
  rw[qBG,a y (by simp)];exact ih (λop h=>a op (by simp[h])) d
def Mu.fF.Xi{x:Mu}{tag a:Nat->List Nat}(F:x.fF tag k)(h:∀f:Nat->Nat,f 1=f 19\/f=lD->f≠lD->Ct f a k=Ct f tag k):x.fF a k:=by
 have e:=λ(f:Nat->Nat) d g=>h f (.inl d) g;obtain⟨z,A,f3,f4,f5,f6⟩:=F;have n:∀f:Nat->Nat,f 1=0->f≠lD:=λf d g=>by rw[g]at d;exact absurd d (by decide)
 have v:=e Yz rfl (n _ rfl);have r:=e cT rfl (n _ rfl);have o:=e cQ rfl (n _ rfl);have m:=e cA rfl (n _ rfl);have y:=e cU rfl (n _ rfl);have q:=e cR rfl (n _ rfl);refine⟨?_,A,f3,f4,?_,?_⟩
 ·rw[v];exact z
 ·rw[o,r,m,q,y];exact f5
 rw[o,r,m,q];exact f6
def fY.vY(h:fY c s)(hb:c.base<=b)(v:b<s.next)(C:cd (s.tag b)=1\/cd (s.tag b)=19)(hl:cd l=1\/cd l=19) :
  s.mu.fF (upd s.tag b l) s.next/\(∀m,s.wg.fF (upd s.tag b l) s.next m↔s.wg.fF s.tag s.next m):=by
 have r:b≠0:=by have:=h.pos;omega
 have g:∀f:Nat->Nat,f 1=f 19->Ct f (upd s.tag b l) s.next=Ct f s.tag s.next:=by intro f z;refine Zwi f s.tag v ?_;rcases C with e | e<;>rcases hl with y | y<;>rw[e,y]<;>first | rfl | exact z | exact z.symm
 refine⟨h.mu.Xi λf A B=>g f (A.resolve_right B),λm=>?_⟩;have t0:upd s.tag b l 0=s.tag 0:=upd_ne _ _ (qAo r);have wW:=g cW rfl;have q:=g cL rfl;have o:=g cE rfl;constructor
 ·rintro⟨g1,g2,g3,a,d,n⟩;rw[t0]at g1 g2 g3 a d n;rw[wW]at g1;rw[q,o]at a;rw[q,o]at d;exact⟨g1,g2,g3,a,d,n⟩
 rintro⟨g1,g2,g3,a,d,n⟩;refine⟨?_,?_,?_,?_,?_,?_⟩<;>rw[t0]
 ·rw[wW];exact g1
 ·exact g2
 ·exact g3
 ·rw[q,o];exact a
 ·rw[q,o];exact d
 exact n
def Zog{p:Program}(ok:c.Ok):(fX p c).Sound where
 own:=by
  intro(s:Ts) Hs t h b x hx;rcases(show ZU c s Hs t from h).heap with⟨_,e⟩ | ⟨_,Hl,e,hc,hp⟩
  ·rw[e]at hx;exact(Ux hx).2
  rw[e]at hx;simp only[Hp.fW]at hx;cases hh:kQ c s b with
  | some z=>rw[hh]at hx;rw[<-aT hx];exact(Ux hh).2
  | none=>rw[hh]at hx;exact ok.own _ _ hp b x hx
 z6:=by
  intro(s:Ts) Hs t i u h hi V U;have h:ZU c s Hs t:=h;have V:YI (ZV (ZO s i)):=V;have V:(1<=cd (s.tag i)/\cd (s.tag i)<=19)\/30<=cd (s.tag i):=by
   have hz:cd (ZV (ZO s i))≠0:=by unfold YI at V;omega
   rw[(Lw rfl hz).1];exact V
  have F:c.live s.next i:=by
   refine⟨hi,?_⟩;rcases qBd i with R | R
   ·exact .inl R
   rcases qBh i c.base with h1 | h1
   ·rw[h.cnt.olds i R h1]at V;simp[cd]at V
   exact .inr h1
  refine⟨h.cnt,h.tr.lone F (λR hd=>?_) (Hs:=Hs) (by rw[h.atM ok];simp) (by rw[h.atW];simp) (by rw[h.atC ok];simp) (λb hb=>by obtain⟨x,hx⟩:=hb.1;rw[hx];simp) U,λj hj hc=>by rw[Zwg U];exact h.deaf j hj hc,λA=>Zmc (old:=λl=>c.old l\/c.Sh l) (λop o=>?_) (h.fin A),h.heap⟩;rotate_left
  ·rcases F.2 with h1 | h1
   ·exact .inl ((U op o).1.trans h1)
   exfalso;rw[h.cnt.over O h1 hi]at V;simp[cd]at V
  rcases F.2 with h1 | h1
  ·exact R h1
  have:=(h.cnt.works i h1 hi).1;unfold Vi at hd;omega
 mute:=by
  intro(s:Ts) Hs t i u h hi Y U
  have h:ZU c s Hs t:=h
  have Y:ZO s i=[0,0]:=Y
  have Y:s.tag i=[0]:=by simpa[ZO]using qAx List.tail Y
  refine⟨h.cnt,h.tr.kF λop o=>?_,λj hj hc=>?_,λA=>Zmc (old:=λl=>c.old l\/c.Sh l) (λop o=>?_) (h.fin A),h.heap⟩
  rotate_right
  ·obtain⟨_,h2⟩:=U op o;rcases h2 with h2 | h2<;>rw[h2]<;>exact .inr rfl
  ·obtain⟨_,h2⟩:=U op o;rcases h2 with h2 | h2<;>rw[h2]<;>exact⟨rfl,by simp,by simp⟩
  ·have:i≠j:=by rintro rfl;rw[Y]at hc;exact hc rfl
   rw[Deaf_other t this u λop o=>(U op o).1];exact h.deaf j hj hc
 live:=by intro(s:Ts) Hs t D h hb hD;exact(show ZU c s Hs t from h).cnt.live ok D hb hD
 chan:=by intro(s:Ts) Hs t h;exact⟨s.cn,(show ZU c s Hs t from h).atC ok⟩
 hears:=by
  intro(s:Ts) Hs t j d h hj hc;have h:ZU c s Hs t:=h;have hc:U1 c d (ZO s j):=hc;have key:cd (s.tag j)=30\/cd (s.tag j)=1\/cd (s.tag j)=19:=by
   cases d with
   | true=>exact .inl (by rw[show s.tag j=[30,c.K]from hc.2];rfl)
   | false=>
    right;rcases hc with⟨e,_⟩ | e
    ·left;rw[(VN e (by simp[cd])).1];rfl
    right;rw[(VN e (by simp[cd])).1];rfl
  have hl:c.live s.next j:=by
   refine⟨hj,?_⟩;rcases qBd j with R | R
   ·exact .inl R
   rcases qBh j c.base with h1 | h1
   ·rw[h.cnt.olds j R h1]at key;simp[cd]at key
   exact .inr h1
  rw[h.deaf j hl O];rcases key with e | e | e<;>rw[e]<;>rfl
 FU:=by
  intro(s:Ts) Hs t j h hj hc;have h:ZU c s Hs t:=h;have hc:U1 c false (ZO s j):=hc;rintro rfl;have hm:=h.cnt.wg.main;rcases hc with⟨e,_⟩ | e
  ·exact vS
  exact vS
 FO:=by
  intro(s:Ts) Hs t j h hj hc;have h:ZU c s Hs t:=h;have hc:U1 c true (ZO s j):=hc;have Y:s.tag j=[30,c.K]:=hc.2;have:=X4 h.cnt hj (by rw[Y];simp[cd]);subst this;have h3:=hc.1;simp only[ZO,List.headD_cons,qU,Y]at h3;rw[iF (by simp[cd])]at h3;show s.cls=false;cases y:s.cls with
  | false=>rfl
  | true=>have:=(h.cnt.hd0.1 y).1;omega
 qO:=by
  intro d g h;have h:U1 c d g:=h;show U2 g;cases d with
  | true=>
   obtain⟨h1,h2⟩:=h;match g,h1,h2 with
   | (n+1) :: l,h1,h2=>
    have h2:l=[30,c.K]:=h2;subst h2;exact .inr (by simp[cd,ZV])
  | false=>
   refine .inl ?_;rcases h with⟨e,_⟩ | e<;>rw[e]<;>simp[cd]
 FT:=by intro(s:Ts) Hs t j h hj hc;have h:ZU c s Hs t:=h;have hc:U1 c true (ZO s j):=hc;exact X4 h.cnt hj (by rw[show s.tag j=[30,c.K]from hc.2];simp[cd])
 meet:=by
  intro(s:Ts) Hs t b n g' v Hm h R hb B y Z yS B9 hp;have h:ZU c s Hs t:=h;have y:s.cls=false:=y;have hb:b<s.next:=hb;have B9:U1 c false (ZO s b):=B9;obtain⟨r,W,rfl,KR⟩:=hp;have W:ZO s 0=(r+3) :: [30,c.K]:=W;have NW:s.tag 0=[30,c.K]:=by simpa[ZO]using qAx List.tail W
  have hh0:s.hd 0=r+2:=by have:=qAx (λl=>l.headD 0) W;simp only[ZO,List.headD_cons,qU,NW]at this;rw[iF (by simp[cd])]at this;omega
  have SD:s.lK=r+1:=by have:=h.cnt.hd0.2 y;omega
  have aOn:=h.cnt.mle;have tV:cd (s.tag b)=1\/cd (s.tag b)=19:=by exact GM
  have pL:c.base<=b:=by exact GK
  have hn:n=s.cn:=by have:=h.atC ok;have Z:Hs.mem c.ch=some (Obj.chan 0 #[] false n n false,true):=Z;rw[Z]at this;simp[UF]at this;exact this.2
  subst hn;have E:c.need (s.hd b)=true->s.hd b∈s.m9:=by exact TO
  let m:=c.N-r
  have hm:m=c.N-r:=rfl;have DR:OP (ZO s b)<m:=by
   have e1:OP (ZO s b)=s.hd b:=by unfold ZO qU;rw[iF O];rfl
   have:=h.cnt.hdw b pL hb;omega
  let s':Ts:={ s with tag:=upd s.tag b [1],hd:=upd (upd s.hd 0 (r+1)) b m,lK:=r,cn:=s.cn+1 }
  have J:=h.cnt.vY (l:=[1]) pL hb tV (.inl rfl);have kJ:∀j,j≠b->s'.tag j=s.tag j:=λj hj=>upd_ne _ _ hj;have nJ:s'.tag b=[1]:=upd_same _ _ _;have f:∀j,j≠b->j≠0->s'.hd j=s.hd j:=λj h1 h2=>by show upd (upd s.hd 0 (r+1)) b m j=_;rw[upd_ne _ _ h1,upd_ne _ _ h2]
  have q8:s'.hd b=m:=upd_same _ _ _;have X:s'.hd 0=r+1:=by show upd (upd s.hd 0 (r+1)) b m 0=_;rw[upd_ne _ _ (qAo B),upd_same]
  have C:s'.tag 0=[30,c.K]:=by rw[kJ 0 (qAo B)];exact NW
  have Jk:Mu.mu s.mu s'.pm s'.tag s.next<=Mu.mu s.mu s.pm s.tag s.next:=by have:=counts (tag:=s.tag) (l:=[1]) hb lD;have e1:lD (cd [1])=6:=rfl;have e2:Ct lD s'.tag s.next=Ct lD (upd s.tag b [1]) s.next:=rfl;unfold Mu.mu;show Ct lD s'.tag s.next+s.mu.sm+6 * (s.more+r)<=Ct lD s.tag s.next+s.mu.sm+6 * (s.more+s.lK);omega
  have L:fY c s':=by
   refine⟨J.1,(J.2 _).2 h.cnt.wg,λj hj=>?_,λv=>?_,λk n hk hl=>?_,λj hj hc=>?_,h.cnt.num,h.cnt.pos,h.cnt.nb,λj h1 h2=>?_,λj h1 h2=>?_,h.cnt.lnd,λj hj=>?_,λj h1 h2=>?_,⟨λe=>?_,λ_=>?_⟩,?_,λj h1 h2=>?_,λj k h1 h2 h3 S h5 T=>?_,λq h1 h2 h3=>?_,λ_ j h1 h2=>?_,λh1=>?_⟩
   ·exact G9
   ·rw[C];simp
   ·rw[C]at hl;have:=h.cnt.cntN 30 c.K O NW;simp at hl;show s.next=c.base+n;omega
   ·by_cases e:j=b
    ·subst e;rw[nJ]at hc;simp[cd]at hc
    rw[kJ j e]at hc ⊢;exact h.cnt.tk j hj hc
   ·rw[kJ j O];exact h.cnt.olds j h1 h2
   ·by_cases e:j=b
    ·subst e;rw[nJ];simp[cd]
    rw[kJ j e];exact h.cnt.works j h1 h2
   ·obtain⟨a1,a2,a3⟩:=h.cnt.lmem j hj;exact⟨a1,by show j+r<=_;omega,a3⟩
   ·by_cases e:j=b
    ·subst e;rw[nJ,q8];refine⟨λ_ Tc=>?_,λe=>by simp[cd]at e,λe=>by simp[cd]at e⟩;have:=(h.cnt.lmem _ Tc).2.1;omega
    have:j≠0:=by have:=h.cnt.pos;omega
    rw[kJ j e,f j e this];exact h.cnt.lwk j h1 h2
   ·have e:s.cls=true:=e;rw[y]at e;simp at e
   ·rw[X]
   ·show r<=c.N;omega
   ·show s'.hd j+r<=c.N;by_cases e:j=b
    ·subst e;rw[q8];omega
    rw[f j e (by have:=h.cnt.pos;omega)];have:=h.cnt.hdw j h1 h2;omega
   ·have pos:=h.cnt.pos;by_cases e:j=b
    ·by_cases G:k=b
     ·rw[e,G]
     exfalso;subst e;rw[q8,f k G O]at T;have:=h.cnt.hdw k h3 S;omega
    by_cases G:k=b
    ·exfalso;subst G;rw[q8,f j e O]at T;have:=h.cnt.hdw j h1 h2;omega
    rw[f j e O]at h5 T;rw[f k G O]at T;exact h.cnt.hinj j k h1 h2 h3 S h5 T
   ·have h2:q+r<=c.N:=h2;by_cases e:q=m
    ·exact .inr ⟨b,pL,hb,by rw[q8,e]⟩
    rcases h.cnt.compl q h1 O h3 with S | ⟨j,j1,j2,j3⟩
    ·exact .inl S
    by_cases G:j=b
    ·subst G;rw[<-j3]at h3;exact .inl (j3 ▸ E h3)
    exact .inr ⟨j,j1,j2,by rw[f j G (by have:=h.cnt.pos;omega)];exact j3⟩
   ·by_cases e:j=b
    ·subst e;rw[nJ];simp[cd]
    rw[kJ j e];exact h.cnt.run y j h1 h2
   rw[C]at h1;simp[cd]at h1
  have M:Va s'↔Va s:=by exact TU
  have SB:(kQ c s).ins c.ch (.chan 0 #[] false (s.cn+1) (s.cn+1) false)=kQ c s':=by
   refine Hp.ext' (λq=>?_) rfl;by_cases e:q=c.ch
   ·subst e;rw[Hp.aQ,P4 ok.BX ok.BW];show _=some (Obj.chan 0 #[] s.cls (s.cn+1) (s.cn+1) false,true);rw[y]
   exact T4
  refine⟨s',(m+1) :: [1],⟨m,rfl,O,O,DR,KR⟩,λj=>?_,rfl,?_,y,λj hj=>?_,λu RR B0=>?_⟩
  ·show ZO s' j=_;by_cases W:j=0
   ·subst W;rw[qAa rfl];show qU (s'.tag 0) (s'.hd 0) :: s'.tag 0=_;rw[C,X];rfl
   rw[iF W];by_cases e:j=b
   ·subst e;rw[qAa rfl];show qU (s'.tag j) (s'.hd j) :: s'.tag j=_;rw[nJ,q8];rfl
   rw[iF e];show qU (s'.tag j) (s'.hd j) :: s'.tag j=ZO s j;rw[kJ j e,f j e W];rfl
  ·show s.more+r<s.more+s.lK;omega
  ·exact GJ
  have hq:∀op∈u,op.act.touch? = none/\(∀a,op.act≠.mark a):=by intro op o;rcases B0 op o with e | e | e | e<;>rw[e]<;>exact⟨rfl,by simp⟩
  refine⟨L,(h.tr.kF (u:=u) λop o=>?_).sub (λj hj=>?_) (λq hq=>?_),λj hj hc=>?_,λA=>?_,?_⟩
  ·obtain⟨h1,h2⟩:=hq op o;exact⟨h1,h2 _,h2 _,λe=>absurd e (h2 _)⟩
  ·unfold Vi at hj ⊢;by_cases e:j=b
   ·subst e;rw[nJ]at hj;simp[cd]at hj
   rw[kJ j e]at hj;exact hj
  ·obtain⟨⟨x,hx⟩,h1,h2,h3⟩:=hq;have hx:(Hs.ins c.ch (.chan 0 #[] false (s.cn+1) (s.cn+1) false)) q=some x:=hx;rw[Hp.aR _ _ h3]at hx;exact⟨⟨x,hx⟩,h1,h2,h3⟩
  ·rw[ZfT λop o d=>by rcases B0 op o with e | e | e | e<;>simp[deafStep,e]];exact S0
  ·rw[C]at A;simp[cd]at A
  rcases h.heap with⟨h1,h2⟩ | ⟨h1,Hl,h2,h3,S⟩
  ·exact .inl ⟨M.2 h1,by rw[h2];exact SB⟩
  refine .inr ⟨λh=>h1 (M.1 h),Hl,?_,?_,S⟩
  ·rw[h2,<-SB];refine Hp.ext' (λq=>?_) rfl;show(((kQ c s).join Hl).ins c.ch (.chan 0 #[] false (s.cn+1) (s.cn+1) false)) q=_;simp only[Hp.iG,Hp.fW];by_cases e:q=c.ch
   ·rw[qAa e,qAa e]
   rw[iF e,iF e]
  exact T0
 FR:=by
  intro(s:Ts) Hs t b h hb y B9;have h:ZU c s Hs t:=h;have hb:b<s.next:=hb;have y:s.cls=true:=y;have B9:U1 c false (ZO s b):=B9;have tV:cd (s.tag b)=1\/cd (s.tag b)=19:=by exact GM
  have B:b≠0:=by rintro rfl;have:=h.cnt.wg.main;omega
  have pL:c.base<=b:=by exact GK
  have E:c.need (s.hd b)=true->s.hd b∈s.m9:=by exact TO
  let s':Ts:={ s with tag:=upd s.tag b [19,1],hd:=upd s.hd b 0 }
  have J:=h.cnt.vY (l:=[19,1]) pL hb tV (.inr rfl);have kJ:∀j,j≠b->s'.tag j=s.tag j:=λj hj=>upd_ne _ _ hj;have nJ:s'.tag b=[19,1]:=upd_same _ _ _;have f:∀j,j≠b->s'.hd j=s.hd j:=λj h1=>upd_ne _ _ h1;have q8:s'.hd b=0:=upd_same _ _ _;have Jk:Mu.mu s.mu s.pm s'.tag s.next<=Mu.mu s.mu s.pm s.tag s.next:=by have:=counts (tag:=s.tag) (l:=[19,1]) hb lD;have e1:lD (cd [19,1])=0:=rfl;have e2:Ct lD s'.tag s.next=Ct lD (upd s.tag b [19,1]) s.next:=rfl;unfold Mu.mu;omega
  have L:fY c s':=by
   refine⟨J.1,(J.2 _).2 h.cnt.wg,λj hj=>?_,λv=>?_,λk n hk hl=>?_,λj hj hc=>?_,h.cnt.num,h.cnt.pos,h.cnt.nb,λj h1 h2=>?_,λj h1 h2=>?_,h.cnt.lnd,h.cnt.lmem,λj h1 h2=>?_,⟨λe=>?_,λe=>?_⟩,h.cnt.mle,λj h1 h2=>?_,λj k h1 h2 h3 S h5 T=>?_,λq h1 h2 h3=>?_,λe=>?_,λh1=>y⟩
   ·exact G9
   ·rw[kJ 0 (qAo B)];exact h.cnt.saysM v
   ·rw[kJ 0 (qAo B)]at hl;exact h.cnt.cntN k n hk hl
   ·by_cases e:j=b
    ·subst e;rw[nJ]at hc;simp[cd]at hc
    rw[kJ j e]at hc ⊢;exact h.cnt.tk j hj hc
   ·rw[kJ j O];exact h.cnt.olds j h1 h2
   ·by_cases e:j=b
    ·subst e;rw[nJ];simp[cd]
    rw[kJ j e];exact h.cnt.works j h1 h2
   ·by_cases e:j=b
    ·subst e;rw[nJ,q8];refine⟨λe=>by simp[cd]at e,λ_ e=>by simp[cd]at e,λ_ e=>?_⟩;rw[ok.Ja]at e;simp at e
    rw[kJ j e,f j e];exact h.cnt.lwk j h1 h2
   ·rw[f 0 (qAo B)];exact h.cnt.hd0.1 e
   ·rw[f 0 (qAo B)];exact h.cnt.hd0.2 e
   ·by_cases e:j=b
    ·subst e;rw[q8];have:=h.cnt.mle;show 0+s.lK<=_;omega
    rw[f j e];exact h.cnt.hdw j h1 h2
   ·by_cases e:j=b
    ·subst e;rw[q8]at h5;omega
    rw[f j e]at h5 T;by_cases G:k=b
    ·subst G;rw[q8]at T;omega
    rw[f k G]at T;exact h.cnt.hinj j k h1 h2 h3 S h5 T
   ·rcases h.cnt.compl q h1 h2 h3 with S | ⟨j,j1,j2,j3⟩
    ·exact .inl S
    by_cases G:j=b
    ·subst G;rw[<-j3]at h3;exact .inl (j3 ▸ E h3)
    exact .inr ⟨j,j1,j2,by rw[f j G];exact j3⟩
   have e:s.cls=false:=e;rw[y]at e;simp at e
  have M:Va s'↔Va s:=by exact TU
  refine⟨s',λj=>?_,rfl,DO _,y,λj hj=>?_,λu U=>?_⟩
  ·show ZO s' j=_;by_cases e:j=b
   ·subst e;rw[qAa rfl];show qU (s'.tag j) (s'.hd j) :: s'.tag j=_;rw[nJ,q8];rfl
   rw[iF e];show qU (s'.tag j) (s'.hd j) :: s'.tag j=ZO s j;rw[kJ j e,f j e];rfl
  ·exact GJ
  refine⟨L,(h.tr.kF (u:=u) λop o=>?_).sub (λj hj=>?_) (λq hq=>hq),λj hj hc=>?_,λA=>?_,?_⟩
  ·rw[(U op o).2];exact⟨rfl,by simp,by simp,λe=>by simp at e⟩
  ·unfold Vi at hj ⊢;by_cases e:j=b
   ·subst e;rw[nJ]at hj;simp[cd]at hj
   rw[kJ j e]at hj;exact hj
  ·rw[ZfT λop o d=>by simp[deafStep,(U op o).2]];exact S0
  ·exfalso;rw[kJ 0 (qAo B)]at A;have:=h.cnt.over O pL hb;rw[this]at tV;simp[cd]at tV
  exact h.heap.imp (λ⟨a,b⟩=>⟨M.2 a,b⟩) λ⟨a,Hl,b,cc,d⟩=>⟨λh=>a (M.1 h),Hl,b,cc,d⟩
 v7:=by simp[fX,U2,YI,ZV,cd]
 vL:=by simp[fX,M1,Yf,ZV,cd]
 uA:=by intro d;simp[fX,U2,YI,ZV,cd,lv]
 pG:=by intro g h1 h2;simp only[fX,U2,M1,YI,Yf]at h1 h2;omega
 AG:=by intro d;simp[fX,M1,Yf,ZV,cd,lv]
 FN:=by intro d;simp[fX,lv]
 zZ:=by intro g h;simp only[fX,M1,Yf]at h ⊢;simp[h.1,h.2]
end
end
section
variable{l:List Nat}{es tY:Array Event}{w':World}{P:Program}{main wk nr:Bool}{fr:Frame}{nx:Value->Frame}{cs:List Frame}{sm:Sem Next}
open Go.Conc
open Go.ConcN (sumTo upd sumTo_upd upd_ne upd_same)
section
variable{p:Program}{c:Cx}{i:Nat}{H:Hp}{s:Ts}{Hs:Hp}{t:Trace}{w:World}
def ZeU(ok:c.Ok){a:Hp}(d:(kQ c s).Comp a):a c.M=none/\a c.W=none/\a c.ch=none:=⟨d.jX (P5 ok.ne s),d.jX (P6 c s),d.jX (P4 ok.BX ok.BW s)⟩
def YO(a:gX (fX p c) i H s Hs t w)(d:cd H.cg≠0):s.tag i=H.cg/\s.hd i=H.hd:=Lw (show ZO s i=H.gh from a.tag) d
def XL{s s':Ts}(a:s'.tag=upd s.tag i l)(d:s'.hd=s.hd)(j:Nat):ZO s' j=if j=i then qU l (s.hd i) :: l else ZO s j:=by
 unfold ZO;rw[a,d,V9];by_cases e:j=i
 ·subst e;rw[qAa rfl,qAa rfl]
 rw[iF e,iF e]
def ML{h:Nat}(a:cd l≠0):qU l h=h+1:=iF a
def XE{j:Nat}{fn:FuncId}{pos:String}(h:∀j,c.live s.next j->cd (s.tag j)≠0->Deaf t j=df (cd (s.tag j)))(d:cd l≠0->deafBehind (Deaf t i) es=df (cd l))(g:c.live s.next j)(a:cd (upd s.tag i l j)≠0) :
  Deaf (t++MemOp.ofEvents i fn pos es) j=df (cd (upd s.tag i l j)):=by
 by_cases e:j=i
 ·subst e;rw[upd_same]at a ⊢;rw[Deaf_own];exact d a
 rw[upd_ne _ _ e]at a ⊢;rw[Deaf_other t (qAo e) _ λop f=>by obtain⟨e,_,rfl⟩:=Go.Conc.mem_ofEvents f;rfl];exact h j g a
def XU(e:gX (fX p c) i H s Hs t w)(f:s.tag i≠[0]):c.live s.next i:=by
 refine⟨e.lt,?_⟩;rcases qBd i with a | a
 ·exact .inl a
 rcases qBh i c.base with d | d
 ·exact absurd ((show ZU c s Hs t from e.inv).cnt.olds i a d) f
 exact .inr d
def Zwk(ok:c.Ok)(E:gX (fX p c) i H s Hs t w)(hi:c.live s.next i){x':Mu}{y':Wg}
  (Z:fY c { s with mu:=x',wg:=y',tag:=upd s.tag i l }) (Js:FG c.toTC i (Deaf t i) es) (DN:∀e∈es,∀B,c.M<B->c.W<B->(MemAct.ofEvent e).low B)
  (J:cd l≠0->deafBehind (Deaf t i) es=df (cd l)) (Su:cd (s.tag i)≠12/\cd (s.tag i)≠40) (aOi:cd l≠12/\cd l≠40) (F:cd (s.tag i)≠0) (K:20<=cd l\/cd l=0->Vi s i)
  (hM:w'.heap[c.M]? = some (MN c x')) (hW:w'.heap[c.W]? = some (U9 c y')) (D:∀b,b≠c.M->b≠c.W->w'.heap[b]? = w.heap[b]?) (xT:w'.heap.size=w.heap.size) (AJ:wE w w') :
  ∃d,∀fn pos,jZ (fX p c) i s Hs t w H (MemOp.ofEvents i fn pos es) { s with mu:=x',wg:=y',tag:=upd s.tag i l } d w'/\∀g,kN i Hs w H (t++MemOp.ofEvents i fn pos es) d w' (H.tagged g):=by
 have G:ZU c s Hs t:=E.inv;have R:=G.atM ok;have S:=G.atW;let s':Ts:={ s with mu:=x',wg:=y',tag:=upd s.tag i l }
 have vK:Va s'↔Va s:=by
  constructor
  ·rintro⟨j,C,A⟩;by_cases e:j=i
   ·subst e;simp only[s',upd_same]at A;omega
   simp only[s',upd_ne _ _ e]at A;exact⟨j,C,A⟩
  rintro⟨j,C,A⟩;by_cases e:j=i
  ·subst e;omega
  exact⟨j,C,by simp only[s',upd_ne _ _ e];exact A⟩
 have V:H c.M=none:=by
  cases hh:H c.M with
  | none=>rfl
  | some y=>have:=E.dis c.M _ _ hh R;rw[this.1]at this;simp at this
 have X:H c.W=none:=by
  cases hh:H c.W with
  | none=>rfl
  | some y=>have:=E.dis c.W _ _ hh S;rw[this.1]at this;simp at this
 have N:∃d:Hp,((Va s'/\d=kQ c s')\/(¬ Va s'/\∃Q:Hp,d=(kQ c s').join Q/\(kQ c s').Comp Q/\c.PI s'.m9 Q))/\(∀b,b≠c.M->b≠c.W->d b=Hs b)/\d c.M=some (MN c x',true)/\d c.W=some (U9 c y',true):=by
  rcases G.heap with⟨C,A⟩ | ⟨C,Q,A,T,h4⟩
  ·refine⟨kQ c s',.inl ⟨vK.2 C,rfl⟩,λb n r=>?_,P5 ok.ne s',P6 c s'⟩;rw[A];exact Zla n r rfl
  obtain⟨p1,p2,p3⟩:=ZeU ok T;refine⟨(kQ c s').join Q,.inr ⟨λh=>C (vK.1 h),Q,rfl,⟨λb y z hy F=>?_,by left;rfl⟩,h4⟩,λb n r=>?_,Hp.eN (P5 ok.ne s'),Hp.eN (P6 c s')⟩
  ·rcases(Ux hy).1 with rfl | rfl | rfl
   ·rw[p1]at F;simp at F
   ·rw[p2]at F;simp at F
   rw[p3]at F;simp at F
  rw[A];simp only[Hp.fW,Zla (s:=s) (s':=s') n r rfl]
 obtain⟨d,L,m,sM,sW⟩:=N;have pS:c.M<w.heap.size/\c.W<w.heap.size:=⟨E.leS.lt R,E.leS.lt S⟩;have SF:d.le w':=by
  intro b o pm hb;by_cases n:b=c.M
  ·subst n;rw[sM]at hb;rw[hM];simp only[IF,qAX]at hb;rw[hb.1]
  by_cases r:b=c.W
  ·subst r;rw[sW]at hb;rw[hW];simp only[IF,qAX]at hb;rw[hb.1]
  rw[m b n r]at hb;rw[D b n r];exact E.leS b o pm hb
 have B8:H.le w':=by
  intro b o pm hb;have n:b≠c.M:=by rintro rfl;rw[V]at hb;simp at hb
  have r:b≠c.W:=by rintro rfl;rw[X]at hb;simp at hb
  rw[D b n r];exact E.le b o pm hb
 have xV:H.Dis d:=by
  intro b x y v hy;have n:b≠c.M:=by rintro rfl;rw[V]at v;simp at v
  have r:b≠c.W:=by rintro rfl;rw[X]at v;simp at v
  rw[m b n r]at hy;exact E.dis b x y v hy
 have hsh:∀{op:MemOp} {fn pos},op∈MemOp.ofEvents i fn pos es->∀a,op.act.touch? = some a->a.loc.isMemory=true->c.toTC.Sh a.loc/\a.kind≠.plain/\(a.kind=.said->i=0):=by intro op fn pos f a ha hm;obtain⟨e,he,rfl⟩:=Go.Conc.mem_ofEvents f;obtain⟨k,hk,hke⟩:=qCN.1 he;obtain⟨C,A,T,_⟩:=(Js k e (by rw[qBc hk,hke])).2 a ha hm;exact⟨C,A,T⟩
 refine⟨d,λfn pos=>⟨⟨by rw[xT];exact DO _,?_,SF,?_,AJ,?_,?_,?_,?_⟩,λg=>⟨B8,xV,?_,?_⟩⟩⟩
 ·intro b _ _ hn;exact D b (by rintro rfl;exact hn _ R) (by rintro rfl;exact hn _ S)
 ·intro b x v;refine .inr ?_;by_cases n:b=c.M
  ·subst n;exact⟨_,.inr R,λh=>by simp at h⟩
  by_cases r:b=c.W
  ·subst r;exact⟨_,.inr S,λh=>by simp at h⟩
  rw[m b n r]at v;exact⟨x,.inr v,λ_=>rfl⟩
 ·intro op f x v b hb;obtain⟨⟨b',Y,h⟩,_⟩:=hsh f x v (Zf2 hb);rw[hb]at Y;obtain rfl:=aT Y;refine .inl ?_;rcases h with rfl | rfl
  ·exact⟨_,true,.inr R,λ_=>rfl⟩
  exact⟨_,true,.inr S,λ_=>rfl⟩
 ·intro said q a ha op f b hb hc;have hmb:b.loc.isMemory=true:=by rw[<-hc.1];exact hc.2.1
  obtain⟨C,A,T⟩:=hsh f b hb hmb;exact G.tr.known hi C A T ha hc
 ·intro op f;obtain⟨e,he,rfl⟩:=Go.Conc.mem_ofEvents f;rw[xT];exact DN e he _ pS.1 pS.2
 ·refine⟨Z,?_,λj I tV=>XE G.deaf J I tV,λU=>?_,L⟩;rotate_left
  ·exfalso;rcases hi.2 with h0 | h0
   ·subst h0;simp only[upd_same]at U;omega
   have:i≠0:=by have:=G.cnt.pos;omega
   simp only[upd_ne _ _ (qAo this)]at U;rw[G.cnt.over O h0 hi.1]at F;exact F rfl
  refine(G.tr.evs hi (λb hb=>⟨hb.2.1,hb.2.2.1⟩) ⟨ok.BX,ok.BW⟩ Js).sub (λj I=>?_) (λb hb=>?_)
  ·unfold Vi at I;simp only at I;by_cases e:j=i
   ·subst e;rw[upd_same]at I;exact K I
   rw[upd_ne _ _ e]at I;exact I
  obtain⟨⟨x,v⟩,n,r,b3⟩:=hb;rw[m b n r]at v;exact⟨⟨x,v⟩,n,r,b3⟩
 ·exact λb x v=>.inr ⟨x,.inl v,λ_=>rfl⟩
 have:iQ (t++MemOp.ofEvents i fn pos es) i H:=E.perm.own λop f=>.inl (by obtain⟨e,_,rfl⟩:=Go.Conc.mem_ofEvents f;rfl);exact this
def Oz(a:P2 P fr nx sm wk nr){v:Value}{w:World}(d:sm.runT P w #[]=(.ok (.value v) w',tY)) :
  stepG P main (gG fr cs) w=.go (gG (nx v) cs) w' (seen P fr.fn tY):=a.val _ _ _ _ _ _ d
def ZeB(d:P2 P fr nx sm wk nr){w:World}(a:sm.runT P w #[]=(.halt .blocked w,tY)) :
  stepG P main (gG fr cs) w=.go (j0 fr cs) w #[]:=by
 rcases d.halt with h | h
 ·obtain⟨v,w',es,e⟩:=h w;rw[a]at e;simp at e
 exact h _ _ _ _ a
end
end
open Go.ConcN (sumTo upd sumTo_upd upd_ne upd_same)
def Mu.tT{G:Prop} (h:G:=by
  obtain⟨f1,f2,f3,f4,f5,f6⟩:=F;have e0:=counts (tag:=tag) (l:=l) hi Yz;have e1:=counts (tag:=tag) (l:=l) hi cT;have e2:=counts (tag:=tag) (l:=l) hi cQ;have e3:=counts (tag:=tag) (l:=l) hi cA;have e4:=counts (tag:=tag) (l:=l) hi cU;have e5:=counts (tag:=tag) (l:=l) hi cR;have e6:=counts (tag:=tag) (l:=l) hi lD;have g1:=Ct.le Yz tag hi;have g2:=Ct.le cT tag hi;have g3:=Ct.le cQ tag hi;have g4:=Ct.le cA tag hi;have g5:=Ct.le cU tag hi;have g6:=Ct.le cR tag hi;simp[hc,hl,Yz,cT,cQ,cA,cU,cR,lD,one]at e0 e1 e2 e3 e4 e5 e6 g1 g2 g3 g4 g5 g6;try unfold Mu.st at h
  refine⟨⟨?_,?_,?_,?_,?_,?_⟩,?_⟩<;>(try unfold Mu.mu)<;>(try dsimp only)<;>omega):G:=h
section
variable{x:Mu}{tag:Nat->List Nat}{k i more:Nat}{l:List Nat}
def Mu.LY(F:x.fF tag k)(hi:i<k)(hc:cd (tag i)=2)(hl:cd l=10)(h:x.st=0):Mu.fF { x with L:=1 } (upd tag i l) k/\Mu.mu { x with L:=1 } more (upd tag i l) k+6=x.mu more tag k+3:=Mu.tT
def Mu.C4(F:x.fF tag k)(hi:i<k)(hc:cd (tag i)=4)(hl:cd l=5)(h:x.W=0)(a:x.S=0):Mu.fF { x with W:=1 } (upd tag i l) k/\Mu.mu { x with W:=1 } more (upd tag i l) k+6=x.mu more tag k+5:=Mu.tT
def Mu.zS(F:x.fF tag k)(hi:i<k)(hc:cd (tag i)=4)(hl:cd l=10)(h:x.L=0)(a:x.S=0):Mu.fF { x with L:=1 } (upd tag i l) k/\Mu.mu { x with L:=1 } more (upd tag i l) k+6=x.mu more tag k+3:=Mu.tT
def Mu.zQ(F:x.fF tag k)(hi:i<k)(hc:cd (tag i)=6)(hl:cd l=10)(h:x.L=0)(a:x.S=0):Mu.fF { x with L:=1,W:=0 } (upd tag i l) k/\Mu.mu { x with L:=1,W:=0 } more (upd tag i l) k+5=x.mu more tag k+3:=Mu.tT
def Mu.sJ(F:x.fF tag k)(hi:i<k)(hc:cd (tag i)=4)(hl:cd l=7)(h:x.L=1\/x.S=1):Mu.fF { x with n:=x.n+1 } (upd tag i l) k/\Mu.mu { x with n:=x.n+1 } more (upd tag i l) k+6=x.mu more tag k+4:=Mu.tT
def Mu.sI(F:x.fF tag k)(hi:i<k)(hc:cd (tag i)=6)(hl:cd l=7)(h:x.L=1):Mu.fF { x with n:=x.n+1,W:=0 } (upd tag i l) k/\Mu.mu { x with n:=x.n+1,W:=0 } more (upd tag i l) k+5=x.mu more tag k+4:=Mu.tT
def Mu.p7(F:x.fF tag k)(hi:i<k)(hc:cd (tag i)=6)(hl:cd l=7)(h:x.L=1):Mu.fF { x with n:=x.n+1,W:=0,S:=1 } (upd tag i l) k/\Mu.mu { x with n:=x.n+1,W:=0,S:=1 } more (upd tag i l) k+5=x.mu more tag k+4:=Mu.tT
def Mu.sC(F:x.fF tag k)(hi:i<k)(hc:cd (tag i)=7)(hl:cd l=8)(h:0<x.sm):Mu.fF { x with sm:=x.sm-1 } (upd tag i l) k/\Mu.mu { x with sm:=x.sm-1 } more (upd tag i l) k+5=x.mu more tag k+5:=Mu.tT
def Mu.vC(F:x.fF tag k)(hi:i<k)(hc:cd (tag i)=8)(hl:cd l=6)(h:x.S=0):Mu.fF x (upd tag i l) k/\Mu.mu x more (upd tag i l) k+5=x.mu more tag k+5:=Mu.tT
def Mu.zK(F:x.fF tag k)(hi:i<k)(hc:cd (tag i)=8)(hl:cd l=9)(h:x.S=1):Mu.fF x (upd tag i l) k/\Mu.mu x more (upd tag i l) k+5=x.mu more tag k+5:=Mu.tT
def Mu.hand(F:x.fF tag k)(hi:i<k)(hc:cd (tag i)=9)(hl:cd l=10)(h:x.S=1)(a:2<=x.n):Mu.fF { x with L:=1,n:=x.n-1 } (upd tag i l) k/\Mu.mu { x with L:=1,n:=x.n-1 } more (upd tag i l) k+5=x.mu more tag k+3:=Mu.tT
def Mu.AM(F:x.fF tag k)(hi:i<k)(hc:cd (tag i)=9)(hl:cd l=10)(h:x.S=1):Mu.fF { x with L:=1,n:=x.n-1,S:=0 } (upd tag i l) k/\Mu.mu { x with L:=1,n:=x.n-1,S:=0 } more (upd tag i l) k+5=x.mu more tag k+3:=Mu.tT
def Mu.sA(F:x.fF tag k)(hi:i<k)(hc:cd (tag i)=14)(hl:cd l=18)(h:x.S=0)(a:x.n=0\/x.W=1):Mu.fF { x with L:=0 } (upd tag i l) k/\Mu.mu { x with L:=0 } more (upd tag i l) k+3=x.mu more tag k+0:=Mu.tT
def Mu.pW(F:x.fF tag k)(hi:i<k)(hc:cd (tag i)=14)(hl:cd l=15)(h:x.S=0):Mu.fF { x with L:=0 } (upd tag i l) k/\Mu.mu { x with L:=0 } more (upd tag i l) k+3=x.mu more tag k+2:=Mu.tT
def Mu.r8(F:x.fF tag k)(hi:i<k)(hc:cd (tag i)=14)(hl:cd l=17)(h:x.S=1):Mu.fF { x with L:=0 } (upd tag i l) k/\Mu.mu { x with L:=0 } more (upd tag i l) k+3=x.mu more tag k+1:=Mu.tT
def Mu.A0(F:x.fF tag k)(hi:i<k)(hc:cd (tag i)=15)(hl:cd l=17)(h:x.L=0)(a:x.W=0)(d:x.S=0)(e:0<x.n):Mu.fF { x with n:=x.n-1,W:=1 } (upd tag i l) k/\Mu.mu { x with n:=x.n-1,W:=1 } more (upd tag i l) k+2=x.mu more tag k+1:=Mu.tT
def Mu.uR(F:x.fF tag k)(hi:i<k)(hc:cd (tag i)=17)(hl:cd l=18) :Mu.fF { x with sm:=x.sm+1 } (upd tag i l) k/\Mu.mu { x with sm:=x.sm+1 } more (upd tag i l) k+1=x.mu more tag k+1:=Mu.tT
def Mu.uX(F:x.fF tag k)(hi:i<k)(hc:cd (tag i)=16)(hl:cd l=18)(h:x.L=1\/x.W=1\/x.S=1\/x.n=0):Mu.fF x (upd tag i l) k/\Mu.mu x more (upd tag i l) k+2=x.mu more tag k+0:=Mu.tT
def Mu.sF(F:x.fF tag k)(hi:i<k)(hc:cd (tag i)=1)(hl:cd l=2) :Mu.fF x (upd tag i l) k/\Mu.mu x more (upd tag i l) k+6=x.mu more tag k+6:=Mu.tT
def Mu.sE(F:x.fF tag k)(hi:i<k)(hc:cd (tag i)=2)(hl:cd l=3) :Mu.fF x (upd tag i l) k/\Mu.mu x more (upd tag i l) k+6=x.mu more tag k+6:=Mu.tT
def Mu.same3_4(F:x.fF tag k)(hi:i<k)(hc:cd (tag i)=3)(hl:cd l=4) :Mu.fF x (upd tag i l) k/\Mu.mu x more (upd tag i l) k+6=x.mu more tag k+6:=Mu.tT
def Mu.pZ(F:x.fF tag k)(hi:i<k)(hc:cd (tag i)=4)(hl:cd l=3) :Mu.fF x (upd tag i l) k/\Mu.mu x more (upd tag i l) k+6=x.mu more tag k+6:=Mu.tT
def Mu.same5_6(F:x.fF tag k)(hi:i<k)(hc:cd (tag i)=5)(hl:cd l=6) :Mu.fF x (upd tag i l) k/\Mu.mu x more (upd tag i l) k+5=x.mu more tag k+5:=Mu.tT
def Mu.pY(F:x.fF tag k)(hi:i<k)(hc:cd (tag i)=6)(hl:cd l=5) :Mu.fF x (upd tag i l) k/\Mu.mu x more (upd tag i l) k+5=x.mu more tag k+5:=Mu.tT
def Mu.oW(F:x.fF tag k)(hi:i<k)(hc:cd (tag i)=10)(hl:cd l=11) :Mu.fF x (upd tag i l) k/\Mu.mu x more (upd tag i l) k+3=x.mu more tag k+3:=Mu.tT
def Mu.xK(F:x.fF tag k)(hi:i<k)(hc:cd (tag i)=11)(hl:cd l=12) :Mu.fF x (upd tag i l) k/\Mu.mu x more (upd tag i l) k+3=x.mu more tag k+3:=Mu.tT
def Mu.xJ(F:x.fF tag k)(hi:i<k)(hc:cd (tag i)=12)(hl:cd l=13) :Mu.fF x (upd tag i l) k/\Mu.mu x more (upd tag i l) k+3=x.mu more tag k+3:=Mu.tT
def Mu.oV(F:x.fF tag k)(hi:i<k)(hc:cd (tag i)=13)(hl:cd l=14) :Mu.fF x (upd tag i l) k/\Mu.mu x more (upd tag i l) k+3=x.mu more tag k+3:=Mu.tT
def Mu.oU(F:x.fF tag k)(hi:i<k)(hc:cd (tag i)=15)(hl:cd l=16) :Mu.fF x (upd tag i l) k/\Mu.mu x more (upd tag i l) k+2=x.mu more tag k+2:=Mu.tT
def Mu.oT(F:x.fF tag k)(hi:i<k)(hc:cd (tag i)=16)(hl:cd l=15) :Mu.fF x (upd tag i l) k/\Mu.mu x more (upd tag i l) k+2=x.mu more tag k+2:=Mu.tT
def Mu.oQ(F:x.fF tag k)(hi:i<k)(hc:cd (tag i)=18)(hl:cd l=19) :Mu.fF x (upd tag i l) k/\Mu.mu x more (upd tag i l) k+0=x.mu more tag k+0:=Mu.tT
def Mu.oP(F:x.fF tag k)(hi:i<k)(hc:cd (tag i)=19)(hl:cd l=20) :Mu.fF x (upd tag i l) k/\Mu.mu x more (upd tag i l) k+0=x.mu more tag k+0:=Mu.tT
def Mu.oO(F:x.fF tag k)(hi:i<k)(hc:cd (tag i)=20)(hl:cd l=21) :Mu.fF x (upd tag i l) k/\Mu.mu x more (upd tag i l) k+0=x.mu more tag k+0:=Mu.tT
def Mu.xI(F:x.fF tag k)(hi:i<k)(hc:cd (tag i)=21)(hl:cd l=22) :Mu.fF x (upd tag i l) k/\Mu.mu x more (upd tag i l) k+0=x.mu more tag k+0:=Mu.tT
def Mu.oN(F:x.fF tag k)(hi:i<k)(hc:cd (tag i)=22)(hl:cd l=23) :Mu.fF x (upd tag i l) k/\Mu.mu x more (upd tag i l) k+0=x.mu more tag k+0:=Mu.tT
def Mu.xH(F:x.fF tag k)(hi:i<k)(hc:cd (tag i)=23)(hl:cd l=24) :Mu.fF x (upd tag i l) k/\Mu.mu x more (upd tag i l) k+0=x.mu more tag k+0:=Mu.tT
def Mu.AA(F:x.fF tag k)(hi:i<k)(hc:cd (tag i)=21)(hl:cd l=0) :Mu.fF x (upd tag i l) k/\Mu.mu x more (upd tag i l) k+0=x.mu more tag k+0:=Mu.tT
def Mu.z9(F:x.fF tag k)(hi:i<k)(hc:cd (tag i)=24)(hl:cd l=0) :Mu.fF x (upd tag i l) k/\Mu.mu x more (upd tag i l) k+0=x.mu more tag k+0:=Mu.tT
end
