import Derived.Test.YtlhomfgcibjccaaGreatDoorP10
import Derived.Test.YtlhomfgcibjccaaGreatDoorP11
set_option linter.all false
namespace Go.LL
section
variable{G:Prop}{b i j k:Nat}{l:List Nat}{u:Trace}
def Zh3(h:G:=by
  have hl:=h.cnt.lwk b nQ hb;rcases BQ with⟨e,e2⟩ | e
  ·intro hn;rw[(Uf e (by simp[cd])).2,hn]at e2;simp at e2
  rw[(Uf e (by simp[cd])).1]at hl;exact hl.2.2 (.inr (by simp[cd]))):G:=h
def Zh4(h:G:=by
  constructor
  ·rintro⟨j,h1,h2⟩;by_cases e:j=b
   ·subst e;rw[jY]at h2;simp[cd]at h2
   rw[gF j e]at h2;exact⟨j,h1,h2⟩
  rintro⟨j,h1,h2⟩;by_cases e:j=b
  ·subst e;omega
  exact⟨j,h1,by rw[gF j e];exact h2⟩):G:=h
open Go.Conc
open Go.ConcN (sumTo upd sumTo_upd upd_ne upd_same)
def Q6{f:Nat->Nat}:∀{n:Nat},(∀i,i<n->f i=0)->sumTo n f=0
 | 0,_=>rfl
 | n+1,h=>by rw[sumTo,Q6 λi a=>h i O,h n O]
def Zg0{f:Nat->Nat}:∀{n:Nat},sumTo n f≠0->∃i,i<n/\f i≠0
 | 0,h=>absurd rfl h
 | n+1,h=>by
  by_cases e:f n=0
  ·rw[sumTo,e,qCW]at h;obtain⟨i,d,a⟩:=Zg0 h;exact⟨i,O,a⟩
  exact⟨n,O,e⟩
def Mg{f:Nat->Nat}{b:Nat}:∀{n:Nat},b<=n->(∀i,i<n->f i<=1)->(∀i,i<b->f i=0)->sumTo n f<=n-b
 | 0,_,_,_=>qAI _
 | n+1,hb,d,a=>by
  rw[sumTo];by_cases e:b=n+1
  ·rw[Q6 λi g=>a i O,a n O];omega
  have:=Mg (f:=f) (b:=b) (n:=n) O (λi g=>d i O) a;have:=d n O;omega
structure Cx extends TC where
 tM:TypeId
 tW:TypeId
 K:Nat
 need:Nat->Bool
 PI:List Nat->Hp->Prop
 N:Nat
 msg:Nat->Value->Hp->Prop
structure Ts where
 tag:Nat->List Nat
 next:Nat
 more:Nat
 mu:Mu
 wg:Wg
 kQ:List Nat
 hd:Nat->Nat
 iU:Nat
 cls:Bool
 cn:Nat
abbrev Ts.pm(s:Ts):Nat:=s.more+s.iU
def ZN:List Nat->List Nat
 | (_+1) :: l=>l
 | _=>[]
def OK:List Nat->Nat
 | (n+1) :: _=>n
 | _=>0
def pL(l:List Nat)(h:Nat):Nat:=if cd l=0 then 0 else h+1
def ZE(s:Ts)(j:Nat):List Nat:=pL (s.tag j) (s.hd j) :: s.tag j
def Hp.cg(H:Hp):List Nat:=ZN H.gh
def Hp.hd(H:Hp):Nat:=OK H.gh
def Hp.tagc(H:Hp)(l:List Nat):Hp:=H.tagged ((H.hd+1) :: l)
theorem Vb(H:Hp)(l:List Nat):(H.tagc l).cg=l:=rfl
theorem UF(H:Hp)(l:List Nat)(b:Nat):H.tagc l b=H b:=rfl
def IZ(c:Cx)(x:Mu):Obj:=.cells #[.int .i32 (x.st:Nat),.int .u32 (x.sm:Nat)] c.tM
def U0(c:Cx)(y:Wg):Obj:=.cells #[.int .u64 ((y.v * 4294967296+y.wt:Nat):Int),.int .u32 (y.wm:Nat)] c.tW
def Uw(s:Ts):Obj:=.chan 0 #[] s.cls s.cn s.cn false
def gZ(c:Cx)(s:Ts):Hp:=((Hp.nil.ins c.ch (Uw s)).ins c.M (IZ c s.mu)).ins c.W (U0 c s.wg)
def df(c:Nat):Nat:=one ((2<=c && c<=10) || (14<=c && c<=18) || (21<=c && c<=24) || c == 31 || c == 32 || (34<=c && c<=38))
def Om(n m:Prop)(c:Nat):Prop:=(c=1->¬ m)/\(2<=c->c<=12->n/\¬ m)/\(c=0\/13<=c->n->m)
structure bP(c:Cx)(s:Ts):Prop where
 mu:s.mu.aS s.tag s.next
 wg:s.wg.aS s.tag s.next s.more
 says:∀j,j<s.next->s.mu.jA (Mu.mu s.mu s.pm s.tag s.next) (s.tag j)
 saysM:∀v,(s.tag 0=[35,v]->s.wg.v<=v)/\(s.tag 0=[34,v]->s.wg.v<v)
 cntN:∀k n,k<=33->s.tag 0=[k,n]->s.next=c.base+n
 tk:∀j,j<s.next->cd (s.tag j)=12->s.tag j=12 :: s.kQ
 num:s.next+s.more=c.base+c.K
 pos:1<=c.base
 nb:c.base<=s.next
 olds:∀j,1<=j->j<c.base->s.tag j=[0]
 works:∀j,c.base<=j->j<s.next->cd (s.tag j)<=24/\(cd (s.tag j)=0->s.tag j=[0])
 lnd:s.kQ.Nodup
 lmem:∀m∈s.kQ,1<=m/\m+s.iU<=c.N/\c.need m=true
 lwk:∀j,c.base<=j->j<s.next->Om (c.need (s.hd j)=true) (s.hd j∈s.kQ) (cd (s.tag j))
 hd0:(s.cls=true->s.hd 0=0/\s.iU=0)/\(s.cls=false->s.hd 0=s.iU+1)
 mle:s.iU<=c.N
 hdw:∀j,c.base<=j->j<s.next->s.hd j+s.iU<=c.N
 hinj:∀j k,c.base<=j->j<s.next->c.base<=k->k<s.next->1<=s.hd j->s.hd j=s.hd k->j=k
 compl:∀m,1<=m->m+s.iU<=c.N->c.need m=true->m∈s.kQ\/∃j,c.base<=j/\j<s.next/\s.hd j=m
 run:s.cls=false->∀j,c.base<=j->j<s.next->1<=cd (s.tag j)/\cd (s.tag j)<=19/\s.tag j≠[19,1]
 mcl:34<=cd (s.tag 0)->s.cls=true
def YZ(s:Ts):Prop:=∃j,j<s.next/\(cd (s.tag j)=12\/cd (s.tag j)=40)
def Y6(s:Ts)(j:Nat):Prop:=20<=cd (s.tag j)\/cd (s.tag j)=0
def Bn(c:Cx)(Hs:Hp)(b:Nat):Prop:=(∃x,Hs b=some x)/\b≠c.M/\b≠c.W/\b≠c.ch
structure ZL(c:Cx)(s:Ts)(Hs:Hp)(t:Trace):Prop where
 cnt:bP c s
 tr:Tr c.toTC s.next (Y6 s) (Bn c Hs) t
 deaf:∀j,c.live s.next j->cd (s.tag j)≠0->Deaf t j=df (cd (s.tag j))
 fin:cd (s.tag 0)=40->(∀q x a,t[q]? = some x->x.act.touch? = some a->a.loc.isMemory=true->Knows t 0 q\/(a.kind=.atomic/\(c.old a.loc\/c.Sh a.loc)))/\t.HandedOver
 heap:(YZ s/\Hs=gZ c s)\/(¬ YZ s/\∃Hl:Hp,Hs=(gZ c s).join Hl/\(gZ c s).Comp Hl/\c.PI s.kQ Hl)
structure Cx.Ok(c:Cx):Prop where
 ne:c.M≠c.W
 neM:c.ch≠c.M
 neW:c.ch≠c.W
 pos:1<=c.K
 SI:c.need 0=false
 own:∀l H,c.PI l H->∀b x,H b=some x->x.2=true
 E4:c.K<=100000000
 aR:∀l H g,c.PI l H->c.PI l (H.tagged g)
def ZQ(s:Ts)(j:Nat):Prop:=(cd (s.tag j)=7/\s.mu.sm=0)\/(cd (s.tag j)=36/\s.wg.wm=0)
def Yw(l:List Nat):Prop:=(1<=cd l/\cd l<=19)\/30<=cd l
def Z3(l:List Nat):Prop:=20<=cd l/\cd l<=24
def UW(g:List Nat):Prop:=Yw (ZN g)
def IS(g:List Nat):Prop:=Z3 (ZN g)
def UV(c:Cx)(d:Bool)(g:List Nat):Prop:=if d then 3<=g.headD 0/\g.tail=[30,c.K]else(ZN g=[1]/\c.need (OK g)=false)\/ZN g=[19]
def bO(p:Program)(c:Cx):Vy p where
 S:=Ts
 tag:=ZE
 next:=Ts.next
 more:=Ts.pm
 Inv:=ZL c
 Blk:=ZQ
 act:=UW
 hsh:=IS
 left:=[0,0]
 stl:=λg=>g.headD 0 == 0 || (decide (20<=cd (ZN g)) && decide (cd (ZN g)<=24))
 stlNil:=rfl
 ch:=c.ch
 cls:=Ts.cls
 can:=UV c
 puts:=λg d v a=>∃r,g=(r+3) :: [30,c.K]/\d=(r+2) :: [30,c.K]/\c.msg (c.N-r) v a
 gets:=λg d v a=>∃m,d=(m+1) :: [1]/\1<=m/\m<=c.N/\OK g<m/\c.msg m v a
 shut:=λ_=>[1,19,1]
def I1{c:Cx}(h:c.M≠c.W)(s:Ts):gZ c s c.M=some (IZ c s.mu,true):=by unfold gZ;rw[Hp.aH _ _ h,Hp.aG]
def I2(c:Cx)(s:Ts):gZ c s c.W=some (U0 c s.wg,true):=Hp.aG _ _ _
def I0{c:Cx}(a:c.ch≠c.M)(d:c.ch≠c.W)(s:Ts):gZ c s c.ch=some (Uw s,true):=by unfold gZ;rw[Hp.aH _ _ d,Hp.aH _ _ a,Hp.aG]
theorem WM{c:Cx}{s:Ts}(a:b≠c.M)(d:b≠c.W)(e:b≠c.ch):gZ c s b=none:=by unfold gZ;rw[Hp.aH _ _ d,Hp.aH _ _ a,Hp.aH _ _ e];rfl
def Zln{c:Cx}{s s':Ts}(a:b≠c.M)(d:b≠c.W)(e:Uw s'=Uw s):gZ c s' b=gZ c s b:=by unfold gZ;rw[Hp.aH _ _ d,Hp.aH _ _ a,Hp.aH _ _ d,Hp.aH _ _ a,e]
def Ur{c:Cx}{s:Ts}{y:Obj×Bool}(h:gZ c s b=some y):(b=c.M\/b=c.W\/b=c.ch)/\y.2=true:=by
 unfold gZ at h;by_cases a:b=c.W
 ·subst a;rw[Hp.aG]at h;exact⟨.inr (.inl rfl),by rw[<-iO h]⟩
 rw[Hp.aH _ _ a]at h;by_cases d:b=c.M
 ·subst d;rw[Hp.aG]at h;exact⟨.inl rfl,by rw[<-iO h]⟩
 rw[Hp.aH _ _ d]at h;by_cases e:b=c.ch
 ·subst e;rw[Hp.aG]at h;exact⟨.inr (.inr rfl),by rw[<-iO h]⟩
 rw[Hp.aH _ _ e]at h;simp[Hp.nil]at h
section
variable{c:Cx}{s:Ts}{Hs:Hp}{t:Trace}
def ZL.mw(h:ZL c s Hs t){x:Obj×Bool}(hb:gZ c s b=some x):Hs b=some x:=by
 rcases h.heap with⟨_,e⟩ | ⟨_,a,e,_⟩
 ·rw[e];exact hb
 rw[e];exact Hp.aW hb
def ZL.atM(ok:c.Ok)(h:ZL c s Hs t):Hs c.M=some (IZ c s.mu,true):=h.mw (I1 ok.ne s)
def ZL.atW(h:ZL c s Hs t):Hs c.W=some (U0 c s.wg,true):=h.mw (I2 c s)
def ZL.atC(ok:c.Ok)(h:ZL c s Hs t):Hs c.ch=some (Uw s,true):=h.mw (I0 ok.neM ok.neW s)
def XJ{g:List Nat}(h:ZE s i=g)(a:cd (ZN g)≠0):s.tag i=ZN g/\s.hd i=OK g:=by
 subst h;unfold ZE pL at a ⊢;by_cases e:cd (s.tag i)=0
 ·rw[iF e]at a;exact absurd rfl a
 rw[aT e];exact⟨rfl,rfl⟩
def Uf(h:ZN (ZE s i)=l)(e:cd l≠0):s.tag i=l/\OK (ZE s i)=s.hd i:=by obtain⟨a,d⟩:=XJ (i:=i) rfl (by rw[h];exact e);exact⟨a.trans h,d.symm⟩
def P9(h:bP c s)(f:j<s.next)(e:30<=cd (s.tag j)):j=0:=by
 rcases qBo j with a | a
 ·exact a
 rcases qBi j c.base with d | d
 ·rw[h.olds j a d]at e;simp[cd]at e
 have:=(h.works j d f).1;omega
def bP.next0(h:bP c s):0<s.next:=by have:=h.pos;have:=h.nb;omega
def bP.over(h:bP c s)(g:37<=cd (s.tag 0))(hb:c.base<=j)(a:j<s.next):s.tag j=[0]:=by
 obtain⟨r,v,y,z,e,f⟩:=h.wg;have B:=f g;obtain⟨_,_,D,C⟩:=e O;have E:Ct cW s.tag s.next=0:=O;obtain⟨A,m⟩:=h.works j hb a;have o:=Ct.le cW s.tag a;have q:=Ct.le cL s.tag a;have a3:=Ct.le cE s.tag a;refine m (qAd λd=>?_);have:∀n:Fin 25,n.val≠0->cW n.val+cL n.val+cE n.val=1:=by decide
 have:=this ⟨cd (s.tag j),O⟩ d;simp only at this;omega
theorem Wz{old:Loc->Prop}{t:Trace}(m:∀op∈u,op.g=0\/op.act.touch? = none)
  (h:(∀q x a,t[q]? = some x->x.act.touch? = some a->a.loc.isMemory=true->Knows t 0 q\/(a.kind=.atomic/\old a.loc))/\t.HandedOver) :
  (∀q x a,(t++u)[q]? = some x->x.act.touch? = some a->a.loc.isMemory=true->Knows (t++u) 0 q\/(a.kind=.atomic/\old a.loc))/\(t++u).HandedOver:=by
 refine⟨λq x a n f o=>?_,handedOver_app h.2 m⟩;rcases getElem?_append_cases n with⟨_,d⟩ | ⟨_,d⟩
 ·exact(h.1 q x a d f o).imp (·.app u) id
 rcases m x d with e | e
 ·have:=knows_own n;rw[e]at this;exact .inl this
 rw[e]at f;simp at f
theorem bP.live(ok:c.Ok)(h:bP c s)(D:Nat->Option Bool)(hb:∀j,j<s.next->ZE s j≠[0,0]->ZQ s j\/(s.cls=false/\∃d,D j=some d/\UV c d (ZE s j)))(Q:∀j k,D j=some true->D k=some false->False):False:=by
 have C:=h.wg.main;have nl:∀j,cd (s.tag j)≠0->ZE s j≠[0,0]:=by
  intro j n e;have:s.tag j=[0]:=by simpa[ZE]using qBc List.tail e
  rw[this]at n;exact n rfl
 have m:(cd (s.tag 0)=36/\s.wg.wm=0)\/(s.cls=false/\D 0=some true/\s.tag 0=[30,c.K]):=by
  rcases hb 0 h.next0 (nl 0 O)with(⟨a,_⟩ | a) | ⟨a,d,o,A⟩
  ·omega
  ·exact .inl a
  right;cases d with
  | true=>exact⟨a,o,A.2⟩
  | false=>
   exfalso;rcases A with⟨e,_⟩ | e
   ·rw[(Uf e (by simp[cd])).1]at C;simp[cd]at C
   rw[(Uf e (by simp[cd])).1]at C;simp[cd]at C
 have nr:∀j,j<s.next->j≠0->cd (s.tag j)=0\/(cd (s.tag j)=7/\s.mu.sm=0):=by
  intro j n r;by_cases e:cd (s.tag j)=0
  ·exact .inl e
  have y:cd (s.tag j)<=24:=by
   rcases qBi j c.base with a | a
   ·rw[h.olds j O a];decide
   exact(h.works j a n).1
  rcases hb j n (nl j e)with(a | a) | ⟨a,d,o,A⟩
  ·exact .inr a
  ·omega
  exfalso;cases d with
  | true=>
   have B:s.tag j=[30,c.K]:=A.2;rw[B]at y;simp[cd]at y
  | false=>
   rcases m with B | B
   ·have:=h.mcl O;rw[a]at this;simp at this
   exact Q 0 j B.2.1 o
 have c0:cd (s.tag 0)=36\/cd (s.tag 0)=30:=m.imp (·.1) λh=>by rw[h.2.2];rfl
 have cls:∀j,j<s.next->cd (s.tag j)=0\/(cd (s.tag j)=7/\s.mu.sm=0)\/cd (s.tag j)=36\/cd (s.tag j)=30:=by
  intro j n;by_cases e:j=0
  ·subst e;exact .inr (.inr c0)
  exact(nr j n e).imp id .inl
 have z:∀f:Nat->Nat,f 0=0->f 7=0->f 36=0->f 30=0->Ct f s.tag s.next=0:=by intro f m Z N M;refine Q6 λi q=>?_;rcases cls i q with e | ⟨e,_⟩ | e | e<;>rw[e]<;>assumption
 have zH:=z Yo rfl rfl rfl rfl;have zT:=z cT rfl rfl rfl rfl;have zA:=z cA rfl rfl rfl rfl;have zU:=z cU rfl rfl rfl rfl;have zR:=z cR rfl rfl rfl rfl;have zL:=z cL rfl rfl rfl rfl;have zE:=z cE rfl rfl rfl rfl;obtain⟨T,U,f3,f4,f5,f6⟩:=h.mu;by_cases I:Ct cQ s.tag s.next=0
 ·have J:∀j,j<s.next->j≠0->cd (s.tag j)=0:=by
   intro j n r;rcases nr j n r with e | ⟨e,_⟩
   ·exact e
   have:=Ct.le cQ s.tag n;rw[e,I]at this;exact absurd this (by decide)
  rcases m with m | ⟨a,_,o⟩
  ·have zW:Ct cW s.tag s.next=0:=by
    refine Q6 λi q=>?_;by_cases e:i=0
    ·subst e;rw[m.1];rfl
    rw[J i q e];rfl
   obtain⟨E,V,W,L,X,Y⟩:=h.wg;rw[m.1]at E;replace E:s.wg.v=Ct cW s.tag s.next+0:=E;have:=L m.1;omega
  have hn:=h.cntN 30 c.K O o
  have hp:=ok.pos
  have R:=h.pos
  have:=(h.run a c.base (dO _) O).1
  rw[J c.base O O]at this
  omega
 obtain⟨i,q,g⟩:=Zg0 I;have hs:s.mu.sm=0:=by
  rcases cls i q with e | ⟨_,e⟩ | e | e
  ·rw[e]at g;exact absurd rfl g
  ·exact e
  ·rw[e]at g;exact absurd rfl g
  rw[e]at g;exact absurd rfl g
 rcases qBo s.mu.S with m | m
 ·have:=f5 m;omega
 have:=f6 O;omega
def Zvi(g:∀op∈u,P8 i Hs op)(j:Nat):Deaf (t++u) j=Deaf t j:=by
 by_cases h:j=i
 ·subst h;obtain⟨l⟩:=u;rw[Deaf_append];have m:∀op∈l,P8 j Hs op:=λop h=>g op (by simpa using h);clear g;generalize Deaf t j=d;induction l generalizing d with
  | nil=>rfl
  | cons y l ih=>
   rw[qBa];have:deafStep j d y=d:=by obtain⟨_,n⟩:=m y (by simp);rcases n with⟨loc,o,a,_⟩ | ⟨f,a⟩ | a<;>simp[deafStep,a]
   rw[this];exact ih (λop h=>m op (by simp[h])) d
 exact Deaf_other t (qAF h) u λop e=>(g op e).1
def Zvk(f:Nat->Nat)(tag:Nat->List Nat)(a:i<k)(h:f (cd l)=f (cd (tag i))):Ct f (upd tag i l) k=Ct f tag k:=by have:=counts (tag:=tag) (l:=l) a f;omega
def Mu.jA.keep{x f:Mu}{m a:Nat}(h:x.jA m l)(d:a<=m)(o:a=m->f.st=x.st)(y:cd l=9->x.S=1->f.S=1/\x.n<=f.n):f.jA a l:=by
 have key:∀v k,(m<=k/\(m=k->x.st=v))->(a<=k/\(a=k->f.st=v)):=by rintro v k ⟨q,g⟩;refine⟨O,λe=>?_⟩;have:a=m:=O;rw[o this];exact g O
 unfold Mu.jA at h ⊢;split
 ·exact key _ _ h
 ·exact key _ _ h
 ·exact⟨(key _ _ ⟨h.1,h.2.1⟩).1,(key _ _ ⟨h.1,h.2.1⟩).2,h.2.2⟩
 ·obtain⟨q,g,z⟩:=h;obtain⟨r,A⟩:=y rfl q;exact⟨r,g,O⟩
 ·exact qCk d h
 ·exact qCk d h
 ·exact qCk d h
 ·exact qCk d h
 ·exact qCk d h
 ·exact h
 ·exact h
 ·exact h
 ·exact h
 trivial
def Je{t:Trace}(e:∀op∈u,∀d,deafStep j d op=d):Deaf (t++u) j=Deaf t j:=by
 obtain⟨l⟩:=u;rw[Deaf_append];have a:∀op∈l,∀d,deafStep j d op=d:=λop h=>e op (by simpa using h);clear e;generalize Deaf t j=d;show l.foldl _ d=d;induction l generalizing d with
 | nil=>rfl
 | cons y l ih=>
  rw[qBa,a y (by simp)];exact ih (λop h=>a op (by simp[h])) d
def Mu.aS.Gy{x:Mu}{tag a:Nat->List Nat}(F:x.aS tag k)(h:∀f:Nat->Nat,f 1=f 19\/f=iP->f≠iP->Ct f a k=Ct f tag k):x.aS a k:=by
 have e:=λ(f:Nat->Nat) d g=>h f (.inl d) g;obtain⟨z,A,f3,f4,f5,f6⟩:=F;have n:∀f:Nat->Nat,f 1=0->f≠iP:=λf d g=>by rw[g]at d;exact absurd d (by decide)
 have v:=e Yo rfl (n _ rfl);have r:=e cT rfl (n _ rfl);have o:=e cQ rfl (n _ rfl);have m:=e cA rfl (n _ rfl);have y:=e cU rfl (n _ rfl);have q:=e cR rfl (n _ rfl);refine⟨?_,A,f3,f4,?_,?_⟩
 ·rw[v];exact z
 ·rw[o,r,m,q,y];exact f5
 rw[o,r,m,q];exact f6
def bP.wX(h:bP c s)(hb:c.base<=b)(v:b<s.next)(C:cd (s.tag b)=1\/cd (s.tag b)=19)(hl:cd l=1\/cd l=19) :
  s.mu.aS (upd s.tag b l) s.next/\(∀m,s.wg.aS (upd s.tag b l) s.next m↔s.wg.aS s.tag s.next m):=by
 have r:b≠0:=by have:=h.pos;omega
 have g:∀f:Nat->Nat,f 1=f 19->Ct f (upd s.tag b l) s.next=Ct f s.tag s.next:=by intro f z;refine Zvk f s.tag v ?_;rcases C with e | e<;>rcases hl with y | y<;>rw[e,y]<;>first | rfl | exact z | exact z.symm
 refine⟨h.mu.Gy λf A B=>g f (A.resolve_right B),λm=>?_⟩;have t0:upd s.tag b l 0=s.tag 0:=upd_ne _ _ (qAF r);have wW:=g cW rfl;have q:=g cL rfl;have o:=g cE rfl;constructor
 ·rintro⟨g1,g2,g3,a,d,n⟩;rw[t0]at g1 g2 g3 a d n;rw[wW]at g1;rw[q,o]at a;rw[q,o]at d;exact⟨g1,g2,g3,a,d,n⟩
 rintro⟨g1,g2,g3,a,d,n⟩;refine⟨?_,?_,?_,?_,?_,?_⟩<;>rw[t0]
 ·rw[wW];exact g1
 ·exact g2
 ·exact g3
 ·rw[q,o];exact a
 ·rw[q,o];exact d
 exact n
def Zn4{p:Program}(ok:c.Ok):(bO p c).Sound where
 own:=by
  intro(s:Ts) Hs t h b x R;rcases(show ZL c s Hs t from h).heap with⟨_,e⟩ | ⟨_,Hl,e,A,hp⟩
  ·rw[e]at R;exact(Ur R).2
  rw[e]at R;simp only[Hp.bH]at R;cases hh:gZ c s b with
  | some z=>rw[hh]at R;rw[<-iO R];exact(Ur hh).2
  | none=>rw[hh]at R;exact ok.own _ _ hp b x R
 AN:=by
  intro(s:Ts) Hs t i u h hi ha hu;have h:ZL c s Hs t:=h;have ha:Yw (ZN (ZE s i)):=ha;have ha:(1<=cd (s.tag i)/\cd (s.tag i)<=19)\/30<=cd (s.tag i):=by
   have hz:cd (ZN (ZE s i))≠0:=by unfold Yw at ha;omega
   rw[(XJ rfl hz).1];exact ha
  have U:c.live s.next i:=by
   refine⟨hi,?_⟩;rcases qBo i with h0 | h0
   ·exact .inl h0
   rcases qBi i c.base with h1 | h1
   ·rw[h.cnt.olds i h0 h1]at ha;simp[cd]at ha
   exact .inr h1
  refine⟨h.cnt,h.tr.lone U (λh0 hd=>?_) (Hs:=Hs) (by rw[h.atM ok];simp) (by rw[h.atW];simp) (by rw[h.atC ok];simp) (λb hb=>by obtain⟨x,R⟩:=hb.1;rw[R];simp) hu,λj f A=>by rw[Zvi hu];exact h.deaf j f A,λL=>Wz (old:=λl=>c.old l\/c.Sh l) (λop C=>?_) (h.fin L),h.heap⟩;rotate_left
  ·rcases U.2 with h1 | h1
   ·exact .inl ((hu op C).1.trans h1)
   exfalso;rw[h.cnt.over O h1 hi]at ha;simp[cd]at ha
  rcases U.2 with h1 | h1
  ·exact h0 h1
  have:=(h.cnt.works i h1 hi).1;unfold Y6 at hd;omega
 mute:=by
  intro(s:Ts) Hs t i u h hi ht hu
  have h:ZL c s Hs t:=h
  have ht:ZE s i=[0,0]:=ht
  have ht:s.tag i=[0]:=by simpa[ZE]using qBc List.tail ht
  refine⟨h.cnt,h.tr.quietly λop C=>?_,λj f A=>?_,λL=>Wz (old:=λl=>c.old l\/c.Sh l) (λop C=>?_) (h.fin L),h.heap⟩
  rotate_right
  ·obtain⟨_,h2⟩:=hu op C;rcases h2 with h2 | h2<;>rw[h2]<;>exact .inr rfl
  ·obtain⟨_,h2⟩:=hu op C;rcases h2 with h2 | h2<;>rw[h2]<;>exact⟨rfl,by simp,by simp⟩
  ·have:i≠j:=by rintro rfl;rw[ht]at A;exact A rfl
   rw[Deaf_other t this u λop C=>(hu op C).1];exact h.deaf j f A
 live:=by intro(s:Ts) Hs t D h hb hD;exact(show ZL c s Hs t from h).cnt.live ok D hb hD
 chan:=by intro(s:Ts) Hs t h;exact⟨s.cn,(show ZL c s Hs t from h).atC ok⟩
 hears:=by
  intro(s:Ts) Hs t j d h f A;have h:ZL c s Hs t:=h;have A:UV c d (ZE s j):=A;have key:cd (s.tag j)=30\/cd (s.tag j)=1\/cd (s.tag j)=19:=by
   cases d with
   | true=>exact .inl (by rw[show s.tag j=[30,c.K]from A.2];rfl)
   | false=>
    right;rcases A with⟨e,_⟩ | e
    ·left;rw[(Uf e (by simp[cd])).1];rfl
    right;rw[(Uf e (by simp[cd])).1];rfl
  have hl:c.live s.next j:=by
   refine⟨f,?_⟩;rcases qBo j with h0 | h0
   ·exact .inl h0
   rcases qBi j c.base with h1 | h1
   ·rw[h.cnt.olds j h0 h1]at key;simp[cd]at key
   exact .inr h1
  rw[h.deaf j hl O];rcases key with e | e | e<;>rw[e]<;>rfl
 E8:=by
  intro(s:Ts) Hs t j h f A;have h:ZL c s Hs t:=h;have A:UV c false (ZE s j):=A;rintro rfl;have hm:=h.cnt.wg.main;rcases A with⟨e,_⟩ | e
  ·rw[(Uf e (by simp[cd])).1]at hm;simp[cd]at hm
  rw[(Uf e (by simp[cd])).1]at hm;simp[cd]at hm
 E0:=by
  intro(s:Ts) Hs t j h f A;have h:ZL c s Hs t:=h;have A:UV c true (ZE s j):=A;have ht:s.tag j=[30,c.K]:=A.2;have:=P9 h.cnt f (by rw[ht];simp[cd]);subst this;have I:=A.1;simp only[ZE,List.headD_cons,pL,ht]at I;rw[aT (by simp[cd])]at I;show s.cls=false;cases E:s.cls with
  | false=>rfl
  | true=>have:=(h.cnt.hd0.1 E).1;omega
 pC:=by
  intro d g h;have h:UV c d g:=h;show UW g;cases d with
  | true=>
   obtain⟨h1,h2⟩:=h;match g,h1,h2 with
   | (n+1) :: l,h1,h2=>
    have h2:l=[30,c.K]:=h2;subst h2;exact .inr (by simp[cd,ZN])
  | false=>
   refine .inl ?_;rcases h with⟨e,_⟩ | e<;>rw[e]<;>simp[cd]
 E7:=by intro(s:Ts) Hs t j h f A;have h:ZL c s Hs t:=h;have A:UV c true (ZE s j):=A;exact P9 h.cnt f (by rw[show s.tag j=[30,c.K]from A.2];simp[cd])
 meet:=by
  intro(s:Ts) Hs t b n g' v Hm h h0 hb Q E KE Gi BQ hp;have h:ZL c s Hs t:=h;have E:s.cls=false:=E;have hb:b<s.next:=hb;have BQ:UV c false (ZE s b):=BQ;obtain⟨r,e0,rfl,G9⟩:=hp;have e0:ZE s 0=(r+3) :: [30,c.K]:=e0;have D4:s.tag 0=[30,c.K]:=by simpa[ZE]using qBc List.tail e0
  have hh0:s.hd 0=r+2:=by have:=qBc (λl=>l.headD 0) e0;simp only[ZE,List.headD_cons,pL,D4]at this;rw[aT (by simp[cd])]at this;omega
  have NC:s.iU=r+1:=by have:=h.cnt.hd0.2 E;omega
  have aHw:=h.cnt.mle;have F:cd (s.tag b)=1\/cd (s.tag b)=19:=by
   rcases BQ with⟨e,_⟩ | e
   ·left;rw[(Uf e (by simp[cd])).1];rfl
   right;rw[(Uf e (by simp[cd])).1];rfl
  have nQ:c.base<=b:=by
   rcases qBi b c.base with h1 | h1
   ·rw[h.cnt.olds b O h1]at F;simp[cd]at F
   exact h1
  have hn:n=s.cn:=by have:=h.atC ok;have KE:Hs.mem c.ch=some (Obj.chan 0 #[] false n n false,true):=KE;rw[KE]at this;simp[Uw]at this;exact this.2
  subst hn;have T:c.need (s.hd b)=true->s.hd b∈s.kQ:=by exact Zh3
  let m:=c.N-r
  have hm:m=c.N-r:=rfl;have D8:OK (ZE s b)<m:=by
   have e1:OK (ZE s b)=s.hd b:=by unfold ZE pL;rw[aT O];rfl
   have:=h.cnt.hdw b nQ hb;omega
  let o:Ts:={ s with tag:=upd s.tag b [1],hd:=upd (upd s.hd 0 (r+1)) b m,iU:=r,cn:=s.cn+1 }
  have Y:=h.cnt.wX (l:=[1]) nQ hb F (.inl rfl);have gF:∀j,j≠b->o.tag j=s.tag j:=λj f=>upd_ne _ _ f;have jY:o.tag b=[1]:=upd_same _ _ _;have B:∀j,j≠b->j≠0->o.hd j=s.hd j:=λj h1 h2=>by show upd (upd s.hd 0 (r+1)) b m j=_;rw[upd_ne _ _ h1,upd_ne _ _ h2]
  have gE:o.hd b=m:=upd_same _ _ _;have NU:o.hd 0=r+1:=by show upd (upd s.hd 0 (r+1)) b m 0=_;rw[upd_ne _ _ (qAF Q),upd_same]
  have S:o.tag 0=[30,c.K]:=by rw[gF 0 (qAF Q)];exact D4
  have NA:Mu.mu s.mu o.pm o.tag s.next<=Mu.mu s.mu s.pm s.tag s.next:=by have:=counts (tag:=s.tag) (l:=[1]) hb iP;have e1:iP (cd [1])=6:=rfl;have e2:Ct iP o.tag s.next=Ct iP (upd s.tag b [1]) s.next:=rfl;unfold Mu.mu;show Ct iP o.tag s.next+s.mu.sm+6 * (s.more+r)<=Ct iP s.tag s.next+s.mu.sm+6 * (s.more+s.iU);omega
  have Z:bP c o:=by
   refine⟨Y.1,(Y.2 _).2 h.cnt.wg,λj f=>?_,λv=>?_,λk n hk hl=>?_,λj f A=>?_,h.cnt.num,h.cnt.pos,h.cnt.nb,λj h1 h2=>?_,λj h1 h2=>?_,h.cnt.lnd,λj f=>?_,λj h1 h2=>?_,⟨λe=>?_,λ_=>?_⟩,?_,λj h1 h2=>?_,λj k h1 h2 I h4 h5 h6=>?_,λq h1 h2 I=>?_,λ_ j h1 h2=>?_,λh1=>?_⟩
   ·by_cases e:j=b
    ·subst e;rw[jY];trivial
    rw[gF j e];exact(h.cnt.says j f).keep NA (λ_=>rfl) λ_ hS=>⟨hS,dO _⟩
   ·rw[S];simp
   ·rw[S]at hl;have:=h.cnt.cntN 30 c.K O D4;simp at hl;show s.next=c.base+n;omega
   ·by_cases e:j=b
    ·subst e;rw[jY]at A;simp[cd]at A
    rw[gF j e]at A ⊢;exact h.cnt.tk j f A
   ·rw[gF j O];exact h.cnt.olds j h1 h2
   ·by_cases e:j=b
    ·subst e;rw[jY];simp[cd]
    rw[gF j e];exact h.cnt.works j h1 h2
   ·obtain⟨a1,a2,a3⟩:=h.cnt.lmem j f;exact⟨a1,by show j+r<=_;omega,a3⟩
   ·by_cases e:j=b
    ·subst e;rw[jY,gE];refine⟨λ_ hm'=>?_,λe=>by simp[cd]at e,λe=>by simp[cd]at e⟩;have:=(h.cnt.lmem _ hm').2.1;omega
    have:j≠0:=by have:=h.cnt.pos;omega
    rw[gF j e,B j e this];exact h.cnt.lwk j h1 h2
   ·have e:s.cls=true:=e;rw[E]at e;simp at e
   ·rw[NU]
   ·show r<=c.N;omega
   ·show o.hd j+r<=c.N;by_cases e:j=b
    ·subst e;rw[gE];omega
    rw[B j e (by have:=h.cnt.pos;omega)];have:=h.cnt.hdw j h1 h2;omega
   ·have pos:=h.cnt.pos;by_cases e:j=b
    ·by_cases V:k=b
     ·rw[e,V]
     exfalso;subst e;rw[gE,B k V O]at h6;have:=h.cnt.hdw k I h4;omega
    by_cases V:k=b
    ·exfalso;subst V;rw[gE,B j e O]at h6;have:=h.cnt.hdw j h1 h2;omega
    rw[B j e O]at h5 h6;rw[B k V O]at h6;exact h.cnt.hinj j k h1 h2 I h4 h5 h6
   ·have h2:q+r<=c.N:=h2;by_cases e:q=m
    ·exact .inr ⟨b,nQ,hb,by rw[gE,e]⟩
    rcases h.cnt.compl q h1 O I with h4 | ⟨j,j1,j2,j3⟩
    ·exact .inl h4
    by_cases V:j=b
    ·subst V;rw[<-j3]at I;exact .inl (j3 ▸ T I)
    exact .inr ⟨j,j1,j2,by rw[B j V (by have:=h.cnt.pos;omega)];exact j3⟩
   ·by_cases e:j=b
    ·subst e;rw[jY];simp[cd]
    rw[gF j e];exact h.cnt.run E j h1 h2
   rw[S]at h1;simp[cd]at h1
  have uP:YZ o↔YZ s:=by exact Zh4
  have M9:(gZ c s).ins c.ch (.chan 0 #[] false (s.cn+1) (s.cn+1) false)=gZ c o:=by
   refine Hp.ext' (λq=>?_) rfl;by_cases e:q=c.ch
   ·subst e;rw[Hp.aG,I0 ok.neM ok.neW];show _=some (Obj.chan 0 #[] s.cls (s.cn+1) (s.cn+1) false,true);rw[E]
   rw[Hp.aH _ _ e];unfold gZ;by_cases e1:q=c.W
   ·subst e1;rw[Hp.aG,Hp.aG]
   rw[Hp.aH _ _ e1,Hp.aH _ _ e1];by_cases e2:q=c.M
   ·subst e2;rw[Hp.aG,Hp.aG]
   rw[Hp.aH _ _ e2,Hp.aH _ _ e2,Hp.aH _ _ e,Hp.aH _ _ e]
  refine⟨o,(m+1) :: [1],⟨m,rfl,O,O,D8,G9⟩,λj=>?_,rfl,?_,E,λj f=>?_,λu M2 CL=>?_⟩
  ·show ZE o j=_;by_cases e0:j=0
   ·subst e0;rw[iF rfl];show pL (o.tag 0) (o.hd 0) :: o.tag 0=_;rw[S,NU];rfl
   rw[aT e0];by_cases e:j=b
   ·subst e;rw[iF rfl];show pL (o.tag j) (o.hd j) :: o.tag j=_;rw[jY,gE];rfl
   rw[aT e];show pL (o.tag j) (o.hd j) :: o.tag j=ZE s j;rw[gF j e,B j e e0];rfl
  ·show s.more+r<s.more+s.iU;omega
  ·have f:ZQ s j:=f;show ZQ o j;unfold ZQ at f ⊢;have:j≠b:=by rintro rfl;omega
   rw[gF j this];exact f
  have hq:∀op∈u,op.act.touch? = none/\(∀a,op.act≠.mark a):=by intro op C;rcases CL op C with e | e | e | e<;>rw[e]<;>exact⟨rfl,by simp⟩
  refine⟨Z,(h.tr.quietly (u:=u) λop C=>?_).sub (λj f=>?_) (λq hq=>?_),λj f A=>?_,λL=>?_,?_⟩
  ·obtain⟨h1,h2⟩:=hq op C;exact⟨h1,h2 _,h2 _,λe=>absurd e (h2 _)⟩
  ·unfold Y6 at f ⊢;by_cases e:j=b
   ·subst e;rw[jY]at f;simp[cd]at f
   rw[gF j e]at f;exact f
  ·obtain⟨⟨x,R⟩,h1,h2,I⟩:=hq;have R:(Hs.ins c.ch (.chan 0 #[] false (s.cn+1) (s.cn+1) false)) q=some x:=R;rw[Hp.aH _ _ I]at R;exact⟨⟨x,R⟩,h1,h2,I⟩
  ·rw[Je λop C d=>by rcases CL op C with e | e | e | e<;>simp[deafStep,e]];by_cases e:j=b
   ·subst e;rw[jY,h.deaf j f O];rcases F with e | e<;>rw[e]<;>rfl
   rw[gF j e]at A ⊢;exact h.deaf j f A
  ·rw[S]at L;simp[cd]at L
  rcases h.heap with⟨h1,h2⟩ | ⟨h1,Hl,h2,I,h4⟩
  ·exact .inl ⟨uP.2 h1,by rw[h2];exact M9⟩
  refine .inr ⟨λh=>h1 (uP.1 h),Hl,?_,?_,h4⟩
  ·rw[h2,<-M9];refine Hp.ext' (λq=>?_) rfl;show(((gZ c s).join Hl).ins c.ch (.chan 0 #[] false (s.cn+1) (s.cn+1) false)) q=_;simp only[Hp.eM,Hp.bH];by_cases e:q=c.ch
   ·rw[iF e,iF e]
   rw[aT e,aT e]
  refine⟨λq x y R hy=>?_,.inl rfl⟩;rcases(Ur R).1 with rfl | rfl | rfl
  ·have:=I.right_none (I1 ok.ne s);rw[this]at hy;simp at hy
  ·have:=I.right_none (I2 c s);rw[this]at hy;simp at hy
  have:=I.right_none (I0 ok.neM ok.neW s);rw[this]at hy;simp at hy
 E5:=by
  intro(s:Ts) Hs t b h hb E BQ;have h:ZL c s Hs t:=h;have hb:b<s.next:=hb;have E:s.cls=true:=E;have BQ:UV c false (ZE s b):=BQ;have F:cd (s.tag b)=1\/cd (s.tag b)=19:=by
   rcases BQ with⟨e,_⟩ | e
   ·left;rw[(Uf e (by simp[cd])).1];rfl
   right;rw[(Uf e (by simp[cd])).1];rfl
  have Q:b≠0:=by rintro rfl;have:=h.cnt.wg.main;omega
  have nQ:c.base<=b:=by
   rcases qBi b c.base with h1 | h1
   ·rw[h.cnt.olds b O h1]at F;simp[cd]at F
   exact h1
  have T:c.need (s.hd b)=true->s.hd b∈s.kQ:=by exact Zh3
  let o:Ts:={ s with tag:=upd s.tag b [19,1],hd:=upd s.hd b 0 }
  have Y:=h.cnt.wX (l:=[19,1]) nQ hb F (.inr rfl);have gF:∀j,j≠b->o.tag j=s.tag j:=λj f=>upd_ne _ _ f;have jY:o.tag b=[19,1]:=upd_same _ _ _;have B:∀j,j≠b->o.hd j=s.hd j:=λj h1=>upd_ne _ _ h1;have gE:o.hd b=0:=upd_same _ _ _;have NA:Mu.mu s.mu s.pm o.tag s.next<=Mu.mu s.mu s.pm s.tag s.next:=by have:=counts (tag:=s.tag) (l:=[19,1]) hb iP;have e1:iP (cd [19,1])=0:=rfl;have e2:Ct iP o.tag s.next=Ct iP (upd s.tag b [19,1]) s.next:=rfl;unfold Mu.mu;omega
  have Z:bP c o:=by
   refine⟨Y.1,(Y.2 _).2 h.cnt.wg,λj f=>?_,λv=>?_,λk n hk hl=>?_,λj f A=>?_,h.cnt.num,h.cnt.pos,h.cnt.nb,λj h1 h2=>?_,λj h1 h2=>?_,h.cnt.lnd,h.cnt.lmem,λj h1 h2=>?_,⟨λe=>?_,λe=>?_⟩,h.cnt.mle,λj h1 h2=>?_,λj k h1 h2 I h4 h5 h6=>?_,λq h1 h2 I=>?_,λe=>?_,λh1=>E⟩
   ·by_cases e:j=b
    ·subst e;rw[jY];trivial
    rw[gF j e];exact(h.cnt.says j f).keep NA (λ_=>rfl) λ_ hS=>⟨hS,dO _⟩
   ·rw[gF 0 (qAF Q)];exact h.cnt.saysM v
   ·rw[gF 0 (qAF Q)]at hl;exact h.cnt.cntN k n hk hl
   ·by_cases e:j=b
    ·subst e;rw[jY]at A;simp[cd]at A
    rw[gF j e]at A ⊢;exact h.cnt.tk j f A
   ·rw[gF j O];exact h.cnt.olds j h1 h2
   ·by_cases e:j=b
    ·subst e;rw[jY];simp[cd]
    rw[gF j e];exact h.cnt.works j h1 h2
   ·by_cases e:j=b
    ·subst e;rw[jY,gE];refine⟨λe=>by simp[cd]at e,λ_ e=>by simp[cd]at e,λ_ e=>?_⟩;rw[ok.SI]at e;simp at e
    rw[gF j e,B j e];exact h.cnt.lwk j h1 h2
   ·rw[B 0 (qAF Q)];exact h.cnt.hd0.1 e
   ·rw[B 0 (qAF Q)];exact h.cnt.hd0.2 e
   ·by_cases e:j=b
    ·subst e;rw[gE];have:=h.cnt.mle;show 0+s.iU<=_;omega
    rw[B j e];exact h.cnt.hdw j h1 h2
   ·by_cases e:j=b
    ·subst e;rw[gE]at h5;omega
    rw[B j e]at h5 h6;by_cases V:k=b
    ·subst V;rw[gE]at h6;omega
    rw[B k V]at h6;exact h.cnt.hinj j k h1 h2 I h4 h5 h6
   ·rcases h.cnt.compl q h1 h2 I with h4 | ⟨j,j1,j2,j3⟩
    ·exact .inl h4
    by_cases V:j=b
    ·subst V;rw[<-j3]at I;exact .inl (j3 ▸ T I)
    exact .inr ⟨j,j1,j2,by rw[B j V];exact j3⟩
   have e:s.cls=false:=e;rw[E]at e;simp at e
  have uP:YZ o↔YZ s:=by exact Zh4
  refine⟨o,λj=>?_,rfl,dO _,E,λj f=>?_,λu hu=>?_⟩
  ·show ZE o j=_;by_cases e:j=b
   ·subst e;rw[iF rfl];show pL (o.tag j) (o.hd j) :: o.tag j=_;rw[jY,gE];rfl
   rw[aT e];show pL (o.tag j) (o.hd j) :: o.tag j=ZE s j;rw[gF j e,B j e];rfl
  ·have f:ZQ s j:=f;show ZQ o j;unfold ZQ at f ⊢;have:j≠b:=by rintro rfl;omega
   rw[gF j this];exact f
  refine⟨Z,(h.tr.quietly (u:=u) λop C=>?_).sub (λj f=>?_) (λq hq=>hq),λj f A=>?_,λL=>?_,?_⟩
  ·rw[(hu op C).2];exact⟨rfl,by simp,by simp,λe=>by simp at e⟩
  ·unfold Y6 at f ⊢;by_cases e:j=b
   ·subst e;rw[jY]at f;simp[cd]at f
   rw[gF j e]at f;exact f
  ·rw[Je λop C d=>by simp[deafStep,(hu op C).2]];by_cases e:j=b
   ·subst e;rw[jY,h.deaf j f O];rcases F with e | e<;>rw[e]<;>rfl
   rw[gF j e]at A ⊢;exact h.deaf j f A
  ·exfalso;rw[gF 0 (qAF Q)]at L;have:=h.cnt.over O nQ hb;rw[this]at F;simp[cd]at F
  exact h.heap.imp (λ⟨a,b⟩=>⟨uP.2 a,b⟩) λ⟨a,Hl,b,cc,d⟩=>⟨λh=>a (uP.1 h),Hl,b,cc,d⟩
 actLeft:=by simp[bO,UW,Yw,ZN,cd]
 hshLeft:=by simp[bO,IS,Z3,ZN,cd]
 uC:=by intro d;simp[bO,UW,Yw,ZN,cd,lv]
 nG:=by intro g h1 h2;simp only[bO,UW,IS,Yw,Z3]at h1 h2;omega
 BD:=by intro d;simp[bO,IS,Z3,ZN,cd,lv]
 EY:=by intro d;simp[bO,lv]
 AJ:=by intro g h;simp only[bO,IS,Z3]at h ⊢;simp[h.1,h.2]
end
end
section
variable{l:List Nat}{es uB:Array Event}{w':World}{P:Program}{main wk nr:Bool}{fr:Frame}{nx:Value->Frame}{cs:List Frame}{sm:Sem Next}
open Go.Conc
open Go.ConcN (sumTo upd sumTo_upd upd_ne upd_same)
section
variable{p:Program}{c:Cx}{i:Nat}{H:Hp}{s:Ts}{Hs:Hp}{t:Trace}{w:World}
def Jy(ok:c.Ok){a:Hp}(d:(gZ c s).Comp a):a c.M=none/\a c.W=none/\a c.ch=none:=⟨d.right_none (I1 ok.ne s),d.right_none (I2 c s),d.right_none (I0 ok.neM ok.neW s)⟩
def YD(a:dY (bO p c) i H s Hs t w)(d:cd H.cg≠0):s.tag i=H.cg/\s.hd i=H.hd:=XJ (show ZE s i=H.gh from a.tag) d
def QF{s s':Ts}(a:s'.tag=upd s.tag i l)(d:s'.hd=s.hd)(j:Nat):ZE s' j=if j=i then pL l (s.hd i) :: l else ZE s j:=by
 unfold ZE;rw[a,d,V1];by_cases e:j=i
 ·subst e;rw[iF rfl,iF rfl]
 rw[aT e,aT e]
def IY{h:Nat}(a:cd l≠0):pL l h=h+1:=aT a
def QA{j:Nat}{fn:FuncId}{pos:String}(h:∀j,c.live s.next j->cd (s.tag j)≠0->Deaf t j=df (cd (s.tag j)))(d:cd l≠0->deafBehind (Deaf t i) es=df (cd l))(g:c.live s.next j)(a:cd (upd s.tag i l j)≠0) :
  Deaf (t++MemOp.ofEvents i fn pos es) j=df (cd (upd s.tag i l j)):=by
 by_cases e:j=i
 ·subst e;rw[upd_same]at a ⊢;rw[Deaf_own];exact d a
 rw[upd_ne _ _ e]at a ⊢;rw[Deaf_other t (qAF e) _ λop f=>by obtain⟨e,_,rfl⟩:=Go.Conc.mem_ofEvents f;rfl];exact h j g a
def RE(e:dY (bO p c) i H s Hs t w)(f:s.tag i≠[0]):c.live s.next i:=by
 refine⟨e.lt,?_⟩;rcases qBo i with a | a
 ·exact .inl a
 rcases qBi i c.base with d | d
 ·exact absurd ((show ZL c s Hs t from e.inv).cnt.olds i a d) f
 exact .inr d
def Zvm(ok:c.Ok)(E:dY (bO p c) i H s Hs t w)(hi:c.live s.next i){x':Mu}{y':Wg}
  (uA:bP c { s with mu:=x',wg:=y',tag:=upd s.tag i l }) (S7:EX c.toTC i (Deaf t i) es) (D6:∀e∈es,∀B,c.M<B->c.W<B->(MemAct.ofEvent e).low B)
  (K:cd l≠0->deafBehind (Deaf t i) es=df (cd l)) (SX:cd (s.tag i)≠12/\cd (s.tag i)≠40) (aHs:cd l≠12/\cd l≠40) (F:cd (s.tag i)≠0) (L:20<=cd l\/cd l=0->Y6 s i)
  (hM:w'.heap[c.M]? = some (IZ c x')) (hW:w'.heap[c.W]? = some (U0 c y')) (D:∀b,b≠c.M->b≠c.W->w'.heap[b]? = w.heap[b]?) (yH:w'.heap.size=w.heap.size) (BJ:xE w w') :
  ∃d,∀fn pos,gJ (bO p c) i s Hs t w H (MemOp.ofEvents i fn pos es) { s with mu:=x',wg:=y',tag:=upd s.tag i l } d w'/\∀g,gY i Hs w H (t++MemOp.ofEvents i fn pos es) d w' (H.tagged g):=by
 have I:ZL c s Hs t:=E.inv;have S:=I.atM ok;have T:=I.atW;let s':Ts:={ s with mu:=x',wg:=y',tag:=upd s.tag i l }
 have uP:YZ s'↔YZ s:=by
  constructor
  ·rintro⟨j,C,A⟩;by_cases e:j=i
   ·subst e;simp only[s',upd_same]at A;omega
   simp only[s',upd_ne _ _ e]at A;exact⟨j,C,A⟩
  rintro⟨j,C,A⟩;by_cases e:j=i
  ·subst e;omega
  exact⟨j,C,by simp only[s',upd_ne _ _ e];exact A⟩
 have X:H c.M=none:=by
  cases hh:H c.M with
  | none=>rfl
  | some y=>have:=E.dis c.M _ _ hh S;rw[this.1]at this;simp at this
 have Y:H c.W=none:=by
  cases hh:H c.W with
  | none=>rfl
  | some y=>have:=E.dis c.W _ _ hh T;rw[this.1]at this;simp at this
 have Q:∃d:Hp,((YZ s'/\d=gZ c s')\/(¬ YZ s'/\∃R:Hp,d=(gZ c s').join R/\(gZ c s').Comp R/\c.PI s'.kQ R))/\(∀b,b≠c.M->b≠c.W->d b=Hs b)/\d c.M=some (IZ c x',true)/\d c.W=some (U0 c y',true):=by
  rcases I.heap with⟨C,A⟩ | ⟨C,R,A,U,h4⟩
  ·refine⟨gZ c s',.inl ⟨uP.2 C,rfl⟩,λb n r=>?_,I1 ok.ne s',I2 c s'⟩;rw[A];exact Zln n r rfl
  obtain⟨p1,p2,p3⟩:=Jy ok U;refine⟨(gZ c s').join R,.inr ⟨λh=>C (uP.1 h),R,rfl,⟨λb y z hy F=>?_,by left;rfl⟩,h4⟩,λb n r=>?_,Hp.aW (I1 ok.ne s'),Hp.aW (I2 c s')⟩
  ·rcases(Ur hy).1 with rfl | rfl | rfl
   ·rw[p1]at F;simp at F
   ·rw[p2]at F;simp at F
   rw[p3]at F;simp at F
  rw[A];simp only[Hp.bH,Zln (s:=s) (s':=s') n r rfl]
 obtain⟨d,N,m,sM,sW⟩:=Q;have nF:c.M<w.heap.size/\c.W<w.heap.size:=⟨E.leS.lt S,E.leS.lt T⟩;have NG:d.le w':=by
  intro b o pm hb;by_cases n:b=c.M
  ·subst n;rw[sM]at hb;rw[hM];simp only[qAe,qBD]at hb;rw[hb.1]
  by_cases r:b=c.W
  ·subst r;rw[sW]at hb;rw[hW];simp only[qAe,qBD]at hb;rw[hb.1]
  rw[m b n r]at hb;rw[D b n r];exact E.leS b o pm hb
 have tD:H.le w':=by
  intro b o pm hb;have n:b≠c.M:=by rintro rfl;rw[X]at hb;simp at hb
  have r:b≠c.W:=by rintro rfl;rw[Y]at hb;simp at hb
  rw[D b n r];exact E.le b o pm hb
 have yN:H.Dis d:=by
  intro b x y v hy;have n:b≠c.M:=by rintro rfl;rw[X]at v;simp at v
  have r:b≠c.W:=by rintro rfl;rw[Y]at v;simp at v
  rw[m b n r]at hy;exact E.dis b x y v hy
 have hsh:∀{op:MemOp} {fn pos},op∈MemOp.ofEvents i fn pos es->∀a,op.act.touch? = some a->a.loc.isMemory=true->c.toTC.Sh a.loc/\a.kind≠.plain/\(a.kind=.said->i=0):=by intro op fn pos f a ha hm;obtain⟨e,he,rfl⟩:=Go.Conc.mem_ofEvents f;obtain⟨k,hk,hke⟩:=qDp.1 he;obtain⟨C,A,U,_⟩:=(S7 k e (by rw[qBB hk,hke])).2 a ha hm;exact⟨C,A,U⟩
 refine⟨d,λfn pos=>⟨⟨by rw[yH];exact dO _,?_,NG,?_,BJ,?_,?_,?_,?_⟩,λg=>⟨tD,yN,?_,?_⟩⟩⟩
 ·intro b _ _ hn;exact D b (by rintro rfl;exact hn _ S) (by rintro rfl;exact hn _ T)
 ·intro b x v;refine .inr ?_;by_cases n:b=c.M
  ·subst n;exact⟨_,.inr S,λh=>by simp at h⟩
  by_cases r:b=c.W
  ·subst r;exact⟨_,.inr T,λh=>by simp at h⟩
  rw[m b n r]at v;exact⟨x,.inr v,λ_=>rfl⟩
 ·intro op f x v b hb;obtain⟨⟨b',Z,h⟩,_⟩:=hsh f x v (Iy hb);rw[hb]at Z;obtain rfl:=iO Z;refine .inl ?_;rcases h with rfl | rfl
  ·exact⟨_,true,.inr S,λ_=>rfl⟩
  exact⟨_,true,.inr T,λ_=>rfl⟩
 ·intro said q a ha op f b hb hc;have hmb:b.loc.isMemory=true:=by rw[<-hc.1];exact hc.2.1
  obtain⟨C,A,U⟩:=hsh f b hb hmb;exact I.tr.known hi C A U ha hc
 ·intro op f;obtain⟨e,he,rfl⟩:=Go.Conc.mem_ofEvents f;rw[yH];exact D6 e he _ nF.1 nF.2
 ·refine⟨uA,?_,λj J wT=>QA I.deaf K J wT,λV=>?_,N⟩;rotate_left
  ·exfalso;rcases hi.2 with h0 | h0
   ·subst h0;simp only[upd_same]at V;omega
   have:i≠0:=by have:=I.cnt.pos;omega
   simp only[upd_ne _ _ (qAF this)]at V;rw[I.cnt.over O h0 hi.1]at F;exact F rfl
  refine(I.tr.evs hi (λb hb=>⟨hb.2.1,hb.2.2.1⟩) ⟨ok.neM,ok.neW⟩ S7).sub (λj J=>?_) (λb hb=>?_)
  ·unfold Y6 at J;simp only at J;by_cases e:j=i
   ·subst e;rw[upd_same]at J;exact L J
   rw[upd_ne _ _ e]at J;exact J
  obtain⟨⟨x,v⟩,n,r,b3⟩:=hb;rw[m b n r]at v;exact⟨⟨x,v⟩,n,r,b3⟩
 ·exact λb x v=>.inr ⟨x,.inl v,λ_=>rfl⟩
 have:eU (t++MemOp.ofEvents i fn pos es) i H:=E.perm.own λop f=>.inl (by obtain⟨e,_,rfl⟩:=Go.Conc.mem_ofEvents f;rfl);exact this
def Ot(a:KV P fr nx sm wk nr){v:Value}{w:World}(d:sm.runT P w #[]=(.ok (.value v) w',uB)) :
  stepG P main (cV fr cs) w=.go (cV (nx v) cs) w' (seen P fr.fn uB):=a.val _ _ _ _ _ _ d
def Mf(d:KV P fr nx sm wk nr){w:World}(a:sm.runT P w #[]=(.halt .blocked w,uB)) :
  stepG P main (cV fr cs) w=.go (gL fr cs) w #[]:=by
 rcases d.halt with h | h
 ·obtain⟨v,w',es,e⟩:=h w;rw[a]at e;simp at e
 exact h _ _ _ _ a
end
end
open Go.ConcN (sumTo upd sumTo_upd upd_ne upd_same)
def Mu.tT{G:Prop} (h:G:=by
  obtain⟨f1,f2,f3,f4,f5,f6⟩:=F;have e0:=counts (tag:=tag) (l:=l) hi Yo;have e1:=counts (tag:=tag) (l:=l) hi cT;have e2:=counts (tag:=tag) (l:=l) hi cQ;have e3:=counts (tag:=tag) (l:=l) hi cA;have e4:=counts (tag:=tag) (l:=l) hi cU;have e5:=counts (tag:=tag) (l:=l) hi cR;have e6:=counts (tag:=tag) (l:=l) hi iP;have g1:=Ct.le Yo tag hi;have g2:=Ct.le cT tag hi;have g3:=Ct.le cQ tag hi;have g4:=Ct.le cA tag hi;have g5:=Ct.le cU tag hi;have g6:=Ct.le cR tag hi;simp[hc,hl,Yo,cT,cQ,cA,cU,cR,iP,one]at e0 e1 e2 e3 e4 e5 e6 g1 g2 g3 g4 g5 g6;try unfold Mu.st at h
  refine⟨⟨?_,?_,?_,?_,?_,?_⟩,?_⟩<;>(try unfold Mu.mu)<;>(try dsimp only)<;>omega):G:=h
section
variable{x:Mu}{tag:Nat->List Nat}{k i more:Nat}{l:List Nat}
def Mu.HO(F:x.aS tag k)(hi:i<k)(hc:cd (tag i)=2)(hl:cd l=10)(h:x.st=0):Mu.aS { x with L:=1 } (upd tag i l) k/\Mu.mu { x with L:=1 } more (upd tag i l) k+6=x.mu more tag k+3:=Mu.tT
def Mu.DR(F:x.aS tag k)(hi:i<k)(hc:cd (tag i)=4)(hl:cd l=5)(h:x.W=0)(a:x.S=0):Mu.aS { x with W:=1 } (upd tag i l) k/\Mu.mu { x with W:=1 } more (upd tag i l) k+6=x.mu more tag k+5:=Mu.tT
def Mu.AH(F:x.aS tag k)(hi:i<k)(hc:cd (tag i)=4)(hl:cd l=10)(h:x.L=0)(a:x.S=0):Mu.aS { x with L:=1 } (upd tag i l) k/\Mu.mu { x with L:=1 } more (upd tag i l) k+6=x.mu more tag k+3:=Mu.tT
def Mu.AG(F:x.aS tag k)(hi:i<k)(hc:cd (tag i)=6)(hl:cd l=10)(h:x.L=0)(a:x.S=0):Mu.aS { x with L:=1,W:=0 } (upd tag i l) k/\Mu.mu { x with L:=1,W:=0 } more (upd tag i l) k+5=x.mu more tag k+3:=Mu.tT
def Mu.rW(F:x.aS tag k)(hi:i<k)(hc:cd (tag i)=4)(hl:cd l=7)(h:x.L=1\/x.S=1):Mu.aS { x with n:=x.n+1 } (upd tag i l) k/\Mu.mu { x with n:=x.n+1 } more (upd tag i l) k+6=x.mu more tag k+4:=Mu.tT
def Mu.rV(F:x.aS tag k)(hi:i<k)(hc:cd (tag i)=6)(hl:cd l=7)(h:x.L=1):Mu.aS { x with n:=x.n+1,W:=0 } (upd tag i l) k/\Mu.mu { x with n:=x.n+1,W:=0 } more (upd tag i l) k+5=x.mu more tag k+4:=Mu.tT
def Mu.oO(F:x.aS tag k)(hi:i<k)(hc:cd (tag i)=6)(hl:cd l=7)(h:x.L=1):Mu.aS { x with n:=x.n+1,W:=0,S:=1 } (upd tag i l) k/\Mu.mu { x with n:=x.n+1,W:=0,S:=1 } more (upd tag i l) k+5=x.mu more tag k+4:=Mu.tT
def Mu.rP(F:x.aS tag k)(hi:i<k)(hc:cd (tag i)=7)(hl:cd l=8)(h:0<x.sm):Mu.aS { x with sm:=x.sm-1 } (upd tag i l) k/\Mu.mu { x with sm:=x.sm-1 } more (upd tag i l) k+5=x.mu more tag k+5:=Mu.tT
def Mu.wH(F:x.aS tag k)(hi:i<k)(hc:cd (tag i)=8)(hl:cd l=6)(h:x.S=0):Mu.aS x (upd tag i l) k/\Mu.mu x more (upd tag i l) k+5=x.mu more tag k+5:=Mu.tT
def Mu.AB(F:x.aS tag k)(hi:i<k)(hc:cd (tag i)=8)(hl:cd l=9)(h:x.S=1):Mu.aS x (upd tag i l) k/\Mu.mu x more (upd tag i l) k+5=x.mu more tag k+5:=Mu.tT
def Mu.hand(F:x.aS tag k)(hi:i<k)(hc:cd (tag i)=9)(hl:cd l=10)(h:x.S=1)(a:2<=x.n):Mu.aS { x with L:=1,n:=x.n-1 } (upd tag i l) k/\Mu.mu { x with L:=1,n:=x.n-1 } more (upd tag i l) k+5=x.mu more tag k+3:=Mu.tT
def Mu.BS(F:x.aS tag k)(hi:i<k)(hc:cd (tag i)=9)(hl:cd l=10)(h:x.S=1):Mu.aS { x with L:=1,n:=x.n-1,S:=0 } (upd tag i l) k/\Mu.mu { x with L:=1,n:=x.n-1,S:=0 } more (upd tag i l) k+5=x.mu more tag k+3:=Mu.tT
def Mu.rN(F:x.aS tag k)(hi:i<k)(hc:cd (tag i)=14)(hl:cd l=18)(h:x.S=0)(a:x.n=0\/x.W=1):Mu.aS { x with L:=0 } (upd tag i l) k/\Mu.mu { x with L:=0 } more (upd tag i l) k+3=x.mu more tag k+0:=Mu.tT
def Mu.oJ(F:x.aS tag k)(hi:i<k)(hc:cd (tag i)=14)(hl:cd l=15)(h:x.S=0):Mu.aS { x with L:=0 } (upd tag i l) k/\Mu.mu { x with L:=0 } more (upd tag i l) k+3=x.mu more tag k+2:=Mu.tT
def Mu.rL(F:x.aS tag k)(hi:i<k)(hc:cd (tag i)=14)(hl:cd l=17)(h:x.S=1):Mu.aS { x with L:=0 } (upd tag i l) k/\Mu.mu { x with L:=0 } more (upd tag i l) k+3=x.mu more tag k+1:=Mu.tT
def Mu.BT(F:x.aS tag k)(hi:i<k)(hc:cd (tag i)=15)(hl:cd l=17)(h:x.L=0)(a:x.W=0)(d:x.S=0)(e:0<x.n):Mu.aS { x with n:=x.n-1,W:=1 } (upd tag i l) k/\Mu.mu { x with n:=x.n-1,W:=1 } more (upd tag i l) k+2=x.mu more tag k+1:=Mu.tT
def Mu.u6(F:x.aS tag k)(hi:i<k)(hc:cd (tag i)=17)(hl:cd l=18) :Mu.aS { x with sm:=x.sm+1 } (upd tag i l) k/\Mu.mu { x with sm:=x.sm+1 } more (upd tag i l) k+1=x.mu more tag k+1:=Mu.tT
def Mu.vE(F:x.aS tag k)(hi:i<k)(hc:cd (tag i)=16)(hl:cd l=18)(h:x.L=1\/x.W=1\/x.S=1\/x.n=0):Mu.aS x (upd tag i l) k/\Mu.mu x more (upd tag i l) k+2=x.mu more tag k+0:=Mu.tT
def Mu.rR(F:x.aS tag k)(hi:i<k)(hc:cd (tag i)=1)(hl:cd l=2) :Mu.aS x (upd tag i l) k/\Mu.mu x more (upd tag i l) k+6=x.mu more tag k+6:=Mu.tT
def Mu.rQ(F:x.aS tag k)(hi:i<k)(hc:cd (tag i)=2)(hl:cd l=3) :Mu.aS x (upd tag i l) k/\Mu.mu x more (upd tag i l) k+6=x.mu more tag k+6:=Mu.tT
def Mu.same3_4(F:x.aS tag k)(hi:i<k)(hc:cd (tag i)=3)(hl:cd l=4) :Mu.aS x (upd tag i l) k/\Mu.mu x more (upd tag i l) k+6=x.mu more tag k+6:=Mu.tT
def Mu.oN(F:x.aS tag k)(hi:i<k)(hc:cd (tag i)=4)(hl:cd l=3) :Mu.aS x (upd tag i l) k/\Mu.mu x more (upd tag i l) k+6=x.mu more tag k+6:=Mu.tT
def Mu.same5_6(F:x.aS tag k)(hi:i<k)(hc:cd (tag i)=5)(hl:cd l=6) :Mu.aS x (upd tag i l) k/\Mu.mu x more (upd tag i l) k+5=x.mu more tag k+5:=Mu.tT
def Mu.oM(F:x.aS tag k)(hi:i<k)(hc:cd (tag i)=6)(hl:cd l=5) :Mu.aS x (upd tag i l) k/\Mu.mu x more (upd tag i l) k+5=x.mu more tag k+5:=Mu.tT
def Mu.nC(F:x.aS tag k)(hi:i<k)(hc:cd (tag i)=10)(hl:cd l=11) :Mu.aS x (upd tag i l) k/\Mu.mu x more (upd tag i l) k+3=x.mu more tag k+3:=Mu.tT
def Mu.yB(F:x.aS tag k)(hi:i<k)(hc:cd (tag i)=11)(hl:cd l=12) :Mu.aS x (upd tag i l) k/\Mu.mu x more (upd tag i l) k+3=x.mu more tag k+3:=Mu.tT
def Mu.yA(F:x.aS tag k)(hi:i<k)(hc:cd (tag i)=12)(hl:cd l=13) :Mu.aS x (upd tag i l) k/\Mu.mu x more (upd tag i l) k+3=x.mu more tag k+3:=Mu.tT
def Mu.nB(F:x.aS tag k)(hi:i<k)(hc:cd (tag i)=13)(hl:cd l=14) :Mu.aS x (upd tag i l) k/\Mu.mu x more (upd tag i l) k+3=x.mu more tag k+3:=Mu.tT
def Mu.nA(F:x.aS tag k)(hi:i<k)(hc:cd (tag i)=15)(hl:cd l=16) :Mu.aS x (upd tag i l) k/\Mu.mu x more (upd tag i l) k+2=x.mu more tag k+2:=Mu.tT
def Mu.m9(F:x.aS tag k)(hi:i<k)(hc:cd (tag i)=16)(hl:cd l=15) :Mu.aS x (upd tag i l) k/\Mu.mu x more (upd tag i l) k+2=x.mu more tag k+2:=Mu.tT
def Mu.m8(F:x.aS tag k)(hi:i<k)(hc:cd (tag i)=18)(hl:cd l=19) :Mu.aS x (upd tag i l) k/\Mu.mu x more (upd tag i l) k+0=x.mu more tag k+0:=Mu.tT
def Mu.same19_20(F:x.aS tag k)(hi:i<k)(hc:cd (tag i)=19)(hl:cd l=20) :Mu.aS x (upd tag i l) k/\Mu.mu x more (upd tag i l) k+0=x.mu more tag k+0:=Mu.tT
def Mu.m7(F:x.aS tag k)(hi:i<k)(hc:cd (tag i)=20)(hl:cd l=21) :Mu.aS x (upd tag i l) k/\Mu.mu x more (upd tag i l) k+0=x.mu more tag k+0:=Mu.tT
def Mu.x9(F:x.aS tag k)(hi:i<k)(hc:cd (tag i)=21)(hl:cd l=22) :Mu.aS x (upd tag i l) k/\Mu.mu x more (upd tag i l) k+0=x.mu more tag k+0:=Mu.tT
def Mu.m6(F:x.aS tag k)(hi:i<k)(hc:cd (tag i)=22)(hl:cd l=23) :Mu.aS x (upd tag i l) k/\Mu.mu x more (upd tag i l) k+0=x.mu more tag k+0:=Mu.tT
def Mu.x8(F:x.aS tag k)(hi:i<k)(hc:cd (tag i)=23)(hl:cd l=24) :Mu.aS x (upd tag i l) k/\Mu.mu x more (upd tag i l) k+0=x.mu more tag k+0:=Mu.tT
def Mu.AQ(F:x.aS tag k)(hi:i<k)(hc:cd (tag i)=21)(hl:cd l=0) :Mu.aS x (upd tag i l) k/\Mu.mu x more (upd tag i l) k+0=x.mu more tag k+0:=Mu.tT
def Mu.AP(F:x.aS tag k)(hi:i<k)(hc:cd (tag i)=24)(hl:cd l=0) :Mu.aS x (upd tag i l) k/\Mu.mu x more (upd tag i l) k+0=x.mu more tag k+0:=Mu.tT
end
