import Derived.Test.YthmnpenamnoniaaGreatDoorP24
import Derived.Test.YthmnpenamnoniaaGreatDoorP25
set_option linter.all false
set_option maxHeartbeats 2000000
section
open Go Go.LL
namespace Go.Proofs
section
variable{c:Cx}
def WR(c:Cx)(H f:Hp):Prop:=∃(l:List Nat) (a:Hp),c.PI l a/\(∀j,c.base<=j->j<c.base+c.K->c.need j=true->j∈l)/\(∀j∈l,c.base<=j/\j<c.base+c.K/\c.need j=true)/\l.Nodup/\a.gh=[]/\(H.tagged [40]).Comp a/\f=(H.tagged [40]).join a
def Zo0{n:Nat}(h:n<=100000001):IntKind.u64.wrap ((eZ n 0:Nat)+1)=((eZ n 1:Nat):Int):=by
 have e:((eZ n 0:Nat):Int)+1=((eZ n 1:Nat):Int):=by unfold eZ;omega
 rw[<-e,PW O (by unfold eZ;omega)]
def ZtO{P:aY}{d:Option Nat}{next:aL->Hp->Prop}{σ:aL}{H:Hp}{x y:Operand}{m n r:Int}(a:σ.get x=some (.int .u64 m))(f:σ.get y=some (.int .u64 n))(g:IntKind.u64.wrap (m+n)=r)(h:next (σ.set d (.int .u64 r)) H):(aR.bC .add x y).m P d next σ H:=
 Yk a f rfl (by subst g;exact h)
theorem Zo9(ok:c.Ok){H:Hp}(q:H.gh=[30,c.K]):LL.Za (pm c) 108 #[ptr c.W] H λ_ f=>WR c H f:=by
 refine aI.m (P:=pm c) Zyo rfl ?_;unfold Ea;refine Z ?_;refine Zt U2 (vs:=[]) rfl (Zut ok U2 q) ?_;rintro v _ ⟨rfl,rfl⟩;refine Z ?_;refine B7 (λ(j:Option Nat) f=>f=H.tagged (34 :: j.toList)) (λj=>j.getD 100000003) (λ_=>[(0,ptr c.W)]) (λ_=>[]) none rfl V trivial ?_;rintro j _ rfl;refine Z ?_;refine Zv (vs:=[ptr c.W]) rfl (P8 rfl (Zuq ok DS (l0:=j.toList) (by rfl))) ?_;rintro v f ⟨n,r,rfl,h,g⟩;refine Z ?_;refine Vz rfl rfl (.inl rfl) (by decide) (P9 O) (Z ?_);refine Oi xK CO rfl (PX O) (Z ?_);refine Zq rfl rfl (.inl rfl) (PT O O) (Z ?_);refine Oi xK P0 rfl (PY O) (Z ?_);rcases g with⟨rfl,rfl⟩ | ⟨o,rfl⟩
 ·refine YM rfl rfl rfl rfl (Z ?_);refine Zt Yu (vs:=[]) rfl (Bf ok Yu (by rfl)) ?_;rintro v _ ⟨rfl,rfl⟩;refine Z ?_;refine VO rfl (DQ MW rfl (.inl rfl) (by simp[Hp.tagged,cd])) ?_;rintro v k ⟨rfl,e⟩;rw[e];refine Z ?_;refine Zt YU (vs:=[ptr c.W]) rfl (Be ok YU (by rfl)) ?_;rintro v l ⟨rfl,a⟩;refine Z ?_;refine YM rfl rfl rfl rfl (Z ?_);refine Zq rfl rfl (.inl rfl) (G0 O O) (Z ?_);refine Ye rfl rfl rfl rfl (Z ?_);exact a
 refine Yj rfl rfl rfl O (Z ?_);refine ZtO rfl rfl (Zo0 r) (Z ?_);refine Zv (vs:=[ptr c.W,.int .u64 (eZ n 0:Nat),.int .u64 (eZ n 1:Nat)]) rfl (Zpb rfl (Zuv ok X6 o (by rfl))) ?_;rintro v _ (⟨rfl,rfl⟩ | ⟨rfl,rfl⟩)
 ·refine Z ?_;refine YM rfl rfl rfl rfl (Z ?_);refine VO rfl (DQ XX rfl (.inr rfl) (by simp[Hp.tagged,cd])) ?_;rintro v k ⟨rfl,e⟩;rw[e];refine Z ?_;refine Zt X3 (vs:=[.pointer (some ⟨c.W,1,none⟩)]) rfl (Bg ok (.inr rfl) X3 (.inr rfl)) ?_;rintro v l ⟨rfl,e⟩;rw[e];refine Z ?_;refine Zq rfl rfl (.inl rfl) (G0 O O) (Z ?_);refine Ye rfl rfl rfl rfl (Z ?_);refine Zt X4 (vs:=[.pointer (some ((cC c.W).add 1)),.bool false]) rfl (Zuo ok X4 rfl (by rfl)) ?_;rintro v _ ⟨rfl,rfl⟩;refine Z ?_;refine Zv (vs:=[ptr c.W]) rfl (P8 rfl (Zup ok DS (by rfl))) ?_;rintro v _ ⟨rfl,rfl⟩;refine Z ?_;refine Ye rfl rfl rfl rfl (Z ?_);refine Zt Yu (vs:=[]) rfl (Bf ok Yu (by rfl)) ?_;rintro v _ ⟨rfl,rfl⟩;refine Z ?_;refine VO rfl (DQ MW rfl (.inl rfl) (by simp[Hp.tagged,cd])) ?_;rintro v t ⟨rfl,e⟩;rw[e];refine Z ?_;refine Zt YU (vs:=[ptr c.W]) rfl (Be ok YU (by rfl)) ?_;rintro v u ⟨rfl,a⟩;refine Z ?_;exact a
 refine Z ?_;refine⟨some n,?_,rfl,V,trivial,rfl⟩;cases j with
 | none=>simp;omega
 | some s=>exact h s rfl
end
end Go.Proofs
end
section
namespace Go.LL
section
variable{K:Nat}{p:Program}
open Go.Conc
open Go.ConcN (sumTo upd sumTo_upd upd_ne upd_same)
noncomputable def vX(p:Program):aY:={ toProgram:=p,still:=λ_=>false,stillNil:=λ_ _=>rfl,toEnv:=Zwy p }
def gQ(K a:Nat):Ts:={ tag:=λj=>if j=0 then[30,0]else[0],next:=a,more:=K,mu:=⟨0,0,0,0,0⟩,wg:=⟨0,0,0⟩,log:=[] }
section
variable{c:Cx}
def Zpj{f:Nat}{g:Nat->Nat}(h:g 0=0)(a:g 30=0):Ct g (gQ K f).tag f=0:=by
 refine FR λi _=>?_;by_cases e:i=0
 ·subst e;exact a
 simp only[gQ,bY e];exact h
def Zpk(hb:1<=c.base):aW c (gQ c.K c.base):=by
 have z:∀g:Nat->Nat,g 0=0->g 30=0->Ct g (gQ c.K c.base).tag (gQ c.K c.base).next=0:=λg=>Zpj;have f:(gQ c.K c.base).tag 0=[30,0]:=rfl;have o:∀j,j≠0->(gQ c.K c.base).tag j=[0]:=λj l=>by simp[gQ,l]
 refine⟨⟨?_,qBg 1,qBg 1,qBg 1,?_,λe=>by simp[gQ]at e⟩,⟨?_,?_,?_,?_,?_,?_⟩,λj l=>?_,λv=>?_,λk n r hl=>?_,λj l hc=>?_,rfl,hb,AT _,λj q m=>o j O,λj q m=>?_,qCs,λj l=>?_,λj q m=>?_⟩
 ·exact(z YE rfl rfl).symm
 ·intro _;rw[z cQ rfl rfl,z cR rfl rfl,z cT rfl rfl,z cA rfl rfl];exact⟨rfl,rfl,λ_ h=>by simp[gQ]at h⟩
 ·show 0=Ct cW _ _+mP (cd [30,0]);rw[z cW rfl rfl];rfl
 ·show 30<=cd [30,0];simp[cd]
 ·intro h;rw[f]at h;simp[cd]at h
 ·intro h;rw[f]at h;simp[cd]at h
 ·intro _;exact⟨rfl,rfl,z cL rfl rfl,z cE rfl rfl⟩
 ·intro h;rw[f]at h;simp[cd]at h
 ·by_cases e:j=0
  ·subst e;rw[f];exact Mu.fH (by simp[cd])
  rw[o j e];trivial
 ·rw[f];simp
 ·rw[f]at hl;simp at hl;show c.base=c.base+n;omega
 ·by_cases e:j=0
  ·subst e;rw[f]at hc;simp[cd]at hc
  rw[o j e]at hc;simp[cd]at hc
 ·have:j<c.base:=m;omega
 ·simp[gQ]at l
 have:j<c.base:=m;omega
end
structure yR(H:Hp)(M W:Nat)(tM tW:TypeId)(Hm Hl:Hp):Prop where
 ne:M≠W
 atM:H M=some (.cells #[.int .i32 (0:Nat),.int .u32 (0:Nat)] tM,true)
 atW:H W=some (.cells #[.int .u64 (0:Nat),.int .u32 (0:Nat)] tW,true)
 own:∀b x,Hm b=some x->H b=some x/\b≠M/\b≠W/\Hl b=none
 fN:∀b x,Hl b=some x->H b=some x/\b≠M/\b≠W
def Zpz{z:Hp}{gs:Array Goroutine}{w:World}{t:Trace}{q:Nat->Nat}(u:eV p z gs w t q){c:Cx}{F s:Hp}(hS:yR z c.M c.W c.tM c.tW F s)(Q:0<gs.size)(hb:c.base=gs.size)(hn:c.n0=t.size)(r:∀l,c.old l↔∃b,l.dY=some b/\nY t b)
  (A:c.PI [] s):Yb c (gQ c.K gs.size) ((fI c (gQ c.K gs.size)).join s) t:=by
 have E:(gQ c.K gs.size).tag 0=[30,0]:=rfl;have T:∀j,j≠0->(gQ c.K gs.size).tag j=[0]:=λj hj=>by simp[gQ,hj]
 have n:∀j,c.live gs.size j->j=0:=λj hj=>by have:=hj.2;have:=hj.1;omega
 have m:∀q x a b y,t[q]? = some x->x.act.touch? = some a->a.loc.dY=some b->z b=some y->Knows t 0 q:=by intro q x a b y k f o hy;refine IF λhn=>?_;have:=u.unk (b:=b) ⟨q,a,by rw[touchAt_of k];exact f,o,hn⟩;rw[hy]at this;simp at this
 refine⟨by rw[<-hb];exact Zpk O,⟨O,O,?_,?_,?_,?_,?_,?_,?_,?_⟩,λj hj hc=>?_,λh=>?_,.inr ⟨?_,s,rfl,⟨λb x y h1 h2=>?_,.inl rfl⟩,A⟩⟩
 ·intro q x k v;have:=lt_size_of_getElem? k;omega
 ·intro q x a k f S;refine .inr λj hj=>?_;rw[n j hj];obtain⟨b,o,rfl | rfl⟩:=S
  ·exact m q x a _ _ k f o hS.atM
  exact m q x a _ _ k f o hS.atW
 ·intro q x a b k f o R;refine .inl λj hj=>?_;rw[n j hj];obtain⟨⟨y,hy⟩,G,I⟩:=R;simp only[Hp.aQ,UX G I]at hy;exact m q x a b y k f o (hS.fN b y hy).1
 ·intro q x a k f C h1 h2;have h2:x.g<gs.size:=h2;omega
 ·intro q x a k v f C;rcases u.past.known q a (by rw[touchAt_of k];exact f) C with h1 | ⟨⟨b,h1,_⟩,h2⟩
  ·exact .inl h1
  by_cases hk:Knows t 0 q
  ·exact .inl hk
  exact .inr ⟨h2,(r _).2 ⟨b,h1,q,a,by rw[touchAt_of k];exact f,h1,hk⟩⟩
 ·intro q x k v N hc;obtain⟨j,h1,h2⟩:=u.past.over q x.g (by unfold Trace.g?;rw[k];rfl) N hc;obtain⟨y,hy,B⟩:=qAk.1 h1;exact⟨j,y,hy,B,h2⟩
 ·intro q x a k v;have:=lt_size_of_getElem? k;omega
 ·intro q x k v;have:=lt_size_of_getElem? k;omega
 ·obtain rfl:=n j hj;rw[u.past.hears];rfl
 ·rw[E]at h;simp[cd]at h
 ·rintro⟨j,hj,e⟩;by_cases e0:j=0
  ·subst e0;rw[E]at e;simp[cd]at e
  rw[T j e0]at e;simp[cd]at e
 obtain⟨U,J,L⟩:=hS.fN b y h2;rcases(u4 h1).1 with rfl | rfl
 ·exact absurd rfl J
 exact absurd rfl L
def Ztc{R:Frame->List Frame->Hp->Prop}{fr:Frame}{cs:List Frame}{n:Hp}{M W:Nat}{tM tW:TypeId}{need:Nat->Nat->Bool}{PI:Nat->List Nat->Hp->Prop}{E D:Hp}(hS:yR n M W tM tW E D)(C9:∀base,PI base [] D)
  (ok:∀base n0 old,Cx.Ok { M,W,base,n0,old,tM,tW,K,need:=need base,PI:=PI base }) (hg:E.gh=[30,0])
  (A:∀base n0 old,1<=base->Reach (aZ p { M,W,base,n0,old,tM,tW,K,need:=need base,PI:=PI base }).prgM
   (λG F k=>k.gh=[40]/\∀s:Hp,s.gh=n.gh->(∀b,s b=none↔k b=none)->(∀b x y,s b=some x->k b=some y->x.1=y.1/\(y.2=true->x.2=true)/\((∃o,n b=some (o,true))->x.2=true)/\∀o,n b=some (o,false)->x.2=true->y.2=true)->R G F s) fr cs E):U7 p R fr cs n:=by
 refine Ztd λgs w t q I h0=>?_
 have v:0<gs.size:=(qAr.1 h0).1
 let c:Cx:={ M,W,base:=gs.size,n0:=t.size,old:=λl=>∃b,l.dY=some b/\nY t b,tM,tW,K,need:=need gs.size,PI:=PI gs.size }
 have C:c.Ok:=ok _ _ _
 have hS':yR n c.M c.W c.tM c.tW E D:=hS
 have hI:=Zpz (c:=c) I hS' v rfl rfl (λl=>qCm) (C9 _)
 have Wx:∀b x,fI c (gQ c.K gs.size) b=some x->n b=some x:=by
  intro b x h;rcases(u4 h).1 with rfl | rfl
  ·rw[u2 C.ne]at h;obtain rfl:=iN h;exact hS.atM
  rw[O0]at h;have e:Ob c (gQ c.K gs.size).wg=.cells #[.int .u64 (0:Nat),.int .u32 (0:Nat)] tW:=by simp[Ob,gQ,c]
  rw[e]at h;obtain rfl:=iN h;exact hS.atW
 have L:∀b x,((fI c (gQ c.K gs.size)).join D) b=some x->n b=some x:=by
  intro b x h;simp only[Hp.aQ]at h;cases m:fI c (gQ c.K gs.size) b with
  | some z=>rw[m]at h;exact Wx b x (m.trans h)
  | none=>rw[m]at h;exact(hS.fN b x h).1
 refine⟨aZ p c,gQ c.K gs.size,(fI c (gQ c.K gs.size)).join D,E,_,⟨Zpq C,hI,rfl,?_,λj h1 h2=>?_,λb o pm h=>I.le b o pm (hS.own b _ h).1,λb o pm h=>I.le b o pm (L b _ h),λb x y h1 h2=>?_,λb x h=>.inr ⟨x,.inl (hS.own b x h).1,λ_=>rfl⟩,λb x h=>.inr ⟨x,.inl (L b x h),λ_=>rfl⟩,?_,A gs.size t.size _ v,?_⟩⟩
 ·exact hg.symm
 ·show(gQ c.K gs.size).tag j=[0];simp[gQ,h1]
 ·exfalso;obtain⟨T,X,Y,h6⟩:=hS.own b x h1;simp only[Hp.aQ]at h2;cases m:fI c (gQ c.K gs.size) b with
  | some z=>
   rcases(u4 m).1 with rfl | rfl
   ·exact X rfl
   exact Y rfl
  | none=>rw[m,h6]at h2;simp at h2
 ·show Ys _;rw[hg];exact .inr (by simp[cd])
 ·rintro G F k U V t' w' ⟨oX,hR⟩ J N u nV z5 SK qV JK aAW
  have g:Yb c U V t':=J
  have f:U.tag 0=[40]:=(show U.tag 0=k.gh from N).trans oX
  obtain⟨f1,f2⟩:=g.fin (by rw[f];rfl)
  have Z:k M=none:=by
   cases m:k M with
   | none=>rfl
   | some y=>have:=u M _ _ m (g.atM C);rw[this.1]at this;simp at this
  have hWn:k W=none:=by
   cases m:k W with
   | none=>rfl
   | some y=>have:=u W _ _ m g.atW;rw[this.1]at this;simp at this
  refine⟨λj h1 h2=>?_,λi a h1 h2=>?_,f2,?_,?_⟩
  ·show U.tag j=[0];by_cases hb:c.base<=j
   ·exact g.cnt.over (by rw[f];simp[cd]) hb h2
   exact g.cnt.olds j O O
  ·obtain⟨x,B,lS⟩:=touch_of h1;rcases f1 i x a B lS h2 with T | ⟨T,X⟩
   ·exact .inl T
   refine .inr ⟨T,λb hb=>?_⟩;rcases X with⟨b',r,hu⟩ | ⟨b',r,Y⟩
   ·rw[hb]at r;obtain rfl:=iN r;refine⟨?_,.inl hu⟩;cases m:k b with
    | none=>rfl
    | some y=>
     exfalso;rcases JK.nil m with h6 | ⟨z,hz,_⟩
     ·obtain⟨i2,a2,g1,g2,_⟩:=hu;obtain⟨x2,tX,Q⟩:=touch_of g1;exact absurd (yC Q g2 (I.past.seen x2 (mem_of_getElem? tX))) O
     rw[I.unk hu]at hz;simp at hz
   rw[hb]at r;obtain rfl:=iN r;rcases Y with rfl | rfl
   ·exact⟨Z,.inr (.inr ⟨_,hS.atM⟩)⟩
   exact⟨hWn,.inr (.inr ⟨_,hS.atW⟩)⟩
  ·rw[g.deaf 0 ⟨g.cnt.next0,.inl rfl⟩ (by rw[f];simp[cd]),f];rfl
  classical
  let s:Hp:=⟨λb=>(k b).map λy=>(y.1,if(∃o,n b=some (o,true))then true else y.2),n.gh⟩
  have h2:∀b,s b=(k b).map λy=>(y.1,if(∃o,n b=some (o,true))then true else y.2):=λb=>rfl
  refine⟨s,rfl,λb x B=>?_,hR s rfl (λb=>?_) λb x y B hy=>?_⟩
  ·rw[h2]at B;obtain⟨y,hy,rfl⟩:=qAk.1 B;refine⟨y,hy,rfl,λe=>?_⟩;simp only at e;split at e
   ·rename_i h;exact .inr h
   exact .inl e
  ·rw[h2];simp
  rw[h2,hy]at B
  obtain rfl:=iN B
  refine⟨rfl,λe=>?_,λe=>?_,λo ho e=>?_⟩
  ·simp only;split
   ·rfl
   exact e
  ·simp only;rw[BY e]
  simp only at e
  rwa [bY (by rintro⟨o',h⟩;rw[ho]at h;simp at h)]at e
end
section
open Go.Conc
structure QA(H H' H2:Hp):Prop where
 gh:H2.gh=H.gh
 dom:∀b,H2 b=none↔H' b=none
 val:∀b x y,H2 b=some x->H' b=some y->x.1=y.1/\(y.2=true->x.2=true)/\((∃o,H b=some (o,true))->x.2=true)/\∀o,H b=some (o,false)->x.2=true->y.2=true
def QB(b:Frame)(k:List Item)(a:Act)(g:Frame):Ex->Prop
 | .normal=>g=on b a k
 | .ret=>∃f,g=on b a (.code .ret :: f)
 | .exit id=>(∃f,exitTo id k=some f/\g=on b a f)\/(exitTo id k=none/\∃f,exitTo id f=none/\g=on b a (.code (.exit id) :: f))
theorem pR.spot{P:aY}{G:Frame->List Frame->Hp->Prop}{b:Frame}{k:List Item}{m:List Frame}{e:Ex}{a:Act}{H:Hp}:pR P G b k m e a H↔∀l,QB b k a l e->Reach P G l m H:=by
 cases e with
 | normal=>exact⟨λh l e=>by rw[show l=_ from e];exact h,λh=>h _ rfl⟩
 | ret=>exact⟨λh l ⟨f,e⟩=>by rw[e];exact h f,λh f=>h _ ⟨f,rfl⟩⟩
 | exit id=>
  refine⟨λh l e=>?_,λh=>⟨λf g=>h _ (.inl ⟨f,g,rfl⟩),λg f j=>h _ (.inr ⟨g,f,j,rfl⟩)⟩⟩;rcases e with⟨f,g,rfl⟩ | ⟨g,f,j,rfl⟩
  ·exact h.1 f g
  exact h.2 g f j
section
open Classical
noncomputable def Hp.zI(a H:Hp)(g:List Nat):Hp:=⟨λb=>if H b=none then none else a b,g⟩
noncomputable def Hp.oQ(a H:Hp)(g:List Nat):Hp:=⟨λb=>if H b=none then a b else none,g⟩
theorem Hp.gL(a H:Hp)(g:List Nat)(b:Nat):a.zI H g b=if H b=none then none else a b:=rfl
theorem Hp.jL(a H:Hp)(g:List Nat)(b:Nat):a.oQ H g b=if H b=none then a b else none:=rfl
def Hp.kF(a H:Hp){g g':List Nat}(j:a.gh=g++g')(k:g=[]\/g'=[]):a=(a.zI H g).join (a.oQ H g')/\(a.zI H g).Comp (a.oQ H g'):=by
 refine⟨Hp.ext' (λb=>?_) (by rw[Hp.bI];exact j),⟨λb x y f h=>?_,k⟩⟩
 ·simp only[Hp.aQ,Hp.gL,Hp.jL];by_cases e:H b=none
  ·simp[e]
  simp only[e,qAf];cases a b<;>rfl
 rw[Hp.gL]at f;rw[Hp.jL]at h;by_cases e:H b=none
 ·simp[e]at f
 simp[e]at h
end
def Zwq{p:Program}{n1 n2:Zb}{Q:Ex->aL->Hp->Prop}{σ:aL}{H:Hp}{M W K:Nat}{tM tW:TypeId}{need:Nat->Nat->Bool}{PI:Nat->List Nat->Hp->Prop}{v D:Hp}(hS:yR H M W tM tW v D)(F:∀base,PI base [] D)
  (ok:∀base n0 old,Cx.Ok { M,W,base,n0,old,tM,tW,K,need:=need base,PI:=PI base })
  (B:∀base n0 old,1<=base->(Zb.seq n1 n2).m (aZ p { M,W,base,n0,old,tM,tW,K,need:=need base,PI:=PI base }).prgM (λe σ' H'=>H'.gh=[40]/\∀f:Hp,QA H H' f->Q e σ' f) σ (v.tagged [30,0])):tF (vX p) n1 n2 Q σ H:=by
 intro L m rd code act Ha hL tr r G b k Z lU n hG;obtain⟨ρ,u,e1,U,e3,e4,e5,e6⟩:=r.mem;have w:∀b x,H b=some x->x.2=true->u b=none:=by
  intro b x h1 h2;cases q:u b with
  | none=>rfl
  | some y=>have:=(U b x y h1 q).2;rw[h2]at this;simp at this
 have j:∀b x,H b=some x->Ha b=some x:=λb x h=>by rw[e1];exact Hp.aJ h
 have hlw:∀b x,D b=some x->x.2=true:=(ok 1 0 λ_=>False).own [] D (F 1);have hSA:yR Ha M W tM tW ((v.tagged [30,0]).join (u.tagged [])) D:=by
  refine⟨hS.ne,j _ _ hS.atM,j _ _ hS.atW,λb x h=>?_,λb x h=>⟨j _ _ (hS.fN b x h).1,(hS.fN b x h).2⟩⟩;simp only[Hp.aQ,Hp.cD]at h;cases q:v b with
  | some z=>
   rw[q]at h;obtain rfl:=iN h;obtain⟨h1,h2⟩:=hS.own b z q;exact⟨j _ _ h1,h2⟩
  | none=>
   rw[q]at h;have h:u b=some x:=h;refine⟨by rw[e1];exact Hp.aP U h,?_,?_,?_⟩
   ·rintro rfl;rw[w _ _ hS.atM rfl]at h;simp at h
   ·rintro rfl;rw[w _ _ hS.atW rfl]at h;simp at h
   cases hl:D b with
   | none=>rfl
   | some y=>rw[w _ _ (hS.fN b y hl).1 (hlw b y hl)]at h;simp at h
 refine .dL (Ztc (R:=Reach (vX p) G) hSA F ok (by simp[Hp.bI,Hp.tagged]) λbase n0 old hb=>?_);have A:(v.tagged [30,0]).Comp (u.tagged []):=⟨λb x y h1 h2=>U b x y (hS.own b x h1).1 h2,.inr rfl⟩;have rM:cX (aZ p { M,W,base,n0,old,tM,tW,K,need:=need base,PI:=PI base }).prgM.toPQ L m σ (v.tagged [30,0]) act ((v.tagged [30,0]).join (u.tagged [])):=
  ⟨r.size,r.defers,ρ,u.tagged [],rfl,A,e3,e4,e5,⟨e6.1,e6.2.1,.inr λ_=>rfl⟩⟩
 refine VT (P:=(aZ p { M,W,base,n0,old,tM,tW,K,need:=need base,PI:=PI base }).prgM) hL tr (Zb.jS (λ_ _ _ h=>h) (B base n0 old hb)) rM _ b k Z ?_ ⟨n.kind,n.l7,n.nr⟩ ?_
 ·
  rintro dN dH E J hc ⟨I,hR⟩
  have hJ:J.gh=[]:=hc.gh.resolve_left (by rw[I];simp)
  refine⟨by rw[Hp.bI,I,hJ];rfl,λf g1 X Y=>?_⟩
  obtain⟨i1,i2⟩:=Hp.kF f E (g:=f.gh) (g':=[]) (by simp) (.inr rfl)
  rw[i1]
  refine Reach.up lU (hR _ (by exact g1) (λb=>?_) λb x y C hy=>?_) i2
  ·rw[Hp.gL];by_cases e:E b=none
   ·simp[e]
   simp only[e,qAf];rw[X];simp only[Hp.aQ];cases q:E b with
   | none=>exact absurd q e
   | some z=>simp
  ·rw[Hp.gL,bY (by rw[hy];simp)]at C;exact Y b x y C (Hp.aJ hy)
 rintro e a' E ⟨σ',s,r',I,hq⟩;rw[pR.spot];intro fr JK;obtain⟨ρ',K1,V,f2,f3,f4,f5,f6⟩:=r'.mem;have hK1:K1.gh=[]:=f2.gh.resolve_left (by rw[I];simp);refine .stop ⟨by rw[V,Hp.bI,I,hK1];rfl,λf g1 X Y=>?_⟩;obtain⟨i1,i2⟩:=Hp.kF f s (g:=H.gh) (g':=u.gh) (by rw[g1,e1,Hp.bI]) U.gh;have hk:∀b o,K1 b=some (o,true)->f.oQ s u.gh b=some (o,true):=by
  intro b o h;have h0:s b=none:=by
   cases q:s b with
   | none=>rfl
   | some z=>have:=f2 b z _ q h;rw[this.1]at this;simp at this
  rw[Hp.jL,BY h0];have h1:E b=some (o,true):=by rw[V];exact Hp.aP f2 h
  cases h2:f b with
  | none=>rw[X,h1]at h2;simp at h2
  | some x=>
   obtain⟨j1,j2,_⟩:=Y b x _ h2 h1;rw[<-iN (show some (x.1,x.2)=some (o,true)by rw[j1,j2 rfl])]
 have N:cX (vX p).toPQ L m σ' (f.zI s H.gh) a' f:=by refine⟨r'.size,r'.defers,ρ',f.oQ s u.gh,i1,i2,λd Z hd=>?_,f4,f5,⟨f6.1,λx C=>hk _ _ (f6.2.1 x C),.inr λ_=>rfl⟩⟩;obtain⟨t,ht⟩:=f3 d Z hd;exact⟨t,hk _ _ ht⟩
 have IQ:QA H s (f.zI s H.gh):=by
  refine⟨rfl,λb=>?_,λb x y C hy=>?_⟩
  ·rw[Hp.gL];by_cases e:s b=none
   ·simp[e]
   simp only[e,qAf];rw[X,V];simp only[Hp.aQ];cases q:s b with
   | none=>exact absurd q e
   | some z=>simp
  rw[Hp.gL,bY (by rw[hy];simp)]at C;obtain⟨j1,j2,j3,j4⟩:=Y b x y C (by rw[V];exact Hp.aJ hy);exact⟨j1,j2,λ⟨o,ho⟩=>j3 ⟨o,j _ _ ho⟩,λo ho=>j4 o (j _ _ ho)⟩
 have:=hG e a' f ⟨σ',_,N,hq _ IQ⟩;exact pR.spot.1 this fr JK
end
section
variable{p:Program}
open Go.Conc
def ZwN:Uc UV:=λ_ _ _ _ _ h=>h
def Zw4{a:Frame}(h:p.funcs[a.fn]? = none)(f:a.todo=[]):a.catches p=false:=by unfold Frame.catches;rw[h,f]
theorem ZqJ{c:Cx}{i:Nat}{f:FuncId}{fn:Func}{cap args:Array Value}{H:Hp}(y:p.funcs[f]? = some fn)(hb:fn.body.isSome=true)(z:(fn.name == "runtime.NumGoroutine")=false)
  (h:Vj ((aZ p c).prgW i) .deferred f (args++cap) H λ_ g=>g.gh=lv 0):Reach ((aZ p c).prgW i) UV (YV p { target:=.fn (.func f) cap,args:=args }) [] H:=by
 have l:fn.body.isNone=false:=by simpa using hb
 have m:((aZ p c).prgW i).funcs[f]? = some fn:=y;have k:∀g:Hp,g.gh=lv 0->Reach ((aZ p c).prgW i) UV { YV p { target:=.fn (.func f) cap,args:=args }with defers:=[] } [] g:=by intro g o;refine .dL ⟨by rw[o];simp[lv],.inl ⟨0,o,.inr ⟨rfl,{ frame:={ YV p { target:=.fn (.func f) cap,args:=args }with defers:=[] },callers:=[],status:=.finished,dying:=none },rfl,λw=>?_⟩⟩⟩;have u:Frame.catches p { YV p { target:=.fn (.func f) cap,args:=args }with defers:=[] }=false:=Zw4 (by simp) rfl;have e:stepG p false (bO { YV p { target:=.fn (.func f) cap,args:=args }with defers:=[] } []) w=unwind p false { YV p { target:=.fn (.func f) cap,args:=args }with defers:=[] } [] none w:=rfl;rw[e];unfold unwind;simp only[u,dO,qAf];rfl
 refine .oL (s:=invoke (.fn (.func f) cap) args) (Q:=λn _ g=>n=.enter f (args++cap)/\g=H) ?_ ?_
 ·simp only[invoke,callFunc,Ze,Vu,m,z,l,dO,qAf];exact⟨rfl,rfl⟩
 rintro n C ⟨rfl,rfl⟩;refine⟨Frame.enter p f (args++cap) .deferred,[{ YV p { target:=.fn (.func f) cap,args:=args }with defers:=[] }],λmain w D es q=>⟨seen p p.funcs.size es,?_,.inr rfl⟩,λg r=>?_⟩;rotate_left
 ·obtain⟨_,rfl⟩:=r;exact h UV { YV p { target:=.fn (.func f) cap,args:=args }with defers:=[] } [] ZwN (by unfold B9 tR;trivial) λv j B=>k j B
 have A:stepG p main (bO (YV p { target:=.fn (.func f) cap,args:=args }) []) w=callDeferred p { YV p { target:=.fn (.func f) cap,args:=args }with defers:=[] } [] none { target:=.fn (.func f) cap,args:=args } w:=by have:stepG p main (bO (YV p { target:=.fn (.func f) cap,args:=args }) []) w=unwind p main (YV p { target:=.fn (.func f) cap,args:=args }) [] none w:=rfl;rw[this];exact FU rfl rfl
 refine A.trans ?_;exact(Ow rfl q).1 f _ rfl
end
section
open Go.Conc
section
variable{P:aY}{d:Option Nat}{next:aL->Hp->Prop}{σ:aL}{H:Hp}{x:Operand}
def ZtH{f:FuncId}{first cap:Array Value}{g:Array Operand}{o:Array TypeId}{r:TypeId}{vs:List Value}(e:σ.get x=some (.func (.func f) first cap))(t:σ.dM g.toList=some vs){a:Value->Hp->Prop}
  (h:Zp P (pure (.spawn { target:=.fn (.func f) cap,args:=first++vs.toArray })) false false H a) (u:∀v q,a v q->next (σ.set d v) q) :
  (aR.raw (.go { callee:=.value x,args:=g,argTypes:=o }) r).m P d next σ H:=by
 obtain⟨s,l⟩:=Oq t;have n:((Op.go { callee:=.value x,args:=g,argTypes:=o }).operands.all λx=>(σ.get x).isSome)=true:=by
  rw[qAd];intro y j;simp only[Op.operands,Call.operands]at j;simp only[qAp]at l;simp only[qBk,qAn,qAC,qAb,iF,qAu]at j l;rcases j with rfl | j
  ·rw[e];rfl
  exact l y j
 refine⟨n,.inr ?_⟩;have:execOp (λx=>(σ.get x).getD undef) (aN (.go { callee:=.value x,args:=g,argTypes:=o }) r)=pure (.spawn { target:=.fn (.func f) cap,args:=first++vs.toArray }):=by obtain⟨g⟩:=g;have k:List.map (λx=>(σ.get x).getD undef) g=vs:=s;simp[execOp,aN,resolve,Deferred.ofValue,e,qBq,k]
 rw[this];exact h.mono u
end
end
end Go.LL
end
open Go Go.LL
namespace Go.Proofs
variable{seen:Array Nat}{e:MapEntry}{i:Nat}{b:Bk}
def V0(b:Bk)(g:N4)(s:Int):Bool:=decide (YZ b g<=s/\s<=Y1 b g)
def Yv(b:Bk)(s:Int):Nat:=((Zd b).filter λx=>V0 b (Zm b x) s).length
def yE(b:Bk)(m:List (N4×Int))(x:Zs):List (N4×Int):=if YH b x then bV m (Zm b x) (ZH m (Zm b x)+1)else m
def Vs(b:Bk)(L:List Zs):List (N4×Int):=L.foldl (yE b) []
theorem FW(b:Bk)(L:List Zs)(x:Zs):Vs b (L++[x])=yE b (Vs b L) x:=by rw[Vs,qBA];rfl
def VJ(w:N4->Bool):List (N4×Int)->Int
 | []=>0
 | (k,v) :: r=>(if w k then v else 0)+VJ w r
def NG(w:N4->Bool)(a:N4):∀m:List (N4×Int),VJ w (bV m a (ZH m a+1))=VJ w m+if w a then 1 else 0
 | []=>by simp[bV,VJ,ZH]
 | (k,v) :: r=>by
  rw[bV,ZH];by_cases h:a=k
  ·subst h;rw[BY rfl,BY rfl,VJ,VJ];split<;>omega
  rw[bY h,bY h,VJ,VJ,NG w a r];omega
theorem xA{α:Type}{p:List α->Prop}(g:p [])(h:∀l x,p l->p (l++[x])):∀l,p l:=by
 have:∀(n:Nat) (l:List α),l.length=n->p l:=by
  intro n;induction n with
  | zero=>intro l a;rw[qAo a];exact g
  | succ n ih=>
   intro l a;have f:l≠[]:=by rintro rfl;simp at a
   rw[<-qDh f];exact h _ _ (ih _ (by simp;omega))
 exact λl=>this _ l rfl
def Bw(b:Bk)(s:Int):∀L:List Zs,VJ (λg=>V0 b g s) (Vs b L)=((L.filter λx=>V0 b (Zm b x) s).length:Int):=by
 refine xA rfl λL x ih=>?_;rw[FW,yE,qCa,IN];cases hf:YH b x with
 | true=>
  rw[BY rfl,NG,ih];cases a:V0 b (Zm b x) s<;>simp[a]
 | false=>
  have a:V0 b (Zm b x) s=false:=by rw[YH,qBf]at hf;rw[V0,qBf];omega
  simp[a,ih]
def Bo{α:Type}[DecidableEq α]{a:α}{w:Int}{p:α×Int}:∀{m:List (α×Int)},p∈bV m a w->(p.1=a/\p.2=w)\/p∈m\/(p.1=a/\p.2=w)
 | [],h=>by rw[bV]at h;rw[iF.1 h];exact .inl ⟨rfl,rfl⟩
 | (k,v) :: r,h=>by
  rw[bV]at h;split at h
  ·rename_i f;rcases DO.1 h with rfl | h
   ·exact .inl ⟨f.symm,rfl⟩
   exact .inr (.inl (qAc _ h))
  rcases DO.1 h with rfl | h
  ·exact .inr (.inl (qAs ..))
  rcases Bo h with h | h | h
  ·exact .inl h
  ·exact .inr (.inl (qAc _ h))
  exact .inr (.inr h)
def EC{α:Type}[DecidableEq α]{a:α}:∀{m:List (α×Int)},(∀p∈m,0<=p.2)->0<=ZH m a
 | [],_=>qAA _
 | (k,v) :: r,h=>by
  rw[ZH];split
  ·exact h (k,v) (qAs ..)
  exact EC λp f=>h p (qAc _ f)
def Bv(b:Bk):∀L:List Zs,∀p∈Vs b L,(∃x∈L,p.1=Zm b x)/\0<=p.2:=by
 refine xA (λp f=>by simp[Vs]at f) λL x ih=>?_;intro p f;rw[FW,yE]at f;have g:p∈Vs b L->(∃y∈L++[x],p.1=Zm b y)/\0<=p.2:=λf=>by obtain⟨⟨y,j,k⟩,l⟩:=ih p f;exact⟨⟨y,by simp[j],k⟩,l⟩
 split at f
 ·have m:=EC (a:=Zm b x) λp f=>(ih p f).2;rcases Bo f with⟨j,k⟩ | h | ⟨j,k⟩
  ·exact⟨⟨x,by simp,j⟩,O⟩
  ·exact g h
  exact⟨⟨x,by simp,j⟩,O⟩
 exact g f
def YQ(w:N4->Bool)(seen:Array Nat):Nat->List (N4×Int)->Int
 | _,[]=>0
 | i,(k,v) :: r=>(if !seen.contains i && w k then v else 0)+YQ w seen (i+1) r
def Rb(w:N4->Bool):∀(i:Nat) (m:List (N4×Int)),YQ w #[] i m=VJ w m
 | _,[]=>rfl
 | i,(k,v) :: r=>by rw[YQ,VJ,Rb w (i+1) r];simp
def Ra{w:N4->Bool}{seen:Array Nat}:∀{i:Nat} {m:List (N4×Int)},(∀p∈m,0<=p.2)->0<=YQ w seen i m
 | _,[],_=>qAA _
 | i,(k,v) :: r,h=>by have f:=h (k,v) (qAs ..);have g:=Ra (w:=w) (seen:=seen) (i:=i+1) λp a=>h p (qAc _ a);rw[YQ];split<;>omega
def EY(seen:Array Nat)(j i:Nat):(seen.push j).contains i=(seen.contains i || i == j):=by rw[qCb];simp[Array.contains_iff_mem]
def Qz{w:N4->Bool}{seen:Array Nat}{j:Nat}:∀{i:Nat} {m:List (N4×Int)},j<i->YQ w (seen.push j) i m=YQ w seen i m
 | _,[],_=>rfl
 | i,(k,v) :: r,h=>by rw[YQ,YQ,Qz O,EY,show(i == j)=false by simp;omega,Bool.or_false]
def ZuN{m:List (N4×Int)}(h:e∈Y0 (aM ZD i m) seen):∃j k v,(k,v)∈m/\e=⟨ZD k,vi v,j⟩/\seen.contains j=false/\i<=j /\
  ∀w:N4->Bool,YQ w seen i m=(if w k then v else 0)+YQ w (seen.push j) i m:=by
 obtain⟨a,f⟩:=qAq.1 h;have f:seen.contains e.born=false:=by simpa using f
 clear h;induction m generalizing i with
 | nil=>simp[aM]at a
 | cons p r ih=>
  obtain⟨k,v⟩:=p;rw[aM]at a;rcases DO.1 a with rfl | a
  ·refine⟨i,k,v,qAs ..,rfl,f,AT _,λw=>?_⟩;rw[YQ,YQ,Qz (qCC i),EY];simp only at f;rw[f];simp
  obtain⟨j,q,s,g,l,n,t,o⟩:=ih a;refine⟨j,q,s,qAc _ g,l,n,O,λw=>?_⟩;rw[YQ,YQ,o w,EY,show(i == j)=false by simp;omega,Bool.or_false];omega
def Cw{w:N4->Bool}{seen:Array Nat}:∀{i:Nat} {m:List (N4×Int)},Y0 (aM ZD i m) seen=[]->YQ w seen i m=0
 | _,[],_=>rfl
 | i,(k,v) :: r,h=>by
  rw[aM,Y0,qBv]at h;split at h
  ·simp at h
  rename_i a;have a:seen.contains i=true:=by simpa using a
  rw[YQ,Cw (i:=i+1) h,a];simp
def ZuO{es:List MapEntry}(h:e∈Y0 es seen):(Y0 es (seen.push e.born)).length<(Y0 es seen).length:=by
 have a:Y0 es (seen.push e.born)=(Y0 es seen).filter λf=>!(f.born == e.born):=by rw[Y0,Y0,List.filter_filter];congr 1;funext f;rw[EY];cases seen.contains f.born<;>cases (f.born == e.born)<;>rfl
 rw[a];exact List.length_filter_lt_length_iff_exists.2 ⟨e,h,by simp⟩
def F7(f:Nat):∀(N:Nat) (l:List Nat),l.Nodup->(∀j∈l,f<=j/\j<f+N)->l.length<=N
 | 0,l,_,h=>by
  cases l with
  | nil=>simp
  | cons a l=>have:=h a (qAs ..);omega
 | N+1,l,k,h=>by
  by_cases n:f+N∈l
  ·have o:=F7 f N (l.erase (f+N)) (k.erase _) λj g=>by obtain⟨q,m⟩:=(k.mem_erase_iff).1 g;have:=h j m;omega
   rw[List.length_erase_of_mem n]at o;omega
  have:=F7 f N l k λj g=>by
   have m:=h j g;have:j≠f+N:=by rintro rfl;exact n g
   omega
  omega
structure Pl where
 (s k:Int)
instance:Enc Pl:=⟨2,λp=>[vi p.s,vi p.k],λ_=>rfl⟩
def Vy(b:Bk)(a j:Nat):Pl:=⟨((j-a:Nat):Int)-597,Yv b (((j-a:Nat):Int)-597)⟩
def wS(b:Bk)(h a:Nat)(l:List Nat)(f:Hp):Prop:=
 ∃v g,f h=some (.cells #[v] 194 (0,0),true)/\eY f 198 2 v (Zh (l.map (Vy b a))) l.length g/\g≠some h/\(∀x,f x≠none->x=h\/g=some x)/\l.Nodup/\∀j∈l,a<=j/\j<a+1195
def P1:Tryz.prog.underlying 194=some (.slice 198):=U
def Py:ZU Tryz.prog 198=some (2,some (.agg #[vi 0,vi 0]),16):=U
def Pv:ZU Tryz.prog 194=some (1,some (.slice none 0 0),24):=U
def BG:Tryz.prog.underlying 195=some (.map 115 3):=U
instance (c:Cx)(i:Nat):Tz (pw c i):=⟨rfl⟩
section
def Zo3{c:Cx}(ok:c.Ok){n u jI r9 r5 R:Nat}{pv cv w:Value}{pm:Bool}(val:Zw b)(hn:n<1195)(hi:i=c.base+n)(J:c.need i=decide (0<Yv b ((n:Int)-597)))(C9:c.PI=wS b u c.base)
  {H:Hp} (hg:H.gh=[1]) (AM:aC H ⟨jI,0,none⟩ [vi n]) (h9:aC H ⟨r9,0,none⟩ [.map (some R)]) (hm:H R=some (Zu ZD (Vs b (Zd b)),pm)) (h5:aC H ⟨r5,0,none⟩ [vi b.op,vi b.sl,pv,cv,w]) (hb:bK H (.agg #[vi b.op,vi b.sl,pv,cv]) b) :
  Vj (pw c i) .deferred 103 #[ptr c.W,pt jI,pt r9,pt r5,ptr c.M,pt u] H λ_ H'=>H'.gh=lv 0:=by
 have jT:(pw c i).still H.gh=false:=by rw[hg];rfl
 have jO:=V6 val;have iD:Yv b ((n:Int)-597)<=1782:=qAE (qBc _ _) jO;have I:=Bv b (Zd b);have qQ:=Bw b ((n:Int)-597) (Zd b);obtain⟨m,SL⟩:∃m,m=Vs b (Zd b):=⟨_,rfl⟩;rw[<-SL]at hm I qQ;refine aI.mK (P:=pw c i) (.inr rfl) ZyF rfl ?_;unfold Fp;refine Y ?_;refine GC (vs:=[ptr c.W]) rfl (Y ?_);refine Zg jT rfl AM (Y ?_);refine Zg jT rfl h9 (Y ?_);refine Ztz (α:=N4) (kv:=ZD) (bL BG) rfl hm jT λit X=>?_;have aAQ:it≠R:=by rintro rfl;rw[hm]at X;simp at X
 refine Y ?_;refine B7 (ι:=Array Nat×Int) (λs H'=>H'.gh=[1]/\bA H H'/\H' it=some (nD R m.length s.1,true)/\0<=s.2/\s.2+YQ (λg=>V0 b g ((n:Int)-597)) s.1 0 m=Yv b ((n:Int)-597)) (λs=>(Y0 (aM ZD 0 m) s.1).length)
  (λs=>[(0,ptr c.W),(1,pt jI),(2,pt r9),(3,pt r5),(4,ptr c.M),(5,pt u),(6,vi 0),(14,pt it)]) (λs=>[(6,[vi ((n:Int)-597),vi s.2])]) (#[],0) ⟨hg,Zk X,Hp.aD _ _ _,qAA _,by rw[Rb,qQ];simp[Yv]⟩ V V ?_
 rintro⟨seen,E⟩ N ⟨U,nW,AA,Z,IV⟩;simp only at AA Z IV;have zR:(pw c i).still N.gh=false:=by rw[U];rfl
 refine Y ?_;refine ZtA (α:=N4) (kv:=ZD) rfl AA (nW _ _ hm) zR (λhl=>?_) λe he=>?_
 ·
  rw[Cw hl,Int.add_zero]at IV
  subst IV
  refine Y ?_
  refine OI (λh2=>?_) (λh2=>?_)
  ·have hn0:¬ c.need i=true:=by rw[J];simp;omega
   refine Y ?_;refine GP rfl rfl ?_;refine PG (P:=pw c i) Tryz.func104 rfl rfl ?_;have:=XZ ok (kd:=.deferred) (.inr rfl) (H:=N) (.inl ⟨by rw[U];rfl,hn0⟩);exact Vj.mono this λv H' e=>by rw[e];rfl
  ·have hn1:c.need i=true:=by rw[J];simp;omega
   refine Y ?_;refine Zv (vs:=[ptr c.M]) rfl (ZuC ok hn1 U) ?_;rintro v S ⟨l,Hl,zY,hil,_,kO,kH,rfl⟩;rw[C9]at zY;obtain⟨fv,bb,p1,p2,p3,p4,p5,p6⟩:=zY;have hJ:∀x y,Hl x=some y->((N.tagged (12 :: l)).join Hl) x=some y:=λx y h=>Hp.aP kH h;have A:((N.tagged (12 :: l)).join Hl).gh=12 :: l:=by rw[Hp.bI,kO];simp[Hp.tagged]
   generalize(N.tagged (12 :: l)).join Hl=S at *;have f:(pw c i).still S.gh=false:=by rw[A];rfl
   refine Y ?_;refine GC (vs:=[ptr c.M]) rfl (Y ?_);refine Zg f rfl (ZE (hJ _ _ p1)) (Y ?_);refine Z0 (cs:=[vi ((n:Int)-597),vi (Yv b ((n:Int)-597))]) f rfl λr7 SF=>?_;have zQ:(pw c i).still (S.ins r7 (.cells [vi ((n:Int)-597),vi (Yv b ((n:Int)-597))].toArray 198)).gh=false:=f;have o3:eY (S.ins r7 (.cells [vi ((n:Int)-597),vi (Yv b ((n:Int)-597))].toArray 198)) 198 2 fv (Zh (l.map (Vy b c.base))) l.length bb:=
    p2.sub λx y _ h=>(Yd SF).mem x y (hJ _ _ h)
   have f3:(S.ins r7 (.cells [vi ((n:Int)-597),vi (Yv b ((n:Int)-597))].toArray 198)) u=some (.cells #[fv] 194 (0,0),true):=(Yd SF).mem _ _ (hJ _ _ p1);have JI:(S.ins r7 (.cells [vi ((n:Int)-597),vi (Yv b ((n:Int)-597))].toArray 198)).gh=12 :: l:=A;have c7:aC (S.ins r7 (.cells [vi ((n:Int)-597),vi (Yv b ((n:Int)-597))].toArray 198)) ⟨r7,0,none⟩ [vi ((n:Int)-597),vi (Yv b ((n:Int)-597))]:=ZW;generalize S.ins r7 (.cells [vi ((n:Int)-597),vi (Yv b ((n:Int)-597))].toArray 198)=H3 at *;have hll:l.length<=1195:=F7 c.base 1195 l p5 p6;refine Y ?_;refine CA (m:=1) (xs:=[vi ((n:Int)-597),vi (Yv b ((n:Int)-597))]) (bL P1) (bL P1) (bH Py) rfl (by decide) rfl rfl o3 (.inr ⟨_,1,rfl,c7⟩) rfl rfl O (by decide) zQ λv' T Q o4 ch=>?_;have f4:T u=some (.cells #[fv] 194 (0,0),true):=ch.keep _ _ f3 p3;have AE:T.gh=12 :: l:=ch.gh.trans JI;have zP:(pw c i).still T.gh=false:=by rw[AE];rfl
   have zZ:Q≠some u:=by
    rcases ch.new with rfl | ⟨r,rfl,hr⟩
    ·exact p3
    intro e;obtain rfl:=iN e;rw[f3]at hr;simp at hr
   obtain⟨A',c',ev,_⟩:=o4.cells;subst ev;refine Y ?_;refine Yo (bH Pv) rfl rfl f4 rfl rfl zP ?_;have o5:eY (T.ins u (.cells #[.slice A' (l.length+1) c'] 194 (0,0))) 198 2 (.slice A' (l.length+1) c') (Zh ((l++[i]).map (Vy b c.base))) (l++[i]).length Q:=by
    have e1:Zh ((l++[i]).map (Vy b c.base))=Zh (l.map (Vy b c.base))++[vi ((n:Int)-597),vi (Yv b ((n:Int)-597))]:=by rw[qBi,xZ];congr 1;have:i-c.base=n:=O;simp[Zh,Enc.enc,Vy,this]
    rw[e1,IN,qAX];refine o4.sub λx y e h=>?_;rw[Hp.aE _ _ (by rintro rfl;exact zZ e)];exact h
   have f5:(T.ins u (.cells #[.slice A' (l.length+1) c'] 194 (0,0))) u=some (.cells #[.slice A' (l.length+1) c'] 194 (0,0),true):=Hp.aD _ _ _;have JH:(T.ins u (.cells #[.slice A' (l.length+1) c'] 194 (0,0))).gh=12 :: l:=AE;generalize T.ins u (.cells #[.slice A' (l.length+1) c'] 194 (0,0))=H5 at *;refine Y ?_;refine GP rfl rfl ?_;let C:Hp:=⟨λx=>if x=u\/Q=some x then none else H5 x,12 :: l⟩
   let D:Hp:=⟨λx=>if x=u\/Q=some x then H5 x else none,[]⟩
   have h0:∀x,C x=if x=u\/Q=some x then none else H5 x:=λx=>rfl
   have h1:∀x,D x=if x=u\/Q=some x then H5 x else none:=λx=>rfl
   have hj:H5=C.join D:=by
    refine Hp.ext' (λx=>?_) (by rw[JH,Hp.bI];simp[C,D]);rw[Hp.aQ,h0,h1];by_cases e:x=u\/Q=some x
    ·simp[e]
    simp only[e,qAf];cases H5 x<;>rfl
   have JM:C.Comp D:=⟨λx y z hy hz=>by
    rw[h0]at hy;rw[h1]at hz;by_cases e:x=u\/Q=some x
    ·rw[BY e]at hy;simp at hy
    rw[bY e]at hz;simp at hz,.inr rfl⟩
   have I3:c.PI (l++[i]) D:=by
    rw[C9];refine⟨_,Q,by rw[h1,BY (.inl rfl)];exact f5,o5.sub λx y e h=>by rw[h1,BY (.inr e)];exact h,zZ,λx hx=>?_,?_,λj hj=>?_⟩;rotate_left
    ·rw[qCY];exact⟨p5,by simp,λx hx y hy=>by rw[iF.1 hy];rintro rfl;exact hil hx⟩
    ·rcases qAi.1 hj with hj | hj
     ·exact p6 j hj
     rw[iF.1 hj];omega
    rw[h1]at hx;by_cases e:x=u\/Q=some x
    ·exact e
    rw[bY e]at hx;exact absurd rfl hx
   rw[hj];refine PG (P:=pw c i) Tryz.func107 rfl rfl ?_;refine Vj.mono (Zpd ok (kd:=.deferred) (.inr rfl) JM rfl I3) ?_;rintro _ _ rfl;refine PG (P:=pw c i) Tryz.func104 rfl rfl ?_;refine Vj.mono (XZ ok (kd:=.deferred) (.inr rfl) (H:=C.tagged [19]) (.inr rfl)) λv H' e=>by rw[e];rfl
 obtain⟨j,k,v,g1,rfl,g3,g4,g5⟩:=ZuN he;have SO:=ZuO he;obtain⟨⟨x,hx,R7⟩,Xo⟩:=I _ g1;simp only at R7 Xo;subst R7;have J2:=g5 λg=>V0 b g ((n:Int)-597);have kN:=vS val x hx;have hnn:=Ra (w:=λg=>V0 b g ((n:Int)-597)) (seen:=seen.push j) (i:=0) λp hp=>(I p hp).2;have F:bA H (N.ins it (nD R m.length (seen.push j))):=Yr nW X;have f:(pw c i).still (N.ins it (nD R m.length (seen.push j))).gh=false:=zR;have A:(N.ins it (nD R m.length (seen.push j))).gh=[1]:=U;have G:(N.ins it (nD R m.length (seen.push j))) it=some (nD R m.length (seen.push j),true):=Hp.aD _ _ _;generalize N.ins it (nD R m.length (seen.push j))=S at *;have he':=(qAq.1 he).1;refine Y ?_;refine ZtK (α:=N4) (kv:=ZD) rfl G (F _ _ hm) he' f (Y ?_);refine Z5 (cs:=[vi b.op,vi b.sl,pv,cv]) f rfl (by rw[add_zero];exact Z2 (ds:=[w]) (h5.inc F)) rfl (Y ?_);refine Zv (vs:=[.agg #[vi b.op,vi b.sl,pv,cv],ZD (Zm b x)]) rfl (FM (hb.inc F) val.n.2 (by have:=val.n;omega) val.eI.aF (EA val kN) f) ?_;rintro v4 T ⟨B,rfl⟩;have zP:(pw c i).still T.gh=false:=by rw[B.gh];exact f
 refine Y ?_;refine Zv (vs:=[vi ((n:Int)-597),vi (YZ b (Zm b x)),vi (Y1 b (Zm b x))]) rfl (On _ _ _) ?_;rintro v5 _ ⟨rfl,rfl⟩;refine OJ (λh3=>?_) (λh3=>?_)
 ·have zS:V0 b (Zm b x) ((n:Int)-597)=true:=decide_eq_true h3;rw[zS,BY rfl]at J2;refine Y ?_;exact⟨(seen.push j,E+v),SO,⟨B.gh.trans A,F.trans B.inc,B.mem _ _ G,by show 0<=E+v;omega,by show E+v+YQ (λg=>V0 b g ((n:Int)-597)) (seen.push j) 0 m=_;omega⟩,V,V,rfl⟩
 have zS:V0 b (Zm b x) ((n:Int)-597)=false:=qAy h3;rw[zS]at J2;simp only[dO,qAf]at J2;refine Y ?_;exact⟨(seen.push j,E),SO,⟨B.gh.trans A,F.trans B.inc,B.mem _ _ G,Z,by show E+YQ (λg=>V0 b g ((n:Int)-597)) (seen.push j) 0 m=_;omega⟩,V,V,rfl⟩
end
def Yl(a b:Pl):Bool:=decide (b.k<a.k) || (decide (a.k=b.k) && decide (a.s<b.s))
def LK(b:Bk):List Pl:=((List.range 1195).map (Vy b 0)).filter λp=>decide (0<p.k)
def Wd:Pl:=⟨0,0⟩
def VK(L:List Pl):Pl:=ZG Yl (L.getD 0 Wd) (L.drop 1)
def O2(b:Bk):Pl:=VK (LK b)
def EV(a b:Pl):Yl a b=true↔b.k<a.k\/(a.k=b.k/\a.s<b.s):=by simp[Yl]
theorem Zzu:∀(l:List Pl) (f:Pl),(ZG Yl f l=f\/ZG Yl f l∈l)/\(∀q,q=f\/q∈l->¬ Yl q (ZG Yl f l)=true):=by
 refine xA (λf=>⟨.inl rfl,λq a=>?_⟩) λl x ih f=>?_
 ·rcases a with rfl | a
  ·rw[EV,show ZG Yl q []=q from rfl];omega
  simp at a
 obtain⟨k,g⟩:=ih f;have e:ZG Yl f (l++[x])=if Yl x (ZG Yl f l)then x else ZG Yl f l:=by rw[ZG,qBA];rfl
 rw[e];split
 ·rename_i j;refine⟨.inr (by simp),λq a hb=>?_⟩;have:q=x\/(q=f\/q∈l):=by
   rcases a with h | h
   ·exact .inr (.inl h)
   rcases qAi.1 h with h | h
   ·exact .inr (.inr h)
   exact .inl (iF.1 h)
  rcases this with rfl | a
  ·rw[EV]at hb;omega
  refine g q a ?_;rw[EV]at hb j ⊢;omega
 rename_i j;refine⟨k.imp id λh=>by simp[h],λq a=>?_⟩;rcases a with h | h
 ·exact g q (.inl h)
 rcases qAi.1 h with h | h
 ·exact g q (.inr h)
 rw[iF.1 h];exact j
def Ju{L:List Pl}(h:L≠[]):VK L∈L/\∀q∈L,¬ Yl q (VK L)=true:=by
 cases L with
 | nil=>exact absurd rfl h
 | cons f l=>
  obtain⟨a,g⟩:=Zzu l f;show ZG Yl f l∈_/\∀q∈f :: l,¬ Yl q (ZG Yl f l)=true;refine⟨?_,λq j=>g q (DO.1 j)⟩;rcases a with a | a
  ·rw[a];exact qAs ..
  exact qAc _ a
theorem Zta{L a:List Pl}(h:∀q,q∈L↔q∈a):VK L=VK a:=by
 by_cases e:L=[]
 ·subst e;have:a=[]:=qBC.2 λq f=>by have:=(h q).2 f;simp at this
  rw[this]
 have l:a≠[]:=by rintro rfl;exact e (qBC.2 λq f=>by have:=(h q).1 f;simp at this)
 obtain⟨o,r⟩:=Ju e;obtain⟨t,u⟩:=Ju l;have m:=r _ ((h _).2 t);have n:=u _ ((h _).1 o);rw[EV]at m n;have g:(VK L).k=(VK a).k:=O;have j:(VK L).s=(VK a).s:=O;generalize VK L=x at *;generalize VK a=y at *;cases x;cases y
 simp only at g j;subst g j;rfl
def Zud{q:Pl}:q∈LK b↔∃n,n<1195/\q=Vy b 0 n/\0<Yv b ((n:Int)-597):=by
 rw[LK,qAq,qAj];constructor
 ·rintro⟨⟨n,f,rfl⟩,a⟩;have a:(0:Int)<((Yv b ((n:Int)-597):Nat):Int):=of_decide_eq_true a;exact⟨n,by simpa using f,rfl,O⟩
 rintro⟨n,f,rfl,a⟩;refine⟨⟨n,by simpa using f,rfl⟩,?_⟩;have a:(0:Int)<((Yv b ((n:Int)-597):Nat):Int):=O;exact decide_eq_true a
def Zub{a:Nat}{l:List Nat}(g:∀j,a<=j->j<a+1195->0<Yv b (((j-a:Nat):Int)-597)->j∈l)(h:∀j∈l,a<=j/\j<a+1195/\0<Yv b (((j-a:Nat):Int)-597)):VK (l.map (Vy b a))=O2 b:=by
 refine Zta λq=>?_;rw[Zud,qAj];constructor
 ·rintro⟨j,k,rfl⟩;obtain⟨o,r,f⟩:=h j k;exact⟨j-a,O,rfl,f⟩
 rintro⟨n,s,rfl,m⟩;have e:a+n-a=n:=O;exact⟨a+n,g _ O O (by rw[e];exact m),by simp[Vy]⟩
def tQ(p:Pl):Value:=.agg #[vi p.s,vi p.k]
section
variable{P:aY}[Tz P]{H:Hp}
def ZAb(a b:Pl)(j:P.still H.gh=false):LL.Za P 110 #[tQ a,tQ b] H λv h=>H=h/\v=vb (Yl a b):=by
 refine aI.m (bG Zym) rfl ?_;unfold Ec;unfold tQ;refine OJ (λf=>?_) (λf=>?_)
 ·refine Y ?_;exact⟨rfl,by rw[Yl,decide_eq_true f];rfl⟩
 refine OJ (λg=>?_) (λg=>?_)
 ·refine Y ?_;exact⟨rfl,by rw[Yl,qAy f,decide_eq_true g];rfl⟩
 refine Y ?_;exact⟨rfl,by rw[Yl,qAy f,qAy g];rfl⟩
def Zzv(f:Pl){v:Value}{l:List Pl}(q:Zj H v l)(w:l.length<=1000000)(h:P.still H.gh=false):LL.Za P 109 #[vf 110,tQ f,v] H λv n=>H=n/\v=tQ (ZG Yl f l):=by
 refine aI.m (bG Zyn) rfl ?_;unfold Eb;refine Y ?_;refine ZK q rfl (Y ?_);refine ZF l.length (λj n=>H=n) (λj=>[(0,vf 110),(4,vi 0),(6,vi 0),(9,v),(10,vi l.length),(11,vi j)]) (λj=>[(4,[vi (ZG Yl f (l.take j)).s,vi (ZG Yl f (l.take j)).k]),(6,[vi 0,vi 0])]) rfl V V ?_;rintro j _ u rfl;refine OJ (λr=>?_) (λr=>?_)
 ·have g:j<l.length:=O;have hb:=ET Yl f g;refine Y ?_;refine V3 q rfl rfl rfl (i:=j) g λa t=>Y ?_;refine Z5 h rfl t rfl (Y ?_);refine Yp (vs:=[tQ l[j],tQ (ZG Yl f (l.take j))]) rfl rfl (Yg U (ZAb l[j] (ZG Yl f (l.take j)) h)) ?_;rintro v _ ⟨rfl,rfl⟩;refine OJ (λo=>?_) (λo=>?_)
  ·refine Y ?_;rw[BY o]at hb;exact⟨⟨j+1,O⟩,cZ O,rfl,V,⟨by rw[hb];rfl,rfl,trivial⟩,rfl⟩
  refine Y ?_;rw[bY (by simp[o])]at hb;exact⟨⟨j+1,O⟩,cZ O,rfl,V,⟨by rw[hb];rfl,rfl,trivial⟩,rfl⟩
 have:j=l.length:=O;subst this;refine Y ?_;exact⟨rfl,by rw[qAh];rfl⟩
end
