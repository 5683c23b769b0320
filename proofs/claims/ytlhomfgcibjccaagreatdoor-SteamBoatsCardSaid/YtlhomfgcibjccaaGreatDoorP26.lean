import Derived.Test.YtlhomfgcibjccaaGreatDoorP17
import Derived.Test.YtlhomfgcibjccaaGreatDoorP24
import Derived.Test.YtlhomfgcibjccaaGreatDoorP25
import Derived.Conc.HoldsTime
import Derived.Test.YtlhomfgcibjccaaGreatDoorTie
import Derived.Test.YtlhomfgcibjccaaGreatDoorCards
import Derived.ProofKit
import Derived.LaidMore
import Derived.Carry
import Derived.Stop.Joined
import Derived.OpenShut
set_option linter.all false
set_option maxHeartbeats 4000000
set_option maxRecDepth 20000
section
namespace Go.LL
section
variable{N K:Nat}{p:Program}
open Go.Conc
open Go.ConcN (sumTo upd sumTo_upd upd_ne upd_same)
noncomputable def J3(p:Program):aX:={ toProgram:=p,still:=λ_=>false,stillNil:=λ_ _=>rfl,toEnv:=Zu6 p }
def lP(N K a:Nat):Ts:={ tag:=λj=>if j=0 then[30,0]else[0],next:=a,more:=K,mu:=⟨0,0,0,0,0⟩,wg:=⟨0,0,0⟩,kQ:=[],hd:=λj=>if j=0 then N+1 else 0,iU:=N,cls:=false,cn:=0 }
section
variable{c:Cx}
def ZnX{b:Nat}{g:Nat->Nat}(h:g 0=0)(a:g 30=0):Ct g (lP N K b).tag b=0:=by
 refine Q6 λi _=>?_;by_cases e:i=0
 ·subst e;exact a
 simp only[lP,aT e];exact h
def ZnY(hb:1<=c.base):bP c (lP c.N c.K c.base):=by
 have z:∀g:Nat->Nat,g 0=0->g 30=0->Ct g (lP c.N c.K c.base).tag (lP c.N c.K c.base).next=0:=λg=>ZnX;have b:(lP c.N c.K c.base).tag 0=[30,0]:=rfl;have o:∀j,j≠0->(lP c.N c.K c.base).tag j=[0]:=λj m=>by simp[lP,m]
 refine⟨⟨?_,qAI 1,qAI 1,qAI 1,?_,λe=>by simp[lP]at e⟩,⟨?_,?_,?_,?_,?_,?_⟩,λj m=>?_,λv=>?_,λk n u hl=>?_,λj m hc=>?_,rfl,hb,dO _,λj l a=>o j O,λj l a=>?_,List.nodup_nil,λj m=>?_,λj l a=>?_,⟨λe=>by simp[lP]at e,λ_=>rfl⟩,dO _,λj l a=>?_,λj k l a=>?_,λq l a r=>?_,λ_ j l a=>?_,λh=>?_⟩
 ·exact(z Yo rfl rfl).symm
 ·intro _;rw[z cQ rfl rfl,z cR rfl rfl,z cT rfl rfl,z cA rfl rfl];exact⟨rfl,rfl,λ_ h=>by simp[lP]at h⟩
 ·show 0=Ct cW _ _+mP (cd [30,0]);rw[z cW rfl rfl];rfl
 ·show 30<=cd [30,0];simp[cd]
 ·intro h;rw[b]at h;simp[cd]at h
 ·intro h;rw[b]at h;simp[cd]at h
 ·intro _;exact⟨rfl,rfl,z cL rfl rfl,z cE rfl rfl⟩
 ·intro h;rw[b]at h;simp[cd]at h
 ·by_cases e:j=0
  ·subst e;rw[b];exact Mu.kJ (by simp[cd])
  rw[o j e];trivial
 ·rw[b];simp
 ·rw[b]at hl;simp at hl;show c.base=c.base+n;omega
 ·by_cases e:j=0
  ·subst e;rw[b]at hc;simp[cd]at hc
  rw[o j e]at hc;simp[cd]at hc
 ·have:j<c.base:=a;omega
 ·simp[lP]at m
 ·have:j<c.base:=a;omega
 ·have:j<c.base:=a;omega
 ·have:j<c.base:=a;omega
 ·have:q+c.N<=c.N:=a;omega
 ·have:j<c.base:=a;omega
 rw[b]at h;simp[cd]at h
end
structure K5(H:Hp)(M W ch:Nat)(tM tW:TypeId)(Hm Hl:Hp):Prop where
 ne:M≠W
 neM:ch≠M
 neW:ch≠W
 atC:H ch=some (.chan 0 #[] false 0 0 false,true)
 atM:H M=some (.cells #[.int .i32 (0:Nat),.int .u32 (0:Nat)] tM,true)
 atW:H W=some (.cells #[.int .u64 (0:Nat),.int .u32 (0:Nat)] tW,true)
 own:∀b x,Hm b=some x->H b=some x/\b≠M/\b≠W/\b≠ch/\Hl b=none
 lF:∀b x,Hl b=some x->H b=some x/\b≠M/\b≠W/\b≠ch
def Zot{D:Hp}{gs:Array Goroutine}{w:World}{t:Trace}{q:Nat->Nat}(A:jP p D gs w t q){c:Cx}{L z:Hp}(hS:K5 D c.M c.W c.ch c.tM c.tW L z)(Z:0<gs.size)(hb:c.base=gs.size)(hn:c.n0=t.size)(u:∀l,c.old l↔∃b,l.gL=some b/\z8 t b)
  (E:c.PI [] z):ZL c (lP c.N c.K gs.size) ((gZ c (lP c.N c.K gs.size)).join z) t:=by
 have J:(lP c.N c.K gs.size).tag 0=[30,0]:=rfl;have tj:∀j,j≠0->(lP c.N c.K gs.size).tag j=[0]:=λj hj=>by simp[lP,hj]
 have r:∀j,c.live gs.size j->j=0:=λj hj=>by have:=hj.2;have:=hj.1;omega
 have n:∀q x a b y,t[q]? = some x->x.act.touch? = some a->a.loc.gL=some b->D b=some y->Knows t 0 q:=by intro q x a b y m k o hy;refine qAd λhn=>?_;have:=A.unk (b:=b) ⟨q,a,by rw[touchAt_of m];exact k,o,hn⟩;rw[hy]at this;simp at this
 refine⟨by rw[<-hb];exact ZnY O,⟨O,O,?_,?_,?_,?_,?_,?_,?_,?_,?_⟩,λj hj hc=>?_,λh=>?_,.inr ⟨?_,z,rfl,⟨λb x y h1 h2=>?_,.inl rfl⟩,E⟩⟩
 ·intro q x m B;have:=lt_size_of_getElem? m;omega
 ·intro q x a m k hs;refine .inr λj hj=>?_;rw[r j hj];obtain⟨b,o,rfl | rfl⟩:=hs
  ·exact n q x a _ _ m k o hS.atM
  exact n q x a _ _ m k o hS.atW
 ·intro q x a b m k o hp;refine .inl λj hj=>?_;rw[r j hj];obtain⟨⟨y,hy⟩,Q,R,S⟩:=hp;simp only[Hp.bH,WM Q R S]at hy;exact n q x a b y m k o (hS.lF b y hy).1
 ·intro q x a m k G h1 h2;have h2:x.g<gs.size:=h2;omega
 ·intro q x a m B k G;rcases A.past.known q a (by rw[touchAt_of m];exact k) G with h1 | ⟨⟨b,h1,_⟩,h2⟩
  ·exact .inl h1
  by_cases hk:Knows t 0 q
  ·exact .inl hk
  exact .inr ⟨h2,(u _).2 ⟨b,h1,q,a,by rw[touchAt_of m];exact k,h1,hk⟩⟩
 ·intro q x m B Y hc;obtain⟨j,h1,h2⟩:=A.past.over q x.g (by unfold Trace.g?;rw[m];rfl) Y hc;obtain⟨y,hy,F⟩:=qAL.1 h1;exact⟨j,y,hy,F,h2⟩
 ·intro q x a m B;have:=lt_size_of_getElem? m;omega
 ·intro q x m B;have:=lt_size_of_getElem? m;omega
 ·intro q x a m k o;exact n q x a _ _ m k o hS.atC
 ·obtain rfl:=r j hj;rw[A.past.hears];rfl
 ·rw[J]at h;simp[cd]at h
 ·rintro⟨j,hj,e⟩;by_cases e0:j=0
  ·subst e0;rw[J]at e;simp[cd]at e
  rw[tj j e0]at e;simp[cd]at e
 obtain⟨h3,T,U,V⟩:=hS.lF b y h2;rcases(Ur h1).1 with rfl | rfl | rfl
 ·exact absurd rfl T
 ·exact absurd rfl U
 exact absurd rfl V
def Zst{R:Frame->List Frame->Hp->Prop}{fr:Frame}{cs:List Frame}{r:Hp}{M W ch:Nat}{tM tW:TypeId}{need:Nat->Bool}{PI:List Nat->Hp->Prop}{msg:Nat->Value->Hp->Prop}{T S:Hp}(hS:K5 r M W ch tM tW T S)(hPI:PI [] S)
  (ok:∀base n0 old,Cx.Ok { M,W,ch,base,n0,old,tM,tW,K,need,PI,N,msg }) (hg:T.gh=[N+2,30,0])
  (J:∀base n0 old,1<=base->Reach (bO p { M,W,ch,base,n0,old,tM,tW,K,need,PI,N,msg }).prgM
   (λG F m=>m.gh=[1,40]/\∀B:Hp,B.gh=r.gh->(∀b,B b=none↔m b=none)->(∀b x y,B b=some x->m b=some y->x.1=y.1/\(y.2=true->x.2=true)/\((∃o,r b=some (o,true))->x.2=true)/\∀o,r b=some (o,false)->x.2=true->y.2=true)->R G F B) fr cs T):UY p R fr cs r:=by
 refine Zsu λgs w t q U h0=>?_
 have E:0<gs.size:=(qAK.1 h0).1
 let c:Cx:={ M,W,ch,base:=gs.size,n0:=t.size,old:=λl=>∃b,l.gL=some b/\z8 t b,tM,tW,K,need,PI,N,msg }
 have A:c.Ok:=ok _ _ _
 have hS':K5 r c.M c.W c.ch c.tM c.tW T S:=hS
 have hI:=Zot (c:=c) U hS' E rfl rfl (λl=>qCH) hPI
 have mwx:∀b x,gZ c (lP c.N c.K gs.size) b=some x->r b=some x:=by
  intro b x h;rcases(Ur h).1 with rfl | rfl | rfl
  ·rw[I1 A.ne]at h;obtain rfl:=iO h;exact hS.atM
  ·rw[I2]at h;have e:U0 c (lP c.N c.K gs.size).wg=.cells #[.int .u64 (0:Nat),.int .u32 (0:Nat)] tW:=by simp[U0,lP,c]
   rw[e]at h;obtain rfl:=iO h;exact hS.atW
  rw[I0 A.neM A.neW]at h;have e:Uw (lP c.N c.K gs.size)=.chan 0 #[] false 0 0 false:=rfl;rw[e]at h;obtain rfl:=iO h;exact hS.atC
 have Y:∀b x,((gZ c (lP c.N c.K gs.size)).join S) b=some x->r b=some x:=by
  intro b x h;simp only[Hp.bH]at h;cases n:gZ c (lP c.N c.K gs.size) b with
  | some z=>rw[n]at h;exact mwx b x (n.trans h)
  | none=>rw[n]at h;exact(hS.lF b x h).1
 refine⟨bO p c,lP c.N c.K gs.size,(gZ c (lP c.N c.K gs.size)).join S,T,_,⟨Zn4 A,hI,rfl,?_,λj h1 h2=>?_,λb o pm h=>U.le b o pm (hS.own b _ h).1,λb o pm h=>U.le b o pm (Y b _ h),λb x y h1 h2=>?_,λb x h=>.inr ⟨x,.inl (hS.own b x h).1,λ_=>rfl⟩,λb x h=>.inr ⟨x,.inl (Y b x h),λ_=>rfl⟩,?_,J gs.size t.size _ E,?_,?_⟩⟩
 ·show ZE (lP c.N c.K gs.size) 0=_;rw[hg];simp[ZE,pL,lP,cd,c]
 ·show ZE (lP c.N c.K gs.size) j=[0,0];simp[ZE,pL,lP,h1,cd]
 ·exfalso;obtain⟨h3,h4,h5,Sp,h6⟩:=hS.own b x h1;simp only[Hp.bH]at h2;cases n:gZ c (lP c.N c.K gs.size) b with
  | some z=>
   rcases(Ur n).1 with rfl | rfl | rfl
   ·exact h4 rfl
   ·exact h5 rfl
   exact Sp rfl
  | none=>rw[n,h6]at h2;simp at h2
 ·show UW _;rw[hg];exact .inr (by simp[cd,ZN])
 ·rintro G F m ⟨I,_⟩ hc;have hc:3<=m.gh.headD 0/\_:=hc;rw[I]at hc;simp at hc
 ·rintro G F m s' kG t' w' ⟨I,hR⟩ V Z D tD NG Rh D6 zV aHO
  have k:ZL c s' kG t':=V
  have g:s'.tag 0=[40]:=(XJ (i:=0) ((show ZE s' 0=m.gh from Z).trans I) (by simp[cd,ZN])).1
  obtain⟨f1,f2⟩:=k.fin (by rw[g];rfl)
  have hMn:m M=none:=by
   cases n:m M with
   | none=>rfl
   | some y=>have:=D M _ _ n (k.atM A);rw[this.1]at this;simp at this
  have hWn:m W=none:=by
   cases n:m W with
   | none=>rfl
   | some y=>have:=D W _ _ n k.atW;rw[this.1]at this;simp at this
  refine⟨λj h1 h2=>?_,λi a h1 h2=>?_,f2,?_,?_⟩
  ·have e:s'.tag j=[0]:=by
    by_cases hb:c.base<=j
    ·exact k.cnt.over (by rw[g];simp[cd]) hb h2
    exact k.cnt.olds j O O
   show ZE s' j=[0,0];unfold ZE;rw[e];rfl
  ·obtain⟨x,L,qV⟩:=touch_of h1;rcases f1 i x a L qV h2 with h3 | ⟨h3,h4⟩
   ·exact .inl h3
   refine .inr ⟨h3,λb hb=>?_⟩;rcases h4 with⟨b',u,hu⟩ | ⟨b',u,h5⟩
   ·rw[hb]at u;obtain rfl:=iO u;refine⟨?_,.inl hu⟩;cases n:m b with
    | none=>rfl
    | some y=>
     exfalso;rcases zV.nil n with h6 | ⟨z,hz,_⟩
     ·obtain⟨i2,a2,g1,g2,_⟩:=hu;obtain⟨x2,G0,Dv⟩:=touch_of g1;exact absurd (LZ Dv g2 (U.past.seen x2 (mem_of_getElem? G0))) O
     rw[U.unk hu]at hz;simp at hz
   rw[hb]at u;obtain rfl:=iO u;rcases h5 with rfl | rfl
   ·exact⟨hMn,.inr (.inr ⟨_,hS.atM⟩)⟩
   exact⟨hWn,.inr (.inr ⟨_,hS.atW⟩)⟩
  ·rw[k.deaf 0 ⟨k.cnt.next0,.inl rfl⟩ (by rw[g];simp[cd]),g];rfl
  classical
  let B:Hp:=⟨λb=>(m b).map λy=>(y.1,if(∃o,r b=some (o,true))then true else y.2),r.gh⟩
  have h2:∀b,B b=(m b).map λy=>(y.1,if(∃o,r b=some (o,true))then true else y.2):=λb=>rfl
  refine⟨B,rfl,λb x L=>?_,hR B rfl (λb=>?_) λb x y L hy=>?_⟩
  ·rw[h2]at L;obtain⟨y,hy,rfl⟩:=qAL.1 L;refine⟨y,hy,rfl,λe=>?_⟩;simp only at e;split at e
   ·rename_i h;exact .inr h
   exact .inl e
  ·rw[h2];simp
  rw[h2,hy]at L
  obtain rfl:=iO L
  refine⟨rfl,λe=>?_,λe=>?_,λo ho e=>?_⟩
  ·simp only;split
   ·rfl
   exact e
  ·simp only;rw[iF e]
  simp only at e
  rwa [aT (by rintro⟨o',h⟩;rw[ho]at h;simp at h)]at e
end
section
open Go.Conc
structure Nj(H H' H2:Hp):Prop where
 gh:H2.gh=H.gh
 Sx:∀b,H2 b=none↔H' b=none
 val:∀b x y,H2 b=some x->H' b=some y->x.1=y.1/\(y.2=true->x.2=true)/\((∃o,H b=some (o,true))->x.2=true)/\∀o,H b=some (o,false)->x.2=true->y.2=true
def Nk(b:Frame)(k:List Item)(a:Act)(g:Frame):Ex->Prop
 | .normal=>g=on b a k
 | .ret=>∃e,g=on b a (.code .ret :: e)
 | .exit id=>(∃e,exitTo id k=some e/\g=on b a e)\/(exitTo id k=none/\∃e,exitTo id e=none/\g=on b a (.code (.exit id) :: e))
theorem C0.spot{P:aX}{G:Frame->List Frame->Hp->Prop}{b:Frame}{k:List Item}{cs:List Frame}{e:Ex}{a:Act}{H:Hp}:C0 P G b k cs e a H↔∀m,Nk b k a m e->Reach P G m cs H:=by
 cases e with
 | normal=>exact⟨λh m e=>by rw[show m=_ from e];exact h,λh=>h _ rfl⟩
 | ret=>exact⟨λh m ⟨g,e⟩=>by rw[e];exact h g,λh g=>h _ ⟨g,rfl⟩⟩
 | exit id=>
  refine⟨λh m e=>?_,λh=>⟨λg j=>h _ (.inl ⟨g,j,rfl⟩),λj g l=>h _ (.inr ⟨j,g,l,rfl⟩)⟩⟩;rcases e with⟨g,j,rfl⟩ | ⟨j,g,l,rfl⟩
  ·exact h.1 g j
  exact h.2 j g l
section
open Classical
noncomputable def Hp.MY(a H:Hp)(g:List Nat):Hp:=⟨λb=>if H b=none then none else a b,g⟩
noncomputable def Hp.AS(a H:Hp)(g:List Nat):Hp:=⟨λb=>if H b=none then a b else none,g⟩
theorem Hp.nE(a H:Hp)(g:List Nat)(b:Nat):a.MY H g b=if H b=none then none else a b:=rfl
theorem Hp.sA(a H:Hp)(g:List Nat)(b:Nat):a.AS H g b=if H b=none then a b else none:=rfl
def Hp.tX(a H:Hp){g g':List Nat}(k:a.gh=g++g')(l:g=[]\/g'=[]):a=(a.MY H g).join (a.AS H g')/\(a.MY H g).Comp (a.AS H g'):=by
 refine⟨Hp.ext' (λb=>?_) (by rw[Hp.bZ];exact k),⟨λb x y h j=>?_,l⟩⟩
 ·simp only[Hp.bH,Hp.nE,Hp.sA];by_cases e:H b=none
  ·simp[e]
  simp only[e,qAw];cases a b<;>rfl
 rw[Hp.nE]at h;rw[Hp.sA]at j;by_cases e:H b=none
 ·simp[e]at h
 simp[e]at j
end
def Zu0{p:Program}{n1 n2:Ze}{Q:Ex->aM->Hp->Prop}{σ:aM}{H:Hp}{M W ch K N:Nat}{tM tW:TypeId}{need:Nat->Bool}{PI:List Nat->Hp->Prop}{msg:Nat->Value->Hp->Prop}{E S:Hp}(hS:K5 H M W ch tM tW E S)(U:PI [] S)
  (ok:∀base n0 old,Cx.Ok { M,W,ch,base,n0,old,tM,tW,K,need,PI,N,msg })
  (I:∀base n0 old,1<=base->(Ze.seq n1 n2).m (bO p { M,W,ch,base,n0,old,tM,tW,K,need,PI,N,msg }).prgM (λe σ' H'=>H'.gh=[1,40]/\∀l:Hp,Nj H H' l->Q e σ' l) σ (E.tagged [N+2,30,0])):F1 (J3 p) n1 n2 Q σ H:=by
 intro L m rd code act Ha hL tr r G b k cs jQ q hG;obtain⟨ρ,A,e1,e2,e3,e4,e5,e6⟩:=r.mem;have B:∀b x,H b=some x->x.2=true->A b=none:=by
  intro b x h1 h2;cases u:A b with
  | none=>rfl
  | some y=>have:=(e2 b x y h1 u).2;rw[h2]at this;simp at this
 have j:∀b x,H b=some x->Ha b=some x:=λb x h=>by rw[e1];exact Hp.aW h
 have Fb:∀b x,S b=some x->x.2=true:=(ok 1 0 λ_=>False).own [] S U;have hSA:K5 Ha M W ch tM tW ((E.tagged [N+2,30,0]).join (A.tagged [])) S:=by
  refine⟨hS.ne,hS.neM,hS.neW,j _ _ hS.atC,j _ _ hS.atM,j _ _ hS.atW,λb x h=>?_,λb x h=>⟨j _ _ (hS.lF b x h).1,(hS.lF b x h).2⟩⟩;simp only[Hp.bH,Hp.kI]at h;cases u:E b with
  | some z=>
   rw[u]at h;obtain rfl:=iO h;obtain⟨h1,h2⟩:=hS.own b z u;exact⟨j _ _ h1,h2⟩
  | none=>
   rw[u]at h;have h:A b=some x:=h;refine⟨by rw[e1];exact Hp.bC e2 h,?_,?_,?_,?_⟩
   ·rintro rfl;rw[B _ _ hS.atM rfl]at h;simp at h
   ·rintro rfl;rw[B _ _ hS.atW rfl]at h;simp at h
   ·rintro rfl;rw[B _ _ hS.atC rfl]at h;simp at h
   cases hl:S b with
   | none=>rfl
   | some y=>rw[B _ _ (hS.lF b y hl).1 (Fb b y hl)]at h;simp at h
 refine .eZ (Zst (R:=Reach (J3 p) G) hSA U ok (by simp[Hp.bZ,Hp.tagged]) λbase n0 old hb=>?_);have F:(E.tagged [N+2,30,0]).Comp (A.tagged []):=⟨λb x y h1 h2=>e2 b x y (hS.own b x h1).1 h2,.inr rfl⟩;have rM:eN (bO p { M,W,ch,base,n0,old,tM,tW,K,need,PI,N,msg }).prgM.toPQ L m σ (E.tagged [N+2,30,0]) act ((E.tagged [N+2,30,0]).join (A.tagged [])):=
  ⟨r.size,r.defers,ρ,A.tagged [],rfl,F,e3,e4,e5,⟨e6.1,e6.2.1,.inr λ_=>rfl⟩⟩
 refine VI (P:=(bO p { M,W,ch,base,n0,old,tM,tW,K,need,PI,N,msg }).prgM) hL tr (Ze.tB (λ_ _ _ h=>h) (I base n0 old hb)) rM _ b k cs ?_ ⟨q.kind,q.xG,q.nr⟩ ?_
 ·
  rintro eC jX T J hc ⟨V,hR⟩
  have hJ:J.gh=[]:=hc.gh.resolve_left (by rw[V];simp)
  refine⟨by rw[Hp.bZ,V,hJ];rfl,λl g1 g2 g3=>?_⟩
  obtain⟨i1,i2⟩:=Hp.tX l T (g:=l.gh) (g':=[]) (by simp) (.inr rfl)
  rw[i1]
  refine Reach.up jQ (hR _ (by exact g1) (λb=>?_) λb x y O hy=>?_) i2
  ·rw[Hp.nE];by_cases e:T b=none
   ·simp[e]
   simp only[e,qAw];rw[g2];simp only[Hp.bH];cases u:T b with
   | none=>exact absurd u e
   | some z=>simp
  ·rw[Hp.nE,aT (by rw[hy];simp)]at O;exact g3 b x y O (Hp.aW hy)
 rintro e a' T ⟨σ',w,r',V,hq⟩;rw[C0.spot];intro fr zV;obtain⟨ρ',K1,f1,f2,f3,f4,f5,f6⟩:=r'.mem;have hK1:K1.gh=[]:=f2.gh.resolve_left (by rw[V];simp);refine .stop ⟨by rw[f1,Hp.bZ,V,hK1];rfl,λl g1 g2 g3=>?_⟩;obtain⟨i1,i2⟩:=Hp.tX l w (g:=H.gh) (g':=A.gh) (by rw[g1,e1,Hp.bZ]) e2.gh;have hk:∀b o,K1 b=some (o,true)->l.AS w A.gh b=some (o,true):=by
  intro b o h;have h0:w b=none:=by
   cases u:w b with
   | none=>rfl
   | some z=>have:=f2 b z _ u h;rw[this.1]at this;simp at this
  rw[Hp.sA,iF h0];have h1:T b=some (o,true):=by rw[f1];exact Hp.bC f2 h
  cases h2:l b with
  | none=>rw[g2,h1]at h2;simp at h2
  | some x=>
   obtain⟨j1,j2,_⟩:=g3 b x _ h2 h1;rw[<-iO (show some (x.1,x.2)=some (o,true)by rw[j1,j2 rfl])]
 have Y:eN (J3 p).toPQ L m σ' (l.MY w H.gh) a' l:=by refine⟨r'.size,r'.defers,ρ',l.AS w A.gh,i1,i2,λd cs hd=>?_,f4,f5,⟨f6.1,λx O=>hk _ _ (f6.2.1 x O),.inr λ_=>rfl⟩⟩;obtain⟨t,ht⟩:=f3 d cs hd;exact⟨t,hk _ _ ht⟩
 have J7:Nj H w (l.MY w H.gh):=by
  refine⟨rfl,λb=>?_,λb x y O hy=>?_⟩
  ·rw[Hp.nE];by_cases e:w b=none
   ·simp[e]
   simp only[e,qAw];rw[g2,f1];simp only[Hp.bH];cases u:w b with
   | none=>exact absurd u e
   | some z=>simp
  rw[Hp.nE,aT (by rw[hy];simp)]at O;obtain⟨j1,j2,j3,j4⟩:=g3 b x y O (by rw[f1];exact Hp.aW hy);exact⟨j1,j2,λ⟨o,ho⟩=>j3 ⟨o,j _ _ ho⟩,λo ho=>j4 o (j _ _ ho)⟩
 have:=hG e a' l ⟨σ',_,Y,hq _ J7⟩;exact C0.spot.1 this fr zV
end
section
variable{p:Program}
open Go.Conc
def Zvu:VY Vg:=λ_ _ _ _ _ h=>h
def ZvK{a:Frame}(h:p.funcs[a.fn]? = none)(b:a.todo=[]):a.catches p=false:=by unfold Frame.catches;rw[h,b]
theorem ZpQ{c:Cx}{i:Nat}{f:FuncId}{fn:Func}{cap args:Array Value}{H:Hp}(z:p.funcs[f]? = some fn)(hb:fn.body.isSome=true)(A:(fn.name == "runtime.NumGoroutine")=false)
  (h:Y2 ((bO p c).prgW i) .deferred f (args++cap) H λ_ b=>b.gh=lv 0):Reach ((bO p c).prgW i) Vg (YJ p { target:=.fn (.func f) cap,args:=args }) [] H:=by
 have k:fn.body.isNone=false:=by simpa using hb
 have l:((bO p c).prgW i).funcs[f]? = some fn:=z;have j:∀b:Hp,b.gh=lv 0->Reach ((bO p c).prgW i) Vg { YJ p { target:=.fn (.func f) cap,args:=args }with defers:=[] } [] b:=by intro b m;refine .eZ ⟨by rw[m];simp[lv],.inl ⟨0,m,.inr ⟨rfl,{ frame:={ YJ p { target:=.fn (.func f) cap,args:=args }with defers:=[] },callers:=[],status:=.finished,dying:=none },rfl,λw=>?_⟩⟩⟩;have u:Frame.catches p { YJ p { target:=.fn (.func f) cap,args:=args }with defers:=[] }=false:=ZvK (by simp) rfl;have e:stepG p false (cV { YJ p { target:=.fn (.func f) cap,args:=args }with defers:=[] } []) w=unwind p false { YJ p { target:=.fn (.func f) cap,args:=args }with defers:=[] } [] none w:=rfl;rw[e];unfold unwind;simp only[u,DO,qAw];rfl
 refine .AO (s:=invoke (.fn (.func f) cap) args) (Q:=λn _ b=>n=.enter f (args++cap)/\b=H) ?_ ?_
 ·simp only[invoke,callFunc,Zg,V0,l,A,k,DO,qAw];exact⟨rfl,rfl⟩
 rintro n E ⟨rfl,rfl⟩;refine⟨Frame.enter p f (args++cap) .deferred,[{ YJ p { target:=.fn (.func f) cap,args:=args }with defers:=[] }],λmain w F es o=>⟨seen p p.funcs.size es,?_,.inr rfl⟩,λb q=>?_⟩;rotate_left
 ·obtain⟨_,rfl⟩:=q;exact h Vg { YJ p { target:=.fn (.func f) cap,args:=args }with defers:=[] } [] Zvu (by unfold QP GO;trivial) λv g D=>j g D
 have B:stepG p main (cV (YJ p { target:=.fn (.func f) cap,args:=args }) []) w=callDeferred p { YJ p { target:=.fn (.func f) cap,args:=args }with defers:=[] } [] none { target:=.fn (.func f) cap,args:=args } w:=by have:stepG p main (cV (YJ p { target:=.fn (.func f) cap,args:=args }) []) w=unwind p main (YJ p { target:=.fn (.func f) cap,args:=args }) [] none w:=rfl;rw[this];exact Bc rfl rfl
 refine B.trans ?_;exact(Oi rfl o).1 f _ rfl
end
section
open Go.Conc
section
variable{P:aX}{d:Option Nat}{next:aM->Hp->Prop}{σ:aM}{H:Hp}{x:Operand}
def ZsZ{f:FuncId}{first cap:Array Value}{b:Array Operand}{n:Array TypeId}{q:TypeId}{vs:List Value}(e:σ.get x=some (.func (.func f) first cap))(u:σ.gets b.toList=some vs){a:Value->Hp->Prop}
  (h:Zk P (pure (.spawn { target:=.fn (.func f) cap,args:=first++vs.toArray })) false false H a) (w:∀v o,a v o->next (σ.set d v) o) :
  (bE.raw (.go { callee:=.value x,args:=b,argTypes:=n }) q).m P d next σ H:=by
 obtain⟨r,k⟩:=Od u;have l:((Op.go { callee:=.value x,args:=b,argTypes:=n }).operands.all λx=>(σ.get x).isSome)=true:=by
  rw[qAm];intro y g;simp only[Op.operands,Call.operands]at g;simp only[IN]at k;simp only[qBG,qBt,qBx,qAv,oR,qBh]at g k;rcases g with rfl | g
  ·rw[e];rfl
  exact k y g
 refine⟨l,.inr ?_⟩;have:execOp (λx=>(σ.get x).getD undef) (aR (.go { callee:=.value x,args:=b,argTypes:=n }) q)=pure (.spawn { target:=.fn (.func f) cap,args:=first++vs.toArray }):=by obtain⟨b⟩:=b;have j:List.map (λx=>(σ.get x).getD undef) b=vs:=r;simp[execOp,aR,resolve,Deferred.ofValue,e,qCo,j]
 rw[this];exact h.mono w
end
end
end Go.LL
end
section
open Go Go.LL
namespace Go.Proofs
def V3(w:N4->Bool):List (N4×Int)->Int
 | []=>0
 | (k,v) :: r=>(if w k then v else 0)+V3 w r
def ZgZ(w:N4->Bool)(a:N4):∀m:List (N4×Int),V3 w (Zx m a (ZC m a+1))=V3 w m+if w a then 1 else 0
 | []=>by simp[Zx,V3,ZC]
 | (k,v) :: r=>by
  rw[Zx,ZC];by_cases h:a=k
  ·subst h;rw[iF rfl,iF rfl,V3,V3];split<;>omega
  rw[aT h,aT h,V3,V3,ZgZ w a r];omega
def Zlt{α:Type}[DecidableEq α]{a:α}{w:Int}{p:α×Int}:∀{m:List (α×Int)},p∈Zx m a w->(p.1=a/\p.2=w)\/p∈m\/(p.1=a/\p.2=w)
 | [],h=>by rw[Zx]at h;rw[oR.1 h];exact .inl ⟨rfl,rfl⟩
 | (k,v) :: r,h=>by
  rw[Zx]at h;split at h
  ·rename_i b;rcases qAq.1 h with rfl | h
   ·exact .inl ⟨b.symm,rfl⟩
   exact .inr (.inl (qAP _ h))
  rcases qAq.1 h with rfl | h
  ·exact .inr (.inl (qBv ..))
  rcases Zlt h with h | h | h
  ·exact .inl h
  ·exact .inr (.inl (qAP _ h))
  exact .inr (.inr h)
def XK{α:Type}[DecidableEq α]{a:α}:∀{m:List (α×Int)},(∀p∈m,0<=p.2)->0<=ZC m a
 | [],_=>qAx _
 | (k,v) :: r,h=>by
  rw[ZC];split
  ·exact h (k,v) (qBv ..)
  exact XK λp b=>h p (qAP _ b)
instance (c:Cx)(i:Nat):Tz (pw c i):=⟨rfl⟩
def Zn8:Yl Tryz.prog 186=some (2,some (.agg #[.int .i32 0,.int .u32 0]),8):=U
def Zn7:Yl Tryz.prog 193=some (2,some (.agg #[.int .u64 0,.int .u32 0]),16):=U
noncomputable abbrev PP:aX:=J3 Tryz.prog
noncomputable instance:Tz PP:=⟨rfl⟩
noncomputable instance:Loud PP:=⟨λ_=>rfl⟩
instance (c:Cx):Tz (pm c):=⟨rfl⟩
instance (c:Cx):Loud (pm c):=⟨λ_=>rfl⟩
def Zl4{a:N4}:∀{m:List (N4×Int)},(∀p∈m,0<=p.2)->ZC m a<=V3 (λ_=>true) m
 | [],_=>qAx _
 | (k,v) :: r,h=>by have e:=h (k,v) (qBv ..);have g:=Zl4 (a:=a) λp b=>h p (qAP _ b);have j:=XK (a:=a) λp b=>h p (qAP (k,v) b);rw[ZC,V3,iF rfl];simp only at e;split<;>omega
def Y0(H e:Hp):Prop:=∀b o p,H b=some (o,p)->∃a,e b=some (o,a)/\(a=true->p=true)
def Y0.trans{H g a:Hp}(h:Y0 H g)(j:Y0 g a):Y0 H a:=λb o p hb=>by obtain⟨q,k,l⟩:=h b o p hb;obtain⟨r,m,n⟩:=j b o q k;exact⟨r,m,λe=>l (n e)⟩
theorem aL.jK{H a:Hp}(h:aL H a):Y0 H a:=λb o p hb=>⟨p,h _ _ hb,id⟩
def Y0.refl(H:Hp):Y0 H H:=(aL.refl H).jK
def _root_.Go.LL.aC.jK{H b:Hp}{a:Addr}{cs:List Value}(h:aC H a cs)(l:Y0 H b):aC b a cs:=by obtain⟨e,o,p,g,j⟩:=h;obtain⟨m,k,_⟩:=l _ _ _ g;exact⟨e,o,m,k,j⟩
def aF.jK{α:Type}[Enc α]{H b:Hp}{v:Value}{l:List α}(h:aF H v l)(n:Y0 H b):aF b v l:=by obtain⟨A,c,e,g⟩:=h;refine⟨A,c,e,λm=>?_⟩;obtain⟨a,j,k⟩:=g m;exact⟨a,j,k.jK n⟩
def DS(H:Hp)(g:List Nat):Hp:=⟨λb=>(H b).map λx=>(x.1,false),g⟩
theorem Ly(H:Hp)(g:List Nat)(b:Nat):DS H g b=(H b).map λx=>(x.1,false):=rfl
def ZhF(H:Hp)(g:List Nat):Y0 H (DS H g):=λb o p hb=>⟨false,by rw[Ly,hb];rfl,by simp⟩
def ZhE(H:Hp)(g:List Nat):(DS H g).Less H:=λb o pm hb=>by rw[Ly]at hb;obtain⟨x,e,a⟩:=qAL.1 hb;obtain⟨j,h⟩:=x;simp only[qBD]at a;obtain⟨rfl,rfl⟩:=a;exact⟨h,e,by simp⟩
def Zpz(H:Hp)(g h:List Nat):(DS H g).Dis (DS H h):=λb x y a e=>by rw[Ly]at a e;rw[a]at e;obtain rfl:=iO e;obtain⟨z,j,rfl⟩:=qAL.1 a;exact⟨rfl,rfl⟩
def Q9(H:Hp)(g:List Nat):Y0 H (H.tagged g):=Y0.refl H
section
variable{P:aX}[Tz P][Loud P]{H:Hp}
def Ig(a b h g:Int):LL.Zc P 125 #[.agg #[vi a,vi b],vi h,vi g] H λv k=>H=k/\v=vb (decide (h<=a/\a<=b/\b<=g)):=by refine aJ.m (bG Zwi) (args:=[.agg #[vi a,vi b],vi h,vi g]) rfl ?_;unfold ZjF;refine OJ (λe=>?_) (λe=>?_)<;>refine Y ?_;refine OI (λj=>?_) (λj=>?_)<;>refine Y ?_<;>exact⟨rfl,by simp[Y5,e,j]⟩;exact⟨rfl,by simp[Y5,e]⟩
def EI{u w:Value}{a b:List Int}(l:aF H u a)(hb:aF H w b)(E:a.length<=1000000)(z:b.length<=1000000):LL.Zc P 23 #[u,w] H λv h=>H=h/\v=vb (decide (a=b)):=by
 refine aJ.m (bG c25) (args:=[u,w]) rfl ?_;unfold Pn;refine Y ?_;refine YE l rfl (Y ?_);refine YE hb rfl ?_;refine OJ (λn=>?_) (λn=>?_)
 ·refine Y ?_;exact⟨rfl,by rw[qAo (show ¬ a=b by rintro rfl;exact n rfl)];rfl⟩
 have o:a.length=b.length:=O;refine Y ?_;refine Zv a.length (λj h=>H=h/\a.take j=b.take j) (λj=>[(0,u),(1,w),(5,vi j)]) (λ_=>[]) ⟨rfl,rfl⟩ V trivial ?_;rintro j _ D ⟨rfl,e⟩;refine Y ?_;refine YE l rfl ?_;refine OJ (λr=>?_) (λr=>?_)
 ·have g:j<a.length:=O;refine Y ?_;refine Zz j l g λp A=>Y ?_;refine Ya A (Y ?_);refine Zz j hb O λq B=>Y ?_;refine Ya B ?_;refine OJ (λk=>?_) (λk=>?_)
  ·refine Y ?_;exact⟨rfl,by rw[qAo (show ¬ a=b by rintro rfl;exact k rfl)];rfl⟩
  refine Y ?_;exact⟨⟨j+1,O⟩,bN O,⟨rfl,by rw[iN g,iN (show j<b.length by omega),e,k]⟩,V,trivial,rfl⟩
 have:j=a.length:=O;subst this;rw[IF,qCt O]at e;refine Y ?_;exact⟨rfl,by rw[decide_eq_true e];rfl⟩
end
def eY{H:Hp}{a:Addr}{cs b:List Value}{n:Nat}(h:aC H a cs)(e:cs.drop n=b):aC H (a.add n) b:=by subst e;obtain⟨g,o,p,k,l⟩:=h;refine⟨P4 g _,o,p,by rw[II];exact k,λj m=>?_⟩;rw[qDM]at m;rw[IJ,qDw,l _ O,qCJ]
end Go.Proofs
end
section
open Go Go.LL
namespace Go.LL
section
variable{P:aX}{fn:Func}{t:Nat}{f:FuncId}{v0:Value}
def ZhJ{M:FuncId}{G:Frame->List Frame->Hp->Prop}{cs:List Frame}{e:Value->Hp->Prop}(z:VY G)
  (V:∀(a:Frame) (H:Hp),a.mode=.returning->a.defers=[]->a.fn=M/\a.kind=.normal->P.funcs[a.fn]? = some fn->bL P (results fn a.tmps) (λv _ b=>e v b) false H->Reach P G a cs H) :
  ∀(j:List Deferred) (a:Frame) (H:Hp),a.mode=.returning->a.defers=j->a.fn=M/\a.kind=.normal->P.funcs[a.fn]? = some fn->qN P fn a.tmps e j H->Reach P G a cs H:=by
 intro j;induction j with
 | nil=>
  intro a H q A I F h;exact V a H q A I F h
 | cons d j ih=>
  intro a H q A I F h;have g:∀b,qN P fn a.tmps e j b->Reach P G { a with defers:=j } cs b:=λb L=>ih { a with defers:=j } b q rfl I F L;have l:(∃r,d.target=.collected r)\/(UJ d.target=true/\(bL P (invoke d.target d.args) (λn _ b=>EP P (qN P fn a.tmps e j) n b) false H \/
    (Uz P.toProgram (invoke d.target d.args)/\Zk P (invoke d.target d.args) false false H λ_ b=>qN P fn a.tmps e j b))):=by
   simp only[qN]at h
   split at h
   ·exact .inl ⟨_,‹_›⟩
   ·exact .inr h
  rcases l with⟨r,J⟩ | l
  ·simp only[qN,J]at h;obtain⟨B,O,U⟩:=h;refine .AO (s:=Instr.takeDeferred r) (Q:=λv _ b=>v=[]/\b=H.ins r (.deferred none)) ?_ ?_
   ·simp only[Instr.takeDeferred,Zg,getObj,setObj];exact⟨_,_,⟨B,O⟩,rfl,rfl,_,⟨B,O⟩,rfl,rfl,rfl,rfl,rfl⟩
   rintro v S ⟨rfl,_⟩;refine⟨{ a with defers:=j },cs,λmain w E es m=>⟨seen P a.fn es,?_,.inr rfl⟩,λb o=>?_⟩
   ·rw[Q5 q];obtain⟨Z,Y⟩:=d;simp only at J;subst J;unfold unwind;rw[A];simp only[m,GStep.after,qBt,qAG]
   rw[o.2];exact g _ U
  obtain⟨u,h⟩:=l;have k:∀main w,stepG P main (cV a cs) w=callDeferred P { a with defers:=j } cs none d w:=by intro main w;rw[Q5 q];exact Bc A u
  rcases h with h | ⟨D,h⟩;case inr=>
   refine h G a (λ_=>{ a with defers:=j }) cs z ⟨λmain cs w E v es m=>?_,.inl D,.inl D,λh=>by simp at h,λh=>by simp at h,.inl D⟩ λv b L=>g _ L
   rw[Q5 q,Bc A u]
   exact(Oi u m).2 (.inl ⟨v,rfl⟩)
  refine .AO h ?_;intro n S T;cases n with
  | enter f args=>
   refine⟨_,_,λmain w E es m=>⟨seen P a.fn es,?_,.inr rfl⟩,λb o=>o G _ cs z (show GO { a with defers:=j }by unfold GO;rw[q];trivial) λv R D=>g _ D⟩;rw[k];exact(Oi u m).1 f args rfl
  | value v=>
   refine⟨{ a with defers:=j },cs,λmain w E es m=>⟨seen P a.fn es,?_,.inr rfl⟩,λb o=>g _ o⟩;rw[k];exact(Oi u m).2 (.inl ⟨v,rfl⟩)
  | skip=>
   refine⟨{ a with defers:=j },cs,λmain w E es m=>⟨seen P a.fn es,?_,.inr rfl⟩,λb o=>g _ o⟩;rw[k];exact(Oi u m).2 (.inr rfl)
  | _=>exact T.elim
def C2(P:Program)(f:FuncId)(fn:Func)(t:Nat)(v:Value)(a:Frame)(cs:List Frame)(_:Hp):Prop:=
 cs=[]/\a.mode=.returning/\a.defers=[]/\(a.fn=f/\a.kind=.normal)/\P.funcs[a.fn]? = some fn/\fn.results=#[.tmp t]/\a.tmps.getD t undef=v
def ZhG(h:fn.results=#[.tmp t])(tmps:Array Value):results fn tmps=pure (tmps.getD t undef):=by simp[results,h]
def C2.closed(P:Program)(f:FuncId)(fn:Func)(t:Nat)(v:Value):VY (C2 P f fn t v):=λ_ _ _ _ _ h=>h
theorem eP{k:Nat}{n:Ze}{R:List Zf}(h:aJ P f k n R)(g:P.funcs[f]? = some fn)(l:fn.results=#[.tmp t]){args:List Value}{H:Hp}(hk:args.length=k)
  (hw:n.m P (tJ P R λv _=>v=v0) (Vv args) H):Reach P (C2 P f fn t v0) (Frame.enter P f args.toArray .normal) [] H:=by
 obtain⟨b,L,Z,h2,S,T⟩:=h;obtain rfl:b=fn:=iO (Z.symm.trans g);rw[qAc,qAc,qAR]at T;obtain⟨body,hb,hn⟩:=qDK.1 h2;subst hk;have Q:Br n R P args (λv _=>v=v0) H:=by unfold Br;refine Ze.tB ?_ hw;intro e σ H h;cases e<;>exact h
 obtain⟨⟨hl,hm⟩,D⟩:=T;have E:eN P L b.ntmps (Vv args) H ⟨args.toArray++Array.replicate (b.ntmps-args.toArray.size) undef,[]⟩ H:=by
  refine⟨by simp;omega,rfl,λ_=>0,.nil,?_,?_,?_,?_,?_,.nil _ _⟩
  ·exact(Hp.eG H).symm
  ·exact Hp.eQ H
  ·intro d cs h;simp[Vv]at h
  ·intro d d' cs jX h;simp[Vv]at h
  intro t v I;simp only[Vv]at I;have B:t<args.length:=by
   rcases qBi t args.length with h | h
   ·exact h
   simp[qAn h]at I
  have M:L.lookup t=none:=by
   cases hh:L.lookup t with
   | none=>rfl
   | some d=>
    obtain⟨l1,l2,rfl,_⟩:=qDL.1 hh;have:=IN.1 hl (t,d) (by simp);simp at this;omega
  unfold VW;rw[M];simp[Array.getElem?_append,B];rw[qBE B]at I;simpa using I
 have F:gX P ⟨true,b.norace⟩ body (λe a H=>match e with | .exit _=>False | _=>qN P b a.tmps (λv q=>∃A J:Hp,q=A.join J/\A.Comp J/\v=v0) a.defers H) ⟨args.toArray++Array.replicate (b.ntmps-args.toArray.size) undef,[]⟩ H:=by
  refine(VI (rd:=⟨true,b.norace⟩) (λh=>by rw[h]at D;simpa using D) hn Q E).mono ?_;rintro e ⟨at_,ad⟩ Ha ⟨σ,q,r,u⟩;cases e with
  | normal=>exact LQ S _ _ _ _ r u
  | ret=>exact LQ S _ _ _ _ r u
  | exit id=>exact u.elim
 have he:Frame.enter P f args.toArray .normal=on (Frame.enter P f args.toArray .normal) ⟨args.toArray++Array.replicate (b.ntmps-args.toArray.size) undef,[]⟩ [.code body]:=by simp[Frame.enter,on,g,hb]
 rw[he];have O:(Frame.enter P f args.toArray .normal).roundOf=none:=rfl;have o:∀(j:Frame) (H:Hp),j.mode=.returning->j.defers=[]->j.fn=f/\j.kind=.normal->P.funcs[j.fn]? = some b->bL P (results b j.tmps) (λv _ q=>(λv q=>∃A J:Hp,q=A.join J/\A.Comp J/\v=v0) v q) false H->Reach P (C2 P f b t v0) j [] H:=by intro j H U V Y a3 a4;rw[ZhG l,Zj]at a4;obtain⟨_,_,_,_,hv⟩:=a4;exact .stop ⟨rfl,U,V,Y,a3,l,hv⟩
 refine F (C2 P f b t v0) _ [] [] (C2.closed _ _ _ _ _) ⟨by simp[Frame.enter],λ_=>O,λh=>by simp only[norace,Frame.enter,g,Option.any_some];exact h⟩ ?_;intro e a q u;cases e with
 | normal=>
  refine .pure (eC:={ on (Frame.enter P f args.toArray .normal) a []with mode:=.returning }) (jX:=[]) (λmain w=>Wu O) ?_;exact ZhJ (C2.closed _ _ _ _ _) o _ _ _ rfl rfl ⟨rfl,rfl⟩ g u
 | ret=>
  intro k';refine .pure (eC:={ on (Frame.enter P f args.toArray .normal) a (.code .ret :: k')with mode:=.returning }) (jX:=[]) (λmain w=>Wv O) ?_;exact ZhJ (C2.closed _ _ _ _ _) o _ _ _ rfl rfl ⟨rfl,rfl⟩ g u
 | exit id=>exact u.elim
open Go.Conc (Knows Deaf touchAt QuitsD crowd woken Leavers Past)
def lQ(w:World):Hp:=⟨λb=>(w.heap[b]?).map λo=>(o,false),[]⟩
theorem QX(w:World)(b:Nat):lQ w b=(w.heap[b]?).map λo=>(o,false):=rfl
def ZpA(w:World):(lQ w).le w:=λb o p h=>by rw[QX]at h;obtain⟨x,e,a⟩:=qAL.1 h;simp only[qBD]at a;rw[e,a.1]
structure Ip(W W':World):Prop where
 os:Go.ConcM.OsLater W.os W'.os
 tape:W'.tape=W.tape
 out:W'.output=W.output
 size:W.heap.size<=W'.heap.size
 heap:∀b,b<W.heap.size->W'.heap[b]? = W.heap[b]?
def Zpp{p:Program}{args:Array Value}{W:World}(F:p.inits.idxOf? f=none)(h:Reach (J3 p) (C2 p f fn t v0) (Frame.enter p f args .normal) [] (lQ W)) :
  ∃M e o l Q,runNT p (M+1) (Go.Conc.solo (Go.Conc.G (Frame.enter p f args .normal) []) W) #[]=(.ended o l,Q)/\runN p M (Go.Conc.solo (Go.Conc.G (Frame.enter p f args .normal) []) W)=.next e /\
   step p e=.ended o l/\Go.Conc.Good p (λv A=>v=v0/\Ip W A) e o l Q:=by
 have J:=Zpr (P:=J3 p) rfl h
 have u:jP p (lQ W) #[cV (Frame.enter p f args .normal) []] W #[] (λ_=>0):=by refine⟨Go.Conc.leavers_one p _,?_,ZpA W⟩;exact⟨λsaid=>by rintro⟨i,j,_,⟨a,b,u,_⟩,_⟩;simp[Trace.act?]at u,λi a u=>by simp[touchAt,Trace.act?]at u,λi g hg=>by simp[Trace.g?]at hg,rfl,by simp⟩
 obtain⟨k,E,l,O,Q,q',U,m,V,R,h2,S,r,h5⟩:=J _ W none #[] _ u rfl
 obtain⟨rfl,g1,g2,⟨g3,B⟩,g4,g5,g6⟩:=h5
 have n:∀q,Go.Conc.AtRel l q->Ip W q:=by rintro q ⟨d,rfl⟩;exact⟨r.out.os,r.out.tape,r.out.out,r.grown,λb hb=>r.keep b hb λo T=>by rw[QX]at T;obtain⟨x,_,he⟩:=qAL.1 T;simp at he⟩
 have w:Go.Conc.Goes p true Go.Conc.AtRel (λ_ _ _=>False) (Go.Conc.AtEnd p (K4 U l.heap.size) l.heap.size (λv A=>v=v0/\Ip W A)) 0 (cV m []) l:=by
  intro q L;refine⟨rfl,v0,#[],?_,by simp,rfl,n q L⟩;have hr:(results fn m.tmps).runT p q #[]=(.ok v0 q,#[]):=by rw[ZhG g5,g6];rfl
  have z:p.inits.idxOf? m.fn=none:=by rw[g3];exact F
  simp only[cV,stepG,g1,unwind,g2,g4,hr,GStep.after,doReturn,B,qAG,z];simp[seen]
 obtain⟨N,e,o,w2,t2,Y,Z,e3,e4⟩:=Go.Conc.beside_ends (D:=λ_ _ _=>False) (λ_ _ _ h=>h.elim) h2 S.leavers S.past w
 refine⟨k+N,e,o,w2,t2,?_,?_,e3,e4⟩
 ·have:=Al R Y;rw[qDw];exact this
 ·have I:runN p k (Go.Conc.solo (Go.Conc.G (Frame.enter p f args .normal) []) W)=.next (crowd E l O):=by rw[<-runNT_fst _ _ _ #[]];exact qBc Prod.fst R
  rw[runN_add,I];exact Z
end
end Go.LL
end
open Go Go.LL Go.Conc Go.ConcM
namespace Go.Proofs
section
variable{C:Checked}{os:Os}{f:FuncId}{fn:Func}{s:ChangeSpec}{wU:List PathCond}{apart:Bool}{X:World->Array Value->Prop}
section
variable{H:Type}{enc:TypeId×Value->H}
def Zt2{a:Assume}{F:Stop.Interp}{fresh handsOn:Bool}
  (R:∀(w w':World) (args:Array Value),w.heap=w'.heap->X w args->X w' args)
  (own:ownKnob C.prog.godebug=none) (h:os.Started) (A:C.prog.funcs[f]? = some fn)
  (k:∃(w:World) (tape:Tape) (i:Input),w.os=os/\(w.forCall tape i).Shaped C.prog/\i.vars=[]/\Input.okWide C.prog (w.forCall tape i) .any w.heap.size f i /\
   ((s.pre enc C.prog fn wU apart (w.forCall tape i).memory i.args/\X (w.forCall tape i).memory i.args)/\sizedMet enc C.prog fn (OpenSpec.ofChange s) apart (w.forCall tape i).memory i.args)/\a.holds C.prog (lone (Frame.enter C.prog f i.args .normal) [] (w.forCall tape i)))
  (lE:∀(W:World) (base:Nat) (args:Array Value) (u gs:List (DataW H)) (b:List MemPlace),
   (∀(j:Nat) t v,fn.params[j]? = some t->args[j]? = some v->Value.okWide C.prog W .any base t v) ->
   DataW.Whole enc C.prog fn.params.toList s.vars apart W args.toList u gs b ->
   X W args ->
   ∃M g o w' r,runNT C.prog (M+1) (solo (G (Frame.enter C.prog f args .normal) []) W) #[]=(.ended o w',r)/\runN C.prog M (solo (G (Frame.enter C.prog f args .normal) []) W)=.next g /\
    step C.prog g=.ended o w'/\Conc.Good C.prog (λv E=>s.post enc C.prog fn apart fresh handsOn false W args v { E with os:=W.os }/\OsLater W.os E.os) g o w' r) :
  ReturnsInLeavingWide a C os f .any (λw args=>(s.pre enc C.prog fn wU apart w args/\X w args)/\sizedMet enc C.prog fn (OpenSpec.ofChange s) apart w args) ((OpenSpec.ofChange s).postWith enc C.prog fn F (outsideKept [.timePasses]) apart fresh handsOn):=by
 refine returnsInLeavingWide_of_good own h k ?_;intro w tape i _ _ _ B m q;obtain⟨_,_,_,z,l,_,_,_,_,n⟩:=B;have e:z=fn:=iO (l.symm.trans A);subst e;obtain⟨⟨⟨u,gs,b,S,hc⟩,T⟩,hz⟩:=m;have D:=DataW.Whole.of_heap (w':=w.forCall tape i) (by rfl) S;obtain⟨M,g,o,w',r,J,L,O,Q⟩:=lE (w.forCall tape i) w.heap.size i.args u gs b n D (R _ _ _ (by rfl) T);obtain⟨v,e,I,U,V,Y,Z⟩:=Q;exact⟨M,g,o,w',r,J,L,O,v,e,postWith_blind (postWith_of_post I.1 I.2),U,V,Y,Z⟩
def ZnI(a:World)(args:Array Value)(fuel:Nat)(g:a.os=os)
  (h:(a.forCall (λ_ _=>0) ⟨#[],args,[]⟩).Shaped C.prog)
  (b:Input.okWideB C.prog (a.forCall (λ_ _=>0) ⟨#[],args,[]⟩) f ⟨#[],args,[]⟩=true)
  (e:s.preB enc C.prog fn wU apart (a.forCall (λ_ _=>0) ⟨#[],args,[]⟩).memory args fuel=true)
  (j:s.sizedB enc C.prog fn apart (a.forCall (λ_ _=>0) ⟨#[],args,[]⟩).memory args fuel=true)
  (k:X (a.forCall (λ_ _=>0) ⟨#[],args,[]⟩).memory args) :
  ∃(w:World) (tape:Tape) (i:Input),w.os=os/\(w.forCall tape i).Shaped C.prog/\i.vars=[]/\Input.okWide C.prog (w.forCall tape i) .any w.heap.size f i /\
   ((s.pre enc C.prog fn wU apart (w.forCall tape i).memory i.args/\X (w.forCall tape i).memory i.args)/\sizedMet enc C.prog fn (OpenSpec.ofChange s) apart (w.forCall tape i).memory i.args)/\({ calm:=true }:Assume).holds C.prog (lone (Frame.enter C.prog f i.args .normal) [] (w.forCall tape i)):=
 ⟨a,λ_ _=>0,⟨#[],args,[]⟩,g,h,(Input.okWide_of_okWideB (base:=0) b).1,(Input.okWide_of_okWideB b).2,⟨⟨ChangeSpec.pre_of_preB e,k⟩,sizedMet_of_sizedB j⟩,by simp only[Assume.holds];exact⟨by simp,λ_ _ _ _=>rfl,by simp,by simp,by simp⟩⟩
end
def ZnV:ownKnob Tryz.prog.godebug=none:=U
def z4:laidOutB Tryz.prog=true:=U
end
section
open YtlhomfgcibjccaaGreatDoor
def ZnL(os:Os)(args:Array Value):((World.doorLaid Tryz.prog 600 os).forCall (λ_ _=>0) ⟨#[],args,[]⟩).Shaped Tryz.prog:=World.shaped_of_RefB U U
end
variable{t:TypeId}{v:Value}{i:Nat}{α:Type}
open YtlhomfgcibjccaaGreatDoor
section
variable{H:Type}{enc:TypeId×Value->H}{W:World}{base:Nat}{sp:Nat->Bool}{held:Bool}{fuel:Nat}{cs:List Value}{y:DataW H×List MemPlace}
def PW{P:Program}{r:Reach}{a:Nat}{b:Array Field}(e:P.underlying t=some (.struct b))(h:Value.okWide P W r a t v):∃c,v=.agg c:=by unfold Value.okWide at h;rw[e]at h;obtain⟨c,rfl,_⟩:=h;exact⟨c,rfl⟩
def VV{W:World}{a:Addr}(h:W.cell? a=some v):a.spot=none/\∃o,W.heap[a.block]? = some o/\Obj.mB o a.off=some v:=by
 unfold World.cell? at h;split at h
 ·rename_i c t f b;split at h
  ·simp at h
  rename_i e;exact⟨by simpa using e,_,b,h⟩
 simp at h
def C5(h:DataW.trod enc Tryz.prog W base sp held fuel 3 cs=some y):∃n,cs=[vi n]:=by obtain⟨n,h,_⟩:=DataW.trod_int Tryz.underlying3 h;exact⟨n,h⟩
def Uv{cs:List Value}(h:(cs.drop i).take 1=[v]):cs[i]? = some v:=by have:=qBc (·[0]?) h;simpa[qDa,qCJ]using this
def XP{l m:List Value}(b:l.length=m.length)(h:∀i,i<m.length->l[i]? = m[i]?):l=m:=by
 apply qEe;intro i;rcases qBi i m.length with a | a
 ·exact h i a
 rw[qAn a,qAn O]
def KT:Tryz.prog.cellsOf 3=1:=U
def Jb:Tryz.prog.cellsOf 36=2:=U
def ZvJ:Tryz.prog.cellsOf 22=1:=U
def ZvI:Tryz.prog.cellsOf 23=1:=U
def VA{β:Type}{xs:List (α×β)}(h:i<xs.length):∃y,xs[i]? = some y:=⟨_,qBE h⟩
def T3(h:DataW.trod enc Tryz.prog W base sp held fuel 36 cs=some y):∃a b,cs=[vi a,vi b]:=by
 obtain⟨xs,n,rfl,_,l,m,k⟩:=DataW.trod_struct Tryz.underlying36 h;rw[Jb]at l;obtain⟨u,o⟩:=VA (xs:=xs) (i:=0) (by rw[m];decide);obtain⟨w,q⟩:=VA (xs:=xs) (i:=1) (by rw[m];decide);have g:DataW.trod enc Tryz.prog W base sp held n 3 ((cs.drop 0).take (Tryz.prog.cellsOf 3))=xs[0]?:=k 0 _ rfl;have j:DataW.trod enc Tryz.prog W base sp held n 3 ((cs.drop 1).take (Tryz.prog.cellsOf 3))=xs[1]?:=k 1 _ rfl;rw[o]at g;rw[q]at j;obtain⟨a,e⟩:=C5 g;obtain⟨b,hb⟩:=C5 j;rw[KT]at e hb;have e:=Uv e;have hb:=Uv hb;refine⟨a,b,XP l λi r=>?_⟩;match i,r with
 | 0,_=>exact e
 | 1,_=>exact hb
def EK[Enc α]{e:TypeId}(ht:Tryz.prog.underlying t=some (.slice e))(Y:Tryz.prog.cellsOf e=Enc.sz α)(g:0<Enc.sz α)
  (z:∀{n:Nat} {cs:List Value} {y:DataW H×List MemPlace},DataW.trod enc Tryz.prog W base sp held n e cs=some y->∃x:α,cs=Enc.enc x)
  (h:DataW.trod enc Tryz.prog W base sp held fuel t cs=some y):∃v,cs=[v]/\∃l:List α,aF (lQ W) v l:=by
 rcases DataW.trod_slice ht h with⟨rfl,_⟩ | ⟨a,len,cap,q,rest,n,_,rfl,_,_,hl,_,J,V,_⟩
 ·exact⟨_,rfl,[],.nil _⟩
 have Q:∀i,i<len->∃x:α,W.cells? base (a.add (i * Enc.sz α)) (Enc.sz α)=some (Enc.enc x):=by intro i m;obtain⟨y,hy⟩:=VA (xs:=q) (i:=i) O;have:=V i m;rw[hy,Y,qDK]at this;obtain⟨c,T,U⟩:=this;obtain⟨x,rfl⟩:=z U;exact⟨x,T⟩
 let l:List α:=List.ofFn λi:Fin len=>(Q i.1 i.2).choose
 have A:l.length=len:=by simp[l]
 have Z:∀i (m:i<l.length),W.cells? base (a.add (i * Enc.sz α)) (Enc.sz α)=some (Enc.enc l[i]):=by intro i m;have:=(Q i O).choose_spec;simpa[l]using this
 refine⟨_,rfl,l,some a,cap,by rw[A],λD=>⟨a,rfl,?_⟩⟩;have k:∀i (m:i<l.length),∀j,j<Enc.sz α->W.cell? ((a.add (i * Enc.sz α)).add j)=(Enc.enc l[i])[j]?:=λi m=>(World.cells?_some (Z i m)).2.2;have r:0<l.length:=qAX.2 D;have E:a.spot=none/\∃o,W.heap[a.block]? = some o:=by
  have G:=k 0 r 0 g;have:((Enc.enc l[0])[0]? : Option Value)=some ((Enc.enc l[0])[0]'(by rw[Enc.len];exact g)):=qBE _;rw[this]at G;obtain⟨s1,o,s2,_⟩:=VV G;have S:(a.add (0 * Enc.sz α)).add 0=a:=by simp[Addr.add]
  rw[S]at s1 s2;exact⟨s1,o,s2⟩
 obtain⟨hs,o,L⟩:=E;refine⟨hs,o,false,by rw[QX,L];rfl,λj I=>?_⟩;rw[VH]at I;have m:j / Enc.sz α<l.length:=(Nat.div_lt_iff_lt_mul g).2 I;have B:j % Enc.sz α<Enc.sz α:=qDS _ g;have w:j=j / Enc.sz α * Enc.sz α+j % Enc.sz α:=(Nat.div_add_mod' j _).symm;have M:(Enc.enc l[j / Enc.sz α])[j % Enc.sz α]? = some ((Enc.enc l[j / Enc.sz α])[j % Enc.sz α]'(by rw[Enc.len];exact B)):=qBE _;have u:=k _ m _ B;rw[M]at u;obtain⟨_,o',s2,R⟩:=VV u;rw[II,II,L]at s2;obtain rfl:=iO s2;rw[IJ,IJ,qDw,<-w]at R;have F:=LA l _ _ m B;rw[<-w]at F;rw[R,F,M]
end
