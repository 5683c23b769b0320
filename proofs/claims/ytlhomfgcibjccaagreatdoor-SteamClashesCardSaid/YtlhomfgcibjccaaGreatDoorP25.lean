import Derived.Test.YtlhomfgcibjccaaGreatDoorP17
import Derived.Test.YtlhomfgcibjccaaGreatDoorP23
import Derived.Test.YtlhomfgcibjccaaGreatDoorP24
import Derived.Conc.HoldsTime
import Derived.Test.YtlhomfgcibjccaaGreatDoorTie
import Derived.Test.YtlhomfgcibjccaaGreatDoorCards
import Derived.ProofKit
import Derived.LaidMore
import Derived.Carry
import Derived.Stop.Joined
import Derived.OpenShut
import Derived.SevenTiedAt
set_option linter.all false
set_option maxHeartbeats 4000000
set_option maxRecDepth 20000
section
namespace Go.LL
section
open Go.Conc
structure Ra(H H' H2:Hp):Prop where
 gh:H2.gh=H.gh
 Xh:∀b,H2 b=none↔H' b=none
 val:∀b x y,H2 b=some x->H' b=some y->x.1=y.1/\(y.2=true->x.2=true)/\((∃o,H b=some (o,true))->x.2=true)/\∀o,H b=some (o,false)->x.2=true->y.2=true
def Rc(b:Frame)(k:List Item)(a:Act)(fr:Frame):Ex->Prop
 | .normal=>fr=on b a k
 | .ret=>∃k',fr=on b a (.code .ret :: k')
 | .exit id=>(∃k',exitTo id k=some k'/\fr=on b a k')\/(exitTo id k=none/\∃k',exitTo id k'=none/\fr=on b a (.code (.exit id) :: k'))
theorem C9.spot{P:bF}{G:Frame->List Frame->Hp->Prop}{b:Frame}{k:List Item}{cs:List Frame}{e:Ex}{a:Act}{H:Hp}:C9 P G b k cs e a H↔∀fr,Rc b k a fr e->Reach P G fr cs H:=by
 cases e with
 | normal=>exact⟨λh fr e=>by rw[show fr=_ from e];exact h,λh=>h _ rfl⟩
 | ret=>exact⟨λh fr ⟨k',e⟩=>by rw[e];exact h k',λh k'=>h _ ⟨k',rfl⟩⟩
 | exit id=>
  refine⟨λh fr e=>?_,λh=>⟨λk' hk=>h _ (.inl ⟨k',hk,rfl⟩),λhk k' gG=>h _ (.inr ⟨hk,k',gG,rfl⟩)⟩⟩;rcases e with⟨k',hk,rfl⟩ | ⟨hk,k',gG,rfl⟩
  ·exact h.1 k' hk
  exact h.2 hk k' gG
section
open Classical
noncomputable def Hp.inn(H2 H:Hp)(g:List Nat):Hp:=⟨λb=>if H b=none then none else H2 b,g⟩
noncomputable def Hp.outn(H2 H:Hp)(g:List Nat):Hp:=⟨λb=>if H b=none then H2 b else none,g⟩
theorem Hp.m6(H2 H:Hp)(g:List Nat)(b:Nat):H2.inn H g b=if H b=none then none else H2 b:=rfl
theorem Hp.qW(H2 H:Hp)(g:List Nat)(b:Nat):H2.outn H g b=if H b=none then H2 b else none:=rfl
theorem Hp.sN(H2 H:Hp){g g':List Nat}(hg:H2.gh=g++g')(hh:g=[]\/g'=[]):H2=(H2.inn H g).join (H2.outn H g')/\(H2.inn H g).Comp (H2.outn H g'):=by
 refine⟨Hp.ext' (λb=>?_) (by rw[Hp.bP];exact hg),⟨λb x y h1 h2=>?_,hh⟩⟩
 ·simp only[Hp.aX,Hp.m6,Hp.qW];by_cases e:H b=none
  ·simp[e]
  simp only[e,qAk];cases H2 b<;>rfl
 rw[Hp.m6]at h1;rw[Hp.qW]at h2;by_cases e:H b=none
 ·simp[e]at h1
 simp[e]at h2
end
theorem Zvg{p:Program}{n1 n2:Ze}{Q:Ex->aN->Hp->Prop}{σ:aN}{H:Hp}{M W ch K N:Nat}{tM tW:TypeId}{need:Nat->Bool}{PI:List Nat->Hp->Prop}{msg:Nat->Value->Hp->Prop}{Hm Hl:Hp}(hS:K9 H M W ch tM tW Hm Hl)(yE:PI [] Hl)
  (ok:∀base n0 old,Cx.Ok { M,W,ch,base,n0,old,tM,tW,K,need,PI,N,msg })
  (sO:∀base n0 old,1<=base->(Ze.seq n1 n2).m (bG p { M,W,ch,base,n0,old,tM,tW,K,need,PI,N,msg }).prgM (λe σ' H'=>H'.gh=[1,40]/\∀H2:Hp,Ra H H' H2->Q e σ' H2) σ (Hm.tagged [N+2,30,0])):GU (KL p) n1 n2 Q σ H:=by
 intro L m rd code act Ha hL tr r G b k cs bU oY hG;obtain⟨ρ,K0,e1,e2,e3,e4,e5,e6⟩:=r.mem;have KS:∀b x,H b=some x->x.2=true->K0 b=none:=by
  intro b x h1 h2;cases hh:K0 b with
  | none=>rfl
  | some y=>have:=(e2 b x y h1 hh).2;rw[h2]at this;simp at this
 have EQ:∀b x,H b=some x->Ha b=some x:=λb x h=>by rw[e1];exact Hp.aK h
 have hlw:∀b x,Hl b=some x->x.2=true:=(ok 1 0 λ_=>False).own [] Hl yE;have hSA:K9 Ha M W ch tM tW ((Hm.tagged [N+2,30,0]).join (K0.tagged [])) Hl:=by
  refine⟨hS.ne,hS.AG,hS.AF,EQ _ _ hS.C8,EQ _ _ hS.yH,EQ _ _ hS.yG,λb x h=>?_,λb x h=>⟨EQ _ _ (hS.eK b x h).1,(hS.eK b x h).2⟩⟩;simp only[Hp.aX,Hp.kJ]at h;cases hh:Hm b with
  | some z=>
   rw[hh]at h;obtain rfl:=dO h;obtain⟨h1,h2⟩:=hS.own b z hh;exact⟨EQ _ _ h1,h2⟩
  | none=>
   rw[hh]at h;have h:K0 b=some x:=h;refine⟨by rw[e1];exact Hp.aS e2 h,?_,?_,?_,?_⟩
   ·rintro rfl;rw[KS _ _ hS.yH rfl]at h;simp at h
   ·rintro rfl;rw[KS _ _ hS.yG rfl]at h;simp at h
   ·rintro rfl;rw[KS _ _ hS.C8 rfl]at h;simp at h
   cases hl:Hl b with
   | none=>rfl
   | some y=>rw[KS _ _ (hS.eK b y hl).1 (hlw b y hl)]at h;simp at h
 refine .eX (ZsK (R:=Reach (KL p) G) hSA yE ok (by simp[Hp.bP,Hp.tagged]) λbase n0 old hb=>?_);have gD:(Hm.tagged [N+2,30,0]).Comp (K0.tagged []):=⟨λb x y h1 h2=>e2 b x y (hS.own b x h1).1 h2,.inr rfl⟩;have rM:eJ (bG p { M,W,ch,base,n0,old,tM,tW,K,need,PI,N,msg }).prgM.toPQ L m σ (Hm.tagged [N+2,30,0]) act ((Hm.tagged [N+2,30,0]).join (K0.tagged [])):=
  ⟨r.size,r.defers,ρ,K0.tagged [],rfl,gD,e3,e4,e5,⟨e6.1,e6.2.1,.inr λ_=>rfl⟩⟩
 refine VH (P:=(bG p { M,W,ch,base,n0,old,tM,tW,K,need,PI,N,msg }).prgM) hL tr (Ze.rR (λ_ _ _ h=>h) (sO base n0 old hb)) rM _ b k cs ?_ ⟨oY.kind,oY.wG,oY.nr⟩ ?_
 ·
  rintro bW bJ H1 J hc ⟨hg,hR⟩
  have hJ:J.gh=[]:=hc.gh.resolve_left (by rw[hg];simp)
  refine⟨by rw[Hp.bP,hg,hJ];rfl,λH2 g1 g2 g3=>?_⟩
  obtain⟨i1,i2⟩:=Hp.sN H2 H1 (g:=H2.gh) (g':=[]) (by simp) (.inr rfl)
  rw[i1]
  refine Reach.up bU (hR _ (by exact g1) (λb=>?_) λb x y hx hy=>?_) i2
  ·rw[Hp.m6];by_cases e:H1 b=none
   ·simp[e]
   simp only[e,qAk];rw[g2];simp only[Hp.aX];cases hh:H1 b with
   | none=>exact absurd hh e
   | some z=>simp
  ·rw[Hp.m6,bY (by rw[hy];simp)]at hx;exact g3 b x y hx (Hp.aK hy)
 rintro e a' H1 ⟨σ',H0,r',hg,hq⟩;rw[C9.spot];intro fr BP;obtain⟨ρ',K1,f1,f2,f3,f4,f5,f6⟩:=r'.mem;have hK1:K1.gh=[]:=f2.gh.resolve_left (by rw[hg];simp);refine .stop ⟨by rw[f1,Hp.bP,hg,hK1];rfl,λH2 g1 g2 g3=>?_⟩;obtain⟨i1,i2⟩:=Hp.sN H2 H0 (g:=H.gh) (g':=K0.gh) (by rw[g1,e1,Hp.bP]) e2.gh;have hk:∀b o,K1 b=some (o,true)->H2.outn H0 K0.gh b=some (o,true):=by
  intro b o h;have h0:H0 b=none:=by
   cases hh:H0 b with
   | none=>rfl
   | some z=>have:=f2 b z _ hh h;rw[this.1]at this;simp at this
  rw[Hp.qW,iO h0];have h1:H1 b=some (o,true):=by rw[f1];exact Hp.aS f2 h
  cases h2:H2 b with
  | none=>rw[g2,h1]at h2;simp at h2
  | some x=>
   obtain⟨j1,j2,_⟩:=g3 b x _ h2 h1;rw[<-dO (show some (x.1,x.2)=some (o,true)by rw[j1,j2 rfl])]
 have AZ:eJ (KL p).toPQ L m σ' (H2.inn H0 H.gh) a' H2:=by refine⟨r'.size,r'.defers,ρ',H2.outn H0 K0.gh,i1,i2,λd cs hd=>?_,f4,f5,⟨f6.1,λx hx=>hk _ _ (f6.2.1 x hx),.inr λ_=>rfl⟩⟩;obtain⟨t,ht⟩:=f3 d cs hd;exact⟨t,hk _ _ ht⟩
 have rA:Ra H H0 (H2.inn H0 H.gh):=by
  refine⟨rfl,λb=>?_,λb x y hx hy=>?_⟩
  ·rw[Hp.m6];by_cases e:H0 b=none
   ·simp[e]
   simp only[e,qAk];rw[g2,f1];simp only[Hp.aX];cases hh:H0 b with
   | none=>exact absurd hh e
   | some z=>simp
  rw[Hp.m6,bY (by rw[hy];simp)]at hx;obtain⟨j1,j2,j3,j4⟩:=g3 b x y hx (by rw[f1];exact Hp.aK hy);exact⟨j1,j2,λ⟨o,ho⟩=>j3 ⟨o,EQ _ _ ho⟩,λo ho=>j4 o (EQ _ _ ho)⟩
 have:=hG e a' H2 ⟨σ',_,AZ,hq _ rA⟩;exact C9.spot.1 this fr BP
end
section
variable{p:Program}
open Go.Conc
theorem ZvK:VX Vf:=λ_ _ _ _ _ h=>h
theorem Zv0{fr:Frame}(h:p.funcs[fr.fn]? = none)(ht:fr.todo=[]):fr.catches p=false:=by unfold Frame.catches;rw[h,ht]
theorem Zp6{c:Cx}{i:Nat}{f:FuncId}{fn:Func}{cap args:Array Value}{H:Hp}(hf:p.funcs[f]? = some fn)(hb:fn.body.isSome=true)(hn:(fn.name == "runtime.NumGoroutine")=false)
  (h:Y2 ((bG p c).prgW i) .deferred f (args++cap) H λ_ H'=>H'.gh=lv 0):Reach ((bG p c).prgW i) Vf (YI p { target:=.fn (.func f) cap,args:=args }) [] H:=by
 have mC:fn.body.isNone=false:=by simpa using hb
 have hf':((bG p c).prgW i).funcs[f]? = some fn:=hf;have gL:∀H':Hp,H'.gh=lv 0->Reach ((bG p c).prgW i) Vf { YI p { target:=.fn (.func f) cap,args:=args }with defers:=[] } [] H':=by intro H' hg;refine .eX ⟨by rw[hg];simp[lv],.inl ⟨0,hg,.inr ⟨rfl,{ frame:={ YI p { target:=.fn (.func f) cap,args:=args }with defers:=[] },callers:=[],status:=.finished,dying:=none },rfl,λw=>?_⟩⟩⟩;have hc:Frame.catches p { YI p { target:=.fn (.func f) cap,args:=args }with defers:=[] }=false:=Zv0 (by simp) rfl;have e:stepG p false (bT { YI p { target:=.fn (.func f) cap,args:=args }with defers:=[] } []) w=unwind p false { YI p { target:=.fn (.func f) cap,args:=args }with defers:=[] } [] none w:=rfl;rw[e];unfold unwind;simp only[hc,iN,qAk];rfl
 refine .zS (s:=invoke (.fn (.func f) cap) args) (Q:=λn _ H'=>n=.enter f (args++cap)/\H'=H) ?_ ?_
 ·simp only[invoke,callFunc,Zh,VZ,hf',hn,mC,iN,qAk];exact⟨rfl,rfl⟩
 rintro n H0 ⟨rfl,rfl⟩;refine⟨Frame.enter p f (args++cap) .deferred,[{ YI p { target:=.fn (.func f) cap,args:=args }with defers:=[] }],λmain w w' es e1=>⟨seen p p.funcs.size es,?_,.inr rfl⟩,λH' e3=>?_⟩;rotate_left
 ·obtain⟨_,rfl⟩:=e3;exact h Vf { YI p { target:=.fn (.func f) cap,args:=args }with defers:=[] } [] ZvK (by unfold S8 G7;trivial) λv nA hv=>gL nA hv
 have hs:stepG p main (bT (YI p { target:=.fn (.func f) cap,args:=args }) []) w=callDeferred p { YI p { target:=.fn (.func f) cap,args:=args }with defers:=[] } [] none { target:=.fn (.func f) cap,args:=args } w:=by have:stepG p main (bT (YI p { target:=.fn (.func f) cap,args:=args }) []) w=unwind p main (YI p { target:=.fn (.func f) cap,args:=args }) [] none w:=rfl;rw[this];exact Cb rfl rfl
 refine hs.trans ?_;exact(Ol rfl e1).1 f _ rfl
end
section
open Go.Conc
section
variable{P:bF}{d:Option Nat}{next:aN->Hp->Prop}{σ:aN}{H:Hp}{x:Operand}
theorem Ztg{f:FuncId}{first cap:Array Value}{xs:Array Operand}{ts:Array TypeId}{ty:TypeId}{vs:List Value}(e:σ.get x=some (.func (.func f) first cap))(ha:σ.gets xs.toList=some vs){Post:Value->Hp->Prop}
  (h:Zm P (pure (.spawn { target:=.fn (.func f) cap,args:=first++vs.toArray })) false false H Post) (hn:∀v H',Post v H'->next (σ.set d v) H') :
  (bC.raw (.go { callee:=.value x,args:=xs,argTypes:=ts }) ty).m P d next σ H:=by
 obtain⟨h1,h2⟩:=Of ha;have bH:((Op.go { callee:=.value x,args:=xs,argTypes:=ts }).operands.all λx=>(σ.get x).isSome)=true:=by
  rw[qAe];intro y hy;simp only[Op.operands,Call.operands]at hy;simp only[qAg]at h2;simp only[qBn,qAx,qAB,qAb,DO,qAt]at hy h2;rcases hy with rfl | hy
  ·rw[e];rfl
  exact h2 y hy
 refine⟨bH,.inr ?_⟩;have:execOp (λx=>(σ.get x).getD undef) (aP (.go { callee:=.value x,args:=xs,argTypes:=ts }) ty)=pure (.spawn { target:=.fn (.func f) cap,args:=first++vs.toArray }):=by obtain⟨xs⟩:=xs;have kM:List.map (λx=>(σ.get x).getD undef) xs=vs:=h1;simp[execOp,aP,resolve,Deferred.ofValue,e,qBl,kM]
 rw[this];exact h.mono hn
end
end
end Go.LL
end
section
open Go Go.LL
namespace Go.Proofs
def V3(w:N4->Bool):List (N4×Int)->Int
 | []=>0
 | (k,v) :: r=>(if w k then v else 0)+V3 w r
theorem Zg5(w:N4->Bool)(a:N4):∀m:List (N4×Int),V3 w (Zz m a (ZE m a+1))=V3 w m+if w a then 1 else 0
 | []=>by simp[Zz,V3,ZE]
 | (k,v) :: r=>by
  rw[Zz,ZE];by_cases h:a=k
  ·subst h;rw[iO rfl,iO rfl,V3,V3];split<;>omega
  rw[bY h,bY h,V3,V3,Zg5 w a r];omega
theorem ZlG{α:Type}[DecidableEq α]{a:α}{w:Int}{p:α×Int}:∀{m:List (α×Int)},p∈Zz m a w->(p.1=a/\p.2=w)\/p∈m\/(p.1=a/\p.2=w)
 | [],h=>by rw[Zz]at h;rw[DO.1 h];exact .inl ⟨rfl,rfl⟩
 | (k,v) :: r,h=>by
  rw[Zz]at h;split at h
  ·rename_i hk;rcases qAp.1 h with rfl | h
   ·exact .inl ⟨hk.symm,rfl⟩
   exact .inr (.inl (qAr _ h))
  rcases qAp.1 h with rfl | h
  ·exact .inr (.inl (qBu ..))
  rcases ZlG h with h | h | h
  ·exact .inl h
  ·exact .inr (.inl (qAr _ h))
  exact .inr (.inr h)
theorem X8{α:Type}[DecidableEq α]{a:α}:∀{m:List (α×Int)},(∀p∈m,0<=p.2)->0<=ZE m a
 | [],_=>qAy _
 | (k,v) :: r,h=>by
  rw[ZE];split
  ·exact h (k,v) (qBu ..)
  exact X8 λp hp=>h p (qAr _ hp)
instance (c:Cx)(i:Nat):Tz (pw c i):=⟨rfl⟩
theorem Zon:Ym Tryz.prog 186=some (2,some (.agg #[.int .i32 0,.int .u32 0]),8):=U
theorem Zom:Ym Tryz.prog 193=some (2,some (.agg #[.int .u64 0,.int .u32 0]),16):=U
noncomputable abbrev PP:bF:=KL Tryz.prog
noncomputable instance:Tz PP:=⟨rfl⟩
noncomputable instance:Loud PP:=⟨λ_=>rfl⟩
instance (c:Cx):Tz (pm c):=⟨rfl⟩
instance (c:Cx):Loud (pm c):=⟨λ_=>rfl⟩
theorem Zmh{a:N4}:∀{m:List (N4×Int)},(∀p∈m,0<=p.2)->ZE m a<=V3 (λ_=>true) m
 | [],_=>qAy _
 | (k,v) :: r,h=>by have h1:=h (k,v) (qBu ..);have h2:=Zmh (a:=a) λp hp=>h p (qAr _ hp);have h3:=X8 (a:=a) λp hp=>h p (qAr (k,v) hp);rw[ZE,V3,iO rfl];simp only at h1;split<;>omega
def Y0(H H':Hp):Prop:=∀b o p,H b=some (o,p)->∃p',H' b=some (o,p')/\(p'=true->p=true)
theorem Y0.trans{H H' nA:Hp}(h:Y0 H H')(h':Y0 H' nA):Y0 H nA:=λb o p hb=>by obtain⟨p1,h1,h2⟩:=h b o p hb;obtain⟨p2,h3,h4⟩:=h' b o p1 h1;exact⟨p2,h3,λe=>h2 (h4 e)⟩
theorem bO.jC{H H':Hp}(h:bO H H'):Y0 H H':=λb o p hb=>⟨p,h _ _ hb,id⟩
theorem Y0.refl(H:Hp):Y0 H H:=(bO.refl H).jC
theorem _root_.Go.LL.aD.jC{H H':Hp}{a:Addr}{cs:List Value}(h:aD H a cs)(hi:Y0 H H'):aD H' a cs:=by obtain⟨h1,o,p,h2,h3⟩:=h;obtain⟨p',h4,_⟩:=hi _ _ _ h2;exact⟨h1,o,p',h4,h3⟩
theorem aV.jC{α:Type}[Enc α]{H H':Hp}{v:Value}{l:List α}(h:aV H v l)(hs:Y0 H H'):aV H' v l:=by obtain⟨A,c,h1,h2⟩:=h;refine⟨A,c,h1,λhn=>?_⟩;obtain⟨a,h3,h4⟩:=h2 hn;exact⟨a,h3,h4.jC hs⟩
def D1(H:Hp)(g:List Nat):Hp:=⟨λb=>(H b).map λx=>(x.1,false),g⟩
theorem Qw(H:Hp)(g:List Nat)(b:Nat):D1 H g b=(H b).map λx=>(x.1,false):=rfl
theorem ZhK(H:Hp)(g:List Nat):Y0 H (D1 H g):=λb o p hb=>⟨false,by rw[Qw,hb];rfl,by simp⟩
theorem ZhJ(H:Hp)(g:List Nat):(D1 H g).Less H:=λb o pm hb=>by rw[Qw]at hb;obtain⟨x,hx,he⟩:=qAm.1 hb;obtain⟨o',p'⟩:=x;simp only[qAG]at he;obtain⟨rfl,rfl⟩:=he;exact⟨p',hx,by simp⟩
theorem ZpP(H:Hp)(g g':List Nat):(D1 H g).Dis (D1 H g'):=λb x y hx hy=>by rw[Qw]at hx hy;rw[hx]at hy;obtain rfl:=dO hy;obtain⟨z,hz,rfl⟩:=qAm.1 hx;exact⟨rfl,rfl⟩
theorem SU(H:Hp)(g:List Nat):Y0 H (H.tagged g):=Y0.refl H
section
variable{P:bF}[Tz P][Loud P]{H:Hp}
theorem Xy(a b lo hi:Int):LL.Zc P 125 #[.agg #[vi a,vi b],vi lo,vi hi] H λv H'=>H=H'/\v=vb (decide (lo<=a/\a<=b/\b<=hi)):=by refine aO.m (cF Zwy) (args:=[.agg #[vi a,vi b],vi lo,vi hi]) rfl ?_;unfold ZjR;refine Y ?_;refine OI (λh1=>?_) (λh1=>?_)<;>refine Y ?_;refine OI (λh2=>?_) (λh2=>?_)<;>refine Y ?_<;>exact⟨rfl,by simp[YR,h1,h2]⟩;exact⟨rfl,by simp[YR,h1]⟩
theorem Zzd{u w:Value}{a b:List Int}(ha:aV H u a)(hb:aV H w b)(hl:a.length<=1000000)(C1:b.length<=1000000):LL.Zc P 23 #[u,w] H λv H'=>H=H'/\v=vb (decide (a=b)):=by
 refine aO.m (cF c25) (args:=[u,w]) rfl ?_;unfold Rz;refine Y ?_;refine YD ha rfl (Y ?_);refine YD hb rfl (Y ?_);refine OI (λh1=>?_) (λh1=>?_)
 ·refine Y ?_;exact⟨rfl,by rw[qAZ (show ¬ a=b by rintro rfl;exact h1 rfl)];rfl⟩
 have dJ:a.length=b.length:=O;refine Y ?_;refine Zw a.length (λj H'=>H=H'/\a.take j=b.take j) (λj=>[(0,u),(1,w),(5,vi j)]) (λ_=>[]) ⟨rfl,rfl⟩ V trivial ?_;rintro j _ hj ⟨rfl,dY⟩;refine Y ?_;refine YD ha rfl (Y ?_);refine OI (λh2=>?_) (λh2=>?_)
 ·have cH:j<a.length:=O;refine Y ?_;refine Zx ha rfl rfl rfl (i:=j) cH λp hp=>Y ?_;refine Zg (OL _) rfl hp (Y ?_);refine Zx hb rfl rfl rfl (i:=j) O λq hq=>Y ?_;refine Zg (OL _) rfl hq (Y ?_);refine OI (λh3=>?_) (λh3=>?_)
  ·refine Y ?_;exact⟨rfl,by rw[qAZ (show ¬ a=b by rintro rfl;exact h3 rfl)];rfl⟩
  refine Y ?_;exact⟨⟨j+1,O⟩,dX O,⟨rfl,by rw[qAd cH,qAd (show j<b.length by omega),dY,h3]⟩,V,trivial,rfl⟩
 have:j=a.length:=O;subst this;rw[qAw,qBA O]at dY;refine Y ?_;exact⟨rfl,by rw[decide_eq_true dY];rfl⟩
end
theorem CL{H:Hp}{a:Addr}{cs ds:List Value}{n:Nat}(h:aD H a cs)(e:cs.drop n=ds):aD H (a.add n) ds:=by subst e;obtain⟨h1,o,p,h2,h3⟩:=h;refine⟨W4 h1 _,o,p,by rw[LB];exact h2,λj hj=>?_⟩;rw[List.length_drop]at hj;rw[LC,qCg,h3 _ O,qBB]
end Go.Proofs
end
section
open Go Go.LL
namespace Go.LL
section
variable{P:bF}{fn:Func}{t:Nat}{f:FuncId}{v0:Value}
theorem ZhO{f0:FuncId}{G:Frame->List Frame->Hp->Prop}{cs:List Frame}{Post:Value->Hp->Prop}(bU:VX G)
  (hG:∀(fr:Frame) (H:Hp),fr.mode=.returning->fr.defers=[]->fr.fn=f0/\fr.kind=.normal->P.funcs[fr.fn]? = some fn->cD P (results fn fr.tmps) (λv _ H'=>Post v H') false H->Reach P G fr cs H) :
  ∀(ds:List Deferred) (fr:Frame) (H:Hp),fr.mode=.returning->fr.defers=ds->fr.fn=f0/\fr.kind=.normal->P.funcs[fr.fn]? = some fn->pY P fn fr.tmps Post ds H->Reach P G fr cs H:=by
 intro ds;induction ds with
 | nil=>
  intro fr H hm hd hk hf h;exact hG fr H hm hd hk hf h
 | cons d ds ih=>
  intro fr H hm hd hk hf h;have jP:∀H',pY P fn fr.tmps Post ds H'->Reach P G { fr with defers:=ds } cs H':=λH' hu=>ih { fr with defers:=ds } H' hm rfl hk hf hu;have uY:(∃r,d.target=.collected r)\/(UK d.target=true/\(cD P (invoke d.target d.args) (λn _ H'=>E8 P (pY P fn fr.tmps Post ds) n H') false H \/
    (Uz P.toProgram (invoke d.target d.args)/\Zm P (invoke d.target d.args) false false H λ_ H'=>pY P fn fr.tmps Post ds H'))):=by
   simp only[pY]at h
   split at h
   ·exact .inl ⟨_,‹_›⟩
   ·exact .inr h
  rcases uY with⟨r,hr⟩ | uY
  ·simp only[pY,hr]at h;obtain⟨bB,h1,h2⟩:=h;refine .zS (s:=Instr.takeDeferred r) (Q:=λv _ H'=>v=[]/\H'=H.ins r (.deferred none)) ?_ ?_
   ·simp only[Instr.takeDeferred,Zh,getObj,setObj];exact⟨_,_,⟨bB,h1⟩,rfl,rfl,_,⟨bB,h1⟩,rfl,rfl,rfl,rfl,rfl⟩
   rintro v H0 ⟨rfl,_⟩;refine⟨{ fr with defers:=ds },cs,λmain w w' es e1=>⟨seen P fr.fn es,?_,.inr rfl⟩,λH' e3=>?_⟩
   ·rw[SQ hm];obtain⟨tg,da⟩:=d;simp only at hr;subst hr;unfold unwind;rw[hd];simp only[e1,GStep.after,qAx,qAh]
   rw[e3.2];exact jP _ h2
  obtain⟨ht,h⟩:=uY;have eM:∀main w,stepG P main (bT fr cs) w=callDeferred P { fr with defers:=ds } cs none d w:=by intro main w;rw[SQ hm];exact Cb hd ht
  rcases h with h | ⟨hv,h⟩;case inr=>
   refine h G fr (λ_=>{ fr with defers:=ds }) cs bU ⟨λmain cs w w' v es e1=>?_,.inl hv,.inl hv,λh=>by simp at h,λh=>by simp at h,.inl hv⟩ λv H' hu=>jP _ hu
   rw[SQ hm,Cb hd ht]
   exact(Ol ht e1).2 (.inl ⟨v,rfl⟩)
  refine .zS h ?_;intro n H0 h0;cases n with
  | enter f args=>
   refine⟨_,_,λmain w w' es e1=>⟨seen P fr.fn es,?_,.inr rfl⟩,λH' e3=>e3 G _ cs bU (show G7 { fr with defers:=ds }by unfold G7;rw[hm];trivial) λv nA hv=>jP _ hv⟩;rw[eM];exact(Ol ht e1).1 f args rfl
  | value v=>
   refine⟨{ fr with defers:=ds },cs,λmain w w' es e1=>⟨seen P fr.fn es,?_,.inr rfl⟩,λH' e3=>jP _ e3⟩;rw[eM];exact(Ol ht e1).2 (.inl ⟨v,rfl⟩)
  | skip=>
   refine⟨{ fr with defers:=ds },cs,λmain w w' es e1=>⟨seen P fr.fn es,?_,.inr rfl⟩,λH' e3=>jP _ e3⟩;rw[eM];exact(Ol ht e1).2 (.inr rfl)
  | _=>exact h0.elim
def DB(P:Program)(f:FuncId)(fn:Func)(t:Nat)(v:Value)(fr:Frame)(cs:List Frame)(_:Hp):Prop:=
 cs=[]/\fr.mode=.returning/\fr.defers=[]/\(fr.fn=f/\fr.kind=.normal)/\P.funcs[fr.fn]? = some fn/\fn.results=#[.tmp t]/\fr.tmps.getD t undef=v
theorem ZhL(h:fn.results=#[.tmp t])(tmps:Array Value):results fn tmps=pure (tmps.getD t undef):=by simp[results,h]
theorem DB.closed(P:Program)(f:FuncId)(fn:Func)(t:Nat)(v:Value):VX (DB P f fn t v):=λ_ _ _ _ _ h=>h
theorem p8{k:Nat}{n:Ze}{rs:List Zf}(h:aO P f k n rs)(yB:P.funcs[f]? = some fn)(HT:fn.results=#[.tmp t]){args:List Value}{H:Hp}(hk:args.length=k)
  (hw:n.m P (FA P rs λv _=>v=v0) (Vu args) H):Reach P (DB P f fn t v0) (Frame.enter P f args.toArray .normal) [] H:=by
 obtain⟨vY,L,h1,h2,h3,h4⟩:=h;obtain rfl:vY=fn:=dO (h1.symm.trans yB);rw[BY,BY,qAK]at h4;obtain⟨body,hb,hn⟩:=qCx.1 h2;subst hk;have hwn:Dg n rs P args (λv _=>v=v0) H:=by unfold Dg;refine Ze.rR ?_ hw;intro e σ H h;cases e<;>exact h
 obtain⟨⟨hl,hm⟩,xW⟩:=h4;have AZ:eJ P L vY.ntmps (Vu args) H ⟨args.toArray++Array.replicate (vY.ntmps-args.toArray.size) undef,[]⟩ H:=by
  refine⟨by simp;omega,rfl,λ_=>0,.nil,?_,?_,?_,?_,?_,.nil _ _⟩
  ·exact(Hp.dT H).symm
  ·exact Hp.eO H
  ·intro d cs h;simp[Vu]at h
  ·intro d d' cs bJ h;simp[Vu]at h
  intro t v ht;simp only[Vu]at ht;have bV:t<args.length:=by
   rcases qAH t args.length with h | h
   ·exact h
   simp[qAY h]at ht
  have iV:L.lookup t=none:=by
   cases hh:L.lookup t with
   | none=>rfl
   | some d=>
    obtain⟨l1,l2,rfl,_⟩:=qCA.1 hh;have:=qAg.1 hl (t,d) (by simp);simp at this;omega
  unfold VV;rw[iV];simp[Array.getElem?_append,bV];rw[qAI bV]at ht;simpa using ht
 have Fx:g8 P ⟨true,vY.norace⟩ body (λe a H=>match e with | .exit _=>False | _=>pY P vY a.tmps (λv H'=>∃H1 J:Hp,H'=H1.join J/\H1.Comp J/\v=v0) a.defers H) ⟨args.toArray++Array.replicate (vY.ntmps-args.toArray.size) undef,[]⟩ H:=by
  refine(VH (rd:=⟨true,vY.norace⟩) (λh=>by rw[h]at xW;simpa using xW) hn hwn AZ).mono ?_;rintro e ⟨at_,ad⟩ Ha ⟨σ,H',r,hq⟩;cases e with
  | normal=>exact MB h3 _ _ _ _ r hq
  | ret=>exact MB h3 _ _ _ _ r hq
  | exit id=>exact hq.elim
 have he:Frame.enter P f args.toArray .normal=on (Frame.enter P f args.toArray .normal) ⟨args.toArray++Array.replicate (vY.ntmps-args.toArray.size) undef,[]⟩ [.code body]:=by simp[Frame.enter,on,yB,hb]
 rw[he];have hr:(Frame.enter P f args.toArray .normal).roundOf=none:=rfl;have kQ:∀(fr:Frame) (H:Hp),fr.mode=.returning->fr.defers=[]->fr.fn=f/\fr.kind=.normal->P.funcs[fr.fn]? = some vY->cD P (results vY fr.tmps) (λv _ H'=>(λv H'=>∃H1 J:Hp,H'=H1.join J/\H1.Comp J/\v=v0) v H') false H->Reach P (DB P f vY t v0) fr [] H:=by intro fr H a1 a2 ak a3 a4;rw[ZhL HT,Zj]at a4;obtain⟨_,_,_,_,hv⟩:=a4;exact .stop ⟨rfl,a1,a2,ak,a3,HT,hv⟩
 refine Fx (DB P f vY t v0) _ [] [] (DB.closed _ _ _ _ _) ⟨by simp[Frame.enter],λ_=>hr,λh=>by simp only[norace,Frame.enter,yB,Option.any_some];exact h⟩ ?_;intro e a H' hq;cases e with
 | normal=>
  refine .pure (bW:={ on (Frame.enter P f args.toArray .normal) a []with mode:=.returning }) (bJ:=[]) (λmain w=>ZmH hr) ?_;exact ZhO (DB.closed _ _ _ _ _) kQ _ _ _ rfl rfl ⟨rfl,rfl⟩ yB hq
 | ret=>
  intro k';refine .pure (bW:={ on (Frame.enter P f args.toArray .normal) a (.code .ret :: k')with mode:=.returning }) (bJ:=[]) (λmain w=>ZmG hr) ?_;exact ZhO (DB.closed _ _ _ _ _) kQ _ _ _ rfl rfl ⟨rfl,rfl⟩ yB hq
 | exit id=>exact hq.elim
open Go.Conc (Knows Deaf touchAt QuitsD crowd woken Leavers Past)
def vH(w:World):Hp:=⟨λb=>(w.heap[b]?).map λo=>(o,false),[]⟩
theorem SG(w:World)(b:Nat):vH w b=(w.heap[b]?).map λo=>(o,false):=rfl
theorem ZpQ(w:World):(vH w).le w:=λb o p h=>by rw[SG]at h;obtain⟨x,hx,he⟩:=qAm.1 h;simp only[qAG]at he;rw[hx,he.1]
structure Kr(W W':World):Prop where
 os:Go.ConcM.OsLater W.os W'.os
 tape:W'.tape=W.tape
 out:W'.output=W.output
 size:W.heap.size<=W'.heap.size
 heap:∀b,b<W.heap.size->W'.heap[b]? = W.heap[b]?
theorem ZpF{p:Program}{args:Array Value}{W:World}(BN:p.inits.idxOf? f=none)(h:Reach (KL p) (DB p f fn t v0) (Frame.enter p f args .normal) [] (vH W)) :
  ∃M kQ o w' t',runNT p (M+1) (Go.Conc.solo (Go.Conc.G (Frame.enter p f args .normal) []) W) #[]=(.ended o w',t')/\runN p M (Go.Conc.solo (Go.Conc.G (Frame.enter p f args .normal) []) W)=.next kQ /\
   step p kQ=.ended o w'/\Go.Conc.Good p (λv W'=>v=v0/\Kr W W') kQ o w' t':=by
 have hph:=ZpH (P:=KL p) rfl h
 have ha:jL p (vH W) #[bT (Frame.enter p f args .normal) []] W #[] (λ_=>0):=by refine⟨Go.Conc.leavers_one p _,?_,ZpQ W⟩;exact⟨λsaid=>by rintro⟨i,j,_,⟨a,b,ha,_⟩,_⟩;simp[Trace.act?]at ha,λi a ha=>by simp[touchAt,Trace.act?]at ha,λi g hg=>by simp[Trace.g?]at hg,rfl,by simp⟩
 obtain⟨k,fF,w',iD,t',q',H',bW,bJ,h1,h2,h3,h4,h5⟩:=hph _ W none #[] _ ha rfl
 obtain⟨rfl,g1,g2,⟨g3,g3k⟩,g4,g5,g6⟩:=h5
 have nG:∀w1,Go.Conc.AtRel w' w1->Kr W w1:=by rintro w1 ⟨d,rfl⟩;exact⟨h4.out.os,h4.out.tape,h4.out.out,h4.grown,λb hb=>h4.keep b hb λo ho=>by rw[SG]at ho;obtain⟨x,_,he⟩:=qAm.1 ho;simp at he⟩
 have Ir:Go.Conc.Goes p true Go.Conc.AtRel (λ_ _ _=>False) (Go.Conc.AtEnd p (K8 H' w'.heap.size) w'.heap.size (λv W'=>v=v0/\Kr W W')) 0 (bT bW []) w':=by
  intro w1 TZ;refine⟨rfl,v0,#[],?_,by simp,rfl,nG w1 TZ⟩;have hr:(results fn bW.tmps).runT p w1 #[]=(.ok v0 w1,#[]):=by rw[ZhL g5,g6];rfl
  have Ie:p.inits.idxOf? bW.fn=none:=by rw[g3];exact BN
  simp only[bT,stepG,g1,unwind,g2,g4,hr,GStep.after,doReturn,g3k,qAh,Ie];simp[seen]
 obtain⟨N,kQ,o,w2,t2,e1,e2,e3,e4⟩:=Go.Conc.beside_ends (D:=λ_ _ _=>False) (λ_ _ _ h=>h.elim) h2 h3.jB h3.lS Ir
 refine⟨k+N,kQ,o,w2,t2,?_,?_,e3,e4⟩
 ·have:=Bm h1 e1;rw[qCg];exact this
 ·have sY:runN p k (Go.Conc.solo (Go.Conc.G (Frame.enter p f args .normal) []) W)=.next (crowd fF w' iD):=by rw[<-runNT_fst _ _ _ #[]];exact qAC Prod.fst h1
  rw[runN_add,sY];exact e2
end
end Go.LL
end
section
open Go Go.LL Go.Conc Go.ConcM
namespace Go.Proofs
section
variable{C:Checked}{os:Os}{f:FuncId}{fn:Func}{s:ChangeSpec}{vZ:List PathCond}{apart:Bool}{X:World->Array Value->Prop}
section
variable{H:Type}{enc:TypeId×Value->H}
theorem Zui{a:Assume}{F:Stop.Interp}{fresh handsOn:Bool}
  (hX:∀(w w':World) (args:Array Value),w.heap=w'.heap->X w args->X w' args)
  (own:ownKnob C.prog.godebug=none) (gB:os.Started) (yB:C.prog.funcs[f]? = some fn)
  (DH:∃(w:World) (tape:Tape) (i:Input),w.os=os/\(w.forCall tape i).Shaped C.prog/\i.vars=[]/\Input.okWide C.prog (w.forCall tape i) .any w.heap.size f i /\
   ((s.pre enc C.prog fn vZ apart (w.forCall tape i).memory i.args/\X (w.forCall tape i).memory i.args)/\sizedMet enc C.prog fn (OpenSpec.ofChange s) apart (w.forCall tape i).memory i.args)/\a.holds C.prog (lone (Frame.enter C.prog f i.args .normal) [] (w.forCall tape i)))
  (lB:∀(W:World) (base:Nat) (args:Array Value) (ds gs:List (DataW H)) (jF:List MemPlace),
   (∀(j:Nat) t v,fn.params[j]? = some t->args[j]? = some v->Value.okWide C.prog W .any base t v) ->
   DataW.Whole enc C.prog fn.params.toList s.vars apart W args.toList ds gs jF ->
   X W args ->
   ∃M kQ o w' t',runNT C.prog (M+1) (solo (G (Frame.enter C.prog f args .normal) []) W) #[]=(.ended o w',t')/\runN C.prog M (solo (G (Frame.enter C.prog f args .normal) []) W)=.next kQ /\
    step C.prog kQ=.ended o w'/\Conc.Good C.prog (λv W'=>s.post enc C.prog fn apart fresh handsOn false W args v { W' with os:=W.os }/\OsLater W.os W'.os) kQ o w' t') :
  ReturnsInLeavingWide a C os f .any (λw args=>(s.pre enc C.prog fn vZ apart w args/\X w args)/\sizedMet enc C.prog fn (OpenSpec.ofChange s) apart w args) ((OpenSpec.ofChange s).postWith enc C.prog fn F (outsideKept [.timePasses]) apart fresh handsOn):=by
 refine returnsInLeavingWide_of_good own gB DH ?_;intro w tape i _ _ _ m7 BC Ih;obtain⟨_,_,_,vY,Im,_,_,_,_,gY⟩:=m7;have e:vY=fn:=dO (Im.symm.trans yB);subst e;obtain⟨⟨⟨ds,gs,jF,hw,hc⟩,hx⟩,hz⟩:=BC;have hw':=DataW.Whole.of_heap (w':=w.forCall tape i) (by rfl) hw;obtain⟨M,kQ,o,w',t',h1,h2,h3,h4⟩:=lB (w.forCall tape i) w.heap.size i.args ds gs jF gY hw' (hX _ _ _ (by rfl) hx);obtain⟨v,e,hp,r1,r2,r3,r4⟩:=h4;exact⟨M,kQ,o,w',t',h1,h2,h3,v,e,postWith_blind (postWith_of_post hp.1 hp.2),r1,r2,r3,r4⟩
theorem ZnW(w0:World)(args:Array Value)(fuel:Nat)(HY:w0.os=os)
  (hsh:(w0.forCall (λ_ _=>0) ⟨#[],args,[]⟩).Shaped C.prog)
  (m7:Input.okWideB C.prog (w0.forCall (λ_ _=>0) ⟨#[],args,[]⟩) f ⟨#[],args,[]⟩=true)
  (BC:s.preB enc C.prog fn vZ apart (w0.forCall (λ_ _=>0) ⟨#[],args,[]⟩).memory args fuel=true)
  (fP:s.sizedB enc C.prog fn apart (w0.forCall (λ_ _=>0) ⟨#[],args,[]⟩).memory args fuel=true)
  (hx:X (w0.forCall (λ_ _=>0) ⟨#[],args,[]⟩).memory args) :
  ∃(w:World) (tape:Tape) (i:Input),w.os=os/\(w.forCall tape i).Shaped C.prog/\i.vars=[]/\Input.okWide C.prog (w.forCall tape i) .any w.heap.size f i /\
   ((s.pre enc C.prog fn vZ apart (w.forCall tape i).memory i.args/\X (w.forCall tape i).memory i.args)/\sizedMet enc C.prog fn (OpenSpec.ofChange s) apart (w.forCall tape i).memory i.args)/\({ calm:=true }:Assume).holds C.prog (lone (Frame.enter C.prog f i.args .normal) [] (w.forCall tape i)):=
 ⟨w0,λ_ _=>0,⟨#[],args,[]⟩,HY,hsh,(Input.okWide_of_okWideB (base:=0) m7).1,(Input.okWide_of_okWideB m7).2,⟨⟨ChangeSpec.pre_of_preB BC,hx⟩,sizedMet_of_sizedB fP⟩,by simp only[Assume.holds];exact⟨by simp,λ_ _ _ _=>rfl,by simp,by simp,by simp⟩⟩
end
theorem Zn9:ownKnob Tryz.prog.godebug=none:=U
theorem Kl:laidOutB Tryz.prog=true:=U
end
section
open YtlhomfgcibjccaaGreatDoor
theorem ZnZ(os:Os)(args:Array Value):((World.doorLaid Tryz.prog 600 os).forCall (λ_ _=>0) ⟨#[],args,[]⟩).Shaped Tryz.prog:=World.shaped_of_RefB U U
end
section
variable{t:TypeId}{v:Value}{i:Nat}{α:Type}
open YtlhomfgcibjccaaGreatDoor
section
variable{H:Type}{enc:TypeId×Value->H}{W:World}{base:Nat}{sp:Nat->Bool}{held:Bool}{fuel:Nat}{cs:List Value}{y:DataW H×List MemPlace}
theorem Ztn{P:Program}{r:Reach}{b0:Nat}{fs:Array Field}(ht:P.underlying t=some (.struct fs))(h:Value.okWide P W r b0 t v):∃c,v=.agg c:=by unfold Value.okWide at h;rw[ht]at h;obtain⟨c,rfl,_⟩:=h;exact⟨c,rfl⟩
theorem VU{W:World}{a:Addr}(h:W.cell? a=some v):a.spot=none/\∃o,W.heap[a.block]? = some o/\Obj.mH o a.off=some v:=by
 unfold World.cell? at h;split at h
 ·rename_i c t f ho;split at h
  ·simp at h
  rename_i hs;exact⟨by simpa using hs,_,ho,h⟩
 simp at h
theorem OK(h:DataW.trod enc Tryz.prog W base sp held fuel 3 cs=some y):∃n,cs=[vi n]:=by obtain⟨n,h,_⟩:=DataW.trod_int Tryz.underlying3 h;exact⟨n,h⟩
theorem Uv{cs:List Value}(h:(cs.drop i).take 1=[v]):cs[i]? = some v:=by have:=qAC (·[0]?) h;simpa[qBS,qBB]using this
theorem Ae{l m:List Value}(hl:l.length=m.length)(h:∀i,i<m.length->l[i]? = m[i]?):l=m:=by
 apply qDa;intro i;rcases qAH i m.length with hi | hi
 ·exact h i hi
 rw[qAY hi,qAY O]
theorem W8:Tryz.prog.cellsOf 3=1:=U
theorem Lf:Tryz.prog.cellsOf 36=2:=U
theorem ZvZ:Tryz.prog.cellsOf 22=1:=U
theorem ZvY:Tryz.prog.cellsOf 23=1:=U
theorem Vz{β:Type}{xs:List (α×β)}(h:i<xs.length):∃y,xs[i]? = some y:=⟨_,qAI h⟩
theorem Zhf(h:DataW.trod enc Tryz.prog W base sp held fuel 36 cs=some y):∃a b,cs=[vi a,vi b]:=by
 obtain⟨xs,n,rfl,_,hl,hx,hf⟩:=DataW.trod_struct Tryz.underlying36 h;rw[Lf]at hl;obtain⟨y0,h0⟩:=Vz (xs:=xs) (i:=0) (by rw[hx];decide);obtain⟨y1,h1⟩:=Vz (xs:=xs) (i:=1) (by rw[hx];decide);have f0:DataW.trod enc Tryz.prog W base sp held n 3 ((cs.drop 0).take (Tryz.prog.cellsOf 3))=xs[0]?:=hf 0 _ rfl;have f1:DataW.trod enc Tryz.prog W base sp held n 3 ((cs.drop 1).take (Tryz.prog.cellsOf 3))=xs[1]?:=hf 1 _ rfl;rw[h0]at f0;rw[h1]at f1;obtain⟨a,ha⟩:=OK f0;obtain⟨b,hb⟩:=OK f1;rw[W8]at ha hb;have ha:=Uv ha;have hb:=Uv hb;refine⟨a,b,Ae hl λi hi=>?_⟩;match i,hi with
 | 0,_=>exact ha
 | 1,_=>exact hb
theorem Pp[Enc α]{e:TypeId}(ht:Tryz.prog.underlying t=some (.slice e))(hc:Tryz.prog.cellsOf e=Enc.sz α)(eU:0<Enc.sz α)
  (pV:∀{n:Nat} {cs:List Value} {y:DataW H×List MemPlace},DataW.trod enc Tryz.prog W base sp held n e cs=some y->∃x:α,cs=Enc.enc x)
  (h:DataW.trod enc Tryz.prog W base sp held fuel t cs=some y):∃v,cs=[v]/\∃l:List α,aV (vH W) v l:=by
 rcases DataW.trod_slice ht h with⟨rfl,_⟩ | ⟨a,len,cap,GK,rest,n,_,rfl,_,_,hl,_,dJ,hE,_⟩
 ·exact⟨_,rfl,[],.nil _⟩
 have hx:∀i,i<len->∃x:α,W.cells? base (a.add (i * Enc.sz α)) (Enc.sz α)=some (Enc.enc x):=by intro i hi;obtain⟨y,hy⟩:=Vz (xs:=GK) (i:=i) O;have:=hE i hi;rw[hy,hc,qCx]at this;obtain⟨c,h1,h2⟩:=this;obtain⟨x,rfl⟩:=pV h2;exact⟨x,h1⟩
 let l:List α:=List.ofFn λi:Fin len=>(hx i.1 i.2).choose
 have T6:l.length=len:=by simp[l]
 have hg:∀i (hi:i<l.length),W.cells? base (a.add (i * Enc.sz α)) (Enc.sz α)=some (Enc.enc l[i]):=by intro i hi;have:=(hx i O).choose_spec;simpa[l]using this
 refine⟨_,rfl,l,some a,cap,by rw[T6],λdG=>⟨a,rfl,?_⟩⟩;have GF:∀i (hi:i<l.length),∀j,j<Enc.sz α->W.cell? ((a.add (i * Enc.sz α)).add j)=(Enc.enc l[i])[j]?:=λi hi=>(World.cells?_some (hg i hi)).2.2;have PG:0<l.length:=qBM.2 dG;have N3:a.spot=none/\∃o,W.heap[a.block]? = some o:=by
  have h0:=GF 0 PG 0 eU;have:((Enc.enc l[0])[0]? : Option Value)=some ((Enc.enc l[0])[0]'(by rw[Enc.len];exact eU)):=qAI _;rw[this]at h0;obtain⟨s1,o,s2,_⟩:=VU h0;have e0:(a.add (0 * Enc.sz α)).add 0=a:=by simp[Addr.add]
  rw[e0]at s1 s2;exact⟨s1,o,s2⟩
 obtain⟨hs,o,ho⟩:=N3;refine⟨hs,o,false,by rw[SG,ho];rfl,λj hj=>?_⟩;rw[VG]at hj;have hi:j / Enc.sz α<l.length:=(Nat.div_lt_iff_lt_mul eU).2 hj;have hm:j % Enc.sz α<Enc.sz α:=qCW _ eU;have sZ:j=j / Enc.sz α * Enc.sz α+j % Enc.sz α:=(Nat.div_add_mod' j _).symm;have hv:(Enc.enc l[j / Enc.sz α])[j % Enc.sz α]? = some ((Enc.enc l[j / Enc.sz α])[j % Enc.sz α]'(by rw[Enc.len];exact hm)):=qAI _;have rL:=GF _ hi _ hm;rw[hv]at rL;obtain⟨_,o',s2,s3⟩:=VU rL;rw[LB,LB,ho]at s2;obtain rfl:=dO s2;rw[LC,LC,qCg,<-sZ]at s3;have e9:=LK l _ _ hi hm;rw[<-sZ]at e9;rw[s3,e9,hv]
end
end
section
open YtlhomfgcibjccaaGreatDoor
open Go.ChangeShapes Go.WideShapes Go.ChangeAt Go.RowKit
theorem jJ(Lk:Looks){p:Pinned}{s:OpenSpec}{c:OpenClaim}(kinds:List LaidKind)(zB:Bool)(I7:Bool×String)(lk:Bool)
  (hc:c.holds p s) (hw:c.wfByText s=true) (Fy:c.laidByTextAt Lk p kinds zB)
  (bB:c.start=.entering) (hnb:c.noBlocks=false/\c.again=false) (hm:p.checked.prog.mainIs=some (I7.1,I7.2.toList)) (hn:(!I7.1 && I7.2.isEmpty && !lk)=false)
  (hl:∀f fn,p.checked.prog.funcNamed c.func=some f->p.checked.prog.funcs[f]? = some fn->lk=p.checked.prog.looks []/\∀(j:Nat) t,fn.params[j]? = some t->p.checked.prog.wantsStandIn t=false)
  (hg:true=c.goesBy p.checked.prog) :
  Claim7.holds p (.plain s) { stood:={ row:=c,standIns:=[],harness:=I7,looks:=lk },kinds:=[],alts:=[],goes:=true,laidByText:=true,laidKinds:=kinds,laidTests:=zB,laidLooks:=Lk }:=by
 have h6:∀r:OpenClaim,Claim7.isSixth { stood:={ row:=r,standIns:=[],harness:=I7,looks:=lk },kinds:=[] }=false:=λr=>by simpa[Claim7.isSixth]using hn
 refine⟨Claim7.tied_new_at Lk kinds zB (Claim7.new_of_sixth hc I7 lk bB hnb hm (h6 c) hl) hw,λD hD=>?_,Fy,(λh=>by cases h),hg⟩;simp at hD
section
variable{H:Type}{enc:TypeId×Value->H}
theorem Znl{P:Program}(hl:laidOutB P=true){W W':World}(hb:Below W.heap.size W W'):∀{ts:List TypeId} {vs:List Value} {ds:List (DataW H)} {ps:List MemPlace},(∀t∈ts,P.readableRec t=true/\t<P.types.size) ->
  DataW.TrodAll enc P W 0 (λ_=>true) true ts vs ds ps->(∀x∈ps,x.block<W.heap.size)->DataW.TrodAll enc P W' 0 (λb=>decide (b<W.heap.size)) true ts vs ds ps
 | [],[],[],_,_,h,_=>h
 | t :: ts,v :: vs,d :: ds,ps,hr,h,bV=>by obtain⟨p,q,h1,h2,rfl⟩:=h;have ht:=hr t (by simp);exact⟨p,q,hb.trod hl ht.1 ht.2 h1 (λx hx=>bV x (by simp[hx])),Znl hl hb (λt ht=>hr t (by simp[ht])) h2 (λx hx=>bV x (by simp[hx])),rfl⟩
 | [],_ :: _,_,_,_,h,_=>by simp[DataW.TrodAll]at h
 | [],[],_ :: _,_,_,h,_=>by simp[DataW.TrodAll]at h
 | _ :: _,[],_,_,_,h,_=>by simp[DataW.TrodAll]at h
 | _ :: _,_ :: _,[],_,_,h,_=>by simp[DataW.TrodAll]at h
theorem ZgS{P:Program}{W:World}{base:Nat}{sp:Nat->Bool}{held:Bool}:∀{ts:List TypeId} {vs:List Value} {ds:List (DataW H)} {ps:List MemPlace},DataW.TrodAll enc P W base sp held ts vs ds ps->ds.length=ts.length
 | [],[],[],_,_=>rfl
 | t :: ts,v :: vs,d :: ds,ps,h=>by obtain⟨p,q,h1,h2,rfl⟩:=h;simp[ZgS h2]
 | [],_ :: _,_,_,h=>by simp[DataW.TrodAll]at h
 | [],[],_ :: _,_,h=>by simp[DataW.TrodAll]at h
 | _ :: _,[],_,_,h=>by simp[DataW.TrodAll]at h
 | _ :: _,_ :: _,[],_,h=>by simp[DataW.TrodAll]at h
end
end
end Go.Proofs
end
open Go Go.LL Go.Conc Go.ConcM
namespace Go.Proofs.YtlhomfgcibjccaaGreatDoor
theorem bN{a b:Bool}(h:a=true)(g:b=true):(a && b)=true:=by rw[h,g];rfl
theorem AJ:mapsRowed Tryz.pinned.checked.prog=true:=U
theorem vK:Tryz.pinned.checked.prog.stopsHeard=true:=U
theorem vL:Tryz.pinned.checked.prog.mayEnter=true:=U
