import Derived.Test.YthmnpenamnoniaaGreatDoorP24
set_option linter.all false
set_option maxHeartbeats 4000000
section
open Go Go.LL
namespace Go.Proofs
section
variable{kd:CallKind}{Hl:Hp}{l:List Nat}{G:Prop}{g:Bool}
def Ba:Zb:=(.block 0 (.loop (.block 1 (.seq (.seq (.aG [⟨none,(some 14),(.cV (.tmp 4))⟩,⟨none,(some 15),(.raw (.binOp .shr 21 (.tmp 14) (.const (.int .u64 3)) 240) 21)⟩,⟨none,(some 16),(.bC .eql (.tmp 15) (.const (.int .i32 0)))⟩,⟨none,(some 17),(.cV (.tmp 16))⟩,⟨(some (17,false)),(some 18),(.cV (.tmp 4))⟩,⟨(some (17,false)),(some 19),(.raw (.binOp .and 21 (.tmp 18) (.const (.int .i32 7)) 21) 21)⟩,⟨(some (17,false)),(some 20),(.bC .neq (.tmp 19) (.const (.int .i32 0)))⟩,⟨none,(some 21),(.pick (.tmp 17) (.const (.bool true)) (.tmp 20))⟩]) (.cond (.tmp 21) .ret .skip)) (.seq (.aG [⟨none,(some 22),(.cV (.tmp 4))⟩,⟨none,(some 23),(.raw (.binOp .sub 21 (.tmp 22) (.const (.int .i32 8)) 21) 21)⟩,⟨none,(some 24),(.raw (.binOp .or 21 (.tmp 23) (.const (.int .i32 2)) 21) 21)⟩,⟨none,(some 1),(.cV (.tmp 24))⟩]) (.seq (.seq (.aG [⟨none,(some 25),(.cV (.tmp 0))⟩,⟨none,(some 26),(.raw (.nilCheck (.tmp 25)) 0)⟩,⟨none,(some 27),(.aU 0 (.tmp 26))⟩,⟨none,(some 28),(.cV (.tmp 4))⟩,⟨none,(some 29),(.cV (.tmp 1))⟩,⟨none,(some 30),(.raw (.call (.mk (.value (.func 210)) #[(.tmp 27),(.tmp 28),(.tmp 29)] #[294,21,21])) 4)⟩]) (.cond (.tmp 30) (.seq (.aG [⟨none,(some 31),(.cV (.tmp 0))⟩,⟨none,(some 32),(.raw (.nilCheck (.tmp 31)) 0)⟩,⟨none,(some 33),(.aU 1 (.tmp 32))⟩,⟨none,(some 34),(.raw (.call (.mk (.value (.func 237)) #[(.tmp 33),(.const (.bool false)),(.const (.int .i64 2))] #[249,4,3])) 0)⟩]) .ret) .skip)) (.aG [⟨none,(some 35),(.cV (.tmp 0))⟩,⟨none,(some 36),(.raw (.nilCheck (.tmp 35)) 0)⟩,⟨none,(some 37),(.aU 0 (.tmp 36))⟩,⟨none,(some 38),(.eQ (.load 21 (.tmp 37)) 21)⟩,⟨none,(some 4),(.cV (.tmp 38))⟩])))))))
section
variable{c:Cx}{i:Nat}{H0:Hp}
theorem P7(ok:c.Ok)(N:kd=.normal\/kd=.deferred){L W S n m:Nat}(w:bU L W S n){H:Hp}{v:Value}(hv:v=.int .i32 (bF L W S n:Nat))(hL:L=0)
  (hg:(S=0/\(n=0\/W=1)/\H.gh=[18])\/(W=0/\S=0/\1<=n/\H.gh=[15,bF 0 0 0 n,m])\/(S=1/\H.gh=[17])) :
  Vj (pw c i) kd 213 #[ptr c.M,v] H λ_ q=>q=H.tagged [18]:=by
 subst hv hL;refine aI.mK (P:=pw c i) N Zxl rfl ?_;unfold Gw;refine Z ?_;refine Yk rfl rfl rfl ?_;have e1:IntKind.i32.wrap ((bF 0 W S n:Nat)+1)=((bF 1 W S n:Nat):Int):=by
  have:=w.lt;have e:((bF 0 W S n:Nat):Int)+1=((bF 1 W S n:Nat):Int):=by unfold bF;omega
  rw[<-e,uR O O]
 show ZS _ _ _ (aL.set _ _ (.int .i32 (IntKind.i32.wrap _))) _;rw[e1];have F:bU 1 W S n:=⟨O,w.W,w.S,w.n⟩;refine Z ?_;refine Zq rfl rfl (.inl rfl) F.and1 (Z ?_);refine Yj rfl rfl rfl (by simp) (Z ?_);refine Zq rfl rfl (.inl rfl) w.eR (Z ?_);have p:∀σ:aL,S=0->∀o:Bool,(o=false->(W=1\/n=0)/\H.gh=[18])->(o=true->W=0/\1<=n/\H.gh=[15,bF 0 0 0 n,m])->σ.env 0=some (ptr c.M)->σ.env 4=some (.int .i32 (bF 0 W S n:Nat))->σ.bN=[] ->
   (Ba).m (pw c i) (sC (pw c i) Mv λ_ q=>q=H.tagged [18]) σ H:=by
  intro σ Y o C t Q R s
  unfold Ba
  refine Z ?_
  refine B7 (λ(j:Nat×Nat×Nat×Nat×Nat×Bool) q=>bU j.1 j.2.1 j.2.2.1 j.2.2.2.1/\(j.2.2.2.2.2=false->(j.1=1\/j.2.1=1\/j.2.2.1=1\/j.2.2.2.1=0)/\q=H.tagged [18]) /\
    (j.2.2.2.2.2=true->j.1=0/\j.2.1=0/\j.2.2.1=0/\1<=j.2.2.2.1/\q=H.tagged [15,bF 0 0 0 j.2.2.2.1,j.2.2.2.2.1]))
   (λj=>bif j.2.2.2.2.2 then j.2.2.2.2.1+1 else 0) (λj=>[(0,ptr c.M),(4,.int .i32 (bF j.1 j.2.1 j.2.2.1 j.2.2.2.1:Nat))]) (λ_=>[]) (0,W,0,n,m,o) ?_ ⟨Q,by rw[R,Y],trivial⟩ trivial ?_
  ·subst Y;refine⟨w,λe=>⟨(C e).1.elim (λh=>.inr (.inl h)) λh=>.inr (.inr (.inr h)),by rw[<-(C e).2];exact(FS H).symm⟩,λe=>⟨rfl,(t e).1,rfl,(t e).2.1,by rw[<-(t e).2.2];exact(FS H).symm⟩⟩
  rintro⟨L',W',S',T,m',u⟩ q ⟨a,A,B⟩
  simp only at a A B
  rw[s]
  refine Z ?_
  refine Vz rfl rfl (.inl rfl) (by decide) a.gT ?_
  refine Z ?_
  cases u with
  | false=>
   obtain⟨hc,rfl⟩:=A rfl;by_cases hn:T=0
   ·refine YM rfl rfl rfl (by simp[hn]) (Z ?_);rfl
   refine Yj rfl rfl rfl (by simpa using hn) (Z ?_);refine Zq rfl rfl (.inl rfl) a.rC (Z ?_);refine Y7 rfl rfl rfl O (Z ?_);rfl
  | true=>
   obtain⟨rfl,rfl,rfl,E,rfl⟩:=B rfl;refine Yj rfl rfl rfl O (Z ?_);refine Zq rfl rfl (.inl rfl) a.rC (Z ?_);refine Ye rfl rfl rfl (by simp) (Z ?_);obtain⟨k,rfl⟩:∃k,T=k+1:=⟨T-1,O⟩;have I:bU 0 0 0 k:=⟨O,O,O,by have:=a.n;omega⟩;refine Zq rfl rfl (.inr (.inr (.inr rfl))) a.tJ (Z ?_);refine Zq rfl rfl (.inr (.inl rfl)) I.or2 (Z ?_);refine Zt YT (vs:=[ptr c.M,.int .i32 (bF 0 0 0 (k+1):Nat),.int .i32 (bF 0 1 0 k:Nat)]) rfl (ZzZ ok YT a (by rfl)) ?_;rintro v _ (⟨rfl,rfl⟩ | ⟨rfl,rfl⟩)
   ·refine Z ?_;refine Zt DU (vs:=[.pointer (some ((cC c.M).add 1)),.bool false,.int .i64 2]) rfl (TU ok DU rfl (by rfl)) ?_;rintro v _ ⟨rfl,rfl⟩;refine Z ?_;rfl
   refine Z ?_;refine Vr rfl (ZzS ok kL rfl (by rfl)) ?_;rintro v _ (⟨L2,W2,S2,U,r,J,rfl,rfl⟩ | ⟨U,m2,r,h3,rfl,rfl,hm⟩)
   ·refine Z ?_;exact⟨(L2,W2,S2,U,0,false),by simp,⟨r,λ_=>⟨J,rfl⟩,λe=>by simp at e⟩,V,trivial,rfl⟩
   refine Z ?_;exact⟨(0,0,0,U,m2,true),by simpa using hm,⟨r,λe=>by simp at e,λ_=>⟨rfl,rfl,rfl,h3,rfl⟩⟩,V,trivial,rfl⟩
 rcases hg with⟨rfl,E,z⟩ | ⟨rfl,rfl,E,z⟩ | ⟨rfl,z⟩
 ·refine YM rfl rfl rfl (by simp) (Z ?_);exact p _ rfl false (λ_=>⟨E.symm,z⟩) (λe=>by simp at e) rfl rfl rfl
 ·refine YM rfl rfl rfl (by simp) (Z ?_);exact p _ rfl true (λe=>by simp at e) (λ_=>⟨rfl,E,z⟩) rfl rfl rfl
 refine Yj rfl rfl rfl (by simp) (Z ?_);refine Zt DU (vs:=[.pointer (some ((cC c.M).add 1)),.bool true,.int .i64 2]) rfl (TU ok DU rfl z) ?_;rintro v _ ⟨rfl,rfl⟩;refine Z ?_;rfl
theorem Zpe(ok:c.Ok)(u:kd=.normal\/kd=.deferred)(B:H0.Comp Hl)(p:H0.gh=12 :: l)(s:c.PI (l++[i]) Hl) :
  Vj (pw c i) kd 169 #[ptr c.M] (H0.join Hl) λ_ q=>q=H0.tagged [19]:=by
 have w:Hl.gh=[]:=B.gh.resolve_left (by rw[p];simp);have t:(H0.join Hl).gh=12 :: l:=by rw[Hp.bI,w,p];simp
 have h:Ys (H0.join Hl).gh:=by rw[t];exact .inl (by simp[cd])
 refine aI.mK (P:=pw c i) u ZxF rfl ?_;unfold Ip;refine Z ?_;refine Vr rfl (ZuG ok kL rfl h) ?_;rintro v _ rfl;refine Z ?_;refine VO rfl (U4 ok Ov rfl (.inl rfl) h) ?_;rintro v _ ⟨rfl,rfl⟩;refine Z ?_;refine Zt DR (vs:=[ptr c.M]) rfl (ZzT ok DR B p s) ?_;rintro v _ ⟨rfl,rfl⟩;refine Z ?_;refine Zt U2 (vs:=[]) rfl (ZzV ok U2 (by rfl)) ?_;rintro v _ ⟨rfl,rfl⟩;refine Z ?_;refine Zt Ve (vs:=[ptr c.M,.int .i32 (-1)]) rfl (ZzQ ok Ve (by rfl)) ?_;have e:∀{σ:aL} {H:Hp},H.gh=[18]->H.tagged [19]=H0.tagged [19]->σ.bN=[]->(Zb.aG [⟨none,some 20,.raw (.call (.mk (.value (.func 157)) #[] #[])) 0⟩]).m (pw c i) (sC (pw c i) Mt λ_ q=>q=H0.tagged [19]) σ H:=by intro σ H p D C;refine Z ?_;refine Zt Yu (vs:=[]) rfl (ZzU ok Yu (by rw[p];rfl)) ?_;rintro v _ ⟨rfl,rfl⟩;refine Z ?_;exact yD (B6 (vs:=[]) C rfl rfl D)
 rintro v _ (⟨W,n,o,r,rfl,rfl⟩ | ⟨n,m,o,r,rfl,rfl⟩ | ⟨n,o,rfl,rfl⟩)
 ·by_cases A:bF 0 W 0 n=0
  ·refine Z ?_;refine Ye rfl rfl rfl (by simpa using A) (Z ?_);exact e rfl rfl rfl
  refine Z ?_;refine Y7 rfl rfl rfl (by simpa using A) (Z ?_);refine Zv (vs:=[ptr c.M,.int .i32 (bF 0 W 0 n:Nat)]) rfl (P7 (m:=0) ok (.inl rfl) o rfl rfl (.inl ⟨rfl,r,rfl⟩)).iW ?_;rintro v _ rfl;refine Z ?_;exact e rfl rfl rfl
 ·refine Z ?_;refine Y7 rfl rfl rfl (by unfold bF;omega) (Z ?_);refine Zv (vs:=[ptr c.M,.int .i32 (bF 0 0 0 n:Nat)]) rfl (P7 (m:=m) ok (.inl rfl) o rfl rfl (.inr (.inl ⟨rfl,rfl,r,rfl⟩))).iW ?_;rintro v _ rfl;refine Z ?_;exact e rfl rfl rfl
 refine Z ?_;refine Y7 rfl rfl rfl (by unfold bF;omega) (Z ?_);refine Zv (vs:=[ptr c.M,.int .i32 (bF 0 0 1 n:Nat)]) rfl (P7 (m:=0) ok (.inl rfl) o rfl rfl (.inr (.inr ⟨rfl,rfl⟩))).iW ?_;rintro v _ rfl;refine Z ?_;exact e rfl rfl rfl
theorem Zpd(ok:c.Ok)(e:kd=.normal\/kd=.deferred)(j:H0.Comp Hl)(k:H0.gh=12 :: l)(a:c.PI (l++[i]) Hl) :
  Vj (pw c i) kd 107 #[ptr c.M] (H0.join Hl) λ_ h=>h=H0.tagged [19]:=by
 refine aI.mK (P:=pw c i) e Zyw rfl ?_;unfold Ds;refine Z ?_;refine Zv (vs:=[ptr c.M]) rfl (Zpe ok (.inl rfl) j k a).iW ?_;rintro v _ rfl;refine Z ?_;rfl
end
def N6(h:G:=by refine Z ?_;refine Zq rfl rfl (.inl rfl) hB.iI (Z ?_);refine YM rfl rfl rfl (by simp) ?_;exact N3):G:=h
def Kb(h:G:=by refine Z ?_;refine Vr rfl (EM (M:=m) ok kL rfl (.inl rfl)) ?_;rintro v _ ⟨L2,n2,m2,dJ,rfl,rfl,hm,_⟩;have hm:=hm rfl;refine Z ?_;exact⟨⟨true,true,it,nP,L2,1,0,n2,m2⟩,by simp only;omega,⟨dJ,by simp only;omega,λe=>by simp at e,λ_=>⟨rfl,rfl,rfl⟩⟩,V,trivial,rfl⟩):G:=h
def Ka(h:G:=by refine Z ?_;refine Vr rfl (EM (M:=m) ok kL rfl (.inl rfl)) ?_;rintro v _ ⟨L2,n2,m2,dJ,rfl,rfl,hm,_⟩;have hm:=hm rfl;refine Z ?_;exact⟨⟨true,false,it,nP,L2,1,0,n2,m2⟩,by simp only;omega,⟨dJ,by simp only;omega,λe=>by simp at e,λ_=>⟨rfl,rfl,rfl⟩⟩,V,trivial,rfl⟩):G:=h
def Jz(h:G:=by refine Z ?_;refine OX DT (vs:=[]) rfl ?_;refine(yS ?_);refine Z ?_;refine Yk rfl rfl rfl ⟨by unfold kQ;simp only;omega,?_⟩;refine Z ?_;refine Vr rfl (EL (M:=m) ok kL rfl (.inr (.inr ⟨_,rfl⟩))) ?_;rintro v _ ⟨L2,W2,S2,n2,m2,dJ,rfl,rfl,_,hm⟩;have hm:=hm ⟨_,rfl⟩;refine Z ?_;exact⟨⟨false,false,(it+1),nP,L2,W2,S2,n2,m2⟩,by simp only;omega,⟨dJ,by simp only;omega,λ_=>⟨rfl,rfl⟩,λe=>by simp at e⟩,V,trivial,rfl⟩):G:=h
def N5(h:G:=by refine Z ?_;refine Vr rfl (EL (M:=m) ok kL rfl (.inr (.inl rfl))) ?_;rintro v _ ⟨L2,W2,S2,n2,m2,dJ,rfl,rfl,hm,_⟩;have hm:=hm rfl;refine Z ?_;exact⟨⟨false,false,it,nP,L2,W2,S2,n2,m2⟩,by simp only;omega,⟨dJ,by simp only;omega,λ_=>⟨rfl,rfl⟩,λe=>by simp at e⟩,V,trivial,rfl⟩):G:=h
def Jy(h:G:=by
  refine Z ?_;refine Zq rfl rfl (.inl rfl) dJ.eR (Z ?_);refine Y7 rfl rfl rfl (by simp) (Z ?_);refine Zq rfl rfl (.inl rfl) dJ.lD (Z ?_);refine Ye rfl rfl rfl (by simp) (Z ?_);refine Vz rfl rfl (.inl rfl) (by decide) dJ.gT (Z ?_);refine Yj rfl rfl rfl O (Z ?_);refine Vz rfl rfl (.inl rfl) (by decide) dJ.gT (Z ?_);by_cases h1:n2=1
  ·refine YM rfl rfl rfl O (Z ?_);refine Zq rfl rfl (.inr (.inr (.inr rfl))) (v:=.int .i32 (-11)) rfl (Z ?_);refine Zt Ve (vs:=[ptr c.M,.int .i32 (-11)]) rfl (sH ok Ve dJ nF true (λe=>by simp at e) (by rfl)) ?_;rintro v _ ⟨⟨z,rfl⟩,rfl⟩;exact N3
  refine Yj rfl rfl rfl O (Z ?_);refine Zt Ve (vs:=[ptr c.M,.int .i32 (-7)]) rfl (sH ok Ve dJ nF false (λ_=>h1) (by rfl)) ?_;rintro v _ ⟨⟨z,rfl⟩,rfl⟩;exact N3):G:=h
def N3(h:G:=by refine Z ?_;refine Zt Yu (vs:=[]) rfl (sG ok Yu (by rfl)) ?_;rintro v _ ⟨rfl,rfl⟩;refine Z ?_;refine VO rfl (U4 ok Ov rfl (.inl rfl) (.inl (by simp[Hp.tagged,cd]))) ?_;rintro v _ ⟨rfl,rfl⟩;refine Z ?_;refine Zt YU (vs:=[ptr c.M]) rfl (sI ok YU rfl) ?_;rintro v _ ⟨rfl,l,Hl,h1,h2,h3,h4,h5,rfl⟩;refine Z ?_;exact⟨l,Hl,h1,h2,h3,h4,h5,rfl⟩):G:=h
def N2(h:G:=by
  refine Z ?_;refine Z ?_;refine Zq rfl rfl (.inl rfl) hB.iI (Z ?_);refine Yj rfl rfl rfl O (Z ?_);by_cases qP:nP=0
  ·refine Ye rfl rfl rfl qP (Z ?_);refine YM rfl rfl rfl qP (Z ?_);refine Zt sQ (vs:=[]) rfl (EO ok sQ F9 (by simp[Hp.tagged,cd])) ?_;rintro v _ ⟨⟨z1,rfl⟩,rfl⟩;refine Z ?_;refine Zt sR (vs:=[.pointer (some ((cC c.M).add 1)),_,.int .i64 2]) rfl (EP ok sR rfl (by rfl)) ?_;rintro v _ ⟨rfl,rfl⟩;refine Z ?_;refine Zt sQ (vs:=[]) rfl (EO ok sQ F9 (by simp[Hp.tagged,cd])) ?_;rintro v _ ⟨⟨z2,rfl⟩,rfl⟩;refine Z ?_;refine Zq rfl rfl (.inr (.inr (.inr rfl))) rfl (Z ?_);refine Yk rfl rfl rfl ?_;intro b3 _;refine Z ?_;cases b3
   ·refine Z ?_;refine Vr rfl (xQ (M:=m) ok kL rfl (by rfl)) ?_;rintro v _ (⟨L2,n2,m2,dJ,rfl,rfl,hm⟩ | ⟨n2,dJ,nF,rfl,rfl⟩)
    ·refine Z ?_;refine Zq rfl rfl (.inl rfl) dJ.eR (Z ?_);refine Ye rfl rfl rfl (by simp) (Z ?_);exact⟨⟨true,false,0,z1,L2,1,0,n2,m2⟩,by simp only;omega,⟨dJ,by simp only;omega,λe=>by simp at e,λ_=>⟨rfl,rfl,rfl⟩⟩,V,trivial,rfl⟩
    refine Z ?_;refine Zq rfl rfl (.inl rfl) dJ.eR (Z ?_);refine Y7 rfl rfl rfl (by simp) (Z ?_);refine Zq rfl rfl (.inl rfl) dJ.lD (Z ?_);refine Ye rfl rfl rfl (by simp) (Z ?_);refine Vz rfl rfl (.inl rfl) (by decide) dJ.gT (Z ?_);refine Yj rfl rfl rfl O (Z ?_);refine Zq rfl rfl (.inr (.inr (.inr rfl))) (v:=.int .i32 (-11)) rfl (Z ?_);refine Zt Ve (vs:=[ptr c.M,.int .i32 (-11)]) rfl (sH ok Ve dJ nF true (λe=>by simp at e) (by rfl)) ?_;rintro v _ ⟨⟨z,rfl⟩,rfl⟩;refine Z ?_;refine Zt Yu (vs:=[]) rfl (sG ok Yu (by rfl)) ?_;rintro v _ ⟨rfl,rfl⟩;refine Z ?_;refine VO rfl (U4 ok Ov rfl (.inl rfl) (.inl (by simp[Hp.tagged,cd]))) ?_;rintro v _ ⟨rfl,rfl⟩;refine Z ?_;refine Zt YU (vs:=[ptr c.M]) rfl (sI ok YU rfl) ?_;rintro v _ ⟨rfl,l,Hl,h1,h2,h3,h4,h5,rfl⟩;refine Z ?_;exact⟨l,Hl,h1,h2,h3,h4,h5,rfl⟩
   refine Z ?_;refine Vr rfl (xQ (M:=m) ok kL rfl (by rfl)) ?_;rintro v _ (⟨L2,n2,m2,dJ,rfl,rfl,hm⟩ | ⟨n2,dJ,nF,rfl,rfl⟩)
   ·refine Z ?_;refine Zq rfl rfl (.inl rfl) dJ.eR (Z ?_);refine Ye rfl rfl rfl (by simp) (Z ?_);exact⟨⟨true,true,0,z1,L2,1,0,n2,m2⟩,by simp only;omega,⟨dJ,by simp only;omega,λe=>by simp at e,λ_=>⟨rfl,rfl,rfl⟩⟩,V,trivial,rfl⟩
   refine Z ?_;refine Zq rfl rfl (.inl rfl) dJ.eR (Z ?_);refine Y7 rfl rfl rfl (by simp) (Z ?_);refine Zq rfl rfl (.inl rfl) dJ.lD (Z ?_);refine Ye rfl rfl rfl (by simp) (Z ?_);refine Vz rfl rfl (.inl rfl) (by decide) dJ.gT (Z ?_);refine Yj rfl rfl rfl O (Z ?_);refine Vz rfl rfl (.inl rfl) (by decide) dJ.gT (Z ?_);by_cases h1:n2=1
   ·refine YM rfl rfl rfl O (Z ?_);refine Zq rfl rfl (.inr (.inr (.inr rfl))) (v:=.int .i32 (-11)) rfl (Z ?_);refine Zt Ve (vs:=[ptr c.M,.int .i32 (-11)]) rfl (sH ok Ve dJ nF true (λe=>by simp at e) (by rfl)) ?_;rintro v _ ⟨⟨z,rfl⟩,rfl⟩;refine Z ?_;refine Zt Yu (vs:=[]) rfl (sG ok Yu (by rfl)) ?_;rintro v _ ⟨rfl,rfl⟩;refine Z ?_;refine VO rfl (U4 ok Ov rfl (.inl rfl) (.inl (by simp[Hp.tagged,cd]))) ?_;rintro v _ ⟨rfl,rfl⟩;refine Z ?_;refine Zt YU (vs:=[ptr c.M]) rfl (sI ok YU rfl) ?_;rintro v _ ⟨rfl,l,Hl,h1,h2,h3,h4,h5,rfl⟩;refine Z ?_;exact⟨l,Hl,h1,h2,h3,h4,h5,rfl⟩
   refine Yj rfl rfl rfl O (Z ?_);refine Zt Ve (vs:=[ptr c.M,.int .i32 (-7)]) rfl (sH ok Ve dJ nF false (λ_=>h1) (by rfl)) ?_;rintro v _ ⟨⟨z,rfl⟩,rfl⟩;refine Z ?_;refine Zt Yu (vs:=[]) rfl (sG ok Yu (by rfl)) ?_;rintro v _ ⟨rfl,rfl⟩;refine Z ?_;refine VO rfl (U4 ok Ov rfl (.inl rfl) (.inl (by simp[Hp.tagged,cd]))) ?_;rintro v _ ⟨rfl,rfl⟩;refine Z ?_;refine Zt YU (vs:=[ptr c.M]) rfl (sI ok YU rfl) ?_;rintro v _ ⟨rfl,l,Hl,h1,h2,h3,h4,h5,rfl⟩;refine Z ?_;exact⟨l,Hl,h1,h2,h3,h4,h5,rfl⟩
  refine Y7 rfl rfl rfl qP (Z ?_);refine Yj rfl rfl rfl qP (Z ?_);refine Zt sR (vs:=[.pointer (some ((cC c.M).add 1)),_,.int .i64 2]) rfl (EP ok sR rfl (by rfl)) ?_;rintro v _ ⟨rfl,rfl⟩;refine Z ?_;refine Zt sQ (vs:=[]) rfl (EO ok sQ F9 (by simp[Hp.tagged,cd])) ?_;rintro v _ ⟨⟨z2,rfl⟩,rfl⟩;refine Z ?_;refine Zq rfl rfl (.inr (.inr (.inr rfl))) rfl (Z ?_);refine Yk rfl rfl rfl ?_;intro b3 _;refine Z ?_;cases b3
  ·refine Z ?_;refine Vr rfl (xQ (M:=m) ok kL rfl (by rfl)) ?_;rintro v _ (⟨L2,n2,m2,dJ,rfl,rfl,hm⟩ | ⟨n2,dJ,nF,rfl,rfl⟩)
   ·refine Z ?_;refine Zq rfl rfl (.inl rfl) dJ.eR (Z ?_);refine Ye rfl rfl rfl (by simp) (Z ?_);exact⟨⟨true,false,0,nP,L2,1,0,n2,m2⟩,by simp only;omega,⟨dJ,by simp only;omega,λe=>by simp at e,λ_=>⟨rfl,rfl,rfl⟩⟩,V,trivial,rfl⟩
   refine Z ?_;refine Zq rfl rfl (.inl rfl) dJ.eR (Z ?_);refine Y7 rfl rfl rfl (by simp) (Z ?_);refine Zq rfl rfl (.inl rfl) dJ.lD (Z ?_);refine Ye rfl rfl rfl (by simp) (Z ?_);refine Vz rfl rfl (.inl rfl) (by decide) dJ.gT (Z ?_);refine Yj rfl rfl rfl O (Z ?_);refine Zq rfl rfl (.inr (.inr (.inr rfl))) (v:=.int .i32 (-11)) rfl (Z ?_);refine Zt Ve (vs:=[ptr c.M,.int .i32 (-11)]) rfl (sH ok Ve dJ nF true (λe=>by simp at e) (by rfl)) ?_;rintro v _ ⟨⟨z,rfl⟩,rfl⟩;refine Z ?_;refine Zt Yu (vs:=[]) rfl (sG ok Yu (by rfl)) ?_;rintro v _ ⟨rfl,rfl⟩;refine Z ?_;refine VO rfl (U4 ok Ov rfl (.inl rfl) (.inl (by simp[Hp.tagged,cd]))) ?_;rintro v _ ⟨rfl,rfl⟩;refine Z ?_;refine Zt YU (vs:=[ptr c.M]) rfl (sI ok YU rfl) ?_;rintro v _ ⟨rfl,l,Hl,h1,h2,h3,h4,h5,rfl⟩;refine Z ?_;exact⟨l,Hl,h1,h2,h3,h4,h5,rfl⟩
  refine Z ?_;refine Vr rfl (xQ (M:=m) ok kL rfl (by rfl)) ?_;rintro v _ (⟨L2,n2,m2,dJ,rfl,rfl,hm⟩ | ⟨n2,dJ,nF,rfl,rfl⟩)
  ·refine Z ?_;refine Zq rfl rfl (.inl rfl) dJ.eR (Z ?_);refine Ye rfl rfl rfl (by simp) (Z ?_);exact⟨⟨true,true,0,nP,L2,1,0,n2,m2⟩,by simp only;omega,⟨dJ,by simp only;omega,λe=>by simp at e,λ_=>⟨rfl,rfl,rfl⟩⟩,V,trivial,rfl⟩
  refine Z ?_;refine Zq rfl rfl (.inl rfl) dJ.eR (Z ?_);refine Y7 rfl rfl rfl (by simp) (Z ?_);refine Zq rfl rfl (.inl rfl) dJ.lD (Z ?_);refine Ye rfl rfl rfl (by simp) (Z ?_);refine Vz rfl rfl (.inl rfl) (by decide) dJ.gT (Z ?_);refine Yj rfl rfl rfl O (Z ?_);refine Vz rfl rfl (.inl rfl) (by decide) dJ.gT (Z ?_);by_cases h1:n2=1
  ·refine YM rfl rfl rfl O (Z ?_);refine Zq rfl rfl (.inr (.inr (.inr rfl))) (v:=.int .i32 (-11)) rfl (Z ?_);refine Zt Ve (vs:=[ptr c.M,.int .i32 (-11)]) rfl (sH ok Ve dJ nF true (λe=>by simp at e) (by rfl)) ?_;rintro v _ ⟨⟨z,rfl⟩,rfl⟩;refine Z ?_;refine Zt Yu (vs:=[]) rfl (sG ok Yu (by rfl)) ?_;rintro v _ ⟨rfl,rfl⟩;refine Z ?_;refine VO rfl (U4 ok Ov rfl (.inl rfl) (.inl (by simp[Hp.tagged,cd]))) ?_;rintro v _ ⟨rfl,rfl⟩;refine Z ?_;refine Zt YU (vs:=[ptr c.M]) rfl (sI ok YU rfl) ?_;rintro v _ ⟨rfl,l,Hl,h1,h2,h3,h4,h5,rfl⟩;refine Z ?_;exact⟨l,Hl,h1,h2,h3,h4,h5,rfl⟩
  refine Yj rfl rfl rfl O (Z ?_);refine Zt Ve (vs:=[ptr c.M,.int .i32 (-7)]) rfl (sH ok Ve dJ nF false (λ_=>h1) (by rfl)) ?_;rintro v _ ⟨⟨z,rfl⟩,rfl⟩;refine Z ?_;refine Zt Yu (vs:=[]) rfl (sG ok Yu (by rfl)) ?_;rintro v _ ⟨rfl,rfl⟩;refine Z ?_;refine VO rfl (U4 ok Ov rfl (.inl rfl) (.inl (by simp[Hp.tagged,cd]))) ?_;rintro v _ ⟨rfl,rfl⟩;refine Z ?_;refine Zt YU (vs:=[ptr c.M]) rfl (sI ok YU rfl) ?_;rintro v _ ⟨rfl,l,Hl,h1,h2,h3,h4,h5,rfl⟩;refine Z ?_;exact⟨l,Hl,h1,h2,h3,h4,h5,rfl⟩):G:=h
structure LkI where
 aw:Bool
 st:Bool
 it:Int
 ws:Int
 L:Nat
 W:Nat
 S:Nat
 n:Nat
 m:Nat
def yS{P:PQ}{α:Type}{a:α}{Q:α->Bool->Hp->Prop}{H:Hp}(h:Q a g H):bD P (pure a) Q g H:=h
def Po{P:PQ}{it:Int}{Q:Value->Bool->Hp->Prop}{H:Hp}(e:P.still H.gh=false)(h:∀b:Bool,(b=true->it<4)->Q (.bool b) g H):bD P (Extern.Sync.canSpin #[.int .i64 it]) Q g H:=by
 rw[Go.Conc.canSpin_eq];split
 ·exact h false (by simp)
 rename_i j;have a:it<4:=O;rw[Ze];have key:∀(t:Nat),bD P (pure (.bool (decide (t=1)))) Q g H:=λt=>h _ λ_=>a;show bD P (.choose _ _) _ g H;simp only[bD];split
 ·exact key _
 exact⟨e,λt=>key _⟩
section
variable{P:aY}{d:Option Nat}{next:aL->Hp->Prop}{σ:aL}{H:Hp}{x y:Operand}
def PJ{m n r:Int}(a:σ.get x=some (.int .i32 m))(e:σ.get y=some (.int .i32 n))(j:IntKind.i32.wrap (m+n)=r)(h:next (σ.set d (.int .i32 r)) H):(aR.bC .add x y).m P d next σ H:=
 Yk a e rfl (by subst j;exact h)
end
section
variable{c:Cx}{i:Nat}
def ZuD(ok:c.Ok)(H:Hp)(F:H.gh=[3]):LL.Za (pw c i) 211 #[ptr c.M] H λ_ k=>HA c i H k:=by
 refine aI.m (P:=pw c i) Zxm rfl ?_;unfold Gv;refine Z ?_;refine Vr rfl (EL (M:=0) ok kL rfl (.inl F)) ?_;rintro v _ ⟨C,E,D,I,m0,u,rfl,rfl,_,_⟩;refine Z ?_;refine B7 (λ(j:LkI) k=>bU j.L j.W j.S j.n/\(0<=j.it/\j.it<=4)/\(j.aw=false->j.st=false/\k=H.tagged [4,bF j.L j.W j.S j.n,j.m])/\(j.aw=true->j.W=1/\j.S=0/\k=H.tagged [6,bF j.L j.W j.S j.n,j.m]))
  (λj=>j.m * 8+(5-j.it).toNat) (λj=>[(0,ptr c.M),(2,.int .i64 j.ws),(3,.bool j.st),(4,.bool j.aw),(5,.int .i64 j.it),(6,.int .i32 (bF j.L j.W j.S j.n:Nat))]) (λ_=>[]) ⟨false,false,0,0,C,E,D,I,m0⟩
  ⟨u,by simp,λ_=>⟨rfl,rfl⟩,λe=>by simp at e⟩ V trivial ?_
 rintro⟨s,st,it,nP,L,W,S,n,m⟩ k ⟨hB,A,p,q⟩;simp only at hB A p q;refine Z ?_;refine Zq rfl rfl (.inl rfl) hB.iI (Z ?_);have t:True:=trivial;cases s with
 | false=>
  obtain⟨rfl,rfl⟩:=p rfl;by_cases z:L=1/\S=0
  ·obtain⟨rfl,rfl⟩:=z;refine YM rfl rfl rfl (by simp) (Z ?_);refine OX X7 (vs:=[.int .i64 it]) rfl (Po rfl ?_);intro b hb;cases b
   ·refine Z ?_;refine Zq rfl rfl (.inl rfl) hB.eR (Z ?_);refine YM rfl rfl rfl (by simp) (Z ?_);refine Zq rfl rfl (.inr (.inl rfl)) hB.vY (Z ?_);refine Zq rfl rfl (.inl rfl) hB.iI (Z ?_);refine Y7 rfl rfl rfl (by simp) (Z ?_);refine PJ rfl rfl hB.pG (Z ?_);refine Zt YT (vs:=[ptr c.M,.int .i32 (bF 1 W 0 n:Nat),.int .i32 (bF 1 W 0 (n+1):Nat)]) rfl (TR (M:=m) ok YT hB O (by rfl)) ?_;rintro v _ (⟨rfl,rfl⟩ | ⟨rfl,rfl⟩)
    ·exact N2
    exact N5
   have r:=hb rfl;refine Z ?_;refine Zq rfl rfl (.inl rfl) hB.lE (Z ?_);rcases nU hB.W with rfl | rfl
   ·refine YM rfl rfl rfl (by simp) (Z ?_);refine Vz rfl rfl (.inl rfl) (by decide) hB.gT (Z ?_);by_cases B:n=0
    ·refine Ye rfl rfl rfl (by simpa using B) ?_;exact Jz
    refine Y7 rfl rfl rfl (by simpa using B) (Z ?_);refine Zq rfl rfl (.inr (.inl rfl)) hB.or2 (Z ?_);refine Zt YT (vs:=[ptr c.M,.int .i32 (bF 1 0 0 n:Nat),.int .i32 (bF 1 1 0 n:Nat)]) rfl (ZzY (M:=m) ok YT hB (by rfl)) ?_;rintro v _ (⟨rfl,rfl⟩ | ⟨rfl,rfl⟩)
    ·refine Z ?_;refine Z ?_;refine OX DT (vs:=[]) rfl ?_;refine(yS ?_);refine Z ?_;refine Yk rfl rfl rfl ⟨by unfold kQ;simp only;omega,?_⟩;refine Z ?_;refine Vr rfl (EM (M:=m) ok kL rfl (.inl rfl)) ?_;rintro v _ ⟨L2,n2,m2,dJ,rfl,rfl,hm,_⟩;have hm:=hm rfl;refine Z ?_;exact⟨⟨true,false,(it+1),nP,L2,1,0,n2,m2⟩,by simp only;omega,⟨dJ,by simp only;omega,λe=>by simp at e,λ_=>⟨rfl,rfl,rfl⟩⟩,V,trivial,rfl⟩
    refine Z ?_;refine Z ?_;refine OX DT (vs:=[]) rfl ?_;refine(yS ?_);refine Z ?_;refine Yk rfl rfl rfl ⟨by unfold kQ;simp only;omega,?_⟩;refine Z ?_;refine Vr rfl (EL (M:=m) ok kL rfl (.inr (.inl rfl))) ?_;rintro v _ ⟨L2,W2,S2,n2,m2,dJ,rfl,rfl,hm,_⟩;have hm:=hm rfl;refine Z ?_;exact⟨⟨false,false,(it+1),nP,L2,W2,S2,n2,m2⟩,by simp only;omega,⟨dJ,by simp only;omega,λ_=>⟨rfl,rfl⟩,λe=>by simp at e⟩,V,trivial,rfl⟩
   refine Yj rfl rfl rfl (by simp) ?_;exact Jz
  refine Yj rfl rfl rfl O (Z ?_);rcases nU hB.S with rfl | rfl
  ·have w:L=0:=by have:=hB.L;omega
   subst w;refine Zq rfl rfl (.inl rfl) hB.eR (Z ?_);refine YM rfl rfl rfl (by simp) (Z ?_);refine Zq rfl rfl (.inr (.inl rfl)) hB.vY (Z ?_);refine Zq rfl rfl (.inl rfl) hB.iI (Z ?_);refine Ye rfl rfl rfl (by simp) (Z ?_);refine Zt YT (vs:=[ptr c.M,.int .i32 (bF 0 W 0 n:Nat),.int .i32 (bF 1 W 0 n:Nat)]) rfl (ZzX (M:=m) ok YT hB (by rfl)) ?_;rintro v _ (⟨rfl,rfl⟩ | ⟨rfl,rfl⟩)
   ·exact N6
   exact N5
  refine Zq rfl rfl (.inl rfl) hB.eR (Z ?_);refine Yj rfl rfl rfl (by simp) (Z ?_);refine Zq rfl rfl (.inl rfl) hB.iI (Z ?_);refine Y7 rfl rfl rfl O (Z ?_);refine PJ rfl rfl hB.pG (Z ?_);refine Zt YT (vs:=[ptr c.M,.int .i32 (bF L W 1 n:Nat),.int .i32 (bF L W 1 (n+1):Nat)]) rfl (TR (M:=m) ok YT hB O (by rfl)) ?_;rintro v _ (⟨rfl,rfl⟩ | ⟨rfl,rfl⟩)
  ·exact N2
  exact N5
 | true=>
  obtain⟨rfl,rfl,rfl⟩:=q rfl;rcases nU hB.L with rfl | rfl
  ·refine Yj rfl rfl rfl (by simp) (Z ?_);refine Zq rfl rfl (.inl rfl) hB.eR (Z ?_);refine YM rfl rfl rfl (by simp) (Z ?_);refine Zq rfl rfl (.inr (.inl rfl)) hB.vY (Z ?_);refine Zq rfl rfl (.inl rfl) hB.iI (Z ?_);have a:bU 1 1 0 n:=⟨O,O,O,hB.n⟩;refine Ye rfl rfl rfl (by simp) ?_;cases st
   ·refine Z ?_;refine Zq rfl rfl (.inl rfl) a.lE (Z ?_);refine Yj rfl rfl rfl (by simp) (Z ?_);refine Zq rfl rfl (.inr (.inr (.inl rfl))) a.m6 (Z ?_);refine Zt YT (vs:=[ptr c.M,.int .i32 (bF 0 1 0 n:Nat),.int .i32 (bF 1 0 0 n:Nat)]) rfl (TT (M:=m) ok YT hB (by rfl)) ?_;rintro v _ (⟨rfl,rfl⟩ | ⟨rfl,rfl⟩)
    ·exact N6
    exact Ka
   refine Z ?_;refine Zq rfl rfl (.inl rfl) hB.and1 (Z ?_);refine Ye rfl rfl rfl (by simp) (Z ?_);refine Zq rfl rfl (.inl rfl) a.lE (Z ?_);refine Yj rfl rfl rfl (by simp) (Z ?_);refine Zq rfl rfl (.inr (.inr (.inl rfl))) a.m6 (Z ?_);refine Zt YT (vs:=[ptr c.M,.int .i32 (bF 0 1 0 n:Nat),.int .i32 (bF 1 0 0 n:Nat)]) rfl (TT (M:=m) ok YT hB (by rfl)) ?_;rintro v _ (⟨rfl,rfl⟩ | ⟨rfl,rfl⟩)
   ·exact N6
   exact Kb
  refine YM rfl rfl rfl (by simp) (Z ?_);refine OX X7 (vs:=[.int .i64 it]) rfl (Po rfl ?_);intro b hb;cases b
  ·refine Z ?_;refine Zq rfl rfl (.inl rfl) hB.eR (Z ?_);refine YM rfl rfl rfl (by simp) (Z ?_);refine Zq rfl rfl (.inr (.inl rfl)) hB.vY (Z ?_);refine Zq rfl rfl (.inl rfl) hB.iI (Z ?_);have a:bU 1 1 0 n:=⟨O,O,O,hB.n⟩;refine Y7 rfl rfl rfl (by simp) (Z ?_);refine PJ rfl rfl hB.pG ?_;have h:Y2 1 1 0 (n+1):=⟨O,O,O,by have:=hB.n;omega⟩;have o:Y2 1 1 1 (n+1):=⟨O,O,O,by have:=hB.n;omega⟩;cases st
   ·refine Z ?_;refine Zq rfl rfl (.inl rfl) h.lE (Z ?_);refine Yj rfl rfl rfl (by simp) (Z ?_);refine Zq rfl rfl (.inr (.inr (.inl rfl))) h.m6 (Z ?_);refine Zt YT (vs:=[ptr c.M,.int .i32 (bF 1 1 0 n:Nat),.int .i32 (bF 1 0 0 (n+1):Nat)]) rfl (TS (M:=m) ok YT false hB (by rfl)) ?_;rintro v _ (⟨rfl,rfl⟩ | ⟨rfl,rfl⟩)
    ·exact N2
    exact Ka
   refine Z ?_;refine Zq rfl rfl (.inl rfl) hB.and1 (Z ?_);refine Y7 rfl rfl rfl (by simp) (Z ?_);refine Zq rfl rfl (.inr (.inl rfl)) h.Wl (Z ?_);refine Zq rfl rfl (.inl rfl) o.lE (Z ?_);refine Yj rfl rfl rfl (by simp) (Z ?_);refine Zq rfl rfl (.inr (.inr (.inl rfl))) o.m6 (Z ?_);refine Zt YT (vs:=[ptr c.M,.int .i32 (bF 1 1 0 n:Nat),.int .i32 (bF 1 0 1 (n+1):Nat)]) rfl (TS (M:=m) ok YT true hB (by rfl)) ?_;rintro v _ (⟨rfl,rfl⟩ | ⟨rfl,rfl⟩)
   ·refine Z ?_;refine Z ?_;refine Zq rfl rfl (.inl rfl) hB.iI (Z ?_);refine Yj rfl rfl rfl O (Z ?_);by_cases qP:nP=0
    ·refine Ye rfl rfl rfl qP (Z ?_);refine YM rfl rfl rfl qP (Z ?_);refine Zt sQ (vs:=[]) rfl (EO ok sQ F9 (by simp[Hp.tagged,cd])) ?_;rintro v _ ⟨⟨z1,rfl⟩,rfl⟩;refine Z ?_;refine Zt sR (vs:=[.pointer (some ((cC c.M).add 1)),_,.int .i64 2]) rfl (EP ok sR rfl (by rfl)) ?_;rintro v _ ⟨rfl,rfl⟩;refine Z ?_;refine Vr rfl (xQ (M:=m) ok kL rfl (by rfl)) ?_;rintro v _ (⟨L2,n2,m2,dJ,rfl,rfl,hm⟩ | ⟨n2,dJ,nF,rfl,rfl⟩)
     ·refine Z ?_;refine Zq rfl rfl (.inl rfl) dJ.eR (Z ?_);refine Ye rfl rfl rfl (by simp) (Z ?_);exact⟨⟨true,true,0,z1,L2,1,0,n2,m2⟩,by simp only;omega,⟨dJ,by simp only;omega,λe=>by simp at e,λ_=>⟨rfl,rfl,rfl⟩⟩,V,trivial,rfl⟩
     exact Jy
    refine Y7 rfl rfl rfl qP (Z ?_);refine Yj rfl rfl rfl qP (Z ?_);refine Zt sR (vs:=[.pointer (some ((cC c.M).add 1)),_,.int .i64 2]) rfl (EP ok sR rfl (by rfl)) ?_;rintro v _ ⟨rfl,rfl⟩;refine Z ?_;refine Vr rfl (xQ (M:=m) ok kL rfl (by rfl)) ?_;rintro v _ (⟨L2,n2,m2,dJ,rfl,rfl,hm⟩ | ⟨n2,dJ,nF,rfl,rfl⟩)
    ·refine Z ?_;refine Zq rfl rfl (.inl rfl) dJ.eR (Z ?_);refine Ye rfl rfl rfl (by simp) (Z ?_);exact⟨⟨true,true,0,nP,L2,1,0,n2,m2⟩,by simp only;omega,⟨dJ,by simp only;omega,λe=>by simp at e,λ_=>⟨rfl,rfl,rfl⟩⟩,V,trivial,rfl⟩
    exact Jy
   exact Kb
  have r:=hb rfl;refine Z ?_;refine Z ?_;refine OX DT (vs:=[]) rfl ?_;refine(yS ?_);refine Z ?_;refine Yk rfl rfl rfl ⟨by unfold kQ;simp only;omega,?_⟩;refine Z ?_;refine Vr rfl (EM (M:=m) ok kL rfl (.inr ⟨_,rfl⟩)) ?_;rintro v _ ⟨L2,n2,m2,dJ,rfl,rfl,_,hm⟩;have hm:=hm ⟨_,rfl⟩;refine Z ?_;exact⟨⟨true,st,(it+1),nP,L2,1,0,n2,m2⟩,by simp only;omega,⟨dJ,by simp only;omega,λe=>by simp at e,λ_=>⟨rfl,rfl,rfl⟩⟩,V,trivial,rfl⟩
end
end
end Go.Proofs
end
section
open Go Go.LL
namespace Go.LL
section
variable{ty:TypeId}{n v wt:Nat}{f:FuncId}{vs:List Value}{K:Hp->Prop}{ds:List Deferred}
section
variable{P:aY}{d:Option Nat}{next:aL->Hp->Prop}{σ:aL}{H:Hp}{x y:Operand}
def Oi{t a:TypeId}{k j:IntKind}{n r:Int}(o:(P.underlying t).isSome=true)(p:P.underlying a=some (.int j))(e:σ.get x=some (.int k n))(s:j.wrap n=r)(h:next (σ.set d (.int j r)) H):(aR.raw (.convert t a x) ty).m P d next σ H:=by
 obtain⟨u,q⟩:=qBT.mp o;refine⟨by simp[Op.operands,e],.inl ?_⟩;have:execOp (λx=>(σ.get x).getD undef) (aN (.convert t a x) ty)=(do pure (.value (<-convert t a (.int k n))):Sem Next):=by simp[execOp,aN,e]
 rw[this,Ze];simp only[convert,Ze,ZA q,ZA p,Conv.intToInt];subst s;exact .inr h
def GC{a:Array Operand}{j:Array TypeId}(p:σ.dM a.toList=some vs)(h:next ({ σ with bN:={ target:=.fn (.func f) #[],args:=vs.toArray } :: σ.bN }.set d undef) H) :
  (aR.raw (.defer { callee:=.value (.func f),args:=a,argTypes:=j }) ty).m P d next σ H:=by
 obtain⟨k,o⟩:=Oq p;refine⟨MQ o,.inl ?_⟩;have:execOp (λx=>(σ.get x).getD undef) (aN (.defer { callee:=.value (.func f),args:=a,argTypes:=j }) ty)=pure (.defer { target:=.fn (.func f) #[],args:=vs.toArray }):=by obtain⟨a⟩:=a;have e:(σ.get (.func f)).getD undef=.func (.func f) #[] #[]:=rfl;simp[execOp,aN,resolve,Deferred.ofValue,e,qBq,k]
 rw[this];exact .inr ⟨rfl,rfl,h⟩
def GP{a:List Zc}{Post:Value->Hp->Prop}(j:a.any Zc.cell=false)(k:Og σ a=some vs)(h:Ut P σ.bN (Post (Yn vs)) H):VY P a Post σ H:=by unfold VY vN;exact Ut.imp (λH h=>⟨λe=>by rw[j]at e;simp at e,vs,FE k,h⟩) h
def Kh{vs:Array Value}(e:OC P.toProgram (callFunc f vs))(h:Zp P (callFunc f vs) false false H λ_ a=>Ut P ds K a):Ut P ({ target:=.fn (.func f) #[],args:=vs } :: ds) K H:=by
 refine⟨rfl,.inr ?_⟩;have:invoke (.fn (.func f) #[]) vs=callFunc f vs:=by simp[invoke]
 rw[this];exact⟨e,h⟩
def PG{fn:Func}{vs:Array Value}(j:P.funcs[f]? = some fn)(hb:fn.body.isSome=true)(k:(fn.name == "runtime.NumGoroutine")=false)(h:Vj P .deferred f vs H λ_ e=>Ut P ds K e) :
  Ut P ({ target:=.fn (.func f) #[],args:=vs } :: ds) K H:=by
 refine⟨rfl,.inl ?_⟩;have a:fn.body.isNone=false:=by simpa using hb
 have:invoke (.fn (.func f) #[]) vs=callFunc f vs:=by simp[invoke]
 rw[this];simp only[callFunc,Ze,Vu,j,k,a,dO,qAf];exact h
end
def ZzF(v wt m:Nat)(a:wt<4294967296)(e:m<4294967296):eZ v wt &&& m=wt &&& m:=by
 refine qCi λi=>?_;rw[qBW,qBW,show eZ v wt=2 ^ 32 * v+wt by unfold eZ;omega,qBH _ (show wt<2 ^ 32 from a)];by_cases h:i<32
 ·simp[h]
 have:m.testBit i=false:=qCd (qAG e (by rw[show(4294967296:Nat)=2 ^ 32 from rfl];exact qAZ (by decide) O));simp[this]
def Kl(x:Nat)(a:x<18446744073709551616):(BitVec.ofInt 64 (x:Nat)).toNat=x:=by simp[qCp];omega
def Pj{m:Nat}(o:v<=100000002)(k:wt<=1)(j:m<4294967296):ZI .and .u64 (eZ v wt:Nat) (m:Nat)=.int .u64 ((wt &&& m:Nat):Int):=by
 have e:eZ v wt<18446744073709551616:=by unfold eZ;omega
 have a:m<18446744073709551616:=O;have h:wt &&& m<=wt:=Nat.and_le_left;show Value.int .u64 (IntKind.u64.wrap ((BitVec.ofInt 64 (eZ v wt:Nat) &&& BitVec.ofInt 64 (m:Nat)).toNat:Nat))=_;rw[qCh,Kl _ e,Kl _ a,ZzF v wt m O j,PW O O]
theorem G0(e:v<=100000002)(a:wt<=1):ZI .and .u64 (eZ v wt:Nat) 2147483648=.int .u64 (0:Nat):=by refine(Pj (m:=2147483648) e a (by decide)).trans ?_;rcases nU a with rfl | rfl<;>rfl
theorem PT(e:v<=100000002)(a:wt<=1):ZI .and .u64 (eZ v wt:Nat) 2147483647=.int .u64 (wt:Nat):=by refine(Pj (m:=2147483647) e a (by decide)).trans ?_;rcases nU a with rfl | rfl<;>rfl
def P9(a:wt<=1):ZI .shr .u64 (eZ v wt:Nat) 32=.int .u64 (v:Nat):=by show Value.int .u64 (Int.fdiv (eZ v wt:Nat) (2 ^ min (Int.toNat (32:Int)) 64))=_;have:(2:Int) ^ min (Int.toNat (32:Int)) 64=4294967296:=rfl;rw[this,qBL _ O];congr 1;unfold eZ;omega
def PX(h:n<=100000002):IntKind.i32.wrap (n:Nat)=(n:Nat):=uR O O
theorem PY(h:n<=1):IntKind.u32.wrap (n:Nat)=(n:Nat):=by rcases nU h with rfl | rfl<;>rfl
end
end Go.LL
end
open Go Go.LL
namespace Go.Proofs
section
variable{v:Value}
def ZuC{c:Cx}{i:Nat}(ok:c.Ok)(a:c.need i=true){H:Hp}(e:H.gh=[1]):LL.Za (pw c i) 106 #[ptr c.M] H λ_ j=>HA c i H j:=by refine aI.m (P:=pw c i) ZyC rfl ?_;unfold Ft;refine Z ?_;refine Zv (vs:=[ptr c.M]) rfl (ZuE ok a (λH e=>ZuD ok H e) e) ?_;rintro v j h;refine Z ?_;exact h
def u3:(Tryz.prog.underlying 3).isSome=true:=U
def Qm:Tryz.prog.underlying 189=some (.int .u64):=U
def xK:(Tryz.prog.underlying 189).isSome=true:=U
def CO:Tryz.prog.underlying 21=some (.int .i32):=U
def P0:Tryz.prog.underlying 182=some (.int .u32):=U
section
variable{P:aY}{H:Hp}{Post:Value->Hp->Prop}{b:Nat}
def Ph(a:P.toProgram=Tryz.prog)(h:Zp P (callFunc 207 #[ptr b,v]) true false H Post):LL.Za P 162 #[ptr b,v] H Post:=by refine aI.m (P:=P) (by rw[a];exact ZxJ) rfl ?_;unfold Ij;refine Z ?_;refine Zt (a ▸ LZ) (vs:=[ptr b,v]) rfl h ?_;intro v j e;refine Z ?_;exact e
def P8(a:P.toProgram=Tryz.prog)(h:Zp P (callFunc 208 #[ptr b]) true false H Post):LL.Za P 164 #[ptr b] H Post:=by refine aI.m (P:=P) (by rw[a];exact ZxI) rfl ?_;unfold Ik;refine Z ?_;refine Zt (a ▸ DS) (vs:=[ptr b]) rfl h ?_;intro v j e;refine Z ?_;exact e
def Zpc(e:P.toProgram=Tryz.prog)(h:Zp P (callFunc 209 #[ptr b,v]) true false H λ_ a=>Post Zz a):LL.Za P 165 #[ptr b,v] H Post:=by refine aI.m (P:=P) (by rw[e];exact ZxH) rfl ?_;unfold Il;refine Z ?_;refine Zt (e ▸ X5) (vs:=[ptr b,v]) rfl h ?_;intro v a j;refine Z ?_;exact j
def Zpb(a:P.toProgram=Tryz.prog){u:Value}(h:Zp P (callFunc 214 #[ptr b,u,v]) true false H Post):LL.Za P 172 #[ptr b,u,v] H Post:=by refine aI.m (P:=P) (by rw[a];exact ZxE) rfl ?_;unfold Iq;refine Z ?_;refine Zt (a ▸ X6) (vs:=[ptr b,u,v]) rfl h ?_;intro v j e;refine Z ?_;exact e
end
def Pg:OC Tryz.prog (callFunc 157 #[]):=λw=>⟨_,_,_,AX (by simp) Yu #[] w⟩
end
variable{kd:CallKind}{H:Hp}
section
variable{c:Cx}{i:Nat}
noncomputable abbrev pm(c:Cx):aY:=(aZ Tryz.prog c).prgM
theorem ZzO(ok:c.Ok)(w:kd=.normal\/kd=.deferred)(F:(cd H.gh=1/\¬ c.need i=true)\/cd H.gh=19):Vj (pw c i) kd 102 #[ptr c.W,.int .i64 (-1)] H λ_ k=>k=H.tagged (lv 0):=by
 have t:Ys H.gh:=.inl O;refine aI.mK (P:=pw c i) w WB rfl ?_;unfold LN;refine Z ?_;refine ZtD rfl rfl rfl (by decide) (Z ?_);refine VO rfl (U4 ok MW rfl (.inr rfl) t) ?_;rintro v p ⟨rfl,e⟩;rw[e];refine Z ?_;refine Zt DR (vs:=[ptr c.W]) rfl (ZzR ok DR F) ?_;rintro v _ ⟨rfl,rfl⟩;refine Z ?_;refine Zt U2 (vs:=[]) rfl (Zu8 ok U2 (by rfl)) ?_;rintro v _ ⟨rfl,rfl⟩;refine Z ?_;refine GC (vs:=[]) rfl (Z ?_);refine OX X0 (vs:=[]) rfl ?_;refine yS (Z ?_);refine Oi u3 Qm rfl (r:=18446744073709551615) rfl (Z ?_);refine Vz rfl rfl (.inr rfl) (by decide) (v:=.int .u64 18446744069414584320) rfl (Z ?_);refine Zv (vs:=[ptr c.W,.int .u64 18446744069414584320]) rfl (Ph rfl (Zu9 ok LZ (by rfl))) ?_;rintro v k ⟨n,wt,M,o,rfl,q⟩;refine Z ?_;refine Zq rfl rfl (.inl rfl) (G0 O o) (Z ?_);refine Ye rfl rfl rfl rfl (Z ?_);refine Vz rfl rfl (.inl rfl) (by decide) (P9 o) (Z ?_);refine Oi xK CO rfl (PX O) (Z ?_);refine Zq rfl rfl (.inl rfl) (PT O o) (Z ?_);refine Oi xK P0 rfl (PY o) (Z ?_);refine GG rfl rfl rfl (by decide) (Z ?_);refine GI rfl rfl rfl O (Z ?_);have m:∀{u:List Zc} {σ:aL} {p:Hp},p=H.tagged (lv 1)->σ.bN=[{ target:=.fn (.func 157) #[],args:=#[] }]->Og σ u=some []->u.any Zc.cell=false->VY (pw c i) u (λ_ k=>k=H.tagged (lv 0)) σ p:=by rintro u σ p rfl E I D;refine GP D I ?_;rw[E];refine Kh Pg ((Zuz Yu rfl).mono ?_);rintro v _ ⟨_,rfl⟩;rfl
 by_cases J:wt=0
 ·subst J;have s:k=H.tagged (lv 1):=by
   rcases q with⟨_,h⟩ | ⟨_,h,_⟩
   ·exact h
   simp at h
  refine Ye rfl rfl rfl rfl (Z ?_);by_cases z:n=0
  ·refine GG rfl rfl rfl O (Z ?_);refine YM rfl rfl rfl rfl (Z ?_);exact Ol (m s rfl rfl rfl)
  refine CB rfl rfl rfl O (Z ?_);exact Ol (m s rfl rfl rfl)
 have A:wt=1:=O;subst A;refine Y7 rfl rfl rfl (by simp) (Z ?_);refine GG rfl rfl rfl (by decide) (Z ?_);rcases q with⟨L,rfl⟩ | ⟨rfl,_,rfl⟩
 ·have z:n≠0:=O;refine CB rfl rfl rfl O (Z ?_);exact Ol (m rfl rfl rfl rfl)
 refine GG rfl rfl rfl (by decide) (Z ?_);refine Yj rfl rfl rfl (by decide) (Z ?_);refine Zv (vs:=[ptr c.W]) rfl (P8 rfl (Zu7 ok DS (by rfl))) ?_;rintro v _ ⟨rfl,rfl⟩;refine Z ?_;refine Ye rfl rfl rfl rfl (Z ?_);refine Zv (Post:=λv k=>v=Zz/\k=H.tagged [24]) (vs:=[ptr c.W,.int .u64 0]) rfl (Zpc rfl ((Zu5 ok X5 (by rfl)).mono λv H z=>⟨rfl,z.2⟩)) ?_;rintro v _ ⟨rfl,rfl⟩;refine Z ?_;refine B7 (λ(j:Nat) k=>(j=1/\k=H.tagged [24])\/(j=0/\k=H.tagged (lv 1))) id (λj=>[(0,ptr c.W),(8,.int .u32 (j:Nat))]) (λ_=>[]) 1 (.inl ⟨rfl,rfl⟩) V trivial ?_;rintro j p (⟨rfl,rfl⟩ | ⟨rfl,rfl⟩)
 ·refine Z ?_;refine Y7 rfl rfl rfl (by decide) (Z ?_);refine Zt X2 (vs:=[.pointer (some ((cC c.W).add 1)),.bool false,.int .i64 0]) rfl (Zu6 ok X2 rfl (by rfl)) ?_;rintro v _ ⟨rfl,rfl⟩;refine Z ?_;refine Zq rfl rfl (.inr (.inr (.inr rfl))) (v:=.int .u32 (0:Nat)) rfl (Z ?_);exact⟨0,by simp,.inr ⟨rfl,rfl⟩,V,trivial,rfl⟩
 refine Z ?_;refine Ye rfl rfl rfl rfl (Z ?_);exact yD (m rfl rfl rfl rfl)
theorem XZ(ok:c.Ok)(a:kd=.normal\/kd=.deferred)(h:(cd H.gh=1/\¬ c.need i=true)\/cd H.gh=19):Vj (pw c i) kd 104 #[ptr c.W] H λ_ e=>e=H.tagged (lv 0):=by refine aI.mK (P:=pw c i) a ZyE rfl ?_;unfold Fq;refine Z ?_;refine Zv (vs:=[ptr c.W,.int .i64 (-1)]) rfl (ZzO ok (.inl rfl) h).iW ?_;rintro v _ rfl;refine Z ?_;rfl
theorem ZzP(ok:c.Ok){n:Nat}(u:H.gh=[30,n]):LL.Za (pm c) 102 #[ptr c.W,.int .i64 1] H λ_ j=>j=H.tagged [33,n]:=by
 refine aI.m (P:=pm c) WB rfl ?_;unfold LN;refine Z ?_;refine GI rfl rfl rfl (by decide) (Z ?_);refine Zt U2 (vs:=[]) rfl (Zuu ok U2 u) ?_;rintro v _ ⟨rfl,rfl⟩;refine Z ?_;refine GC (vs:=[]) rfl (Z ?_);refine OX X0 (vs:=[]) rfl ?_;refine yS (Z ?_);refine Oi u3 Qm rfl (r:=1) rfl (Z ?_);refine Vz rfl rfl (.inr rfl) (by decide) (v:=.int .u64 4294967296) rfl (Z ?_);refine Zv (vs:=[ptr c.W,.int .u64 4294967296]) rfl (Ph rfl (Zuw ok LZ (n:=n) (by rfl))) ?_;rintro v _ ⟨k,z,rfl,rfl⟩;refine Z ?_;refine Zq rfl rfl (.inl rfl) (G0 O O) (Z ?_);refine Ye rfl rfl rfl rfl (Z ?_);refine Vz rfl rfl (.inl rfl) (by decide) (P9 O) (Z ?_);refine Oi xK CO rfl (PX O) (Z ?_);refine Zq rfl rfl (.inl rfl) (PT O O) (Z ?_);refine Oi xK P0 rfl (PY O) (Z ?_);refine CB rfl rfl rfl (by decide) (Z ?_);refine Oi u3 CO rfl (r:=1) rfl (Z ?_);have e:∀{h:List Zc} {σ:aL} {o:Hp},o=H.tagged [32,n]->σ.bN=[{ target:=.fn (.func 157) #[],args:=#[] }]->Og σ h=some []->h.any Zc.cell=false->VY (pm c) h (λ_ j=>j=H.tagged [33,n]) σ o:=by rintro h σ o rfl t w s;refine GP s w ?_;rw[t];refine Kh Pg ((Zus ok Yu rfl).mono ?_);rintro v _ ⟨_,rfl⟩;rfl
 by_cases q:k=0
 ·subst q;refine YM rfl rfl rfl rfl (Z ?_);refine VO rfl (DQ XX rfl (.inr rfl) (by simp[Hp.tagged,cd])) ?_;rintro v _ ⟨rfl,rfl⟩;refine Z ?_;refine Zt X1 (vs:=[.pointer (some ⟨c.W,1,none⟩)]) rfl (Bg ok (.inl rfl) X1 (.inl ⟨n,rfl⟩)) ?_;rintro v _ ⟨rfl,rfl⟩;refine Z ?_;refine GI rfl rfl rfl (by decide) (Z ?_);refine Ye rfl rfl rfl rfl (Z ?_);refine CB rfl rfl rfl (by decide) (Z ?_);exact Ol (e rfl rfl rfl rfl)
 refine Yj rfl rfl rfl O (Z ?_);refine GI rfl rfl rfl O (Z ?_);refine Ye rfl rfl rfl rfl (Z ?_);refine CB rfl rfl rfl O (Z ?_);exact Ol (e rfl rfl rfl rfl)
end
